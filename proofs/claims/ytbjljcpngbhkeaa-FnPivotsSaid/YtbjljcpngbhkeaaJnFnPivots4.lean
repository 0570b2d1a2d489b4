/- Texts of one claim (the words of the kit's print that the claim uses, printed functions, and this session's own texts), joined in the order of their imports by this session's own program (merge.py). -/
import Derived.SizedLaws
import Derived.ChangeSlices
import Derived.Deep.Slices
import Derived.Deep.Fields
import Derived.Lib.SmallJoins
import Derived.Test.YtbjljcpngbhkeaaRows
import Derived.WalkKit
import Derived.ProofKit
import Derived.OpenShut
import Derived.ShutString
import Derived.ChangeOld
import Derived.Below
import Derived.Test.YtbjljcpngbhkeaaJnFnPivots0
import Derived.Test.YtbjljcpngbhkeaaJnFnPivots1
import Derived.Test.YtbjljcpngbhkeaaJnFnPivots2
import Derived.Test.YtbjljcpngbhkeaaJnFnPivots3
set_option linter.unusedVariables false
set_option linter.unusedSimpArgs false
set_option maxHeartbeats 8000000
set_option maxRecDepth 100000
section
namespace Go.Proofs.Ytbjljcpngbhkeaa.Pr
open Go.RowKit Go.Proofs.YtbjljcpngbhkeaaW.PrintWords Go.Proofs.YtbjljcpngbhkeaaW.PrintLast Go.Proofs.YtbjljcpngbhkeaaW.PrintMore
attribute [local go_sem] max2_int min2_int max_two min_two max_three min_three max_four min_four
def impl_InverseOf.f (k:Nat) (ae:List (List Int)) (af:List Int):Option ((List (List Int)) × Int × Int):=(impl_IsProblem.f ae af).bind fun ag=>(if ag=true then((impl_Problem_all.f ae af).bind fun ah=>((impl_pivotOf.f k ae af (wrap64 (ah - 1))).bind fun aa=>(if aa.2.2.2=0 then(some (aa.2.1,aa.1,0)) else(some (([]:List (List Int)),0,aa.2.2.2))))) else(some (([]:List (List Int)),0,1)))
theorem impl_InverseOf.mono: ∀a0 a1 k,LeO (impl_InverseOf.f k a0 a1) (impl_InverseOf.f (k+1) a0 a1):=by
 intro a0 a1 k
 unfold impl_InverseOf.f
 repeat' first | (with_reducible first | exact impl_pivotOf.mono _ _ _ _ | exact LeO.refl _ | exact LeO.none _ | refine LeO.ite ?_ ?_ | refine LeO.bind ?_ (fun _=>?_)) | exact impl_pivotOf.mono _ _ _ _ | exact LeO.none _ | refine LeO.ite ?_ ?_ | refine LeO.bind ?_ (fun _=>?_)
def impl_InverseOf.T3:Bool × List (List Nat × List Nat):=(true, [([], []),([], []),([1], [1]),([2], [2]),([0,3,2], [0,3]),([4], [4]),([5], [5]),([5], [5]),([], []),([8,6,4,0,1,2,3,4,5,6,8], [6,8]),([7,9,0,1,2,3,4,5,6,7,8,9], [7])])
def impl_InverseOf.B3:List Nat:= [0,0,2,6,15,31,63,63,0,383,1023]
theorem impl_InverseOf.tab3:rtab .any (opsOf Try.f31 3)=impl_InverseOf.T3:=by kernel_rfl
theorem impl_InverseOf.bits3:waitsOk impl_InverseOf.T3.2 impl_InverseOf.B3=true:=by kernel_rfl
theorem impl_InverseOf.calls (k:Nat) (au:Option Addr) (av:Nat) (ah:List (List Int)) (aw:Option Addr) (ax:Nat) (ai:List Int) (r1:List (List Int)) (r2:Int) (r3:Int) (w:World) (a9:Kd.C (Kd.slice 2 (Kd.int .i64)) w au ah.length ah) (ba:ah.length≤av) (bf:Kd.C (Kd.int .i64) w aw ai.length ai) (bg:ai.length≤ax) (h:impl_InverseOf.f k ah ai=some (r1,r2,r3)):
  Calls Try.prog 31 #[.agg #[.slice au ah.length av, .slice aw ai.length ax]] w fun e w'=> ∃v0_:Value,e= .returned (.tuple #[v0_, .int .i64 r2, .int .i64 r3])∧Kd.S (Kd.slice 2 (Kd.int .i64)) 25 w' w.heap.size (fun _=>True) v0_ r1∧Below w.heap.size w w':=by
 have hu27:=Try.underlying27;have hu49:=Try.underlying49;have HR0_0:=q_ a9;have HC0_0:=q_ ba;clear a9 ba;have HR0_1:=q_ bf;have HC0_1:=q_ bg;clear bf bg;have HB:=q_ (Below.refl w.heap.size w);have H:((impl_IsProblem.f ah ai).bind fun aZ=>(if aZ=true then((impl_Problem_all.f ah ai).bind fun aG=>((impl_pivotOf.f k ah ai (wrap64 (aG - 1))).bind fun aI=>(if aI.2.2.2=0 then(some (aI.2.1,aI.1,0)) else(some (([]:List (List Int)),0,aI.2.2.2))))) else(some (([]:List (List Int)),0,1))))=some (r1,r2,r3):=h;clear h;replace H:=Option.bind_eq_some_iff.mp H;obtain⟨aZ,A20,H⟩:=H;replace H:(if aZ=true then((impl_Problem_all.f ah ai).bind fun aG=>((impl_pivotOf.f k ah ai (wrap64 (aG - 1))).bind fun aI=>(if aI.2.2.2=0 then(some (aI.2.1,aI.1,0)) else(some (([]:List (List Int)),0,aI.2.2.2))))) else(some (([]:List (List Int)),0,1)))=some (r1,r2,r3):=H;have A2:=q_ A20;clear A20
 by_cases c3:aZ=true
 ·subst c3;have H1:((impl_Problem_all.f ah ai).bind fun aG=>((impl_pivotOf.f k ah ai (wrap64 (aG - 1))).bind fun aI=>(if aI.2.2.2=0 then(some (aI.2.1,aI.1,0)) else(some (([]:List (List Int)),0,aI.2.2.2)))))=some (r1,r2,r3):=by rw [if_pos rfl] at H;exact H
  clear H;have H:=H1;clear H1;replace H:=Option.bind_eq_some_iff.mp H;obtain⟨aG,A40,H⟩:=H;replace H:((impl_pivotOf.f k ah ai (wrap64 (aG - 1))).bind fun aI=>(if aI.2.2.2=0 then(some (aI.2.1,aI.1,0)) else(some (([]:List (List Int)),0,aI.2.2.2))))=some (r1,r2,r3):=H;have A4:=q_ A40;clear A40;replace H:=Option.bind_eq_some_iff.mp H;obtain⟨⟨aH,aJ,aK,aM⟩,A50,H⟩:=H;replace H:(if aM=0 then(some (aJ,aH,0)) else(some (([]:List (List Int)),0,aM)))=some (r1,r2,r3):=H;have A5:=q_ A50;clear A50
  by_cases c6:aM=0
  ·rw [if_pos c6] at H;have c6b0:=e1_ c6;have c6b1:=e2_ c6;clear c6;simp only [Option.some.injEq,Prod.mk.injEq] at H;obtain⟨rfl,rfl,rfl⟩:=H
   go_enter Try.func31,Try.ntmps31
   try go_wp2_with (first | ((with_reducible refine gate_dst (N:=1) rfl ?_);refine be_ 1 #[.slice au ah.length av, .slice aw ai.length ax] 27 ?_;intro ag hg w7 hbox hb;have aa:=q_ (hbox);have bh:=q_ ((by rw [hg];exact bz_:w.heap.size≤ag));have bk:=q_ ((by rw [hg];exact bz_:w.heap.size≤ag));replace HB:=q_ (bs_ hb);clear hb hbox hg;have bI:=cz_ aa 0;have bJ:=cz_ aa 1;have bK:=blk_frozen aa.out 0;have bL:=blk_frozen aa.out 1) | ((with_reducible refine gate_callee (f:=39) rfl ?_);refine gL_ 8 Try.func39 #[.agg #[.slice au ah.length av, .slice aw ai.length ax]] ?_;(with_reducible refine(impl_IsProblem.calls _ _ ah _ _ ai true _ ?ay ?az ?aA ?aC A2.out).mono ?_);(case ay=>exact cb_ HR0_0.out HB.out);(case az=>exact HC0_0.out);(case aA=>exact cb_ HR0_1.out HB.out);(case aC=>exact HC0_1.out);rintro e w9 ⟨rfl,hb⟩;refine⟨_,rfl,?_⟩;replace aa:=q_ (bb_ aa.out hb);replace HB:=q_ (bs_ hb);(try clear hb);(try clear hk)))
   replace aa:=q_ (blk_drew aa.out);replace HB:=q_ (below_drew1 HB.out);refine st_ (n:=11) (S:=fun w'=>w'.cell? ⟨ag,0,none⟩=some (.slice au ah.length av)∧w'.cell? ⟨ag,1,none⟩=some (.slice aw ai.length ax)) (ds:= []) ⟨(blk_cell aa.out 0).trans rfl,(blk_cell aa.out 1).trans rfl⟩ (fun hHeld=>?_);refine with_tabW impl_InverseOf.tab3 impl_InverseOf.bits3 (fun HT_ HW_=>?_)
   generalize w9.drew=w10 at aa HB hHeld ⊢
   refine tk_ 0 11 ?_;refine tk_ 1 12 ?_
   refine join_ (σ:=Value × Value × Nat) 2 (fm 11 511) (fun s_=> [(13, .int .i64 aG),(15, .tuple #[.agg #[.int .i64 aH,s_.1,s_.2.1], .int .i64 aM]),(5, .pointer (some ⟨s_.2.2,0,none⟩)),(14, .int .i64 (wrap64 (aG - 1))),(10, .tuple #[.agg #[.int .i64 aH,s_.1,s_.2.1], .int .i64 aM]),(16, .agg #[.int .i64 aH,s_.1,s_.2.1]),(17, .int .i64 aM)]) (fun s_ w'=>(w'.cell? ⟨ag,0,none⟩=some (.slice au ah.length av)∧w'.cell? ⟨ag,1,none⟩=some (.slice aw ai.length ax))∧(Kd.S (Kd.slice 2 (Kd.int .i64)) 25 w' w.heap.size (fun k_=>some k_≠(s_.2.1:Value).ownBlock) s_.1 aJ)∧(Kd.R (Kd.int .i64) 2 w' w.heap.size (fun _=>True) s_.2.1 aK)∧(w'.heap[ag]?=some (.cells #[.slice au ah.length av, .slice aw ai.length ax] 27 (0,0)))∧(w'.heap[s_.2.2]?=some (.cells #[.int .i64 0, .slice none 0 0, .slice none 0 0] 49 (0,0)))∧(w.heap.size≤s_.2.2)∧(w.heap.size≤s_.2.2)∧(ag≠s_.2.2)∧(s_.2.2≠ag)∧(Below w.heap.size w w')) ?_ ?_
   rotate_left
   ·intro hCont;refine two_ (i:=2) (j:=8) (Ni:=some 13) (Nj:=some 5) (fm 11 7) (fm 11 259) rfl rfl rfl rfl (two_of HT_.out (by kernel_rfl)) (by decide) (by decide) (fun K hK=>?_) (fun K hK=>?_)
    ·skip
     refine goes_ Try.func46 (by kernel_rfl) rfl #[.agg #[.slice au ah.length av, .slice aw ai.length ax]] (by rfl) rfl rfl (by(try simp only [List.map_toArray,List.map_cons,List.map_nil]);first | done | rfl | (simp only [List.length_drop,List.length_take];rfl)) ?_
     with_reducible refine(impl_Problem_all.calls _ _ ah _ _ ai aG _ ?ay ?az ?aA ?aC A4.out).mono ?_
     (case ay=>exact cb_ HR0_0.out HB.out)
     (case az=>exact HC0_0.out)
     (case aA=>exact cb_ HR0_1.out HB.out)
     (case aC=>exact HC0_1.out)
     rintro e w11 ⟨rfl,hb⟩;refine⟨_,rfl,?_⟩
     replace aa:=q_ (bb_ aa.out hb);replace HB:=q_ (bs_ hb);(try clear hb)
     
     (try clear hk)
     
     refine hK.out _ _ ⟨(blk_cell aa.out 0).trans rfl,(blk_cell aa.out 1).trans rfl⟩ (fun hHeld=>?_)
     clear hK K;refine norm_ (a':=?_) ?_ ?_
     rotate_left
     ·show Act.put _ (some 13) _=_
      simp only [Act.put,List.setIfInBounds_toArray,List.set_cons_zero,List.set_cons_succ,i64_w,i32_w]
      rfl
     refine pu_ 3 14 ?_
     refine two_ (i:=4) (j:=8) (Ni:=some 15) (Nj:=some 5) (fm 11 31) (fm 11 271) rfl rfl rfl rfl (two_of HT_.out (by kernel_rfl)) (by decide) (by decide) (fun K hK=>?_) (fun K hK=>?_)
     ·skip
      refine goes_ Try.func47 (by kernel_rfl) rfl #[.agg #[.slice au ah.length av, .slice aw ai.length ax], .int .i64 (wrap64 (aG - 1))] (by rfl) rfl rfl (by(try simp only [List.map_toArray,List.map_cons,List.map_nil]);first | done | rfl | (simp only [List.length_drop,List.length_take];rfl)) ?_
      with_reducible refine(impl_pivotOf.calls k _ _ ah _ _ ai (wrap64 (aG - 1)) aH aJ aK aM _ ?ay ?az ?aA ?aC A5.out).mono ?_
      (case ay=>exact cb_ HR0_0.out HB.out)
      (case az=>exact HC0_0.out)
      (case aA=>exact cb_ HR0_1.out HB.out)
      (case aC=>exact HC0_1.out)
      rintro e w12 ⟨aU,aN,rfl,ho0,ho1,hb⟩;refine⟨_,rfl,?_⟩
      have aq:=q_ (Kd.S_lower ho0 bz_);have aD:=q_ (Kd.R_lower ho1 bz_);replace aa:=q_ (bb_ aa.out hb);replace HB:=q_ (bs_ hb);(try clear hb)
      
      (try clear hk)
      
      (try clear ho0);(try clear ho1);refine hK.out _ _ ⟨(blk_cell aa.out 0).trans rfl,(blk_cell aa.out 1).trans rfl⟩ (fun hHeld=>?_)
      clear hK K;refine norm_ (a':=?_) ?_ ?_
      rotate_left
      ·show Act.put _ (some 15) _=_
       simp only [Act.put,List.setIfInBounds_toArray,List.set_cons_zero,List.set_cons_succ,i64_w,i32_w]
       rfl
      refine pu_ 5 10 ?_;refine pu_ 6 16 ?_;refine pu_ 7 17 ?_
      refine on_ 8 (some 5) (fun K hK=>?_)
      refine box_step ?hg (N:=5) ?hd (cs:= #[.int .i64 0, .slice none 0 0, .slice none 0 0]) (t:=49) ?hr ?_;(case hd=>rfl);(case hg=>rfl);(case hr=>first | (go_simp;done) | (go_simp;rfl))
      intro ae hg w13 hbox hb;replace aq:=q_ (Kd.S_below (so_ aq.out) hb);replace aD:=q_ (rb_ aD.out hb);have aj:=q_ (hbox);have aQ:=q_ ((by rw [hg];exact bz_:w.heap.size≤ae));have aT:=q_ ((by rw [hg];exact bz_:w.heap.size≤ae));have af:=q_ ((by rw [hg];exact lt_ aa.out:ag≠ae));have ak:=q_ ((by rw [hg];exact gt_ aa.out:ae≠ag));replace aa:=q_ (bb_ aa.out hb);replace HB:=q_ (bs_ hb);clear hb hbox hg;refine hK.out _ _ ⟨(blk_cell aa.out 0).trans rfl,(blk_cell aa.out 1).trans rfl⟩ (fun hHeld=>?_)
      clear hK K;refine norm_ (a':=?_) ?_ ?_
      rotate_left
      ·show Act.put _ (some 5) _=_
       simp only [Act.put,List.setIfInBounds_toArray,List.set_cons_zero,List.set_cons_succ,i64_w,i32_w]
       rfl
      exact norm_ (by simp only [putAll,Act.put,List.setIfInBounds_toArray,List.set_cons_zero,List.set_cons_succ]) (hCont (aU,aN,ae) _ ⟨hHeld,(so_ aq.out),(ro_ aD.out),bk_,bk_,aQ.out,aT.out,af.out,ak.out,hb_⟩)
     ·skip
      refine box_step ?hg (N:=5) ?hd (cs:= #[.int .i64 0, .slice none 0 0, .slice none 0 0]) (t:=49) ?hr ?_;(case hd=>rfl);(case hg=>rfl);(case hr=>first | (go_simp;done) | (go_simp;rfl))
      intro ae hg w12 hbox hb;have aj:=q_ (hbox);have aQ:=q_ ((by rw [hg];exact bz_:w.heap.size≤ae));have aT:=q_ ((by rw [hg];exact bz_:w.heap.size≤ae));have af:=q_ ((by rw [hg];exact lt_ aa.out:ag≠ae));have ak:=q_ ((by rw [hg];exact gt_ aa.out:ae≠ag));replace aa:=q_ (bb_ aa.out hb);replace HB:=q_ (bs_ hb);clear hb hbox hg;refine hK.out _ _ ⟨(blk_cell aa.out 0).trans rfl,(blk_cell aa.out 1).trans rfl⟩ (fun hHeld=>?_)
      clear hK K;refine norm_ (a':=?_) ?_ ?_
      rotate_left
      ·show Act.put _ (some 5) _=_
       simp only [Act.put,List.setIfInBounds_toArray,List.set_cons_zero,List.set_cons_succ,i64_w,i32_w]
       rfl
      refine on_ 4 (some 15) (fun K hK=>?_)
      refine goes_ Try.func47 (by kernel_rfl) rfl #[.agg #[.slice au ah.length av, .slice aw ai.length ax], .int .i64 (wrap64 (aG - 1))] (by rfl) rfl rfl (by(try simp only [List.map_toArray,List.map_cons,List.map_nil]);first | done | rfl | (simp only [List.length_drop,List.length_take];rfl)) ?_
      with_reducible refine(impl_pivotOf.calls k _ _ ah _ _ ai (wrap64 (aG - 1)) aH aJ aK aM _ ?ay ?az ?aA ?aC A5.out).mono ?_
      (case ay=>exact cb_ HR0_0.out HB.out)
      (case az=>exact HC0_0.out)
      (case aA=>exact cb_ HR0_1.out HB.out)
      (case aC=>exact HC0_1.out)
      rintro e w13 ⟨aU,aN,rfl,ho0,ho1,hb⟩;refine⟨_,rfl,?_⟩
      have aq:=q_ (Kd.S_lower ho0 bz_);have aD:=q_ (Kd.R_lower ho1 bz_);replace aa:=q_ (bb_ aa.out hb);replace aj:=q_ (bb_ aj.out hb);replace HB:=q_ (bs_ hb);(try clear hb)
      
      (try clear hk)
      
      (try clear ho0);(try clear ho1);refine hK.out _ _ ⟨(blk_cell aa.out 0).trans rfl,(blk_cell aa.out 1).trans rfl⟩ (fun hHeld=>?_)
      clear hK K;refine norm_ (a':=?_) ?_ ?_
      rotate_left
      ·show Act.put _ (some 15) _=_
       simp only [Act.put,List.setIfInBounds_toArray,List.set_cons_zero,List.set_cons_succ,i64_w,i32_w]
       rfl
      refine pu_ 5 10 ?_;refine pu_ 6 16 ?_;refine pu_ 7 17 ?_
      exact norm_ (by simp only [putAll,Act.put,List.setIfInBounds_toArray,List.set_cons_zero,List.set_cons_succ]) (hCont (aU,aN,ae) _ ⟨hHeld,(so_ aq.out),(ro_ aD.out),bk_,bk_,aQ.out,aT.out,af.out,ak.out,hb_⟩)
    ·skip
     refine box_step ?hg (N:=5) ?hd (cs:= #[.int .i64 0, .slice none 0 0, .slice none 0 0]) (t:=49) ?hr ?_;(case hd=>rfl);(case hg=>rfl);(case hr=>first | (go_simp;done) | (go_simp;rfl))
     intro ae hg w11 hbox hb;have aj:=q_ (hbox);have aQ:=q_ ((by rw [hg];exact bz_:w.heap.size≤ae));have aT:=q_ ((by rw [hg];exact bz_:w.heap.size≤ae));have af:=q_ ((by rw [hg];exact lt_ aa.out:ag≠ae));have ak:=q_ ((by rw [hg];exact gt_ aa.out:ae≠ag));replace aa:=q_ (bb_ aa.out hb);replace HB:=q_ (bs_ hb);clear hb hbox hg;refine hK.out _ _ ⟨(blk_cell aa.out 0).trans rfl,(blk_cell aa.out 1).trans rfl⟩ (fun hHeld=>?_)
     clear hK K;refine norm_ (a':=?_) ?_ ?_
     rotate_left
     ·show Act.put _ (some 5) _=_
      simp only [Act.put,List.setIfInBounds_toArray,List.set_cons_zero,List.set_cons_succ,i64_w,i32_w]
      rfl
     refine on_ 2 (some 13) (fun K hK=>?_)
     refine goes_ Try.func46 (by kernel_rfl) rfl #[.agg #[.slice au ah.length av, .slice aw ai.length ax]] (by rfl) rfl rfl (by(try simp only [List.map_toArray,List.map_cons,List.map_nil]);first | done | rfl | (simp only [List.length_drop,List.length_take];rfl)) ?_
     with_reducible refine(impl_Problem_all.calls _ _ ah _ _ ai aG _ ?ay ?az ?aA ?aC A4.out).mono ?_
     (case ay=>exact cb_ HR0_0.out HB.out)
     (case az=>exact HC0_0.out)
     (case aA=>exact cb_ HR0_1.out HB.out)
     (case aC=>exact HC0_1.out)
     rintro e w12 ⟨rfl,hb⟩;refine⟨_,rfl,?_⟩
     replace aa:=q_ (bb_ aa.out hb);replace aj:=q_ (bb_ aj.out hb);replace HB:=q_ (bs_ hb);(try clear hb)
     
     (try clear hk)
     
     refine hK.out _ _ ⟨(blk_cell aa.out 0).trans rfl,(blk_cell aa.out 1).trans rfl⟩ (fun hHeld=>?_)
     clear hK K;refine norm_ (a':=?_) ?_ ?_
     rotate_left
     ·show Act.put _ (some 13) _=_
      simp only [Act.put,List.setIfInBounds_toArray,List.set_cons_zero,List.set_cons_succ,i64_w,i32_w]
      rfl
     refine pu_ 3 14 ?_
     refine on_ 4 (some 15) (fun K hK=>?_)
     refine goes_ Try.func47 (by kernel_rfl) rfl #[.agg #[.slice au ah.length av, .slice aw ai.length ax], .int .i64 (wrap64 (aG - 1))] (by rfl) rfl rfl (by(try simp only [List.map_toArray,List.map_cons,List.map_nil]);first | done | rfl | (simp only [List.length_drop,List.length_take];rfl)) ?_
     with_reducible refine(impl_pivotOf.calls k _ _ ah _ _ ai (wrap64 (aG - 1)) aH aJ aK aM _ ?ay ?az ?aA ?aC A5.out).mono ?_
     (case ay=>exact cb_ HR0_0.out HB.out)
     (case az=>exact HC0_0.out)
     (case aA=>exact cb_ HR0_1.out HB.out)
     (case aC=>exact HC0_1.out)
     rintro e w13 ⟨aU,aN,rfl,ho0,ho1,hb⟩;refine⟨_,rfl,?_⟩
     have aq:=q_ (Kd.S_lower ho0 bz_);have aD:=q_ (Kd.R_lower ho1 bz_);replace aa:=q_ (bb_ aa.out hb);replace aj:=q_ (bb_ aj.out hb);replace HB:=q_ (bs_ hb);(try clear hb)
     
     (try clear hk)
     
     (try clear ho0);(try clear ho1);refine hK.out _ _ ⟨(blk_cell aa.out 0).trans rfl,(blk_cell aa.out 1).trans rfl⟩ (fun hHeld=>?_)
     clear hK K;refine norm_ (a':=?_) ?_ ?_
     rotate_left
     ·show Act.put _ (some 15) _=_
      simp only [Act.put,List.setIfInBounds_toArray,List.set_cons_zero,List.set_cons_succ,i64_w,i32_w]
      rfl
     refine pu_ 5 10 ?_;refine pu_ 6 16 ?_;refine pu_ 7 17 ?_
     exact norm_ (by simp only [putAll,Act.put,List.setIfInBounds_toArray,List.set_cons_zero,List.set_cons_succ]) (hCont (aU,aN,ae) _ ⟨hHeld,(so_ aq.out),(ro_ aD.out),bk_,bk_,aQ.out,aT.out,af.out,ak.out,hb_⟩)
   rintro ⟨aU,aN,ae⟩ w14 ⟨hS_,h0_,h1_,h2_,h3_,h4_,h5_,h6_,h7_,h8_⟩;have n0_:Aside0 (Kd.S (Kd.slice 2 (Kd.int .i64)) 25 w14 w.heap.size (fun k_=>some k_≠(aN:Value).ownBlock) aU aJ):=⟨h0_⟩
   have n1_:Aside0 (Kd.R (Kd.int .i64) 2 w14 w.heap.size (fun _=>True) aN aK):=⟨h1_⟩
   have n2_:Aside0 (w14.heap[ag]?=some (.cells #[.slice au ah.length av, .slice aw ai.length ax] 27 (0,0))):=⟨h2_⟩
   have n3_:Aside0 (w14.heap[ae]?=some (.cells #[.int .i64 0, .slice none 0 0, .slice none 0 0] 49 (0,0))):=⟨h3_⟩
   have n4_:Aside0 (w.heap.size≤ae):=⟨h4_⟩
   have n5_:Aside0 (w.heap.size≤ae):=⟨h5_⟩
   have n6_:Aside0 (ag≠ae):=⟨h6_⟩
   have n7_:Aside0 (ae≠ag):=⟨h7_⟩
   have n8_:Aside0 (Below w.heap.size w w14):=⟨h8_⟩
   clear aa HB h0_ h1_ h2_ h3_ h4_ h5_ h6_ h7_ h8_;have aq:=n0_;have aD:=n1_;have aa:=n2_;have aj:=n3_;have aQ:=n4_;have aT:=n5_;have af:=n6_;have ak:=n7_;have HB:=n8_;clear n0_ n1_ n2_ n3_ n4_ n5_ n6_ n7_ n8_;have hHeld:w14.cell? ⟨ag,0,none⟩=some (.slice au ah.length av)∧w14.cell? ⟨ag,1,none⟩=some (.slice aw ai.length ax):=hS_;obtain⟨aV,aW,bq⟩:=Kd.S_slice aq.out
   (first | subst bq | (injection bq with f1_ f2_ f3_;have f4_:=f1_.symm;have f5_:=f3_.symm;clear f1_ f2_ f3_;subst f4_;subst f5_))
   obtain⟨aX,aY,bu⟩:=Kd.R_slice aD.out
   (first | subst bu | (injection bu with f1_ f2_ f3_;have f4_:=f1_.symm;have f5_:=f3_.symm;clear f1_ f2_ f3_;subst f4_;subst f5_))
   refine norm_ (a':=?_) ?_ ?_
   rotate_left
   ·simp only [putAll,Act.put,List.setIfInBounds_toArray,List.set_cons_zero,List.set_cons_succ]
    rfl
   refine on_ 9 none (fun K hK=>?_)
   have hs15:=cz_ aj 0;have hfs15:=blk_frozen aj.out 0;have hns15_0:=af.out;have hms15_0:=ak.out;have hs17:=cz_ aj 1;have hfs17:=blk_frozen aj.out 1;have hns17_0:=af.out;have hms17_0:=ak.out;have hs19:=cz_ aj 2;have hfs19:=blk_frozen aj.out 2;have hns19_0:=af.out;have hms19_0:=ak.out;refine skip_ (w1:=?_) (by rfl) rfl ?_ ?_
   rotate_left
   ·go_simp
    rfl
   refine hK.out _ _ ⟨((cell_far (p:=⟨ae,_,none⟩) af.out _).trans (((cell_far (p:=⟨ae,_,none⟩) af.out _).trans (((cell_far (p:=⟨ae,_,none⟩) af.out _).trans (hHeld.1)))))),((cell_far (p:=⟨ae,_,none⟩) af.out _).trans (((cell_far (p:=⟨ae,_,none⟩) af.out _).trans (((cell_far (p:=⟨ae,_,none⟩) af.out _).trans (hHeld.2))))))⟩ (fun hHeld=>?_)
   clear hK K;refine pu_ 10 6 ?_
   refine done_ (done_of HT_.out (by kernel_rfl)) ?_
   try go_wp2
   have n0_:Aside0 (Kd.S (Kd.slice 2 (Kd.int .i64)) 25 (((w14.setCell ⟨ae,0,none⟩ (.int .i64 aH)).setCell ⟨ae,1,none⟩ (.slice aV aJ.length aW)).setCell ⟨ae,2,none⟩ (.slice aX aK.length aY)) w.heap.size (fun k_=>some k_≠(.slice aX aK.length aY:Value).ownBlock) (.slice aV aJ.length aW) aJ):=⟨by(with_reducible repeat (first | apply Kd.S_alloc | apply Kd.S_drewN | apply Kd.S_drew));exact Kd.S_mono (Kd.S_far (p:=⟨ae,2,none⟩) (Kd.S_far (p:=⟨ae,1,none⟩) (Kd.S_far (p:=⟨ae,0,none⟩) (Kd.S_types aq.out aj.out (by decide)) (fun _ hk=>hk.2) (.int .i64 aH)) (fun _ hk=>hk.2) (.slice aV aJ.length aW)) (fun _ hk=>hk.2) (.slice aX aK.length aY)) (fun _ hk=>hk.1)⟩
   have n1_:Aside0 (Kd.R (Kd.int .i64) 2 (((w14.setCell ⟨ae,0,none⟩ (.int .i64 aH)).setCell ⟨ae,1,none⟩ (.slice aV aJ.length aW)).setCell ⟨ae,2,none⟩ (.slice aX aK.length aY)) w.heap.size (fun _=>True) (.slice aX aK.length aY) aK):=⟨by(with_reducible repeat (first | apply Kd.R_alloc | apply Kd.R_drewN | apply Kd.R_drew));exact Kd.R_mono (Kd.R_far (p:=⟨ae,2,none⟩) (Kd.R_far (p:=⟨ae,1,none⟩) (Kd.R_far (p:=⟨ae,0,none⟩) (Kd.R_types aD.out aj.out (by decide)) (fun _ hk=>hk.2) (.int .i64 aH)) (fun _ hk=>hk.2) (.slice aV aJ.length aW)) (fun _ hk=>hk.2) (.slice aX aK.length aY)) (fun _ hk=>trivial)⟩
   have n2_:Aside0 ((((w14.setCell ⟨ae,0,none⟩ (.int .i64 aH)).setCell ⟨ae,1,none⟩ (.slice aV aJ.length aW)).setCell ⟨ae,2,none⟩ (.slice aX aK.length aY)).heap[ag]?=some (.cells #[.slice au ah.length av, .slice aw ai.length ax] 27 (0,0))):=⟨by(with_reducible repeat (first | refine blk_drewN ?_ _ | refine blk_drew ?_ | refine blk_alloc ?_ _));refine blk_far ?_ af.out _;(with_reducible repeat (first | refine blk_drewN ?_ _ | refine blk_drew ?_ | refine blk_alloc ?_ _));refine blk_far ?_ af.out _;(with_reducible repeat (first | refine blk_drewN ?_ _ | refine blk_drew ?_ | refine blk_alloc ?_ _));refine blk_far ?_ af.out _;(with_reducible repeat (first | refine blk_drewN ?_ _ | refine blk_drew ?_ | refine blk_alloc ?_ _));exact aa.out⟩
   have n3_:Aside0 ((((w14.setCell ⟨ae,0,none⟩ (.int .i64 aH)).setCell ⟨ae,1,none⟩ (.slice aV aJ.length aW)).setCell ⟨ae,2,none⟩ (.slice aX aK.length aY)).heap[ae]?=some (.cells #[.int .i64 aH, .slice aV aJ.length aW, .slice aX aK.length aY] 49 (0,0))):=⟨by(with_reducible repeat (first | refine blk_drewN ?_ _ | refine blk_drew ?_ | refine blk_alloc ?_ _));refine blk_put (cs:= #[.int .i64 aH, .slice aV aJ.length aW, .slice none 0 0]) ?_ 2 _ rfl;(with_reducible repeat (first | refine blk_drewN ?_ _ | refine blk_drew ?_ | refine blk_alloc ?_ _));refine blk_put (cs:= #[.int .i64 aH, .slice none 0 0, .slice none 0 0]) ?_ 1 _ rfl;(with_reducible repeat (first | refine blk_drewN ?_ _ | refine blk_drew ?_ | refine blk_alloc ?_ _));refine blk_put (cs:= #[.int .i64 0, .slice none 0 0, .slice none 0 0]) ?_ 0 _ rfl;(with_reducible repeat (first | refine blk_drewN ?_ _ | refine blk_drew ?_ | refine blk_alloc ?_ _));exact aj.out⟩
   have n4_:Aside0 (Below w.heap.size w (((w14.setCell ⟨ae,0,none⟩ (.int .i64 aH)).setCell ⟨ae,1,none⟩ (.slice aV aJ.length aW)).setCell ⟨ae,2,none⟩ (.slice aX aK.length aY))):=⟨hb_⟩
   (try clear aq);(try clear aD);(try clear aa);(try clear aj);(try clear HB)
   generalize (((w14.setCell ⟨ae,0,none⟩ (.int .i64 aH)).setCell ⟨ae,1,none⟩ (.slice aV aJ.length aW)).setCell ⟨ae,2,none⟩ (.slice aX aK.length aY))=w20 at n0_ n1_ n2_ n3_ n4_ ⊢
   have aq:=n0_;have aD:=n1_;have aa:=n2_;have aj:=n3_;have HB:=n4_;clear n0_ n1_ n2_ n3_ n4_;replace aq:=q_ (Kd.S_drew aq.out);replace aD:=q_ (Kd.R_drew aD.out);replace aa:=q_ (blk_drew aa.out);replace aj:=q_ (blk_drew aj.out);replace HB:=q_ (below_drew1 HB.out);refine st_ (n:=7) (S:=fun w'=>w'.cell? ⟨ae,0,none⟩=some (.int .i64 aH)∧w'.cell? ⟨ae,1,none⟩=some (.slice aV aJ.length aW)∧w'.cell? ⟨ae,2,none⟩=some (.slice aX aK.length aY)) (ds:= []) ⟨(blk_cell aj.out 0).trans rfl,(blk_cell aj.out 1).trans rfl,(blk_cell aj.out 2).trans rfl⟩ (fun hHeld=>?_)
   generalize w20.drew=w21 at aq aD aa aj HB hHeld ⊢
   refine pu_ 0 21 ?_;refine pu_ 2 23 ?_;refine tk_ 1 22 ?_;refine pu_ 4 2 ?_;refine tk_ 3 24 ?_;refine pu_ 5 3 ?_;refine pu_ 6 4 ?_
   refine done_ (by kernel_rfl) ?_
   try go_wp2
   go_ret3
   exact⟨_,by first | rfl | (simp [errW_none,errW_some] <;> rfl) | (simp [*,errW_none,errW_some] <;> rfl),by(with_reducible repeat (first | apply Kd.S_alloc | apply Kd.S_drewN | apply Kd.S_drew));exact Kd.S_mono aq.out (fun _ hk=>trivial),hb_⟩
  ·rw [if_neg c6] at H;have c6b0:=e3_ c6;have c6b1:=e4_ c6;simp only [Option.some.injEq,Prod.mk.injEq] at H;obtain⟨rfl,rfl,rfl⟩:=H
   go_enter Try.func31,Try.ntmps31
   try go_wp2_with (first | ((with_reducible refine gate_dst (N:=1) rfl ?_);refine be_ 1 #[.slice au ah.length av, .slice aw ai.length ax] 27 ?_;intro ag hg w22 hbox hb;have aa:=q_ (hbox);have bh:=q_ ((by rw [hg];exact bz_:w.heap.size≤ag));have bk:=q_ ((by rw [hg];exact bz_:w.heap.size≤ag));replace HB:=q_ (bs_ hb);clear hb hbox hg;have bz:=cz_ aa 0;have bA:=cz_ aa 1;have bC:=blk_frozen aa.out 0;have bD:=blk_frozen aa.out 1) | ((with_reducible refine gate_callee (f:=39) rfl ?_);refine gL_ 8 Try.func39 #[.agg #[.slice au ah.length av, .slice aw ai.length ax]] ?_;(with_reducible refine(impl_IsProblem.calls _ _ ah _ _ ai true _ ?ay ?az ?aA ?aC A2.out).mono ?_);(case ay=>exact cb_ HR0_0.out HB.out);(case az=>exact HC0_0.out);(case aA=>exact cb_ HR0_1.out HB.out);(case aC=>exact HC0_1.out);rintro e w24 ⟨rfl,hb⟩;refine⟨_,rfl,?_⟩;replace aa:=q_ (bb_ aa.out hb);replace HB:=q_ (bs_ hb);(try clear hb);(try clear hk)))
   replace aa:=q_ (blk_drew aa.out);replace HB:=q_ (below_drew1 HB.out);refine st_ (n:=11) (S:=fun w'=>w'.cell? ⟨ag,0,none⟩=some (.slice au ah.length av)∧w'.cell? ⟨ag,1,none⟩=some (.slice aw ai.length ax)) (ds:= []) ⟨(blk_cell aa.out 0).trans rfl,(blk_cell aa.out 1).trans rfl⟩ (fun hHeld=>?_);refine with_tabW impl_InverseOf.tab3 impl_InverseOf.bits3 (fun HT_ HW_=>?_)
   generalize w24.drew=w25 at aa HB hHeld ⊢
   refine tk_ 0 11 ?_;refine tk_ 1 12 ?_
   refine join_ (σ:=Value × Value × Nat) 2 (fm 11 511) (fun s_=> [(13, .int .i64 aG),(15, .tuple #[.agg #[.int .i64 aH,s_.1,s_.2.1], .int .i64 aM]),(5, .pointer (some ⟨s_.2.2,0,none⟩)),(14, .int .i64 (wrap64 (aG - 1))),(10, .tuple #[.agg #[.int .i64 aH,s_.1,s_.2.1], .int .i64 aM]),(16, .agg #[.int .i64 aH,s_.1,s_.2.1]),(17, .int .i64 aM)]) (fun s_ w'=>(w'.cell? ⟨ag,0,none⟩=some (.slice au ah.length av)∧w'.cell? ⟨ag,1,none⟩=some (.slice aw ai.length ax))∧(Kd.S (Kd.slice 2 (Kd.int .i64)) 25 w' w.heap.size (fun k_=>some k_≠(s_.2.1:Value).ownBlock) s_.1 aJ)∧(Kd.R (Kd.int .i64) 2 w' w.heap.size (fun _=>True) s_.2.1 aK)∧(w'.heap[ag]?=some (.cells #[.slice au ah.length av, .slice aw ai.length ax] 27 (0,0)))∧(w'.heap[s_.2.2]?=some (.cells #[.int .i64 0, .slice none 0 0, .slice none 0 0] 49 (0,0)))∧(w.heap.size≤s_.2.2)∧(w.heap.size≤s_.2.2)∧(ag≠s_.2.2)∧(s_.2.2≠ag)∧(Below w.heap.size w w')) ?_ ?_
   rotate_left
   ·intro hCont;refine two_ (i:=2) (j:=8) (Ni:=some 13) (Nj:=some 5) (fm 11 7) (fm 11 259) rfl rfl rfl rfl (two_of HT_.out (by kernel_rfl)) (by decide) (by decide) (fun K hK=>?_) (fun K hK=>?_)
    ·skip
     refine goes_ Try.func46 (by kernel_rfl) rfl #[.agg #[.slice au ah.length av, .slice aw ai.length ax]] (by rfl) rfl rfl (by(try simp only [List.map_toArray,List.map_cons,List.map_nil]);first | done | rfl | (simp only [List.length_drop,List.length_take];rfl)) ?_
     with_reducible refine(impl_Problem_all.calls _ _ ah _ _ ai aG _ ?ay ?az ?aA ?aC A4.out).mono ?_
     (case ay=>exact cb_ HR0_0.out HB.out)
     (case az=>exact HC0_0.out)
     (case aA=>exact cb_ HR0_1.out HB.out)
     (case aC=>exact HC0_1.out)
     rintro e w26 ⟨rfl,hb⟩;refine⟨_,rfl,?_⟩
     replace aa:=q_ (bb_ aa.out hb);replace HB:=q_ (bs_ hb);(try clear hb)
     
     (try clear hk)
     
     refine hK.out _ _ ⟨(blk_cell aa.out 0).trans rfl,(blk_cell aa.out 1).trans rfl⟩ (fun hHeld=>?_)
     clear hK K;refine norm_ (a':=?_) ?_ ?_
     rotate_left
     ·show Act.put _ (some 13) _=_
      simp only [Act.put,List.setIfInBounds_toArray,List.set_cons_zero,List.set_cons_succ,i64_w,i32_w]
      rfl
     refine pu_ 3 14 ?_
     refine two_ (i:=4) (j:=8) (Ni:=some 15) (Nj:=some 5) (fm 11 31) (fm 11 271) rfl rfl rfl rfl (two_of HT_.out (by kernel_rfl)) (by decide) (by decide) (fun K hK=>?_) (fun K hK=>?_)
     ·skip
      refine goes_ Try.func47 (by kernel_rfl) rfl #[.agg #[.slice au ah.length av, .slice aw ai.length ax], .int .i64 (wrap64 (aG - 1))] (by rfl) rfl rfl (by(try simp only [List.map_toArray,List.map_cons,List.map_nil]);first | done | rfl | (simp only [List.length_drop,List.length_take];rfl)) ?_
      with_reducible refine(impl_pivotOf.calls k _ _ ah _ _ ai (wrap64 (aG - 1)) aH aJ aK aM _ ?ay ?az ?aA ?aC A5.out).mono ?_
      (case ay=>exact cb_ HR0_0.out HB.out)
      (case az=>exact HC0_0.out)
      (case aA=>exact cb_ HR0_1.out HB.out)
      (case aC=>exact HC0_1.out)
      rintro e w27 ⟨aU,aN,rfl,ho0,ho1,hb⟩;refine⟨_,rfl,?_⟩
      have aq:=q_ (Kd.S_lower ho0 bz_);have aD:=q_ (Kd.R_lower ho1 bz_);replace aa:=q_ (bb_ aa.out hb);replace HB:=q_ (bs_ hb);(try clear hb)
      
      (try clear hk)
      
      (try clear ho0);(try clear ho1);refine hK.out _ _ ⟨(blk_cell aa.out 0).trans rfl,(blk_cell aa.out 1).trans rfl⟩ (fun hHeld=>?_)
      clear hK K;refine norm_ (a':=?_) ?_ ?_
      rotate_left
      ·show Act.put _ (some 15) _=_
       simp only [Act.put,List.setIfInBounds_toArray,List.set_cons_zero,List.set_cons_succ,i64_w,i32_w]
       rfl
      refine pu_ 5 10 ?_;refine pu_ 6 16 ?_;refine pu_ 7 17 ?_
      refine on_ 8 (some 5) (fun K hK=>?_)
      refine box_step ?hg (N:=5) ?hd (cs:= #[.int .i64 0, .slice none 0 0, .slice none 0 0]) (t:=49) ?hr ?_;(case hd=>rfl);(case hg=>rfl);(case hr=>first | (go_simp;done) | (go_simp;rfl))
      intro ae hg w28 hbox hb;replace aq:=q_ (Kd.S_below (so_ aq.out) hb);replace aD:=q_ (rb_ aD.out hb);have aj:=q_ (hbox);have aQ:=q_ ((by rw [hg];exact bz_:w.heap.size≤ae));have aT:=q_ ((by rw [hg];exact bz_:w.heap.size≤ae));have af:=q_ ((by rw [hg];exact lt_ aa.out:ag≠ae));have ak:=q_ ((by rw [hg];exact gt_ aa.out:ae≠ag));replace aa:=q_ (bb_ aa.out hb);replace HB:=q_ (bs_ hb);clear hb hbox hg;refine hK.out _ _ ⟨(blk_cell aa.out 0).trans rfl,(blk_cell aa.out 1).trans rfl⟩ (fun hHeld=>?_)
      clear hK K;refine norm_ (a':=?_) ?_ ?_
      rotate_left
      ·show Act.put _ (some 5) _=_
       simp only [Act.put,List.setIfInBounds_toArray,List.set_cons_zero,List.set_cons_succ,i64_w,i32_w]
       rfl
      exact norm_ (by simp only [putAll,Act.put,List.setIfInBounds_toArray,List.set_cons_zero,List.set_cons_succ]) (hCont (aU,aN,ae) _ ⟨hHeld,(so_ aq.out),(ro_ aD.out),bk_,bk_,aQ.out,aT.out,af.out,ak.out,hb_⟩)
     ·skip
      refine box_step ?hg (N:=5) ?hd (cs:= #[.int .i64 0, .slice none 0 0, .slice none 0 0]) (t:=49) ?hr ?_;(case hd=>rfl);(case hg=>rfl);(case hr=>first | (go_simp;done) | (go_simp;rfl))
      intro ae hg w27 hbox hb;have aj:=q_ (hbox);have aQ:=q_ ((by rw [hg];exact bz_:w.heap.size≤ae));have aT:=q_ ((by rw [hg];exact bz_:w.heap.size≤ae));have af:=q_ ((by rw [hg];exact lt_ aa.out:ag≠ae));have ak:=q_ ((by rw [hg];exact gt_ aa.out:ae≠ag));replace aa:=q_ (bb_ aa.out hb);replace HB:=q_ (bs_ hb);clear hb hbox hg;refine hK.out _ _ ⟨(blk_cell aa.out 0).trans rfl,(blk_cell aa.out 1).trans rfl⟩ (fun hHeld=>?_)
      clear hK K;refine norm_ (a':=?_) ?_ ?_
      rotate_left
      ·show Act.put _ (some 5) _=_
       simp only [Act.put,List.setIfInBounds_toArray,List.set_cons_zero,List.set_cons_succ,i64_w,i32_w]
       rfl
      refine on_ 4 (some 15) (fun K hK=>?_)
      refine goes_ Try.func47 (by kernel_rfl) rfl #[.agg #[.slice au ah.length av, .slice aw ai.length ax], .int .i64 (wrap64 (aG - 1))] (by rfl) rfl rfl (by(try simp only [List.map_toArray,List.map_cons,List.map_nil]);first | done | rfl | (simp only [List.length_drop,List.length_take];rfl)) ?_
      with_reducible refine(impl_pivotOf.calls k _ _ ah _ _ ai (wrap64 (aG - 1)) aH aJ aK aM _ ?ay ?az ?aA ?aC A5.out).mono ?_
      (case ay=>exact cb_ HR0_0.out HB.out)
      (case az=>exact HC0_0.out)
      (case aA=>exact cb_ HR0_1.out HB.out)
      (case aC=>exact HC0_1.out)
      rintro e w28 ⟨aU,aN,rfl,ho0,ho1,hb⟩;refine⟨_,rfl,?_⟩
      have aq:=q_ (Kd.S_lower ho0 bz_);have aD:=q_ (Kd.R_lower ho1 bz_);replace aa:=q_ (bb_ aa.out hb);replace aj:=q_ (bb_ aj.out hb);replace HB:=q_ (bs_ hb);(try clear hb)
      
      (try clear hk)
      
      (try clear ho0);(try clear ho1);refine hK.out _ _ ⟨(blk_cell aa.out 0).trans rfl,(blk_cell aa.out 1).trans rfl⟩ (fun hHeld=>?_)
      clear hK K;refine norm_ (a':=?_) ?_ ?_
      rotate_left
      ·show Act.put _ (some 15) _=_
       simp only [Act.put,List.setIfInBounds_toArray,List.set_cons_zero,List.set_cons_succ,i64_w,i32_w]
       rfl
      refine pu_ 5 10 ?_;refine pu_ 6 16 ?_;refine pu_ 7 17 ?_
      exact norm_ (by simp only [putAll,Act.put,List.setIfInBounds_toArray,List.set_cons_zero,List.set_cons_succ]) (hCont (aU,aN,ae) _ ⟨hHeld,(so_ aq.out),(ro_ aD.out),bk_,bk_,aQ.out,aT.out,af.out,ak.out,hb_⟩)
    ·skip
     refine box_step ?hg (N:=5) ?hd (cs:= #[.int .i64 0, .slice none 0 0, .slice none 0 0]) (t:=49) ?hr ?_;(case hd=>rfl);(case hg=>rfl);(case hr=>first | (go_simp;done) | (go_simp;rfl))
     intro ae hg w26 hbox hb;have aj:=q_ (hbox);have aQ:=q_ ((by rw [hg];exact bz_:w.heap.size≤ae));have aT:=q_ ((by rw [hg];exact bz_:w.heap.size≤ae));have af:=q_ ((by rw [hg];exact lt_ aa.out:ag≠ae));have ak:=q_ ((by rw [hg];exact gt_ aa.out:ae≠ag));replace aa:=q_ (bb_ aa.out hb);replace HB:=q_ (bs_ hb);clear hb hbox hg;refine hK.out _ _ ⟨(blk_cell aa.out 0).trans rfl,(blk_cell aa.out 1).trans rfl⟩ (fun hHeld=>?_)
     clear hK K;refine norm_ (a':=?_) ?_ ?_
     rotate_left
     ·show Act.put _ (some 5) _=_
      simp only [Act.put,List.setIfInBounds_toArray,List.set_cons_zero,List.set_cons_succ,i64_w,i32_w]
      rfl
     refine on_ 2 (some 13) (fun K hK=>?_)
     refine goes_ Try.func46 (by kernel_rfl) rfl #[.agg #[.slice au ah.length av, .slice aw ai.length ax]] (by rfl) rfl rfl (by(try simp only [List.map_toArray,List.map_cons,List.map_nil]);first | done | rfl | (simp only [List.length_drop,List.length_take];rfl)) ?_
     with_reducible refine(impl_Problem_all.calls _ _ ah _ _ ai aG _ ?ay ?az ?aA ?aC A4.out).mono ?_
     (case ay=>exact cb_ HR0_0.out HB.out)
     (case az=>exact HC0_0.out)
     (case aA=>exact cb_ HR0_1.out HB.out)
     (case aC=>exact HC0_1.out)
     rintro e w27 ⟨rfl,hb⟩;refine⟨_,rfl,?_⟩
     replace aa:=q_ (bb_ aa.out hb);replace aj:=q_ (bb_ aj.out hb);replace HB:=q_ (bs_ hb);(try clear hb)
     
     (try clear hk)
     
     refine hK.out _ _ ⟨(blk_cell aa.out 0).trans rfl,(blk_cell aa.out 1).trans rfl⟩ (fun hHeld=>?_)
     clear hK K;refine norm_ (a':=?_) ?_ ?_
     rotate_left
     ·show Act.put _ (some 13) _=_
      simp only [Act.put,List.setIfInBounds_toArray,List.set_cons_zero,List.set_cons_succ,i64_w,i32_w]
      rfl
     refine pu_ 3 14 ?_
     refine on_ 4 (some 15) (fun K hK=>?_)
     refine goes_ Try.func47 (by kernel_rfl) rfl #[.agg #[.slice au ah.length av, .slice aw ai.length ax], .int .i64 (wrap64 (aG - 1))] (by rfl) rfl rfl (by(try simp only [List.map_toArray,List.map_cons,List.map_nil]);first | done | rfl | (simp only [List.length_drop,List.length_take];rfl)) ?_
     with_reducible refine(impl_pivotOf.calls k _ _ ah _ _ ai (wrap64 (aG - 1)) aH aJ aK aM _ ?ay ?az ?aA ?aC A5.out).mono ?_
     (case ay=>exact cb_ HR0_0.out HB.out)
     (case az=>exact HC0_0.out)
     (case aA=>exact cb_ HR0_1.out HB.out)
     (case aC=>exact HC0_1.out)
     rintro e w28 ⟨aU,aN,rfl,ho0,ho1,hb⟩;refine⟨_,rfl,?_⟩
     have aq:=q_ (Kd.S_lower ho0 bz_);have aD:=q_ (Kd.R_lower ho1 bz_);replace aa:=q_ (bb_ aa.out hb);replace aj:=q_ (bb_ aj.out hb);replace HB:=q_ (bs_ hb);(try clear hb)
     
     (try clear hk)
     
     (try clear ho0);(try clear ho1);refine hK.out _ _ ⟨(blk_cell aa.out 0).trans rfl,(blk_cell aa.out 1).trans rfl⟩ (fun hHeld=>?_)
     clear hK K;refine norm_ (a':=?_) ?_ ?_
     rotate_left
     ·show Act.put _ (some 15) _=_
      simp only [Act.put,List.setIfInBounds_toArray,List.set_cons_zero,List.set_cons_succ,i64_w,i32_w]
      rfl
     refine pu_ 5 10 ?_;refine pu_ 6 16 ?_;refine pu_ 7 17 ?_
     exact norm_ (by simp only [putAll,Act.put,List.setIfInBounds_toArray,List.set_cons_zero,List.set_cons_succ]) (hCont (aU,aN,ae) _ ⟨hHeld,(so_ aq.out),(ro_ aD.out),bk_,bk_,aQ.out,aT.out,af.out,ak.out,hb_⟩)
   rintro ⟨aU,aN,ae⟩ w29 ⟨hS_,h0_,h1_,h2_,h3_,h4_,h5_,h6_,h7_,h8_⟩;have n0_:Aside0 (Kd.S (Kd.slice 2 (Kd.int .i64)) 25 w29 w.heap.size (fun k_=>some k_≠(aN:Value).ownBlock) aU aJ):=⟨h0_⟩
   have n1_:Aside0 (Kd.R (Kd.int .i64) 2 w29 w.heap.size (fun _=>True) aN aK):=⟨h1_⟩
   have n2_:Aside0 (w29.heap[ag]?=some (.cells #[.slice au ah.length av, .slice aw ai.length ax] 27 (0,0))):=⟨h2_⟩
   have n3_:Aside0 (w29.heap[ae]?=some (.cells #[.int .i64 0, .slice none 0 0, .slice none 0 0] 49 (0,0))):=⟨h3_⟩
   have n4_:Aside0 (w.heap.size≤ae):=⟨h4_⟩
   have n5_:Aside0 (w.heap.size≤ae):=⟨h5_⟩
   have n6_:Aside0 (ag≠ae):=⟨h6_⟩
   have n7_:Aside0 (ae≠ag):=⟨h7_⟩
   have n8_:Aside0 (Below w.heap.size w w29):=⟨h8_⟩
   clear aa HB h0_ h1_ h2_ h3_ h4_ h5_ h6_ h7_ h8_;have aq:=n0_;have aD:=n1_;have aa:=n2_;have aj:=n3_;have aQ:=n4_;have aT:=n5_;have af:=n6_;have ak:=n7_;have HB:=n8_;clear n0_ n1_ n2_ n3_ n4_ n5_ n6_ n7_ n8_;have hHeld:w29.cell? ⟨ag,0,none⟩=some (.slice au ah.length av)∧w29.cell? ⟨ag,1,none⟩=some (.slice aw ai.length ax):=hS_;obtain⟨bM,bN,bv⟩:=Kd.S_slice aq.out
   (first | subst bv | (injection bv with f1_ f2_ f3_;have f4_:=f1_.symm;have f5_:=f3_.symm;clear f1_ f2_ f3_;subst f4_;subst f5_))
   obtain⟨bO,bP,bw⟩:=Kd.R_slice aD.out
   (first | subst bw | (injection bw with f1_ f2_ f3_;have f4_:=f1_.symm;have f5_:=f3_.symm;clear f1_ f2_ f3_;subst f4_;subst f5_))
   refine norm_ (a':=?_) ?_ ?_
   rotate_left
   ·simp only [putAll,Act.put,List.setIfInBounds_toArray,List.set_cons_zero,List.set_cons_succ]
    rfl
   refine on_ 9 none (fun K hK=>?_)
   have hs30:=cz_ aj 0;have hfs30:=blk_frozen aj.out 0;have hns30_0:=af.out;have hms30_0:=ak.out;have hs32:=cz_ aj 1;have hfs32:=blk_frozen aj.out 1;have hns32_0:=af.out;have hms32_0:=ak.out;have hs34:=cz_ aj 2;have hfs34:=blk_frozen aj.out 2;have hns34_0:=af.out;have hms34_0:=ak.out;refine skip_ (w1:=?_) (by rfl) rfl ?_ ?_
   rotate_left
   ·go_simp
    rfl
   refine hK.out _ _ ⟨((cell_far (p:=⟨ae,_,none⟩) af.out _).trans (((cell_far (p:=⟨ae,_,none⟩) af.out _).trans (((cell_far (p:=⟨ae,_,none⟩) af.out _).trans (hHeld.1)))))),((cell_far (p:=⟨ae,_,none⟩) af.out _).trans (((cell_far (p:=⟨ae,_,none⟩) af.out _).trans (((cell_far (p:=⟨ae,_,none⟩) af.out _).trans (hHeld.2))))))⟩ (fun hHeld=>?_)
   clear hK K;refine pu_ 10 6 ?_
   refine done_ (done_of HT_.out (by kernel_rfl)) ?_
   try go_wp2
   go_ret3
   exact⟨_,by first | rfl | (simp [errW_none,errW_some] <;> rfl) | (simp [*,errW_none,errW_some] <;> rfl),by first | exact Kd.S_nil _ _ _ _ _ | exact Kd.N_nil _ _ _ _ _ | exact Kd.V_nil _ _ _ _ _ | exact Kd.Q_nil _ _ _ _ _ | exact Kd.R_nil _ _ _ _ _,hb_⟩
 ·replace c3:=Bool.eq_false_iff.mpr c3;subst c3;have H1:(some (([]:List (List Int)),0,1))=some (r1,r2,r3):=by rw [if_neg (show ¬ (false=true) by decide)] at H;exact H
  clear H;have H:=H1;clear H1;simp only [Option.some.injEq,Prod.mk.injEq] at H;obtain⟨rfl,rfl,rfl⟩:=H
  go_enter Try.func31,Try.ntmps31
  go_wp2_with (first | ((with_reducible refine gate_dst (N:=1) rfl ?_);refine be_ 1 #[.slice au ah.length av, .slice aw ai.length ax] 27 ?_;intro ag hg w35 hbox hb;have aa:=q_ (hbox);have bh:=q_ ((by rw [hg];exact bz_:w.heap.size≤ag));have bk:=q_ ((by rw [hg];exact bz_:w.heap.size≤ag));replace HB:=q_ (bs_ hb);clear hb hbox hg;have bE:=cz_ aa 0;have bF:=cz_ aa 1;have bG:=blk_frozen aa.out 0;have bH:=blk_frozen aa.out 1) | ((with_reducible refine gate_callee (f:=39) rfl ?_);refine gL_ 8 Try.func39 #[.agg #[.slice au ah.length av, .slice aw ai.length ax]] ?_;(with_reducible refine(impl_IsProblem.calls _ _ ah _ _ ai false _ ?ay ?az ?aA ?aC A2.out).mono ?_);(case ay=>exact cb_ HR0_0.out HB.out);(case az=>exact HC0_0.out);(case aA=>exact cb_ HR0_1.out HB.out);(case aC=>exact HC0_1.out);rintro e w37 ⟨rfl,hb⟩;refine⟨_,rfl,?_⟩;replace aa:=q_ (bb_ aa.out hb);replace HB:=q_ (bs_ hb);(try clear hb);(try clear hk)))
  go_ret3
  exact⟨_,by first | rfl | (simp [errW_none,errW_some] <;> rfl) | (simp [*,errW_none,errW_some] <;> rfl),by first | exact Kd.S_nil _ _ _ _ _ | exact Kd.N_nil _ _ _ _ _ | exact Kd.V_nil _ _ _ _ _ | exact Kd.Q_nil _ _ _ _ _ | exact Kd.R_nil _ _ _ _ _,hb_⟩
end Go.Proofs.Ytbjljcpngbhkeaa.Pr
end
section
namespace Go.Proofs.Ytbjljcpngbhkeaa.Pp
open Go.RowKit Go.Proofs.YtbjljcpngbhkeaaW.PrintWords Go.Proofs.YtbjljcpngbhkeaaW.PrintMore Go.Proofs.Ytbjljcpngbhkeaa.Ma Go.Proofs.Ytbjljcpngbhkeaa.Pr Go.Proofs.Ytbjljcpngbhkeaa.Dt Go.Proofs.Ytbjljcpngbhkeaa.Bz Go.Proofs.Ytbjljcpngbhkeaa.Un Go.Proofs.Ytbjljcpngbhkeaa.Cz Go.Proofs.Ytbjljcpngbhkeaa.Pb Go.Proofs.Ytbjljcpngbhkeaa.Mn Go.Proofs.Ytbjljcpngbhkeaa.Sv Go.Proofs.Ytbjljcpngbhkeaa.Pv Go.Proofs.Ytbjljcpngbhkeaa.La Go.Proofs.Ytbjljcpngbhkeaa.Hm
open Classical in
theorem inverse (M:List (List Int)) (Q:List Int) (hQ:Q.length≤1048576): ∃R:List (List Int) × Int × Int,Ev (fun k=>spec_InverseOf.f k M Q) R∧Ev (fun k=>impl_InverseOf.f k M Q) R∧Few R.1:=by
 have is:=Pb.impl_is M Q (decide (POK M Q)) (by simp)
 have ss:=Pb.spec_is M Q hQ (decide (POK M Q)) (by simp)
 by_cases p:POK M Q
 ·have hq:=p.len;have h5:=p.mat.n5
  have c:codeS M Q (((2 ^ Q.length:Nat):Int) - 1)=0:=by
   unfold codeS
   rw [if_pos p,if_pos ⟨by have:1≤2 ^ Q.length:=Nat.one_le_two_pow;omega,Int.le_refl _⟩]
  have ip:=impl_pivotOf_eq M Q (((2 ^ Q.length:Nat):Int) - 1)
  have sp:=spec_pivot p.mat.sq p.mat.n5 (((2 ^ Q.length:Nat):Int) - 1) Q p.len (POK.small p)
  have es:wrap64 (shl .i64 1 (IntKind.u64.wrap (Q.length:Int)) - 1)=((2 ^ Q.length:Nat):Int) - 1:=by
   rw [u64w (x:=(Q.length:Int)) (by omega) (by omega),pow_sub (by omega)]
  have ei:wrap64 (shl .i64 1 (Q.length:Int) - 1)=((2 ^ Q.length:Nat):Int) - 1:=pow_sub (by omega)
  have hu:IntKind.u64.wrap (Q.length:Int)=(Q.length:Int):=u64w (by omega) (by omega)
  generalize ((2 ^ Q.length:Nat):Int) - 1=s at*
  unfold pvO at ip
  rw [if_pos c] at ip
  unfold pvA at sp
  by_cases d:det M.length (Cm s M)=0
  ·rw [if_pos d] at ip sp
   refine⟨([],0,5),?_,?_,Few.nil⟩
   ·unfold spec_InverseOf.f
    refine evbind ss (evpos (by simpa using p) (evpos (by omega) ?_))
    rw [es]
    exact evbind sp (evneg (by simp) (evc rfl))
   ·unfold impl_InverseOf.f impl_Problem_all.f
    refine evsome is (evpos (by simpa using p) (evsome rfl ?_))
    rw [ei]
    exact evbind ip (evneg (by simp) (evc rfl))
  ·rw [if_neg d] at ip sp
   refine⟨(pvR M.length M s,ab (det M.length (Cm s M)),0),?_,?_,pvR_few h5 M s⟩
   ·unfold spec_InverseOf.f
    refine evbind ss (evpos (by simpa using p) (evpos (by omega) ?_))
    rw [es]
    exact evbind sp (evpos rfl (evc rfl))
   ·unfold impl_InverseOf.f impl_Problem_all.f
    refine evsome is (evpos (by simpa using p) (evsome rfl ?_))
    rw [ei]
    exact evbind ip (evpos rfl (evc rfl))
 ·refine⟨([],0,1),?_,?_,Few.nil⟩
  ·unfold spec_InverseOf.f;exact evbind ss (evneg (by simpa using p) (evc rfl))
  ·unfold impl_InverseOf.f;exact evsome is (evneg (by simpa using p) (evc rfl))
end Go.Proofs.Ytbjljcpngbhkeaa.Pp
end
section
namespace Go.Proofs.Ytbjljcpngbhkeaa.Pp
open Go.RowKit Go.Proofs.YtbjljcpngbhkeaaW.PrintWords Go.Proofs.YtbjljcpngbhkeaaW.PrintMore Go.Proofs.Ytbjljcpngbhkeaa.Ma Go.Proofs.Ytbjljcpngbhkeaa.Pr Go.Proofs.Ytbjljcpngbhkeaa.Dt Go.Proofs.Ytbjljcpngbhkeaa.Bz Go.Proofs.Ytbjljcpngbhkeaa.Un Go.Proofs.Ytbjljcpngbhkeaa.Cz Go.Proofs.Ytbjljcpngbhkeaa.Pb Go.Proofs.Ytbjljcpngbhkeaa.Mn Go.Proofs.Ytbjljcpngbhkeaa.Sv Go.Proofs.Ytbjljcpngbhkeaa.Pv Go.Proofs.Ytbjljcpngbhkeaa.Pvb
theorem like_same (l:List Int) (hl:l.length≤1048576):Ev (fun k=>laws_likeInts.f k l l) true:=by
 unfold laws_likeInts.f
 refine evpos rfl ?_
 have key: ∀m i,i+m=l.length→Ev (fun k=>laws_likeInts.l0 k l l (i:Int)) true:=by
  intro m
  induction m with
  | zero=>
   intro i hi
   exact evstep (fun k=>by rw [laws_likeInts.l0]) (evneg (by omega) (evc rfl))
  | succ m ih=>
   intro i hi
   refine evstep (fun k=>by rw [laws_likeInts.l0]) (evpos (by omega) (evpos (by omega) (evpos (by omega) (evpos rfl ?_))))
   rw [w64 (x:=(i:Int)+1) (by omega) (by omega)]
   exact ih (i+1) (by omega)
 exact key l.length 0 (by omega)
theorem rows_same (l:List (List Int)) (h:Few l):Ev (fun k=>laws_rows9.f k l l) true:=by
 have hl:=h.len
 unfold laws_rows9.f
 refine evpos rfl ?_
 have key: ∀m i,i+m=l.length→Ev (fun k=>laws_rows9.l0 k l l (i:Int)) true:=by
  intro m
  induction m with
  | zero=>
   intro i hi
   exact evstep (fun k=>by rw [laws_rows9.l0]) (evneg (by omega) (evc rfl))
  | succ m ih=>
   intro i hi
   have hm:l.getD i [] ∈ l:=by
    rw [List.getD_eq_getElem?_getD,List.getElem?_eq_getElem (by omega)]
    exact List.getElem_mem _
   have:=h.row _ hm
   refine evstep (fun k=>by rw [laws_rows9.l0]) (evpos (by omega) (evpos (by omega) (evpos (by omega) ?_)))
   rw [rdL1]
   refine evbind (like_same _ (by omega)) (evpos rfl ?_)
   rw [w64 (x:=(i:Int)+1) (by omega) (by omega)]
   exact ih (i+1) (by omega)
 exact key l.length 0 (by omega)
theorem problem_same (l:List (List Int)) (x:List Int) (h:Few l) (hx:x.length≤1048576):Ev (fun k=>laws_problem9.f k l x l x) true:=by
 unfold laws_problem9.f
 exact evbind (rows_same l h) (evpos rfl (evbind (like_same x hx) (evc rfl)))
theorem pivot_same (d:Int) (l:List (List Int)) (x:List Int) (h:Few l) (hx:x.length≤1048576):Ev (fun k=>laws_pivot9.f k d l x d l x) true:=by
 unfold laws_pivot9.f
 exact evpos rfl (evbind (rows_same l h) (evpos rfl (evbind (like_same x hx) (evc rfl))))
theorem POK.few {M:List (List Int)} {Q:List Int} (p:POK M Q):Few M:=⟨p.mat.n5,fun x hx=>by
 have:=POK.rows p x hx
 have:=p.mat.n5
 omega⟩
theorem pivot_none {M:List (List Int)} {Q:List Int} (p:POK M Q):det M.length (Cm 0 M)=1∧pvR M.length M 0=M∧pvS M.length M 0 Q=Q:=by
 have hb: ∀i,i < M.length→bB 0 i=false:=fun i hi=>by
  have h5:=p.mat.n5
  have:=bB_nat 0 i (by omega)
  rw [Nat.zero_testBit] at this
  exact this
 have hC: ∀i j,i < M.length→j < M.length→Cm 0 M i j=one i j:=fun i j hi hj=>by
  unfold Cm colM one
  rw [if_neg (by rw [hb j hj];decide)]
 have hd:det M.length (Cm 0 M)=1:=by rw [det_congr hC,det_one]
 have hset: ∀(v:Nat→Int) r,r < M.length→det M.length (cset r v (Cm 0 M))=v r:=fun v r hr=>by
  rw [← det_cset_one hr v]
  refine det_congr (fun i j hi hj=>?_)
  unfold cset
  split
  ·rfl
  ·exact hC i j hi hj
 refine⟨hd,?_,?_⟩
 ·refine lists_eq (n:=M.length) (pvR_len _ _ _) rfl (fun i hi=>pvR_getD' hi M 0) (fun i hi=>p.mat.sq.row i hi) (fun r c hr hc=>?_)
  rw [pv_en p.mat.sq p.mat.n5 0 hr hc,hd,hset _ r hr]
  unfold outC
  rw [if_neg (by rw [hb c hc];decide)]
  show -(1* -(en M r c))=en M r c
  omega
 ·refine list_eq (n:=M.length) (pvS_len _ _ _ _) p.len (fun r hr=>?_)
  rw [pv_side hr,hd,hset _ r hr]
  show 1*_=_
  omega
structure PvF (k:Nat) (M:List (List Int)) (Q:List Int) (s den:Int) (R:List (List Int)) (S:List Int) (c:Int) (wh:Bool) (cw:Int) (sg:List (List Int)) (cs:Int):Prop where
 i1:impl_PivotOf.f k M Q s=some (den,R,S,c)
 s1:spec_PivotOf.f k M Q s=some (den,R,S,c)
 q1:laws_pivot9.f k den R S den R S=some true
 i2:impl_IsWholePivot.f k M Q s=some (wh,cw)
 s2:spec_IsWholePivot.f k M Q s=some (wh,cw)
 i3:impl_SignsOfPivot.f k M Q s=some (sg,cs)
 s3:spec_SignsOfPivot.f k M Q s=some (sg,cs)
 q3:laws_rows9.f k sg sg=some true
 bad:c≠0→den=0∧cw=c∧cs=c
 good:c=0→codeS M Q s=0∧1≤den∧den≤1920000000∧(det M.length (Cm s M)=den∨det M.length (Cm s M)= - den)∧sg.length=Q.length
 none:c=0→s=0→den=1∧laws_rows9.f k R M=some true∧laws_likeInts.f k S Q=some true
theorem all_pivot (M:List (List Int)) (Q:List Int) (s:Int) (hQ:Q.length≤1048576): ∃(k:Nat) (den:Int) (R:List (List Int)) (S:List Int) (c:Int) (wh:Bool) (cw:Int) (sg:List (List Int)) (cs:Int),PvF k M Q s den R S c wh cw sg cs:=by
 have ip:=impl_pivotOf_eq M Q s
 have i1:Ev (fun k=>impl_PivotOf.f k M Q s) (pvO M Q s):=by unfold impl_PivotOf.f;exact evbind ip (evc rfl)
 have s1:=spec_PivotOf_eq M Q s hQ
 obtain⟨⟨wh,cw⟩,s2,i2⟩:=isWhole M Q s hQ
 obtain⟨⟨sg,cs⟩,s3,i3,hf⟩:=signs M Q s hQ
 replace hf:Few sg:=hf
 obtain⟨fR,fS⟩:=pvO_few M Q s
 have q1:=pivot_same (pvO M Q s).1 (pvO M Q s).2.1 (pvO M Q s).2.2.1 fR (by omega)
 have q3:=rows_same sg hf
 have bad:(pvO M Q s).2.2.2≠0→(pvO M Q s).1=0∧cw=(pvO M Q s).2.2.2∧cs=(pvO M Q s).2.2.2:=fun c=>by
  have e1:(wh,cw)=(false,(pvO M Q s).2.2.2):=by
   refine ev_eq i2 ?_
   unfold impl_IsWholePivot.f
   exact evbind ip (evneg c (evc rfl))
  have e2:(sg,cs)=([],(pvO M Q s).2.2.2):=by
   refine ev_eq i3 ?_
   unfold impl_SignsOfPivot.f
   exact evbind ip (evneg c (evc rfl))
  injection e1 with _ e1
  injection e2 with _ e2
  refine⟨?_,e1,e2⟩
  unfold pvO at c ⊢
  by_cases c1:codeS M Q s=0
  ·rw [if_pos c1] at c ⊢
   by_cases d:det M.length (Cm s M)=0
   ·rw [if_pos d]
   ·rw [if_neg d] at c;exact absurd rfl c
  ·rw [if_neg c1]
 have good:(pvO M Q s).2.2.2=0→codeS M Q s=0∧1≤(pvO M Q s).1∧(pvO M Q s).1≤1920000000∧(det M.length (Cm s M)=(pvO M Q s).1∨det M.length (Cm s M)= - (pvO M Q s).1)∧sg.length=Q.length:=fun c=>by
  obtain⟨c1,d⟩:=pvO_zero c
  obtain⟨p,hs⟩:=code_zero c1
  have h5:=p.mat.n5
  have hD:=ab_pos d
  have db:=D_b p.mat.sq h5 s
  have e:=pvO_at c1 d
  have e2:(sg,cs)=(sgR (pvR M.length M s) (pvS M.length M s Q) M.length,0):=by
   refine ev_eq i3 ?_
   rw [e] at ip
   unfold impl_SignsOfPivot.f
   refine evbind ip (evpos rfl ?_)
   dsimp only
   rw [pvR_len]
   exact impl_signs_loop h5 (pvR M.length M s) (pvS M.length M s Q) (pvR_len _ _ _) (pvR_row _ _ _) (pvS_len _ _ _ _) (ab (det M.length (Cm s M))) M.length 0 (by omega)
  injection e2 with e2 _
  rw [e]
  refine⟨c1,by show 1≤ab _;omega,?_,?_,by rw [e2,sgR_len,p.len]⟩
  ·show ab (det M.length (Cm s M))≤_
   replace db: -1920000000≤det M.length (Cm s M)∧det M.length (Cm s M)≤1920000000:=db
   unfold ab;split <;> omega
  ·show _=ab (det M.length (Cm s M))∨_= - ab (det M.length (Cm s M))
   unfold ab;split <;> omega
 have none_:(pvO M Q s).2.2.2=0→s=0→(pvO M Q s).1=1∧(pvO M Q s).2.1=M∧(pvO M Q s).2.2.1=Q∧Few M∧Q.length≤5:=fun c h0=>by
  obtain⟨c1,d⟩:=pvO_zero c
  obtain⟨p,hs⟩:=code_zero c1
  subst h0
  obtain⟨e1,e2,e3⟩:=pivot_none p
  rw [pvO_at c1 d,e1,e2,e3]
  exact⟨rfl,rfl,rfl,POK.few p,by have:=p.len;have:=p.mat.n5;omega⟩
 obtain⟨n1,i1⟩:=i1
 obtain⟨n2,s1⟩:=s1
 obtain⟨n3,s2⟩:=s2
 obtain⟨n4,i2⟩:=i2
 obtain⟨n5,s3⟩:=s3
 obtain⟨n6,i3⟩:=i3
 obtain⟨n7,q1⟩:=q1
 obtain⟨n8,q3⟩:=q3
 by_cases z:(pvO M Q s).2.2.2=0∧s=0
 ·obtain⟨z1,z2,z3,z4,z5⟩:=none_ z.1 z.2
  obtain⟨n9,q9⟩:=rows_same M z4
  obtain⟨na,qa⟩:=like_same Q (by omega)
  refine⟨n1+n2+n3+n4+n5+n6+n7+n8+n9+na,(pvO M Q s).1,(pvO M Q s).2.1,(pvO M Q s).2.2.1,(pvO M Q s).2.2.2,wh,cw,sg,cs,i1 _ (by omega),s1 _ (by omega),q1 _ (by omega),i2 _ (by omega),s2 _ (by omega),i3 _ (by omega),s3 _ (by omega),q3 _ (by omega),bad,good,fun _ _=>⟨z1,?_,?_⟩⟩
  ·rw [z2];exact q9 _ (by omega)
  ·rw [z3];exact qa _ (by omega)
 ·exact⟨n1+n2+n3+n4+n5+n6+n7+n8,(pvO M Q s).1,(pvO M Q s).2.1,(pvO M Q s).2.2.1,(pvO M Q s).2.2.2,wh,cw,sg,cs,i1 _ (by omega),s1 _ (by omega),q1 _ (by omega),i2 _ (by omega),s2 _ (by omega),i3 _ (by omega),s3 _ (by omega),q3 _ (by omega),bad,good,fun c h0=>absurd ⟨c,h0⟩ z⟩
structure PpF (k:Nat) (M:List (List Int)) (Q:List Int) (s:Int) (M':List (List Int)) (Q':List Int) (c:Int):Prop where
 im:impl_PivotedProblem.f k M Q s=some (M',Q',c)
 sp:spec_PivotedProblem.f k M Q s=some (M',Q',c)
 q:laws_problem9.f k M' Q' M' Q'=some true
 back:c=0→impl_PivotedProblem.f k M' Q' s=some (M,Q,0)∧laws_problem9.f k M Q M Q=some true
theorem all_pivoted (M:List (List Int)) (Q:List Int) (s:Int) (hQ:Q.length≤1048576): ∃(k:Nat) (M':List (List Int)) (Q':List Int) (c:Int),PpF k M Q s M' Q' c:=by
 obtain⟨⟨M',Q',c⟩,s1,i1,hf,hq⟩:=pivoted M Q s hQ
 replace hf:Few M':=hf
 replace hq:Q'.length≤5:=hq
 have e:(M',Q',c)=ppO M Q s:=ev_eq i1 (impl_pivoted M Q s)
 have q1:=problem_same M' Q' hf (by omega)
 obtain⟨n1,s1⟩:=s1
 obtain⟨n2,i1⟩:=i1
 obtain⟨n3,q1⟩:=q1
 by_cases hc:c=0
 ·have hz:(ppO M Q s).2.2=0:=by rw [← e];exact hc
  have hb:=pivot_back hz
  rw [← e] at hb
  have i2:=impl_pivoted M' Q' s
  rw [hb] at i2
  obtain⟨p,_⟩:=code_zero (ppO_zero hz).1
  obtain⟨n4,i2⟩:=i2
  obtain⟨n5,q2⟩:=problem_same M Q (POK.few p) (by omega)
  exact⟨n1+n2+n3+n4+n5,M',Q',c,i1 _ (by omega),s1 _ (by omega),q1 _ (by omega),fun _=>⟨i2 _ (by omega),q2 _ (by omega)⟩⟩
 ·exact⟨n1+n2+n3,M',Q',c,i1 _ (by omega),s1 _ (by omega),q1 _ (by omega),fun h=>absurd h hc⟩
structure InF (k:Nat) (M:List (List Int)) (Q:List Int) (V:List (List Int)) (den c:Int):Prop where
 im:impl_InverseOf.f k M Q=some (V,den,c)
 sp:spec_InverseOf.f k M Q=some (V,den,c)
 q:laws_rows9.f k V V=some true
 prod:c=0→M.length=Q.length∧V.length=Q.length∧Q.length≤5∧(∀i,i < Q.length→(M.getD i []).length=Q.length)∧(∀i,i < Q.length→(V.getD i []).length=Q.length)∧(∀i j,i < Q.length→j < Q.length→(en M i j).natAbs≤20)∧(∀i j,i < Q.length→j < Q.length→(en V i j).natAbs≤1920000000)∧ ∀i j,i < Q.length→j < Q.length→sm Q.length (fun t=>en M i t*en V t j)=if i=j then den else 0
theorem full_bit {n i:Nat} (h5:n≤5) (hi:i < n):bB (((2 ^ n:Nat):Int) - 1) i=true:=by
 have e:((2 ^ n:Nat):Int) - 1=((2 ^ n - 1:Nat):Int):=by have:1≤2 ^ n:=Nat.one_le_two_pow;omega
 rw [e,bB_nat _ _ (by omega),Nat.testBit_two_pow_sub_one]
 exact decide_eq_true hi
theorem all_inverse (M:List (List Int)) (Q:List Int) (hQ:Q.length≤1048576): ∃(k:Nat) (V:List (List Int)) (den c:Int),InF k M Q V den c:=by
 classical
 obtain⟨⟨V,den,c⟩,s1,i1,hf⟩:=inverse M Q hQ
 replace hf:Few V:=hf
 have q1:=rows_same V hf
 have is:=Pb.impl_is M Q (decide (POK M Q)) (by simp)
 have prod:c=0→M.length=Q.length∧V.length=Q.length∧Q.length≤5∧(∀i,i < Q.length→(M.getD i []).length=Q.length)∧(∀i,i < Q.length→(V.getD i []).length=Q.length)∧(∀i j,i < Q.length→j < Q.length→(en M i j).natAbs≤20)∧(∀i j,i < Q.length→j < Q.length→(en V i j).natAbs≤1920000000)∧ ∀i j,i < Q.length→j < Q.length→sm Q.length (fun t=>en M i t*en V t j)=if i=j then den else 0:=fun hc=>by
  by_cases p:POK M Q
  ·have hq:=p.len;have h5:=p.mat.n5
   have ei:wrap64 (shl .i64 1 (Q.length:Int) - 1)=((2 ^ Q.length:Nat):Int) - 1:=pow_sub (by omega)
   have ip:=impl_pivotOf_eq M Q (((2 ^ Q.length:Nat):Int) - 1)
   have hbit: ∀i,i < M.length→bB (((2 ^ Q.length:Nat):Int) - 1) i=true:=fun i hi=>full_bit (by omega) (by omega)
   have e:(V,den,c)=(if(pvO M Q (((2 ^ Q.length:Nat):Int) - 1)).2.2.2=0 then((pvO M Q (((2 ^ Q.length:Nat):Int) - 1)).2.1,(pvO M Q (((2 ^ Q.length:Nat):Int) - 1)).1,0) else([],0,(pvO M Q (((2 ^ Q.length:Nat):Int) - 1)).2.2.2)):=by
    refine ev_eq i1 ?_
    unfold impl_InverseOf.f impl_Problem_all.f
    refine evsome is (evpos (by simpa using p) (evsome rfl ?_))
    rw [ei]
    refine evbind ip ?_
    by_cases z:(pvO M Q (((2 ^ Q.length:Nat):Int) - 1)).2.2.2=0
    ·rw [if_pos z];exact evc (congrArg some (if_pos z).symm)
    ·rw [if_neg z];exact evc (congrArg some (if_neg z).symm)
   generalize ((2 ^ Q.length:Nat):Int) - 1=s at*
   by_cases z:(pvO M Q s).2.2.2=0
   ·rw [if_pos z] at e
    obtain⟨c1,d⟩:=pvO_zero z
    rw [pvO_at c1 d] at e
    injection e with e1 e2
    injection e2 with e2 _
    have hl:=pvR_len M.length M s
    refine⟨hq.symm,by rw [e1,hq];exact hl,by omega,fun i hi=>by rw [hq];exact p.mat.sq.row i (by omega),fun i hi=>by rw [e1,hq];exact pvR_getD' (by omega) M s,fun i j hi hj=>p.mat.sq.num i j (by omega) (by omega),fun i j hi hj=>?_,fun i j hi hj=>?_⟩
    ·rw [e1]
     have:=pv_bnd p.mat.sq h5 s (r:=i) (c:=j) (by omega) (by omega)
     show (en (pvR M.length M s) i j).natAbs≤_
     omega
    ·have ha:=adj_col (n:=M.length) (Cm s M) (outC (bB s) (en M) j) (j:=i) (by omega)
     rw [hq,e1,e2]
     have eT:sm M.length (fun t=>en M i t*en (pvR M.length M s) t j)=sgn (det M.length (Cm s M))*sm M.length (fun t=>Cm s M i t*det M.length (cset t (outC (bB s) (en M) j) (Cm s M))):=by
      rw [← sm_mul]
      refine sm_congr (fun t ht=>?_)
      rw [pv_en p.mat.sq h5 s ht (by omega)]
      have:Cm s M i t= - en M i t:=by unfold Cm colM;rw [if_pos (hbit t ht)]
      rw [this,Int.mul_neg,Int.neg_mul,Int.mul_neg, ← Int.mul_assoc, ← Int.mul_assoc,Int.mul_comm (en M i t)]
     rw [eT,ha, ← Int.mul_assoc,sgn_mul_ab]
     unfold outC
     rw [if_pos (hbit j (by omega))]
     by_cases ij:i=j
     ·rw [if_pos ij,if_pos ij,Int.mul_one]
     ·rw [if_neg ij,if_neg ij,Int.mul_zero]
   ·rw [if_neg z] at e
    injection e with _ e
    injection e with _ e
    exact absurd (e.symm.trans hc) z
  ·have e:(V,den,c)=([],0,1):=by
    refine ev_eq i1 ?_
    unfold impl_InverseOf.f
    exact evsome is (evneg (by simpa using p) (evc rfl))
   injection e with _ e
   injection e with _ e
   rw [e] at hc;cases hc
 obtain⟨n1,s1⟩:=s1
 obtain⟨n2,i1⟩:=i1
 obtain⟨n3,q1⟩:=q1
 exact⟨n1+n2+n3,V,den,c,i1 _ (by omega),s1 _ (by omega),q1 _ (by omega),prod⟩
end Go.Proofs.Ytbjljcpngbhkeaa.Pp
end
section
namespace Go.Proofs.Ytbjljcpngbhkeaa.Dr
open Go.RowKit Go.Proofs.YtbjljcpngbhkeaaW.PrintWords Go.Proofs.YtbjljcpngbhkeaaW.PrintMore Go.Proofs.Ytbjljcpngbhkeaa.Ma Go.Proofs.Ytbjljcpngbhkeaa.Pr
def Ex {α:Type} (g:Nat→Option α) (P:α→Prop):Prop:= ∃r,Ev g r∧P r
theorem exc {α:Type} {g:Option α} {r:α} {P:α→Prop} (h:g=some r) (p:P r):Ex (fun _=>g) P:=⟨r,evc h,p⟩
theorem expos {α:Type} {A B:Nat→Option α} {P:α→Prop} {c:Prop} [Decidable c] (h:c) (k:Ex A P):Ex (fun n=>if c then A n else B n) P:=by
 obtain⟨r,e,p⟩:=k;exact⟨r,evpos h e,p⟩
theorem exneg {α:Type} {A B:Nat→Option α} {P:α→Prop} {c:Prop} [Decidable c] (h: ¬ c) (k:Ex B P):Ex (fun n=>if c then A n else B n) P:=by
 obtain⟨r,e,p⟩:=k;exact⟨r,evneg h e,p⟩
theorem exstep {α:Type} {g f:Nat→Option α} {P:α→Prop} (h: ∀k,g (k+1)=f k) (k:Ex f P):Ex g P:=by
 obtain⟨r,e,p⟩:=k;exact⟨r,evstep h e,p⟩
theorem exbind {α β:Type} {g:Nat→Option α} {f:Nat→α→Option β} {P:α→Prop} {Q:β→Prop} (h:Ex g P) (k: ∀a,P a→Ex (fun n=>f n a) Q):Ex (fun n=>(g n).bind (f n)) Q:=by
 obtain⟨r,e,p⟩:=h;obtain⟨s,e2,q⟩:=k r p;exact⟨s,evbind e e2,q⟩
theorem exsome {α β:Type} {g:Option α} {f:Nat→α→Option β} {a:α} {Q:β→Prop} (h:g=some a) (k:Ex (fun n=>f n a) Q):Ex (fun n=>g.bind (f n)) Q:=by
 obtain⟨s,e2,q⟩:=k;exact⟨s,evsome h e2,q⟩
structure Src (b:List Int) (a:Int):Prop where
 byte: ∀i:Nat,0≤b.getD i 0∧b.getD i 0≤255
 len:b.length≤4096
 at0:0≤a
 at1:a≤4096
theorem and30 (x:Int): ∃m:Nat,Go.bits .and .u64 x 1073741823=(m:Int)∧m≤1073741823:=by
 have h:(BitVec.ofInt 64 x &&& BitVec.ofInt 64 1073741823).toNat≤1073741823:=by
  rw [BitVec.toNat_and];exact Nat.le_trans Nat.and_le_right (by decide)
 refine⟨_,?_,h⟩
 show IntKind.u64.wrap (((BitVec.ofInt 64 x &&& BitVec.ofInt 64 1073741823).toNat:Nat):Int)=_
 exact IntWalk.u64_in _ ⟨by omega,by omega⟩
theorem next_f {b:List Int} {a:Int} (hs:Src b a) (h n:Int): ∃x a' h',spec_l01Next.f b a h n=some (x,a',h')∧Src b a'∧(1≤n→0≤x∧x < n)∧(n < 1→x=0):=by
 unfold spec_l01Next.f
 by_cases c:n < 1
 ·exact⟨0,a,h,if_pos c,hs,fun h=>absurd c (by omega),fun _=>rfl⟩
 ·rw [if_neg c]
  obtain⟨m,hm,hm2⟩:=and30 ((IntKind.u64.wrap ((IntKind.u64.wrap (h*6364136223846793005))+1442695040888963407)) / 2147483648)
  rw [hm,w64 (x:=(m:Int)) (by omega) (by omega)]
  have tm: ∀y:Int,0≤y→0≤Int.tmod y n∧Int.tmod y n < n:=fun y hy=>⟨Int.tmod_nonneg _ hy,Int.tmod_lt_of_pos _ (by omega)⟩
  by_cases d:a < (b.length:Int)
  ·have hb:=hs.byte a.toNat
   have e:rd b a=b.getD a.toNat 0:=rfl
   rw [if_pos d,if_pos hs.at0,if_neg (by omega),e,w64 (x:=b.getD a.toNat 0) (by omega) (by omega),w64 (x:=(m:Int)+_) (by omega) (by omega),w64 (x:=a+1) (by have:=hs.at0;omega) (by have:=hs.at1;omega)]
   exact⟨_,_,_,rfl,⟨hs.byte,hs.len,by have:=hs.at0;omega,by have:=hs.len;omega⟩,fun _=>tm _ (by omega),fun h=>absurd h c⟩
  ·rw [if_neg d,if_neg (by omega)]
   exact⟨_,_,_,rfl,hs,fun _=>tm _ (by omega),fun h=>absurd h c⟩
theorem next_ex {b:List Int} {a:Int} (hs:Src b a) (h n:Int):Ex (fun _=>spec_l01Next.f b a h n) (fun r=>Src b r.2.1∧(1≤n→0≤r.1∧r.1 < n)∧(n < 1→r.1=0)):=by
 obtain⟨x,a',h',e,p⟩:=next_f hs h n
 exact exc e p
theorem pick_ex {b:List Int} {a:Int} (hs:Src b a) (h:Int) (l:List Int) (hl:1≤l.length):Ex (fun _=>spec_l01Pick.f b a h l) (fun r=>Src b r.2.1∧r.1 ∈ l):=by
 unfold spec_l01Pick.f
 refine exbind (next_ex hs h _) (fun r p=>?_)
 have hr:=p.2.1 (by omega)
 refine expos hr.1 (expos hr.2 (exc rfl ⟨p.1,?_⟩))
 show l.getD r.1.toNat 0 ∈ l
 rw [List.getD_eq_getElem?_getD,List.getElem?_eq_getElem (show r.1.toNat < l.length by omega)]
 exact List.getElem_mem _
theorem from_ex {b:List Int} (hb: ∀i:Nat,0≤b.getD i 0∧b.getD i 0≤255) (hl:b.length≤4096):Ex (fun k=>spec_l01From.f k b) (fun r=>r.1=b∧Src b r.2.1):=by
 have fin:Src b 0:=⟨hb,hl,by decide,by decide⟩
 have key: ∀m i h,i+m=b.length→Ex (fun k=>spec_l01From.l0 k b (i:Int) b 0 h) (fun r=>r.1=b∧Src b r.2.1):=by
  intro m
  induction m with
  | zero=>
   intro i h hi
   refine exstep (fun k=>by rw [spec_l01From.l0]) ?_
   exact exneg (by omega) (exc rfl ⟨rfl,fin⟩)
  | succ m ih=>
   intro i h hi
   refine exstep (fun k=>by rw [spec_l01From.l0]) ?_
   refine expos (by omega) (expos (by omega) (expos (by omega) ?_))
   rw [w64 (x:=(i:Int)+1) (by omega) (by omega)]
   exact ih (i+1) _ (by omega)
 exact key b.length 0 _ (by omega)
end Go.Proofs.Ytbjljcpngbhkeaa.Dr
end
section
namespace Go.Proofs.Ytbjljcpngbhkeaa.Pr
open Go.RowKit Go.Proofs.YtbjljcpngbhkeaaW.PrintWords Go.Proofs.YtbjljcpngbhkeaaW.PrintLast Go.Proofs.YtbjljcpngbhkeaaW.PrintMore Go.Proofs.Ytbjljcpngbhkeaa.Al Go.Proofs.Ytbjljcpngbhkeaa.Dr Go.Proofs.Ytbjljcpngbhkeaa.Ma
noncomputable def laws_FnPivots.after220:Code:=((Try.f4.body.bind (tailAfter 220)).getD .skip)
theorem laws_FnPivots.after220_walk {k:Nat} {s den c cw cs:Int} {wh:Bool} {Mp R sg:List (List Int)} {Qp S:List Int} {Apm Apq A5r A5s A26:Option Addr} {cpm cpq c5r c5s c26 g3 g5:Nat} {w wc:World} {z0_ z1_ z2_ z7_ z8_ z9_ z10_ z11_ z12_ z13_ z14_ z15_ z17_ z18_ z19_ z20_ z21_ z22_ z23_ z24_ z25_ z28_ z29_ z30_ z31_ z32_ z33_ z34_ z35_ z36_ z37_ z38_ z39_ z40_ z41_ z42_ z43_ z44_ z45_ z46_ z47_ z48_ z49_ z50_ z51_ z52_ z53_ z54_ z55_ z56_ z57_ z58_ z59_ z60_ z61_ z62_ z63_ z64_ z65_ z66_ z67_ z68_ z69_ z70_ z71_ z72_ z73_ z74_ z75_ z76_ z77_ z78_ z79_ z80_ z81_ z82_ z83_ z84_ z85_ z86_ z87_ z88_ z89_ z90_ z91_ z92_ z93_ z94_ z95_ z96_ z97_ z98_ z99_ z100_ z101_ z102_ z103_ z104_ z105_ z106_ z107_ z108_ z109_ z110_ z111_ z112_ z113_ z114_ z115_ z116_ z117_ z118_ z119_ z120_ z121_ z122_ z123_ z124_ z125_ z126_ z127_ z128_ z129_ z130_ z131_ z132_ z133_ z134_ z135_ z136_ z137_ z138_ z139_ z140_ z141_ z142_ z143_ z144_ z145_ z146_ z147_ z148_ z149_ z150_ z151_ z152_ z153_ z154_ z155_ z156_ z157_ z158_ z159_ z160_ z161_ z162_ z163_ z164_ z165_ z166_ z167_ z168_ z169_ z170_ z171_ z172_ z173_ z174_ z175_ z176_ z177_ z178_ z179_ z180_ z181_ z182_ z183_ z184_ z185_ z186_ z187_ z188_ z189_ z190_ z191_ z192_ z193_ z194_ z195_ z196_ z197_ z198_ z199_ z200_ z201_ z202_ z203_ z204_ z205_ z206_ z207_ z208_ z209_ z210_ z211_ z212_ z213_ z214_ z215_ z216_ z217_ z218_ z219_ z220_ z221_ z222_ z223_ z224_ z225_ z226_ z227_ z228_ z229_ z230_ z231_ z232_ z233_ z234_ z235_ z236_ z237_ z238_ z239_ z240_ z241_ z242_ z243_ z244_ z245_ z246_ z247_ z248_ z249_ z250_ z251_ z252_ z253_ z254_ z255_ z256_ z257_ z258_ z259_ z260_ z261_ z262_ z263_ z264_ z265_ z266_ z267_ z268_ z269_ z270_ z271_ z272_ z273_ z274_ z275_ z276_ z277_ z278_ z279_ z280_ z281_ z282_ z283_ z284_ z285_ z286_ z287_ z288_ z289_ z290_ z291_ z292_ z293_ z294_ z295_ z296_ z297_ z298_ z299_ z300_ z301_ z302_:Value} (HP:Aside0 (Pp.PvF k Mp Qp s den R S c wh cw sg cs)) (Cpm:Aside0 (Mp.length≤cpm)) (Cpq:Aside0 (Qp.length≤cpq)) (C5r:Aside0 (R.length≤c5r)) (C5s:Aside0 (S.length≤c5s)) (AL:Aside0 (Al (fun W_=>(W_.heap[g5]?=some (.cells #[.int .i64 den, .slice A5r R.length c5r, .slice A5s S.length c5s] 49 (0,0)))∧(W_.heap[g3]?=some (.cells #[.slice Apm Mp.length cpm, .slice Apq Qp.length cpq] 27 (0,0)))∧(Kd.C (Kd.slice 2 (Kd.int .i64)) W_ A26 sg.length sg)∧(Kd.C (Kd.int .i64) W_ A5s S.length S)∧(Kd.C (Kd.slice 2 (Kd.int .i64)) W_ A5r R.length R)∧(Kd.C (Kd.int .i64) W_ Apq Qp.length Qp)∧(Kd.C (Kd.slice 2 (Kd.int .i64)) W_ Apm Mp.length Mp)∧True) wc)) (HB:Aside0 (Below w.heap.size w wc)):
  Code.wp Try.prog laws_FnPivots.after220 (bodyPost Try.prog Try.f4 fun e w'=>e=Ending.returned (.bool true)∧Below w.heap.size w w') ⟨#[z0_,z1_,z2_, .pointer (some ⟨g3,0,none⟩), .int .i64 s, .pointer (some ⟨g5,0,none⟩), .int .i64 c,z7_,z8_,z9_,z10_,z11_,z12_,z13_,z14_,z15_, .int .i64 cw,z17_,z18_,z19_,z20_,z21_,z22_,z23_,z24_,z25_, .slice A26 sg.length c26, .int .i64 cs,z28_,z29_,z30_,z31_,z32_,z33_,z34_,z35_,z36_,z37_,z38_,z39_,z40_,z41_,z42_,z43_,z44_,z45_,z46_,z47_,z48_,z49_,z50_,z51_,z52_,z53_,z54_,z55_,z56_,z57_,z58_,z59_,z60_,z61_,z62_,z63_,z64_,z65_,z66_,z67_,z68_,z69_,z70_,z71_,z72_,z73_,z74_,z75_,z76_,z77_,z78_,z79_,z80_,z81_,z82_,z83_,z84_,z85_,z86_,z87_,z88_,z89_,z90_,z91_,z92_,z93_,z94_,z95_,z96_,z97_,z98_,z99_,z100_,z101_,z102_,z103_,z104_,z105_,z106_,z107_,z108_,z109_,z110_,z111_,z112_,z113_,z114_,z115_,z116_,z117_,z118_,z119_,z120_,z121_,z122_,z123_,z124_,z125_,z126_,z127_,z128_,z129_,z130_,z131_,z132_,z133_,z134_,z135_,z136_,z137_,z138_,z139_,z140_,z141_,z142_,z143_,z144_,z145_,z146_,z147_,z148_,z149_,z150_,z151_,z152_,z153_,z154_,z155_,z156_,z157_,z158_,z159_,z160_,z161_,z162_,z163_,z164_,z165_,z166_,z167_,z168_,z169_,z170_,z171_,z172_,z173_,z174_,z175_,z176_,z177_,z178_,z179_,z180_,z181_,z182_,z183_,z184_,z185_,z186_,z187_,z188_,z189_,z190_,z191_,z192_,z193_,z194_,z195_,z196_,z197_,z198_,z199_,z200_,z201_,z202_,z203_,z204_,z205_,z206_,z207_,z208_,z209_,z210_,z211_,z212_,z213_,z214_,z215_,z216_,z217_,z218_,z219_,z220_,z221_,z222_,z223_,z224_,z225_,z226_,z227_,z228_,z229_,z230_,z231_,z232_,z233_,z234_,z235_,z236_,z237_,z238_,z239_,z240_,z241_,z242_,z243_,z244_,z245_,z246_,z247_,z248_,z249_,z250_,z251_,z252_,z253_,z254_,z255_,z256_,z257_,z258_,z259_,z260_,z261_,z262_,z263_,z264_,z265_,z266_,z267_,z268_,z269_,z270_,z271_,z272_,z273_,z274_,z275_,z276_,z277_,z278_,z279_,z280_,z281_,z282_,z283_,z284_,z285_,z286_,z287_,z288_,z289_,z290_,z291_,z292_,z293_,z294_,z295_,z296_,z297_,z298_,z299_,z300_,z301_,z302_], []⟩ wc:=by
 conv=>arg 2;whnf
 by_cases cc:c=0
 ·subst cc;obtain⟨hcd,hd1,hd2,hdt,hsl⟩:=HP.out.good rfl;have HCD:=q_ hcd;have HSL:=q_ hsl;have HD1:=q_ hd1;have HD2:=q_ hd2;have HDT:=q_ hdt;clear hcd hsl hd1 hd2 hdt;have hz3_0:=cz_ (q_ (AL.out.now.2.1)) 0;have hz3_1:=cz_ (q_ (AL.out.now.2.1)) 1
  go_wp2_with fail
  refine(Pp.detOf_calls HCD.out _ _ _ _ _ (AL.out.now.2.2.2.2.2.2.1) Cpm.out (AL.out.now.2.2.2.2.2.1) Cpq.out).mono ?_
  rintro e w1 ⟨rfl,hb⟩;clear hz3_0 hz3_1;replace AL:=q_ (AL.out.mv hb);replace HB:=q_ (below_step HB.out hb);clear hb;have HDT2:=HDT.out;generalize Dt.det Mp.length (Pp.Cm s Mp)=dt at HDT2 ⊢;have hz3_0:=cz_ (q_ (AL.out.now.2.1)) 0;have hz3_1:=cz_ (q_ (AL.out.now.2.1)) 1;have hz5_0:=cz_ (q_ (AL.out.now.1)) 0;have hz5_1:=cz_ (q_ (AL.out.now.1)) 1;have hz5_2:=cz_ (q_ (AL.out.now.1)) 2;have q1:decide (den < 1)=false:=decide_eq_false (by have:=HD1.out;omega);have q2:(((sg.length:Int)) !=((Qp.length:Int)))=false:=by rw [HSL.out];exact bne_self_eq_false _
  have q3:IntKind.i64.wrap (-den)= -den:=IntWalk.i64_in _ (by have:=HD1.out;have:=HD2.out;omega);have q4:wrap64 (-den)= -den:=(i64_w _).symm.trans q3;rcases HDT2 with e1 | e1
  ·subst e1
   by_cases s0:s=0
   ·subst s0;obtain⟨r1,r2,r3⟩:=HP.out.none rfl rfl;subst r1;have R2:=q_ r2;have R3:=q_ r3;clear r2 r3
    go_wp2_with fail
    refine(laws_rows9.calls k _ _ R _ _ Mp true _ (AL.out.now.2.2.2.2.1) C5r.out (AL.out.now.2.2.2.2.2.2.1) Cpm.out R2.out).mono ?_
    rintro e w2 ⟨rfl,hd⟩;have hb:=Al.drawn_below hd;replace AL:=q_ (AL.out.mv hb);replace HB:=q_ (below_step HB.out hb);clear hb hd hz3_0 hz3_1 hz5_0 hz5_1 hz5_2;have hz3_0:=cz_ (q_ (AL.out.now.2.1)) 0;have hz3_1:=cz_ (q_ (AL.out.now.2.1)) 1;have hz5_0:=cz_ (q_ (AL.out.now.1)) 0;have hz5_1:=cz_ (q_ (AL.out.now.1)) 1;have hz5_2:=cz_ (q_ (AL.out.now.1)) 2
    go_wp2_with fail
    refine(laws_likeInts.calls k _ _ S _ _ Qp true _ (AL.out.now.2.2.2.1) C5s.out (AL.out.now.2.2.2.2.2.1) Cpq.out R3.out).mono ?_
    rintro e w3 ⟨rfl,hd⟩;have hb:=Al.drawn_below hd;replace AL:=q_ (AL.out.mv hb);replace HB:=q_ (below_step HB.out hb);clear hb hd;go_wp2
    go_ret
    exact⟨rfl,HB.out⟩
   ·have s1:(s==0)=false:=by simpa using s0
    go_wp2
    go_ret
    exact⟨rfl,HB.out⟩
  ·subst e1;have q5:(-den !=den)=true:=by simp;have:=HD1.out;omega
   by_cases s0:s=0
   ·subst s0;obtain⟨r1,r2,r3⟩:=HP.out.none rfl rfl;subst r1;have R2:=q_ r2;have R3:=q_ r3;clear r2 r3
    go_wp2_with fail
    refine(laws_rows9.calls k _ _ R _ _ Mp true _ (AL.out.now.2.2.2.2.1) C5r.out (AL.out.now.2.2.2.2.2.2.1) Cpm.out R2.out).mono ?_
    rintro e w2 ⟨rfl,hd⟩;have hb:=Al.drawn_below hd;replace AL:=q_ (AL.out.mv hb);replace HB:=q_ (below_step HB.out hb);clear hb hd hz3_0 hz3_1 hz5_0 hz5_1 hz5_2;have hz3_0:=cz_ (q_ (AL.out.now.2.1)) 0;have hz3_1:=cz_ (q_ (AL.out.now.2.1)) 1;have hz5_0:=cz_ (q_ (AL.out.now.1)) 0;have hz5_1:=cz_ (q_ (AL.out.now.1)) 1;have hz5_2:=cz_ (q_ (AL.out.now.1)) 2
    go_wp2_with fail
    refine(laws_likeInts.calls k _ _ S _ _ Qp true _ (AL.out.now.2.2.2.1) C5s.out (AL.out.now.2.2.2.2.2.1) Cpq.out R3.out).mono ?_
    rintro e w3 ⟨rfl,hd⟩;have hb:=Al.drawn_below hd;replace AL:=q_ (AL.out.mv hb);replace HB:=q_ (below_step HB.out hb);clear hb hd;go_wp2
    go_ret
    exact⟨rfl,HB.out⟩
   ·have s1:(s==0)=false:=by simpa using s0
    go_wp2
    go_ret
    exact⟨rfl,HB.out⟩
 ·have c1:(c !=0)=true:=by simpa using cc
  obtain⟨b1,b2,b3⟩:=HP.out.bad cc;subst b1;subst b2;subst b3;have hz5_0:=cz_ (q_ (AL.out.now.1)) 0;have hz5_1:=cz_ (q_ (AL.out.now.1)) 1;have hz5_2:=cz_ (q_ (AL.out.now.1)) 2;clear cc;go_wp2
  go_ret
  exact⟨rfl,HB.out⟩
end Go.Proofs.Ytbjljcpngbhkeaa.Pr
end
section
namespace Go.Proofs.Ytbjljcpngbhkeaa.Pr
open Go.RowKit Go.Proofs.YtbjljcpngbhkeaaW.PrintWords Go.Proofs.YtbjljcpngbhkeaaW.PrintLast Go.Proofs.YtbjljcpngbhkeaaW.PrintMore Go.Proofs.Ytbjljcpngbhkeaa.Al Go.Proofs.Ytbjljcpngbhkeaa.Dr Go.Proofs.Ytbjljcpngbhkeaa.Ma
noncomputable def laws_FnPivots.after162:Code:=((Try.f4.body.bind (tailAfter 162)).getD .skip)
theorem laws_FnPivots.after162_walk {k:Nat} {s den c cw cs:Int} {wh:Bool} {Mp R sg:List (List Int)} {Qp S:List Int} {Apm Apq A5r A5s A26:Option Addr} {cpm cpq c5r c5s c26 g3 g5:Nat} {kq:Nat} {t cp:Int} {Mq M':List (List Int)} {Qq Q':List Int} {Aqm Aqq A11r A11s:Option Addr} {cqm cqq c11r c11s g9 g11:Nat} {w wc:World} {z0_ z1_ z2_ z7_ z8_ z13_ z14_ z15_ z17_ z18_ z19_ z20_ z21_ z22_ z23_ z24_ z25_ z28_ z29_ z30_ z31_ z32_ z33_ z34_ z35_ z36_ z37_ z38_ z39_ z40_ z41_ z42_ z43_ z44_ z45_ z46_ z47_ z48_ z49_ z50_ z51_ z52_ z53_ z54_ z55_ z56_ z57_ z58_ z59_ z60_ z61_ z62_ z63_ z64_ z65_ z66_ z67_ z68_ z69_ z70_ z71_ z72_ z73_ z74_ z75_ z76_ z77_ z78_ z79_ z80_ z81_ z82_ z83_ z84_ z85_ z86_ z87_ z88_ z89_ z90_ z91_ z92_ z93_ z94_ z95_ z96_ z97_ z98_ z99_ z100_ z101_ z102_ z103_ z104_ z105_ z106_ z107_ z108_ z109_ z110_ z111_ z112_ z113_ z114_ z115_ z116_ z117_ z118_ z119_ z120_ z121_ z122_ z123_ z124_ z125_ z126_ z127_ z128_ z129_ z130_ z131_ z132_ z133_ z134_ z135_ z136_ z137_ z138_ z139_ z140_ z141_ z142_ z143_ z144_ z145_ z146_ z147_ z148_ z149_ z150_ z151_ z152_ z153_ z154_ z155_ z156_ z157_ z158_ z159_ z160_ z161_ z162_ z163_ z164_ z165_ z166_ z167_ z168_ z169_ z170_ z171_ z172_ z173_ z174_ z175_ z176_ z177_ z178_ z179_ z180_ z181_ z182_ z183_ z184_ z185_ z186_ z187_ z188_ z189_ z190_ z191_ z192_ z193_ z194_ z195_ z196_ z197_ z198_ z199_ z200_ z201_ z202_ z203_ z204_ z205_ z206_ z207_ z208_ z209_ z210_ z211_ z212_ z213_ z214_ z215_ z216_ z217_ z218_ z219_ z220_ z221_ z222_ z223_ z224_ z225_ z226_ z227_ z228_ z229_ z230_ z231_ z232_ z233_ z234_ z235_ z236_ z237_ z238_ z239_ z240_ z241_ z242_ z243_ z244_ z245_ z246_ z247_ z248_ z249_ z250_ z251_ z252_ z253_ z254_ z255_ z256_ z257_ z258_ z259_ z260_ z261_ z262_ z263_ z264_ z265_ z266_ z267_ z268_ z269_ z270_ z271_ z272_ z273_ z274_ z275_ z276_ z277_ z278_ z279_ z280_ z281_ z282_ z283_ z284_ z285_ z286_ z287_ z288_ z289_ z290_ z291_ z292_ z293_ z294_ z295_ z296_ z297_ z298_ z299_ z300_ z301_ z302_:Value} (HP:Aside0 (Pp.PvF k Mp Qp s den R S c wh cw sg cs)) (Cpm:Aside0 (Mp.length≤cpm)) (Cpq:Aside0 (Qp.length≤cpq)) (C5r:Aside0 (R.length≤c5r)) (C5s:Aside0 (S.length≤c5s)) (HQ:Aside0 (Pp.PpF kq Mq Qq t M' Q' cp)) (Cqm:Aside0 (Mq.length≤cqm)) (Cqq:Aside0 (Qq.length≤cqq)) (C11r:Aside0 (M'.length≤c11r)) (C11s:Aside0 (Q'.length≤c11s)) (AL:Aside0 (Al (fun W_=>(W_.heap[g11]?=some (.cells #[.slice A11r M'.length c11r, .slice A11s Q'.length c11s] 27 (0,0)))∧(W_.heap[g9]?=some (.cells #[.slice Aqm Mq.length cqm, .slice Aqq Qq.length cqq] 27 (0,0)))∧(Kd.C (Kd.int .i64) W_ A11s Q'.length Q')∧(Kd.C (Kd.slice 2 (Kd.int .i64)) W_ A11r M'.length M')∧(Kd.C (Kd.int .i64) W_ Aqq Qq.length Qq)∧(Kd.C (Kd.slice 2 (Kd.int .i64)) W_ Aqm Mq.length Mq)∧(W_.heap[g5]?=some (.cells #[.int .i64 den, .slice A5r R.length c5r, .slice A5s S.length c5s] 49 (0,0)))∧(W_.heap[g3]?=some (.cells #[.slice Apm Mp.length cpm, .slice Apq Qp.length cpq] 27 (0,0)))∧(Kd.C (Kd.slice 2 (Kd.int .i64)) W_ A26 sg.length sg)∧(Kd.C (Kd.int .i64) W_ A5s S.length S)∧(Kd.C (Kd.slice 2 (Kd.int .i64)) W_ A5r R.length R)∧(Kd.C (Kd.int .i64) W_ Apq Qp.length Qp)∧(Kd.C (Kd.slice 2 (Kd.int .i64)) W_ Apm Mp.length Mp)∧True) wc)) (HB:Aside0 (Below w.heap.size w wc)):
  Code.wp Try.prog laws_FnPivots.after162 (bodyPost Try.prog Try.f4 fun e w'=>e=Ending.returned (.bool true)∧Below w.heap.size w w') ⟨#[z0_,z1_,z2_, .pointer (some ⟨g3,0,none⟩), .int .i64 s, .pointer (some ⟨g5,0,none⟩), .int .i64 c,z7_,z8_, .pointer (some ⟨g9,0,none⟩), .int .i64 t, .pointer (some ⟨g11,0,none⟩), .int .i64 cp,z13_,z14_,z15_, .int .i64 cw,z17_,z18_,z19_,z20_,z21_,z22_,z23_,z24_,z25_, .slice A26 sg.length c26, .int .i64 cs,z28_,z29_,z30_,z31_,z32_,z33_,z34_,z35_,z36_,z37_,z38_,z39_,z40_,z41_,z42_,z43_,z44_,z45_,z46_,z47_,z48_,z49_,z50_,z51_,z52_,z53_,z54_,z55_,z56_,z57_,z58_,z59_,z60_,z61_,z62_,z63_,z64_,z65_,z66_,z67_,z68_,z69_,z70_,z71_,z72_,z73_,z74_,z75_,z76_,z77_,z78_,z79_,z80_,z81_,z82_,z83_,z84_,z85_,z86_,z87_,z88_,z89_,z90_,z91_,z92_,z93_,z94_,z95_,z96_,z97_,z98_,z99_,z100_,z101_,z102_,z103_,z104_,z105_,z106_,z107_,z108_,z109_,z110_,z111_,z112_,z113_,z114_,z115_,z116_,z117_,z118_,z119_,z120_,z121_,z122_,z123_,z124_,z125_,z126_,z127_,z128_,z129_,z130_,z131_,z132_,z133_,z134_,z135_,z136_,z137_,z138_,z139_,z140_,z141_,z142_,z143_,z144_,z145_,z146_,z147_,z148_,z149_,z150_,z151_,z152_,z153_,z154_,z155_,z156_,z157_,z158_,z159_,z160_,z161_,z162_,z163_,z164_,z165_,z166_,z167_,z168_,z169_,z170_,z171_,z172_,z173_,z174_,z175_,z176_,z177_,z178_,z179_,z180_,z181_,z182_,z183_,z184_,z185_,z186_,z187_,z188_,z189_,z190_,z191_,z192_,z193_,z194_,z195_,z196_,z197_,z198_,z199_,z200_,z201_,z202_,z203_,z204_,z205_,z206_,z207_,z208_,z209_,z210_,z211_,z212_,z213_,z214_,z215_,z216_,z217_,z218_,z219_,z220_,z221_,z222_,z223_,z224_,z225_,z226_,z227_,z228_,z229_,z230_,z231_,z232_,z233_,z234_,z235_,z236_,z237_,z238_,z239_,z240_,z241_,z242_,z243_,z244_,z245_,z246_,z247_,z248_,z249_,z250_,z251_,z252_,z253_,z254_,z255_,z256_,z257_,z258_,z259_,z260_,z261_,z262_,z263_,z264_,z265_,z266_,z267_,z268_,z269_,z270_,z271_,z272_,z273_,z274_,z275_,z276_,z277_,z278_,z279_,z280_,z281_,z282_,z283_,z284_,z285_,z286_,z287_,z288_,z289_,z290_,z291_,z292_,z293_,z294_,z295_,z296_,z297_,z298_,z299_,z300_,z301_,z302_], []⟩ wc:=by
 conv=>arg 2;whnf
 go_upto_if 220 with (fail)
 have AF:=q_ (show Al (fun W_=>(W_.heap[g5]?=some (.cells #[.int .i64 den, .slice A5r R.length c5r, .slice A5s S.length c5s] 49 (0,0)))∧(W_.heap[g3]?=some (.cells #[.slice Apm Mp.length cpm, .slice Apq Qp.length cpq] 27 (0,0)))∧(Kd.C (Kd.slice 2 (Kd.int .i64)) W_ A26 sg.length sg)∧(Kd.C (Kd.int .i64) W_ A5s S.length S)∧(Kd.C (Kd.slice 2 (Kd.int .i64)) W_ A5r R.length R)∧(Kd.C (Kd.int .i64) W_ Apq Qp.length Qp)∧(Kd.C (Kd.slice 2 (Kd.int .i64)) W_ Apm Mp.length Mp)∧True) _ from ⟨fun w2 h2=>⟨(AL.out.all w2 h2).2.2.2.2.2.2.1,(AL.out.all w2 h2).2.2.2.2.2.2.2.1,(AL.out.all w2 h2).2.2.2.2.2.2.2.2.1,(AL.out.all w2 h2).2.2.2.2.2.2.2.2.2.1,(AL.out.all w2 h2).2.2.2.2.2.2.2.2.2.2.1,(AL.out.all w2 h2).2.2.2.2.2.2.2.2.2.2.2.1,(AL.out.all w2 h2).2.2.2.2.2.2.2.2.2.2.2.2.1,trivial⟩⟩)
 go_cut [34,35] from 219 to 235 (fun v34 v35 wc=>Aside0 (Al (fun W_=>(W_.heap[g5]?=some (.cells #[.int .i64 den, .slice A5r R.length c5r, .slice A5s S.length c5s] 49 (0,0)))∧(W_.heap[g3]?=some (.cells #[.slice Apm Mp.length cpm, .slice Apq Qp.length cpq] 27 (0,0)))∧(Kd.C (Kd.slice 2 (Kd.int .i64)) W_ A26 sg.length sg)∧(Kd.C (Kd.int .i64) W_ A5s S.length S)∧(Kd.C (Kd.slice 2 (Kd.int .i64)) W_ A5r R.length R)∧(Kd.C (Kd.int .i64) W_ Apq Qp.length Qp)∧(Kd.C (Kd.slice 2 (Kd.int .i64)) W_ Apm Mp.length Mp)∧True) wc)∧Aside0 (Below w.heap.size w wc))
 case first=>
  by_cases ck:cp=0
  ·subst ck;clear AF;obtain⟨b1,b2⟩:=HQ.out.back rfl;have HB1:=q_ b1;have HB2:=q_ b2;clear b1 b2;have hz11_0:=cz_ (q_ (AL.out.now.1)) 0;have hz11_1:=cz_ (q_ (AL.out.now.1)) 1
   go_wp2_with fail
   refine(impl_PivotedProblem.calls kq _ _ M' _ _ Q' t Mq Qq 0 _ (AL.out.now.2.2.2.1) C11r.out (AL.out.now.2.2.1) C11s.out HB1.out).mono ?_
   rintro e w1 ⟨v1,v2,rfl,hS,hR,hb⟩;clear hz11_0 hz11_1;replace AL:=q_ (AL.out.mv hb);replace HB:=q_ (below_step HB.out hb);obtain⟨A34r,c34r,rfl⟩:=Kd.S_slice hS;obtain⟨A34s,c34s,rfl⟩:=Kd.R_slice hR;have C34r:=q_ (Kd.S_reads' hS).2.1;have C34s:=q_ (Kd.R_reads' hR).2.1;replace AL:=q_ ((AL.out.addC (Kd.S_reads' hS).2.2).addC (Kd.R_reads' hR).2.2);clear hS hR hb
   go_wp2_with (first | ((with_reducible refine gate_dst (N:=34) rfl ?_);refine be_ 34 #[.slice none 0 0, .slice none 0 0] 27 ?_;intro g34 hg w2 hbox hb;have Bx:=q_ hbox;have HBx:=q_ hb;have Gx:Aside0 (w1.heap.size≤g34):=⟨by rw [hg];exact Nat.le_refl _⟩;have hx0:=cz_ Bx 0;have hx1:=cz_ Bx 1;have hfx0:=blk_frozen hbox 0;have hfx1:=blk_frozen hbox 1;clear hb hbox hg) | ((with_reducible refine gate_store (t:=27) (p:=34) rfl ?_);refine store_event (t:=27) (p:=34) (v:=?vo34) (w1:=(w2.setCell ⟨g34,0,none⟩ (.slice A34r Mq.length c34r)).setCell ⟨g34,1,none⟩ (.slice A34s Qq.length c34s)) ?hg ?ho ?hn ?hr ?_;(case ho=>rfl);(case hg=>rfl);(case hn=>rfl);(case hr=>first | (go_simp;done) | (go_simp;rfl));intro w3 hw;have nb:=q_ (show w3.heap[g34]?=some (.cells #[.slice A34r Mq.length c34r, .slice A34s Qq.length c34s] 27 (0,0)) from (by rw [hw];exact blk_put (blk_put Bx.out 0 _ rfl) 1 _ rfl));have hb:Below w1.heap.size w1 w3:=(by rw [hw];exact(HBx.out.setCell Gx.out _).setCell Gx.out _);replace AL:=q_ ((AL.out.mv hb).addB nb.out);replace HB:=q_ (below_step HB.out hb);clear hw hb nb hx0 hx1 hfx0 hfx1 Bx HBx Gx;have hz34_0:=cz_ (q_ (AL.out.now.1)) 0;have hz34_1:=cz_ (q_ (AL.out.now.1)) 1;have hz9_0:=cz_ (q_ (AL.out.now.2.2.2.2.1)) 0;have hz9_1:=cz_ (q_ (AL.out.now.2.2.2.2.1)) 1))
   refine(laws_problem9.calls kq _ _ Mq _ _ Qq _ _ Mq _ _ Qq true _ (AL.out.now.2.2.1) C34r.out (AL.out.now.2.1) C34s.out (AL.out.now.2.2.2.2.2.2.2.2.1) Cqm.out (AL.out.now.2.2.2.2.2.2.2.1) Cqq.out HB2.out).mono ?_
   rintro e w4 ⟨rfl,hb⟩;clear hz34_0 hz34_1 hz9_0 hz9_1;replace AL:=q_ (AL.out.mv hb);replace HB:=q_ (below_step HB.out hb);clear hb;go_wp2
   go_meet
   case rel=>exact⟨⟨⟨fun w2 h2=>⟨(AL.out.all w2 h2).2.2.2.2.2.2.2.2.2.1,(AL.out.all w2 h2).2.2.2.2.2.2.2.2.2.2.1,(AL.out.all w2 h2).2.2.2.2.2.2.2.2.2.2.2.1,(AL.out.all w2 h2).2.2.2.2.2.2.2.2.2.2.2.2.1,(AL.out.all w2 h2).2.2.2.2.2.2.2.2.2.2.2.2.2.1,(AL.out.all w2 h2).2.2.2.2.2.2.2.2.2.2.2.2.2.2.1,(AL.out.all w2 h2).2.2.2.2.2.2.2.2.2.2.2.2.2.2.2.1,trivial⟩⟩⟩,HB⟩
  ·have ck1:(cp==0)=false:=by simpa using ck
   go_wp2
   go_meet
   case rel=>exact⟨AF,HB⟩
 case rest=>clear AL HB AF;obtain⟨AL,HB⟩:=hcut;rename_i hk;exact hk _ _ (laws_FnPivots.after220_walk HP Cpm Cpq C5r C5s AL HB)
end Go.Proofs.Ytbjljcpngbhkeaa.Pr
end
section
namespace Go.Proofs.Ytbjljcpngbhkeaa.Pr
open Go.RowKit Go.Proofs.YtbjljcpngbhkeaaW.PrintWords Go.Proofs.YtbjljcpngbhkeaaW.PrintLast Go.Proofs.YtbjljcpngbhkeaaW.PrintMore
attribute [local go_sem] max2_int min2_int max_two min_two max_three min_three max_four min_four
def spec_l01DrawPart.f (s0_0:List Int) (s0_1:Int) (s0_2:Int) (a1:Int):Option (Int × Int × Int):=(spec_l01Next.f s0_0 s0_1 s0_2 (wrap64 ((wrap64 (2*a1))+1))).bind fun aa=>(some (wrap64 (aa.1 - a1),aa.2.1,aa.2.2))
theorem spec_l01DrawPart.calls (g:Nat) (s0_0:List Int) (s0_1:Int) (s0_2:Int) (a1:Int) (r1:Int) (r2:Int) (r3:Int) (w0 w:World) (hI:IsS89 w0 w g s0_0 s0_1 s0_2) (hB:Below w0.heap.size w0 w) (h:spec_l01DrawPart.f s0_0 s0_1 s0_2 a1=some (r1,r2,r3)):
  Calls Try.prog 76 #[.pointer (some ⟨g,0,none⟩), .int .i64 a1] w fun e w'=>e= .returned (.int .i64 r1)∧IsS89 w0 w' g s0_0 r2 r3∧Below w0.heap.size w0 w'∧KeepBut w w' g none:=by
 have HI0:=q_ hI;have HK:=q_ (KeepBut.refl w g none);have HL:=q_ hB.size;clear hI;have HW0:=q_ hB.size;have HB:=q_ hB;clear hB;have H:((spec_l01Next.f s0_0 s0_1 s0_2 (wrap64 ((wrap64 (2*a1))+1))).bind fun aa=>(some (wrap64 (aa.1 - a1),aa.2.1,aa.2.2)))=some (r1,r2,r3):=h;clear h;replace H:=Option.bind_eq_some_iff.mp H;obtain⟨⟨ae,af,ag⟩,A30,H⟩:=H;replace H:(some (wrap64 (ae - a1),af,ag))=some (r1,r2,r3):=H;have A3:=q_ A30;clear A30;simp only [Option.some.injEq,Prod.mk.injEq] at H;obtain⟨rfl,rfl,rfl⟩:=H
 go_enter Try.func76,Try.ntmps76
 go_wp2_with (first | ((with_reducible refine gate_callee (f:=37) rfl ?_);refine gL_ 9 Try.func37 #[.pointer (some ⟨g,0,none⟩), .int .i64 (wrap64 ((wrap64 (2*a1))+1))] ?_;(with_reducible refine(spec_l01Next.calls g s0_0 s0_1 s0_2 (wrap64 ((wrap64 (2*a1))+1)) ae af ag w0 _ ?ah ?ai A3.out).mono ?_);(case ah=>exact hi_);(case ai=>exact hj_);rintro e w4 ⟨rfl,hi,hb,hk⟩;refine⟨_,rfl,?_⟩;replace HK:=q_ (KeepBut.trans hk_ hk (.inl rfl));replace HB:=q_ (hb);replace HI0:=q_ (hi);(try clear hb);(try clear hk);(try clear hi)))
 go_ret
 exact⟨by first | rfl | (simp [errW_none,errW_some] <;> rfl) | (simp [*,errW_none,errW_some] <;> rfl),hi_,hj_,hk_⟩
mutual
def spec_l01DrawM.l0:Nat→Int→Int→List (List Int)→Int→List Int→Int→Int→Option ((List (List Int)) × Int × Int)
 | 0,_,_,_,_,_,_,_=>none
 | k+1,x1,x2,x7,x8,aa,ae,af=>if x8 < x1 then(spec_l01DrawM.l1 k x1 x2 x7 x8 (([]:List Int)) 0 aa ae af) else(some (x7,ae,af))
def spec_l01DrawM.l1:Nat→Int→Int→List (List Int)→Int→List Int→Int→List Int→Int→Int→Option ((List (List Int)) × Int × Int)
 | 0,_,_,_,_,_,_,_,_,_=>none
 | k+1,x1,x2,x7,x8,x9,x10,aa,ae,af=>if x10 < x1 then((spec_l01DrawPart.f aa ae af x2).bind fun ag=>((spec_l01Pick.f aa ag.2.1 ag.2.2 (([0,1,1]:List Int))).bind fun ah=>(if x9.length < 17592186044416 then(spec_l01DrawM.l1 k x1 x2 x7 x8 (x9++ [wrap64 (ag.1*ah.1)]) (wrap64 (x10+1)) aa ah.2.1 ah.2.2) else(none)))) else(if x7.length < 5864062014805 then(spec_l01DrawM.l0 k x1 x2 (x7++ [x9]) (wrap64 (x8+1)) aa ae af) else(none))
end
def spec_l01DrawM.f (k:Nat) (s0_0:List Int) (s0_1:Int) (s0_2:Int) (a1:Int) (a2:Int):Option ((List (List Int)) × Int × Int):=spec_l01DrawM.l0 k a1 a2 (([]:List (List Int))) 0 s0_0 s0_1 s0_2
theorem spec_l01DrawM.mono_l: ∀k,(∀y0 y1 y2 y3 y4 y5 y6,LeO (spec_l01DrawM.l0 k y0 y1 y2 y3 y4 y5 y6) (spec_l01DrawM.l0 (k+1) y0 y1 y2 y3 y4 y5 y6))∧(∀y0 y1 y2 y3 y4 y5 y6 y7 y8,LeO (spec_l01DrawM.l1 k y0 y1 y2 y3 y4 y5 y6 y7 y8) (spec_l01DrawM.l1 (k+1) y0 y1 y2 y3 y4 y5 y6 y7 y8))
 | 0=>⟨fun _ _ _ _ _ _ _ r h=>by simp [spec_l01DrawM.l0] at h,fun _ _ _ _ _ _ _ _ _ r h=>by simp [spec_l01DrawM.l1] at h⟩
 | k+1=>by
  obtain⟨ih0,ih1⟩:=spec_l01DrawM.mono_l k
  refine⟨?_,?_⟩<;>intros<;>(first | unfold spec_l01DrawM.l0 | unfold spec_l01DrawM.l1)<;>(repeat' first | (with_reducible first | exact ih0 _ _ _ _ _ _ _ | exact ih1 _ _ _ _ _ _ _ _ _ | exact LeO.refl _ | exact LeO.none _ | refine LeO.ite ?_ ?_ | refine LeO.bind ?_ (fun _=>?_)) | exact ih0 _ _ _ _ _ _ _ | exact ih1 _ _ _ _ _ _ _ _ _ | exact LeO.none _ | refine LeO.ite ?_ ?_ | refine LeO.bind ?_ (fun _=>?_))
theorem spec_l01DrawM.mono: ∀a0 a1 a2 a3 a4 k,LeO (spec_l01DrawM.f k a0 a1 a2 a3 a4) (spec_l01DrawM.f (k+1) a0 a1 a2 a3 a4):=by
 intro a0 a1 a2 a3 a4 k
 obtain⟨ih0,ih1⟩:=spec_l01DrawM.mono_l k
 unfold spec_l01DrawM.f
 repeat' first | (with_reducible first | exact ih0 _ _ _ _ _ _ _ | exact ih1 _ _ _ _ _ _ _ _ _ | exact LeO.refl _ | exact LeO.none _ | refine LeO.ite ?_ ?_ | refine LeO.bind ?_ (fun _=>?_)) | exact ih0 _ _ _ _ _ _ _ | exact ih1 _ _ _ _ _ _ _ _ _ | exact LeO.none _ | refine LeO.ite ?_ ?_ | refine LeO.bind ?_ (fun _=>?_)
theorem spec_l01DrawM.calls (k:Nat) (g:Nat) (s0_0:List Int) (s0_1:Int) (s0_2:Int) (a1:Int) (a2:Int) (r1:List (List Int)) (r2:Int) (r3:Int) (w0 w:World) (hI:IsS89 w0 w g s0_0 s0_1 s0_2) (hB:Below w0.heap.size w0 w) (h:spec_l01DrawM.f k s0_0 s0_1 s0_2 a1 a2=some (r1,r2,r3)):
  Calls Try.prog 102 #[.pointer (some ⟨g,0,none⟩), .int .i64 a1, .int .i64 a2] w fun e w'=> ∃v0_:Value,e= .returned (v0_)∧Kd.S (Kd.slice 2 (Kd.int .i64)) 25 w' w.heap.size (fun _=>True) v0_ r1∧IsS89 w0 w' g s0_0 r2 r3∧Below w0.heap.size w0 w'∧KeepBut w w' g none:=by
 have HI0:=q_ hI;have HK:=q_ (KeepBut.refl w g none);have HL:=q_ hB.size;clear hI;have HW0:=q_ hB.size;have HB:=q_ hB;clear hB;have H:(spec_l01DrawM.l0 k a1 a2 (([]:List (List Int))) 0 s0_0 s0_1 s0_2)=some (r1,r2,r3):=h;clear h;obtain⟨aU,hy⟩: ∃y_:List (List Int),y_=(([]:List (List Int))):=⟨_,rfl⟩
 replace H:(spec_l01DrawM.l0 k a1 a2 aU 0 s0_0 s0_1 s0_2)=some (r1,r2,r3):=hh_;have aN:=q_ hy;clear hy;have H':=q_ H;clear H
 go_enter Try.func102,Try.ntmps102
 go_wp2_with (first | ((with_reducible refine gate_dst (N:=11) rfl ?_);refine Kd.S_lit (Kd.slice 2 (Kd.int .i64)) _ 25 ?hg (N:=11) ?hd (xs:=([]:List (List Int))) (inner:= []) (ok:=fun _=>True) (okp:=fun _=>True) ?hr ?hp (fun _ hk=>hk) trivial (Below.refl _ _) (Nat.le_refl _) (by simp) ?_;(case hd=>rfl);(case hg=>rfl);(case hr=>first | (go_simp;done) | (go_simp;rfl));(case hp=>exact(Reps.none _ _));intro bD w4 ho5 hb hg_ hnew_;clear hg_ hnew_;(first | rw [← aN.out] at ho5 | (simp only [Int.reduceToNat] at ho5;rw [← aN.out] at ho5));have a9:=q_ (Kd.S_lower ho5 (keep_size (w:=w) (g:=g) (row:=none) hk_));replace HB:=q_ (below_step hj_ hb);replace HI0:=q_ (IsS89.below hi_ hb);replace HK:=q_ (KeepBut.trans hk_ (KeepBut.of_below hb g none) (.inl rfl));clear hb ho5))
 go_loopg [7,8] k (fun kq v7 v8 w'=> ∃(ak:List (List Int)) (ai:Int) (au:Int) (av:Int),v8= .int .i64 ai∧Aside0 (spec_l01DrawM.l0 kq a1 a2 ak ai s0_0 au av=some (r1,r2,r3))∧Aside0 (kq≤k)∧Aside0 (Kd.S (Kd.slice 2 (Kd.int .i64)) 25 w' w.heap.size (fun _=>True) v7 ak)∧Aside0 (IsS89 w0 w' g s0_0 au av)∧Aside0 (KeepBut w w' g none)∧Aside0 (Below w0.heap.size w0 w'))
 case atStart=>exact⟨(aU),(0),(s0_1),(s0_2),rs_,H',⟨Nat.le_refl _⟩,⟨so_ a9.out⟩,⟨hi_⟩,⟨hk_⟩,⟨hj_⟩⟩
 case round=>
  clear H';obtain⟨ak,ai,au,av,rfl,HA,HK1,aa,HI0,HK,HB⟩:=hrel;cases gk with
  | zero=>exact absurd HA.out (by simp [spec_l01DrawM.l0])
  | succ k1=>
   have H:=HA.out;clear HA;simp only [spec_l01DrawM.l0] at H
   by_cases c6:ai < a1
   ·rw [if_pos c6] at H;have c6b0:=decide_eq_true c6;clear c6;obtain⟨aV,hy⟩: ∃y_:List Int,y_=(([]:List Int)):=⟨_,rfl⟩
    replace H:(spec_l01DrawM.l1 k1 a1 a2 ak ai aV 0 s0_0 au av)=some (r1,r2,r3):=hh_;have aQ:=q_ hy;clear hy;have H':=q_ H;clear H
    go_wp2_with (first | ((with_reducible refine gate_dst (N:=17) rfl ?_);refine Kd.R_lit (Kd.int .i64) _ 2 ?hg (N:=17) ?hd (xs:=([]:List Int)) (inner:= []) (ok:=fun _=>True) (okp:=fun _=>True) ?hr ?hp (fun _ hk=>hk) trivial (Below.refl _ _) (Nat.le_refl _) (by simp) ?_;(case hd=>rfl);(case hg=>rfl);(case hr=>first | (go_simp;done) | (go_simp;rfl));(case hp=>exact(Reps.none _ _));intro bE w7 ho8 hb hg_ hnew_;clear hg_ hnew_;(first | rw [← aQ.out] at ho8 | (simp only [Int.reduceToNat] at ho8;rw [← aQ.out] at ho8));replace aa:=q_ (Kd.S_elder' (so_ aa.out) (Kd.R_base ho8) hb);have ba:=q_ (Kd.R_lower ho8 (keep_size (w:=w) (g:=g) (row:=none) hk_));replace HB:=q_ (below_step hj_ hb);replace HI0:=q_ (IsS89.below hi_ hb);replace HK:=q_ (KeepBut.trans hk_ (KeepBut.of_below hb g none) (.inl rfl));clear hb ho8))
    go_loopg [9,10] k1 (fun kq v9 v10 w'=> ∃(ae:List Int) (aj:Int) (ag:Int) (ah:Int),v10= .int .i64 aj∧Aside0 (spec_l01DrawM.l1 kq a1 a2 ak ai ae aj s0_0 ag ah=some (r1,r2,r3))∧Aside0 (kq≤k1)∧Aside0 (Kd.S (Kd.slice 2 (Kd.int .i64)) 25 w' w.heap.size (fun k_=>some k_≠(v9:Value).ownBlock) u7 ak)∧Aside0 (Kd.R (Kd.int .i64) 2 w' w.heap.size (fun _=>True) v9 ae)∧Aside0 (IsS89 w0 w' g s0_0 ag ah)∧Aside0 (KeepBut w w' g none)∧Aside0 (Below w0.heap.size w0 w'))
    case atStart=>exact⟨(aV),(0),(au),(av),rs_,H',⟨Nat.le_refl _⟩,⟨by(with_reducible repeat (first | apply Kd.S_alloc | apply Kd.S_drewN | apply Kd.S_drew));exact Kd.S_mono aa.out (fun _ hk=>hk.2)⟩,⟨ro_ ba.out⟩,⟨hi_⟩,⟨hk_⟩,⟨hj_⟩⟩
    case round=>
     clear H';(try clear c6b0);obtain⟨ae,aj,ag,ah,rfl,HA,HK2,aa,af,HI0,HK,HB⟩:=hrel;cases gk with
     | zero=>exact absurd HA.out (by simp [spec_l01DrawM.l1])
     | succ k2=>
      have H:=HA.out;clear HA;simp only [spec_l01DrawM.l1] at H
      by_cases c9:aj < a1
      ·rw [if_pos c9] at H;have c9b0:=decide_eq_true c9;clear c9;replace H:=Option.bind_eq_some_iff.mp H;obtain⟨⟨ax,ay,az⟩,A100,H⟩:=H;replace H:((spec_l01Pick.f s0_0 ay az (([0,1,1]:List Int))).bind fun aw=>(if ae.length < 17592186044416 then(spec_l01DrawM.l1 k2 a1 a2 ak ai (ae++ [wrap64 (ax*aw.1)]) (wrap64 (aj+1)) s0_0 aw.2.1 aw.2.2) else(none)))=some (r1,r2,r3):=H;have A10:=q_ A100;clear A100;obtain⟨aC,hy⟩: ∃y_:List Int,y_=(([0,1,1]:List Int)):=⟨_,rfl⟩
       replace H:((spec_l01Pick.f s0_0 ay az aC).bind fun aw=>(if ae.length < 17592186044416 then(spec_l01DrawM.l1 k2 a1 a2 ak ai (ae++ [wrap64 (ax*aw.1)]) (wrap64 (aj+1)) s0_0 aw.2.1 aw.2.2) else(none)))=some (r1,r2,r3):=hh_;have aT:=q_ hy;clear hy;replace H:=Option.bind_eq_some_iff.mp H;obtain⟨⟨aD,aG,aH⟩,A110,H⟩:=H;replace H:(if ae.length < 17592186044416 then(spec_l01DrawM.l1 k2 a1 a2 ak ai (ae++ [wrap64 (ax*aD)]) (wrap64 (aj+1)) s0_0 aG aH) else(none))=some (r1,r2,r3):=H;have A11:=q_ A110;clear A110
       by_cases c12:ae.length < 17592186044416
       ·rw [if_pos c12] at H;have bf:=q_ c12;clear c12;obtain⟨aW,hy⟩: ∃y_:List Int,y_=(ae++ [wrap64 (ax*aD)]):=⟨_,rfl⟩
        replace H:(spec_l01DrawM.l1 k2 a1 a2 ak ai aW (wrap64 (aj+1)) s0_0 aG aH)=some (r1,r2,r3):=hh_;have bg:=q_ hy;clear hy;have H':=q_ H;clear H
        go_wp2_with (first | ((with_reducible refine gate_callee (f:=76) rfl ?_);refine gL_ 26 Try.func76 #[.pointer (some ⟨g,0,none⟩), .int .i64 a2] ?_;(with_reducible refine(spec_l01DrawPart.calls g s0_0 ag ah a2 ax ay az w0 _ ?aI ?aJ A10.out).mono ?_);(case aI=>exact hi_);(case aJ=>exact hj_);rintro e w13 ⟨rfl,hi,hb,hk⟩;refine⟨_,rfl,?_⟩;replace aa:=q_ (Kd.S_mono (Kd.S_keep (IsS89.apartS (show IsS89 w0 _ g s0_0 ag ah from hi_) (so_ aa.out) (by decide)) hk (fun _ h=>h.2)) (fun _ h=>h.1));replace af:=q_ (Kd.R_mono (Kd.R_keep (IsS89.apart (show IsS89 w0 _ g s0_0 ag ah from hi_) (ro_ af.out) (by decide)) hk (fun _ h=>h.2)) (fun _ h=>h.1));replace HK:=q_ (KeepBut.trans hk_ hk (.inl rfl));replace HB:=q_ (hb);replace HI0:=q_ (hi);(try clear hb);(try clear hk);(try clear hi)) | ((with_reducible refine gate_dst (N:=28) rfl ?_);refine Kd.R_lit (Kd.int .i64) _ 2 ?hg (N:=28) ?hd (xs:=([0,1,1]:List Int)) (inner:= [.int .i64 0, .int .i64 1, .int .i64 1]) (ok:=fun _=>True) (okp:=fun _=>True) ?hr ?hp (fun _ hk=>hk) trivial (Below.refl _ _) (Nat.le_refl _) (by simp) ?_;(case hd=>rfl);(case hg=>rfl);(case hr=>first | (go_simp;done) | (go_simp;rfl));(case hp=>exact(Reps.one (show Kd.M (Kd.int .i64) _ _ _ 0 [.int .i64 0] from rfl) (Reps.one (show Kd.M (Kd.int .i64) _ _ _ 1 [.int .i64 1] from rfl) (Reps.one (show Kd.M (Kd.int .i64) _ _ _ 1 [.int .i64 1] from rfl) (Reps.none _ _)))));intro bF w14 aA hb hg_ hnew_;clear hg_ hnew_;(first | rw [← aT.out] at aA | (simp only [Int.reduceToNat] at aA;rw [← aT.out] at aA));replace aa:=q_ (Kd.S_elder' (so_ aa.out) (Kd.R_base aA) hb);have aq:=q_ (Kd.R_lower (Kd.R_new' aA (Kd.R_lt (ro_ af.out))) (keep_size (w:=w) (g:=g) (row:=none) hk_));replace HB:=q_ (below_step hj_ hb);replace af:=q_ (Kd.R_elder' (ro_ af.out) (Kd.R_base aA) hb);replace HI0:=q_ (IsS89.below hi_ hb);replace HK:=q_ (KeepBut.trans hk_ (KeepBut.of_below hb g none) (.inl rfl));clear hb aA;obtain⟨aK,aM,bA⟩:=Kd.R_slice aq.out;subst bA) | ((with_reducible refine gate_callee (f:=51) rfl ?_);refine gL_ 29 Try.func51 #[.pointer (some ⟨g,0,none⟩), .slice aK aC.length aM] ?_;(with_reducible refine(spec_l01Pick.calls g s0_0 ay az _ _ aC aD aG aH w0 _ ?aI ?aJ ?bh ?bk ?bq A11.out).mono ?_);(case aI=>exact hi_);(case aJ=>exact hj_);(case bh=>repeat (first | exact(Kd.R_reads' aq.out).2.2 | (with_reducible refine Kd.C_alloc ?_ _) | (with_reducible refine Kd.C_drewN ?_ _) | (with_reducible refine Kd.C_drew ?_)));(case bk=>exact(Kd.R_reads' aq.out).2.1);(case bq=>exact far_slice (IsS89.own_ne HI0.out aq.out (by decide)));rintro e w17 ⟨rfl,hi,hb,hk⟩;refine⟨_,rfl,?_⟩;replace aa:=q_ (Kd.S_mono (Kd.S_keep (IsS89.apartS (show IsS89 w0 _ g s0_0 ay az from hi_) (so_ aa.out) (by decide)) hk (fun _ h=>h.2)) (fun _ h=>h.1));replace af:=q_ (Kd.R_mono (Kd.R_keep (IsS89.apart (show IsS89 w0 _ g s0_0 ay az from hi_) (ro_ af.out) (by decide)) hk (fun _ h=>h.2)) (fun _ h=>h.1));replace aq:=q_ (Kd.R_mono (Kd.R_keep (IsS89.apart (show IsS89 w0 _ g s0_0 ay az from hi_) (ro_ aq.out) (by decide)) hk (fun _ h=>h.2)) (fun _ h=>h.1));replace HK:=q_ (KeepBut.trans hk_ hk (.inl rfl));replace HB:=q_ (hb);replace HI0:=q_ (hi);(try clear hb);(try clear hk);(try clear hi)) | ((with_reducible refine gate_builtin (b:= .append) (xs:= #[.tmp 23, .tmp 31]) rfl ?_);at_builtin;refine Kd.R_append (Kd.int .i64) w.heap.size rfl (.tmp 23) (.tmp 31) 25 2 (.int .i64 0) 8 rfl Try.underlying25 info2 rfl (by decide) (by omega) u9 ae (wrap64 (ax*aD)) [.int .i64 (wrap64 (ax*aD))] (fun k_=>some k_≠(.slice aK aC.length aM:Value).ownBlock) (fun _=>False) rfl rfl ?aP (fun _ hk=>hk.elim) ?aF ?aO (Below.refl _ _) ?aS ?aL ?_;(case aP=>exact rfl);(case aF=>exact(fun k_ hk=>Kd.fresh' (Kd.R_lt (ro_ aq.out)) k_ hk));(case aO=>exact(by(with_reducible repeat (first | apply Kd.R_alloc | apply Kd.R_drewN | apply Kd.R_drew));exact Kd.R_mono af.out (fun _ hk=>hk.2)));(case aS=>exact(keep_size (w:=w) (g:=g) (row:=none) hk_));(case aL=>have:=bf.out;omega);intro bG w18 ho hb hg hat;rw [← bg.out] at ho;replace aa:=q_ (Kd.S_after (ok:=(fun k_=>some k_≠(.slice aK aC.length aM:Value).ownBlock)) (by(with_reducible repeat (first | apply Kd.S_alloc | apply Kd.S_drewN | apply Kd.S_drew));exact Kd.S_mono aa.out (fun _ hk=>⟨hk.2,hk.1⟩)) hg hat);replace aq:=q_ (Kd.R_after (ok:=(fun _=>True)) (ro_ aq.out) hg hat);replace HB:=q_ (below_weaken hj_ HL.out hb);replace HK:=q_ (KeepBut.trans hk_ (KeepBut.of_grown hg g) (Kd.R_base2 af.out));have bu:=q_ (ho);replace HI0:=q_ (IsS89.grown hi_ hg (IsS89.own_ne HI0.out af.out (by decide)));clear af ho hb hg hat))
        go_roundg k2
        case measure=>have:=HK1.out;have:=HK2.out;omega
        case rel=>exact⟨(aW),(wrap64 (aj+1)),(aG),(aH),rs_,H',⟨by have:=HK1.out;have:=HK2.out;omega⟩,⟨by(with_reducible repeat (first | apply Kd.S_alloc | apply Kd.S_drewN | apply Kd.S_drew));exact Kd.S_mono aa.out (fun _ hk=>hk.2)⟩,⟨by(with_reducible repeat (first | apply Kd.R_alloc | apply Kd.R_drewN | apply Kd.R_drew));exact Kd.R_mono bu.out (fun _ hk=>trivial)⟩,⟨hi_⟩,⟨hk_⟩,⟨hj_⟩⟩
       ·rw [if_neg c12] at H;exact absurd H (by simp)
      ·rw [if_neg c9] at H;have c9b0:=decide_eq_false c9;clear c9
       by_cases c19:ak.length < 5864062014805
       ·rw [if_pos c19] at H;have bv:=q_ c19;clear c19;obtain⟨aX,hy⟩: ∃y_:List (List Int),y_=(ak++ [ae]):=⟨_,rfl⟩
        replace H:(spec_l01DrawM.l0 k2 a1 a2 aX (wrap64 (ai+1)) s0_0 ag ah)=some (r1,r2,r3):=hh_;have bw:=q_ hy;clear hy;have H':=q_ H;clear H;obtain⟨aY,aZ,bC⟩:=Kd.R_slice af.out;subst bC
        go_wp2_with (first | ((with_reducible refine gate_builtin (b:= .append) (xs:= #[.tmp 33, .tmp 35]) rfl ?_);at_builtin;refine Kd.S_append (Kd.slice 2 (Kd.int .i64)) w.heap.size rfl (.tmp 33) (.tmp 35) 24 25 (.slice none 0 0) 24 rfl Try.underlying24 info25 rfl (by decide) (by omega) u7 ak ae [.slice aY ae.length aZ] (fun _=>True) (fun k_=>some k_=(.slice aY ae.length aZ:Value).ownBlock) rfl rfl ?aP (fun k_ hk_=>((Kd.R_mono (ok':=fun k_=>((fun _=>True)) k_∧some k_≠(u7:Value).ownBlock) (Kd.R_apart' (af.out) (Kd.S_typed aa.out) (by decide)) (fun k_ hk=>⟨trivial,hk.2⟩))).1 k_ hk_.symm) ?aF ?aO (Below.refl _ _) ?aS ?aL ?_;(case aP=>exact Kd.M_row (Kd.R_mono (Kd.R_tight rfl (Kd.R_mono (ok':=fun k_=>((fun _=>True)) k_∧some k_≠(u7:Value).ownBlock) (Kd.R_apart' (af.out) (Kd.S_typed aa.out) (by decide)) (fun k_ hk=>⟨trivial,hk.2⟩))) (fun _ h_=>h_)));(case aF=>exact(fun _ _=>trivial));(case aO=>exact(by(with_reducible repeat (first | apply Kd.S_alloc | apply Kd.S_drewN | apply Kd.S_drew));exact Kd.S_mono aa.out (fun k_ hk=>⟨trivial,fun e_=>hk e_⟩)));(case aS=>exact(keep_size (w:=w) (g:=g) (row:=none) hk_));(case aL=>have:=bv.out;omega);intro bH w20 ho hb hg hat;rw [← bw.out] at ho;replace HB:=q_ (below_weaken hj_ HL.out hb);replace HK:=q_ (KeepBut.trans hk_ (KeepBut.of_grown hg g) (Kd.S_base2 aa.out));have bz:=q_ (ho);replace HI0:=q_ (IsS89.grown hi_ hg (IsS89.own_neS HI0.out aa.out (by decide)));clear aa af ho hb hg hat))
        go_roundg k2
        case measure=>have:=HK1.out;have:=HK2.out;omega
        case rel=>exact⟨(aX),(wrap64 (ai+1)),(ag),(ah),rs_,H',⟨by have:=HK1.out;have:=HK2.out;omega⟩,⟨so_ bz.out⟩,⟨hi_⟩,⟨hk_⟩,⟨hj_⟩⟩
       ·rw [if_neg c19] at H;exact absurd H (by simp)
   ·rw [if_neg c6] at H;have c6b0:=decide_eq_false c6;clear c6;simp only [Option.some.injEq,Prod.mk.injEq] at H;obtain⟨rfl,rfl,rfl⟩:=H;go_wp2
    go_ret
    exact⟨_,by first | rfl | (simp [errW_none,errW_some] <;> rfl) | (simp [*,errW_none,errW_some] <;> rfl),so_ aa.out,hi_,hj_,hk_⟩
end Go.Proofs.Ytbjljcpngbhkeaa.Pr
end
section
namespace Go.Proofs.Ytbjljcpngbhkeaa.Dr
open Go.RowKit Go.Proofs.YtbjljcpngbhkeaaW.PrintWords Go.Proofs.YtbjljcpngbhkeaaW.PrintLast Go.Proofs.YtbjljcpngbhkeaaW.PrintMore Go.Proofs.Ytbjljcpngbhkeaa.Ma Go.Proofs.Ytbjljcpngbhkeaa.Pr
def Srm (w0 w:World) (g:Nat):Prop:= ∃b a h,IsS89 w0 w g b a h∧Src b a
structure Stp (w0 w:World) (g:Nat) (w':World):Prop where
 src:Srm w0 w' g
 below:Below w0.heap.size w0 w'
 keep:KeepBut w w' g none
section
variable {w0 w:World} {g:Nat} (h:Srm w0 w g) (hB:Below w0.heap.size w0 w)
include h hB
theorem next_c (n:Int):Calls Try.prog 37 #[.pointer (some ⟨g,0,none⟩), .int .i64 n] w fun e w'=> ∃x,e= .returned (.int .i64 x)∧(1≤n→0≤x∧x < n)∧Stp w0 w g w':=by
 obtain⟨b,a,hh,hI,hs⟩:=h
 obtain⟨x,a',h',e,p1,p2,p3⟩:=next_f hs hh n
 refine(spec_l01Next.calls g b a hh n x a' h' w0 w hI hB e).mono ?_
 rintro e w' ⟨rfl,hI',hB',hK⟩
 exact⟨x,rfl,p2,⟨b,a',h',hI',p1⟩,hB',hK⟩
theorem pick_c (A1:Option Addr) (c1:Nat) (l1:List Int) (hr1:Kd.C (Kd.int .i64) w A1 l1.length l1) (hc1:l1.length≤c1) (hf1: ∀ad,A1=some ad→0 < l1.length→ad.block≠g) (hl:1≤l1.length):Calls Try.prog 51 #[.pointer (some ⟨g,0,none⟩), .slice A1 l1.length c1] w fun e w'=> ∃x,e= .returned (.int .i64 x)∧x ∈ l1∧Stp w0 w g w':=by
 obtain⟨b,a,hh,hI,hs⟩:=h
 obtain⟨r,⟨k,e⟩,p1,p2⟩:=pick_ex hs hh l1 hl
 refine(spec_l01Pick.calls g b a hh A1 c1 l1 r.1 r.2.1 r.2.2 w0 w hI hB hr1 hc1 hf1 (e k (Nat.le_refl _))).mono ?_
 rintro e w' ⟨rfl,hI',hB',hK⟩
 exact⟨_,rfl,p2,⟨b,_,_,hI',p1⟩,hB',hK⟩
theorem part_c (n:Int):Calls Try.prog 76 #[.pointer (some ⟨g,0,none⟩), .int .i64 n] w fun e w'=> ∃x,e= .returned (.int .i64 x)∧Stp w0 w g w':=by
 obtain⟨b,a,hh,hI,hs⟩:=h
 obtain⟨x,a',h',e,p1,p2,p3⟩:=next_f hs hh (wrap64 (wrap64 (2*n)+1))
 refine(spec_l01DrawPart.calls g b a hh n _ a' h' w0 w hI hB (by unfold spec_l01DrawPart.f;rw [e];rfl)).mono ?_
 rintro e w' ⟨rfl,hI',hB',hK⟩
 exact⟨_,rfl,⟨b,a',h',hI',p1⟩,hB',hK⟩
end
theorem keep_cell {w w':World} {g:Nat} (hk:KeepBut w w' g none) {p:Addr} {v:Value} (h:w.cell? p=some v) (hp:p.block≠g):w'.cell? p=some v:=by
 have:=World.block_lt_of_cell? w _ h
 rw [← h]
 unfold World.cell?
 rw [hk.2 _ this hp (by simp)]
theorem keep_froz {w w':World} {g:Nat} (hk:KeepBut w w' g none) {p:Addr} (hl:p.block < w.heap.size) (hp:p.block≠g):w'.frozen? p=w.frozen? p:=by
 unfold World.frozen?
 rw [hk.2 _ hl hp (by simp)]
theorem Stp.refl {w0 w:World} {g:Nat} (h:Srm w0 w g) (hB:Below w0.heap.size w0 w):Stp w0 w g w:=⟨h,hB,KeepBut.refl w g none⟩
theorem Stp.trans {w0 w w1 w2:World} {g:Nat} (h:Stp w0 w g w1) (k:Stp w0 w1 g w2):Stp w0 w g w2:=⟨k.src,k.below,h.keep.trans k.keep (.inl rfl)⟩
theorem Srm.ge {w0 w:World} {g:Nat} (h:Srm w0 w g):w0.heap.size≤g:=by
 obtain⟨b,a,hh,hI,hs⟩:=h
 exact hI.ge
theorem Srm.lt {w0 w:World} {g:Nat} (h:Srm w0 w g):g < w.heap.size:=by
 obtain⟨b,a,hh,hI,hs⟩:=h
 exact hI.lt
theorem Srm.keep {w0 w w':World} {g:Nat} (h:Srm w0 w g) (e:w'.heap[g]?=w.heap[g]?):Srm w0 w' g:=by
 obtain⟨b,a,hh,⟨A0,c0,h1,h2,h3⟩,hs⟩:=h
 exact⟨b,a,hh,⟨A0,c0,e.trans h1,h2,h3⟩,hs⟩
theorem Stp.of_below {w0 w w':World} {g:Nat} (h:Srm w0 w g) (hB:Below w0.heap.size w0 w) (hb:Below w.heap.size w w'):Stp w0 w g w':=
 ⟨h.keep (hb.block g h.lt),below_then hB hB.size hb,KeepBut.of_below hb g none⟩
theorem Stp.set {w0 wE w:World} {g:Nat} (h:Stp w0 wE g w) (hE:w0.heap.size≤wE.heap.size) (b i:Nat) (v:Value) (hb:wE.heap.size≤b) (hg:b≠g):Stp w0 wE g (w.setCell ⟨b,i,none⟩ v):=
 ⟨h.src.keep (Below.heap_setCell w ⟨b,i,none⟩ v g (Ne.symm hg)),h.below.setCell (Nat.le_trans hE hb) v,⟨by simpa [World.setCell] using h.keep.1,fun j hj h1 h2=>(Below.heap_setCell w ⟨b,i,none⟩ v j (by intro e;subst e;exact absurd hb (by omega))).trans (h.keep.2 j hj h1 h2)⟩⟩
theorem drawM_ex {b:List Int} {a:Int} (hs:Src b a) (h most:Int) (n:Nat) (hn:n≤5):Ex (fun k=>spec_l01DrawM.f k b a h (n:Int) most) (fun r=>r.1.length=n∧(∀x ∈ r.1,x.length=n)∧Src b r.2.1):=by
 have loop: ∀(q i:Nat) (a h:Int) (acc:List (List Int)),i+q=n→acc.length=i→(∀x ∈ acc,x.length=n)→Src b a→Ex (fun k=>spec_l01DrawM.l0 k (n:Int) most acc (i:Int) b a h) (fun r=>r.1.length=n∧(∀x ∈ r.1,x.length=n)∧Src b r.2.1):=by
  intro q
  induction q with
  | zero=>
   intro i a h acc hi hl hx hs
   refine exstep (fun k=>by rw [spec_l01DrawM.l0]) ?_
   exact exneg (by omega) (exc rfl ⟨by show acc.length=n;omega,hx,hs⟩)
  | succ q ih=>
   intro i a h acc hi hl hx hs
   have inner: ∀(p j:Nat) (a h:Int) (row:List Int),j+p=n→row.length=j→Src b a→Ex (fun k=>spec_l01DrawM.l1 k (n:Int) most acc (i:Int) row (j:Int) b a h) (fun r=>r.1.length=n∧(∀x ∈ r.1,x.length=n)∧Src b r.2.1):=by
    intro p
    induction p with
    | zero=>
     intro j a h row hj hr hs
     refine exstep (fun k=>by rw [spec_l01DrawM.l1]) ?_
     refine exneg (by omega) (expos (by omega) ?_)
     rw [w64 (x:=(i:Int)+1) (by omega) (by omega)]
     refine ih (i+1) a h _ (by omega) (by simp;omega) (fun x hm=>?_) hs
     rcases List.mem_append.1 hm with m | m
     ·exact hx x m
     ·rw [List.mem_singleton.1 m];omega
    | succ p ihp=>
     intro j a h row hj hr hs
     refine exstep (fun k=>by rw [spec_l01DrawM.l1]) ?_
     rw [w64 (x:=(j:Int)+1) (by omega) (by omega)]
     refine expos (by omega) (exbind (P:=fun r=>Src b r.2.1) ?_ (fun r p=>exbind (pick_ex p r.2.2 _ (by decide)) (fun r2 p2=>expos (by omega) (ihp (j+1) _ _ _ (by omega) (by simp;omega) p2.1))))
     unfold spec_l01DrawPart.f
     exact exbind (next_ex hs h _) (fun r p=>exc rfl p.1)
   refine exstep (fun k=>by rw [spec_l01DrawM.l0]) ?_
   exact expos (by omega) (inner n 0 a h [] (by omega) rfl hs)
 exact loop n 0 a h [] (by omega) rfl (by simp) hs
end Go.Proofs.Ytbjljcpngbhkeaa.Dr
end
section
namespace Go.Proofs.Ytbjljcpngbhkeaa.Lq
open Go.RowKit Go.Proofs.YtbjljcpngbhkeaaW.PrintWords Go.Proofs.YtbjljcpngbhkeaaW.PrintLast Go.Proofs.YtbjljcpngbhkeaaW.PrintMore
theorem nd_ {P:Program} {ops:Array Oper} {Q:Exit→Act→World→Prop} {md:Region.Mode} {S:World→Prop} {ds:List Nat} {fuel:Nat} {l:Array Bool} {a a':Act} {w:World} {dst:Option Tmp} {v:Value} (N:Tmp) (h:wpAnyLast P md ops Q S ds fuel l a' w) (hN:dst=some N:=by rfl) (ha:a.put (some N) v=a':=by(simp only [Act.put,List.setIfInBounds_toArray,List.set_cons_zero,List.set_cons_succ,i64_w,i32_w];rfl)):wpAnyLast P md ops Q S ds fuel l (a.put dst v) w:=by
 subst hN;rw [ha];exact h
theorem lt_of_cell {w:World} {p:Addr} {v:Value} (h:w.cell? p=some v):p.block < w.heap.size:=World.block_lt_of_cell? w _ h
theorem cset_same {w:World} {p:Addr} {u v:Value} (h:w.cell? p=some u):(w.setCell p v).cell? p=some v:=World.cell?_setCell_same w p v h
theorem cset_other {w:World} {p q:Addr} {v:Value} (h:p≠q):(w.setCell p v).cell? q=w.cell? q:=World.cell?_setCell_other w p q v h
theorem fset {w:World} {p q:Addr} {v:Value}:(w.setCell p v).frozen? q=w.frozen? q:=World.frozen?_setCell w p q v
theorem cset_blk {w:World} {g i h j:Nat} {v:Value} (e:g≠h):(w.setCell ⟨g,i,none⟩ v).cell? ⟨h,j,none⟩=w.cell? ⟨h,j,none⟩:=cset_other (fun q=>e (congrArg Addr.block q))
theorem cset_off {w:World} {g i h j:Nat} {v:Value} (e:i≠j):(w.setCell ⟨g,i,none⟩ v).cell? ⟨h,j,none⟩=w.cell? ⟨h,j,none⟩:=cset_other (fun q=>e (congrArg Addr.off q))
theorem add_off (g i j:Nat):(⟨g,i,none⟩:Addr).add j=⟨g,i+j,none⟩:=by unfold Addr.add;split <;> simp_all
end Go.Proofs.Ytbjljcpngbhkeaa.Lq
end
section
namespace Go.Proofs.Ytbjljcpngbhkeaa.Lp
open Go.RowKit Go.Proofs.YtbjljcpngbhkeaaW.PrintWords Go.Proofs.YtbjljcpngbhkeaaW.PrintLast Go.Proofs.YtbjljcpngbhkeaaW.PrintMore Go.Proofs.Ytbjljcpngbhkeaa.Ma Go.Proofs.Ytbjljcpngbhkeaa.Lq
theorem S_put {e base n' cap i k:Nat} {W:World} {ok:Nat→Prop} {ad:Addr} {Ls:List (List Int)} {v13:Value} (h:Kd.S (Kd.slice 2 (Kd.int .i64)) e W base ok (.slice (some ad) n' cap) Ls) (hi:i < n') (hcell:W.cell? (ad.add i)=some v13) (hk:k < (Ls.getD i []).length):
  ∃g c,v13= .slice (some ⟨g,0,none⟩) (Ls.getD i []).length c∧ok g∧some g≠(Value.slice (some ad) n' cap).ownBlock∧(∃cells,W.heap[g]?=some (.cells cells 2 (0,0)))∧W.cell? ⟨g,k,none⟩=some (.int .i64 ((Ls.getD i []).getD k 0))∧W.frozen? ⟨g,k,none⟩=false∧base≤g∧
   ∀x,W.grownBy (W.setCell ⟨g,k,none⟩ (.int .i64 x)) (some g)∧Kd.S (Kd.slice 2 (Kd.int .i64)) e (W.setCell ⟨g,k,none⟩ (.int .i64 x)) base ok (.slice (some ad) n' cap) (Ls.set i ((Ls.getD i []).set k x)):=by
 obtain⟨oki,c,hcl,hM,hcc,hoki,hback⟩:=Kd.S_borrow h ([]:List Int) (i:Int) (by omega) (by omega)
 rw [Int.toNat_natCast] at hM hcc hback
 obtain⟨v,hc,hR⟩:=hM
 subst hc
 have hv:=hcc 0 v rfl
 rw [show i*(Kd.slice 2 (Kd.int .i64)).sz+0=i from by show i*1+0=i;omega,hcell] at hv
 injection hv with hv
 subst hv
 obtain⟨g,cap8,hv8,hb8,hl8,cells,hc8⟩:=Kd.R_form hR (by omega)
 have ho:v13.ownBlock=some g:=by rw [hv8];simp [Value.ownBlock]
 have hokg:=hR.1 g ho
 rw [hv8] at hR
 have hat:=Kd.R_celln 0 hR (k:Int) (by omega) (by omega)
 rw [Int.toNat_natCast] at hat
 refine⟨g,cap8,hv8,(hoki g hokg).1,(hoki g hokg).2,⟨cells,hc8⟩,by simpa [rdOf] using hat.1,hat.2,hb8,fun x=>?_⟩
 have hp:=Kd.R_putg hR (k:Int) x
 rw [Int.toNat_natCast] at hp
 refine⟨hp.2,hback hp.2 (fun q hq=>by injection hq with hq;rw [← hq];exact hokg) ⟨_,by rw [hv8],?_⟩⟩
 have e:=hp.1
 rw [show (Ls.getD i []).length=((Ls.getD i []).set k x).length from by simp] at e ⊢
 exact e
end Go.Proofs.Ytbjljcpngbhkeaa.Lp
end
section
namespace Go.Proofs.Ytbjljcpngbhkeaa.Dr
open Go.RowKit Go.Proofs.YtbjljcpngbhkeaaW.PrintWords Go.Proofs.YtbjljcpngbhkeaaW.PrintLast Go.Proofs.YtbjljcpngbhkeaaW.PrintMore Go.Proofs.Ytbjljcpngbhkeaa.Ma Go.Proofs.Ytbjljcpngbhkeaa.Pr Go.Proofs.Ytbjljcpngbhkeaa.Lq Go.Proofs.Ytbjljcpngbhkeaa.Lp
theorem vec_C {w:World} {b n:Nat} (hn:n≤1099511627776) (f:Nat→Int) (hx: ∀k,k < n→w.cell? ⟨b,k,none⟩=some (.int .i64 (f k))):Kd.C (Kd.int .i64) w (some ⟨b,0,none⟩) ((List.range n).map f).length ((List.range n).map f):=by
 have hl:((List.range n).map f).length=n:=by simp
 refine⟨rfl,by rw [hl];omega,fun _=>⟨_,rfl,fun c p hp=>?_⟩⟩
 have hc:c < n:=by have:=(List.getElem?_eq_some_iff.1 hp).1;omega
 have hpe:p=f c:=by
  rw [List.getElem?_map,List.getElem?_range hc] at hp
  exact(Option.some.inj hp).symm
 subst hpe
 refine⟨[.int .i64 (f c)],rfl,rfl,fun u v hv=>?_⟩
 have hu:u=0:=by cases u with
  | zero=>rfl
  | succ u=>simp at hv
 subst hu
 have hv:Value.int .i64 (f c)=v:=by simpa using hv
 rw [← hv]
 have e:(⟨b,0,none⟩:Addr).add (c*(Kd.int .i64).sz+0)=⟨b,c,none⟩:=by
  show (⟨b,0,none⟩:Addr).add (c*1+0)=_
  rw [Nat.mul_one,Nat.add_zero,add_off];try rw [Nat.zero_add]
 rw [e]
 exact hx c hc
structure Dm (w:World) (lo gm n c:Nat) (b cp:Nat→Nat):Prop where
 g0:lo≤gm∧gm < w.heap.size
 cap:n≤c
 row: ∀j,j < n→w.cell? ⟨gm,j,none⟩=some (.slice (some ⟨b j,0,none⟩) n (cp j))
 rr: ∀j,j < n→lo≤b j∧b j < w.heap.size∧b j≠gm∧n≤cp j
 ints: ∀j k,j < n→k < n→(∃x,w.cell? ⟨b j,k,none⟩=some (.int .i64 x))∧w.frozen? ⟨b j,k,none⟩=false
section
variable {w w':World} {lo gm n c:Nat} {b cp:Nat→Nat} (h:Dm w lo gm n c b cp)
include h
theorem Dm.down {lo2:Nat} (hl:lo2≤lo):Dm w lo2 gm n c b cp:=⟨⟨Nat.le_trans hl h.g0.1,h.g0.2⟩,h.cap,h.row,fun j hj=>⟨Nat.le_trans hl (h.rr j hj).1,(h.rr j hj).2⟩,h.ints⟩
theorem Dm.keep {g:Nat} (hk:KeepBut w w' g none) (hg:g < lo):Dm w' lo gm n c b cp:=by
 have h0:=h.g0
 refine⟨⟨h0.1,Nat.lt_of_lt_of_le h0.2 hk.1⟩,h.cap,fun j hj=>keep_cell hk (h.row j hj) (by show gm≠g;omega),fun j hj=>?_,fun j k hj hk2=>?_⟩
 ·have:=h.rr j hj;exact⟨this.1,Nat.lt_of_lt_of_le this.2.1 hk.1,this.2.2⟩
 ·have hr:=h.rr j hj
  obtain⟨⟨x,hx⟩,hf⟩:=h.ints j k hj hk2
  exact⟨⟨x,keep_cell hk hx (by show b j≠g;omega)⟩,(keep_froz hk hr.2.1 (by show b j≠g;omega)).trans hf⟩
theorem Dm.set {d i:Nat} {v:Value} (hg:d≠gm) (hb: ∀j,j < n→d≠b j):Dm (w.setCell ⟨d,i,none⟩ v) lo gm n c b cp:=by
 have hs:(w.setCell ⟨d,i,none⟩ v).heap.size=w.heap.size:=by simp [World.setCell]
 refine⟨by rw [hs];exact h.g0,h.cap,fun j hj=>(cset_blk hg).trans (h.row j hj),fun j hj=>by rw [hs];exact h.rr j hj,fun j k hj hk=>?_⟩
 obtain⟨⟨x,hx⟩,hf⟩:=h.ints j k hj hk
 exact⟨⟨x,(cset_blk (hb j hj)).trans hx⟩,fset.trans hf⟩
theorem Dm.put {i k:Nat} (hi:i < n) (hk:k < n) (x:Int):Dm (w.setCell ⟨b i,k,none⟩ (.int .i64 x)) lo gm n c b cp:=by
 have hs:(w.setCell ⟨b i,k,none⟩ (.int .i64 x)).heap.size=w.heap.size:=by simp [World.setCell]
 refine⟨by rw [hs];exact h.g0,h.cap,fun j hj=>(cset_blk (h.rr i hi).2.2.1).trans (h.row j hj),fun j hj=>by rw [hs];exact h.rr j hj,fun j q hj hq=>?_⟩
 obtain⟨⟨y,hy⟩,hf⟩:=h.ints j q hj hq
 refine⟨?_,fset.trans hf⟩
 by_cases e:b i=b j∧k=q
 ·obtain⟨e1,rfl⟩:=e
  rw [← e1]
  obtain⟨⟨z,hz⟩,_⟩:=h.ints i k hi hk
  exact⟨x,cset_same hz⟩
 ·refine⟨y,?_⟩
  by_cases e1:b i=b j
  ·exact(cset_off (fun q2=>e ⟨e1,q2⟩)).trans hy
  ·exact(cset_blk e1).trans hy
open Classical in
theorem Dm.C (hn:n≤1000): ∃M:List (List Int),M.length=n∧(∀x ∈ M,x.length=n)∧Kd.C (Kd.slice 2 (Kd.int .i64)) w (some ⟨gm,0,none⟩) M.length M:=by
 have hx: ∀j k, ∃x:Int,j < n→k < n→w.cell? ⟨b j,k,none⟩=some (.int .i64 x):=fun j k=>by
  by_cases q:j < n∧k < n
  ·obtain⟨x,hx⟩:=(h.ints j k q.1 q.2).1
   exact⟨x,fun _ _=>hx⟩
  ·exact⟨0,fun a b=>absurd ⟨a,b⟩ q⟩
 have hf: ∃f:Nat→Nat→Int, ∀j k,j < n→k < n→w.cell? ⟨b j,k,none⟩=some (.int .i64 (f j k)):=by
  refine⟨fun j k=>Classical.choose (hx j k),fun j k=>Classical.choose_spec (hx j k)⟩
 obtain⟨f,hf⟩:=hf
 refine⟨(List.range n).map (fun j=>(List.range n).map (f j)),by simp,fun x hm=>?_,?_⟩
 ·obtain⟨j,_,rfl⟩:=List.mem_map.1 hm
  simp
 ·have hl:((List.range n).map (fun j=>(List.range n).map (f j))).length=n:=by simp
  refine⟨rfl,by rw [hl];omega,fun _=>⟨_,rfl,fun q p hp=>?_⟩⟩
  have hc:q < n:=by have:=(List.getElem?_eq_some_iff.1 hp).1;omega
  have hpe:p=(List.range n).map (f q):=by
   rw [List.getElem?_map,List.getElem?_range hc] at hp
   exact(Option.some.inj hp).symm
  subst hpe
  have hlq:((List.range n).map (f q)).length=n:=by simp
  refine⟨[.slice (some ⟨b q,0,none⟩) ((List.range n).map (f q)).length (cp q)],rfl,⟨_,_,rfl,by rw [hlq];exact(h.rr q hc).2.2.2,vec_C (by omega) (f q) (fun k hk=>hf q k hc hk)⟩,fun u v hv=>?_⟩
  have hu:u=0:=by cases u with
   | zero=>rfl
   | succ u=>simp at hv
  subst hu
  have hv:Value.slice (some ⟨b q,0,none⟩) ((List.range n).map (f q)).length (cp q)=v:=by simpa using hv
  rw [← hv,hlq]
  have e:(⟨gm,0,none⟩:Addr).add (q*(Kd.slice 2 (Kd.int .i64)).sz+0)=⟨gm,q,none⟩:=by
   show (⟨gm,0,none⟩:Addr).add (q*1+0)=_
   rw [Nat.mul_one,Nat.add_zero,add_off];try rw [Nat.zero_add]
  rw [e]
  exact h.row q hc
end
theorem S_cap {e base n' cap i:Nat} {W:World} {ok:Nat→Prop} {ad:Addr} {Ls:List (List Int)} (h:Kd.S (Kd.slice 2 (Kd.int .i64)) e W base ok (.slice (some ad) n' cap) Ls) (hi:i < n'): ∃A c,W.cell? (ad.add i)=some (.slice A (Ls.getD i []).length c)∧(Ls.getD i []).length≤c:=by
 obtain⟨oki,c,hcl,hM,hcc,_,_⟩:=Kd.S_borrow h ([]:List Int) (i:Int) (by omega) (by omega)
 rw [Int.toNat_natCast] at hM hcc
 obtain⟨v,hc,hR⟩:=hM
 subst hc
 have hv:=hcc 0 v rfl
 rw [show i*(Kd.slice 2 (Kd.int .i64)).sz+0=i from by show i*1+0=i;omega] at hv
 obtain⟨A,c,rfl⟩:=Kd.R_slice hR
 exact⟨A,c,hv,(Kd.R_reads' hR).2.1⟩
theorem Dm.of {w:World} {e base:Nat} {ok:Nat→Prop} {v:Value} {M:List (List Int)} {n:Nat} (h:Kd.S (Kd.slice 2 (Kd.int .i64)) e w base ok v M) (hM:M.length=n) (hr: ∀x ∈ M,x.length=n) (hn:0 < n): ∃gm c b cp,v= .slice (some ⟨gm,0,none⟩) n c∧Dm w base gm n c b cp∧ok gm∧ ∀j,j < n→ok (b j):=by
 obtain⟨gm,c,rfl,hb,hl,cells,hc⟩:=Kd.S_form h (by omega)
 have hcap:=(Kd.S_reads' h).2.1
 rw [hM] at hcap
 have rows: ∀j:Nat, ∃(p:Nat × Nat),j < n→w.cell? ⟨gm,j,none⟩=some (.slice (some ⟨p.1,0,none⟩) n p.2)∧base≤p.1∧p.1 < w.heap.size∧p.1≠gm∧n≤p.2∧(∀k,k < n→(∃x,w.cell? ⟨p.1,k,none⟩=some (.int .i64 x))∧w.frozen? ⟨p.1,k,none⟩=false)∧ok p.1:=fun j=>by
  by_cases hj:j < n
  ·have hlen:(M.getD j []).length=n:=by
    rw [List.getD_eq_getElem?_getD,List.getElem?_eq_getElem (by omega)]
    exact hr _ (List.getElem_mem _)
   obtain⟨A,cj,hcell,hcj⟩:=S_cap h (show j < M.length by omega)
   rw [add_off,Nat.zero_add] at hcell
   obtain⟨g1,c1,e1,o1,n1,t1,x1,f1,b1,_⟩:=S_put h (show j < M.length by omega) (by rw [add_off,Nat.zero_add];exact hcell) (show 0 < (M.getD j []).length by omega)
   rw [hlen] at e1 hcell
   rw [e1] at hcell
   injection e1 with e1a e1b e1c
   refine⟨(g1,c1),fun _=>⟨hcell,b1,lt_of_cell x1,fun q=>n1 (by rw [show g1=gm from q];simp [Value.ownBlock]),?_,fun k hk=>?_,o1⟩⟩
   ·show n≤c1
    omega
   ·obtain⟨g2,c2,e2,o2,n2,t2,x2,f2,b2,_⟩:=S_put h (show j < M.length by omega) (by rw [add_off,Nat.zero_add];exact hcell) (show k < (M.getD j []).length by omega)
    injection e2 with e3
    injection e3 with e3
    injection e3 with e3
    subst e3
    exact⟨⟨_,x2⟩,f2⟩
  ·exact⟨(0,0),fun q=>absurd q hj⟩
 obtain⟨f,hf⟩:=Classical.axiomOfChoice rows
 have hok:ok gm:=(Kd.S_R h).1 gm (by rw [hM];simp [Value.ownBlock])
 rw [hM]
 exact⟨gm,c,fun j=>(f j).1,fun j=>(f j).2,rfl,⟨⟨hb,hl⟩,hcap,fun j hj=>(hf j hj).1,fun j hj=>⟨(hf j hj).2.1,(hf j hj).2.2.1,(hf j hj).2.2.2.1,(hf j hj).2.2.2.2.1⟩,fun j k hj hk=>(hf j hj).2.2.2.2.2.1 k hk⟩,hok,fun j hj=>(hf j hj).2.2.2.2.2.2⟩
end Go.Proofs.Ytbjljcpngbhkeaa.Dr
end
section
namespace Go.Proofs.Ytbjljcpngbhkeaa.Dr
open Go.RowKit Go.Proofs.YtbjljcpngbhkeaaW.PrintWords Go.Proofs.YtbjljcpngbhkeaaW.PrintLast Go.Proofs.YtbjljcpngbhkeaaW.PrintMore Go.Proofs.Ytbjljcpngbhkeaa.Ma Go.Proofs.Ytbjljcpngbhkeaa.Pr Go.Proofs.Ytbjljcpngbhkeaa.Lq
attribute [local go_sem] max2_int min2_int max_two min_two max_three min_three max_four min_four
theorem drawM_c {w0 w:World} {g:Nat} (h:Srm w0 w g) (hB:Below w0.heap.size w0 w) (n:Nat) (hn:n≤5) (hn0:0 < n) (most:Int):Calls Try.prog 102 #[.pointer (some ⟨g,0,none⟩), .int .i64 (n:Int), .int .i64 most] w fun e w'=> ∃gm c b cp,e= .returned (.slice (some ⟨gm,0,none⟩) n c)∧Dm w' w.heap.size gm n c b cp∧Stp w0 w g w':=by
 obtain⟨bs,a,hh,hI,hs⟩:=h
 obtain⟨r,⟨k,e⟩,p1,p2,p3⟩:=drawM_ex hs hh most n hn
 refine(spec_l01DrawM.calls k g bs a hh (n:Int) most r.1 r.2.1 r.2.2 w0 w hI hB (e k (Nat.le_refl _))).mono ?_
 rintro e w' ⟨v,rfl,hS,hI',hB',hK⟩
 obtain⟨gm,c,b,cp,rfl,hD,_⟩:=Dm.of hS p1 p2 hn0
 exact⟨gm,c,b,cp,rfl,hD,⟨⟨bs,_,_,hI',p3⟩,hB',hK⟩⟩
theorem drawP_c {w0 w:World} {g:Nat} (h:Srm w0 w g) (hB:Below w0.heap.size w0 w) (n:Nat) (hn:n≤5) (hn0:0 < n):Calls Try.prog 103 #[.pointer (some ⟨g,0,none⟩), .int .i64 (n:Int)] w fun e w'=> ∃gm c b cp,e= .returned (.slice (some ⟨gm,0,none⟩) n c)∧Dm w' w.heap.size gm n c b cp∧Stp w0 w g w':=by
 have HM:=q_ (drawM_c h hB n hn hn0 3);have HG:=q_ h.lt;have HE:=q_ hB.size;have HN:=q_ hn;clear h hB hn hn0
 go_enter Try.func103,Try.ntmps103
 go_wp2_with fail
 refine HM.out.mono ?_
 rintro e w1 ⟨gm,c,b,cp,rfl,hD,hS⟩;have DM:=q_ hD;have ST:=q_ hS;clear hD hS HM;go_wp2
 go_loopg [6] n (fun gg v6 wr=> ∃(i:Nat),i≤n∧n - i≤gg∧v6= .int .i64 (i:Int)∧Aside0 (Dm wr w.heap.size gm n c b cp)∧Aside0 (Stp w0 w g wr))
 case atStart=>exact⟨0,Nat.zero_le _,by omega,rfl,DM,ST⟩
 case round=>
  clear DM ST;obtain⟨i,hi',hg,rfl,DM,ST⟩:=hrel;have HGG:=q_ hg
  by_cases hlt:i < n
  ·have hltz:(i:Int) < (n:Int):=by omega
   have h0z:(0:Int)≤(i:Int):=by omega
   have hwi:IntKind.i64.wrap ((i:Int)+1)=((i+1:Nat):Int):=by rw [IntWalk.i64_in _ (by have:=HN.out;omega)];rfl
   have HWI:=q_ hwi;have HLT:=q_ hlt;have hrow:=DM.out.row i hlt;obtain⟨⟨x,hx⟩,hfx⟩:=DM.out.ints i i hlt hlt;have hr:=DM.out.rr i hlt;have DM2:=q_ (DM.out.put hlt hlt 0);have ST2:=q_ (ST.out.set HE.out (b i) i (.int .i64 0) hr.1 (by have:=HG.out;omega));have HR:=q_ hr;clear hi' hg hlt DM ST hr;go_wp2
   clear hrow hx hfx
   generalize wr.setCell ⟨b i,i,none⟩ (.int .i64 0)=w2 at*
   go_loopg [8,9] n (fun gg v8 v9 wr2=> ∃(k:Nat) (s:Int),k≤n∧n - k≤gg∧v8= .int .i64 s∧v9= .int .i64 (k:Int)∧Aside0 (Dm wr2 w.heap.size gm n c b cp)∧Aside0 (Stp w0 w g wr2))
   case atStart=>exact⟨0,1,Nat.zero_le _,by omega,rfl,rfl,DM2,ST2⟩
   case round=>
    clear DM2 ST2;obtain⟨k,s,hk',hg2,rfl,rfl,DM,ST⟩:=hrel;have HG2:=q_ hg2
    by_cases hkn:k < n
    ·have hknz:(k:Int) < (n:Int):=by omega
     have h0k:(0:Int)≤(k:Int):=by omega
     have hwk:IntKind.i64.wrap ((k:Int)+1)=((k+1:Nat):Int):=by rw [IntWalk.i64_in _ (by have:=HN.out;omega)];rfl
     have HWK:=q_ hwk;have HKN:=q_ hkn;clear hk' hg2 hkn;go_wp2
     have hb:=below_drew (Below.refl wr.heap.size wr);replace ST:=q_ (ST.out.trans (Stp.of_below ST.out.src ST.out.below hb));replace DM:=q_ (DM.out.keep (KeepBut.of_below hb g none) HG.out);obtain⟨⟨x,hx⟩,hfx⟩:=DM.out.ints i k HLT.out HKN.out;refine st_ (n:=13) (S:=fun w'=>w'.cell? ⟨b i,k,none⟩=some (.int .i64 x)) (ds:= []) hx (fun hHeld=>?_)
     clear hb hx hfx
     generalize wr.drew=w3 at DM ST hHeld ⊢
     refine pu_ 0 30 ?_;refine pu_ 1 31 ?_;refine pu_ 2 32 ?_;refine pu_ 3 33 ?_;refine pu_ 5 35 ?_;refine pu_ 6 36 ?_;refine pu_ 7 37 ?_;refine tk_ 4 34 ?_;refine tk_ 8 38 ?_;refine pu_ 9 39 ?_;refine pu_ 10 40 ?_;refine pu_ 11 41 ?_;refine pu_ 12 8 ?_
     refine done_ (by kernel_rfl) ?_
     clear hHeld;go_wp2
     all_goals (go_roundg (n - (k+1));(case measure=>have:=HG2.out;have:=HKN.out;omega);(case rel=>exact⟨k+1,_,HKN.out,by omega,rfl,by first | rfl | (rw [HWK.out]) | (simp [HWK.out]),DM,ST⟩))
    ·have hknz: ¬ (k:Int) < (n:Int):=by omega
     clear hk' hg2 hkn
     go_wp2_with fail
     refine(next_c ST.out.src ST.out.below 3).mono ?_
     rintro e w3 ⟨y,rfl,_,hS⟩;replace ST:=q_ (ST.out.trans hS);replace DM:=q_ (DM.out.keep hS.keep HG.out);obtain⟨⟨x,hx⟩,hfx⟩:=DM.out.ints i i HLT.out HLT.out;clear hS;go_wp2
     go_roundg (n - (i+1))
     case measure=>have:=HGG.out;have:=HLT.out;omega
     case rel=>exact⟨i+1,HLT.out,by omega,by first | rfl | (rw [HWI.out]) | (simp [HWI.out]),⟨DM.out.put HLT.out HLT.out _⟩,⟨ST.out.set HE.out (b i) i _ HR.out.1 (by have:=HG.out;have:=HR.out.1;omega)⟩⟩
  ·have hltz: ¬ (i:Int) < (n:Int):=by omega
   clear hi' hg hlt;go_wp2
   go_ret
   exact⟨_,_,rfl,⟨_,_,DM.out⟩,ST.out⟩
end Go.Proofs.Ytbjljcpngbhkeaa.Dr
end
section
namespace Go.Proofs.Ytbjljcpngbhkeaa.Dr
open Go.RowKit Go.Proofs.YtbjljcpngbhkeaaW.PrintWords Go.Proofs.YtbjljcpngbhkeaaW.PrintLast Go.Proofs.YtbjljcpngbhkeaaW.PrintMore Go.Proofs.Ytbjljcpngbhkeaa.Ma Go.Proofs.Ytbjljcpngbhkeaa.Pr Go.Proofs.Ytbjljcpngbhkeaa.Lq
theorem lit_reps {W:World} {base:Nat} {ok:Nat→Prop}: ∀xs:List Int,Reps ((Kd.int .i64).M W base ok) (Kd.int .i64).sz xs (xs.map (fun x=>Value.int .i64 x))
 | []=>Reps.none _ _
 | x::xs=>Reps.one (show Kd.M (Kd.int .i64) _ _ _ x [.int .i64 x] from rfl) (lit_reps xs)
theorem Stp.lo {w0 wE W W1:World} {g:Nat} (h:Stp w0 wE g W) (hE:w0.heap.size≤wE.heap.size) (hg:g < wE.heap.size) (hb:Below wE.heap.size W W1):Stp w0 wE g W1:=
 ⟨h.src.keep (hb.block g hg),h.below.trans ⟨hb.os,hb.tape,hb.output,hb.size,fun i hi=>hb.block i (Nat.lt_of_lt_of_le hi hE)⟩,⟨Nat.le_trans h.keep.1 hb.size,fun i hi h1 h2=>(hb.block i hi).trans (h.keep.2 i hi h1 h2)⟩⟩
theorem Dm.grow {w w1:World} {lo gm n c:Nat} {b cp:Nat→Nat} (h:Dm w lo gm n c b cp) {row:Option Nat} (hg:w.grownBy w1 row) (hr:some gm≠row∧ ∀j,j < n→some (b j)≠row):Dm w1 lo gm n c b cp:=by
 have cell: ∀ {p:Addr} {v:Value},w.cell? p=some v→some p.block≠row→w1.cell? p=some v:=fun {p v} hp hn=>by
  have:=World.block_lt_of_cell? w _ hp
  rw [← hp];unfold World.cell?;rw [hg.block _ this hn]
 have froz: ∀ {p:Addr},p.block < w.heap.size→some p.block≠row→w1.frozen? p=w.frozen? p:=fun {p} hl hn=>by
  unfold World.frozen?;rw [hg.block _ hl hn]
 refine⟨⟨h.g0.1,Nat.lt_of_lt_of_le h.g0.2 hg.size⟩,h.cap,fun j hj=>cell (h.row j hj) hr.1,fun j hj=>?_,fun j k hj hk=>?_⟩
 ·have:=h.rr j hj;exact⟨this.1,Nat.lt_of_lt_of_le this.2.1 hg.size,this.2.2⟩
 ·obtain⟨⟨x,hx⟩,hf⟩:=h.ints j k hj hk
  exact⟨⟨x,cell hx (hr.2 j hj)⟩,(froz (h.rr j hj).2.1 (hr.2 j hj)).trans hf⟩
structure DQ (w0 w wr:World) (g g4 g5 n gm c:Nat) (b cp:Nat→Nat) (vq:Value):Prop where
 st:Stp w0 w g wr
 dm:Dm wr w.heap.size gm n c b cp
 b4:wr.heap[g4]?=some (.cells #[.slice none 0 0, .slice none 0 0] 27 (0,0))
 b5:wr.heap[g5]?=some (.cells #[.slice (some ⟨gm,0,none⟩) n c,vq] 27 (0,0))
 s4:w.heap.size≤g4∧g4≠g5∧g4≠gm∧ ∀j,j < n→g4≠b j
 s5:w.heap.size≤g5∧g5≠gm∧ ∀j,j < n→g5≠b j
 gl:g < w.heap.size
 el:w0.heap.size≤w.heap.size
def okQ (g g4 g5 n gm:Nat) (b:Nat→Nat) (k:Nat):Prop:=k≠g∧k≠g4∧k≠g5∧k≠gm∧ ∀j,j < n→k≠b j
structure DO (w0 w wr:World) (g g4 g5 n gm c:Nat) (b cp:Nat→Nat) (vq:Value) (Q:List Int):Prop where
 q:DQ w0 w wr g g4 g5 n gm c b cp vq
 rq:Kd.R (Kd.int .i64) 2 wr w.heap.size (okQ g g4 g5 n gm b) vq Q
section
variable {w0 w wr w1:World} {g g4 g5 n gm c:Nat} {b cp:Nat→Nat} {vq:Value} {Q:List Int} (h:DO w0 w wr g g4 g5 n gm c b cp vq Q)
include h
theorem DO.mv (hS:Stp w0 wr g w1):DO w0 w w1 g g4 g5 n gm c b cp vq Q:=by
 have h4:=h.q.s4;have h5:=h.q.s5;have hg:=h.q.gl
 exact⟨⟨h.q.st.trans hS,h.q.dm.keep hS.keep hg,hS.keep.blk h.q.b4 (by omega) (by simp),hS.keep.blk h.q.b5 (by omega) (by simp),h.q.s4,h.q.s5,h.q.gl,h.q.el⟩,Kd.R_keep h.rq hS.keep (fun k hk=>hk.1)⟩
theorem DO.below (hb:Below wr.heap.size wr w1):DO w0 w w1 g g4 g5 n gm c b cp vq Q:=h.mv (Stp.of_below h.q.st.src h.q.st.below hb)
theorem DO.put {j k:Nat} (hj:j < n) (hk:k < n) (x:Int):DO w0 w (wr.setCell ⟨b j,k,none⟩ (.int .i64 x)) g g4 g5 n gm c b cp vq Q:=by
 have h4:=h.q.s4;have h5:=h.q.s5;have hg:=h.q.gl;have hr:=h.q.dm.rr j hj
 exact⟨⟨h.q.st.set h.q.el (b j) k _ hr.1 (by omega),h.q.dm.put hj hk x,(Below.heap_setCell wr ⟨b j,k,none⟩ _ g4 (h4.2.2.2 j hj)).trans h.q.b4,(Below.heap_setCell wr ⟨b j,k,none⟩ _ g5 (h5.2.2 j hj)).trans h.q.b5,h4,h5,hg,h.q.el⟩,Kd.R_far h.rq (p:=⟨b j,k,none⟩) (fun q hq=>hq.2.2.2.2 j hj) _⟩
theorem DO.fresh (k:Nat) (hk:wr.heap.size≤k):okQ g g4 g5 n gm b k:=by
 have l4:=blk_lt h.q.b4;have l5:=blk_lt h.q.b5;have hg:=h.q.gl;have hs:=h.q.st.keep.1;have hm:=h.q.dm.g0
 exact⟨by omega,by omega,by omega,by omega,fun j hj=>by have:=(h.q.dm.rr j hj).2.1;omega⟩
theorem DO.grow (hg:wr.grownBy w1 vq.ownBlock) (hb:Below w.heap.size wr w1):DQ w0 w w1 g g4 g5 n gm c b cp vq:=by
 have hn: ∀k, ¬ okQ g g4 g5 n gm b k→some k≠vq.ownBlock:=fun k hk e=>hk (h.rq.1 k e.symm)
 refine⟨h.q.st.lo h.q.el h.q.gl hb,h.q.dm.grow hg ⟨hn _ (fun q=>q.2.2.2.1 rfl),fun j hj=>hn _ (fun q=>q.2.2.2.2 j hj rfl)⟩,blk_grown h.q.b4 hg (hn _ (fun q=>q.2.1 rfl)),blk_grown h.q.b5 hg (hn _ (fun q=>q.2.2.1 rfl)),h.q.s4,h.q.s5,h.q.gl,h.q.el⟩
end
theorem DQ.store {w0 w w1:World} {g g4 g5 n gm c:Nat} {b cp:Nat→Nat} {vq v1:Value} {Q:List Int} (h:DQ w0 w w1 g g4 g5 n gm c b cp vq) (hr:Kd.R (Kd.int .i64) 2 w1 w.heap.size (okQ g g4 g5 n gm b) v1 Q):DO w0 w (w1.setCell ⟨g5,1,none⟩ v1) g g4 g5 n gm c b cp v1 Q:=by
 have h4:=h.s4;have h5:=h.s5;have hg:=h.gl
 exact⟨⟨h.st.set h.el g5 1 _ h5.1 (by omega),h.dm.set h5.2.1 (fun j hj=>h5.2.2 j hj),(Below.heap_setCell w1 ⟨g5,1,none⟩ _ g4 h4.2.1).trans h.b4,blk_put h.b5 1 v1 rfl,h4,h5,hg,h.el⟩,Kd.R_far hr (p:=⟨g5,1,none⟩) (fun q hq=>hq.2.2.1) _⟩
theorem DO.new {w0 w w1 w2 w3:World} {g g4 g5 n gm c:Nat} {b cp:Nat→Nat} {vq:Value} {Q:List Int} (hE:w0.heap.size≤w.heap.size) (hg:g < w.heap.size) (h4:w.heap.size≤g4) (hl4:g4 < w1.heap.size) (st:Stp w0 w g w1) (hw1:w.heap.size≤w1.heap.size) (hS:Stp w0 w1 g w2) (dm:Dm w2 w1.heap.size gm n c b cp) (b4:w1.heap[g4]?=some (.cells #[.slice none 0 0, .slice none 0 0] 27 (0,0))) (hb:Below w2.heap.size w2 w3) (hr:Kd.R (Kd.int .i64) 2 w3 w2.heap.size (fun _=>True) vq Q) (h5:w2.heap.size≤g5) (hbox:w3.heap[g5]?=some (.cells #[.slice none 0 0, .slice none 0 0] 27 (0,0))) (hq5: ∀k,vq.ownBlock=some k→k≠g5):
  DO w0 w ((w3.setCell ⟨g5,0,none⟩ (.slice (some ⟨gm,0,none⟩) n c)).setCell ⟨g5,1,none⟩ vq) g g4 g5 n gm c b cp vq Q:=by
 have s2:=hS.keep.1
 have ge:=fun k hk=>Kd.R_base hr k hk
 have hS3:Stp w0 w g w3:=(st.trans hS).trans (Stp.of_below hS.src hS.below hb)
 have dm3:=(dm.keep (KeepBut.of_below hb g none) (by omega)).down hw1
 have g0:=dm.g0
 have rr:=dm.rr
 have e5:g5≠gm∧ ∀j,j < n→g5≠b j:=⟨by omega,fun j hj=>by have:=rr j hj;omega⟩
 have e4:g4≠g5∧g4≠gm∧ ∀j,j < n→g4≠b j:=⟨by omega,by omega,fun j hj=>by have:=rr j hj;omega⟩
 have b43:=blk_below (hS.keep.blk b4 (by omega) (by simp)) hb
 have hok:Kd.R (Kd.int .i64) 2 w3 w.heap.size (okQ g g4 g5 n gm b) vq Q:=by
  refine Kd.R_lower (Kd.R_mono (Kd.R_tight rfl hr) (fun k hk=>?_)) (by omega)
  have:=ge k hk.symm
  exact⟨by omega,by omega,hq5 k hk.symm,by omega,fun j hj=>by have:=rr j hj;omega⟩
 refine⟨⟨(hS3.set hE g5 0 _ (by omega) (by omega)).set hE g5 1 _ (by omega) (by omega),(dm3.set e5.1 e5.2).set e5.1 e5.2,?_,blk_put (blk_put hbox 0 _ rfl) 1 _ rfl,⟨h4,e4⟩,⟨by omega,e5⟩,hg,hE⟩,?_⟩
 ·exact(Below.heap_setCell _ ⟨g5,1,none⟩ _ g4 e4.1).trans ((Below.heap_setCell w3 ⟨g5,0,none⟩ _ g4 e4.1).trans b43)
 ·exact Kd.R_far (Kd.R_far hok (p:=⟨g5,0,none⟩) (fun q hq=>hq.2.2.1) _) (p:=⟨g5,1,none⟩) (fun q hq=>hq.2.2.1) _
theorem DO.rows {w0 w wr w2:World} {g g4 g5 n gm c gm2 c2:Nat} {b cp b2 cp2:Nat→Nat} {vq:Value} {Q:List Int} (h:DO w0 w wr g g4 g5 n gm c b cp vq Q) (hS:Stp w0 wr g w2) (hd:Dm w2 wr.heap.size gm2 n c2 b2 cp2):DO w0 w (w2.setCell ⟨g5,0,none⟩ (.slice (some ⟨gm2,0,none⟩) n c2)) g g4 g5 n gm2 c2 b2 cp2 vq Q:=by
 have hm:=h.mv hS
 have h4:=h.q.s4;have h5:=h.q.s5;have hg:=h.q.gl
 have l4:=blk_lt h.q.b4
 have l5:=blk_lt h.q.b5
 have hk:=h.q.st.keep.1
 have old:Kd.R (Kd.int .i64) 2 w2 w.heap.size (okQ g g4 g5 n gm2 b2) vq Q:=by
  refine Kd.R_mono (Kd.R_tight rfl hm.rq) (fun k hk=>?_)
  have ho:=h.rq.1 k hk.symm
  have hl:=Kd.R_lt h.rq k hk.symm
  refine⟨ho.1,ho.2.1,ho.2.2.1,?_,fun j hj=>?_⟩
  ·have:=hd.g0.1;omega
  ·have:=(hd.rr j hj).1;omega
 have dq:DQ w0 w (w2.setCell ⟨g5,0,none⟩ (.slice (some ⟨gm2,0,none⟩) n c2)) g g4 g5 n gm2 c2 b2 cp2 vq:=by
  have hd5:g5≠gm2∧ ∀j,j < n→g5≠b2 j:=⟨by have:=hd.g0.1;omega,fun j hj=>by have:=(hd.rr j hj).1;omega⟩
  have hset:=hd.set (d:=g5) (i:=0) (v:= .slice (some ⟨gm2,0,none⟩) n c2) hd5.1 hd5.2
  refine⟨hm.q.st.set h.q.el g5 0 _ h5.1 (by omega),⟨⟨Nat.le_trans hk hset.g0.1,hset.g0.2⟩,hset.cap,hset.row,fun j hj=>?_,hset.ints⟩,(Below.heap_setCell w2 ⟨g5,0,none⟩ _ g4 h4.2.1).trans hm.q.b4,blk_put hm.q.b5 0 _ rfl,⟨h4.1,h4.2.1,by have:=hd.g0.1;omega,fun j hj=>by have:=(hd.rr j hj).1;omega⟩,⟨h5.1,hd5⟩,hg,h.q.el⟩
  have:=hset.rr j hj
  exact⟨Nat.le_trans hk this.1,this.2⟩
 exact⟨dq,Kd.R_far old (p:=⟨g5,0,none⟩) (fun q hq=>hq.2.2.1) _⟩
end Go.Proofs.Ytbjljcpngbhkeaa.Dr
end
section
namespace Go.Proofs.Ytbjljcpngbhkeaa.Dr
open Go.RowKit Go.Proofs.YtbjljcpngbhkeaaW.PrintWords Go.Proofs.YtbjljcpngbhkeaaW.PrintLast Go.Proofs.YtbjljcpngbhkeaaW.PrintMore Go.Proofs.Ytbjljcpngbhkeaa.Ma Go.Proofs.Ytbjljcpngbhkeaa.Pr Go.Proofs.Ytbjljcpngbhkeaa.Lq
def Prb (w0 w:World) (g n:Nat) (e:Value) (w':World):Prop:= ∃gm c b cp A c1 Q,e= .agg #[.slice (some ⟨gm,0,none⟩) n c, .slice A n c1]∧Q.length=n∧Dm w' w.heap.size gm n c b cp∧Kd.R (Kd.int .i64) 2 w' w.heap.size (fun k=>k≠g∧k≠gm∧ ∀j,j < n→k≠b j) (.slice A n c1) Q∧Stp w0 w g w'
theorem drawOf_c {w0 w:World} {g:Nat} (h:Srm w0 w g) (hB:Below w0.heap.size w0 w) (n:Nat) (hn:n≤5) (hn0:0 < n):Calls Try.prog 101 #[.pointer (some ⟨g,0,none⟩), .int .i64 (n:Int)] w fun e w'=> ∃v,e= .returned v∧Prb w0 w g n v w':=by
 have ST:=q_ (Stp.refl h hB);have HG:=q_ h.lt;have HE:=q_ hB.size;have HN:=q_ hn;have HN0:=q_ hn0;clear h hB hn hn0
 go_enter Try.func101,Try.ntmps101
 go_wp2_with (first | ((with_reducible refine gate_dst (N:=4) rfl ?_);refine be_ 4 #[.slice none 0 0, .slice none 0 0] 27 ?_;intro g4 hg w2 hbox hb;have G4:=q_ (show w.heap.size≤g4 by rw [hg];exact Nat.le_refl _);have B4:=q_ hbox;replace ST:=q_ (ST.out.trans (Stp.of_below ST.out.src ST.out.below hb));clear hg hbox hb) | ((with_reducible refine gate_dst (N:=14) rfl ?_);refine Kd.R_lit (Kd.int .i64) _ 2 ?hg (N:=14) ?hd (xs:=([1,2,3,9,20]:List Int)) (inner:= [.int .i64 1, .int .i64 2, .int .i64 3, .int .i64 9, .int .i64 20]) (ok:=fun _=>True) (okp:=fun _=>True) ?hr ?hp (fun _ hk=>hk) trivial (Below.refl _ _) (Nat.le_refl _) (by simp) ?_;(case hd=>rfl);(case hg=>rfl);(case hr=>first | (go_simp;done) | (go_simp;rfl));(case hp=>exact lit_reps [1,2,3,9,20]);intro v14 w3 ho hb hg_ hnew_;obtain⟨g14,c14,rfl,hb14,hl14,_⟩:=Kd.R_form ho (by simp);have G14:=q_ (Nat.lt_of_lt_of_le ST.out.src.lt hb14);replace ST:=q_ (ST.out.trans (Stp.of_below ST.out.src ST.out.below hb));replace B4:=q_ (blk_below B4.out hb);have R14:=q_ ho;clear hg_ hnew_ ho hb hb14 hl14))
 refine(pick_c ST.out.src ST.out.below _ c14 [1,2,3,9,20] (Kd.R_reads' R14.out).2.2 (Kd.R_reads' R14.out).2.1 (fun ad e _=>by injection e with e;subst e;show g14≠g;have:=G14.out;omega) (by decide)).mono ?_
 rintro e w4 ⟨x,rfl,_,hS⟩;replace ST:=q_ (ST.out.trans hS);replace B4:=q_ (hS.keep.blk B4.out (by have:=G4.out;have:=HG.out;omega) (by simp));clear hS R14 G14
 go_wp2_with fail
 refine(drawM_c ST.out.src ST.out.below n HN.out HN0.out x).mono ?_
 rintro e w5 ⟨gm,c,b,cp,rfl,hD,hS⟩;have DM:=q_ hD;have S5:=q_ hS;clear hD hS
 go_wp2_with (first | ((with_reducible refine gate_dst (N:=17) rfl ?_);refine Kd.R_lit (Kd.int .i64) _ 2 ?hg (N:=17) ?hd (xs:=([]:List Int)) (inner:= []) (ok:=fun _=>True) (okp:=fun _=>True) ?hr ?hp (fun _ hk=>hk) trivial (Below.refl _ _) (Nat.le_refl _) (by simp) ?_;(case hd=>rfl);(case hg=>rfl);(case hr=>first | (go_simp;done) | (go_simp;rfl));(case hp=>exact lit_reps []);intro v17 w6 ho hb hg_ hnew_;have R17:=q_ ho;have B17:=q_ hb;obtain⟨A17,c17,rfl⟩:=Kd.R_slice ho;clear hg_ hnew_ ho hb) | ((with_reducible refine gate_dst (N:=5) rfl ?_);refine be_ 5 #[.slice none 0 0, .slice none 0 0] 27 ?_;intro g5 hg w7 hbox hb;have G5:=q_ (show w5.heap.size≤g5 by rw [hg];exact B17.out.size);have Q5:=q_ (fun k (hk:(Value.slice A17 ([]:List Int).length c17).ownBlock=some k)=>(show k≠g5 by rw [hg];have:=Kd.R_lt R17.out k hk;omega));have B5:=q_ hbox;have B57:=q_ (below_step B17.out hb);replace R17:=q_ (Kd.R_below R17.out hb);have hx0:=cz_ B5 0;have hx1:=cz_ B5 1;have hfx0:=blk_frozen hbox 0;have hfx1:=blk_frozen hbox 1;clear hg hbox hb) | ((with_reducible refine gate_store (t:=27) (p:=5) rfl ?_);refine store_event (t:=27) (p:=5) (v:=?vo5) (w1:=(w7.setCell ⟨g5,0,none⟩ (.slice (some ⟨gm,0,none⟩) n c)).setCell ⟨g5,1,none⟩ (.slice A17 ([]:List Int).length c17)) ?hg ?ho ?hn ?hr ?_;(case ho=>rfl);(case hg=>rfl);(case hn=>rfl);(case hr=>first | (go_simp;done) | (go_simp;rfl));intro w8 hw;have D:=q_ (DO.new HE.out HG.out G4.out (blk_lt B4.out) ST.out ST.out.keep.1 S5.out DM.out B4.out B57.out R17.out G5.out B5.out Q5.out);rw [← hw] at D;clear hw hx0 hx1 hfx0 hfx1))
 clear ST S5 DM B4 G4 R17 B17 G5 Q5 B5 B57;refine(next_c D.out.q.st.src D.out.q.st.below 4).mono ?_
 rintro e w9 ⟨y,rfl,_,hS⟩;replace D:=q_ (D.out.mv hS);have HL:=q_ D.out.q.gl;clear hS
 go_upto_block 0 with (fail)
 go_cut [5] (fun v5 wc=>v5= .pointer (some ⟨g5,0,none⟩)∧ ∃gm c b cp,Aside0 (DO w0 w wc g g4 g5 n gm c b cp (.slice A17 0 c17) []))
 case first=>
  by_cases y0:y=0
  ·have y0b:(y==0)=true:=by simpa using y0
   clear y0
   go_wp2_with fail
   refine(drawP_c D.out.q.st.src D.out.q.st.below n HN.out HN0.out).mono ?_
   rintro e w10 ⟨gm2,c2,b2,cp2,rfl,hD,hS⟩;have D2:=q_ (D.out.rows hS hD);have B5:=q_ (D.out.mv hS).q.b5;have hx0:=cz_ B5 0;have hfx0:=blk_frozen B5.out 0;clear hD hS D;go_wp2
   go_meet
   case rel=>exact⟨rfl,_,_,_,_,D2⟩
  ·have y0b:(y==0)=false:=by simpa using y0
   clear y0
   by_cases y1:y=1
   ·have y1b:(y==1)=true:=by simpa using y1
    clear y1;go_wp2
    go_loopg [6] n (fun gg v6 wr=> ∃(i:Nat),i≤n∧n - i≤gg∧v6= .int .i64 (i:Int)∧Aside0 (DO w0 w wr g g4 g5 n gm c b cp (.slice A17 0 c17) []))
    case atStart=>exact⟨0,Nat.zero_le _,by omega,rfl,D⟩
    case round=>
     clear D;obtain⟨i,hi',hg,rfl,D⟩:=hrel;have HGG:=q_ hg
     by_cases hlt:i < n
     ·have hltz:(i:Int) < (n:Int):=by omega
      have h0z:(0:Int)≤(i:Int):=by omega
      have hwi:IntKind.i64.wrap ((i:Int)+1)=((i+1:Nat):Int):=by rw [IntWalk.i64_in _ (by have:=HN.out;omega)];rfl
      have HWI:=q_ hwi;have HLT:=q_ hlt;have hx0:=cz_ (q_ D.out.q.b5) 0;have hrow:=D.out.q.dm.row i hlt;clear hi' hg hlt;go_wp2
      clear hx0 hrow
      go_loopg [8] i (fun gg v8 wr=> ∃(k:Nat),k≤i∧i - k≤gg∧v8= .int .i64 (k:Int)∧Aside0 (DO w0 w wr g g4 g5 n gm c b cp (.slice A17 0 c17) []))
      case atStart=>exact⟨0,Nat.zero_le _,by omega,rfl,D⟩
      case round=>
       clear D;obtain⟨k,hk',hg2,rfl,D⟩:=hrel;have HG2:=q_ hg2
       by_cases hki:k < i
       ·have hkiz:(k:Int) < (i:Int):=by omega
        have hknz:(k:Int) < (n:Int):=by omega
        have h0k:(0:Int)≤(k:Int):=by omega
        have hwk:IntKind.i64.wrap ((k:Int)+1)=((k+1:Nat):Int):=by rw [IntWalk.i64_in _ (by have:=HN.out;omega)];rfl
        have HWK:=q_ hwk;have HKI:=q_ hki;have hx0:=cz_ (q_ D.out.q.b5) 0;have hrow:=D.out.q.dm.row k (by have:=HLT.out;omega);obtain⟨⟨x1,hx1⟩,_⟩:=D.out.q.dm.ints k i (by have:=HLT.out;omega) HLT.out;obtain⟨⟨x2,hx2⟩,hfx2⟩:=D.out.q.dm.ints i k HLT.out (by have:=HLT.out;omega);clear hk' hg2 hki;go_wp2
        go_roundg (i - (k+1))
        case measure=>have:=HG2.out;have:=HKI.out;omega
        case rel=>exact⟨k+1,HKI.out,by omega,by first | rfl | (rw [HWK.out]) | (simp [HWK.out]),⟨D.out.put HLT.out (by have:=HLT.out;have:=HKI.out;omega) _⟩⟩
       ·have hkiz: ¬ (k:Int) < (i:Int):=by omega
        clear hk' hg2 hki;go_wp2
        go_roundg (n - (i+1))
        case measure=>have:=HGG.out;have:=HLT.out;omega
        case rel=>exact⟨i+1,HLT.out,by omega,by first | rfl | (rw [HWI.out]) | (simp [HWI.out]),D⟩
     ·have hltz: ¬ (i:Int) < (n:Int):=by omega
      clear hi' hg hlt;go_wp2
      go_meet
      case rel=>exact⟨rfl,_,_,_,_,D⟩
   ·have y1b:(y==1)=false:=by simpa using y1
    clear y1;go_wp2
    go_meet
    case rel=>exact⟨rfl,_,_,_,_,D⟩
 case rest=>
  clear D;obtain⟨rfl,gm,c,b,cp,D⟩:=hcut
  go_wp2_with (first | ((with_reducible refine gate_dst (N:=56) rfl ?_);refine Kd.R_lit (Kd.int .i64) _ 2 ?hg (N:=56) ?hd (xs:=([1,2,5,20,100]:List Int)) (inner:= [.int .i64 1, .int .i64 2, .int .i64 5, .int .i64 20, .int .i64 100]) (ok:=fun _=>True) (okp:=fun _=>True) ?hr ?hp (fun _ hk=>hk) trivial (Below.refl _ _) (Nat.le_refl _) (by simp) ?_;(case hd=>rfl);(case hg=>rfl);(case hr=>first | (go_simp;done) | (go_simp;rfl));(case hp=>exact lit_reps [1,2,5,20,100]);intro v56 w12 ho hb hg_ hnew_;obtain⟨g56,c56,rfl,hb56,hl56,_⟩:=Kd.R_form ho (by simp);have G56:=q_ (Nat.lt_of_lt_of_le D.out.q.st.src.lt hb56);replace D:=q_ (D.out.below hb);have R56:=q_ ho;clear hg_ hnew_ ho hb hb56 hl56))
  refine(pick_c D.out.q.st.src D.out.q.st.below _ c56 [1,2,5,20,100] (Kd.R_reads' R56.out).2.2 (Kd.R_reads' R56.out).2.1 (fun ad e _=>by injection e with e;subst e;show g56≠g;have:=G56.out;omega) (by decide)).mono ?_
  rintro e w13 ⟨mo,rfl,_,hS⟩;replace D:=q_ (D.out.mv hS);clear hS R56 G56;go_wp2
  go_loopg [10] n (fun gg v10 wr=> ∃(i:Nat) (A:Option Addr) (q:Nat) (Q:List Int),i≤n∧n - i≤gg∧v10= .int .i64 (i:Int)∧Q.length=i∧Aside0 (DO w0 w wr g g4 g5 n gm c b cp (.slice A i q) Q))
  case atStart=>exact⟨0,_,_, [],Nat.zero_le _,by omega,rfl,rfl,D⟩
  case round=>
   clear D;obtain⟨i,A,q,Q,hi',hg,rfl,hQl,D⟩:=hrel;have HGG:=q_ hg;have HQ:=q_ hQl
   by_cases hlt:i < n
   ·have hltz:(i:Int) < (n:Int):=by omega
    have hwi:IntKind.i64.wrap ((i:Int)+1)=((i+1:Nat):Int):=by rw [IntWalk.i64_in _ (by have:=HN.out;omega)];rfl
    have HWI:=q_ hwi;have HLT:=q_ hlt;clear hi' hg hlt hQl;go_wp2
    replace D:=q_ (D.out.below (below_drew (Below.refl wr.heap.size wr)));refine st_ (n:=9) (S:=fun w'=>w'.cell? ⟨g5,1,none⟩=some (.slice A i q)) (ds:= [8]) (cz_ (q_ D.out.q.b5) 1) (fun hHeld=>?_)
    generalize wr.drew=w14 at D hHeld ⊢
    refine pu_ 0 63 ?_;refine pu_ 2 65 ?_;refine pu_ 3 66 ?_;refine tk_ 1 64 ?_
    refine on_ 4 (some 67) (fun K hK=>?_)
    refine ca_ Try.func76 #[.pointer (some ⟨g,0,none⟩), .int .i64 mo] ?_
    refine(part_c D.out.q.st.src D.out.q.st.below mo).mono ?_
    rintro e w15 ⟨x,rfl,hS⟩;refine⟨_,rfl,?_⟩
    replace D:=q_ (D.out.mv hS);clear hS hHeld;refine hK.out _ _ (cz_ (q_ D.out.q.b5) 1) (fun hHeld=>?_)
    clear hK K;refine no_ ?_
    refine on_ 5 (some 68) (fun K hK=>?_)
    refine va_ ?_
    refine hK.out _ _ ((blk_cell (blk_alloc D.out.q.b5 _) 1).trans rfl) (fun hHeld=>?_)
    clear hK K;refine no_ ?_
    refine on_ 6 (some 69) (fun K hK=>?_)
    refine Kd.R_append_step (Kd.int .i64) (w0:=w15) w.heap.size (by rfl) (.tmp 64) (.tmp 68) 25 2 (.int .i64 0) 8 rfl Try.underlying25 info2 rfl (by decide) (by omega) (.slice A i q) Q x [.int .i64 x] (okQ g g4 g5 n gm b) (fun _=>False) rfl rfl rfl (fun _ hk=>hk.elim) D.out.fresh D.out.rq (Below.refl _ _) D.out.q.st.keep.1 ?aL ?_
    case aL=>have:=HN.out;have:=HLT.out;have:=HQ.out;omega
    intro v11 w16 ho hb hg hat;have DD:=q_ (D.out.grow hg hb);have RQ:=q_ ho;clear ho hb hg hat hHeld D;obtain⟨A9,c9,e9⟩:=Kd.R_slice RQ.out;have hl9:(Q++ [x]).length=i+1:=by have:=HQ.out;simp;omega
    rw [hl9] at e9;subst e9;have HL9:=q_ hl9;clear hl9;refine hK.out _ _ (cz_ (q_ DD.out.b5) 1) (fun hHeld=>?_)
    clear hK K;refine nd_ 69 ?_
    refine pu_ 7 70 ?_
    have hx1:=cz_ (q_ DD.out.b5) 1;have hfx1:=blk_frozen DD.out.b5 1;refine la_ 8 none (fun K hK=>?_)
    refine skip_ (w1:=?_) (by rfl) rfl ?_ ?_
    rotate_left
    ·go_simp
     rfl
    refine hK.out _ _ ?_
    clear hK K hHeld hx1 hfx1;refine done_ (by kernel_rfl) ?_
    have D2:=q_ (DD.out.store RQ.out);go_wp2
    go_roundg (n - (i+1))
    case measure=>have:=HGG.out;have:=HLT.out;omega
    case rel=>exact⟨i+1,_,_,_,HLT.out,by omega,by first | rfl | (rw [HWI.out]) | (simp [HWI.out]),HL9.out,D2⟩
   ·have hltz: ¬ (i:Int) < (n:Int):=by omega
    obtain rfl:n=i:=by omega
    have hx0:=cz_ (q_ D.out.q.b5) 0;have hx1:=cz_ (q_ D.out.q.b5) 1;have hy0:=cz_ (q_ D.out.q.b4) 0;have hy1:=cz_ (q_ D.out.q.b4) 1;have hfy0:=blk_frozen D.out.q.b4 0;have hfy1:=blk_frozen D.out.q.b4 1;clear hi' hg hlt;go_wp2
    refine bodyPost_ret (results_cell_row rfl _ _ g4 27 #[.slice (some ⟨gm,0,none⟩) n c, .slice A n q] (0,0) _ rfl (blk_put (blk_put D.out.q.b4 0 _ rfl) 1 _ rfl) Try.underlying27 rfl (by kernel_rfl)) rfl ?_
    have h4:=D.out.q.s4;have hg4:=D.out.q.gl;refine⟨_,rfl,gm,c,b,cp,A,q,Q,rfl,HQ.out,(D.out.q.dm.set h4.2.2.1 h4.2.2.2).set h4.2.2.1 h4.2.2.2,?_,(D.out.q.st.set HE.out g4 0 _ h4.1 (by omega)).set HE.out g4 1 _ h4.1 (by omega)⟩
    exact Kd.R_mono (Kd.R_far (Kd.R_far D.out.rq (p:=⟨g4,0,none⟩) (fun k hk=>hk.2.1) _) (p:=⟨g4,1,none⟩) (fun k hk=>hk.2.1) _) (fun k hk=>⟨hk.1,hk.2.2.2⟩)
end Go.Proofs.Ytbjljcpngbhkeaa.Dr
end
section
namespace Go.Proofs.Ytbjljcpngbhkeaa.Pr
open Go.RowKit Go.Proofs.YtbjljcpngbhkeaaW.PrintWords Go.Proofs.YtbjljcpngbhkeaaW.PrintLast Go.Proofs.YtbjljcpngbhkeaaW.PrintMore
attribute [local go_sem] max2_int min2_int max_two min_two max_three min_three max_four min_four
def spec_l01Copy.l0:Nat→Int→List (List Int)→List Int→List (List Int)→List Int→Option ((List (List Int)) × List Int)
 | 0,_,_,_,_,_=>none
 | k+1,x4,aa,ag,ae,af=>if x4 < (aa.length:Int) then(if 0≤x4 then((spec_l01Own.f (rd_L2 aa x4)).bind fun ah=>(if ae.length < 5864062014805 then(spec_l01Copy.l0 k (wrap64 (x4+1)) aa ag (ae++ [ah]) af) else(none))) else(none)) else(some (ae,af))
def spec_l01Copy.f (k:Nat) (ae:List (List Int)) (aa:List Int):Option ((List (List Int)) × List Int):=(spec_l01Own.f aa).bind fun af=>(spec_l01Copy.l0 k 0 ae aa (([]:List (List Int))) af)
theorem spec_l01Copy.mono_l: ∀k,(∀y0 y1 y2 y3 y4,LeO (spec_l01Copy.l0 k y0 y1 y2 y3 y4) (spec_l01Copy.l0 (k+1) y0 y1 y2 y3 y4))
 | 0=>fun _ _ _ _ _ r h=>by simp [spec_l01Copy.l0] at h
 | k+1=>by
  have ih0:=spec_l01Copy.mono_l k
  intros;unfold spec_l01Copy.l0;repeat' first | (with_reducible first | exact ih0 _ _ _ _ _ | exact LeO.refl _ | exact LeO.none _ | refine LeO.ite ?_ ?_ | refine LeO.bind ?_ (fun _=>?_)) | exact ih0 _ _ _ _ _ | exact LeO.none _ | refine LeO.ite ?_ ?_ | refine LeO.bind ?_ (fun _=>?_)
theorem spec_l01Copy.mono: ∀a0 a1 k,LeO (spec_l01Copy.f k a0 a1) (spec_l01Copy.f (k+1) a0 a1):=by
 intro a0 a1 k
 have ih0:=spec_l01Copy.mono_l k
 unfold spec_l01Copy.f
 repeat' first | (with_reducible first | exact ih0 _ _ _ _ _ | exact LeO.refl _ | exact LeO.none _ | refine LeO.ite ?_ ?_ | refine LeO.bind ?_ (fun _=>?_)) | exact ih0 _ _ _ _ _ | exact LeO.none _ | refine LeO.ite ?_ ?_ | refine LeO.bind ?_ (fun _=>?_)
def spec_l01Copy.T5:Bool × List (List Nat × List Nat):=(true, [([], []),([0], [0]),([], []),([2], [2]),([], []),([3,4], [3,4]),([5], [5]),([6], [6]),([7], [7]),([1,8,7], [1,8]),([0,1,2,3,4,5,6,7,8,9], []),([10,9,9,0,1,2,3,4,5,6,7,8,9], [9,10])])
def spec_l01Copy.B5:List Nat:= [0,1,0,4,0,28,60,124,252,511,1023,2047]
theorem spec_l01Copy.tab5:rtab .any (opsOf Try.f100 5)=spec_l01Copy.T5:=by kernel_rfl
theorem spec_l01Copy.bits5:waitsOk spec_l01Copy.T5.2 spec_l01Copy.B5=true:=by kernel_rfl
theorem spec_l01Copy.calls (k:Nat) (aU:Option Addr) (aK:Nat) (ak:List (List Int)) (aI:Option Addr) (aJ:Nat) (au:List Int) (r1:List (List Int)) (r2:List Int) (w:World) (bz:Kd.C (Kd.slice 2 (Kd.int .i64)) w aU ak.length ak) (bA:ak.length≤aK) (bC:Kd.C (Kd.int .i64) w aI au.length au) (bD:au.length≤aJ) (h:spec_l01Copy.f k ak au=some (r1,r2)):
  Calls Try.prog 100 #[.agg #[.slice aU ak.length aK, .slice aI au.length aJ]] w fun e w'=> ∃v0_ v1_:Value,e= .returned (.agg #[v0_,v1_])∧Kd.S (Kd.slice 2 (Kd.int .i64)) 25 w' w.heap.size (fun k_=>some k_≠(v1_:Value).ownBlock) v0_ r1∧Kd.R (Kd.int .i64) 2 w' w.heap.size (fun _=>True) v1_ r2∧Below w.heap.size w w':=by
 have hu27:=Try.underlying27;have HR0_0:=q_ bz;have HC0_0:=q_ bA;clear bz bA;have HR0_1:=q_ bC;have HC0_1:=q_ bD;clear bC bD;have HB:=q_ (Below.refl w.heap.size w);have H:((spec_l01Own.f au).bind fun aq=>(spec_l01Copy.l0 k 0 ak au (([]:List (List Int))) aq))=some (r1,r2):=h;clear h;obtain⟨aV,hy⟩: ∃y_:List (List Int),y_=(([]:List (List Int))):=⟨_,rfl⟩
 replace H:((spec_l01Own.f au).bind fun aq=>(spec_l01Copy.l0 k 0 ak au aV aq))=some (r1,r2):=hh_;have bE:=q_ hy;clear hy;replace H:=Option.bind_eq_some_iff.mp H;obtain⟨aq,A20,H⟩:=H;replace H:(spec_l01Copy.l0 k 0 ak au aV aq)=some (r1,r2):=H;have A2:=q_ A20;clear A20;have H':=q_ H;clear H
 go_enter Try.func100,Try.ntmps100
 go_wp2_with (first | ((with_reducible refine gate_dst (N:=1) rfl ?_);refine be_ 1 #[.slice aU ak.length aK, .slice aI au.length aJ] 27 ?_;intro av hg w3 hbox hb;have aa:=q_ (hbox);have cJ:=q_ ((by rw [hg];exact bz_:w.heap.size≤av));have cK:=q_ ((by rw [hg];exact bz_:w.heap.size≤av));replace HB:=q_ (bs_ hb);clear hb hbox hg) | ((with_reducible refine gate_dst (N:=2) rfl ?_);refine be_ 2 #[.slice none 0 0, .slice none 0 0] 27 ?_;intro az hg w4 hbox hb;have ag:=q_ (hbox);have cL:=q_ ((by rw [hg];exact bz_:w.heap.size≤az));have cN:=q_ ((by rw [hg];exact bz_:w.heap.size≤az));have aM:=q_ ((by rw [hg];exact lt_ aa.out:av≠az));have aN:=q_ ((by rw [hg];exact gt_ aa.out:az≠av));replace aa:=q_ (bb_ aa.out hb);replace HB:=q_ (bs_ hb);clear hb hbox hg) | ((with_reducible refine gate_dst (N:=5) rfl ?_);refine Kd.S_lit (Kd.slice 2 (Kd.int .i64)) _ 25 ?hg (N:=5) ?hd (xs:=([]:List (List Int))) (inner:= []) (ok:=fun _=>True) (okp:=fun _=>True) ?hr ?hp (fun _ hk=>hk) trivial (Below.refl _ _) (Nat.le_refl _) (by simp) ?_;(case hd=>rfl);(case hg=>rfl);(case hr=>first | (go_simp;done) | (go_simp;rfl));(case hp=>exact(Reps.none _ _));intro dx w5 ho6 hb hg_ hnew_;clear hg_ hnew_;(first | rw [← bE.out] at ho6 | (simp only [Int.reduceToNat] at ho6;rw [← bE.out] at ho6));have aT:=q_ (Kd.S_lower ho6 bz_);replace aa:=q_ (bb_ aa.out hb);replace ag:=q_ (bb_ ag.out hb);replace HB:=q_ (bs_ hb);clear hb ho6;have dz:=aM.out;have dA:=aN.out;have bL:=cz_ aa 0;have bM:=cz_ aa 1;have bN:=blk_frozen aa.out 0;have bO:=blk_frozen aa.out 1) | ((with_reducible refine gate_callee (f:=71) rfl ?_);refine gL_ 8 Try.func71 #[.slice aI au.length aJ] ?_;(with_reducible refine(spec_l01Own.calls _ _ au aq _ ?a9 ?ba A2.out).mono ?_);(case a9=>exact cb_ HR0_1.out HB.out);(case ba=>exact HC0_1.out);rintro e w9 ⟨dB,rfl,ho0,hb⟩;refine⟨_,rfl,?_⟩;replace aT:=q_ (Kd.S_elder' (so_ aT.out) (Kd.R_base ho0) hb);have aX:=q_ (Kd.R_lower ho0 bz_);replace aa:=q_ (bb_ aa.out hb);replace ag:=q_ (bb_ ag.out hb);replace HB:=q_ (bs_ hb);(try clear hb);(try clear hk);(try clear ho0);obtain⟨aD,aG,bV⟩:=Kd.R_slice aX.out;subst bV;obtain⟨bf,bg,bW⟩:=Kd.S_slice aT.out;subst bW) | ((with_reducible refine gate_dst (N:=3) rfl ?_);refine be_ 3 #[.slice none 0 0, .slice none 0 0] 27 ?_;intro aj hg w12 hbox hb;replace aT:=q_ (Kd.S_below (so_ aT.out) hb);replace aX:=q_ (rb_ aX.out hb);have ae:=q_ (hbox);have cO:=q_ ((by rw [hg];exact bz_:w.heap.size≤aj));have cP:=q_ ((by rw [hg];exact bz_:w.heap.size≤aj));have aA:=q_ ((by rw [hg];exact lt_ aa.out:av≠aj));have aH:=q_ ((by rw [hg];exact gt_ aa.out:aj≠av));have aC:=q_ ((by rw [hg];exact lt_ ag.out:az≠aj));have aQ:=q_ ((by rw [hg];exact gt_ ag.out:aj≠az));replace aa:=q_ (bb_ aa.out hb);replace ag:=q_ (bb_ ag.out hb);replace HB:=q_ (bs_ hb);clear hb hbox hg;have cQ:=aH.out;have cR:=aA.out;have cT:=aQ.out;have cU:=aC.out;have bH:=cz_ ae 0;have bI:=cz_ ae 1;have bJ:=blk_frozen ae.out 0;have bK:=blk_frozen ae.out 1))
 go_loopg [4] k (fun kq v4 w'=> ∃(ay:Int) (ah:List (List Int)) (aw:Value),v4= .int .i64 ay∧Aside0 (spec_l01Copy.l0 kq ay ak au ah aq=some (r1,r2))∧Aside0 (kq≤k)∧Aside0 (Kd.S (Kd.slice 2 (Kd.int .i64)) 25 w' w.heap.size (fun k_=>some k_≠((.slice aD aq.length aG):Value).ownBlock) aw ah)∧Aside0 (Kd.R (Kd.int .i64) 2 w' w.heap.size (fun _=>True) (.slice aD aq.length aG) aq)∧Aside0 (w'.heap[av]?=some (.cells #[(.slice aU ak.length aK),(.slice aI au.length aJ)] 27 (0,0)))∧Aside0 (w'.heap[az]?=some (.cells #[(.slice none 0 0),(.slice none 0 0)] 27 (0,0)))∧Aside0 (w'.heap[aj]?=some (.cells #[aw,(.slice aD aq.length aG)] 27 (0,0)))∧Aside0 (Below w.heap.size w w'))
 case atStart=>exact⟨(0),(aV),(.slice bf aV.length bg),rs_,H',⟨Nat.le_refl _⟩,⟨by(with_reducible repeat (first | apply Kd.S_alloc | apply Kd.S_drewN | apply Kd.S_drew));exact Kd.S_mono (Kd.S_far (p:=⟨aj,1,none⟩) (Kd.S_far (p:=⟨aj,0,none⟩) (Kd.S_types aT.out ae.out (by decide)) (fun _ hk=>hk.2) (.slice bf aV.length bg)) (fun _ hk=>hk.2) (.slice aD aq.length aG)) (fun _ hk=>hk.1.2)⟩,⟨by(with_reducible repeat (first | apply Kd.R_alloc | apply Kd.R_drewN | apply Kd.R_drew));exact Kd.R_mono (Kd.R_far (p:=⟨aj,1,none⟩) (Kd.R_far (p:=⟨aj,0,none⟩) (Kd.R_types aX.out ae.out (by decide)) (fun _ hk=>hk.2) (.slice bf aV.length bg)) (fun _ hk=>hk.2) (.slice aD aq.length aG)) (fun _ hk=>trivial)⟩,⟨by(with_reducible repeat (first | refine blk_drewN ?_ _ | refine blk_drew ?_ | refine blk_alloc ?_ _));refine blk_far ?_ aA.out _;(with_reducible repeat (first | refine blk_drewN ?_ _ | refine blk_drew ?_ | refine blk_alloc ?_ _));refine blk_far ?_ aA.out _;(with_reducible repeat (first | refine blk_drewN ?_ _ | refine blk_drew ?_ | refine blk_alloc ?_ _));exact aa.out⟩,⟨by(with_reducible repeat (first | refine blk_drewN ?_ _ | refine blk_drew ?_ | refine blk_alloc ?_ _));refine blk_far ?_ aC.out _;(with_reducible repeat (first | refine blk_drewN ?_ _ | refine blk_drew ?_ | refine blk_alloc ?_ _));refine blk_far ?_ aC.out _;(with_reducible repeat (first | refine blk_drewN ?_ _ | refine blk_drew ?_ | refine blk_alloc ?_ _));exact ag.out⟩,⟨by(with_reducible repeat (first | refine blk_drewN ?_ _ | refine blk_drew ?_ | refine blk_alloc ?_ _));refine blk_put (cs:= #[.slice bf aV.length bg, .slice none 0 0]) ?_ 1 _ rfl;(with_reducible repeat (first | refine blk_drewN ?_ _ | refine blk_drew ?_ | refine blk_alloc ?_ _));refine blk_put (cs:= #[.slice none 0 0, .slice none 0 0]) ?_ 0 _ rfl;(with_reducible repeat (first | refine blk_drewN ?_ _ | refine blk_drew ?_ | refine blk_alloc ?_ _));exact ae.out⟩,⟨hb_⟩⟩
 case round=>
  clear H';(try clear bH);(try clear bI);(try clear bL);(try clear bM);(try clear bJ);(try clear bK);(try clear bN);(try clear bO);obtain⟨ay,ah,aw,rfl,HA,HK1,af,ai,aa,ag,ae,HB⟩:=hrel;cases gk with
  | zero=>exact absurd HA.out (by simp [spec_l01Copy.l0])
  | succ k1=>
   have H:=HA.out;clear HA;simp only [spec_l01Copy.l0] at H
   by_cases c16:ay < (ak.length:Int)
   ·rw [if_pos c16] at H;have c16b0:=decide_eq_true c16;clear c16
    by_cases c17:0≤ay
    ·rw [if_pos c17] at H;have c17b0:=decide_eq_true c17;clear c17;replace H:=Option.bind_eq_some_iff.mp H;obtain⟨aW,A180,H⟩:=H;replace H:(if ah.length < 5864062014805 then(spec_l01Copy.l0 k1 (wrap64 (ay+1)) ak au (ah++ [aW]) aq) else(none))=some (r1,r2):=H;have A18:=q_ A180;clear A180
     by_cases c19:ah.length < 5864062014805
     ·rw [if_pos c19] at H;have bT:=q_ c19;clear c19;obtain⟨aZ,hy⟩: ∃y_:List (List Int),y_=(ah++ [aW]):=⟨_,rfl⟩
      replace H:(spec_l01Copy.l0 k1 (wrap64 (ay+1)) ak au aZ aq)=some (r1,r2):=hh_;have bU:=q_ hy;clear hy;have H':=q_ H;clear H;have cV:=aM.out;have cZ:=aN.out;have da:=aA.out;have df:=aH.out;have bY:=cz_ aa 0;have bZ:=cz_ aa 1;have cf:=blk_frozen aa.out 0;have cg:=blk_frozen aa.out 1
      try go_wp2
      replace af:=q_ (Kd.S_drew af.out);replace ai:=q_ (Kd.R_drew ai.out);replace aa:=q_ (blk_drew aa.out);replace ag:=q_ (blk_drew ag.out);replace ae:=q_ (blk_drew ae.out);replace HB:=q_ (below_drew1 HB.out);have p131:0≤(ay:Int):=od_;have q131:ay < (ak.length:Int):=od_;obtain⟨bF,bq,bu,e131,hx131_0,hl131_0,hi131_0⟩:=at_L2 HR0_0.out ay p131 q131;have ax:=hx131_0;cases e131
      replace hx131_0:=(HB.out.cell (World.block_lt_of_cell? w _ hx131_0)).trans hx131_0;have HR131_0:=q_ hi131_0;have HC131_0:=q_ hl131_0;clear hi131_0 hl131_0;replace p131:=eq_true p131;replace q131:=eq_true q131;refine st_ (n:=12) (S:=fun w'=>w'.cell? ⟨aj,0,none⟩=some (aw)∧w'.cell? ⟨aj,1,none⟩=some (.slice aD aq.length aG)∧w'.cell? ⟨av,0,none⟩=some (.slice (some bF) ak.length aK)∧w'.cell? ⟨av,1,none⟩=some (.slice aI au.length aJ)∧w'.cell? (bF.add (ay).toNat)=some (.slice bq (rd_L2 ak ay).length bu)) (ds:= [11]) ⟨(blk_cell ae.out 0).trans rfl,(blk_cell ae.out 1).trans rfl,(blk_cell aa.out 0).trans rfl,(blk_cell aa.out 1).trans rfl,((HB.out.cell (World.block_lt_of_cell? w _ ax)).trans ax)⟩ (fun hHeld=>?_);refine with_tabW spec_l01Copy.tab5 spec_l01Copy.bits5 (fun HT_ HW_=>?_)
      generalize wr.drew=w23 at af ai aa ag ae HB HR131_0 hx131_0 hHeld ⊢
      refine pu_ 0 17 ?_;refine pu_ 2 19 ?_;refine pu_ 4 21 ?_;refine tk_ 1 18 ?_;refine tk_ 3 20 ?_;refine pu_ 5 22 ?_;refine tk_ 6 23 ?_
      refine on_ 7 (some 24) (fun K hK=>?_)
      refine goes_ Try.func71 (by kernel_rfl) rfl #[.slice bq (rd_L2 ak ay).length bu] (by rfl) rfl rfl (by(try simp only [List.map_toArray,List.map_cons,List.map_nil]);first | done | rfl | (simp only [List.length_drop,List.length_take];rfl)) ?_
      with_reducible refine(spec_l01Own.calls _ _ (rd_L2 ak ay) aW _ ?a9 ?ba A18.out).mono ?_
      (case a9=>exact cb_ HR131_0.out HB.out)
      (case ba=>exact HC131_0.out)
      rintro e w24 ⟨dC,rfl,ho0,hb⟩;refine⟨_,rfl,?_⟩
      replace af:=q_ (Kd.S_elder' (so_ af.out) (Kd.R_base ho0) hb);have aY:=q_ (Kd.R_lower (Kd.R_new' ho0 (Kd.R_lt (ro_ ai.out))) bz_);replace aa:=q_ (bb_ aa.out hb);replace ag:=q_ (bb_ ag.out hb);replace ae:=q_ (bb_ ae.out hb);replace ai:=q_ (Kd.R_elder' (ro_ ai.out) (Kd.R_base ho0) hb);replace HB:=q_ (bs_ hb);(try clear hb)
      
      (try clear hk)
      
      (try clear ho0);obtain⟨bP,bQ,bR⟩:=Kd.R_slice aY.out
      (first | subst bR | (injection bR with f1_ f2_ f3_;have f4_:=f1_.symm;have f5_:=f3_.symm;clear f1_ f2_ f3_;subst f4_;subst f5_))
      refine hK.out _ _ ⟨(blk_cell ae.out 0).trans rfl,(blk_cell ae.out 1).trans rfl,(blk_cell aa.out 0).trans rfl,(blk_cell aa.out 1).trans rfl,((HB.out.cell (World.block_lt_of_cell? w _ ax)).trans ax)⟩ (fun hHeld=>?_)
      clear hK K;refine norm_ (a':=?_) ?_ ?_
      rotate_left
      ·show Act.put _ (some 24) _=_
       simp only [Act.put,List.setIfInBounds_toArray,List.set_cons_zero,List.set_cons_succ,i64_w,i32_w]
       rfl
      refine on_ 8 (some 25) (fun K hK=>?_)
      refine value_ (w1:=?_) (v:=?_) (by rfl) rfl ?_ ?_
      rotate_left 2
      ·go_simp
       constructor
       ·rfl
       ·rfl
      refine hK.out _ _ ⟨(blk_cell (blk_alloc ae.out _) 0).trans rfl,(blk_cell (blk_alloc ae.out _) 1).trans rfl,(blk_cell (blk_alloc aa.out _) 0).trans rfl,(blk_cell (blk_alloc aa.out _) 1).trans rfl,(World.cell?_alloc_lt _ _ _ (World.block_lt_of_cell? _ _ (((HB.out.cell (World.block_lt_of_cell? w _ ax)).trans ax)))).trans (((HB.out.cell (World.block_lt_of_cell? w _ ax)).trans ax))⟩ (fun hHeld=>?_)
      clear hK K;refine norm_ (a':=?_) ?_ ?_
      rotate_left
      ·show Act.put _ (some 25) _=_
       simp only [Act.put,List.setIfInBounds_toArray,List.set_cons_zero,List.set_cons_succ,i64_w,i32_w]
       rfl
      refine on_ 9 (some 26) (fun K hK=>?_)
      refine Kd.S_append_step (Kd.slice 2 (Kd.int .i64)) (w0:=w) w.heap.size (by rfl) (.tmp 18) (.tmp 25) 24 25 (.slice none 0 0) 24 rfl Try.underlying24 info25 rfl (by decide) (by omega) aw ah aW [.slice bP aW.length bQ] (fun k_=>some k_≠(.slice aD aq.length aG:Value).ownBlock) (fun k_=>some k_=(.slice bP aW.length bQ:Value).ownBlock) rfl rfl ?aP (fun k_ hk_=>((Kd.R_mono (ok':=fun k_=>((fun k_=>some k_≠(.slice aD aq.length aG:Value).ownBlock)) k_∧some k_≠(aw:Value).ownBlock) (Kd.R_apart' (aY.out) (Kd.S_typed af.out) (by decide)) (fun k_ hk=>⟨hk.1.2,hk.2⟩))).1 k_ hk_.symm) ?aF ?aO ?aB ?aS ?aL ?_
      (case aP=>exact Kd.M_row (Kd.R_mono (Kd.R_tight rfl (Kd.R_mono (ok':=fun k_=>((fun k_=>some k_≠(.slice aD aq.length aG:Value).ownBlock)) k_∧some k_≠(aw:Value).ownBlock) (Kd.R_apart' (aY.out) (Kd.S_typed af.out) (by decide)) (fun k_ hk=>⟨hk.1.2,hk.2⟩))) (fun _ h_=>h_)))
      (case aB=>exact hb_)
      (case aF=>exact(fun k_ hk=>Kd.fresh' (Kd.R_lt (ro_ ai.out)) k_ hk))
      (case aO=>exact(by(with_reducible repeat (first | apply Kd.S_alloc | apply Kd.S_drewN | apply Kd.S_drew));exact Kd.S_mono af.out (fun k_ hk=>⟨hk.1,fun e_=>hk.2 e_⟩)))
      (case aS=>exact bz_)
      (case aL=>have:=bT.out;omega)
      intro dD w25 ho hb hg hat;rw [← bU.out] at ho;replace ai:=q_ (Kd.R_over' (ro_ ai.out) (Kd.S_typed (so_ af.out)) (by decide) hg);replace aa:=q_ (bg_ aa.out hg (Kd.S_ne af.out aa.out (by decide)));replace ag:=q_ (bg_ ag.out hg (Kd.S_ne af.out ag.out (by decide)));replace ae:=q_ (bg_ ae.out hg (Kd.S_ne af.out ae.out (by decide)));replace HB:=q_ (hb);have bG:=q_ (ho);clear af aY ho hb hg hat;obtain⟨bv,bw,bS⟩:=Kd.S_slice bG.out
      (first | subst bS | (injection bS with f1_ f2_ f3_;have f4_:=f1_.symm;have f5_:=f3_.symm;clear f1_ f2_ f3_;subst f4_;subst f5_))
      refine hK.out _ _ ⟨(blk_cell ae.out 0).trans rfl,(blk_cell ae.out 1).trans rfl,(blk_cell aa.out 0).trans rfl,(blk_cell aa.out 1).trans rfl,((HB.out.cell (World.block_lt_of_cell? w _ ax)).trans ax)⟩ (fun hHeld=>?_)
      clear hK K;refine norm_ (a':=?_) ?_ ?_
      rotate_left
      ·show Act.put _ (some 26) _=_
       simp only [Act.put,List.setIfInBounds_toArray,List.set_cons_zero,List.set_cons_succ,i64_w,i32_w]
       rfl
      refine pu_ 10 27 ?_
      refine la_ 11 none (fun K hK=>?_)
      have hs28:=cz_ ae 0;have hfs28:=blk_frozen ae.out 0;have hns28_0:=aA.out;have hns28_1:=aC.out;have hms28_0:=aH.out;have hms28_1:=aQ.out;refine skip_ (w1:=?_) (by rfl) rfl ?_ ?_
      rotate_left
      ·go_simp
       rfl
      refine hK.out _ _ ?_
      clear hK K;refine done_ (done_of HT_.out (by kernel_rfl)) ?_
      try go_wp2
      go_roundg k1
      case measure=>have:=HK1.out;omega
      case rel=>exact⟨(wrap64 (ay+1)),(aZ),(.slice bv aZ.length bw),rs_,H',⟨by have:=HK1.out;omega⟩,⟨by(with_reducible repeat (first | apply Kd.S_alloc | apply Kd.S_drewN | apply Kd.S_drew));exact Kd.S_mono (Kd.S_far (p:=⟨aj,0,none⟩) (Kd.S_types bG.out ae.out (by decide)) (fun _ hk=>hk.2) (.slice bv aZ.length bw)) (fun _ hk=>hk.1)⟩,⟨by(with_reducible repeat (first | apply Kd.R_alloc | apply Kd.R_drewN | apply Kd.R_drew));exact Kd.R_mono (Kd.R_far (p:=⟨aj,0,none⟩) (Kd.R_types ai.out ae.out (by decide)) (fun _ hk=>hk.2) (.slice bv aZ.length bw)) (fun _ hk=>trivial)⟩,⟨by(with_reducible repeat (first | refine blk_drewN ?_ _ | refine blk_drew ?_ | refine blk_alloc ?_ _));refine blk_far ?_ aA.out _;(with_reducible repeat (first | refine blk_drewN ?_ _ | refine blk_drew ?_ | refine blk_alloc ?_ _));exact aa.out⟩,⟨by(with_reducible repeat (first | refine blk_drewN ?_ _ | refine blk_drew ?_ | refine blk_alloc ?_ _));refine blk_far ?_ aC.out _;(with_reducible repeat (first | refine blk_drewN ?_ _ | refine blk_drew ?_ | refine blk_alloc ?_ _));exact ag.out⟩,⟨by(with_reducible repeat (first | refine blk_drewN ?_ _ | refine blk_drew ?_ | refine blk_alloc ?_ _));refine blk_put (cs:= #[aw, .slice aD aq.length aG]) ?_ 0 _ rfl;(with_reducible repeat (first | refine blk_drewN ?_ _ | refine blk_drew ?_ | refine blk_alloc ?_ _));exact ae.out⟩,⟨hb_⟩⟩
     ·rw [if_neg c19] at H;exact absurd H (by simp)
    ·rw [if_neg c17] at H;exact absurd H (by simp)
   ·rw [if_neg c16] at H;have c16b0:=decide_eq_false c16;clear c16;simp only [Option.some.injEq,Prod.mk.injEq] at H;obtain⟨rfl,rfl⟩:=H;have dh:=aM.out;have di:=aN.out;have dl:=aA.out;have dr:=aH.out;have cm:=cz_ aa 0;have cu:=cz_ aa 1;have cz:=blk_frozen aa.out 0;have cA:=blk_frozen aa.out 1;have du:=aQ.out;have dw:=aC.out;have cB:=cz_ ae 0;have cC:=cz_ ae 1;have cD:=blk_frozen ae.out 0;have cE:=blk_frozen ae.out 1;obtain⟨bh,bk,bX⟩:=Kd.S_slice af.out;subst bX;have cF:=cz_ ag 0;have cG:=cz_ ag 1;have cH:=blk_frozen ag.out 0;have cI:=blk_frozen ag.out 1;go_wp2
    refine bodyPost_ret (results_cell_row rfl _ _ az 27 #[.slice bh ah.length bk, .slice aD aq.length aG] (0,0) _ rfl (by(with_reducible repeat (first | refine blk_drewN ?_ _ | refine blk_drew ?_ | refine blk_alloc ?_ _));refine blk_put (cs:= #[.slice bh ah.length bk, .slice none 0 0]) ?_ 1 _ rfl;(with_reducible repeat (first | refine blk_drewN ?_ _ | refine blk_drew ?_ | refine blk_alloc ?_ _));refine blk_put (cs:= #[.slice none 0 0, .slice none 0 0]) ?_ 0 _ rfl;(with_reducible repeat (first | refine blk_drewN ?_ _ | refine blk_drew ?_ | refine blk_alloc ?_ _));exact ag.out) Try.underlying27 rfl (by kernel_rfl)) rfl ?_
    exact⟨_,_,by first | rfl | (simp [errW_none,errW_some] <;> rfl) | (simp [*,errW_none,errW_some] <;> rfl),by(with_reducible repeat (first | apply Kd.S_alloc | apply Kd.S_drewN | apply Kd.S_drew));exact Kd.S_mono (Kd.S_far (p:=⟨az,1,none⟩) (Kd.S_far (p:=⟨az,0,none⟩) (Kd.S_types af.out ag.out (by decide)) (fun _ hk=>hk.2) (.slice bh ah.length bk)) (fun _ hk=>hk.2) (.slice aD aq.length aG)) (fun _ hk=>hk.1),by(with_reducible repeat (first | apply Kd.R_alloc | apply Kd.R_drewN | apply Kd.R_drew));exact Kd.R_mono (Kd.R_far (p:=⟨az,1,none⟩) (Kd.R_far (p:=⟨az,0,none⟩) (Kd.R_types ai.out ag.out (by decide)) (fun _ hk=>hk.2) (.slice bh ah.length bk)) (fun _ hk=>hk.2) (.slice aD aq.length aG)) (fun _ hk=>trivial),hb_⟩
end Go.Proofs.Ytbjljcpngbhkeaa.Pr
end
section
namespace Go.Proofs.Ytbjljcpngbhkeaa.Dr
open Go.RowKit Go.Proofs.YtbjljcpngbhkeaaW.PrintWords Go.Proofs.YtbjljcpngbhkeaaW.PrintLast Go.Proofs.YtbjljcpngbhkeaaW.PrintMore Go.Proofs.Ytbjljcpngbhkeaa.Ma Go.Proofs.Ytbjljcpngbhkeaa.Pr Go.Proofs.Ytbjljcpngbhkeaa.Lq
theorem copy_ex {M:List (List Int)} {Q:List Int} {n:Nat} (hn:n≤5) (hM:M.length=n) (hr: ∀x ∈ M,x.length=n) (hQ:Q.length=n):Ex (fun k=>spec_l01Copy.f k M Q) (fun r=>r.1.length=n∧(∀x ∈ r.1,x.length=n)∧r.2.length=n):=by
 have own: ∀B:List Int,B.length≤1000→spec_l01Own.f B=some B:=fun B h=>by
  unfold spec_l01Own.f
  simp
  omega
 unfold spec_l01Copy.f
 refine exsome (own Q (by omega)) ?_
 have loop: ∀(q i:Nat) (acc:List (List Int)),i+q=n→acc.length=i→(∀x ∈ acc,x.length=n)→Ex (fun k=>spec_l01Copy.l0 k (i:Int) M Q acc Q) (fun r=>r.1.length=n∧(∀x ∈ r.1,x.length=n)∧r.2.length=n):=by
  intro q
  induction q with
  | zero=>
   intro i acc hi hl hx
   refine exstep (fun k=>by rw [spec_l01Copy.l0]) ?_
   exact exneg (by omega) (exc rfl ⟨by show acc.length=n;omega,hx,hQ⟩)
  | succ q ih=>
   intro i acc hi hl hx
   have hrow:(rd_L2 M (i:Int)).length=n:=by
    have e:rd_L2 M (i:Int)=M.getD i []:=by simp [rd_L2]
    rw [e,List.getD_eq_getElem?_getD,List.getElem?_eq_getElem (by omega)]
    exact hr _ (List.getElem_mem _)
   refine exstep (fun k=>by rw [spec_l01Copy.l0]) ?_
   rw [w64 (x:=(i:Int)+1) (by omega) (by omega)]
   refine expos (by omega) (expos (by omega) (exsome (own _ (by omega)) (expos (by omega) (ih (i+1) _ (by omega) (by simp;omega) (fun x hm=>?_)))))
   rcases List.mem_append.1 hm with m | m
   ·exact hx x m
   ·rw [List.mem_singleton.1 m];exact hrow
 exact loop n 0 [] (by omega) rfl (by simp)
structure Pb (w:World) (g lo n gm c:Nat) (b cp:Nat→Nat) (A:Option Addr) (c1:Nat) (Q:List Int):Prop where
 dm:Dm w lo gm n c b cp
 rq:Kd.R (Kd.int .i64) 2 w lo (fun k=>k≠g∧k≠gm∧ ∀j,j < n→k≠b j) (.slice A Q.length c1) Q
 ql:n≤Q.length∧Q.length≤n+1
theorem Pb.mv {w0 w w1:World} {g lo n gm c:Nat} {b cp:Nat→Nat} {A:Option Addr} {c1:Nat} {Q:List Int} (h:Pb w g lo n gm c b cp A c1 Q) (hS:Stp w0 w g w1) (hg:g < lo):Pb w1 g lo n gm c b cp A c1 Q:=
 ⟨h.dm.keep hS.keep hg,Kd.R_keep h.rq hS.keep (fun k hk=>hk.1),h.ql⟩
def PbOut (w0 wE:World) (g lo n:Nat) (v:Value) (w':World):Prop:=(v= .agg #[.slice none 0 0, .slice none 0 0]∨ ∃gm c b cp A c1 Q,v= .agg #[.slice (some ⟨gm,0,none⟩) n c, .slice A Q.length c1]∧Pb w' g lo n gm c b cp A c1 Q)∧Stp w0 wE g w'
theorem copy_c {w:World} {g lo n gm c:Nat} {b cp:Nat→Nat} {A:Option Addr} {c1:Nat} {Q:List Int} (h:Pb w g lo n gm c b cp A c1 Q) (hQ:Q.length=n) (hn:n≤5) (hn0:0 < n):Calls Try.prog 100 #[.agg #[.slice (some ⟨gm,0,none⟩) n c, .slice A n c1]] w fun e w'=> ∃gm2 c2 b2 cp2 A2 d2 Q2,e= .returned (.agg #[.slice (some ⟨gm2,0,none⟩) n c2, .slice A2 n d2])∧Q2.length=n∧Dm w' w.heap.size gm2 n c2 b2 cp2∧Kd.R (Kd.int .i64) 2 w' w.heap.size (fun k=>w.heap.size≤k∧k≠gm2∧ ∀j,j < n→k≠b2 j) (.slice A2 n d2) Q2∧Below w.heap.size w w':=by
 obtain⟨M,hM,hMr,hC⟩:=h.dm.C (by omega)
 obtain⟨r,⟨k,e⟩,p1,p2,p3⟩:=copy_ex hn hM hMr hQ
 have hR:=Kd.R_reads' h.rq
 have hcall:=spec_l01Copy.calls k (some ⟨gm,0,none⟩) c M A c1 Q r.1 r.2 w hC (by rw [hM];exact h.dm.cap) hR.2.2 hR.2.1 (e k (Nat.le_refl _))
 rw [hM,hQ] at hcall
 refine hcall.mono ?_
 rintro e w' ⟨v0,v1,rfl,hS,hR1,hb⟩
 obtain⟨gm2,c2,b2,cp2,rfl,hD,ok1,ok2⟩:=Dm.of hS p1 p2 hn0
 obtain⟨A2,d2,rfl⟩:=Kd.R_slice hR1
 have hR2:Kd.R (Kd.int .i64) 2 w' w.heap.size (fun k=>w.heap.size≤k∧k≠gm2∧ ∀j,j < n→k≠b2 j) (.slice A2 r.2.length d2) r.2:=Kd.R_mono (Kd.R_tight rfl hR1) (fun k hk=>⟨Kd.R_base hR1 k hk.symm,fun q=>ok1 (by rw [← q];exact hk),fun j hj q=>ok2 j hj (by rw [← q];exact hk)⟩)
 rw [p3] at hR2
 exact⟨gm2,c2,b2,cp2,A2,d2,r.2,by rw [p3],p3,hD,hR2,hb⟩
structure Cp (w0 w wr:World) (g W g4 gb n gm c:Nat) (b cp:Nat→Nat) (vq:Value):Prop where
 st:Stp w0 w g wr
 dm:Dm wr W gm n c b cp
 b4:wr.heap[g4]?=some (.cells #[.slice none 0 0, .slice none 0 0] 27 (0,0))
 bb:wr.heap[gb]?=some (.cells #[.slice (some ⟨gm,0,none⟩) n c,vq] 27 (0,0))
 s4:w.heap.size≤g4∧g4 < W
 sb:W≤gb∧gb≠gm∧ ∀j,j < n→gb≠b j
 el:w0.heap.size≤w.heap.size∧g < w.heap.size
def okC (W gb n gm:Nat) (b:Nat→Nat) (k:Nat):Prop:=W≤k∧k≠gb∧k≠gm∧ ∀j,j < n→k≠b j
abbrev RC (wr:World) (W gb n gm:Nat) (b:Nat→Nat) (vq:Value) (Q:List Int):Prop:=Kd.R (Kd.int .i64) 2 wr W (okC W gb n gm b) vq Q
section
variable {w0 w wr w1:World} {g W g4 gb n gm c:Nat} {b cp:Nat→Nat} {vq:Value} {Q:List Int}
theorem Cp.new {w5 w6:World} {A2:Option Addr} {d2:Nat} (hE:w0.heap.size≤w.heap.size) (hg:g < w.heap.size) (st:Stp w0 w g w5) (h4:w.heap.size≤g4∧g4 < W) (b4:w5.heap[g4]?=some (.cells #[.slice none 0 0, .slice none 0 0] 27 (0,0))) (dm:Dm w5 W gm n c b cp) (hW:W≤w5.heap.size) (rq:Kd.R (Kd.int .i64) 2 w5 W (fun k=>W≤k∧k≠gm∧ ∀j,j < n→k≠b j) (.slice A2 Q.length d2) Q) (hb:Below w5.heap.size w5 w6) (h5:w5.heap.size≤gb) (hbox:w6.heap[gb]?=some (.cells #[.slice none 0 0, .slice none 0 0] 27 (0,0))):
  Cp w0 w ((w6.setCell ⟨gb,0,none⟩ (.slice (some ⟨gm,0,none⟩) n c)).setCell ⟨gb,1,none⟩ (.slice A2 Q.length d2)) g W g4 gb n gm c b cp (.slice A2 Q.length d2)∧RC ((w6.setCell ⟨gb,0,none⟩ (.slice (some ⟨gm,0,none⟩) n c)).setCell ⟨gb,1,none⟩ (.slice A2 Q.length d2)) W gb n gm b (.slice A2 Q.length d2) Q:=by
 have lt:=fun k hk=>Kd.R_lt rq k hk
 have g0:=dm.g0
 have hs:=Stp.of_below st.src st.below hb
 have sg:=st.keep.1
 have e5:gb≠gm∧ ∀j,j < n→gb≠b j:=⟨by omega,fun j hj=>by have:=(dm.rr j hj).2.1;omega⟩
 have d6:=dm.keep hs.keep (by omega)
 have r6:Kd.R (Kd.int .i64) 2 w6 W (okC W gb n gm b) (.slice A2 Q.length d2) Q:=Kd.R_below (Kd.R_mono (Kd.R_tight rfl rq) (fun k hk=>⟨(rq.1 k hk.symm).1,by have:=lt k hk.symm;omega,(rq.1 k hk.symm).2⟩)) hb
 have s6:=st.trans hs
 refine⟨⟨(s6.set hE gb 0 _ (by omega) (by omega)).set hE gb 1 _ (by omega) (by omega),(d6.set e5.1 e5.2).set e5.1 e5.2,?_,blk_put (blk_put hbox 0 _ rfl) 1 _ rfl,h4,⟨by omega,e5⟩,hE,hg⟩,?_⟩
 ·exact(Below.heap_setCell _ ⟨gb,1,none⟩ _ g4 (by show g4≠gb;omega)).trans ((Below.heap_setCell w6 ⟨gb,0,none⟩ _ g4 (by show g4≠gb;omega)).trans (blk_below b4 hb))
 ·exact Kd.R_far (Kd.R_far r6 (p:=⟨gb,0,none⟩) (fun q hq=>hq.2.1) _) (p:=⟨gb,1,none⟩) (fun q hq=>hq.2.1) _
theorem Cp.mv (h:Cp w0 w wr g W g4 gb n gm c b cp vq) (hS:Stp w0 wr g w1):Cp w0 w w1 g W g4 gb n gm c b cp vq:=by
 have:=h.s4;have:=h.sb;have:=h.el
 exact⟨h.st.trans hS,h.dm.keep hS.keep (by omega),hS.keep.blk h.b4 (by omega) (by simp),hS.keep.blk h.bb (by omega) (by simp),h.s4,h.sb,h.el⟩
theorem RC.mv (h:Cp w0 w wr g W g4 gb n gm c b cp vq) (r:RC wr W gb n gm b vq Q) (hS:Stp w0 wr g w1):RC w1 W gb n gm b vq Q:=by
 have:=h.s4;have:=h.el
 exact Kd.R_keep r hS.keep (fun k hk=>by have:=hk.1;omega)
theorem Cp.put (h:Cp w0 w wr g W g4 gb n gm c b cp vq) (r:RC wr W gb n gm b vq Q) {j k:Nat} (hj:j < n) (hk:k < n) (x:Int):Cp w0 w (wr.setCell ⟨b j,k,none⟩ (.int .i64 x)) g W g4 gb n gm c b cp vq∧RC (wr.setCell ⟨b j,k,none⟩ (.int .i64 x)) W gb n gm b vq Q:=by
 have h4:=h.s4;have hb:=h.sb;have he:=h.el;have hr:=h.dm.rr j hj
 exact⟨⟨h.st.set he.1 (b j) k _ (by omega) (by omega),h.dm.put hj hk x,(Below.heap_setCell wr ⟨b j,k,none⟩ _ g4 (by show g4≠b j;omega)).trans h.b4,(Below.heap_setCell wr ⟨b j,k,none⟩ _ gb (hb.2.2 j hj)).trans h.bb,h4,hb,he⟩,Kd.R_far r (p:=⟨b j,k,none⟩) (fun q hq=>hq.2.2.2 j hj) _⟩
theorem Cp.putQ {gq c1:Nat} (h:Cp w0 w wr g W g4 gb n gm c b cp (.slice (some ⟨gq,0,none⟩) Q.length c1)) (r:RC wr W gb n gm b (.slice (some ⟨gq,0,none⟩) Q.length c1) Q) (hq:W≤gq∧gq≠gb∧gq≠gm∧ ∀j,j < n→gq≠b j) (i:Nat) (x:Int):Cp w0 w (wr.setCell ⟨gq,i,none⟩ (.int .i64 x)) g W g4 gb n gm c b cp (.slice (some ⟨gq,0,none⟩) Q.length c1)∧RC (wr.setCell ⟨gq,i,none⟩ (.int .i64 x)) W gb n gm b (.slice (some ⟨gq,0,none⟩) Q.length c1) (Q.set i x):=by
 have h4:=h.s4;have hb:=h.sb;have he:=h.el
 have hput:=Kd.R_putg r (i:Int) x
 rw [Int.toNat_natCast] at hput
 exact⟨⟨h.st.set he.1 gq i _ (by omega) (by omega),h.dm.set hq.2.2.1 hq.2.2.2,(Below.heap_setCell wr ⟨gq,i,none⟩ _ g4 (by show g4≠gq;omega)).trans h.b4,(Below.heap_setCell wr ⟨gq,i,none⟩ _ gb (Ne.symm hq.2.1)).trans h.bb,h4,hb,he⟩,hput.1⟩
theorem Cp.fresh (h:Cp w0 w wr g W g4 gb n gm c b cp vq):W≤wr.heap.size∧ ∀k,wr.heap.size≤k→okC W gb n gm b k:=by
 have lb:=blk_lt h.bb;have g0:=h.dm.g0
 exact⟨by omega,fun k hk=>⟨by omega,by omega,by omega,fun j hj=>by have:=(h.dm.rr j hj).2.1;omega⟩⟩
theorem Cp.grow (h:Cp w0 w wr g W g4 gb n gm c b cp vq) (r:RC wr W gb n gm b vq Q) (hg:wr.grownBy w1 vq.ownBlock) (hb:Below W wr w1):Cp w0 w w1 g W g4 gb n gm c b cp vq:=by
 have hn: ∀k, ¬ okC W gb n gm b k→some k≠vq.ownBlock:=fun k hk e=>hk (r.1 k e.symm)
 have h4:=h.s4;have he:=h.el
 refine⟨h.st.lo he.1 he.2 ⟨hb.os,hb.tape,hb.output,hb.size,fun i hi=>hb.block i (by omega)⟩,h.dm.grow hg ⟨hn _ (fun q=>q.2.2.1 rfl),fun j hj=>hn _ (fun q=>q.2.2.2 j hj rfl)⟩,blk_grown h.b4 hg (hn _ (fun q=>by have:=q.1;omega)),blk_grown h.bb hg (hn _ (fun q=>q.2.1 rfl)),h.s4,h.sb,h.el⟩
theorem Cp.store {v1:Value} (h:Cp w0 w w1 g W g4 gb n gm c b cp vq) (r:RC w1 W gb n gm b v1 Q):Cp w0 w (w1.setCell ⟨gb,1,none⟩ v1) g W g4 gb n gm c b cp v1∧RC (w1.setCell ⟨gb,1,none⟩ v1) W gb n gm b v1 Q:=by
 have h4:=h.s4;have hb:=h.sb;have he:=h.el
 exact⟨⟨h.st.set he.1 gb 1 _ (by omega) (by omega),h.dm.set hb.2.1 hb.2.2,(Below.heap_setCell w1 ⟨gb,1,none⟩ _ g4 (by show g4≠gb;omega)).trans h.b4,blk_put h.bb 1 v1 rfl,h4,hb,he⟩,Kd.R_far r (p:=⟨gb,1,none⟩) (fun q hq=>hq.2.1) _⟩
theorem Cp.out {lo c1:Nat} {A:Option Addr} (h:Cp w0 w wr g W g4 gb n gm c b cp (.slice A Q.length c1)) (r:RC wr W gb n gm b (.slice A Q.length c1) Q) (hg:g < lo) (hl:lo≤w.heap.size) (hq:n≤Q.length∧Q.length≤n+1):
  PbOut w0 w g lo n (.agg #[.slice (some ⟨gm,0,none⟩) n c, .slice A Q.length c1]) ((wr.setCell ⟨g4,0,none⟩ (.slice (some ⟨gm,0,none⟩) n c)).setCell ⟨g4,1,none⟩ (.slice A Q.length c1)):=by
 have h4:=h.s4;have hb:=h.sb;have he:=h.el;have g0:=h.dm.g0
 have q1:g4≠gm:=by omega
 have q2: ∀j,j < n→g4≠b j:=fun j hj=>by have:=(h.dm.rr j hj).1;omega
 refine⟨.inr ⟨gm,c,b,cp,A,c1,Q,rfl,⟨((h.dm.set q1 q2).set q1 q2).down (by omega),?_,hq⟩⟩,(h.st.set he.1 g4 0 _ h4.1 (by omega)).set he.1 g4 1 _ h4.1 (by omega)⟩
 have r2:=Kd.R_far (Kd.R_far r (p:=⟨g4,0,none⟩) (fun k hk=>by show k≠g4;have:=hk.1;omega) (.slice (some ⟨gm,0,none⟩) n c)) (p:=⟨g4,1,none⟩) (fun k hk=>by show k≠g4;have:=hk.1;omega) (.slice A Q.length c1)
 exact Kd.R_lower (Kd.R_mono r2 (fun k hk=>⟨by have:=hk.1;omega,hk.2.2⟩)) (by omega)
end
end Go.Proofs.Ytbjljcpngbhkeaa.Dr
end
section
namespace Go.Proofs.Ytbjljcpngbhkeaa.Dr
open Go.RowKit Go.Proofs.YtbjljcpngbhkeaaW.PrintWords Go.Proofs.YtbjljcpngbhkeaaW.PrintLast Go.Proofs.YtbjljcpngbhkeaaW.PrintMore Go.Proofs.Ytbjljcpngbhkeaa.Ma Go.Proofs.Ytbjljcpngbhkeaa.Pr Go.Proofs.Ytbjljcpngbhkeaa.Lq
theorem bad_c {w0 w:World} {g lo n gm c:Nat} {b cp:Nat→Nat} {A:Option Addr} {c1:Nat} {Q:List Int} (h:Srm w0 w g) (hB:Below w0.heap.size w0 w) (hP:Pb w g lo n gm c b cp A c1 Q) (hQ:Q.length=n) (hn:n≤5) (hn0:0 < n) (hg:g < lo) (hl:lo≤w.heap.size):Calls Try.prog 94 #[.pointer (some ⟨g,0,none⟩), .agg #[.slice (some ⟨gm,0,none⟩) n c, .slice A n c1]] w fun e w'=> ∃v,e= .returned v∧PbOut w0 w g lo n v w':=by
 have ST:=q_ (Stp.refl h hB);have HE:=q_ hB.size;have P:=q_ hP;have PL:=q_ (show gm < w.heap.size∧ ∀j,j < n→b j < w.heap.size from ⟨hP.dm.g0.2,fun j hj=>(hP.dm.rr j hj).2.1⟩);have RP:Aside0 (Kd.R (Kd.int .i64) 2 w lo (fun k=>(k≠g∧k≠gm∧ ∀j,j < n→k≠b j)∧k < w.heap.size) (.slice A Q.length c1) Q):=⟨Kd.R_mono (Kd.R_tight rfl hP.rq) (fun k hk=>⟨hP.rq.1 k hk.symm,Kd.R_lt hP.rq k hk.symm⟩)⟩
 have HQ:=q_ hQ;have HN:=q_ hn;have HN0:=q_ hn0;have HG:=q_ hg;have HL:=q_ hl;clear h hB hP hQ hn hn0 hg hl
 go_enter Try.func94,Try.ntmps94
 go_wp2_with (first | ((with_reducible refine gate_dst (N:=3) rfl ?_);refine be_ 3 #[.slice (some ⟨gm,0,none⟩) n c, .slice A n c1] 27 ?_;intro g3 hg w2 hbox hb;have G3:=q_ (show w.heap.size≤g3 by rw [hg];exact Nat.le_refl _);have hs_:=Stp.of_below ST.out.src ST.out.below hb;replace ST:=q_ (ST.out.trans hs_);replace P:=q_ (P.out.mv hs_ HG.out);replace RP:=q_ (Kd.R_keep RP.out hs_.keep (fun k hk=>hk.1.1));have B3:=q_ hbox;clear hs_ hg hbox hb) | ((with_reducible refine gate_dst (N:=4) rfl ?_);refine be_ 4 #[.slice none 0 0, .slice none 0 0] 27 ?_;intro g4 hg w3 hbox hb;have G4:=q_ (show w.heap.size≤g4∧g3≠g4 by rw [hg];exact⟨ST.out.keep.1,Nat.ne_of_lt (blk_lt B3.out)⟩);have hs_:=Stp.of_below ST.out.src ST.out.below hb;replace ST:=q_ (ST.out.trans hs_);replace P:=q_ (P.out.mv hs_ HG.out);replace RP:=q_ (Kd.R_keep RP.out hs_.keep (fun k hk=>hk.1.1));replace B3:=q_ (blk_below B3.out hb);have B4:=q_ hbox;clear hs_ hg hbox hb))
 refine(next_c ST.out.src ST.out.below 50).mono ?_
 rintro e w4 ⟨y,rfl,_,hS⟩;replace ST:=q_ (ST.out.trans hS);replace P:=q_ (P.out.mv hS HG.out);replace RP:=q_ (Kd.R_keep RP.out hS.keep (fun k hk=>hk.1.1));replace B3:=q_ (hS.keep.blk B3.out (by have:=G3.out;have:=G4.out;have:=HG.out;have:=HL.out;omega) (by simp));replace B4:=q_ (hS.keep.blk B4.out (by have:=G3.out;have:=G4.out;have:=HG.out;have:=HL.out;omega) (by simp));clear hS
 by_cases y0:y=0
 ·have y0b:(y==0)=true:=by simpa using y0
  clear y0;have x40:=cz_ B4 0;have x41:=cz_ B4 1;have f40:=blk_frozen B4.out 0;have f41:=blk_frozen B4.out 1;go_wp2
  refine bodyPost_ret (results_cell_row rfl _ _ g4 27 #[.slice none 0 0, .slice none 0 0] (0,0) _ rfl (blk_put (blk_put B4.out 0 _ rfl) 1 _ rfl) Try.underlying27 rfl (by kernel_rfl)) rfl ?_
  have g4a:=G4.out;have hl:=HL.out;have hgg:=HG.out;have S4:=(ST.out.set HE.out g4 0 (.slice none 0 0) g4a.1 (by omega)).set HE.out g4 1 (.slice none 0 0) g4a.1 (by omega);exact⟨_,rfl, .inl rfl,S4⟩
 have y0b:(y==0)=false:=by simpa using y0
 clear y0
 by_cases y1:y=1
 ·have y1b:(y==1)=true:=by simpa using y1
  clear y1;have x30:=cz_ B3 0;have x31:=cz_ B3 1;have f30:=blk_frozen B3.out 0;have f31:=blk_frozen B3.out 1
  go_wp2_with fail
  refine(copy_c P.out HQ.out HN.out HN0.out).mono ?_
  rintro e w5 ⟨gm2,c2,b2,cp2,A2,d2,Q2,rfl,hQ2,hD,hR,hb⟩;clear x30 x31 f30 f31;have D2:=q_ hD;have R2:=q_ hR;have L2:=q_ hQ2;have HB5:=q_ hb;have GB4:=q_ (blk_lt B4.out);have GL:=q_ ST.out.src.lt;have hs_:=Stp.of_below ST.out.src ST.out.below hb;replace ST:=q_ (ST.out.trans hs_);replace P:=q_ (P.out.mv hs_ HG.out);replace RP:=q_ (Kd.R_keep RP.out hs_.keep (fun k hk=>hk.1.1));replace B3:=q_ (hs_.keep.blk B3.out (by have:=G3.out;have:=G4.out;have:=HG.out;have:=HL.out;omega) (by simp));replace B4:=q_ (hs_.keep.blk B4.out (by have:=G3.out;have:=G4.out;have:=HG.out;have:=HL.out;omega) (by simp));clear hD hR hQ2 hb hs_;obtain⟨gq,dq,eq_,hbq,hlq,_⟩:=Kd.R_form R2.out (by rw [L2.out];exact HN0.out);injection eq_ with e1 e2 e3
  subst e1;have GQ:=q_ hbq;clear e2 e3 hbq hlq
  go_wp2_with (first | ((with_reducible refine gate_dst (N:=5) rfl ?_);refine be_ 5 #[.slice none 0 0, .slice none 0 0] 27 ?_;intro g5 hg w6 hbox hb;have B5:=q_ hbox;have G5:=q_ (show w5.heap.size≤g5 by rw [hg];exact Nat.le_refl _);have HB6:=q_ hb;have hx0:=cz_ B5 0;have hx1:=cz_ B5 1;have fx0:=blk_frozen hbox 0;have fx1:=blk_frozen hbox 1;clear hg hbox hb) | ((with_reducible refine gate_store (t:=27) (p:=5) rfl ?_);refine store_event (t:=27) (p:=5) (v:=?vo5) (w1:=(w6.setCell ⟨g5,0,none⟩ (.slice (some ⟨gm2,0,none⟩) n c2)).setCell ⟨g5,1,none⟩ (.slice (some ⟨gq,0,none⟩) n d2)) ?hg ?ho ?hn ?hr ?_;(case ho=>rfl);(case hg=>rfl);(case hn=>rfl);(case hr=>first | (go_simp;done) | (go_simp;rfl));intro w7 hw;have cpr:=Cp.new (g4:=g4) (W:=w4.heap.size) HE.out (by have:=HG.out;have:=HL.out;omega) ST.out ⟨G4.out.1,GB4.out⟩ B4.out D2.out HB5.out.size (by rw [L2.out];exact R2.out) HB6.out G5.out B5.out;rw [L2.out, ← hw] at cpr;have CP:=q_ cpr.1;have RQ:=q_ cpr.2;clear cpr hw hx0 hx1 fx0 fx1;have hx0:=cz_ (q_ CP.out.bb) 0;have hx1:=cz_ (q_ CP.out.bb) 1))
  clear ST P RP D2 R2 B4 HB6 G5 B5 HB5 B3 hx0 hx1;have hs_:=Stp.of_below CP.out.st.src CP.out.st.below (below_drew (Below.refl w7.heap.size w7));replace RQ:=q_ (RC.mv CP.out RQ.out hs_);replace CP:=q_ (CP.out.mv hs_);clear hs_;refine st_ (n:=10) (S:=fun w'=>w'.cell? ⟨g5,0,none⟩=some (.slice (some ⟨gm2,0,none⟩) n c2)∧ ∀j,j < n→w'.cell? ⟨gm2,j,none⟩=some (.slice (some ⟨b2 j,0,none⟩) n (cp2 j))) (ds:= []) ⟨cz_ (q_ CP.out.bb) 0,CP.out.dm.row⟩ (fun hHeld=>?_)
  generalize w7.drew=w8 at CP RQ hHeld ⊢
  refine pu_ 0 18 ?_;refine pu_ 2 20 ?_;refine pu_ 3 21 ?_;refine tk_ 1 19 ?_;refine tk_ 4 22 ?_;refine pu_ 5 23 ?_
  refine on_ 6 (some 24) (fun K hK=>?_)
  refine ca_ Try.func37 #[.pointer (some ⟨g,0,none⟩), .int .i64 (n:Int)] ?_
  refine(next_c CP.out.st.src CP.out.st.below (n:Int)).mono ?_
  rintro e w9 ⟨x,rfl,hx,hS⟩;obtain⟨j,rfl⟩:=Int.eq_ofNat_of_zero_le (hx (by have:=HN0.out;omega)).1;have hjn:j < n:=by have:=(hx (by have:=HN0.out;omega)).2;omega
  have HJ:=q_ hjn;have hjz:(j:Int) < (n:Int):=by omega
  have h0j:(0:Int)≤(j:Int):=by omega
  refine⟨_,rfl,?_⟩
  replace RQ:=q_ (RC.mv CP.out RQ.out hS);replace CP:=q_ (CP.out.mv hS);clear hS hx hHeld;refine hK.out _ _ ⟨cz_ (q_ CP.out.bb) 0,CP.out.dm.row⟩ (fun hHeld=>?_)
  clear hK K;refine no_ ?_
  refine pu_ 7 25 ?_;refine tk_ 8 26 ?_;refine pu_ 9 6 ?_
  refine done_ (by kernel_rfl) ?_
  clear hHeld hjn hjz h0j
  go_wp2_with (first | ((with_reducible refine gate_dst (N:=29) rfl ?_);refine Kd.R_lit (Kd.int .i64) _ 2 ?hg (N:=29) ?hd (xs:=([21, -21,1099511627776]:List Int)) (inner:= [.int .i64 21, .int .i64 (-21), .int .i64 1099511627776]) (ok:=fun _=>True) (okp:=fun _=>True) ?hr ?hp (fun _ hk=>hk) trivial (Below.refl _ _) (Nat.le_refl _) (by simp) ?_;(case hd=>rfl);(case hg=>rfl);(case hr=>first | (go_simp;done) | (go_simp;rfl));(case hp=>exact lit_reps [21, -21,1099511627776]);intro v29 w10 ho hb hg_ hnew_;obtain⟨g29,c29,rfl,hb29,hl29,_⟩:=Kd.R_form ho (by simp);have G29:=q_ (Nat.lt_of_lt_of_le CP.out.st.src.lt hb29);have hs_:=Stp.of_below CP.out.st.src CP.out.st.below hb;replace RQ:=q_ (RC.mv CP.out RQ.out hs_);replace CP:=q_ (CP.out.mv hs_);have R29:=q_ ho;clear hs_ hb29 hl29 hg_ hnew_ ho hb))
  refine(pick_c CP.out.st.src CP.out.st.below _ c29 [21, -21,1099511627776] (Kd.R_reads' R29.out).2.2 (Kd.R_reads' R29.out).2.1 (fun ad e _=>by injection e with e;subst e;show g29≠g;have:=G29.out;omega) (by decide)).mono ?_
  rintro e w11 ⟨x,rfl,_,hS⟩;replace RQ:=q_ (RC.mv CP.out RQ.out hS);replace CP:=q_ (CP.out.mv hS);clear hS R29 G29;obtain⟨⟨z,hz⟩,fz⟩:=CP.out.dm.ints j 0 HJ.out HN0.out;have hn0z:(0:Int) < (n:Int):=by have:=HN0.out;omega
  go_wp2_with (first | ((with_reducible refine gate_store (t:=2) (p:=31) rfl ?_);refine store_event (t:=2) (p:=31) (v:=?vo31) (w1:=w11.setCell ⟨b2 j,0,none⟩ (.int .i64 x)) ?hg ?ho ?hn ?hr ?_;(case ho=>rfl);(case hg=>rfl);(case hn=>rfl);(case hr=>first | (go_simp;done) | (go_simp;rfl));intro w12 hw;have cpr:=CP.out.put RQ.out HJ.out HN0.out x;rw [← hw] at cpr;replace RQ:=q_ cpr.2;replace CP:=q_ cpr.1;clear hz fz cpr hw;have hx0:=cz_ (q_ CP.out.bb) 0;have hx1:=cz_ (q_ CP.out.bb) 1;have y40:=cz_ (q_ CP.out.b4) 0;have y41:=cz_ (q_ CP.out.b4) 1;have g40:=blk_frozen CP.out.b4 0;have g41:=blk_frozen CP.out.b4 1))
  go_wp2
  refine bodyPost_ret (results_cell_row rfl _ _ g4 27 #[.slice (some ⟨gm2,0,none⟩) n c2, .slice (some ⟨gq,0,none⟩) n d2] (0,0) _ rfl (blk_put (blk_put CP.out.b4 0 _ rfl) 1 _ rfl) Try.underlying27 rfl (by kernel_rfl)) rfl ?_
  have fin:=Cp.out (Q:=Q2) (by rw [L2.out];exact CP.out) (by rw [L2.out];exact RQ.out) HG.out HL.out (by rw [L2.out];omega);rw [L2.out] at fin;exact⟨_,rfl,fin⟩
 have y1b:(y==1)=false:=by simpa using y1
 clear y1
 by_cases y2:y=2
 ·have y2b:(y==2)=true:=by simpa using y2
  clear y2;have x30:=cz_ B3 0;have x31:=cz_ B3 1;have f30:=blk_frozen B3.out 0;have f31:=blk_frozen B3.out 1
  go_wp2_with fail
  refine(copy_c P.out HQ.out HN.out HN0.out).mono ?_
  rintro e w5 ⟨gm2,c2,b2,cp2,A2,d2,Q2,rfl,hQ2,hD,hR,hb⟩;clear x30 x31 f30 f31;have D2:=q_ hD;have R2:=q_ hR;have L2:=q_ hQ2;have HB5:=q_ hb;have GB4:=q_ (blk_lt B4.out);have GL:=q_ ST.out.src.lt;have hs_:=Stp.of_below ST.out.src ST.out.below hb;replace ST:=q_ (ST.out.trans hs_);replace P:=q_ (P.out.mv hs_ HG.out);replace RP:=q_ (Kd.R_keep RP.out hs_.keep (fun k hk=>hk.1.1));replace B3:=q_ (hs_.keep.blk B3.out (by have:=G3.out;have:=G4.out;have:=HG.out;have:=HL.out;omega) (by simp));replace B4:=q_ (hs_.keep.blk B4.out (by have:=G3.out;have:=G4.out;have:=HG.out;have:=HL.out;omega) (by simp));clear hD hR hQ2 hb hs_;obtain⟨gq,dq,eq_,hbq,hlq,_⟩:=Kd.R_form R2.out (by rw [L2.out];exact HN0.out);injection eq_ with e1 e2 e3
  subst e1;have GQ:=q_ hbq;clear e2 e3 hbq hlq
  go_wp2_with (first | ((with_reducible refine gate_dst (N:=7) rfl ?_);refine be_ 7 #[.slice none 0 0, .slice none 0 0] 27 ?_;intro g7 hg w6 hbox hb;have B7:=q_ hbox;have G7:=q_ (show w5.heap.size≤g7 by rw [hg];exact Nat.le_refl _);have HB6:=q_ hb;have hx0:=cz_ B7 0;have hx1:=cz_ B7 1;have fx0:=blk_frozen hbox 0;have fx1:=blk_frozen hbox 1;clear hg hbox hb) | ((with_reducible refine gate_store (t:=27) (p:=7) rfl ?_);refine store_event (t:=27) (p:=7) (v:=?vo7) (w1:=(w6.setCell ⟨g7,0,none⟩ (.slice (some ⟨gm2,0,none⟩) n c2)).setCell ⟨g7,1,none⟩ (.slice (some ⟨gq,0,none⟩) n d2)) ?hg ?ho ?hn ?hr ?_;(case ho=>rfl);(case hg=>rfl);(case hn=>rfl);(case hr=>first | (go_simp;done) | (go_simp;rfl));intro w7 hw;have cpr:=Cp.new (g4:=g4) (W:=w4.heap.size) HE.out (by have:=HG.out;have:=HL.out;omega) ST.out ⟨G4.out.1,GB4.out⟩ B4.out D2.out HB5.out.size (by rw [L2.out];exact R2.out) HB6.out G7.out B7.out;rw [L2.out, ← hw] at cpr;have CP:=q_ cpr.1;have RQ:=q_ cpr.2;clear cpr hw hx0 hx1 fx0 fx1;have hx0:=cz_ (q_ CP.out.bb) 0;have hx1:=cz_ (q_ CP.out.bb) 1))
  clear ST P RP D2 R2 B4 HB6 G7 B7 HB5 B3 hx0 hx1;have hs_:=Stp.of_below CP.out.st.src CP.out.st.below (below_drew (Below.refl w7.heap.size w7));replace RQ:=q_ (RC.mv CP.out RQ.out hs_);replace CP:=q_ (CP.out.mv hs_);clear hs_;refine st_ (n:=7) (S:=fun w'=>w'.cell? ⟨g7,1,none⟩=some (.slice (some ⟨gq,0,none⟩) n d2)) (ds:= [6]) (cz_ (q_ CP.out.bb) 1) (fun hHeld=>?_)
  generalize w7.drew=w8 at CP RQ hHeld ⊢
  refine pu_ 0 37 ?_;refine pu_ 2 39 ?_;refine tk_ 1 38 ?_
  refine on_ 3 (some 40) (fun K hK=>?_)
  refine Kd.R_lit_step (Kd.int .i64) _ 2 (by rfl) (N:=40) rfl (xs:=([101, -101]:List Int)) (inner:= [.int .i64 101, .int .i64 (-101)]) (ok:=fun _=>True) (okp:=fun _=>True) (by first | (go_simp;done) | (go_simp;rfl)) (lit_reps [101, -101]) (fun _ h=>h) trivial (Below.refl _ _) (Nat.le_refl _) (by simp) ?_
  intro v40 w9 ho hb hg_ hat_;obtain⟨g40,c40,rfl,hb40,hl40,_⟩:=Kd.R_form ho (by simp);have G40:=q_ (Nat.lt_of_lt_of_le CP.out.st.src.lt hb40);have hs_:=Stp.of_below CP.out.st.src CP.out.st.below hb;replace RQ:=q_ (RC.mv CP.out RQ.out hs_);replace CP:=q_ (CP.out.mv hs_);have R40:=q_ ho;clear hs_ hb40 hl40 ho hb hg_ hat_ hHeld;refine hK.out _ _ (cz_ (q_ CP.out.bb) 1) (fun hHeld=>?_)
  clear hK K;refine nd_ 40 ?_
  refine on_ 4 (some 41) (fun K hK=>?_)
  refine ca_ Try.func51 #[.pointer (some ⟨g,0,none⟩), .slice (some ⟨g40,0,none⟩) ([101, -101]:List Int).length c40] ?_
  refine(pick_c CP.out.st.src CP.out.st.below _ c40 [101, -101] (Kd.R_reads' R40.out).2.2 (Kd.R_reads' R40.out).2.1 (fun ad e _=>by injection e with e;subst e;show g40≠g;have:=G40.out;omega) (by decide)).mono ?_
  rintro e w11 ⟨x,rfl,_,hS⟩;refine⟨_,rfl,?_⟩
  replace RQ:=q_ (RC.mv CP.out RQ.out hS);replace CP:=q_ (CP.out.mv hS);clear hS R40 G40 hHeld;refine hK.out _ _ (cz_ (q_ CP.out.bb) 1) (fun hHeld=>?_)
  clear hK K;refine no_ ?_
  have hn0:=HN0.out;refine pu_ 5 42 ?_
  have hat:=Kd.R_celln 0 RQ.out 0 (by omega) (by omega);have hcell:=hat.1;have hfr:=hat.2;rw [show (0:Int).toNat=0 from rfl] at hcell hfr;have hown:=RQ.out.1 gq (by rw [← L2.out];have:=HN0.out;simp [Value.ownBlock]);clear hat;refine la_ 6 none (fun K hK=>?_)
  refine skip_ (w1:=?_) (by rfl) rfl ?_ ?_
  rotate_left
  ·go_simp
   rfl
  refine hK.out _ _ ?_
  clear hK K hHeld hcell hfr;refine done_ (by kernel_rfl) ?_
  have cp0:=Cp.putQ (Q:=Q2) (by rw [L2.out];exact CP.out) (by rw [L2.out];exact RQ.out) ⟨hown.1,hown.2.1,hown.2.2.1,hown.2.2.2⟩ 0 x;rw [L2.out] at cp0;have hl3:(Q2.set 0 x).length=n:=by rw [List.length_set];exact L2.out
  have HL3:=q_ hl3;replace CP:=q_ cp0.1;replace RQ:=q_ cp0.2;clear cp0 hown hl3
  generalize w11.setCell ⟨gq,0,none⟩ (.int .i64 x)=w12 at CP RQ ⊢
  have hx0:=cz_ (q_ CP.out.bb) 0;have hx1:=cz_ (q_ CP.out.bb) 1;have y40:=cz_ (q_ CP.out.b4) 0;have y41:=cz_ (q_ CP.out.b4) 1;have g40:=blk_frozen CP.out.b4 0;have g41:=blk_frozen CP.out.b4 1;go_wp2
  refine bodyPost_ret (results_cell_row rfl _ _ g4 27 #[.slice (some ⟨gm2,0,none⟩) n c2, .slice (some ⟨gq,0,none⟩) n d2] (0,0) _ rfl (blk_put (blk_put CP.out.b4 0 _ rfl) 1 _ rfl) Try.underlying27 rfl (by kernel_rfl)) rfl ?_
  have fin:=Cp.out (Q:=Q2.set 0 x) (by rw [HL3.out];exact CP.out) (by rw [HL3.out];exact RQ.out) HG.out HL.out (by rw [HL3.out];omega);rw [HL3.out] at fin;exact⟨_,rfl,fin⟩
 have y2b:(y==2)=false:=by simpa using y2
 clear y2
 by_cases y3:y=3
 ·have y3b:(y==3)=true:=by simpa using y3
  clear y3;have x30:=cz_ B3 0;have x31:=cz_ B3 1;have f30:=blk_frozen B3.out 0;have f31:=blk_frozen B3.out 1
  go_wp2_with fail
  refine(copy_c P.out HQ.out HN.out HN0.out).mono ?_
  rintro e w5 ⟨gm2,c2,b2,cp2,A2,d2,Q2,rfl,hQ2,hD,hR,hb⟩;clear x30 x31 f30 f31;have D2:=q_ hD;have R2:=q_ hR;have L2:=q_ hQ2;have HB5:=q_ hb;have GB4:=q_ (blk_lt B4.out);have GL:=q_ ST.out.src.lt;have hs_:=Stp.of_below ST.out.src ST.out.below hb;replace ST:=q_ (ST.out.trans hs_);replace P:=q_ (P.out.mv hs_ HG.out);replace RP:=q_ (Kd.R_keep RP.out hs_.keep (fun k hk=>hk.1.1));replace B3:=q_ (hs_.keep.blk B3.out (by have:=G3.out;have:=G4.out;have:=HG.out;have:=HL.out;omega) (by simp));replace B4:=q_ (hs_.keep.blk B4.out (by have:=G3.out;have:=G4.out;have:=HG.out;have:=HL.out;omega) (by simp));clear hD hR hQ2 hb hs_;obtain⟨gq,dq,eq_,hbq,hlq,_⟩:=Kd.R_form R2.out (by rw [L2.out];exact HN0.out);injection eq_ with e1 e2 e3
  subst e1;have GQ:=q_ hbq;clear e2 e3 hbq hlq
  go_wp2_with (first | ((with_reducible refine gate_dst (N:=8) rfl ?_);refine be_ 8 #[.slice none 0 0, .slice none 0 0] 27 ?_;intro g8 hg w6 hbox hb;have B8:=q_ hbox;have G8:=q_ (show w5.heap.size≤g8 by rw [hg];exact Nat.le_refl _);have HB6:=q_ hb;have hx0:=cz_ B8 0;have hx1:=cz_ B8 1;have fx0:=blk_frozen hbox 0;have fx1:=blk_frozen hbox 1;clear hg hbox hb) | ((with_reducible refine gate_store (t:=27) (p:=8) rfl ?_);refine store_event (t:=27) (p:=8) (v:=?vo8) (w1:=(w6.setCell ⟨g8,0,none⟩ (.slice (some ⟨gm2,0,none⟩) n c2)).setCell ⟨g8,1,none⟩ (.slice (some ⟨gq,0,none⟩) n d2)) ?hg ?ho ?hn ?hr ?_;(case ho=>rfl);(case hg=>rfl);(case hn=>rfl);(case hr=>first | (go_simp;done) | (go_simp;rfl));intro w7 hw;have cpr:=Cp.new (g4:=g4) (W:=w4.heap.size) HE.out (by have:=HG.out;have:=HL.out;omega) ST.out ⟨G4.out.1,GB4.out⟩ B4.out D2.out HB5.out.size (by rw [L2.out];exact R2.out) HB6.out G8.out B8.out;rw [L2.out, ← hw] at cpr;have CP:=q_ cpr.1;have RQ:=q_ cpr.2;clear cpr hw hx0 hx1 fx0 fx1;have hx0:=cz_ (q_ CP.out.bb) 0;have hx1:=cz_ (q_ CP.out.bb) 1) | ((with_reducible refine gate_builtin (b:= .append) (xs:= #[.tmp 49, .tmp 50]) rfl ?_);at_builtin;refine Kd.R_append (Kd.int .i64) (w0:=w7) w4.heap.size rfl (.tmp 49) (.tmp 50) 25 2 (.int .i64 0) 8 rfl Try.underlying25 info2 rfl (by decide) (by omega) (.slice (some ⟨gq,0,none⟩) n d2) Q2 0 [.int .i64 0] (okC w4.heap.size g8 n gm2 b2) (fun _=>False) rfl rfl rfl (fun _ hk=>hk.elim) CP.out.fresh.2 RQ.out (Below.refl _ _) CP.out.fresh.1 ?aL ?_;(case aL=>have:=HN.out;have:=L2.out;omega);intro v51 w8 ho hb hg hat;replace CP:=q_ (CP.out.grow RQ.out hg hb);replace RQ:=q_ ho;clear ho hb hg hat hx0 hx1;obtain⟨A9,c9,e9⟩:=Kd.R_slice RQ.out;have hl9:(Q2++ [0]).length=n+1:=(by have:=L2.out;simp;omega);rw [hl9] at e9;subst e9;have HL9:=q_ hl9;clear hl9;have hx1:=cz_ (q_ CP.out.bb) 1;have fx1:=blk_frozen CP.out.bb 1) | ((with_reducible refine gate_store (t:=25) (p:=52) rfl ?_);refine store_event (t:=25) (p:=52) (v:=?vo52) (w1:=w8.setCell ⟨g8,1,none⟩ (.slice A9 (n+1) c9)) ?hg ?ho ?hn ?hr ?_;(case ho=>rfl);(case hg=>rfl);(case hn=>rfl);(case hr=>first | (go_simp;done) | (go_simp;rfl));intro w9 hw;have cpr:=CP.out.store RQ.out;rw [← hw] at cpr;replace RQ:=q_ cpr.2;replace CP:=q_ cpr.1;clear cpr hw hx1 fx1;have hx0:=cz_ (q_ CP.out.bb) 0;have hx1:=cz_ (q_ CP.out.bb) 1;have y40:=cz_ (q_ CP.out.b4) 0;have y41:=cz_ (q_ CP.out.b4) 1;have g40:=blk_frozen CP.out.b4 0;have g41:=blk_frozen CP.out.b4 1))
  clear ST P RP D2 R2 B4 HB6 G8 B8 HB5 B3;refine bodyPost_ret (results_cell_row rfl _ _ g4 27 #[.slice (some ⟨gm2,0,none⟩) n c2, .slice A9 (n+1) c9] (0,0) _ rfl (blk_put (blk_put CP.out.b4 0 _ rfl) 1 _ rfl) Try.underlying27 rfl (by kernel_rfl)) rfl ?_
  have fin:=Cp.out (Q:=Q2++ [0]) (by rw [HL9.out];exact CP.out) (by rw [HL9.out];exact RQ.out) HG.out HL.out (by rw [HL9.out];omega);rw [HL9.out] at fin;exact⟨_,rfl,fin⟩
 have y3b:(y==3)=false:=by simpa using y3
 clear y3;have x30:=cz_ B3 0;have x31:=cz_ B3 1;have f30:=blk_frozen B3.out 0;have f31:=blk_frozen B3.out 1;have x40:=cz_ B4 0;have x41:=cz_ B4 1;have f40:=blk_frozen B4.out 0;have f41:=blk_frozen B4.out 1;go_wp2
 refine bodyPost_ret (results_cell_row rfl _ _ g4 27 #[.slice (some ⟨gm,0,none⟩) n c, .slice A n c1] (0,0) _ rfl (blk_put (blk_put B4.out 0 _ rfl) 1 _ rfl) Try.underlying27 rfl (by kernel_rfl)) rfl ?_
 have g4a:=G4.out;have hl:=HL.out;have hgg:=HG.out;have S4:=(ST.out.set HE.out g4 0 (.slice (some ⟨gm,0,none⟩) n c) g4a.1 (by omega)).set HE.out g4 1 (.slice A n c1) g4a.1 (by omega);have pl:=PL.out;have q1:g4≠gm:=by omega
 have q2: ∀j,j < n→g4≠b j:=fun j hj=>by have:=pl.2 j hj;omega
 exact⟨_,rfl, .inr ⟨gm,c,b,cp,A,c1,Q,by rw [HQ.out],⟨(P.out.dm.set q1 q2).set q1 q2,Kd.R_mono (Kd.R_far (Kd.R_far RP.out (p:=⟨g4,0,none⟩) (fun k hk=>by show k≠g4;have:=hk.2;omega) _) (p:=⟨g4,1,none⟩) (fun k hk=>by show k≠g4;have:=hk.2;omega) _) (fun k hk=>hk.1),P.out.ql⟩⟩,S4⟩
end Go.Proofs.Ytbjljcpngbhkeaa.Dr
end
section
namespace Go.Proofs.Ytbjljcpngbhkeaa.Dr
open Go.RowKit Go.Proofs.YtbjljcpngbhkeaaW.PrintWords Go.Proofs.YtbjljcpngbhkeaaW.PrintLast Go.Proofs.YtbjljcpngbhkeaaW.PrintMore Go.Proofs.Ytbjljcpngbhkeaa.Ma Go.Proofs.Ytbjljcpngbhkeaa.Pr Go.Proofs.Ytbjljcpngbhkeaa.Lq
def PbIs (w0 wE:World) (g lo n:Nat) (v:Value) (w':World):Prop:=(∃gm c b cp A c1 Q,v= .agg #[.slice (some ⟨gm,0,none⟩) n c, .slice A n c1]∧Q.length=n∧Pb w' g lo n gm c b cp A c1 Q)∧Stp w0 wE g w'
theorem Prb.is {w0 w w':World} {g n:Nat} {v:Value} (h:Prb w0 w g n v w'):PbIs w0 w g w.heap.size n v w':=by
 obtain⟨gm,c,b,cp,A,c1,Q,rfl,hQ,hD,hR,hS⟩:=h
 exact⟨⟨gm,c,b,cp,A,c1,Q,rfl,hQ,hD,by rw [hQ];exact hR,by omega,by omega⟩,hS⟩
theorem Pb.far {w:World} {g lo n gm c:Nat} {b cp:Nat→Nat} {A:Option Addr} {c1:Nat} {Q:List Int} (h:Pb w g lo n gm c b cp A c1 Q) {p:Nat} (hp:p < lo) (i:Nat) (u:Value):Pb (w.setCell ⟨p,i,none⟩ u) g lo n gm c b cp A c1 Q:=by
 have g0:=h.dm.g0
 refine⟨h.dm.set (by omega) (fun j hj=>by have:=(h.dm.rr j hj).1;omega),?_,h.ql⟩
 have r2:=Kd.R_mono (ok':=fun k=>(k≠g∧k≠gm∧ ∀j,j < n→k≠b j)∧k≠p) (Kd.R_tight rfl h.rq) (fun k hk=>⟨h.rq.1 k hk.symm,by have:=Kd.R_base h.rq k hk.symm;omega⟩)
 exact Kd.R_mono (Kd.R_far r2 (p:=⟨p,i,none⟩) (fun k hk=>hk.2) u) (fun k hk=>hk.1)
theorem Pb.down {w:World} {g lo lo2 n gm c:Nat} {b cp:Nat→Nat} {A:Option Addr} {c1:Nat} {Q:List Int} (h:Pb w g lo n gm c b cp A c1 Q) (hl:lo2≤lo):Pb w g lo2 n gm c b cp A c1 Q:=⟨h.dm.down hl,Kd.R_lower h.rq hl,h.ql⟩
theorem draw_c {w0 w:World} {g:Nat} (h:Srm w0 w g) (hB:Below w0.heap.size w0 w):Calls Try.prog 95 #[.pointer (some ⟨g,0,none⟩)] w fun e w'=> ∃n v,0 < n∧n≤5∧e= .returned v∧PbIs w0 w g w.heap.size n v w':=by
 have ST:=q_ (Stp.refl h hB);have HG:=q_ h.lt;have HE:=q_ hB.size;clear h hB
 go_enter Try.func95,Try.ntmps95
 go_wp2_with (first | ((with_reducible refine gate_dst (N:=2) rfl ?_);refine be_ 2 #[.slice none 0 0, .slice none 0 0] 27 ?_;intro g2 hg w2 hbox hb;have G2:=q_ (show w.heap.size≤g2 by rw [hg];exact Nat.le_refl _);have B2:=q_ hbox;replace ST:=q_ (ST.out.trans (Stp.of_below ST.out.src ST.out.below hb));clear hg hbox hb) | ((with_reducible refine gate_dst (N:=5) rfl ?_);refine Kd.R_lit (Kd.int .i64) _ 2 ?hg (N:=5) ?hd (xs:=([1,2,2,3,3,3,4,5]:List Int)) (inner:= [.int .i64 1, .int .i64 2, .int .i64 2, .int .i64 3, .int .i64 3, .int .i64 3, .int .i64 4, .int .i64 5]) (ok:=fun _=>True) (okp:=fun _=>True) ?hr ?hp (fun _ hk=>hk) trivial (Below.refl _ _) (Nat.le_refl _) (by simp) ?_;(case hd=>rfl);(case hg=>rfl);(case hr=>first | (go_simp;done) | (go_simp;rfl));(case hp=>exact lit_reps [1,2,2,3,3,3,4,5]);intro v5 w3 ho hb hg_ hnew_;obtain⟨g5,c5,rfl,hb5,hl5,_⟩:=Kd.R_form ho (by simp);have G5:=q_ (Nat.lt_of_lt_of_le ST.out.src.lt hb5);replace ST:=q_ (ST.out.trans (Stp.of_below ST.out.src ST.out.below hb));replace B2:=q_ (blk_below B2.out hb);have R5:=q_ ho;clear hg_ hnew_ ho hb hb5 hl5))
 refine(pick_c ST.out.src ST.out.below _ c5 [1,2,2,3,3,3,4,5] (Kd.R_reads' R5.out).2.2 (Kd.R_reads' R5.out).2.1 (fun ad e _=>by injection e with e;subst e;show g5≠g;have:=G5.out;omega) (by decide)).mono ?_
 rintro e w4 ⟨x,rfl,hx,hS⟩;obtain⟨n,rfl,hn1,hn5⟩: ∃n:Nat,x=(n:Int)∧0 < n∧n≤5:=by
  simp only [List.mem_cons,List.not_mem_nil,or_false] at hx;exact⟨x.toNat,by omega,by omega,by omega⟩
 have HN1:=q_ hn1;have HN5:=q_ hn5;replace ST:=q_ (ST.out.trans hS);replace B2:=q_ (hS.keep.blk B2.out (by have:=G2.out;have:=HG.out;omega) (by simp));clear hx hn1 hn5 hS R5 G5
 go_wp2_with fail
 refine(drawOf_c ST.out.src ST.out.below n HN5.out HN1.out).mono ?_
 rintro e w5 ⟨v,rfl,hP⟩;obtain⟨⟨gm,c,b,cp,A,c1,Q,rfl,hQ,hPb⟩,hS⟩:=hP.is;have L4:=q_ (blk_lt B2.out);have W4:=q_ ST.out.keep.1;replace ST:=q_ (ST.out.trans hS);replace B2:=q_ (hS.keep.blk B2.out (by have:=G2.out;have:=HG.out;omega) (by simp));have HQ:=q_ hQ;have P:=q_ hPb;have x0:=cz_ B2 0;have x1:=cz_ B2 1;have f0:=blk_frozen B2.out 0;have f1:=blk_frozen B2.out 1;clear hP hQ hPb hS;go_wp2
 refine bodyPost_ret (results_cell_row rfl _ _ g2 27 #[.slice (some ⟨gm,0,none⟩) n c, .slice A n c1] (0,0) _ rfl (blk_put (blk_put B2.out 0 _ rfl) 1 _ rfl) Try.underlying27 rfl (by kernel_rfl)) rfl ?_
 have g2a:=G2.out;have hgg:=HG.out;exact⟨n,_,HN1.out,HN5.out,rfl,⟨gm,c,b,cp,A,c1,Q,rfl,HQ.out,((P.out.far L4.out 0 _).far L4.out 1 _).down W4.out⟩,(ST.out.set HE.out g2 0 _ g2a (by omega)).set HE.out g2 1 _ g2a (by omega)⟩
end Go.Proofs.Ytbjljcpngbhkeaa.Dr
end
section
namespace Go.Proofs.Ytbjljcpngbhkeaa.Dr
open Go.RowKit Go.Proofs.YtbjljcpngbhkeaaW.PrintWords Go.Proofs.YtbjljcpngbhkeaaW.PrintLast Go.Proofs.YtbjljcpngbhkeaaW.PrintMore Go.Proofs.Ytbjljcpngbhkeaa.Ma Go.Proofs.Ytbjljcpngbhkeaa.Pr Go.Proofs.Ytbjljcpngbhkeaa.Lq
theorem PbOut.two {w0 wE w:World} {g lo n:Nat} {v:Value} (h:PbOut w0 wE g lo n v w): ∃(A1 A2:Option Addr) (a b a2 b2:Nat),v= .agg #[.slice A1 a b, .slice A2 a2 b2]:=by
 rcases h.1 with h1 | ⟨gm,c,b,cp,A,c1,Q,h1,h3⟩
 ·exact⟨_,_,_,_,_,_,h1⟩
 ·exact⟨_,_,_,_,_,_,h1⟩
theorem spoil_c {w0 w:World} {g:Nat} (h:Srm w0 w g) (hB:Below w0.heap.size w0 w):Calls Try.prog 75 #[.pointer (some ⟨g,0,none⟩)] w fun e w'=> ∃n v,0 < n∧n≤5∧e= .returned v∧PbOut w0 w g w.heap.size n v w':=by
 have ST:=q_ (Stp.refl h hB);have HG:=q_ h.lt;have HE:=q_ hB.size;clear h hB
 go_enter Try.func75,Try.ntmps75
 go_wp2_with (first | ((with_reducible refine gate_dst (N:=2) rfl ?_);refine be_ 2 #[.slice none 0 0, .slice none 0 0] 27 ?_;intro g2 hg w2 hbox hb;have G2:=q_ (show w.heap.size≤g2 by rw [hg];exact Nat.le_refl _);have B2:=q_ hbox;replace ST:=q_ (ST.out.trans (Stp.of_below ST.out.src ST.out.below hb));clear hg hbox hb))
 refine(draw_c ST.out.src ST.out.below).mono ?_
 rintro e w3 ⟨n,v,hn0,hn5,rfl,⟨gm,c,b,cp,A,c1,Q,rfl,hQ,hP⟩,hS⟩;have LO:=q_ (show g2 < w2.heap.size∧w.heap.size≤w2.heap.size from ⟨blk_lt B2.out,ST.out.keep.1⟩);have P:=q_ hP;have HQ:=q_ hQ;have HN:=q_ hn5;have HN0:=q_ hn0;have LW:=q_ hS.keep.1;have GD:=q_ ST.out.src.lt;replace B2:=q_ (hS.keep.blk B2.out (by have:=G2.out;have:=HG.out;omega) (by simp));replace ST:=q_ (ST.out.trans hS);clear hS hP hQ hn0 hn5
 go_wp2_with fail
 refine(bad_c ST.out.src ST.out.below P.out HQ.out HN.out HN0.out GD.out LW.out).mono ?_
 rintro e w4 ⟨v,rfl,hO⟩;obtain⟨pA,pB,pa,pb,pc,pd,rfl⟩:=hO.two;replace B2:=q_ (hO.2.keep.blk B2.out (by have:=G2.out;have:=HG.out;omega) (by simp));replace ST:=q_ (ST.out.trans hO.2);have PO:=q_ hO;have x0:=cz_ B2 0;have x1:=cz_ B2 1;have f0:=blk_frozen B2.out 0;have f1:=blk_frozen B2.out 1;clear hO P HQ;go_wp2
 refine bodyPost_ret (results_cell_row rfl _ _ g2 27 #[.slice pA pa pb, .slice pB pc pd] (0,0) _ rfl (blk_put (blk_put B2.out 0 _ rfl) 1 _ rfl) Try.underlying27 rfl (by kernel_rfl)) rfl ?_
 have g2a:=G2.out;have hgg:=HG.out;have lo:=LO.out.1;refine⟨n,_,HN0.out,HN.out,rfl,?_,(ST.out.set HE.out g2 0 _ g2a (by omega)).set HE.out g2 1 _ g2a (by omega)⟩
 rcases PO.out.1 with h1 | ⟨gm,c,b,cp,A,c1,Q,h1,h3⟩
 ·exact .inl h1
 ·exact .inr ⟨gm,c,b,cp,A,c1,Q,h1,((h3.far lo 0 _).far lo 1 _).down LO.out.2⟩
end Go.Proofs.Ytbjljcpngbhkeaa.Dr
end
section
namespace Go.Proofs.Ytbjljcpngbhkeaa.Dr
open Go.RowKit Go.Proofs.YtbjljcpngbhkeaaW.PrintWords Go.Proofs.YtbjljcpngbhkeaaW.PrintLast Go.Proofs.YtbjljcpngbhkeaaW.PrintMore Go.Proofs.Ytbjljcpngbhkeaa.Ma Go.Proofs.Ytbjljcpngbhkeaa.Pr Go.Proofs.Ytbjljcpngbhkeaa.Lq
def Rd (w:World) (v:Value) (M:List (List Int)) (Q:List Int):Prop:= ∃A1 c1 A2 c2,v= .agg #[.slice A1 M.length c1, .slice A2 Q.length c2]∧Kd.C (Kd.slice 2 (Kd.int .i64)) w A1 M.length M∧M.length≤c1∧Kd.C (Kd.int .i64) w A2 Q.length Q∧Q.length≤c2
def PbD (lo n:Nat) (v:Value) (w:World):Prop:=v= .agg #[.slice none 0 0, .slice none 0 0]∨ ∃gm c b cp A c1 Q,v= .agg #[.slice (some ⟨gm,0,none⟩) n c, .slice A (List.length Q) c1]∧Dm w lo gm n c b cp∧Kd.R (Kd.int .i64) 2 w lo (fun k=>k≠gm∧ ∀j,j < n→k≠b j) (.slice A Q.length c1) Q∧n≤Q.length∧Q.length≤n+1
theorem PbOut.d {w0 wE w:World} {g lo n:Nat} {v:Value} (h:PbOut w0 wE g lo n v w):PbD lo n v w:=by
 rcases h.1 with h1 | ⟨gm,c,b,cp,A,c1,Q,h1,h3⟩
 ·exact .inl h1
 ·exact .inr ⟨gm,c,b,cp,A,c1,Q,h1,h3.dm,Kd.R_mono h3.rq (fun k hk=>hk.2),h3.ql⟩
theorem PbD.down {lo lo2 n:Nat} {v:Value} {w:World} (h:PbD lo n v w) (hl:lo2≤lo):PbD lo2 n v w:=by
 rcases h with h1 | ⟨gm,c,b,cp,A,c1,Q,h1,h2,h3,h4⟩
 ·exact .inl h1
 ·exact .inr ⟨gm,c,b,cp,A,c1,Q,h1,h2.down hl,Kd.R_lower h3 hl,h4⟩
theorem PbD.far {lo n:Nat} {v:Value} {w:World} (h:PbD lo n v w) {p:Nat} (hp:p < lo) (i:Nat) (u:Value):PbD lo n v (w.setCell ⟨p,i,none⟩ u):=by
 rcases h with h1 | ⟨gm,c,b,cp,A,c1,Q,h1,h2,h3,h4⟩
 ·exact .inl h1
 ·refine .inr ⟨gm,c,b,cp,A,c1,Q,h1,h2.set (by have:=h2.g0;omega) (fun j hj=>by have:=(h2.rr j hj).1;omega),?_,h4⟩
  exact Kd.R_mono (Kd.R_far (p:=⟨p,i,none⟩) (Kd.R_mono (Kd.R_tight rfl h3) (fun k hk=>(⟨Kd.R_base h3 k hk.symm,h3.1 k hk.symm⟩:lo≤k∧_))) (fun k hk=>by show k≠p;have:=hk.1;omega) u) (fun k hk=>hk.2)
theorem PbD.pair {lo n:Nat} {v:Value} {w:World} (h:PbD lo n v w): ∃(A1 A2:Option Addr) (a b a2 b2:Nat),v= .agg #[.slice A1 a b, .slice A2 a2 b2]:=by
 rcases h with h1 | ⟨gm,c,b,cp,A,c1,Q,h1,h3⟩
 ·exact⟨_,_,_,_,_,_,h1⟩
 ·exact⟨_,_,_,_,_,_,h1⟩
theorem PbD.rd {lo n:Nat} {v:Value} {w:World} (h:PbD lo n v w) (hn:n≤5): ∃M Q,Rd w v M Q∧M.length≤5∧Q.length≤6:=by
 rcases h with h1 | ⟨gm,c,b,cp,A,c1,Q,h1,h2,h3,h4⟩
 ·exact⟨[], [],⟨none,0,none,0,h1,Kd.C_nil _ _,Nat.le_refl _,Kd.C_nil _ _,Nat.le_refl _⟩,by simp,by simp⟩
 ·obtain⟨M,m1,m2,m3⟩:=h2.C (by omega)
  obtain⟨q1,q2,q3⟩:=Kd.R_reads' h3
  exact⟨M,Q,⟨_,c,A,c1,by rw [h1,m1],m3,by rw [m1];exact h2.cap,q3,q2⟩,by omega,by omega⟩
theorem PbOut.mv {w0 wE w w1:World} {g lo n:Nat} {v:Value} (h:PbOut w0 wE g lo n v w) (hS:Stp w0 w g w1) (hg:g < lo):PbOut w0 wE g lo n v w1:=by
 obtain⟨h1,h2⟩:=h
 rcases h1 with h1 | ⟨gm,c,b,cp,A,c1,Q,h1,h3⟩
 ·exact⟨.inl h1,h2.trans hS⟩
 ·exact⟨.inr ⟨gm,c,b,cp,A,c1,Q,h1,h3.mv hS hg⟩,h2.trans hS⟩
theorem Stp.drew {w0 w wE:World} {g:Nat} (h:Stp w0 wE g w):Stp w0 wE g w.drew:=h.trans (Stp.of_below h.src h.below (below_drew1 (Below.refl _ _)))
theorem Dm.below {w w':World} {lo gm n c:Nat} {b cp:Nat→Nat} (h:Dm w lo gm n c b cp) (hb:Below w.heap.size w w'):Dm w' lo gm n c b cp:=by
 have h0:=h.g0
 have hk:=KeepBut.of_below hb w.heap.size none
 refine⟨⟨h0.1,Nat.lt_of_lt_of_le h0.2 hk.1⟩,h.cap,fun j hj=>keep_cell hk (h.row j hj) (by show gm≠_;omega),fun j hj=>?_,fun j k hj hk'=>?_⟩
 ·have:=h.rr j hj
  exact⟨this.1,Nat.lt_of_lt_of_le this.2.1 hk.1,this.2.2⟩
 ·have hr:=h.rr j hj
  obtain⟨⟨x,hx⟩,hf⟩:=h.ints j k hj hk'
  exact⟨⟨x,keep_cell hk hx (by show b j≠_;omega)⟩,(keep_froz hk (by show b j < _;omega) (by show b j≠_;omega)).trans hf⟩
theorem PbD.below {lo n:Nat} {v:Value} {w w':World} (h:PbD lo n v w) (hb:Below w.heap.size w w'):PbD lo n v w':=by
 rcases h with h1 | ⟨gm,c,b,cp,A,c1,Q,h1,h2,h3,h4⟩
 ·exact .inl h1
 ·exact .inr ⟨gm,c,b,cp,A,c1,Q,h1,h2.below hb,Kd.R_below h3 hb,h4⟩
end Go.Proofs.Ytbjljcpngbhkeaa.Dr
end
section
namespace Go.Proofs.Ytbjljcpngbhkeaa.Dr
open Go.RowKit Go.Proofs.YtbjljcpngbhkeaaW.PrintWords Go.Proofs.YtbjljcpngbhkeaaW.PrintLast Go.Proofs.YtbjljcpngbhkeaaW.PrintMore Go.Proofs.Ytbjljcpngbhkeaa.Ma Go.Proofs.Ytbjljcpngbhkeaa.Pr Go.Proofs.Ytbjljcpngbhkeaa.Lq Go.Proofs.Ytbjljcpngbhkeaa.Al
theorem PbOut.begin_ {w0 wE w1 w:World} {g lo n:Nat} {v:Value} (h:PbOut w0 w1 g lo n v w) (hS:Stp w0 wE g w1):PbOut w0 wE g lo n v w:=⟨h.1,hS.trans h.2⟩
theorem draw4_c {w0 w:World} {g:Nat} (h:Srm w0 w g) (hB:Below w0.heap.size w0 w):Calls Try.prog 50 #[.pointer (some ⟨g,0,none⟩)] w fun e w'=> ∃n v,0 < n∧n≤5∧e= .returned v∧PbOut w0 w g w.heap.size n v w':=by
 have ST:=q_ (Stp.refl h hB);have HG:=q_ h.lt;have HE:=q_ hB.size;clear h hB
 go_enter Try.func50,Try.ntmps50
 go_wp2_with (first | ((with_reducible refine gate_dst (N:=2) rfl ?_);refine be_ 2 #[.slice none 0 0, .slice none 0 0] 27 ?_;intro g2 hg w2 hbox hb;have G2:=q_ (show w.heap.size≤g2 by rw [hg];exact Nat.le_refl _);have B2:=q_ hbox;replace ST:=q_ (ST.out.trans (Stp.of_below ST.out.src ST.out.below hb));clear hg hbox hb))
 have LB:=q_ (blk_lt B2.out);have LE:=q_ (ST.out.keep.1);refine(spoil_c ST.out.src ST.out.below).mono ?_
 rintro e w3 ⟨n,v,hn0,hn5,rfl,hO⟩;obtain⟨hO1,hS⟩:=hO;have HN:=q_ hn5;have HN0:=q_ hn0;replace B2:=q_ (hS.keep.blk B2.out (by have:=G2.out;have:=HG.out;omega) (by simp));have L23:=q_ hS.keep.1;replace ST:=q_ (ST.out.trans hS);clear hS hn0 hn5;rcases hO1 with rfl | ⟨gm,c,b,cp,A,c1,Q,rfl,hPb⟩
 ·skip
  go_wp2_with (first | ((with_reducible refine gate_dst (N:=3) rfl ?_);refine be_ 3 #[.slice none 0 0, .slice none 0 0] 27 ?_;intro g3 hg w4 hbox hb;have G3:=q_ (show w3.heap.size≤g3 by rw [hg];exact Nat.le_refl _);have B3:=q_ hbox;have HB4:=q_ hb;have hx0:=cz_ B3 0;have hx1:=cz_ B3 1;have fx0:=blk_frozen hbox 0;have fx1:=blk_frozen hbox 1;clear hg hbox hb) | ((with_reducible refine gate_store (t:=27) (p:=3) rfl ?_);refine store_event (t:=27) (p:=3) (v:=?vo3n) (w1:=(w4.setCell ⟨g3,0,none⟩ (.slice none 0 0)).setCell ⟨g3,1,none⟩ (.slice none 0 0)) ?hg ?ho ?hn ?hr ?_;(case ho=>rfl);(case hg=>rfl);(case hn=>rfl);(case hr=>first | (go_simp;done) | (go_simp;rfl));intro w5 hw;have hs_:Stp w0 w3 g w5:=Stp.of_below ST.out.src ST.out.below (by rw [hw];exact below_set (below_set HB4.out G3.out) G3.out);have E3:=q_ (show w2.heap.size≤g3∧g3≠g by have:=G3.out;have:=ST.out.src.lt;have:=L23.out;exact⟨by omega,by omega⟩);replace B2:=q_ (hs_.keep.blk B2.out (by have:=G2.out;have:=HG.out;omega) (by simp));replace B3:=q_ (show w5.heap[g3]?=some (.cells #[.slice none 0 0, .slice none 0 0] 27 (0,0)) by rw [hw];exact blk_put (blk_put B3.out 0 _ rfl) 1 _ rfl);replace ST:=q_ (ST.out.trans hs_);clear hs_ hw hx0 hx1 fx0 fx1 HB4;have hx0:=cz_ B3 0;have hx1:=cz_ B3 1))
  obtain⟨ki,hki⟩: ∃k,spec_l01Is.f k [] []=some false:=by
   classical
   obtain⟨k,hk⟩:=Pb.spec_is [] [] (by simp) false (by simp;intro h;have:=h.mat.n1;simp at this);exact⟨k,hk k (Nat.le_refl _)⟩
  refine(spec_l01Is.calls ki none 0 [] none 0 [] false _ (Kd.C_nil _ _) (Nat.le_refl _) (Kd.C_nil _ _) (Nat.le_refl _) hki).mono ?_
  rintro e w6 ⟨rfl,hb⟩;have hs_:=Stp.of_below ST.out.src ST.out.below hb;replace B2:=q_ (hs_.keep.blk B2.out (by have:=G2.out;have:=HG.out;omega) (by simp));replace B3:=q_ (hs_.keep.blk B3.out E3.out.2 (by simp));replace ST:=q_ (ST.out.trans hs_);clear hs_ hb hx0 hx1;have x0:=cz_ B2 0;have x1:=cz_ B2 1;have f0:=blk_frozen B2.out 0;have f1:=blk_frozen B2.out 1;have hx0:=cz_ B3 0;have hx1:=cz_ B3 1;go_wp2
  refine bodyPost_ret (results_cell_row rfl _ _ g2 27 #[.slice none 0 0, .slice none 0 0] (0,0) _ rfl (blk_put (blk_put B2.out 0 _ rfl) 1 _ rfl) Try.underlying27 rfl (by kernel_rfl)) rfl ?_
  have g2a:=G2.out;have hgg:=HG.out;have lb:=LB.out;have le:=LE.out;exact⟨n,_,HN0.out,HN.out,rfl,⟨.inl rfl,(ST.out.set HE.out g2 0 _ g2a (by omega)).set HE.out g2 1 _ g2a (by omega)⟩⟩
 ·have P:=q_ hPb;have FRB0:Aside0 (∀j,j < n→b j < w3.heap.size):=⟨fun j hj=>(hPb.dm.rr j hj).2.1⟩
  clear hPb
  go_wp2_with (first | ((with_reducible refine gate_dst (N:=3) rfl ?_);refine be_ 3 #[.slice none 0 0, .slice none 0 0] 27 ?_;intro g3 hg w4 hbox hb;have G3:=q_ (show w3.heap.size≤g3 by rw [hg];exact Nat.le_refl _);have B3:=q_ hbox;have HB4:=q_ hb;have hx0:=cz_ B3 0;have hx1:=cz_ B3 1;have fx0:=blk_frozen hbox 0;have fx1:=blk_frozen hbox 1;clear hg hbox hb) | ((with_reducible refine gate_store (t:=27) (p:=3) rfl ?_);refine store_event (t:=27) (p:=3) (v:=?vo3p) (w1:=(w4.setCell ⟨g3,0,none⟩ (.slice (some ⟨gm,0,none⟩) n c)).setCell ⟨g3,1,none⟩ (.slice A Q.length c1)) ?hg ?ho ?hn ?hr ?_;(case ho=>rfl);(case hg=>rfl);(case hn=>rfl);(case hr=>first | (go_simp;done) | (go_simp;rfl));intro w5 hw;have hs_:Stp w0 w3 g w5:=Stp.of_below ST.out.src ST.out.below (by rw [hw];exact below_set (below_set HB4.out G3.out) G3.out);have E3:=q_ (show w2.heap.size≤g3∧g3≠g by have:=G3.out;have:=ST.out.src.lt;have:=L23.out;exact⟨by omega,by omega⟩);replace B2:=q_ (hs_.keep.blk B2.out (by have:=G2.out;have:=HG.out;omega) (by simp));replace B3:=q_ (show w5.heap[g3]?=some (.cells #[.slice (some ⟨gm,0,none⟩) n c, .slice A Q.length c1] 27 (0,0)) by rw [hw];exact blk_put (blk_put B3.out 0 _ rfl) 1 _ rfl);replace P:=q_ (P.out.mv hs_ (Nat.lt_of_lt_of_le HG.out LE.out));replace ST:=q_ (ST.out.trans hs_);clear hs_ hw hx0 hx1 fx0 fx1 HB4;have hx0:=cz_ B3 0;have hx1:=cz_ B3 1))
  have FRB:Aside0 (∀j,j < n→b j≠g3):=⟨fun j hj=>by have:=FRB0.out j hj;have:=G3.out;omega⟩
  clear FRB0;obtain⟨M,hML,hMr,hMC⟩:=P.out.dm.C (by have:=HN.out;omega);obtain⟨hq1,hq2,hq3⟩:=Kd.R_reads' P.out.rq;obtain⟨bi,ki,hki,hbi⟩: ∃(bi:Bool) (k:Nat),spec_l01Is.f k M Q=some bi∧(bi=true→Q.length=n):=by
   classical
   obtain⟨k,hk⟩:=Pb.spec_is M Q (by have:=P.out.ql;have:=HN.out;omega) (decide (Pb.POK M Q)) (by simp);exact⟨_,k,hk k (Nat.le_refl _),fun h=>by have:=(of_decide_eq_true h).len;omega⟩
  have hcall:=spec_l01Is.calls ki (some ⟨gm,0,none⟩) c M A c1 Q bi _ hMC (by rw [hML];exact P.out.dm.cap) hq3 hq2 hki;rw [hML] at hcall;refine hcall.mono ?_
  clear hcall;rintro e w6 ⟨rfl,hb⟩;have hs_:=Stp.of_below ST.out.src ST.out.below hb;replace B2:=q_ (hs_.keep.blk B2.out (by have:=G2.out;have:=HG.out;omega) (by simp));replace B3:=q_ (hs_.keep.blk B3.out E3.out.2 (by simp));replace ST:=q_ (ST.out.trans hs_);replace P:=q_ (P.out.mv hs_ (Nat.lt_of_lt_of_le HG.out LE.out));have HBI:=q_ hbi;clear hs_ hb hx0 hx1 hbi hki hMC hML hMr hq1 hq2 hq3;cases bi with
  | false=>
   have x0:=cz_ B2 0;have x1:=cz_ B2 1;have f0:=blk_frozen B2.out 0;have f1:=blk_frozen B2.out 1;have hx0:=cz_ B3 0;have hx1:=cz_ B3 1;go_wp2
   refine bodyPost_ret (results_cell_row rfl _ _ g2 27 #[.slice (some ⟨gm,0,none⟩) n c, .slice A Q.length c1] (0,0) _ rfl (blk_put (blk_put B2.out 0 _ rfl) 1 _ rfl) Try.underlying27 rfl (by kernel_rfl)) rfl ?_
   have g2a:=G2.out;have hgg:=HG.out;have lb:=LB.out;have le:=LE.out;exact⟨n,_,HN0.out,HN.out,rfl,⟨.inr ⟨gm,c,b,cp,A,c1,Q,rfl,((P.out.far lb 0 _).far lb 1 _).down le⟩,(ST.out.set HE.out g2 0 _ g2a (by omega)).set HE.out g2 1 _ g2a (by omega)⟩⟩
  | true=>
   have hqn:=HBI.out rfl;subst hqn;clear HBI
   go_wp2_with fail
   refine(next_c ST.out.src ST.out.below 2).mono ?_
   rintro e w7 ⟨y,rfl,_,hS⟩;replace B2:=q_ (hS.keep.blk B2.out (by have:=G2.out;have:=HG.out;omega) (by simp));replace B3:=q_ (hS.keep.blk B3.out E3.out.2 (by simp));replace ST:=q_ (ST.out.trans hS);replace P:=q_ (P.out.mv hS (Nat.lt_of_lt_of_le HG.out LE.out));clear hS
   by_cases y0:y=0
   ·have y0b:(y==0)=true:=by simpa using y0
    clear y0;have x0:=cz_ B2 0;have x1:=cz_ B2 1;have f0:=blk_frozen B2.out 0;have f1:=blk_frozen B2.out 1;have hx0:=cz_ B3 0;have hx1:=cz_ B3 1;go_wp2
    refine bodyPost_ret (results_cell_row rfl _ _ g2 27 #[.slice (some ⟨gm,0,none⟩) Q.length c, .slice A Q.length c1] (0,0) _ rfl (blk_put (blk_put B2.out 0 _ rfl) 1 _ rfl) Try.underlying27 rfl (by kernel_rfl)) rfl ?_
    have g2a:=G2.out;have hgg:=HG.out;have lb:=LB.out;have le:=LE.out;exact⟨Q.length,_,HN0.out,HN.out,rfl,⟨.inr ⟨gm,c,b,cp,A,c1,Q,rfl,((P.out.far lb 0 _).far lb 1 _).down le⟩,(ST.out.set HE.out g2 0 _ g2a (by omega)).set HE.out g2 1 _ g2a (by omega)⟩⟩
   ·have y0b:(y==0)=false:=by simpa using y0
    clear y0;have N23:Aside0 (∀j,j < Q.length→g3≠b j∧g2≠b j):=⟨fun j hj=>⟨fun q=>FRB.out j hj q.symm,fun q=>by have:=(P.out.dm.rr j hj).1;have:=LB.out;omega⟩⟩
    have hx0:=cz_ B3 0;have hx1:=cz_ B3 1;go_wp2
    clear hx0 hx1 y0b
    go_loopg [5,6,7] Q.length (fun gg v5 v6 v7 wr=> ∃i:Nat,i≤Q.length∧Q.length - i≤gg∧v5= .int .i64 (i:Int)∧Aside0 (Stp w0 w g wr)∧Aside0 (wr.heap[g2]?=some (.cells #[.slice none 0 0, .slice none 0 0] 27 (0,0)))∧Aside0 (wr.heap[g3]?=some (.cells #[.slice (some ⟨gm,0,none⟩) Q.length c, .slice A Q.length c1] 27 (0,0)))∧Aside0 (Pb wr g w2.heap.size Q.length gm c b cp A c1 Q))
    case atStart=>exact⟨0,Nat.zero_le _,by omega,rfl,ST,B2,B3,P⟩
    case round=>
     clear ST B2 B3 P;obtain⟨i,hi',hg,rfl,ST,B2,B3,P⟩:=hrel;have HGG:=q_ hg;have hx0:=cz_ B3 0;have hx1:=cz_ B3 1
     by_cases hlt:i < Q.length
     ·have hltz:(i:Int) < (Q.length:Int):=by omega
      have h0z:(0:Int)≤(i:Int):=by omega
      have hwi:IntKind.i64.wrap ((i:Int)+1)=((i+1:Nat):Int):=by rw [IntWalk.i64_in _ (by have:=HN.out;omega)];rfl
      have HWI:=q_ hwi;have HLT:=q_ hlt;have hrow:=P.out.dm.row i hlt;clear hi' hg hlt hwi;go_wp2
      clear hrow hx0 hx1
      go_loopg [7] Q.length (fun gg v7 wr=> ∃k:Nat,k≤Q.length∧Q.length - k≤gg∧v7= .int .i64 (k:Int)∧Aside0 (Stp w0 w g wr)∧Aside0 (wr.heap[g2]?=some (.cells #[.slice none 0 0, .slice none 0 0] 27 (0,0)))∧Aside0 (wr.heap[g3]?=some (.cells #[.slice (some ⟨gm,0,none⟩) Q.length c, .slice A Q.length c1] 27 (0,0)))∧Aside0 (Pb wr g w2.heap.size Q.length gm c b cp A c1 Q))
      case atStart=>exact⟨0,Nat.zero_le _,by omega,rfl,ST,B2,B3,P⟩
      case round=>
       clear ST B2 B3 P;obtain⟨k,hk',hg2,rfl,ST,B2,B3,P⟩:=hrel;have HG2:=q_ hg2
       by_cases hkn:k < Q.length
       ·have hknz:(k:Int) < (Q.length:Int):=by omega
        have h0k:(0:Int)≤(k:Int):=by omega
        have hwk:IntKind.i64.wrap ((k:Int)+1)=((k+1:Nat):Int):=by rw [IntWalk.i64_in _ (by have:=HN.out;omega)];rfl
        have HWK:=q_ hwk;have HKN:=q_ hkn;clear hk' hg2 hkn hwk
        by_cases eik:i=k
        ·have ck:((i:Int)==(k:Int))=true:=by simp [eik]
         clear eik
         go_wp2_with (first | ((with_reducible refine gate_dst (N:=49) rfl ?_);refine Kd.R_lit (Kd.int .i64) _ 2 ?hg (N:=49) ?hd (xs:=([1,1, -1]:List Int)) (inner:= [.int .i64 1, .int .i64 1, .int .i64 (-1)]) (ok:=fun _=>True) (okp:=fun _=>True) ?hr ?hp (fun _ hk=>hk) trivial (Below.refl _ _) (Nat.le_refl _) (by simp) ?_;(case hd=>rfl);(case hg=>rfl);(case hr=>first | (go_simp;done) | (go_simp;rfl));(case hp=>exact lit_reps [1,1, -1]);intro v49 w10 ho hb hg_ hnew_;obtain⟨g49,c49,rfl,hb49,hl49,_⟩:=Kd.R_form ho (by simp);have G49:=q_ (Nat.lt_of_lt_of_le ST.out.src.lt hb49);have hs_:=Stp.of_below ST.out.src ST.out.below hb;replace B2:=q_ (hs_.keep.blk B2.out (by have:=G2.out;have:=HG.out;omega) (by simp));replace B3:=q_ (hs_.keep.blk B3.out E3.out.2 (by simp));replace P:=q_ (P.out.mv hs_ (Nat.lt_of_lt_of_le HG.out LE.out));replace ST:=q_ (ST.out.trans hs_);have R49:=q_ ho;clear hs_ hb49 hl49 hg_ hnew_ ho hb))
         refine(pick_c ST.out.src ST.out.below _ c49 [1,1, -1] (Kd.R_reads' R49.out).2.2 (Kd.R_reads' R49.out).2.1 (fun ad e _=>by injection e with e;subst e;show g49≠g;have:=G49.out;omega) (by decide)).mono ?_
         rintro e w11 ⟨x,rfl,_,hS⟩;replace B2:=q_ (hS.keep.blk B2.out (by have:=G2.out;have:=HG.out;omega) (by simp));replace B3:=q_ (hS.keep.blk B3.out E3.out.2 (by simp));replace P:=q_ (P.out.mv hS (Nat.lt_of_lt_of_le HG.out LE.out));replace ST:=q_ (ST.out.trans hS);clear hS R49 G49;obtain⟨⟨z,hz⟩,fz⟩:=P.out.dm.ints i k HLT.out HKN.out;go_wp2
         go_roundg (Q.length - (k+1))
         case measure=>have:=HG2.out;have:=HKN.out;omega
         case rel=>
          have hr:=P.out.dm.rr i HLT.out;have hE:=HE.out;have le:=LE.out;have hgg:=HG.out;have n23:=N23.out i HLT.out;exact⟨k+1,HKN.out,by omega,by first | rfl | (have h_:=HWK.out;rw [i64_w] at h_;rw [h_]) | (rw [HWK.out]),⟨ST.out.set HE.out (b i) k _ (by omega) (by omega)⟩,⟨(Below.heap_setCell _ ⟨b i,k,none⟩ _ g2 n23.2).trans B2.out⟩,⟨(Below.heap_setCell _ ⟨b i,k,none⟩ _ g3 n23.1).trans B3.out⟩,⟨⟨P.out.dm.put HLT.out HKN.out _,Kd.R_far P.out.rq (p:=⟨b i,k,none⟩) (fun q hq=>hq.2.2 i HLT.out) _,P.out.ql⟩⟩⟩
        ·have ck:((i:Int)==(k:Int))=false:=by simpa using (show ¬ (i:Int)=(k:Int) by omega)
         by_cases lki:k < i
         ·have ck2:decide ((k:Int) < (i:Int))=true:=decide_eq_true (by omega);have ck3:k < i:=lki;obtain⟨⟨z,hz⟩,fz⟩:=P.out.dm.ints i k HLT.out HKN.out;go_wp2
          go_roundg (Q.length - (k+1))
          case measure=>have:=HG2.out;have:=HKN.out;omega
          case rel=>
           have hr:=P.out.dm.rr i HLT.out;have hE:=HE.out;have le:=LE.out;have hgg:=HG.out;have n23:=N23.out i HLT.out;exact⟨k+1,HKN.out,by omega,by first | rfl | (have h_:=HWK.out;rw [i64_w] at h_;rw [h_]) | (rw [HWK.out]),⟨ST.out.set HE.out (b i) k _ (by omega) (by omega)⟩,⟨(Below.heap_setCell _ ⟨b i,k,none⟩ _ g2 n23.2).trans B2.out⟩,⟨(Below.heap_setCell _ ⟨b i,k,none⟩ _ g3 n23.1).trans B3.out⟩,⟨⟨P.out.dm.put HLT.out HKN.out _,Kd.R_far P.out.rq (p:=⟨b i,k,none⟩) (fun q hq=>hq.2.2 i HLT.out) _,P.out.ql⟩⟩⟩
         ·have ck2:decide ((k:Int) < (i:Int))=false:=decide_eq_false (by omega);have ck3: ¬ k < i:=lki
          go_wp2_with fail
          refine(part_c ST.out.src ST.out.below 2).mono ?_
          rintro e w11 ⟨x,rfl,hS⟩;replace B2:=q_ (hS.keep.blk B2.out (by have:=G2.out;have:=HG.out;omega) (by simp));replace B3:=q_ (hS.keep.blk B3.out E3.out.2 (by simp));replace P:=q_ (P.out.mv hS (Nat.lt_of_lt_of_le HG.out LE.out));replace ST:=q_ (ST.out.trans hS);clear hS;obtain⟨⟨z,hz⟩,fz⟩:=P.out.dm.ints i k HLT.out HKN.out;go_wp2
          go_roundg (Q.length - (k+1))
          case measure=>have:=HG2.out;have:=HKN.out;omega
          case rel=>
           have hr:=P.out.dm.rr i HLT.out;have hE:=HE.out;have le:=LE.out;have hgg:=HG.out;have n23:=N23.out i HLT.out;exact⟨k+1,HKN.out,by omega,by first | rfl | (have h_:=HWK.out;rw [i64_w] at h_;rw [h_]) | (rw [HWK.out]),⟨ST.out.set HE.out (b i) k _ (by omega) (by omega)⟩,⟨(Below.heap_setCell _ ⟨b i,k,none⟩ _ g2 n23.2).trans B2.out⟩,⟨(Below.heap_setCell _ ⟨b i,k,none⟩ _ g3 n23.1).trans B3.out⟩,⟨⟨P.out.dm.put HLT.out HKN.out _,Kd.R_far P.out.rq (p:=⟨b i,k,none⟩) (fun q hq=>hq.2.2 i HLT.out) _,P.out.ql⟩⟩⟩
       ·have hknz: ¬ (k:Int) < (Q.length:Int):=by omega
        clear hk' hg2 hkn;go_wp2
        go_roundg (Q.length - (i+1))
        case measure=>have:=HGG.out;have:=HLT.out;omega
        case rel=>exact⟨i+1,HLT.out,by omega,by first | rfl | (have h_:=HWI.out;rw [i64_w] at h_;rw [h_]) | (rw [HWI.out]),ST,B2,B3,P⟩
     ·have hltz: ¬ (i:Int) < (Q.length:Int):=by omega
      clear hi' hg hlt hx0 hx1;have x0:=cz_ B2 0;have x1:=cz_ B2 1;have f0:=blk_frozen B2.out 0;have f1:=blk_frozen B2.out 1;have hx0:=cz_ B3 0;have hx1:=cz_ B3 1;go_wp2
      refine bodyPost_ret (results_cell_row rfl _ _ g2 27 #[.slice (some ⟨gm,0,none⟩) Q.length c, .slice A Q.length c1] (0,0) _ rfl (blk_put (blk_put B2.out 0 _ rfl) 1 _ rfl) Try.underlying27 rfl (by kernel_rfl)) rfl ?_
      have g2a:=G2.out;have hgg:=HG.out;have lb:=LB.out;have le:=LE.out;exact⟨Q.length,HN0.out,HN.out,_,rfl,⟨.inr ⟨gm,c,b,cp,A,c1,Q,rfl,((P.out.far lb 0 _).far lb 1 _).down le⟩,(ST.out.set HE.out g2 0 _ g2a (by omega)).set HE.out g2 1 _ g2a (by omega)⟩⟩
theorem with4_c {w:World} {A0:Option Addr} {c0:Nat} {l0:List Int} (hr0:Kd.C (Kd.int .u8) w A0 l0.length l0) (hc0:l0.length≤c0) (hb: ∀i:Nat,0≤l0.getD i 0∧l0.getD i 0≤255) (hl:l0.length≤4096):Calls Try.prog 36 #[.slice A0 l0.length c0] w fun e w'=> ∃n v k,e= .returned (.tuple #[v, .int .i64 k])∧n≤5∧PbD w.heap.size n v w'∧0≤k∧k≤33∧Below w.heap.size w w':=by
 obtain⟨⟨rb,ra,rh⟩,⟨kk,hf⟩,hrb,hs⟩:=from_ex hb hl
 change rb=l0 at hrb
 subst hrb;have HF:=q_ (hf kk (Nat.le_refl _));have HS:=q_ hs;have HR:=q_ hr0;have HC:=q_ hc0;have HB:=q_ (Below.refl w.heap.size w);clear hf hs hr0 hc0 hb hl
 go_enter Try.func36,Try.ntmps36
 go_wp2_with (first | ((with_reducible refine gate_dst (N:=2) rfl ?_);refine be_ 2 #[.slice none 0 0, .slice none 0 0] 27 ?_;intro g2 hg w2 hbox hb;have G2:=q_ (show w.heap.size≤g2 by rw [hg];exact Nat.le_refl _);have B2:=q_ hbox;replace HB:=q_ (HB.out.trans hb);clear hg hbox hb))
 refine(spec_l01From.calls kk A0 c0 _ _ _ _ w _ HB.out HR.out HC.out HF.out).mono ?_
 rintro e w3 ⟨g,rfl,hi,hb,hb2⟩;have NE:=q_ (Ne.symm (IsS89.ne_blk hi (bb_ B2.out hb2) (by decide)));replace B2:=q_ (bb_ B2.out hb2);have SD:=q_ (Stp.refl (show Srm w w3 g from ⟨_,_,_,hi,HS.out⟩) hb);have GD:=q_ SD.out.src.lt;have ED:=q_ hb.size;have LO:=q_ (blk_lt B2.out);clear hi hb hb2 HB
 go_wp2_with fail
 refine(draw4_c SD.out.src SD.out.below).mono ?_
 rintro e w4 ⟨n,v,hn0,hn5,rfl,hO⟩;obtain⟨pA,pB,pa,pb,pc,pd,rfl⟩:=hO.two;have PO:=q_ (PbOut.begin_ hO SD.out);replace B2:=q_ (hO.2.keep.blk B2.out NE.out (by simp));replace SD:=q_ PO.out.2;have HN:=q_ hn5;have L4:=q_ SD.out.keep.1;have LC:Aside0 (pc≤6):=⟨by
  rcases hO.1 with h1 | ⟨gm,c,b,cp,A,c1,Q,h1,h3⟩
  ·injection h1 with h1;injection h1 with h1;injection h1 with h1 h2;injection h2 with h2 _;injection h2 with e4 e5 e6;omega
  ·injection h1 with h1;injection h1 with h1;injection h1 with h1 h2;injection h2 with h2 _;injection h2 with e4 e5 e6;have:=h3.ql;omega⟩
 clear hO hn0 hn5
 go_wp2_with (first | ((with_reducible refine gate_dst (N:=5) rfl ?_);refine be_ 5 #[.slice none 0 0, .slice none 0 0] 27 ?_;intro g5 hg w6 hbox hb;have B5:=q_ hbox;have G5:=q_ (show w4.heap.size≤g5 by rw [hg];exact Nat.le_refl _);have HB5:=q_ hb;have hx0:=cz_ B5 0;have hx1:=cz_ B5 1;have fx0:=blk_frozen hbox 0;have fx1:=blk_frozen hbox 1;clear hg hbox hb) | ((with_reducible refine gate_store (t:=27) (p:=5) rfl ?_);refine store_event (t:=27) (p:=5) (v:=?vo5) (w1:=(w6.setCell ⟨g5,0,none⟩ (.slice pA pa pb)).setCell ⟨g5,1,none⟩ (.slice pB pc pd)) ?hg ?ho ?hn ?hr ?_;(case ho=>rfl);(case hg=>rfl);(case hn=>rfl);(case hr=>first | (go_simp;done) | (go_simp;rfl));intro w7 hw;have hs_:Stp w w4 g w7:=Stp.of_below SD.out.src SD.out.below (by rw [hw];exact below_set (below_set HB5.out G5.out) G5.out);have N5:=q_ (show g5≠g by have:=G5.out;have:=SD.out.src.lt;omega);have N52:=q_ (show g5≠g2 by have:=G5.out;have:=LO.out;have:=L4.out;omega);replace B2:=q_ (hs_.keep.blk B2.out NE.out (by simp));replace B5:=q_ (show w7.heap[g5]?=some (.cells #[.slice pA pa pb, .slice pB pc pd] 27 (0,0)) by rw [hw];exact blk_put (blk_put B5.out 0 _ rfl) 1 _ rfl);replace PO:=q_ (PO.out.mv hs_ GD.out);replace SD:=q_ (SD.out.trans hs_);clear hs_ hw hx0 hx1 fx0 fx1 HB5))
 have hs_:=Stp.drew (Stp.refl SD.out.src SD.out.below);replace PO:=q_ (PO.out.mv hs_ GD.out);replace SD:=q_ (SD.out.trans hs_);replace B2:=q_ (hs_.keep.blk B2.out NE.out (by simp));replace B5:=q_ (hs_.keep.blk B5.out N5.out (by simp));clear hs_;refine st_ (n:=15) (S:=fun w'=>w'.cell? ⟨g5,0,none⟩=some (.slice pA pa pb)∧w'.cell? ⟨g5,1,none⟩=some (.slice pB pc pd)) (ds:= []) ⟨(blk_cell B5.out 0).trans rfl,(blk_cell B5.out 1).trans rfl⟩ (fun hHeld=>?_)
 generalize w7.drew=w8 at B2 B5 PO SD hHeld ⊢
 refine pu_ 1 11 ?_;refine pu_ 2 12 ?_;refine pu_ 8 18 ?_;refine tk_ 0 10 ?_;refine tk_ 3 13 ?_;refine pu_ 4 14 ?_;refine pu_ 5 15 ?_;refine pu_ 6 16 ?_;refine pu_ 7 17 ?_
 obtain⟨x,hx,hx1,hx2⟩: ∃x:Int,wrap64 (2 ^ min (IntKind.u64.wrap (if 5 < (pc:Int) then 5 else(pc:Int))).toNat 64)=x∧1≤x∧x≤32:=⟨_,rfl,by
  have h6:=LC.out;have hq:pc=0∨pc=1∨pc=2∨pc=3∨pc=4∨pc=5∨pc=6:=by omega
  rcases hq with rfl | rfl | rfl | rfl | rfl | rfl | rfl <;> decide+kernel⟩
 rw [hx];have HX:=q_ (And.intro hx1 hx2);clear hx hx1 hx2
 generalize (if 5 < (pc:Int) then 5 else(pc:Int))=mn_
 refine on_ 9 (some 19) (fun K hK=>?_)
 refine ca_ Try.func37 #[.pointer (some ⟨g,0,none⟩), .int .i64 24] ?_
 refine(next_c SD.out.src SD.out.below 24).mono ?_
 rintro e w9 ⟨y,rfl,hy,hS⟩;refine⟨_,rfl,?_⟩
 have HY:=q_ (hy (by decide));clear hy;replace PO:=q_ (PO.out.mv hS GD.out);replace SD:=q_ (SD.out.trans hS);replace B2:=q_ (hS.keep.blk B2.out NE.out (by simp));replace B5:=q_ (hS.keep.blk B5.out N5.out (by simp));clear hS hHeld;refine hK.out _ _ ⟨(blk_cell B5.out 0).trans rfl,(blk_cell B5.out 1).trans rfl⟩ (fun hHeld=>?_)
 clear hK K;refine no_ ?_
 refine pu_ 10 20 ?_;refine pu_ 11 21 ?_
 obtain⟨z,hz,hz1,hz2⟩: ∃z:Int,wrap64 (x+wrap64 (Int.tdiv y 23))=z∧1≤z∧z≤33:=by
  have h1:=HX.out;have h2:=HY.out;have h3:0≤Int.tdiv y 23:=Int.tdiv_nonneg h2.1 (by decide);have h4:Int.tdiv y 23≤1:=by rw [Int.tdiv_eq_ediv_of_nonneg h2.1];omega
  have h5:wrap64 (Int.tdiv y 23)=Int.tdiv y 23:=w64 (by omega) (by omega);exact⟨_,rfl,by rw [h5,w64 (by omega) (by omega)];omega,by rw [h5,w64 (by omega) (by omega)];omega⟩
 rw [hz];have HZ:=q_ (And.intro hz1 hz2);clear hz hz1 hz2 HX HY;refine on_ 12 (some 22) (fun K hK=>?_)
 refine ca_ Try.func37 #[.pointer (some ⟨g,0,none⟩), .int .i64 z] ?_
 refine(next_c SD.out.src SD.out.below z).mono ?_
 rintro e w10 ⟨kz,rfl,hk,hS⟩;refine⟨_,rfl,?_⟩
 have HKZ:Aside0 (0≤kz∧kz≤33):=⟨by have h1:=HZ.out;have h2:=hk h1.1;omega⟩;clear hk HZ;replace PO:=q_ (PO.out.mv hS GD.out);replace SD:=q_ (SD.out.trans hS);replace B2:=q_ (hS.keep.blk B2.out NE.out (by simp));replace B5:=q_ (hS.keep.blk B5.out N5.out (by simp));clear hS hHeld;refine hK.out _ _ ⟨(blk_cell B5.out 0).trans rfl,(blk_cell B5.out 1).trans rfl⟩ (fun hHeld=>?_)
 clear hK K;refine no_ ?_
 refine on_ 13 none (fun K hK=>?_)
 have y0:=cz_ B2 0;have y1:=cz_ B2 1;have k0:=blk_frozen B2.out 0;have k1:=blk_frozen B2.out 1;refine skip_ (w1:=(w10.setCell ⟨g2,0,none⟩ (.slice pA pa pb)).setCell ⟨g2,1,none⟩ (.slice pB pc pd)) (by rfl) rfl ?_ ?_
 ·first | (go_simp;done) | (go_simp;rfl)
 clear k0 k1 y0 y1;refine hK.out _ _ ⟨(cell_far (p:=⟨g2,_,none⟩) N52.out _).trans ((cell_far (p:=⟨g2,_,none⟩) N52.out _).trans hHeld.1),(cell_far (p:=⟨g2,_,none⟩) N52.out _).trans ((cell_far (p:=⟨g2,_,none⟩) N52.out _).trans hHeld.2)⟩ (fun hHeld=>?_)
 clear hK K;refine pu_ 14 3 ?_
 refine done_ (by kernel_rfl) ?_
 try go_wp2
 refine bodyPost_ret (results_ct rfl _ _ g2 27 #[.slice pA pa pb, .slice pB pc pd] (0,0) _ rfl (blk_put (blk_put B2.out 0 _ rfl) 1 _ rfl) Try.underlying27 rfl (by kernel_rfl)) rfl ?_
 have lo:=LO.out;have g2a:=G2.out;exact⟨n,_,kz,rfl,HN.out,((PO.out.d.far lo 0 (.slice pA pa pb)).far lo 1 (.slice pB pc pd)).down ED.out,HKZ.out.1,HKZ.out.2,below_set (below_set SD.out.below g2a) g2a⟩
end Go.Proofs.Ytbjljcpngbhkeaa.Dr
end
section
namespace Go.Proofs.Ytbjljcpngbhkeaa.Dr
open Go.RowKit Go.Proofs.YtbjljcpngbhkeaaW.PrintWords Go.Proofs.YtbjljcpngbhkeaaW.PrintLast Go.Proofs.YtbjljcpngbhkeaaW.PrintMore Go.Proofs.Ytbjljcpngbhkeaa.Ma Go.Proofs.Ytbjljcpngbhkeaa.Pr Go.Proofs.Ytbjljcpngbhkeaa.Lq Go.Proofs.Ytbjljcpngbhkeaa.Al
theorem dpo_c {w:World} {A0:Option Addr} {c0:Nat} {l0:List Int} (hr0:Kd.C (Kd.int .u8) w A0 l0.length l0) (hc0:l0.length≤c0) (hb: ∀i:Nat,0≤l0.getD i 0∧l0.getD i 0≤255) (hl:l0.length≤4096):Calls Try.prog 21 #[.slice A0 l0.length c0] w fun e w'=> ∃v M Q k,e= .returned (.tuple #[v, .int .i64 k])∧Rd w' v M Q∧M.length≤5∧Q.length≤6∧0≤k∧k≤33∧Below w.heap.size w w':=by
 have HR:=q_ hr0;have HC:=q_ hc0;have HB0:=q_ hb;have HL0:=q_ hl;have HB:=q_ (Below.refl w.heap.size w);clear hr0 hc0 hb hl
 go_enter Try.func21,Try.ntmps21
 go_wp2_with (first | ((with_reducible refine gate_dst (N:=2) rfl ?_);refine be_ 2 #[.slice none 0 0, .slice none 0 0] 27 ?_;intro g2 hg w2 hbox hb;have G2:=q_ (show w.heap.size≤g2 by rw [hg];exact Nat.le_refl _);have B2:=q_ hbox;replace HB:=q_ (HB.out.trans hb);replace HR:=q_ (Kd.C_below HR.out hb);clear hg hbox hb))
 refine(with4_c HR.out HC.out HB0.out HL0.out).mono ?_
 rintro e w3 ⟨n,v,k,rfl,hn,hP,hk0,hk1,hb⟩;have LO:=q_ (blk_lt B2.out);replace B2:=q_ (bb_ B2.out hb);replace HB:=q_ (below_then HB.out HB.out.size hb);obtain⟨pA,pB,pa,pb,pc,pd,rfl⟩:=hP.pair;have PD:=q_ hP;have HN:=q_ hn;have HK:=q_ (And.intro hk0 hk1);have L3:=q_ hb.size;replace HR:=q_ (Kd.C_below HR.out hb);clear hP hn hk0 hk1 hb HR;have y0:=cz_ B2 0;have y1:=cz_ B2 1;have k0:=blk_frozen B2.out 0;have k1:=blk_frozen B2.out 1
 go_wp2_with (first | ((with_reducible refine gate_store (t:=27) (p:=2) rfl ?_);refine store_event (t:=27) (p:=2) (v:=?vo2) (w1:=(w3.setCell ⟨g2,0,none⟩ (.slice pA pa pb)).setCell ⟨g2,1,none⟩ (.slice pB pc pd)) ?hg ?ho ?hn ?hr ?_;(case ho=>rfl);(case hg=>rfl);(case hn=>rfl);(case hr=>first | (go_simp;done) | (go_simp;rfl));intro w4 hw;subst hw;clear k0 k1 y0 y1))
 refine bodyPost_ret (results_ct rfl _ _ g2 27 #[.slice pA pa pb, .slice pB pc pd] (0,0) _ rfl (blk_put (blk_put B2.out 0 _ rfl) 1 _ rfl) Try.underlying27 rfl (by kernel_rfl)) rfl ?_
 have lo:=LO.out;have g2a:=G2.out;obtain⟨M,Q,m1,m2,m3⟩:=((PD.out.far lo 0 (.slice pA pa pb)).far lo 1 (.slice pB pc pd)).rd HN.out;exact⟨_,M,Q,k,rfl,m1,m2,m3,HK.out.1,HK.out.2,below_set (below_set HB.out g2a) g2a⟩
theorem dpp_c {w:World} {A0:Option Addr} {c0:Nat} {l0:List Int} (hr0:Kd.C (Kd.int .u8) w A0 l0.length l0) (hc0:l0.length≤c0) (hb: ∀i:Nat,0≤l0.getD i 0∧l0.getD i 0≤255) (hl:l0.length≤4096):Calls Try.prog 25 #[.slice A0 l0.length c0] w fun e w'=> ∃v M Q k,e= .returned (.tuple #[v, .int .i64 k])∧Rd w' v M Q∧M.length≤5∧Q.length≤6∧0≤k∧k≤33∧Below w.heap.size w w':=by
 have HR:=q_ hr0;have HC:=q_ hc0;have HB0:=q_ hb;have HL0:=q_ hl;have HB:=q_ (Below.refl w.heap.size w);clear hr0 hc0 hb hl
 go_enter Try.func25,Try.ntmps25
 go_wp2_with (first | ((with_reducible refine gate_dst (N:=2) rfl ?_);refine be_ 2 #[.slice none 0 0, .slice none 0 0] 27 ?_;intro g2 hg w2 hbox hb;have G2:=q_ (show w.heap.size≤g2 by rw [hg];exact Nat.le_refl _);have B2:=q_ hbox;replace HB:=q_ (HB.out.trans hb);replace HR:=q_ (Kd.C_below HR.out hb);clear hg hbox hb))
 refine(with4_c HR.out HC.out HB0.out HL0.out).mono ?_
 rintro e w3 ⟨n,v,k,rfl,hn,hP,hk0,hk1,hb⟩;have LO:=q_ (blk_lt B2.out);replace B2:=q_ (bb_ B2.out hb);replace HB:=q_ (below_then HB.out HB.out.size hb);obtain⟨pA,pB,pa,pb,pc,pd,rfl⟩:=hP.pair;have PD:=q_ hP;have HN:=q_ hn;have HK:=q_ (And.intro hk0 hk1);have L3:=q_ hb.size;replace HR:=q_ (Kd.C_below HR.out hb);clear hP hn hk0 hk1 hb HR;have y0:=cz_ B2 0;have y1:=cz_ B2 1;have k0:=blk_frozen B2.out 0;have k1:=blk_frozen B2.out 1
 go_wp2_with (first | ((with_reducible refine gate_store (t:=27) (p:=2) rfl ?_);refine store_event (t:=27) (p:=2) (v:=?vo2) (w1:=(w3.setCell ⟨g2,0,none⟩ (.slice pA pa pb)).setCell ⟨g2,1,none⟩ (.slice pB pc pd)) ?hg ?ho ?hn ?hr ?_;(case ho=>rfl);(case hg=>rfl);(case hn=>rfl);(case hr=>first | (go_simp;done) | (go_simp;rfl));intro w4 hw;subst hw;clear k0 k1 y0 y1))
 refine bodyPost_ret (results_ct rfl _ _ g2 27 #[.slice pA pa pb, .slice pB pc pd] (0,0) _ rfl (blk_put (blk_put B2.out 0 _ rfl) 1 _ rfl) Try.underlying27 rfl (by kernel_rfl)) rfl ?_
 have lo:=LO.out;have g2a:=G2.out;obtain⟨M,Q,m1,m2,m3⟩:=((PD.out.far lo 0 (.slice pA pa pb)).far lo 1 (.slice pB pc pd)).rd HN.out;exact⟨_,M,Q,k,rfl,m1,m2,m3,HK.out.1,HK.out.2,below_set (below_set HB.out g2a) g2a⟩
theorem dio_c {w:World} {A0:Option Addr} {c0:Nat} {l0:List Int} (hr0:Kd.C (Kd.int .u8) w A0 l0.length l0) (hc0:l0.length≤c0) (hb: ∀i:Nat,0≤l0.getD i 0∧l0.getD i 0≤255) (hl:l0.length≤4096):Calls Try.prog 30 #[.slice A0 l0.length c0] w fun e w'=> ∃v M Q,e= .returned v∧Rd w' v M Q∧M.length≤5∧Q.length≤6∧Below w.heap.size w w':=by
 obtain⟨⟨rb,ra,rh⟩,⟨kk,hf⟩,hrb,hs⟩:=from_ex hb hl
 change rb=l0 at hrb
 subst hrb;have HF:=q_ (hf kk (Nat.le_refl _));have HS:=q_ hs;have HR:=q_ hr0;have HC:=q_ hc0;have HB:=q_ (Below.refl w.heap.size w);clear hf hs hr0 hc0 hb hl
 go_enter Try.func30,Try.ntmps30
 go_wp2_with (first | ((with_reducible refine gate_dst (N:=2) rfl ?_);refine be_ 2 #[.slice none 0 0, .slice none 0 0] 27 ?_;intro g2 hg w2 hbox hb;have G2:=q_ (show w.heap.size≤g2 by rw [hg];exact Nat.le_refl _);have B2:=q_ hbox;replace HB:=q_ (HB.out.trans hb);clear hg hbox hb))
 refine(spec_l01From.calls kk A0 c0 _ _ _ _ w _ HB.out HR.out HC.out HF.out).mono ?_
 rintro e w3 ⟨g,rfl,hi,hb,hb2⟩;have NE:=q_ (Ne.symm (IsS89.ne_blk hi (bb_ B2.out hb2) (by decide)));replace B2:=q_ (bb_ B2.out hb2);have SD:=q_ (Stp.refl (show Srm w w3 g from ⟨_,_,_,hi,HS.out⟩) hb);have GD:=q_ SD.out.src.lt;have ED:=q_ hb.size;have LO:=q_ (blk_lt B2.out);clear hi hb hb2 HB
 go_wp2_with fail
 refine(draw4_c SD.out.src SD.out.below).mono ?_
 rintro e w4 ⟨n,v,hn0,hn5,rfl,hO⟩;obtain⟨pA,pB,pa,pb,pc,pd,rfl⟩:=hO.two;have PO:=q_ (PbOut.begin_ hO SD.out);replace B2:=q_ (hO.2.keep.blk B2.out NE.out (by simp));have HN:=q_ hn5;clear hO hn0 hn5 SD;have y0:=cz_ B2 0;have y1:=cz_ B2 1;have k0:=blk_frozen B2.out 0;have k1:=blk_frozen B2.out 1;go_wp2
 clear y0 y1 k0 k1;refine bodyPost_ret (results_cell_row rfl _ _ g2 27 #[.slice pA pa pb, .slice pB pc pd] (0,0) _ rfl (blk_put (blk_put B2.out 0 _ rfl) 1 _ rfl) Try.underlying27 rfl (by kernel_rfl)) rfl ?_
 have lo:=LO.out;have g2a:=G2.out;obtain⟨M,Q,m1,m2,m3⟩:=((PO.out.d.far lo 0 (.slice pA pa pb)).far lo 1 (.slice pB pc pd)).rd HN.out;exact⟨_,M,Q,rfl,m1,m2,m3,below_set (below_set PO.out.2.below g2a) g2a⟩
end Go.Proofs.Ytbjljcpngbhkeaa.Dr
end
section
namespace Go.Proofs.Ytbjljcpngbhkeaa.Pr
open Go.RowKit Go.Proofs.YtbjljcpngbhkeaaW.PrintWords Go.Proofs.YtbjljcpngbhkeaaW.PrintLast Go.Proofs.YtbjljcpngbhkeaaW.PrintMore Go.Proofs.Ytbjljcpngbhkeaa.Al Go.Proofs.Ytbjljcpngbhkeaa.Dr Go.Proofs.Ytbjljcpngbhkeaa.Ma
theorem laws_FnPivots.walk {A0:Option Addr} {c0:Nat} {l0:List Int} {w:World} (HR0:Aside0 (Kd.C (Kd.int .u8) w A0 l0.length l0)) (HC0:Aside0 (l0.length≤c0)) (HBY:Aside0 (∀i:Nat,0≤l0.getD i 0∧l0.getD i 0≤255)) (HLN:Aside0 (l0.length≤4096)):
  Calls Try.prog 4 #[.slice A0 l0.length c0] w fun e w'=>e= .returned (.bool true)∧Below w.heap.size w w':=by
 have HB:=q_ (Below.refl w.heap.size w);have AL:=q_ (Al.nil w)
 go_enter Try.func4,Try.ntmps4
 go_wp2_with fail
 refine(laws_big.calls A0 c0 l0 false _ (Kd.C_below HR0.out HB.out) HC0.out (by unfold laws_big.f;rw [decide_eq_false (show ¬ (l0.length:Int) > 4096 by have:=HLN.out;omega)])).mono ?_
 rintro e w1 ⟨rfl,hd⟩;have hb:=Al.drawn_below hd;replace AL:=q_ (AL.out.mv hb);replace HB:=q_ (below_step HB.out hb);clear hb hd
 go_wp2_with fail
 refine(dpo_c (Kd.C_below HR0.out HB.out) HC0.out HBY.out HLN.out).mono ?_
 rintro e w2 ⟨_,Mp,Qp,s,rfl,⟨Apm,cpm,Apq,cpq,rfl,hM,hMc,hQ,hQc⟩,hM5,hQ6,hk0,hk1,hb⟩;replace AL:=q_ (AL.out.mv hb);replace HB:=q_ (below_step HB.out hb);replace AL:=q_ ((AL.out.addC hM).addC hQ);have Cpm:=q_ hMc;have Cpq:=q_ hQc;have Zp:=q_ (show Qp.length≤1048576 by omega);clear hM hMc hQ hQc hM5 hQ6 hb hk0 hk1;obtain⟨k,den,R,S,c,wh,cw,sg,cs,hp⟩:=Pp.all_pivot Mp Qp s Zp.out;have HP:=q_ hp;clear hp Zp
 go_wp2_with (first | ((with_reducible refine gate_dst (N:=3) rfl ?_);refine be_ 3 #[.slice none 0 0, .slice none 0 0] 27 ?_;intro g3 hg w3 hbox hb;have Bx:=q_ hbox;have HBx:=q_ hb;have Gx:Aside0 (w2.heap.size≤g3):=⟨by rw [hg];exact Nat.le_refl _⟩;have hx0:=cz_ Bx 0;have hx1:=cz_ Bx 1;have hfx0:=blk_frozen hbox 0;have hfx1:=blk_frozen hbox 1;clear hb hbox hg) | ((with_reducible refine gate_store (t:=27) (p:=3) rfl ?_);refine store_event (t:=27) (p:=3) (v:=?vo3) (w1:=(w3.setCell ⟨g3,0,none⟩ (.slice Apm Mp.length cpm)).setCell ⟨g3,1,none⟩ (.slice Apq Qp.length cpq)) ?hg ?ho ?hn ?hr ?_;(case ho=>rfl);(case hg=>rfl);(case hn=>rfl);(case hr=>first | (go_simp;done) | (go_simp;rfl));intro w4 hw;have nb:=q_ (show w4.heap[g3]?=some (.cells #[.slice Apm Mp.length cpm, .slice Apq Qp.length cpq] 27 (0,0)) from (by rw [hw];exact blk_put (blk_put Bx.out 0 _ rfl) 1 _ rfl));have hb:Below w2.heap.size w2 w4:=(by rw [hw];exact(HBx.out.setCell Gx.out _).setCell Gx.out _);replace AL:=q_ ((AL.out.mv hb).addB nb.out);replace HB:=q_ (below_step HB.out hb);clear hw hb nb hx0 hx1 hfx0 hfx1 Bx HBx Gx;have hz3_0:=cz_ (q_ (AL.out.now.1)) 0;have hz3_1:=cz_ (q_ (AL.out.now.1)) 1))
 refine(impl_PivotOf.calls k _ _ Mp _ _ Qp s den R S c _ (AL.out.now.2.2.1) Cpm.out (AL.out.now.2.1) Cpq.out HP.out.i1).mono ?_
 rintro e w5 ⟨v1,v2,rfl,hS,hR,hb⟩;clear hz3_0 hz3_1;replace AL:=q_ (AL.out.mv hb);replace HB:=q_ (below_step HB.out hb);obtain⟨A5r,c5r,rfl⟩:=Kd.S_slice hS;obtain⟨A5s,c5s,rfl⟩:=Kd.R_slice hR;have C5r:=q_ (Kd.S_reads' hS).2.1;have C5s:=q_ (Kd.R_reads' hR).2.1;replace AL:=q_ ((AL.out.addC (Kd.S_reads' hS).2.2).addC (Kd.R_reads' hR).2.2);clear hS hR hb
 go_wp2_with (first | ((with_reducible refine gate_dst (N:=5) rfl ?_);refine be_ 5 #[.int .i64 0, .slice none 0 0, .slice none 0 0] 49 ?_;intro g5 hg w6 hbox hb;have Bx:=q_ hbox;have HBx:=q_ hb;have Gx:Aside0 (w5.heap.size≤g5):=⟨by rw [hg];exact Nat.le_refl _⟩;have hx0:=cz_ Bx 0;have hx1:=cz_ Bx 1;have hx2:=cz_ Bx 2;have hfx0:=blk_frozen hbox 0;have hfx1:=blk_frozen hbox 1;have hfx2:=blk_frozen hbox 2;clear hb hbox hg) | ((with_reducible refine gate_store (t:=49) (p:=5) rfl ?_);refine store_event (t:=49) (p:=5) (v:=?vo5) (w1:=((w6.setCell ⟨g5,0,none⟩ (.int .i64 den)).setCell ⟨g5,1,none⟩ (.slice A5r R.length c5r)).setCell ⟨g5,2,none⟩ (.slice A5s S.length c5s)) ?hg ?ho ?hn ?hr ?_;(case ho=>rfl);(case hg=>rfl);(case hn=>rfl);(case hr=>first | (go_simp;done) | (go_simp;rfl));intro w7 hw;have nb:=q_ (show w7.heap[g5]?=some (.cells #[.int .i64 den, .slice A5r R.length c5r, .slice A5s S.length c5s] 49 (0,0)) from (by rw [hw];exact blk_put (blk_put (blk_put Bx.out 0 _ rfl) 1 _ rfl) 2 _ rfl));have hb:Below w5.heap.size w5 w7:=(by rw [hw];exact((HBx.out.setCell Gx.out _).setCell Gx.out _).setCell Gx.out _);replace AL:=q_ ((AL.out.mv hb).addB nb.out);replace HB:=q_ (below_step HB.out hb);clear hw hb nb hx0 hx1 hx2 hfx0 hfx1 hfx2 Bx HBx Gx;have hz3_0:=cz_ (q_ (AL.out.now.2.2.2.1)) 0;have hz3_1:=cz_ (q_ (AL.out.now.2.2.2.1)) 1))
 refine(spec_PivotOf.calls k _ _ Mp _ _ Qp s den R S c _ (AL.out.now.2.2.2.2.2.1) Cpm.out (AL.out.now.2.2.2.2.1) Cpq.out HP.out.s1).mono ?_
 rintro e w8 ⟨v1,v2,rfl,hS,hR,hb⟩;clear hz3_0 hz3_1;replace AL:=q_ (AL.out.mv hb);replace HB:=q_ (below_step HB.out hb);obtain⟨A7r,c7r,rfl⟩:=Kd.S_slice hS;obtain⟨A7s,c7s,rfl⟩:=Kd.R_slice hR;have C7r:=q_ (Kd.S_reads' hS).2.1;have C7s:=q_ (Kd.R_reads' hR).2.1;replace AL:=q_ ((AL.out.addC (Kd.S_reads' hS).2.2).addC (Kd.R_reads' hR).2.2);clear hS hR hb
 go_wp2_with (first | ((with_reducible refine gate_dst (N:=7) rfl ?_);refine be_ 7 #[.int .i64 0, .slice none 0 0, .slice none 0 0] 49 ?_;intro g7 hg w9 hbox hb;have Bx:=q_ hbox;have HBx:=q_ hb;have Gx:Aside0 (w8.heap.size≤g7):=⟨by rw [hg];exact Nat.le_refl _⟩;have hx0:=cz_ Bx 0;have hx1:=cz_ Bx 1;have hx2:=cz_ Bx 2;have hfx0:=blk_frozen hbox 0;have hfx1:=blk_frozen hbox 1;have hfx2:=blk_frozen hbox 2;clear hb hbox hg) | ((with_reducible refine gate_store (t:=49) (p:=7) rfl ?_);refine store_event (t:=49) (p:=7) (v:=?vo7) (w1:=((w9.setCell ⟨g7,0,none⟩ (.int .i64 den)).setCell ⟨g7,1,none⟩ (.slice A7r R.length c7r)).setCell ⟨g7,2,none⟩ (.slice A7s S.length c7s)) ?hg ?ho ?hn ?hr ?_;(case ho=>rfl);(case hg=>rfl);(case hn=>rfl);(case hr=>first | (go_simp;done) | (go_simp;rfl));intro w10 hw;have nb:=q_ (show w10.heap[g7]?=some (.cells #[.int .i64 den, .slice A7r R.length c7r, .slice A7s S.length c7s] 49 (0,0)) from (by rw [hw];exact blk_put (blk_put (blk_put Bx.out 0 _ rfl) 1 _ rfl) 2 _ rfl));have hb:Below w8.heap.size w8 w10:=(by rw [hw];exact((HBx.out.setCell Gx.out _).setCell Gx.out _).setCell Gx.out _);replace AL:=q_ ((AL.out.mv hb).addB nb.out);replace HB:=q_ (below_step HB.out hb);clear hw hb nb hx0 hx1 hx2 hfx0 hfx1 hfx2 Bx HBx Gx;have hz5_0:=cz_ (q_ (AL.out.now.2.2.2.1)) 0;have hz5_1:=cz_ (q_ (AL.out.now.2.2.2.1)) 1;have hz5_2:=cz_ (q_ (AL.out.now.2.2.2.1)) 2;have hz7_0:=cz_ (q_ (AL.out.now.1)) 0;have hz7_1:=cz_ (q_ (AL.out.now.1)) 1;have hz7_2:=cz_ (q_ (AL.out.now.1)) 2))
 refine(laws_pivot9.calls k den _ _ R _ _ S den _ _ R _ _ S true _ (AL.out.now.2.2.2.2.2.1) C5r.out (AL.out.now.2.2.2.2.1) C5s.out (AL.out.now.2.2.1) C7r.out (AL.out.now.2.1) C7s.out HP.out.q1).mono ?_
 rintro e w11 ⟨rfl,hb⟩;clear hz5_0 hz5_1 hz5_2 hz7_0 hz7_1 hz7_2;replace AL:=q_ (AL.out.mv hb);replace HB:=q_ (below_step HB.out hb);clear hb
 go_wp2_with fail
 refine(dpp_c (Kd.C_below HR0.out HB.out) HC0.out HBY.out HLN.out).mono ?_
 rintro e w12 ⟨_,Mq,Qq,t,rfl,⟨Aqm,cqm,Aqq,cqq,rfl,hM,hMc,hQ,hQc⟩,hM5,hQ6,hk0,hk1,hb⟩;replace AL:=q_ (AL.out.mv hb);replace HB:=q_ (below_step HB.out hb);replace AL:=q_ ((AL.out.addC hM).addC hQ);have Cqm:=q_ hMc;have Cqq:=q_ hQc;have Zq:=q_ (show Qq.length≤1048576 by omega);clear hM hMc hQ hQc hM5 hQ6 hb hk0 hk1;obtain⟨kq,M',Q',cp,hq⟩:=Pp.all_pivoted Mq Qq t Zq.out;have HQ:=q_ hq;clear hq Zq
 go_wp2_with (first | ((with_reducible refine gate_dst (N:=9) rfl ?_);refine be_ 9 #[.slice none 0 0, .slice none 0 0] 27 ?_;intro g9 hg w13 hbox hb;have Bx:=q_ hbox;have HBx:=q_ hb;have Gx:Aside0 (w12.heap.size≤g9):=⟨by rw [hg];exact Nat.le_refl _⟩;have hx0:=cz_ Bx 0;have hx1:=cz_ Bx 1;have hfx0:=blk_frozen hbox 0;have hfx1:=blk_frozen hbox 1;clear hb hbox hg) | ((with_reducible refine gate_store (t:=27) (p:=9) rfl ?_);refine store_event (t:=27) (p:=9) (v:=?vo9) (w1:=(w13.setCell ⟨g9,0,none⟩ (.slice Aqm Mq.length cqm)).setCell ⟨g9,1,none⟩ (.slice Aqq Qq.length cqq)) ?hg ?ho ?hn ?hr ?_;(case ho=>rfl);(case hg=>rfl);(case hn=>rfl);(case hr=>first | (go_simp;done) | (go_simp;rfl));intro w14 hw;have nb:=q_ (show w14.heap[g9]?=some (.cells #[.slice Aqm Mq.length cqm, .slice Aqq Qq.length cqq] 27 (0,0)) from (by rw [hw];exact blk_put (blk_put Bx.out 0 _ rfl) 1 _ rfl));have hb:Below w12.heap.size w12 w14:=(by rw [hw];exact(HBx.out.setCell Gx.out _).setCell Gx.out _);replace AL:=q_ ((AL.out.mv hb).addB nb.out);replace HB:=q_ (below_step HB.out hb);clear hw hb nb hx0 hx1 hfx0 hfx1 Bx HBx Gx;have hz9_0:=cz_ (q_ (AL.out.now.1)) 0;have hz9_1:=cz_ (q_ (AL.out.now.1)) 1))
 refine(impl_PivotedProblem.calls kq _ _ Mq _ _ Qq t M' Q' cp _ (AL.out.now.2.2.1) Cqm.out (AL.out.now.2.1) Cqq.out HQ.out.im).mono ?_
 rintro e w15 ⟨v1,v2,rfl,hS,hR,hb⟩;clear hz9_0 hz9_1;replace AL:=q_ (AL.out.mv hb);replace HB:=q_ (below_step HB.out hb);obtain⟨A11r,c11r,rfl⟩:=Kd.S_slice hS;obtain⟨A11s,c11s,rfl⟩:=Kd.R_slice hR;have C11r:=q_ (Kd.S_reads' hS).2.1;have C11s:=q_ (Kd.R_reads' hR).2.1;replace AL:=q_ ((AL.out.addC (Kd.S_reads' hS).2.2).addC (Kd.R_reads' hR).2.2);clear hS hR hb
 go_wp2_with (first | ((with_reducible refine gate_dst (N:=11) rfl ?_);refine be_ 11 #[.slice none 0 0, .slice none 0 0] 27 ?_;intro g11 hg w16 hbox hb;have Bx:=q_ hbox;have HBx:=q_ hb;have Gx:Aside0 (w15.heap.size≤g11):=⟨by rw [hg];exact Nat.le_refl _⟩;have hx0:=cz_ Bx 0;have hx1:=cz_ Bx 1;have hfx0:=blk_frozen hbox 0;have hfx1:=blk_frozen hbox 1;clear hb hbox hg) | ((with_reducible refine gate_store (t:=27) (p:=11) rfl ?_);refine store_event (t:=27) (p:=11) (v:=?vo11) (w1:=(w16.setCell ⟨g11,0,none⟩ (.slice A11r M'.length c11r)).setCell ⟨g11,1,none⟩ (.slice A11s Q'.length c11s)) ?hg ?ho ?hn ?hr ?_;(case ho=>rfl);(case hg=>rfl);(case hn=>rfl);(case hr=>first | (go_simp;done) | (go_simp;rfl));intro w17 hw;have nb:=q_ (show w17.heap[g11]?=some (.cells #[.slice A11r M'.length c11r, .slice A11s Q'.length c11s] 27 (0,0)) from (by rw [hw];exact blk_put (blk_put Bx.out 0 _ rfl) 1 _ rfl));have hb:Below w15.heap.size w15 w17:=(by rw [hw];exact(HBx.out.setCell Gx.out _).setCell Gx.out _);replace AL:=q_ ((AL.out.mv hb).addB nb.out);replace HB:=q_ (below_step HB.out hb);clear hw hb nb hx0 hx1 hfx0 hfx1 Bx HBx Gx;have hz9_0:=cz_ (q_ (AL.out.now.2.2.2.1)) 0;have hz9_1:=cz_ (q_ (AL.out.now.2.2.2.1)) 1))
 refine(spec_PivotedProblem.calls kq _ _ Mq _ _ Qq t M' Q' cp _ (AL.out.now.2.2.2.2.2.1) Cqm.out (AL.out.now.2.2.2.2.1) Cqq.out HQ.out.sp).mono ?_
 rintro e w18 ⟨v1,v2,rfl,hS,hR,hb⟩;clear hz9_0 hz9_1;replace AL:=q_ (AL.out.mv hb);replace HB:=q_ (below_step HB.out hb);obtain⟨A13r,c13r,rfl⟩:=Kd.S_slice hS;obtain⟨A13s,c13s,rfl⟩:=Kd.R_slice hR;have C13r:=q_ (Kd.S_reads' hS).2.1;have C13s:=q_ (Kd.R_reads' hR).2.1;replace AL:=q_ ((AL.out.addC (Kd.S_reads' hS).2.2).addC (Kd.R_reads' hR).2.2);clear hS hR hb
 go_wp2_with (first | ((with_reducible refine gate_dst (N:=13) rfl ?_);refine be_ 13 #[.slice none 0 0, .slice none 0 0] 27 ?_;intro g13 hg w19 hbox hb;have Bx:=q_ hbox;have HBx:=q_ hb;have Gx:Aside0 (w18.heap.size≤g13):=⟨by rw [hg];exact Nat.le_refl _⟩;have hx0:=cz_ Bx 0;have hx1:=cz_ Bx 1;have hfx0:=blk_frozen hbox 0;have hfx1:=blk_frozen hbox 1;clear hb hbox hg) | ((with_reducible refine gate_store (t:=27) (p:=13) rfl ?_);refine store_event (t:=27) (p:=13) (v:=?vo13) (w1:=(w19.setCell ⟨g13,0,none⟩ (.slice A13r M'.length c13r)).setCell ⟨g13,1,none⟩ (.slice A13s Q'.length c13s)) ?hg ?ho ?hn ?hr ?_;(case ho=>rfl);(case hg=>rfl);(case hn=>rfl);(case hr=>first | (go_simp;done) | (go_simp;rfl));intro w20 hw;have nb:=q_ (show w20.heap[g13]?=some (.cells #[.slice A13r M'.length c13r, .slice A13s Q'.length c13s] 27 (0,0)) from (by rw [hw];exact blk_put (blk_put Bx.out 0 _ rfl) 1 _ rfl));have hb:Below w18.heap.size w18 w20:=(by rw [hw];exact(HBx.out.setCell Gx.out _).setCell Gx.out _);replace AL:=q_ ((AL.out.mv hb).addB nb.out);replace HB:=q_ (below_step HB.out hb);clear hw hb nb hx0 hx1 hfx0 hfx1 Bx HBx Gx;have hz11_0:=cz_ (q_ (AL.out.now.2.2.2.1)) 0;have hz11_1:=cz_ (q_ (AL.out.now.2.2.2.1)) 1;have hz13_0:=cz_ (q_ (AL.out.now.1)) 0;have hz13_1:=cz_ (q_ (AL.out.now.1)) 1))
 refine(laws_problem9.calls kq _ _ M' _ _ Q' _ _ M' _ _ Q' true _ (AL.out.now.2.2.2.2.2.1) C11r.out (AL.out.now.2.2.2.2.1) C11s.out (AL.out.now.2.2.1) C13r.out (AL.out.now.2.1) C13s.out HQ.out.q).mono ?_
 rintro e w21 ⟨rfl,hb⟩;clear hz11_0 hz11_1 hz13_0 hz13_1;replace AL:=q_ (AL.out.mv hb);replace HB:=q_ (below_step HB.out hb);clear hb;have hz3_0:=cz_ (q_ (AL.out.now.2.2.2.2.2.2.2.2.2.2.2.2.2.2.2.1)) 0;have hz3_1:=cz_ (q_ (AL.out.now.2.2.2.2.2.2.2.2.2.2.2.2.2.2.2.1)) 1
 go_wp2_with fail
 refine(impl_IsWholePivot.calls k _ _ Mp _ _ Qp s wh cw _ (AL.out.now.2.2.2.2.2.2.2.2.2.2.2.2.2.2.2.2.2.1) Cpm.out (AL.out.now.2.2.2.2.2.2.2.2.2.2.2.2.2.2.2.2.1) Cpq.out HP.out.i2).mono ?_
 rintro e w22 ⟨rfl,hb⟩;clear hz3_0 hz3_1;replace AL:=q_ (AL.out.mv hb);replace HB:=q_ (below_step HB.out hb);clear hb;have hz3_0:=cz_ (q_ (AL.out.now.2.2.2.2.2.2.2.2.2.2.2.2.2.2.2.1)) 0;have hz3_1:=cz_ (q_ (AL.out.now.2.2.2.2.2.2.2.2.2.2.2.2.2.2.2.1)) 1
 go_wp2_with fail
 refine(spec_IsWholePivot.calls k _ _ Mp _ _ Qp s wh cw _ (AL.out.now.2.2.2.2.2.2.2.2.2.2.2.2.2.2.2.2.2.1) Cpm.out (AL.out.now.2.2.2.2.2.2.2.2.2.2.2.2.2.2.2.2.1) Cpq.out HP.out.s2).mono ?_
 rintro e w23 ⟨rfl,hb⟩;clear hz3_0 hz3_1;replace AL:=q_ (AL.out.mv hb);replace HB:=q_ (below_step HB.out hb);clear hb
 go_wp2_with fail
 refine(dio_c (Kd.C_below HR0.out HB.out) HC0.out HBY.out HLN.out).mono ?_
 rintro e w24 ⟨_,Mr,Qr,rfl,⟨Arm,crm,Arq,crq,rfl,hM,hMc,hQ,hQc⟩,hM5,hQ6,hb⟩;replace AL:=q_ (AL.out.mv hb);replace HB:=q_ (below_step HB.out hb);replace AL:=q_ ((AL.out.addC hM).addC hQ);have Crm:=q_ hMc;have Crq:=q_ hQc;have Zr:=q_ (show Qr.length≤1048576 by omega);clear hM hMc hQ hQc hM5 hQ6 hb;obtain⟨ki,V,dv,ci,hi⟩:=Pp.all_inverse Mr Qr Zr.out;have HI:=q_ hi;clear hi Zr
 go_wp2_with (first | ((with_reducible refine gate_dst (N:=19) rfl ?_);refine be_ 19 #[.slice none 0 0, .slice none 0 0] 27 ?_;intro g19 hg w25 hbox hb;have Bx:=q_ hbox;have HBx:=q_ hb;have Gx:Aside0 (w24.heap.size≤g19):=⟨by rw [hg];exact Nat.le_refl _⟩;have hx0:=cz_ Bx 0;have hx1:=cz_ Bx 1;have hfx0:=blk_frozen hbox 0;have hfx1:=blk_frozen hbox 1;clear hb hbox hg) | ((with_reducible refine gate_store (t:=27) (p:=19) rfl ?_);refine store_event (t:=27) (p:=19) (v:=?vo19) (w1:=(w25.setCell ⟨g19,0,none⟩ (.slice Arm Mr.length crm)).setCell ⟨g19,1,none⟩ (.slice Arq Qr.length crq)) ?hg ?ho ?hn ?hr ?_;(case ho=>rfl);(case hg=>rfl);(case hn=>rfl);(case hr=>first | (go_simp;done) | (go_simp;rfl));intro w26 hw;have nb:=q_ (show w26.heap[g19]?=some (.cells #[.slice Arm Mr.length crm, .slice Arq Qr.length crq] 27 (0,0)) from (by rw [hw];exact blk_put (blk_put Bx.out 0 _ rfl) 1 _ rfl));have hb:Below w24.heap.size w24 w26:=(by rw [hw];exact(HBx.out.setCell Gx.out _).setCell Gx.out _);replace AL:=q_ ((AL.out.mv hb).addB nb.out);replace HB:=q_ (below_step HB.out hb);clear hw hb nb hx0 hx1 hfx0 hfx1 Bx HBx Gx;have hz19_0:=cz_ (q_ (AL.out.now.1)) 0;have hz19_1:=cz_ (q_ (AL.out.now.1)) 1))
 refine(impl_InverseOf.calls ki _ _ Mr _ _ Qr V dv ci _ (AL.out.now.2.2.1) Crm.out (AL.out.now.2.1) Crq.out HI.out.im).mono ?_
 rintro e w27 ⟨v1,rfl,hS,hb⟩;clear hz19_0 hz19_1;replace AL:=q_ (AL.out.mv hb);replace HB:=q_ (below_step HB.out hb);obtain⟨A20,c20,rfl⟩:=Kd.S_slice hS;have C20:=q_ (Kd.S_reads' hS).2.1;replace AL:=q_ (AL.out.addC (Kd.S_reads' hS).2.2);clear hS hb;have hz19_0:=cz_ (q_ (AL.out.now.2.1)) 0;have hz19_1:=cz_ (q_ (AL.out.now.2.1)) 1
 go_wp2_with fail
 refine(spec_InverseOf.calls ki _ _ Mr _ _ Qr V dv ci _ (AL.out.now.2.2.2.1) Crm.out (AL.out.now.2.2.1) Crq.out HI.out.sp).mono ?_
 rintro e w28 ⟨v1,rfl,hS,hb⟩;clear hz19_0 hz19_1;replace AL:=q_ (AL.out.mv hb);replace HB:=q_ (below_step HB.out hb);obtain⟨A23,c23,rfl⟩:=Kd.S_slice hS;have C23:=q_ (Kd.S_reads' hS).2.1;replace AL:=q_ (AL.out.addC (Kd.S_reads' hS).2.2);clear hS hb
 go_wp2_with fail
 refine(laws_rows9.calls ki _ _ V _ _ V true _ (AL.out.now.2.1) C20.out (AL.out.now.1) C23.out HI.out.q).mono ?_
 rintro e w29 ⟨rfl,hd⟩;have hb:=Al.drawn_below hd;replace AL:=q_ (AL.out.mv hb);replace HB:=q_ (below_step HB.out hb);clear hb hd;have hz3_0:=cz_ (q_ (AL.out.now.2.2.2.2.2.2.2.2.2.2.2.2.2.2.2.2.2.2.2.2.1)) 0;have hz3_1:=cz_ (q_ (AL.out.now.2.2.2.2.2.2.2.2.2.2.2.2.2.2.2.2.2.2.2.2.1)) 1
 go_wp2_with fail
 refine(impl_SignsOfPivot.calls k _ _ Mp _ _ Qp s sg cs _ (AL.out.now.2.2.2.2.2.2.2.2.2.2.2.2.2.2.2.2.2.2.2.2.2.2.1) Cpm.out (AL.out.now.2.2.2.2.2.2.2.2.2.2.2.2.2.2.2.2.2.2.2.2.2.1) Cpq.out HP.out.i3).mono ?_
 rintro e w30 ⟨v1,rfl,hS,hb⟩;clear hz3_0 hz3_1;replace AL:=q_ (AL.out.mv hb);replace HB:=q_ (below_step HB.out hb);obtain⟨A26,c26,rfl⟩:=Kd.S_slice hS;have C26:=q_ (Kd.S_reads' hS).2.1;replace AL:=q_ (AL.out.addC (Kd.S_reads' hS).2.2);clear hS hb;have hz3_0:=cz_ (q_ (AL.out.now.2.2.2.2.2.2.2.2.2.2.2.2.2.2.2.2.2.2.2.2.2.1)) 0;have hz3_1:=cz_ (q_ (AL.out.now.2.2.2.2.2.2.2.2.2.2.2.2.2.2.2.2.2.2.2.2.2.1)) 1
 go_wp2_with fail
 refine(spec_SignsOfPivot.calls k _ _ Mp _ _ Qp s sg cs _ (AL.out.now.2.2.2.2.2.2.2.2.2.2.2.2.2.2.2.2.2.2.2.2.2.2.2.1) Cpm.out (AL.out.now.2.2.2.2.2.2.2.2.2.2.2.2.2.2.2.2.2.2.2.2.2.2.1) Cpq.out HP.out.s3).mono ?_
 rintro e w31 ⟨v1,rfl,hS,hb⟩;clear hz3_0 hz3_1;replace AL:=q_ (AL.out.mv hb);replace HB:=q_ (below_step HB.out hb);obtain⟨A28,c28,rfl⟩:=Kd.S_slice hS;have C28:=q_ (Kd.S_reads' hS).2.1;replace AL:=q_ (AL.out.addC (Kd.S_reads' hS).2.2);clear hS hb
 go_wp2_with fail
 refine(laws_rows9.calls k _ _ sg _ _ sg true _ (AL.out.now.2.1) C26.out (AL.out.now.1) C28.out HP.out.q3).mono ?_
 rintro e w32 ⟨rfl,hd⟩;have hb:=Al.drawn_below hd;replace AL:=q_ (AL.out.mv hb);replace HB:=q_ (below_step HB.out hb);clear hb hd
 go_upto_if 162 with (fail)
 replace AL:=q_ (show Al (fun W_=>(Kd.C (Kd.slice 2 (Kd.int .i64)) W_ A26 sg.length sg)∧(Kd.C (Kd.slice 2 (Kd.int .i64)) W_ A20 V.length V)∧(W_.heap[g19]?=some (.cells #[.slice Arm Mr.length crm, .slice Arq Qr.length crq] 27 (0,0)))∧(Kd.C (Kd.int .i64) W_ Arq Qr.length Qr)∧(Kd.C (Kd.slice 2 (Kd.int .i64)) W_ Arm Mr.length Mr)∧(W_.heap[g11]?=some (.cells #[.slice A11r M'.length c11r, .slice A11s Q'.length c11s] 27 (0,0)))∧(Kd.C (Kd.int .i64) W_ A11s Q'.length Q')∧(Kd.C (Kd.slice 2 (Kd.int .i64)) W_ A11r M'.length M')∧(W_.heap[g9]?=some (.cells #[.slice Aqm Mq.length cqm, .slice Aqq Qq.length cqq] 27 (0,0)))∧(Kd.C (Kd.int .i64) W_ Aqq Qq.length Qq)∧(Kd.C (Kd.slice 2 (Kd.int .i64)) W_ Aqm Mq.length Mq)∧(W_.heap[g5]?=some (.cells #[.int .i64 den, .slice A5r R.length c5r, .slice A5s S.length c5s] 49 (0,0)))∧(Kd.C (Kd.int .i64) W_ A5s S.length S)∧(Kd.C (Kd.slice 2 (Kd.int .i64)) W_ A5r R.length R)∧(W_.heap[g3]?=some (.cells #[.slice Apm Mp.length cpm, .slice Apq Qp.length cpq] 27 (0,0)))∧(Kd.C (Kd.int .i64) W_ Apq Qp.length Qp)∧(Kd.C (Kd.slice 2 (Kd.int .i64)) W_ Apm Mp.length Mp)∧True) _ from ⟨fun w2 h2=>⟨(AL.out.all w2 h2).2.1,(AL.out.all w2 h2).2.2.2.1,(AL.out.all w2 h2).2.2.2.2.1,(AL.out.all w2 h2).2.2.2.2.2.1,(AL.out.all w2 h2).2.2.2.2.2.2.1,(AL.out.all w2 h2).2.2.2.2.2.2.2.2.2.2.1,(AL.out.all w2 h2).2.2.2.2.2.2.2.2.2.2.2.1,(AL.out.all w2 h2).2.2.2.2.2.2.2.2.2.2.2.2.1,(AL.out.all w2 h2).2.2.2.2.2.2.2.2.2.2.2.2.2.1,(AL.out.all w2 h2).2.2.2.2.2.2.2.2.2.2.2.2.2.2.1,(AL.out.all w2 h2).2.2.2.2.2.2.2.2.2.2.2.2.2.2.2.1,(AL.out.all w2 h2).2.2.2.2.2.2.2.2.2.2.2.2.2.2.2.2.2.2.2.1,(AL.out.all w2 h2).2.2.2.2.2.2.2.2.2.2.2.2.2.2.2.2.2.2.2.2.1,(AL.out.all w2 h2).2.2.2.2.2.2.2.2.2.2.2.2.2.2.2.2.2.2.2.2.2.1,(AL.out.all w2 h2).2.2.2.2.2.2.2.2.2.2.2.2.2.2.2.2.2.2.2.2.2.2.1,(AL.out.all w2 h2).2.2.2.2.2.2.2.2.2.2.2.2.2.2.2.2.2.2.2.2.2.2.2.1,(AL.out.all w2 h2).2.2.2.2.2.2.2.2.2.2.2.2.2.2.2.2.2.2.2.2.2.2.2.2.1,trivial⟩⟩)
 go_cut [30,31,32,33] from 161 to 219 (fun v30 v31 v32 v33 wc=>Aside0 (Al (fun W_=>(W_.heap[g11]?=some (.cells #[.slice A11r M'.length c11r, .slice A11s Q'.length c11s] 27 (0,0)))∧(W_.heap[g9]?=some (.cells #[.slice Aqm Mq.length cqm, .slice Aqq Qq.length cqq] 27 (0,0)))∧(Kd.C (Kd.int .i64) W_ A11s Q'.length Q')∧(Kd.C (Kd.slice 2 (Kd.int .i64)) W_ A11r M'.length M')∧(Kd.C (Kd.int .i64) W_ Aqq Qq.length Qq)∧(Kd.C (Kd.slice 2 (Kd.int .i64)) W_ Aqm Mq.length Mq)∧(W_.heap[g5]?=some (.cells #[.int .i64 den, .slice A5r R.length c5r, .slice A5s S.length c5s] 49 (0,0)))∧(W_.heap[g3]?=some (.cells #[.slice Apm Mp.length cpm, .slice Apq Qp.length cpq] 27 (0,0)))∧(Kd.C (Kd.slice 2 (Kd.int .i64)) W_ A26 sg.length sg)∧(Kd.C (Kd.int .i64) W_ A5s S.length S)∧(Kd.C (Kd.slice 2 (Kd.int .i64)) W_ A5r R.length R)∧(Kd.C (Kd.int .i64) W_ Apq Qp.length Qp)∧(Kd.C (Kd.slice 2 (Kd.int .i64)) W_ Apm Mp.length Mp)∧True) wc)∧Aside0 (Below w.heap.size w wc))
 case first=>
  by_cases ck:ci=0
  ·subst ck;obtain⟨p1,p2,p3,p4,p5,p6,p7,p8⟩:=HI.out.prod rfl;have P1:=q_ p1;have P2:=q_ p2;have P3:=q_ p3;have P4:=q_ p4;have P5:=q_ p5;have P6:=q_ p6;have P7:=q_ p7;have P8:=q_ p8;clear p1 p2 p3 p4 p5 p6 p7 p8;go_wp2
   go_loopg [30,31,32,33] Qr.length (fun gg v30 v31 v32 v33 wr=> ∃i:Nat,i≤Qr.length∧Qr.length - i≤gg∧v30= .int .i64 (i:Int)∧Aside0 (Al (fun W_=>(Kd.C (Kd.slice 2 (Kd.int .i64)) W_ A26 sg.length sg)∧(Kd.C (Kd.slice 2 (Kd.int .i64)) W_ A20 V.length V)∧(W_.heap[g19]?=some (.cells #[.slice Arm Mr.length crm, .slice Arq Qr.length crq] 27 (0,0)))∧(Kd.C (Kd.int .i64) W_ Arq Qr.length Qr)∧(Kd.C (Kd.slice 2 (Kd.int .i64)) W_ Arm Mr.length Mr)∧(W_.heap[g11]?=some (.cells #[.slice A11r M'.length c11r, .slice A11s Q'.length c11s] 27 (0,0)))∧(Kd.C (Kd.int .i64) W_ A11s Q'.length Q')∧(Kd.C (Kd.slice 2 (Kd.int .i64)) W_ A11r M'.length M')∧(W_.heap[g9]?=some (.cells #[.slice Aqm Mq.length cqm, .slice Aqq Qq.length cqq] 27 (0,0)))∧(Kd.C (Kd.int .i64) W_ Aqq Qq.length Qq)∧(Kd.C (Kd.slice 2 (Kd.int .i64)) W_ Aqm Mq.length Mq)∧(W_.heap[g5]?=some (.cells #[.int .i64 den, .slice A5r R.length c5r, .slice A5s S.length c5s] 49 (0,0)))∧(Kd.C (Kd.int .i64) W_ A5s S.length S)∧(Kd.C (Kd.slice 2 (Kd.int .i64)) W_ A5r R.length R)∧(W_.heap[g3]?=some (.cells #[.slice Apm Mp.length cpm, .slice Apq Qp.length cpq] 27 (0,0)))∧(Kd.C (Kd.int .i64) W_ Apq Qp.length Qp)∧(Kd.C (Kd.slice 2 (Kd.int .i64)) W_ Apm Mp.length Mp)∧True) wr)∧Aside0 (Below w.heap.size w wr))
   case atStart=>exact⟨0,Nat.zero_le _,by omega,rfl,AL,HB⟩
   case round=>
    clear AL HB;obtain⟨i,hi',hg1,rfl,AL,HB⟩:=hrel;have hz19_0:=cz_ (q_ (AL.out.now.2.2.1)) 0;have hz19_1:=cz_ (q_ (AL.out.now.2.2.1)) 1
    by_cases hlt:i < Qr.length
    ·have hltz:(i:Int) < (Qr.length:Int):=by omega
     have h0z:(0:Int)≤(i:Int):=by omega
     have hwi:IntKind.i64.wrap ((i:Int)+1)=((i+1:Nat):Int):=by rw [IntWalk.i64_in _ (by have:=P3.out;omega)];rfl
     have HWI:=q_ hwi;have HG1:=q_ hg1;have HLT:=q_ hlt;clear hi' hg1 hlt hwi;go_wp2
     clear hz19_0 hz19_1
     go_loopg [31,32,33] Qr.length (fun gg v31 v32 v33 wr=> ∃m:Nat,m≤Qr.length∧Qr.length - m≤gg∧v31= .int .i64 (m:Int)∧Aside0 (Al (fun W_=>(Kd.C (Kd.slice 2 (Kd.int .i64)) W_ A26 sg.length sg)∧(Kd.C (Kd.slice 2 (Kd.int .i64)) W_ A20 V.length V)∧(W_.heap[g19]?=some (.cells #[.slice Arm Mr.length crm, .slice Arq Qr.length crq] 27 (0,0)))∧(Kd.C (Kd.int .i64) W_ Arq Qr.length Qr)∧(Kd.C (Kd.slice 2 (Kd.int .i64)) W_ Arm Mr.length Mr)∧(W_.heap[g11]?=some (.cells #[.slice A11r M'.length c11r, .slice A11s Q'.length c11s] 27 (0,0)))∧(Kd.C (Kd.int .i64) W_ A11s Q'.length Q')∧(Kd.C (Kd.slice 2 (Kd.int .i64)) W_ A11r M'.length M')∧(W_.heap[g9]?=some (.cells #[.slice Aqm Mq.length cqm, .slice Aqq Qq.length cqq] 27 (0,0)))∧(Kd.C (Kd.int .i64) W_ Aqq Qq.length Qq)∧(Kd.C (Kd.slice 2 (Kd.int .i64)) W_ Aqm Mq.length Mq)∧(W_.heap[g5]?=some (.cells #[.int .i64 den, .slice A5r R.length c5r, .slice A5s S.length c5s] 49 (0,0)))∧(Kd.C (Kd.int .i64) W_ A5s S.length S)∧(Kd.C (Kd.slice 2 (Kd.int .i64)) W_ A5r R.length R)∧(W_.heap[g3]?=some (.cells #[.slice Apm Mp.length cpm, .slice Apq Qp.length cpq] 27 (0,0)))∧(Kd.C (Kd.int .i64) W_ Apq Qp.length Qp)∧(Kd.C (Kd.slice 2 (Kd.int .i64)) W_ Apm Mp.length Mp)∧True) wr)∧Aside0 (Below w.heap.size w wr))
     case atStart=>exact⟨0,Nat.zero_le _,by omega,rfl,AL,HB⟩
     case round=>
      clear AL HB;obtain⟨m,hm',hg2,rfl,AL,HB⟩:=hrel;have hz19_0:=cz_ (q_ (AL.out.now.2.2.1)) 0;have hz19_1:=cz_ (q_ (AL.out.now.2.2.1)) 1
      by_cases hmt:m < Qr.length
      ·have hmtz:(m:Int) < (Qr.length:Int):=by omega
       have h0m:(0:Int)≤(m:Int):=by omega
       have hwm:IntKind.i64.wrap ((m:Int)+1)=((m+1:Nat):Int):=by rw [IntWalk.i64_in _ (by have:=P3.out;omega)];rfl
       have HWM:=q_ hwm;have HG2:=q_ hg2;have HMT:=q_ hmt;clear hm' hg2 hmt hwm;go_wp2
       clear hz19_0 hz19_1
       go_loopg [32,33] Qr.length (fun gg v32 v33 wr=> ∃j:Nat,j≤Qr.length∧Qr.length - j≤gg∧v33= .int .i64 (j:Int)∧v32= .int .i64 (Dt.sm j (fun t=>Cz.en Mr i t*Cz.en V t m))∧Aside0 (Al (fun W_=>(Kd.C (Kd.slice 2 (Kd.int .i64)) W_ A26 sg.length sg)∧(Kd.C (Kd.slice 2 (Kd.int .i64)) W_ A20 V.length V)∧(W_.heap[g19]?=some (.cells #[.slice Arm Mr.length crm, .slice Arq Qr.length crq] 27 (0,0)))∧(Kd.C (Kd.int .i64) W_ Arq Qr.length Qr)∧(Kd.C (Kd.slice 2 (Kd.int .i64)) W_ Arm Mr.length Mr)∧(W_.heap[g11]?=some (.cells #[.slice A11r M'.length c11r, .slice A11s Q'.length c11s] 27 (0,0)))∧(Kd.C (Kd.int .i64) W_ A11s Q'.length Q')∧(Kd.C (Kd.slice 2 (Kd.int .i64)) W_ A11r M'.length M')∧(W_.heap[g9]?=some (.cells #[.slice Aqm Mq.length cqm, .slice Aqq Qq.length cqq] 27 (0,0)))∧(Kd.C (Kd.int .i64) W_ Aqq Qq.length Qq)∧(Kd.C (Kd.slice 2 (Kd.int .i64)) W_ Aqm Mq.length Mq)∧(W_.heap[g5]?=some (.cells #[.int .i64 den, .slice A5r R.length c5r, .slice A5s S.length c5s] 49 (0,0)))∧(Kd.C (Kd.int .i64) W_ A5s S.length S)∧(Kd.C (Kd.slice 2 (Kd.int .i64)) W_ A5r R.length R)∧(W_.heap[g3]?=some (.cells #[.slice Apm Mp.length cpm, .slice Apq Qp.length cpq] 27 (0,0)))∧(Kd.C (Kd.int .i64) W_ Apq Qp.length Qp)∧(Kd.C (Kd.slice 2 (Kd.int .i64)) W_ Apm Mp.length Mp)∧True) wr)∧Aside0 (Below w.heap.size w wr))
       case atStart=>exact⟨0,Nat.zero_le _,by omega,rfl,rfl,AL,HB⟩
       case round=>
        clear AL HB;obtain⟨j,hj',hg3,rfl,rfl,AL,HB⟩:=hrel;have hsm: ∀q,q≤Qr.length→(Dt.sm q (fun t=>Cz.en Mr i t*Cz.en V t m)).natAbs≤38400000000*q:=by
         intro q
         induction q with
         | zero=>intro _;simp [Dt.sm]
         | succ q ih=>
          intro hq;have h1:=ih (by omega);have h2:=P6.out i q HLT.out (by omega);have h3:=P7.out q m (by omega) HMT.out;have h4:(Cz.en Mr i q*Cz.en V q m).natAbs≤20*1920000000:=by rw [Int.natAbs_mul];exact Nat.mul_le_mul h2 h3
          show (Dt.sm q _+Cz.en Mr i q*Cz.en V q m).natAbs≤_
          omega
        have HSM:=q_ hsm;clear hsm
        by_cases hjt:j < Qr.length
        ·have hjtz:(j:Int) < (Qr.length:Int):=by omega
         have h0j:(0:Int)≤(j:Int):=by omega
         have hwj:IntKind.i64.wrap ((j:Int)+1)=((j+1:Nat):Int):=by rw [IntWalk.i64_in _ (by have:=P3.out;omega)];rfl
         have hb1:=HSM.out j (by omega);have hb2:=HSM.out (j+1) (by omega);have hx:=P6.out i j HLT.out hjt;have hy:=P7.out j m hjt HMT.out;have hxy:(Cz.en Mr i j*Cz.en V j m).natAbs≤20*1920000000:=by rw [Int.natAbs_mul];exact Nat.mul_le_mul hx hy
         have es:Dt.sm (j+1) (fun t=>Cz.en Mr i t*Cz.en V t m)=Dt.sm j (fun t=>Cz.en Mr i t*Cz.en V t m)+Cz.en Mr i j*Cz.en V j m:=rfl;have hlm:=P1.out;have hlv:=P2.out;have h5:=P3.out;have hr1:=P4.out i HLT.out;have hr2:=P5.out j hjt;obtain⟨o,ho⟩: ∃o,Dt.sm j (fun t=>Cz.en Mr i t*Cz.en V t m)=o:=⟨_,rfl⟩
         obtain⟨o2,ho2⟩: ∃o2,Dt.sm (j+1) (fun t=>Cz.en Mr i t*Cz.en V t m)=o2:=⟨_,rfl⟩
         obtain⟨x,hxe⟩: ∃x,Cz.en Mr i j=x:=⟨_,rfl⟩
         obtain⟨y,hye⟩: ∃y,Cz.en V j m=y:=⟨_,rfl⟩
         rw [ho,ho2,hxe,hye] at es;rw [hxe,hye] at hxy;rw [ho] at hb1 ⊢;rw [ho2] at hb2;have hw1:IntKind.i64.wrap (x*y)=x*y:=IntWalk.i64_in _ (by omega);have hw2:IntKind.i64.wrap (o+x*y)=o2:=by rw [← es];exact IntWalk.i64_in _ (by omega)
         have hw1':wrap64 (x*y)=x*y:=(i64_w _).symm.trans hw1;have hw2':wrap64 (o+x*y)=o2:=(i64_w _).symm.trans hw2;have hri:rd (rd_L2 Mr (i:Int)) (j:Int)=x:=by rw [← hxe];simp [rd,rd_L2,Cz.en]
         have hrj:rd (rd_L2 V (j:Int)) (m:Int)=y:=by rw [← hye];simp [rd,rd_L2,Cz.en]
         have hli:(rd_L2 Mr (i:Int)).length=Qr.length:=by rw [← hr1];simp [rd_L2]
         have hlj:(rd_L2 V (j:Int)).length=Qr.length:=by rw [← hr2];simp [rd_L2]
         have HWJ:=q_ hwj;have HG3:=q_ hg3;have HJT:=q_ hjt;have aa:=q_ ho2;have HRI:=q_ hri;have HRJ:=q_ hrj;have HLI:=q_ hli;have HLJ:=q_ hlj;have HLM:=q_ hlm;have HLV:=q_ hlv;clear hj' hg3 hjt hwj hb1 hb2 hx hy hxy es hlm hlv h5 hr1 hr2 ho ho2 hxe hye hri hrj hli hlj;have hz19_0:=cz_ (q_ (AL.out.now.2.2.1)) 0;have hz19_1:=cz_ (q_ (AL.out.now.2.2.1)) 1
         go_wp2_with fail
         clear hz19_0 hz19_1;have hb:Below wr.heap.size wr wr.drew:=below_drew (Below.refl _ _);replace AL:=q_ (AL.out.mv hb);replace HB:=q_ (below_step HB.out hb);clear hb;have hz0:=cz_ (q_ (AL.out.now.2.2.1)) 0;obtain⟨adM,AM,cM_,eb,hxM,hlM,hiM⟩:=at_L2 (AL.out.now.2.2.2.2.1) (i:Int) h0z (by rw [HLM.out];exact hltz);subst eb;rw [HLI.out] at hxM hlM hiM;rw [Int.toNat_natCast] at hxM;obtain⟨adN,eb,hxN⟩:=Kd.at_int hiM (j:Int) h0j hjtz;subst eb;rw [HRI.out,Int.toNat_natCast] at hxN;obtain⟨adV,AV,cV_,eb,hxV,hlV,hiV⟩:=at_L2 (AL.out.now.2.1) (j:Int) h0j (by rw [HLV.out];exact hjtz);subst eb;rw [HLJ.out] at hxV hlV hiV;rw [Int.toNat_natCast] at hxV;obtain⟨adX,eb,hxX⟩:=Kd.at_int hiV (m:Int) h0m hmtz;subst eb;rw [HRJ.out,Int.toNat_natCast] at hxX;rw [HLM.out] at hz0;have hjv:(j:Int) < (V.length:Int):=by rw [HLV.out];exact hjtz
         clear hiM hlM hiV hlV;refine st_ (n:=19) (S:=fun w'=>w'.cell? ⟨g19,0,none⟩=some (.slice (some adM) Qr.length crm)∧w'.cell? (adM.add i)=some (.slice (some adN) Qr.length cM_)∧w'.cell? (adN.add j)=some (.int .i64 x)∧w'.cell? (adV.add j)=some (.slice (some adX) Qr.length cV_)∧w'.cell? (adX.add m)=some (.int .i64 y)) (ds:= []) ⟨hz0,hxM,hxN,hxV,hxX⟩ (fun hHeld=>?_)
         clear hz0 hxM hxN hxV hxX
         generalize wr.drew=w81 at AL HB hHeld ⊢
         refine pu_ 0 184 ?_
         refine pu_ 1 185 ?_
         refine pu_ 3 187 ?_
         refine pu_ 6 190 ?_
         refine pu_ 9 193 ?_
         refine pu_ 10 194 ?_
         refine pu_ 11 195 ?_
         refine pu_ 13 197 ?_
         refine tk_ 2 186 ?_
         refine pu_ 4 188 ?_
         refine tk_ 5 189 ?_
         refine pu_ 7 191 ?_
         refine tk_ 8 192 ?_
         refine tk_ 12 196 ?_
         refine pu_ 14 198 ?_
         refine tk_ 15 199 ?_
         refine pu_ 16 200 ?_
         refine pu_ 17 201 ?_
         refine pu_ 18 32 ?_
         refine done_ (by kernel_rfl) ?_
         clear hHeld;go_wp2
         go_roundg (Qr.length - (j+1))
         case measure=>have:=HG3.out;have:=HJT.out;omega
         case rel=>exact⟨j+1,HJT.out,by omega,by first | rfl | (have h_:=HWJ.out;rw [i64_w] at h_;rw [h_]) | (rw [HWJ.out]),by rw [aa.out],AL,HB⟩
        ·have hjtz: ¬ (j:Int) < (Qr.length:Int):=by omega
         obtain rfl:j=Qr.length:=by omega
         clear hj' hg3 hjt HSM;rw [P8.out i m HLT.out HMT.out]
         by_cases him:i=m
         ·have z1:((i:Int)==(m:Int))=true:=by simp [him]
          have z2:((i:Int) !=(m:Int))=false:=by simp [him]
          rw [if_pos him];clear him;have hz19_0:=cz_ (q_ (AL.out.now.2.2.1)) 0;have hz19_1:=cz_ (q_ (AL.out.now.2.2.1)) 1;go_wp2
          go_roundg (Qr.length - (m+1))
          case measure=>have:=HG2.out;have:=HMT.out;omega
          case rel=>exact⟨m+1,HMT.out,by omega,by first | rfl | (have h_:=HWM.out;rw [i64_w] at h_;rw [h_]) | (rw [HWM.out]),AL,HB⟩
         ·have z1:((i:Int)==(m:Int))=false:=by simpa using (show ¬ (i:Int)=(m:Int) by omega)
          have z2:((i:Int) !=(m:Int))=true:=by simpa using (show ¬ (i:Int)=(m:Int) by omega)
          rw [if_neg him];have him2:=q_ him;clear him;have hz19_0:=cz_ (q_ (AL.out.now.2.2.1)) 0;have hz19_1:=cz_ (q_ (AL.out.now.2.2.1)) 1;go_wp2
          go_roundg (Qr.length - (m+1))
          case measure=>have:=HG2.out;have:=HMT.out;omega
          case rel=>exact⟨m+1,HMT.out,by omega,by first | rfl | (have h_:=HWM.out;rw [i64_w] at h_;rw [h_]) | (rw [HWM.out]),AL,HB⟩
      ·have hmtz: ¬ (m:Int) < (Qr.length:Int):=by omega
       clear hm' hg2 hmt;go_wp2
       go_roundg (Qr.length - (i+1))
       case measure=>have:=HG1.out;have:=HLT.out;omega
       case rel=>exact⟨i+1,HLT.out,by omega,by first | rfl | (have h_:=HWI.out;rw [i64_w] at h_;rw [h_]) | (rw [HWI.out]),AL,HB⟩
    ·have hltz: ¬ (i:Int) < (Qr.length:Int):=by omega
     clear hi' hg1 hlt;go_wp2
     go_meet
     case rel=>exact⟨⟨⟨fun w2 h2=>⟨(AL.out.all w2 h2).2.2.2.2.2.1,(AL.out.all w2 h2).2.2.2.2.2.2.2.2.1,(AL.out.all w2 h2).2.2.2.2.2.2.1,(AL.out.all w2 h2).2.2.2.2.2.2.2.1,(AL.out.all w2 h2).2.2.2.2.2.2.2.2.2.1,(AL.out.all w2 h2).2.2.2.2.2.2.2.2.2.2.1,(AL.out.all w2 h2).2.2.2.2.2.2.2.2.2.2.2.1,(AL.out.all w2 h2).2.2.2.2.2.2.2.2.2.2.2.2.2.2.1,(AL.out.all w2 h2).1,(AL.out.all w2 h2).2.2.2.2.2.2.2.2.2.2.2.2.1,(AL.out.all w2 h2).2.2.2.2.2.2.2.2.2.2.2.2.2.1,(AL.out.all w2 h2).2.2.2.2.2.2.2.2.2.2.2.2.2.2.2.1,(AL.out.all w2 h2).2.2.2.2.2.2.2.2.2.2.2.2.2.2.2.2.1,trivial⟩⟩⟩,HB⟩
  ·have ck1:(ci==0)=false:=by simpa using ck
   go_wp2
   go_meet
   case rel=>exact⟨⟨⟨fun w2 h2=>⟨(AL.out.all w2 h2).2.2.2.2.2.1,(AL.out.all w2 h2).2.2.2.2.2.2.2.2.1,(AL.out.all w2 h2).2.2.2.2.2.2.1,(AL.out.all w2 h2).2.2.2.2.2.2.2.1,(AL.out.all w2 h2).2.2.2.2.2.2.2.2.2.1,(AL.out.all w2 h2).2.2.2.2.2.2.2.2.2.2.1,(AL.out.all w2 h2).2.2.2.2.2.2.2.2.2.2.2.1,(AL.out.all w2 h2).2.2.2.2.2.2.2.2.2.2.2.2.2.2.1,(AL.out.all w2 h2).1,(AL.out.all w2 h2).2.2.2.2.2.2.2.2.2.2.2.2.1,(AL.out.all w2 h2).2.2.2.2.2.2.2.2.2.2.2.2.2.1,(AL.out.all w2 h2).2.2.2.2.2.2.2.2.2.2.2.2.2.2.2.1,(AL.out.all w2 h2).2.2.2.2.2.2.2.2.2.2.2.2.2.2.2.2.1,trivial⟩⟩⟩,HB⟩
 case rest=>clear AL HB;obtain⟨AL,HB⟩:=hcut;rename_i hk;exact hk _ _ (laws_FnPivots.after162_walk HP Cpm Cpq C5r C5s HQ Cqm Cqq C11r C11s AL HB)
theorem laws_FnPivots.small (A0:Option Addr) (c0:Nat) (l0:List Int) (w:World) (hr0:Kd.C (Kd.int .u8) w A0 l0.length l0) (hc0:l0.length≤c0) (h0:(l0.length:Int) > 4096):
  Calls Try.prog 4 #[.slice A0 l0.length c0] w fun e w'=>e= .returned (.bool true)∧Below w.heap.size w w':=by
 have HR0:=q_ hr0;have HC0:=q_ hc0;have H0:=q_ h0;clear hr0 hc0 h0
 go_enter Try.func4,Try.ntmps4
 go_wp2_with fail
 refine(laws_big.calls A0 c0 l0 true _ HR0.out HC0.out (by unfold laws_big.f;rw [decide_eq_true H0.out])).mono ?_
 rintro e w2 ⟨rfl,hd⟩;have hb:=q_ (Al.drawn_below hd);clear hd;go_wp2
 go_ret
 exact⟨rfl,hb.out⟩
open Classical in
noncomputable def laws_FnPivots.f (k:Nat) (l0:List Int):Option Bool:=if(l0.length:Int) > 4096∨(∀i:Nat,0≤l0.getD i 0∧l0.getD i 0≤255) then some true else none
theorem laws_FnPivots.calls (k:Nat) (A0:Option Addr) (c0:Nat) (l0:List Int) (r:Bool) (w:World) (hr0:Kd.C (Kd.int .u8) w A0 l0.length l0) (hc0:l0.length≤c0) (h:laws_FnPivots.f k l0=some r):
  Calls Try.prog 4 #[.slice A0 l0.length c0] w fun e w'=>e= .returned (.bool r)∧Below w.heap.size w w':=by
 unfold laws_FnPivots.f at h
 split at h
 case isFalse=>cases h
 rename_i hok
 cases h
 by_cases h1:(l0.length:Int) > 4096
 ·exact laws_FnPivots.small A0 c0 l0 w hr0 hc0 h1
 ·exact laws_FnPivots.walk ⟨hr0⟩ ⟨hc0⟩ ⟨hok.resolve_left h1⟩ ⟨by omega⟩
end Go.Proofs.Ytbjljcpngbhkeaa.Pr
end
section
namespace Go.Proofs.YtbjljcpngbhkeaaW.PrintWords
open Go.ChangeShapes Go.WideShapes
end Go.Proofs.YtbjljcpngbhkeaaW.PrintWords
end
section
namespace Go.Proofs.Ytbjljcpngbhkeaa.Op
open Go.ChangeShapes Go.WideShapes Go.ChangeAt Go.RowKit Go.Deep Go.Joins Go.Proofs.YtbjljcpngbhkeaaW.PrintWords
def Opens (P:Program) (t:TypeId) {α:Type} (d:Kd α) (G:α→Prop):Prop:=
 ∀(H:Type) (enc:TypeId × Value→H) (w:World) (base:Nat) (held:Bool) (fuel:Nat) (cs:List Value) (x:DataW H × List MemPlace),
  DataW.trod enc P w base (fun _=>true) held fuel t cs=some x→ ∃a,d.K w a cs∧G a
def GoodInt (k:IntKind) (n:Int):Prop:=(Lit.int k n).wf=true
def GoodList {α:Type} (G:α→Prop) (l:List α):Prop:=l.length≤maxLen∧ ∀x ∈ l,G x
theorem opens_int {P:Program} {t:TypeId} {k:IntKind} (ht:P.underlying t=some (.int k)):Opens P t (Kd.int k) (GoodInt k):=by
 intro H enc w base held fuel cs x h
 obtain⟨n,rfl,_,hw⟩:=DataW.trod_int ht h
 exact⟨n,rfl,hw⟩
theorem opens_slice {P:Program} {t e:TypeId} {α:Type} [Inhabited α] {d:Kd α} {G:α→Prop} (ht:P.underlying t=some (.slice e)) (hc:P.cellsOf e=d.sz) (he:Opens P e d G):
  Opens P t (Kd.slice e d) (GoodList G):=by
 intro H enc w base held fuel cs x h
 rcases open_slice ht h with ⟨rfl,_⟩ | ⟨a,len,cap,m,n,D,Pl,rfl,hb,hl,hm,hmm,_,hx⟩
 ·exact⟨[],⟨none,0,rfl,Nat.le_refl _,⟨rfl,Nat.zero_le _,fun hn=>absurd hn (Nat.lt_irrefl 0)⟩⟩,⟨Nat.zero_le _,fun x hx=>by cases hx⟩⟩
 ·simp only [if_true] at hmm
  subst hmm
  have each: ∀i,i < m→ ∃y:α,(∃c,c.length=d.sz∧d.K w y c∧ ∀j u,c[j]?=some u→w.cell? (a.add (i*d.sz+j))=some u)∧G y:=by
   intro i hi
   obtain⟨cs',h1,h2⟩:=hx i hi
   obtain⟨_,hlen,hcell⟩:=World.cells?_some h1
   obtain⟨y,hy,hg⟩:=he H enc w base held n cs' _ h2
   rw [hc] at hlen hcell
   refine⟨y,⟨cs',hlen,hy,fun j u hu=>?_⟩,hg⟩
   have hj:j < d.sz:=by rw [← hlen];exact(List.getElem?_eq_some_iff.1 hu).1
   rw [← hu, ← hcell j hj]
   congr 1
   unfold Addr.add
   by_cases h1:i*d.sz=0 <;> by_cases h2:j=0 <;> simp [h1,h2,Nat.add_assoc]
  obtain⟨Y,hY⟩:=choose_lt each
  have hmax:m≤9223372036854775807:=by unfold maxLen at hm;omega
  refine⟨(List.range len).map Y,⟨some a,m,by simp,by simpa using hl,?_⟩,by simp;omega,?_⟩
  ·refine⟨rfl,by simp;omega,fun _=>⟨a,rfl,fun j p hj=>?_⟩⟩
   have hjl:j < len:=by have:=(List.getElem?_eq_some_iff.1 hj).1;simpa using this
   have hp:p=Y j:=by
    rw [List.getElem?_map,List.getElem?_range hjl] at hj
    simpa using hj.symm
   subst hp
   exact(hY j (by omega)).1
  ·intro y hy
   obtain⟨j,hj,rfl⟩:=List.mem_map.1 hy
   exact(hY j (by have:=List.mem_range.1 hj;omega)).2
section
variable {P:Program} {W:World} {H:Type} {enc:TypeId × Value→H} {base:Nat} {held:Bool} {t:TypeId} {v:Value} {dd:DataW H} {ps:List MemPlace} {r:Reach} {b0:Nat}
theorem arg_slice {e:TypeId} {α:Type} [Inhabited α] {d:Kd α} {G:α→Prop} (ht:P.underlying t=some (.slice e)) (hc:P.cellsOf e=d.sz) (he:Opens P e d G) (hv:Value.okWide P W r b0 t v) (h:DataW.Trod enc P W base (fun _=>true) held t v dd ps):
  ∃A c l,v= .slice A l.length c∧l.length≤c∧d.C W A l.length l∧GoodList G l:=by
 obtain⟨A,len,cap,rfl⟩:=okWide_slice ht hv
 obtain⟨fuel,hf⟩:=h
 obtain⟨l,⟨A',c',hcs,hl,hr⟩,hg⟩:=opens_slice ht hc he H enc W base held fuel _ _ hf
 simp [Value.cells] at hcs
 obtain⟨rfl,rfl,rfl⟩:=hcs
 exact⟨_,_,l,rfl,hl,hr,hg⟩
theorem trod_blocks (h:DataW.Trod enc P W base (fun _=>true) held t v dd ps): ∀x ∈ ps,x.block < W.heap.size:=by
 obtain⟨m,hm⟩:=h
 exact DataW.trod_lt m _ _ _ hm
end
end Go.Proofs.Ytbjljcpngbhkeaa.Op
end
section
namespace Go.Proofs.Ytbjljcpngbhkeaa.Say
open Go.Proofs.Ytbjljcpngbhkeaa.Op Go.Proofs.Ytbjljcpngbhkeaa.Pr
def FnPivots:Prop:= ∀(l0:List Int),GoodList (GoodInt .u8) l0→ ∃k,laws_FnPivots.f k l0=some true
end Go.Proofs.Ytbjljcpngbhkeaa.Say
end
section
namespace Go.Proofs.Ytbjljcpngbhkeaa.Pure
open Go.RowKit Go.Proofs.YtbjljcpngbhkeaaW.PrintWords Go.Proofs.YtbjljcpngbhkeaaW.PrintMore Go.Proofs.Ytbjljcpngbhkeaa.Pr Go.Proofs.Ytbjljcpngbhkeaa.Op
theorem bytes_of {l:List Int} (h:GoodList (GoodInt .u8) l): ∀i:Nat,0≤l.getD i 0∧l.getD i 0≤255:=fun i=>by
 by_cases c:i < l.length
 ·have hm:=h.2 l[i] (List.getElem_mem c)
  replace hm:(decide (IntKind.u8.min≤l[i]) && decide (l[i]≤IntKind.u8.max))=true:=hm
  have h2:IntKind.u8.min=0∧IntKind.u8.max=255:=by decide
  rw [h2.1,h2.2,Bool.and_eq_true,decide_eq_true_eq,decide_eq_true_eq] at hm
  rw [List.getD_eq_getElem?_getD,List.getElem?_eq_getElem c]
  exact hm
 ·rw [List.getD_eq_getElem?_getD,List.getElem?_eq_none (by omega)]
  exact⟨by decide,by decide⟩
theorem FnPivots:Say.FnPivots:=fun l0 hg=>⟨0,by
 classical
 unfold laws_FnPivots.f
 rw [if_pos (.inr (bytes_of hg))]⟩
end Go.Proofs.Ytbjljcpngbhkeaa.Pure
end
section
namespace Go.Proofs.Ytbjljcpngbhkeaa.fnPivots
open Go.ChangeShapes Go.WideShapes Go.ChangeAt Go.RowKit Go.Proofs.Ytbjljcpngbhkeaa.Op Go.Proofs.YtbjljcpngbhkeaaW.PrintWords
theorem own:ownKnob Try.prog.godebug=none:=by kernel_rfl
theorem laidOut:laidOutB Try.prog=true:=by kernel_rfl
theorem lifted (os:Os) (started:os.Started) (H:Type) (enc:TypeId × Value→H):
  ReturnsInHanded {} Try.checked os 4 .any (Rows.fnPivotsSpec.pre6 enc Try.prog Try.f4 Rows.fnPivotsRow.domain false) (Rows.fnPivotsSpec.post enc Try.prog Try.f4 false true false false):=by
 refine returnsInHanded_of_change_sized (C:=Try.checked) own started (by kernel_rfl) Try.func4
  (ChangeSpec.witness6 (enc:=enc) (C:=Try.checked) false ⟨#[], #[.slice none 0 0], []⟩ 8 (by kernel_rfl) (by kernel_rfl) (by kernel_rfl) (by kernel_rfl)) ?_
 intro W base args ds gs before hval0 hW hcnd hsz0 _
 have hval: ∀(j:Nat) t v,Try.f4.params[j]?=some t→args[j]?=some v→Value.okWide Try.prog W .any base t v:=hval0
 have hW':=hW
 obtain⟨p,q,hA0,hV,rfl,hfz,hnd⟩:=hW
 have hA:DataW.TrodAll enc Try.prog W 0 (fun _=>true) true Try.f4.params.toList args.toList ds p:=hA0
 rw [Try.params4] at hA hval
 obtain⟨v0,vs0,d0,ds0,p0,q0,hargs,rfl,rfl,h0,r0⟩:=trodAll_cons hA
 obtain⟨rfl,rfl,rfl⟩:=trodAll_nil r0
 obtain rfl:args= #[v0]:=by cases args;simp_all
 obtain⟨rfl,rfl⟩:=trodVars_none hV
 have k0:=h0
 have lt0:=trod_blocks k0
 obtain⟨A0,c0,l0,rfl,q0_0,r0_0,g0⟩:=arg_slice (d:=(Kd.int .u8)) Try.underlying22 (by kernel_rfl) (opens_int Try.underlying5) (hval 0 22 v0 rfl rfl) h0
 obtain⟨k,h⟩:=Pure.FnPivots l0 g0
 clear hA0 hval0 hsz0
 refine(Pr.laws_FnPivots.calls k A0 c0 l0 true W r0_0 q0_0 h).mono ?_
 rintro e W' ⟨rfl,bel0⟩
 have bel:Below W.heap.size W W':=by first | exact bel0 | exact bel0.below
 exact⟨_,rfl,_,_,_, [],_, [],hW',trodAll_mk1 (shut_bool Try.underlying4 _),(trodAll_cons_mk (Below.trod laidOut (by kernel_rfl) (of_decide_eq_true (by kernel_rfl)) k0 bel lt0) trodAll_mk0),rfl,bel.frame _,fun h=>by cases h⟩
theorem over:Rows.fnPivotsRow.holds Try.pinned (OpenSpec.ofChange Rows.fnPivotsSpec):=
 OpenClaim.holds_of_wide 4 Try.f4 rfl rfl rfl rfl rfl rfl rfl ⟨rfl,rfl,rfl,rfl,rfl⟩ rfl rfl rfl rfl rfl (by kernel_rfl) Try.func4 (by kernel_rfl)
  (of_decide_eq_true (by kernel_rfl)) (by unfold Func.isWrapper;first | (rw [if_pos (by decide+kernel)];kernel_rfl) | (rw [if_neg (by decide+kernel)];exact⟨rfl,rfl⟩))
  (fun os started H enc _=>lifted os started H enc)
theorem proved:Rows.FnPivotsSaid:=over
#print axioms proved
end Go.Proofs.Ytbjljcpngbhkeaa.fnPivots
namespace Go.Proofs.Ytbjljcpngbhkeaa
theorem fnPivots_holds:Rows.FnPivotsSaid:=fnPivots.proved
end Go.Proofs.Ytbjljcpngbhkeaa
end
