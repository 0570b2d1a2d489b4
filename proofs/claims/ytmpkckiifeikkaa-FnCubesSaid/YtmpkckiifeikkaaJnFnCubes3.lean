/- Texts of one claim (the words of the kit's print that the claim uses, printed functions, and this session's own texts), joined in the order of their imports by this session's own program (merge.py). -/
import Derived.Test.YtmpkckiifeikkaaJnFnCubes0
import Derived.Test.YtmpkckiifeikkaaJnFnCubes1
import Derived.Test.YtmpkckiifeikkaaJnFnCubes2
set_option linter.unusedVariables false
set_option linter.unusedSimpArgs false
set_option maxHeartbeats 8000000
set_option maxRecDepth 100000
section
namespace Go.Proofs.Ytmpkckiifeikkaa.Pr
open Go.RowKit Go.Proofs.YtmpkckiifeikkaaW.PrintWords Go.Proofs.YtmpkckiifeikkaaW.PrintLast Go.Proofs.YtmpkckiifeikkaaW.PrintMore
attribute [local go_sem] max2_int min2_int max_two min_two max_three min_three max_four min_four
def spec_DrawFaceOf.f (k:Nat) (l0:List Int):Option (Int × List Int × Int × Int):=(spec_l01From.f k l0).bind fun ae=>((spec_l06With.f k l0).bind fun aa=>((spec_l01Next.f ae.1 ae.2.1 ae.2.2 (aa.2.1.length:Int)).bind fun af=>(some (aa.1,aa.2.1,aa.2.2,af.1))))
theorem spec_DrawFaceOf.mono: ∀a0 k,LeO (spec_DrawFaceOf.f k a0) (spec_DrawFaceOf.f (k+1) a0):=by
 intro a0 k
 unfold spec_DrawFaceOf.f
 repeat' first
   | (with_reducible exact spec_l01From.mono _ _)
   | (with_reducible exact spec_l06With.mono _ _)
   | (with_reducible exact LeO.refl _)
   | (with_reducible exact LeO.none _)
   | (with_reducible refine LeO.ite ?_ ?_)
   | (with_reducible refine LeO.bind ?_ (fun _=>?_))
   | exact spec_l01From.mono _ _
   | exact spec_l06With.mono _ _
   | exact LeO.none _
   | refine LeO.ite ?_ ?_
   | refine LeO.bind ?_ (fun _=>?_)
def spec_DrawFaceOf.T3:Bool × List (List Nat × List Nat):=(true, [([], []),([], []),([], []),([], []),([3], [3]),([4], [4]),([2,5], [2,5]),([0,6,0], [0]),([1,7,0,1,7], [1]),([6,8,0,1,2,3,4,5,6,7,8], [6])])
def spec_DrawFaceOf.B3:List Nat:= [0,0,0,0,8,24,60,125,255,511]
theorem spec_DrawFaceOf.tab3:rtab .any (opsOf Try.f50 3)=spec_DrawFaceOf.T3:=by kernel_rfl
theorem spec_DrawFaceOf.bits3:waitsOk spec_DrawFaceOf.T3.2 spec_DrawFaceOf.B3=true:=by kernel_rfl
theorem spec_DrawFaceOf.calls (k:Nat) (A0:Option Addr) (c0:Nat) (l0:List Int) (r1:Int) (r2:List Int) (r3:Int) (r4:Int) (w:World) (hr0:Kd.C (Kd.int .u8) w A0 l0.length l0) (hc0:l0.length≤c0) (h:spec_DrawFaceOf.f k l0=some (r1,r2,r3,r4)):
  Calls Try.prog 50 #[.slice A0 l0.length c0] w fun e w'=> ∃v1_:Value,e= .returned (.tuple #[.agg #[.int .i64 r1,v1_], .int .i64 r3, .int .i64 r4])∧Kd.R (Kd.int .i64) 2 w' w.heap.size (fun _=>True) v1_ r2∧Below w.heap.size w w':=by
 have hu64:=Try.underlying64
 have HR0:=Aside0.mk hr0
 have HC0:=Aside0.mk hc0
 clear hr0 hc0
 have HB:=Aside0.mk (Below.refl w.heap.size w)
 have H:((spec_l01From.f k l0).bind fun aK=>((spec_l06With.f k l0).bind fun av=>((spec_l01Next.f aK.1 aK.2.1 aK.2.2 (av.2.1.length:Int)).bind fun aG=>(some (av.1,av.2.1,av.2.2,aG.1)))))=some (r1,r2,r3,r4):=h
 clear h
 replace H:=Option.bind_eq_some_iff.mp H
 obtain⟨⟨aA,aC,aD⟩,A20,H⟩:=H
 replace H:((spec_l06With.f k l0).bind fun av=>((spec_l01Next.f aA aC aD (av.2.1.length:Int)).bind fun aG=>(some (av.1,av.2.1,av.2.2,aG.1))))=some (r1,r2,r3,r4):=H
 have A2:=Aside0.mk A20
 clear A20
 replace H:=Option.bind_eq_some_iff.mp H
 obtain⟨⟨ai,af,aT⟩,A30,H⟩:=H
 replace H:((spec_l01Next.f aA aC aD (af.length:Int)).bind fun aG=>(some (ai,af,aT,aG.1)))=some (r1,r2,r3,r4):=H
 have A3:=Aside0.mk A30
 clear A30
 replace H:=Option.bind_eq_some_iff.mp H
 obtain⟨⟨aU,aV,aW⟩,A40,H⟩:=H
 replace H:(some (ai,af,aT,aU))=some (r1,r2,r3,r4):=H
 have A4:=Aside0.mk A40
 clear A40
 simp only [Option.some.injEq,Prod.mk.injEq] at H
 obtain⟨rfl,rfl,rfl,rfl⟩:=H
 go_enter Try.func50,Try.ntmps50
 try go_wp2_with (first | ((with_reducible refine gate_dst (N:=2) rfl ?_);refine box_event ?hg (N:=2) ?hd (cs:= #[.int .i64 0, .slice none 0 0]) (t:=64) ?hr ?_;(case hd=>rfl);(case hg=>rfl);(case hr=>first | (go_simp;done) | (go_simp;rfl));intro ah hg w5 hbox hb;have ae:=Aside0.mk (hbox);have bf:=Aside0.mk ((by rw [hg];exact bz_:w.heap.size≤ah));have aw:=Aside0.mk ((by rw [hg];exact bz_:w.heap.size≤ah));replace HB:=Aside0.mk (bs_ hb);clear hb hbox hg) | ((with_reducible refine gate_callee (f:=101) rfl ?_);refine gL_ 9 Try.func101 #[.slice A0 l0.length c0] ?_;(with_reducible refine(spec_l01From.calls k _ _ l0 aA aC aD w _ ?aI ?aJ ?aX A2.out).mono ?_);(case aI=>repeat (first | (with_reducible first | exact HB.out | apply below_alloc | apply pw_below_drewN | apply below_drew1 | refine below_set ?_ aw.out) | exact HB.out));(case aJ=>exact HR0.out);(case aX=>exact HC0.out);rintro e w6 ⟨g1031,rfl,hi,hb,hb2⟩;refine⟨_,rfl,?_⟩;replace HB:=Aside0.mk (hb);have HI1031:=Aside0.mk (hi);have aj:=Aside0.mk (IsS168.ne_blk hi (bb_ ae.out hb2) (by decide));have aN:=Aside0.mk (Ne.symm (IsS168.ne_blk hi (bb_ ae.out hb2) (by decide)));replace ae:=Aside0.mk (bb_ ae.out hb2);(try clear hb);(try clear hb2);(try clear hk);(try clear hi)) | ((with_reducible refine gate_callee (f:=133) rfl ?_);refine gL_ 12 Try.func133 #[.slice A0 l0.length c0] ?_;(with_reducible refine(spec_l06With.calls k _ _ l0 ai af aT _ ?aI ?aJ A3.out).mono ?_);(case aI=>exact cb_ HR0.out HB.out);(case aJ=>exact HC0.out);rintro e w7 ⟨bh,rfl,ho0,hb⟩;refine⟨_,rfl,?_⟩;have aq:=Aside0.mk (Kd.R_lower ho0 (below_size (by repeat (first | (with_reducible first | exact HB.out | apply below_alloc | apply pw_below_drewN | apply below_drew1 | refine below_set ?_ (IsS168.ge HI1031.out) | refine below_set ?_ aw.out) | exact HB.out))));replace ae:=Aside0.mk (bb_ ae.out hb);replace HB:=Aside0.mk (below_step (by repeat (first | (with_reducible first | exact HB.out | apply below_alloc | apply pw_below_drewN | apply below_drew1 | refine below_set ?_ (IsS168.ge HI1031.out) | refine below_set ?_ aw.out) | exact HB.out)) hb);replace HI1031:=Aside0.mk (IsS168.below (by repeat (first | (with_reducible first | exact HI1031.out | apply IsS168.alloc | apply IsS168.drewN | apply IsS168.drew | apply IsS168.set_1 | apply IsS168.set_2 | refine IsS168.far ?_ aj.out _) | exact HI1031.out)) hb);(try clear hb);(try clear hb2);(try clear hk);(try clear hi);(try clear ho0)) | ((with_reducible refine gate_dst (N:=6) rfl ?_);refine box_event ?hg (N:=6) ?hd (cs:= #[.int .i64 0, .slice none 0 0]) (t:=64) ?hr ?_;(case hd=>rfl);(case hg=>rfl);(case hr=>first | (go_simp;done) | (go_simp;rfl));intro aa hg w8 hbox hb;replace aq:=Aside0.mk (rb_ aq.out hb);have ag:=Aside0.mk (hbox);have bg:=Aside0.mk ((by rw [hg];exact(below_size (by repeat (first | (with_reducible first | exact HB.out | apply below_alloc | apply pw_below_drewN | apply below_drew1 | refine below_set ?_ (IsS168.ge HI1031.out) | refine below_set ?_ aw.out) | exact HB.out))):w.heap.size≤aa));have aM:=Aside0.mk ((by rw [hg];exact(below_size (by repeat (first | (with_reducible first | exact HB.out | apply below_alloc | apply pw_below_drewN | apply below_drew1 | refine below_set ?_ (IsS168.ge HI1031.out) | refine below_set ?_ aw.out) | exact HB.out))):w.heap.size≤aa));have au:=Aside0.mk ((by rw [hg];exact lt_ ae.out:ah≠aa));have ak:=Aside0.mk ((by rw [hg];exact gt_ ae.out:aa≠ah));have az:=Aside0.mk ((by rw [hg];exact Nat.ne_of_lt (IsS168.lt (show IsS168 w _ g1031 aA aC aD from by repeat (first | (with_reducible first | exact HI1031.out | apply IsS168.alloc | apply IsS168.drewN | apply IsS168.drew | apply IsS168.set_1 | apply IsS168.set_2 | refine IsS168.far ?_ aj.out _) | exact HI1031.out))):g1031≠aa));have aH:=Aside0.mk ((by rw [hg];exact Nat.ne_of_gt (IsS168.lt (show IsS168 w _ g1031 aA aC aD from by repeat (first | (with_reducible first | exact HI1031.out | apply IsS168.alloc | apply IsS168.drewN | apply IsS168.drew | apply IsS168.set_1 | apply IsS168.set_2 | refine IsS168.far ?_ aj.out _) | exact HI1031.out))):aa≠g1031));replace ae:=Aside0.mk (bb_ ae.out hb);replace HB:=Aside0.mk (below_step (by repeat (first | (with_reducible first | exact HB.out | apply below_alloc | apply pw_below_drewN | apply below_drew1 | refine below_set ?_ (IsS168.ge HI1031.out) | refine below_set ?_ aw.out) | exact HB.out)) hb);replace HI1031:=Aside0.mk (IsS168.below (by repeat (first | (with_reducible first | exact HI1031.out | apply IsS168.alloc | apply IsS168.drewN | apply IsS168.drew | apply IsS168.set_1 | apply IsS168.set_2 | refine IsS168.far ?_ aj.out _) | exact HI1031.out)) hb);clear hb hbox hg;have bn:=ak.out;have bq:=au.out;have bi:=aH.out;have bk:=az.out;have aZ:w8.cell? ⟨aa,0,none⟩=some (.int .i64 0):=(blk_cell ag.out 0).trans rfl;have a9:w8.cell? ⟨aa,1,none⟩=some (.slice none 0 0):=(blk_cell ag.out 1).trans rfl;have ba:=blk_frozen ag.out 0;have bb:=blk_frozen ag.out 1;obtain⟨ax,ay,aY⟩:=Kd.R_slice aq.out;subst aY))
 have n0_:Aside0 (Kd.R (Kd.int .i64) 2 ((w8.setCell ⟨aa,0,none⟩ (.int .i64 ai)).setCell ⟨aa,1,none⟩ (.slice ax af.length ay)) w.heap.size (fun _=>True) (.slice ax af.length ay) af):=⟨by(with_reducible repeat (first | apply Kd.R_alloc | apply Kd.R_drewN | apply Kd.R_drew));exact Kd.R_mono (Kd.R_far (p:=⟨aa,1,none⟩) (Kd.R_far (p:=⟨aa,0,none⟩) (Kd.R_types aq.out ag.out (by decide)) (fun _ hk=>hk.2) (.int .i64 ai)) (fun _ hk=>hk.2) (.slice ax af.length ay)) (fun _ hk=>trivial)⟩
 have n1_:Aside0 (((w8.setCell ⟨aa,0,none⟩ (.int .i64 ai)).setCell ⟨aa,1,none⟩ (.slice ax af.length ay)).heap[ah]?=some (.cells #[.int .i64 0, .slice none 0 0] 64 (0,0))):=⟨by(with_reducible repeat (first | refine blk_drewN ?_ _ | refine blk_drew ?_ | refine blk_alloc ?_ _));refine blk_far ?_ au.out _;(with_reducible repeat (first | refine blk_drewN ?_ _ | refine blk_drew ?_ | refine blk_alloc ?_ _));refine blk_far ?_ au.out _;(with_reducible repeat (first | refine blk_drewN ?_ _ | refine blk_drew ?_ | refine blk_alloc ?_ _));exact ae.out⟩
 have n2_:Aside0 (((w8.setCell ⟨aa,0,none⟩ (.int .i64 ai)).setCell ⟨aa,1,none⟩ (.slice ax af.length ay)).heap[aa]?=some (.cells #[.int .i64 ai, .slice ax af.length ay] 64 (0,0))):=⟨by(with_reducible repeat (first | refine blk_drewN ?_ _ | refine blk_drew ?_ | refine blk_alloc ?_ _));refine blk_put (cs:= #[.int .i64 ai, .slice none 0 0]) ?_ 1 _ rfl;(with_reducible repeat (first | refine blk_drewN ?_ _ | refine blk_drew ?_ | refine blk_alloc ?_ _));refine blk_put (cs:= #[.int .i64 0, .slice none 0 0]) ?_ 0 _ rfl;(with_reducible repeat (first | refine blk_drewN ?_ _ | refine blk_drew ?_ | refine blk_alloc ?_ _));exact ag.out⟩
 have n3_:Aside0 (IsS168 w ((w8.setCell ⟨aa,0,none⟩ (.int .i64 ai)).setCell ⟨aa,1,none⟩ (.slice ax af.length ay)) g1031 aA aC aD):=⟨by repeat (first | (with_reducible first | exact HI1031.out | apply IsS168.alloc | apply IsS168.drewN | apply IsS168.drew | apply IsS168.set_1 | apply IsS168.set_2 | refine IsS168.far ?_ aj.out _ | refine IsS168.far ?_ az.out _) | exact HI1031.out)⟩
 have n4_:Aside0 (Below w.heap.size w ((w8.setCell ⟨aa,0,none⟩ (.int .i64 ai)).setCell ⟨aa,1,none⟩ (.slice ax af.length ay))):=⟨by repeat (first | (with_reducible first | exact HB.out | apply below_alloc | apply pw_below_drewN | apply below_drew1 | refine below_set ?_ (IsS168.ge HI1031.out) | refine below_set ?_ aw.out | refine below_set ?_ aM.out) | exact HB.out)⟩
 (try clear aq)
 (try clear ae)
 (try clear ag)
 (try clear HI1031)
 (try clear HB)
 generalize ((w8.setCell ⟨aa,0,none⟩ (.int .i64 ai)).setCell ⟨aa,1,none⟩ (.slice ax af.length ay))=w13 at n0_ n1_ n2_ n3_ n4_ ⊢
 have aq:=n0_
 have ae:=n1_
 have ag:=n2_
 have HI1031:=n3_
 have HB:=n4_
 clear n0_ n1_ n2_ n3_ n4_
 replace aq:=Aside0.mk (Kd.R_drew aq.out)
 replace ae:=Aside0.mk (blk_drew ae.out)
 replace ag:=Aside0.mk (blk_drew ag.out)
 replace HI1031:=Aside0.mk (IsS168.drew HI1031.out)
 replace HB:=Aside0.mk (below_drew1 HB.out)
 refine st_ (n:=10) (S:=fun w'=>w'.cell? ⟨aa,0,none⟩=some (.int .i64 ai)∧w'.cell? ⟨aa,1,none⟩=some (.slice ax af.length ay)) (ds:= []) ⟨(blk_cell ag.out 0).trans rfl,(blk_cell ag.out 1).trans rfl⟩ (fun hHeld=>?_);refine with_tabW spec_DrawFaceOf.tab3 spec_DrawFaceOf.bits3 (fun HT_ HW_=>?_)
 generalize w13.drew=w14 at aq ae ag HI1031 HB hHeld ⊢
 refine pu_ 1 16 ?_;refine pu_ 2 17 ?_;refine pu_ 3 18 ?_;refine tk_ 0 15 ?_;refine tk_ 4 19 ?_;refine pu_ 5 20 ?_
 refine on_ 6 (some 21) (fun K hK=>?_)
 refine goes_ Try.func100 (by kernel_rfl) rfl #[.pointer (some ⟨g1031,0,none⟩), .int .i64 (af.length:Int)] (by rfl) rfl rfl (by(try simp only [List.map_toArray,List.map_cons,List.map_nil]);first | done | rfl | (simp only [List.length_drop,List.length_take];rfl)) ?_
 with_reducible refine(spec_l01Next.calls g1031 aA aC aD (af.length:Int) aU aV aW w _ ?aI ?aJ A4.out).mono ?_
 (case aI=>repeat (first | (with_reducible first | exact HI1031.out | apply IsS168.alloc | apply IsS168.drewN | apply IsS168.drew | apply IsS168.set_1 | apply IsS168.set_2 | refine IsS168.far ?_ aj.out _ | refine IsS168.far ?_ az.out _) | exact HI1031.out))
 (case aJ=>repeat (first | (with_reducible first | exact HB.out | apply below_alloc | apply pw_below_drewN | apply below_drew1 | refine below_set ?_ (IsS168.ge HI1031.out) | refine below_set ?_ aw.out | refine below_set ?_ aM.out) | exact HB.out))
 rintro e w15 ⟨rfl,hi,hb,hk⟩
 refine⟨_,rfl,?_⟩
 replace ae:=Aside0.mk (KeepBut.blk hk (g':=ah) (o:= .cells #[.int .i64 0, .slice none 0 0] 64 (0,0)) bk_ aN.out (by simp))
 replace aq:=Aside0.mk (Kd.R_mono (Kd.R_keep (IsS168.apart (show IsS168 w _ g1031 aA aC aD from by repeat (first | (with_reducible first | exact HI1031.out | apply IsS168.alloc | apply IsS168.drewN | apply IsS168.drew | apply IsS168.set_1 | apply IsS168.set_2 | refine IsS168.far ?_ aj.out _ | refine IsS168.far ?_ az.out _) | exact HI1031.out)) (ro_ aq.out) (by decide)) hk (fun _ h=>h.2)) (fun _ h=>h.1))
 replace ag:=Aside0.mk (KeepBut.blk hk (g':=aa) (o:= .cells #[.int .i64 ai, .slice ax af.length ay] 64 (0,0)) bk_ aH.out (by simp))
 replace HB:=Aside0.mk (hb)
 replace HI1031:=Aside0.mk (hi)
 (try clear hb)
 (try clear hb2)
 (try clear hk)
 (try clear hi)
 refine hK.out _ _ ⟨(blk_cell ag.out 0).trans rfl,(blk_cell ag.out 1).trans rfl⟩ (fun hHeld=>?_)
 clear hK K
 refine norm_ (a':=?_) ?_ ?_
 rotate_left
 ·show Act.put _ (some 21) _=_
  simp only [Act.put,List.setIfInBounds_toArray,List.set_cons_zero,List.set_cons_succ,i64_w,i32_w]
  rfl
 refine on_ 7 none (fun K hK=>?_)
 have hs16:w15.cell? ⟨ah,0,none⟩=some (.int .i64 0):=(blk_cell ae.out 0).trans rfl
 have hfs16:=blk_frozen ae.out 0
 have hns16_1:=ak.out
 have hms16_1:=au.out
 have hs17:w15.cell? ⟨ah,1,none⟩=some (.slice none 0 0):=(blk_cell ae.out 1).trans rfl
 have hfs17:=blk_frozen ae.out 1
 have hns17_1:=ak.out
 have hms17_1:=au.out
 refine skip_ (w1:=?_) (by rfl) rfl ?_ ?_
 rotate_left
 ·go_simp
  rfl
 refine hK.out _ _ ⟨((cell_far (p:=⟨ah,_,none⟩) ak.out _).trans (((cell_far (p:=⟨ah,_,none⟩) ak.out _).trans (hHeld.1)))),((cell_far (p:=⟨ah,_,none⟩) ak.out _).trans (((cell_far (p:=⟨ah,_,none⟩) ak.out _).trans (hHeld.2))))⟩ (fun hHeld=>?_)
 clear hK K
 refine pu_ 8 3 ?_;refine pu_ 9 4 ?_
 refine done_ (done_of HT_.out (by kernel_rfl)) ?_
 try go_wp2
 refine bodyPost_ret (results_ctt rfl _ _ ah 64 #[.int .i64 ai, .slice ax af.length ay] (0,0) _ rfl (by(with_reducible repeat (first | refine blk_drewN ?_ _ | refine blk_drew ?_ | refine blk_alloc ?_ _));refine blk_put (cs:= #[.int .i64 ai, .slice none 0 0]) ?_ 1 _ rfl;(with_reducible repeat (first | refine blk_drewN ?_ _ | refine blk_drew ?_ | refine blk_alloc ?_ _));refine blk_put (cs:= #[.int .i64 0, .slice none 0 0]) ?_ 0 _ rfl;(with_reducible repeat (first | refine blk_drewN ?_ _ | refine blk_drew ?_ | refine blk_alloc ?_ _));exact ae.out) Try.underlying64 rfl (by kernel_rfl)) rfl ?_
 exact⟨_,by first | rfl | (simp [errW_none,errW_some] <;> rfl) | (simp [*,errW_none,errW_some] <;> rfl),by(with_reducible repeat (first | apply Kd.R_alloc | apply Kd.R_drewN | apply Kd.R_drew));exact Kd.R_mono (Kd.R_far (p:=⟨ah,1,none⟩) (Kd.R_far (p:=⟨ah,0,none⟩) (Kd.R_types aq.out ae.out (by decide)) (fun _ hk=>hk.2) (.int .i64 ai)) (fun _ hk=>hk.2) (.slice ax af.length ay)) (fun _ hk=>trivial),by repeat (first | (with_reducible first | exact HB.out | apply below_alloc | apply pw_below_drewN | apply below_drew1 | refine below_set ?_ (IsS168.ge HI1031.out) | refine below_set ?_ aw.out | refine below_set ?_ aM.out) | exact HB.out)⟩
def impl_Cube_isVertex.f (a0_0:Int) (ae:List Int) (a1:Int):Option (Bool):=(impl_within.f a1 0 (wrap64 ((ae.length:Int) - 1))).bind fun aa=>(some aa)
theorem impl_Cube_isVertex.calls (a0_0:Int) (ah:Option Addr) (ai:Nat) (aa:List Int) (a1:Int) (r:Bool) (w:World) (aj:Kd.C (Kd.int .i64) w ah aa.length aa) (ak:aa.length≤ai) (h:impl_Cube_isVertex.f a0_0 aa a1=some r):
  Calls Try.prog 134 #[.agg #[.int .i64 a0_0, .slice ah aa.length ai], .int .i64 a1] w fun e w'=>e= .returned (.bool r)∧Below w.heap.size w w':=by
 have hu64:=Try.underlying64
 have HR0_1:=Aside0.mk aj
 have HC0_1:=Aside0.mk ak
 clear aj ak
 have HB:=Aside0.mk (Below.refl w.heap.size w)
 have H:((impl_within.f a1 0 (wrap64 ((aa.length:Int) - 1))).bind fun ag=>(some ag))=some r:=h
 clear h
 replace H:=Option.bind_eq_some_iff.mp H
 obtain⟨ag,A30,H⟩:=H
 replace H:(some ag)=some r:=H
 have A3:=Aside0.mk A30
 clear A30
 obtain rfl:=Option.some.inj H
 go_enter Try.func134,Try.ntmps134
 go_wp2_with (first | ((with_reducible refine gate_dst (N:=2) rfl ?_);refine box_event ?hg (N:=2) ?hd (cs:= #[.int .i64 a0_0, .slice ah aa.length ai]) (t:=64) ?hr ?_;(case hd=>rfl);(case hg=>rfl);(case hr=>first | (go_simp;done) | (go_simp;rfl));intro ae hg w4 hbox hb;have af:=Aside0.mk (hbox);have aq:=Aside0.mk ((by rw [hg];exact bz_:w.heap.size≤ae));have au:=Aside0.mk ((by rw [hg];exact bz_:w.heap.size≤ae));replace HB:=Aside0.mk (bs_ hb);clear hb hbox hg;have av:w4.cell? ⟨ae,0,none⟩=some (.int .i64 a0_0):=(blk_cell af.out 0).trans rfl;have aw:w4.cell? ⟨ae,1,none⟩=some (.slice ah aa.length ai):=(blk_cell af.out 1).trans rfl;have ax:=blk_frozen af.out 0;have ay:=blk_frozen af.out 1) | ((with_reducible refine gate_callee (f:=117) rfl ?_);refine gL_ 10 Try.func117 #[.int .i64 a1, .int .i64 0, .int .i64 (wrap64 ((aa.length:Int) - 1))] ?_;(with_reducible refine(impl_within.calls a1 0 (wrap64 ((aa.length:Int) - 1)) ag _ A3.out).mono ?_);rintro e w' ⟨rfl,⟨nd,rfl⟩⟩;refine⟨_,rfl,?_⟩))
 go_ret
 exact⟨by first | rfl | (simp [errW_none,errW_some] <;> rfl) | (simp [*,errW_none,errW_some] <;> rfl),hb_⟩
def impl_count.l0:Nat→Int→Int→Option (Int)
 | 0,_,_=>none
 | k+1,x0,x3=>if x0 > 0 then(impl_count.l0 k (Go.bits .and .i64 x0 (wrap64 (x0 - 1))) (wrap64 (x3+1))) else(some x3)
def impl_count.f (k:Nat) (a0:Int):Option (Int):=impl_count.l0 k a0 0
theorem impl_count.mono_l: ∀k,(∀y0 y1,LeO (impl_count.l0 k y0 y1) (impl_count.l0 (k+1) y0 y1))
 | 0=>fun _ _ r h=>by simp [impl_count.l0] at h
 | k+1=>by
  have ih0:=impl_count.mono_l k
  ·intro y0 y1
   unfold impl_count.l0
   repeat' first
   | (with_reducible exact ih0 _ _)
   | (with_reducible exact LeO.refl _)
   | (with_reducible exact LeO.none _)
   | (with_reducible refine LeO.ite ?_ ?_)
   | (with_reducible refine LeO.bind ?_ (fun _=>?_))
   | exact ih0 _ _
   | exact LeO.none _
   | refine LeO.ite ?_ ?_
   | refine LeO.bind ?_ (fun _=>?_)
theorem impl_count.mono: ∀a0 k,LeO (impl_count.f k a0) (impl_count.f (k+1) a0):=by
 intro a0 k
 have ih0:=impl_count.mono_l k
 unfold impl_count.f
 repeat' first
   | (with_reducible exact ih0 _ _)
   | (with_reducible exact LeO.refl _)
   | (with_reducible exact LeO.none _)
   | (with_reducible refine LeO.ite ?_ ?_)
   | (with_reducible refine LeO.bind ?_ (fun _=>?_))
   | exact ih0 _ _
   | exact LeO.none _
   | refine LeO.ite ?_ ?_
   | refine LeO.bind ?_ (fun _=>?_)
theorem impl_count.calls (k:Nat) (a0:Int) (r:Int) (w:World) (h:impl_count.f k a0=some r):
  Calls Try.prog 135 #[.int .i64 a0] w fun e w'=>e= .returned (.int .i64 r)∧Drawn0 w w':=by
 have H:(impl_count.l0 k a0 0)=some r:=h
 clear h
 have H':=Aside0.mk H
 clear H
 go_enter Try.func135,Try.ntmps135
 go_wp2
 go_loopg [0,3] k (fun kq v0 v3 w'=> ∃(aa:Int) (ae:Int),v0= .int .i64 aa∧v3= .int .i64 ae∧Aside0 (impl_count.l0 kq aa ae=some r)∧Aside0 (kq≤k)∧Drawn0 w w')
 case atStart=>exact⟨(a0),(0),rs_,rs_,H',⟨Nat.le_refl _⟩,by repeat (first | exact Drawn0.refl _ | apply Drawn0.step)⟩
 case round=>
  clear H'
  try clear c1
  obtain⟨aa,ae,rfl,rfl,HA,HK1,⟨m1,rfl⟩⟩:=hrel
  cases gk with
  | zero=>exact absurd HA.out (by simp [impl_count.l0])
  | succ k1=>
   have H:=HA.out
   clear HA
   simp only [impl_count.l0] at H
   by_cases c2:aa > 0
   ·rw [if_pos c2] at H
    have c2b0:decide (0 < aa)=true:=decide_eq_true c2
    clear c2
    have H':=Aside0.mk H
    clear H
    go_wp2
    go_roundg k1
    case measure=>have:=HK1.out;omega
    case rel=>exact⟨(Go.bits .and .i64 aa (wrap64 (aa - 1))),(wrap64 (ae+1)),rs_,rs_,H',⟨by have:=HK1.out;omega⟩,by repeat (first | exact Drawn0.refl _ | apply Drawn0.step)⟩
   ·rw [if_neg c2] at H
    have c2b0:decide (0 < aa)=false:=decide_eq_false c2
    clear c2
    obtain rfl:=Option.some.inj H
    go_wp2
    go_ret
    exact⟨by first | rfl | (simp;done) | (simp [*];done),by repeat (first | exact Drawn0.refl _ | apply Drawn0.step)⟩
def impl_gathered.l0:Nat→Int→Int→Int→Int→Int→Option (Int)
 | 0,_,_,_,_,_=>none
 | k+1,x0,x1,x5,x6,x8=>if x8 < 5 then((impl_has.f x1 x8).bind fun aa=>(if aa=true then(if 0≤x8 then(if 0≤x6 then(impl_gathered.l0 k x0 x1 (Go.bits .or .i64 x5 (shl .i64 (Go.bits .and .i64 (shr .i64 x0 x8) 1) x6)) (wrap64 (x6+1)) (wrap64 (x8+1))) else(none)) else(none)) else(impl_gathered.l0 k x0 x1 x5 x6 (wrap64 (x8+1))))) else(some x5)
def impl_gathered.f (k:Nat) (a0:Int) (a1:Int):Option (Int):=impl_gathered.l0 k a0 a1 0 0 0
theorem impl_gathered.mono_l: ∀k,(∀y0 y1 y2 y3 y4,LeO (impl_gathered.l0 k y0 y1 y2 y3 y4) (impl_gathered.l0 (k+1) y0 y1 y2 y3 y4))
 | 0=>fun _ _ _ _ _ r h=>by simp [impl_gathered.l0] at h
 | k+1=>by
  have ih0:=impl_gathered.mono_l k
  ·intro y0 y1 y2 y3 y4
   unfold impl_gathered.l0
   repeat' first
   | (with_reducible exact ih0 _ _ _ _ _)
   | (with_reducible exact LeO.refl _)
   | (with_reducible exact LeO.none _)
   | (with_reducible refine LeO.ite ?_ ?_)
   | (with_reducible refine LeO.bind ?_ (fun _=>?_))
   | exact ih0 _ _ _ _ _
   | exact LeO.none _
   | refine LeO.ite ?_ ?_
   | refine LeO.bind ?_ (fun _=>?_)
theorem impl_gathered.mono: ∀a0 a1 k,LeO (impl_gathered.f k a0 a1) (impl_gathered.f (k+1) a0 a1):=by
 intro a0 a1 k
 have ih0:=impl_gathered.mono_l k
 unfold impl_gathered.f
 repeat' first
   | (with_reducible exact ih0 _ _ _ _ _)
   | (with_reducible exact LeO.refl _)
   | (with_reducible exact LeO.none _)
   | (with_reducible refine LeO.ite ?_ ?_)
   | (with_reducible refine LeO.bind ?_ (fun _=>?_))
   | exact ih0 _ _ _ _ _
   | exact LeO.none _
   | refine LeO.ite ?_ ?_
   | refine LeO.bind ?_ (fun _=>?_)
theorem impl_gathered.calls (k:Nat) (a0:Int) (a1:Int) (r:Int) (w:World) (h:impl_gathered.f k a0 a1=some r):
  Calls Try.prog 136 #[.int .i64 a0, .int .i64 a1] w fun e w'=>e= .returned (.int .i64 r)∧Drawn0 w w':=by
 have H:(impl_gathered.l0 k a0 a1 0 0 0)=some r:=h
 clear h
 have H':=Aside0.mk H
 clear H
 go_enter Try.func136,Try.ntmps136
 go_wp2
 go_loopg [5,6,8] k (fun kq v5 v6 v8 w'=> ∃(af:Int) (ae:Int) (aa:Int),v5= .int .i64 af∧v6= .int .i64 ae∧v8= .int .i64 aa∧Aside0 (impl_gathered.l0 kq a0 a1 af ae aa=some r)∧Aside0 (kq≤k)∧Drawn0 w w')
 case atStart=>exact⟨(0),(0),(0),(by first | rfl | (simp;done) | (simp [*];done)),(by first | rfl | (simp;done) | (simp [*];done)),(by first | rfl | (simp;done) | (simp [*];done)),H',⟨Nat.le_refl _⟩,by repeat (first | exact Drawn0.refl _ | apply Drawn0.step)⟩
 case round=>
  clear H'
  try clear c1
  try clear p2
  obtain⟨af,ae,aa,rfl,rfl,rfl,HA,HK1,⟨m1,rfl⟩⟩:=hrel
  cases gk with
  | zero=>exact absurd HA.out (by simp [impl_gathered.l0])
  | succ k1=>
   have H:=HA.out
   clear HA
   simp only [impl_gathered.l0] at H
   by_cases c3:aa < 5
   ·rw [if_pos c3] at H
    have c3b0:decide (aa < 5)=true:=decide_eq_true c3
    clear c3
    replace H:=Option.bind_eq_some_iff.mp H
    obtain⟨ag,A40,H⟩:=H
    replace H:(if ag=true then(if 0≤aa then(if 0≤ae then(impl_gathered.l0 k1 a0 a1 (Go.bits .or .i64 af (shl .i64 (Go.bits .and .i64 (shr .i64 a0 aa) 1) ae)) (wrap64 (ae+1)) (wrap64 (aa+1))) else(none)) else(none)) else(impl_gathered.l0 k1 a0 a1 af ae (wrap64 (aa+1))))=some r:=H
    have A4:=Aside0.mk A40
    clear A40
    by_cases c5:ag=true
    ·subst c5
     have H1:(if 0≤aa then(if 0≤ae then(impl_gathered.l0 k1 a0 a1 (Go.bits .or .i64 af (shl .i64 (Go.bits .and .i64 (shr .i64 a0 aa) 1) ae)) (wrap64 (ae+1)) (wrap64 (aa+1))) else(none)) else(none))=some r:=by rw [if_pos rfl] at H;exact H
     clear H
     have H:=H1
     clear H1
     by_cases c6:0≤aa
     ·rw [if_pos c6] at H
      have c6b0:=eq_true c6
      have c6b1:decide (0≤aa)=true:=decide_eq_true c6
      clear c6
      obtain⟨ji7,hji7⟩: ∃j_:Int,(shr .i64 a0 aa)=j_:=⟨_,rfl⟩
      replace H:(if 0≤ae then(impl_gathered.l0 k1 a0 a1 (Go.bits .or .i64 af (shl .i64 (Go.bits .and .i64 (ji7) 1) ae)) (wrap64 (ae+1)) (wrap64 (aa+1))) else(none))=some r:=by first | (rw [hji7] at H;exact H) | (simp only [hji7] at H ⊢;exact H)
      (try rw [hji7] at A4)
      have hji7_:(a0 / 2 ^ min aa.toNat 64)=ji7:=hji7
      have hji7z:aa≤64→(a0 / 2 ^ aa.toNat)=ji7:=shr_small hji7
      by_cases c8:0≤ae
      ·rw [if_pos c8] at H
       have c8b0:=eq_true c8
       have c8b1:decide (0≤ae)=true:=decide_eq_true c8
       clear c8
       obtain⟨ji9,hji9⟩: ∃j_:Int,(shl .i64 (Go.bits .and .i64 (ji7) 1) ae)=j_:=⟨_,rfl⟩
       replace H:(impl_gathered.l0 k1 a0 a1 (Go.bits .or .i64 af (ji9)) (wrap64 (ae+1)) (wrap64 (aa+1)))=some r:=by first | (rw [hji9] at H;exact H) | (simp only [hji9] at H ⊢;exact H)
       (try rw [hji9] at A4)
       have hji9_:(IntKind.i64.wrap ((Go.bits .and .i64 (ji7) 1)*2 ^ min ae.toNat 64))=ji9:=hji9
       have hji9z:ae≤64→(IntKind.i64.wrap ((Go.bits .and .i64 (ji7) 1)*2 ^ ae.toNat))=ji9:=shl_small hji9
       have hji9y:(wrap64 ((Go.bits .and .i64 (ji7) 1)*2 ^ min ae.toNat 64))=ji9:=(i64_w _).symm.trans hji9_
       have hji9x:ae≤64→(wrap64 ((Go.bits .and .i64 (ji7) 1)*2 ^ ae.toNat))=ji9:=fun h_=>(i64_w _).symm.trans (hji9z h_)
       have H':=Aside0.mk H
       clear H
       go_wp2_with (first | ((with_reducible refine gate_callee (f:=130) rfl ?_);refine goesL_ (some 13) rfl rfl Try.func130 (by kernel_rfl) rfl #[.int .i64 a1, .int .i64 aa] rfl (by(try simp only [List.map_toArray,List.map_cons,List.map_nil]);first | done | rfl | (simp only [List.length_drop,List.length_take];rfl)) ?_;(with_reducible refine(impl_has.calls a1 aa true _ A4.out).mono ?_);rintro e w' ⟨rfl,⟨nd,rfl⟩⟩;refine⟨_,rfl,?_⟩))
       go_roundg k1
       case measure=>have:=HK1.out;omega
       case rel=>exact⟨(Go.bits .or .i64 af (ji9)),(wrap64 (ae+1)),(wrap64 (aa+1)),(by first | rfl | (simp;done) | (simp only [← hji9] <;> (first | rfl | simp)) | (simp [*];done)),(by first | rfl | (simp;done) | (simp [*];done)),(by first | rfl | (simp;done) | (simp [*];done)),H',⟨by have:=HK1.out;omega⟩,by repeat (first | exact Drawn0.refl _ | apply Drawn0.step)⟩
      ·rw [if_neg c8] at H
       exact absurd H (by simp)
     ·rw [if_neg c6] at H
      exact absurd H (by simp)
    ·replace c5:=Bool.eq_false_iff.mpr c5
     subst c5
     have H1:(impl_gathered.l0 k1 a0 a1 af ae (wrap64 (aa+1)))=some r:=by rw [if_neg (show ¬ (false=true) by decide)] at H;exact H
     clear H
     have H:=H1
     clear H1
     have H':=Aside0.mk H
     clear H
     go_wp2_with (first | ((with_reducible refine gate_callee (f:=130) rfl ?_);refine goesL_ (some 13) rfl rfl Try.func130 (by kernel_rfl) rfl #[.int .i64 a1, .int .i64 aa] rfl (by(try simp only [List.map_toArray,List.map_cons,List.map_nil]);first | done | rfl | (simp only [List.length_drop,List.length_take];rfl)) ?_;(with_reducible refine(impl_has.calls a1 aa false _ A4.out).mono ?_);rintro e w' ⟨rfl,⟨nd,rfl⟩⟩;refine⟨_,rfl,?_⟩))
     go_roundg k1
     case measure=>have:=HK1.out;omega
     case rel=>exact⟨(af),(ae),(wrap64 (aa+1)),(by first | rfl | (simp;done) | (simp [*];done)),(by first | rfl | (simp;done) | (simp [*];done)),(by first | rfl | (simp;done) | (simp [*];done)),H',⟨by have:=HK1.out;omega⟩,by repeat (first | exact Drawn0.refl _ | apply Drawn0.step)⟩
   ·rw [if_neg c3] at H
    have c3b0:decide (aa < 5)=false:=decide_eq_false c3
    clear c3
    obtain rfl:=Option.some.inj H
    go_wp2
    go_ret
    exact⟨by first | rfl | (simp;done) | (simp [*];done),by repeat (first | exact Drawn0.refl _ | apply Drawn0.step)⟩
def impl_spread.l0:Nat→Int→Int→Int→Int→Int→Option (Int)
 | 0,_,_,_,_,_=>none
 | k+1,x0,x1,x5,x6,x8=>if x8 < 5 then((impl_has.f x1 x8).bind fun aa=>(if aa=true then(if 0≤x6 then(if 0≤x8 then(impl_spread.l0 k x0 x1 (Go.bits .or .i64 x5 (shl .i64 (Go.bits .and .i64 (shr .i64 x0 x6) 1) x8)) (wrap64 (x6+1)) (wrap64 (x8+1))) else(none)) else(none)) else(impl_spread.l0 k x0 x1 x5 x6 (wrap64 (x8+1))))) else(some x5)
def impl_spread.f (k:Nat) (a0:Int) (a1:Int):Option (Int):=impl_spread.l0 k a0 a1 0 0 0
theorem impl_spread.mono_l: ∀k,(∀y0 y1 y2 y3 y4,LeO (impl_spread.l0 k y0 y1 y2 y3 y4) (impl_spread.l0 (k+1) y0 y1 y2 y3 y4))
 | 0=>fun _ _ _ _ _ r h=>by simp [impl_spread.l0] at h
 | k+1=>by
  have ih0:=impl_spread.mono_l k
  ·intro y0 y1 y2 y3 y4
   unfold impl_spread.l0
   repeat' first
   | (with_reducible exact ih0 _ _ _ _ _)
   | (with_reducible exact LeO.refl _)
   | (with_reducible exact LeO.none _)
   | (with_reducible refine LeO.ite ?_ ?_)
   | (with_reducible refine LeO.bind ?_ (fun _=>?_))
   | exact ih0 _ _ _ _ _
   | exact LeO.none _
   | refine LeO.ite ?_ ?_
   | refine LeO.bind ?_ (fun _=>?_)
theorem impl_spread.mono: ∀a0 a1 k,LeO (impl_spread.f k a0 a1) (impl_spread.f (k+1) a0 a1):=by
 intro a0 a1 k
 have ih0:=impl_spread.mono_l k
 unfold impl_spread.f
 repeat' first
   | (with_reducible exact ih0 _ _ _ _ _)
   | (with_reducible exact LeO.refl _)
   | (with_reducible exact LeO.none _)
   | (with_reducible refine LeO.ite ?_ ?_)
   | (with_reducible refine LeO.bind ?_ (fun _=>?_))
   | exact ih0 _ _ _ _ _
   | exact LeO.none _
   | refine LeO.ite ?_ ?_
   | refine LeO.bind ?_ (fun _=>?_)
theorem impl_spread.calls (k:Nat) (a0:Int) (a1:Int) (r:Int) (w:World) (h:impl_spread.f k a0 a1=some r):
  Calls Try.prog 137 #[.int .i64 a0, .int .i64 a1] w fun e w'=>e= .returned (.int .i64 r)∧Drawn0 w w':=by
 have H:(impl_spread.l0 k a0 a1 0 0 0)=some r:=h
 clear h
 have H':=Aside0.mk H
 clear H
 go_enter Try.func137,Try.ntmps137
 go_wp2
 go_loopg [5,6,8] k (fun kq v5 v6 v8 w'=> ∃(af:Int) (ae:Int) (aa:Int),v5= .int .i64 af∧v6= .int .i64 ae∧v8= .int .i64 aa∧Aside0 (impl_spread.l0 kq a0 a1 af ae aa=some r)∧Aside0 (kq≤k)∧Drawn0 w w')
 case atStart=>exact⟨(0),(0),(0),(by first | rfl | (simp;done) | (simp [*];done)),(by first | rfl | (simp;done) | (simp [*];done)),(by first | rfl | (simp;done) | (simp [*];done)),H',⟨Nat.le_refl _⟩,by repeat (first | exact Drawn0.refl _ | apply Drawn0.step)⟩
 case round=>
  clear H'
  try clear c1
  try clear p2
  obtain⟨af,ae,aa,rfl,rfl,rfl,HA,HK1,⟨m1,rfl⟩⟩:=hrel
  cases gk with
  | zero=>exact absurd HA.out (by simp [impl_spread.l0])
  | succ k1=>
   have H:=HA.out
   clear HA
   simp only [impl_spread.l0] at H
   by_cases c3:aa < 5
   ·rw [if_pos c3] at H
    have c3b0:decide (aa < 5)=true:=decide_eq_true c3
    clear c3
    replace H:=Option.bind_eq_some_iff.mp H
    obtain⟨ag,A40,H⟩:=H
    replace H:(if ag=true then(if 0≤ae then(if 0≤aa then(impl_spread.l0 k1 a0 a1 (Go.bits .or .i64 af (shl .i64 (Go.bits .and .i64 (shr .i64 a0 ae) 1) aa)) (wrap64 (ae+1)) (wrap64 (aa+1))) else(none)) else(none)) else(impl_spread.l0 k1 a0 a1 af ae (wrap64 (aa+1))))=some r:=H
    have A4:=Aside0.mk A40
    clear A40
    by_cases c5:ag=true
    ·subst c5
     have H1:(if 0≤ae then(if 0≤aa then(impl_spread.l0 k1 a0 a1 (Go.bits .or .i64 af (shl .i64 (Go.bits .and .i64 (shr .i64 a0 ae) 1) aa)) (wrap64 (ae+1)) (wrap64 (aa+1))) else(none)) else(none))=some r:=by rw [if_pos rfl] at H;exact H
     clear H
     have H:=H1
     clear H1
     by_cases c6:0≤ae
     ·rw [if_pos c6] at H
      have c6b0:=eq_true c6
      have c6b1:decide (0≤ae)=true:=decide_eq_true c6
      clear c6
      obtain⟨ji7,hji7⟩: ∃j_:Int,(shr .i64 a0 ae)=j_:=⟨_,rfl⟩
      replace H:(if 0≤aa then(impl_spread.l0 k1 a0 a1 (Go.bits .or .i64 af (shl .i64 (Go.bits .and .i64 (ji7) 1) aa)) (wrap64 (ae+1)) (wrap64 (aa+1))) else(none))=some r:=by first | (rw [hji7] at H;exact H) | (simp only [hji7] at H ⊢;exact H)
      (try rw [hji7] at A4)
      have hji7_:(a0 / 2 ^ min ae.toNat 64)=ji7:=hji7
      have hji7z:ae≤64→(a0 / 2 ^ ae.toNat)=ji7:=shr_small hji7
      by_cases c8:0≤aa
      ·rw [if_pos c8] at H
       have c8b0:=eq_true c8
       have c8b1:decide (0≤aa)=true:=decide_eq_true c8
       clear c8
       obtain⟨ji9,hji9⟩: ∃j_:Int,(shl .i64 (Go.bits .and .i64 (ji7) 1) aa)=j_:=⟨_,rfl⟩
       replace H:(impl_spread.l0 k1 a0 a1 (Go.bits .or .i64 af (ji9)) (wrap64 (ae+1)) (wrap64 (aa+1)))=some r:=by first | (rw [hji9] at H;exact H) | (simp only [hji9] at H ⊢;exact H)
       (try rw [hji9] at A4)
       have hji9_:(IntKind.i64.wrap ((Go.bits .and .i64 (ji7) 1)*2 ^ min aa.toNat 64))=ji9:=hji9
       have hji9z:aa≤64→(IntKind.i64.wrap ((Go.bits .and .i64 (ji7) 1)*2 ^ aa.toNat))=ji9:=shl_small hji9
       have hji9y:(wrap64 ((Go.bits .and .i64 (ji7) 1)*2 ^ min aa.toNat 64))=ji9:=(i64_w _).symm.trans hji9_
       have hji9x:aa≤64→(wrap64 ((Go.bits .and .i64 (ji7) 1)*2 ^ aa.toNat))=ji9:=fun h_=>(i64_w _).symm.trans (hji9z h_)
       have H':=Aside0.mk H
       clear H
       go_wp2_with (first | ((with_reducible refine gate_callee (f:=130) rfl ?_);refine goesL_ (some 13) rfl rfl Try.func130 (by kernel_rfl) rfl #[.int .i64 a1, .int .i64 aa] rfl (by(try simp only [List.map_toArray,List.map_cons,List.map_nil]);first | done | rfl | (simp only [List.length_drop,List.length_take];rfl)) ?_;(with_reducible refine(impl_has.calls a1 aa true _ A4.out).mono ?_);rintro e w' ⟨rfl,⟨nd,rfl⟩⟩;refine⟨_,rfl,?_⟩))
       go_roundg k1
       case measure=>have:=HK1.out;omega
       case rel=>exact⟨(Go.bits .or .i64 af (ji9)),(wrap64 (ae+1)),(wrap64 (aa+1)),(by first | rfl | (simp;done) | (simp only [← hji9] <;> (first | rfl | simp)) | (simp [*];done)),(by first | rfl | (simp;done) | (simp [*];done)),(by first | rfl | (simp;done) | (simp [*];done)),H',⟨by have:=HK1.out;omega⟩,by repeat (first | exact Drawn0.refl _ | apply Drawn0.step)⟩
      ·rw [if_neg c8] at H
       exact absurd H (by simp)
     ·rw [if_neg c6] at H
      exact absurd H (by simp)
    ·replace c5:=Bool.eq_false_iff.mpr c5
     subst c5
     have H1:(impl_spread.l0 k1 a0 a1 af ae (wrap64 (aa+1)))=some r:=by rw [if_neg (show ¬ (false=true) by decide)] at H;exact H
     clear H
     have H:=H1
     clear H1
     have H':=Aside0.mk H
     clear H
     go_wp2_with (first | ((with_reducible refine gate_callee (f:=130) rfl ?_);refine goesL_ (some 13) rfl rfl Try.func130 (by kernel_rfl) rfl #[.int .i64 a1, .int .i64 aa] rfl (by(try simp only [List.map_toArray,List.map_cons,List.map_nil]);first | done | rfl | (simp only [List.length_drop,List.length_take];rfl)) ?_;(with_reducible refine(impl_has.calls a1 aa false _ A4.out).mono ?_);rintro e w' ⟨rfl,⟨nd,rfl⟩⟩;refine⟨_,rfl,?_⟩))
     go_roundg k1
     case measure=>have:=HK1.out;omega
     case rel=>exact⟨(af),(ae),(wrap64 (aa+1)),(by first | rfl | (simp;done) | (simp [*];done)),(by first | rfl | (simp;done) | (simp [*];done)),(by first | rfl | (simp;done) | (simp [*];done)),H',⟨by have:=HK1.out;omega⟩,by repeat (first | exact Drawn0.refl _ | apply Drawn0.step)⟩
   ·rw [if_neg c3] at H
    have c3b0:decide (aa < 5)=false:=decide_eq_false c3
    clear c3
    obtain rfl:=Option.some.inj H
    go_wp2
    go_ret
    exact⟨by first | rfl | (simp;done) | (simp [*];done),by repeat (first | exact Drawn0.refl _ | apply Drawn0.step)⟩
mutual
def impl_FaceOf.j0:Nat→Int→Int→Bool→Int→List Int→Option (Int × List Int × Int)
 | 0,_,_,_,_,_=>none
 | k+1,x1,x2,x27,ae,aa=>if x27=true then(some (0,([]:List Int),2)) else((impl_count.f k x2).bind fun ah=>(if 0≤ah then(impl_FaceOf.l0 k x1 x2 (shl .i64 1 ah) 0 ae aa ah ([]:List Int)) else(none)))
def impl_FaceOf.l0:Nat→Int→Int→Int→Int→Int→List Int→Int→List Int→Option (Int × List Int × Int)
 | 0,_,_,_,_,_,_,_,_=>none
 | k+1,x1,x2,x34,x35,ae,aa,ag,af=>if x35 < x34 then((impl_spread.f k x35 x2).bind fun ai=>(if 0≤(Go.bits .or .i64 (Go.bits .andNot .i64 x1 x2) ai) then(if(Go.bits .or .i64 (Go.bits .andNot .i64 x1 x2) ai) < (aa.length:Int) then((impl_gathered.f k (rd aa (Go.bits .or .i64 (Go.bits .andNot .i64 x1 x2) ai)) x2).bind fun aj=>(if af.length < 17592186044416 then(impl_FaceOf.l0 k x1 x2 x34 (wrap64 (x35+1)) ae aa ag (af++ [aj])) else(none))) else(none)) else(none))) else(some (ag,af,0))
end
def impl_FaceOf.f (k:Nat) (a0_0:Int) (aa:List Int) (a1:Int) (a2:Int):Option (Int × List Int × Int):=(impl_IsCube.f k a0_0 aa).bind fun ae=>(if ae=true then((impl_Cube_isVertex.f a0_0 aa a1).bind fun af=>(if af=true then((impl_Cube_isVertex.f a0_0 aa a2).bind fun ag=>(if ag=true then(impl_FaceOf.j0 k a1 a2 (a2==0) a0_0 aa) else(impl_FaceOf.j0 k a1 a2 true a0_0 aa))) else(impl_FaceOf.j0 k a1 a2 true a0_0 aa))) else(some (0,([]:List Int),1)))
theorem impl_FaceOf.mono_l: ∀k,(∀y0 y1 y2 y3 y4,LeO (impl_FaceOf.j0 k y0 y1 y2 y3 y4) (impl_FaceOf.j0 (k+1) y0 y1 y2 y3 y4))∧(∀y0 y1 y2 y3 y4 y5 y6 y7,LeO (impl_FaceOf.l0 k y0 y1 y2 y3 y4 y5 y6 y7) (impl_FaceOf.l0 (k+1) y0 y1 y2 y3 y4 y5 y6 y7))
 | 0=>⟨fun _ _ _ _ _ r h=>by simp [impl_FaceOf.j0] at h,fun _ _ _ _ _ _ _ _ r h=>by simp [impl_FaceOf.l0] at h⟩
 | k+1=>by
  obtain⟨ih0,ih1⟩:=impl_FaceOf.mono_l k
  refine⟨?_,?_⟩
  ·intro y0 y1 y2 y3 y4
   unfold impl_FaceOf.j0
   repeat' first
   | (with_reducible exact ih0 _ _ _ _ _)
   | (with_reducible exact ih1 _ _ _ _ _ _ _ _)
   | (with_reducible exact impl_IsCube.mono _ _ _)
   | (with_reducible exact impl_count.mono _ _)
   | (with_reducible exact impl_gathered.mono _ _ _)
   | (with_reducible exact impl_spread.mono _ _ _)
   | (with_reducible exact LeO.refl _)
   | (with_reducible exact LeO.none _)
   | (with_reducible refine LeO.ite ?_ ?_)
   | (with_reducible refine LeO.bind ?_ (fun _=>?_))
   | exact ih0 _ _ _ _ _
   | exact ih1 _ _ _ _ _ _ _ _
   | exact impl_IsCube.mono _ _ _
   | exact impl_count.mono _ _
   | exact impl_gathered.mono _ _ _
   | exact impl_spread.mono _ _ _
   | exact LeO.none _
   | refine LeO.ite ?_ ?_
   | refine LeO.bind ?_ (fun _=>?_)
  ·intro y0 y1 y2 y3 y4 y5 y6 y7
   unfold impl_FaceOf.l0
   repeat' first
   | (with_reducible exact ih0 _ _ _ _ _)
   | (with_reducible exact ih1 _ _ _ _ _ _ _ _)
   | (with_reducible exact impl_IsCube.mono _ _ _)
   | (with_reducible exact impl_count.mono _ _)
   | (with_reducible exact impl_gathered.mono _ _ _)
   | (with_reducible exact impl_spread.mono _ _ _)
   | (with_reducible exact LeO.refl _)
   | (with_reducible exact LeO.none _)
   | (with_reducible refine LeO.ite ?_ ?_)
   | (with_reducible refine LeO.bind ?_ (fun _=>?_))
   | exact ih0 _ _ _ _ _
   | exact ih1 _ _ _ _ _ _ _ _
   | exact impl_IsCube.mono _ _ _
   | exact impl_count.mono _ _
   | exact impl_gathered.mono _ _ _
   | exact impl_spread.mono _ _ _
   | exact LeO.none _
   | refine LeO.ite ?_ ?_
   | refine LeO.bind ?_ (fun _=>?_)
theorem impl_FaceOf.mono: ∀a0 a1 a2 a3 k,LeO (impl_FaceOf.f k a0 a1 a2 a3) (impl_FaceOf.f (k+1) a0 a1 a2 a3):=by
 intro a0 a1 a2 a3 k
 obtain⟨ih0,ih1⟩:=impl_FaceOf.mono_l k
 unfold impl_FaceOf.f
 repeat' first
   | (with_reducible exact ih0 _ _ _ _ _)
   | (with_reducible exact ih1 _ _ _ _ _ _ _ _)
   | (with_reducible exact impl_IsCube.mono _ _ _)
   | (with_reducible exact impl_count.mono _ _)
   | (with_reducible exact impl_gathered.mono _ _ _)
   | (with_reducible exact impl_spread.mono _ _ _)
   | (with_reducible exact LeO.refl _)
   | (with_reducible exact LeO.none _)
   | (with_reducible refine LeO.ite ?_ ?_)
   | (with_reducible refine LeO.bind ?_ (fun _=>?_))
   | exact ih0 _ _ _ _ _
   | exact ih1 _ _ _ _ _ _ _ _
   | exact impl_IsCube.mono _ _ _
   | exact impl_count.mono _ _
   | exact impl_gathered.mono _ _ _
   | exact impl_spread.mono _ _ _
   | exact LeO.none _
   | refine LeO.ite ?_ ?_
   | refine LeO.bind ?_ (fun _=>?_)
def impl_FaceOf.T9:Bool × List (List Nat × List Nat):=(true, [([], []),([0], [0]),([], []),([2], [2]),([], []),([], []),([4,5], [4,5]),([], []),([], []),([7,8], [7,8]),([6,9], [6,9]),([3,10], [3,10]),([11], [11]),([], []),([12,13,9], [12,13]),([14], [14]),([1,15,14], [1,15]),([0,1,2,3,4,5,6,7,8,9,10,11,12,13,14,15,16], []),([17,16,16,0,1,2,3,4,5,6,7,8,9,10,11,12,13,14,15,16], [16,17])])
def impl_FaceOf.B9:List Nat:= [0,1,0,4,0,0,48,0,0,384,1008,2044,4092,0,16380,32764,65535,131071,262143]
theorem impl_FaceOf.tab9:rtab .any (opsOf Try.f51 9)=impl_FaceOf.T9:=by kernel_rfl
theorem impl_FaceOf.bits9:waitsOk impl_FaceOf.T9.2 impl_FaceOf.B9=true:=by kernel_rfl
theorem impl_FaceOf.calls (k:Nat) (a0_0:Int) (az:Option Addr) (ay:Nat) (ae:List Int) (a1:Int) (a2:Int) (r1:Int) (r2:List Int) (r3:Int) (w:World) (bL:Kd.C (Kd.int .i64) w az ae.length ae) (bM:ae.length≤ay) (h:impl_FaceOf.f k a0_0 ae a1 a2=some (r1,r2,r3)):
  Calls Try.prog 51 #[.agg #[.int .i64 a0_0, .slice az ae.length ay], .int .i64 a1, .int .i64 a2] w fun e w'=> ∃v1_:Value,e= .returned (.tuple #[.agg #[.int .i64 r1,v1_], .int .i64 r3])∧Kd.R (Kd.int .i64) 2 w' w.heap.size (fun _=>True) v1_ r2∧Below w.heap.size w w':=by
 have hu64:=Try.underlying64
 have HR0_1:=Aside0.mk bL
 have HC0_1:=Aside0.mk bM
 clear bL bM
 have HB:=Aside0.mk (Below.refl w.heap.size w)
 have H:((impl_IsCube.f k a0_0 ae).bind fun aV=>(if aV=true then((impl_Cube_isVertex.f a0_0 ae a1).bind fun aM=>(if aM=true then((impl_Cube_isVertex.f a0_0 ae a2).bind fun aJ=>(if aJ=true then(impl_FaceOf.j0 k a1 a2 (a2==0) a0_0 ae) else(impl_FaceOf.j0 k a1 a2 true a0_0 ae))) else(impl_FaceOf.j0 k a1 a2 true a0_0 ae))) else(some (0,([]:List Int),1))))=some (r1,r2,r3):=h
 clear h
 replace H:=Option.bind_eq_some_iff.mp H
 obtain⟨aV,A40,H⟩:=H
 replace H:(if aV=true then((impl_Cube_isVertex.f a0_0 ae a1).bind fun aM=>(if aM=true then((impl_Cube_isVertex.f a0_0 ae a2).bind fun aJ=>(if aJ=true then(impl_FaceOf.j0 k a1 a2 (a2==0) a0_0 ae) else(impl_FaceOf.j0 k a1 a2 true a0_0 ae))) else(impl_FaceOf.j0 k a1 a2 true a0_0 ae))) else(some (0,([]:List Int),1)))=some (r1,r2,r3):=H
 have A4:=Aside0.mk A40
 clear A40
 by_cases c5:aV=true
 ·subst c5
  have H1:((impl_Cube_isVertex.f a0_0 ae a1).bind fun aM=>(if aM=true then((impl_Cube_isVertex.f a0_0 ae a2).bind fun aJ=>(if aJ=true then(impl_FaceOf.j0 k a1 a2 (a2==0) a0_0 ae) else(impl_FaceOf.j0 k a1 a2 true a0_0 ae))) else(impl_FaceOf.j0 k a1 a2 true a0_0 ae)))=some (r1,r2,r3):=by rw [if_pos rfl] at H;exact H
  clear H
  have H:=H1
  clear H1
  have HC6:=Aside0.mk H
  clear H
  go_enter Try.func51,Try.ntmps51
  go_upto_region 3 with (first | ((with_reducible refine gate_dst (N:=3) rfl ?_);refine box_event ?hg (N:=3) ?hd (cs:= #[.int .i64 a0_0, .slice az ae.length ay]) (t:=64) ?hr ?_;(case hd=>rfl);(case hg=>rfl);(case hr=>first | (go_simp;done) | (go_simp;rfl));intro ag hg w7 hbox hb;have aa:=Aside0.mk (hbox);have bW:=Aside0.mk ((by rw [hg];exact bz_:w.heap.size≤ag));have bX:=Aside0.mk ((by rw [hg];exact bz_:w.heap.size≤ag));replace HB:=Aside0.mk (bs_ hb);clear hb hbox hg) | ((with_reducible refine gate_dst (N:=6) rfl ?_);refine box_event ?hg (N:=6) ?hd (cs:= #[.int .i64 0, .slice none 0 0]) (t:=64) ?hr ?_;(case hd=>rfl);(case hg=>rfl);(case hr=>first | (go_simp;done) | (go_simp;rfl));intro aj hg w8 hbox hb;have af:=Aside0.mk (hbox);have bY:=Aside0.mk ((by rw [hg];exact bz_:w.heap.size≤aj));have bZ:=Aside0.mk ((by rw [hg];exact bz_:w.heap.size≤aj));have av:=Aside0.mk ((by rw [hg];exact lt_ aa.out:ag≠aj));have aw:=Aside0.mk ((by rw [hg];exact gt_ aa.out:aj≠ag));replace aa:=Aside0.mk (bb_ aa.out hb);replace HB:=Aside0.mk (bs_ hb);clear hb hbox hg;have dC:=av.out;have dD:=aw.out;have aY:w8.cell? ⟨ag,0,none⟩=some (.int .i64 a0_0):=(blk_cell aa.out 0).trans rfl;have aZ:w8.cell? ⟨ag,1,none⟩=some (.slice az ae.length ay):=(blk_cell aa.out 1).trans rfl;have a9:=blk_frozen aa.out 0;have ba:=blk_frozen aa.out 1) | ((with_reducible refine gate_callee (f:=42) rfl ?_);refine gL_ 11 Try.func42 #[.agg #[.int .i64 a0_0, .slice az ae.length ay]] ?_;(with_reducible refine(impl_IsCube.calls k a0_0 _ _ ae true _ ?aH ?aI A4.out).mono ?_);(case aH=>exact cb_ HR0_1.out HB.out);(case aI=>exact HC0_1.out);rintro e w11 ⟨rfl,hb⟩;refine⟨_,rfl,?_⟩;replace aa:=Aside0.mk (bb_ aa.out hb);replace af:=Aside0.mk (bb_ af.out hb);replace HB:=Aside0.mk (bs_ hb);(try clear hb);(try clear hb2);(try clear hk);(try clear hi)))
  (try simp only [Act.put,List.setIfInBounds_toArray,List.set_cons_zero,List.set_cons_succ])
  go_cut [27] (fun v27 wc=> ∃(kq:Nat) (aW:Bool),v27= .bool aW∧Aside0 (impl_FaceOf.j0 kq a1 a2 aW a0_0 ae=some (r1,r2,r3))∧Aside0 (kq≤k)∧Aside0 (wc.heap[ag]?=some (.cells #[.int .i64 a0_0,(.slice az ae.length ay)] 64 (0,0)))∧Aside0 (wc.heap[aj]?=some (.cells #[.int .i64 0,(.slice none 0 0)] 64 (0,0)))∧Aside0 (Below w.heap.size w wc))
  case first=>
   have H:=HC6.out
   clear HC6
   replace H:=Option.bind_eq_some_iff.mp H
   obtain⟨aM,A120,H⟩:=H
   replace H:(if aM=true then((impl_Cube_isVertex.f a0_0 ae a2).bind fun aJ=>(if aJ=true then(impl_FaceOf.j0 k a1 a2 (a2==0) a0_0 ae) else(impl_FaceOf.j0 k a1 a2 true a0_0 ae))) else(impl_FaceOf.j0 k a1 a2 true a0_0 ae))=some (r1,r2,r3):=H
   have A12:=Aside0.mk A120
   clear A120
   by_cases c13:aM=true
   ·subst c13
    have H1:((impl_Cube_isVertex.f a0_0 ae a2).bind fun aJ=>(if aJ=true then(impl_FaceOf.j0 k a1 a2 (a2==0) a0_0 ae) else(impl_FaceOf.j0 k a1 a2 true a0_0 ae)))=some (r1,r2,r3):=by rw [if_pos rfl] at H;exact H
    clear H
    have H:=H1
    clear H1
    replace H:=Option.bind_eq_some_iff.mp H
    obtain⟨aJ,A140,H⟩:=H
    replace H:(if aJ=true then(impl_FaceOf.j0 k a1 a2 (a2==0) a0_0 ae) else(impl_FaceOf.j0 k a1 a2 true a0_0 ae))=some (r1,r2,r3):=H
    have A14:=Aside0.mk A140
    clear A140
    by_cases c15:aJ=true
    ·subst c15
     have H1:(impl_FaceOf.j0 k a1 a2 (a2==0) a0_0 ae)=some (r1,r2,r3):=by rw [if_pos rfl] at H;exact H
     clear H
     have H:=H1
     clear H1
     have H':=Aside0.mk H
     clear H
     have cT:=av.out
     have cU:=aw.out
     have bb:w11.cell? ⟨ag,0,none⟩=some (.int .i64 a0_0):=(blk_cell aa.out 0).trans rfl
     have bf:w11.cell? ⟨ag,1,none⟩=some (.slice az ae.length ay):=(blk_cell aa.out 1).trans rfl
     have bg:=blk_frozen aa.out 0
     have bh:=blk_frozen aa.out 1
     go_wp2_with (first | ((with_reducible refine gate_callee (f:=134) rfl ?_);refine gL_ 16 Try.func134 #[.agg #[.int .i64 a0_0, .slice az ae.length ay], .int .i64 a1] ?_;(with_reducible refine(impl_Cube_isVertex.calls a0_0 _ _ ae a1 true _ ?aH ?aI A12.out).mono ?_);(case aH=>exact cb_ HR0_1.out HB.out);(case aI=>exact HC0_1.out);rintro e w18 ⟨rfl,hb⟩;refine⟨_,rfl,?_⟩;replace aa:=Aside0.mk (bb_ aa.out hb);replace af:=Aside0.mk (bb_ af.out hb);replace HB:=Aside0.mk (bs_ hb);(try clear hb);(try clear hb2);(try clear hk);(try clear hi);have bi:w18.cell? ⟨ag,0,none⟩=some (.int .i64 a0_0):=(blk_cell aa.out 0).trans rfl;have bk:w18.cell? ⟨ag,1,none⟩=some (.slice az ae.length ay):=(blk_cell aa.out 1).trans rfl;have bn:=blk_frozen aa.out 0;have bq:=blk_frozen aa.out 1) | (go_at_call 134;(with_reducible refine(impl_Cube_isVertex.calls a0_0 _ _ ae a2 true _ ?aH ?aI A14.out).mono ?_);(case aH=>exact cb_ HR0_1.out HB.out);(case aI=>exact HC0_1.out);rintro e w20 ⟨rfl,hb⟩;replace aa:=Aside0.mk (bb_ aa.out hb);replace af:=Aside0.mk (bb_ af.out hb);replace HB:=Aside0.mk (bs_ hb);(try clear hb);(try clear hb2);(try clear hk);(try clear hi)))
     go_meet
     case rel=>exact⟨_,((a2==0)),rs_,H',⟨by first | omega | exact Nat.le_refl _⟩,⟨bk_⟩,⟨bk_⟩,⟨hb_⟩⟩
    ·replace c15:=Bool.eq_false_iff.mpr c15
     subst c15
     have H1:(impl_FaceOf.j0 k a1 a2 true a0_0 ae)=some (r1,r2,r3):=by rw [if_neg (show ¬ (false=true) by decide)] at H;exact H
     clear H
     have H:=H1
     clear H1
     have H':=Aside0.mk H
     clear H
     have cV:=av.out
     have cW:=aw.out
     have bu:w11.cell? ⟨ag,0,none⟩=some (.int .i64 a0_0):=(blk_cell aa.out 0).trans rfl
     have bv:w11.cell? ⟨ag,1,none⟩=some (.slice az ae.length ay):=(blk_cell aa.out 1).trans rfl
     have bw:=blk_frozen aa.out 0
     have bz:=blk_frozen aa.out 1
     go_wp2_with (first | ((with_reducible refine gate_callee (f:=134) rfl ?_);refine gL_ 16 Try.func134 #[.agg #[.int .i64 a0_0, .slice az ae.length ay], .int .i64 a1] ?_;(with_reducible refine(impl_Cube_isVertex.calls a0_0 _ _ ae a1 true _ ?aH ?aI A12.out).mono ?_);(case aH=>exact cb_ HR0_1.out HB.out);(case aI=>exact HC0_1.out);rintro e w23 ⟨rfl,hb⟩;refine⟨_,rfl,?_⟩;replace aa:=Aside0.mk (bb_ aa.out hb);replace af:=Aside0.mk (bb_ af.out hb);replace HB:=Aside0.mk (bs_ hb);(try clear hb);(try clear hb2);(try clear hk);(try clear hi);have bA:w23.cell? ⟨ag,0,none⟩=some (.int .i64 a0_0):=(blk_cell aa.out 0).trans rfl;have bC:w23.cell? ⟨ag,1,none⟩=some (.slice az ae.length ay):=(blk_cell aa.out 1).trans rfl;have bD:=blk_frozen aa.out 0;have bE:=blk_frozen aa.out 1) | (go_at_call 134;(with_reducible refine(impl_Cube_isVertex.calls a0_0 _ _ ae a2 false _ ?aH ?aI A14.out).mono ?_);(case aH=>exact cb_ HR0_1.out HB.out);(case aI=>exact HC0_1.out);rintro e w25 ⟨rfl,hb⟩;replace aa:=Aside0.mk (bb_ aa.out hb);replace af:=Aside0.mk (bb_ af.out hb);replace HB:=Aside0.mk (bs_ hb);(try clear hb);(try clear hb2);(try clear hk);(try clear hi)))
     go_meet
     case rel=>exact⟨_,(true),rs_,H',⟨by first | omega | exact Nat.le_refl _⟩,⟨bk_⟩,⟨bk_⟩,⟨hb_⟩⟩
   ·replace c13:=Bool.eq_false_iff.mpr c13
    subst c13
    have H1:(impl_FaceOf.j0 k a1 a2 true a0_0 ae)=some (r1,r2,r3):=by rw [if_neg (show ¬ (false=true) by decide)] at H;exact H
    clear H
    have H:=H1
    clear H1
    have H':=Aside0.mk H
    clear H
    have cZ:=av.out
    have da:=aw.out
    have bF:w11.cell? ⟨ag,0,none⟩=some (.int .i64 a0_0):=(blk_cell aa.out 0).trans rfl
    have bG:w11.cell? ⟨ag,1,none⟩=some (.slice az ae.length ay):=(blk_cell aa.out 1).trans rfl
    have bH:=blk_frozen aa.out 0
    have bI:=blk_frozen aa.out 1
    go_wp2_with (first | ((with_reducible refine gate_callee (f:=134) rfl ?_);refine gL_ 16 Try.func134 #[.agg #[.int .i64 a0_0, .slice az ae.length ay], .int .i64 a1] ?_;(with_reducible refine(impl_Cube_isVertex.calls a0_0 _ _ ae a1 false _ ?aH ?aI A12.out).mono ?_);(case aH=>exact cb_ HR0_1.out HB.out);(case aI=>exact HC0_1.out);rintro e w28 ⟨rfl,hb⟩;refine⟨_,rfl,?_⟩;replace aa:=Aside0.mk (bb_ aa.out hb);replace af:=Aside0.mk (bb_ af.out hb);replace HB:=Aside0.mk (bs_ hb);(try clear hb);(try clear hb2);(try clear hk);(try clear hi)))
    go_meet
    case rel=>exact⟨_,(true),rs_,H',⟨by first | omega | exact Nat.le_refl _⟩,⟨bk_⟩,⟨bk_⟩,⟨hb_⟩⟩
  case rest=>
   clear HC6
   try clear c1
   try clear c2
   try clear p2
   try clear c4
   try clear c5
   try clear c9
   try clear c13
   try clear c15
   try clear c16
   try clear c21
   try clear c26
   try clear aY
   try clear aZ
   try clear bb
   try clear bf
   try clear bi
   try clear bk
   try clear bu
   try clear bv
   try clear bA
   try clear bC
   try clear bF
   try clear bG
   try clear a9
   try clear ba
   try clear bg
   try clear bh
   try clear bn
   try clear bq
   try clear bw
   try clear bz
   try clear bD
   try clear bE
   try clear bH
   try clear bI
   obtain⟨kq,aW,rfl,HA,HJ5,aa,af,HB⟩:=hcut
   cases kq with
   | zero=>exact absurd HA.out (by simp [impl_FaceOf.j0])
   | succ kj5=>
    have H:=HA.out
    clear HA
    simp only [impl_FaceOf.j0] at H
    by_cases c29:aW=true
    ·subst c29
     have H1:(some (0,([]:List Int),2))=some (r1,r2,r3):=by rw [if_pos rfl] at H;exact H
     clear H
     have H:=H1
     clear H1
     simp only [Option.some.injEq,Prod.mk.injEq] at H
     obtain⟨rfl,rfl,rfl⟩:=H
     have db:=aw.out
     have dc:=av.out
     have bN:wc.cell? ⟨aj,0,none⟩=some (.int .i64 0):=(blk_cell af.out 0).trans rfl
     have bO:wc.cell? ⟨aj,1,none⟩=some (.slice none 0 0):=(blk_cell af.out 1).trans rfl
     have bP:=blk_frozen af.out 0
     have bQ:=blk_frozen af.out 1
     go_wp2
     refine bodyPost_ret (results_ct rfl _ _ aj 64 #[.int .i64 0, .slice none 0 0] (0,0) _ rfl (by(with_reducible repeat (first | refine blk_drewN ?_ _ | refine blk_drew ?_ | refine blk_alloc ?_ _));refine blk_put (cs:= #[.int .i64 0, .slice none 0 0]) ?_ 1 _ rfl;(with_reducible repeat (first | refine blk_drewN ?_ _ | refine blk_drew ?_ | refine blk_alloc ?_ _));refine blk_put (cs:= #[.int .i64 0, .slice none 0 0]) ?_ 0 _ rfl;(with_reducible repeat (first | refine blk_drewN ?_ _ | refine blk_drew ?_ | refine blk_alloc ?_ _));exact af.out) Try.underlying64 rfl (by kernel_rfl)) rfl ?_
     exact⟨_,by first | rfl | (simp [errW_none,errW_some] <;> rfl) | (simp [*,errW_none,errW_some] <;> rfl),by first | exact Kd.R_nil _ _ _ _ _ | exact Kd.N_nil _ _ _ _ _ | exact Kd.V_nil _ _ _ _ _ | exact Kd.Q_nil _ _ _ _ _ | exact Kd.S_nil _ _ _ _ _,hb_⟩
    ·replace c29:=Bool.eq_false_iff.mpr c29
     subst c29
     have H1:((impl_count.f kj5 a2).bind fun ai=>(if 0≤ai then(impl_FaceOf.l0 kj5 a1 a2 (shl .i64 1 ai) 0 a0_0 ae ai ([]:List Int)) else(none)))=some (r1,r2,r3):=by rw [if_neg (show ¬ (false=true) by decide)] at H;exact H
     clear H
     have H:=H1
     clear H1
     replace H:=Option.bind_eq_some_iff.mp H
     obtain⟨ai,A320,H⟩:=H
     replace H:(if 0≤ai then(impl_FaceOf.l0 kj5 a1 a2 (shl .i64 1 ai) 0 a0_0 ae ai ([]:List Int)) else(none))=some (r1,r2,r3):=H
     have A32:=Aside0.mk A320
     clear A320
     by_cases c33:0≤ai
     ·rw [if_pos c33] at H
      have c33b0:=eq_true c33
      have c33b1:decide (0≤ai)=true:=decide_eq_true c33
      clear c33
      obtain⟨ji34,hji34⟩: ∃j_:Int,(shl .i64 1 ai)=j_:=⟨_,rfl⟩
      replace H:(impl_FaceOf.l0 kj5 a1 a2 ji34 0 a0_0 ae ai ([]:List Int))=some (r1,r2,r3):=by first | (rw [hji34] at H;exact H) | (simp only [hji34] at H ⊢;exact H)
      (try rw [hji34] at A32)
      have hji34_:(IntKind.i64.wrap (1*2 ^ min ai.toNat 64))=ji34:=hji34
      have hji34z:ai≤64→(IntKind.i64.wrap (1*2 ^ ai.toNat))=ji34:=shl_small hji34
      have hji34u:(IntKind.i64.wrap (2 ^ min ai.toNat 64))=ji34:=by have h_:=hji34_;rw [Int.one_mul] at h_;exact h_
      have hji34v:ai≤64→(IntKind.i64.wrap (2 ^ ai.toNat))=ji34:=fun hle_=>by have h_:=hji34z hle_;rw [Int.one_mul] at h_;exact h_
      have hji34y:(wrap64 (1*2 ^ min ai.toNat 64))=ji34:=(i64_w _).symm.trans hji34_
      have hji34x:ai≤64→(wrap64 (1*2 ^ ai.toNat))=ji34:=fun h_=>(i64_w _).symm.trans (hji34z h_)
      have H':=Aside0.mk H
      clear H
      go_wp2_with (first | ((with_reducible refine gate_callee (f:=135) rfl ?_);refine gL_ 30 Try.func135 #[.int .i64 a2] ?_;(with_reducible refine(impl_count.calls kj5 a2 ai _ A32.out).mono ?_);rintro e w' ⟨rfl,⟨nd,rfl⟩⟩;refine⟨_,rfl,?_⟩;(try (rw [drewN_self wc];generalize hq_:World.drewN wc _=wc;have n0_:Aside0 (wc.heap[ag]?=some (.cells #[.int .i64 a0_0, .slice az ae.length ay] 64 (0,0))):=⟨by rw [← hq_];exact bk_⟩;have n1_:Aside0 (wc.heap[aj]?=some (.cells #[.int .i64 0, .slice none 0 0] 64 (0,0))):=⟨by rw [← hq_];exact bk_⟩;have n2_:Aside0 (Below w.heap.size w wc):=⟨by rw [← hq_];exact hb_⟩;clear aa af HB hq_;have aa:=n0_;have af:=n1_;have HB:=n2_;clear n0_ n1_ n2_))) | ((with_reducible refine gate_dst (N:=8) rfl ?_);refine box_event ?hg (N:=8) ?hd (cs:= #[.int .i64 0, .slice none 0 0]) (t:=64) ?hr ?_;(case hd=>rfl);(case hg=>rfl);(case hr=>first | (go_simp;done) | (go_simp;rfl));intro ax hg w35 hbox hb;have ah:=Aside0.mk (hbox);have cR:=Aside0.mk ((by rw [hg];exact bz_:w.heap.size≤ax));have cS:=Aside0.mk ((by rw [hg];exact bz_:w.heap.size≤ax));have aC:=Aside0.mk ((by rw [hg];exact lt_ aa.out:ag≠ax));have aN:=Aside0.mk ((by rw [hg];exact gt_ aa.out:ax≠ag));have aD:=Aside0.mk ((by rw [hg];exact lt_ af.out:aj≠ax));have aT:=Aside0.mk ((by rw [hg];exact gt_ af.out:ax≠aj));replace aa:=Aside0.mk (bb_ aa.out hb);replace af:=Aside0.mk (bb_ af.out hb);replace HB:=Aside0.mk (bs_ hb);clear hb hbox hg;have df:=aN.out;have dh:=aC.out;have di:=aT.out;have dl:=aD.out;have bS:w35.cell? ⟨ax,0,none⟩=some (.int .i64 0):=(blk_cell ah.out 0).trans rfl;have bT:w35.cell? ⟨ax,1,none⟩=some (.slice none 0 0):=(blk_cell ah.out 1).trans rfl;have bU:=blk_frozen ah.out 0;have bV:=blk_frozen ah.out 1))
      go_loopg [35] kj5 (fun kq v35 w'=> ∃(aK:Int) (ak:List Int) (aG:Value),v35= .int .i64 aK∧Aside0 (impl_FaceOf.l0 kq a1 a2 ji34 aK a0_0 ae ai ak=some (r1,r2,r3))∧Aside0 (kq≤kj5)∧Aside0 (Kd.R (Kd.int .i64) 2 w' w.heap.size (fun _=>True) aG ak)∧Aside0 (w'.heap[ag]?=some (.cells #[.int .i64 a0_0,(.slice az ae.length ay)] 64 (0,0)))∧Aside0 (w'.heap[aj]?=some (.cells #[.int .i64 0,(.slice none 0 0)] 64 (0,0)))∧Aside0 (w'.heap[ax]?=some (.cells #[.int .i64 ai,aG] 64 (0,0)))∧Aside0 (Below w.heap.size w w'))
      case atStart=>exact⟨(0),(([]:List Int)),(.slice none 0 0),rs_,H',⟨Nat.le_refl _⟩,⟨by first | exact Kd.R_nil _ _ _ _ _ | exact Kd.N_nil _ _ _ _ _ | exact Kd.V_nil _ _ _ _ _ | exact Kd.Q_nil _ _ _ _ _ | exact Kd.S_nil _ _ _ _ _⟩,⟨by(with_reducible repeat (first | refine blk_drewN ?_ _ | refine blk_drew ?_ | refine blk_alloc ?_ _));refine blk_far ?_ aC.out _;(with_reducible repeat (first | refine blk_drewN ?_ _ | refine blk_drew ?_ | refine blk_alloc ?_ _));refine blk_far ?_ aC.out _;(with_reducible repeat (first | refine blk_drewN ?_ _ | refine blk_drew ?_ | refine blk_alloc ?_ _));exact aa.out⟩,⟨by(with_reducible repeat (first | refine blk_drewN ?_ _ | refine blk_drew ?_ | refine blk_alloc ?_ _));refine blk_far ?_ aD.out _;(with_reducible repeat (first | refine blk_drewN ?_ _ | refine blk_drew ?_ | refine blk_alloc ?_ _));refine blk_far ?_ aD.out _;(with_reducible repeat (first | refine blk_drewN ?_ _ | refine blk_drew ?_ | refine blk_alloc ?_ _));exact af.out⟩,⟨by(with_reducible repeat (first | refine blk_drewN ?_ _ | refine blk_drew ?_ | refine blk_alloc ?_ _));refine blk_put (cs:= #[.int .i64 ai, .slice none 0 0]) ?_ 1 _ rfl;(with_reducible repeat (first | refine blk_drewN ?_ _ | refine blk_drew ?_ | refine blk_alloc ?_ _));refine blk_put (cs:= #[.int .i64 0, .slice none 0 0]) ?_ 0 _ rfl;(with_reducible repeat (first | refine blk_drewN ?_ _ | refine blk_drew ?_ | refine blk_alloc ?_ _));exact ah.out⟩,⟨hb_⟩⟩
      case round=>
       clear H'
       try clear c1
       try clear c2
       try clear p2
       try clear c3
       try clear c4
       try clear c5
       try clear p6
       try clear c9
       try clear c13
       try clear c15
       try clear c16
       try clear c21
       try clear c26
       try clear c29
       try clear c30
       try clear c33
       try clear c33b0
       try clear c33b1
       try clear c36
       try clear c37
       try clear aY
       try clear aZ
       try clear bb
       try clear bf
       try clear bi
       try clear bk
       try clear bu
       try clear bv
       try clear bA
       try clear bC
       try clear bF
       try clear bG
       try clear bN
       try clear bO
       try clear bS
       try clear bT
       try clear a9
       try clear ba
       try clear bg
       try clear bh
       try clear bn
       try clear bq
       try clear bw
       try clear bz
       try clear bD
       try clear bE
       try clear bH
       try clear bI
       try clear bP
       try clear bQ
       try clear bU
       try clear bV
       try clear p2
       obtain⟨aK,ak,aG,rfl,HA,HK2,aq,aa,af,ah,HB⟩:=hrel
       cases gk with
       | zero=>exact absurd HA.out (by simp [impl_FaceOf.l0])
       | succ k2=>
        have H:=HA.out
        clear HA
        simp only [impl_FaceOf.l0] at H
        by_cases c39:aK < ji34
        ·rw [if_pos c39] at H
         have c39b0:decide (aK < ji34)=true:=decide_eq_true c39
         clear c39
         replace H:=Option.bind_eq_some_iff.mp H
         obtain⟨aA,A400,H⟩:=H
         replace H:(if 0≤(Go.bits .or .i64 (Go.bits .andNot .i64 a1 a2) aA) then(if(Go.bits .or .i64 (Go.bits .andNot .i64 a1 a2) aA) < (ae.length:Int) then((impl_gathered.f k2 (rd ae (Go.bits .or .i64 (Go.bits .andNot .i64 a1 a2) aA)) a2).bind fun aU=>(if ak.length < 17592186044416 then(impl_FaceOf.l0 k2 a1 a2 ji34 (wrap64 (aK+1)) a0_0 ae ai (ak++ [aU])) else(none))) else(none)) else(none))=some (r1,r2,r3):=H
         have A40:=Aside0.mk A400
         clear A400
         by_cases c41:0≤(Go.bits .or .i64 (Go.bits .andNot .i64 a1 a2) aA)
         ·rw [if_pos c41] at H
          have c41b0:decide (0≤(Go.bits .or .i64 (Go.bits .andNot .i64 a1 a2) aA))=true:=decide_eq_true c41
          clear c41
          by_cases c42:(Go.bits .or .i64 (Go.bits .andNot .i64 a1 a2) aA) < (ae.length:Int)
          ·rw [if_pos c42] at H
           have c42b0:decide ((Go.bits .or .i64 (Go.bits .andNot .i64 a1 a2) aA) < (ae.length:Int))=true:=decide_eq_true c42
           clear c42
           replace H:=Option.bind_eq_some_iff.mp H
           obtain⟨aU,A430,H⟩:=H
           replace H:(if ak.length < 17592186044416 then(impl_FaceOf.l0 k2 a1 a2 ji34 (wrap64 (aK+1)) a0_0 ae ai (ak++ [aU])) else(none))=some (r1,r2,r3):=H
           have A43:=Aside0.mk A430
           clear A430
           by_cases c44:ak.length < 17592186044416
           ·rw [if_pos c44] at H
            have cq:=Aside0.mk c44
            clear c44
            obtain⟨aX,hy1055⟩: ∃y_:List Int,y_=(ak++ [aU]):=⟨_,rfl⟩
            replace H:(impl_FaceOf.l0 k2 a1 a2 ji34 (wrap64 (aK+1)) a0_0 ae ai aX)=some (r1,r2,r3):=by first | (rw [hy1055];with_reducible exact H) | (have H2_:=(Option.bind_some _ _).symm.trans H;rw [hy1055];with_reducible exact H2_) | (have H2_:=(Option.bind_some _ _).symm.trans H;with_reducible exact H2_) | with_reducible exact H | (rw [hy1055];exact H) | exact H
            have cf:=Aside0.mk hy1055
            clear hy1055
            have H':=Aside0.mk H
            clear H
            try go_wp2
            replace aq:=Aside0.mk (Kd.R_drew aq.out)
            replace aa:=Aside0.mk (blk_drew aa.out)
            replace af:=Aside0.mk (blk_drew af.out)
            replace ah:=Aside0.mk (blk_drew ah.out)
            replace HB:=Aside0.mk (below_drew1 HB.out)
            have p1053:0≤((Go.bits .or .i64 (Go.bits .andNot .i64 a1 a2) aA):Int):=od_
            have q1053:(Go.bits .or .i64 (Go.bits .andNot .i64 a1 a2) aA) < (ae.length:Int):=od_
            obtain⟨bJ,e1053,hx1053_0⟩:=Kd.at_int HR0_1.out (Go.bits .or .i64 (Go.bits .andNot .i64 a1 a2) aA) p1053 q1053
            have au:=hx1053_0
            cases e1053
            replace hx1053_0:=(HB.out.cell (World.block_lt_of_cell? w _ hx1053_0)).trans hx1053_0
            replace p1053:=eq_true p1053
            replace q1053:=eq_true q1053
            refine st_ (n:=19) (S:=fun w'=>w'.cell? ⟨ax,0,none⟩=some (.int .i64 ai)∧w'.cell? ⟨ax,1,none⟩=some (aG)∧w'.cell? ⟨ag,0,none⟩=some (.int .i64 a0_0)∧w'.cell? ⟨ag,1,none⟩=some (.slice (some bJ) ae.length ay)∧w'.cell? (bJ.add ((Go.bits .or .i64 (Go.bits .andNot .i64 a1 a2) aA)).toNat)=some (.int .i64 (rd ae (Go.bits .or .i64 (Go.bits .andNot .i64 a1 a2) aA)))) (ds:= [18]) ⟨(blk_cell ah.out 0).trans rfl,(blk_cell ah.out 1).trans rfl,(blk_cell aa.out 0).trans rfl,(blk_cell aa.out 1).trans rfl,((HB.out.cell (World.block_lt_of_cell? w _ au)).trans au)⟩ (fun hHeld=>?_);refine with_tabW impl_FaceOf.tab9 impl_FaceOf.bits9 (fun HT_ HW_=>?_)
            generalize wr.drew=w45 at aq aa af ah HB hx1053_0 hHeld ⊢
            refine pu_ 0 38 ?_;refine pu_ 2 40 ?_;refine pu_ 4 42 ?_;refine pu_ 5 43 ?_;refine pu_ 6 44 ?_;refine pu_ 7 45 ?_;refine pu_ 8 46 ?_;refine pu_ 13 51 ?_;refine tk_ 1 39 ?_;refine tk_ 3 41 ?_
            refine on_ 9 (some 47) (fun K hK=>?_)
            refine goes_ Try.func137 (by kernel_rfl) rfl #[.int .i64 aK, .int .i64 a2] (by rfl) rfl rfl (by(try simp only [List.map_toArray,List.map_cons,List.map_nil]);first | done | rfl | (simp only [List.length_drop,List.length_take];rfl)) ?_
            with_reducible refine(impl_spread.calls k2 aK a2 aA _ A40.out).mono ?_
            rintro e w' ⟨rfl,⟨nd,rfl⟩⟩
            refine⟨_,rfl,?_⟩
            refine hK.out _ _ ⟨(blk_cell ah.out 0).trans rfl,(blk_cell ah.out 1).trans rfl,(blk_cell aa.out 0).trans rfl,(blk_cell aa.out 1).trans rfl,((HB.out.cell (World.block_lt_of_cell? w _ au)).trans au)⟩ (fun hHeld=>?_)
            clear hK K
            refine norm_ (a':=?_) ?_ ?_
            rotate_left
            ·show Act.put _ (some 47) _=_
             simp only [Act.put,List.setIfInBounds_toArray,List.set_cons_zero,List.set_cons_succ,i64_w,i32_w]
             rfl
            refine pu_ 10 48 ?_;refine pu_ 11 49 ?_;refine tk_ 12 50 ?_
            refine on_ 14 (some 52) (fun K hK=>?_)
            refine goes_ Try.func136 (by kernel_rfl) rfl #[.int .i64 (rd ae (Go.bits .or .i64 (Go.bits .andNot .i64 a1 a2) aA)), .int .i64 a2] (by rfl) rfl rfl (by(try simp only [List.map_toArray,List.map_cons,List.map_nil]);first | done | rfl | (simp only [List.length_drop,List.length_take];rfl)) ?_
            with_reducible refine(impl_gathered.calls k2 (rd ae (Go.bits .or .i64 (Go.bits .andNot .i64 a1 a2) aA)) a2 aU _ A43.out).mono ?_
            rintro e w' ⟨rfl,⟨nd,rfl⟩⟩
            refine⟨_,rfl,?_⟩
            refine hK.out _ _ ⟨(blk_cell ah.out 0).trans rfl,(blk_cell ah.out 1).trans rfl,(blk_cell aa.out 0).trans rfl,(blk_cell aa.out 1).trans rfl,((HB.out.cell (World.block_lt_of_cell? w _ au)).trans au)⟩ (fun hHeld=>?_)
            clear hK K
            refine norm_ (a':=?_) ?_ ?_
            rotate_left
            ·show Act.put _ (some 52) _=_
             simp only [Act.put,List.setIfInBounds_toArray,List.set_cons_zero,List.set_cons_succ,i64_w,i32_w]
             rfl
            refine on_ 15 (some 53) (fun K hK=>?_)
            refine value_ (w1:=?_) (v:=?_) (by rfl) rfl ?_ ?_
            rotate_left 2
            ·go_simp
             constructor
             ·rfl
             ·rfl
            refine hK.out _ _ ⟨(blk_cell (blk_alloc ah.out _) 0).trans rfl,(blk_cell (blk_alloc ah.out _) 1).trans rfl,(blk_cell (blk_alloc aa.out _) 0).trans rfl,(blk_cell (blk_alloc aa.out _) 1).trans rfl,(World.cell?_alloc_lt _ _ _ (World.block_lt_of_cell? _ _ (((HB.out.cell (World.block_lt_of_cell? w _ au)).trans au)))).trans (((HB.out.cell (World.block_lt_of_cell? w _ au)).trans au))⟩ (fun hHeld=>?_)
            clear hK K
            refine norm_ (a':=?_) ?_ ?_
            rotate_left
            ·show Act.put _ (some 53) _=_
             simp only [Act.put,List.setIfInBounds_toArray,List.set_cons_zero,List.set_cons_succ,i64_w,i32_w]
             rfl
            refine on_ 16 (some 54) (fun K hK=>?_)
            refine Kd.R_append_step (Kd.int .i64) (w0:=w) w.heap.size (by rfl) (.tmp 39) (.tmp 53) 23 2 (.int .i64 0) 8 rfl Try.underlying23 info2 rfl (by decide) (by omega) aG ak aU [.int .i64 aU] (fun _=>True) (fun _=>False) rfl rfl ?aP (fun _ hk=>hk.elim) ?aF ?aO ?aB ?aS ?aL ?_
            (case aP=>exact rfl)
            (case aB=>exact hb_)
            (case aF=>exact(fun _ _=>trivial))
            (case aO=>exact(ro_ aq.out))
            (case aS=>exact bz_)
            (case aL=>have:=cq.out;omega)
            intro dm w46 ho hb hg hat
            rw [← cf.out] at ho
            replace aa:=Aside0.mk (bg_ aa.out hg (Kd.R_ne aq.out aa.out (by decide)))
            replace af:=Aside0.mk (bg_ af.out hg (Kd.R_ne aq.out af.out (by decide)))
            replace ah:=Aside0.mk (bg_ ah.out hg (Kd.R_ne aq.out ah.out (by decide)))
            replace HB:=Aside0.mk (hb)
            have bK:=Aside0.mk (ho)
            clear aq ho hb hg hat
            obtain⟨ck,cl,cm⟩:=Kd.R_slice bK.out
            (first | subst cm | (injection cm with f1_ f2_ f3_;have f4_:=f1_.symm;have f5_:=f3_.symm;clear f1_ f2_ f3_;subst f4_;subst f5_))
            refine hK.out _ _ ⟨(blk_cell ah.out 0).trans rfl,(blk_cell ah.out 1).trans rfl,(blk_cell aa.out 0).trans rfl,(blk_cell aa.out 1).trans rfl,((HB.out.cell (World.block_lt_of_cell? w _ au)).trans au)⟩ (fun hHeld=>?_)
            clear hK K
            refine norm_ (a':=?_) ?_ ?_
            rotate_left
            ·show Act.put _ (some 54) _=_
             simp only [Act.put,List.setIfInBounds_toArray,List.set_cons_zero,List.set_cons_succ,i64_w,i32_w]
             rfl
            refine pu_ 17 55 ?_
            refine la_ 18 none (fun K hK=>?_)
            have hs48:w46.cell? ⟨ax,1,none⟩=some (aG):=(blk_cell ah.out 1).trans rfl
            have hfs48:=blk_frozen ah.out 1
            have hns48_0:=aC.out
            have hns48_1:=aD.out
            have hms48_0:=aN.out
            have hms48_1:=aT.out
            refine skip_ (w1:=?_) (by rfl) rfl ?_ ?_
            rotate_left
            ·go_simp
             rfl
            refine hK.out _ _ ?_
            clear hK K
            refine done_ (done_of HT_.out (by kernel_rfl)) ?_
            try go_wp2
            go_roundg k2
            case measure=>have:=HJ5.out;have:=HK2.out;omega
            case rel=>exact⟨(wrap64 (aK+1)),(aX),(.slice ck aX.length cl),rs_,H',⟨by have:=HJ5.out;have:=HK2.out;omega⟩,⟨by(with_reducible repeat (first | apply Kd.R_alloc | apply Kd.R_drewN | apply Kd.R_drew));exact Kd.R_mono (Kd.R_far (p:=⟨ax,1,none⟩) (Kd.R_types bK.out ah.out (by decide)) (fun _ hk=>hk.2) (.slice ck aX.length cl)) (fun _ hk=>trivial)⟩,⟨by(with_reducible repeat (first | refine blk_drewN ?_ _ | refine blk_drew ?_ | refine blk_alloc ?_ _));refine blk_far ?_ aC.out _;(with_reducible repeat (first | refine blk_drewN ?_ _ | refine blk_drew ?_ | refine blk_alloc ?_ _));exact aa.out⟩,⟨by(with_reducible repeat (first | refine blk_drewN ?_ _ | refine blk_drew ?_ | refine blk_alloc ?_ _));refine blk_far ?_ aD.out _;(with_reducible repeat (first | refine blk_drewN ?_ _ | refine blk_drew ?_ | refine blk_alloc ?_ _));exact af.out⟩,⟨by(with_reducible repeat (first | refine blk_drewN ?_ _ | refine blk_drew ?_ | refine blk_alloc ?_ _));refine blk_put (cs:= #[.int .i64 ai,aG]) ?_ 1 _ rfl;(with_reducible repeat (first | refine blk_drewN ?_ _ | refine blk_drew ?_ | refine blk_alloc ?_ _));exact ah.out⟩,⟨hb_⟩⟩
           ·rw [if_neg c44] at H
            exact absurd H (by simp)
          ·rw [if_neg c42] at H
           exact absurd H (by simp)
         ·rw [if_neg c41] at H
          exact absurd H (by simp)
        ·rw [if_neg c39] at H
         have c39b0:decide (aK < ji34)=false:=decide_eq_false c39
         clear c39
         simp only [Option.some.injEq,Prod.mk.injEq] at H
         obtain⟨rfl,rfl,rfl⟩:=H
         have dq:=aN.out
         have dr:=aC.out
         have du:=aT.out
         have dw:=aD.out
         have cA:wr.cell? ⟨ax,0,none⟩=some (.int .i64 ai):=(blk_cell ah.out 0).trans rfl
         have cB:wr.cell? ⟨ax,1,none⟩=some (aG):=(blk_cell ah.out 1).trans rfl
         have cC:=blk_frozen ah.out 0
         have cD:=blk_frozen ah.out 1
         have dx:=aw.out
         have dz:=av.out
         have cE:wr.cell? ⟨aj,0,none⟩=some (.int .i64 0):=(blk_cell af.out 0).trans rfl
         have cF:wr.cell? ⟨aj,1,none⟩=some (.slice none 0 0):=(blk_cell af.out 1).trans rfl
         have cG:=blk_frozen af.out 0
         have cH:=blk_frozen af.out 1
         obtain⟨cn,co,ct⟩:=Kd.R_slice aq.out
         subst ct
         go_wp2
         refine bodyPost_ret (results_ct rfl _ _ aj 64 #[.int .i64 ai, .slice cn ak.length co] (0,0) _ rfl (by(with_reducible repeat (first | refine blk_drewN ?_ _ | refine blk_drew ?_ | refine blk_alloc ?_ _));refine blk_put (cs:= #[.int .i64 ai, .slice none 0 0]) ?_ 1 _ rfl;(with_reducible repeat (first | refine blk_drewN ?_ _ | refine blk_drew ?_ | refine blk_alloc ?_ _));refine blk_put (cs:= #[.int .i64 0, .slice none 0 0]) ?_ 0 _ rfl;(with_reducible repeat (first | refine blk_drewN ?_ _ | refine blk_drew ?_ | refine blk_alloc ?_ _));exact af.out) Try.underlying64 rfl (by kernel_rfl)) rfl ?_
         exact⟨_,by first | rfl | (simp [errW_none,errW_some] <;> rfl) | (simp only [← hji34];first | rfl | (simp [errW_none,errW_some] <;> rfl)) | (simp [*,errW_none,errW_some] <;> rfl),by(with_reducible repeat (first | apply Kd.R_alloc | apply Kd.R_drewN | apply Kd.R_drew));exact Kd.R_mono (Kd.R_far (p:=⟨aj,1,none⟩) (Kd.R_far (p:=⟨aj,0,none⟩) (Kd.R_types aq.out af.out (by decide)) (fun _ hk=>hk.2) (.int .i64 ai)) (fun _ hk=>hk.2) (.slice cn ak.length co)) (fun _ hk=>trivial),hb_⟩
     ·rw [if_neg c33] at H
      exact absurd H (by simp)
 ·replace c5:=Bool.eq_false_iff.mpr c5
  subst c5
  have H1:(some (0,([]:List Int),1))=some (r1,r2,r3):=by rw [if_neg (show ¬ (false=true) by decide)] at H;exact H
  clear H
  have H:=H1
  clear H1
  simp only [Option.some.injEq,Prod.mk.injEq] at H
  obtain⟨rfl,rfl,rfl⟩:=H
  go_enter Try.func51,Try.ntmps51
  go_wp2_with (first | ((with_reducible refine gate_dst (N:=3) rfl ?_);refine box_event ?hg (N:=3) ?hd (cs:= #[.int .i64 a0_0, .slice az ae.length ay]) (t:=64) ?hr ?_;(case hd=>rfl);(case hg=>rfl);(case hr=>first | (go_simp;done) | (go_simp;rfl));intro ag hg w55 hbox hb;have aa:=Aside0.mk (hbox);have bW:=Aside0.mk ((by rw [hg];exact bz_:w.heap.size≤ag));have bX:=Aside0.mk ((by rw [hg];exact bz_:w.heap.size≤ag));replace HB:=Aside0.mk (bs_ hb);clear hb hbox hg) | ((with_reducible refine gate_dst (N:=6) rfl ?_);refine box_event ?hg (N:=6) ?hd (cs:= #[.int .i64 0, .slice none 0 0]) (t:=64) ?hr ?_;(case hd=>rfl);(case hg=>rfl);(case hr=>first | (go_simp;done) | (go_simp;rfl));intro aj hg w56 hbox hb;have af:=Aside0.mk (hbox);have bY:=Aside0.mk ((by rw [hg];exact bz_:w.heap.size≤aj));have bZ:=Aside0.mk ((by rw [hg];exact bz_:w.heap.size≤aj));have av:=Aside0.mk ((by rw [hg];exact lt_ aa.out:ag≠aj));have aw:=Aside0.mk ((by rw [hg];exact gt_ aa.out:aj≠ag));replace aa:=Aside0.mk (bb_ aa.out hb);replace HB:=Aside0.mk (bs_ hb);clear hb hbox hg;have dA:=av.out;have dB:=aw.out;have cI:w56.cell? ⟨ag,0,none⟩=some (.int .i64 a0_0):=(blk_cell aa.out 0).trans rfl;have cJ:w56.cell? ⟨ag,1,none⟩=some (.slice az ae.length ay):=(blk_cell aa.out 1).trans rfl;have cK:=blk_frozen aa.out 0;have cL:=blk_frozen aa.out 1) | ((with_reducible refine gate_callee (f:=42) rfl ?_);refine gL_ 11 Try.func42 #[.agg #[.int .i64 a0_0, .slice az ae.length ay]] ?_;(with_reducible refine(impl_IsCube.calls k a0_0 _ _ ae false _ ?aH ?aI A4.out).mono ?_);(case aH=>exact cb_ HR0_1.out HB.out);(case aI=>exact HC0_1.out);rintro e w59 ⟨rfl,hb⟩;refine⟨_,rfl,?_⟩;replace aa:=Aside0.mk (bb_ aa.out hb);replace af:=Aside0.mk (bb_ af.out hb);replace HB:=Aside0.mk (bs_ hb);(try clear hb);(try clear hb2);(try clear hk);(try clear hi);have cN:w59.cell? ⟨aj,0,none⟩=some (.int .i64 0):=(blk_cell af.out 0).trans rfl;have cO:w59.cell? ⟨aj,1,none⟩=some (.slice none 0 0):=(blk_cell af.out 1).trans rfl;have cP:=blk_frozen af.out 0;have cQ:=blk_frozen af.out 1))
  refine bodyPost_ret (results_ct rfl _ _ aj 64 #[.int .i64 0, .slice none 0 0] (0,0) _ rfl (by(with_reducible repeat (first | refine blk_drewN ?_ _ | refine blk_drew ?_ | refine blk_alloc ?_ _));refine blk_put (cs:= #[.int .i64 0, .slice none 0 0]) ?_ 1 _ rfl;(with_reducible repeat (first | refine blk_drewN ?_ _ | refine blk_drew ?_ | refine blk_alloc ?_ _));refine blk_put (cs:= #[.int .i64 0, .slice none 0 0]) ?_ 0 _ rfl;(with_reducible repeat (first | refine blk_drewN ?_ _ | refine blk_drew ?_ | refine blk_alloc ?_ _));exact af.out) Try.underlying64 rfl (by kernel_rfl)) rfl ?_
  exact⟨_,by first | rfl | (simp [errW_none,errW_some] <;> rfl) | (simp [*,errW_none,errW_some] <;> rfl),by first | exact Kd.R_nil _ _ _ _ _ | exact Kd.N_nil _ _ _ _ _ | exact Kd.V_nil _ _ _ _ _ | exact Kd.Q_nil _ _ _ _ _ | exact Kd.S_nil _ _ _ _ _,hb_⟩
def spec_l06Code.l0:Nat→List Int→Int→Int→List Int→Option (Int)
 | 0,_,_,_,_=>none
 | k+1,x1,x5,ae,aa=>if x5 < (x1.length:Int) then(if 0≤x5 then((spec_l01In.f (rd x1 x5) 0 (wrap64 ((aa.length:Int) - 1))).bind fun af=>(if af=true then(spec_l06Code.l0 k x1 (wrap64 (x5+1)) ae aa) else(some 2))) else(none)) else(some 0)
def spec_l06Code.f (k:Nat) (a0_0:Int) (aa:List Int) (l1:List Int):Option (Int):=(spec_l06Is.f k a0_0 aa).bind fun ae=>(if ae=true then(spec_l06Code.l0 k l1 0 a0_0 aa) else(some 1))
theorem spec_l06Code.mono_l: ∀k,(∀y0 y1 y2 y3,LeO (spec_l06Code.l0 k y0 y1 y2 y3) (spec_l06Code.l0 (k+1) y0 y1 y2 y3))
 | 0=>fun _ _ _ _ r h=>by simp [spec_l06Code.l0] at h
 | k+1=>by
  have ih0:=spec_l06Code.mono_l k
  ·intro y0 y1 y2 y3
   unfold spec_l06Code.l0
   repeat' first
   | (with_reducible exact ih0 _ _ _ _)
   | (with_reducible exact spec_l06Is.mono _ _ _)
   | (with_reducible exact LeO.refl _)
   | (with_reducible exact LeO.none _)
   | (with_reducible refine LeO.ite ?_ ?_)
   | (with_reducible refine LeO.bind ?_ (fun _=>?_))
   | exact ih0 _ _ _ _
   | exact spec_l06Is.mono _ _ _
   | exact LeO.none _
   | refine LeO.ite ?_ ?_
   | refine LeO.bind ?_ (fun _=>?_)
theorem spec_l06Code.mono: ∀a0 a1 a2 k,LeO (spec_l06Code.f k a0 a1 a2) (spec_l06Code.f (k+1) a0 a1 a2):=by
 intro a0 a1 a2 k
 have ih0:=spec_l06Code.mono_l k
 unfold spec_l06Code.f
 repeat' first
   | (with_reducible exact ih0 _ _ _ _)
   | (with_reducible exact spec_l06Is.mono _ _ _)
   | (with_reducible exact LeO.refl _)
   | (with_reducible exact LeO.none _)
   | (with_reducible refine LeO.ite ?_ ?_)
   | (with_reducible refine LeO.bind ?_ (fun _=>?_))
   | exact ih0 _ _ _ _
   | exact spec_l06Is.mono _ _ _
   | exact LeO.none _
   | refine LeO.ite ?_ ?_
   | refine LeO.bind ?_ (fun _=>?_)
theorem spec_l06Code.calls (k:Nat) (a0_0:Int) (ah:Option Addr) (ai:Nat) (af:List Int) (A1:Option Addr) (c1:Nat) (l1:List Int) (r:Int) (w:World) (aH:Kd.C (Kd.int .i64) w ah af.length af) (aI:af.length≤ai) (hr1:Kd.C (Kd.int .i64) w A1 l1.length l1) (hc1:l1.length≤c1) (h:spec_l06Code.f k a0_0 af l1=some r):
  Calls Try.prog 138 #[.agg #[.int .i64 a0_0, .slice ah af.length ai], .slice A1 l1.length c1] w fun e w'=>e= .returned (.int .i64 r)∧Below w.heap.size w w':=by
 have hu64:=Try.underlying64
 have HR0_1:=Aside0.mk aH
 have HC0_1:=Aside0.mk aI
 clear aH aI
 have HR1:=Aside0.mk hr1
 have HC1:=Aside0.mk hc1
 clear hr1 hc1
 have HB:=Aside0.mk (Below.refl w.heap.size w)
 have H:((spec_l06Is.f k a0_0 af).bind fun av=>(if av=true then(spec_l06Code.l0 k l1 0 a0_0 af) else(some 1)))=some r:=h
 clear h
 replace H:=Option.bind_eq_some_iff.mp H
 obtain⟨av,A30,H⟩:=H
 replace H:(if av=true then(spec_l06Code.l0 k l1 0 a0_0 af) else(some 1))=some r:=H
 have A3:=Aside0.mk A30
 clear A30
 by_cases c4:av=true
 ·subst c4
  have H1:(spec_l06Code.l0 k l1 0 a0_0 af)=some r:=by rw [if_pos rfl] at H;exact H
  clear H
  have H:=H1
  clear H1
  have H':=Aside0.mk H
  clear H
  go_enter Try.func138,Try.ntmps138
  go_wp2_with (first | ((with_reducible refine gate_dst (N:=2) rfl ?_);refine box_event ?hg (N:=2) ?hd (cs:= #[.int .i64 a0_0, .slice ah af.length ai]) (t:=64) ?hr ?_;(case hd=>rfl);(case hg=>rfl);(case hr=>first | (go_simp;done) | (go_simp;rfl));intro ae hg w5 hbox hb;have aa:=Aside0.mk (hbox);have aq:=Aside0.mk ((by rw [hg];exact bz_:w.heap.size≤ae));have au:=Aside0.mk ((by rw [hg];exact bz_:w.heap.size≤ae));replace HB:=Aside0.mk (bs_ hb);clear hb hbox hg;have aw:w5.cell? ⟨ae,0,none⟩=some (.int .i64 a0_0):=(blk_cell aa.out 0).trans rfl;have ax:w5.cell? ⟨ae,1,none⟩=some (.slice ah af.length ai):=(blk_cell aa.out 1).trans rfl;have ay:=blk_frozen aa.out 0;have az:=blk_frozen aa.out 1) | (go_at_call 128;(with_reducible refine(spec_l06Is.calls k a0_0 _ _ af true _ ?aj ?ak A3.out).mono ?_);(case aj=>exact cb_ HR0_1.out HB.out);(case ak=>exact HC0_1.out);rintro e w7 ⟨rfl,hb⟩;replace aa:=Aside0.mk (bb_ aa.out hb);replace HB:=Aside0.mk (bs_ hb);(try clear hb);(try clear hb2);(try clear hk);(try clear hi)))
  repeat (go_quiet (first | ((with_reducible refine gate_dst (N:=2) rfl ?_);refine box_event ?hg (N:=2) ?hd (cs:= #[.int .i64 a0_0, .slice ah af.length ai]) (t:=64) ?hr ?_;(case hd=>rfl);(case hg=>rfl);(case hr=>first | (go_simp;done) | (go_simp;rfl));intro ae hg w5 hbox hb;have aa:=Aside0.mk (hbox);have aq:=Aside0.mk ((by rw [hg];exact bz_:w.heap.size≤ae));have au:=Aside0.mk ((by rw [hg];exact bz_:w.heap.size≤ae));replace HB:=Aside0.mk (bs_ hb);clear hb hbox hg;have aw:w5.cell? ⟨ae,0,none⟩=some (.int .i64 a0_0):=(blk_cell aa.out 0).trans rfl;have ax:w5.cell? ⟨ae,1,none⟩=some (.slice ah af.length ai):=(blk_cell aa.out 1).trans rfl;have ay:=blk_frozen aa.out 0;have az:=blk_frozen aa.out 1) | (go_at_call 128;(with_reducible refine(spec_l06Is.calls k a0_0 _ _ af true _ ?aj ?ak A3.out).mono ?_);(case aj=>exact cb_ HR0_1.out HB.out);(case ak=>exact HC0_1.out);rintro e w7 ⟨rfl,hb⟩;replace aa:=Aside0.mk (bb_ aa.out hb);replace HB:=Aside0.mk (bs_ hb);(try clear hb);(try clear hb2);(try clear hk);(try clear hi)));try go_wp2_with (first | ((with_reducible refine gate_dst (N:=2) rfl ?_);refine box_event ?hg (N:=2) ?hd (cs:= #[.int .i64 a0_0, .slice ah af.length ai]) (t:=64) ?hr ?_;(case hd=>rfl);(case hg=>rfl);(case hr=>first | (go_simp;done) | (go_simp;rfl));intro ae hg w5 hbox hb;have aa:=Aside0.mk (hbox);have aq:=Aside0.mk ((by rw [hg];exact bz_:w.heap.size≤ae));have au:=Aside0.mk ((by rw [hg];exact bz_:w.heap.size≤ae));replace HB:=Aside0.mk (bs_ hb);clear hb hbox hg;have aw:w5.cell? ⟨ae,0,none⟩=some (.int .i64 a0_0):=(blk_cell aa.out 0).trans rfl;have ax:w5.cell? ⟨ae,1,none⟩=some (.slice ah af.length ai):=(blk_cell aa.out 1).trans rfl;have ay:=blk_frozen aa.out 0;have az:=blk_frozen aa.out 1) | (go_at_call 128;(with_reducible refine(spec_l06Is.calls k a0_0 _ _ af true _ ?aj ?ak A3.out).mono ?_);(case aj=>exact cb_ HR0_1.out HB.out);(case ak=>exact HC0_1.out);rintro e w7 ⟨rfl,hb⟩;replace aa:=Aside0.mk (bb_ aa.out hb);replace HB:=Aside0.mk (bs_ hb);(try clear hb);(try clear hb2);(try clear hk);(try clear hi))))
  go_loopg [5] k (fun kq v5 w'=> ∃(ag:Int),v5= .int .i64 ag∧Aside0 (spec_l06Code.l0 kq l1 ag a0_0 af=some r)∧Aside0 (kq≤k)∧Aside0 (w'.heap[ae]?=some (.cells #[.int .i64 a0_0,(.slice ah af.length ai)] 64 (0,0)))∧Aside0 (Below w.heap.size w w'))
  case atStart=>exact⟨(0),rs_,H',⟨Nat.le_refl _⟩,⟨bk_⟩,⟨hb_⟩⟩
  case round=>
   clear H'
   try clear c1
   try clear p2
   try clear c4
   try clear aw
   try clear ax
   try clear ay
   try clear az
   obtain⟨ag,rfl,HA,HK1,aa,HB⟩:=hrel
   cases gk with
   | zero=>exact absurd HA.out (by simp [spec_l06Code.l0])
   | succ k1=>
    have H:=HA.out
    clear HA
    simp only [spec_l06Code.l0] at H
    by_cases c8:ag < (l1.length:Int)
    ·rw [if_pos c8] at H
     have c8b0:decide (ag < (l1.length:Int))=true:=decide_eq_true c8
     clear c8
     by_cases c9:0≤ag
     ·rw [if_pos c9] at H
      have c9b0:decide (0≤ag)=true:=decide_eq_true c9
      clear c9
      replace H:=Option.bind_eq_some_iff.mp H
      obtain⟨aJ,A100,H⟩:=H
      replace H:(if aJ=true then(spec_l06Code.l0 k1 l1 (wrap64 (ag+1)) a0_0 af) else(some 2))=some r:=H
      have A10:=Aside0.mk A100
      clear A100
      by_cases c11:aJ=true
      ·subst c11
       have H1:(spec_l06Code.l0 k1 l1 (wrap64 (ag+1)) a0_0 af)=some r:=by rw [if_pos rfl] at H;exact H
       clear H
       have H:=H1
       clear H1
       have H':=Aside0.mk H
       clear H
       have p1060:0≤(ag:Int):=od_
       have q1060:ag < (l1.length:Int):=od_
       obtain⟨aK,e1060,hx1060_0⟩:=Kd.at_int HR1.out ag p1060 q1060
       cases e1060
       replace hx1060_0:=(HB.out.cell (World.block_lt_of_cell? w _ hx1060_0)).trans hx1060_0
       replace p1060:=eq_true p1060
       replace q1060:=eq_true q1060
       have aM:wr.cell? ⟨ae,0,none⟩=some (.int .i64 a0_0):=(blk_cell aa.out 0).trans rfl
       have aN:wr.cell? ⟨ae,1,none⟩=some (.slice ah af.length ai):=(blk_cell aa.out 1).trans rfl
       have aT:=blk_frozen aa.out 0
       have aU:=blk_frozen aa.out 1
       go_wp2_with (first | (go_at_call 119;(with_reducible refine(spec_l01In.calls (rd l1 ag) 0 (wrap64 ((af.length:Int) - 1)) true _ A10.out).mono ?_);rintro e w' ⟨rfl,⟨nd,rfl⟩⟩;(try first | exact⟨rfl,_,World.drewN_drewN _ _ _⟩ | exact⟨rfl,_,Eq.trans (World.drewN_drewN _ _ _) (congrArg (World.drewN _) (Nat.add_assoc _ _ _))⟩)))
       repeat (go_quiet (first | (go_at_call 119;(with_reducible refine(spec_l01In.calls (rd l1 ag) 0 (wrap64 ((af.length:Int) - 1)) true _ A10.out).mono ?_);rintro e w' ⟨rfl,⟨nd,rfl⟩⟩;(try first | exact⟨rfl,_,World.drewN_drewN _ _ _⟩ | exact⟨rfl,_,Eq.trans (World.drewN_drewN _ _ _) (congrArg (World.drewN _) (Nat.add_assoc _ _ _))⟩)));try go_wp2_with (first | (go_at_call 119;(with_reducible refine(spec_l01In.calls (rd l1 ag) 0 (wrap64 ((af.length:Int) - 1)) true _ A10.out).mono ?_);rintro e w' ⟨rfl,⟨nd,rfl⟩⟩;(try first | exact⟨rfl,_,World.drewN_drewN _ _ _⟩ | exact⟨rfl,_,Eq.trans (World.drewN_drewN _ _ _) (congrArg (World.drewN _) (Nat.add_assoc _ _ _))⟩))))
       go_roundg k1
       case measure=>have:=HK1.out;omega
       case rel=>exact⟨(wrap64 (ag+1)),rs_,H',⟨by have:=HK1.out;omega⟩,⟨bk_⟩,⟨hb_⟩⟩
      ·replace c11:=Bool.eq_false_iff.mpr c11
       subst c11
       have H1:(some 2)=some r:=by rw [if_neg (show ¬ (false=true) by decide)] at H;exact H
       clear H
       have H:=H1
       clear H1
       obtain rfl:=Option.some.inj H
       have p1060:0≤(ag:Int):=od_
       have q1060:ag < (l1.length:Int):=od_
       obtain⟨aK,e1060,hx1060_0⟩:=Kd.at_int HR1.out ag p1060 q1060
       cases e1060
       replace hx1060_0:=(HB.out.cell (World.block_lt_of_cell? w _ hx1060_0)).trans hx1060_0
       replace p1060:=eq_true p1060
       replace q1060:=eq_true q1060
       have aV:wr.cell? ⟨ae,0,none⟩=some (.int .i64 a0_0):=(blk_cell aa.out 0).trans rfl
       have aW:wr.cell? ⟨ae,1,none⟩=some (.slice ah af.length ai):=(blk_cell aa.out 1).trans rfl
       have aX:=blk_frozen aa.out 0
       have aY:=blk_frozen aa.out 1
       go_wp2_with (first | (go_at_call 119;(with_reducible refine(spec_l01In.calls (rd l1 ag) 0 (wrap64 ((af.length:Int) - 1)) false _ A10.out).mono ?_);rintro e w' ⟨rfl,⟨nd,rfl⟩⟩;(try first | exact⟨rfl,_,World.drewN_drewN _ _ _⟩ | exact⟨rfl,_,Eq.trans (World.drewN_drewN _ _ _) (congrArg (World.drewN _) (Nat.add_assoc _ _ _))⟩)))
       repeat (go_quiet (first | (go_at_call 119;(with_reducible refine(spec_l01In.calls (rd l1 ag) 0 (wrap64 ((af.length:Int) - 1)) false _ A10.out).mono ?_);rintro e w' ⟨rfl,⟨nd,rfl⟩⟩;(try first | exact⟨rfl,_,World.drewN_drewN _ _ _⟩ | exact⟨rfl,_,Eq.trans (World.drewN_drewN _ _ _) (congrArg (World.drewN _) (Nat.add_assoc _ _ _))⟩)));try go_wp2_with (first | (go_at_call 119;(with_reducible refine(spec_l01In.calls (rd l1 ag) 0 (wrap64 ((af.length:Int) - 1)) false _ A10.out).mono ?_);rintro e w' ⟨rfl,⟨nd,rfl⟩⟩;(try first | exact⟨rfl,_,World.drewN_drewN _ _ _⟩ | exact⟨rfl,_,Eq.trans (World.drewN_drewN _ _ _) (congrArg (World.drewN _) (Nat.add_assoc _ _ _))⟩))))
       go_ret
       exact⟨by first | rfl | (simp [errW_none,errW_some] <;> rfl) | (simp [*,errW_none,errW_some] <;> rfl),hb_⟩
     ·rw [if_neg c9] at H
      exact absurd H (by simp)
    ·rw [if_neg c8] at H
     have c8b0:decide (ag < (l1.length:Int))=false:=decide_eq_false c8
     clear c8
     obtain rfl:=Option.some.inj H
     go_wp2
     repeat (go_quiet (fail);try go_wp2)
     go_ret
     exact⟨by first | rfl | (simp [errW_none,errW_some] <;> rfl) | (simp [*,errW_none,errW_some] <;> rfl),hb_⟩
 ·replace c4:=Bool.eq_false_iff.mpr c4
  subst c4
  have H1:(some 1)=some r:=by rw [if_neg (show ¬ (false=true) by decide)] at H;exact H
  clear H
  have H:=H1
  clear H1
  obtain rfl:=Option.some.inj H
  go_enter Try.func138,Try.ntmps138
  go_wp2_with (first | ((with_reducible refine gate_dst (N:=2) rfl ?_);refine box_event ?hg (N:=2) ?hd (cs:= #[.int .i64 a0_0, .slice ah af.length ai]) (t:=64) ?hr ?_;(case hd=>rfl);(case hg=>rfl);(case hr=>first | (go_simp;done) | (go_simp;rfl));intro ae hg w14 hbox hb;have aa:=Aside0.mk (hbox);have aq:=Aside0.mk ((by rw [hg];exact bz_:w.heap.size≤ae));have au:=Aside0.mk ((by rw [hg];exact bz_:w.heap.size≤ae));replace HB:=Aside0.mk (bs_ hb);clear hb hbox hg;have aA:w14.cell? ⟨ae,0,none⟩=some (.int .i64 a0_0):=(blk_cell aa.out 0).trans rfl;have aC:w14.cell? ⟨ae,1,none⟩=some (.slice ah af.length ai):=(blk_cell aa.out 1).trans rfl;have aD:=blk_frozen aa.out 0;have aG:=blk_frozen aa.out 1) | (go_at_call 128;(with_reducible refine(spec_l06Is.calls k a0_0 _ _ af false _ ?aj ?ak A3.out).mono ?_);(case aj=>exact cb_ HR0_1.out HB.out);(case ak=>exact HC0_1.out);rintro e w16 ⟨rfl,hb⟩;replace aa:=Aside0.mk (bb_ aa.out hb);replace HB:=Aside0.mk (bs_ hb);(try clear hb);(try clear hb2);(try clear hk);(try clear hi)))
  repeat (go_quiet (first | ((with_reducible refine gate_dst (N:=2) rfl ?_);refine box_event ?hg (N:=2) ?hd (cs:= #[.int .i64 a0_0, .slice ah af.length ai]) (t:=64) ?hr ?_;(case hd=>rfl);(case hg=>rfl);(case hr=>first | (go_simp;done) | (go_simp;rfl));intro ae hg w14 hbox hb;have aa:=Aside0.mk (hbox);have aq:=Aside0.mk ((by rw [hg];exact bz_:w.heap.size≤ae));have au:=Aside0.mk ((by rw [hg];exact bz_:w.heap.size≤ae));replace HB:=Aside0.mk (bs_ hb);clear hb hbox hg;have aA:w14.cell? ⟨ae,0,none⟩=some (.int .i64 a0_0):=(blk_cell aa.out 0).trans rfl;have aC:w14.cell? ⟨ae,1,none⟩=some (.slice ah af.length ai):=(blk_cell aa.out 1).trans rfl;have aD:=blk_frozen aa.out 0;have aG:=blk_frozen aa.out 1) | (go_at_call 128;(with_reducible refine(spec_l06Is.calls k a0_0 _ _ af false _ ?aj ?ak A3.out).mono ?_);(case aj=>exact cb_ HR0_1.out HB.out);(case ak=>exact HC0_1.out);rintro e w16 ⟨rfl,hb⟩;replace aa:=Aside0.mk (bb_ aa.out hb);replace HB:=Aside0.mk (bs_ hb);(try clear hb);(try clear hb2);(try clear hk);(try clear hi)));try go_wp2_with (first | ((with_reducible refine gate_dst (N:=2) rfl ?_);refine box_event ?hg (N:=2) ?hd (cs:= #[.int .i64 a0_0, .slice ah af.length ai]) (t:=64) ?hr ?_;(case hd=>rfl);(case hg=>rfl);(case hr=>first | (go_simp;done) | (go_simp;rfl));intro ae hg w14 hbox hb;have aa:=Aside0.mk (hbox);have aq:=Aside0.mk ((by rw [hg];exact bz_:w.heap.size≤ae));have au:=Aside0.mk ((by rw [hg];exact bz_:w.heap.size≤ae));replace HB:=Aside0.mk (bs_ hb);clear hb hbox hg;have aA:w14.cell? ⟨ae,0,none⟩=some (.int .i64 a0_0):=(blk_cell aa.out 0).trans rfl;have aC:w14.cell? ⟨ae,1,none⟩=some (.slice ah af.length ai):=(blk_cell aa.out 1).trans rfl;have aD:=blk_frozen aa.out 0;have aG:=blk_frozen aa.out 1) | (go_at_call 128;(with_reducible refine(spec_l06Is.calls k a0_0 _ _ af false _ ?aj ?ak A3.out).mono ?_);(case aj=>exact cb_ HR0_1.out HB.out);(case ak=>exact HC0_1.out);rintro e w16 ⟨rfl,hb⟩;replace aa:=Aside0.mk (bb_ aa.out hb);replace HB:=Aside0.mk (bs_ hb);(try clear hb);(try clear hb2);(try clear hk);(try clear hi))))
  go_ret
  exact⟨by first | rfl | (simp [errW_none,errW_some] <;> rfl) | (simp [*,errW_none,errW_some] <;> rfl),hb_⟩
def spec_l06Gather.l0:Nat→Int→Int→Int→Int→Int→Option (Int)
 | 0,_,_,_,_,_=>none
 | k+1,x0,x1,x5,x6,x7=>if x7 < 5 then(if 0≤x7 then(if(Go.bits .and .i64 (shr .i64 x1 x7) 1)=1 then(if 0≤x6 then(spec_l06Gather.l0 k x0 x1 (Go.bits .or .i64 x5 (shl .i64 (Go.bits .and .i64 (shr .i64 x0 x7) 1) x6)) (IntKind.u64.wrap (x6+1)) (IntKind.u64.wrap (x7+1))) else(none)) else(spec_l06Gather.l0 k x0 x1 x5 x6 (IntKind.u64.wrap (x7+1)))) else(none)) else(some x5)
def spec_l06Gather.f (k:Nat) (a0:Int) (a1:Int):Option (Int):=spec_l06Gather.l0 k a0 a1 0 0 0
theorem spec_l06Gather.mono_l: ∀k,(∀y0 y1 y2 y3 y4,LeO (spec_l06Gather.l0 k y0 y1 y2 y3 y4) (spec_l06Gather.l0 (k+1) y0 y1 y2 y3 y4))
 | 0=>fun _ _ _ _ _ r h=>by simp [spec_l06Gather.l0] at h
 | k+1=>by
  have ih0:=spec_l06Gather.mono_l k
  ·intro y0 y1 y2 y3 y4
   unfold spec_l06Gather.l0
   repeat' first
   | (with_reducible exact ih0 _ _ _ _ _)
   | (with_reducible exact LeO.refl _)
   | (with_reducible exact LeO.none _)
   | (with_reducible refine LeO.ite ?_ ?_)
   | (with_reducible refine LeO.bind ?_ (fun _=>?_))
   | exact ih0 _ _ _ _ _
   | exact LeO.none _
   | refine LeO.ite ?_ ?_
   | refine LeO.bind ?_ (fun _=>?_)
theorem spec_l06Gather.mono: ∀a0 a1 k,LeO (spec_l06Gather.f k a0 a1) (spec_l06Gather.f (k+1) a0 a1):=by
 intro a0 a1 k
 have ih0:=spec_l06Gather.mono_l k
 unfold spec_l06Gather.f
 repeat' first
   | (with_reducible exact ih0 _ _ _ _ _)
   | (with_reducible exact LeO.refl _)
   | (with_reducible exact LeO.none _)
   | (with_reducible refine LeO.ite ?_ ?_)
   | (with_reducible refine LeO.bind ?_ (fun _=>?_))
   | exact ih0 _ _ _ _ _
   | exact LeO.none _
   | refine LeO.ite ?_ ?_
   | refine LeO.bind ?_ (fun _=>?_)
theorem spec_l06Gather.calls (k:Nat) (a0:Int) (a1:Int) (r:Int) (w:World) (h:spec_l06Gather.f k a0 a1=some r):
  Calls Try.prog 140 #[.int .i64 a0, .int .i64 a1] w fun e w'=>e= .returned (.int .i64 r)∧Drawn0 w w':=by
 have H:(spec_l06Gather.l0 k a0 a1 0 0 0)=some r:=h
 clear h
 have H':=Aside0.mk H
 clear H
 go_enter Try.func140,Try.ntmps140
 go_wp2
 go_loopg [5,6,7] k (fun kq v5 v6 v7 w'=> ∃(af:Int) (ae:Int) (aa:Int),v5= .int .i64 af∧v6= .int .u64 ae∧v7= .int .u64 aa∧Aside0 (spec_l06Gather.l0 kq a0 a1 af ae aa=some r)∧Aside0 (kq≤k)∧Drawn0 w w')
 case atStart=>exact⟨(0),(0),(0),rs_,rs_,rs_,H',⟨Nat.le_refl _⟩,by repeat (first | exact Drawn0.refl _ | apply Drawn0.step)⟩
 case round=>
  clear H'
  try clear c1
  try clear p2
  obtain⟨af,ae,aa,rfl,rfl,rfl,HA,HK1,⟨m1,rfl⟩⟩:=hrel
  cases gk with
  | zero=>exact absurd HA.out (by simp [spec_l06Gather.l0])
  | succ k1=>
   have H:=HA.out
   clear HA
   simp only [spec_l06Gather.l0] at H
   by_cases c3:aa < 5
   ·rw [if_pos c3] at H
    have c3b0:decide (aa < 5)=true:=decide_eq_true c3
    clear c3
    by_cases c4:0≤aa
    ·rw [if_pos c4] at H
     have c4b0:=eq_true c4
     have c4b1:decide (0≤aa)=true:=decide_eq_true c4
     clear c4
     obtain⟨ji5,hji5⟩: ∃j_:Int,(shr .i64 a1 aa)=j_:=⟨_,rfl⟩
     replace H:(if(Go.bits .and .i64 (ji5) 1)=1 then(if 0≤ae then(spec_l06Gather.l0 k1 a0 a1 (Go.bits .or .i64 af (shl .i64 (Go.bits .and .i64 (shr .i64 a0 aa) 1) ae)) (IntKind.u64.wrap (ae+1)) (IntKind.u64.wrap (aa+1))) else(none)) else(spec_l06Gather.l0 k1 a0 a1 af ae (IntKind.u64.wrap (aa+1))))=some r:=by first | (rw [hji5] at H;exact H) | (simp only [hji5] at H ⊢;exact H)
     have hji5_:(a1 / 2 ^ min aa.toNat 64)=ji5:=hji5
     have hji5z:aa≤64→(a1 / 2 ^ aa.toNat)=ji5:=shr_small hji5
     by_cases c6:(Go.bits .and .i64 (ji5) 1)=1
     ·rw [if_pos c6] at H
      have c6b0:((Go.bits .and .i64 (ji5) 1)==1)=true:=beq_iff_eq.mpr c6
      have c6b1:((Go.bits .and .i64 (ji5) 1) !=1)=false:=bne_eq_false_iff_eq.mpr c6
      clear c6
      have c7b0:=eq_true (od_:0≤aa)
      obtain⟨ji8,hji8⟩: ∃j_:Int,(shr .i64 a0 aa)=j_:=⟨_,rfl⟩
      replace H:(if 0≤ae then(spec_l06Gather.l0 k1 a0 a1 (Go.bits .or .i64 af (shl .i64 (Go.bits .and .i64 (ji8) 1) ae)) (IntKind.u64.wrap (ae+1)) (IntKind.u64.wrap (aa+1))) else(none))=some r:=by first | (rw [hji8] at H;exact H) | (simp only [hji8] at H ⊢;exact H)
      have hji8_:(a0 / 2 ^ min aa.toNat 64)=ji8:=hji8
      have hji8z:aa≤64→(a0 / 2 ^ aa.toNat)=ji8:=shr_small hji8
      by_cases c9:0≤ae
      ·rw [if_pos c9] at H
       have c9b0:=eq_true c9
       have c9b1:decide (0≤ae)=true:=decide_eq_true c9
       clear c9
       obtain⟨ji10,hji10⟩: ∃j_:Int,(shl .i64 (Go.bits .and .i64 (ji8) 1) ae)=j_:=⟨_,rfl⟩
       replace H:(spec_l06Gather.l0 k1 a0 a1 (Go.bits .or .i64 af (ji10)) (IntKind.u64.wrap (ae+1)) (IntKind.u64.wrap (aa+1)))=some r:=by first | (rw [hji10] at H;exact H) | (simp only [hji10] at H ⊢;exact H)
       have hji10_:(IntKind.i64.wrap ((Go.bits .and .i64 (ji8) 1)*2 ^ min ae.toNat 64))=ji10:=hji10
       have hji10z:ae≤64→(IntKind.i64.wrap ((Go.bits .and .i64 (ji8) 1)*2 ^ ae.toNat))=ji10:=shl_small hji10
       have hji10y:(wrap64 ((Go.bits .and .i64 (ji8) 1)*2 ^ min ae.toNat 64))=ji10:=(i64_w _).symm.trans hji10_
       have hji10x:ae≤64→(wrap64 ((Go.bits .and .i64 (ji8) 1)*2 ^ ae.toNat))=ji10:=fun h_=>(i64_w _).symm.trans (hji10z h_)
       have H':=Aside0.mk H
       clear H
       go_wp2
       go_roundg k1
       case measure=>have:=HK1.out;omega
       case rel=>exact⟨(Go.bits .or .i64 af (ji10)),(IntKind.u64.wrap (ae+1)),(IntKind.u64.wrap (aa+1)),(by first | rfl | (simp;done) | (simp only [← hji10] <;> (first | rfl | simp)) | (simp [*];done)),rs_,rs_,H',⟨by have:=HK1.out;omega⟩,by repeat (first | exact Drawn0.refl _ | apply Drawn0.step)⟩
      ·rw [if_neg c9] at H
       exact absurd H (by simp)
     ·rw [if_neg c6] at H
      have c6b0:((Go.bits .and .i64 (ji5) 1)==1)=false:=beq_eq_false_iff_ne.mpr c6
      have c6b1:((Go.bits .and .i64 (ji5) 1) !=1)=true:=bne_iff_ne.mpr c6
      have H':=Aside0.mk H
      clear H
      go_wp2
      go_roundg k1
      case measure=>have:=HK1.out;omega
      case rel=>exact⟨(af),(ae),(IntKind.u64.wrap (aa+1)),rs_,rs_,rs_,H',⟨by have:=HK1.out;omega⟩,by repeat (first | exact Drawn0.refl _ | apply Drawn0.step)⟩
    ·rw [if_neg c4] at H
     exact absurd H (by simp)
   ·rw [if_neg c3] at H
    have c3b0:decide (aa < 5)=false:=decide_eq_false c3
    clear c3
    obtain rfl:=Option.some.inj H
    go_wp2
    go_ret
    exact⟨by first | rfl | (simp;done) | (simp [*];done),by repeat (first | exact Drawn0.refl _ | apply Drawn0.step)⟩
mutual
def spec_FaceOf.j0:Nat→Int→Int→Int→Bool→Int→List Int→Option (Int × List Int × Int)
 | 0,_,_,_,_,_,_=>none
 | k+1,x1,x2,x8,x22,ae,aa=>if x22=true then(spec_FaceOf.j1 k x1 x2 2 ae aa) else(spec_FaceOf.j1 k x1 x2 x8 ae aa)
def spec_FaceOf.j1:Nat→Int→Int→Int→Int→List Int→Option (Int × List Int × Int)
 | 0,_,_,_,_,_=>none
 | k+1,x1,x2,x8,ae,aa=>if x8=0 then((spec_l01Ones.f k x2).bind fun ah=>(if 0≤(IntKind.u64.wrap (ah)) then(if 0≤(shl .i64 1 (IntKind.u64.wrap (ah))) then(if(shl .i64 1 (IntKind.u64.wrap (ah)):Int).toNat≤35184372088832 then(spec_FaceOf.l0 k x1 x2 0 ae aa ah (List.replicate (shl .i64 1 (IntKind.u64.wrap (ah)):Int).toNat 0)) else(none)) else(none)) else(none))) else(some (0,([]:List Int),x8))
def spec_FaceOf.l0:Nat→Int→Int→Int→Int→List Int→Int→List Int→Option (Int × List Int × Int)
 | 0,_,_,_,_,_,_,_=>none
 | k+1,x1,x2,x11,ae,aa,ag,af=>if x11 < (aa.length:Int) then(if(Go.bits .andNot .i64 (Go.bits .xor .i64 x11 x1) x2)=0 then((spec_l06Gather.f k x11 x2).bind fun ai=>(if 0≤x11 then((spec_l06Gather.f k (rd aa x11) x2).bind fun aj=>(if 0≤ai then(if ai < (af.length:Int) then(spec_FaceOf.l0 k x1 x2 (wrap64 (x11+1)) ae aa ag (af.set (ai:Int).toNat aj)) else(none)) else(none))) else(none))) else(spec_FaceOf.l0 k x1 x2 (wrap64 (x11+1)) ae aa ag af)) else(some (ag,af,0))
end
def spec_FaceOf.f (k:Nat) (a0_0:Int) (ae:List Int) (a1:Int) (a2:Int):Option (Int × List Int × Int):=(spec_l06Code.f k a0_0 ae (([a1,a2]:List Int))).bind fun aa=>(if aa=0 then(spec_FaceOf.j0 k a1 a2 aa (a2==0) a0_0 ae) else(spec_FaceOf.j0 k a1 a2 aa false a0_0 ae))
theorem spec_FaceOf.mono_l: ∀k,(∀y0 y1 y2 y3 y4 y5,LeO (spec_FaceOf.j0 k y0 y1 y2 y3 y4 y5) (spec_FaceOf.j0 (k+1) y0 y1 y2 y3 y4 y5))∧(∀y0 y1 y2 y3 y4,LeO (spec_FaceOf.j1 k y0 y1 y2 y3 y4) (spec_FaceOf.j1 (k+1) y0 y1 y2 y3 y4))∧(∀y0 y1 y2 y3 y4 y5 y6,LeO (spec_FaceOf.l0 k y0 y1 y2 y3 y4 y5 y6) (spec_FaceOf.l0 (k+1) y0 y1 y2 y3 y4 y5 y6))
 | 0=>⟨fun _ _ _ _ _ _ r h=>by simp [spec_FaceOf.j0] at h,fun _ _ _ _ _ r h=>by simp [spec_FaceOf.j1] at h,fun _ _ _ _ _ _ _ r h=>by simp [spec_FaceOf.l0] at h⟩
 | k+1=>by
  obtain⟨ih0,ih1,ih2⟩:=spec_FaceOf.mono_l k
  refine⟨?_,?_,?_⟩
  ·intro y0 y1 y2 y3 y4 y5
   unfold spec_FaceOf.j0
   repeat' first
   | (with_reducible exact ih0 _ _ _ _ _ _)
   | (with_reducible exact ih1 _ _ _ _ _)
   | (with_reducible exact ih2 _ _ _ _ _ _ _)
   | (with_reducible exact spec_l01Ones.mono _ _)
   | (with_reducible exact spec_l06Code.mono _ _ _ _)
   | (with_reducible exact spec_l06Gather.mono _ _ _)
   | (with_reducible exact LeO.refl _)
   | (with_reducible exact LeO.none _)
   | (with_reducible refine LeO.ite ?_ ?_)
   | (with_reducible refine LeO.bind ?_ (fun _=>?_))
   | exact ih0 _ _ _ _ _ _
   | exact ih1 _ _ _ _ _
   | exact ih2 _ _ _ _ _ _ _
   | exact spec_l01Ones.mono _ _
   | exact spec_l06Code.mono _ _ _ _
   | exact spec_l06Gather.mono _ _ _
   | exact LeO.none _
   | refine LeO.ite ?_ ?_
   | refine LeO.bind ?_ (fun _=>?_)
  ·intro y0 y1 y2 y3 y4
   unfold spec_FaceOf.j1
   repeat' first
   | (with_reducible exact ih0 _ _ _ _ _ _)
   | (with_reducible exact ih1 _ _ _ _ _)
   | (with_reducible exact ih2 _ _ _ _ _ _ _)
   | (with_reducible exact spec_l01Ones.mono _ _)
   | (with_reducible exact spec_l06Code.mono _ _ _ _)
   | (with_reducible exact spec_l06Gather.mono _ _ _)
   | (with_reducible exact LeO.refl _)
   | (with_reducible exact LeO.none _)
   | (with_reducible refine LeO.ite ?_ ?_)
   | (with_reducible refine LeO.bind ?_ (fun _=>?_))
   | exact ih0 _ _ _ _ _ _
   | exact ih1 _ _ _ _ _
   | exact ih2 _ _ _ _ _ _ _
   | exact spec_l01Ones.mono _ _
   | exact spec_l06Code.mono _ _ _ _
   | exact spec_l06Gather.mono _ _ _
   | exact LeO.none _
   | refine LeO.ite ?_ ?_
   | refine LeO.bind ?_ (fun _=>?_)
  ·intro y0 y1 y2 y3 y4 y5 y6
   unfold spec_FaceOf.l0
   repeat' first
   | (with_reducible exact ih0 _ _ _ _ _ _)
   | (with_reducible exact ih1 _ _ _ _ _)
   | (with_reducible exact ih2 _ _ _ _ _ _ _)
   | (with_reducible exact spec_l01Ones.mono _ _)
   | (with_reducible exact spec_l06Code.mono _ _ _ _)
   | (with_reducible exact spec_l06Gather.mono _ _ _)
   | (with_reducible exact LeO.refl _)
   | (with_reducible exact LeO.none _)
   | (with_reducible refine LeO.ite ?_ ?_)
   | (with_reducible refine LeO.bind ?_ (fun _=>?_))
   | exact ih0 _ _ _ _ _ _
   | exact ih1 _ _ _ _ _
   | exact ih2 _ _ _ _ _ _ _
   | exact spec_l01Ones.mono _ _
   | exact spec_l06Code.mono _ _ _ _
   | exact spec_l06Gather.mono _ _ _
   | exact LeO.none _
   | refine LeO.ite ?_ ?_
   | refine LeO.bind ?_ (fun _=>?_)
theorem spec_FaceOf.mono: ∀a0 a1 a2 a3 k,LeO (spec_FaceOf.f k a0 a1 a2 a3) (spec_FaceOf.f (k+1) a0 a1 a2 a3):=by
 intro a0 a1 a2 a3 k
 obtain⟨ih0,ih1,ih2⟩:=spec_FaceOf.mono_l k
 unfold spec_FaceOf.f
 repeat' first
   | (with_reducible exact ih0 _ _ _ _ _ _)
   | (with_reducible exact ih1 _ _ _ _ _)
   | (with_reducible exact ih2 _ _ _ _ _ _ _)
   | (with_reducible exact spec_l01Ones.mono _ _)
   | (with_reducible exact spec_l06Code.mono _ _ _ _)
   | (with_reducible exact spec_l06Gather.mono _ _ _)
   | (with_reducible exact LeO.refl _)
   | (with_reducible exact LeO.none _)
   | (with_reducible refine LeO.ite ?_ ?_)
   | (with_reducible refine LeO.bind ?_ (fun _=>?_))
   | exact ih0 _ _ _ _ _ _
   | exact ih1 _ _ _ _ _
   | exact ih2 _ _ _ _ _ _ _
   | exact spec_l01Ones.mono _ _
   | exact spec_l06Code.mono _ _ _ _
   | exact spec_l06Gather.mono _ _ _
   | exact LeO.none _
   | refine LeO.ite ?_ ?_
   | refine LeO.bind ?_ (fun _=>?_)
def spec_FaceOf.T12:Bool × List (List Nat × List Nat):=(true, [([], []),([0], [0]),([], []),([], []),([2,3], [2,3]),([], []),([5], [5]),([], []),([6,7], [6,7]),([8], [8]),([], []),([9,10,4], [9,10]),([1,4,0,1,2,3,4,5,6,7,8,9,10,11], [1,4]),([12,11,11,0,1,2,3,4,5,6,7,8,9,10,11], [11,12])])
def spec_FaceOf.B12:List Nat:= [0,1,0,0,12,0,32,0,224,480,0,2044,4095,8191]
theorem spec_FaceOf.tab12:rtab .any (opsOf Try.f52 12)=spec_FaceOf.T12:=by kernel_rfl
theorem spec_FaceOf.bits12:waitsOk spec_FaceOf.T12.2 spec_FaceOf.B12=true:=by kernel_rfl
theorem spec_FaceOf.calls (k:Nat) (a0_0:Int) (aJ:Option Addr) (aC:Nat) (af:List Int) (a1:Int) (a2:Int) (r1:Int) (r2:List Int) (r3:Int) (w:World) (bk:Kd.C (Kd.int .i64) w aJ af.length af) (bn:af.length≤aC) (h:spec_FaceOf.f k a0_0 af a1 a2=some (r1,r2,r3)):
  Calls Try.prog 52 #[.agg #[.int .i64 a0_0, .slice aJ af.length aC], .int .i64 a1, .int .i64 a2] w fun e w'=> ∃v1_:Value,e= .returned (.tuple #[.agg #[.int .i64 r1,v1_], .int .i64 r3])∧Kd.R (Kd.int .i64) 2 w' w.heap.size (fun _=>True) v1_ r2∧Below w.heap.size w w':=by
 have hu64:=Try.underlying64
 have HR0_1:=Aside0.mk bk
 have HC0_1:=Aside0.mk bn
 clear bk bn
 have HB:=Aside0.mk (Below.refl w.heap.size w)
 have H:((spec_l06Code.f k a0_0 af (([a1,a2]:List Int))).bind fun av=>(if av=0 then(spec_FaceOf.j0 k a1 a2 av (a2==0) a0_0 af) else(spec_FaceOf.j0 k a1 a2 av false a0_0 af)))=some (r1,r2,r3):=h
 clear h
 obtain⟨bf,hy1064⟩: ∃y_:List Int,y_=(([a1,a2]:List Int)):=⟨_,rfl⟩
 replace H:((spec_l06Code.f k a0_0 af bf).bind fun av=>(if av=0 then(spec_FaceOf.j0 k a1 a2 av (a2==0) a0_0 af) else(spec_FaceOf.j0 k a1 a2 av false a0_0 af)))=some (r1,r2,r3):=by first | (rw [hy1064];with_reducible exact H) | (have H2_:=(Option.bind_some _ _).symm.trans H;rw [hy1064];with_reducible exact H2_) | (have H2_:=(Option.bind_some _ _).symm.trans H;with_reducible exact H2_) | with_reducible exact H | (rw [hy1064];exact H) | exact H
 have bg:=Aside0.mk hy1064
 clear hy1064
 replace H:=Option.bind_eq_some_iff.mp H
 obtain⟨av,A40,H⟩:=H
 replace H:(if av=0 then(spec_FaceOf.j0 k a1 a2 av (a2==0) a0_0 af) else(spec_FaceOf.j0 k a1 a2 av false a0_0 af))=some (r1,r2,r3):=H
 have A4:=Aside0.mk A40
 clear A40
 have HC5:=Aside0.mk H
 clear H
 go_enter Try.func52,Try.ntmps52
 go_upto_region 2 with (first | ((with_reducible refine gate_dst (N:=3) rfl ?_);refine box_event ?hg (N:=3) ?hd (cs:= #[.int .i64 a0_0, .slice aJ af.length aC]) (t:=64) ?hr ?_;(case hd=>rfl);(case hg=>rfl);(case hr=>first | (go_simp;done) | (go_simp;rfl));intro ak hg w6 hbox hb;have aa:=Aside0.mk (hbox);have cJ:=Aside0.mk ((by rw [hg];exact bz_:w.heap.size≤ak));have cK:=Aside0.mk ((by rw [hg];exact bz_:w.heap.size≤ak));replace HB:=Aside0.mk (bs_ hb);clear hb hbox hg) | ((with_reducible refine gate_dst (N:=6) rfl ?_);refine box_event ?hg (N:=6) ?hd (cs:= #[.int .i64 0, .slice none 0 0]) (t:=64) ?hr ?_;(case hd=>rfl);(case hg=>rfl);(case hr=>first | (go_simp;done) | (go_simp;rfl));intro au hg w7 hbox hb;have ae:=Aside0.mk (hbox);have cL:=Aside0.mk ((by rw [hg];exact bz_:w.heap.size≤au));have cN:=Aside0.mk ((by rw [hg];exact bz_:w.heap.size≤au));have az:=Aside0.mk ((by rw [hg];exact lt_ aa.out:ak≠au));have aA:=Aside0.mk ((by rw [hg];exact gt_ aa.out:au≠ak));replace aa:=Aside0.mk (bb_ aa.out hb);replace HB:=Aside0.mk (bs_ hb);clear hb hbox hg;have dA:=az.out;have dB:=aA.out;have aX:w7.cell? ⟨ak,0,none⟩=some (.int .i64 a0_0):=(blk_cell aa.out 0).trans rfl;have aY:w7.cell? ⟨ak,1,none⟩=some (.slice aJ af.length aC):=(blk_cell aa.out 1).trans rfl;have aZ:=blk_frozen aa.out 0;have a9:=blk_frozen aa.out 1) | ((with_reducible refine gate_dst (N:=15) rfl ?_);refine Kd.R_lit (Kd.int .i64) _ 2 ?hg (N:=15) ?hd (xs:=([a1,a2]:List Int)) (inner:= [.int .i64 a1, .int .i64 a2]) (ok:=fun _=>True) (okp:=fun _=>True) ?hr ?hp (fun _ hk=>hk) trivial (Below.refl _ _) (Nat.le_refl _) (by simp) ?_;(case hd=>rfl);(case hg=>rfl);(case hr=>first | (go_simp;done) | (go_simp;rfl));(case hp=>exact(Reps.one (show Kd.M (Kd.int .i64) _ _ _ a1 [.int .i64 a1] from rfl) (Reps.one (show Kd.M (Kd.int .i64) _ _ _ a2 [.int .i64 a2] from rfl) (Reps.none _ _))));intro cQ w10 ba hb hg_ hnew_;clear hg_ hnew_;(first | rw [← bg.out] at ba | (simp only [Int.reduceToNat] at ba;rw [← bg.out] at ba));have aM:=Aside0.mk (Kd.R_lower ba bz_);replace aa:=Aside0.mk (bb_ aa.out hb);replace ae:=Aside0.mk (bb_ ae.out hb);replace HB:=Aside0.mk (bs_ hb);clear hb ba;obtain⟨bM,bN,bO⟩:=Kd.R_slice aM.out;subst bO) | ((with_reducible refine gate_callee (f:=138) rfl ?_);refine gL_ 16 Try.func138 #[.agg #[.int .i64 a0_0, .slice aJ af.length aC], .slice bM bf.length bN] ?_;(with_reducible refine(spec_l06Code.calls k a0_0 _ _ af _ _ bf av _ ?bI ?bJ ?bK ?bL A4.out).mono ?_);(case bI=>exact cb_ HR0_1.out HB.out);(case bJ=>exact HC0_1.out);(case bK=>repeat (first | exact(Kd.R_reads' aM.out).2.2 | (with_reducible refine Kd.C_alloc ?_ _) | (with_reducible refine Kd.C_drewN ?_ _) | (with_reducible refine Kd.C_drew ?_)));(case bL=>exact(Kd.R_reads' aM.out).2.1);rintro e w13 ⟨rfl,hb⟩;refine⟨_,rfl,?_⟩;replace aM:=Aside0.mk (rb_ aM.out hb);replace aa:=Aside0.mk (bb_ aa.out hb);replace ae:=Aside0.mk (bb_ ae.out hb);replace HB:=Aside0.mk (bs_ hb);(try clear hb);(try clear hb2);(try clear hk);(try clear hi)))
 (try simp only [Act.put,List.setIfInBounds_toArray,List.set_cons_zero,List.set_cons_succ])
 go_cut [22] (fun v22 wc=> ∃(kq:Nat) (aV:Bool),v22= .bool aV∧Aside0 (spec_FaceOf.j0 kq a1 a2 av aV a0_0 af=some (r1,r2,r3))∧Aside0 (kq≤k)∧Aside0 (wc.heap[ak]?=some (.cells #[.int .i64 a0_0,(.slice aJ af.length aC)] 64 (0,0)))∧Aside0 (wc.heap[au]?=some (.cells #[.int .i64 0,(.slice none 0 0)] 64 (0,0)))∧Aside0 (Below w.heap.size w wc))
 case first=>
  have H:=HC5.out
  clear HC5
  by_cases c14:av=0
  ·rw [if_pos c14] at H
   have c14b0:(av==0)=true:=beq_iff_eq.mpr c14
   have c14b1:(av !=0)=false:=bne_eq_false_iff_eq.mpr c14
   clear c14
   (first | rw [c14b0] | (simp only [i64_w,i32_w];rw [c14b0]) | skip)
   have H':=Aside0.mk H
   clear H
   go_wp2
   go_meet
   case rel=>exact⟨_,((a2==0)),rs_,H',⟨by first | omega | exact Nat.le_refl _⟩,⟨bk_⟩,⟨bk_⟩,⟨hb_⟩⟩
  ·rw [if_neg c14] at H
   have c14b0:(av==0)=false:=beq_eq_false_iff_ne.mpr c14
   have c14b1:(av !=0)=true:=bne_iff_ne.mpr c14
   (first | rw [c14b0] | (simp only [i64_w,i32_w];rw [c14b0]) | skip)
   have H':=Aside0.mk H
   clear H
   go_wp2
   go_meet
   case rel=>exact⟨_,(false),rs_,H',⟨by first | omega | exact Nat.le_refl _⟩,⟨bk_⟩,⟨bk_⟩,⟨hb_⟩⟩
 case rest=>
  clear HC5
  try clear c1
  try clear p2
  try clear c5
  try clear c8
  try clear c13
  try clear c14
  try clear c14b0
  try clear c14b1
  try clear aX
  try clear aY
  try clear aZ
  try clear a9
  obtain⟨kq,aV,rfl,HA,HJ4,aa,ae,HB⟩:=hcut
  cases kq with
  | zero=>exact absurd HA.out (by simp [spec_FaceOf.j0])
  | succ kj4=>
   have H:=HA.out
   clear HA
   simp only [spec_FaceOf.j0] at H
   have HC15:=Aside0.mk H
   clear H
   go_upto_if 22 with (fail)
   go_cut [8] (fun v8 wc=> ∃(kq:Nat) (aK:Int),v8= .int .i64 aK∧Aside0 (spec_FaceOf.j1 kq a1 a2 aK a0_0 af=some (r1,r2,r3))∧Aside0 (kq≤kj4)∧Aside0 (wc.heap[ak]?=some (.cells #[.int .i64 a0_0,(.slice aJ af.length aC)] 64 (0,0)))∧Aside0 (wc.heap[au]?=some (.cells #[.int .i64 0,(.slice none 0 0)] 64 (0,0)))∧Aside0 (Below w.heap.size w wc))
   case first=>
    have H:=HC15.out
    clear HC15
    by_cases c16:aV=true
    ·subst c16
     have H1:(spec_FaceOf.j1 kj4 a1 a2 2 a0_0 af)=some (r1,r2,r3):=by rw [if_pos rfl] at H;exact H
     clear H
     have H:=H1
     clear H1
     have H':=Aside0.mk H
     clear H
     go_wp2
     go_meet
     case rel=>exact⟨_,(2),rs_,H',⟨by have:=HJ4.out;first | omega | exact Nat.le_refl _⟩,⟨bk_⟩,⟨bk_⟩,⟨hb_⟩⟩
    ·replace c16:=Bool.eq_false_iff.mpr c16
     subst c16
     have H1:(spec_FaceOf.j1 kj4 a1 a2 av a0_0 af)=some (r1,r2,r3):=by rw [if_neg (show ¬ (false=true) by decide)] at H;exact H
     clear H
     have H:=H1
     clear H1
     have H':=Aside0.mk H
     clear H
     go_wp2
     go_meet
     case rel=>exact⟨_,(av),rs_,H',⟨by have:=HJ4.out;first | omega | exact Nat.le_refl _⟩,⟨bk_⟩,⟨bk_⟩,⟨hb_⟩⟩
   case rest=>
    clear HC15
    try clear c1
    try clear p2
    try clear c5
    try clear c8
    try clear c13
    try clear c14
    try clear c14b0
    try clear c14b1
    try clear c16
    try clear aX
    try clear aY
    try clear aZ
    try clear a9
    try clear p2
    obtain⟨kq,aK,rfl,HA,HJ14,aa,ae,HB⟩:=hcut
    cases kq with
    | zero=>exact absurd HA.out (by simp [spec_FaceOf.j1])
    | succ kj14=>
     have H:=HA.out
     clear HA
     simp only [spec_FaceOf.j1] at H
     by_cases c17:aK=0
     ·rw [if_pos c17] at H
      have c17b0:(aK==0)=true:=beq_iff_eq.mpr c17
      have c17b1:(aK !=0)=false:=bne_eq_false_iff_eq.mpr c17
      clear c17
      replace H:=Option.bind_eq_some_iff.mp H
      obtain⟨aq,A180,H⟩:=H
      replace H:(if 0≤(IntKind.u64.wrap (aq)) then(if 0≤(shl .i64 1 (IntKind.u64.wrap (aq))) then(if(shl .i64 1 (IntKind.u64.wrap (aq)):Int).toNat≤35184372088832 then(spec_FaceOf.l0 kj14 a1 a2 0 a0_0 af aq (List.replicate (shl .i64 1 (IntKind.u64.wrap (aq)):Int).toNat 0)) else(none)) else(none)) else(none))=some (r1,r2,r3):=H
      have A18:=Aside0.mk A180
      clear A180
      obtain⟨ji19,hji19⟩: ∃j_:Int,(IntKind.u64.wrap (aq))=j_:=⟨_,rfl⟩
      replace H:(if 0≤(ji19) then(if 0≤(shl .i64 1 (ji19)) then(if(shl .i64 1 (ji19):Int).toNat≤35184372088832 then(spec_FaceOf.l0 kj14 a1 a2 0 a0_0 af aq (List.replicate (shl .i64 1 (ji19):Int).toNat 0)) else(none)) else(none)) else(none))=some (r1,r2,r3):=by first | (rw [hji19] at H;exact H) | (simp only [hji19] at H ⊢;exact H)
      (try rw [hji19] at A18)
      by_cases c20:0≤(ji19)
      ·rw [if_pos c20] at H
       have c20b0:=eq_true c20
       have c20b1:decide (0≤(ji19))=true:=decide_eq_true c20
       clear c20
       obtain⟨ji21,hji21⟩: ∃j_:Int,(shl .i64 1 (ji19))=j_:=⟨_,rfl⟩
       replace H:(if 0≤(ji21) then(if(ji21:Int).toNat≤35184372088832 then(spec_FaceOf.l0 kj14 a1 a2 0 a0_0 af aq (List.replicate (ji21:Int).toNat 0)) else(none)) else(none))=some (r1,r2,r3):=by first | (rw [hji21] at H;exact H) | (simp only [hji21] at H ⊢;exact H)
       (try rw [hji21] at A18)
       have hji21_:(IntKind.i64.wrap (1*2 ^ min (ji19).toNat 64))=ji21:=hji21
       have hji21z:(ji19)≤64→(IntKind.i64.wrap (1*2 ^ (ji19).toNat))=ji21:=shl_small hji21
       have hji21u:(IntKind.i64.wrap (2 ^ min (ji19).toNat 64))=ji21:=by have h_:=hji21_;rw [Int.one_mul] at h_;exact h_
       have hji21v:(ji19)≤64→(IntKind.i64.wrap (2 ^ (ji19).toNat))=ji21:=fun hle_=>by have h_:=hji21z hle_;rw [Int.one_mul] at h_;exact h_
       have hji21y:(wrap64 (1*2 ^ min (ji19).toNat 64))=ji21:=(i64_w _).symm.trans hji21_
       have hji21x:(ji19)≤64→(wrap64 (1*2 ^ (ji19).toNat))=ji21:=fun h_=>(i64_w _).symm.trans (hji21z h_)
       by_cases c22:0≤(ji21)
       ·rw [if_pos c22] at H
        have c22b0:=eq_true c22
        have c22b1:decide (0≤(ji21))=true:=decide_eq_true c22
        clear c22
        by_cases c23:(ji21:Int).toNat≤35184372088832
        ·rw [if_pos c23] at H
         have c23b0:=eq_true c23
         have c23b1:decide ((ji21:Int).toNat≤35184372088832)=true:=decide_eq_true c23
         clear c23
         obtain⟨aW,hy1069⟩: ∃y_:List Int,y_=(List.replicate (ji21:Int).toNat 0):=⟨_,rfl⟩
         replace H:(spec_FaceOf.l0 kj14 a1 a2 0 a0_0 af aq aW)=some (r1,r2,r3):=by first | (rw [hy1069];with_reducible exact H) | (have H2_:=(Option.bind_some _ _).symm.trans H;rw [hy1069];with_reducible exact H2_) | (have H2_:=(Option.bind_some _ _).symm.trans H;with_reducible exact H2_) | with_reducible exact H | (rw [hy1069];exact H) | exact H
         have bh:=Aside0.mk hy1069
         clear hy1069
         have H':=Aside0.mk H
         clear H
         go_wp2_with (first | ((with_reducible refine gate_callee (f:=139) rfl ?_);refine gL_ 28 Try.func139 #[.int .i64 a2] ?_;(with_reducible refine(spec_l01Ones.calls kj14 a2 aq _ A18.out).mono ?_);rintro e w' ⟨rfl,⟨nd,rfl⟩⟩;refine⟨_,rfl,?_⟩;(try (rw [drewN_self wc];generalize hq_:World.drewN wc _=wc;have n0_:Aside0 (wc.heap[ak]?=some (.cells #[.int .i64 a0_0, .slice aJ af.length aC] 64 (0,0))):=⟨by rw [← hq_];exact bk_⟩;have n1_:Aside0 (wc.heap[au]?=some (.cells #[.int .i64 0, .slice none 0 0] 64 (0,0))):=⟨by rw [← hq_];exact bk_⟩;have n2_:Aside0 (Below w.heap.size w wc):=⟨by rw [← hq_];exact hb_⟩;clear aa ae HB hq_;have aa:=n0_;have ae:=n1_;have HB:=n2_;clear n0_ n1_ n2_))) | ((with_reducible refine gate_dst (N:=33) rfl ?_);refine Kd.R_make (Kd.int .i64) _ 2 rfl (N:=33) rfl 23 _ _ rfl ji21 rfl rfl Try.underlying23 (.int .i64 0) 8 info2 rfl (by decide) (by omega) 0 (ok:=fun _=>True) (okp:=fun _=>True) rfl (fun _ hk=>hk) trivial od_ (Nat.le_trans (Nat.mul_le_mul_right _ (od_:ji21.toNat≤35184372088832)) (by omega)) (Below.refl _ _) (Nat.le_refl _) ?_;intro cR w24 bb hb hg_ hnew_;clear hg_ hnew_;(first | rw [← bh.out] at bb | (simp only [Int.reduceToNat] at bb;rw [← bh.out] at bb));have aU:=Aside0.mk (Kd.R_lower bb bz_);replace aa:=Aside0.mk (bb_ aa.out hb);replace ae:=Aside0.mk (bb_ ae.out hb);replace HB:=Aside0.mk (bs_ hb);clear hb bb;obtain⟨bA,bC,bP⟩:=Kd.R_slice aU.out;subst bP) | ((with_reducible refine gate_dst (N:=10) rfl ?_);refine box_event ?hg (N:=10) ?hd (cs:= #[.int .i64 0, .slice none 0 0]) (t:=64) ?hr ?_;(case hd=>rfl);(case hg=>rfl);(case hr=>first | (go_simp;done) | (go_simp;rfl));intro aw hg w27 hbox hb;replace aU:=Aside0.mk (rb_ aU.out hb);have ai:=Aside0.mk (hbox);have cO:=Aside0.mk ((by rw [hg];exact bz_:w.heap.size≤aw));have cP:=Aside0.mk ((by rw [hg];exact bz_:w.heap.size≤aw));have ay:=Aside0.mk ((by rw [hg];exact lt_ aa.out:ak≠aw));have aH:=Aside0.mk ((by rw [hg];exact gt_ aa.out:aw≠ak));have aI:=Aside0.mk ((by rw [hg];exact lt_ ae.out:au≠aw));have aT:=Aside0.mk ((by rw [hg];exact gt_ ae.out:aw≠au));replace aa:=Aside0.mk (bb_ aa.out hb);replace ae:=Aside0.mk (bb_ ae.out hb);replace HB:=Aside0.mk (bs_ hb);clear hb hbox hg;have cS:=aH.out;have cT:=ay.out;have cU:=aT.out;have cV:=aI.out;have bu:w27.cell? ⟨aw,0,none⟩=some (.int .i64 0):=(blk_cell ai.out 0).trans rfl;have bv:w27.cell? ⟨aw,1,none⟩=some (.slice none 0 0):=(blk_cell ai.out 1).trans rfl;have bw:=blk_frozen ai.out 0;have bz:=blk_frozen ai.out 1))
         go_loopg [11] kj14 (fun kq v11 w'=> ∃(ah:Int) (ag:List Int) (aD:Value),v11= .int .i64 ah∧Aside0 (spec_FaceOf.l0 kq a1 a2 ah a0_0 af aq ag=some (r1,r2,r3))∧Aside0 (kq≤kj14)∧Aside0 (Kd.R (Kd.int .i64) 2 w' w.heap.size (fun _=>True) aD ag)∧Aside0 (w'.heap[ak]?=some (.cells #[.int .i64 a0_0,(.slice aJ af.length aC)] 64 (0,0)))∧Aside0 (w'.heap[au]?=some (.cells #[.int .i64 0,(.slice none 0 0)] 64 (0,0)))∧Aside0 (w'.heap[aw]?=some (.cells #[.int .i64 aq,aD] 64 (0,0)))∧Aside0 (Below w.heap.size w w'))
         case atStart=>exact⟨(0),(aW),(.slice bA aW.length bC),rs_,H',⟨Nat.le_refl _⟩,⟨by(with_reducible repeat (first | apply Kd.R_alloc | apply Kd.R_drewN | apply Kd.R_drew));exact Kd.R_mono (Kd.R_far (p:=⟨aw,1,none⟩) (Kd.R_far (p:=⟨aw,0,none⟩) (Kd.R_types aU.out ai.out (by decide)) (fun _ hk=>hk.2) (.int .i64 aq)) (fun _ hk=>hk.2) (.slice bA aW.length bC)) (fun _ hk=>trivial)⟩,⟨by(with_reducible repeat (first | refine blk_drewN ?_ _ | refine blk_drew ?_ | refine blk_alloc ?_ _));refine blk_far ?_ ay.out _;(with_reducible repeat (first | refine blk_drewN ?_ _ | refine blk_drew ?_ | refine blk_alloc ?_ _));refine blk_far ?_ ay.out _;(with_reducible repeat (first | refine blk_drewN ?_ _ | refine blk_drew ?_ | refine blk_alloc ?_ _));exact aa.out⟩,⟨by(with_reducible repeat (first | refine blk_drewN ?_ _ | refine blk_drew ?_ | refine blk_alloc ?_ _));refine blk_far ?_ aI.out _;(with_reducible repeat (first | refine blk_drewN ?_ _ | refine blk_drew ?_ | refine blk_alloc ?_ _));refine blk_far ?_ aI.out _;(with_reducible repeat (first | refine blk_drewN ?_ _ | refine blk_drew ?_ | refine blk_alloc ?_ _));exact ae.out⟩,⟨by(with_reducible repeat (first | refine blk_drewN ?_ _ | refine blk_drew ?_ | refine blk_alloc ?_ _));refine blk_put (cs:= #[.int .i64 aq, .slice none 0 0]) ?_ 1 _ rfl;(with_reducible repeat (first | refine blk_drewN ?_ _ | refine blk_drew ?_ | refine blk_alloc ?_ _));refine blk_put (cs:= #[.int .i64 0, .slice none 0 0]) ?_ 0 _ rfl;(with_reducible repeat (first | refine blk_drewN ?_ _ | refine blk_drew ?_ | refine blk_alloc ?_ _));exact ai.out⟩,⟨hb_⟩⟩
         case round=>
          clear H'
          try clear c1
          try clear c2
          try clear p2
          try clear c5
          try clear p6
          try clear c8
          try clear c13
          try clear c14
          try clear c14b0
          try clear c14b1
          try clear c16
          try clear c17
          try clear c17b0
          try clear c17b1
          try clear c20
          try clear c20b0
          try clear c20b1
          try clear c22
          try clear c22b0
          try clear c22b1
          try clear c23
          try clear c23b0
          try clear c23b1
          try clear c28
          try clear c29
          try clear bu
          try clear bv
          try clear aX
          try clear aY
          try clear bw
          try clear bz
          try clear aZ
          try clear a9
          try clear p2
          obtain⟨ah,ag,aD,rfl,HA,HK3,aj,aa,ae,ai,HB⟩:=hrel
          cases gk with
          | zero=>exact absurd HA.out (by simp [spec_FaceOf.l0])
          | succ k3=>
           have H:=HA.out
           clear HA
           simp only [spec_FaceOf.l0] at H
           by_cases c31:ah < (af.length:Int)
           ·rw [if_pos c31] at H
            have c31b0:decide (ah < (af.length:Int))=true:=decide_eq_true c31
            clear c31
            by_cases c32:(Go.bits .andNot .i64 (Go.bits .xor .i64 ah a1) a2)=0
            ·rw [if_pos c32] at H
             have c32b0:((Go.bits .andNot .i64 (Go.bits .xor .i64 ah a1) a2)==0)=true:=beq_iff_eq.mpr c32
             have c32b1:((Go.bits .andNot .i64 (Go.bits .xor .i64 ah a1) a2) !=0)=false:=bne_eq_false_iff_eq.mpr c32
             clear c32
             replace H:=Option.bind_eq_some_iff.mp H
             obtain⟨ax,A330,H⟩:=H
             replace H:(if 0≤ah then((spec_l06Gather.f k3 (rd af ah) a2).bind fun aN=>(if 0≤ax then(if ax < (ag.length:Int) then(spec_FaceOf.l0 k3 a1 a2 (wrap64 (ah+1)) a0_0 af aq (ag.set (ax:Int).toNat aN)) else(none)) else(none))) else(none))=some (r1,r2,r3):=H
             have A33:=Aside0.mk A330
             clear A330
             by_cases c34:0≤ah
             ·rw [if_pos c34] at H
              have c34b0:decide (0≤ah)=true:=decide_eq_true c34
              clear c34
              replace H:=Option.bind_eq_some_iff.mp H
              obtain⟨aN,A350,H⟩:=H
              replace H:(if 0≤ax then(if ax < (ag.length:Int) then(spec_FaceOf.l0 k3 a1 a2 (wrap64 (ah+1)) a0_0 af aq (ag.set (ax:Int).toNat aN)) else(none)) else(none))=some (r1,r2,r3):=H
              have A35:=Aside0.mk A350
              clear A350
              by_cases c36:0≤ax
              ·rw [if_pos c36] at H
               have c36b0:decide (0≤ax)=true:=decide_eq_true c36
               clear c36
               by_cases c37:ax < (ag.length:Int)
               ·rw [if_pos c37] at H
                have c37b0:decide (ax < (ag.length:Int))=true:=decide_eq_true c37
                clear c37
                obtain⟨bq,hy1076⟩: ∃y_:List Int,y_=(ag.set (ax:Int).toNat aN):=⟨_,rfl⟩
                replace H:(spec_FaceOf.l0 k3 a1 a2 (wrap64 (ah+1)) a0_0 af aq bq)=some (r1,r2,r3):=by first | (rw [hy1076];with_reducible exact H) | (have H2_:=(Option.bind_some _ _).symm.trans H;rw [hy1076];with_reducible exact H2_) | (have H2_:=(Option.bind_some _ _).symm.trans H;with_reducible exact H2_) | with_reducible exact H | (rw [hy1076];exact H) | exact H
                have bD:=Aside0.mk hy1076
                clear hy1076
                have H':=Aside0.mk H
                clear H
                have cW:=az.out
                have cZ:=aA.out
                have da:=ay.out
                have db:=aH.out
                have bT:wr.cell? ⟨ak,0,none⟩=some (.int .i64 a0_0):=(blk_cell aa.out 0).trans rfl
                have bU:wr.cell? ⟨ak,1,none⟩=some (.slice aJ af.length aC):=(blk_cell aa.out 1).trans rfl
                have bV:=blk_frozen aa.out 0
                have bW:=blk_frozen aa.out 1
                try go_wp2
                replace aj:=Aside0.mk (Kd.R_drew aj.out)
                replace aa:=Aside0.mk (blk_drew aa.out)
                replace ae:=Aside0.mk (blk_drew ae.out)
                replace ai:=Aside0.mk (blk_drew ai.out)
                replace HB:=Aside0.mk (below_drew1 HB.out)
                have p1074:0≤(ah:Int):=od_
                have q1074:ah < (af.length:Int):=od_
                obtain⟨bi,e1074,hx1074_0⟩:=Kd.at_int HR0_1.out ah p1074 q1074
                have aG:=hx1074_0
                cases e1074
                replace hx1074_0:=(HB.out.cell (World.block_lt_of_cell? w _ hx1074_0)).trans hx1074_0
                replace p1074:=eq_true p1074
                replace q1074:=eq_true q1074
                refine st_ (n:=14) (S:=fun w'=>w'.cell? ⟨aw,0,none⟩=some (.int .i64 aq)∧w'.cell? ⟨aw,1,none⟩=some (aD)∧w'.cell? ⟨ak,0,none⟩=some (.int .i64 a0_0)∧w'.cell? ⟨ak,1,none⟩=some (.slice (some bi) af.length aC)∧w'.cell? (bi.add (ah).toNat)=some (.int .i64 (rd af ah))) (ds:= [13]) ⟨(blk_cell ai.out 0).trans rfl,(blk_cell ai.out 1).trans rfl,(blk_cell aa.out 0).trans rfl,(blk_cell aa.out 1).trans rfl,((HB.out.cell (World.block_lt_of_cell? w _ aG)).trans aG)⟩ (fun hHeld=>?_);refine with_tabW spec_FaceOf.tab12 spec_FaceOf.bits12 (fun HT_ HW_=>?_)
                generalize wr.drew=w42 at aj aa ae ai HB hx1074_0 hHeld ⊢
                refine pu_ 0 48 ?_;refine pu_ 2 50 ?_;refine pu_ 3 51 ?_;refine pu_ 5 53 ?_;refine pu_ 7 55 ?_;refine pu_ 10 58 ?_;refine tk_ 1 49 ?_;refine tk_ 6 54 ?_;refine pu_ 8 56 ?_;refine tk_ 9 57 ?_
                refine on_ 4 (some 52) (fun K hK=>?_)
                refine goes_ Try.func140 (by kernel_rfl) rfl #[.int .i64 ah, .int .i64 a2] (by rfl) rfl rfl (by(try simp only [List.map_toArray,List.map_cons,List.map_nil]);first | done | rfl | (simp only [List.length_drop,List.length_take];rfl)) ?_
                with_reducible refine(spec_l06Gather.calls k3 ah a2 ax _ A33.out).mono ?_
                rintro e w' ⟨rfl,⟨nd,rfl⟩⟩
                refine⟨_,rfl,?_⟩
                refine hK.out _ _ ⟨(blk_cell ai.out 0).trans rfl,(blk_cell ai.out 1).trans rfl,(blk_cell aa.out 0).trans rfl,(blk_cell aa.out 1).trans rfl,((HB.out.cell (World.block_lt_of_cell? w _ aG)).trans aG)⟩ (fun hHeld=>?_)
                clear hK K
                refine norm_ (a':=?_) ?_ ?_
                rotate_left
                ·show Act.put _ (some 52) _=_
                 simp only [Act.put,List.setIfInBounds_toArray,List.set_cons_zero,List.set_cons_succ,i64_w,i32_w]
                 rfl
                refine on_ 11 (some 59) (fun K hK=>?_)
                refine goes_ Try.func140 (by kernel_rfl) rfl #[.int .i64 (rd af ah), .int .i64 a2] (by rfl) rfl rfl (by(try simp only [List.map_toArray,List.map_cons,List.map_nil]);first | done | rfl | (simp only [List.length_drop,List.length_take];rfl)) ?_
                with_reducible refine(spec_l06Gather.calls k3 (rd af ah) a2 aN _ A35.out).mono ?_
                rintro e w' ⟨rfl,⟨nd,rfl⟩⟩
                refine⟨_,rfl,?_⟩
                have p38:0≤(ax:Int):=od_
                have q38:(ax:Int) < ((ag.length:Int):Int):=od_
                obtain⟨go38,bQ,bE,bF,gl38,cl38,HG38⟩:=Kd.R_form aj.out (by omega)
                (first | cases bE | (injection bE with ea_ en_ ec_;(first | subst ea_ | (injection ea_ with ea_;subst ea_));subst ec_;clear en_))
                have GB38:=Aside0.mk bF
                have GG38:=Aside0.mk HG38
                clear bF gl38 HG38
                obtain⟨hx38_0,hf38_0⟩:=Kd.R_celln 0 aj.out (ax:Int) p38 q38
                replace p38:=eq_true p38
                replace q38:=eq_true q38
                have HP43:=Kd.R_putn aj.out (ax:Int) aN
                rw [← bD.out] at HP43
                have HQ43:=Aside0.mk HP43
                clear HP43
                refine hK.out _ _ ⟨(blk_cell ai.out 0).trans rfl,(blk_cell ai.out 1).trans rfl,(blk_cell aa.out 0).trans rfl,(blk_cell aa.out 1).trans rfl,((HB.out.cell (World.block_lt_of_cell? w _ aG)).trans aG)⟩ (fun hHeld=>?_)
                clear hK K
                refine norm_ (a':=?_) ?_ ?_
                rotate_left
                ·show Act.put _ (some 59) _=_
                 simp only [Act.put,List.setIfInBounds_toArray,List.set_cons_zero,List.set_cons_succ,i64_w,i32_w]
                 rfl
                refine pu_ 12 60 ?_
                refine la_ 13 none (fun K hK=>?_)
                refine skip_ (w1:=?_) (by rfl) rfl ?_ ?_
                rotate_left
                ·go_simp
                 rfl
                refine hK.out _ _ ?_
                clear hK K
                refine done_ (done_of HT_.out (by kernel_rfl)) ?_
                try go_wp2
                go_roundg k3
                case measure=>have:=HJ4.out;have:=HJ14.out;have:=HK3.out;omega
                case rel=>exact⟨(wrap64 (ah+1)),(bq),(.slice (some ⟨go38,0,none⟩) ag.length bQ),rs_,H',⟨by have:=HJ4.out;have:=HJ14.out;have:=HK3.out;omega⟩,⟨ro_ HQ43.out⟩,⟨by(with_reducible repeat (first | refine blk_drewN ?_ _ | refine blk_drew ?_ | refine blk_alloc ?_ _));refine blk_far ?_ (by have h_:=Kd.R_ne aj.out aa.out (by decide);intro e_;exact h_ (by rw [e_];rfl)) _;(with_reducible repeat (first | refine blk_drewN ?_ _ | refine blk_drew ?_ | refine blk_alloc ?_ _));exact aa.out⟩,⟨by(with_reducible repeat (first | refine blk_drewN ?_ _ | refine blk_drew ?_ | refine blk_alloc ?_ _));refine blk_far ?_ (by have h_:=Kd.R_ne aj.out ae.out (by decide);intro e_;exact h_ (by rw [e_];rfl)) _;(with_reducible repeat (first | refine blk_drewN ?_ _ | refine blk_drew ?_ | refine blk_alloc ?_ _));exact ae.out⟩,⟨by(with_reducible repeat (first | refine blk_drewN ?_ _ | refine blk_drew ?_ | refine blk_alloc ?_ _));refine blk_far ?_ (by have h_:=Kd.R_ne aj.out ai.out (by decide);intro e_;exact h_ (by rw [e_];rfl)) _;(with_reducible repeat (first | refine blk_drewN ?_ _ | refine blk_drew ?_ | refine blk_alloc ?_ _));exact ai.out⟩,⟨hb_⟩⟩
               ·rw [if_neg c37] at H
                exact absurd H (by simp)
              ·rw [if_neg c36] at H
               exact absurd H (by simp)
             ·rw [if_neg c34] at H
              exact absurd H (by simp)
            ·rw [if_neg c32] at H
             have c32b0:((Go.bits .andNot .i64 (Go.bits .xor .i64 ah a1) a2)==0)=false:=beq_eq_false_iff_ne.mpr c32
             have c32b1:((Go.bits .andNot .i64 (Go.bits .xor .i64 ah a1) a2) !=0)=true:=bne_iff_ne.mpr c32
             have H':=Aside0.mk H
             clear H
             have dc:=az.out
             have df:=aA.out
             have dh:=ay.out
             have di:=aH.out
             have bX:wr.cell? ⟨ak,0,none⟩=some (.int .i64 a0_0):=(blk_cell aa.out 0).trans rfl
             have bY:wr.cell? ⟨ak,1,none⟩=some (.slice aJ af.length aC):=(blk_cell aa.out 1).trans rfl
             have bZ:=blk_frozen aa.out 0
             have cf:=blk_frozen aa.out 1
             go_wp2
             go_roundg k3
             case measure=>have:=HJ4.out;have:=HJ14.out;have:=HK3.out;omega
             case rel=>exact⟨(wrap64 (ah+1)),(ag),(aD),rs_,H',⟨by have:=HJ4.out;have:=HJ14.out;have:=HK3.out;omega⟩,⟨ro_ aj.out⟩,⟨bk_⟩,⟨bk_⟩,⟨bk_⟩,⟨hb_⟩⟩
           ·rw [if_neg c31] at H
            have c31b0:decide (ah < (af.length:Int))=false:=decide_eq_false c31
            clear c31
            simp only [Option.some.injEq,Prod.mk.injEq] at H
            obtain⟨rfl,rfl,rfl⟩:=H
            have dl:=az.out
            have dm:=aA.out
            have dq:=ay.out
            have dr:=aH.out
            have ck:wr.cell? ⟨ak,0,none⟩=some (.int .i64 a0_0):=(blk_cell aa.out 0).trans rfl
            have cl:wr.cell? ⟨ak,1,none⟩=some (.slice aJ af.length aC):=(blk_cell aa.out 1).trans rfl
            have cm:=blk_frozen aa.out 0
            have cn:=blk_frozen aa.out 1
            have du:=aT.out
            have dw:=aI.out
            have co:wr.cell? ⟨aw,0,none⟩=some (.int .i64 aq):=(blk_cell ai.out 0).trans rfl
            have cq:wr.cell? ⟨aw,1,none⟩=some (aD):=(blk_cell ai.out 1).trans rfl
            have ct:=blk_frozen ai.out 0
            have cA:=blk_frozen ai.out 1
            have cB:wr.cell? ⟨au,0,none⟩=some (.int .i64 0):=(blk_cell ae.out 0).trans rfl
            have cC:wr.cell? ⟨au,1,none⟩=some (.slice none 0 0):=(blk_cell ae.out 1).trans rfl
            have cD:=blk_frozen ae.out 0
            have cE:=blk_frozen ae.out 1
            obtain⟨bG,bH,bS⟩:=Kd.R_slice aj.out
            subst bS
            go_wp2
            refine bodyPost_ret (results_ct rfl _ _ au 64 #[.int .i64 aq, .slice bG ag.length bH] (0,0) _ rfl (by(with_reducible repeat (first | refine blk_drewN ?_ _ | refine blk_drew ?_ | refine blk_alloc ?_ _));refine blk_put (cs:= #[.int .i64 aq, .slice none 0 0]) ?_ 1 _ rfl;(with_reducible repeat (first | refine blk_drewN ?_ _ | refine blk_drew ?_ | refine blk_alloc ?_ _));refine blk_put (cs:= #[.int .i64 0, .slice none 0 0]) ?_ 0 _ rfl;(with_reducible repeat (first | refine blk_drewN ?_ _ | refine blk_drew ?_ | refine blk_alloc ?_ _));exact ae.out) Try.underlying64 rfl (by kernel_rfl)) rfl ?_
            exact⟨_,by first | rfl | (simp [errW_none,errW_some] <;> rfl) | (simp only [← hji19, ← hji21];first | rfl | (simp [errW_none,errW_some] <;> rfl)) | (simp [*,errW_none,errW_some] <;> rfl),by(with_reducible repeat (first | apply Kd.R_alloc | apply Kd.R_drewN | apply Kd.R_drew));exact Kd.R_mono (Kd.R_far (p:=⟨au,1,none⟩) (Kd.R_far (p:=⟨au,0,none⟩) (Kd.R_types aj.out ae.out (by decide)) (fun _ hk=>hk.2) (.int .i64 aq)) (fun _ hk=>hk.2) (.slice bG ag.length bH)) (fun _ hk=>trivial),hb_⟩
        ·rw [if_neg c23] at H
         exact absurd H (by simp)
       ·rw [if_neg c22] at H
        exact absurd H (by simp)
      ·rw [if_neg c20] at H
       exact absurd H (by simp)
     ·rw [if_neg c17] at H
      have c17b0:(aK==0)=false:=beq_eq_false_iff_ne.mpr c17
      have c17b1:(aK !=0)=true:=bne_iff_ne.mpr c17
      simp only [Option.some.injEq,Prod.mk.injEq] at H
      obtain⟨rfl,rfl,rfl⟩:=H
      have dx:=aA.out
      have dz:=az.out
      have cF:wc.cell? ⟨au,0,none⟩=some (.int .i64 0):=(blk_cell ae.out 0).trans rfl
      have cG:wc.cell? ⟨au,1,none⟩=some (.slice none 0 0):=(blk_cell ae.out 1).trans rfl
      have cH:=blk_frozen ae.out 0
      have cI:=blk_frozen ae.out 1
      go_wp2
      refine bodyPost_ret (results_ct rfl _ _ au 64 #[.int .i64 0, .slice none 0 0] (0,0) _ rfl (by(with_reducible repeat (first | refine blk_drewN ?_ _ | refine blk_drew ?_ | refine blk_alloc ?_ _));refine blk_put (cs:= #[.int .i64 0, .slice none 0 0]) ?_ 1 _ rfl;(with_reducible repeat (first | refine blk_drewN ?_ _ | refine blk_drew ?_ | refine blk_alloc ?_ _));refine blk_put (cs:= #[.int .i64 0, .slice none 0 0]) ?_ 0 _ rfl;(with_reducible repeat (first | refine blk_drewN ?_ _ | refine blk_drew ?_ | refine blk_alloc ?_ _));exact ae.out) Try.underlying64 rfl (by kernel_rfl)) rfl ?_
      exact⟨_,by first | rfl | (simp [errW_none,errW_some] <;> rfl) | (simp [*,errW_none,errW_some] <;> rfl),by first | exact Kd.R_nil _ _ _ _ _ | exact Kd.N_nil _ _ _ _ _ | exact Kd.V_nil _ _ _ _ _ | exact Kd.Q_nil _ _ _ _ _ | exact Kd.S_nil _ _ _ _ _,hb_⟩
def laws_cube9.f (k:Nat) (a0_0:Int) (ae:List Int) (a1_0:Int) (af:List Int):Option (Bool):=if a0_0=a1_0 then((laws_likeInts.f k ae af).bind fun aa=>(some aa)) else(some false)
theorem laws_cube9.mono: ∀a0 a1 a2 a3 k,LeO (laws_cube9.f k a0 a1 a2 a3) (laws_cube9.f (k+1) a0 a1 a2 a3):=by
 intro a0 a1 a2 a3 k
 unfold laws_cube9.f
 repeat' first
   | (with_reducible exact laws_likeInts.mono _ _ _)
   | (with_reducible exact LeO.refl _)
   | (with_reducible exact LeO.none _)
   | (with_reducible refine LeO.ite ?_ ?_)
   | (with_reducible refine LeO.bind ?_ (fun _=>?_))
   | exact laws_likeInts.mono _ _ _
   | exact LeO.none _
   | refine LeO.ite ?_ ?_
   | refine LeO.bind ?_ (fun _=>?_)
theorem laws_cube9.calls (k:Nat) (a0_0:Int) (aq:Option Addr) (au:Nat) (ah:List Int) (a1_0:Int) (av:Option Addr) (aw:Nat) (ai:List Int) (r:Bool) (w:World) (ay:Kd.C (Kd.int .i64) w aq ah.length ah) (az:ah.length≤au) (aA:Kd.C (Kd.int .i64) w av ai.length ai) (aC:ai.length≤aw) (h:laws_cube9.f k a0_0 ah a1_0 ai=some r):
  Calls Try.prog 53 #[.agg #[.int .i64 a0_0, .slice aq ah.length au], .agg #[.int .i64 a1_0, .slice av ai.length aw]] w fun e w'=>e= .returned (.bool r)∧Below w.heap.size w w':=by
 have hu64:=Try.underlying64
 have HR0_1:=Aside0.mk ay
 have HC0_1:=Aside0.mk az
 clear ay az
 have HR1_1:=Aside0.mk aA
 have HC1_1:=Aside0.mk aC
 clear aA aC
 have HB:=Aside0.mk (Below.refl w.heap.size w)
 have H:(if a0_0=a1_0 then((laws_likeInts.f k ah ai).bind fun ax=>(some ax)) else(some false))=some r:=h
 clear h
 by_cases c3:a0_0=a1_0
 ·rw [if_pos c3] at H
  have c3b0:(a0_0==a1_0)=true:=beq_iff_eq.mpr c3
  have c3b1:(a0_0 !=a1_0)=false:=bne_eq_false_iff_eq.mpr c3
  clear c3
  replace H:=Option.bind_eq_some_iff.mp H
  obtain⟨ax,A40,H⟩:=H
  replace H:(some ax)=some r:=H
  have A4:=Aside0.mk A40
  clear A40
  obtain rfl:=Option.some.inj H
  go_enter Try.func53,Try.ntmps53
  go_wp2_with (first | ((with_reducible refine gate_dst (N:=2) rfl ?_);refine box_event ?hg (N:=2) ?hd (cs:= #[.int .i64 a0_0, .slice aq ah.length au]) (t:=64) ?hr ?_;(case hd=>rfl);(case hg=>rfl);(case hr=>first | (go_simp;done) | (go_simp;rfl));intro ae hg w5 hbox hb;have aa:=Aside0.mk (hbox);have aD:=Aside0.mk ((by rw [hg];exact bz_:w.heap.size≤ae));have aG:=Aside0.mk ((by rw [hg];exact bz_:w.heap.size≤ae));replace HB:=Aside0.mk (bs_ hb);clear hb hbox hg) | ((with_reducible refine gate_dst (N:=3) rfl ?_);refine box_event ?hg (N:=3) ?hd (cs:= #[.int .i64 a1_0, .slice av ai.length aw]) (t:=64) ?hr ?_;(case hd=>rfl);(case hg=>rfl);(case hr=>first | (go_simp;done) | (go_simp;rfl));intro af hg w6 hbox hb;have ag:=Aside0.mk (hbox);have aH:=Aside0.mk ((by rw [hg];exact bz_:w.heap.size≤af));have aI:=Aside0.mk ((by rw [hg];exact bz_:w.heap.size≤af));have aj:=Aside0.mk ((by rw [hg];exact lt_ aa.out:ae≠af));have ak:=Aside0.mk ((by rw [hg];exact gt_ aa.out:af≠ae));replace aa:=Aside0.mk (bb_ aa.out hb);replace HB:=Aside0.mk (bs_ hb);clear hb hbox hg;have bv:=aj.out;have bw:=ak.out;have ba:w6.cell? ⟨ae,0,none⟩=some (.int .i64 a0_0):=(blk_cell aa.out 0).trans rfl;have bb:w6.cell? ⟨ae,1,none⟩=some (.slice aq ah.length au):=(blk_cell aa.out 1).trans rfl;have bf:=blk_frozen aa.out 0;have bg:=blk_frozen aa.out 1;have bh:w6.cell? ⟨af,0,none⟩=some (.int .i64 a1_0):=(blk_cell ag.out 0).trans rfl;have bi:w6.cell? ⟨af,1,none⟩=some (.slice av ai.length aw):=(blk_cell ag.out 1).trans rfl;have bk:=blk_frozen ag.out 0;have bn:=blk_frozen ag.out 1) | (go_at_call 34;(with_reducible refine(laws_likeInts.calls k _ _ ah _ _ ai ax _ ?aJ ?aK ?aM ?aN A4.out).mono ?_);(case aJ=>exact cb_ HR0_1.out HB.out);(case aK=>exact HC0_1.out);(case aM=>exact cb_ HR1_1.out HB.out);(case aN=>exact HC1_1.out);rintro e w' ⟨rfl,⟨nd,rfl⟩⟩))
  go_ret
  exact⟨by first | rfl | (simp [errW_none,errW_some] <;> rfl) | (simp [*,errW_none,errW_some] <;> rfl),hb_⟩
 ·rw [if_neg c3] at H
  have c3b0:(a0_0==a1_0)=false:=beq_eq_false_iff_ne.mpr c3
  have c3b1:(a0_0 !=a1_0)=true:=bne_iff_ne.mpr c3
  obtain rfl:=Option.some.inj H
  go_enter Try.func53,Try.ntmps53
  go_wp2_with (first | ((with_reducible refine gate_dst (N:=2) rfl ?_);refine box_event ?hg (N:=2) ?hd (cs:= #[.int .i64 a0_0, .slice aq ah.length au]) (t:=64) ?hr ?_;(case hd=>rfl);(case hg=>rfl);(case hr=>first | (go_simp;done) | (go_simp;rfl));intro ae hg w10 hbox hb;have aa:=Aside0.mk (hbox);have aD:=Aside0.mk ((by rw [hg];exact bz_:w.heap.size≤ae));have aG:=Aside0.mk ((by rw [hg];exact bz_:w.heap.size≤ae));replace HB:=Aside0.mk (bs_ hb);clear hb hbox hg) | ((with_reducible refine gate_dst (N:=3) rfl ?_);refine box_event ?hg (N:=3) ?hd (cs:= #[.int .i64 a1_0, .slice av ai.length aw]) (t:=64) ?hr ?_;(case hd=>rfl);(case hg=>rfl);(case hr=>first | (go_simp;done) | (go_simp;rfl));intro af hg w11 hbox hb;have ag:=Aside0.mk (hbox);have aH:=Aside0.mk ((by rw [hg];exact bz_:w.heap.size≤af));have aI:=Aside0.mk ((by rw [hg];exact bz_:w.heap.size≤af));have aj:=Aside0.mk ((by rw [hg];exact lt_ aa.out:ae≠af));have ak:=Aside0.mk ((by rw [hg];exact gt_ aa.out:af≠ae));replace aa:=Aside0.mk (bb_ aa.out hb);replace HB:=Aside0.mk (bs_ hb);clear hb hbox hg;have bq:=aj.out;have bu:=ak.out;have aT:w11.cell? ⟨ae,0,none⟩=some (.int .i64 a0_0):=(blk_cell aa.out 0).trans rfl;have aU:w11.cell? ⟨ae,1,none⟩=some (.slice aq ah.length au):=(blk_cell aa.out 1).trans rfl;have aV:=blk_frozen aa.out 0;have aW:=blk_frozen aa.out 1;have aX:w11.cell? ⟨af,0,none⟩=some (.int .i64 a1_0):=(blk_cell ag.out 0).trans rfl;have aY:w11.cell? ⟨af,1,none⟩=some (.slice av ai.length aw):=(blk_cell ag.out 1).trans rfl;have aZ:=blk_frozen ag.out 0;have a9:=blk_frozen ag.out 1))
  go_ret
  exact⟨by first | rfl | (simp [errW_none,errW_some] <;> rfl) | (simp [*,errW_none,errW_some] <;> rfl),hb_⟩
def spec_DrawMirrorCube.f (k:Nat) (l0:List Int):Option (Int × List Int × Int):=(spec_l06With.f k l0).bind fun aa=>(some (aa.1,aa.2.1,aa.2.2))
theorem spec_DrawMirrorCube.mono: ∀a0 k,LeO (spec_DrawMirrorCube.f k a0) (spec_DrawMirrorCube.f (k+1) a0):=by
 intro a0 k
 unfold spec_DrawMirrorCube.f
 repeat' first
   | (with_reducible exact spec_l06With.mono _ _)
   | (with_reducible exact LeO.refl _)
   | (with_reducible exact LeO.none _)
   | (with_reducible refine LeO.ite ?_ ?_)
   | (with_reducible refine LeO.bind ?_ (fun _=>?_))
   | exact spec_l06With.mono _ _
   | exact LeO.none _
   | refine LeO.ite ?_ ?_
   | refine LeO.bind ?_ (fun _=>?_)
theorem spec_DrawMirrorCube.calls (k:Nat) (A0:Option Addr) (c0:Nat) (l0:List Int) (r1:Int) (r2:List Int) (r3:Int) (w:World) (hr0:Kd.C (Kd.int .u8) w A0 l0.length l0) (hc0:l0.length≤c0) (h:spec_DrawMirrorCube.f k l0=some (r1,r2,r3)):
  Calls Try.prog 54 #[.slice A0 l0.length c0] w fun e w'=> ∃v1_:Value,e= .returned (.tuple #[.agg #[.int .i64 r1,v1_], .int .i64 r3])∧Kd.R (Kd.int .i64) 2 w' w.heap.size (fun _=>True) v1_ r2∧Below w.heap.size w w':=by
 have hu64:=Try.underlying64
 have HR0:=Aside0.mk hr0
 have HC0:=Aside0.mk hc0
 clear hr0 hc0
 have HB:=Aside0.mk (Below.refl w.heap.size w)
 have H:((spec_l06With.f k l0).bind fun ah=>(some (ah.1,ah.2.1,ah.2.2)))=some (r1,r2,r3):=h
 clear h
 replace H:=Option.bind_eq_some_iff.mp H
 obtain⟨⟨af,ag,aj⟩,A20,H⟩:=H
 replace H:(some (af,ag,aj))=some (r1,r2,r3):=H
 have A2:=Aside0.mk A20
 clear A20
 simp only [Option.some.injEq,Prod.mk.injEq] at H
 obtain⟨rfl,rfl,rfl⟩:=H
 go_enter Try.func54,Try.ntmps54
 go_wp2_with (first | ((with_reducible refine gate_dst (N:=2) rfl ?_);refine box_event ?hg (N:=2) ?hd (cs:= #[.int .i64 0, .slice none 0 0]) (t:=64) ?hr ?_;(case hd=>rfl);(case hg=>rfl);(case hr=>first | (go_simp;done) | (go_simp;rfl));intro ae hg w3 hbox hb;have aa:=Aside0.mk (hbox);have aw:=Aside0.mk ((by rw [hg];exact bz_:w.heap.size≤ae));have ax:=Aside0.mk ((by rw [hg];exact bz_:w.heap.size≤ae));replace HB:=Aside0.mk (bs_ hb);clear hb hbox hg) | ((with_reducible refine gate_callee (f:=133) rfl ?_);refine gL_ 5 Try.func133 #[.slice A0 l0.length c0] ?_;(with_reducible refine(spec_l06With.calls k _ _ l0 af ag aj _ ?ak ?aq A2.out).mono ?_);(case ak=>exact cb_ HR0.out HB.out);(case aq=>exact HC0.out);rintro e w4 ⟨aG,rfl,ho0,hb⟩;refine⟨_,rfl,?_⟩;have ai:=Aside0.mk (Kd.R_lower ho0 bz_);replace aa:=Aside0.mk (bb_ aa.out hb);replace HB:=Aside0.mk (bs_ hb);(try clear hb);(try clear hb2);(try clear hk);(try clear hi);(try clear ho0);have ay:w4.cell? ⟨ae,0,none⟩=some (.int .i64 0):=(blk_cell aa.out 0).trans rfl;have az:w4.cell? ⟨ae,1,none⟩=some (.slice none 0 0):=(blk_cell aa.out 1).trans rfl;have aA:=blk_frozen aa.out 0;have aC:=blk_frozen aa.out 1;obtain⟨au,av,aD⟩:=Kd.R_slice ai.out;subst aD))
 refine bodyPost_ret (results_ct rfl _ _ ae 64 #[.int .i64 af, .slice au ag.length av] (0,0) _ rfl (by(with_reducible repeat (first | refine blk_drewN ?_ _ | refine blk_drew ?_ | refine blk_alloc ?_ _));refine blk_put (cs:= #[.int .i64 af, .slice none 0 0]) ?_ 1 _ rfl;(with_reducible repeat (first | refine blk_drewN ?_ _ | refine blk_drew ?_ | refine blk_alloc ?_ _));refine blk_put (cs:= #[.int .i64 0, .slice none 0 0]) ?_ 0 _ rfl;(with_reducible repeat (first | refine blk_drewN ?_ _ | refine blk_drew ?_ | refine blk_alloc ?_ _));exact aa.out) Try.underlying64 rfl (by kernel_rfl)) rfl ?_
 exact⟨_,by first | rfl | (simp [errW_none,errW_some] <;> rfl) | (simp [*,errW_none,errW_some] <;> rfl),by(with_reducible repeat (first | apply Kd.R_alloc | apply Kd.R_drewN | apply Kd.R_drew));exact Kd.R_mono (Kd.R_far (p:=⟨ae,1,none⟩) (Kd.R_far (p:=⟨ae,0,none⟩) (Kd.R_types ai.out aa.out (by decide)) (fun _ hk=>hk.2) (.int .i64 af)) (fun _ hk=>hk.2) (.slice au ag.length av)) (fun _ hk=>trivial),hb_⟩
def impl_MirrorCube.l0:Nat→Int→List Int→Int→Int→Int→List Int→Option (Int × List Int × Int)
 | 0,_,_,_,_,_,_=>none
 | k+1,x1,x22,x23,x24,ae,aa=>if x24 < x23 then(if 0≤x24 then(if x24 < (x22.length:Int) then(if aa.length < 17592186044416 then(impl_MirrorCube.l0 k x1 x22 x23 (wrap64 (x24+1)) ae (aa++ [Go.bits .xor .i64 (rd x22 x24) x1])) else(none)) else(none)) else(none)) else(some (ae,aa,0))
def impl_MirrorCube.f (k:Nat) (a0_0:Int) (aa:List Int) (a1:Int):Option (Int × List Int × Int):=(impl_IsCube.f k a0_0 aa).bind fun ae=>(if ae=true then((impl_Cube_isVertex.f a0_0 aa a1).bind fun af=>(if af=true then(impl_MirrorCube.l0 k a1 aa (aa.length:Int) 0 a0_0 ([]:List Int)) else(some (0,([]:List Int),2)))) else(some (0,([]:List Int),1)))
theorem impl_MirrorCube.mono_l: ∀k,(∀y0 y1 y2 y3 y4 y5,LeO (impl_MirrorCube.l0 k y0 y1 y2 y3 y4 y5) (impl_MirrorCube.l0 (k+1) y0 y1 y2 y3 y4 y5))
 | 0=>fun _ _ _ _ _ _ r h=>by simp [impl_MirrorCube.l0] at h
 | k+1=>by
  have ih0:=impl_MirrorCube.mono_l k
  ·intro y0 y1 y2 y3 y4 y5
   unfold impl_MirrorCube.l0
   repeat' first
   | (with_reducible exact ih0 _ _ _ _ _ _)
   | (with_reducible exact impl_IsCube.mono _ _ _)
   | (with_reducible exact LeO.refl _)
   | (with_reducible exact LeO.none _)
   | (with_reducible refine LeO.ite ?_ ?_)
   | (with_reducible refine LeO.bind ?_ (fun _=>?_))
   | exact ih0 _ _ _ _ _ _
   | exact impl_IsCube.mono _ _ _
   | exact LeO.none _
   | refine LeO.ite ?_ ?_
   | refine LeO.bind ?_ (fun _=>?_)
theorem impl_MirrorCube.mono: ∀a0 a1 a2 k,LeO (impl_MirrorCube.f k a0 a1 a2) (impl_MirrorCube.f (k+1) a0 a1 a2):=by
 intro a0 a1 a2 k
 have ih0:=impl_MirrorCube.mono_l k
 unfold impl_MirrorCube.f
 repeat' first
   | (with_reducible exact ih0 _ _ _ _ _ _)
   | (with_reducible exact impl_IsCube.mono _ _ _)
   | (with_reducible exact LeO.refl _)
   | (with_reducible exact LeO.none _)
   | (with_reducible refine LeO.ite ?_ ?_)
   | (with_reducible refine LeO.bind ?_ (fun _=>?_))
   | exact ih0 _ _ _ _ _ _
   | exact impl_IsCube.mono _ _ _
   | exact LeO.none _
   | refine LeO.ite ?_ ?_
   | refine LeO.bind ?_ (fun _=>?_)
theorem impl_MirrorCube.calls (k:Nat) (a0_0:Int) (az:Option Addr) (aA:Nat) (af:List Int) (a1:Int) (r1:Int) (r2:List Int) (r3:Int) (w:World) (aX:Kd.C (Kd.int .i64) w az af.length af) (aY:af.length≤aA) (h:impl_MirrorCube.f k a0_0 af a1=some (r1,r2,r3)):
  Calls Try.prog 55 #[.agg #[.int .i64 a0_0, .slice az af.length aA], .int .i64 a1] w fun e w'=> ∃v1_:Value,e= .returned (.tuple #[.agg #[.int .i64 r1,v1_], .int .i64 r3])∧Kd.R (Kd.int .i64) 2 w' w.heap.size (fun _=>True) v1_ r2∧Below w.heap.size w w':=by
 have hu64:=Try.underlying64
 have HR0_1:=Aside0.mk aX
 have HC0_1:=Aside0.mk aY
 clear aX aY
 have HB:=Aside0.mk (Below.refl w.heap.size w)
 have H:((impl_IsCube.f k a0_0 af).bind fun aK=>(if aK=true then((impl_Cube_isVertex.f a0_0 af a1).bind fun aH=>(if aH=true then(impl_MirrorCube.l0 k a1 af (af.length:Int) 0 a0_0 ([]:List Int)) else(some (0,([]:List Int),2)))) else(some (0,([]:List Int),1))))=some (r1,r2,r3):=h
 clear h
 replace H:=Option.bind_eq_some_iff.mp H
 obtain⟨aK,A30,H⟩:=H
 replace H:(if aK=true then((impl_Cube_isVertex.f a0_0 af a1).bind fun aH=>(if aH=true then(impl_MirrorCube.l0 k a1 af (af.length:Int) 0 a0_0 ([]:List Int)) else(some (0,([]:List Int),2)))) else(some (0,([]:List Int),1)))=some (r1,r2,r3):=H
 have A3:=Aside0.mk A30
 clear A30
 by_cases c4:aK=true
 ·subst c4
  have H1:((impl_Cube_isVertex.f a0_0 af a1).bind fun aH=>(if aH=true then(impl_MirrorCube.l0 k a1 af (af.length:Int) 0 a0_0 ([]:List Int)) else(some (0,([]:List Int),2))))=some (r1,r2,r3):=by rw [if_pos rfl] at H;exact H
  clear H
  have H:=H1
  clear H1
  replace H:=Option.bind_eq_some_iff.mp H
  obtain⟨aH,A50,H⟩:=H
  replace H:(if aH=true then(impl_MirrorCube.l0 k a1 af (af.length:Int) 0 a0_0 ([]:List Int)) else(some (0,([]:List Int),2)))=some (r1,r2,r3):=H
  have A5:=Aside0.mk A50
  clear A50
  by_cases c6:aH=true
  ·subst c6
   have H1:(impl_MirrorCube.l0 k a1 af (af.length:Int) 0 a0_0 ([]:List Int))=some (r1,r2,r3):=by rw [if_pos rfl] at H;exact H
   clear H
   have H:=H1
   clear H1
   have H':=Aside0.mk H
   clear H
   go_enter Try.func55,Try.ntmps55
   go_wp2_with (first | ((with_reducible refine gate_dst (N:=2) rfl ?_);refine box_event ?hg (N:=2) ?hd (cs:= #[.int .i64 a0_0, .slice az af.length aA]) (t:=64) ?hr ?_;(case hd=>rfl);(case hg=>rfl);(case hr=>first | (go_simp;done) | (go_simp;rfl));intro ag hg w7 hbox hb;have aa:=Aside0.mk (hbox);have aN:=Aside0.mk ((by rw [hg];exact bz_:w.heap.size≤ag));have aT:=Aside0.mk ((by rw [hg];exact bz_:w.heap.size≤ag));replace HB:=Aside0.mk (bs_ hb);clear hb hbox hg) | ((with_reducible refine gate_dst (N:=4) rfl ?_);refine box_event ?hg (N:=4) ?hd (cs:= #[.int .i64 0, .slice none 0 0]) (t:=64) ?hr ?_;(case hd=>rfl);(case hg=>rfl);(case hr=>first | (go_simp;done) | (go_simp;rfl));intro ah hg w8 hbox hb;have ae:=Aside0.mk (hbox);have aU:=Aside0.mk ((by rw [hg];exact bz_:w.heap.size≤ah));have aV:=Aside0.mk ((by rw [hg];exact bz_:w.heap.size≤ah));have av:=Aside0.mk ((by rw [hg];exact lt_ aa.out:ag≠ah));have aw:=Aside0.mk ((by rw [hg];exact gt_ aa.out:ah≠ag));replace aa:=Aside0.mk (bb_ aa.out hb);replace HB:=Aside0.mk (bs_ hb);clear hb hbox hg;have dC:=av.out;have dD:=aw.out;have aZ:w8.cell? ⟨ag,0,none⟩=some (.int .i64 a0_0):=(blk_cell aa.out 0).trans rfl;have a9:w8.cell? ⟨ag,1,none⟩=some (.slice az af.length aA):=(blk_cell aa.out 1).trans rfl;have ba:=blk_frozen aa.out 0;have bb:=blk_frozen aa.out 1) | ((with_reducible refine gate_callee (f:=42) rfl ?_);refine gL_ 10 Try.func42 #[.agg #[.int .i64 a0_0, .slice az af.length aA]] ?_;(with_reducible refine(impl_IsCube.calls k a0_0 _ _ af true _ ?aD ?aG A3.out).mono ?_);(case aD=>exact cb_ HR0_1.out HB.out);(case aG=>exact HC0_1.out);rintro e w11 ⟨rfl,hb⟩;refine⟨_,rfl,?_⟩;replace aa:=Aside0.mk (bb_ aa.out hb);replace ae:=Aside0.mk (bb_ ae.out hb);replace HB:=Aside0.mk (bs_ hb);(try clear hb);(try clear hb2);(try clear hk);(try clear hi);have bf:w11.cell? ⟨ag,0,none⟩=some (.int .i64 a0_0):=(blk_cell aa.out 0).trans rfl;have bg:w11.cell? ⟨ag,1,none⟩=some (.slice az af.length aA):=(blk_cell aa.out 1).trans rfl;have bh:=blk_frozen aa.out 0;have bi:=blk_frozen aa.out 1) | ((with_reducible refine gate_callee (f:=134) rfl ?_);refine gL_ 15 Try.func134 #[.agg #[.int .i64 a0_0, .slice az af.length aA], .int .i64 a1] ?_;(with_reducible refine(impl_Cube_isVertex.calls a0_0 _ _ af a1 true _ ?aD ?aG A5.out).mono ?_);(case aD=>exact cb_ HR0_1.out HB.out);(case aG=>exact HC0_1.out);rintro e w13 ⟨rfl,hb⟩;refine⟨_,rfl,?_⟩;replace aa:=Aside0.mk (bb_ aa.out hb);replace ae:=Aside0.mk (bb_ ae.out hb);replace HB:=Aside0.mk (bs_ hb);(try clear hb);(try clear hb2);(try clear hk);(try clear hi);have bk:w13.cell? ⟨ag,0,none⟩=some (.int .i64 a0_0):=(blk_cell aa.out 0).trans rfl;have bn:w13.cell? ⟨ag,1,none⟩=some (.slice az af.length aA):=(blk_cell aa.out 1).trans rfl;have bq:=blk_frozen aa.out 0;have bu:=blk_frozen aa.out 1) | ((with_reducible refine gate_dst (N:=6) rfl ?_);refine box_event ?hg (N:=6) ?hd (cs:= #[.int .i64 0, .slice none 0 0]) (t:=64) ?hr ?_;(case hd=>rfl);(case hg=>rfl);(case hr=>first | (go_simp;done) | (go_simp;rfl));intro aj hg w15 hbox hb;have ai:=Aside0.mk (hbox);have cS:=Aside0.mk ((by rw [hg];exact bz_:w.heap.size≤aj));have cT:=Aside0.mk ((by rw [hg];exact bz_:w.heap.size≤aj));have ax:=Aside0.mk ((by rw [hg];exact lt_ aa.out:ag≠aj));have aI:=Aside0.mk ((by rw [hg];exact gt_ aa.out:aj≠ag));have ay:=Aside0.mk ((by rw [hg];exact lt_ ae.out:ah≠aj));have aJ:=Aside0.mk ((by rw [hg];exact gt_ ae.out:aj≠ah));replace aa:=Aside0.mk (bb_ aa.out hb);replace ae:=Aside0.mk (bb_ ae.out hb);replace HB:=Aside0.mk (bs_ hb);clear hb hbox hg;have cV:=aI.out;have cW:=ax.out;have cZ:=aJ.out;have da:=ay.out;have bv:w15.cell? ⟨aj,0,none⟩=some (.int .i64 0):=(blk_cell ai.out 0).trans rfl;have bw:w15.cell? ⟨aj,1,none⟩=some (.slice none 0 0):=(blk_cell ai.out 1).trans rfl;have bz:=blk_frozen ai.out 0;have bA:=blk_frozen ai.out 1;have bC:w15.cell? ⟨ag,0,none⟩=some (.int .i64 a0_0):=(blk_cell aa.out 0).trans rfl;have bD:w15.cell? ⟨ag,1,none⟩=some (.slice az af.length aA):=(blk_cell aa.out 1).trans rfl;have bE:=blk_frozen aa.out 0;have bF:=blk_frozen aa.out 1))
   go_loopg [24] k (fun kq v24 w'=> ∃(ak:Int) (aq:List Int) (aC:Value),v24= .int .i64 ak∧Aside0 (impl_MirrorCube.l0 kq a1 af (af.length:Int) ak a0_0 aq=some (r1,r2,r3))∧Aside0 (kq≤k)∧Aside0 (Kd.R (Kd.int .i64) 2 w' w.heap.size (fun _=>True) aC aq)∧Aside0 (w'.heap[ag]?=some (.cells #[.int .i64 a0_0,(.slice az af.length aA)] 64 (0,0)))∧Aside0 (w'.heap[ah]?=some (.cells #[.int .i64 0,(.slice none 0 0)] 64 (0,0)))∧Aside0 (w'.heap[aj]?=some (.cells #[.int .i64 a0_0,aC] 64 (0,0)))∧Aside0 (Below w.heap.size w w'))
   case atStart=>exact⟨(0),(([]:List Int)),(.slice none 0 0),rs_,H',⟨Nat.le_refl _⟩,⟨by first | exact Kd.R_nil _ _ _ _ _ | exact Kd.N_nil _ _ _ _ _ | exact Kd.V_nil _ _ _ _ _ | exact Kd.Q_nil _ _ _ _ _ | exact Kd.S_nil _ _ _ _ _⟩,⟨by(with_reducible repeat (first | refine blk_drewN ?_ _ | refine blk_drew ?_ | refine blk_alloc ?_ _));refine blk_far ?_ ax.out _;(with_reducible repeat (first | refine blk_drewN ?_ _ | refine blk_drew ?_ | refine blk_alloc ?_ _));refine blk_far ?_ ax.out _;(with_reducible repeat (first | refine blk_drewN ?_ _ | refine blk_drew ?_ | refine blk_alloc ?_ _));exact aa.out⟩,⟨by(with_reducible repeat (first | refine blk_drewN ?_ _ | refine blk_drew ?_ | refine blk_alloc ?_ _));refine blk_far ?_ ay.out _;(with_reducible repeat (first | refine blk_drewN ?_ _ | refine blk_drew ?_ | refine blk_alloc ?_ _));refine blk_far ?_ ay.out _;(with_reducible repeat (first | refine blk_drewN ?_ _ | refine blk_drew ?_ | refine blk_alloc ?_ _));exact ae.out⟩,⟨by(with_reducible repeat (first | refine blk_drewN ?_ _ | refine blk_drew ?_ | refine blk_alloc ?_ _));refine blk_put (cs:= #[.int .i64 a0_0, .slice none 0 0]) ?_ 1 _ rfl;(with_reducible repeat (first | refine blk_drewN ?_ _ | refine blk_drew ?_ | refine blk_alloc ?_ _));refine blk_put (cs:= #[.int .i64 0, .slice none 0 0]) ?_ 0 _ rfl;(with_reducible repeat (first | refine blk_drewN ?_ _ | refine blk_drew ?_ | refine blk_alloc ?_ _));exact ai.out⟩,⟨hb_⟩⟩
   case round=>
    clear H'
    try clear c1
    try clear p2
    try clear c4
    try clear c5
    try clear c6
    try clear c9
    try clear c13
    try clear c16
    try clear c17
    try clear aZ
    try clear a9
    try clear bf
    try clear bg
    try clear bk
    try clear bn
    try clear bv
    try clear bw
    try clear bC
    try clear bD
    try clear ba
    try clear bb
    try clear bh
    try clear bi
    try clear bq
    try clear bu
    try clear bz
    try clear bA
    try clear bE
    try clear bF
    obtain⟨ak,aq,aC,rfl,HA,HK1,au,aa,ae,ai,HB⟩:=hrel
    cases gk with
    | zero=>exact absurd HA.out (by simp [impl_MirrorCube.l0])
    | succ k1=>
     have H:=HA.out
     clear HA
     simp only [impl_MirrorCube.l0] at H
     by_cases c20:ak < (af.length:Int)
     ·rw [if_pos c20] at H
      have c20b0:decide (ak < (af.length:Int))=true:=decide_eq_true c20
      clear c20
      by_cases c21:0≤ak
      ·rw [if_pos c21] at H
       have c21b0:decide (0≤ak)=true:=decide_eq_true c21
       clear c21
       by_cases c22:ak < (af.length:Int)
       ·rw [if_pos c22] at H
        have c22b0:decide (ak < (af.length:Int))=true:=decide_eq_true c22
        clear c22
        by_cases c23:aq.length < 17592186044416
        ·rw [if_pos c23] at H
         have bL:=Aside0.mk c23
         clear c23
         obtain⟨aM,hy1092⟩: ∃y_:List Int,y_=(aq++ [Go.bits .xor .i64 (rd af ak) a1]):=⟨_,rfl⟩
         replace H:(impl_MirrorCube.l0 k1 a1 af (af.length:Int) (wrap64 (ak+1)) a0_0 aM)=some (r1,r2,r3):=by first | (rw [hy1092];with_reducible exact H) | (have H2_:=(Option.bind_some _ _).symm.trans H;rw [hy1092];with_reducible exact H2_) | (have H2_:=(Option.bind_some _ _).symm.trans H;with_reducible exact H2_) | with_reducible exact H | (rw [hy1092];exact H) | exact H
         have bG:=Aside0.mk hy1092
         clear hy1092
         have H':=Aside0.mk H
         clear H
         have p1091:0≤(ak:Int):=od_
         have q1091:ak < (af.length:Int):=od_
         obtain⟨cU,e1091,hx1091_0⟩:=Kd.at_int HR0_1.out ak p1091 q1091
         cases e1091
         replace hx1091_0:=(HB.out.cell (World.block_lt_of_cell? w _ hx1091_0)).trans hx1091_0
         replace p1091:=eq_true p1091
         replace q1091:=eq_true q1091
         have db:=aI.out
         have dc:=ax.out
         have df:=aJ.out
         have dh:=ay.out
         have bO:wr.cell? ⟨aj,0,none⟩=some (.int .i64 a0_0):=(blk_cell ai.out 0).trans rfl
         have bP:wr.cell? ⟨aj,1,none⟩=some (aC):=(blk_cell ai.out 1).trans rfl
         have bQ:=blk_frozen ai.out 0
         have bS:=blk_frozen ai.out 1
         go_wp2_with (first | ((with_reducible refine gate_builtin (b:= .append) (xs:= #[.tmp 29, .tmp 33]) rfl ?_);at_builtin;refine Kd.R_append (Kd.int .i64) (w0:=w) w.heap.size rfl (.tmp 29) (.tmp 33) 23 2 (.int .i64 0) 8 rfl Try.underlying23 info2 rfl (by decide) (by omega) aC aq (Go.bits .xor .i64 (rd af ak) a1) [.int .i64 (Go.bits .xor .i64 (rd af ak) a1)] (fun _=>True) (fun _=>False) rfl rfl ?aP (fun _ hk=>hk.elim) ?aF ?aO ?aB ?aS ?aL ?_;(case aP=>exact rfl);(case aB=>exact hb_);(case aF=>exact(fun _ _=>trivial));(case aO=>exact(ro_ au.out));(case aS=>exact bz_);(case aL=>have:=bL.out;omega);intro di w27 ho hb hg hat;rw [← bG.out] at ho;replace aa:=Aside0.mk (bg_ aa.out hg (Kd.R_ne au.out aa.out (by decide)));replace ae:=Aside0.mk (bg_ ae.out hg (Kd.R_ne au.out ae.out (by decide)));replace ai:=Aside0.mk (bg_ ai.out hg (Kd.R_ne au.out ai.out (by decide)));replace HB:=Aside0.mk (hb);have aW:=Aside0.mk (ho);clear au ho hb hg hat;obtain⟨bH,bI,bM⟩:=Kd.R_slice aW.out;subst bM;have bT:w27.cell? ⟨aj,0,none⟩=some (.int .i64 a0_0):=(blk_cell ai.out 0).trans rfl;have bU:w27.cell? ⟨aj,1,none⟩=some (aC):=(blk_cell ai.out 1).trans rfl;have bV:=blk_frozen ai.out 0;have bW:=blk_frozen ai.out 1))
         go_roundg k1
         case measure=>have:=HK1.out;omega
         case rel=>exact⟨(wrap64 (ak+1)),(aM),(.slice bH aM.length bI),rs_,H',⟨by have:=HK1.out;omega⟩,⟨by(with_reducible repeat (first | apply Kd.R_alloc | apply Kd.R_drewN | apply Kd.R_drew));exact Kd.R_mono (Kd.R_far (p:=⟨aj,1,none⟩) (Kd.R_types aW.out ai.out (by decide)) (fun _ hk=>hk.2) (.slice bH aM.length bI)) (fun _ hk=>trivial)⟩,⟨by(with_reducible repeat (first | refine blk_drewN ?_ _ | refine blk_drew ?_ | refine blk_alloc ?_ _));refine blk_far ?_ ax.out _;(with_reducible repeat (first | refine blk_drewN ?_ _ | refine blk_drew ?_ | refine blk_alloc ?_ _));exact aa.out⟩,⟨by(with_reducible repeat (first | refine blk_drewN ?_ _ | refine blk_drew ?_ | refine blk_alloc ?_ _));refine blk_far ?_ ay.out _;(with_reducible repeat (first | refine blk_drewN ?_ _ | refine blk_drew ?_ | refine blk_alloc ?_ _));exact ae.out⟩,⟨by(with_reducible repeat (first | refine blk_drewN ?_ _ | refine blk_drew ?_ | refine blk_alloc ?_ _));refine blk_put (cs:= #[.int .i64 a0_0,aC]) ?_ 1 _ rfl;(with_reducible repeat (first | refine blk_drewN ?_ _ | refine blk_drew ?_ | refine blk_alloc ?_ _));exact ai.out⟩,⟨hb_⟩⟩
        ·rw [if_neg c23] at H
         exact absurd H (by simp)
       ·rw [if_neg c22] at H
        exact absurd H (by simp)
      ·rw [if_neg c21] at H
       exact absurd H (by simp)
     ·rw [if_neg c20] at H
      have c20b0:decide (ak < (af.length:Int))=false:=decide_eq_false c20
      clear c20
      simp only [Option.some.injEq,Prod.mk.injEq] at H
      obtain⟨rfl,rfl,rfl⟩:=H
      have dl:=aI.out
      have dm:=ax.out
      have dq:=aJ.out
      have dr:=ay.out
      have bX:wr.cell? ⟨aj,0,none⟩=some (.int .i64 a0_0):=(blk_cell ai.out 0).trans rfl
      have bY:wr.cell? ⟨aj,1,none⟩=some (aC):=(blk_cell ai.out 1).trans rfl
      have bZ:=blk_frozen ai.out 0
      have cf:=blk_frozen ai.out 1
      have du:=aw.out
      have dw:=av.out
      have ck:wr.cell? ⟨ah,0,none⟩=some (.int .i64 0):=(blk_cell ae.out 0).trans rfl
      have cl:wr.cell? ⟨ah,1,none⟩=some (.slice none 0 0):=(blk_cell ae.out 1).trans rfl
      have cm:=blk_frozen ae.out 0
      have cn:=blk_frozen ae.out 1
      obtain⟨bJ,bK,bN⟩:=Kd.R_slice au.out
      subst bN
      go_wp2
      refine bodyPost_ret (results_ct rfl _ _ ah 64 #[.int .i64 a0_0, .slice bJ aq.length bK] (0,0) _ rfl (by(with_reducible repeat (first | refine blk_drewN ?_ _ | refine blk_drew ?_ | refine blk_alloc ?_ _));refine blk_put (cs:= #[.int .i64 a0_0, .slice none 0 0]) ?_ 1 _ rfl;(with_reducible repeat (first | refine blk_drewN ?_ _ | refine blk_drew ?_ | refine blk_alloc ?_ _));refine blk_put (cs:= #[.int .i64 0, .slice none 0 0]) ?_ 0 _ rfl;(with_reducible repeat (first | refine blk_drewN ?_ _ | refine blk_drew ?_ | refine blk_alloc ?_ _));exact ae.out) Try.underlying64 rfl (by kernel_rfl)) rfl ?_
      exact⟨_,by first | rfl | (simp [errW_none,errW_some] <;> rfl) | (simp [*,errW_none,errW_some] <;> rfl),by(with_reducible repeat (first | apply Kd.R_alloc | apply Kd.R_drewN | apply Kd.R_drew));exact Kd.R_mono (Kd.R_far (p:=⟨ah,1,none⟩) (Kd.R_far (p:=⟨ah,0,none⟩) (Kd.R_types au.out ae.out (by decide)) (fun _ hk=>hk.2) (.int .i64 a0_0)) (fun _ hk=>hk.2) (.slice bJ aq.length bK)) (fun _ hk=>trivial),hb_⟩
  ·replace c6:=Bool.eq_false_iff.mpr c6
   subst c6
   have H1:(some (0,([]:List Int),2))=some (r1,r2,r3):=by rw [if_neg (show ¬ (false=true) by decide)] at H;exact H
   clear H
   have H:=H1
   clear H1
   simp only [Option.some.injEq,Prod.mk.injEq] at H
   obtain⟨rfl,rfl,rfl⟩:=H
   go_enter Try.func55,Try.ntmps55
   go_wp2_with (first | ((with_reducible refine gate_dst (N:=2) rfl ?_);refine box_event ?hg (N:=2) ?hd (cs:= #[.int .i64 a0_0, .slice az af.length aA]) (t:=64) ?hr ?_;(case hd=>rfl);(case hg=>rfl);(case hr=>first | (go_simp;done) | (go_simp;rfl));intro ag hg w36 hbox hb;have aa:=Aside0.mk (hbox);have aN:=Aside0.mk ((by rw [hg];exact bz_:w.heap.size≤ag));have aT:=Aside0.mk ((by rw [hg];exact bz_:w.heap.size≤ag));replace HB:=Aside0.mk (bs_ hb);clear hb hbox hg) | ((with_reducible refine gate_dst (N:=4) rfl ?_);refine box_event ?hg (N:=4) ?hd (cs:= #[.int .i64 0, .slice none 0 0]) (t:=64) ?hr ?_;(case hd=>rfl);(case hg=>rfl);(case hr=>first | (go_simp;done) | (go_simp;rfl));intro ah hg w37 hbox hb;have ae:=Aside0.mk (hbox);have aU:=Aside0.mk ((by rw [hg];exact bz_:w.heap.size≤ah));have aV:=Aside0.mk ((by rw [hg];exact bz_:w.heap.size≤ah));have av:=Aside0.mk ((by rw [hg];exact lt_ aa.out:ag≠ah));have aw:=Aside0.mk ((by rw [hg];exact gt_ aa.out:ah≠ag));replace aa:=Aside0.mk (bb_ aa.out hb);replace HB:=Aside0.mk (bs_ hb);clear hb hbox hg;have dx:=av.out;have dz:=aw.out;have co:w37.cell? ⟨ag,0,none⟩=some (.int .i64 a0_0):=(blk_cell aa.out 0).trans rfl;have cq:w37.cell? ⟨ag,1,none⟩=some (.slice az af.length aA):=(blk_cell aa.out 1).trans rfl;have ct:=blk_frozen aa.out 0;have cA:=blk_frozen aa.out 1) | ((with_reducible refine gate_callee (f:=42) rfl ?_);refine gL_ 10 Try.func42 #[.agg #[.int .i64 a0_0, .slice az af.length aA]] ?_;(with_reducible refine(impl_IsCube.calls k a0_0 _ _ af true _ ?aD ?aG A3.out).mono ?_);(case aD=>exact cb_ HR0_1.out HB.out);(case aG=>exact HC0_1.out);rintro e w40 ⟨rfl,hb⟩;refine⟨_,rfl,?_⟩;replace aa:=Aside0.mk (bb_ aa.out hb);replace ae:=Aside0.mk (bb_ ae.out hb);replace HB:=Aside0.mk (bs_ hb);(try clear hb);(try clear hb2);(try clear hk);(try clear hi);have cB:w40.cell? ⟨ag,0,none⟩=some (.int .i64 a0_0):=(blk_cell aa.out 0).trans rfl;have cC:w40.cell? ⟨ag,1,none⟩=some (.slice az af.length aA):=(blk_cell aa.out 1).trans rfl;have cD:=blk_frozen aa.out 0;have cE:=blk_frozen aa.out 1) | ((with_reducible refine gate_callee (f:=134) rfl ?_);refine gL_ 15 Try.func134 #[.agg #[.int .i64 a0_0, .slice az af.length aA], .int .i64 a1] ?_;(with_reducible refine(impl_Cube_isVertex.calls a0_0 _ _ af a1 false _ ?aD ?aG A5.out).mono ?_);(case aD=>exact cb_ HR0_1.out HB.out);(case aG=>exact HC0_1.out);rintro e w42 ⟨rfl,hb⟩;refine⟨_,rfl,?_⟩;replace aa:=Aside0.mk (bb_ aa.out hb);replace ae:=Aside0.mk (bb_ ae.out hb);replace HB:=Aside0.mk (bs_ hb);(try clear hb);(try clear hb2);(try clear hk);(try clear hi);have cF:w42.cell? ⟨ah,0,none⟩=some (.int .i64 0):=(blk_cell ae.out 0).trans rfl;have cG:w42.cell? ⟨ah,1,none⟩=some (.slice none 0 0):=(blk_cell ae.out 1).trans rfl;have cH:=blk_frozen ae.out 0;have cI:=blk_frozen ae.out 1))
   refine bodyPost_ret (results_ct rfl _ _ ah 64 #[.int .i64 0, .slice none 0 0] (0,0) _ rfl (by(with_reducible repeat (first | refine blk_drewN ?_ _ | refine blk_drew ?_ | refine blk_alloc ?_ _));refine blk_put (cs:= #[.int .i64 0, .slice none 0 0]) ?_ 1 _ rfl;(with_reducible repeat (first | refine blk_drewN ?_ _ | refine blk_drew ?_ | refine blk_alloc ?_ _));refine blk_put (cs:= #[.int .i64 0, .slice none 0 0]) ?_ 0 _ rfl;(with_reducible repeat (first | refine blk_drewN ?_ _ | refine blk_drew ?_ | refine blk_alloc ?_ _));exact ae.out) Try.underlying64 rfl (by kernel_rfl)) rfl ?_
   exact⟨_,by first | rfl | (simp [errW_none,errW_some] <;> rfl) | (simp [*,errW_none,errW_some] <;> rfl),by first | exact Kd.R_nil _ _ _ _ _ | exact Kd.N_nil _ _ _ _ _ | exact Kd.V_nil _ _ _ _ _ | exact Kd.Q_nil _ _ _ _ _ | exact Kd.S_nil _ _ _ _ _,hb_⟩
 ·replace c4:=Bool.eq_false_iff.mpr c4
  subst c4
  have H1:(some (0,([]:List Int),1))=some (r1,r2,r3):=by rw [if_neg (show ¬ (false=true) by decide)] at H;exact H
  clear H
  have H:=H1
  clear H1
  simp only [Option.some.injEq,Prod.mk.injEq] at H
  obtain⟨rfl,rfl,rfl⟩:=H
  go_enter Try.func55,Try.ntmps55
  go_wp2_with (first | ((with_reducible refine gate_dst (N:=2) rfl ?_);refine box_event ?hg (N:=2) ?hd (cs:= #[.int .i64 a0_0, .slice az af.length aA]) (t:=64) ?hr ?_;(case hd=>rfl);(case hg=>rfl);(case hr=>first | (go_simp;done) | (go_simp;rfl));intro ag hg w44 hbox hb;have aa:=Aside0.mk (hbox);have aN:=Aside0.mk ((by rw [hg];exact bz_:w.heap.size≤ag));have aT:=Aside0.mk ((by rw [hg];exact bz_:w.heap.size≤ag));replace HB:=Aside0.mk (bs_ hb);clear hb hbox hg) | ((with_reducible refine gate_dst (N:=4) rfl ?_);refine box_event ?hg (N:=4) ?hd (cs:= #[.int .i64 0, .slice none 0 0]) (t:=64) ?hr ?_;(case hd=>rfl);(case hg=>rfl);(case hr=>first | (go_simp;done) | (go_simp;rfl));intro ah hg w45 hbox hb;have ae:=Aside0.mk (hbox);have aU:=Aside0.mk ((by rw [hg];exact bz_:w.heap.size≤ah));have aV:=Aside0.mk ((by rw [hg];exact bz_:w.heap.size≤ah));have av:=Aside0.mk ((by rw [hg];exact lt_ aa.out:ag≠ah));have aw:=Aside0.mk ((by rw [hg];exact gt_ aa.out:ah≠ag));replace aa:=Aside0.mk (bb_ aa.out hb);replace HB:=Aside0.mk (bs_ hb);clear hb hbox hg;have dA:=av.out;have dB:=aw.out;have cJ:w45.cell? ⟨ag,0,none⟩=some (.int .i64 a0_0):=(blk_cell aa.out 0).trans rfl;have cK:w45.cell? ⟨ag,1,none⟩=some (.slice az af.length aA):=(blk_cell aa.out 1).trans rfl;have cL:=blk_frozen aa.out 0;have cN:=blk_frozen aa.out 1) | ((with_reducible refine gate_callee (f:=42) rfl ?_);refine gL_ 10 Try.func42 #[.agg #[.int .i64 a0_0, .slice az af.length aA]] ?_;(with_reducible refine(impl_IsCube.calls k a0_0 _ _ af false _ ?aD ?aG A3.out).mono ?_);(case aD=>exact cb_ HR0_1.out HB.out);(case aG=>exact HC0_1.out);rintro e w48 ⟨rfl,hb⟩;refine⟨_,rfl,?_⟩;replace aa:=Aside0.mk (bb_ aa.out hb);replace ae:=Aside0.mk (bb_ ae.out hb);replace HB:=Aside0.mk (bs_ hb);(try clear hb);(try clear hb2);(try clear hk);(try clear hi);have cO:w48.cell? ⟨ah,0,none⟩=some (.int .i64 0):=(blk_cell ae.out 0).trans rfl;have cP:w48.cell? ⟨ah,1,none⟩=some (.slice none 0 0):=(blk_cell ae.out 1).trans rfl;have cQ:=blk_frozen ae.out 0;have cR:=blk_frozen ae.out 1))
  refine bodyPost_ret (results_ct rfl _ _ ah 64 #[.int .i64 0, .slice none 0 0] (0,0) _ rfl (by(with_reducible repeat (first | refine blk_drewN ?_ _ | refine blk_drew ?_ | refine blk_alloc ?_ _));refine blk_put (cs:= #[.int .i64 0, .slice none 0 0]) ?_ 1 _ rfl;(with_reducible repeat (first | refine blk_drewN ?_ _ | refine blk_drew ?_ | refine blk_alloc ?_ _));refine blk_put (cs:= #[.int .i64 0, .slice none 0 0]) ?_ 0 _ rfl;(with_reducible repeat (first | refine blk_drewN ?_ _ | refine blk_drew ?_ | refine blk_alloc ?_ _));exact ae.out) Try.underlying64 rfl (by kernel_rfl)) rfl ?_
  exact⟨_,by first | rfl | (simp [errW_none,errW_some] <;> rfl) | (simp [*,errW_none,errW_some] <;> rfl),by first | exact Kd.R_nil _ _ _ _ _ | exact Kd.N_nil _ _ _ _ _ | exact Kd.V_nil _ _ _ _ _ | exact Kd.Q_nil _ _ _ _ _ | exact Kd.S_nil _ _ _ _ _,hb_⟩
def spec_MirrorCube.l0:Nat→Int→Int→Int→List Int→Int→List Int→Option (Int × List Int × Int)
 | 0,_,_,_,_,_,_=>none
 | k+1,x1,x8,ag,aa,af,ae=>if x8 < (aa.length:Int) then(if 0≤x8 then(if ae.length < 17592186044416 then(spec_MirrorCube.l0 k x1 (wrap64 (x8+1)) ag aa af (ae++ [Go.bits .xor .i64 (rd aa x8) x1])) else(none)) else(none)) else(some (af,ae,0))
def spec_MirrorCube.f (k:Nat) (a0_0:Int) (ae:List Int) (a1:Int):Option (Int × List Int × Int):=(spec_l06Code.f k a0_0 ae (([a1]:List Int))).bind fun aa=>(if aa=0 then(spec_MirrorCube.l0 k a1 0 a0_0 ae a0_0 (([]:List Int))) else(some (0,([]:List Int),aa)))
theorem spec_MirrorCube.mono_l: ∀k,(∀y0 y1 y2 y3 y4 y5,LeO (spec_MirrorCube.l0 k y0 y1 y2 y3 y4 y5) (spec_MirrorCube.l0 (k+1) y0 y1 y2 y3 y4 y5))
 | 0=>fun _ _ _ _ _ _ r h=>by simp [spec_MirrorCube.l0] at h
 | k+1=>by
  have ih0:=spec_MirrorCube.mono_l k
  ·intro y0 y1 y2 y3 y4 y5
   unfold spec_MirrorCube.l0
   repeat' first
   | (with_reducible exact ih0 _ _ _ _ _ _)
   | (with_reducible exact spec_l06Code.mono _ _ _ _)
   | (with_reducible exact LeO.refl _)
   | (with_reducible exact LeO.none _)
   | (with_reducible refine LeO.ite ?_ ?_)
   | (with_reducible refine LeO.bind ?_ (fun _=>?_))
   | exact ih0 _ _ _ _ _ _
   | exact spec_l06Code.mono _ _ _ _
   | exact LeO.none _
   | refine LeO.ite ?_ ?_
   | refine LeO.bind ?_ (fun _=>?_)
theorem spec_MirrorCube.mono: ∀a0 a1 a2 k,LeO (spec_MirrorCube.f k a0 a1 a2) (spec_MirrorCube.f (k+1) a0 a1 a2):=by
 intro a0 a1 a2 k
 have ih0:=spec_MirrorCube.mono_l k
 unfold spec_MirrorCube.f
 repeat' first
   | (with_reducible exact ih0 _ _ _ _ _ _)
   | (with_reducible exact spec_l06Code.mono _ _ _ _)
   | (with_reducible exact LeO.refl _)
   | (with_reducible exact LeO.none _)
   | (with_reducible refine LeO.ite ?_ ?_)
   | (with_reducible refine LeO.bind ?_ (fun _=>?_))
   | exact ih0 _ _ _ _ _ _
   | exact spec_l06Code.mono _ _ _ _
   | exact LeO.none _
   | refine LeO.ite ?_ ?_
   | refine LeO.bind ?_ (fun _=>?_)
def spec_MirrorCube.T8:Bool × List (List Nat × List Nat):=(true, [([], []),([0], [0]),([], []),([2], [2]),([], []),([3,4], [3,4]),([5], [5]),([], []),([6,7], [6,7]),([8], [8]),([1,9], [1,9]),([0,1,2,3,4,5,6,7,8,9,10], []),([11,10,10,0,1,2,3,4,5,6,7,8,9,10], [10,11])])
def spec_MirrorCube.B8:List Nat:= [0,1,0,4,0,28,60,0,252,508,1023,2047,4095]
theorem spec_MirrorCube.tab8:rtab .any (opsOf Try.f56 8)=spec_MirrorCube.T8:=by kernel_rfl
theorem spec_MirrorCube.bits8:waitsOk spec_MirrorCube.T8.2 spec_MirrorCube.B8=true:=by kernel_rfl
theorem spec_MirrorCube.calls (k:Nat) (a0_0:Int) (aI:Option Addr) (aG:Nat) (ah:List Int) (a1:Int) (r1:Int) (r2:List Int) (r3:Int) (w:World) (bh:Kd.C (Kd.int .i64) w aI ah.length ah) (bi:ah.length≤aG) (h:spec_MirrorCube.f k a0_0 ah a1=some (r1,r2,r3)):
  Calls Try.prog 56 #[.agg #[.int .i64 a0_0, .slice aI ah.length aG], .int .i64 a1] w fun e w'=> ∃v1_:Value,e= .returned (.tuple #[.agg #[.int .i64 r1,v1_], .int .i64 r3])∧Kd.R (Kd.int .i64) 2 w' w.heap.size (fun _=>True) v1_ r2∧Below w.heap.size w w':=by
 have hu64:=Try.underlying64
 have HR0_1:=Aside0.mk bh
 have HC0_1:=Aside0.mk bi
 clear bh bi
 have HB:=Aside0.mk (Below.refl w.heap.size w)
 have H:((spec_l06Code.f k a0_0 ah (([a1]:List Int))).bind fun aw=>(if aw=0 then(spec_MirrorCube.l0 k a1 0 a0_0 ah a0_0 (([]:List Int))) else(some (0,([]:List Int),aw))))=some (r1,r2,r3):=h
 clear h
 obtain⟨aK,hy1097⟩: ∃y_:List Int,y_=(([a1]:List Int)):=⟨_,rfl⟩
 replace H:((spec_l06Code.f k a0_0 ah aK).bind fun aw=>(if aw=0 then(spec_MirrorCube.l0 k a1 0 a0_0 ah a0_0 (([]:List Int))) else(some (0,([]:List Int),aw))))=some (r1,r2,r3):=by first | (rw [hy1097];with_reducible exact H) | (have H2_:=(Option.bind_some _ _).symm.trans H;rw [hy1097];with_reducible exact H2_) | (have H2_:=(Option.bind_some _ _).symm.trans H;with_reducible exact H2_) | with_reducible exact H | (rw [hy1097];exact H) | exact H
 have aM:=Aside0.mk hy1097
 clear hy1097
 replace H:=Option.bind_eq_some_iff.mp H
 obtain⟨aw,A30,H⟩:=H
 replace H:(if aw=0 then(spec_MirrorCube.l0 k a1 0 a0_0 ah a0_0 (([]:List Int))) else(some (0,([]:List Int),aw)))=some (r1,r2,r3):=H
 have A3:=Aside0.mk A30
 clear A30
 by_cases c4:aw=0
 ·rw [if_pos c4] at H
  have c4b0:(aw==0)=true:=beq_iff_eq.mpr c4
  have c4b1:(aw !=0)=false:=bne_eq_false_iff_eq.mpr c4
  clear c4
  obtain⟨aU,hy1101⟩: ∃y_:List Int,y_=(([]:List Int)):=⟨_,rfl⟩
  replace H:(spec_MirrorCube.l0 k a1 0 a0_0 ah a0_0 aU)=some (r1,r2,r3):=by first | (rw [hy1101];with_reducible exact H) | (have H2_:=(Option.bind_some _ _).symm.trans H;rw [hy1101];with_reducible exact H2_) | (have H2_:=(Option.bind_some _ _).symm.trans H;with_reducible exact H2_) | with_reducible exact H | (rw [hy1101];exact H) | exact H
  have bb:=Aside0.mk hy1101
  clear hy1101
  have H':=Aside0.mk H
  clear H
  go_enter Try.func56,Try.ntmps56
  go_wp2_with (first | ((with_reducible refine gate_dst (N:=2) rfl ?_);refine box_event ?hg (N:=2) ?hd (cs:= #[.int .i64 a0_0, .slice aI ah.length aG]) (t:=64) ?hr ?_;(case hd=>rfl);(case hg=>rfl);(case hr=>first | (go_simp;done) | (go_simp;rfl));intro ag hg w5 hbox hb;have aa:=Aside0.mk (hbox);have bC:=Aside0.mk ((by rw [hg];exact bz_:w.heap.size≤ag));have bD:=Aside0.mk ((by rw [hg];exact bz_:w.heap.size≤ag));replace HB:=Aside0.mk (bs_ hb);clear hb hbox hg) | ((with_reducible refine gate_dst (N:=4) rfl ?_);refine box_event ?hg (N:=4) ?hd (cs:= #[.int .i64 0, .slice none 0 0]) (t:=64) ?hr ?_;(case hd=>rfl);(case hg=>rfl);(case hr=>first | (go_simp;done) | (go_simp;rfl));intro ai hg w6 hbox hb;have ae:=Aside0.mk (hbox);have bE:=Aside0.mk ((by rw [hg];exact bz_:w.heap.size≤ai));have bF:=Aside0.mk ((by rw [hg];exact bz_:w.heap.size≤ai));have aC:=Aside0.mk ((by rw [hg];exact lt_ aa.out:ag≠ai));have aD:=Aside0.mk ((by rw [hg];exact gt_ aa.out:ai≠ag));replace aa:=Aside0.mk (bb_ aa.out hb);replace HB:=Aside0.mk (bs_ hb);clear hb hbox hg;have dC:=aC.out;have dD:=aD.out;have bG:w6.cell? ⟨ag,0,none⟩=some (.int .i64 a0_0):=(blk_cell aa.out 0).trans rfl;have bH:w6.cell? ⟨ag,1,none⟩=some (.slice aI ah.length aG):=(blk_cell aa.out 1).trans rfl;have bI:=blk_frozen aa.out 0;have bJ:=blk_frozen aa.out 1) | ((with_reducible refine gate_dst (N:=11) rfl ?_);refine Kd.R_lit (Kd.int .i64) _ 2 ?hg (N:=11) ?hd (xs:=([a1]:List Int)) (inner:= [.int .i64 a1]) (ok:=fun _=>True) (okp:=fun _=>True) ?hr ?hp (fun _ hk=>hk) trivial (Below.refl _ _) (Nat.le_refl _) (by simp) ?_;(case hd=>rfl);(case hg=>rfl);(case hr=>first | (go_simp;done) | (go_simp;rfl));(case hp=>exact(Reps.one (show Kd.M (Kd.int .i64) _ _ _ a1 [.int .i64 a1] from rfl) (Reps.none _ _)));intro bT w9 aW hb hg_ hnew_;clear hg_ hnew_;(first | rw [← aM.out] at aW | (simp only [Int.reduceToNat] at aW;rw [← aM.out] at aW));have aq:=Aside0.mk (Kd.R_lower aW bz_);replace aa:=Aside0.mk (bb_ aa.out hb);replace ae:=Aside0.mk (bb_ ae.out hb);replace HB:=Aside0.mk (bs_ hb);clear hb aW;obtain⟨bV,bW,bX⟩:=Kd.R_slice aq.out;subst bX) | ((with_reducible refine gate_callee (f:=138) rfl ?_);refine gL_ 12 Try.func138 #[.agg #[.int .i64 a0_0, .slice aI ah.length aG], .slice bV aK.length bW] ?_;(with_reducible refine(spec_l06Code.calls k a0_0 _ _ ah _ _ aK aw _ ?aY ?aZ ?a9 ?ba A3.out).mono ?_);(case aY=>exact cb_ HR0_1.out HB.out);(case aZ=>exact HC0_1.out);(case a9=>repeat (first | exact(Kd.R_reads' aq.out).2.2 | (with_reducible refine Kd.C_alloc ?_ _) | (with_reducible refine Kd.C_drewN ?_ _) | (with_reducible refine Kd.C_drew ?_)));(case ba=>exact(Kd.R_reads' aq.out).2.1);rintro e w12 ⟨rfl,hb⟩;refine⟨_,rfl,?_⟩;replace aq:=Aside0.mk (rb_ aq.out hb);replace aa:=Aside0.mk (bb_ aa.out hb);replace ae:=Aside0.mk (bb_ ae.out hb);replace HB:=Aside0.mk (bs_ hb);(try clear hb);(try clear hb2);(try clear hk);(try clear hi);have bk:w12.cell? ⟨ag,0,none⟩=some (.int .i64 a0_0):=(blk_cell aa.out 0).trans rfl;have bn:w12.cell? ⟨ag,1,none⟩=some (.slice aI ah.length aG):=(blk_cell aa.out 1).trans rfl;have bq:=blk_frozen aa.out 0;have bu:=blk_frozen aa.out 1) | ((with_reducible refine gate_dst (N:=19) rfl ?_);refine Kd.R_lit (Kd.int .i64) _ 2 ?hg (N:=19) ?hd (xs:=([]:List Int)) (inner:= []) (ok:=fun _=>True) (okp:=fun _=>True) ?hr ?hp (fun _ hk=>hk) trivial (Below.refl _ _) (Nat.le_refl _) (by simp) ?_;(case hd=>rfl);(case hg=>rfl);(case hr=>first | (go_simp;done) | (go_simp;rfl));(case hp=>exact(Reps.none _ _));intro cW w14 aT hb hg_ hnew_;clear hg_ hnew_;(first | rw [← bb.out] at aT | (simp only [Int.reduceToNat] at aT;rw [← bb.out] at aT));have aN:=Aside0.mk (Kd.R_lower (Kd.R_new' aT (Kd.R_lt (ro_ aq.out))) bz_);replace aa:=Aside0.mk (bb_ aa.out hb);replace ae:=Aside0.mk (bb_ ae.out hb);replace aq:=Aside0.mk (Kd.R_elder' (ro_ aq.out) (Kd.R_base aT) hb);replace HB:=Aside0.mk (bs_ hb);clear hb aT;obtain⟨bK,bL,bY⟩:=Kd.R_slice aN.out;subst bY) | ((with_reducible refine gate_dst (N:=7) rfl ?_);refine box_event ?hg (N:=7) ?hd (cs:= #[.int .i64 0, .slice none 0 0]) (t:=64) ?hr ?_;(case hd=>rfl);(case hg=>rfl);(case hr=>first | (go_simp;done) | (go_simp;rfl));intro ak hg w17 hbox hb;replace aq:=Aside0.mk (rb_ aq.out hb);replace aN:=Aside0.mk (rb_ aN.out hb);have af:=Aside0.mk (hbox);have cU:=Aside0.mk ((by rw [hg];exact bz_:w.heap.size≤ak));have cV:=Aside0.mk ((by rw [hg];exact bz_:w.heap.size≤ak));have av:=Aside0.mk ((by rw [hg];exact lt_ aa.out:ag≠ak));have aH:=Aside0.mk ((by rw [hg];exact gt_ aa.out:ak≠ag));have ax:=Aside0.mk ((by rw [hg];exact lt_ ae.out:ai≠ak));have aJ:=Aside0.mk ((by rw [hg];exact gt_ ae.out:ak≠ai));replace aa:=Aside0.mk (bb_ aa.out hb);replace ae:=Aside0.mk (bb_ ae.out hb);replace HB:=Aside0.mk (bs_ hb);clear hb hbox hg;have cZ:=aH.out;have da:=av.out;have db:=aJ.out;have dc:=ax.out;have bv:w17.cell? ⟨ak,0,none⟩=some (.int .i64 0):=(blk_cell af.out 0).trans rfl;have bw:w17.cell? ⟨ak,1,none⟩=some (.slice none 0 0):=(blk_cell af.out 1).trans rfl;have bz:=blk_frozen af.out 0;have bA:=blk_frozen af.out 1))
  go_loopg [8] k (fun kq v8 w'=> ∃(ay:Int) (au:List Int) (az:Value),v8= .int .i64 ay∧Aside0 (spec_MirrorCube.l0 kq a1 ay a0_0 ah a0_0 au=some (r1,r2,r3))∧Aside0 (kq≤k)∧Aside0 (Kd.R (Kd.int .i64) 2 w' w.heap.size (fun _=>True) az au)∧Aside0 (w'.heap[ag]?=some (.cells #[.int .i64 a0_0,(.slice aI ah.length aG)] 64 (0,0)))∧Aside0 (w'.heap[ai]?=some (.cells #[.int .i64 0,(.slice none 0 0)] 64 (0,0)))∧Aside0 (w'.heap[ak]?=some (.cells #[.int .i64 a0_0,az] 64 (0,0)))∧Aside0 (Below w.heap.size w w'))
  case atStart=>exact⟨(0),(aU),(.slice bK aU.length bL),rs_,H',⟨Nat.le_refl _⟩,⟨by(with_reducible repeat (first | apply Kd.R_alloc | apply Kd.R_drewN | apply Kd.R_drew));exact Kd.R_mono (Kd.R_far (p:=⟨ak,1,none⟩) (Kd.R_far (p:=⟨ak,0,none⟩) (Kd.R_types aN.out af.out (by decide)) (fun _ hk=>hk.2) (.int .i64 a0_0)) (fun _ hk=>hk.2) (.slice bK aU.length bL)) (fun _ hk=>trivial)⟩,⟨by(with_reducible repeat (first | refine blk_drewN ?_ _ | refine blk_drew ?_ | refine blk_alloc ?_ _));refine blk_far ?_ av.out _;(with_reducible repeat (first | refine blk_drewN ?_ _ | refine blk_drew ?_ | refine blk_alloc ?_ _));refine blk_far ?_ av.out _;(with_reducible repeat (first | refine blk_drewN ?_ _ | refine blk_drew ?_ | refine blk_alloc ?_ _));exact aa.out⟩,⟨by(with_reducible repeat (first | refine blk_drewN ?_ _ | refine blk_drew ?_ | refine blk_alloc ?_ _));refine blk_far ?_ ax.out _;(with_reducible repeat (first | refine blk_drewN ?_ _ | refine blk_drew ?_ | refine blk_alloc ?_ _));refine blk_far ?_ ax.out _;(with_reducible repeat (first | refine blk_drewN ?_ _ | refine blk_drew ?_ | refine blk_alloc ?_ _));exact ae.out⟩,⟨by(with_reducible repeat (first | refine blk_drewN ?_ _ | refine blk_drew ?_ | refine blk_alloc ?_ _));refine blk_put (cs:= #[.int .i64 a0_0, .slice none 0 0]) ?_ 1 _ rfl;(with_reducible repeat (first | refine blk_drewN ?_ _ | refine blk_drew ?_ | refine blk_alloc ?_ _));refine blk_put (cs:= #[.int .i64 0, .slice none 0 0]) ?_ 0 _ rfl;(with_reducible repeat (first | refine blk_drewN ?_ _ | refine blk_drew ?_ | refine blk_alloc ?_ _));exact af.out⟩,⟨hb_⟩⟩
  case round=>
   clear H'
   try clear c1
   try clear p2
   try clear c4
   try clear c4b0
   try clear c4b1
   try clear c5
   try clear c7
   try clear c13
   try clear c18
   try clear c19
   try clear bk
   try clear bn
   try clear bv
   try clear bw
   try clear bG
   try clear bH
   try clear bq
   try clear bu
   try clear bz
   try clear bA
   try clear bI
   try clear bJ
   obtain⟨ay,au,az,rfl,HA,HK1,aj,aa,ae,af,HB⟩:=hrel
   cases gk with
   | zero=>exact absurd HA.out (by simp [spec_MirrorCube.l0])
   | succ k1=>
    have H:=HA.out
    clear HA
    simp only [spec_MirrorCube.l0] at H
    by_cases c21:ay < (ah.length:Int)
    ·rw [if_pos c21] at H
     have c21b0:decide (ay < (ah.length:Int))=true:=decide_eq_true c21
     clear c21
     by_cases c22:0≤ay
     ·rw [if_pos c22] at H
      have c22b0:decide (0≤ay)=true:=decide_eq_true c22
      clear c22
      by_cases c23:au.length < 17592186044416
      ·rw [if_pos c23] at H
       have bU:=Aside0.mk c23
       clear c23
       obtain⟨aV,hy1106⟩: ∃y_:List Int,y_=(au++ [Go.bits .xor .i64 (rd ah ay) a1]):=⟨_,rfl⟩
       replace H:(spec_MirrorCube.l0 k1 a1 (wrap64 (ay+1)) a0_0 ah a0_0 aV)=some (r1,r2,r3):=by first | (rw [hy1106];with_reducible exact H) | (have H2_:=(Option.bind_some _ _).symm.trans H;rw [hy1106];with_reducible exact H2_) | (have H2_:=(Option.bind_some _ _).symm.trans H;with_reducible exact H2_) | with_reducible exact H | (rw [hy1106];exact H) | exact H
       have bM:=Aside0.mk hy1106
       clear hy1106
       have H':=Aside0.mk H
       clear H
       have df:=aC.out
       have dh:=aD.out
       have di:=av.out
       have dl:=aH.out
       have cm:wr.cell? ⟨ag,0,none⟩=some (.int .i64 a0_0):=(blk_cell aa.out 0).trans rfl
       have cn:wr.cell? ⟨ag,1,none⟩=some (.slice aI ah.length aG):=(blk_cell aa.out 1).trans rfl
       have co:=blk_frozen aa.out 0
       have cq:=blk_frozen aa.out 1
       try go_wp2
       replace aj:=Aside0.mk (Kd.R_drew aj.out)
       replace aa:=Aside0.mk (blk_drew aa.out)
       replace ae:=Aside0.mk (blk_drew ae.out)
       replace af:=Aside0.mk (blk_drew af.out)
       replace HB:=Aside0.mk (below_drew1 HB.out)
       have p1105:0≤(ay:Int):=od_
       have q1105:ay < (ah.length:Int):=od_
       obtain⟨bf,e1105,hx1105_0⟩:=Kd.at_int HR0_1.out ay p1105 q1105
       have aA:=hx1105_0
       cases e1105
       replace hx1105_0:=(HB.out.cell (World.block_lt_of_cell? w _ hx1105_0)).trans hx1105_0
       replace p1105:=eq_true p1105
       replace q1105:=eq_true q1105
       refine st_ (n:=13) (S:=fun w'=>w'.cell? ⟨ak,0,none⟩=some (.int .i64 a0_0)∧w'.cell? ⟨ak,1,none⟩=some (az)∧w'.cell? ⟨ag,0,none⟩=some (.int .i64 a0_0)∧w'.cell? ⟨ag,1,none⟩=some (.slice (some bf) ah.length aG)∧w'.cell? (bf.add (ay).toNat)=some (.int .i64 (rd ah ay))) (ds:= [12]) ⟨(blk_cell af.out 0).trans rfl,(blk_cell af.out 1).trans rfl,(blk_cell aa.out 0).trans rfl,(blk_cell aa.out 1).trans rfl,((HB.out.cell (World.block_lt_of_cell? w _ aA)).trans aA)⟩ (fun hHeld=>?_);refine with_tabW spec_MirrorCube.tab8 spec_MirrorCube.bits8 (fun HT_ HW_=>?_)
       generalize wr.drew=w27 at aj aa ae af HB hx1105_0 hHeld ⊢
       refine pu_ 0 28 ?_;refine pu_ 2 30 ?_;refine pu_ 4 32 ?_;refine pu_ 7 35 ?_;refine tk_ 1 29 ?_;refine tk_ 3 31 ?_;refine pu_ 5 33 ?_;refine tk_ 6 34 ?_;refine pu_ 8 36 ?_
       refine on_ 9 (some 37) (fun K hK=>?_)
       refine value_ (w1:=?_) (v:=?_) (by rfl) rfl ?_ ?_
       rotate_left 2
       ·go_simp
        constructor
        ·rfl
        ·rfl
       refine hK.out _ _ ⟨(blk_cell (blk_alloc af.out _) 0).trans rfl,(blk_cell (blk_alloc af.out _) 1).trans rfl,(blk_cell (blk_alloc aa.out _) 0).trans rfl,(blk_cell (blk_alloc aa.out _) 1).trans rfl,(World.cell?_alloc_lt _ _ _ (World.block_lt_of_cell? _ _ (((HB.out.cell (World.block_lt_of_cell? w _ aA)).trans aA)))).trans (((HB.out.cell (World.block_lt_of_cell? w _ aA)).trans aA))⟩ (fun hHeld=>?_)
       clear hK K
       refine norm_ (a':=?_) ?_ ?_
       rotate_left
       ·show Act.put _ (some 37) _=_
        simp only [Act.put,List.setIfInBounds_toArray,List.set_cons_zero,List.set_cons_succ,i64_w,i32_w]
        rfl
       refine on_ 10 (some 38) (fun K hK=>?_)
       refine Kd.R_append_step (Kd.int .i64) (w0:=w) w.heap.size (by rfl) (.tmp 29) (.tmp 37) 23 2 (.int .i64 0) 8 rfl Try.underlying23 info2 rfl (by decide) (by omega) az au (Go.bits .xor .i64 (rd ah ay) a1) [.int .i64 (Go.bits .xor .i64 (rd ah ay) a1)] (fun _=>True) (fun _=>False) rfl rfl ?aP (fun _ hk=>hk.elim) ?aF ?aO ?aB ?aS ?aL ?_
       (case aP=>exact rfl)
       (case aB=>exact hb_)
       (case aF=>exact(fun _ _=>trivial))
       (case aO=>exact(ro_ aj.out))
       (case aS=>exact bz_)
       (case aL=>have:=bU.out;omega)
       intro dm w28 ho hb hg hat
       rw [← bM.out] at ho
       replace aa:=Aside0.mk (bg_ aa.out hg (Kd.R_ne aj.out aa.out (by decide)))
       replace ae:=Aside0.mk (bg_ ae.out hg (Kd.R_ne aj.out ae.out (by decide)))
       replace af:=Aside0.mk (bg_ af.out hg (Kd.R_ne aj.out af.out (by decide)))
       replace HB:=Aside0.mk (hb)
       have bg:=Aside0.mk (ho)
       clear aj ho hb hg hat
       obtain⟨bN,bO,bP⟩:=Kd.R_slice bg.out
       (first | subst bP | (injection bP with f1_ f2_ f3_;have f4_:=f1_.symm;have f5_:=f3_.symm;clear f1_ f2_ f3_;subst f4_;subst f5_))
       refine hK.out _ _ ⟨(blk_cell af.out 0).trans rfl,(blk_cell af.out 1).trans rfl,(blk_cell aa.out 0).trans rfl,(blk_cell aa.out 1).trans rfl,((HB.out.cell (World.block_lt_of_cell? w _ aA)).trans aA)⟩ (fun hHeld=>?_)
       clear hK K
       refine norm_ (a':=?_) ?_ ?_
       rotate_left
       ·show Act.put _ (some 38) _=_
        simp only [Act.put,List.setIfInBounds_toArray,List.set_cons_zero,List.set_cons_succ,i64_w,i32_w]
        rfl
       refine pu_ 11 39 ?_
       refine la_ 12 none (fun K hK=>?_)
       have hs30:w28.cell? ⟨ak,1,none⟩=some (az):=(blk_cell af.out 1).trans rfl
       have hfs30:=blk_frozen af.out 1
       have hns30_0:=av.out
       have hns30_1:=ax.out
       have hms30_0:=aH.out
       have hms30_1:=aJ.out
       refine skip_ (w1:=?_) (by rfl) rfl ?_ ?_
       rotate_left
       ·go_simp
        rfl
       refine hK.out _ _ ?_
       clear hK K
       refine done_ (done_of HT_.out (by kernel_rfl)) ?_
       try go_wp2
       go_roundg k1
       case measure=>have:=HK1.out;omega
       case rel=>exact⟨(wrap64 (ay+1)),(aV),(.slice bN aV.length bO),rs_,H',⟨by have:=HK1.out;omega⟩,⟨by(with_reducible repeat (first | apply Kd.R_alloc | apply Kd.R_drewN | apply Kd.R_drew));exact Kd.R_mono (Kd.R_far (p:=⟨ak,1,none⟩) (Kd.R_types bg.out af.out (by decide)) (fun _ hk=>hk.2) (.slice bN aV.length bO)) (fun _ hk=>trivial)⟩,⟨by(with_reducible repeat (first | refine blk_drewN ?_ _ | refine blk_drew ?_ | refine blk_alloc ?_ _));refine blk_far ?_ av.out _;(with_reducible repeat (first | refine blk_drewN ?_ _ | refine blk_drew ?_ | refine blk_alloc ?_ _));exact aa.out⟩,⟨by(with_reducible repeat (first | refine blk_drewN ?_ _ | refine blk_drew ?_ | refine blk_alloc ?_ _));refine blk_far ?_ ax.out _;(with_reducible repeat (first | refine blk_drewN ?_ _ | refine blk_drew ?_ | refine blk_alloc ?_ _));exact ae.out⟩,⟨by(with_reducible repeat (first | refine blk_drewN ?_ _ | refine blk_drew ?_ | refine blk_alloc ?_ _));refine blk_put (cs:= #[.int .i64 a0_0,az]) ?_ 1 _ rfl;(with_reducible repeat (first | refine blk_drewN ?_ _ | refine blk_drew ?_ | refine blk_alloc ?_ _));exact af.out⟩,⟨hb_⟩⟩
      ·rw [if_neg c23] at H
       exact absurd H (by simp)
     ·rw [if_neg c22] at H
      exact absurd H (by simp)
    ·rw [if_neg c21] at H
     have c21b0:decide (ay < (ah.length:Int))=false:=decide_eq_false c21
     clear c21
     simp only [Option.some.injEq,Prod.mk.injEq] at H
     obtain⟨rfl,rfl,rfl⟩:=H
     have dq:=aC.out
     have dr:=aD.out
     have du:=av.out
     have dw:=aH.out
     have ct:wr.cell? ⟨ag,0,none⟩=some (.int .i64 a0_0):=(blk_cell aa.out 0).trans rfl
     have cA:wr.cell? ⟨ag,1,none⟩=some (.slice aI ah.length aG):=(blk_cell aa.out 1).trans rfl
     have cB:=blk_frozen aa.out 0
     have cC:=blk_frozen aa.out 1
     have dx:=aJ.out
     have dz:=ax.out
     have cD:wr.cell? ⟨ak,0,none⟩=some (.int .i64 a0_0):=(blk_cell af.out 0).trans rfl
     have cE:wr.cell? ⟨ak,1,none⟩=some (az):=(blk_cell af.out 1).trans rfl
     have cF:=blk_frozen af.out 0
     have cG:=blk_frozen af.out 1
     have cH:wr.cell? ⟨ai,0,none⟩=some (.int .i64 0):=(blk_cell ae.out 0).trans rfl
     have cI:wr.cell? ⟨ai,1,none⟩=some (.slice none 0 0):=(blk_cell ae.out 1).trans rfl
     have cJ:=blk_frozen ae.out 0
     have cK:=blk_frozen ae.out 1
     obtain⟨bQ,bS,bZ⟩:=Kd.R_slice aj.out
     subst bZ
     go_wp2
     refine bodyPost_ret (results_ct rfl _ _ ai 64 #[.int .i64 a0_0, .slice bQ au.length bS] (0,0) _ rfl (by(with_reducible repeat (first | refine blk_drewN ?_ _ | refine blk_drew ?_ | refine blk_alloc ?_ _));refine blk_put (cs:= #[.int .i64 a0_0, .slice none 0 0]) ?_ 1 _ rfl;(with_reducible repeat (first | refine blk_drewN ?_ _ | refine blk_drew ?_ | refine blk_alloc ?_ _));refine blk_put (cs:= #[.int .i64 0, .slice none 0 0]) ?_ 0 _ rfl;(with_reducible repeat (first | refine blk_drewN ?_ _ | refine blk_drew ?_ | refine blk_alloc ?_ _));exact ae.out) Try.underlying64 rfl (by kernel_rfl)) rfl ?_
     exact⟨_,by first | rfl | (simp [errW_none,errW_some] <;> rfl) | (simp [*,errW_none,errW_some] <;> rfl),by(with_reducible repeat (first | apply Kd.R_alloc | apply Kd.R_drewN | apply Kd.R_drew));exact Kd.R_mono (Kd.R_far (p:=⟨ai,1,none⟩) (Kd.R_far (p:=⟨ai,0,none⟩) (Kd.R_types aj.out ae.out (by decide)) (fun _ hk=>hk.2) (.int .i64 a0_0)) (fun _ hk=>hk.2) (.slice bQ au.length bS)) (fun _ hk=>trivial),hb_⟩
 ·rw [if_neg c4] at H
  have c4b0:(aw==0)=false:=beq_eq_false_iff_ne.mpr c4
  have c4b1:(aw !=0)=true:=bne_iff_ne.mpr c4
  simp only [Option.some.injEq,Prod.mk.injEq] at H
  obtain⟨rfl,rfl,rfl⟩:=H
  go_enter Try.func56,Try.ntmps56
  go_wp2_with (first | ((with_reducible refine gate_dst (N:=2) rfl ?_);refine box_event ?hg (N:=2) ?hd (cs:= #[.int .i64 a0_0, .slice aI ah.length aG]) (t:=64) ?hr ?_;(case hd=>rfl);(case hg=>rfl);(case hr=>first | (go_simp;done) | (go_simp;rfl));intro ag hg w38 hbox hb;have aa:=Aside0.mk (hbox);have bC:=Aside0.mk ((by rw [hg];exact bz_:w.heap.size≤ag));have bD:=Aside0.mk ((by rw [hg];exact bz_:w.heap.size≤ag));replace HB:=Aside0.mk (bs_ hb);clear hb hbox hg) | ((with_reducible refine gate_dst (N:=4) rfl ?_);refine box_event ?hg (N:=4) ?hd (cs:= #[.int .i64 0, .slice none 0 0]) (t:=64) ?hr ?_;(case hd=>rfl);(case hg=>rfl);(case hr=>first | (go_simp;done) | (go_simp;rfl));intro ai hg w39 hbox hb;have ae:=Aside0.mk (hbox);have bE:=Aside0.mk ((by rw [hg];exact bz_:w.heap.size≤ai));have bF:=Aside0.mk ((by rw [hg];exact bz_:w.heap.size≤ai));have aC:=Aside0.mk ((by rw [hg];exact lt_ aa.out:ag≠ai));have aD:=Aside0.mk ((by rw [hg];exact gt_ aa.out:ai≠ag));replace aa:=Aside0.mk (bb_ aa.out hb);replace HB:=Aside0.mk (bs_ hb);clear hb hbox hg;have dA:=aC.out;have dB:=aD.out;have cL:w39.cell? ⟨ag,0,none⟩=some (.int .i64 a0_0):=(blk_cell aa.out 0).trans rfl;have cN:w39.cell? ⟨ag,1,none⟩=some (.slice aI ah.length aG):=(blk_cell aa.out 1).trans rfl;have cO:=blk_frozen aa.out 0;have cP:=blk_frozen aa.out 1) | ((with_reducible refine gate_dst (N:=11) rfl ?_);refine Kd.R_lit (Kd.int .i64) _ 2 ?hg (N:=11) ?hd (xs:=([a1]:List Int)) (inner:= [.int .i64 a1]) (ok:=fun _=>True) (okp:=fun _=>True) ?hr ?hp (fun _ hk=>hk) trivial (Below.refl _ _) (Nat.le_refl _) (by simp) ?_;(case hd=>rfl);(case hg=>rfl);(case hr=>first | (go_simp;done) | (go_simp;rfl));(case hp=>exact(Reps.one (show Kd.M (Kd.int .i64) _ _ _ a1 [.int .i64 a1] from rfl) (Reps.none _ _)));intro bT w42 aX hb hg_ hnew_;clear hg_ hnew_;(first | rw [← aM.out] at aX | (simp only [Int.reduceToNat] at aX;rw [← aM.out] at aX));have aq:=Aside0.mk (Kd.R_lower aX bz_);replace aa:=Aside0.mk (bb_ aa.out hb);replace ae:=Aside0.mk (bb_ ae.out hb);replace HB:=Aside0.mk (bs_ hb);clear hb aX;obtain⟨cf,ck,cl⟩:=Kd.R_slice aq.out;subst cl) | ((with_reducible refine gate_callee (f:=138) rfl ?_);refine gL_ 12 Try.func138 #[.agg #[.int .i64 a0_0, .slice aI ah.length aG], .slice cf aK.length ck] ?_;(with_reducible refine(spec_l06Code.calls k a0_0 _ _ ah _ _ aK aw _ ?aY ?aZ ?a9 ?ba A3.out).mono ?_);(case aY=>exact cb_ HR0_1.out HB.out);(case aZ=>exact HC0_1.out);(case a9=>repeat (first | exact(Kd.R_reads' aq.out).2.2 | (with_reducible refine Kd.C_alloc ?_ _) | (with_reducible refine Kd.C_drewN ?_ _) | (with_reducible refine Kd.C_drew ?_)));(case ba=>exact(Kd.R_reads' aq.out).2.1);rintro e w45 ⟨rfl,hb⟩;refine⟨_,rfl,?_⟩;replace aq:=Aside0.mk (rb_ aq.out hb);replace aa:=Aside0.mk (bb_ aa.out hb);replace ae:=Aside0.mk (bb_ ae.out hb);replace HB:=Aside0.mk (bs_ hb);(try clear hb);(try clear hb2);(try clear hk);(try clear hi);have cQ:w45.cell? ⟨ai,0,none⟩=some (.int .i64 0):=(blk_cell ae.out 0).trans rfl;have cR:w45.cell? ⟨ai,1,none⟩=some (.slice none 0 0):=(blk_cell ae.out 1).trans rfl;have cS:=blk_frozen ae.out 0;have cT:=blk_frozen ae.out 1))
  refine bodyPost_ret (results_ct rfl _ _ ai 64 #[.int .i64 0, .slice none 0 0] (0,0) _ rfl (by(with_reducible repeat (first | refine blk_drewN ?_ _ | refine blk_drew ?_ | refine blk_alloc ?_ _));refine blk_put (cs:= #[.int .i64 0, .slice none 0 0]) ?_ 1 _ rfl;(with_reducible repeat (first | refine blk_drewN ?_ _ | refine blk_drew ?_ | refine blk_alloc ?_ _));refine blk_put (cs:= #[.int .i64 0, .slice none 0 0]) ?_ 0 _ rfl;(with_reducible repeat (first | refine blk_drewN ?_ _ | refine blk_drew ?_ | refine blk_alloc ?_ _));exact ae.out) Try.underlying64 rfl (by kernel_rfl)) rfl ?_
  exact⟨_,by first | rfl | (simp [errW_none,errW_some] <;> rfl) | (simp [*,errW_none,errW_some] <;> rfl),by first | exact Kd.R_nil _ _ _ _ _ | exact Kd.N_nil _ _ _ _ _ | exact Kd.V_nil _ _ _ _ _ | exact Kd.Q_nil _ _ _ _ _ | exact Kd.S_nil _ _ _ _ _,hb_⟩
def impl_TurnCube.l0:Nat→Int→Int→Int→Int→List Int→Int→List Int→Option (Int × List Int × Int)
 | 0,_,_,_,_,_,_,_=>none
 | k+1,x1,x22,x23,ag,aa,af,ae=>if x23 < x22 then(if 0≤(Go.bits .xor .i64 x23 x1) then(if(Go.bits .xor .i64 x23 x1) < (aa.length:Int) then(if ae.length < 17592186044416 then(impl_TurnCube.l0 k x1 x22 (wrap64 (x23+1)) ag aa af (ae++ [rd aa (Go.bits .xor .i64 x23 x1)])) else(none)) else(none)) else(none)) else(some (af,ae,0))
def impl_TurnCube.f (k:Nat) (a0_0:Int) (aa:List Int) (a1:Int):Option (Int × List Int × Int):=(impl_IsCube.f k a0_0 aa).bind fun ae=>(if ae=true then((impl_Cube_isVertex.f a0_0 aa a1).bind fun af=>(if af=true then(impl_TurnCube.l0 k a1 (aa.length:Int) 0 a0_0 aa a0_0 ([]:List Int)) else(some (0,([]:List Int),2)))) else(some (0,([]:List Int),1)))
theorem impl_TurnCube.mono_l: ∀k,(∀y0 y1 y2 y3 y4 y5 y6,LeO (impl_TurnCube.l0 k y0 y1 y2 y3 y4 y5 y6) (impl_TurnCube.l0 (k+1) y0 y1 y2 y3 y4 y5 y6))
 | 0=>fun _ _ _ _ _ _ _ r h=>by simp [impl_TurnCube.l0] at h
 | k+1=>by
  have ih0:=impl_TurnCube.mono_l k
  ·intro y0 y1 y2 y3 y4 y5 y6
   unfold impl_TurnCube.l0
   repeat' first
   | (with_reducible exact ih0 _ _ _ _ _ _ _)
   | (with_reducible exact impl_IsCube.mono _ _ _)
   | (with_reducible exact LeO.refl _)
   | (with_reducible exact LeO.none _)
   | (with_reducible refine LeO.ite ?_ ?_)
   | (with_reducible refine LeO.bind ?_ (fun _=>?_))
   | exact ih0 _ _ _ _ _ _ _
   | exact impl_IsCube.mono _ _ _
   | exact LeO.none _
   | refine LeO.ite ?_ ?_
   | refine LeO.bind ?_ (fun _=>?_)
theorem impl_TurnCube.mono: ∀a0 a1 a2 k,LeO (impl_TurnCube.f k a0 a1 a2) (impl_TurnCube.f (k+1) a0 a1 a2):=by
 intro a0 a1 a2 k
 have ih0:=impl_TurnCube.mono_l k
 unfold impl_TurnCube.f
 repeat' first
   | (with_reducible exact ih0 _ _ _ _ _ _ _)
   | (with_reducible exact impl_IsCube.mono _ _ _)
   | (with_reducible exact LeO.refl _)
   | (with_reducible exact LeO.none _)
   | (with_reducible refine LeO.ite ?_ ?_)
   | (with_reducible refine LeO.bind ?_ (fun _=>?_))
   | exact ih0 _ _ _ _ _ _ _
   | exact impl_IsCube.mono _ _ _
   | exact LeO.none _
   | refine LeO.ite ?_ ?_
   | refine LeO.bind ?_ (fun _=>?_)
def impl_TurnCube.T9:Bool × List (List Nat × List Nat):=(true, [([], []),([0], [0]),([], []),([2], [2]),([], []),([], []),([4,5], [4,5]),([3,6], [3,6]),([7], [7]),([8], [8]),([1,9], [1,9]),([0,1,2,3,4,5,6,7,8,9,10], []),([11,10,10,0,1,2,3,4,5,6,7,8,9,10], [10,11])])
def impl_TurnCube.B9:List Nat:= [0,1,0,4,0,0,48,124,252,508,1023,2047,4095]
theorem impl_TurnCube.tab9:rtab .any (opsOf Try.f57 9)=impl_TurnCube.T9:=by kernel_rfl
theorem impl_TurnCube.bits9:waitsOk impl_TurnCube.T9.2 impl_TurnCube.B9=true:=by kernel_rfl
theorem impl_TurnCube.calls (k:Nat) (a0_0:Int) (aA:Option Addr) (av:Nat) (af:List Int) (a1:Int) (r1:Int) (r2:List Int) (r3:Int) (w:World) (aZ:Kd.C (Kd.int .i64) w aA af.length af) (a9:af.length≤av) (h:impl_TurnCube.f k a0_0 af a1=some (r1,r2,r3)):
  Calls Try.prog 57 #[.agg #[.int .i64 a0_0, .slice aA af.length av], .int .i64 a1] w fun e w'=> ∃v1_:Value,e= .returned (.tuple #[.agg #[.int .i64 r1,v1_], .int .i64 r3])∧Kd.R (Kd.int .i64) 2 w' w.heap.size (fun _=>True) v1_ r2∧Below w.heap.size w w':=by
 have hu64:=Try.underlying64
 have HR0_1:=Aside0.mk aZ
 have HC0_1:=Aside0.mk a9
 clear aZ a9
 have HB:=Aside0.mk (Below.refl w.heap.size w)
 have H:((impl_IsCube.f k a0_0 af).bind fun aM=>(if aM=true then((impl_Cube_isVertex.f a0_0 af a1).bind fun aI=>(if aI=true then(impl_TurnCube.l0 k a1 (af.length:Int) 0 a0_0 af a0_0 ([]:List Int)) else(some (0,([]:List Int),2)))) else(some (0,([]:List Int),1))))=some (r1,r2,r3):=h
 clear h
 replace H:=Option.bind_eq_some_iff.mp H
 obtain⟨aM,A30,H⟩:=H
 replace H:(if aM=true then((impl_Cube_isVertex.f a0_0 af a1).bind fun aI=>(if aI=true then(impl_TurnCube.l0 k a1 (af.length:Int) 0 a0_0 af a0_0 ([]:List Int)) else(some (0,([]:List Int),2)))) else(some (0,([]:List Int),1)))=some (r1,r2,r3):=H
 have A3:=Aside0.mk A30
 clear A30
 by_cases c4:aM=true
 ·subst c4
  have H1:((impl_Cube_isVertex.f a0_0 af a1).bind fun aI=>(if aI=true then(impl_TurnCube.l0 k a1 (af.length:Int) 0 a0_0 af a0_0 ([]:List Int)) else(some (0,([]:List Int),2))))=some (r1,r2,r3):=by rw [if_pos rfl] at H;exact H
  clear H
  have H:=H1
  clear H1
  replace H:=Option.bind_eq_some_iff.mp H
  obtain⟨aI,A50,H⟩:=H
  replace H:(if aI=true then(impl_TurnCube.l0 k a1 (af.length:Int) 0 a0_0 af a0_0 ([]:List Int)) else(some (0,([]:List Int),2)))=some (r1,r2,r3):=H
  have A5:=Aside0.mk A50
  clear A50
  by_cases c6:aI=true
  ·subst c6
   have H1:(impl_TurnCube.l0 k a1 (af.length:Int) 0 a0_0 af a0_0 ([]:List Int))=some (r1,r2,r3):=by rw [if_pos rfl] at H;exact H
   clear H
   have H:=H1
   clear H1
   have H':=Aside0.mk H
   clear H
   go_enter Try.func57,Try.ntmps57
   go_wp2_with (first | ((with_reducible refine gate_dst (N:=2) rfl ?_);refine box_event ?hg (N:=2) ?hd (cs:= #[.int .i64 a0_0, .slice aA af.length av]) (t:=64) ?hr ?_;(case hd=>rfl);(case hg=>rfl);(case hr=>first | (go_simp;done) | (go_simp;rfl));intro ag hg w7 hbox hb;have aa:=Aside0.mk (hbox);have aT:=Aside0.mk ((by rw [hg];exact bz_:w.heap.size≤ag));have aU:=Aside0.mk ((by rw [hg];exact bz_:w.heap.size≤ag));replace HB:=Aside0.mk (bs_ hb);clear hb hbox hg) | ((with_reducible refine gate_dst (N:=4) rfl ?_);refine box_event ?hg (N:=4) ?hd (cs:= #[.int .i64 0, .slice none 0 0]) (t:=64) ?hr ?_;(case hd=>rfl);(case hg=>rfl);(case hr=>first | (go_simp;done) | (go_simp;rfl));intro ah hg w8 hbox hb;have ae:=Aside0.mk (hbox);have aV:=Aside0.mk ((by rw [hg];exact bz_:w.heap.size≤ah));have aW:=Aside0.mk ((by rw [hg];exact bz_:w.heap.size≤ah));have aw:=Aside0.mk ((by rw [hg];exact lt_ aa.out:ag≠ah));have ax:=Aside0.mk ((by rw [hg];exact gt_ aa.out:ah≠ag));replace aa:=Aside0.mk (bb_ aa.out hb);replace HB:=Aside0.mk (bs_ hb);clear hb hbox hg;have di:=aw.out;have dl:=ax.out;have ba:w8.cell? ⟨ag,0,none⟩=some (.int .i64 a0_0):=(blk_cell aa.out 0).trans rfl;have bb:w8.cell? ⟨ag,1,none⟩=some (.slice aA af.length av):=(blk_cell aa.out 1).trans rfl;have bf:=blk_frozen aa.out 0;have bg:=blk_frozen aa.out 1) | ((with_reducible refine gate_callee (f:=42) rfl ?_);refine gL_ 9 Try.func42 #[.agg #[.int .i64 a0_0, .slice aA af.length av]] ?_;(with_reducible refine(impl_IsCube.calls k a0_0 _ _ af true _ ?aG ?aH A3.out).mono ?_);(case aG=>exact cb_ HR0_1.out HB.out);(case aH=>exact HC0_1.out);rintro e w11 ⟨rfl,hb⟩;refine⟨_,rfl,?_⟩;replace aa:=Aside0.mk (bb_ aa.out hb);replace ae:=Aside0.mk (bb_ ae.out hb);replace HB:=Aside0.mk (bs_ hb);(try clear hb);(try clear hb2);(try clear hk);(try clear hi);have bh:w11.cell? ⟨ag,0,none⟩=some (.int .i64 a0_0):=(blk_cell aa.out 0).trans rfl;have bi:w11.cell? ⟨ag,1,none⟩=some (.slice aA af.length av):=(blk_cell aa.out 1).trans rfl;have bk:=blk_frozen aa.out 0;have bn:=blk_frozen aa.out 1) | ((with_reducible refine gate_callee (f:=134) rfl ?_);refine gL_ 14 Try.func134 #[.agg #[.int .i64 a0_0, .slice aA af.length av], .int .i64 a1] ?_;(with_reducible refine(impl_Cube_isVertex.calls a0_0 _ _ af a1 true _ ?aG ?aH A5.out).mono ?_);(case aG=>exact cb_ HR0_1.out HB.out);(case aH=>exact HC0_1.out);rintro e w13 ⟨rfl,hb⟩;refine⟨_,rfl,?_⟩;replace aa:=Aside0.mk (bb_ aa.out hb);replace ae:=Aside0.mk (bb_ ae.out hb);replace HB:=Aside0.mk (bs_ hb);(try clear hb);(try clear hb2);(try clear hk);(try clear hi);have bq:w13.cell? ⟨ag,0,none⟩=some (.int .i64 a0_0):=(blk_cell aa.out 0).trans rfl;have bu:w13.cell? ⟨ag,1,none⟩=some (.slice aA af.length av):=(blk_cell aa.out 1).trans rfl;have bv:=blk_frozen aa.out 0;have bw:=blk_frozen aa.out 1) | ((with_reducible refine gate_dst (N:=6) rfl ?_);refine box_event ?hg (N:=6) ?hd (cs:= #[.int .i64 0, .slice none 0 0]) (t:=64) ?hr ?_;(case hd=>rfl);(case hg=>rfl);(case hr=>first | (go_simp;done) | (go_simp;rfl));intro aq hg w15 hbox hb;have ai:=Aside0.mk (hbox);have cL:=Aside0.mk ((by rw [hg];exact bz_:w.heap.size≤aq));have cN:=Aside0.mk ((by rw [hg];exact bz_:w.heap.size≤aq));have ay:=Aside0.mk ((by rw [hg];exact lt_ aa.out:ag≠aq));have aJ:=Aside0.mk ((by rw [hg];exact gt_ aa.out:aq≠ag));have az:=Aside0.mk ((by rw [hg];exact lt_ ae.out:ah≠aq));have aK:=Aside0.mk ((by rw [hg];exact gt_ ae.out:aq≠ah));replace aa:=Aside0.mk (bb_ aa.out hb);replace ae:=Aside0.mk (bb_ ae.out hb);replace HB:=Aside0.mk (bs_ hb);clear hb hbox hg;have cO:=aJ.out;have cP:=ay.out;have cQ:=aK.out;have cR:=az.out;have bz:w15.cell? ⟨aq,0,none⟩=some (.int .i64 0):=(blk_cell ai.out 0).trans rfl;have bA:w15.cell? ⟨aq,1,none⟩=some (.slice none 0 0):=(blk_cell ai.out 1).trans rfl;have bC:=blk_frozen ai.out 0;have bD:=blk_frozen ai.out 1;have bE:w15.cell? ⟨ag,0,none⟩=some (.int .i64 a0_0):=(blk_cell aa.out 0).trans rfl;have bF:w15.cell? ⟨ag,1,none⟩=some (.slice aA af.length av):=(blk_cell aa.out 1).trans rfl;have bG:=blk_frozen aa.out 0;have bH:=blk_frozen aa.out 1))
   go_loopg [23] k (fun kq v23 w'=> ∃(ak:Int) (au:List Int) (aC:Value),v23= .int .i64 ak∧Aside0 (impl_TurnCube.l0 kq a1 (af.length:Int) ak a0_0 af a0_0 au=some (r1,r2,r3))∧Aside0 (kq≤k)∧Aside0 (Kd.R (Kd.int .i64) 2 w' w.heap.size (fun _=>True) aC au)∧Aside0 (w'.heap[ag]?=some (.cells #[.int .i64 a0_0,(.slice aA af.length av)] 64 (0,0)))∧Aside0 (w'.heap[ah]?=some (.cells #[.int .i64 0,(.slice none 0 0)] 64 (0,0)))∧Aside0 (w'.heap[aq]?=some (.cells #[.int .i64 a0_0,aC] 64 (0,0)))∧Aside0 (Below w.heap.size w w'))
   case atStart=>exact⟨(0),(([]:List Int)),(.slice none 0 0),rs_,H',⟨Nat.le_refl _⟩,⟨by first | exact Kd.R_nil _ _ _ _ _ | exact Kd.N_nil _ _ _ _ _ | exact Kd.V_nil _ _ _ _ _ | exact Kd.Q_nil _ _ _ _ _ | exact Kd.S_nil _ _ _ _ _⟩,⟨by(with_reducible repeat (first | refine blk_drewN ?_ _ | refine blk_drew ?_ | refine blk_alloc ?_ _));refine blk_far ?_ ay.out _;(with_reducible repeat (first | refine blk_drewN ?_ _ | refine blk_drew ?_ | refine blk_alloc ?_ _));refine blk_far ?_ ay.out _;(with_reducible repeat (first | refine blk_drewN ?_ _ | refine blk_drew ?_ | refine blk_alloc ?_ _));exact aa.out⟩,⟨by(with_reducible repeat (first | refine blk_drewN ?_ _ | refine blk_drew ?_ | refine blk_alloc ?_ _));refine blk_far ?_ az.out _;(with_reducible repeat (first | refine blk_drewN ?_ _ | refine blk_drew ?_ | refine blk_alloc ?_ _));refine blk_far ?_ az.out _;(with_reducible repeat (first | refine blk_drewN ?_ _ | refine blk_drew ?_ | refine blk_alloc ?_ _));exact ae.out⟩,⟨by(with_reducible repeat (first | refine blk_drewN ?_ _ | refine blk_drew ?_ | refine blk_alloc ?_ _));refine blk_put (cs:= #[.int .i64 a0_0, .slice none 0 0]) ?_ 1 _ rfl;(with_reducible repeat (first | refine blk_drewN ?_ _ | refine blk_drew ?_ | refine blk_alloc ?_ _));refine blk_put (cs:= #[.int .i64 0, .slice none 0 0]) ?_ 0 _ rfl;(with_reducible repeat (first | refine blk_drewN ?_ _ | refine blk_drew ?_ | refine blk_alloc ?_ _));exact ai.out⟩,⟨hb_⟩⟩
   case round=>
    clear H'
    try clear c1
    try clear p2
    try clear c4
    try clear c5
    try clear c6
    try clear c9
    try clear c13
    try clear c16
    try clear c17
    try clear ba
    try clear bb
    try clear bh
    try clear bi
    try clear bq
    try clear bu
    try clear bz
    try clear bA
    try clear bE
    try clear bF
    try clear bf
    try clear bg
    try clear bk
    try clear bn
    try clear bv
    try clear bw
    try clear bC
    try clear bD
    try clear bG
    try clear bH
    obtain⟨ak,au,aC,rfl,HA,HK1,aj,aa,ae,ai,HB⟩:=hrel
    cases gk with
    | zero=>exact absurd HA.out (by simp [impl_TurnCube.l0])
    | succ k1=>
     have H:=HA.out
     clear HA
     simp only [impl_TurnCube.l0] at H
     by_cases c20:ak < (af.length:Int)
     ·rw [if_pos c20] at H
      have c20b0:decide (ak < (af.length:Int))=true:=decide_eq_true c20
      clear c20
      by_cases c21:0≤(Go.bits .xor .i64 ak a1)
      ·rw [if_pos c21] at H
       have c21b0:decide (0≤(Go.bits .xor .i64 ak a1))=true:=decide_eq_true c21
       clear c21
       by_cases c22:(Go.bits .xor .i64 ak a1) < (af.length:Int)
       ·rw [if_pos c22] at H
        have c22b0:decide ((Go.bits .xor .i64 ak a1) < (af.length:Int))=true:=decide_eq_true c22
        clear c22
        by_cases c23:au.length < 17592186044416
        ·rw [if_pos c23] at H
         have bO:=Aside0.mk c23
         clear c23
         obtain⟨aN,hy1115⟩: ∃y_:List Int,y_=(au++ [rd af (Go.bits .xor .i64 ak a1)]):=⟨_,rfl⟩
         replace H:(impl_TurnCube.l0 k1 a1 (af.length:Int) (wrap64 (ak+1)) a0_0 af a0_0 aN)=some (r1,r2,r3):=by first | (rw [hy1115];with_reducible exact H) | (have H2_:=(Option.bind_some _ _).symm.trans H;rw [hy1115];with_reducible exact H2_) | (have H2_:=(Option.bind_some _ _).symm.trans H;with_reducible exact H2_) | with_reducible exact H | (rw [hy1115];exact H) | exact H
         have bI:=Aside0.mk hy1115
         clear hy1115
         have H':=Aside0.mk H
         clear H
         try go_wp2
         replace aj:=Aside0.mk (Kd.R_drew aj.out)
         replace aa:=Aside0.mk (blk_drew aa.out)
         replace ae:=Aside0.mk (blk_drew ae.out)
         replace ai:=Aside0.mk (blk_drew ai.out)
         replace HB:=Aside0.mk (below_drew1 HB.out)
         have p1114:0≤((Go.bits .xor .i64 ak a1):Int):=od_
         have q1114:(Go.bits .xor .i64 ak a1) < (af.length:Int):=od_
         obtain⟨aX,e1114,hx1114_0⟩:=Kd.at_int HR0_1.out (Go.bits .xor .i64 ak a1) p1114 q1114
         have aD:=hx1114_0
         cases e1114
         replace hx1114_0:=(HB.out.cell (World.block_lt_of_cell? w _ hx1114_0)).trans hx1114_0
         replace p1114:=eq_true p1114
         replace q1114:=eq_true q1114
         refine st_ (n:=13) (S:=fun w'=>w'.cell? ⟨aq,0,none⟩=some (.int .i64 a0_0)∧w'.cell? ⟨aq,1,none⟩=some (aC)∧w'.cell? ⟨ag,0,none⟩=some (.int .i64 a0_0)∧w'.cell? ⟨ag,1,none⟩=some (.slice (some aX) af.length av)∧w'.cell? (aX.add ((Go.bits .xor .i64 ak a1)).toNat)=some (.int .i64 (rd af (Go.bits .xor .i64 ak a1)))) (ds:= [12]) ⟨(blk_cell ai.out 0).trans rfl,(blk_cell ai.out 1).trans rfl,(blk_cell aa.out 0).trans rfl,(blk_cell aa.out 1).trans rfl,((HB.out.cell (World.block_lt_of_cell? w _ aD)).trans aD)⟩ (fun hHeld=>?_);refine with_tabW impl_TurnCube.tab9 impl_TurnCube.bits9 (fun HT_ HW_=>?_)
         generalize wr.drew=w24 at aj aa ae ai HB hx1114_0 hHeld ⊢
         refine pu_ 0 26 ?_;refine pu_ 2 28 ?_;refine pu_ 4 30 ?_;refine pu_ 5 31 ?_;refine pu_ 6 32 ?_;refine tk_ 1 27 ?_;refine tk_ 3 29 ?_;refine pu_ 7 33 ?_;refine tk_ 8 34 ?_
         refine on_ 9 (some 35) (fun K hK=>?_)
         refine value_ (w1:=?_) (v:=?_) (by rfl) rfl ?_ ?_
         rotate_left 2
         ·go_simp
          constructor
          ·rfl
          ·rfl
         refine hK.out _ _ ⟨(blk_cell (blk_alloc ai.out _) 0).trans rfl,(blk_cell (blk_alloc ai.out _) 1).trans rfl,(blk_cell (blk_alloc aa.out _) 0).trans rfl,(blk_cell (blk_alloc aa.out _) 1).trans rfl,(World.cell?_alloc_lt _ _ _ (World.block_lt_of_cell? _ _ (((HB.out.cell (World.block_lt_of_cell? w _ aD)).trans aD)))).trans (((HB.out.cell (World.block_lt_of_cell? w _ aD)).trans aD))⟩ (fun hHeld=>?_)
         clear hK K
         refine norm_ (a':=?_) ?_ ?_
         rotate_left
         ·show Act.put _ (some 35) _=_
          simp only [Act.put,List.setIfInBounds_toArray,List.set_cons_zero,List.set_cons_succ,i64_w,i32_w]
          rfl
         refine on_ 10 (some 36) (fun K hK=>?_)
         refine Kd.R_append_step (Kd.int .i64) (w0:=w) w.heap.size (by rfl) (.tmp 27) (.tmp 35) 23 2 (.int .i64 0) 8 rfl Try.underlying23 info2 rfl (by decide) (by omega) aC au (rd af (Go.bits .xor .i64 ak a1)) [.int .i64 (rd af (Go.bits .xor .i64 ak a1))] (fun _=>True) (fun _=>False) rfl rfl ?aP (fun _ hk=>hk.elim) ?aF ?aO ?aB ?aS ?aL ?_
         (case aP=>exact rfl)
         (case aB=>exact hb_)
         (case aF=>exact(fun _ _=>trivial))
         (case aO=>exact(ro_ aj.out))
         (case aS=>exact bz_)
         (case aL=>have:=bO.out;omega)
         intro cS w25 ho hb hg hat
         rw [← bI.out] at ho
         replace aa:=Aside0.mk (bg_ aa.out hg (Kd.R_ne aj.out aa.out (by decide)))
         replace ae:=Aside0.mk (bg_ ae.out hg (Kd.R_ne aj.out ae.out (by decide)))
         replace ai:=Aside0.mk (bg_ ai.out hg (Kd.R_ne aj.out ai.out (by decide)))
         replace HB:=Aside0.mk (hb)
         have aY:=Aside0.mk (ho)
         clear aj ho hb hg hat
         obtain⟨bJ,bK,bL⟩:=Kd.R_slice aY.out
         (first | subst bL | (injection bL with f1_ f2_ f3_;have f4_:=f1_.symm;have f5_:=f3_.symm;clear f1_ f2_ f3_;subst f4_;subst f5_))
         refine hK.out _ _ ⟨(blk_cell ai.out 0).trans rfl,(blk_cell ai.out 1).trans rfl,(blk_cell aa.out 0).trans rfl,(blk_cell aa.out 1).trans rfl,((HB.out.cell (World.block_lt_of_cell? w _ aD)).trans aD)⟩ (fun hHeld=>?_)
         clear hK K
         refine norm_ (a':=?_) ?_ ?_
         rotate_left
         ·show Act.put _ (some 36) _=_
          simp only [Act.put,List.setIfInBounds_toArray,List.set_cons_zero,List.set_cons_succ,i64_w,i32_w]
          rfl
         refine pu_ 11 37 ?_
         refine la_ 12 none (fun K hK=>?_)
         have hs27:w25.cell? ⟨aq,1,none⟩=some (aC):=(blk_cell ai.out 1).trans rfl
         have hfs27:=blk_frozen ai.out 1
         have hns27_0:=ay.out
         have hns27_1:=az.out
         have hms27_0:=aJ.out
         have hms27_1:=aK.out
         refine skip_ (w1:=?_) (by rfl) rfl ?_ ?_
         rotate_left
         ·go_simp
          rfl
         refine hK.out _ _ ?_
         clear hK K
         refine done_ (done_of HT_.out (by kernel_rfl)) ?_
         try go_wp2
         go_roundg k1
         case measure=>have:=HK1.out;omega
         case rel=>exact⟨(wrap64 (ak+1)),(aN),(.slice bJ aN.length bK),rs_,H',⟨by have:=HK1.out;omega⟩,⟨by(with_reducible repeat (first | apply Kd.R_alloc | apply Kd.R_drewN | apply Kd.R_drew));exact Kd.R_mono (Kd.R_far (p:=⟨aq,1,none⟩) (Kd.R_types aY.out ai.out (by decide)) (fun _ hk=>hk.2) (.slice bJ aN.length bK)) (fun _ hk=>trivial)⟩,⟨by(with_reducible repeat (first | refine blk_drewN ?_ _ | refine blk_drew ?_ | refine blk_alloc ?_ _));refine blk_far ?_ ay.out _;(with_reducible repeat (first | refine blk_drewN ?_ _ | refine blk_drew ?_ | refine blk_alloc ?_ _));exact aa.out⟩,⟨by(with_reducible repeat (first | refine blk_drewN ?_ _ | refine blk_drew ?_ | refine blk_alloc ?_ _));refine blk_far ?_ az.out _;(with_reducible repeat (first | refine blk_drewN ?_ _ | refine blk_drew ?_ | refine blk_alloc ?_ _));exact ae.out⟩,⟨by(with_reducible repeat (first | refine blk_drewN ?_ _ | refine blk_drew ?_ | refine blk_alloc ?_ _));refine blk_put (cs:= #[.int .i64 a0_0,aC]) ?_ 1 _ rfl;(with_reducible repeat (first | refine blk_drewN ?_ _ | refine blk_drew ?_ | refine blk_alloc ?_ _));exact ai.out⟩,⟨hb_⟩⟩
        ·rw [if_neg c23] at H
         exact absurd H (by simp)
       ·rw [if_neg c22] at H
        exact absurd H (by simp)
      ·rw [if_neg c21] at H
       exact absurd H (by simp)
     ·rw [if_neg c20] at H
      have c20b0:decide (ak < (af.length:Int))=false:=decide_eq_false c20
      clear c20
      simp only [Option.some.injEq,Prod.mk.injEq] at H
      obtain⟨rfl,rfl,rfl⟩:=H
      have cT:=aJ.out
      have cU:=ay.out
      have cV:=aK.out
      have cW:=az.out
      have bQ:wr.cell? ⟨aq,0,none⟩=some (.int .i64 a0_0):=(blk_cell ai.out 0).trans rfl
      have bS:wr.cell? ⟨aq,1,none⟩=some (aC):=(blk_cell ai.out 1).trans rfl
      have bT:=blk_frozen ai.out 0
      have bU:=blk_frozen ai.out 1
      have cZ:=ax.out
      have da:=aw.out
      have bV:wr.cell? ⟨ah,0,none⟩=some (.int .i64 0):=(blk_cell ae.out 0).trans rfl
      have bW:wr.cell? ⟨ah,1,none⟩=some (.slice none 0 0):=(blk_cell ae.out 1).trans rfl
      have bX:=blk_frozen ae.out 0
      have bY:=blk_frozen ae.out 1
      obtain⟨bM,bN,bP⟩:=Kd.R_slice aj.out
      subst bP
      go_wp2
      refine bodyPost_ret (results_ct rfl _ _ ah 64 #[.int .i64 a0_0, .slice bM au.length bN] (0,0) _ rfl (by(with_reducible repeat (first | refine blk_drewN ?_ _ | refine blk_drew ?_ | refine blk_alloc ?_ _));refine blk_put (cs:= #[.int .i64 a0_0, .slice none 0 0]) ?_ 1 _ rfl;(with_reducible repeat (first | refine blk_drewN ?_ _ | refine blk_drew ?_ | refine blk_alloc ?_ _));refine blk_put (cs:= #[.int .i64 0, .slice none 0 0]) ?_ 0 _ rfl;(with_reducible repeat (first | refine blk_drewN ?_ _ | refine blk_drew ?_ | refine blk_alloc ?_ _));exact ae.out) Try.underlying64 rfl (by kernel_rfl)) rfl ?_
      exact⟨_,by first | rfl | (simp [errW_none,errW_some] <;> rfl) | (simp [*,errW_none,errW_some] <;> rfl),by(with_reducible repeat (first | apply Kd.R_alloc | apply Kd.R_drewN | apply Kd.R_drew));exact Kd.R_mono (Kd.R_far (p:=⟨ah,1,none⟩) (Kd.R_far (p:=⟨ah,0,none⟩) (Kd.R_types aj.out ae.out (by decide)) (fun _ hk=>hk.2) (.int .i64 a0_0)) (fun _ hk=>hk.2) (.slice bM au.length bN)) (fun _ hk=>trivial),hb_⟩
  ·replace c6:=Bool.eq_false_iff.mpr c6
   subst c6
   have H1:(some (0,([]:List Int),2))=some (r1,r2,r3):=by rw [if_neg (show ¬ (false=true) by decide)] at H;exact H
   clear H
   have H:=H1
   clear H1
   simp only [Option.some.injEq,Prod.mk.injEq] at H
   obtain⟨rfl,rfl,rfl⟩:=H
   go_enter Try.func57,Try.ntmps57
   go_wp2_with (first | ((with_reducible refine gate_dst (N:=2) rfl ?_);refine box_event ?hg (N:=2) ?hd (cs:= #[.int .i64 a0_0, .slice aA af.length av]) (t:=64) ?hr ?_;(case hd=>rfl);(case hg=>rfl);(case hr=>first | (go_simp;done) | (go_simp;rfl));intro ag hg w34 hbox hb;have aa:=Aside0.mk (hbox);have aT:=Aside0.mk ((by rw [hg];exact bz_:w.heap.size≤ag));have aU:=Aside0.mk ((by rw [hg];exact bz_:w.heap.size≤ag));replace HB:=Aside0.mk (bs_ hb);clear hb hbox hg) | ((with_reducible refine gate_dst (N:=4) rfl ?_);refine box_event ?hg (N:=4) ?hd (cs:= #[.int .i64 0, .slice none 0 0]) (t:=64) ?hr ?_;(case hd=>rfl);(case hg=>rfl);(case hr=>first | (go_simp;done) | (go_simp;rfl));intro ah hg w35 hbox hb;have ae:=Aside0.mk (hbox);have aV:=Aside0.mk ((by rw [hg];exact bz_:w.heap.size≤ah));have aW:=Aside0.mk ((by rw [hg];exact bz_:w.heap.size≤ah));have aw:=Aside0.mk ((by rw [hg];exact lt_ aa.out:ag≠ah));have ax:=Aside0.mk ((by rw [hg];exact gt_ aa.out:ah≠ag));replace aa:=Aside0.mk (bb_ aa.out hb);replace HB:=Aside0.mk (bs_ hb);clear hb hbox hg;have db:=aw.out;have dc:=ax.out;have bZ:w35.cell? ⟨ag,0,none⟩=some (.int .i64 a0_0):=(blk_cell aa.out 0).trans rfl;have cf:w35.cell? ⟨ag,1,none⟩=some (.slice aA af.length av):=(blk_cell aa.out 1).trans rfl;have ck:=blk_frozen aa.out 0;have cl:=blk_frozen aa.out 1) | ((with_reducible refine gate_callee (f:=42) rfl ?_);refine gL_ 9 Try.func42 #[.agg #[.int .i64 a0_0, .slice aA af.length av]] ?_;(with_reducible refine(impl_IsCube.calls k a0_0 _ _ af true _ ?aG ?aH A3.out).mono ?_);(case aG=>exact cb_ HR0_1.out HB.out);(case aH=>exact HC0_1.out);rintro e w38 ⟨rfl,hb⟩;refine⟨_,rfl,?_⟩;replace aa:=Aside0.mk (bb_ aa.out hb);replace ae:=Aside0.mk (bb_ ae.out hb);replace HB:=Aside0.mk (bs_ hb);(try clear hb);(try clear hb2);(try clear hk);(try clear hi);have cm:w38.cell? ⟨ag,0,none⟩=some (.int .i64 a0_0):=(blk_cell aa.out 0).trans rfl;have cn:w38.cell? ⟨ag,1,none⟩=some (.slice aA af.length av):=(blk_cell aa.out 1).trans rfl;have co:=blk_frozen aa.out 0;have cq:=blk_frozen aa.out 1) | ((with_reducible refine gate_callee (f:=134) rfl ?_);refine gL_ 14 Try.func134 #[.agg #[.int .i64 a0_0, .slice aA af.length av], .int .i64 a1] ?_;(with_reducible refine(impl_Cube_isVertex.calls a0_0 _ _ af a1 false _ ?aG ?aH A5.out).mono ?_);(case aG=>exact cb_ HR0_1.out HB.out);(case aH=>exact HC0_1.out);rintro e w40 ⟨rfl,hb⟩;refine⟨_,rfl,?_⟩;replace aa:=Aside0.mk (bb_ aa.out hb);replace ae:=Aside0.mk (bb_ ae.out hb);replace HB:=Aside0.mk (bs_ hb);(try clear hb);(try clear hb2);(try clear hk);(try clear hi);have ct:w40.cell? ⟨ah,0,none⟩=some (.int .i64 0):=(blk_cell ae.out 0).trans rfl;have cA:w40.cell? ⟨ah,1,none⟩=some (.slice none 0 0):=(blk_cell ae.out 1).trans rfl;have cB:=blk_frozen ae.out 0;have cC:=blk_frozen ae.out 1))
   refine bodyPost_ret (results_ct rfl _ _ ah 64 #[.int .i64 0, .slice none 0 0] (0,0) _ rfl (by(with_reducible repeat (first | refine blk_drewN ?_ _ | refine blk_drew ?_ | refine blk_alloc ?_ _));refine blk_put (cs:= #[.int .i64 0, .slice none 0 0]) ?_ 1 _ rfl;(with_reducible repeat (first | refine blk_drewN ?_ _ | refine blk_drew ?_ | refine blk_alloc ?_ _));refine blk_put (cs:= #[.int .i64 0, .slice none 0 0]) ?_ 0 _ rfl;(with_reducible repeat (first | refine blk_drewN ?_ _ | refine blk_drew ?_ | refine blk_alloc ?_ _));exact ae.out) Try.underlying64 rfl (by kernel_rfl)) rfl ?_
   exact⟨_,by first | rfl | (simp [errW_none,errW_some] <;> rfl) | (simp [*,errW_none,errW_some] <;> rfl),by first | exact Kd.R_nil _ _ _ _ _ | exact Kd.N_nil _ _ _ _ _ | exact Kd.V_nil _ _ _ _ _ | exact Kd.Q_nil _ _ _ _ _ | exact Kd.S_nil _ _ _ _ _,hb_⟩
 ·replace c4:=Bool.eq_false_iff.mpr c4
  subst c4
  have H1:(some (0,([]:List Int),1))=some (r1,r2,r3):=by rw [if_neg (show ¬ (false=true) by decide)] at H;exact H
  clear H
  have H:=H1
  clear H1
  simp only [Option.some.injEq,Prod.mk.injEq] at H
  obtain⟨rfl,rfl,rfl⟩:=H
  go_enter Try.func57,Try.ntmps57
  go_wp2_with (first | ((with_reducible refine gate_dst (N:=2) rfl ?_);refine box_event ?hg (N:=2) ?hd (cs:= #[.int .i64 a0_0, .slice aA af.length av]) (t:=64) ?hr ?_;(case hd=>rfl);(case hg=>rfl);(case hr=>first | (go_simp;done) | (go_simp;rfl));intro ag hg w42 hbox hb;have aa:=Aside0.mk (hbox);have aT:=Aside0.mk ((by rw [hg];exact bz_:w.heap.size≤ag));have aU:=Aside0.mk ((by rw [hg];exact bz_:w.heap.size≤ag));replace HB:=Aside0.mk (bs_ hb);clear hb hbox hg) | ((with_reducible refine gate_dst (N:=4) rfl ?_);refine box_event ?hg (N:=4) ?hd (cs:= #[.int .i64 0, .slice none 0 0]) (t:=64) ?hr ?_;(case hd=>rfl);(case hg=>rfl);(case hr=>first | (go_simp;done) | (go_simp;rfl));intro ah hg w43 hbox hb;have ae:=Aside0.mk (hbox);have aV:=Aside0.mk ((by rw [hg];exact bz_:w.heap.size≤ah));have aW:=Aside0.mk ((by rw [hg];exact bz_:w.heap.size≤ah));have aw:=Aside0.mk ((by rw [hg];exact lt_ aa.out:ag≠ah));have ax:=Aside0.mk ((by rw [hg];exact gt_ aa.out:ah≠ag));replace aa:=Aside0.mk (bb_ aa.out hb);replace HB:=Aside0.mk (bs_ hb);clear hb hbox hg;have df:=aw.out;have dh:=ax.out;have cD:w43.cell? ⟨ag,0,none⟩=some (.int .i64 a0_0):=(blk_cell aa.out 0).trans rfl;have cE:w43.cell? ⟨ag,1,none⟩=some (.slice aA af.length av):=(blk_cell aa.out 1).trans rfl;have cF:=blk_frozen aa.out 0;have cG:=blk_frozen aa.out 1) | ((with_reducible refine gate_callee (f:=42) rfl ?_);refine gL_ 9 Try.func42 #[.agg #[.int .i64 a0_0, .slice aA af.length av]] ?_;(with_reducible refine(impl_IsCube.calls k a0_0 _ _ af false _ ?aG ?aH A3.out).mono ?_);(case aG=>exact cb_ HR0_1.out HB.out);(case aH=>exact HC0_1.out);rintro e w46 ⟨rfl,hb⟩;refine⟨_,rfl,?_⟩;replace aa:=Aside0.mk (bb_ aa.out hb);replace ae:=Aside0.mk (bb_ ae.out hb);replace HB:=Aside0.mk (bs_ hb);(try clear hb);(try clear hb2);(try clear hk);(try clear hi);have cH:w46.cell? ⟨ah,0,none⟩=some (.int .i64 0):=(blk_cell ae.out 0).trans rfl;have cI:w46.cell? ⟨ah,1,none⟩=some (.slice none 0 0):=(blk_cell ae.out 1).trans rfl;have cJ:=blk_frozen ae.out 0;have cK:=blk_frozen ae.out 1))
  refine bodyPost_ret (results_ct rfl _ _ ah 64 #[.int .i64 0, .slice none 0 0] (0,0) _ rfl (by(with_reducible repeat (first | refine blk_drewN ?_ _ | refine blk_drew ?_ | refine blk_alloc ?_ _));refine blk_put (cs:= #[.int .i64 0, .slice none 0 0]) ?_ 1 _ rfl;(with_reducible repeat (first | refine blk_drewN ?_ _ | refine blk_drew ?_ | refine blk_alloc ?_ _));refine blk_put (cs:= #[.int .i64 0, .slice none 0 0]) ?_ 0 _ rfl;(with_reducible repeat (first | refine blk_drewN ?_ _ | refine blk_drew ?_ | refine blk_alloc ?_ _));exact ae.out) Try.underlying64 rfl (by kernel_rfl)) rfl ?_
  exact⟨_,by first | rfl | (simp [errW_none,errW_some] <;> rfl) | (simp [*,errW_none,errW_some] <;> rfl),by first | exact Kd.R_nil _ _ _ _ _ | exact Kd.N_nil _ _ _ _ _ | exact Kd.V_nil _ _ _ _ _ | exact Kd.Q_nil _ _ _ _ _ | exact Kd.S_nil _ _ _ _ _,hb_⟩
def spec_TurnCube.l0:Nat→Int→Int→Int→List Int→Int→List Int→Option (Int × List Int × Int)
 | 0,_,_,_,_,_,_=>none
 | k+1,x1,x8,ag,aa,af,ae=>if x8 < (aa.length:Int) then(if 0≤(Go.bits .xor .i64 x8 x1) then(if(Go.bits .xor .i64 x8 x1) < (aa.length:Int) then(if ae.length < 17592186044416 then(spec_TurnCube.l0 k x1 (wrap64 (x8+1)) ag aa af (ae++ [rd aa (Go.bits .xor .i64 x8 x1)])) else(none)) else(none)) else(none)) else(some (af,ae,0))
def spec_TurnCube.f (k:Nat) (a0_0:Int) (ae:List Int) (a1:Int):Option (Int × List Int × Int):=(spec_l06Code.f k a0_0 ae (([a1]:List Int))).bind fun aa=>(if aa=0 then(spec_TurnCube.l0 k a1 0 a0_0 ae a0_0 (([]:List Int))) else(some (0,([]:List Int),aa)))
theorem spec_TurnCube.mono_l: ∀k,(∀y0 y1 y2 y3 y4 y5,LeO (spec_TurnCube.l0 k y0 y1 y2 y3 y4 y5) (spec_TurnCube.l0 (k+1) y0 y1 y2 y3 y4 y5))
 | 0=>fun _ _ _ _ _ _ r h=>by simp [spec_TurnCube.l0] at h
 | k+1=>by
  have ih0:=spec_TurnCube.mono_l k
  ·intro y0 y1 y2 y3 y4 y5
   unfold spec_TurnCube.l0
   repeat' first
   | (with_reducible exact ih0 _ _ _ _ _ _)
   | (with_reducible exact spec_l06Code.mono _ _ _ _)
   | (with_reducible exact LeO.refl _)
   | (with_reducible exact LeO.none _)
   | (with_reducible refine LeO.ite ?_ ?_)
   | (with_reducible refine LeO.bind ?_ (fun _=>?_))
   | exact ih0 _ _ _ _ _ _
   | exact spec_l06Code.mono _ _ _ _
   | exact LeO.none _
   | refine LeO.ite ?_ ?_
   | refine LeO.bind ?_ (fun _=>?_)
theorem spec_TurnCube.mono: ∀a0 a1 a2 k,LeO (spec_TurnCube.f k a0 a1 a2) (spec_TurnCube.f (k+1) a0 a1 a2):=by
 intro a0 a1 a2 k
 have ih0:=spec_TurnCube.mono_l k
 unfold spec_TurnCube.f
 repeat' first
   | (with_reducible exact ih0 _ _ _ _ _ _)
   | (with_reducible exact spec_l06Code.mono _ _ _ _)
   | (with_reducible exact LeO.refl _)
   | (with_reducible exact LeO.none _)
   | (with_reducible refine LeO.ite ?_ ?_)
   | (with_reducible refine LeO.bind ?_ (fun _=>?_))
   | exact ih0 _ _ _ _ _ _
   | exact spec_l06Code.mono _ _ _ _
   | exact LeO.none _
   | refine LeO.ite ?_ ?_
   | refine LeO.bind ?_ (fun _=>?_)
def spec_TurnCube.T8:Bool × List (List Nat × List Nat):=(true, [([], []),([0], [0]),([], []),([2], [2]),([], []),([], []),([4,5], [4,5]),([3,6], [3,6]),([7], [7]),([8], [8]),([1,9], [1,9]),([0,1,2,3,4,5,6,7,8,9,10], []),([11,10,10,0,1,2,3,4,5,6,7,8,9,10], [10,11])])
def spec_TurnCube.B8:List Nat:= [0,1,0,4,0,0,48,124,252,508,1023,2047,4095]
theorem spec_TurnCube.tab8:rtab .any (opsOf Try.f58 8)=spec_TurnCube.T8:=by kernel_rfl
theorem spec_TurnCube.bits8:waitsOk spec_TurnCube.T8.2 spec_TurnCube.B8=true:=by kernel_rfl
theorem spec_TurnCube.calls (k:Nat) (a0_0:Int) (aI:Option Addr) (aG:Nat) (ah:List Int) (a1:Int) (r1:Int) (r2:List Int) (r3:Int) (w:World) (bh:Kd.C (Kd.int .i64) w aI ah.length ah) (bi:ah.length≤aG) (h:spec_TurnCube.f k a0_0 ah a1=some (r1,r2,r3)):
  Calls Try.prog 58 #[.agg #[.int .i64 a0_0, .slice aI ah.length aG], .int .i64 a1] w fun e w'=> ∃v1_:Value,e= .returned (.tuple #[.agg #[.int .i64 r1,v1_], .int .i64 r3])∧Kd.R (Kd.int .i64) 2 w' w.heap.size (fun _=>True) v1_ r2∧Below w.heap.size w w':=by
 have hu64:=Try.underlying64
 have HR0_1:=Aside0.mk bh
 have HC0_1:=Aside0.mk bi
 clear bh bi
 have HB:=Aside0.mk (Below.refl w.heap.size w)
 have H:((spec_l06Code.f k a0_0 ah (([a1]:List Int))).bind fun ax=>(if ax=0 then(spec_TurnCube.l0 k a1 0 a0_0 ah a0_0 (([]:List Int))) else(some (0,([]:List Int),ax))))=some (r1,r2,r3):=h
 clear h
 obtain⟨aK,hy1120⟩: ∃y_:List Int,y_=(([a1]:List Int)):=⟨_,rfl⟩
 replace H:((spec_l06Code.f k a0_0 ah aK).bind fun ax=>(if ax=0 then(spec_TurnCube.l0 k a1 0 a0_0 ah a0_0 (([]:List Int))) else(some (0,([]:List Int),ax))))=some (r1,r2,r3):=by first | (rw [hy1120];with_reducible exact H) | (have H2_:=(Option.bind_some _ _).symm.trans H;rw [hy1120];with_reducible exact H2_) | (have H2_:=(Option.bind_some _ _).symm.trans H;with_reducible exact H2_) | with_reducible exact H | (rw [hy1120];exact H) | exact H
 have aM:=Aside0.mk hy1120
 clear hy1120
 replace H:=Option.bind_eq_some_iff.mp H
 obtain⟨ax,A30,H⟩:=H
 replace H:(if ax=0 then(spec_TurnCube.l0 k a1 0 a0_0 ah a0_0 (([]:List Int))) else(some (0,([]:List Int),ax)))=some (r1,r2,r3):=H
 have A3:=Aside0.mk A30
 clear A30
 by_cases c4:ax=0
 ·rw [if_pos c4] at H
  have c4b0:(ax==0)=true:=beq_iff_eq.mpr c4
  have c4b1:(ax !=0)=false:=bne_eq_false_iff_eq.mpr c4
  clear c4
  obtain⟨aU,hy1124⟩: ∃y_:List Int,y_=(([]:List Int)):=⟨_,rfl⟩
  replace H:(spec_TurnCube.l0 k a1 0 a0_0 ah a0_0 aU)=some (r1,r2,r3):=by first | (rw [hy1124];with_reducible exact H) | (have H2_:=(Option.bind_some _ _).symm.trans H;rw [hy1124];with_reducible exact H2_) | (have H2_:=(Option.bind_some _ _).symm.trans H;with_reducible exact H2_) | with_reducible exact H | (rw [hy1124];exact H) | exact H
  have bb:=Aside0.mk hy1124
  clear hy1124
  have H':=Aside0.mk H
  clear H
  go_enter Try.func58,Try.ntmps58
  go_wp2_with (first | ((with_reducible refine gate_dst (N:=2) rfl ?_);refine box_event ?hg (N:=2) ?hd (cs:= #[.int .i64 a0_0, .slice aI ah.length aG]) (t:=64) ?hr ?_;(case hd=>rfl);(case hg=>rfl);(case hr=>first | (go_simp;done) | (go_simp;rfl));intro ag hg w5 hbox hb;have aa:=Aside0.mk (hbox);have bC:=Aside0.mk ((by rw [hg];exact bz_:w.heap.size≤ag));have bD:=Aside0.mk ((by rw [hg];exact bz_:w.heap.size≤ag));replace HB:=Aside0.mk (bs_ hb);clear hb hbox hg) | ((with_reducible refine gate_dst (N:=4) rfl ?_);refine box_event ?hg (N:=4) ?hd (cs:= #[.int .i64 0, .slice none 0 0]) (t:=64) ?hr ?_;(case hd=>rfl);(case hg=>rfl);(case hr=>first | (go_simp;done) | (go_simp;rfl));intro ai hg w6 hbox hb;have ae:=Aside0.mk (hbox);have bE:=Aside0.mk ((by rw [hg];exact bz_:w.heap.size≤ai));have bF:=Aside0.mk ((by rw [hg];exact bz_:w.heap.size≤ai));have aC:=Aside0.mk ((by rw [hg];exact lt_ aa.out:ag≠ai));have aD:=Aside0.mk ((by rw [hg];exact gt_ aa.out:ai≠ag));replace aa:=Aside0.mk (bb_ aa.out hb);replace HB:=Aside0.mk (bs_ hb);clear hb hbox hg;have dC:=aC.out;have dD:=aD.out;have bG:w6.cell? ⟨ag,0,none⟩=some (.int .i64 a0_0):=(blk_cell aa.out 0).trans rfl;have bH:w6.cell? ⟨ag,1,none⟩=some (.slice aI ah.length aG):=(blk_cell aa.out 1).trans rfl;have bI:=blk_frozen aa.out 0;have bJ:=blk_frozen aa.out 1) | ((with_reducible refine gate_dst (N:=11) rfl ?_);refine Kd.R_lit (Kd.int .i64) _ 2 ?hg (N:=11) ?hd (xs:=([a1]:List Int)) (inner:= [.int .i64 a1]) (ok:=fun _=>True) (okp:=fun _=>True) ?hr ?hp (fun _ hk=>hk) trivial (Below.refl _ _) (Nat.le_refl _) (by simp) ?_;(case hd=>rfl);(case hg=>rfl);(case hr=>first | (go_simp;done) | (go_simp;rfl));(case hp=>exact(Reps.one (show Kd.M (Kd.int .i64) _ _ _ a1 [.int .i64 a1] from rfl) (Reps.none _ _)));intro bT w9 aW hb hg_ hnew_;clear hg_ hnew_;(first | rw [← aM.out] at aW | (simp only [Int.reduceToNat] at aW;rw [← aM.out] at aW));have aq:=Aside0.mk (Kd.R_lower aW bz_);replace aa:=Aside0.mk (bb_ aa.out hb);replace ae:=Aside0.mk (bb_ ae.out hb);replace HB:=Aside0.mk (bs_ hb);clear hb aW;obtain⟨bV,bW,bX⟩:=Kd.R_slice aq.out;subst bX) | ((with_reducible refine gate_callee (f:=138) rfl ?_);refine gL_ 12 Try.func138 #[.agg #[.int .i64 a0_0, .slice aI ah.length aG], .slice bV aK.length bW] ?_;(with_reducible refine(spec_l06Code.calls k a0_0 _ _ ah _ _ aK ax _ ?aY ?aZ ?a9 ?ba A3.out).mono ?_);(case aY=>exact cb_ HR0_1.out HB.out);(case aZ=>exact HC0_1.out);(case a9=>repeat (first | exact(Kd.R_reads' aq.out).2.2 | (with_reducible refine Kd.C_alloc ?_ _) | (with_reducible refine Kd.C_drewN ?_ _) | (with_reducible refine Kd.C_drew ?_)));(case ba=>exact(Kd.R_reads' aq.out).2.1);rintro e w12 ⟨rfl,hb⟩;refine⟨_,rfl,?_⟩;replace aq:=Aside0.mk (rb_ aq.out hb);replace aa:=Aside0.mk (bb_ aa.out hb);replace ae:=Aside0.mk (bb_ ae.out hb);replace HB:=Aside0.mk (bs_ hb);(try clear hb);(try clear hb2);(try clear hk);(try clear hi);have bk:w12.cell? ⟨ag,0,none⟩=some (.int .i64 a0_0):=(blk_cell aa.out 0).trans rfl;have bn:w12.cell? ⟨ag,1,none⟩=some (.slice aI ah.length aG):=(blk_cell aa.out 1).trans rfl;have bq:=blk_frozen aa.out 0;have bu:=blk_frozen aa.out 1) | ((with_reducible refine gate_dst (N:=19) rfl ?_);refine Kd.R_lit (Kd.int .i64) _ 2 ?hg (N:=19) ?hd (xs:=([]:List Int)) (inner:= []) (ok:=fun _=>True) (okp:=fun _=>True) ?hr ?hp (fun _ hk=>hk) trivial (Below.refl _ _) (Nat.le_refl _) (by simp) ?_;(case hd=>rfl);(case hg=>rfl);(case hr=>first | (go_simp;done) | (go_simp;rfl));(case hp=>exact(Reps.none _ _));intro cW w14 aT hb hg_ hnew_;clear hg_ hnew_;(first | rw [← bb.out] at aT | (simp only [Int.reduceToNat] at aT;rw [← bb.out] at aT));have aN:=Aside0.mk (Kd.R_lower (Kd.R_new' aT (Kd.R_lt (ro_ aq.out))) bz_);replace aa:=Aside0.mk (bb_ aa.out hb);replace ae:=Aside0.mk (bb_ ae.out hb);replace aq:=Aside0.mk (Kd.R_elder' (ro_ aq.out) (Kd.R_base aT) hb);replace HB:=Aside0.mk (bs_ hb);clear hb aT;obtain⟨bK,bL,bY⟩:=Kd.R_slice aN.out;subst bY) | ((with_reducible refine gate_dst (N:=7) rfl ?_);refine box_event ?hg (N:=7) ?hd (cs:= #[.int .i64 0, .slice none 0 0]) (t:=64) ?hr ?_;(case hd=>rfl);(case hg=>rfl);(case hr=>first | (go_simp;done) | (go_simp;rfl));intro ak hg w17 hbox hb;replace aq:=Aside0.mk (rb_ aq.out hb);replace aN:=Aside0.mk (rb_ aN.out hb);have af:=Aside0.mk (hbox);have cU:=Aside0.mk ((by rw [hg];exact bz_:w.heap.size≤ak));have cV:=Aside0.mk ((by rw [hg];exact bz_:w.heap.size≤ak));have av:=Aside0.mk ((by rw [hg];exact lt_ aa.out:ag≠ak));have aH:=Aside0.mk ((by rw [hg];exact gt_ aa.out:ak≠ag));have ay:=Aside0.mk ((by rw [hg];exact lt_ ae.out:ai≠ak));have aJ:=Aside0.mk ((by rw [hg];exact gt_ ae.out:ak≠ai));replace aa:=Aside0.mk (bb_ aa.out hb);replace ae:=Aside0.mk (bb_ ae.out hb);replace HB:=Aside0.mk (bs_ hb);clear hb hbox hg;have cZ:=aH.out;have da:=av.out;have db:=aJ.out;have dc:=ay.out;have bv:w17.cell? ⟨ak,0,none⟩=some (.int .i64 0):=(blk_cell af.out 0).trans rfl;have bw:w17.cell? ⟨ak,1,none⟩=some (.slice none 0 0):=(blk_cell af.out 1).trans rfl;have bz:=blk_frozen af.out 0;have bA:=blk_frozen af.out 1))
  go_loopg [8] k (fun kq v8 w'=> ∃(aw:Int) (au:List Int) (az:Value),v8= .int .i64 aw∧Aside0 (spec_TurnCube.l0 kq a1 aw a0_0 ah a0_0 au=some (r1,r2,r3))∧Aside0 (kq≤k)∧Aside0 (Kd.R (Kd.int .i64) 2 w' w.heap.size (fun _=>True) az au)∧Aside0 (w'.heap[ag]?=some (.cells #[.int .i64 a0_0,(.slice aI ah.length aG)] 64 (0,0)))∧Aside0 (w'.heap[ai]?=some (.cells #[.int .i64 0,(.slice none 0 0)] 64 (0,0)))∧Aside0 (w'.heap[ak]?=some (.cells #[.int .i64 a0_0,az] 64 (0,0)))∧Aside0 (Below w.heap.size w w'))
  case atStart=>exact⟨(0),(aU),(.slice bK aU.length bL),rs_,H',⟨Nat.le_refl _⟩,⟨by(with_reducible repeat (first | apply Kd.R_alloc | apply Kd.R_drewN | apply Kd.R_drew));exact Kd.R_mono (Kd.R_far (p:=⟨ak,1,none⟩) (Kd.R_far (p:=⟨ak,0,none⟩) (Kd.R_types aN.out af.out (by decide)) (fun _ hk=>hk.2) (.int .i64 a0_0)) (fun _ hk=>hk.2) (.slice bK aU.length bL)) (fun _ hk=>trivial)⟩,⟨by(with_reducible repeat (first | refine blk_drewN ?_ _ | refine blk_drew ?_ | refine blk_alloc ?_ _));refine blk_far ?_ av.out _;(with_reducible repeat (first | refine blk_drewN ?_ _ | refine blk_drew ?_ | refine blk_alloc ?_ _));refine blk_far ?_ av.out _;(with_reducible repeat (first | refine blk_drewN ?_ _ | refine blk_drew ?_ | refine blk_alloc ?_ _));exact aa.out⟩,⟨by(with_reducible repeat (first | refine blk_drewN ?_ _ | refine blk_drew ?_ | refine blk_alloc ?_ _));refine blk_far ?_ ay.out _;(with_reducible repeat (first | refine blk_drewN ?_ _ | refine blk_drew ?_ | refine blk_alloc ?_ _));refine blk_far ?_ ay.out _;(with_reducible repeat (first | refine blk_drewN ?_ _ | refine blk_drew ?_ | refine blk_alloc ?_ _));exact ae.out⟩,⟨by(with_reducible repeat (first | refine blk_drewN ?_ _ | refine blk_drew ?_ | refine blk_alloc ?_ _));refine blk_put (cs:= #[.int .i64 a0_0, .slice none 0 0]) ?_ 1 _ rfl;(with_reducible repeat (first | refine blk_drewN ?_ _ | refine blk_drew ?_ | refine blk_alloc ?_ _));refine blk_put (cs:= #[.int .i64 0, .slice none 0 0]) ?_ 0 _ rfl;(with_reducible repeat (first | refine blk_drewN ?_ _ | refine blk_drew ?_ | refine blk_alloc ?_ _));exact af.out⟩,⟨hb_⟩⟩
  case round=>
   clear H'
   try clear c1
   try clear p2
   try clear c4
   try clear c4b0
   try clear c4b1
   try clear c5
   try clear c7
   try clear c13
   try clear c18
   try clear c19
   try clear bk
   try clear bn
   try clear bv
   try clear bw
   try clear bG
   try clear bH
   try clear bq
   try clear bu
   try clear bz
   try clear bA
   try clear bI
   try clear bJ
   obtain⟨aw,au,az,rfl,HA,HK1,aj,aa,ae,af,HB⟩:=hrel
   cases gk with
   | zero=>exact absurd HA.out (by simp [spec_TurnCube.l0])
   | succ k1=>
    have H:=HA.out
    clear HA
    simp only [spec_TurnCube.l0] at H
    by_cases c21:aw < (ah.length:Int)
    ·rw [if_pos c21] at H
     have c21b0:decide (aw < (ah.length:Int))=true:=decide_eq_true c21
     clear c21
     by_cases c22:0≤(Go.bits .xor .i64 aw a1)
     ·rw [if_pos c22] at H
      have c22b0:decide (0≤(Go.bits .xor .i64 aw a1))=true:=decide_eq_true c22
      clear c22
      by_cases c23:(Go.bits .xor .i64 aw a1) < (ah.length:Int)
      ·rw [if_pos c23] at H
       have c23b0:decide ((Go.bits .xor .i64 aw a1) < (ah.length:Int))=true:=decide_eq_true c23
       clear c23
       by_cases c24:au.length < 17592186044416
       ·rw [if_pos c24] at H
        have bU:=Aside0.mk c24
        clear c24
        obtain⟨aV,hy1129⟩: ∃y_:List Int,y_=(au++ [rd ah (Go.bits .xor .i64 aw a1)]):=⟨_,rfl⟩
        replace H:(spec_TurnCube.l0 k1 a1 (wrap64 (aw+1)) a0_0 ah a0_0 aV)=some (r1,r2,r3):=by first | (rw [hy1129];with_reducible exact H) | (have H2_:=(Option.bind_some _ _).symm.trans H;rw [hy1129];with_reducible exact H2_) | (have H2_:=(Option.bind_some _ _).symm.trans H;with_reducible exact H2_) | with_reducible exact H | (rw [hy1129];exact H) | exact H
        have bM:=Aside0.mk hy1129
        clear hy1129
        have H':=Aside0.mk H
        clear H
        have df:=aC.out
        have dh:=aD.out
        have di:=av.out
        have dl:=aH.out
        have cm:wr.cell? ⟨ag,0,none⟩=some (.int .i64 a0_0):=(blk_cell aa.out 0).trans rfl
        have cn:wr.cell? ⟨ag,1,none⟩=some (.slice aI ah.length aG):=(blk_cell aa.out 1).trans rfl
        have co:=blk_frozen aa.out 0
        have cq:=blk_frozen aa.out 1
        try go_wp2
        replace aj:=Aside0.mk (Kd.R_drew aj.out)
        replace aa:=Aside0.mk (blk_drew aa.out)
        replace ae:=Aside0.mk (blk_drew ae.out)
        replace af:=Aside0.mk (blk_drew af.out)
        replace HB:=Aside0.mk (below_drew1 HB.out)
        have p1128:0≤((Go.bits .xor .i64 aw a1):Int):=od_
        have q1128:(Go.bits .xor .i64 aw a1) < (ah.length:Int):=od_
        obtain⟨bf,e1128,hx1128_0⟩:=Kd.at_int HR0_1.out (Go.bits .xor .i64 aw a1) p1128 q1128
        have aA:=hx1128_0
        cases e1128
        replace hx1128_0:=(HB.out.cell (World.block_lt_of_cell? w _ hx1128_0)).trans hx1128_0
        replace p1128:=eq_true p1128
        replace q1128:=eq_true q1128
        refine st_ (n:=13) (S:=fun w'=>w'.cell? ⟨ak,0,none⟩=some (.int .i64 a0_0)∧w'.cell? ⟨ak,1,none⟩=some (az)∧w'.cell? ⟨ag,0,none⟩=some (.int .i64 a0_0)∧w'.cell? ⟨ag,1,none⟩=some (.slice (some bf) ah.length aG)∧w'.cell? (bf.add ((Go.bits .xor .i64 aw a1)).toNat)=some (.int .i64 (rd ah (Go.bits .xor .i64 aw a1)))) (ds:= [12]) ⟨(blk_cell af.out 0).trans rfl,(blk_cell af.out 1).trans rfl,(blk_cell aa.out 0).trans rfl,(blk_cell aa.out 1).trans rfl,((HB.out.cell (World.block_lt_of_cell? w _ aA)).trans aA)⟩ (fun hHeld=>?_);refine with_tabW spec_TurnCube.tab8 spec_TurnCube.bits8 (fun HT_ HW_=>?_)
        generalize wr.drew=w28 at aj aa ae af HB hx1128_0 hHeld ⊢
        refine pu_ 0 28 ?_;refine pu_ 2 30 ?_;refine pu_ 4 32 ?_;refine pu_ 5 33 ?_;refine pu_ 6 34 ?_;refine tk_ 1 29 ?_;refine tk_ 3 31 ?_;refine pu_ 7 35 ?_;refine tk_ 8 36 ?_
        refine on_ 9 (some 37) (fun K hK=>?_)
        refine value_ (w1:=?_) (v:=?_) (by rfl) rfl ?_ ?_
        rotate_left 2
        ·go_simp
         constructor
         ·rfl
         ·rfl
        refine hK.out _ _ ⟨(blk_cell (blk_alloc af.out _) 0).trans rfl,(blk_cell (blk_alloc af.out _) 1).trans rfl,(blk_cell (blk_alloc aa.out _) 0).trans rfl,(blk_cell (blk_alloc aa.out _) 1).trans rfl,(World.cell?_alloc_lt _ _ _ (World.block_lt_of_cell? _ _ (((HB.out.cell (World.block_lt_of_cell? w _ aA)).trans aA)))).trans (((HB.out.cell (World.block_lt_of_cell? w _ aA)).trans aA))⟩ (fun hHeld=>?_)
        clear hK K
        refine norm_ (a':=?_) ?_ ?_
        rotate_left
        ·show Act.put _ (some 37) _=_
         simp only [Act.put,List.setIfInBounds_toArray,List.set_cons_zero,List.set_cons_succ,i64_w,i32_w]
         rfl
        refine on_ 10 (some 38) (fun K hK=>?_)
        refine Kd.R_append_step (Kd.int .i64) (w0:=w) w.heap.size (by rfl) (.tmp 29) (.tmp 37) 23 2 (.int .i64 0) 8 rfl Try.underlying23 info2 rfl (by decide) (by omega) az au (rd ah (Go.bits .xor .i64 aw a1)) [.int .i64 (rd ah (Go.bits .xor .i64 aw a1))] (fun _=>True) (fun _=>False) rfl rfl ?aP (fun _ hk=>hk.elim) ?aF ?aO ?aB ?aS ?aL ?_
        (case aP=>exact rfl)
        (case aB=>exact hb_)
        (case aF=>exact(fun _ _=>trivial))
        (case aO=>exact(ro_ aj.out))
        (case aS=>exact bz_)
        (case aL=>have:=bU.out;omega)
        intro dm w29 ho hb hg hat
        rw [← bM.out] at ho
        replace aa:=Aside0.mk (bg_ aa.out hg (Kd.R_ne aj.out aa.out (by decide)))
        replace ae:=Aside0.mk (bg_ ae.out hg (Kd.R_ne aj.out ae.out (by decide)))
        replace af:=Aside0.mk (bg_ af.out hg (Kd.R_ne aj.out af.out (by decide)))
        replace HB:=Aside0.mk (hb)
        have bg:=Aside0.mk (ho)
        clear aj ho hb hg hat
        obtain⟨bN,bO,bP⟩:=Kd.R_slice bg.out
        (first | subst bP | (injection bP with f1_ f2_ f3_;have f4_:=f1_.symm;have f5_:=f3_.symm;clear f1_ f2_ f3_;subst f4_;subst f5_))
        refine hK.out _ _ ⟨(blk_cell af.out 0).trans rfl,(blk_cell af.out 1).trans rfl,(blk_cell aa.out 0).trans rfl,(blk_cell aa.out 1).trans rfl,((HB.out.cell (World.block_lt_of_cell? w _ aA)).trans aA)⟩ (fun hHeld=>?_)
        clear hK K
        refine norm_ (a':=?_) ?_ ?_
        rotate_left
        ·show Act.put _ (some 38) _=_
         simp only [Act.put,List.setIfInBounds_toArray,List.set_cons_zero,List.set_cons_succ,i64_w,i32_w]
         rfl
        refine pu_ 11 39 ?_
        refine la_ 12 none (fun K hK=>?_)
        have hs31:w29.cell? ⟨ak,1,none⟩=some (az):=(blk_cell af.out 1).trans rfl
        have hfs31:=blk_frozen af.out 1
        have hns31_0:=av.out
        have hns31_1:=ay.out
        have hms31_0:=aH.out
        have hms31_1:=aJ.out
        refine skip_ (w1:=?_) (by rfl) rfl ?_ ?_
        rotate_left
        ·go_simp
         rfl
        refine hK.out _ _ ?_
        clear hK K
        refine done_ (done_of HT_.out (by kernel_rfl)) ?_
        try go_wp2
        go_roundg k1
        case measure=>have:=HK1.out;omega
        case rel=>exact⟨(wrap64 (aw+1)),(aV),(.slice bN aV.length bO),rs_,H',⟨by have:=HK1.out;omega⟩,⟨by(with_reducible repeat (first | apply Kd.R_alloc | apply Kd.R_drewN | apply Kd.R_drew));exact Kd.R_mono (Kd.R_far (p:=⟨ak,1,none⟩) (Kd.R_types bg.out af.out (by decide)) (fun _ hk=>hk.2) (.slice bN aV.length bO)) (fun _ hk=>trivial)⟩,⟨by(with_reducible repeat (first | refine blk_drewN ?_ _ | refine blk_drew ?_ | refine blk_alloc ?_ _));refine blk_far ?_ av.out _;(with_reducible repeat (first | refine blk_drewN ?_ _ | refine blk_drew ?_ | refine blk_alloc ?_ _));exact aa.out⟩,⟨by(with_reducible repeat (first | refine blk_drewN ?_ _ | refine blk_drew ?_ | refine blk_alloc ?_ _));refine blk_far ?_ ay.out _;(with_reducible repeat (first | refine blk_drewN ?_ _ | refine blk_drew ?_ | refine blk_alloc ?_ _));exact ae.out⟩,⟨by(with_reducible repeat (first | refine blk_drewN ?_ _ | refine blk_drew ?_ | refine blk_alloc ?_ _));refine blk_put (cs:= #[.int .i64 a0_0,az]) ?_ 1 _ rfl;(with_reducible repeat (first | refine blk_drewN ?_ _ | refine blk_drew ?_ | refine blk_alloc ?_ _));exact af.out⟩,⟨hb_⟩⟩
       ·rw [if_neg c24] at H
        exact absurd H (by simp)
      ·rw [if_neg c23] at H
       exact absurd H (by simp)
     ·rw [if_neg c22] at H
      exact absurd H (by simp)
    ·rw [if_neg c21] at H
     have c21b0:decide (aw < (ah.length:Int))=false:=decide_eq_false c21
     clear c21
     simp only [Option.some.injEq,Prod.mk.injEq] at H
     obtain⟨rfl,rfl,rfl⟩:=H
     have dq:=aC.out
     have dr:=aD.out
     have du:=av.out
     have dw:=aH.out
     have ct:wr.cell? ⟨ag,0,none⟩=some (.int .i64 a0_0):=(blk_cell aa.out 0).trans rfl
     have cA:wr.cell? ⟨ag,1,none⟩=some (.slice aI ah.length aG):=(blk_cell aa.out 1).trans rfl
     have cB:=blk_frozen aa.out 0
     have cC:=blk_frozen aa.out 1
     have dx:=aJ.out
     have dz:=ay.out
     have cD:wr.cell? ⟨ak,0,none⟩=some (.int .i64 a0_0):=(blk_cell af.out 0).trans rfl
     have cE:wr.cell? ⟨ak,1,none⟩=some (az):=(blk_cell af.out 1).trans rfl
     have cF:=blk_frozen af.out 0
     have cG:=blk_frozen af.out 1
     have cH:wr.cell? ⟨ai,0,none⟩=some (.int .i64 0):=(blk_cell ae.out 0).trans rfl
     have cI:wr.cell? ⟨ai,1,none⟩=some (.slice none 0 0):=(blk_cell ae.out 1).trans rfl
     have cJ:=blk_frozen ae.out 0
     have cK:=blk_frozen ae.out 1
     obtain⟨bQ,bS,bZ⟩:=Kd.R_slice aj.out
     subst bZ
     go_wp2
     refine bodyPost_ret (results_ct rfl _ _ ai 64 #[.int .i64 a0_0, .slice bQ au.length bS] (0,0) _ rfl (by(with_reducible repeat (first | refine blk_drewN ?_ _ | refine blk_drew ?_ | refine blk_alloc ?_ _));refine blk_put (cs:= #[.int .i64 a0_0, .slice none 0 0]) ?_ 1 _ rfl;(with_reducible repeat (first | refine blk_drewN ?_ _ | refine blk_drew ?_ | refine blk_alloc ?_ _));refine blk_put (cs:= #[.int .i64 0, .slice none 0 0]) ?_ 0 _ rfl;(with_reducible repeat (first | refine blk_drewN ?_ _ | refine blk_drew ?_ | refine blk_alloc ?_ _));exact ae.out) Try.underlying64 rfl (by kernel_rfl)) rfl ?_
     exact⟨_,by first | rfl | (simp [errW_none,errW_some] <;> rfl) | (simp [*,errW_none,errW_some] <;> rfl),by(with_reducible repeat (first | apply Kd.R_alloc | apply Kd.R_drewN | apply Kd.R_drew));exact Kd.R_mono (Kd.R_far (p:=⟨ai,1,none⟩) (Kd.R_far (p:=⟨ai,0,none⟩) (Kd.R_types aj.out ae.out (by decide)) (fun _ hk=>hk.2) (.int .i64 a0_0)) (fun _ hk=>hk.2) (.slice bQ au.length bS)) (fun _ hk=>trivial),hb_⟩
 ·rw [if_neg c4] at H
  have c4b0:(ax==0)=false:=beq_eq_false_iff_ne.mpr c4
  have c4b1:(ax !=0)=true:=bne_iff_ne.mpr c4
  simp only [Option.some.injEq,Prod.mk.injEq] at H
  obtain⟨rfl,rfl,rfl⟩:=H
  go_enter Try.func58,Try.ntmps58
  go_wp2_with (first | ((with_reducible refine gate_dst (N:=2) rfl ?_);refine box_event ?hg (N:=2) ?hd (cs:= #[.int .i64 a0_0, .slice aI ah.length aG]) (t:=64) ?hr ?_;(case hd=>rfl);(case hg=>rfl);(case hr=>first | (go_simp;done) | (go_simp;rfl));intro ag hg w39 hbox hb;have aa:=Aside0.mk (hbox);have bC:=Aside0.mk ((by rw [hg];exact bz_:w.heap.size≤ag));have bD:=Aside0.mk ((by rw [hg];exact bz_:w.heap.size≤ag));replace HB:=Aside0.mk (bs_ hb);clear hb hbox hg) | ((with_reducible refine gate_dst (N:=4) rfl ?_);refine box_event ?hg (N:=4) ?hd (cs:= #[.int .i64 0, .slice none 0 0]) (t:=64) ?hr ?_;(case hd=>rfl);(case hg=>rfl);(case hr=>first | (go_simp;done) | (go_simp;rfl));intro ai hg w40 hbox hb;have ae:=Aside0.mk (hbox);have bE:=Aside0.mk ((by rw [hg];exact bz_:w.heap.size≤ai));have bF:=Aside0.mk ((by rw [hg];exact bz_:w.heap.size≤ai));have aC:=Aside0.mk ((by rw [hg];exact lt_ aa.out:ag≠ai));have aD:=Aside0.mk ((by rw [hg];exact gt_ aa.out:ai≠ag));replace aa:=Aside0.mk (bb_ aa.out hb);replace HB:=Aside0.mk (bs_ hb);clear hb hbox hg;have dA:=aC.out;have dB:=aD.out;have cL:w40.cell? ⟨ag,0,none⟩=some (.int .i64 a0_0):=(blk_cell aa.out 0).trans rfl;have cN:w40.cell? ⟨ag,1,none⟩=some (.slice aI ah.length aG):=(blk_cell aa.out 1).trans rfl;have cO:=blk_frozen aa.out 0;have cP:=blk_frozen aa.out 1) | ((with_reducible refine gate_dst (N:=11) rfl ?_);refine Kd.R_lit (Kd.int .i64) _ 2 ?hg (N:=11) ?hd (xs:=([a1]:List Int)) (inner:= [.int .i64 a1]) (ok:=fun _=>True) (okp:=fun _=>True) ?hr ?hp (fun _ hk=>hk) trivial (Below.refl _ _) (Nat.le_refl _) (by simp) ?_;(case hd=>rfl);(case hg=>rfl);(case hr=>first | (go_simp;done) | (go_simp;rfl));(case hp=>exact(Reps.one (show Kd.M (Kd.int .i64) _ _ _ a1 [.int .i64 a1] from rfl) (Reps.none _ _)));intro bT w43 aX hb hg_ hnew_;clear hg_ hnew_;(first | rw [← aM.out] at aX | (simp only [Int.reduceToNat] at aX;rw [← aM.out] at aX));have aq:=Aside0.mk (Kd.R_lower aX bz_);replace aa:=Aside0.mk (bb_ aa.out hb);replace ae:=Aside0.mk (bb_ ae.out hb);replace HB:=Aside0.mk (bs_ hb);clear hb aX;obtain⟨cf,ck,cl⟩:=Kd.R_slice aq.out;subst cl) | ((with_reducible refine gate_callee (f:=138) rfl ?_);refine gL_ 12 Try.func138 #[.agg #[.int .i64 a0_0, .slice aI ah.length aG], .slice cf aK.length ck] ?_;(with_reducible refine(spec_l06Code.calls k a0_0 _ _ ah _ _ aK ax _ ?aY ?aZ ?a9 ?ba A3.out).mono ?_);(case aY=>exact cb_ HR0_1.out HB.out);(case aZ=>exact HC0_1.out);(case a9=>repeat (first | exact(Kd.R_reads' aq.out).2.2 | (with_reducible refine Kd.C_alloc ?_ _) | (with_reducible refine Kd.C_drewN ?_ _) | (with_reducible refine Kd.C_drew ?_)));(case ba=>exact(Kd.R_reads' aq.out).2.1);rintro e w46 ⟨rfl,hb⟩;refine⟨_,rfl,?_⟩;replace aq:=Aside0.mk (rb_ aq.out hb);replace aa:=Aside0.mk (bb_ aa.out hb);replace ae:=Aside0.mk (bb_ ae.out hb);replace HB:=Aside0.mk (bs_ hb);(try clear hb);(try clear hb2);(try clear hk);(try clear hi);have cQ:w46.cell? ⟨ai,0,none⟩=some (.int .i64 0):=(blk_cell ae.out 0).trans rfl;have cR:w46.cell? ⟨ai,1,none⟩=some (.slice none 0 0):=(blk_cell ae.out 1).trans rfl;have cS:=blk_frozen ae.out 0;have cT:=blk_frozen ae.out 1))
  refine bodyPost_ret (results_ct rfl _ _ ai 64 #[.int .i64 0, .slice none 0 0] (0,0) _ rfl (by(with_reducible repeat (first | refine blk_drewN ?_ _ | refine blk_drew ?_ | refine blk_alloc ?_ _));refine blk_put (cs:= #[.int .i64 0, .slice none 0 0]) ?_ 1 _ rfl;(with_reducible repeat (first | refine blk_drewN ?_ _ | refine blk_drew ?_ | refine blk_alloc ?_ _));refine blk_put (cs:= #[.int .i64 0, .slice none 0 0]) ?_ 0 _ rfl;(with_reducible repeat (first | refine blk_drewN ?_ _ | refine blk_drew ?_ | refine blk_alloc ?_ _));exact ae.out) Try.underlying64 rfl (by kernel_rfl)) rfl ?_
  exact⟨_,by first | rfl | (simp [errW_none,errW_some] <;> rfl) | (simp [*,errW_none,errW_some] <;> rfl),by first | exact Kd.R_nil _ _ _ _ _ | exact Kd.N_nil _ _ _ _ _ | exact Kd.V_nil _ _ _ _ _ | exact Kd.Q_nil _ _ _ _ _ | exact Kd.S_nil _ _ _ _ _,hb_⟩
end Go.Proofs.Ytmpkckiifeikkaa.Pr
end
section
namespace Go.Proofs.Ytmpkckiifeikkaa.Dt
abbrev Mat:=Nat→Nat→Int
def sm:Nat→(Nat→Int)→Int
 | 0,_=>0
 | n+1,f=>sm n f+f n
theorem sm_congr {n:Nat} {f g:Nat→Int} (h: ∀i,i < n→f i=g i):sm n f=sm n g:=by
 induction n with
 | zero=>rfl
 | succ n ih=>simp only [sm];rw [ih (fun i hi=>h i (by omega)),h n (by omega)]
theorem sm_add (n:Nat) (f g:Nat→Int):sm n (fun i=>f i+g i)=sm n f+sm n g:=by
 induction n with
 | zero=>rfl
 | succ n ih=>simp only [sm];rw [ih];omega
theorem sm_mul (n:Nat) (c:Int) (f:Nat→Int):sm n (fun i=>c*f i)=c*sm n f:=by
 induction n with
 | zero=>simp [sm]
 | succ n ih=>simp only [sm];rw [ih,Int.mul_add]
theorem sm_mulr (n:Nat) (c:Int) (f:Nat→Int):sm n (fun i=>f i*c)=sm n f*c:=by
 rw [Int.mul_comm, ← sm_mul];exact sm_congr (fun i _=>Int.mul_comm _ _)
theorem sm_zero (n:Nat):sm n (fun _=>0)=0:=by
 induction n with
 | zero=>rfl
 | succ n ih=>simp only [sm];rw [ih];rfl
theorem sm_none {n:Nat} {f:Nat→Int} (h: ∀i,i < n→f i=0):sm n f=0:=by rw [sm_congr h,sm_zero]
theorem sm_one {n:Nat} {f:Nat→Int} {k:Nat} (hk:k < n) (h: ∀i,i < n→i≠k→f i=0):sm n f=f k:=by
 induction n with
 | zero=>omega
 | succ n ih=>
  simp only [sm]
  by_cases c:k=n
  ·subst c
   rw [sm_none (fun i hi=>h i (by omega) (by omega))];omega
  ·rw [ih (by omega) (fun i hi=>h i (by omega)),h n (by omega) (by omega)];omega
theorem sm_two {n:Nat} {f:Nat→Int} {k l:Nat} (hk:k < n) (hl:l < n) (hkl:k≠l) (h: ∀i,i < n→i≠k→i≠l→f i=0):sm n f=f k+f l:=by
 have e:sm n f=sm n (fun i=>(if i=k then f i else 0)+(if i=k then 0 else f i)):=sm_congr (fun i _=>by split <;> omega)
 rw [e,sm_add,sm_one hk (fun i _ hi=>by simp [hi]),sm_one hl]
 ·simp [Ne.symm hkl]
 ·intro i hi hil
  by_cases c:i=k
  ·simp [c]
  ·simp [c,h i hi c hil]
theorem sm_cut {n m:Nat} {f:Nat→Int} (h: ∀i,n≤i→i < n+m→f i=0):sm (n+m) f=sm n f:=by
 induction m with
 | zero=>rfl
 | succ m ih=>
  rw [← Nat.add_assoc];simp only [sm]
  rw [ih (fun i h1 h2=>h i h1 (by omega)),h (n+m) (by omega) (by omega)];omega
theorem sm_split (n m:Nat) (f:Nat→Int):sm (n+m) f=sm n f+sm m (fun i=>f (n+i)):=by
 induction m with
 | zero=>simp [sm]
 | succ m ih=>rw [← Nat.add_assoc];simp only [sm];rw [ih];omega
theorem sm_first (n:Nat) (f:Nat→Int):sm (n+1) f=f 0+sm n (fun i=>f (i+1)):=by
 rw [Nat.add_comm,sm_split]
 simp only [sm]
 rw [sm_congr (f:=fun i=>f (1+i)) (g:=fun i=>f (i+1)) (fun i _=>by rw [Nat.add_comm])]
 omega
def up (k j:Nat):Nat:=if j < k then j else j+1
def dn (k j:Nat):Nat:=if j < k then j else j - 1
theorem up_ne (k j:Nat):up k j≠k:=by unfold up;split <;> omega
theorem up_dn {k j:Nat} (h:j≠k):up k (dn k j)=j:=by unfold up dn;grind
theorem dn_up (k j:Nat):dn k (up k j)=j:=by unfold up dn;grind
theorem up_lt {k j n:Nat} (h:j < n):up k j < n+1:=by unfold up;split <;> omega
theorem dn_lt {k j n:Nat} (h:j < n+1) (hk:k < n+1) (hj:j≠k):dn k j < n:=by unfold dn;split <;> omega
def mnr (k:Nat) (A:Mat):Mat:=fun i j=>A (i+1) (up k j)
def sg (k:Nat):Int:=if k % 2=1 then -1 else 1
theorem sg_succ (k:Nat):sg (k+1)= - sg k:=by unfold sg;split <;> split <;> omega
theorem sg_sq (k:Nat):sg k*sg k=1:=by unfold sg;split <;> rfl
def det:Nat→Mat→Int
 | 0,_=>1
 | n+1,A=>sm (n+1) (fun k=>sg k*(A 0 k*det n (mnr k A)))
theorem det_succ (n:Nat) (A:Mat):det (n+1) A=sm (n+1) (fun k=>sg k*(A 0 k*det n (mnr k A))):=rfl
theorem det_congr {n:Nat}: ∀ {A B:Mat},(∀i j,i < n→j < n→A i j=B i j)→det n A=det n B:=by
 induction n with
 | zero=>intro A B _;rfl
 | succ n ih=>
  intro A B h
  unfold det
  refine sm_congr (fun k hk=>?_)
  rw [h 0 k (by omega) hk,ih (A:=mnr k A) (B:=mnr k B) (fun i j hi hj=>h _ _ (by omega) (up_lt hj))]
theorem det_col_lin {n:Nat}: ∀ {A B C:Mat} {c:Nat} {s t:Int},c < n→(∀i,i < n→A i c=s*B i c+t*C i c)→(∀i j,i < n→j < n→j≠c→A i j=B i j∧A i j=C i j)→det n A=s*det n B+t*det n C:=by
 induction n with
 | zero=>intro A B C c s t hc;omega
 | succ n ih=>
  intro A B C c s t hc h ho
  unfold det
  rw [← sm_mul, ← sm_mul, ← sm_add]
  refine sm_congr (fun k hk=>?_)
  by_cases e:k=c
  ·subst e
   have e1:det n (mnr k A)=det n (mnr k B):=det_congr (fun i j hi hj=>(ho _ _ (by omega) (up_lt hj) (up_ne k j)).1)
   have e2:det n (mnr k A)=det n (mnr k C):=det_congr (fun i j hi hj=>(ho _ _ (by omega) (up_lt hj) (up_ne k j)).2)
   rw [h 0 (by omega), ← e1, ← e2]
   grind
  ·have key:=ih (A:=mnr k A) (B:=mnr k B) (C:=mnr k C) (c:=dn k c) (s:=s) (t:=t) (dn_lt hc hk (Ne.symm e)) (fun i hi=>by unfold mnr;rw [up_dn (Ne.symm e)];exact h _ (by omega)) (fun i j hi hj hjc=>ho _ _ (by omega) (up_lt hj) (fun hh=>hjc (by rw [← hh,dn_up])))
   have o:=ho 0 k (by omega) hk e
   rw [key, ← o.1, ← o.2]
   grind
def cset (c:Nat) (v:Nat→Int) (A:Mat):Mat:=fun i j=>if j=c then v i else A i j
def rset (r:Nat) (v:Nat→Int) (A:Mat):Mat:=fun i j=>if i=r then v j else A i j
def tr (A:Mat):Mat:=fun i j=>A j i
def one:Mat:=fun i j=>if i=j then 1 else 0
def mul (n:Nat) (A B:Mat):Mat:=fun i j=>sm n (fun k=>A i k*B k j)
theorem det_adj_eq {n:Nat}: ∀ {A:Mat} {c:Nat},c+1 < n→(∀i,i < n→A i c=A i (c+1))→det n A=0:=by
 induction n with
 | zero=>intro A c hc;omega
 | succ n ih=>
  intro A c hc h
  unfold det
  rw [sm_two (k:=c) (l:=c+1) (by omega) (by omega) (by omega)]
  ·have e:det n (mnr c A)=det n (mnr (c+1) A):=det_congr (fun i j hi hj=>by
    unfold mnr up
    by_cases e:j=c
    ·subst e
     simp only [Nat.lt_irrefl,if_false,Nat.lt_succ_self,if_true]
     exact(h _ (by omega)).symm
    ·by_cases e2:j < c
     ·rw [if_pos e2,if_pos (by omega)]
     ·rw [if_neg e2,if_neg (by omega)])
   rw [sg_succ, ← e, ← h 0 (by omega)]
   grind
  ·intro k hk h1 h2
   rw [ih (A:=mnr k A) (c:=dn k c) (by unfold dn;split <;> omega) (fun i hi=>?_)]
   ·simp
   ·unfold mnr
    rw [up_dn (Ne.symm h1),show dn k c+1=dn k (c+1) from by unfold dn;split <;> split <;> omega,up_dn (Ne.symm h2)]
    exact h _ (by omega)
theorem det_cadd {n c:Nat} (hc:c < n) (u v:Nat→Int) (A:Mat) (s t:Int):det n (cset c (fun i=>s*u i+t*v i) A)=s*det n (cset c u A)+t*det n (cset c v A):=
 det_col_lin hc (fun i _=>by simp [cset]) (fun i j _ _ h=>by simp [cset,h])
theorem det_adj_swap {n c:Nat} (hc:c+1 < n) {A B:Mat} (h: ∀i,i < n→B i c=A i (c+1)∧B i (c+1)=A i c) (ho: ∀i j,i < n→j < n→j≠c→j≠c+1→B i j=A i j):det n B= - det n A:=by
 let W (u v:Nat→Int):Mat:=cset c u (cset (c+1) v A)
 let x:Nat→Int:=fun i=>A i c
 let y:Nat→Int:=fun i=>A i (c+1)
 have z (u v:Nat→Int) (e: ∀i,u i=v i):det n (W u v)=0:=det_adj_eq hc (fun i hi=>by simp [W,cset,e])
 have l1 (u v w:Nat→Int):det n (W (fun i=>1*u i+1*v i) w)=1*det n (W u w)+1*det n (W v w):=det_cadd (by omega) u v _ 1 1
 have l2 (u v w:Nat→Int):det n (W w (fun i=>1*u i+1*v i))=1*det n (W w u)+1*det n (W w v):=
  det_col_lin (c:=c+1) hc (fun i _=>by simp [W,cset]) (fun i j _ _ h=>by by_cases e:j=c <;> simp [W,cset,h,e])
 have a:=z (fun i=>1*x i+1*y i) (fun i=>1*x i+1*y i) (fun _=>rfl)
 rw [l1,l2,l2,z x x (fun _=>rfl),z y y (fun _=>rfl)] at a
 have ea:det n (W x y)=det n A:=det_congr (fun i j _ _=>by by_cases e:j=c <;> by_cases e2:j=c+1 <;> simp [W,cset,x,y,e,e2])
 have eb:det n (W y x)=det n B:=det_congr (fun i j hi hj=>by
  by_cases e:j=c
  ·subst e;simp [W,cset,y,(h i hi).1]
  ·by_cases e2:j=c+1
   ·subst e2;simp [W,cset,x,(h i hi).2]
   ·simp [W,cset,e,e2,ho i j hi hj e e2])
 rw [ea,eb] at a
 omega
theorem det_col_eq {n:Nat}: ∀(q:Nat) {A:Mat} {c d:Nat},d=c+1+q→d < n→(∀i,i < n→A i c=A i d)→det n A=0:=by
 intro q
 induction q with
 | zero=>intro A c d e hd h;subst e;exact det_adj_eq hd h
 | succ q ih=>
  intro A c d e hd h
  have k:=ih (A:=fun i j=>if j=c+1+q then A i (c+1+q+1) else if j=c+1+q+1 then A i (c+1+q) else A i j) (c:=c) (d:=c+1+q) rfl (by omega) (fun i hi=>by
   simp only [if_neg (show ¬ c=c+1+q by omega),if_neg (show ¬ c=c+1+q+1 by omega),if_true]
   rw [h i hi,e];rfl)
  have s:=det_adj_swap (n:=n) (c:=c+1+q) (by omega) (A:=A) (B:=fun i j=>if j=c+1+q then A i (c+1+q+1) else if j=c+1+q+1 then A i (c+1+q) else A i j) (fun i hi=>⟨by simp,by simp⟩) (fun i j _ _ h1 h2=>by simp [h1,h2])
  omega
theorem det_col_alt {n c d:Nat} {A:Mat} (hc:c < n) (hd:d < n) (hcd:c≠d) (h: ∀i,i < n→A i c=A i d):det n A=0:=by
 by_cases e:c < d
 ·exact det_col_eq (d - c - 1) (by omega) hd h
 ·exact det_col_eq (c - d - 1) (by omega) hc (fun i hi=>(h i hi).symm)
structure Form (n:Nat) (f:Mat→Int):Prop where
 cong: ∀A B:Mat,(∀i j,i < n→j < n→A i j=B i j)→f A=f B
 lin: ∀(A:Mat) (r:Nat) (u v:Nat→Int) (s t:Int),r < n→f (rset r (fun j=>s*u j+t*v j) A)=s*f (rset r u A)+t*f (rset r v A)
 alt: ∀(A:Mat) (r q:Nat),r < n→q < n→r≠q→(∀j,j < n→A r j=A q j)→f A=0
theorem rset_self (r:Nat) (A:Mat):rset r (A r) A=A:=by funext i j;unfold rset;split <;> simp_all
theorem Form.sums {n:Nat} {f:Mat→Int} (F:Form n f) {r:Nat} (hr:r < n) (A:Mat) (m:Nat) (c:Nat→Int) (v:Nat→Nat→Int):f (rset r (fun j=>sm m (fun k=>c k*v k j)) A)=sm m (fun k=>c k*f (rset r (v k) A)):=by
 induction m with
 | zero=>
  have:=F.lin A r (fun _=>0) (fun _=>0) 0 0 hr
  simp only [sm] at*
  simpa using this
 | succ m ih=>
  simp only [sm]
  have:=F.lin A r (fun j=>sm m (fun k=>c k*v k j)) (v m) 1 (c m) hr
  simp only [Int.one_mul] at this
  rw [this,ih]
theorem Form.swap {n:Nat} {f:Mat→Int} (F:Form n f) {r q:Nat} (hr:r < n) (hq:q < n) (hrq:r≠q) {A B:Mat} (h: ∀j,j < n→B r j=A q j∧B q j=A r j) (ho: ∀i j,i < n→j < n→i≠r→i≠q→B i j=A i j):f B= - f A:=by
 let W (u v:Nat→Int):Mat:=rset r u (rset q v A)
 have z (u v:Nat→Int) (e: ∀i,u i=v i):f (W u v)=0:=F.alt _ r q hr hq hrq (fun j _=>by simp [W,rset,e,Ne.symm hrq])
 have l1 (u v w:Nat→Int):f (W (fun i=>1*u i+1*v i) w)=1*f (W u w)+1*f (W v w):=F.lin _ r u v 1 1 hr
 have c (u v:Nat→Int):W u v=rset q v (rset r u A):=by
  funext i j;simp only [W,rset]
  by_cases e:i=r
  ·subst e;simp [hrq]
  ·simp [e]
 have l2 (u v w:Nat→Int):f (W w (fun i=>1*u i+1*v i))=1*f (W w u)+1*f (W w v):=by
  rw [c,c,c];exact F.lin _ q u v 1 1 hq
 have a:=z (fun i=>1*A r i+1*A q i) (fun i=>1*A r i+1*A q i) (fun _=>rfl)
 rw [l1,l2,l2,z (A r) (A r) (fun _=>rfl),z (A q) (A q) (fun _=>rfl)] at a
 have ea:f (W (A r) (A q))=f A:=F.cong _ _ (fun i j _ _=>by simp only [W,rset];grind)
 have eb:f (W (A q) (A r))=f B:=F.cong _ _ (fun i j hi hj=>by
  by_cases e:i=r
  ·subst e;simp [W,rset,(h j hj).1]
  ·by_cases e2:i=q
   ·subst e2;simp [W,rset,(h j hj).2,e]
   ·simp [W,rset,e,e2,ho i j hi hj e e2])
 rw [ea,eb] at a
 omega
theorem Form.addrow {n:Nat} {f:Mat→Int} (F:Form n f) {r q:Nat} (hr:r < n) (hq:q < n) (hrq:r≠q) (A:Mat) (t:Int):f (rset r (fun j=>A r j+t*A q j) A)=f A:=by
 have l:=F.lin A r (A r) (A q) 1 t hr
 simp only [Int.one_mul] at l
 rw [l,rset_self,F.alt (rset r (A q) A) r q hr hq hrq (fun j _=>by simp [rset,Ne.symm hrq])]
 omega
def emb (k:Nat) (B:Mat):Mat
 | 0,j=>if j=k then 1 else 0
 | i+1,j=>if j=k then 0 else B i (dn k j)
theorem Form.clean {n:Nat} {f:Mat→Int} (F:Form (n+1) f) {k:Nat} (hk:k < n+1) (A:Mat): ∀m,m≤n→f (rset 0 (fun j=>if j=k then 1 else 0) A)=f (fun i j=>if i=0 then(if j=k then 1 else 0) else if i≤m∧j=k then 0 else A i j):=by
 intro m
 induction m with
 | zero=>intro _;exact F.cong _ _ (fun i j _ _=>by by_cases e:i=0 <;> simp [rset,e])
 | succ m ih=>
  intro hm
  rw [ih (by omega)]
  rw [← F.addrow (r:=m+1) (q:=0) (by omega) (by omega) (by omega) _ (- A (m+1) k)]
  refine F.cong _ _ (fun i j hi hj=>?_)
  by_cases e:i=m+1
  ·subst e
   by_cases e2:j=k
   ·subst e2;simp [rset];omega
   ·simp [rset,e2]
  ·by_cases e0:i=0
   ·simp [rset,e0]
   ·have:(i≤m∧j=k)↔(i≤m+1∧j=k):=by constructor <;> intro h <;> omega
    simp [rset,e,e0,this]
theorem Form.emb_sg {n:Nat} {f:Mat→Int} (F:Form (n+1) f): ∀k,k < n+1→f (emb k one)=sg k*f one:=by
 intro k
 induction k with
 | zero=>
  intro _
  rw [show sg 0=1 from rfl,Int.one_mul]
  refine F.cong _ _ (fun i j _ _=>?_)
  cases i with
  | zero=>unfold emb one;by_cases e:j=0 <;> simp [e,eq_comm]
  | succ i=>unfold emb one dn;cases j with
   | zero=>simp
   | succ j=>simp
 | succ k ih=>
  intro hk
  rw [F.swap (r:=0) (q:=k+1) (A:=emb k one) (by omega) (by omega) (by omega),ih (by omega),sg_succ]
  ·grind
  ·intro j hj
   refine⟨?_,?_⟩
   ·simp only [emb,one,dn];grind
   ·simp only [emb,one,dn];grind
  ·intro i j hi hj h0 h1
   cases i with
   | zero=>exact absurd rfl h0
   | succ i=>simp only [emb,one,dn];grind
theorem Form.uniq {n:Nat}: ∀ {f:Mat→Int},Form n f→ ∀A,f A=det n A*f one:=by
 induction n with
 | zero=>intro f F A;rw [show det 0 A=1 from rfl,Int.one_mul];exact F.cong _ _ (fun i j hi _=>absurd hi (Nat.not_lt_zero _))
 | succ n ih=>
  intro f F A
  have e0:f A=f (rset 0 (fun j=>sm (n+1) (fun k=>A 0 k*(if j=k then 1 else 0))) A):=F.cong _ _ (fun i j hi hj=>by
   by_cases e:i=0
   ·subst e
    simp only [rset,if_true]
    rw [sm_one hj (fun i _ h=>by simp [Ne.symm h])];simp
   ·simp [rset,e])
  rw [e0,F.sums (by omega) A (n+1) (A 0) (fun k j=>if j=k then 1 else 0)]
  unfold det
  rw [← sm_mulr]
  refine sm_congr (fun k hk=>?_)
  have G:Form n (fun B=>f (emb k B)):=by
   have er (B:Mat) (r:Nat) (v:Nat→Int):emb k (rset r v B)=rset (r+1) (fun j=>if j=k then 0 else v (dn k j)) (emb k B):=by
    funext i j
    cases i with
    | zero=>simp [emb,rset]
    | succ i=>by_cases e:i=r <;> simp [emb,rset,e]
   refine⟨fun B C h=>F.cong _ _ (fun i j hi hj=>?_),fun B r u v s t hr=>?_,fun B r q hr hq hrq h=>?_⟩
   ·cases i with
    | zero=>rfl
    | succ i=>
     unfold emb
     by_cases e:j=k
     ·simp [e]
     ·simp only [if_neg e];exact h _ _ (by omega) (dn_lt hj hk e)
   ·simp only [er]
    rw [← F.lin _ _ _ _ s t (by omega)]
    congr 2
    funext j
    by_cases e:j=k <;> simp [e]
   ·refine F.alt _ (r+1) (q+1) (by omega) (by omega) (by omega) (fun j hj=>?_)
    unfold emb
    by_cases e:j=k
    ·simp [e]
    ·simp only [if_neg e];exact h _ (dn_lt hj hk e)
  have e1:f (rset 0 (fun j=>if j=k then 1 else 0) A)=f (emb k (mnr k A)):=by
   rw [F.clean hk A n (Nat.le_refl _)]
   refine F.cong _ _ (fun i j hi hj=>?_)
   cases i with
   | zero=>simp [emb]
   | succ i=>
    unfold emb mnr
    by_cases e:j=k
    ·simp [e];omega
    ·simp [e,up_dn e]
  have e2:=ih G (mnr k A)
  rw [e1,e2,F.emb_sg k hk]
  grind
theorem det_one (n:Nat):det n one=1:=by
 induction n with
 | zero=>rfl
 | succ n ih=>
  unfold det
  rw [sm_one (k:=0) (by omega) (fun i _ h=>by simp [one,Ne.symm h])]
  rw [det_congr (A:=mnr 0 one) (B:=one) (fun i j _ _=>by simp [mnr,one,up]),ih]
  rfl
theorem tr_form (n:Nat):Form n (fun A=>det n (tr A)):=by
 refine⟨fun A B h=>det_congr (fun i j hi hj=>h j i hj hi),fun A r u v s t hr=>?_,fun A r q hr hq hrq h=>det_col_alt hr hq hrq h⟩
 exact det_col_lin (c:=r) hr (fun i _=>by simp [tr,rset]) (fun i j _ _ h=>by simp [tr,rset,h])
theorem det_tr (n:Nat) (A:Mat):det n (tr A)=det n A:=by
 have h:det n (tr A)=det n A*det n (tr one):=(tr_form n).uniq A
 rw [h,det_congr (A:=tr one) (B:=one) (fun i j _ _=>by simp [tr,one,eq_comm]),det_one,Int.mul_one]
theorem det_form (n:Nat):Form n (det n):=by
 have e:det n=fun A=>det n (tr A):=by funext A;exact(det_tr n A).symm
 rw [e];exact tr_form n
theorem mul_form (n:Nat) (B:Mat):Form n (fun A=>det n (mul n A B)):=by
 have er (A:Mat) (r:Nat) (v:Nat→Int):mul n (rset r v A) B=rset r (fun j=>sm n (fun k=>v k*B k j)) (mul n A B):=by
  funext i j;by_cases e:i=r <;> simp [mul,rset,e]
 refine⟨fun A C h=>det_congr (fun i j hi hj=>sm_congr (fun k hk=>by rw [h i k hi hk])),fun A r u v s t hr=>?_,fun A r q hr hq hrq h=>?_⟩
 ·simp only [er]
  rw [← (det_form n).lin _ _ _ _ s t hr]
  congr 2
  funext j
  rw [← sm_mul, ← sm_mul, ← sm_add]
  exact sm_congr (fun k _=>by grind)
 ·exact(det_form n).alt _ r q hr hq hrq (fun j hj=>sm_congr (fun k hk=>by rw [h k hk]))
theorem det_mul (n:Nat) (A B:Mat):det n (mul n A B)=det n A*det n B:=by
 have h:det n (mul n A B)=det n A*det n (mul n one B):=(mul_form n B).uniq A
 rw [h,det_congr (A:=mul n one B) (B:=B) (fun i j hi _=>?_)]
 unfold mul
 rw [sm_one (k:=i) hi (fun k _ h=>by simp [one,Ne.symm h])]
 simp [one]
def sh (l:Nat) (A:Mat):Mat:=fun i j=>A (l+i) (l+j)
theorem det_block (d:Nat): ∀(l:Nat) (A:Mat),(∀i j,i < l→l≤j→j < l+d→A i j=0)→det (l+d) A=det l A*det d (sh l A):=by
 intro l
 induction l with
 | zero=>intro A _;rw [Nat.zero_add,show det 0 A=1 from rfl,Int.one_mul];exact det_congr (fun i j _ _=>by simp [sh])
 | succ l ih=>
  intro A h
  rw [show l+1+d=(l+d)+1 from by omega,det_succ,det_succ]
  rw [show l+d+1=(l+1)+d from by omega,sm_cut (fun i h1 h2=>by rw [h 0 i (by omega) h1 h2];simp), ← sm_mulr]
  refine sm_congr (fun k hk=>?_)
  rw [ih (mnr k A) (fun i j hi h1 h2=>by
   unfold mnr up
   rw [if_neg (by omega)]
   exact h _ _ (by omega) (by omega) (by omega))]
  rw [det_congr (A:=sh l (mnr k A)) (B:=sh (l+1) A) (fun i j _ _=>by
   unfold sh mnr up
   rw [if_neg (by omega),show l+i+1=l+1+i from by omega,show l+j+1=l+1+j from by omega])]
  grind
theorem det_block' (d l:Nat) (A:Mat) (h: ∀i j,l≤i→i < l+d→j < l→A i j=0):det (l+d) A=det l A*det d (sh l A):=by
 rw [← det_tr (l+d) A,det_block d l (tr A) (fun i j h1 h2 h3=>h j i h2 h3 h1),det_tr l A, ← det_tr d (sh l A)]
 rfl
def mv (s t:Nat) (b:Nat→Int) (A:Mat):Mat:=fun i j=>if i < s then A (up t i) j else if i=s then b j else A (up t (i - 1)) j
theorem mv_sg {n:Nat} (t:Nat) (b:Nat→Int) (A:Mat): ∀s,s < n→det n (mv s t b A)=sg s*det n (mv 0 t b A):=by
 intro s
 induction s with
 | zero=>intro _;simp [sg]
 | succ s ih=>
  intro hs
  rw [(det_form n).swap (r:=s) (q:=s+1) (A:=mv s t b A) (by omega) (by omega) (by omega),ih (by omega),sg_succ]
  ·grind
  ·intro j _;refine⟨?_,?_⟩
   ·simp [mv];intro h;omega
   ·simp [mv]
  ·intro i j _ _ h1 h2
   unfold mv
   by_cases e:i < s
   ·rw [if_pos e,if_pos (by omega)]
   ·rw [if_neg e,if_neg (by omega),if_neg h1,if_neg h2]
theorem adj_row {n:Nat} (B:Mat) (b:Nat→Int) {j:Nat} (hj:j < n):sm n (fun t=>det n (rset t b B)*B t j)=det n B*b j:=by
 let X:Mat:=fun i c=>if i=0 then(if c=0 then b j else b (c - 1)) else(if c=0 then B (i - 1) j else B (i - 1) (c - 1))
 have z:det (n+1) X=0:=det_col_alt (c:=0) (d:=j+1) (by omega) (by omega) (by omega) (fun i _=>by simp [X])
 have e:=det_tr (n+1) X
 rw [z] at e
 unfold det at e
 rw [sm_first] at e
 have m0:det n (mnr 0 (tr X))=det n B:=by
  rw [← det_tr n B];exact det_congr (fun p q _ _=>by simp [mnr,tr,X,up])
 have mt (t:Nat) (ht:t < n):det n (mnr (t+1) (tr X))=sg t*det n (rset t b B):=by
  rw [← det_tr n (mnr (t+1) (tr X))]
  have e1:det n (tr (mnr (t+1) (tr X)))=det n (mv 0 t b B):=det_congr (fun p q _ _=>by
   cases p with
   | zero=>simp [mnr,tr,X,up,mv]
   | succ p=>
    simp only [mnr,tr,X,up,mv,Nat.not_lt_zero,if_false]
    by_cases c:p < t
    ·simp [c,Nat.succ_lt_succ c]
    ·simp [c,show ¬ p+1 < t+1 from by omega])
  have e2:det n (mv t t b B)=det n (rset t b B):=det_congr (fun p q _ _=>by
   unfold mv rset up
   by_cases c:p < t
   ·simp [c,show p≠t from by omega]
   ·by_cases c2:p=t
    ·simp [c2]
    ·rw [if_neg c,if_neg c2,if_neg c2,if_neg (by omega),show p - 1+1=p from by omega])
  rw [e1, ← e2,mv_sg t b B t ht]
  have:=sg_sq t
  grind
 have e3:sm n (fun i=>sg (i+1)*(tr X 0 (i+1)*det n (mnr (i+1) (tr X))))= - sm n (fun t=>det n (rset t b B)*B t j):=by
  rw [← Int.neg_one_mul, ← sm_mul]
  refine sm_congr (fun t ht=>?_)
  rw [mt t ht,sg_succ]
  have:=sg_sq t
  simp only [tr,X]
  simp
  grind
 rw [e3,m0] at e
 simp [tr,X,sg] at e
 grind
theorem adj_col {n:Nat} (B:Mat) (b:Nat→Int) {j:Nat} (hj:j < n):sm n (fun t=>B j t*det n (cset t b B))=det n B*b j:=by
 rw [← det_tr n B, ← adj_row (tr B) b hj]
 refine sm_congr (fun t _=>?_)
 rw [Int.mul_comm, ← det_tr n (cset t b B)]
 rfl
end Go.Proofs.Ytmpkckiifeikkaa.Dt
end
section
namespace Go.Proofs.Ytmpkckiifeikkaa.Bd
open Go.RowKit Go.Proofs.YtmpkckiifeikkaaW.PrintWords Go.Proofs.YtmpkckiifeikkaaW.PrintMore Go.Proofs.Ytmpkckiifeikkaa.Ma Go.Proofs.Ytmpkckiifeikkaa.Dt
def ev (M:Mat) (i:Nat) (last:Int) (r c:Nat):Int:=wrap64 (Int.tdiv (wrap64 (wrap64 (M r c*M i i) - wrap64 (M r i*M i c))) last)
def el (M:Mat) (i:Nat) (last:Int):Mat:=fun a b=>if i≤b∧i < a then ev M i last a b else M a b
def swp (M:Mat) (r q:Nat):Mat:=fun j=>M (if j=r then q else if j=q then r else j)
end Go.Proofs.Ytmpkckiifeikkaa.Bd
end
