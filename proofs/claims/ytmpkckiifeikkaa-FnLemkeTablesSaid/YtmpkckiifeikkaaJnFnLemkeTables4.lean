/- Texts of one claim (the words of the kit's print that the claim uses, printed functions, and this session's own texts), joined in the order of their imports by this session's own program (merge.py). -/
import Derived.Test.YtmpkckiifeikkaaJnFnLemkeTables0
import Derived.Test.YtmpkckiifeikkaaJnFnLemkeTables1
import Derived.Test.YtmpkckiifeikkaaJnFnLemkeTables3
set_option linter.unusedVariables false
set_option linter.unusedSimpArgs false
set_option maxHeartbeats 8000000
set_option maxRecDepth 100000
section
namespace Go.Proofs.Ytmpkckiifeikkaa.Pr
open Go.RowKit Go.Proofs.YtmpkckiifeikkaaW.PrintWords Go.Proofs.YtmpkckiifeikkaaW.PrintLast Go.Proofs.YtmpkckiifeikkaaW.PrintMore
attribute [local go_sem] max2_int min2_int max_two min_two max_three min_three max_four min_four
def spec_l05After.j0:Nat→List Int→Int→List (List Int)→Bool→List (List Int)→List Int→Option ((List (List Int)) × Int × List Int × Int)
 | 0,_,_,_,_,_,_=>none
 | k+1,x1,x2,x10,x35,ae,af=>if x35=true then(some (([]:List (List Int)),0,([]:List Int),2)) else(if(x10.length:Int) > 200 then(some (([]:List (List Int)),0,([]:List Int),3)) else((spec_l05Run.f k ae af x1 x2).bind fun aa=>(some (aa.1,aa.2.1,aa.2.2.1,0))))
def spec_l05After.f (k:Nat) (ae:List (List Int)) (af:List Int) (l1:List Int) (a2:Int):Option ((List (List Int)) × Int × List Int × Int):=(spec_l05Code.f k ae af l1).bind fun ag=>(if ag=0 then(if a2 < 0 then(some (([]:List (List Int)),0,([]:List Int),2)) else((spec_l05Run.f k ae af l1 201).bind fun aa=>(if(aa.2.2.2.1.length:Int)≤200 then(spec_l05After.j0 k l1 a2 aa.2.2.2.1 (decide (a2 > (aa.2.2.2.1.length:Int))) ae af) else(spec_l05After.j0 k l1 a2 aa.2.2.2.1 false ae af)))) else(some (([]:List (List Int)),0,([]:List Int),ag)))
theorem spec_l05After.mono_l: ∀k,(∀y0 y1 y2 y3 y4 y5,LeO (spec_l05After.j0 k y0 y1 y2 y3 y4 y5) (spec_l05After.j0 (k+1) y0 y1 y2 y3 y4 y5))
 | 0=>fun _ _ _ _ _ _ r h=>by simp [spec_l05After.j0] at h
 | k+1=>by
  have ih0:=spec_l05After.mono_l k
  ·intro y0 y1 y2 y3 y4 y5
   unfold spec_l05After.j0
   repeat' first
   | (with_reducible exact ih0 _ _ _ _ _ _)
   | (with_reducible exact spec_l05Code.mono _ _ _ _)
   | (with_reducible exact spec_l05Run.mono _ _ _ _ _)
   | (with_reducible exact LeO.refl _)
   | (with_reducible exact LeO.none _)
   | (with_reducible refine LeO.ite ?_ ?_)
   | (with_reducible refine LeO.bind ?_ (fun _=>?_))
   | exact ih0 _ _ _ _ _ _
   | exact spec_l05Code.mono _ _ _ _
   | exact spec_l05Run.mono _ _ _ _ _
   | exact LeO.none _
   | refine LeO.ite ?_ ?_
   | refine LeO.bind ?_ (fun _=>?_)
theorem spec_l05After.mono: ∀a0 a1 a2 a3 k,LeO (spec_l05After.f k a0 a1 a2 a3) (spec_l05After.f (k+1) a0 a1 a2 a3):=by
 intro a0 a1 a2 a3 k
 have ih0:=spec_l05After.mono_l k
 unfold spec_l05After.f
 repeat' first
   | (with_reducible exact ih0 _ _ _ _ _ _)
   | (with_reducible exact spec_l05Code.mono _ _ _ _)
   | (with_reducible exact spec_l05Run.mono _ _ _ _ _)
   | (with_reducible exact LeO.refl _)
   | (with_reducible exact LeO.none _)
   | (with_reducible refine LeO.ite ?_ ?_)
   | (with_reducible refine LeO.bind ?_ (fun _=>?_))
   | exact ih0 _ _ _ _ _ _
   | exact spec_l05Code.mono _ _ _ _
   | exact spec_l05Run.mono _ _ _ _ _
   | exact LeO.none _
   | refine LeO.ite ?_ ?_
   | refine LeO.bind ?_ (fun _=>?_)
theorem spec_l05After.calls (k:Nat) (aA:Option Addr) (aC:Nat) (ai:List (List Int)) (aD:Option Addr) (aG:Nat) (aj:List Int) (A1:Option Addr) (c1:Nat) (l1:List Int) (a2:Int) (r1:List (List Int)) (r2:Int) (r3:List Int) (r4:Int) (w:World) (bP:Kd.C (Kd.slice 2 (Kd.int .i64)) w aA ai.length ai) (bQ:ai.length≤aC) (bS:Kd.C (Kd.int .i64) w aD aj.length aj) (bT:aj.length≤aG) (hr1:Kd.C (Kd.int .i64) w A1 l1.length l1) (hc1:l1.length≤c1) (h:spec_l05After.f k ai aj l1 a2=some (r1,r2,r3,r4)):
  Calls Try.prog 85 #[.agg #[.slice aA ai.length aC, .slice aD aj.length aG], .slice A1 l1.length c1, .int .i64 a2] w fun e w'=> ∃v0_ v2_:Value,e= .returned (.tuple #[.agg #[v0_, .int .i64 r2,v2_], .int .i64 r4])∧Kd.S (Kd.slice 2 (Kd.int .i64)) 23 w' w.heap.size (fun k_=>some k_≠(v2_:Value).ownBlock) v0_ r1∧Kd.R (Kd.int .i64) 2 w' w.heap.size (fun _=>True) v2_ r3∧Below w.heap.size w w':=by
 have hu30:=Try.underlying30
 have hu100:=Try.underlying100
 have HR0_0:=q_ bP
 have HC0_0:=q_ bQ
 clear bP bQ
 have HR0_1:=q_ bS
 have HC0_1:=q_ bT
 clear bS bT
 have HR1:=q_ hr1
 have HC1:=q_ hc1
 clear hr1 hc1
 have HB:=q_ (Below.refl w.heap.size w)
 have H:((spec_l05Code.f k ai aj l1).bind fun aJ=>(if aJ=0 then(if a2 < 0 then(some (([]:List (List Int)),0,([]:List Int),2)) else((spec_l05Run.f k ai aj l1 201).bind fun aT=>(if(aT.2.2.2.1.length:Int)≤200 then(spec_l05After.j0 k l1 a2 aT.2.2.2.1 (decide (a2 > (aT.2.2.2.1.length:Int))) ai aj) else(spec_l05After.j0 k l1 a2 aT.2.2.2.1 false ai aj)))) else(some (([]:List (List Int)),0,([]:List Int),aJ))))=some (r1,r2,r3,r4):=h
 clear h
 replace H:=Option.bind_eq_some_iff.mp H
 obtain⟨aJ,A40,H⟩:=H
 replace H:(if aJ=0 then(if a2 < 0 then(some (([]:List (List Int)),0,([]:List Int),2)) else((spec_l05Run.f k ai aj l1 201).bind fun aT=>(if(aT.2.2.2.1.length:Int)≤200 then(spec_l05After.j0 k l1 a2 aT.2.2.2.1 (decide (a2 > (aT.2.2.2.1.length:Int))) ai aj) else(spec_l05After.j0 k l1 a2 aT.2.2.2.1 false ai aj)))) else(some (([]:List (List Int)),0,([]:List Int),aJ)))=some (r1,r2,r3,r4):=H
 have A4:=q_ A40
 clear A40
 by_cases c5:aJ=0
 ·rw [if_pos c5] at H
  have c5b0:(aJ==0)=true:=beq_iff_eq.mpr c5
  have c5b1:(aJ !=0)=false:=bne_eq_false_iff_eq.mpr c5
  clear c5
  by_cases c6:a2 < 0
  ·rw [if_pos c6] at H
   have c6b0:decide (a2 < 0)=true:=decide_eq_true c6
   clear c6
   simp only [Option.some.injEq,Prod.mk.injEq] at H
   obtain⟨rfl,rfl,rfl,rfl⟩:=H
   go_enter Try.func85,Try.ntmps85
   go_wp2_with (first | ((with_reducible refine gate_dst (N:=3) rfl ?_);(try (refine gate_guard (by rfl) ?_;dsimp only));refine box_event ?hg (N:=3) ?hd (cs:= #[.slice aA ai.length aC, .slice aD aj.length aG]) (t:=30) ?hr ?_;(case hd=>rfl);(case hg=>rfl);(case hr=>first | (go_simp;done) | (go_simp;rfl));intro ah hg w7 hbox hb;have ae:=q_ (hbox);have bU:=q_ ((by rw [hg];exact bz_:w.heap.size≤ah));have bV:=q_ ((by rw [hg];exact bz_:w.heap.size≤ah));replace HB:=q_ (bs_ hb);clear hb hbox hg) | ((with_reducible refine gate_dst (N:=6) rfl ?_);(try (refine gate_guard (by rfl) ?_;dsimp only));refine box_event ?hg (N:=6) ?hd (cs:= #[.slice none 0 0, .int .i64 0, .slice none 0 0]) (t:=100) ?hr ?_;(case hd=>rfl);(case hg=>rfl);(case hr=>first | (go_simp;done) | (go_simp;rfl));intro af hg w8 hbox hb;have aa:=q_ (hbox);have bW:=q_ ((by rw [hg];exact bz_:w.heap.size≤af));have bX:=q_ ((by rw [hg];exact bz_:w.heap.size≤af));have av:=q_ ((by rw [hg];exact lt_ ae.out:ah≠af));have aw:=q_ ((by rw [hg];exact gt_ ae.out:af≠ah));replace ae:=q_ (bb_ ae.out hb);replace HB:=q_ (bs_ hb);clear hb hbox hg;have fI:=av.out;have fJ:=aw.out;have bZ:w8.cell? ⟨ah,0,none⟩=some (.slice aA ai.length aC):=(blk_cell ae.out 0).trans rfl;have cm:w8.cell? ⟨ah,1,none⟩=some (.slice aD aj.length aG):=(blk_cell ae.out 1).trans rfl;have cn:=blk_frozen ae.out 0;have co:=blk_frozen ae.out 1) | ((with_reducible refine gate_callee (f:=94) rfl ?_);refine gL_ 19 Try.func94 #[.agg #[.slice aA ai.length aC, .slice aD aj.length aG], .slice A1 l1.length c1] ?_;(with_reducible refine(spec_l05Code.calls k _ _ ai _ _ aj _ _ l1 aJ _ ?aU ?aV ?aW ?aX ?aY ?aZ A4.out).mono ?_);(case aU=>exact cb_ HR0_0.out HB.out);(case aV=>exact HC0_0.out);(case aW=>exact cb_ HR0_1.out HB.out);(case aX=>exact HC0_1.out);(case aY=>exact cb_ HR1.out HB.out);(case aZ=>exact HC1.out);rintro e w11 ⟨rfl,hb⟩;refine⟨_,rfl,?_⟩;replace ae:=q_ (bb_ ae.out hb);replace aa:=q_ (bb_ aa.out hb);replace HB:=q_ (bs_ hb);(try clear hb);(try clear hb2);(try clear hk);(try clear hi);have cq:w11.cell? ⟨af,0,none⟩=some (.slice none 0 0):=(blk_cell aa.out 0).trans rfl;have ct:w11.cell? ⟨af,1,none⟩=some (.int .i64 0):=(blk_cell aa.out 1).trans rfl;have cz:w11.cell? ⟨af,2,none⟩=some (.slice none 0 0):=(blk_cell aa.out 2).trans rfl;have cA:=blk_frozen aa.out 0;have cB:=blk_frozen aa.out 1;have cC:=blk_frozen aa.out 2))
   refine bodyPost_ret (results_ct rfl _ _ af 100 #[.slice none 0 0, .int .i64 0, .slice none 0 0] (0,0) _ rfl (by(with_reducible repeat (first | refine blk_drewN ?_ _ | refine blk_drew ?_ | refine blk_alloc ?_ _));refine blk_put (cs:= #[.slice none 0 0, .int .i64 0, .slice none 0 0]) ?_ 2 _ rfl;(with_reducible repeat (first | refine blk_drewN ?_ _ | refine blk_drew ?_ | refine blk_alloc ?_ _));refine blk_put (cs:= #[.slice none 0 0, .int .i64 0, .slice none 0 0]) ?_ 1 _ rfl;(with_reducible repeat (first | refine blk_drewN ?_ _ | refine blk_drew ?_ | refine blk_alloc ?_ _));refine blk_put (cs:= #[.slice none 0 0, .int .i64 0, .slice none 0 0]) ?_ 0 _ rfl;(with_reducible repeat (first | refine blk_drewN ?_ _ | refine blk_drew ?_ | refine blk_alloc ?_ _));exact aa.out) Try.underlying100 rfl (by kernel_rfl)) rfl ?_
   exact⟨_,_,by first | rfl | (simp [errW_none,errW_some] <;> rfl) | (simp [*,errW_none,errW_some] <;> rfl),by first | exact Kd.S_nil _ _ _ _ _ | exact Kd.N_nil _ _ _ _ _ | exact Kd.V_nil _ _ _ _ _ | exact Kd.Q_nil _ _ _ _ _ | exact Kd.R_nil _ _ _ _ _,by first | exact Kd.R_nil _ _ _ _ _ | exact Kd.N_nil _ _ _ _ _ | exact Kd.V_nil _ _ _ _ _ | exact Kd.Q_nil _ _ _ _ _ | exact Kd.S_nil _ _ _ _ _,hb_⟩
  ·rw [if_neg c6] at H
   have c6b0:decide (a2 < 0)=false:=decide_eq_false c6
   clear c6
   replace H:=Option.bind_eq_some_iff.mp H
   obtain⟨⟨aH,bi,aN,ay,cV,cW⟩,A130,H⟩:=H
   replace H:(if(ay.length:Int)≤200 then(spec_l05After.j0 k l1 a2 ay (decide (a2 > (ay.length:Int))) ai aj) else(spec_l05After.j0 k l1 a2 ay false ai aj))=some (r1,r2,r3,r4):=H
   have A13:=q_ A130
   clear A130
   have HC14:=q_ H
   clear H
   go_enter Try.func85,Try.ntmps85
   go_upto_region 7 with (first | ((with_reducible refine gate_dst (N:=3) rfl ?_);(try (refine gate_guard (by rfl) ?_;dsimp only));refine box_event ?hg (N:=3) ?hd (cs:= #[.slice aA ai.length aC, .slice aD aj.length aG]) (t:=30) ?hr ?_;(case hd=>rfl);(case hg=>rfl);(case hr=>first | (go_simp;done) | (go_simp;rfl));intro ah hg w15 hbox hb;have ae:=q_ (hbox);have bU:=q_ ((by rw [hg];exact bz_:w.heap.size≤ah));have bV:=q_ ((by rw [hg];exact bz_:w.heap.size≤ah));replace HB:=q_ (bs_ hb);clear hb hbox hg) | ((with_reducible refine gate_dst (N:=6) rfl ?_);(try (refine gate_guard (by rfl) ?_;dsimp only));refine box_event ?hg (N:=6) ?hd (cs:= #[.slice none 0 0, .int .i64 0, .slice none 0 0]) (t:=100) ?hr ?_;(case hd=>rfl);(case hg=>rfl);(case hr=>first | (go_simp;done) | (go_simp;rfl));intro af hg w16 hbox hb;have aa:=q_ (hbox);have bW:=q_ ((by rw [hg];exact bz_:w.heap.size≤af));have bX:=q_ ((by rw [hg];exact bz_:w.heap.size≤af));have av:=q_ ((by rw [hg];exact lt_ ae.out:ah≠af));have aw:=q_ ((by rw [hg];exact gt_ ae.out:af≠ah));replace ae:=q_ (bb_ ae.out hb);replace HB:=q_ (bs_ hb);clear hb hbox hg;have eL:=av.out;have eM:=aw.out;have cD:w16.cell? ⟨ah,0,none⟩=some (.slice aA ai.length aC):=(blk_cell ae.out 0).trans rfl;have cE:w16.cell? ⟨ah,1,none⟩=some (.slice aD aj.length aG):=(blk_cell ae.out 1).trans rfl;have cF:=blk_frozen ae.out 0;have cG:=blk_frozen ae.out 1) | ((with_reducible refine gate_callee (f:=94) rfl ?_);refine gL_ 19 Try.func94 #[.agg #[.slice aA ai.length aC, .slice aD aj.length aG], .slice A1 l1.length c1] ?_;(with_reducible refine(spec_l05Code.calls k _ _ ai _ _ aj _ _ l1 aJ _ ?aU ?aV ?aW ?aX ?aY ?aZ A4.out).mono ?_);(case aU=>exact cb_ HR0_0.out HB.out);(case aV=>exact HC0_0.out);(case aW=>exact cb_ HR0_1.out HB.out);(case aX=>exact HC0_1.out);(case aY=>exact cb_ HR1.out HB.out);(case aZ=>exact HC1.out);rintro e w19 ⟨rfl,hb⟩;refine⟨_,rfl,?_⟩;replace ae:=q_ (bb_ ae.out hb);replace aa:=q_ (bb_ aa.out hb);replace HB:=q_ (bs_ hb);(try clear hb);(try clear hb2);(try clear hk);(try clear hi);have cH:w19.cell? ⟨ah,0,none⟩=some (.slice aA ai.length aC):=(blk_cell ae.out 0).trans rfl;have cI:w19.cell? ⟨ah,1,none⟩=some (.slice aD aj.length aG):=(blk_cell ae.out 1).trans rfl;have cJ:=blk_frozen ae.out 0;have cK:=blk_frozen ae.out 1) | ((with_reducible refine gate_callee (f:=95) rfl ?_);refine gL_ 30 Try.func95 #[.agg #[.slice aA ai.length aC, .slice aD aj.length aG], .slice A1 l1.length c1, .int .i64 201] ?_;(with_reducible refine(spec_l05Run.calls k _ _ ai _ _ aj _ _ l1 201 aH bi aN ay cV cW _ ?aU ?aV ?aW ?aX ?aY ?aZ A13.out).mono ?_);(case aU=>exact cb_ HR0_0.out HB.out);(case aV=>exact HC0_0.out);(case aW=>exact cb_ HR0_1.out HB.out);(case aX=>exact HC0_1.out);(case aY=>exact cb_ HR1.out HB.out);(case aZ=>exact HC1.out);rintro e w21 ⟨fK,fL,cU,rfl,ho0,ho1,ho2,hb⟩;refine⟨_,rfl,?_⟩;have bB:=q_ (Kd.S_lower ho0 bz_);have bC:=q_ (Kd.R_lower ho1 bz_);have bv:=q_ (Kd.S_lower ho2 bz_);replace ae:=q_ (bb_ ae.out hb);replace aa:=q_ (bb_ aa.out hb);replace HB:=q_ (bs_ hb);(try clear hb);(try clear hb2);(try clear hk);(try clear hi);(try clear ho0);(try clear ho1);(try clear ho2)) | ((with_reducible refine gate_dst (N:=9) rfl ?_);(try (refine gate_guard (by rfl) ?_;dsimp only));refine box_event ?hg (N:=9) ?hd (cs:= #[.slice none 0 0, .int .i64 0, .slice none 0 0]) (t:=100) ?hr ?_;(case hd=>rfl);(case hg=>rfl);(case hr=>first | (go_simp;done) | (go_simp;rfl));intro ag hg w22 hbox hb;replace bB:=q_ (Kd.S_below (so_ bB.out) hb);replace bC:=q_ (rb_ bC.out hb);replace bv:=q_ (Kd.S_below (so_ bv.out) hb);have ak:=q_ (hbox);have eO:=q_ ((by rw [hg];exact bz_:w.heap.size≤ag));have eP:=q_ ((by rw [hg];exact bz_:w.heap.size≤ag));have ax:=q_ ((by rw [hg];exact lt_ ae.out:ah≠ag));have bE:=q_ ((by rw [hg];exact gt_ ae.out:ag≠ah));have aq:=q_ ((by rw [hg];exact lt_ aa.out:af≠ag));have a9:=q_ ((by rw [hg];exact gt_ aa.out:ag≠af));replace ae:=q_ (bb_ ae.out hb);replace aa:=q_ (bb_ aa.out hb);replace HB:=q_ (bs_ hb);clear hb hbox hg;obtain⟨aK,aM,cZ⟩:=Kd.S_slice bB.out;subst cZ;have eQ:=bE.out;have eS:=ax.out;have eT:=a9.out;have eU:=aq.out;have cL:w22.cell? ⟨ag,0,none⟩=some (.slice none 0 0):=(blk_cell ak.out 0).trans rfl;have cN:w22.cell? ⟨ag,1,none⟩=some (.int .i64 0):=(blk_cell ak.out 1).trans rfl;have cO:w22.cell? ⟨ag,2,none⟩=some (.slice none 0 0):=(blk_cell ak.out 2).trans rfl;have cP:=blk_frozen ak.out 0;have cQ:=blk_frozen ak.out 1;have cT:=blk_frozen ak.out 2;obtain⟨bk,bn,da⟩:=Kd.R_slice bC.out;subst da))
   (try simp only [Act.put,List.setIfInBounds_toArray,List.set_cons_zero,List.set_cons_succ])
   go_cut [35] (fun v35 wc=> ∃(kq:Nat) (bD:Bool),v35= .bool bD∧Aside0 (spec_l05After.j0 kq l1 a2 ay bD ai aj=some (r1,r2,r3,r4))∧Aside0 (kq≤k)∧Aside0 (Kd.S (Kd.slice 2 (Kd.int .i64)) 23 wc w.heap.size (fun k_=>some k_≠((.slice aK aH.length aM):Value).ownBlock∧some k_≠((.slice bk aN.length bn):Value).ownBlock) cU ay)∧Aside0 (Kd.S (Kd.slice 2 (Kd.int .i64)) 23 wc w.heap.size (fun k_=>some k_≠(cU:Value).ownBlock∧some k_≠((.slice bk aN.length bn):Value).ownBlock) (.slice aK aH.length aM) aH)∧Aside0 (Kd.R (Kd.int .i64) 2 wc w.heap.size (fun _=>True) (.slice bk aN.length bn) aN)∧Aside0 (wc.heap[ah]?=some (.cells #[(.slice aA ai.length aC),(.slice aD aj.length aG)] 30 (0,0)))∧Aside0 (wc.heap[af]?=some (.cells #[(.slice none 0 0), .int .i64 0,(.slice none 0 0)] 100 (0,0)))∧Aside0 (wc.heap[ag]?=some (.cells #[(.slice aK aH.length aM), .int .i64 bi,(.slice bk aN.length bn)] 100 (0,0)))∧Aside0 (Below w.heap.size w wc))
   case first=>
    have H:=HC14.out
    clear HC14
    by_cases c28:(ay.length:Int)≤200
    ·rw [if_pos c28] at H
     have c28b0:decide ((ay.length:Int)≤200)=true:=decide_eq_true c28
     have c28b1:decide (ay.length≤200)=true:=decide_eq_true (by omega)
     clear c28
     (first | rw [c28b0] | (simp only [i64_w,i32_w];rw [c28b0]) | skip)
     have H':=q_ H
     clear H
     obtain⟨fM,fN,db⟩:=Kd.S_slice bv.out
     subst db
     go_wp2
     go_meet
     case rel=>exact⟨_,(decide (a2 > (ay.length:Int))),rs_,H',⟨by first | omega | exact Nat.le_refl _⟩,⟨by(with_reducible repeat (first | apply Kd.S_alloc | apply Kd.S_drewN | apply Kd.S_drew));exact Kd.S_mono (Kd.S_far (p:=⟨ag,2,none⟩) (Kd.S_far (p:=⟨ag,1,none⟩) (Kd.S_far (p:=⟨ag,0,none⟩) (Kd.S_types bv.out ak.out (by decide)) (fun _ hk=>hk.2) (.slice aK aH.length aM)) (fun _ hk=>hk.2) (.int .i64 bi)) (fun _ hk=>hk.2) (.slice bk aN.length bn)) (fun _ hk=>⟨hk.1.1,hk.1.2⟩)⟩,⟨by(with_reducible repeat (first | apply Kd.S_alloc | apply Kd.S_drewN | apply Kd.S_drew));exact Kd.S_mono (Kd.S_far (p:=⟨ag,2,none⟩) (Kd.S_far (p:=⟨ag,1,none⟩) (Kd.S_far (p:=⟨ag,0,none⟩) (Kd.S_types bB.out ak.out (by decide)) (fun _ hk=>hk.2) (.slice aK aH.length aM)) (fun _ hk=>hk.2) (.int .i64 bi)) (fun _ hk=>hk.2) (.slice bk aN.length bn)) (fun _ hk=>⟨hk.1.2,hk.1.1⟩)⟩,⟨by(with_reducible repeat (first | apply Kd.R_alloc | apply Kd.R_drewN | apply Kd.R_drew));exact Kd.R_mono (Kd.R_far (p:=⟨ag,2,none⟩) (Kd.R_far (p:=⟨ag,1,none⟩) (Kd.R_far (p:=⟨ag,0,none⟩) (Kd.R_types bC.out ak.out (by decide)) (fun _ hk=>hk.2) (.slice aK aH.length aM)) (fun _ hk=>hk.2) (.int .i64 bi)) (fun _ hk=>hk.2) (.slice bk aN.length bn)) (fun _ hk=>trivial)⟩,⟨by(with_reducible repeat (first | refine blk_drewN ?_ _ | refine blk_drew ?_ | refine blk_alloc ?_ _));refine blk_far ?_ ax.out _;(with_reducible repeat (first | refine blk_drewN ?_ _ | refine blk_drew ?_ | refine blk_alloc ?_ _));refine blk_far ?_ ax.out _;(with_reducible repeat (first | refine blk_drewN ?_ _ | refine blk_drew ?_ | refine blk_alloc ?_ _));refine blk_far ?_ ax.out _;(with_reducible repeat (first | refine blk_drewN ?_ _ | refine blk_drew ?_ | refine blk_alloc ?_ _));exact ae.out⟩,⟨by(with_reducible repeat (first | refine blk_drewN ?_ _ | refine blk_drew ?_ | refine blk_alloc ?_ _));refine blk_far ?_ aq.out _;(with_reducible repeat (first | refine blk_drewN ?_ _ | refine blk_drew ?_ | refine blk_alloc ?_ _));refine blk_far ?_ aq.out _;(with_reducible repeat (first | refine blk_drewN ?_ _ | refine blk_drew ?_ | refine blk_alloc ?_ _));refine blk_far ?_ aq.out _;(with_reducible repeat (first | refine blk_drewN ?_ _ | refine blk_drew ?_ | refine blk_alloc ?_ _));exact aa.out⟩,⟨by(with_reducible repeat (first | refine blk_drewN ?_ _ | refine blk_drew ?_ | refine blk_alloc ?_ _));refine blk_put (cs:= #[.slice aK aH.length aM, .int .i64 bi, .slice none 0 0]) ?_ 2 _ rfl;(with_reducible repeat (first | refine blk_drewN ?_ _ | refine blk_drew ?_ | refine blk_alloc ?_ _));refine blk_put (cs:= #[.slice aK aH.length aM, .int .i64 0, .slice none 0 0]) ?_ 1 _ rfl;(with_reducible repeat (first | refine blk_drewN ?_ _ | refine blk_drew ?_ | refine blk_alloc ?_ _));refine blk_put (cs:= #[.slice none 0 0, .int .i64 0, .slice none 0 0]) ?_ 0 _ rfl;(with_reducible repeat (first | refine blk_drewN ?_ _ | refine blk_drew ?_ | refine blk_alloc ?_ _));exact ak.out⟩,⟨hb_⟩⟩
    ·rw [if_neg c28] at H
     have c28b0:decide ((ay.length:Int)≤200)=false:=decide_eq_false c28
     have c28b1:decide (ay.length≤200)=false:=decide_eq_false (by omega)
     clear c28
     (first | rw [c28b0] | (simp only [i64_w,i32_w];rw [c28b0]) | skip)
     have H':=q_ H
     clear H
     obtain⟨fO,fP,df⟩:=Kd.S_slice bv.out
     subst df
     go_wp2
     go_meet
     case rel=>exact⟨_,(false),rs_,H',⟨by first | omega | exact Nat.le_refl _⟩,⟨by(with_reducible repeat (first | apply Kd.S_alloc | apply Kd.S_drewN | apply Kd.S_drew));exact Kd.S_mono (Kd.S_far (p:=⟨ag,2,none⟩) (Kd.S_far (p:=⟨ag,1,none⟩) (Kd.S_far (p:=⟨ag,0,none⟩) (Kd.S_types bv.out ak.out (by decide)) (fun _ hk=>hk.2) (.slice aK aH.length aM)) (fun _ hk=>hk.2) (.int .i64 bi)) (fun _ hk=>hk.2) (.slice bk aN.length bn)) (fun _ hk=>⟨hk.1.1,hk.1.2⟩)⟩,⟨by(with_reducible repeat (first | apply Kd.S_alloc | apply Kd.S_drewN | apply Kd.S_drew));exact Kd.S_mono (Kd.S_far (p:=⟨ag,2,none⟩) (Kd.S_far (p:=⟨ag,1,none⟩) (Kd.S_far (p:=⟨ag,0,none⟩) (Kd.S_types bB.out ak.out (by decide)) (fun _ hk=>hk.2) (.slice aK aH.length aM)) (fun _ hk=>hk.2) (.int .i64 bi)) (fun _ hk=>hk.2) (.slice bk aN.length bn)) (fun _ hk=>⟨hk.1.2,hk.1.1⟩)⟩,⟨by(with_reducible repeat (first | apply Kd.R_alloc | apply Kd.R_drewN | apply Kd.R_drew));exact Kd.R_mono (Kd.R_far (p:=⟨ag,2,none⟩) (Kd.R_far (p:=⟨ag,1,none⟩) (Kd.R_far (p:=⟨ag,0,none⟩) (Kd.R_types bC.out ak.out (by decide)) (fun _ hk=>hk.2) (.slice aK aH.length aM)) (fun _ hk=>hk.2) (.int .i64 bi)) (fun _ hk=>hk.2) (.slice bk aN.length bn)) (fun _ hk=>trivial)⟩,⟨by(with_reducible repeat (first | refine blk_drewN ?_ _ | refine blk_drew ?_ | refine blk_alloc ?_ _));refine blk_far ?_ ax.out _;(with_reducible repeat (first | refine blk_drewN ?_ _ | refine blk_drew ?_ | refine blk_alloc ?_ _));refine blk_far ?_ ax.out _;(with_reducible repeat (first | refine blk_drewN ?_ _ | refine blk_drew ?_ | refine blk_alloc ?_ _));refine blk_far ?_ ax.out _;(with_reducible repeat (first | refine blk_drewN ?_ _ | refine blk_drew ?_ | refine blk_alloc ?_ _));exact ae.out⟩,⟨by(with_reducible repeat (first | refine blk_drewN ?_ _ | refine blk_drew ?_ | refine blk_alloc ?_ _));refine blk_far ?_ aq.out _;(with_reducible repeat (first | refine blk_drewN ?_ _ | refine blk_drew ?_ | refine blk_alloc ?_ _));refine blk_far ?_ aq.out _;(with_reducible repeat (first | refine blk_drewN ?_ _ | refine blk_drew ?_ | refine blk_alloc ?_ _));refine blk_far ?_ aq.out _;(with_reducible repeat (first | refine blk_drewN ?_ _ | refine blk_drew ?_ | refine blk_alloc ?_ _));exact aa.out⟩,⟨by(with_reducible repeat (first | refine blk_drewN ?_ _ | refine blk_drew ?_ | refine blk_alloc ?_ _));refine blk_put (cs:= #[.slice aK aH.length aM, .int .i64 bi, .slice none 0 0]) ?_ 2 _ rfl;(with_reducible repeat (first | refine blk_drewN ?_ _ | refine blk_drew ?_ | refine blk_alloc ?_ _));refine blk_put (cs:= #[.slice aK aH.length aM, .int .i64 0, .slice none 0 0]) ?_ 1 _ rfl;(with_reducible repeat (first | refine blk_drewN ?_ _ | refine blk_drew ?_ | refine blk_alloc ?_ _));refine blk_put (cs:= #[.slice none 0 0, .int .i64 0, .slice none 0 0]) ?_ 0 _ rfl;(with_reducible repeat (first | refine blk_drewN ?_ _ | refine blk_drew ?_ | refine blk_alloc ?_ _));exact ak.out⟩,⟨hb_⟩⟩
   case rest=>
    clear HC14
    try clear c1
    try clear c2
    try clear p2
    try clear c5
    try clear c5b0
    try clear c5b1
    try clear c6
    try clear c6b0
    try clear c8
    try clear c9
    try clear c17
    try clear c24
    try clear c25
    try clear c28
    try clear c28b0
    try clear c28b1
    try clear bZ
    try clear cm
    try clear cq
    try clear ct
    try clear cz
    try clear cD
    try clear cE
    try clear cH
    try clear cI
    try clear cL
    try clear cN
    try clear cO
    try clear cn
    try clear co
    try clear cA
    try clear cB
    try clear cC
    try clear cF
    try clear cG
    try clear cJ
    try clear cK
    try clear cP
    try clear cQ
    try clear cT
    obtain⟨kq,bD,rfl,HA,HJ13,ba,aI,az,ae,aa,ak,HB⟩:=hcut
    cases kq with
    | zero=>exact absurd HA.out (by simp [spec_l05After.j0])
    | succ kj13=>
     have H:=HA.out
     clear HA
     simp only [spec_l05After.j0] at H
     by_cases c31:bD=true
     ·subst c31
      have H1:(some (([]:List (List Int)),0,([]:List Int),2))=some (r1,r2,r3,r4):=by rw [if_pos rfl] at H;exact H
      clear H
      have H:=H1
      clear H1
      simp only [Option.some.injEq,Prod.mk.injEq] at H
      obtain⟨rfl,rfl,rfl,rfl⟩:=H
      have eV:=aw.out
      have eW:=av.out
      have eX:=aq.out
      have eY:=a9.out
      have dz:wc.cell? ⟨af,0,none⟩=some (.slice none 0 0):=(blk_cell aa.out 0).trans rfl
      have dA:wc.cell? ⟨af,1,none⟩=some (.int .i64 0):=(blk_cell aa.out 1).trans rfl
      have dB:wc.cell? ⟨af,2,none⟩=some (.slice none 0 0):=(blk_cell aa.out 2).trans rfl
      have dC:=blk_frozen aa.out 0
      have dD:=blk_frozen aa.out 1
      have dE:=blk_frozen aa.out 2
      go_wp2
      refine bodyPost_ret (results_ct rfl _ _ af 100 #[.slice none 0 0, .int .i64 0, .slice none 0 0] (0,0) _ rfl (by(with_reducible repeat (first | refine blk_drewN ?_ _ | refine blk_drew ?_ | refine blk_alloc ?_ _));refine blk_put (cs:= #[.slice none 0 0, .int .i64 0, .slice none 0 0]) ?_ 2 _ rfl;(with_reducible repeat (first | refine blk_drewN ?_ _ | refine blk_drew ?_ | refine blk_alloc ?_ _));refine blk_put (cs:= #[.slice none 0 0, .int .i64 0, .slice none 0 0]) ?_ 1 _ rfl;(with_reducible repeat (first | refine blk_drewN ?_ _ | refine blk_drew ?_ | refine blk_alloc ?_ _));refine blk_put (cs:= #[.slice none 0 0, .int .i64 0, .slice none 0 0]) ?_ 0 _ rfl;(with_reducible repeat (first | refine blk_drewN ?_ _ | refine blk_drew ?_ | refine blk_alloc ?_ _));exact aa.out) Try.underlying100 rfl (by kernel_rfl)) rfl ?_
      exact⟨_,_,by first | rfl | (simp [errW_none,errW_some] <;> rfl) | (simp [*,errW_none,errW_some] <;> rfl),by first | exact Kd.S_nil _ _ _ _ _ | exact Kd.N_nil _ _ _ _ _ | exact Kd.V_nil _ _ _ _ _ | exact Kd.Q_nil _ _ _ _ _ | exact Kd.R_nil _ _ _ _ _,by first | exact Kd.R_nil _ _ _ _ _ | exact Kd.N_nil _ _ _ _ _ | exact Kd.V_nil _ _ _ _ _ | exact Kd.Q_nil _ _ _ _ _ | exact Kd.S_nil _ _ _ _ _,hb_⟩
     ·replace c31:=Bool.eq_false_iff.mpr c31
      subst c31
      have H1:(if(ay.length:Int) > 200 then(some (([]:List (List Int)),0,([]:List Int),3)) else((spec_l05Run.f kj13 ai aj l1 a2).bind fun bJ=>(some (bJ.1,bJ.2.1,bJ.2.2.1,0))))=some (r1,r2,r3,r4):=by rw [if_neg (show ¬ (false=true) by decide)] at H;exact H
      clear H
      have H:=H1
      clear H1
      by_cases c35:(ay.length:Int) > 200
      ·rw [if_pos c35] at H
       have c35b0:decide (200 < (ay.length:Int))=true:=decide_eq_true c35
       have c35b1:decide (200 < ay.length)=true:=decide_eq_true (by omega)
       clear c35
       simp only [Option.some.injEq,Prod.mk.injEq] at H
       obtain⟨rfl,rfl,rfl,rfl⟩:=H
       obtain⟨fQ,fR,dh⟩:=Kd.S_slice ba.out
       subst dh
       have eZ:=aw.out
       have fa:=av.out
       have fc:=aq.out
       have fe:=a9.out
       have dF:wc.cell? ⟨af,0,none⟩=some (.slice none 0 0):=(blk_cell aa.out 0).trans rfl
       have dG:wc.cell? ⟨af,1,none⟩=some (.int .i64 0):=(blk_cell aa.out 1).trans rfl
       have dH:wc.cell? ⟨af,2,none⟩=some (.slice none 0 0):=(blk_cell aa.out 2).trans rfl
       have dI:=blk_frozen aa.out 0
       have dJ:=blk_frozen aa.out 1
       have dK:=blk_frozen aa.out 2
       go_wp2
       refine bodyPost_ret (results_ct rfl _ _ af 100 #[.slice none 0 0, .int .i64 0, .slice none 0 0] (0,0) _ rfl (by(with_reducible repeat (first | refine blk_drewN ?_ _ | refine blk_drew ?_ | refine blk_alloc ?_ _));refine blk_put (cs:= #[.slice none 0 0, .int .i64 0, .slice none 0 0]) ?_ 2 _ rfl;(with_reducible repeat (first | refine blk_drewN ?_ _ | refine blk_drew ?_ | refine blk_alloc ?_ _));refine blk_put (cs:= #[.slice none 0 0, .int .i64 0, .slice none 0 0]) ?_ 1 _ rfl;(with_reducible repeat (first | refine blk_drewN ?_ _ | refine blk_drew ?_ | refine blk_alloc ?_ _));refine blk_put (cs:= #[.slice none 0 0, .int .i64 0, .slice none 0 0]) ?_ 0 _ rfl;(with_reducible repeat (first | refine blk_drewN ?_ _ | refine blk_drew ?_ | refine blk_alloc ?_ _));exact aa.out) Try.underlying100 rfl (by kernel_rfl)) rfl ?_
       exact⟨_,_,by first | rfl | (simp [errW_none,errW_some] <;> rfl) | (simp [*,errW_none,errW_some] <;> rfl),by first | exact Kd.S_nil _ _ _ _ _ | exact Kd.N_nil _ _ _ _ _ | exact Kd.V_nil _ _ _ _ _ | exact Kd.Q_nil _ _ _ _ _ | exact Kd.R_nil _ _ _ _ _,by first | exact Kd.R_nil _ _ _ _ _ | exact Kd.N_nil _ _ _ _ _ | exact Kd.V_nil _ _ _ _ _ | exact Kd.Q_nil _ _ _ _ _ | exact Kd.S_nil _ _ _ _ _,hb_⟩
      ·rw [if_neg c35] at H
       have c35b0:decide (200 < (ay.length:Int))=false:=decide_eq_false c35
       have c35b1:decide (200 < ay.length)=false:=decide_eq_false (by omega)
       clear c35
       replace H:=Option.bind_eq_some_iff.mp H
       obtain⟨⟨bq,bu,bw,di,dl,dr⟩,A400,H⟩:=H
       replace H:(some (bq,bu,bw,0))=some (r1,r2,r3,r4):=H
       have A40:=q_ A400
       clear A400
       simp only [Option.some.injEq,Prod.mk.injEq] at H
       obtain⟨rfl,rfl,rfl,rfl⟩:=H
       obtain⟨fS,fT,du⟩:=Kd.S_slice ba.out
       subst du
       have fg:=av.out
       have fj:=aw.out
       have fk:=ax.out
       have fo:=bE.out
       have dL:wc.cell? ⟨ah,0,none⟩=some (.slice aA ai.length aC):=(blk_cell ae.out 0).trans rfl
       have dM:wc.cell? ⟨ah,1,none⟩=some (.slice aD aj.length aG):=(blk_cell ae.out 1).trans rfl
       have dN:=blk_frozen ae.out 0
       have dO:=blk_frozen ae.out 1
       go_wp2_with (first | ((with_reducible refine gate_callee (f:=95) rfl ?_);refine gL_ 55 Try.func95 #[.agg #[.slice aA ai.length aC, .slice aD aj.length aG], .slice A1 l1.length c1, .int .i64 a2] ?_;(with_reducible refine(spec_l05Run.calls kj13 _ _ ai _ _ aj _ _ l1 a2 bq bu bw di dl dr _ ?aU ?aV ?aW ?aX ?aY ?aZ A40.out).mono ?_);(case aU=>exact cb_ HR0_0.out HB.out);(case aV=>exact HC0_0.out);(case aW=>exact cb_ HR0_1.out HB.out);(case aX=>exact HC0_1.out);(case aY=>exact cb_ HR1.out HB.out);(case aZ=>exact HC1.out);rintro e w45 ⟨fU,fW,fZ,rfl,ho0,ho1,ho2,hb⟩;refine⟨_,rfl,?_⟩;have bF:=q_ (Kd.S_lower (Kd.S_new' (Kd.S_new' (Kd.S_new' ho0 (Kd.S_lt (so_ ba.out))) (Kd.S_lt (so_ aI.out))) (Kd.R_lt (ro_ az.out))) bz_);have bG:=q_ (Kd.R_lower (Kd.R_new' ho1 (Kd.R_lt (ro_ az.out))) bz_);have bY:=q_ (Kd.S_lower (Kd.S_new' (Kd.S_new' (Kd.S_new' ho2 (Kd.S_lt (so_ ba.out))) (Kd.S_lt (so_ aI.out))) (Kd.R_lt (ro_ az.out))) bz_);replace ae:=q_ (bb_ ae.out hb);replace aa:=q_ (bb_ aa.out hb);replace ak:=q_ (bb_ ak.out hb);replace ba:=q_ (Kd.S_mono (Kd.S_told (Kd.S_told (Kd.S_told (Kd.S_old (so_ ba.out) hb) (Kd.S_base ho0)) (Kd.R_base ho1)) (Kd.S_base ho2)) (fun _ h_=>h_.1));replace aI:=q_ (Kd.S_mono (Kd.S_told (Kd.S_told (Kd.S_told (Kd.S_old (so_ aI.out) hb) (Kd.S_base ho0)) (Kd.R_base ho1)) (Kd.S_base ho2)) (fun _ h_=>h_.1));replace az:=q_ (Kd.R_elder' (ro_ az.out) (Kd.R_base ho1) hb);replace HB:=q_ (bs_ hb);(try clear hb);(try clear hb2);(try clear hk);(try clear hi);(try clear ho0);(try clear ho1);(try clear ho2)) | ((with_reducible refine gate_dst (N:=13) rfl ?_);(try (refine gate_guard (by rfl) ?_;dsimp only));refine box_event ?hg (N:=13) ?hd (cs:= #[.slice none 0 0, .int .i64 0, .slice none 0 0]) (t:=100) ?hr ?_;(case hd=>rfl);(case hg=>rfl);(case hr=>first | (go_simp;done) | (go_simp;rfl));intro au hg w46 hbox hb;replace ba:=q_ (Kd.S_below (so_ ba.out) hb);replace aI:=q_ (Kd.S_below (so_ aI.out) hb);replace az:=q_ (rb_ az.out hb);replace bF:=q_ (Kd.S_below (so_ bF.out) hb);replace bG:=q_ (rb_ bG.out hb);replace bY:=q_ (Kd.S_below (so_ bY.out) hb);have bg:=q_ (hbox);have fp:=q_ ((by rw [hg];exact bz_:w.heap.size≤au));have fq:=q_ ((by rw [hg];exact bz_:w.heap.size≤au));have bK:=q_ ((by rw [hg];exact lt_ ae.out:ah≠au));have bL:=q_ ((by rw [hg];exact gt_ ae.out:au≠ah));have bh:=q_ ((by rw [hg];exact lt_ aa.out:af≠au));have bM:=q_ ((by rw [hg];exact gt_ aa.out:au≠af));have bN:=q_ ((by rw [hg];exact lt_ ak.out:ag≠au));have bO:=q_ ((by rw [hg];exact gt_ ak.out:au≠ag));replace ae:=q_ (bb_ ae.out hb);replace aa:=q_ (bb_ aa.out hb);replace ak:=q_ (bb_ ak.out hb);replace HB:=q_ (bs_ hb);clear hb hbox hg;obtain⟨bz,bA,dw⟩:=Kd.S_slice bF.out;subst dw;have fu:=bL.out;have fw:=bK.out;have fA:=bM.out;have fB:=bh.out;have fC:=bO.out;have fD:=bN.out;have dP:w46.cell? ⟨au,0,none⟩=some (.slice none 0 0):=(blk_cell bg.out 0).trans rfl;have dQ:w46.cell? ⟨au,1,none⟩=some (.int .i64 0):=(blk_cell bg.out 1).trans rfl;have dR:w46.cell? ⟨au,2,none⟩=some (.slice none 0 0):=(blk_cell bg.out 2).trans rfl;have dS:=blk_frozen bg.out 0;have dU:=blk_frozen bg.out 1;have dV:=blk_frozen bg.out 2;obtain⟨bH,bI,dx⟩:=Kd.R_slice bG.out;subst dx;have fE:=aq.out;have fF:=a9.out;have dW:w46.cell? ⟨af,0,none⟩=some (.slice none 0 0):=(blk_cell aa.out 0).trans rfl;have dX:w46.cell? ⟨af,1,none⟩=some (.int .i64 0):=(blk_cell aa.out 1).trans rfl;have dY:w46.cell? ⟨af,2,none⟩=some (.slice none 0 0):=(blk_cell aa.out 2).trans rfl;have dZ:=blk_frozen aa.out 0;have d9:=blk_frozen aa.out 1;have ep:=blk_frozen aa.out 2))
       refine bodyPost_ret (results_ct rfl _ _ af 100 #[.slice bz bq.length bA, .int .i64 bu, .slice bH bw.length bI] (0,0) _ rfl (by(with_reducible repeat (first | refine blk_drewN ?_ _ | refine blk_drew ?_ | refine blk_alloc ?_ _));refine blk_put (cs:= #[.slice bz bq.length bA, .int .i64 bu, .slice none 0 0]) ?_ 2 _ rfl;(with_reducible repeat (first | refine blk_drewN ?_ _ | refine blk_drew ?_ | refine blk_alloc ?_ _));refine blk_put (cs:= #[.slice bz bq.length bA, .int .i64 0, .slice none 0 0]) ?_ 1 _ rfl;(with_reducible repeat (first | refine blk_drewN ?_ _ | refine blk_drew ?_ | refine blk_alloc ?_ _));refine blk_put (cs:= #[.slice none 0 0, .int .i64 0, .slice none 0 0]) ?_ 0 _ rfl;(with_reducible repeat (first | refine blk_drewN ?_ _ | refine blk_drew ?_ | refine blk_alloc ?_ _));refine blk_far ?_ bh.out _;(with_reducible repeat (first | refine blk_drewN ?_ _ | refine blk_drew ?_ | refine blk_alloc ?_ _));refine blk_far ?_ bh.out _;(with_reducible repeat (first | refine blk_drewN ?_ _ | refine blk_drew ?_ | refine blk_alloc ?_ _));refine blk_far ?_ bh.out _;(with_reducible repeat (first | refine blk_drewN ?_ _ | refine blk_drew ?_ | refine blk_alloc ?_ _));exact aa.out) Try.underlying100 rfl (by kernel_rfl)) rfl ?_
       exact⟨_,_,by first | rfl | (simp [errW_none,errW_some] <;> rfl) | (simp [*,errW_none,errW_some] <;> rfl),by(with_reducible repeat (first | apply Kd.S_alloc | apply Kd.S_drewN | apply Kd.S_drew));exact Kd.S_mono (Kd.S_far (p:=⟨af,2,none⟩) (Kd.S_far (p:=⟨af,1,none⟩) (Kd.S_far (p:=⟨af,0,none⟩) (Kd.S_far (p:=⟨au,2,none⟩) (Kd.S_far (p:=⟨au,1,none⟩) (Kd.S_far (p:=⟨au,0,none⟩) (Kd.S_types (Kd.S_types bF.out bg.out (by decide)) aa.out (by decide)) (fun _ hk=>hk.1.2) (.slice bz bq.length bA)) (fun _ hk=>hk.1.2) (.int .i64 bu)) (fun _ hk=>hk.1.2) (.slice bH bw.length bI)) (fun _ hk=>hk.2) (.slice bz bq.length bA)) (fun _ hk=>hk.2) (.int .i64 bu)) (fun _ hk=>hk.2) (.slice bH bw.length bI)) (fun _ hk=>hk.1.1.1.1.1.1),by(with_reducible repeat (first | apply Kd.R_alloc | apply Kd.R_drewN | apply Kd.R_drew));exact Kd.R_mono (Kd.R_far (p:=⟨af,2,none⟩) (Kd.R_far (p:=⟨af,1,none⟩) (Kd.R_far (p:=⟨af,0,none⟩) (Kd.R_far (p:=⟨au,2,none⟩) (Kd.R_far (p:=⟨au,1,none⟩) (Kd.R_far (p:=⟨au,0,none⟩) (Kd.R_types (Kd.R_types bG.out bg.out (by decide)) aa.out (by decide)) (fun _ hk=>hk.1.2) (.slice bz bq.length bA)) (fun _ hk=>hk.1.2) (.int .i64 bu)) (fun _ hk=>hk.1.2) (.slice bH bw.length bI)) (fun _ hk=>hk.2) (.slice bz bq.length bA)) (fun _ hk=>hk.2) (.int .i64 bu)) (fun _ hk=>hk.2) (.slice bH bw.length bI)) (fun _ hk=>trivial),hb_⟩
 ·rw [if_neg c5] at H
  have c5b0:(aJ==0)=false:=beq_eq_false_iff_ne.mpr c5
  have c5b1:(aJ !=0)=true:=bne_iff_ne.mpr c5
  simp only [Option.some.injEq,Prod.mk.injEq] at H
  obtain⟨rfl,rfl,rfl,rfl⟩:=H
  go_enter Try.func85,Try.ntmps85
  go_wp2_with (first | ((with_reducible refine gate_dst (N:=3) rfl ?_);(try (refine gate_guard (by rfl) ?_;dsimp only));refine box_event ?hg (N:=3) ?hd (cs:= #[.slice aA ai.length aC, .slice aD aj.length aG]) (t:=30) ?hr ?_;(case hd=>rfl);(case hg=>rfl);(case hr=>first | (go_simp;done) | (go_simp;rfl));intro ah hg w55 hbox hb;have ae:=q_ (hbox);have bU:=q_ ((by rw [hg];exact bz_:w.heap.size≤ah));have bV:=q_ ((by rw [hg];exact bz_:w.heap.size≤ah));replace HB:=q_ (bs_ hb);clear hb hbox hg) | ((with_reducible refine gate_dst (N:=6) rfl ?_);(try (refine gate_guard (by rfl) ?_;dsimp only));refine box_event ?hg (N:=6) ?hd (cs:= #[.slice none 0 0, .int .i64 0, .slice none 0 0]) (t:=100) ?hr ?_;(case hd=>rfl);(case hg=>rfl);(case hr=>first | (go_simp;done) | (go_simp;rfl));intro af hg w56 hbox hb;have aa:=q_ (hbox);have bW:=q_ ((by rw [hg];exact bz_:w.heap.size≤af));have bX:=q_ ((by rw [hg];exact bz_:w.heap.size≤af));have av:=q_ ((by rw [hg];exact lt_ ae.out:ah≠af));have aw:=q_ ((by rw [hg];exact gt_ ae.out:af≠ah));replace ae:=q_ (bb_ ae.out hb);replace HB:=q_ (bs_ hb);clear hb hbox hg;have fG:=av.out;have fH:=aw.out;have ez:w56.cell? ⟨ah,0,none⟩=some (.slice aA ai.length aC):=(blk_cell ae.out 0).trans rfl;have eB:w56.cell? ⟨ah,1,none⟩=some (.slice aD aj.length aG):=(blk_cell ae.out 1).trans rfl;have eC:=blk_frozen ae.out 0;have eD:=blk_frozen ae.out 1) | ((with_reducible refine gate_callee (f:=94) rfl ?_);refine gL_ 19 Try.func94 #[.agg #[.slice aA ai.length aC, .slice aD aj.length aG], .slice A1 l1.length c1] ?_;(with_reducible refine(spec_l05Code.calls k _ _ ai _ _ aj _ _ l1 aJ _ ?aU ?aV ?aW ?aX ?aY ?aZ A4.out).mono ?_);(case aU=>exact cb_ HR0_0.out HB.out);(case aV=>exact HC0_0.out);(case aW=>exact cb_ HR0_1.out HB.out);(case aX=>exact HC0_1.out);(case aY=>exact cb_ HR1.out HB.out);(case aZ=>exact HC1.out);rintro e w59 ⟨rfl,hb⟩;refine⟨_,rfl,?_⟩;replace ae:=q_ (bb_ ae.out hb);replace aa:=q_ (bb_ aa.out hb);replace HB:=q_ (bs_ hb);(try clear hb);(try clear hb2);(try clear hk);(try clear hi);have eF:w59.cell? ⟨af,0,none⟩=some (.slice none 0 0):=(blk_cell aa.out 0).trans rfl;have eG:w59.cell? ⟨af,1,none⟩=some (.int .i64 0):=(blk_cell aa.out 1).trans rfl;have eH:w59.cell? ⟨af,2,none⟩=some (.slice none 0 0):=(blk_cell aa.out 2).trans rfl;have eI:=blk_frozen aa.out 0;have eJ:=blk_frozen aa.out 1;have eK:=blk_frozen aa.out 2))
  refine bodyPost_ret (results_ct rfl _ _ af 100 #[.slice none 0 0, .int .i64 0, .slice none 0 0] (0,0) _ rfl (by(with_reducible repeat (first | refine blk_drewN ?_ _ | refine blk_drew ?_ | refine blk_alloc ?_ _));refine blk_put (cs:= #[.slice none 0 0, .int .i64 0, .slice none 0 0]) ?_ 2 _ rfl;(with_reducible repeat (first | refine blk_drewN ?_ _ | refine blk_drew ?_ | refine blk_alloc ?_ _));refine blk_put (cs:= #[.slice none 0 0, .int .i64 0, .slice none 0 0]) ?_ 1 _ rfl;(with_reducible repeat (first | refine blk_drewN ?_ _ | refine blk_drew ?_ | refine blk_alloc ?_ _));refine blk_put (cs:= #[.slice none 0 0, .int .i64 0, .slice none 0 0]) ?_ 0 _ rfl;(with_reducible repeat (first | refine blk_drewN ?_ _ | refine blk_drew ?_ | refine blk_alloc ?_ _));exact aa.out) Try.underlying100 rfl (by kernel_rfl)) rfl ?_
  exact⟨_,_,by first | rfl | (simp [errW_none,errW_some] <;> rfl) | (simp [*,errW_none,errW_some] <;> rfl),by first | exact Kd.S_nil _ _ _ _ _ | exact Kd.N_nil _ _ _ _ _ | exact Kd.V_nil _ _ _ _ _ | exact Kd.Q_nil _ _ _ _ _ | exact Kd.R_nil _ _ _ _ _,by first | exact Kd.R_nil _ _ _ _ _ | exact Kd.N_nil _ _ _ _ _ | exact Kd.V_nil _ _ _ _ _ | exact Kd.Q_nil _ _ _ _ _ | exact Kd.S_nil _ _ _ _ _,hb_⟩
def spec_l01Gcd.l0:Nat→Int→Int→Option (Int)
 | 0,_,_=>none
 | k+1,x0,x1=>if x1=0 then(some (mx x0 (wrap64 (-x0)))) else(spec_l01Gcd.l0 k x1 (Int.tmod x0 x1))
def spec_l01Gcd.f (k:Nat) (a0:Int) (a1:Int):Option (Int):=spec_l01Gcd.l0 k a0 a1
theorem spec_l01Gcd.mono_l: ∀k,(∀y0 y1,LeO (spec_l01Gcd.l0 k y0 y1) (spec_l01Gcd.l0 (k+1) y0 y1))
 | 0=>fun _ _ r h=>by simp [spec_l01Gcd.l0] at h
 | k+1=>by
  have ih0:=spec_l01Gcd.mono_l k
  ·intro y0 y1
   unfold spec_l01Gcd.l0
   repeat' first
   | (with_reducible exact ih0 _ _)
   | (with_reducible exact LeO.refl _)
   | (with_reducible exact LeO.none _)
   | (with_reducible refine LeO.ite ?_ ?_)
   | (with_reducible refine LeO.bind ?_ (fun _=>?_))
   | exact ih0 _ _
   | exact LeO.none _
   | refine LeO.ite ?_ ?_
   | refine LeO.bind ?_ (fun _=>?_)
theorem spec_l01Gcd.mono: ∀a0 a1 k,LeO (spec_l01Gcd.f k a0 a1) (spec_l01Gcd.f (k+1) a0 a1):=by
 intro a0 a1 k
 have ih0:=spec_l01Gcd.mono_l k
 unfold spec_l01Gcd.f
 repeat' first
   | (with_reducible exact ih0 _ _)
   | (with_reducible exact LeO.refl _)
   | (with_reducible exact LeO.none _)
   | (with_reducible refine LeO.ite ?_ ?_)
   | (with_reducible refine LeO.bind ?_ (fun _=>?_))
   | exact ih0 _ _
   | exact LeO.none _
   | refine LeO.ite ?_ ?_
   | refine LeO.bind ?_ (fun _=>?_)
theorem spec_l01Gcd.calls (k:Nat) (a0:Int) (a1:Int) (r:Int) (w:World) (h:spec_l01Gcd.f k a0 a1=some r):
  Calls Try.prog 185 #[.int .i64 a0, .int .i64 a1] w fun e w'=>e= .returned (.int .i64 r)∧Below w.heap.size w w':=by
 have HB:=q_ (Below.refl w.heap.size w)
 have H:(spec_l01Gcd.l0 k a0 a1)=some r:=h
 clear h
 have H':=q_ H
 clear H
 go_enter Try.func185,Try.ntmps185
 go_wp2
 go_loopg [0,1] k (fun kq v0 v1 w'=> ∃(aa:Int) (ae:Int),v0= .int .i64 aa∧v1= .int .i64 ae∧Aside0 (spec_l01Gcd.l0 kq aa ae=some r)∧Aside0 (kq≤k)∧Aside0 (Below w.heap.size w w'))
 case atStart=>exact⟨(a0),(a1),rs_,rs_,H',⟨Nat.le_refl _⟩,⟨hb_⟩⟩
 case round=>
  clear H'
  try clear c1
  try clear p2
  obtain⟨aa,ae,rfl,rfl,HA,HK1,HB⟩:=hrel
  cases gk with
  | zero=>exact absurd HA.out (by simp [spec_l01Gcd.l0])
  | succ k1=>
   have H:=HA.out
   clear HA
   simp only [spec_l01Gcd.l0] at H
   by_cases c3:ae=0
   ·rw [if_pos c3] at H
    have c3b0:(ae==0)=true:=beq_iff_eq.mpr c3
    have c3b1:(ae !=0)=false:=bne_eq_false_iff_eq.mpr c3
    clear c3
    obtain⟨ji4,hji4⟩: ∃j_:Int,(mx aa (wrap64 (-aa)))=j_:=⟨_,rfl⟩
    replace H:(some ji4)=some r:=by first | (rw [hji4] at H;exact H) | (simp only [hji4] at H ⊢;exact H)
    have hji4_:(if aa < (wrap64 (-aa)) then(wrap64 (-aa)) else aa)=ji4:=hji4
    obtain rfl:=Option.some.inj H
    go_wp2
    go_ret
    exact⟨by first | rfl | (simp [errW_none,errW_some] <;> rfl) | (simp only [← hji4];first | rfl | (simp [errW_none,errW_some] <;> rfl)) | (simp [*,errW_none,errW_some] <;> rfl),hb_⟩
   ·rw [if_neg c3] at H
    have c3b0:(ae==0)=false:=beq_eq_false_iff_ne.mpr c3
    have c3b1:(ae !=0)=true:=bne_iff_ne.mpr c3
    have H':=q_ H
    clear H
    go_wp2
    go_roundg k1
    case measure=>have:=HK1.out;omega
    case rel=>exact⟨(ae),(Int.tmod aa ae),rs_,rs_,H',⟨by have:=HK1.out;omega⟩,⟨hb_⟩⟩
end Go.Proofs.Ytmpkckiifeikkaa.Pr
end
section
namespace Go.Proofs.Ytmpkckiifeikkaa.Lsa
open Go.RowKit Go.Proofs.YtmpkckiifeikkaaW.PrintWords Go.Proofs.YtmpkckiifeikkaaW.PrintMore Go.Proofs.Ytmpkckiifeikkaa.Ma Go.Proofs.Ytmpkckiifeikkaa.Pr Go.Proofs.Ytmpkckiifeikkaa.Dt Go.Proofs.Ytmpkckiifeikkaa.Lk Go.Proofs.Ytmpkckiifeikkaa.Lt Go.Proofs.Ytmpkckiifeikkaa.Lq Go.Proofs.Ytmpkckiifeikkaa.Lp
def afE (M:List (List Int)) (Q cv:List Int) (k:Int):(List (List Int)) × Int × List Int × Int:=
 if afC M Q cv k=0 then(rowsM Q.length (2*Q.length+2) (lkR M Q cv k.toNat).1.T,(lkR M Q cv k.toNat).1.den,(lkR M Q cv k.toNat).1.bs,0) else([],0, [],afC M Q cv k)
theorem after_eq (M:List (List Int)) (Q cv:List Int) (a:Int) (hQ:Q.length≤1048576) (hcv:cv.length≤1048576):Ev (fun k=>spec_l05After.f k M Q cv a) (afE M Q cv a):=by
 unfold spec_l05After.f
 refine evbind (code_eq M Q cv hQ hcv) ?_
 by_cases c:lkCode M Q cv=0
 ·refine evpos c ?_
  have hpc:=lkCode_pc c
  obtain⟨S,h1,h2⟩:=spec_run c 201 (by omega)
  have hl:=Lcy.no_limit hpc 201
  rcases h2 with ⟨e1,e2⟩ | ⟨e1,e2,e3,e4,e5,_⟩
  ·rw [hl] at e1;cases e1
  by_cases c0:a < 0
  ·refine evpos c0 (evc ?_)
   have:afC M Q cv a=2:=by unfold afC afC';rw [if_pos c,if_pos hl,if_neg (by omega)]
   unfold afE;rw [if_neg (by rw [this];decide),this]
  ·refine evneg c0 (evbind h1 (evpos (by show (S.2.1.length:Int)≤200;omega) ?_))
   refine evstep (fun f=>by rw [spec_l05After.j0]) ?_
   show Ev (fun f=>if decide (a > (S.2.1.length:Int))=true then _ else _) _
   by_cases c1:a > (S.2.1.length:Int)
   ·refine evpos (by simpa using c1) (evc ?_)
    have:afC M Q cv a=2:=by unfold afC afC';rw [if_pos c,if_pos hl,if_neg (by rw [← e4];omega)]
    unfold afE;rw [if_neg (by rw [this];decide),this]
   ·refine evneg (by simpa using c1) (evneg (by show ¬ (S.2.1.length:Int) > 200;omega) ?_)
    obtain⟨S2,g1,g2⟩:=spec_run c a.toNat (by omega)
    rw [Int.toNat_of_nonneg (by omega)] at g1
    have hl2:=Lcy.no_limit hpc a.toNat
    rcases g2 with ⟨f1,f2⟩ | ⟨f1,f2,f3,f4,f5,_⟩
    ·rw [hl2] at f1;cases f1
    refine evbind g1 (evc ?_)
    have:afC M Q cv a=0:=by unfold afC afC';rw [if_pos c,if_pos hl,if_pos (by rw [← e4];omega)]
    unfold afE;rw [if_pos this]
    show some (rowsM Q.length (2*Q.length+2) S2.1.T,S2.1.den,S2.1.bs,(0:Int))=_
    rw [f3]
 ·refine evneg c (evc ?_)
  have:afC M Q cv a=lkCode M Q cv:=by unfold afC afC';rw [if_neg c]
  unfold afE;rw [if_neg (by rw [this];exact c),this]
end Go.Proofs.Ytmpkckiifeikkaa.Lsa
end
section
namespace Go.Proofs.Ytmpkckiifeikkaa.Pr
open Go.RowKit Go.Proofs.YtmpkckiifeikkaaW.PrintWords Go.Proofs.YtmpkckiifeikkaaW.PrintLast Go.Proofs.YtmpkckiifeikkaaW.PrintMore Go.Proofs.Ytmpkckiifeikkaa.Ma Go.Proofs.Ytmpkckiifeikkaa.Dt Go.Proofs.Ytmpkckiifeikkaa.Lk Go.Proofs.Ytmpkckiifeikkaa.Lt Go.Proofs.Ytmpkckiifeikkaa.Lq
def baF (s:TS) (c:Int):List Int × Int:=if c=0 then(s.bs,0) else([],c)
def impl_BasisAfter.f (aa:List (List Int)) (ae l1:List Int) (a2:Int):Option (List Int × Int):=some (baF (lkR aa ae l1 a2.toNat).1 (afC aa ae l1 a2))
theorem take_next (l:List Int) {i:Nat} (h:i < l.length):l.take (i+1)=l.take i++ [l.getD i 0]:=by
 rw [List.take_add_one,List.getElem?_eq_getElem h,List.getD_eq_getElem?_getD,List.getElem?_eq_getElem h];rfl
theorem impl_BasisAfter.calls (af:Option Addr) (ag:Nat) (ae:List (List Int)) (ah:Option Addr) (ai:Nat) (aa:List Int) (A1:Option Addr) (c1:Nat) (l1:List Int) (a2:Int) (r1:List Int) (r2:Int) (w:World) (aj:Kd.C (Kd.slice 2 (Kd.int .i64)) w af ae.length ae) (ak:ae.length≤ag) (aq:Kd.C (Kd.int .i64) w ah aa.length aa) (au:aa.length≤ai) (hr1:Kd.C (Kd.int .i64) w A1 l1.length l1) (hc1:l1.length≤c1) (h:impl_BasisAfter.f ae aa l1 a2=some (r1,r2)):
  Calls Try.prog 76 #[.agg #[.slice af ae.length ag, .slice ah aa.length ai], .slice A1 l1.length c1, .int .i64 a2] w fun e w'=> ∃v0_:Value,e= .returned (.tuple #[v0_, .int .i64 r2])∧Kd.R (Kd.int .i64) 2 w' w.heap.size (fun _=>True) v0_ r1∧Below w.heap.size w w':=by
 unfold impl_BasisAfter.f at h
 have HB:=q_ (Below.refl w.heap.size w)
 have hcall:=fun W (hb:Below w.heap.size w W)=>after_calls af ag ae ah ai aa A1 c1 l1 a2 W (Kd.C_below aj hb) ak (Kd.C_below aq hb) au (Kd.C_below hr1 hb) hc1
 have HL:=q_ hcall
 clear hcall aj ak aq au hr1 hc1
 have hle:afC ae aa l1 a2=0→aa.length≤5:=fun h0=>(lkCode_pc (afC_lk h0).1).le
 obtain⟨s,hs⟩: ∃s,(lkR ae aa l1 a2.toNat).1=s:=⟨_,rfl⟩
 rw [hs] at h HL
 clear hs
 obtain⟨c,hc⟩: ∃c,afC ae aa l1 a2=c:=⟨_,rfl⟩
 rw [hc] at h HL hle
 clear hc
 have H:=q_ (Option.some.inj h)
 have HLE:=q_ hle
 clear h hle
 generalize ae.length=m0 at HL ⊢
 generalize aa.length=n at HL HLE ⊢
 generalize l1.length=m2 at HL ⊢
 go_enter Try.func76,Try.ntmps76
 go_wp2_with (first | ((with_reducible refine gate_dst (N:=3) rfl ?_);refine box_event ?hg (N:=3) ?hd (cs:= #[.slice af m0 ag, .slice ah n ai]) (t:=30) ?hr ?_;(case hd=>rfl);(case hg=>rfl);(case hr=>first | (go_simp;done) | (go_simp;rfl));intro g3 hg w2 hbox hb;replace HB:=q_ (below_step HB.out hb);have B3:=q_ hbox;have hz0:=cz_ B3 0;have hz1:=cz_ B3 1;clear hb hbox hg))
 refine(HL.out w2 HB.out).mono ?_
 rintro e w3 ⟨hor,hb⟩
 have HBS:=q_ HB.out.size
 replace HB:=q_ (below_step HB.out hb)
 clear hb hz0 hz1 HL B3
 rcases hor with ⟨hc,rfl⟩ | ⟨rfl,lo,hi,t,rfl,hlo,hT⟩
 ·have hcb:(c==0)=false:=by simpa using hc
  have e:=H.out
  unfold baF at e
  rw [if_neg hc] at e
  injection e with e1 e2
  subst e1 e2
  clear H
  go_wp2
  go_ret2
  exact⟨_,rfl,Kd.R_nil _ _ _ _ _,HB.out⟩
 ·have e:=H.out
  unfold baF at e
  rw [if_pos rfl] at e
  injection e with e1 e2
  subst e1 e2
  clear H
  obtain⟨g,gb,cg,cb,b,cp,hT⟩:=hT
  have HLEN:=q_ hT.len
  have HT:=q_ hT
  have HLO:=q_ (Nat.le_trans HBS.out hlo)
  have HN5:=q_ (HLE.out rfl)
  obtain⟨base,hbase⟩: ∃x,w3.heap.size=x:=⟨_,rfl⟩
  have HHI:Aside0 (hi≤base):=⟨by rw [← hbase];exact hT.size⟩
  have HB3:Aside0 (Below base w3 w3):=⟨Below.refl _ _⟩
  have HWB:Aside0 (base≤w3.heap.size):=⟨by omega⟩
  have hq2:=hT.h2
  clear hT hlo HLE hbase
  go_wp2
  clear hq2
  have HR:Aside0 (Kd.R (Kd.int .i64) 2 w3 base (fun _=>True) (.slice none 0 0) (s.bs.take 0)):=⟨by rw [List.take_zero];exact Kd.R_nil _ _ _ _ _⟩
  go_loopg [10,28] n (fun gg v10 v28 wr=> ∃(i:Nat),i≤n∧n - i≤gg∧v28= .int .i64 (i:Int)∧Aside0 (Kd.R (Kd.int .i64) 2 wr base (fun _=>True) v10 (s.bs.take i))∧Aside0 (Below base w3 wr)∧Aside0 (base≤wr.heap.size))
  case atStart=>exact⟨0,Nat.zero_le _,by omega,rfl,HR,HB3,HWB⟩
  case round=>
   clear HR HB3 HWB
   obtain⟨i,hi',hg,rfl,HR,HB3,HWB⟩:=hrel
   have HG:=q_ hg
   obtain⟨A10,c10,e10⟩:=Kd.R_slice HR.out
   have hl10:(s.bs.take i).length=i:=by rw [List.length_take,HLEN.out];omega
   rw [hl10] at e10
   subst e10
   clear hl10
   by_cases hlt:i < n
   ·have hltz:(i:Int) < (n:Int):=by omega
    have h0z:(0:Int)≤(i:Int):=by omega
    have hw:IntKind.i64.wrap ((i:Int)+1)=((i+1:Nat):Int):=by rw [IntWalk.i64_in _ (by have:=HN5.out;omega)];rfl
    have HW:=q_ hw
    have HLT:=q_ hlt
    have hcell:=((HT.out.mv (Out.hi HB3.out) (.inl HHI.out)).oq i hlt).1
    obtain⟨x,hx⟩: ∃x,s.bs.getD i 0=x:=⟨_,rfl⟩
    rw [hx] at hcell
    have HX:=q_ hx
    clear hi' hg hlt hx
    go_wp2_with (first | ((with_reducible refine gate_builtin (b:= .append) (xs:= #[.tmp 32, .tmp 34]) rfl ?_);at_builtin;refine Kd.R_append (Kd.int .i64) (w0:=w3) base rfl (.tmp 32) (.tmp 34) 23 2 (.int .i64 0) 8 rfl Try.underlying23 info2 rfl (by decide) (by omega) (.slice A10 i c10) (s.bs.take i) x [.int .i64 x] (fun _=>True) (fun _=>False) rfl rfl rfl (fun _ hk=>hk.elim) (fun _ _=>trivial) HR.out HB3.out HWB.out ?aL ?_;(case aL=>have:=HN5.out;have:=HLT.out;rw [List.length_take];omega);intro v11 w11 ho hb hg hat;replace HR:=q_ ho;replace HB3:=q_ hb;replace HWB:=q_ (Nat.le_trans HWB.out hg.size);clear ho hb hg hat hcell))
    go_roundg (n - (i+1))
    case measure=>have:=HG.out;have:=HLT.out;omega
    case rel=>
     refine⟨i+1,HLT.out,by omega,by first | rfl | (rw [HW.out]) | (simp [HW.out]),?_,HB3,HWB⟩
     rw [take_next _ (by rw [HLEN.out];exact HLT.out),HX.out]
     exact HR
   ·have hltz: ¬ (i:Int) < (n:Int):=by omega
    obtain rfl:n=i:=by omega
    have hall:s.bs.take n=s.bs:=List.take_of_length_le (by rw [HLEN.out];exact Nat.le_refl _)
    rw [hall] at HR
    clear hi' hg hlt hall
    go_wp2
    go_ret2
    exact⟨_,rfl,Kd.R_lower HR.out (Nat.le_trans HLO.out (Nat.le_trans (Nat.le_of_lt (Nat.lt_of_le_of_lt HT.out.tR.1 HT.out.tR.2)) HHI.out)),(Out.hi HB3.out).toBelow HB.out (Nat.le_trans HLO.out (Nat.le_trans (Nat.le_of_lt (Nat.lt_of_le_of_lt HT.out.tR.1 HT.out.tR.2)) HHI.out))⟩
end Go.Proofs.Ytmpkckiifeikkaa.Pr
end
section
namespace Go.Proofs.Ytmpkckiifeikkaa.Pr
open Go.RowKit Go.Proofs.YtmpkckiifeikkaaW.PrintWords Go.Proofs.YtmpkckiifeikkaaW.PrintLast Go.Proofs.YtmpkckiifeikkaaW.PrintMore
attribute [local go_sem] max2_int min2_int max_two min_two max_three min_three max_four min_four
def impl_reduced.f (k:Nat) (a0:Int) (a1:Int):Option (Int × Int × Int):=(impl_common.f k a0 a1).bind fun aa=>(if a1 < 0 then(if(wrap64 (-aa))=0 then(none) else((impl_IsFrac.f k (wrap64 (Int.tdiv a0 (wrap64 (-aa)))) (wrap64 (Int.tdiv a1 (wrap64 (-aa))))).bind fun ae=>(if ae=true then(some (wrap64 (Int.tdiv a0 (wrap64 (-aa))),wrap64 (Int.tdiv a1 (wrap64 (-aa))),0)) else(some (0,0,3))))) else(if aa=0 then(none) else((impl_IsFrac.f k (wrap64 (Int.tdiv a0 aa)) (wrap64 (Int.tdiv a1 aa))).bind fun af=>(if af=true then(some (wrap64 (Int.tdiv a0 aa),wrap64 (Int.tdiv a1 aa),0)) else(some (0,0,3))))))
theorem impl_reduced.mono: ∀a0 a1 k,LeO (impl_reduced.f k a0 a1) (impl_reduced.f (k+1) a0 a1):=by
 intro a0 a1 k
 unfold impl_reduced.f
 repeat' first
   | (with_reducible exact impl_IsFrac.mono _ _ _)
   | (with_reducible exact impl_common.mono _ _ _)
   | (with_reducible exact LeO.refl _)
   | (with_reducible exact LeO.none _)
   | (with_reducible refine LeO.ite ?_ ?_)
   | (with_reducible refine LeO.bind ?_ (fun _=>?_))
   | exact impl_IsFrac.mono _ _ _
   | exact impl_common.mono _ _ _
   | exact LeO.none _
   | refine LeO.ite ?_ ?_
   | refine LeO.bind ?_ (fun _=>?_)
def impl_reduced.T4:Bool × List (List Nat × List Nat):=(true, [([], []),([], []),([0,1], [0,1]),([], []),([], []),([3,4], [3,4]),([2,5], [2,5]),([], []),([7,6,0,1,2,3,4,5,6,7], [6,7])])
def impl_reduced.B4:List Nat:= [0,0,3,0,0,24,63,0,255]
theorem impl_reduced.tab4:rtab .any (opsOf Try.f149 4)=impl_reduced.T4:=by kernel_rfl
theorem impl_reduced.bits4:waitsOk impl_reduced.T4.2 impl_reduced.B4=true:=by kernel_rfl
theorem impl_reduced.calls (k:Nat) (a0:Int) (a1:Int) (r1:Int) (r2:Int) (r3:Int) (w:World) (h:impl_reduced.f k a0 a1=some (r1,r2,r3)):
  Calls Try.prog 149 #[.int .i64 a0, .int .i64 a1] w fun e w'=>e= .returned (.tuple #[.agg #[.int .i64 r1, .int .i64 r2], .int .i64 r3])∧Below w.heap.size w w':=by
 have hu93:=Try.underlying93
 have HB:=q_ (Below.refl w.heap.size w)
 have H:((impl_common.f k a0 a1).bind fun ae=>(if a1 < 0 then(if(wrap64 (-ae))=0 then(none) else((impl_IsFrac.f k (wrap64 (Int.tdiv a0 (wrap64 (-ae)))) (wrap64 (Int.tdiv a1 (wrap64 (-ae))))).bind fun aw=>(if aw=true then(some (wrap64 (Int.tdiv a0 (wrap64 (-ae))),wrap64 (Int.tdiv a1 (wrap64 (-ae))),0)) else(some (0,0,3))))) else(if ae=0 then(none) else((impl_IsFrac.f k (wrap64 (Int.tdiv a0 ae)) (wrap64 (Int.tdiv a1 ae))).bind fun ax=>(if ax=true then(some (wrap64 (Int.tdiv a0 ae),wrap64 (Int.tdiv a1 ae),0)) else(some (0,0,3)))))))=some (r1,r2,r3):=h
 clear h
 replace H:=Option.bind_eq_some_iff.mp H
 obtain⟨ae,A30,H⟩:=H
 replace H:(if a1 < 0 then(if(wrap64 (-ae))=0 then(none) else((impl_IsFrac.f k (wrap64 (Int.tdiv a0 (wrap64 (-ae)))) (wrap64 (Int.tdiv a1 (wrap64 (-ae))))).bind fun aw=>(if aw=true then(some (wrap64 (Int.tdiv a0 (wrap64 (-ae))),wrap64 (Int.tdiv a1 (wrap64 (-ae))),0)) else(some (0,0,3))))) else(if ae=0 then(none) else((impl_IsFrac.f k (wrap64 (Int.tdiv a0 ae)) (wrap64 (Int.tdiv a1 ae))).bind fun ax=>(if ax=true then(some (wrap64 (Int.tdiv a0 ae),wrap64 (Int.tdiv a1 ae),0)) else(some (0,0,3))))))=some (r1,r2,r3):=H
 have A3:=q_ A30
 clear A30
 by_cases c4:a1 < 0
 ·rw [if_pos c4] at H
  have c4b0:decide (a1 < 0)=true:=decide_eq_true c4
  clear c4
  by_cases c5:(wrap64 (-ae))=0
  ·rw [if_pos c5] at H
   exact absurd H (by simp)
  ·rw [if_neg c5] at H
   have c5b0:((wrap64 (-ae))==0)=false:=beq_eq_false_iff_ne.mpr c5
   have c5b1:((wrap64 (-ae)) !=0)=true:=bne_iff_ne.mpr c5
   replace H:=Option.bind_eq_some_iff.mp H
   obtain⟨aw,A60,H⟩:=H
   replace H:(if aw=true then(some (wrap64 (Int.tdiv a0 (wrap64 (-ae))),wrap64 (Int.tdiv a1 (wrap64 (-ae))),0)) else(some (0,0,3)))=some (r1,r2,r3):=H
   have A6:=q_ A60
   clear A60
   by_cases c7:aw=true
   ·subst c7
    have H1:(some (wrap64 (Int.tdiv a0 (wrap64 (-ae))),wrap64 (Int.tdiv a1 (wrap64 (-ae))),0))=some (r1,r2,r3):=by rw [if_pos rfl] at H;exact H
    clear H
    have H:=H1
    clear H1
    simp only [Option.some.injEq,Prod.mk.injEq] at H
    obtain⟨rfl,rfl,rfl⟩:=H
    go_enter Try.func149,Try.ntmps149
    try go_wp2_with (first | ((with_reducible refine gate_dst (N:=4) rfl ?_);refine box_event ?hg (N:=4) ?hd (cs:= #[.int .i64 0, .int .i64 0]) (t:=93) ?hr ?_;(case hd=>rfl);(case hg=>rfl);(case hr=>first | (go_simp;done) | (go_simp;rfl));intro af hg w8 hbox hb;have aa:=q_ (hbox);have ay:=q_ ((by rw [hg];exact bz_:w.heap.size≤af));have az:=q_ ((by rw [hg];exact bz_:w.heap.size≤af));replace HB:=q_ (bs_ hb);clear hb hbox hg) | ((with_reducible refine gate_callee (f:=182) rfl ?_);refine gL_ 10 Try.func182 #[.int .i64 a0, .int .i64 a1] ?_;(with_reducible refine(impl_common.calls k a0 a1 ae _ A3.out).mono ?_);rintro e w9 ⟨rfl,hb⟩;refine⟨_,rfl,?_⟩;replace aa:=q_ (bb_ aa.out hb);replace HB:=q_ (bs_ hb);(try clear hb);(try clear hb2);(try clear hk);(try clear hi)))
    replace aa:=q_ (blk_drew aa.out)
    replace HB:=q_ (below_drew1 HB.out)
    refine st_ (n:=9) (S:=fun w'=>True) (ds:= []) trivial (fun hHeld=>?_);refine with_tabW impl_reduced.tab4 impl_reduced.bits4 (fun HT_ HW_=>?_)
    generalize w9.drew=w10 at aa HB hHeld ⊢
    refine pu_ 0 15 ?_;refine pu_ 1 16 ?_;refine pu_ 2 17 ?_;refine pu_ 3 18 ?_;refine pu_ 4 19 ?_;refine pu_ 5 20 ?_;refine pu_ 6 21 ?_
    refine on_ 7 (some 7) (fun K hK=>?_)
    refine box_step ?hg (N:=7) ?hd (cs:= #[.int .i64 0, .int .i64 0]) (t:=93) ?hr ?_;(case hd=>rfl);(case hg=>rfl);(case hr=>first | (go_simp;done) | (go_simp;rfl))
    intro ai hg w11 hbox hb
    have ag:=q_ (hbox)
    have aA:=q_ ((by rw [hg];exact bz_:w.heap.size≤ai))
    have aC:=q_ ((by rw [hg];exact bz_:w.heap.size≤ai))
    have ak:=q_ ((by rw [hg];exact lt_ aa.out:af≠ai))
    have au:=q_ ((by rw [hg];exact gt_ aa.out:ai≠af))
    replace aa:=q_ (bb_ aa.out hb)
    replace HB:=q_ (bs_ hb)
    clear hb hbox hg
    refine hK.out _ _ trivial (fun hHeld=>?_)
    clear hK K
    refine norm_ (a':=?_) ?_ ?_
    rotate_left
    ·show Act.put _ (some 7) _=_
     simp only [Act.put,List.setIfInBounds_toArray,List.set_cons_zero,List.set_cons_succ,i64_w,i32_w]
     rfl
    refine on_ 8 none (fun K hK=>?_)
    have hs12:w11.cell? ⟨ai,0,none⟩=some (.int .i64 0):=(blk_cell ag.out 0).trans rfl
    have hfs12:=blk_frozen ag.out 0
    have hns12_0:=ak.out
    have hms12_0:=au.out
    have hs13:w11.cell? ⟨ai,1,none⟩=some (.int .i64 0):=(blk_cell ag.out 1).trans rfl
    have hfs13:=blk_frozen ag.out 1
    have hns13_0:=ak.out
    have hms13_0:=au.out
    refine skip_ (w1:=?_) (by rfl) rfl ?_ ?_
    rotate_left
    ·go_simp
     rfl
    refine hK.out _ _ trivial (fun hHeld=>?_)
    clear hK K
    refine done_ (done_of HT_.out (by kernel_rfl)) ?_
    have bP:=au.out
    have bQ:=ak.out
    have aH:w11.cell? ⟨ai,0,none⟩=some (.int .i64 0):=(blk_cell ag.out 0).trans rfl
    have aI:w11.cell? ⟨ai,1,none⟩=some (.int .i64 0):=(blk_cell ag.out 1).trans rfl
    have aJ:=blk_frozen ag.out 0
    have aK:=blk_frozen ag.out 1
    try go_wp2_with (first | ((with_reducible refine gate_callee (f:=183) rfl ?_);refine gL_ 23 Try.func183 #[.agg #[.int .i64 (wrap64 (Int.tdiv a0 (wrap64 (-ae)))), .int .i64 (wrap64 (Int.tdiv a1 (wrap64 (-ae))))]] ?_;(with_reducible refine(impl_IsFrac.calls k (wrap64 (Int.tdiv a0 (wrap64 (-ae)))) (wrap64 (Int.tdiv a1 (wrap64 (-ae)))) true _ A6.out).mono ?_);rintro e w16 ⟨rfl,hb⟩;refine⟨_,rfl,?_⟩;replace aa:=q_ (blk_below (g:=af) (o:= .cells #[.int .i64 0, .int .i64 0] 93 (0,0)) (by(with_reducible repeat (first | refine blk_drewN ?_ _ | refine blk_drew ?_ | refine blk_alloc ?_ _));refine blk_far ?_ ak.out _;(with_reducible repeat (first | refine blk_drewN ?_ _ | refine blk_drew ?_ | refine blk_alloc ?_ _));refine blk_far ?_ ak.out _;(with_reducible repeat (first | refine blk_drewN ?_ _ | refine blk_drew ?_ | refine blk_alloc ?_ _));exact aa.out) hb);replace ag:=q_ (blk_below (g:=ai) (o:= .cells #[.int .i64 (wrap64 (Int.tdiv a0 (wrap64 (-ae)))), .int .i64 (wrap64 (Int.tdiv a1 (wrap64 (-ae))))] 93 (0,0)) (by(with_reducible repeat (first | refine blk_drewN ?_ _ | refine blk_drew ?_ | refine blk_alloc ?_ _));refine blk_put (cs:= #[.int .i64 (wrap64 (Int.tdiv a0 (wrap64 (-ae)))), .int .i64 0]) ?_ 1 _ rfl;(with_reducible repeat (first | refine blk_drewN ?_ _ | refine blk_drew ?_ | refine blk_alloc ?_ _));refine blk_put (cs:= #[.int .i64 0, .int .i64 0]) ?_ 0 _ rfl;(with_reducible repeat (first | refine blk_drewN ?_ _ | refine blk_drew ?_ | refine blk_alloc ?_ _));exact ag.out) hb);replace HB:=q_ (bs_ hb);(try clear hb);(try clear hb2);(try clear hk);(try clear hi);have aM:w16.cell? ⟨ai,0,none⟩=some (.int .i64 (wrap64 (Int.tdiv a0 (wrap64 (-ae))))):=(blk_cell ag.out 0).trans rfl;have aN:w16.cell? ⟨ai,1,none⟩=some (.int .i64 (wrap64 (Int.tdiv a1 (wrap64 (-ae))))):=(blk_cell ag.out 1).trans rfl;have aT:=blk_frozen ag.out 0;have aU:=blk_frozen ag.out 1;have aV:w16.cell? ⟨af,0,none⟩=some (.int .i64 0):=(blk_cell aa.out 0).trans rfl;have aW:w16.cell? ⟨af,1,none⟩=some (.int .i64 0):=(blk_cell aa.out 1).trans rfl;have aX:=blk_frozen aa.out 0;have aY:=blk_frozen aa.out 1))
    refine bodyPost_ret (results_ct rfl _ _ af 93 #[.int .i64 (wrap64 (Int.tdiv a0 (wrap64 (-ae)))), .int .i64 (wrap64 (Int.tdiv a1 (wrap64 (-ae))))] (0,0) _ rfl (by(with_reducible repeat (first | refine blk_drewN ?_ _ | refine blk_drew ?_ | refine blk_alloc ?_ _));refine blk_put (cs:= #[.int .i64 (wrap64 (Int.tdiv a0 (wrap64 (-ae)))), .int .i64 0]) ?_ 1 _ rfl;(with_reducible repeat (first | refine blk_drewN ?_ _ | refine blk_drew ?_ | refine blk_alloc ?_ _));refine blk_put (cs:= #[.int .i64 0, .int .i64 0]) ?_ 0 _ rfl;(with_reducible repeat (first | refine blk_drewN ?_ _ | refine blk_drew ?_ | refine blk_alloc ?_ _));exact aa.out) Try.underlying93 rfl (by kernel_rfl)) rfl ?_
    exact⟨by first | rfl | (simp [errW_none,errW_some] <;> rfl) | (simp [*,errW_none,errW_some] <;> rfl),hb_⟩
   ·replace c7:=Bool.eq_false_iff.mpr c7
    subst c7
    have H1:(some (0,0,3))=some (r1,r2,r3):=by rw [if_neg (show ¬ (false=true) by decide)] at H;exact H
    clear H
    have H:=H1
    clear H1
    simp only [Option.some.injEq,Prod.mk.injEq] at H
    obtain⟨rfl,rfl,rfl⟩:=H
    go_enter Try.func149,Try.ntmps149
    try go_wp2_with (first | ((with_reducible refine gate_dst (N:=4) rfl ?_);refine box_event ?hg (N:=4) ?hd (cs:= #[.int .i64 0, .int .i64 0]) (t:=93) ?hr ?_;(case hd=>rfl);(case hg=>rfl);(case hr=>first | (go_simp;done) | (go_simp;rfl));intro af hg w19 hbox hb;have aa:=q_ (hbox);have ay:=q_ ((by rw [hg];exact bz_:w.heap.size≤af));have az:=q_ ((by rw [hg];exact bz_:w.heap.size≤af));replace HB:=q_ (bs_ hb);clear hb hbox hg) | ((with_reducible refine gate_callee (f:=182) rfl ?_);refine gL_ 10 Try.func182 #[.int .i64 a0, .int .i64 a1] ?_;(with_reducible refine(impl_common.calls k a0 a1 ae _ A3.out).mono ?_);rintro e w20 ⟨rfl,hb⟩;refine⟨_,rfl,?_⟩;replace aa:=q_ (bb_ aa.out hb);replace HB:=q_ (bs_ hb);(try clear hb);(try clear hb2);(try clear hk);(try clear hi)))
    replace aa:=q_ (blk_drew aa.out)
    replace HB:=q_ (below_drew1 HB.out)
    refine st_ (n:=9) (S:=fun w'=>True) (ds:= []) trivial (fun hHeld=>?_);refine with_tabW impl_reduced.tab4 impl_reduced.bits4 (fun HT_ HW_=>?_)
    generalize w20.drew=w21 at aa HB hHeld ⊢
    refine pu_ 0 15 ?_;refine pu_ 1 16 ?_;refine pu_ 2 17 ?_;refine pu_ 3 18 ?_;refine pu_ 4 19 ?_;refine pu_ 5 20 ?_;refine pu_ 6 21 ?_
    refine on_ 7 (some 7) (fun K hK=>?_)
    refine box_step ?hg (N:=7) ?hd (cs:= #[.int .i64 0, .int .i64 0]) (t:=93) ?hr ?_;(case hd=>rfl);(case hg=>rfl);(case hr=>first | (go_simp;done) | (go_simp;rfl))
    intro ai hg w22 hbox hb
    have ag:=q_ (hbox)
    have aA:=q_ ((by rw [hg];exact bz_:w.heap.size≤ai))
    have aC:=q_ ((by rw [hg];exact bz_:w.heap.size≤ai))
    have ak:=q_ ((by rw [hg];exact lt_ aa.out:af≠ai))
    have au:=q_ ((by rw [hg];exact gt_ aa.out:ai≠af))
    replace aa:=q_ (bb_ aa.out hb)
    replace HB:=q_ (bs_ hb)
    clear hb hbox hg
    refine hK.out _ _ trivial (fun hHeld=>?_)
    clear hK K
    refine norm_ (a':=?_) ?_ ?_
    rotate_left
    ·show Act.put _ (some 7) _=_
     simp only [Act.put,List.setIfInBounds_toArray,List.set_cons_zero,List.set_cons_succ,i64_w,i32_w]
     rfl
    refine on_ 8 none (fun K hK=>?_)
    have hs23:w22.cell? ⟨ai,0,none⟩=some (.int .i64 0):=(blk_cell ag.out 0).trans rfl
    have hfs23:=blk_frozen ag.out 0
    have hns23_0:=ak.out
    have hms23_0:=au.out
    have hs24:w22.cell? ⟨ai,1,none⟩=some (.int .i64 0):=(blk_cell ag.out 1).trans rfl
    have hfs24:=blk_frozen ag.out 1
    have hns24_0:=ak.out
    have hms24_0:=au.out
    refine skip_ (w1:=?_) (by rfl) rfl ?_ ?_
    rotate_left
    ·go_simp
     rfl
    refine hK.out _ _ trivial (fun hHeld=>?_)
    clear hK K
    refine done_ (done_of HT_.out (by kernel_rfl)) ?_
    have bS:=au.out
    have bT:=ak.out
    have aZ:w22.cell? ⟨ai,0,none⟩=some (.int .i64 0):=(blk_cell ag.out 0).trans rfl
    have a9:w22.cell? ⟨ai,1,none⟩=some (.int .i64 0):=(blk_cell ag.out 1).trans rfl
    have ba:=blk_frozen ag.out 0
    have bg:=blk_frozen ag.out 1
    try go_wp2_with (first | ((with_reducible refine gate_callee (f:=183) rfl ?_);refine gL_ 23 Try.func183 #[.agg #[.int .i64 (wrap64 (Int.tdiv a0 (wrap64 (-ae)))), .int .i64 (wrap64 (Int.tdiv a1 (wrap64 (-ae))))]] ?_;(with_reducible refine(impl_IsFrac.calls k (wrap64 (Int.tdiv a0 (wrap64 (-ae)))) (wrap64 (Int.tdiv a1 (wrap64 (-ae)))) false _ A6.out).mono ?_);rintro e w27 ⟨rfl,hb⟩;refine⟨_,rfl,?_⟩;replace aa:=q_ (blk_below (g:=af) (o:= .cells #[.int .i64 0, .int .i64 0] 93 (0,0)) (by(with_reducible repeat (first | refine blk_drewN ?_ _ | refine blk_drew ?_ | refine blk_alloc ?_ _));refine blk_far ?_ ak.out _;(with_reducible repeat (first | refine blk_drewN ?_ _ | refine blk_drew ?_ | refine blk_alloc ?_ _));refine blk_far ?_ ak.out _;(with_reducible repeat (first | refine blk_drewN ?_ _ | refine blk_drew ?_ | refine blk_alloc ?_ _));exact aa.out) hb);replace ag:=q_ (blk_below (g:=ai) (o:= .cells #[.int .i64 (wrap64 (Int.tdiv a0 (wrap64 (-ae)))), .int .i64 (wrap64 (Int.tdiv a1 (wrap64 (-ae))))] 93 (0,0)) (by(with_reducible repeat (first | refine blk_drewN ?_ _ | refine blk_drew ?_ | refine blk_alloc ?_ _));refine blk_put (cs:= #[.int .i64 (wrap64 (Int.tdiv a0 (wrap64 (-ae)))), .int .i64 0]) ?_ 1 _ rfl;(with_reducible repeat (first | refine blk_drewN ?_ _ | refine blk_drew ?_ | refine blk_alloc ?_ _));refine blk_put (cs:= #[.int .i64 0, .int .i64 0]) ?_ 0 _ rfl;(with_reducible repeat (first | refine blk_drewN ?_ _ | refine blk_drew ?_ | refine blk_alloc ?_ _));exact ag.out) hb);replace HB:=q_ (bs_ hb);(try clear hb);(try clear hb2);(try clear hk);(try clear hi);have bh:w27.cell? ⟨af,0,none⟩=some (.int .i64 0):=(blk_cell aa.out 0).trans rfl;have bi:w27.cell? ⟨af,1,none⟩=some (.int .i64 0):=(blk_cell aa.out 1).trans rfl;have bk:=blk_frozen aa.out 0;have bn:=blk_frozen aa.out 1))
    refine bodyPost_ret (results_ct rfl _ _ af 93 #[.int .i64 0, .int .i64 0] (0,0) _ rfl (by(with_reducible repeat (first | refine blk_drewN ?_ _ | refine blk_drew ?_ | refine blk_alloc ?_ _));refine blk_put (cs:= #[.int .i64 0, .int .i64 0]) ?_ 1 _ rfl;(with_reducible repeat (first | refine blk_drewN ?_ _ | refine blk_drew ?_ | refine blk_alloc ?_ _));refine blk_put (cs:= #[.int .i64 0, .int .i64 0]) ?_ 0 _ rfl;(with_reducible repeat (first | refine blk_drewN ?_ _ | refine blk_drew ?_ | refine blk_alloc ?_ _));exact aa.out) Try.underlying93 rfl (by kernel_rfl)) rfl ?_
    exact⟨by first | rfl | (simp [errW_none,errW_some] <;> rfl) | (simp [*,errW_none,errW_some] <;> rfl),hb_⟩
 ·rw [if_neg c4] at H
  have c4b0:decide (a1 < 0)=false:=decide_eq_false c4
  clear c4
  by_cases c29:ae=0
  ·rw [if_pos c29] at H
   exact absurd H (by simp)
  ·rw [if_neg c29] at H
   have c29b0:(ae==0)=false:=beq_eq_false_iff_ne.mpr c29
   have c29b1:(ae !=0)=true:=bne_iff_ne.mpr c29
   replace H:=Option.bind_eq_some_iff.mp H
   obtain⟨ax,A300,H⟩:=H
   replace H:(if ax=true then(some (wrap64 (Int.tdiv a0 ae),wrap64 (Int.tdiv a1 ae),0)) else(some (0,0,3)))=some (r1,r2,r3):=H
   have A30:=q_ A300
   clear A300
   by_cases c31:ax=true
   ·subst c31
    have H1:(some (wrap64 (Int.tdiv a0 ae),wrap64 (Int.tdiv a1 ae),0))=some (r1,r2,r3):=by rw [if_pos rfl] at H;exact H
    clear H
    have H:=H1
    clear H1
    simp only [Option.some.injEq,Prod.mk.injEq] at H
    obtain⟨rfl,rfl,rfl⟩:=H
    go_enter Try.func149,Try.ntmps149
    try go_wp2_with (first | ((with_reducible refine gate_dst (N:=4) rfl ?_);refine box_event ?hg (N:=4) ?hd (cs:= #[.int .i64 0, .int .i64 0]) (t:=93) ?hr ?_;(case hd=>rfl);(case hg=>rfl);(case hr=>first | (go_simp;done) | (go_simp;rfl));intro af hg w32 hbox hb;have aa:=q_ (hbox);have ay:=q_ ((by rw [hg];exact bz_:w.heap.size≤af));have az:=q_ ((by rw [hg];exact bz_:w.heap.size≤af));replace HB:=q_ (bs_ hb);clear hb hbox hg) | ((with_reducible refine gate_callee (f:=182) rfl ?_);refine gL_ 10 Try.func182 #[.int .i64 a0, .int .i64 a1] ?_;(with_reducible refine(impl_common.calls k a0 a1 ae _ A3.out).mono ?_);rintro e w33 ⟨rfl,hb⟩;refine⟨_,rfl,?_⟩;replace aa:=q_ (bb_ aa.out hb);replace HB:=q_ (bs_ hb);(try clear hb);(try clear hb2);(try clear hk);(try clear hi)))
    replace aa:=q_ (blk_drew aa.out)
    replace HB:=q_ (below_drew1 HB.out)
    refine st_ (n:=9) (S:=fun w'=>True) (ds:= []) trivial (fun hHeld=>?_);refine with_tabW impl_reduced.tab4 impl_reduced.bits4 (fun HT_ HW_=>?_)
    generalize w33.drew=w34 at aa HB hHeld ⊢
    refine pu_ 0 15 ?_;refine pu_ 1 16 ?_;refine pu_ 2 17 ?_;refine pu_ 3 18 ?_;refine pu_ 4 19 ?_;refine pu_ 5 20 ?_;refine pu_ 6 21 ?_
    refine on_ 7 (some 7) (fun K hK=>?_)
    refine box_step ?hg (N:=7) ?hd (cs:= #[.int .i64 0, .int .i64 0]) (t:=93) ?hr ?_;(case hd=>rfl);(case hg=>rfl);(case hr=>first | (go_simp;done) | (go_simp;rfl))
    intro aj hg w35 hbox hb
    have ah:=q_ (hbox)
    have aD:=q_ ((by rw [hg];exact bz_:w.heap.size≤aj))
    have aG:=q_ ((by rw [hg];exact bz_:w.heap.size≤aj))
    have aq:=q_ ((by rw [hg];exact lt_ aa.out:af≠aj))
    have av:=q_ ((by rw [hg];exact gt_ aa.out:aj≠af))
    replace aa:=q_ (bb_ aa.out hb)
    replace HB:=q_ (bs_ hb)
    clear hb hbox hg
    refine hK.out _ _ trivial (fun hHeld=>?_)
    clear hK K
    refine norm_ (a':=?_) ?_ ?_
    rotate_left
    ·show Act.put _ (some 7) _=_
     simp only [Act.put,List.setIfInBounds_toArray,List.set_cons_zero,List.set_cons_succ,i64_w,i32_w]
     rfl
    refine on_ 8 none (fun K hK=>?_)
    have hs36:w35.cell? ⟨aj,0,none⟩=some (.int .i64 0):=(blk_cell ah.out 0).trans rfl
    have hfs36:=blk_frozen ah.out 0
    have hns36_0:=aq.out
    have hms36_0:=av.out
    have hs37:w35.cell? ⟨aj,1,none⟩=some (.int .i64 0):=(blk_cell ah.out 1).trans rfl
    have hfs37:=blk_frozen ah.out 1
    have hns37_0:=aq.out
    have hms37_0:=av.out
    refine skip_ (w1:=?_) (by rfl) rfl ?_ ?_
    rotate_left
    ·go_simp
     rfl
    refine hK.out _ _ trivial (fun hHeld=>?_)
    clear hK K
    refine done_ (done_of HT_.out (by kernel_rfl)) ?_
    have bU:=av.out
    have bV:=aq.out
    have bq:w35.cell? ⟨aj,0,none⟩=some (.int .i64 0):=(blk_cell ah.out 0).trans rfl
    have bu:w35.cell? ⟨aj,1,none⟩=some (.int .i64 0):=(blk_cell ah.out 1).trans rfl
    have bv:=blk_frozen ah.out 0
    have bw:=blk_frozen ah.out 1
    try go_wp2_with (first | ((with_reducible refine gate_callee (f:=183) rfl ?_);refine gL_ 23 Try.func183 #[.agg #[.int .i64 (wrap64 (Int.tdiv a0 ae)), .int .i64 (wrap64 (Int.tdiv a1 ae))]] ?_;(with_reducible refine(impl_IsFrac.calls k (wrap64 (Int.tdiv a0 ae)) (wrap64 (Int.tdiv a1 ae)) true _ A30.out).mono ?_);rintro e w40 ⟨rfl,hb⟩;refine⟨_,rfl,?_⟩;replace aa:=q_ (blk_below (g:=af) (o:= .cells #[.int .i64 0, .int .i64 0] 93 (0,0)) (by(with_reducible repeat (first | refine blk_drewN ?_ _ | refine blk_drew ?_ | refine blk_alloc ?_ _));refine blk_far ?_ aq.out _;(with_reducible repeat (first | refine blk_drewN ?_ _ | refine blk_drew ?_ | refine blk_alloc ?_ _));refine blk_far ?_ aq.out _;(with_reducible repeat (first | refine blk_drewN ?_ _ | refine blk_drew ?_ | refine blk_alloc ?_ _));exact aa.out) hb);replace ah:=q_ (blk_below (g:=aj) (o:= .cells #[.int .i64 (wrap64 (Int.tdiv a0 ae)), .int .i64 (wrap64 (Int.tdiv a1 ae))] 93 (0,0)) (by(with_reducible repeat (first | refine blk_drewN ?_ _ | refine blk_drew ?_ | refine blk_alloc ?_ _));refine blk_put (cs:= #[.int .i64 (wrap64 (Int.tdiv a0 ae)), .int .i64 0]) ?_ 1 _ rfl;(with_reducible repeat (first | refine blk_drewN ?_ _ | refine blk_drew ?_ | refine blk_alloc ?_ _));refine blk_put (cs:= #[.int .i64 0, .int .i64 0]) ?_ 0 _ rfl;(with_reducible repeat (first | refine blk_drewN ?_ _ | refine blk_drew ?_ | refine blk_alloc ?_ _));exact ah.out) hb);replace HB:=q_ (bs_ hb);(try clear hb);(try clear hb2);(try clear hk);(try clear hi);have bz:w40.cell? ⟨aj,0,none⟩=some (.int .i64 (wrap64 (Int.tdiv a0 ae))):=(blk_cell ah.out 0).trans rfl;have bA:w40.cell? ⟨aj,1,none⟩=some (.int .i64 (wrap64 (Int.tdiv a1 ae))):=(blk_cell ah.out 1).trans rfl;have bB:=blk_frozen ah.out 0;have bC:=blk_frozen ah.out 1;have bD:w40.cell? ⟨af,0,none⟩=some (.int .i64 0):=(blk_cell aa.out 0).trans rfl;have bE:w40.cell? ⟨af,1,none⟩=some (.int .i64 0):=(blk_cell aa.out 1).trans rfl;have bF:=blk_frozen aa.out 0;have bG:=blk_frozen aa.out 1))
    refine bodyPost_ret (results_ct rfl _ _ af 93 #[.int .i64 (wrap64 (Int.tdiv a0 ae)), .int .i64 (wrap64 (Int.tdiv a1 ae))] (0,0) _ rfl (by(with_reducible repeat (first | refine blk_drewN ?_ _ | refine blk_drew ?_ | refine blk_alloc ?_ _));refine blk_put (cs:= #[.int .i64 (wrap64 (Int.tdiv a0 ae)), .int .i64 0]) ?_ 1 _ rfl;(with_reducible repeat (first | refine blk_drewN ?_ _ | refine blk_drew ?_ | refine blk_alloc ?_ _));refine blk_put (cs:= #[.int .i64 0, .int .i64 0]) ?_ 0 _ rfl;(with_reducible repeat (first | refine blk_drewN ?_ _ | refine blk_drew ?_ | refine blk_alloc ?_ _));exact aa.out) Try.underlying93 rfl (by kernel_rfl)) rfl ?_
    exact⟨by first | rfl | (simp [errW_none,errW_some] <;> rfl) | (simp [*,errW_none,errW_some] <;> rfl),hb_⟩
   ·replace c31:=Bool.eq_false_iff.mpr c31
    subst c31
    have H1:(some (0,0,3))=some (r1,r2,r3):=by rw [if_neg (show ¬ (false=true) by decide)] at H;exact H
    clear H
    have H:=H1
    clear H1
    simp only [Option.some.injEq,Prod.mk.injEq] at H
    obtain⟨rfl,rfl,rfl⟩:=H
    go_enter Try.func149,Try.ntmps149
    try go_wp2_with (first | ((with_reducible refine gate_dst (N:=4) rfl ?_);refine box_event ?hg (N:=4) ?hd (cs:= #[.int .i64 0, .int .i64 0]) (t:=93) ?hr ?_;(case hd=>rfl);(case hg=>rfl);(case hr=>first | (go_simp;done) | (go_simp;rfl));intro af hg w43 hbox hb;have aa:=q_ (hbox);have ay:=q_ ((by rw [hg];exact bz_:w.heap.size≤af));have az:=q_ ((by rw [hg];exact bz_:w.heap.size≤af));replace HB:=q_ (bs_ hb);clear hb hbox hg) | ((with_reducible refine gate_callee (f:=182) rfl ?_);refine gL_ 10 Try.func182 #[.int .i64 a0, .int .i64 a1] ?_;(with_reducible refine(impl_common.calls k a0 a1 ae _ A3.out).mono ?_);rintro e w44 ⟨rfl,hb⟩;refine⟨_,rfl,?_⟩;replace aa:=q_ (bb_ aa.out hb);replace HB:=q_ (bs_ hb);(try clear hb);(try clear hb2);(try clear hk);(try clear hi)))
    replace aa:=q_ (blk_drew aa.out)
    replace HB:=q_ (below_drew1 HB.out)
    refine st_ (n:=9) (S:=fun w'=>True) (ds:= []) trivial (fun hHeld=>?_);refine with_tabW impl_reduced.tab4 impl_reduced.bits4 (fun HT_ HW_=>?_)
    generalize w44.drew=w45 at aa HB hHeld ⊢
    refine pu_ 0 15 ?_;refine pu_ 1 16 ?_;refine pu_ 2 17 ?_;refine pu_ 3 18 ?_;refine pu_ 4 19 ?_;refine pu_ 5 20 ?_;refine pu_ 6 21 ?_
    refine on_ 7 (some 7) (fun K hK=>?_)
    refine box_step ?hg (N:=7) ?hd (cs:= #[.int .i64 0, .int .i64 0]) (t:=93) ?hr ?_;(case hd=>rfl);(case hg=>rfl);(case hr=>first | (go_simp;done) | (go_simp;rfl))
    intro aj hg w46 hbox hb
    have ah:=q_ (hbox)
    have aD:=q_ ((by rw [hg];exact bz_:w.heap.size≤aj))
    have aG:=q_ ((by rw [hg];exact bz_:w.heap.size≤aj))
    have aq:=q_ ((by rw [hg];exact lt_ aa.out:af≠aj))
    have av:=q_ ((by rw [hg];exact gt_ aa.out:aj≠af))
    replace aa:=q_ (bb_ aa.out hb)
    replace HB:=q_ (bs_ hb)
    clear hb hbox hg
    refine hK.out _ _ trivial (fun hHeld=>?_)
    clear hK K
    refine norm_ (a':=?_) ?_ ?_
    rotate_left
    ·show Act.put _ (some 7) _=_
     simp only [Act.put,List.setIfInBounds_toArray,List.set_cons_zero,List.set_cons_succ,i64_w,i32_w]
     rfl
    refine on_ 8 none (fun K hK=>?_)
    have hs47:w46.cell? ⟨aj,0,none⟩=some (.int .i64 0):=(blk_cell ah.out 0).trans rfl
    have hfs47:=blk_frozen ah.out 0
    have hns47_0:=aq.out
    have hms47_0:=av.out
    have hs48:w46.cell? ⟨aj,1,none⟩=some (.int .i64 0):=(blk_cell ah.out 1).trans rfl
    have hfs48:=blk_frozen ah.out 1
    have hns48_0:=aq.out
    have hms48_0:=av.out
    refine skip_ (w1:=?_) (by rfl) rfl ?_ ?_
    rotate_left
    ·go_simp
     rfl
    refine hK.out _ _ trivial (fun hHeld=>?_)
    clear hK K
    refine done_ (done_of HT_.out (by kernel_rfl)) ?_
    have bW:=av.out
    have bX:=aq.out
    have bH:w46.cell? ⟨aj,0,none⟩=some (.int .i64 0):=(blk_cell ah.out 0).trans rfl
    have bI:w46.cell? ⟨aj,1,none⟩=some (.int .i64 0):=(blk_cell ah.out 1).trans rfl
    have bJ:=blk_frozen ah.out 0
    have bK:=blk_frozen ah.out 1
    try go_wp2_with (first | ((with_reducible refine gate_callee (f:=183) rfl ?_);refine gL_ 23 Try.func183 #[.agg #[.int .i64 (wrap64 (Int.tdiv a0 ae)), .int .i64 (wrap64 (Int.tdiv a1 ae))]] ?_;(with_reducible refine(impl_IsFrac.calls k (wrap64 (Int.tdiv a0 ae)) (wrap64 (Int.tdiv a1 ae)) false _ A30.out).mono ?_);rintro e w51 ⟨rfl,hb⟩;refine⟨_,rfl,?_⟩;replace aa:=q_ (blk_below (g:=af) (o:= .cells #[.int .i64 0, .int .i64 0] 93 (0,0)) (by(with_reducible repeat (first | refine blk_drewN ?_ _ | refine blk_drew ?_ | refine blk_alloc ?_ _));refine blk_far ?_ aq.out _;(with_reducible repeat (first | refine blk_drewN ?_ _ | refine blk_drew ?_ | refine blk_alloc ?_ _));refine blk_far ?_ aq.out _;(with_reducible repeat (first | refine blk_drewN ?_ _ | refine blk_drew ?_ | refine blk_alloc ?_ _));exact aa.out) hb);replace ah:=q_ (blk_below (g:=aj) (o:= .cells #[.int .i64 (wrap64 (Int.tdiv a0 ae)), .int .i64 (wrap64 (Int.tdiv a1 ae))] 93 (0,0)) (by(with_reducible repeat (first | refine blk_drewN ?_ _ | refine blk_drew ?_ | refine blk_alloc ?_ _));refine blk_put (cs:= #[.int .i64 (wrap64 (Int.tdiv a0 ae)), .int .i64 0]) ?_ 1 _ rfl;(with_reducible repeat (first | refine blk_drewN ?_ _ | refine blk_drew ?_ | refine blk_alloc ?_ _));refine blk_put (cs:= #[.int .i64 0, .int .i64 0]) ?_ 0 _ rfl;(with_reducible repeat (first | refine blk_drewN ?_ _ | refine blk_drew ?_ | refine blk_alloc ?_ _));exact ah.out) hb);replace HB:=q_ (bs_ hb);(try clear hb);(try clear hb2);(try clear hk);(try clear hi);have bL:w51.cell? ⟨af,0,none⟩=some (.int .i64 0):=(blk_cell aa.out 0).trans rfl;have bM:w51.cell? ⟨af,1,none⟩=some (.int .i64 0):=(blk_cell aa.out 1).trans rfl;have bN:=blk_frozen aa.out 0;have bO:=blk_frozen aa.out 1))
    refine bodyPost_ret (results_ct rfl _ _ af 93 #[.int .i64 0, .int .i64 0] (0,0) _ rfl (by(with_reducible repeat (first | refine blk_drewN ?_ _ | refine blk_drew ?_ | refine blk_alloc ?_ _));refine blk_put (cs:= #[.int .i64 0, .int .i64 0]) ?_ 1 _ rfl;(with_reducible repeat (first | refine blk_drewN ?_ _ | refine blk_drew ?_ | refine blk_alloc ?_ _));refine blk_put (cs:= #[.int .i64 0, .int .i64 0]) ?_ 0 _ rfl;(with_reducible repeat (first | refine blk_drewN ?_ _ | refine blk_drew ?_ | refine blk_alloc ?_ _));exact aa.out) Try.underlying93 rfl (by kernel_rfl)) rfl ?_
    exact⟨by first | rfl | (simp [errW_none,errW_some] <;> rfl) | (simp [*,errW_none,errW_some] <;> rfl),hb_⟩
def impl_allReduced.l0:Nat→Int→List (S93)→List Int→Int→Int→Option ((List (S93)) × Int)
 | 0,_,_,_,_,_=>none
 | k+1,x1,x6,x11,x12,x13=>if x13 < x12 then(if 0≤x13 then(if x13 < (x11.length:Int) then((impl_reduced.f k (rd x11 x13) x1).bind fun aa=>(if aa.2.2=0 then(if x6.length < 8796093022208 then(impl_allReduced.l0 k x1 (x6++ [(⟨aa.1,aa.2.1⟩:S93)]) x11 x12 (wrap64 (x13+1))) else(none)) else(some (([]:List (S93)),aa.2.2)))) else(none)) else(none)) else(some (x6,0))
def impl_allReduced.f (k:Nat) (l0:List Int) (a1:Int):Option ((List (S93)) × Int):=impl_allReduced.l0 k a1 ([]:List (S93)) l0 (l0.length:Int) 0
theorem impl_allReduced.mono_l: ∀k,(∀y0 y1 y2 y3 y4,LeO (impl_allReduced.l0 k y0 y1 y2 y3 y4) (impl_allReduced.l0 (k+1) y0 y1 y2 y3 y4))
 | 0=>fun _ _ _ _ _ r h=>by simp [impl_allReduced.l0] at h
 | k+1=>by
  have ih0:=impl_allReduced.mono_l k
  ·intro y0 y1 y2 y3 y4
   unfold impl_allReduced.l0
   repeat' first
   | (with_reducible exact ih0 _ _ _ _ _)
   | (with_reducible exact impl_reduced.mono _ _ _)
   | (with_reducible exact LeO.refl _)
   | (with_reducible exact LeO.none _)
   | (with_reducible refine LeO.ite ?_ ?_)
   | (with_reducible refine LeO.bind ?_ (fun _=>?_))
   | exact ih0 _ _ _ _ _
   | exact impl_reduced.mono _ _ _
   | exact LeO.none _
   | refine LeO.ite ?_ ?_
   | refine LeO.bind ?_ (fun _=>?_)
theorem impl_allReduced.mono: ∀a0 a1 k,LeO (impl_allReduced.f k a0 a1) (impl_allReduced.f (k+1) a0 a1):=by
 intro a0 a1 k
 have ih0:=impl_allReduced.mono_l k
 unfold impl_allReduced.f
 repeat' first
   | (with_reducible exact ih0 _ _ _ _ _)
   | (with_reducible exact impl_reduced.mono _ _ _)
   | (with_reducible exact LeO.refl _)
   | (with_reducible exact LeO.none _)
   | (with_reducible refine LeO.ite ?_ ?_)
   | (with_reducible refine LeO.bind ?_ (fun _=>?_))
   | exact ih0 _ _ _ _ _
   | exact impl_reduced.mono _ _ _
   | exact LeO.none _
   | refine LeO.ite ?_ ?_
   | refine LeO.bind ?_ (fun _=>?_)
theorem impl_allReduced.calls (k:Nat) (A0:Option Addr) (c0:Nat) (l0:List Int) (a1:Int) (r1:List (S93)) (r2:Int) (w:World) (hr0:Kd.C (Kd.int .i64) w A0 l0.length l0) (hc0:l0.length≤c0) (h:impl_allReduced.f k l0 a1=some (r1,r2)):
  Calls Try.prog 90 #[.slice A0 l0.length c0, .int .i64 a1] w fun e w'=> ∃v0_:Value,e= .returned (.tuple #[v0_, .int .i64 r2])∧Kd.R k93 93 w' w.heap.size (fun _=>True) v0_ r1∧Below w.heap.size w w':=by
 have hu93:=Try.underlying93
 have HR0:=q_ hr0
 have HC0:=q_ hc0
 clear hr0 hc0
 have HB:=q_ (Below.refl w.heap.size w)
 have H:(impl_allReduced.l0 k a1 ([]:List (S93)) l0 (l0.length:Int) 0)=some (r1,r2):=h
 clear h
 have H':=q_ H
 clear H
 go_enter Try.func90,Try.ntmps90
 go_wp2
 go_loopg [6,13] k (fun kq v6 v13 w'=> ∃(ak:List (S93)) (aa:Int),v13= .int .i64 aa∧Aside0 (impl_allReduced.l0 kq a1 ak l0 (l0.length:Int) aa=some (r1,r2))∧Aside0 (kq≤k)∧Aside0 (Kd.R k93 93 w' w.heap.size (fun _=>True) v6 ak)∧Aside0 (Below w.heap.size w w'))
 case atStart=>exact⟨(([]:List (S93))),(0),rs_,H',⟨Nat.le_refl _⟩,⟨by first | exact Kd.R_nil _ _ _ _ _ | exact Kd.N_nil _ _ _ _ _ | exact Kd.V_nil _ _ _ _ _ | exact Kd.Q_nil _ _ _ _ _ | exact Kd.S_nil _ _ _ _ _⟩,⟨hb_⟩⟩
 case round=>
  clear H'
  try clear p2
  obtain⟨ak,aa,rfl,HA,HK1,ag,HB⟩:=hrel
  cases gk with
  | zero=>exact absurd HA.out (by simp [impl_allReduced.l0])
  | succ k1=>
   have H:=HA.out
   clear HA
   simp only [impl_allReduced.l0] at H
   by_cases c3:aa < (l0.length:Int)
   ·rw [if_pos c3] at H
    have c3b0:decide (aa < (l0.length:Int))=true:=decide_eq_true c3
    clear c3
    by_cases c4:0≤aa
    ·rw [if_pos c4] at H
     have c4b0:decide (0≤aa)=true:=decide_eq_true c4
     clear c4
     by_cases c5:aa < (l0.length:Int)
     ·rw [if_pos c5] at H
      have c5b0:decide (aa < (l0.length:Int))=true:=decide_eq_true c5
      clear c5
      replace H:=Option.bind_eq_some_iff.mp H
      obtain⟨⟨ah,ai,aj⟩,A60,H⟩:=H
      replace H:(if aj=0 then(if ak.length < 8796093022208 then(impl_allReduced.l0 k1 a1 (ak++ [(⟨ah,ai⟩:S93)]) l0 (l0.length:Int) (wrap64 (aa+1))) else(none)) else(some (([]:List (S93)),aj)))=some (r1,r2):=H
      have A6:=q_ A60
      clear A60
      by_cases c7:aj=0
      ·rw [if_pos c7] at H
       have c7b0:(aj==0)=true:=beq_iff_eq.mpr c7
       have c7b1:(aj !=0)=false:=bne_eq_false_iff_eq.mpr c7
       clear c7
       by_cases c8:ak.length < 8796093022208
       ·rw [if_pos c8] at H
        have az:=q_ c8
        clear c8
        obtain⟨aq,hy360⟩: ∃y_:List (S93),y_=(ak++ [(⟨ah,ai⟩:S93)]):=⟨_,rfl⟩
        replace H:(impl_allReduced.l0 k1 a1 aq l0 (l0.length:Int) (wrap64 (aa+1)))=some (r1,r2):=by first | (rw [hy360];with_reducible exact H) | (have H2_:=(Option.bind_some _ _).symm.trans H;rw [hy360];with_reducible exact H2_) | (have H2_:=(Option.bind_some _ _).symm.trans H;with_reducible exact H2_) | with_reducible exact H | (rw [hy360];exact H) | exact H
        have au:=q_ hy360
        clear hy360
        have H':=q_ H
        clear H
        have p355:0≤(aa:Int):=od_
        have q355:aa < (l0.length:Int):=od_
        obtain⟨av,e355,hx355_0⟩:=Kd.at_int HR0.out aa p355 q355
        cases e355
        replace hx355_0:=(HB.out.cell (World.block_lt_of_cell? w _ hx355_0)).trans hx355_0
        replace p355:=eq_true p355
        replace q355:=eq_true q355
        go_wp2_with (first | ((with_reducible refine gate_callee (f:=149) rfl ?_);refine gL_ 20 Try.func149 #[.int .i64 (rd l0 aa), .int .i64 a1] ?_;(with_reducible refine(impl_reduced.calls k1 (rd l0 aa) a1 ah ai aj _ A6.out).mono ?_);rintro e w9 ⟨rfl,hb⟩;refine⟨_,rfl,?_⟩;replace ag:=q_ (rb_ ag.out hb);replace HB:=q_ (bs_ hb);(try clear hb);(try clear hb2);(try clear hk);(try clear hi)) | ((with_reducible refine gate_dst (N:=9) rfl ?_);refine box_event ?hg (N:=9) ?hd (cs:= #[.int .i64 0, .int .i64 0]) (t:=93) ?hr ?_;(case hd=>rfl);(case hg=>rfl);(case hr=>first | (go_simp;done) | (go_simp;rfl));intro ae hg w10 hbox hb;replace ag:=q_ (Kd.R_below (Kd.R_elderB (ro_ ag.out) ae (Nat.le_of_eq hg.symm)) hb);have af:=q_ (hbox);have aw:=q_ ((by rw [hg];exact bz_:w.heap.size≤ae));have ax:=q_ ((by rw [hg];exact bz_:w.heap.size≤ae));replace HB:=q_ (bs_ hb);clear hb hbox hg;have aA:w10.cell? ⟨ae,0,none⟩=some (.int .i64 0):=(blk_cell af.out 0).trans rfl;have aC:w10.cell? ⟨ae,1,none⟩=some (.int .i64 0):=(blk_cell af.out 1).trans rfl;have aD:=blk_frozen af.out 0;have aG:=blk_frozen af.out 1) | ((with_reducible refine gate_builtin (b:= .append) (xs:= #[.tmp 26, .tmp 28]) rfl ?_);at_builtin;refine Kd.R_append k93 (w0:=w) w.heap.size rfl (.tmp 26) (.tmp 28) 27 93 (.agg #[(.int .i64 0),(.int .i64 0)]) 16 rfl Try.underlying27 info93 rfl (by decide) (by omega) u6 ak (⟨ah,ai⟩:S93) [.int .i64 ah, .int .i64 ai] (fun k_=>k_≠ae) (fun _=>False) rfl (by first | (go_simp;done) | (go_simp;rfl)) ?aP (fun _ hk=>hk.elim) ?aF ?aO ?aB ?aS ?aL ?_;(case aP=>exact k93_mkM _ _ _ (⟨ah,ai⟩:S93));(case aB=>exact hb_);(case aF=>exact(fun k_ hk=>Kd.freshB (g:=ae) (o:= .cells #[.int .i64 ah, .int .i64 ai] 93 (0,0)) (by(with_reducible repeat (first | refine blk_drewN ?_ _ | refine blk_drew ?_ | refine blk_alloc ?_ _));refine blk_put (cs:= #[.int .i64 ah, .int .i64 0]) ?_ 1 _ rfl;(with_reducible repeat (first | refine blk_drewN ?_ _ | refine blk_drew ?_ | refine blk_alloc ?_ _));refine blk_put (cs:= #[.int .i64 0, .int .i64 0]) ?_ 0 _ rfl;(with_reducible repeat (first | refine blk_drewN ?_ _ | refine blk_drew ?_ | refine blk_alloc ?_ _));exact af.out) k_ hk));(case aO=>exact(by(with_reducible repeat (first | apply Kd.R_alloc | apply Kd.R_drewN | apply Kd.R_drew));exact Kd.R_mono (Kd.R_far (p:=⟨ae,1,none⟩) (Kd.R_far (p:=⟨ae,0,none⟩) (Kd.R_mono ag.out (fun k_ hk=>(⟨hk,hk.2⟩:_∧k_≠ae))) (fun _ hk=>hk.2) (.int .i64 ah)) (fun _ hk=>hk.2) (.int .i64 ai)) (fun _ hk=>hk.1.2)));(case aS=>exact bz_);(case aL=>have:=az.out;omega);intro aM w12 ho hb hg hat;rw [← au.out] at ho;replace af:=q_ (blk_grown (g:=ae) (o:= .cells #[.int .i64 ah, .int .i64 ai] 93 (0,0)) (by(with_reducible repeat (first | refine blk_drewN ?_ _ | refine blk_drew ?_ | refine blk_alloc ?_ _));refine blk_put (cs:= #[.int .i64 ah, .int .i64 0]) ?_ 1 _ rfl;(with_reducible repeat (first | refine blk_drewN ?_ _ | refine blk_drew ?_ | refine blk_alloc ?_ _));refine blk_put (cs:= #[.int .i64 0, .int .i64 0]) ?_ 0 _ rfl;(with_reducible repeat (first | refine blk_drewN ?_ _ | refine blk_drew ?_ | refine blk_alloc ?_ _));exact af.out) hg (Kd.R_away ag.out (fun _ hk=>hk.2)));replace HB:=q_ (hb);have ay:=q_ (ho);clear ag ho hb hg hat))
        go_roundg k1
        case measure=>have:=HK1.out;omega
        case rel=>exact⟨(aq),(wrap64 (aa+1)),rs_,H',⟨by have:=HK1.out;omega⟩,⟨by(with_reducible repeat (first | apply Kd.R_alloc | apply Kd.R_drewN | apply Kd.R_drew));exact Kd.R_mono ay.out (fun _ hk=>trivial)⟩,⟨hb_⟩⟩
       ·rw [if_neg c8] at H
        exact absurd H (by simp)
      ·rw [if_neg c7] at H
       have c7b0:(aj==0)=false:=beq_eq_false_iff_ne.mpr c7
       have c7b1:(aj !=0)=true:=bne_iff_ne.mpr c7
       simp only [Option.some.injEq,Prod.mk.injEq] at H
       obtain⟨rfl,rfl⟩:=H
       have p355:0≤(aa:Int):=od_
       have q355:aa < (l0.length:Int):=od_
       obtain⟨av,e355,hx355_0⟩:=Kd.at_int HR0.out aa p355 q355
       cases e355
       replace hx355_0:=(HB.out.cell (World.block_lt_of_cell? w _ hx355_0)).trans hx355_0
       replace p355:=eq_true p355
       replace q355:=eq_true q355
       go_wp2_with (first | ((with_reducible refine gate_callee (f:=149) rfl ?_);refine gL_ 20 Try.func149 #[.int .i64 (rd l0 aa), .int .i64 a1] ?_;(with_reducible refine(impl_reduced.calls k1 (rd l0 aa) a1 ah ai aj _ A6.out).mono ?_);rintro e w13 ⟨rfl,hb⟩;refine⟨_,rfl,?_⟩;replace ag:=q_ (rb_ ag.out hb);replace HB:=q_ (bs_ hb);(try clear hb);(try clear hb2);(try clear hk);(try clear hi)) | ((with_reducible refine gate_dst (N:=9) rfl ?_);refine box_event ?hg (N:=9) ?hd (cs:= #[.int .i64 0, .int .i64 0]) (t:=93) ?hr ?_;(case hd=>rfl);(case hg=>rfl);(case hr=>first | (go_simp;done) | (go_simp;rfl));intro ae hg w14 hbox hb;replace ag:=q_ (Kd.R_below (Kd.R_elderB (ro_ ag.out) ae (Nat.le_of_eq hg.symm)) hb);have af:=q_ (hbox);have aw:=q_ ((by rw [hg];exact bz_:w.heap.size≤ae));have ax:=q_ ((by rw [hg];exact bz_:w.heap.size≤ae));replace HB:=q_ (bs_ hb);clear hb hbox hg;have aH:w14.cell? ⟨ae,0,none⟩=some (.int .i64 0):=(blk_cell af.out 0).trans rfl;have aI:w14.cell? ⟨ae,1,none⟩=some (.int .i64 0):=(blk_cell af.out 1).trans rfl;have aJ:=blk_frozen af.out 0;have aK:=blk_frozen af.out 1))
       go_ret2
       exact⟨_,by first | rfl | (simp [errW_none,errW_some] <;> rfl) | (simp [*,errW_none,errW_some] <;> rfl),by first | exact Kd.R_nil _ _ _ _ _ | exact Kd.N_nil _ _ _ _ _ | exact Kd.V_nil _ _ _ _ _ | exact Kd.Q_nil _ _ _ _ _ | exact Kd.S_nil _ _ _ _ _,hb_⟩
     ·rw [if_neg c5] at H
      exact absurd H (by simp)
    ·rw [if_neg c4] at H
     exact absurd H (by simp)
   ·rw [if_neg c3] at H
    have c3b0:decide (aa < (l0.length:Int))=false:=decide_eq_false c3
    clear c3
    simp only [Option.some.injEq,Prod.mk.injEq] at H
    obtain⟨rfl,rfl⟩:=H
    go_wp2
    go_ret2
    exact⟨_,by first | rfl | (simp [errW_none,errW_some] <;> rfl) | (simp [*,errW_none,errW_some] <;> rfl),ro_ ag.out,hb_⟩
end Go.Proofs.Ytmpkckiifeikkaa.Pr
end
section
namespace Go.Proofs.Ytmpkckiifeikkaa.Pr
open Go.RowKit Go.Proofs.YtmpkckiifeikkaaW.PrintWords Go.Proofs.YtmpkckiifeikkaaW.PrintLast Go.Proofs.YtmpkckiifeikkaaW.PrintMore Go.Proofs.Ytmpkckiifeikkaa.Ma Go.Proofs.Ytmpkckiifeikkaa.Dt Go.Proofs.Ytmpkckiifeikkaa.Lk Go.Proofs.Ytmpkckiifeikkaa.Lt Go.Proofs.Ytmpkckiifeikkaa.Lq
def rgL (s:TS) (n:Nat):Nat→List Int
 | 0=> []
 | i+1=>rgL s n i++ [s.T i (2*n+1)]
theorem rgL_len (s:TS) (n:Nat): ∀i,(rgL s n i).length=i
 | 0=>rfl
 | i+1=>by simp [rgL,rgL_len s n i]
theorem rgL_at (s:TS) (n:Nat): ∀i j,j < i→(rgL s n i).getD j 0=s.T j (2*n+1)
 | 0,j,h=>by omega
 | i+1,j,h=>by
  unfold rgL
  rw [List.getD_eq_getElem?_getD]
  by_cases c:j < i
  ·rw [List.getElem?_append_left (by rw [rgL_len];exact c), ← List.getD_eq_getElem?_getD];exact rgL_at s n i j c
  ·obtain rfl:j=i:=by omega
   rw [List.getElem?_append_right (by rw [rgL_len];exact Nat.le_refl _),rgL_len];simp
def raF (k:Nat) (s:TS) (n:Nat) (c:Int):Option (List S93 × Int):=if c=0 then impl_allReduced.f k (rgL s n n) s.den else some ([],c)
def impl_RightAfter.f (k:Nat) (ae:List (List Int)) (aa l1:List Int) (a2:Int):Option (List S93 × Int):=raF k (lkR ae aa l1 a2.toNat).1 aa.length (afC ae aa l1 a2)
theorem impl_RightAfter.mono: ∀a0 a1 a2 a3 k,LeO (impl_RightAfter.f k a0 a1 a2 a3) (impl_RightAfter.f (k+1) a0 a1 a2 a3):=by
 intro a0 a1 a2 a3 k
 unfold impl_RightAfter.f raF
 exact LeO.ite (impl_allReduced.mono _ _ _) (LeO.refl _)
theorem impl_RightAfter.calls (k:Nat) (af:Option Addr) (ag:Nat) (ae:List (List Int)) (ah:Option Addr) (ai:Nat) (aa:List Int) (A1:Option Addr) (c1:Nat) (l1:List Int) (a2:Int) (r1:List (S93)) (r2:Int) (w:World) (aj:Kd.C (Kd.slice 2 (Kd.int .i64)) w af ae.length ae) (ak:ae.length≤ag) (aq:Kd.C (Kd.int .i64) w ah aa.length aa) (au:aa.length≤ai) (hr1:Kd.C (Kd.int .i64) w A1 l1.length l1) (hc1:l1.length≤c1) (h:impl_RightAfter.f k ae aa l1 a2=some (r1,r2)):
  Calls Try.prog 13 #[.agg #[.slice af ae.length ag, .slice ah aa.length ai], .slice A1 l1.length c1, .int .i64 a2] w fun e w'=> ∃v0_:Value,e= .returned (.tuple #[v0_, .int .i64 r2])∧Kd.R k93 93 w' w.heap.size (fun _=>True) v0_ r1∧Below w.heap.size w w':=by
 unfold impl_RightAfter.f at h
 have HB:=q_ (Below.refl w.heap.size w)
 have hcall:=fun W (hb:Below w.heap.size w W)=>after_calls af ag ae ah ai aa A1 c1 l1 a2 W (Kd.C_below aj hb) ak (Kd.C_below aq hb) au (Kd.C_below hr1 hb) hc1
 have HL:=q_ hcall
 clear hcall aj ak aq au hr1 hc1
 have hle:afC ae aa l1 a2=0→aa.length≤5:=fun h0=>(lkCode_pc (afC_lk h0).1).le
 obtain⟨s,hs⟩: ∃s,(lkR ae aa l1 a2.toNat).1=s:=⟨_,rfl⟩
 rw [hs] at h HL
 clear hs
 obtain⟨c,hc⟩: ∃c,afC ae aa l1 a2=c:=⟨_,rfl⟩
 rw [hc] at h HL hle
 clear hc
 have H:=q_ h
 have HLE:=q_ hle
 clear h hle
 generalize ae.length=m0 at HL ⊢
 generalize aa.length=n at H HL HLE ⊢
 generalize l1.length=m2 at HL ⊢
 go_enter Try.func13,Try.ntmps13
 go_wp2_with (first | ((with_reducible refine gate_dst (N:=3) rfl ?_);refine box_event ?hg (N:=3) ?hd (cs:= #[.slice af m0 ag, .slice ah n ai]) (t:=30) ?hr ?_;(case hd=>rfl);(case hg=>rfl);(case hr=>first | (go_simp;done) | (go_simp;rfl));intro g3 hg w2 hbox hb;replace HB:=q_ (below_step HB.out hb);have B3:=q_ hbox;have hz0:=cz_ B3 0;have hz1:=cz_ B3 1;clear hb hbox hg))
 refine(HL.out w2 HB.out).mono ?_
 rintro e w3 ⟨hor,hb⟩
 have HBS:=q_ HB.out.size
 replace HB:=q_ (below_step HB.out hb)
 clear hb hz0 hz1 HL B3
 rcases hor with ⟨hc,rfl⟩ | ⟨rfl,lo,hi,t,rfl,hlo,hT⟩
 ·have hcb:(c==0)=false:=by simpa using hc
  have e:=H.out
  unfold raF at e
  rw [if_neg hc] at e
  injection e with e
  injection e with e1 e2
  subst e1 e2
  clear H
  go_wp2
  go_ret2
  exact⟨_,rfl,Kd.R_nil _ _ _ _ _,HB.out⟩
 ·have e:=H.out
  unfold raF at e
  rw [if_pos rfl] at e
  have H2:=q_ e
  clear H e
  obtain⟨g,gb,cg,cb,b,cp,hT⟩:=hT
  have HT:=q_ hT
  have HLO:=q_ (Nat.le_trans HBS.out hlo)
  have HN5:=q_ (HLE.out rfl)
  have HHI:Aside0 (hi≤w3.heap.size):=⟨hT.size⟩
  have HB3:Aside0 (Below w3.heap.size w3 w3):=⟨Below.refl _ _⟩
  have HWB:Aside0 (w3.heap.size≤w3.heap.size):=⟨Nat.le_refl _⟩
  have hq0:=hT.h0
  clear hT hlo HLE
  go_wp2
  clear hq0
  have HR:Aside0 (Kd.R (Kd.int .i64) 2 w3 w3.heap.size (fun _=>True) (.slice none 0 0) (rgL s n 0)):=⟨Kd.R_nil _ _ _ _ _⟩
  go_loopg [10,27] n (fun gg v10 v27 wr=> ∃(i:Nat),i≤n∧n - i≤gg∧v27= .int .i64 (i:Int)∧Aside0 (Kd.R (Kd.int .i64) 2 wr w3.heap.size (fun _=>True) v10 (rgL s n i))∧Aside0 (Below w3.heap.size w3 wr)∧Aside0 (w3.heap.size≤wr.heap.size))
  case atStart=>exact⟨0,Nat.zero_le _,by omega,rfl,HR,HB3,HWB⟩
  case round=>
   clear HR HB3 HWB
   obtain⟨i,hi',hg,rfl,HR,HB3,HWB⟩:=hrel
   have HG:=q_ hg
   obtain⟨A10,c10,e10⟩:=Kd.R_slice HR.out
   rw [rgL_len] at e10
   subst e10
   by_cases hlt:i < n
   ·have hltz:(i:Int) < (n:Int):=by omega
    have h0z:(0:Int)≤(i:Int):=by omega
    have hw:IntKind.i64.wrap ((i:Int)+1)=((i+1:Nat):Int):=by rw [IntWalk.i64_in _ (by have:=HN5.out;omega)];rfl
    have HW:=q_ hw
    have HLT:=q_ hlt
    clear hi' hg hlt
    go_wp2_with fail
    refine(right_calls (HT.out.mv (Out.hi HB3.out) (.inl HHI.out)) i HLT.out (by omega) (by have:=HN5.out;omega)).mono ?_
    rintro e w7 ⟨rfl,hb⟩
    replace HR:=q_ (Kd.R_below HR.out hb)
    replace HB3:=q_ (below_step HB3.out hb)
    replace HWB:=q_ (Nat.le_trans HWB.out hb.size)
    obtain⟨x,hx⟩: ∃x,s.T i (2*n+2 - 1)=x:=⟨_,rfl⟩
    rw [hx]
    have HX:=q_ hx
    clear hb hx
    go_wp2_with (first | ((with_reducible refine gate_builtin (b:= .append) (xs:= #[.tmp 30, .tmp 34]) rfl ?_);at_builtin;refine Kd.R_append (Kd.int .i64) (w0:=w3) w3.heap.size rfl (.tmp 30) (.tmp 34) 23 2 (.int .i64 0) 8 rfl Try.underlying23 info2 rfl (by decide) (by omega) (.slice A10 i c10) (rgL s n i) x [.int .i64 x] (fun _=>True) (fun _=>False) rfl rfl rfl (fun _ hk=>hk.elim) (fun _ _=>trivial) HR.out HB3.out HWB.out ?aL ?_;(case aL=>have:=HN5.out;have:=HLT.out;rw [rgL_len];omega);intro v11 w11 ho hb hg hat;replace HR:=q_ ho;replace HB3:=q_ hb;replace HWB:=q_ (Nat.le_trans HWB.out hg.size);clear ho hb hg hat))
    go_roundg (n - (i+1))
    case measure=>have:=HG.out;have:=HLT.out;omega
    case rel=>
     refine⟨i+1,HLT.out,by omega,by first | rfl | (rw [HW.out]) | (simp [HW.out]),?_,HB3,HWB⟩
     show Aside0 (Kd.R _ _ _ _ _ _ (rgL s n i++ [s.T i (2*n+1)]))
     rw [show s.T i (2*n+1)=x from HX.out]
     exact HR
   ·have hltz: ¬ (i:Int) < (n:Int):=by omega
    obtain rfl:n=i:=by omega
    have hq1:=(HT.out.mv (Out.hi HB3.out) (.inl HHI.out)).h1.1
    have hcall:=impl_allReduced.calls k A10 c10 (rgL s n n) s.den r1 r2 wr (Kd.R_reads' HR.out).2.2 (by have:=(Kd.R_reads' HR.out).2.1;rw [rgL_len];exact this) H2.out
    rw [rgL_len] at hcall
    have HCALL:=q_ hcall
    clear hi' hg hlt hcall
    go_wp2_with fail
    refine HCALL.out.mono ?_
    rintro e w8 ⟨v9,rfl,hR9,hb⟩
    have HW3:Aside0 (w.heap.size≤w3.heap.size):=⟨Nat.le_trans HLO.out (Nat.le_trans (Nat.le_of_lt (Nat.lt_of_le_of_lt HT.out.tR.1 HT.out.tR.2)) HHI.out)⟩
    have HR9:=q_ (Kd.R_lower hR9 (Nat.le_trans HW3.out HWB.out))
    replace HB3:=q_ (below_step HB3.out hb)
    clear hR9 hb hq1 HCALL
    go_wp2
    go_ret2
    exact⟨_,rfl,HR9.out,(Out.hi HB3.out).toBelow HB.out HW3.out⟩
end Go.Proofs.Ytmpkckiifeikkaa.Pr
end
section
namespace Go.Proofs.Ytmpkckiifeikkaa.Pr
open Go.RowKit Go.Proofs.YtmpkckiifeikkaaW.PrintWords Go.Proofs.YtmpkckiifeikkaaW.PrintMore Go.Proofs.Ytmpkckiifeikkaa.Ma Go.Proofs.Ytmpkckiifeikkaa.Dt Go.Proofs.Ytmpkckiifeikkaa.Lk Go.Proofs.Ytmpkckiifeikkaa.Lt Go.Proofs.Ytmpkckiifeikkaa.Lq
theorem goI_ok {n m:Nat} {A:Mat} (hn:n≤5) (hn0:0 < n) (hm:m=2*n+2) (hA:Small n m A): ∀(q:Nat) (s:TS) (v r:Nat) (st:List (List Int)),Ok n m A s→r < n→v+1 < m→s.T r v≠0→
  Ok n m A (goI n m q s v r st).1∧0≤(goI n m q s v r st).2.2.2.1∧(goI n m q s v r st).2.2.2.1 < 2*(n:Int)+1:=by
 intro q
 induction q with
 | zero=>intro s v r st hs hr hv hp;exact⟨hs,Int.le_refl _,by show (0:Int) < 2*(n:Int)+1;omega⟩
 | succ q ih=>
  intro s v r st hs hr hv hp
  have hs2:=hs.step hn hA hr hv hp
  unfold goI
  split
  ·exact⟨hs,Int.le_refl _,by show (0:Int) < 2*(n:Int)+1;omega⟩
  ·split
   ·exact⟨hs2,Int.le_refl _,by show (0:Int) < 2*(n:Int)+1;omega⟩
   ·rename_i hl
    have hlt:=hs.lt r hr
    have hnn:=hs.nn r hr
    have hp2:partner n (s.bs.getD r 0).toNat < 2*n:=by unfold partner;split <;> omega
    obtain⟨o,ho⟩: ∃o,rowB n m (s.step r v) (fun i=>(s.step r v).T i (partner n (s.bs.getD r 0).toNat))=o:=⟨_,rfl⟩
    rw [ho]
    cases o with
    | none=>exact⟨hs2,by show (0:Int)≤((partner n (s.bs.getD r 0).toNat:Nat):Int);omega,by show ((partner n (s.bs.getD r 0).toNat:Nat):Int) < _;omega⟩
    | some r'=>
     have h2:=rowB_some ho
     exact ih _ _ _ _ hs2 h2.1 (by omega) (by have:=h2.2;omega)
theorem lkR_ok {M:List (List Int)} {Q cv:List Int} (h:PC M Q cv Q.length) (most:Nat):
  Ok Q.length (2*Q.length+2) (tab0 Q.length (enL M) (fun i=>cv.getD i 0) (fun i=>Q.getD i 0)) (lkR M Q cv most).1∧0≤(lkR M Q cv most).2.2.2.1∧(lkR M Q cv most).2.2.2.1 < 2*(Q.length:Int)+1:=by
 have hA:=first_small (n:=Q.length) (M:=enL M) (cv:=fun i=>cv.getD i 0) (q:=fun i=>Q.getD i 0) h.Mb (fun i hi=>by have:=h.cb i hi;omega) h.qb
 have hok:=first_ok (n:=Q.length) (M:=enL M) (cv:=fun i=>cv.getD i 0) (q:=fun i=>Q.getD i 0)
 have hn0:=h.pos
 unfold lkR runI
 split
 ·exact⟨hok,Int.le_refl _,by show (0:Int) < 2*(Q.length:Int)+1;omega⟩
 ·obtain⟨o,ho⟩: ∃o,rowB Q.length (2*Q.length+2) (first Q.length (enL M) (fun i=>cv.getD i 0) (fun i=>Q.getD i 0)) (fun i=>cv.getD i 0)=o:=⟨_,rfl⟩
  rw [ho]
  cases o with
  | none=>exact⟨hok,Int.le_refl _,by show (0:Int) < 2*(Q.length:Int)+1;omega⟩
  | some r=>
   have h2:=rowB_some ho
   refine goI_ok h.le hn0 rfl hA most _ (2*Q.length) r [] hok h2.1 (by omega) ?_
   show tab0 Q.length (enL M) (fun i=>cv.getD i 0) (fun i=>Q.getD i 0) r (2*Q.length)≠0
   unfold tab0
   rw [if_neg (by omega),if_neg (by omega),if_pos rfl]
   have h3:0 < cv.getD r 0:=h2.2
   show - cv.getD r 0≠0
   omega
end Go.Proofs.Ytmpkckiifeikkaa.Pr
end
section
namespace Go.Proofs.Ytmpkckiifeikkaa.Fr
open Go.RowKit Go.Proofs.YtmpkckiifeikkaaW.PrintWords Go.Proofs.YtmpkckiifeikkaaW.PrintMore Go.Proofs.Ytmpkckiifeikkaa.Ma Go.Proofs.Ytmpkckiifeikkaa.Pr
def gc (a b:Int):Int:=(Int.gcd a b:Int)
def Big (x:Int):Prop:= -4611686018427387904≤x∧x≤4611686018427387904
theorem gc_zero (a:Int):gc a 0=if 0≤a then a else -a:=by
 unfold gc
 rw [Int.gcd_zero_right]
 split <;> omega
theorem gc_step (a b:Int):gc a b=gc b (Int.tmod a b):=by
 unfold gc Int.gcd
 rw [Int.natAbs_tmod,Nat.gcd_comm,Nat.gcd_rec,Nat.gcd_comm]
theorem tmod_lt {a b:Int} (h:b≠0):(Int.tmod a b).natAbs < b.natAbs:=by
 rw [Int.natAbs_tmod]
 exact Nat.mod_lt _ (by omega)
theorem abs_eq {a:Int} (h:Big a):mx a (wrap64 (-a))=if 0≤a then a else -a:=by
 unfold Big at h
 rw [w64 (by omega) (by omega)]
 unfold mx
 split <;> split <;> omega
theorem spec_loop: ∀(n:Nat) (a b:Int),b.natAbs≤n→Big a→Big b→Ev (fun k=>spec_l01Gcd.l0 k a b) (gc a b):=by
 intro n
 induction n with
 | zero=>
  intro a b hn ha hb
  obtain rfl:b=0:=by omega
  refine evstep (fun k=>by rw [spec_l01Gcd.l0]) (evpos rfl (evc ?_))
  rw [abs_eq ha,gc_zero]
 | succ n ih=>
  intro a b hn ha hb
  by_cases e:b=0
  ·subst e
   refine evstep (fun k=>by rw [spec_l01Gcd.l0]) (evpos rfl (evc ?_))
   rw [abs_eq ha,gc_zero]
  ·refine evstep (fun k=>by rw [spec_l01Gcd.l0]) (evneg e ?_)
   have h:=tmod_lt (a:=a) e
   rw [gc_step]
   exact ih b (Int.tmod a b) (by omega) hb (by unfold Big at*;omega)
theorem spec_gcd (a b:Int) (ha:Big a) (hb:Big b):Ev (fun k=>spec_l01Gcd.f k a b) (gc a b):=spec_loop b.natAbs a b (Nat.le_refl _) ha hb
end Go.Proofs.Ytmpkckiifeikkaa.Fr
end
section
namespace Go.Proofs.Ytmpkckiifeikkaa.Pr
open Go.RowKit Go.Proofs.YtmpkckiifeikkaaW.PrintWords Go.Proofs.YtmpkckiifeikkaaW.PrintLast Go.Proofs.YtmpkckiifeikkaaW.PrintMore
attribute [local go_sem] max2_int min2_int max_two min_two max_three min_three max_four min_four
def spec_l01IsFrac.f (k:Nat) (a0_0:Int) (a0_1:Int) (a1:Int):Option (Bool):=(spec_l01In.f a0_1 1 a1).bind fun aa=>(if aa=true then((spec_l01In.f a0_0 (wrap64 (-a1)) a1).bind fun ae=>(if ae=true then((spec_l01Gcd.f k a0_0 a0_1).bind fun af=>(some (af==1))) else(some false))) else(some false))
theorem spec_l01IsFrac.mono: ∀a0 a1 a2 k,LeO (spec_l01IsFrac.f k a0 a1 a2) (spec_l01IsFrac.f (k+1) a0 a1 a2):=by
 intro a0 a1 a2 k
 unfold spec_l01IsFrac.f
 repeat' first
   | (with_reducible exact spec_l01Gcd.mono _ _ _)
   | (with_reducible exact LeO.refl _)
   | (with_reducible exact LeO.none _)
   | (with_reducible refine LeO.ite ?_ ?_)
   | (with_reducible refine LeO.bind ?_ (fun _=>?_))
   | exact spec_l01Gcd.mono _ _ _
   | exact LeO.none _
   | refine LeO.ite ?_ ?_
   | refine LeO.bind ?_ (fun _=>?_)
theorem spec_l01IsFrac.calls (k:Nat) (a0_0:Int) (a0_1:Int) (a1:Int) (r:Bool) (w:World) (h:spec_l01IsFrac.f k a0_0 a0_1 a1=some r):
  Calls Try.prog 184 #[.agg #[.int .i64 a0_0, .int .i64 a0_1], .int .i64 a1] w fun e w'=>e= .returned (.bool r)∧Below w.heap.size w w':=by
 have hu93:=Try.underlying93
 have HB:=q_ (Below.refl w.heap.size w)
 have H:((spec_l01In.f a0_1 1 a1).bind fun ah=>(if ah=true then((spec_l01In.f a0_0 (wrap64 (-a1)) a1).bind fun ag=>(if ag=true then((spec_l01Gcd.f k a0_0 a0_1).bind fun af=>(some (af==1))) else(some false))) else(some false)))=some r:=h
 clear h
 replace H:=Option.bind_eq_some_iff.mp H
 obtain⟨ah,A30,H⟩:=H
 replace H:(if ah=true then((spec_l01In.f a0_0 (wrap64 (-a1)) a1).bind fun ag=>(if ag=true then((spec_l01Gcd.f k a0_0 a0_1).bind fun af=>(some (af==1))) else(some false))) else(some false))=some r:=H
 have A3:=q_ A30
 clear A30
 by_cases c4:ah=true
 ·subst c4
  have H1:((spec_l01In.f a0_0 (wrap64 (-a1)) a1).bind fun ag=>(if ag=true then((spec_l01Gcd.f k a0_0 a0_1).bind fun af=>(some (af==1))) else(some false)))=some r:=by rw [if_pos rfl] at H;exact H
  clear H
  have H:=H1
  clear H1
  replace H:=Option.bind_eq_some_iff.mp H
  obtain⟨ag,A50,H⟩:=H
  replace H:(if ag=true then((spec_l01Gcd.f k a0_0 a0_1).bind fun af=>(some (af==1))) else(some false))=some r:=H
  have A5:=q_ A50
  clear A50
  by_cases c6:ag=true
  ·subst c6
   have H1:((spec_l01Gcd.f k a0_0 a0_1).bind fun af=>(some (af==1)))=some r:=by rw [if_pos rfl] at H;exact H
   clear H
   have H:=H1
   clear H1
   replace H:=Option.bind_eq_some_iff.mp H
   obtain⟨af,A70,H⟩:=H
   replace H:(some (af==1))=some r:=H
   have A7:=q_ A70
   clear A70
   obtain rfl:=Option.some.inj H
   go_enter Try.func184,Try.ntmps184
   go_wp2_with (first | ((with_reducible refine gate_dst (N:=2) rfl ?_);refine box_event ?hg (N:=2) ?hd (cs:= #[.int .i64 a0_0, .int .i64 a0_1]) (t:=93) ?hr ?_;(case hd=>rfl);(case hg=>rfl);(case hr=>first | (go_simp;done) | (go_simp;rfl));intro ae hg w8 hbox hb;have aa:=q_ (hbox);have ai:=q_ ((by rw [hg];exact bz_:w.heap.size≤ae));have aj:=q_ ((by rw [hg];exact bz_:w.heap.size≤ae));replace HB:=q_ (bs_ hb);clear hb hbox hg;have aA:w8.cell? ⟨ae,0,none⟩=some (.int .i64 a0_0):=(blk_cell aa.out 0).trans rfl;have aC:w8.cell? ⟨ae,1,none⟩=some (.int .i64 a0_1):=(blk_cell aa.out 1).trans rfl;have aD:=blk_frozen aa.out 0;have aG:=blk_frozen aa.out 1) | ((with_reducible refine gate_callee (f:=119) rfl ?_);refine gL_ 8 Try.func119 #[.int .i64 a0_1, .int .i64 1, .int .i64 a1] ?_;(with_reducible refine(spec_l01In.calls a0_1 1 a1 true _ A3.out).mono ?_);rintro e w' ⟨rfl,⟨nd,rfl⟩⟩;refine⟨_,rfl,?_⟩) | (go_at_call 119;(with_reducible refine(spec_l01In.calls a0_0 (wrap64 (-a1)) a1 true _ A5.out).mono ?_);rintro e w' ⟨rfl,⟨nd,rfl⟩⟩) | (go_at_call 185;(with_reducible refine(spec_l01Gcd.calls k a0_0 a0_1 af _ A7.out).mono ?_);rintro e w10 ⟨rfl,hb⟩;replace aa:=q_ (bb_ aa.out hb);replace HB:=q_ (bs_ hb);(try clear hb);(try clear hb2);(try clear hk);(try clear hi)))
   go_ret
   exact⟨by first | rfl | (simp [errW_none,errW_some] <;> rfl) | (simp [*,errW_none,errW_some] <;> rfl),hb_⟩
  ·replace c6:=Bool.eq_false_iff.mpr c6
   subst c6
   have H1:(some false)=some r:=by rw [if_neg (show ¬ (false=true) by decide)] at H;exact H
   clear H
   have H:=H1
   clear H1
   obtain rfl:=Option.some.inj H
   go_enter Try.func184,Try.ntmps184
   go_wp2_with (first | ((with_reducible refine gate_dst (N:=2) rfl ?_);refine box_event ?hg (N:=2) ?hd (cs:= #[.int .i64 a0_0, .int .i64 a0_1]) (t:=93) ?hr ?_;(case hd=>rfl);(case hg=>rfl);(case hr=>first | (go_simp;done) | (go_simp;rfl));intro ae hg w11 hbox hb;have aa:=q_ (hbox);have ai:=q_ ((by rw [hg];exact bz_:w.heap.size≤ae));have aj:=q_ ((by rw [hg];exact bz_:w.heap.size≤ae));replace HB:=q_ (bs_ hb);clear hb hbox hg;have ak:w11.cell? ⟨ae,0,none⟩=some (.int .i64 a0_0):=(blk_cell aa.out 0).trans rfl;have aq:w11.cell? ⟨ae,1,none⟩=some (.int .i64 a0_1):=(blk_cell aa.out 1).trans rfl;have au:=blk_frozen aa.out 0;have av:=blk_frozen aa.out 1) | ((with_reducible refine gate_callee (f:=119) rfl ?_);refine gL_ 8 Try.func119 #[.int .i64 a0_1, .int .i64 1, .int .i64 a1] ?_;(with_reducible refine(spec_l01In.calls a0_1 1 a1 true _ A3.out).mono ?_);rintro e w' ⟨rfl,⟨nd,rfl⟩⟩;refine⟨_,rfl,?_⟩) | (go_at_call 119;(with_reducible refine(spec_l01In.calls a0_0 (wrap64 (-a1)) a1 false _ A5.out).mono ?_);rintro e w' ⟨rfl,⟨nd,rfl⟩⟩))
   go_ret
   exact⟨by first | rfl | (simp [errW_none,errW_some] <;> rfl) | (simp [*,errW_none,errW_some] <;> rfl),hb_⟩
 ·replace c4:=Bool.eq_false_iff.mpr c4
  subst c4
  have H1:(some false)=some r:=by rw [if_neg (show ¬ (false=true) by decide)] at H;exact H
  clear H
  have H:=H1
  clear H1
  obtain rfl:=Option.some.inj H
  go_enter Try.func184,Try.ntmps184
  go_wp2_with (first | ((with_reducible refine gate_dst (N:=2) rfl ?_);refine box_event ?hg (N:=2) ?hd (cs:= #[.int .i64 a0_0, .int .i64 a0_1]) (t:=93) ?hr ?_;(case hd=>rfl);(case hg=>rfl);(case hr=>first | (go_simp;done) | (go_simp;rfl));intro ae hg w13 hbox hb;have aa:=q_ (hbox);have ai:=q_ ((by rw [hg];exact bz_:w.heap.size≤ae));have aj:=q_ ((by rw [hg];exact bz_:w.heap.size≤ae));replace HB:=q_ (bs_ hb);clear hb hbox hg;have aw:w13.cell? ⟨ae,0,none⟩=some (.int .i64 a0_0):=(blk_cell aa.out 0).trans rfl;have ax:w13.cell? ⟨ae,1,none⟩=some (.int .i64 a0_1):=(blk_cell aa.out 1).trans rfl;have ay:=blk_frozen aa.out 0;have az:=blk_frozen aa.out 1) | ((with_reducible refine gate_callee (f:=119) rfl ?_);refine gL_ 8 Try.func119 #[.int .i64 a0_1, .int .i64 1, .int .i64 a1] ?_;(with_reducible refine(spec_l01In.calls a0_1 1 a1 false _ A3.out).mono ?_);rintro e w' ⟨rfl,⟨nd,rfl⟩⟩;refine⟨_,rfl,?_⟩))
  go_ret
  exact⟨by first | rfl | (simp [errW_none,errW_some] <;> rfl) | (simp [*,errW_none,errW_some] <;> rfl),hb_⟩
def spec_l01Told.f (k:Nat) (a0_0:Int) (a0_1:Int):Option (Int × Int × Int):=(spec_l01IsFrac.f k a0_0 a0_1 1000000000).bind fun aa=>(if aa=true then(some (a0_0,a0_1,0)) else(some (0,0,3)))
theorem spec_l01Told.mono: ∀a0 a1 k,LeO (spec_l01Told.f k a0 a1) (spec_l01Told.f (k+1) a0 a1):=by
 intro a0 a1 k
 unfold spec_l01Told.f
 repeat' first
   | (with_reducible exact spec_l01IsFrac.mono _ _ _ _)
   | (with_reducible exact LeO.refl _)
   | (with_reducible exact LeO.none _)
   | (with_reducible refine LeO.ite ?_ ?_)
   | (with_reducible refine LeO.bind ?_ (fun _=>?_))
   | exact spec_l01IsFrac.mono _ _ _ _
   | exact LeO.none _
   | refine LeO.ite ?_ ?_
   | refine LeO.bind ?_ (fun _=>?_)
theorem spec_l01Told.calls (k:Nat) (a0_0:Int) (a0_1:Int) (r1:Int) (r2:Int) (r3:Int) (w:World) (h:spec_l01Told.f k a0_0 a0_1=some (r1,r2,r3)):
  Calls Try.prog 151 #[.agg #[.int .i64 a0_0, .int .i64 a0_1]] w fun e w'=>e= .returned (.tuple #[.agg #[.int .i64 r1, .int .i64 r2], .int .i64 r3])∧Below w.heap.size w w':=by
 have hu93:=Try.underlying93
 have HB:=q_ (Below.refl w.heap.size w)
 have H:((spec_l01IsFrac.f k a0_0 a0_1 1000000000).bind fun aj=>(if aj=true then(some (a0_0,a0_1,0)) else(some (0,0,3))))=some (r1,r2,r3):=h
 clear h
 replace H:=Option.bind_eq_some_iff.mp H
 obtain⟨aj,A20,H⟩:=H
 replace H:(if aj=true then(some (a0_0,a0_1,0)) else(some (0,0,3)))=some (r1,r2,r3):=H
 have A2:=q_ A20
 clear A20
 by_cases c3:aj=true
 ·subst c3
  have H1:(some (a0_0,a0_1,0))=some (r1,r2,r3):=by rw [if_pos rfl] at H;exact H
  clear H
  have H:=H1
  clear H1
  simp only [Option.some.injEq,Prod.mk.injEq] at H
  obtain⟨rfl,rfl,rfl⟩:=H
  go_enter Try.func151,Try.ntmps151
  go_wp2_with (first | ((with_reducible refine gate_dst (N:=1) rfl ?_);refine box_event ?hg (N:=1) ?hd (cs:= #[.int .i64 a0_0, .int .i64 a0_1]) (t:=93) ?hr ?_;(case hd=>rfl);(case hg=>rfl);(case hr=>first | (go_simp;done) | (go_simp;rfl));intro ae hg w4 hbox hb;have aa:=q_ (hbox);have ak:=q_ ((by rw [hg];exact bz_:w.heap.size≤ae));have aq:=q_ ((by rw [hg];exact bz_:w.heap.size≤ae));replace HB:=q_ (bs_ hb);clear hb hbox hg) | ((with_reducible refine gate_dst (N:=2) rfl ?_);refine box_event ?hg (N:=2) ?hd (cs:= #[.int .i64 0, .int .i64 0]) (t:=93) ?hr ?_;(case hd=>rfl);(case hg=>rfl);(case hr=>first | (go_simp;done) | (go_simp;rfl));intro af hg w5 hbox hb;have ag:=q_ (hbox);have au:=q_ ((by rw [hg];exact bz_:w.heap.size≤af));have av:=q_ ((by rw [hg];exact bz_:w.heap.size≤af));have ah:=q_ ((by rw [hg];exact lt_ aa.out:ae≠af));have ai:=q_ ((by rw [hg];exact gt_ aa.out:af≠ae));replace aa:=q_ (bb_ aa.out hb);replace HB:=q_ (bs_ hb);clear hb hbox hg;have ba:=ah.out;have bg:=ai.out;have aM:w5.cell? ⟨ae,0,none⟩=some (.int .i64 a0_0):=(blk_cell aa.out 0).trans rfl;have aN:w5.cell? ⟨ae,1,none⟩=some (.int .i64 a0_1):=(blk_cell aa.out 1).trans rfl;have aT:=blk_frozen aa.out 0;have aU:=blk_frozen aa.out 1) | ((with_reducible refine gate_callee (f:=184) rfl ?_);refine gL_ 5 Try.func184 #[.agg #[.int .i64 a0_0, .int .i64 a0_1], .int .i64 1000000000] ?_;(with_reducible refine(spec_l01IsFrac.calls k a0_0 a0_1 1000000000 true _ A2.out).mono ?_);rintro e w8 ⟨rfl,hb⟩;refine⟨_,rfl,?_⟩;replace aa:=q_ (bb_ aa.out hb);replace ag:=q_ (bb_ ag.out hb);replace HB:=q_ (bs_ hb);(try clear hb);(try clear hb2);(try clear hk);(try clear hi);have aV:w8.cell? ⟨ae,0,none⟩=some (.int .i64 a0_0):=(blk_cell aa.out 0).trans rfl;have aW:w8.cell? ⟨ae,1,none⟩=some (.int .i64 a0_1):=(blk_cell aa.out 1).trans rfl;have aX:=blk_frozen aa.out 0;have aY:=blk_frozen aa.out 1;have aw:w8.cell? ⟨af,0,none⟩=some (.int .i64 0):=(blk_cell ag.out 0).trans rfl;have ax:w8.cell? ⟨af,1,none⟩=some (.int .i64 0):=(blk_cell ag.out 1).trans rfl;have ay:=blk_frozen ag.out 0;have az:=blk_frozen ag.out 1))
  refine bodyPost_ret (results_ct rfl _ _ af 93 #[.int .i64 a0_0, .int .i64 a0_1] (0,0) _ rfl (by(with_reducible repeat (first | refine blk_drewN ?_ _ | refine blk_drew ?_ | refine blk_alloc ?_ _));refine blk_put (cs:= #[.int .i64 a0_0, .int .i64 0]) ?_ 1 _ rfl;(with_reducible repeat (first | refine blk_drewN ?_ _ | refine blk_drew ?_ | refine blk_alloc ?_ _));refine blk_put (cs:= #[.int .i64 0, .int .i64 0]) ?_ 0 _ rfl;(with_reducible repeat (first | refine blk_drewN ?_ _ | refine blk_drew ?_ | refine blk_alloc ?_ _));exact ag.out) Try.underlying93 rfl (by kernel_rfl)) rfl ?_
  exact⟨by first | rfl | (simp [errW_none,errW_some] <;> rfl) | (simp [*,errW_none,errW_some] <;> rfl),hb_⟩
 ·replace c3:=Bool.eq_false_iff.mpr c3
  subst c3
  have H1:(some (0,0,3))=some (r1,r2,r3):=by rw [if_neg (show ¬ (false=true) by decide)] at H;exact H
  clear H
  have H:=H1
  clear H1
  simp only [Option.some.injEq,Prod.mk.injEq] at H
  obtain⟨rfl,rfl,rfl⟩:=H
  go_enter Try.func151,Try.ntmps151
  go_wp2_with (first | ((with_reducible refine gate_dst (N:=1) rfl ?_);refine box_event ?hg (N:=1) ?hd (cs:= #[.int .i64 a0_0, .int .i64 a0_1]) (t:=93) ?hr ?_;(case hd=>rfl);(case hg=>rfl);(case hr=>first | (go_simp;done) | (go_simp;rfl));intro ae hg w11 hbox hb;have aa:=q_ (hbox);have ak:=q_ ((by rw [hg];exact bz_:w.heap.size≤ae));have aq:=q_ ((by rw [hg];exact bz_:w.heap.size≤ae));replace HB:=q_ (bs_ hb);clear hb hbox hg) | ((with_reducible refine gate_dst (N:=2) rfl ?_);refine box_event ?hg (N:=2) ?hd (cs:= #[.int .i64 0, .int .i64 0]) (t:=93) ?hr ?_;(case hd=>rfl);(case hg=>rfl);(case hr=>first | (go_simp;done) | (go_simp;rfl));intro af hg w12 hbox hb;have ag:=q_ (hbox);have au:=q_ ((by rw [hg];exact bz_:w.heap.size≤af));have av:=q_ ((by rw [hg];exact bz_:w.heap.size≤af));have ah:=q_ ((by rw [hg];exact lt_ aa.out:ae≠af));have ai:=q_ ((by rw [hg];exact gt_ aa.out:af≠ae));replace aa:=q_ (bb_ aa.out hb);replace HB:=q_ (bs_ hb);clear hb hbox hg;have aZ:=ah.out;have a9:=ai.out;have aA:w12.cell? ⟨ae,0,none⟩=some (.int .i64 a0_0):=(blk_cell aa.out 0).trans rfl;have aC:w12.cell? ⟨ae,1,none⟩=some (.int .i64 a0_1):=(blk_cell aa.out 1).trans rfl;have aD:=blk_frozen aa.out 0;have aG:=blk_frozen aa.out 1) | ((with_reducible refine gate_callee (f:=184) rfl ?_);refine gL_ 5 Try.func184 #[.agg #[.int .i64 a0_0, .int .i64 a0_1], .int .i64 1000000000] ?_;(with_reducible refine(spec_l01IsFrac.calls k a0_0 a0_1 1000000000 false _ A2.out).mono ?_);rintro e w15 ⟨rfl,hb⟩;refine⟨_,rfl,?_⟩;replace aa:=q_ (bb_ aa.out hb);replace ag:=q_ (bb_ ag.out hb);replace HB:=q_ (bs_ hb);(try clear hb);(try clear hb2);(try clear hk);(try clear hi);have aH:w15.cell? ⟨af,0,none⟩=some (.int .i64 0):=(blk_cell ag.out 0).trans rfl;have aI:w15.cell? ⟨af,1,none⟩=some (.int .i64 0):=(blk_cell ag.out 1).trans rfl;have aJ:=blk_frozen ag.out 0;have aK:=blk_frozen ag.out 1))
  refine bodyPost_ret (results_ct rfl _ _ af 93 #[.int .i64 0, .int .i64 0] (0,0) _ rfl (by(with_reducible repeat (first | refine blk_drewN ?_ _ | refine blk_drew ?_ | refine blk_alloc ?_ _));refine blk_put (cs:= #[.int .i64 0, .int .i64 0]) ?_ 1 _ rfl;(with_reducible repeat (first | refine blk_drewN ?_ _ | refine blk_drew ?_ | refine blk_alloc ?_ _));refine blk_put (cs:= #[.int .i64 0, .int .i64 0]) ?_ 0 _ rfl;(with_reducible repeat (first | refine blk_drewN ?_ _ | refine blk_drew ?_ | refine blk_alloc ?_ _));exact ag.out) Try.underlying93 rfl (by kernel_rfl)) rfl ?_
  exact⟨by first | rfl | (simp [errW_none,errW_some] <;> rfl) | (simp [*,errW_none,errW_some] <;> rfl),hb_⟩
end Go.Proofs.Ytmpkckiifeikkaa.Pr
end
section
namespace Go.Proofs.Ytmpkckiifeikkaa.Fr
open Go.RowKit Go.Proofs.YtmpkckiifeikkaaW.PrintWords Go.Proofs.YtmpkckiifeikkaaW.PrintMore Go.Proofs.Ytmpkckiifeikkaa.Ma Go.Proofs.Ytmpkckiifeikkaa.Pr
theorem impl_loop: ∀(n:Nat) (a b:Int),b.natAbs≤n→0≤a→0≤b→Ev (fun k=>impl_common.l0 k a b) (gc a b):=by
 intro n
 induction n with
 | zero=>
  intro a b hn ha hb
  obtain rfl:b=0:=by omega
  refine evstep (fun k=>by rw [impl_common.l0]) (evpos rfl (evc ?_))
  rw [gc_zero,if_pos ha]
 | succ n ih=>
  intro a b hn ha hb
  by_cases e:b=0
  ·subst e
   refine evstep (fun k=>by rw [impl_common.l0]) (evpos rfl (evc ?_))
   rw [gc_zero,if_pos ha]
  ·refine evstep (fun k=>by rw [impl_common.l0]) (evneg e ?_)
   have h:=tmod_lt (a:=a) e
   rw [gc_step]
   exact ih b (Int.tmod a b) (by omega) hb (Int.tmod_nonneg _ ha)
theorem gc_abs (a b:Int):gc (if 0≤a then a else -a) (if 0≤b then b else -b)=gc a b:=by
 unfold gc
 split <;> split <;> simp
theorem impl_gcd (a b:Int) (ha:Big a) (hb:Big b):Ev (fun k=>impl_common.f k a b) (gc a b):=by
 unfold impl_common.f impl_size.f
 refine evsome rfl (evsome rfl ?_)
 rw [abs_eq ha,abs_eq hb, ← gc_abs]
 exact impl_loop _ _ _ (Nat.le_refl _) (by split <;> omega) (by split <;> omega)
def isF (m a b:Int):Bool:=(decide (1≤b) && decide (b≤m)) && ((decide (-m≤a) && decide (a≤m)) && (gc a b==1))
theorem sin_b (n a b:Int):spec_l01In.f n a b=some (decide (a≤n) && decide (n≤b)):=by
 unfold spec_l01In.f
 by_cases h:a≤n
 ·rw [if_pos (by omega)];simp [h]
 ·rw [if_neg (by omega)];simp [h]
theorem iin_b (n a b:Int):impl_within.f n a b=some (decide (a≤n) && decide (n≤b)):=by
 unfold impl_within.f
 by_cases h:a≤n
 ·rw [if_pos (by omega)];simp [h]
 ·rw [if_neg (by omega)];simp [h]
theorem spec_isF (m a b:Int) (h0:0≤m) (h1:m≤4611686018427387904):Ev (fun k=>spec_l01IsFrac.f k a b m) (isF m a b):=by
 unfold spec_l01IsFrac.f isF
 refine evsome (sin_b _ _ _) ?_
 cases c1:(decide (1≤b) && decide (b≤m)) with
 | false=>exact evneg (by simp) (evc (by simp))
 | true=>
  refine evpos rfl (evsome (sin_b _ _ _) ?_)
  rw [w64 (by omega) (by omega)]
  cases c2:(decide (-m≤a) && decide (a≤m)) with
  | false=>exact evneg (by simp) (evc (by simp))
  | true=>
   simp only [Bool.and_eq_true,decide_eq_true_eq] at c1 c2
   refine evpos rfl (evbind (spec_gcd a b (by unfold Big;omega) (by unfold Big;omega)) (evc ?_))
   simp
theorem impl_isF (a b:Int):Ev (fun k=>impl_IsFrac.f k a b) (isF 1000000000 a b):=by
 unfold impl_IsFrac.f isF
 refine evsome (iin_b _ _ _) ?_
 cases c1:(decide (1≤b) && decide (b≤1000000000)) with
 | false=>exact evneg (by simp) (evc (by simp))
 | true=>
  refine evpos rfl ?_
  unfold impl_upTo.f
  rw [w64 (by omega) (by omega),iin_b]
  refine evsome rfl ?_
  cases c2:(decide (-1000000000≤a) && decide (a≤1000000000)) with
  | false=>exact evneg (by simp) (evc (by simp))
  | true=>
   simp only [Bool.and_eq_true,decide_eq_true_eq] at c1 c2
   refine evpos rfl (evbind (impl_gcd a b (by unfold Big;omega) (by unfold Big;omega)) (evc ?_))
   simp
end Go.Proofs.Ytmpkckiifeikkaa.Fr
end
section
namespace Go.Proofs.Ytmpkckiifeikkaa.Pr
open Go.RowKit Go.Proofs.YtmpkckiifeikkaaW.PrintWords Go.Proofs.YtmpkckiifeikkaaW.PrintLast Go.Proofs.YtmpkckiifeikkaaW.PrintMore
attribute [local go_sem] max2_int min2_int max_two min_two max_three min_three max_four min_four
def spec_l01Frac.f (k:Nat) (a0:Int) (a1:Int):Option (Int × Int):=if a1 < 0 then((spec_l01Gcd.f k (wrap64 (-a0)) (wrap64 (-a1))).bind fun aa=>(if aa=0 then(none) else(some (wrap64 (Int.tdiv (wrap64 (-a0)) aa),wrap64 (Int.tdiv (wrap64 (-a1)) aa))))) else((spec_l01Gcd.f k a0 a1).bind fun ae=>(if ae=0 then(none) else(some (wrap64 (Int.tdiv a0 ae),wrap64 (Int.tdiv a1 ae)))))
theorem spec_l01Frac.mono: ∀a0 a1 k,LeO (spec_l01Frac.f k a0 a1) (spec_l01Frac.f (k+1) a0 a1):=by
 intro a0 a1 k
 unfold spec_l01Frac.f
 repeat' first
   | (with_reducible exact spec_l01Gcd.mono _ _ _)
   | (with_reducible exact LeO.refl _)
   | (with_reducible exact LeO.none _)
   | (with_reducible refine LeO.ite ?_ ?_)
   | (with_reducible refine LeO.bind ?_ (fun _=>?_))
   | exact spec_l01Gcd.mono _ _ _
   | exact LeO.none _
   | refine LeO.ite ?_ ?_
   | refine LeO.bind ?_ (fun _=>?_)
def spec_l01Frac.T5:Bool × List (List Nat × List Nat):=(true, [([], []),([], []),([0,1], [0,1]),([], []),([], []),([3,4], [3,4]),([2,5], [2,5]),([6,0,1,2,3,4,5,6], [6])])
def spec_l01Frac.B5:List Nat:= [0,0,3,0,0,24,63,127]
theorem spec_l01Frac.tab5:rtab .any (opsOf Try.f152 5)=spec_l01Frac.T5:=by kernel_rfl
theorem spec_l01Frac.bits5:waitsOk spec_l01Frac.T5.2 spec_l01Frac.B5=true:=by kernel_rfl
theorem spec_l01Frac.calls (k:Nat) (a0:Int) (a1:Int) (r1:Int) (r2:Int) (w:World) (h:spec_l01Frac.f k a0 a1=some (r1,r2)):
  Calls Try.prog 152 #[.int .i64 a0, .int .i64 a1] w fun e w'=>e= .returned (.agg #[.int .i64 r1, .int .i64 r2])∧Below w.heap.size w w':=by
 have hu93:=Try.underlying93
 have HB:=q_ (Below.refl w.heap.size w)
 have H:(if a1 < 0 then((spec_l01Gcd.f k (wrap64 (-a0)) (wrap64 (-a1))).bind fun ae=>(if ae=0 then(none) else(some (wrap64 (Int.tdiv (wrap64 (-a0)) ae),wrap64 (Int.tdiv (wrap64 (-a1)) ae))))) else((spec_l01Gcd.f k a0 a1).bind fun af=>(if af=0 then(none) else(some (wrap64 (Int.tdiv a0 af),wrap64 (Int.tdiv a1 af))))))=some (r1,r2):=h
 clear h
 by_cases c3:a1 < 0
 ·rw [if_pos c3] at H
  have c3b0:decide (a1 < 0)=true:=decide_eq_true c3
  clear c3
  replace H:=Option.bind_eq_some_iff.mp H
  obtain⟨ae,A40,H⟩:=H
  replace H:(if ae=0 then(none) else(some (wrap64 (Int.tdiv (wrap64 (-a0)) ae),wrap64 (Int.tdiv (wrap64 (-a1)) ae))))=some (r1,r2):=H
  have A4:=q_ A40
  clear A40
  by_cases c5:ae=0
  ·rw [if_pos c5] at H
   exact absurd H (by simp)
  ·rw [if_neg c5] at H
   have c5b0:(ae==0)=false:=beq_eq_false_iff_ne.mpr c5
   have c5b1:(ae !=0)=true:=bne_iff_ne.mpr c5
   simp only [Option.some.injEq,Prod.mk.injEq] at H
   obtain⟨rfl,rfl⟩:=H
   go_enter Try.func152,Try.ntmps152
   try go_wp2_with (first | ((with_reducible refine gate_dst (N:=4) rfl ?_);refine box_event ?hg (N:=4) ?hd (cs:= #[.int .i64 0, .int .i64 0]) (t:=93) ?hr ?_;(case hd=>rfl);(case hg=>rfl);(case hr=>first | (go_simp;done) | (go_simp;rfl));intro ag hg w6 hbox hb;have aa:=q_ (hbox);have ah:=q_ ((by rw [hg];exact bz_:w.heap.size≤ag));have ai:=q_ ((by rw [hg];exact bz_:w.heap.size≤ag));replace HB:=q_ (bs_ hb);clear hb hbox hg) | ((with_reducible refine gate_callee (f:=185) rfl ?_);refine gL_ 14 Try.func185 #[.int .i64 (wrap64 (-a0)), .int .i64 (wrap64 (-a1))] ?_;(with_reducible refine(spec_l01Gcd.calls k (wrap64 (-a0)) (wrap64 (-a1)) ae _ A4.out).mono ?_);rintro e w7 ⟨rfl,hb⟩;refine⟨_,rfl,?_⟩;replace aa:=q_ (bb_ aa.out hb);replace HB:=q_ (bs_ hb);(try clear hb);(try clear hb2);(try clear hk);(try clear hi)))
   replace aa:=q_ (blk_drew aa.out)
   replace HB:=q_ (below_drew1 HB.out)
   refine st_ (n:=8) (S:=fun w'=>True) (ds:= []) trivial (fun hHeld=>?_);refine with_tabW spec_l01Frac.tab5 spec_l01Frac.bits5 (fun HT_ HW_=>?_)
   generalize w7.drew=w8 at aa HB hHeld ⊢
   refine pu_ 0 15 ?_;refine pu_ 1 16 ?_;refine pu_ 2 17 ?_;refine pu_ 3 18 ?_;refine pu_ 4 19 ?_;refine pu_ 5 20 ?_;refine pu_ 6 21 ?_
   refine on_ 7 none (fun K hK=>?_)
   have hs9:w8.cell? ⟨ag,0,none⟩=some (.int .i64 0):=(blk_cell aa.out 0).trans rfl
   have hfs9:=blk_frozen aa.out 0
   have hs10:w8.cell? ⟨ag,1,none⟩=some (.int .i64 0):=(blk_cell aa.out 1).trans rfl
   have hfs10:=blk_frozen aa.out 1
   refine skip_ (w1:=?_) (by rfl) rfl ?_ ?_
   rotate_left
   ·go_simp
    rfl
   refine hK.out _ _ trivial (fun hHeld=>?_)
   clear hK K
   refine done_ (done_of HT_.out (by kernel_rfl)) ?_
   try go_wp2
   refine bodyPost_ret (results_cell_row rfl _ _ ag 93 #[.int .i64 (wrap64 (Int.tdiv (wrap64 (-a0)) ae)), .int .i64 (wrap64 (Int.tdiv (wrap64 (-a1)) ae))] (0,0) _ rfl (by(with_reducible repeat (first | refine blk_drewN ?_ _ | refine blk_drew ?_ | refine blk_alloc ?_ _));refine blk_put (cs:= #[.int .i64 (wrap64 (Int.tdiv (wrap64 (-a0)) ae)), .int .i64 0]) ?_ 1 _ rfl;(with_reducible repeat (first | refine blk_drewN ?_ _ | refine blk_drew ?_ | refine blk_alloc ?_ _));refine blk_put (cs:= #[.int .i64 0, .int .i64 0]) ?_ 0 _ rfl;(with_reducible repeat (first | refine blk_drewN ?_ _ | refine blk_drew ?_ | refine blk_alloc ?_ _));exact aa.out) Try.underlying93 rfl (by kernel_rfl)) rfl ?_
   exact⟨by first | rfl | (simp [errW_none,errW_some] <;> rfl) | (simp [*,errW_none,errW_some] <;> rfl),hb_⟩
 ·rw [if_neg c3] at H
  have c3b0:decide (a1 < 0)=false:=decide_eq_false c3
  clear c3
  replace H:=Option.bind_eq_some_iff.mp H
  obtain⟨af,A110,H⟩:=H
  replace H:(if af=0 then(none) else(some (wrap64 (Int.tdiv a0 af),wrap64 (Int.tdiv a1 af))))=some (r1,r2):=H
  have A11:=q_ A110
  clear A110
  by_cases c12:af=0
  ·rw [if_pos c12] at H
   exact absurd H (by simp)
  ·rw [if_neg c12] at H
   have c12b0:(af==0)=false:=beq_eq_false_iff_ne.mpr c12
   have c12b1:(af !=0)=true:=bne_iff_ne.mpr c12
   simp only [Option.some.injEq,Prod.mk.injEq] at H
   obtain⟨rfl,rfl⟩:=H
   go_enter Try.func152,Try.ntmps152
   try go_wp2_with (first | ((with_reducible refine gate_dst (N:=4) rfl ?_);refine box_event ?hg (N:=4) ?hd (cs:= #[.int .i64 0, .int .i64 0]) (t:=93) ?hr ?_;(case hd=>rfl);(case hg=>rfl);(case hr=>first | (go_simp;done) | (go_simp;rfl));intro ag hg w13 hbox hb;have aa:=q_ (hbox);have ah:=q_ ((by rw [hg];exact bz_:w.heap.size≤ag));have ai:=q_ ((by rw [hg];exact bz_:w.heap.size≤ag));replace HB:=q_ (bs_ hb);clear hb hbox hg) | ((with_reducible refine gate_callee (f:=185) rfl ?_);refine gL_ 14 Try.func185 #[.int .i64 a0, .int .i64 a1] ?_;(with_reducible refine(spec_l01Gcd.calls k a0 a1 af _ A11.out).mono ?_);rintro e w14 ⟨rfl,hb⟩;refine⟨_,rfl,?_⟩;replace aa:=q_ (bb_ aa.out hb);replace HB:=q_ (bs_ hb);(try clear hb);(try clear hb2);(try clear hk);(try clear hi)))
   replace aa:=q_ (blk_drew aa.out)
   replace HB:=q_ (below_drew1 HB.out)
   refine st_ (n:=8) (S:=fun w'=>True) (ds:= []) trivial (fun hHeld=>?_);refine with_tabW spec_l01Frac.tab5 spec_l01Frac.bits5 (fun HT_ HW_=>?_)
   generalize w14.drew=w15 at aa HB hHeld ⊢
   refine pu_ 0 15 ?_;refine pu_ 1 16 ?_;refine pu_ 2 17 ?_;refine pu_ 3 18 ?_;refine pu_ 4 19 ?_;refine pu_ 5 20 ?_;refine pu_ 6 21 ?_
   refine on_ 7 none (fun K hK=>?_)
   have hs16:w15.cell? ⟨ag,0,none⟩=some (.int .i64 0):=(blk_cell aa.out 0).trans rfl
   have hfs16:=blk_frozen aa.out 0
   have hs17:w15.cell? ⟨ag,1,none⟩=some (.int .i64 0):=(blk_cell aa.out 1).trans rfl
   have hfs17:=blk_frozen aa.out 1
   refine skip_ (w1:=?_) (by rfl) rfl ?_ ?_
   rotate_left
   ·go_simp
    rfl
   refine hK.out _ _ trivial (fun hHeld=>?_)
   clear hK K
   refine done_ (done_of HT_.out (by kernel_rfl)) ?_
   try go_wp2
   refine bodyPost_ret (results_cell_row rfl _ _ ag 93 #[.int .i64 (wrap64 (Int.tdiv a0 af)), .int .i64 (wrap64 (Int.tdiv a1 af))] (0,0) _ rfl (by(with_reducible repeat (first | refine blk_drewN ?_ _ | refine blk_drew ?_ | refine blk_alloc ?_ _));refine blk_put (cs:= #[.int .i64 (wrap64 (Int.tdiv a0 af)), .int .i64 0]) ?_ 1 _ rfl;(with_reducible repeat (first | refine blk_drewN ?_ _ | refine blk_drew ?_ | refine blk_alloc ?_ _));refine blk_put (cs:= #[.int .i64 0, .int .i64 0]) ?_ 0 _ rfl;(with_reducible repeat (first | refine blk_drewN ?_ _ | refine blk_drew ?_ | refine blk_alloc ?_ _));exact aa.out) Try.underlying93 rfl (by kernel_rfl)) rfl ?_
   exact⟨by first | rfl | (simp [errW_none,errW_some] <;> rfl) | (simp [*,errW_none,errW_some] <;> rfl),hb_⟩
end Go.Proofs.Ytmpkckiifeikkaa.Pr
end
section
namespace Go.Proofs.Ytmpkckiifeikkaa.Fr
open Go.RowKit Go.Proofs.YtmpkckiifeikkaaW.PrintWords Go.Proofs.YtmpkckiifeikkaaW.PrintMore Go.Proofs.Ytmpkckiifeikkaa.Ma Go.Proofs.Ytmpkckiifeikkaa.Pr
def fV (a d:Int):Int × Int:=(wrap64 (Int.tdiv a (gc a d)),wrap64 (Int.tdiv d (gc a d)))
def toldV (x:Int × Int):Int × Int × Int:=if isF 1000000000 x.1 x.2=true then(x.1,x.2,0) else(0,0,3)
def redV (a d:Int):Int × Int × Int:=toldV (fV a d)
theorem gc_pos {a d:Int} (hd:0 < d):0 < gc a d:=by
 unfold gc
 have:Int.gcd a d≠0:=by rw [Ne,Int.gcd_eq_zero_iff];intro h;omega
 omega
theorem red_eq (a d:Int) (ha:Big a) (hb:Big d) (hd:0 < d):Ev (fun k=>impl_reduced.f k a d) (redV a d):=by
 have hg:=gc_pos (a:=a) hd
 unfold impl_reduced.f redV toldV fV
 refine evbind (impl_gcd a d ha hb) (evneg (by omega) (evneg (by omega) (evbind (impl_isF _ _) ?_)))
 by_cases c:isF 1000000000 (wrap64 (Int.tdiv a (gc a d))) (wrap64 (Int.tdiv d (gc a d)))=true
 ·exact evpos c (evc (congrArg some (if_pos c).symm))
 ·exact evneg c (evc (congrArg some (if_neg c).symm))
theorem sfrac_eq (a d:Int) (ha:Big a) (hb:Big d) (hd:0 < d):Ev (fun k=>spec_l01Frac.f k a d) (fV a d):=by
 have hg:=gc_pos (a:=a) hd
 unfold spec_l01Frac.f fV
 exact evneg (by omega) (evbind (spec_gcd a d ha hb) (evneg (by omega) (evc rfl)))
theorem told_eq (x y:Int):Ev (fun k=>spec_l01Told.f k x y) (toldV (x,y)):=by
 unfold spec_l01Told.f toldV
 refine evbind (spec_isF 1000000000 x y (by decide) (by decide)) ?_
 by_cases c:isF 1000000000 x y=true
 ·exact evpos c (evc (congrArg some (if_pos c).symm))
 ·exact evneg c (evc (congrArg some (if_neg c).symm))
theorem told_zero:toldV (0,1)=(0,1,0):=if_pos (by decide)
end Go.Proofs.Ytmpkckiifeikkaa.Fr
end
section
namespace Go.Proofs.Ytmpkckiifeikkaa.Lsa
open Go.RowKit Go.Proofs.YtmpkckiifeikkaaW.PrintWords Go.Proofs.YtmpkckiifeikkaaW.PrintMore Go.Proofs.Ytmpkckiifeikkaa.Ma Go.Proofs.Ytmpkckiifeikkaa.Pr Go.Proofs.Ytmpkckiifeikkaa.Dt Go.Proofs.Ytmpkckiifeikkaa.Lk Go.Proofs.Ytmpkckiifeikkaa.Lt Go.Proofs.Ytmpkckiifeikkaa.Lq Go.Proofs.Ytmpkckiifeikkaa.Lp Go.Proofs.Ytmpkckiifeikkaa.Fr
def outL (f:Nat→Int × Int × Int):Nat→Nat→List S93→List S93 × Int
 | 0,_,acc=>(acc,0)
 | q+1,x,acc=>if(f x).2.2=0 then outL f q (x+1) (acc++ [⟨(f x).1,(f x).2.1⟩]) else([],(f x).2.2)
theorem outL_len (f:Nat→Int × Int × Int): ∀q x acc,(outL f q x acc).1.length≤q+acc.length
 | 0,x,acc=>by simp [outL]
 | q+1,x,acc=>by
  unfold outL
  split
  ·have:=outL_len f q (x+1) (acc++ [⟨(f x).1,(f x).2.1⟩])
   simp at this ⊢;omega
  ·simp
theorem all_red (l:List Int) (d:Int) (hl:l.length≤1000) (hd:0 < d) (hb:Big d) (hx: ∀i,i < l.length→Big (l.getD i 0)):Ev (fun k=>impl_allReduced.f k l d) (outL (fun x=>redV (l.getD x 0) d) l.length 0 []):=by
 have loop: ∀q x acc,x+q=l.length→acc.length≤x→Ev (fun k=>impl_allReduced.l0 k d acc l (l.length:Int) (x:Int)) (outL (fun x=>redV (l.getD x 0) d) q x acc):=by
  intro q
  induction q with
  | zero=>
   intro x acc h1 h2
   refine evstep (fun k=>by rw [impl_allReduced.l0]) ?_
   exact evneg (by omega) (evc rfl)
  | succ q ih=>
   intro x acc h1 h2
   refine evstep (fun k=>by rw [impl_allReduced.l0]) (evpos (by omega) (evpos (by omega) (evpos (by omega) ?_)))
   rw [rd_nat,w64 (x:=(x:Int)+1) (by omega) (by omega)]
   refine evbind (red_eq _ _ (hx x (by omega)) hb hd) ?_
   unfold outL
   by_cases c:(redV (l.getD x 0) d).2.2=0
   ·rw [if_pos c]
    exact evpos c (evpos (by omega) (ih (x+1) _ (by omega) (by simp;omega)))
   ·rw [if_neg c]
    exact evneg c (evc rfl)
 exact loop l.length 0 [] (by omega) (Nat.le_refl _)
end Go.Proofs.Ytmpkckiifeikkaa.Lsa
end
section
namespace Go.Proofs.Ytmpkckiifeikkaa.Pr
open Go.RowKit Go.Proofs.YtmpkckiifeikkaaW.PrintWords Go.Proofs.YtmpkckiifeikkaaW.PrintLast Go.Proofs.YtmpkckiifeikkaaW.PrintMore
attribute [local go_sem] max2_int min2_int max_two min_two max_three min_three max_four min_four
def spec_l05Right.l0:Nat→List (S93)→Int→List (List Int)→Int→List Int→Option ((List (S93)) × Int)
 | 0,_,_,_,_,_=>none
 | k+1,x4,x5,aa,af,ah=>if x5 < (aa.length:Int) then(if 0≤x5 then(if 0≤(wrap64 (((rd_L1 aa x5).length:Int) - 1)) then(if(wrap64 (((rd_L1 aa x5).length:Int) - 1)) < ((rd_L1 aa x5).length:Int) then((spec_l01Frac.f k (rd (rd_L1 aa x5) (wrap64 (((rd_L1 aa x5).length:Int) - 1))) af).bind fun ag=>((spec_l01Told.f k ag.1 ag.2).bind fun ae=>(if ae.2.2=0 then(if x4.length < 8796093022208 then(spec_l05Right.l0 k (x4++ [(⟨ae.1,ae.2.1⟩:S93)]) (wrap64 (x5+1)) aa af ah) else(none)) else(some (([]:List (S93)),ae.2.2))))) else(none)) else(none)) else(none)) else(some (x4,0))
def spec_l05Right.f (k:Nat) (aa:List (List Int)) (a0_1:Int) (ae:List Int):Option ((List (S93)) × Int):=spec_l05Right.l0 k (([]:List (S93))) 0 aa a0_1 ae
theorem spec_l05Right.mono_l: ∀k,(∀y0 y1 y2 y3 y4,LeO (spec_l05Right.l0 k y0 y1 y2 y3 y4) (spec_l05Right.l0 (k+1) y0 y1 y2 y3 y4))
 | 0=>fun _ _ _ _ _ r h=>by simp [spec_l05Right.l0] at h
 | k+1=>by
  have ih0:=spec_l05Right.mono_l k
  ·intro y0 y1 y2 y3 y4
   unfold spec_l05Right.l0
   repeat' first
   | (with_reducible exact ih0 _ _ _ _ _)
   | (with_reducible exact spec_l01Frac.mono _ _ _)
   | (with_reducible exact spec_l01Told.mono _ _ _)
   | (with_reducible exact LeO.refl _)
   | (with_reducible exact LeO.none _)
   | (with_reducible refine LeO.ite ?_ ?_)
   | (with_reducible refine LeO.bind ?_ (fun _=>?_))
   | exact ih0 _ _ _ _ _
   | exact spec_l01Frac.mono _ _ _
   | exact spec_l01Told.mono _ _ _
   | exact LeO.none _
   | refine LeO.ite ?_ ?_
   | refine LeO.bind ?_ (fun _=>?_)
theorem spec_l05Right.mono: ∀a0 a1 a2 k,LeO (spec_l05Right.f k a0 a1 a2) (spec_l05Right.f (k+1) a0 a1 a2):=by
 intro a0 a1 a2 k
 have ih0:=spec_l05Right.mono_l k
 unfold spec_l05Right.f
 repeat' first
   | (with_reducible exact ih0 _ _ _ _ _)
   | (with_reducible exact spec_l01Frac.mono _ _ _)
   | (with_reducible exact spec_l01Told.mono _ _ _)
   | (with_reducible exact LeO.refl _)
   | (with_reducible exact LeO.none _)
   | (with_reducible refine LeO.ite ?_ ?_)
   | (with_reducible refine LeO.bind ?_ (fun _=>?_))
   | exact ih0 _ _ _ _ _
   | exact spec_l01Frac.mono _ _ _
   | exact spec_l01Told.mono _ _ _
   | exact LeO.none _
   | refine LeO.ite ?_ ?_
   | refine LeO.bind ?_ (fun _=>?_)
def spec_l05Right.T5:Bool × List (List Nat × List Nat):=(true, [([], []),([0], [0]),([], []),([1,2], [1,2]),([3], [3]),([], []),([5], [5]),([], []),([6,7], [6,7]),([8], [8]),([9], [9]),([10], [10]),([4,11], [4,11]),([12], [12]),([], []),([14], [14]),([13,15], [13,15]),([16,16], [16]),([17], [17]),([18], [18]),([18], [18]),([], []),([21,19,17,0,1,2,3,4,5,6,7,8,9,10,11,12,13,14,15,16,17,18,19,21], [19,21]),([20,22,0,1,2,3,4,5,6,7,8,9,10,11,12,13,14,15,16,17,18,19,20,21,22], [20])])
def spec_l05Right.B5:List Nat:= [0,1,0,7,15,0,32,0,224,480,992,2016,4095,8191,0,16384,65535,131071,262143,524287,524287,0,3145727,8388607]
theorem spec_l05Right.tab5:rtab .any (opsOf Try.f86 5)=spec_l05Right.T5:=by kernel_rfl
theorem spec_l05Right.bits5:waitsOk spec_l05Right.T5.2 spec_l05Right.B5=true:=by kernel_rfl
theorem spec_l05Right.calls (k:Nat) (aW:Option Addr) (aK:Nat) (aq:List (List Int)) (a0_1:Int) (aM:Option Addr) (aN:Nat) (az:List Int) (r1:List (S93)) (r2:Int) (w:World) (aY:Kd.C (Kd.slice 2 (Kd.int .i64)) w aW aq.length aq) (aZ:aq.length≤aK) (a9:Kd.C (Kd.int .i64) w aM az.length az) (ba:az.length≤aN) (h:spec_l05Right.f k aq a0_1 az=some (r1,r2)):
  Calls Try.prog 86 #[.agg #[.slice aW aq.length aK, .int .i64 a0_1, .slice aM az.length aN]] w fun e w'=> ∃v0_:Value,e= .returned (.tuple #[v0_, .int .i64 r2])∧Kd.R k93 93 w' w.heap.size (fun _=>True) v0_ r1∧Below w.heap.size w w':=by
 have hu100:=Try.underlying100
 have hu93:=Try.underlying93
 have HR0_0:=q_ aY
 have HC0_0:=q_ aZ
 clear aY aZ
 have HR0_2:=q_ a9
 have HC0_2:=q_ ba
 clear a9 ba
 have HB:=q_ (Below.refl w.heap.size w)
 have H:(spec_l05Right.l0 k (([]:List (S93))) 0 aq a0_1 az)=some (r1,r2):=h
 clear h
 obtain⟨bi,hy302⟩: ∃y_:List (S93),y_=(([]:List (S93))):=⟨_,rfl⟩
 replace H:(spec_l05Right.l0 k bi 0 aq a0_1 az)=some (r1,r2):=by first | (rw [hy302];with_reducible exact H) | (have H2_:=(Option.bind_some _ _).symm.trans H;rw [hy302];with_reducible exact H2_) | (have H2_:=(Option.bind_some _ _).symm.trans H;with_reducible exact H2_) | with_reducible exact H | (rw [hy302];exact H) | exact H
 have bg:=q_ hy302
 clear hy302
 have H':=q_ H
 clear H
 go_enter Try.func86,Try.ntmps86
 go_wp2_with (first | ((with_reducible refine gate_dst (N:=1) rfl ?_);refine box_event ?hg (N:=1) ?hd (cs:= #[.slice aW aq.length aK, .int .i64 a0_1, .slice aM az.length aN]) (t:=100) ?hr ?_;(case hd=>rfl);(case hg=>rfl);(case hr=>first | (go_simp;done) | (go_simp;rfl));intro au hg w2 hbox hb;have aa:=q_ (hbox);have bY:=q_ ((by rw [hg];exact bz_:w.heap.size≤au));have bZ:=q_ ((by rw [hg];exact bz_:w.heap.size≤au));replace HB:=q_ (bs_ hb);clear hb hbox hg) | ((with_reducible refine gate_dst (N:=8) rfl ?_);refine Kd.R_lit k93 _ 93 ?hg (N:=8) ?hd (xs:=([]:List (S93))) (inner:= []) (ok:=fun _=>True) (okp:=fun _=>True) ?hr ?hp (fun _ hk=>hk) trivial (Below.refl _ _) (Nat.le_refl _) (by simp) ?_;(case hd=>rfl);(case hg=>rfl);(case hr=>first | (go_simp;done) | (go_simp;rfl));(case hp=>exact(Reps.none _ _));intro co w3 ho4 hb hg_ hnew_;clear hg_ hnew_;(first | rw [← bg.out] at ho4 | (simp only [Int.reduceToNat] at ho4;rw [← bg.out] at ho4));have bv:=q_ (Kd.R_lower ho4 bz_);replace aa:=q_ (bb_ aa.out hb);replace HB:=q_ (bs_ hb);clear hb ho4))
 go_loopg [4,5] k (fun kq v4 v5 w'=> ∃(aU:List (S93)) (ak:Int),v5= .int .i64 ak∧Aside0 (spec_l05Right.l0 kq aU ak aq a0_1 az=some (r1,r2))∧Aside0 (kq≤k)∧Aside0 (Kd.R k93 93 w' w.heap.size (fun _=>True) v4 aU)∧Aside0 (w'.heap[au]?=some (.cells #[(.slice aW aq.length aK), .int .i64 a0_1,(.slice aM az.length aN)] 100 (0,0)))∧Aside0 (Below w.heap.size w w'))
 case atStart=>exact⟨(bi),(0),rs_,H',⟨Nat.le_refl _⟩,⟨ro_ bv.out⟩,⟨bk_⟩,⟨hb_⟩⟩
 case round=>
  clear H'
  try clear p2
  obtain⟨aU,ak,rfl,HA,HK1,av,aa,HB⟩:=hrel
  cases gk with
  | zero=>exact absurd HA.out (by simp [spec_l05Right.l0])
  | succ k1=>
   have H:=HA.out
   clear HA
   simp only [spec_l05Right.l0] at H
   by_cases c5:ak < (aq.length:Int)
   ·rw [if_pos c5] at H
    have c5b0:decide (ak < (aq.length:Int))=true:=decide_eq_true c5
    clear c5
    by_cases c6:0≤ak
    ·rw [if_pos c6] at H
     have c6b0:decide (0≤ak)=true:=decide_eq_true c6
     clear c6
     obtain⟨ji7,hji7⟩: ∃j_:Int,(wrap64 (((rd_L1 aq ak).length:Int) - 1))=j_:=⟨_,rfl⟩
     replace H:(if 0≤(ji7) then(if(ji7) < ((rd_L1 aq ak).length:Int) then((spec_l01Frac.f k1 (rd (rd_L1 aq ak) (ji7)) a0_1).bind fun bh=>((spec_l01Told.f k1 bh.1 bh.2).bind fun aV=>(if aV.2.2=0 then(if aU.length < 8796093022208 then(spec_l05Right.l0 k1 (aU++ [(⟨aV.1,aV.2.1⟩:S93)]) (wrap64 (ak+1)) aq a0_1 az) else(none)) else(some (([]:List (S93)),aV.2.2))))) else(none)) else(none))=some (r1,r2):=by first | (rw [hji7] at H;exact H) | (simp only [hji7] at H ⊢;exact H)
     have hji7w:(IntKind.i64.wrap (((rd_L1 aq ak).length:Int) - 1))=ji7:=(i64_w _).trans hji7
     by_cases c8:0≤(ji7)
     ·rw [if_pos c8] at H
      have c8b0:decide (0≤(ji7))=true:=decide_eq_true c8
      clear c8
      by_cases c9:(ji7) < ((rd_L1 aq ak).length:Int)
      ·rw [if_pos c9] at H
       have c9b0:decide ((ji7) < ((rd_L1 aq ak).length:Int))=true:=decide_eq_true c9
       clear c9
       replace H:=Option.bind_eq_some_iff.mp H
       obtain⟨⟨aH,aI⟩,A100,H⟩:=H
       replace H:((spec_l01Told.f k1 aH aI).bind fun aV=>(if aV.2.2=0 then(if aU.length < 8796093022208 then(spec_l05Right.l0 k1 (aU++ [(⟨aV.1,aV.2.1⟩:S93)]) (wrap64 (ak+1)) aq a0_1 az) else(none)) else(some (([]:List (S93)),aV.2.2))))=some (r1,r2):=H
       have A10:=q_ A100
       clear A100
       replace H:=Option.bind_eq_some_iff.mp H
       obtain⟨⟨aC,aD,aJ⟩,A110,H⟩:=H
       replace H:(if aJ=0 then(if aU.length < 8796093022208 then(spec_l05Right.l0 k1 (aU++ [(⟨aC,aD⟩:S93)]) (wrap64 (ak+1)) aq a0_1 az) else(none)) else(some (([]:List (S93)),aJ)))=some (r1,r2):=H
       have A11:=q_ A110
       clear A110
       by_cases c12:aJ=0
       ·rw [if_pos c12] at H
        have c12b0:(aJ==0)=true:=beq_iff_eq.mpr c12
        have c12b1:(aJ !=0)=false:=bne_eq_false_iff_eq.mpr c12
        clear c12
        by_cases c13:aU.length < 8796093022208
        ·rw [if_pos c13] at H
         have bw:=q_ c13
         clear c13
         obtain⟨bk,hy314⟩: ∃y_:List (S93),y_=(aU++ [(⟨aC,aD⟩:S93)]):=⟨_,rfl⟩
         replace H:(spec_l05Right.l0 k1 bk (wrap64 (ak+1)) aq a0_1 az)=some (r1,r2):=by first | (rw [hy314];with_reducible exact H) | (have H2_:=(Option.bind_some _ _).symm.trans H;rw [hy314];with_reducible exact H2_) | (have H2_:=(Option.bind_some _ _).symm.trans H;with_reducible exact H2_) | with_reducible exact H | (rw [hy314];exact H) | exact H
         have bz:=q_ hy314
         clear hy314
         have H':=q_ H
         clear H
         have bB:wr.cell? ⟨au,0,none⟩=some (.slice aW aq.length aK):=(blk_cell aa.out 0).trans rfl
         have bC:wr.cell? ⟨au,1,none⟩=some (.int .i64 a0_1):=(blk_cell aa.out 1).trans rfl
         have bD:wr.cell? ⟨au,2,none⟩=some (.slice aM az.length aN):=(blk_cell aa.out 2).trans rfl
         have bE:=blk_frozen aa.out 0
         have bF:=blk_frozen aa.out 1
         have bG:=blk_frozen aa.out 2
         try go_wp2
         replace av:=q_ (Kd.R_drew av.out)
         replace aa:=q_ (blk_drew aa.out)
         replace HB:=q_ (below_drew1 HB.out)
         have p305:0≤(ak:Int):=od_
         have q305:ak < (aq.length:Int):=od_
         obtain⟨ay,bn,aG,e305,hx305_0,hl305_0,hi305_0⟩:=at_L1 HR0_0.out ak p305 q305
         have af:=hx305_0
         cases e305
         replace hx305_0:=(HB.out.cell (World.block_lt_of_cell? w _ hx305_0)).trans hx305_0
         have HR305_0:=q_ hi305_0
         have HC305_0:=q_ hl305_0
         clear hi305_0 hl305_0
         replace p305:=eq_true p305
         replace q305:=eq_true q305
         have p306:0≤(ak:Int):=od_
         have q306:ak < (aq.length:Int):=od_
         obtain⟨aX,bq,bu,e306,hx306_0,hl306_0,hi306_0⟩:=at_L1 HR0_0.out ak p306 q306
         have ag:=hx306_0
         obtain rfl:ay=aX:=(by injection e306)
         replace hx306_0:=(HB.out.cell (World.block_lt_of_cell? w _ hx306_0)).trans hx306_0
         have HR306_0:=q_ hi306_0
         have HC306_0:=q_ hl306_0
         clear hi306_0 hl306_0
         replace p306:=eq_true p306
         replace q306:=eq_true q306
         have ea_:=Option.some.inj (hx305_0.symm.trans hx306_0)
         injection ea_ with ea_ en_ ec_
         subst ea_
         subst ec_
         clear en_
         have p307:0≤((ji7):Int):=od_
         have q307:(ji7) < ((rd_L1 aq ak).length:Int):=od_
         obtain⟨aA,e307,hx307_0⟩:=Kd.at_int HR305_0.out (ji7) p307 q307
         have ah:=hx307_0
         cases e307
         replace hx307_0:=(HB.out.cell (World.block_lt_of_cell? w _ hx307_0)).trans hx307_0
         replace p307:=eq_true p307
         replace q307:=eq_true q307
         refine st_ (n:=24) (S:=fun w'=>w'.cell? ⟨au,0,none⟩=some (.slice (some ay) aq.length aK)∧w'.cell? ⟨au,1,none⟩=some (.int .i64 a0_1)∧w'.cell? ⟨au,2,none⟩=some (.slice aM az.length aN)∧w'.cell? (ay.add (ak).toNat)=some (.slice (some aA) (rd_L1 aq ak).length aG)∧w'.cell? (ay.add (ak).toNat)=some (.slice (some aA) (rd_L1 aq ak).length aG)∧w'.cell? (aA.add ((ji7)).toNat)=some (.int .i64 (rd (rd_L1 aq ak) (ji7)))) (ds:= []) ⟨(blk_cell aa.out 0).trans rfl,(blk_cell aa.out 1).trans rfl,(blk_cell aa.out 2).trans rfl,((HB.out.cell (World.block_lt_of_cell? w _ af)).trans af),((HB.out.cell (World.block_lt_of_cell? w _ ag)).trans ag),((HB.out.cell (World.block_lt_of_cell? w _ ah)).trans ah)⟩ (fun hHeld=>?_);refine with_tabW spec_l05Right.tab5 spec_l05Right.bits5 (fun HT_ HW_=>?_)
         generalize wr.drew=w15 at av aa HB HR305_0 HR306_0 hx305_0 hx306_0 hx307_0 hHeld ⊢
         refine pu_ 0 17 ?_;refine pu_ 2 19 ?_;refine pu_ 5 22 ?_;refine pu_ 7 24 ?_;refine pu_ 14 31 ?_;refine tk_ 1 18 ?_;refine pu_ 3 20 ?_;refine tk_ 4 21 ?_;refine tk_ 6 23 ?_;refine pu_ 8 25 ?_;refine tk_ 9 26 ?_;refine pu_ 10 27 ?_;refine pu_ 11 28 ?_;refine pu_ 12 29 ?_;refine tk_ 13 30 ?_;refine tk_ 15 32 ?_
         refine join_ (σ:=Nat) 2 (fm 24 4194303) (fun s_=> [(33, .agg #[.int .i64 aH, .int .i64 aI]),(34, .tuple #[.agg #[.int .i64 aC, .int .i64 aD], .int .i64 aJ]),(6, .pointer (some ⟨s_,0,none⟩)),(16, .tuple #[.agg #[.int .i64 aC, .int .i64 aD], .int .i64 aJ]),(35, .agg #[.int .i64 aC, .int .i64 aD]),(36, .int .i64 aJ)]) (fun s_ w'=>(w'.cell? ⟨au,0,none⟩=some (.slice (some ay) aq.length aK)∧w'.cell? ⟨au,1,none⟩=some (.int .i64 a0_1)∧w'.cell? ⟨au,2,none⟩=some (.slice aM az.length aN)∧w'.cell? (ay.add (ak).toNat)=some (.slice (some aA) (rd_L1 aq ak).length aG)∧w'.cell? (ay.add (ak).toNat)=some (.slice (some aA) (rd_L1 aq ak).length aG)∧w'.cell? (aA.add ((ji7)).toNat)=some (.int .i64 (rd (rd_L1 aq ak) (ji7))))∧(Kd.R k93 93 w' w.heap.size (fun k_=>k_≠s_) u4 aU)∧(w'.heap[au]?=some (.cells #[.slice (some ay) aq.length aK, .int .i64 a0_1, .slice aM az.length aN] 100 (0,0)))∧(w'.heap[s_]?=some (.cells #[.int .i64 0, .int .i64 0] 93 (0,0)))∧(w.heap.size≤s_)∧(w.heap.size≤s_)∧(au≠s_)∧(s_≠au)∧(Below w.heap.size w w')) ?_ ?_
         rotate_left
         ·intro hCont
          refine two_ (i:=16) (j:=21) (Ni:=some 33) (Nj:=some 6) (fm 24 131071) (fm 24 2162687) rfl rfl rfl rfl (two_of HT_.out (by kernel_rfl)) (by decide) (by decide) (fun K hK=>?_) (fun K hK=>?_)
          ·skip
           refine goes_ Try.func152 (by kernel_rfl) rfl #[.int .i64 (rd (rd_L1 aq ak) (ji7)), .int .i64 a0_1] (by rfl) rfl rfl (by(try simp only [List.map_toArray,List.map_cons,List.map_nil]);first | done | (simp only [hji7];rfl) | rfl | (simp only [List.length_drop,List.length_take];rfl)) ?_
           with_reducible refine(spec_l01Frac.calls k1 (rd (rd_L1 aq ak) (ji7)) a0_1 aH aI _ A10.out).mono ?_
           rintro e w16 ⟨rfl,hb⟩
           refine⟨_,rfl,?_⟩
           replace av:=q_ (rb_ av.out hb)
           replace aa:=q_ (bb_ aa.out hb)
           replace HB:=q_ (bs_ hb)
           (try clear hb)
           (try clear hb2)
           (try clear hk)
           (try clear hi)
           refine hK.out _ _ ⟨(blk_cell aa.out 0).trans rfl,(blk_cell aa.out 1).trans rfl,(blk_cell aa.out 2).trans rfl,((HB.out.cell (World.block_lt_of_cell? w _ af)).trans af),((HB.out.cell (World.block_lt_of_cell? w _ ag)).trans ag),((HB.out.cell (World.block_lt_of_cell? w _ ah)).trans ah)⟩ (fun hHeld=>?_)
           clear hK K
           refine norm_ (a':=?_) ?_ ?_
           rotate_left
           ·show Act.put _ (some 33) _=_
            simp only [Act.put,List.setIfInBounds_toArray,List.set_cons_zero,List.set_cons_succ,i64_w,i32_w]
            rfl
           refine two_ (i:=17) (j:=21) (Ni:=some 34) (Nj:=some 6) (fm 24 262143) (fm 24 2228223) rfl rfl rfl rfl (two_of HT_.out (by kernel_rfl)) (by decide) (by decide) (fun K hK=>?_) (fun K hK=>?_)
           ·skip
            refine goes_ Try.func151 (by kernel_rfl) rfl #[.agg #[.int .i64 aH, .int .i64 aI]] (by rfl) rfl rfl (by(try simp only [List.map_toArray,List.map_cons,List.map_nil]);first | done | rfl | (simp only [List.length_drop,List.length_take];rfl)) ?_
            with_reducible refine(spec_l01Told.calls k1 aH aI aC aD aJ _ A11.out).mono ?_
            rintro e w17 ⟨rfl,hb⟩
            refine⟨_,rfl,?_⟩
            replace av:=q_ (rb_ av.out hb)
            replace aa:=q_ (bb_ aa.out hb)
            replace HB:=q_ (bs_ hb)
            (try clear hb)
            (try clear hb2)
            (try clear hk)
            (try clear hi)
            refine hK.out _ _ ⟨(blk_cell aa.out 0).trans rfl,(blk_cell aa.out 1).trans rfl,(blk_cell aa.out 2).trans rfl,((HB.out.cell (World.block_lt_of_cell? w _ af)).trans af),((HB.out.cell (World.block_lt_of_cell? w _ ag)).trans ag),((HB.out.cell (World.block_lt_of_cell? w _ ah)).trans ah)⟩ (fun hHeld=>?_)
            clear hK K
            refine norm_ (a':=?_) ?_ ?_
            rotate_left
            ·show Act.put _ (some 34) _=_
             simp only [Act.put,List.setIfInBounds_toArray,List.set_cons_zero,List.set_cons_succ,i64_w,i32_w]
             rfl
            refine pu_ 18 16 ?_;refine pu_ 19 35 ?_;refine pu_ 20 36 ?_
            refine on_ 21 (some 6) (fun K hK=>?_)
            refine box_step ?hg (N:=6) ?hd (cs:= #[.int .i64 0, .int .i64 0]) (t:=93) ?hr ?_;(case hd=>rfl);(case hg=>rfl);(case hr=>first | (go_simp;done) | (go_simp;rfl))
            intro ae hg w18 hbox hb
            replace av:=q_ (Kd.R_below (Kd.R_elderB (ro_ av.out) ae (Nat.le_of_eq hg.symm)) hb)
            have aw:=q_ (hbox)
            have ai:=q_ ((by rw [hg];exact bz_:w.heap.size≤ae))
            have aT:=q_ ((by rw [hg];exact bz_:w.heap.size≤ae))
            have aj:=q_ ((by rw [hg];exact lt_ aa.out:au≠ae))
            have ax:=q_ ((by rw [hg];exact gt_ aa.out:ae≠au))
            replace aa:=q_ (bb_ aa.out hb)
            replace HB:=q_ (bs_ hb)
            clear hb hbox hg
            refine hK.out _ _ ⟨(blk_cell aa.out 0).trans rfl,(blk_cell aa.out 1).trans rfl,(blk_cell aa.out 2).trans rfl,((HB.out.cell (World.block_lt_of_cell? w _ af)).trans af),((HB.out.cell (World.block_lt_of_cell? w _ ag)).trans ag),((HB.out.cell (World.block_lt_of_cell? w _ ah)).trans ah)⟩ (fun hHeld=>?_)
            clear hK K
            refine norm_ (a':=?_) ?_ ?_
            rotate_left
            ·show Act.put _ (some 6) _=_
             simp only [Act.put,List.setIfInBounds_toArray,List.set_cons_zero,List.set_cons_succ,i64_w,i32_w]
             rfl
            exact norm_ (by simp only [putAll,Act.put,List.setIfInBounds_toArray,List.set_cons_zero,List.set_cons_succ]) (hCont (ae) _ ⟨hHeld,(by(with_reducible repeat (first | apply Kd.R_alloc | apply Kd.R_drewN | apply Kd.R_drew));exact Kd.R_mono av.out (fun _ hk=>hk.2)),bk_,bk_,ai.out,aT.out,aj.out,ax.out,hb_⟩)
           ·skip
            refine box_step ?hg (N:=6) ?hd (cs:= #[.int .i64 0, .int .i64 0]) (t:=93) ?hr ?_;(case hd=>rfl);(case hg=>rfl);(case hr=>first | (go_simp;done) | (go_simp;rfl))
            intro ae hg w17 hbox hb
            replace av:=q_ (Kd.R_below (Kd.R_elderB (ro_ av.out) ae (Nat.le_of_eq hg.symm)) hb)
            have aw:=q_ (hbox)
            have ai:=q_ ((by rw [hg];exact bz_:w.heap.size≤ae))
            have aT:=q_ ((by rw [hg];exact bz_:w.heap.size≤ae))
            have aj:=q_ ((by rw [hg];exact lt_ aa.out:au≠ae))
            have ax:=q_ ((by rw [hg];exact gt_ aa.out:ae≠au))
            replace aa:=q_ (bb_ aa.out hb)
            replace HB:=q_ (bs_ hb)
            clear hb hbox hg
            refine hK.out _ _ ⟨(blk_cell aa.out 0).trans rfl,(blk_cell aa.out 1).trans rfl,(blk_cell aa.out 2).trans rfl,((HB.out.cell (World.block_lt_of_cell? w _ af)).trans af),((HB.out.cell (World.block_lt_of_cell? w _ ag)).trans ag),((HB.out.cell (World.block_lt_of_cell? w _ ah)).trans ah)⟩ (fun hHeld=>?_)
            clear hK K
            refine norm_ (a':=?_) ?_ ?_
            rotate_left
            ·show Act.put _ (some 6) _=_
             simp only [Act.put,List.setIfInBounds_toArray,List.set_cons_zero,List.set_cons_succ,i64_w,i32_w]
             rfl
            refine on_ 17 (some 34) (fun K hK=>?_)
            refine goes_ Try.func151 (by kernel_rfl) rfl #[.agg #[.int .i64 aH, .int .i64 aI]] (by rfl) rfl rfl (by(try simp only [List.map_toArray,List.map_cons,List.map_nil]);first | done | rfl | (simp only [List.length_drop,List.length_take];rfl)) ?_
            with_reducible refine(spec_l01Told.calls k1 aH aI aC aD aJ _ A11.out).mono ?_
            rintro e w18 ⟨rfl,hb⟩
            refine⟨_,rfl,?_⟩
            replace av:=q_ (rb_ av.out hb)
            replace aa:=q_ (bb_ aa.out hb)
            replace aw:=q_ (bb_ aw.out hb)
            replace HB:=q_ (bs_ hb)
            (try clear hb)
            (try clear hb2)
            (try clear hk)
            (try clear hi)
            refine hK.out _ _ ⟨(blk_cell aa.out 0).trans rfl,(blk_cell aa.out 1).trans rfl,(blk_cell aa.out 2).trans rfl,((HB.out.cell (World.block_lt_of_cell? w _ af)).trans af),((HB.out.cell (World.block_lt_of_cell? w _ ag)).trans ag),((HB.out.cell (World.block_lt_of_cell? w _ ah)).trans ah)⟩ (fun hHeld=>?_)
            clear hK K
            refine norm_ (a':=?_) ?_ ?_
            rotate_left
            ·show Act.put _ (some 34) _=_
             simp only [Act.put,List.setIfInBounds_toArray,List.set_cons_zero,List.set_cons_succ,i64_w,i32_w]
             rfl
            refine pu_ 18 16 ?_;refine pu_ 19 35 ?_;refine pu_ 20 36 ?_
            exact norm_ (by simp only [putAll,Act.put,List.setIfInBounds_toArray,List.set_cons_zero,List.set_cons_succ]) (hCont (ae) _ ⟨hHeld,(by(with_reducible repeat (first | apply Kd.R_alloc | apply Kd.R_drewN | apply Kd.R_drew));exact Kd.R_mono av.out (fun _ hk=>hk.2)),bk_,bk_,ai.out,aT.out,aj.out,ax.out,hb_⟩)
          ·skip
           refine box_step ?hg (N:=6) ?hd (cs:= #[.int .i64 0, .int .i64 0]) (t:=93) ?hr ?_;(case hd=>rfl);(case hg=>rfl);(case hr=>first | (go_simp;done) | (go_simp;rfl))
           intro ae hg w16 hbox hb
           replace av:=q_ (Kd.R_below (Kd.R_elderB (ro_ av.out) ae (Nat.le_of_eq hg.symm)) hb)
           have aw:=q_ (hbox)
           have ai:=q_ ((by rw [hg];exact bz_:w.heap.size≤ae))
           have aT:=q_ ((by rw [hg];exact bz_:w.heap.size≤ae))
           have aj:=q_ ((by rw [hg];exact lt_ aa.out:au≠ae))
           have ax:=q_ ((by rw [hg];exact gt_ aa.out:ae≠au))
           replace aa:=q_ (bb_ aa.out hb)
           replace HB:=q_ (bs_ hb)
           clear hb hbox hg
           refine hK.out _ _ ⟨(blk_cell aa.out 0).trans rfl,(blk_cell aa.out 1).trans rfl,(blk_cell aa.out 2).trans rfl,((HB.out.cell (World.block_lt_of_cell? w _ af)).trans af),((HB.out.cell (World.block_lt_of_cell? w _ ag)).trans ag),((HB.out.cell (World.block_lt_of_cell? w _ ah)).trans ah)⟩ (fun hHeld=>?_)
           clear hK K
           refine norm_ (a':=?_) ?_ ?_
           rotate_left
           ·show Act.put _ (some 6) _=_
            simp only [Act.put,List.setIfInBounds_toArray,List.set_cons_zero,List.set_cons_succ,i64_w,i32_w]
            rfl
           refine on_ 16 (some 33) (fun K hK=>?_)
           refine goes_ Try.func152 (by kernel_rfl) rfl #[.int .i64 (rd (rd_L1 aq ak) (ji7)), .int .i64 a0_1] (by rfl) rfl rfl (by(try simp only [List.map_toArray,List.map_cons,List.map_nil]);first | done | (simp only [hji7];rfl) | rfl | (simp only [List.length_drop,List.length_take];rfl)) ?_
           with_reducible refine(spec_l01Frac.calls k1 (rd (rd_L1 aq ak) (ji7)) a0_1 aH aI _ A10.out).mono ?_
           rintro e w17 ⟨rfl,hb⟩
           refine⟨_,rfl,?_⟩
           replace av:=q_ (rb_ av.out hb)
           replace aa:=q_ (bb_ aa.out hb)
           replace aw:=q_ (bb_ aw.out hb)
           replace HB:=q_ (bs_ hb)
           (try clear hb)
           (try clear hb2)
           (try clear hk)
           (try clear hi)
           refine hK.out _ _ ⟨(blk_cell aa.out 0).trans rfl,(blk_cell aa.out 1).trans rfl,(blk_cell aa.out 2).trans rfl,((HB.out.cell (World.block_lt_of_cell? w _ af)).trans af),((HB.out.cell (World.block_lt_of_cell? w _ ag)).trans ag),((HB.out.cell (World.block_lt_of_cell? w _ ah)).trans ah)⟩ (fun hHeld=>?_)
           clear hK K
           refine norm_ (a':=?_) ?_ ?_
           rotate_left
           ·show Act.put _ (some 33) _=_
            simp only [Act.put,List.setIfInBounds_toArray,List.set_cons_zero,List.set_cons_succ,i64_w,i32_w]
            rfl
           refine on_ 17 (some 34) (fun K hK=>?_)
           refine goes_ Try.func151 (by kernel_rfl) rfl #[.agg #[.int .i64 aH, .int .i64 aI]] (by rfl) rfl rfl (by(try simp only [List.map_toArray,List.map_cons,List.map_nil]);first | done | rfl | (simp only [List.length_drop,List.length_take];rfl)) ?_
           with_reducible refine(spec_l01Told.calls k1 aH aI aC aD aJ _ A11.out).mono ?_
           rintro e w18 ⟨rfl,hb⟩
           refine⟨_,rfl,?_⟩
           replace av:=q_ (rb_ av.out hb)
           replace aa:=q_ (bb_ aa.out hb)
           replace aw:=q_ (bb_ aw.out hb)
           replace HB:=q_ (bs_ hb)
           (try clear hb)
           (try clear hb2)
           (try clear hk)
           (try clear hi)
           refine hK.out _ _ ⟨(blk_cell aa.out 0).trans rfl,(blk_cell aa.out 1).trans rfl,(blk_cell aa.out 2).trans rfl,((HB.out.cell (World.block_lt_of_cell? w _ af)).trans af),((HB.out.cell (World.block_lt_of_cell? w _ ag)).trans ag),((HB.out.cell (World.block_lt_of_cell? w _ ah)).trans ah)⟩ (fun hHeld=>?_)
           clear hK K
           refine norm_ (a':=?_) ?_ ?_
           rotate_left
           ·show Act.put _ (some 34) _=_
            simp only [Act.put,List.setIfInBounds_toArray,List.set_cons_zero,List.set_cons_succ,i64_w,i32_w]
            rfl
           refine pu_ 18 16 ?_;refine pu_ 19 35 ?_;refine pu_ 20 36 ?_
           exact norm_ (by simp only [putAll,Act.put,List.setIfInBounds_toArray,List.set_cons_zero,List.set_cons_succ]) (hCont (ae) _ ⟨hHeld,(by(with_reducible repeat (first | apply Kd.R_alloc | apply Kd.R_drewN | apply Kd.R_drew));exact Kd.R_mono av.out (fun _ hk=>hk.2)),bk_,bk_,ai.out,aT.out,aj.out,ax.out,hb_⟩)
         rintro ae w19 ⟨hS_,h0_,h1_,h2_,h3_,h4_,h5_,h6_,h7_⟩
         have n0_:Aside0 (Kd.R k93 93 w19 w.heap.size (fun k_=>k_≠ae) u4 aU):=⟨h0_⟩
         have n1_:Aside0 (w19.heap[au]?=some (.cells #[.slice (some ay) aq.length aK, .int .i64 a0_1, .slice aM az.length aN] 100 (0,0))):=⟨h1_⟩
         have n2_:Aside0 (w19.heap[ae]?=some (.cells #[.int .i64 0, .int .i64 0] 93 (0,0))):=⟨h2_⟩
         have n3_:Aside0 (w.heap.size≤ae):=⟨h3_⟩
         have n4_:Aside0 (w.heap.size≤ae):=⟨h4_⟩
         have n5_:Aside0 (au≠ae):=⟨h5_⟩
         have n6_:Aside0 (ae≠au):=⟨h6_⟩
         have n7_:Aside0 (Below w.heap.size w w19):=⟨h7_⟩
         clear av aa HB h0_ h1_ h2_ h3_ h4_ h5_ h6_ h7_
         have av:=n0_
         have aa:=n1_
         have aw:=n2_
         have ai:=n3_
         have aT:=n4_
         have aj:=n5_
         have ax:=n6_
         have HB:=n7_
         clear n0_ n1_ n2_ n3_ n4_ n5_ n6_ n7_
         have hHeld:w19.cell? ⟨au,0,none⟩=some (.slice (some ay) aq.length aK)∧w19.cell? ⟨au,1,none⟩=some (.int .i64 a0_1)∧w19.cell? ⟨au,2,none⟩=some (.slice aM az.length aN)∧w19.cell? (ay.add (ak).toNat)=some (.slice (some aA) (rd_L1 aq ak).length aG)∧w19.cell? (ay.add (ak).toNat)=some (.slice (some aA) (rd_L1 aq ak).length aG)∧w19.cell? (aA.add ((ji7)).toNat)=some (.int .i64 (rd (rd_L1 aq ak) (ji7))):=hS_
         refine norm_ (a':=?_) ?_ ?_
         rotate_left
         ·simp only [putAll,Act.put,List.setIfInBounds_toArray,List.set_cons_zero,List.set_cons_succ]
          rfl
         refine on_ 22 none (fun K hK=>?_)
         have hs20:w19.cell? ⟨ae,0,none⟩=some (.int .i64 0):=(blk_cell aw.out 0).trans rfl
         have hfs20:=blk_frozen aw.out 0
         have hns20_0:=aj.out
         have hms20_0:=ax.out
         have hs21:w19.cell? ⟨ae,1,none⟩=some (.int .i64 0):=(blk_cell aw.out 1).trans rfl
         have hfs21:=blk_frozen aw.out 1
         have hns21_0:=aj.out
         have hms21_0:=ax.out
         refine skip_ (w1:=?_) (by rfl) rfl ?_ ?_
         rotate_left
         ·go_simp
          rfl
         refine hK.out _ _ ⟨((cell_far (p:=⟨ae,_,none⟩) aj.out _).trans (((cell_far (p:=⟨ae,_,none⟩) aj.out _).trans (hHeld.1)))),((cell_far (p:=⟨ae,_,none⟩) aj.out _).trans (((cell_far (p:=⟨ae,_,none⟩) aj.out _).trans (hHeld.2.1)))),((cell_far (p:=⟨ae,_,none⟩) aj.out _).trans (((cell_far (p:=⟨ae,_,none⟩) aj.out _).trans (hHeld.2.2.1)))),((cell_far (p:=⟨ae,_,none⟩) (by first | exact Nat.ne_of_lt (Nat.lt_of_lt_of_le (by have:=World.block_lt_of_cell? _ _ af;first | rwa [add_block] at this | exact this) ai.out) | (rw [add_block];exact Nat.ne_of_lt (Nat.lt_of_lt_of_le (by have:=World.block_lt_of_cell? _ _ af;first | rwa [add_block] at this | exact this) ai.out)) | (show (Addr.add _ _).block≠_;rw [add_block];exact Nat.ne_of_lt (Nat.lt_of_lt_of_le (by have:=World.block_lt_of_cell? _ _ af;first | rwa [add_block] at this | exact this) ai.out)) | (dsimp only;exact Nat.ne_of_lt (Nat.lt_of_lt_of_le (by have:=World.block_lt_of_cell? _ _ af;first | rwa [add_block] at this | exact this) ai.out))) _).trans (((cell_far (p:=⟨ae,_,none⟩) (by first | exact Nat.ne_of_lt (Nat.lt_of_lt_of_le (by have:=World.block_lt_of_cell? _ _ af;first | rwa [add_block] at this | exact this) ai.out) | (rw [add_block];exact Nat.ne_of_lt (Nat.lt_of_lt_of_le (by have:=World.block_lt_of_cell? _ _ af;first | rwa [add_block] at this | exact this) ai.out)) | (show (Addr.add _ _).block≠_;rw [add_block];exact Nat.ne_of_lt (Nat.lt_of_lt_of_le (by have:=World.block_lt_of_cell? _ _ af;first | rwa [add_block] at this | exact this) ai.out)) | (dsimp only;exact Nat.ne_of_lt (Nat.lt_of_lt_of_le (by have:=World.block_lt_of_cell? _ _ af;first | rwa [add_block] at this | exact this) ai.out))) _).trans (hHeld.2.2.2.1)))),((cell_far (p:=⟨ae,_,none⟩) (by first | exact Nat.ne_of_lt (Nat.lt_of_lt_of_le (by have:=World.block_lt_of_cell? _ _ ag;first | rwa [add_block] at this | exact this) ai.out) | (rw [add_block];exact Nat.ne_of_lt (Nat.lt_of_lt_of_le (by have:=World.block_lt_of_cell? _ _ ag;first | rwa [add_block] at this | exact this) ai.out)) | (show (Addr.add _ _).block≠_;rw [add_block];exact Nat.ne_of_lt (Nat.lt_of_lt_of_le (by have:=World.block_lt_of_cell? _ _ ag;first | rwa [add_block] at this | exact this) ai.out)) | (dsimp only;exact Nat.ne_of_lt (Nat.lt_of_lt_of_le (by have:=World.block_lt_of_cell? _ _ ag;first | rwa [add_block] at this | exact this) ai.out))) _).trans (((cell_far (p:=⟨ae,_,none⟩) (by first | exact Nat.ne_of_lt (Nat.lt_of_lt_of_le (by have:=World.block_lt_of_cell? _ _ ag;first | rwa [add_block] at this | exact this) ai.out) | (rw [add_block];exact Nat.ne_of_lt (Nat.lt_of_lt_of_le (by have:=World.block_lt_of_cell? _ _ ag;first | rwa [add_block] at this | exact this) ai.out)) | (show (Addr.add _ _).block≠_;rw [add_block];exact Nat.ne_of_lt (Nat.lt_of_lt_of_le (by have:=World.block_lt_of_cell? _ _ ag;first | rwa [add_block] at this | exact this) ai.out)) | (dsimp only;exact Nat.ne_of_lt (Nat.lt_of_lt_of_le (by have:=World.block_lt_of_cell? _ _ ag;first | rwa [add_block] at this | exact this) ai.out))) _).trans (hHeld.2.2.2.2.1)))),((cell_far (p:=⟨ae,_,none⟩) (by first | exact Nat.ne_of_lt (Nat.lt_of_lt_of_le (by have:=World.block_lt_of_cell? _ _ ah;first | rwa [add_block] at this | exact this) ai.out) | (rw [add_block];exact Nat.ne_of_lt (Nat.lt_of_lt_of_le (by have:=World.block_lt_of_cell? _ _ ah;first | rwa [add_block] at this | exact this) ai.out)) | (show (Addr.add _ _).block≠_;rw [add_block];exact Nat.ne_of_lt (Nat.lt_of_lt_of_le (by have:=World.block_lt_of_cell? _ _ ah;first | rwa [add_block] at this | exact this) ai.out)) | (dsimp only;exact Nat.ne_of_lt (Nat.lt_of_lt_of_le (by have:=World.block_lt_of_cell? _ _ ah;first | rwa [add_block] at this | exact this) ai.out))) _).trans (((cell_far (p:=⟨ae,_,none⟩) (by first | exact Nat.ne_of_lt (Nat.lt_of_lt_of_le (by have:=World.block_lt_of_cell? _ _ ah;first | rwa [add_block] at this | exact this) ai.out) | (rw [add_block];exact Nat.ne_of_lt (Nat.lt_of_lt_of_le (by have:=World.block_lt_of_cell? _ _ ah;first | rwa [add_block] at this | exact this) ai.out)) | (show (Addr.add _ _).block≠_;rw [add_block];exact Nat.ne_of_lt (Nat.lt_of_lt_of_le (by have:=World.block_lt_of_cell? _ _ ah;first | rwa [add_block] at this | exact this) ai.out)) | (dsimp only;exact Nat.ne_of_lt (Nat.lt_of_lt_of_le (by have:=World.block_lt_of_cell? _ _ ah;first | rwa [add_block] at this | exact this) ai.out))) _).trans (hHeld.2.2.2.2.2))))⟩ (fun hHeld=>?_)
         clear hK K
         refine pu_ 23 7 ?_
         refine done_ (done_of HT_.out (by kernel_rfl)) ?_
         have cm:=ax.out
         have cn:=aj.out
         have bH:w19.cell? ⟨ae,0,none⟩=some (.int .i64 0):=(blk_cell aw.out 0).trans rfl
         have bI:w19.cell? ⟨ae,1,none⟩=some (.int .i64 0):=(blk_cell aw.out 1).trans rfl
         have bJ:=blk_frozen aw.out 0
         have bK:=blk_frozen aw.out 1
         try go_wp2_with (first | ((with_reducible refine gate_builtin (b:= .append) (xs:= #[.tmp 40, .tmp 42]) rfl ?_);at_builtin;refine Kd.R_append k93 (w0:=w) w.heap.size rfl (.tmp 40) (.tmp 42) 27 93 (.agg #[(.int .i64 0),(.int .i64 0)]) 16 rfl Try.underlying27 info93 rfl (by decide) (by omega) u4 aU (⟨aC,aD⟩:S93) [.int .i64 aC, .int .i64 aD] (fun k_=>k_≠ae) (fun _=>False) rfl (by first | (go_simp;done) | (go_simp;rfl)) ?aP (fun _ hk=>hk.elim) ?aF ?aO ?aB ?aS ?aL ?_;(case aP=>exact k93_mkM _ _ _ (⟨aC,aD⟩:S93));(case aB=>exact hb_);(case aF=>exact(fun k_ hk=>Kd.freshB (g:=ae) (o:= .cells #[.int .i64 aC, .int .i64 aD] 93 (0,0)) (by(with_reducible repeat (first | refine blk_drewN ?_ _ | refine blk_drew ?_ | refine blk_alloc ?_ _));refine blk_put (cs:= #[.int .i64 aC, .int .i64 0]) ?_ 1 _ rfl;(with_reducible repeat (first | refine blk_drewN ?_ _ | refine blk_drew ?_ | refine blk_alloc ?_ _));refine blk_put (cs:= #[.int .i64 0, .int .i64 0]) ?_ 0 _ rfl;(with_reducible repeat (first | refine blk_drewN ?_ _ | refine blk_drew ?_ | refine blk_alloc ?_ _));exact aw.out) k_ hk));(case aO=>exact(by(with_reducible repeat (first | apply Kd.R_alloc | apply Kd.R_drewN | apply Kd.R_drew));exact Kd.R_mono (Kd.R_far (p:=⟨ae,1,none⟩) (Kd.R_far (p:=⟨ae,0,none⟩) (Kd.R_mono av.out (fun k_ hk=>(⟨hk,hk⟩:_∧k_≠ae))) (fun _ hk=>hk.2) (.int .i64 aC)) (fun _ hk=>hk.2) (.int .i64 aD)) (fun _ hk=>hk.1)));(case aS=>exact bz_);(case aL=>have:=bw.out;omega);intro cq w24 ho hb hg hat;rw [← bz.out] at ho;replace aa:=q_ (blk_grown (g:=au) (o:= .cells #[.slice (some ay) aq.length aK, .int .i64 a0_1, .slice aM az.length aN] 100 (0,0)) (by(with_reducible repeat (first | refine blk_drewN ?_ _ | refine blk_drew ?_ | refine blk_alloc ?_ _));refine blk_far ?_ aj.out _;(with_reducible repeat (first | refine blk_drewN ?_ _ | refine blk_drew ?_ | refine blk_alloc ?_ _));refine blk_far ?_ aj.out _;(with_reducible repeat (first | refine blk_drewN ?_ _ | refine blk_drew ?_ | refine blk_alloc ?_ _));exact aa.out) hg (Kd.R_ne av.out aa.out (by decide)));replace aw:=q_ (blk_grown (g:=ae) (o:= .cells #[.int .i64 aC, .int .i64 aD] 93 (0,0)) (by(with_reducible repeat (first | refine blk_drewN ?_ _ | refine blk_drew ?_ | refine blk_alloc ?_ _));refine blk_put (cs:= #[.int .i64 aC, .int .i64 0]) ?_ 1 _ rfl;(with_reducible repeat (first | refine blk_drewN ?_ _ | refine blk_drew ?_ | refine blk_alloc ?_ _));refine blk_put (cs:= #[.int .i64 0, .int .i64 0]) ?_ 0 _ rfl;(with_reducible repeat (first | refine blk_drewN ?_ _ | refine blk_drew ?_ | refine blk_alloc ?_ _));exact aw.out) hg (Kd.R_away av.out (fun _ hk=>hk)));replace HB:=q_ (hb);have bA:=q_ (ho);clear av ho hb hg hat))
         go_roundg k1
         case measure=>have:=HK1.out;omega
         case rel=>exact⟨(bk),(wrap64 (ak+1)),rs_,H',⟨by have:=HK1.out;omega⟩,⟨by(with_reducible repeat (first | apply Kd.R_alloc | apply Kd.R_drewN | apply Kd.R_drew));exact Kd.R_mono bA.out (fun _ hk=>trivial)⟩,⟨bk_⟩,⟨hb_⟩⟩
        ·rw [if_neg c13] at H
         exact absurd H (by simp)
       ·rw [if_neg c12] at H
        have c12b0:(aJ==0)=false:=beq_eq_false_iff_ne.mpr c12
        have c12b1:(aJ !=0)=true:=bne_iff_ne.mpr c12
        simp only [Option.some.injEq,Prod.mk.injEq] at H
        obtain⟨rfl,rfl⟩:=H
        have bL:wr.cell? ⟨au,0,none⟩=some (.slice aW aq.length aK):=(blk_cell aa.out 0).trans rfl
        have bM:wr.cell? ⟨au,1,none⟩=some (.int .i64 a0_1):=(blk_cell aa.out 1).trans rfl
        have bN:wr.cell? ⟨au,2,none⟩=some (.slice aM az.length aN):=(blk_cell aa.out 2).trans rfl
        have bO:=blk_frozen aa.out 0
        have bP:=blk_frozen aa.out 1
        have bQ:=blk_frozen aa.out 2
        try go_wp2
        replace av:=q_ (Kd.R_drew av.out)
        replace aa:=q_ (blk_drew aa.out)
        replace HB:=q_ (below_drew1 HB.out)
        have p305:0≤(ak:Int):=od_
        have q305:ak < (aq.length:Int):=od_
        obtain⟨ay,bn,aG,e305,hx305_0,hl305_0,hi305_0⟩:=at_L1 HR0_0.out ak p305 q305
        have af:=hx305_0
        cases e305
        replace hx305_0:=(HB.out.cell (World.block_lt_of_cell? w _ hx305_0)).trans hx305_0
        have HR305_0:=q_ hi305_0
        have HC305_0:=q_ hl305_0
        clear hi305_0 hl305_0
        replace p305:=eq_true p305
        replace q305:=eq_true q305
        have p306:0≤(ak:Int):=od_
        have q306:ak < (aq.length:Int):=od_
        obtain⟨aX,bq,bu,e306,hx306_0,hl306_0,hi306_0⟩:=at_L1 HR0_0.out ak p306 q306
        have ag:=hx306_0
        obtain rfl:ay=aX:=(by injection e306)
        replace hx306_0:=(HB.out.cell (World.block_lt_of_cell? w _ hx306_0)).trans hx306_0
        have HR306_0:=q_ hi306_0
        have HC306_0:=q_ hl306_0
        clear hi306_0 hl306_0
        replace p306:=eq_true p306
        replace q306:=eq_true q306
        have ea_:=Option.some.inj (hx305_0.symm.trans hx306_0)
        injection ea_ with ea_ en_ ec_
        subst ea_
        subst ec_
        clear en_
        have p307:0≤((ji7):Int):=od_
        have q307:(ji7) < ((rd_L1 aq ak).length:Int):=od_
        obtain⟨aA,e307,hx307_0⟩:=Kd.at_int HR305_0.out (ji7) p307 q307
        have ah:=hx307_0
        cases e307
        replace hx307_0:=(HB.out.cell (World.block_lt_of_cell? w _ hx307_0)).trans hx307_0
        replace p307:=eq_true p307
        replace q307:=eq_true q307
        refine st_ (n:=24) (S:=fun w'=>w'.cell? ⟨au,0,none⟩=some (.slice (some ay) aq.length aK)∧w'.cell? ⟨au,1,none⟩=some (.int .i64 a0_1)∧w'.cell? ⟨au,2,none⟩=some (.slice aM az.length aN)∧w'.cell? (ay.add (ak).toNat)=some (.slice (some aA) (rd_L1 aq ak).length aG)∧w'.cell? (ay.add (ak).toNat)=some (.slice (some aA) (rd_L1 aq ak).length aG)∧w'.cell? (aA.add ((ji7)).toNat)=some (.int .i64 (rd (rd_L1 aq ak) (ji7)))) (ds:= []) ⟨(blk_cell aa.out 0).trans rfl,(blk_cell aa.out 1).trans rfl,(blk_cell aa.out 2).trans rfl,((HB.out.cell (World.block_lt_of_cell? w _ af)).trans af),((HB.out.cell (World.block_lt_of_cell? w _ ag)).trans ag),((HB.out.cell (World.block_lt_of_cell? w _ ah)).trans ah)⟩ (fun hHeld=>?_);refine with_tabW spec_l05Right.tab5 spec_l05Right.bits5 (fun HT_ HW_=>?_)
        generalize wr.drew=w26 at av aa HB HR305_0 HR306_0 hx305_0 hx306_0 hx307_0 hHeld ⊢
        refine pu_ 0 17 ?_;refine pu_ 2 19 ?_;refine pu_ 5 22 ?_;refine pu_ 7 24 ?_;refine pu_ 14 31 ?_;refine tk_ 1 18 ?_;refine pu_ 3 20 ?_;refine tk_ 4 21 ?_;refine tk_ 6 23 ?_;refine pu_ 8 25 ?_;refine tk_ 9 26 ?_;refine pu_ 10 27 ?_;refine pu_ 11 28 ?_;refine pu_ 12 29 ?_;refine tk_ 13 30 ?_;refine tk_ 15 32 ?_
        refine join_ (σ:=Nat) 2 (fm 24 4194303) (fun s_=> [(33, .agg #[.int .i64 aH, .int .i64 aI]),(34, .tuple #[.agg #[.int .i64 aC, .int .i64 aD], .int .i64 aJ]),(6, .pointer (some ⟨s_,0,none⟩)),(16, .tuple #[.agg #[.int .i64 aC, .int .i64 aD], .int .i64 aJ]),(35, .agg #[.int .i64 aC, .int .i64 aD]),(36, .int .i64 aJ)]) (fun s_ w'=>(w'.cell? ⟨au,0,none⟩=some (.slice (some ay) aq.length aK)∧w'.cell? ⟨au,1,none⟩=some (.int .i64 a0_1)∧w'.cell? ⟨au,2,none⟩=some (.slice aM az.length aN)∧w'.cell? (ay.add (ak).toNat)=some (.slice (some aA) (rd_L1 aq ak).length aG)∧w'.cell? (ay.add (ak).toNat)=some (.slice (some aA) (rd_L1 aq ak).length aG)∧w'.cell? (aA.add ((ji7)).toNat)=some (.int .i64 (rd (rd_L1 aq ak) (ji7))))∧(Kd.R k93 93 w' w.heap.size (fun k_=>k_≠s_) u4 aU)∧(w'.heap[au]?=some (.cells #[.slice (some ay) aq.length aK, .int .i64 a0_1, .slice aM az.length aN] 100 (0,0)))∧(w'.heap[s_]?=some (.cells #[.int .i64 0, .int .i64 0] 93 (0,0)))∧(w.heap.size≤s_)∧(w.heap.size≤s_)∧(au≠s_)∧(s_≠au)∧(Below w.heap.size w w')) ?_ ?_
        rotate_left
        ·intro hCont
         refine two_ (i:=16) (j:=21) (Ni:=some 33) (Nj:=some 6) (fm 24 131071) (fm 24 2162687) rfl rfl rfl rfl (two_of HT_.out (by kernel_rfl)) (by decide) (by decide) (fun K hK=>?_) (fun K hK=>?_)
         ·skip
          refine goes_ Try.func152 (by kernel_rfl) rfl #[.int .i64 (rd (rd_L1 aq ak) (ji7)), .int .i64 a0_1] (by rfl) rfl rfl (by(try simp only [List.map_toArray,List.map_cons,List.map_nil]);first | done | (simp only [hji7];rfl) | rfl | (simp only [List.length_drop,List.length_take];rfl)) ?_
          with_reducible refine(spec_l01Frac.calls k1 (rd (rd_L1 aq ak) (ji7)) a0_1 aH aI _ A10.out).mono ?_
          rintro e w27 ⟨rfl,hb⟩
          refine⟨_,rfl,?_⟩
          replace av:=q_ (rb_ av.out hb)
          replace aa:=q_ (bb_ aa.out hb)
          replace HB:=q_ (bs_ hb)
          (try clear hb)
          (try clear hb2)
          (try clear hk)
          (try clear hi)
          refine hK.out _ _ ⟨(blk_cell aa.out 0).trans rfl,(blk_cell aa.out 1).trans rfl,(blk_cell aa.out 2).trans rfl,((HB.out.cell (World.block_lt_of_cell? w _ af)).trans af),((HB.out.cell (World.block_lt_of_cell? w _ ag)).trans ag),((HB.out.cell (World.block_lt_of_cell? w _ ah)).trans ah)⟩ (fun hHeld=>?_)
          clear hK K
          refine norm_ (a':=?_) ?_ ?_
          rotate_left
          ·show Act.put _ (some 33) _=_
           simp only [Act.put,List.setIfInBounds_toArray,List.set_cons_zero,List.set_cons_succ,i64_w,i32_w]
           rfl
          refine two_ (i:=17) (j:=21) (Ni:=some 34) (Nj:=some 6) (fm 24 262143) (fm 24 2228223) rfl rfl rfl rfl (two_of HT_.out (by kernel_rfl)) (by decide) (by decide) (fun K hK=>?_) (fun K hK=>?_)
          ·skip
           refine goes_ Try.func151 (by kernel_rfl) rfl #[.agg #[.int .i64 aH, .int .i64 aI]] (by rfl) rfl rfl (by(try simp only [List.map_toArray,List.map_cons,List.map_nil]);first | done | rfl | (simp only [List.length_drop,List.length_take];rfl)) ?_
           with_reducible refine(spec_l01Told.calls k1 aH aI aC aD aJ _ A11.out).mono ?_
           rintro e w28 ⟨rfl,hb⟩
           refine⟨_,rfl,?_⟩
           replace av:=q_ (rb_ av.out hb)
           replace aa:=q_ (bb_ aa.out hb)
           replace HB:=q_ (bs_ hb)
           (try clear hb)
           (try clear hb2)
           (try clear hk)
           (try clear hi)
           refine hK.out _ _ ⟨(blk_cell aa.out 0).trans rfl,(blk_cell aa.out 1).trans rfl,(blk_cell aa.out 2).trans rfl,((HB.out.cell (World.block_lt_of_cell? w _ af)).trans af),((HB.out.cell (World.block_lt_of_cell? w _ ag)).trans ag),((HB.out.cell (World.block_lt_of_cell? w _ ah)).trans ah)⟩ (fun hHeld=>?_)
           clear hK K
           refine norm_ (a':=?_) ?_ ?_
           rotate_left
           ·show Act.put _ (some 34) _=_
            simp only [Act.put,List.setIfInBounds_toArray,List.set_cons_zero,List.set_cons_succ,i64_w,i32_w]
            rfl
           refine pu_ 18 16 ?_;refine pu_ 19 35 ?_;refine pu_ 20 36 ?_
           refine on_ 21 (some 6) (fun K hK=>?_)
           refine box_step ?hg (N:=6) ?hd (cs:= #[.int .i64 0, .int .i64 0]) (t:=93) ?hr ?_;(case hd=>rfl);(case hg=>rfl);(case hr=>first | (go_simp;done) | (go_simp;rfl))
           intro ae hg w29 hbox hb
           replace av:=q_ (Kd.R_below (Kd.R_elderB (ro_ av.out) ae (Nat.le_of_eq hg.symm)) hb)
           have aw:=q_ (hbox)
           have ai:=q_ ((by rw [hg];exact bz_:w.heap.size≤ae))
           have aT:=q_ ((by rw [hg];exact bz_:w.heap.size≤ae))
           have aj:=q_ ((by rw [hg];exact lt_ aa.out:au≠ae))
           have ax:=q_ ((by rw [hg];exact gt_ aa.out:ae≠au))
           replace aa:=q_ (bb_ aa.out hb)
           replace HB:=q_ (bs_ hb)
           clear hb hbox hg
           refine hK.out _ _ ⟨(blk_cell aa.out 0).trans rfl,(blk_cell aa.out 1).trans rfl,(blk_cell aa.out 2).trans rfl,((HB.out.cell (World.block_lt_of_cell? w _ af)).trans af),((HB.out.cell (World.block_lt_of_cell? w _ ag)).trans ag),((HB.out.cell (World.block_lt_of_cell? w _ ah)).trans ah)⟩ (fun hHeld=>?_)
           clear hK K
           refine norm_ (a':=?_) ?_ ?_
           rotate_left
           ·show Act.put _ (some 6) _=_
            simp only [Act.put,List.setIfInBounds_toArray,List.set_cons_zero,List.set_cons_succ,i64_w,i32_w]
            rfl
           exact norm_ (by simp only [putAll,Act.put,List.setIfInBounds_toArray,List.set_cons_zero,List.set_cons_succ]) (hCont (ae) _ ⟨hHeld,(by(with_reducible repeat (first | apply Kd.R_alloc | apply Kd.R_drewN | apply Kd.R_drew));exact Kd.R_mono av.out (fun _ hk=>hk.2)),bk_,bk_,ai.out,aT.out,aj.out,ax.out,hb_⟩)
          ·skip
           refine box_step ?hg (N:=6) ?hd (cs:= #[.int .i64 0, .int .i64 0]) (t:=93) ?hr ?_;(case hd=>rfl);(case hg=>rfl);(case hr=>first | (go_simp;done) | (go_simp;rfl))
           intro ae hg w28 hbox hb
           replace av:=q_ (Kd.R_below (Kd.R_elderB (ro_ av.out) ae (Nat.le_of_eq hg.symm)) hb)
           have aw:=q_ (hbox)
           have ai:=q_ ((by rw [hg];exact bz_:w.heap.size≤ae))
           have aT:=q_ ((by rw [hg];exact bz_:w.heap.size≤ae))
           have aj:=q_ ((by rw [hg];exact lt_ aa.out:au≠ae))
           have ax:=q_ ((by rw [hg];exact gt_ aa.out:ae≠au))
           replace aa:=q_ (bb_ aa.out hb)
           replace HB:=q_ (bs_ hb)
           clear hb hbox hg
           refine hK.out _ _ ⟨(blk_cell aa.out 0).trans rfl,(blk_cell aa.out 1).trans rfl,(blk_cell aa.out 2).trans rfl,((HB.out.cell (World.block_lt_of_cell? w _ af)).trans af),((HB.out.cell (World.block_lt_of_cell? w _ ag)).trans ag),((HB.out.cell (World.block_lt_of_cell? w _ ah)).trans ah)⟩ (fun hHeld=>?_)
           clear hK K
           refine norm_ (a':=?_) ?_ ?_
           rotate_left
           ·show Act.put _ (some 6) _=_
            simp only [Act.put,List.setIfInBounds_toArray,List.set_cons_zero,List.set_cons_succ,i64_w,i32_w]
            rfl
           refine on_ 17 (some 34) (fun K hK=>?_)
           refine goes_ Try.func151 (by kernel_rfl) rfl #[.agg #[.int .i64 aH, .int .i64 aI]] (by rfl) rfl rfl (by(try simp only [List.map_toArray,List.map_cons,List.map_nil]);first | done | rfl | (simp only [List.length_drop,List.length_take];rfl)) ?_
           with_reducible refine(spec_l01Told.calls k1 aH aI aC aD aJ _ A11.out).mono ?_
           rintro e w29 ⟨rfl,hb⟩
           refine⟨_,rfl,?_⟩
           replace av:=q_ (rb_ av.out hb)
           replace aa:=q_ (bb_ aa.out hb)
           replace aw:=q_ (bb_ aw.out hb)
           replace HB:=q_ (bs_ hb)
           (try clear hb)
           (try clear hb2)
           (try clear hk)
           (try clear hi)
           refine hK.out _ _ ⟨(blk_cell aa.out 0).trans rfl,(blk_cell aa.out 1).trans rfl,(blk_cell aa.out 2).trans rfl,((HB.out.cell (World.block_lt_of_cell? w _ af)).trans af),((HB.out.cell (World.block_lt_of_cell? w _ ag)).trans ag),((HB.out.cell (World.block_lt_of_cell? w _ ah)).trans ah)⟩ (fun hHeld=>?_)
           clear hK K
           refine norm_ (a':=?_) ?_ ?_
           rotate_left
           ·show Act.put _ (some 34) _=_
            simp only [Act.put,List.setIfInBounds_toArray,List.set_cons_zero,List.set_cons_succ,i64_w,i32_w]
            rfl
           refine pu_ 18 16 ?_;refine pu_ 19 35 ?_;refine pu_ 20 36 ?_
           exact norm_ (by simp only [putAll,Act.put,List.setIfInBounds_toArray,List.set_cons_zero,List.set_cons_succ]) (hCont (ae) _ ⟨hHeld,(by(with_reducible repeat (first | apply Kd.R_alloc | apply Kd.R_drewN | apply Kd.R_drew));exact Kd.R_mono av.out (fun _ hk=>hk.2)),bk_,bk_,ai.out,aT.out,aj.out,ax.out,hb_⟩)
         ·skip
          refine box_step ?hg (N:=6) ?hd (cs:= #[.int .i64 0, .int .i64 0]) (t:=93) ?hr ?_;(case hd=>rfl);(case hg=>rfl);(case hr=>first | (go_simp;done) | (go_simp;rfl))
          intro ae hg w27 hbox hb
          replace av:=q_ (Kd.R_below (Kd.R_elderB (ro_ av.out) ae (Nat.le_of_eq hg.symm)) hb)
          have aw:=q_ (hbox)
          have ai:=q_ ((by rw [hg];exact bz_:w.heap.size≤ae))
          have aT:=q_ ((by rw [hg];exact bz_:w.heap.size≤ae))
          have aj:=q_ ((by rw [hg];exact lt_ aa.out:au≠ae))
          have ax:=q_ ((by rw [hg];exact gt_ aa.out:ae≠au))
          replace aa:=q_ (bb_ aa.out hb)
          replace HB:=q_ (bs_ hb)
          clear hb hbox hg
          refine hK.out _ _ ⟨(blk_cell aa.out 0).trans rfl,(blk_cell aa.out 1).trans rfl,(blk_cell aa.out 2).trans rfl,((HB.out.cell (World.block_lt_of_cell? w _ af)).trans af),((HB.out.cell (World.block_lt_of_cell? w _ ag)).trans ag),((HB.out.cell (World.block_lt_of_cell? w _ ah)).trans ah)⟩ (fun hHeld=>?_)
          clear hK K
          refine norm_ (a':=?_) ?_ ?_
          rotate_left
          ·show Act.put _ (some 6) _=_
           simp only [Act.put,List.setIfInBounds_toArray,List.set_cons_zero,List.set_cons_succ,i64_w,i32_w]
           rfl
          refine on_ 16 (some 33) (fun K hK=>?_)
          refine goes_ Try.func152 (by kernel_rfl) rfl #[.int .i64 (rd (rd_L1 aq ak) (ji7)), .int .i64 a0_1] (by rfl) rfl rfl (by(try simp only [List.map_toArray,List.map_cons,List.map_nil]);first | done | (simp only [hji7];rfl) | rfl | (simp only [List.length_drop,List.length_take];rfl)) ?_
          with_reducible refine(spec_l01Frac.calls k1 (rd (rd_L1 aq ak) (ji7)) a0_1 aH aI _ A10.out).mono ?_
          rintro e w28 ⟨rfl,hb⟩
          refine⟨_,rfl,?_⟩
          replace av:=q_ (rb_ av.out hb)
          replace aa:=q_ (bb_ aa.out hb)
          replace aw:=q_ (bb_ aw.out hb)
          replace HB:=q_ (bs_ hb)
          (try clear hb)
          (try clear hb2)
          (try clear hk)
          (try clear hi)
          refine hK.out _ _ ⟨(blk_cell aa.out 0).trans rfl,(blk_cell aa.out 1).trans rfl,(blk_cell aa.out 2).trans rfl,((HB.out.cell (World.block_lt_of_cell? w _ af)).trans af),((HB.out.cell (World.block_lt_of_cell? w _ ag)).trans ag),((HB.out.cell (World.block_lt_of_cell? w _ ah)).trans ah)⟩ (fun hHeld=>?_)
          clear hK K
          refine norm_ (a':=?_) ?_ ?_
          rotate_left
          ·show Act.put _ (some 33) _=_
           simp only [Act.put,List.setIfInBounds_toArray,List.set_cons_zero,List.set_cons_succ,i64_w,i32_w]
           rfl
          refine on_ 17 (some 34) (fun K hK=>?_)
          refine goes_ Try.func151 (by kernel_rfl) rfl #[.agg #[.int .i64 aH, .int .i64 aI]] (by rfl) rfl rfl (by(try simp only [List.map_toArray,List.map_cons,List.map_nil]);first | done | rfl | (simp only [List.length_drop,List.length_take];rfl)) ?_
          with_reducible refine(spec_l01Told.calls k1 aH aI aC aD aJ _ A11.out).mono ?_
          rintro e w29 ⟨rfl,hb⟩
          refine⟨_,rfl,?_⟩
          replace av:=q_ (rb_ av.out hb)
          replace aa:=q_ (bb_ aa.out hb)
          replace aw:=q_ (bb_ aw.out hb)
          replace HB:=q_ (bs_ hb)
          (try clear hb)
          (try clear hb2)
          (try clear hk)
          (try clear hi)
          refine hK.out _ _ ⟨(blk_cell aa.out 0).trans rfl,(blk_cell aa.out 1).trans rfl,(blk_cell aa.out 2).trans rfl,((HB.out.cell (World.block_lt_of_cell? w _ af)).trans af),((HB.out.cell (World.block_lt_of_cell? w _ ag)).trans ag),((HB.out.cell (World.block_lt_of_cell? w _ ah)).trans ah)⟩ (fun hHeld=>?_)
          clear hK K
          refine norm_ (a':=?_) ?_ ?_
          rotate_left
          ·show Act.put _ (some 34) _=_
           simp only [Act.put,List.setIfInBounds_toArray,List.set_cons_zero,List.set_cons_succ,i64_w,i32_w]
           rfl
          refine pu_ 18 16 ?_;refine pu_ 19 35 ?_;refine pu_ 20 36 ?_
          exact norm_ (by simp only [putAll,Act.put,List.setIfInBounds_toArray,List.set_cons_zero,List.set_cons_succ]) (hCont (ae) _ ⟨hHeld,(by(with_reducible repeat (first | apply Kd.R_alloc | apply Kd.R_drewN | apply Kd.R_drew));exact Kd.R_mono av.out (fun _ hk=>hk.2)),bk_,bk_,ai.out,aT.out,aj.out,ax.out,hb_⟩)
        rintro ae w30 ⟨hS_,h0_,h1_,h2_,h3_,h4_,h5_,h6_,h7_⟩
        have n0_:Aside0 (Kd.R k93 93 w30 w.heap.size (fun k_=>k_≠ae) u4 aU):=⟨h0_⟩
        have n1_:Aside0 (w30.heap[au]?=some (.cells #[.slice (some ay) aq.length aK, .int .i64 a0_1, .slice aM az.length aN] 100 (0,0))):=⟨h1_⟩
        have n2_:Aside0 (w30.heap[ae]?=some (.cells #[.int .i64 0, .int .i64 0] 93 (0,0))):=⟨h2_⟩
        have n3_:Aside0 (w.heap.size≤ae):=⟨h3_⟩
        have n4_:Aside0 (w.heap.size≤ae):=⟨h4_⟩
        have n5_:Aside0 (au≠ae):=⟨h5_⟩
        have n6_:Aside0 (ae≠au):=⟨h6_⟩
        have n7_:Aside0 (Below w.heap.size w w30):=⟨h7_⟩
        clear av aa HB h0_ h1_ h2_ h3_ h4_ h5_ h6_ h7_
        have av:=n0_
        have aa:=n1_
        have aw:=n2_
        have ai:=n3_
        have aT:=n4_
        have aj:=n5_
        have ax:=n6_
        have HB:=n7_
        clear n0_ n1_ n2_ n3_ n4_ n5_ n6_ n7_
        have hHeld:w30.cell? ⟨au,0,none⟩=some (.slice (some ay) aq.length aK)∧w30.cell? ⟨au,1,none⟩=some (.int .i64 a0_1)∧w30.cell? ⟨au,2,none⟩=some (.slice aM az.length aN)∧w30.cell? (ay.add (ak).toNat)=some (.slice (some aA) (rd_L1 aq ak).length aG)∧w30.cell? (ay.add (ak).toNat)=some (.slice (some aA) (rd_L1 aq ak).length aG)∧w30.cell? (aA.add ((ji7)).toNat)=some (.int .i64 (rd (rd_L1 aq ak) (ji7))):=hS_
        refine norm_ (a':=?_) ?_ ?_
        rotate_left
        ·simp only [putAll,Act.put,List.setIfInBounds_toArray,List.set_cons_zero,List.set_cons_succ]
         rfl
        refine on_ 22 none (fun K hK=>?_)
        have hs31:w30.cell? ⟨ae,0,none⟩=some (.int .i64 0):=(blk_cell aw.out 0).trans rfl
        have hfs31:=blk_frozen aw.out 0
        have hns31_0:=aj.out
        have hms31_0:=ax.out
        have hs32:w30.cell? ⟨ae,1,none⟩=some (.int .i64 0):=(blk_cell aw.out 1).trans rfl
        have hfs32:=blk_frozen aw.out 1
        have hns32_0:=aj.out
        have hms32_0:=ax.out
        refine skip_ (w1:=?_) (by rfl) rfl ?_ ?_
        rotate_left
        ·go_simp
         rfl
        refine hK.out _ _ ⟨((cell_far (p:=⟨ae,_,none⟩) aj.out _).trans (((cell_far (p:=⟨ae,_,none⟩) aj.out _).trans (hHeld.1)))),((cell_far (p:=⟨ae,_,none⟩) aj.out _).trans (((cell_far (p:=⟨ae,_,none⟩) aj.out _).trans (hHeld.2.1)))),((cell_far (p:=⟨ae,_,none⟩) aj.out _).trans (((cell_far (p:=⟨ae,_,none⟩) aj.out _).trans (hHeld.2.2.1)))),((cell_far (p:=⟨ae,_,none⟩) (by first | exact Nat.ne_of_lt (Nat.lt_of_lt_of_le (by have:=World.block_lt_of_cell? _ _ af;first | rwa [add_block] at this | exact this) ai.out) | (rw [add_block];exact Nat.ne_of_lt (Nat.lt_of_lt_of_le (by have:=World.block_lt_of_cell? _ _ af;first | rwa [add_block] at this | exact this) ai.out)) | (show (Addr.add _ _).block≠_;rw [add_block];exact Nat.ne_of_lt (Nat.lt_of_lt_of_le (by have:=World.block_lt_of_cell? _ _ af;first | rwa [add_block] at this | exact this) ai.out)) | (dsimp only;exact Nat.ne_of_lt (Nat.lt_of_lt_of_le (by have:=World.block_lt_of_cell? _ _ af;first | rwa [add_block] at this | exact this) ai.out))) _).trans (((cell_far (p:=⟨ae,_,none⟩) (by first | exact Nat.ne_of_lt (Nat.lt_of_lt_of_le (by have:=World.block_lt_of_cell? _ _ af;first | rwa [add_block] at this | exact this) ai.out) | (rw [add_block];exact Nat.ne_of_lt (Nat.lt_of_lt_of_le (by have:=World.block_lt_of_cell? _ _ af;first | rwa [add_block] at this | exact this) ai.out)) | (show (Addr.add _ _).block≠_;rw [add_block];exact Nat.ne_of_lt (Nat.lt_of_lt_of_le (by have:=World.block_lt_of_cell? _ _ af;first | rwa [add_block] at this | exact this) ai.out)) | (dsimp only;exact Nat.ne_of_lt (Nat.lt_of_lt_of_le (by have:=World.block_lt_of_cell? _ _ af;first | rwa [add_block] at this | exact this) ai.out))) _).trans (hHeld.2.2.2.1)))),((cell_far (p:=⟨ae,_,none⟩) (by first | exact Nat.ne_of_lt (Nat.lt_of_lt_of_le (by have:=World.block_lt_of_cell? _ _ ag;first | rwa [add_block] at this | exact this) ai.out) | (rw [add_block];exact Nat.ne_of_lt (Nat.lt_of_lt_of_le (by have:=World.block_lt_of_cell? _ _ ag;first | rwa [add_block] at this | exact this) ai.out)) | (show (Addr.add _ _).block≠_;rw [add_block];exact Nat.ne_of_lt (Nat.lt_of_lt_of_le (by have:=World.block_lt_of_cell? _ _ ag;first | rwa [add_block] at this | exact this) ai.out)) | (dsimp only;exact Nat.ne_of_lt (Nat.lt_of_lt_of_le (by have:=World.block_lt_of_cell? _ _ ag;first | rwa [add_block] at this | exact this) ai.out))) _).trans (((cell_far (p:=⟨ae,_,none⟩) (by first | exact Nat.ne_of_lt (Nat.lt_of_lt_of_le (by have:=World.block_lt_of_cell? _ _ ag;first | rwa [add_block] at this | exact this) ai.out) | (rw [add_block];exact Nat.ne_of_lt (Nat.lt_of_lt_of_le (by have:=World.block_lt_of_cell? _ _ ag;first | rwa [add_block] at this | exact this) ai.out)) | (show (Addr.add _ _).block≠_;rw [add_block];exact Nat.ne_of_lt (Nat.lt_of_lt_of_le (by have:=World.block_lt_of_cell? _ _ ag;first | rwa [add_block] at this | exact this) ai.out)) | (dsimp only;exact Nat.ne_of_lt (Nat.lt_of_lt_of_le (by have:=World.block_lt_of_cell? _ _ ag;first | rwa [add_block] at this | exact this) ai.out))) _).trans (hHeld.2.2.2.2.1)))),((cell_far (p:=⟨ae,_,none⟩) (by first | exact Nat.ne_of_lt (Nat.lt_of_lt_of_le (by have:=World.block_lt_of_cell? _ _ ah;first | rwa [add_block] at this | exact this) ai.out) | (rw [add_block];exact Nat.ne_of_lt (Nat.lt_of_lt_of_le (by have:=World.block_lt_of_cell? _ _ ah;first | rwa [add_block] at this | exact this) ai.out)) | (show (Addr.add _ _).block≠_;rw [add_block];exact Nat.ne_of_lt (Nat.lt_of_lt_of_le (by have:=World.block_lt_of_cell? _ _ ah;first | rwa [add_block] at this | exact this) ai.out)) | (dsimp only;exact Nat.ne_of_lt (Nat.lt_of_lt_of_le (by have:=World.block_lt_of_cell? _ _ ah;first | rwa [add_block] at this | exact this) ai.out))) _).trans (((cell_far (p:=⟨ae,_,none⟩) (by first | exact Nat.ne_of_lt (Nat.lt_of_lt_of_le (by have:=World.block_lt_of_cell? _ _ ah;first | rwa [add_block] at this | exact this) ai.out) | (rw [add_block];exact Nat.ne_of_lt (Nat.lt_of_lt_of_le (by have:=World.block_lt_of_cell? _ _ ah;first | rwa [add_block] at this | exact this) ai.out)) | (show (Addr.add _ _).block≠_;rw [add_block];exact Nat.ne_of_lt (Nat.lt_of_lt_of_le (by have:=World.block_lt_of_cell? _ _ ah;first | rwa [add_block] at this | exact this) ai.out)) | (dsimp only;exact Nat.ne_of_lt (Nat.lt_of_lt_of_le (by have:=World.block_lt_of_cell? _ _ ah;first | rwa [add_block] at this | exact this) ai.out))) _).trans (hHeld.2.2.2.2.2))))⟩ (fun hHeld=>?_)
        clear hK K
        refine pu_ 23 7 ?_
        refine done_ (done_of HT_.out (by kernel_rfl)) ?_
        try go_wp2
        go_ret2
        exact⟨_,by first | rfl | (simp [errW_none,errW_some] <;> rfl) | (simp only [← hji7];first | rfl | (simp [errW_none,errW_some] <;> rfl)) | (simp [*,errW_none,errW_some] <;> rfl),by first | exact Kd.R_nil _ _ _ _ _ | exact Kd.N_nil _ _ _ _ _ | exact Kd.V_nil _ _ _ _ _ | exact Kd.Q_nil _ _ _ _ _ | exact Kd.S_nil _ _ _ _ _,hb_⟩
      ·rw [if_neg c9] at H
       exact absurd H (by simp)
     ·rw [if_neg c8] at H
      exact absurd H (by simp)
    ·rw [if_neg c6] at H
     exact absurd H (by simp)
   ·rw [if_neg c5] at H
    have c5b0:decide (ak < (aq.length:Int))=false:=decide_eq_false c5
    clear c5
    simp only [Option.some.injEq,Prod.mk.injEq] at H
    obtain⟨rfl,rfl⟩:=H
    have bS:wr.cell? ⟨au,0,none⟩=some (.slice aW aq.length aK):=(blk_cell aa.out 0).trans rfl
    have bT:wr.cell? ⟨au,1,none⟩=some (.int .i64 a0_1):=(blk_cell aa.out 1).trans rfl
    have bU:wr.cell? ⟨au,2,none⟩=some (.slice aM az.length aN):=(blk_cell aa.out 2).trans rfl
    have bV:=blk_frozen aa.out 0
    have bW:=blk_frozen aa.out 1
    have bX:=blk_frozen aa.out 2
    go_wp2
    go_ret2
    exact⟨_,by first | rfl | (simp [errW_none,errW_some] <;> rfl) | (simp [*,errW_none,errW_some] <;> rfl),ro_ av.out,hb_⟩
def spec_RightAfter.f (k:Nat) (af:List (List Int)) (ag:List Int) (l1:List Int) (a2:Int):Option ((List (S93)) × Int):=(spec_l05After.f k af ag l1 a2).bind fun aa=>(if aa.2.2.2=0 then((spec_l05Right.f k aa.1 aa.2.1 aa.2.2.1).bind fun ae=>(some (ae.1,ae.2))) else(some (([]:List (S93)),aa.2.2.2)))
theorem spec_RightAfter.mono: ∀a0 a1 a2 a3 k,LeO (spec_RightAfter.f k a0 a1 a2 a3) (spec_RightAfter.f (k+1) a0 a1 a2 a3):=by
 intro a0 a1 a2 a3 k
 unfold spec_RightAfter.f
 repeat' first
   | (with_reducible exact spec_l05After.mono _ _ _ _ _)
   | (with_reducible exact spec_l05Right.mono _ _ _ _)
   | (with_reducible exact LeO.refl _)
   | (with_reducible exact LeO.none _)
   | (with_reducible refine LeO.ite ?_ ?_)
   | (with_reducible refine LeO.bind ?_ (fun _=>?_))
   | exact spec_l05After.mono _ _ _ _ _
   | exact spec_l05Right.mono _ _ _ _
   | exact LeO.none _
   | refine LeO.ite ?_ ?_
   | refine LeO.bind ?_ (fun _=>?_)
theorem spec_RightAfter.calls (k:Nat) (ax:Option Addr) (ay:Nat) (ah:List (List Int)) (az:Option Addr) (aA:Nat) (ai:List Int) (A1:Option Addr) (c1:Nat) (l1:List Int) (a2:Int) (r1:List (S93)) (r2:Int) (w:World) (aY:Kd.C (Kd.slice 2 (Kd.int .i64)) w ax ah.length ah) (aZ:ah.length≤ay) (a9:Kd.C (Kd.int .i64) w az ai.length ai) (ba:ai.length≤aA) (hr1:Kd.C (Kd.int .i64) w A1 l1.length l1) (hc1:l1.length≤c1) (h:spec_RightAfter.f k ah ai l1 a2=some (r1,r2)):
  Calls Try.prog 10 #[.agg #[.slice ax ah.length ay, .slice az ai.length aA], .slice A1 l1.length c1, .int .i64 a2] w fun e w'=> ∃v0_:Value,e= .returned (.tuple #[v0_, .int .i64 r2])∧Kd.R k93 93 w' w.heap.size (fun _=>True) v0_ r1∧Below w.heap.size w w':=by
 have hu30:=Try.underlying30
 have hu100:=Try.underlying100
 have HR0_0:=q_ aY
 have HC0_0:=q_ aZ
 clear aY aZ
 have HR0_1:=q_ a9
 have HC0_1:=q_ ba
 clear a9 ba
 have HR1:=q_ hr1
 have HC1:=q_ hc1
 clear hr1 hc1
 have HB:=q_ (Below.refl w.heap.size w)
 have H:((spec_l05After.f k ah ai l1 a2).bind fun aK=>(if aK.2.2.2=0 then((spec_l05Right.f k aK.1 aK.2.1 aK.2.2.1).bind fun aM=>(some (aM.1,aM.2))) else(some (([]:List (S93)),aK.2.2.2))))=some (r1,r2):=h
 clear h
 replace H:=Option.bind_eq_some_iff.mp H
 obtain⟨⟨au,aw,av,aC⟩,A40,H⟩:=H
 replace H:(if aC=0 then((spec_l05Right.f k au aw av).bind fun aM=>(some (aM.1,aM.2))) else(some (([]:List (S93)),aC)))=some (r1,r2):=H
 have A4:=q_ A40
 clear A40
 by_cases c5:aC=0
 ·rw [if_pos c5] at H
  have c5b0:(aC==0)=true:=beq_iff_eq.mpr c5
  have c5b1:(aC !=0)=false:=bne_eq_false_iff_eq.mpr c5
  clear c5
  replace H:=Option.bind_eq_some_iff.mp H
  obtain⟨⟨bg,bh⟩,A60,H⟩:=H
  replace H:(some (bg,bh))=some (r1,r2):=H
  have A6:=q_ A60
  clear A60
  simp only [Option.some.injEq,Prod.mk.injEq] at H
  obtain⟨rfl,rfl⟩:=H
  go_enter Try.func10,Try.ntmps10
  go_wp2_with (first | ((with_reducible refine gate_dst (N:=3) rfl ?_);refine box_event ?hg (N:=3) ?hd (cs:= #[.slice ax ah.length ay, .slice az ai.length aA]) (t:=30) ?hr ?_;(case hd=>rfl);(case hg=>rfl);(case hr=>first | (go_simp;done) | (go_simp;rfl));intro ag hg w7 hbox hb;have ae:=q_ (hbox);have bi:=q_ ((by rw [hg];exact bz_:w.heap.size≤ag));have bk:=q_ ((by rw [hg];exact bz_:w.heap.size≤ag));replace HB:=q_ (bs_ hb);clear hb hbox hg;have bU:w7.cell? ⟨ag,0,none⟩=some (.slice ax ah.length ay):=(blk_cell ae.out 0).trans rfl;have bV:w7.cell? ⟨ag,1,none⟩=some (.slice az ai.length aA):=(blk_cell ae.out 1).trans rfl;have bW:=blk_frozen ae.out 0;have bX:=blk_frozen ae.out 1) | ((with_reducible refine gate_callee (f:=85) rfl ?_);refine gL_ 16 Try.func85 #[.agg #[.slice ax ah.length ay, .slice az ai.length aA], .slice A1 l1.length c1, .int .i64 a2] ?_;(with_reducible refine(spec_l05After.calls k _ _ ah _ _ ai _ _ l1 a2 au aw av aC _ ?aN ?aT ?aU ?aV ?aW ?aX A4.out).mono ?_);(case aN=>exact cb_ HR0_0.out HB.out);(case aT=>exact HC0_0.out);(case aU=>exact cb_ HR0_1.out HB.out);(case aV=>exact HC0_1.out);(case aW=>exact cb_ HR1.out HB.out);(case aX=>exact HC1.out);rintro e w9 ⟨bv,bw,rfl,ho0,ho1,hb⟩;refine⟨_,rfl,?_⟩;have ak:=q_ (Kd.S_lower ho0 bz_);have aq:=q_ (Kd.R_lower ho1 bz_);replace ae:=q_ (bb_ ae.out hb);replace HB:=q_ (bs_ hb);(try clear hb);(try clear hb2);(try clear hk);(try clear hi);(try clear ho0);(try clear ho1)) | ((with_reducible refine gate_dst (N:=8) rfl ?_);refine box_event ?hg (N:=8) ?hd (cs:= #[.slice none 0 0, .int .i64 0, .slice none 0 0]) (t:=100) ?hr ?_;(case hd=>rfl);(case hg=>rfl);(case hr=>first | (go_simp;done) | (go_simp;rfl));intro aa hg w10 hbox hb;replace ak:=q_ (Kd.S_below (so_ ak.out) hb);replace aq:=q_ (rb_ aq.out hb);have af:=q_ (hbox);have bn:=q_ ((by rw [hg];exact bz_:w.heap.size≤aa));have bq:=q_ ((by rw [hg];exact bz_:w.heap.size≤aa));have aj:=q_ ((by rw [hg];exact lt_ ae.out:ag≠aa));have aG:=q_ ((by rw [hg];exact gt_ ae.out:aa≠ag));replace ae:=q_ (bb_ ae.out hb);replace HB:=q_ (bs_ hb);clear hb hbox hg;obtain⟨aH,aD,bz⟩:=Kd.S_slice ak.out;subst bz;have bY:=aG.out;have bZ:=aj.out;have bD:w10.cell? ⟨aa,0,none⟩=some (.slice none 0 0):=(blk_cell af.out 0).trans rfl;have bE:w10.cell? ⟨aa,1,none⟩=some (.int .i64 0):=(blk_cell af.out 1).trans rfl;have bF:w10.cell? ⟨aa,2,none⟩=some (.slice none 0 0):=(blk_cell af.out 2).trans rfl;have bG:=blk_frozen af.out 0;have bH:=blk_frozen af.out 1;have bI:=blk_frozen af.out 2;obtain⟨aJ,aI,bA⟩:=Kd.R_slice aq.out;subst bA) | ((with_reducible refine gate_callee (f:=86) rfl ?_);refine gL_ 24 Try.func86 #[.agg #[.slice aH au.length aD, .int .i64 aw, .slice aJ av.length aI]] ?_;(with_reducible refine(spec_l05Right.calls k _ _ au aw _ _ av bg bh _ ?aN ?aT ?aU ?aV A6.out).mono ?_);(case aN=>refine(Kd.S_reads' (e:=23) (base:=w.heap.size) (ok:=fun k_=>some k_≠(.slice aJ av.length aI:Value).ownBlock) (n:=au.length) (c:=aD) ?_).2.2;exact(by(with_reducible repeat (first | apply Kd.S_alloc | apply Kd.S_drewN | apply Kd.S_drew));exact(Kd.S_mono (Kd.S_far (p:=⟨aa,2,none⟩) (Kd.S_far (p:=⟨aa,1,none⟩) (Kd.S_far (p:=⟨aa,0,none⟩) (Kd.S_types ak.out af.out (by decide)) (fun _ hk=>hk.2) (.slice aH au.length aD)) (fun _ hk=>hk.2) (.int .i64 aw)) (fun _ hk=>hk.2) (.slice aJ av.length aI)) (fun _ h_=>h_.1))));(case aT=>exact(Kd.S_reads' ak.out).2.1);(case aU=>refine(Kd.R_reads' (e:=2) (base:=w.heap.size) (ok:=fun k_=>True) (n:=av.length) (c:=aI) ?_).2.2;exact(by(with_reducible repeat (first | apply Kd.R_alloc | apply Kd.R_drewN | apply Kd.R_drew));exact(Kd.R_mono (Kd.R_far (p:=⟨aa,2,none⟩) (Kd.R_far (p:=⟨aa,1,none⟩) (Kd.R_far (p:=⟨aa,0,none⟩) (Kd.R_types aq.out af.out (by decide)) (fun _ hk=>hk.2) (.slice aH au.length aD)) (fun _ hk=>hk.2) (.int .i64 aw)) (fun _ hk=>hk.2) (.slice aJ av.length aI)) (fun _ h_=>h_.1))));(case aV=>exact(Kd.R_reads' aq.out).2.1);rintro e w15 ⟨co,rfl,ho0,hb⟩;refine⟨_,rfl,?_⟩;replace ak:=q_ (Kd.S_below (by(with_reducible repeat (first | apply Kd.S_alloc | apply Kd.S_drewN | apply Kd.S_drew));exact(Kd.S_mono (Kd.S_far (p:=⟨aa,2,none⟩) (Kd.S_far (p:=⟨aa,1,none⟩) (Kd.S_far (p:=⟨aa,0,none⟩) (Kd.S_types ak.out af.out (by decide)) (fun _ hk=>hk.2) (.slice aH au.length aD)) (fun _ hk=>hk.2) (.int .i64 aw)) (fun _ hk=>hk.2) (.slice aJ av.length aI)) (fun _ h_=>h_.1))) hb);replace aq:=q_ (Kd.R_below (by(with_reducible repeat (first | apply Kd.R_alloc | apply Kd.R_drewN | apply Kd.R_drew));exact(Kd.R_mono (Kd.R_far (p:=⟨aa,2,none⟩) (Kd.R_far (p:=⟨aa,1,none⟩) (Kd.R_far (p:=⟨aa,0,none⟩) (Kd.R_types aq.out af.out (by decide)) (fun _ hk=>hk.2) (.slice aH au.length aD)) (fun _ hk=>hk.2) (.int .i64 aw)) (fun _ hk=>hk.2) (.slice aJ av.length aI)) (fun _ h_=>h_.1))) hb);have bu:=q_ (Kd.R_lower ho0 bz_);replace ae:=q_ (blk_below (g:=ag) (o:= .cells #[.slice ax ah.length ay, .slice az ai.length aA] 30 (0,0)) (by(with_reducible repeat (first | refine blk_drewN ?_ _ | refine blk_drew ?_ | refine blk_alloc ?_ _));refine blk_far ?_ aj.out _;(with_reducible repeat (first | refine blk_drewN ?_ _ | refine blk_drew ?_ | refine blk_alloc ?_ _));refine blk_far ?_ aj.out _;(with_reducible repeat (first | refine blk_drewN ?_ _ | refine blk_drew ?_ | refine blk_alloc ?_ _));refine blk_far ?_ aj.out _;(with_reducible repeat (first | refine blk_drewN ?_ _ | refine blk_drew ?_ | refine blk_alloc ?_ _));exact ae.out) hb);replace af:=q_ (blk_below (g:=aa) (o:= .cells #[.slice aH au.length aD, .int .i64 aw, .slice aJ av.length aI] 100 (0,0)) (by(with_reducible repeat (first | refine blk_drewN ?_ _ | refine blk_drew ?_ | refine blk_alloc ?_ _));refine blk_put (cs:= #[.slice aH au.length aD, .int .i64 aw, .slice none 0 0]) ?_ 2 _ rfl;(with_reducible repeat (first | refine blk_drewN ?_ _ | refine blk_drew ?_ | refine blk_alloc ?_ _));refine blk_put (cs:= #[.slice aH au.length aD, .int .i64 0, .slice none 0 0]) ?_ 1 _ rfl;(with_reducible repeat (first | refine blk_drewN ?_ _ | refine blk_drew ?_ | refine blk_alloc ?_ _));refine blk_put (cs:= #[.slice none 0 0, .int .i64 0, .slice none 0 0]) ?_ 0 _ rfl;(with_reducible repeat (first | refine blk_drewN ?_ _ | refine blk_drew ?_ | refine blk_alloc ?_ _));exact af.out) hb);replace HB:=q_ (bs_ hb);(try clear hb);(try clear hb2);(try clear hk);(try clear hi);(try clear ho0)))
  go_ret2
  exact⟨_,by first | rfl | (simp [errW_none,errW_some] <;> rfl) | (simp [*,errW_none,errW_some] <;> rfl),ro_ bu.out,hb_⟩
 ·rw [if_neg c5] at H
  have c5b0:(aC==0)=false:=beq_eq_false_iff_ne.mpr c5
  have c5b1:(aC !=0)=true:=bne_iff_ne.mpr c5
  simp only [Option.some.injEq,Prod.mk.injEq] at H
  obtain⟨rfl,rfl⟩:=H
  go_enter Try.func10,Try.ntmps10
  go_wp2_with (first | ((with_reducible refine gate_dst (N:=3) rfl ?_);refine box_event ?hg (N:=3) ?hd (cs:= #[.slice ax ah.length ay, .slice az ai.length aA]) (t:=30) ?hr ?_;(case hd=>rfl);(case hg=>rfl);(case hr=>first | (go_simp;done) | (go_simp;rfl));intro ag hg w16 hbox hb;have ae:=q_ (hbox);have bi:=q_ ((by rw [hg];exact bz_:w.heap.size≤ag));have bk:=q_ ((by rw [hg];exact bz_:w.heap.size≤ag));replace HB:=q_ (bs_ hb);clear hb hbox hg;have bJ:w16.cell? ⟨ag,0,none⟩=some (.slice ax ah.length ay):=(blk_cell ae.out 0).trans rfl;have bK:w16.cell? ⟨ag,1,none⟩=some (.slice az ai.length aA):=(blk_cell ae.out 1).trans rfl;have bL:=blk_frozen ae.out 0;have bM:=blk_frozen ae.out 1) | ((with_reducible refine gate_callee (f:=85) rfl ?_);refine gL_ 16 Try.func85 #[.agg #[.slice ax ah.length ay, .slice az ai.length aA], .slice A1 l1.length c1, .int .i64 a2] ?_;(with_reducible refine(spec_l05After.calls k _ _ ah _ _ ai _ _ l1 a2 au aw av aC _ ?aN ?aT ?aU ?aV ?aW ?aX A4.out).mono ?_);(case aN=>exact cb_ HR0_0.out HB.out);(case aT=>exact HC0_0.out);(case aU=>exact cb_ HR0_1.out HB.out);(case aV=>exact HC0_1.out);(case aW=>exact cb_ HR1.out HB.out);(case aX=>exact HC1.out);rintro e w18 ⟨bv,bw,rfl,ho0,ho1,hb⟩;refine⟨_,rfl,?_⟩;have ak:=q_ (Kd.S_lower ho0 bz_);have aq:=q_ (Kd.R_lower ho1 bz_);replace ae:=q_ (bb_ ae.out hb);replace HB:=q_ (bs_ hb);(try clear hb);(try clear hb2);(try clear hk);(try clear hi);(try clear ho0);(try clear ho1)) | ((with_reducible refine gate_dst (N:=8) rfl ?_);refine box_event ?hg (N:=8) ?hd (cs:= #[.slice none 0 0, .int .i64 0, .slice none 0 0]) (t:=100) ?hr ?_;(case hd=>rfl);(case hg=>rfl);(case hr=>first | (go_simp;done) | (go_simp;rfl));intro aa hg w19 hbox hb;replace ak:=q_ (Kd.S_below (so_ ak.out) hb);replace aq:=q_ (rb_ aq.out hb);have af:=q_ (hbox);have bn:=q_ ((by rw [hg];exact bz_:w.heap.size≤aa));have bq:=q_ ((by rw [hg];exact bz_:w.heap.size≤aa));have aj:=q_ ((by rw [hg];exact lt_ ae.out:ag≠aa));have aG:=q_ ((by rw [hg];exact gt_ ae.out:aa≠ag));replace ae:=q_ (bb_ ae.out hb);replace HB:=q_ (bs_ hb);clear hb hbox hg;obtain⟨cq,ct,bB⟩:=Kd.S_slice ak.out;subst bB;have cm:=aG.out;have cn:=aj.out;have bN:w19.cell? ⟨aa,0,none⟩=some (.slice none 0 0):=(blk_cell af.out 0).trans rfl;have bO:w19.cell? ⟨aa,1,none⟩=some (.int .i64 0):=(blk_cell af.out 1).trans rfl;have bP:w19.cell? ⟨aa,2,none⟩=some (.slice none 0 0):=(blk_cell af.out 2).trans rfl;have bQ:=blk_frozen af.out 0;have bS:=blk_frozen af.out 1;have bT:=blk_frozen af.out 2;obtain⟨cz,cA,bC⟩:=Kd.R_slice aq.out;subst bC))
  go_ret2
  exact⟨_,by first | rfl | (simp [errW_none,errW_some] <;> rfl) | (simp [*,errW_none,errW_some] <;> rfl),by first | exact Kd.R_nil _ _ _ _ _ | exact Kd.N_nil _ _ _ _ _ | exact Kd.V_nil _ _ _ _ _ | exact Kd.Q_nil _ _ _ _ _ | exact Kd.S_nil _ _ _ _ _,hb_⟩
end Go.Proofs.Ytmpkckiifeikkaa.Pr
end
section
namespace Go.Proofs.Ytmpkckiifeikkaa.Lsa
open Go.RowKit Go.Proofs.YtmpkckiifeikkaaW.PrintWords Go.Proofs.YtmpkckiifeikkaaW.PrintMore Go.Proofs.Ytmpkckiifeikkaa.Ma Go.Proofs.Ytmpkckiifeikkaa.Pr Go.Proofs.Ytmpkckiifeikkaa.Dt Go.Proofs.Ytmpkckiifeikkaa.Lk Go.Proofs.Ytmpkckiifeikkaa.Lt Go.Proofs.Ytmpkckiifeikkaa.Lq Go.Proofs.Ytmpkckiifeikkaa.Lp Go.Proofs.Ytmpkckiifeikkaa.Fr
theorem spec_right {n m:Nat} {s:TS} (hm:m=2*n+2) (hn:n≤5) (hT: ∀a c,a < n→c < m→Bnd (s.T a c)) (hd:0 < s.den) (hd2:s.den≤1920000000):Ev (fun k=>spec_l05Right.f k (rowsM n m s.T) s.den s.bs) (outL (fun i=>redV (s.T i (2*n+1)) s.den) n 0 []):=by
 have hbd:Big s.den:=⟨by omega,by omega⟩
 have big: ∀i,i < n→Big (s.T i (2*n+1)):=fun i hi=>by
  have:=hT i (2*n+1) hi (by omega)
  unfold Bnd at this
  exact⟨by omega,by omega⟩
 have loop: ∀q x acc,x+q=n→acc.length≤x→Ev (fun k=>spec_l05Right.l0 k acc (x:Int) (rowsM n m s.T) s.den s.bs) (outL (fun i=>redV (s.T i (2*n+1)) s.den) q x acc):=by
  intro q
  induction q with
  | zero=>
   intro x acc h1 h2
   refine evstep (fun k=>by rw [spec_l05Right.l0]) ?_
   exact evneg (by rw [rowsM_len];omega) (evc rfl)
  | succ q ih=>
   intro x acc h1 h2
   refine evstep (fun k=>by rw [spec_l05Right.l0]) ?_
   refine evpos (by rw [rowsM_len];omega) (evpos (by omega) ?_)
   rw [at_rows (show x < n by omega),rowN_len,w64 (x:=((m:Nat):Int) - 1) (by omega) (by omega),show ((m:Nat):Int) - 1=((2*n+1:Nat):Int) from by omega,at_num (by omega),w64 (x:=(x:Int)+1) (by omega) (by omega)]
   refine evpos (by omega) (evpos (by omega) (evbind (sfrac_eq _ _ (big x (by omega)) hbd hd) (evbind (told_eq _ _) ?_)))
   unfold outL
   by_cases c:(redV (s.T x (2*n+1)) s.den).2.2=0
   ·rw [if_pos c]
    exact evpos c (evpos (by omega) (ih (x+1) _ (by omega) (by simp;omega)))
   ·rw [if_neg c]
    exact evneg c (evc rfl)
 exact loop n 0 [] (by omega) (Nat.le_refl _)
theorem rights_both (M:List (List Int)) (Q cv:List Int) (a:Int) (hQ:Q.length≤1048576) (hcv:cv.length≤1048576): ∃R:List S93 × Int,Ev (fun k=>spec_RightAfter.f k M Q cv a) R∧Ev (fun k=>impl_RightAfter.f k M Q cv a) R∧R.1.length≤5:=by
 unfold spec_RightAfter.f impl_RightAfter.f raF
 by_cases c:afC M Q cv a=0
 ·have hpc:=lkCode_pc (afC_lk c).1
  have hok:=(lkR_ok hpc a.toNat).1
  have hA:=first_small (n:=Q.length) (M:=enL M) (cv:=fun i=>cv.getD i 0) (q:=fun i=>Q.getD i 0) hpc.Mb (fun i hi=>by have:=hpc.cb i hi;omega) hpc.qb
  have hT: ∀i j,i < Q.length→j < 2*Q.length+2→Bnd ((lkR M Q cv a.toNat).1.T i j):=fun i j hi hj=>hok.abs hpc.le hA hi hj
  have hden:=hok.den_le hpc.le hA
  have h5:=hpc.le
  have e:afE M Q cv a=(rowsM Q.length (2*Q.length+2) (lkR M Q cv a.toNat).1.T,(lkR M Q cv a.toNat).1.den,(lkR M Q cv a.toNat).1.bs,0):=if_pos c
  generalize (lkR M Q cv a.toNat).1=s at hT hden e
  refine⟨outL (fun x=>redV ((rgL s Q.length Q.length).getD x 0) s.den) (rgL s Q.length Q.length).length 0 [],evbind (after_eq M Q cv a hQ hcv) ?_,evpos c ?_,?_⟩
  rotate_left 1
  ·have h:=all_red (rgL s Q.length Q.length) s.den (by rw [rgL_len];omega) hden.1 ⟨by omega,by omega⟩ (fun i hi=>by
    rw [rgL_len] at hi
    rw [rgL_at _ _ _ _ hi]
    have:=hT i (2*Q.length+1) hi (by omega)
    unfold Bnd at this
    exact⟨by omega,by omega⟩)
   exact h
  ·have:=outL_len (fun x=>redV ((rgL s Q.length Q.length).getD x 0) s.den) (rgL s Q.length Q.length).length 0 []
   rw [rgL_len] at this
   simp at this ⊢
   rw [rgL_len]
   omega
  ·rw [e]
   refine evpos rfl (evbind (spec_right rfl h5 hT hden.1 hden.2) (evc ?_))
   rw [rgL_len]
   have key: ∀q x acc,x+q≤Q.length→outL (fun i=>redV (s.T i (2*Q.length+1)) s.den) q x acc=outL (fun x=>redV ((rgL s Q.length Q.length).getD x 0) s.den) q x acc:=by
    intro q
    induction q with
    | zero=>intro x acc _;rfl
    | succ q ih=>
     intro x acc hx
     unfold outL
     rw [rgL_at s Q.length Q.length x (by omega),ih (x+1) _ (by omega)]
   rw [key Q.length 0 [] (by omega)]
 ·refine⟨([],afC M Q cv a),evbind (after_eq M Q cv a hQ hcv) ?_,evneg c (evc rfl),by simp⟩
  have e:afE M Q cv a=([],0, [],afC M Q cv a):=if_neg c
  rw [e]
  exact evneg c (evc rfl)
end Go.Proofs.Ytmpkckiifeikkaa.Lsa
end
section
namespace Go.Proofs.Ytmpkckiifeikkaa.Lhd
open Go.Proofs.Ytmpkckiifeikkaa.Dt
def hi (n:Nat) (w:Nat→Int):Nat→Int:=fun j=>w (2 ^ n+j)
def nx (v:Nat→Int):Nat→Int:=fun j=>v (j+1)
def eps:Nat→(Nat→Int)→(Nat→Int)→Nat→Int
 | 0,_,_=>fun _=>0
 | n+1,v,w=>fun i=>if i < 2 ^ n then eps n (nx v) w i else v 0*w (i - 2 ^ n) - eps n (nx v) (hi n w) (i - 2 ^ n)
def iot:Nat→(Nat→Int)→(Nat→Int)→Nat→Int
 | 0,_,_=>fun _=>0
 | n+1,v,w=>fun i=>if i < 2 ^ n then iot n (nx v) w i+v 0*w (2 ^ n+i) else - iot n (nx v) (hi n w) (i - 2 ^ n)
def ip (n:Nat) (w z:Nat→Int):Int:=sm (2 ^ n) (fun i=>w i*z i)
def qq (n:Nat) (v:Nat→Int):Int:=sm n (fun i=>v i*v i)
theorem eps_lo {n i:Nat} (v w:Nat→Int) (h:i < 2 ^ n):eps (n+1) v w i=eps n (nx v) w i:=if_pos h
theorem eps_hi (n i:Nat) (v w:Nat→Int):eps (n+1) v w (2 ^ n+i)=v 0*w i - eps n (nx v) (hi n w) i:=by
 show (if _ then _ else _)=_
 rw [if_neg (by omega),Nat.add_sub_cancel_left]
theorem iot_lo {n i:Nat} (v w:Nat→Int) (h:i < 2 ^ n):iot (n+1) v w i=iot n (nx v) w i+v 0*w (2 ^ n+i):=if_pos h
theorem iot_hi (n i:Nat) (v w:Nat→Int):iot (n+1) v w (2 ^ n+i)= - iot n (nx v) (hi n w) i:=by
 show (if _ then _ else _)=_
 rw [if_neg (by omega),Nat.add_sub_cancel_left]
theorem ip_two (n:Nat) (w z:Nat→Int):ip (n+1) w z=ip n w z+ip n (hi n w) (hi n z):=by
 unfold ip;rw [Nat.pow_succ,Nat.mul_two,sm_split];rfl
theorem ip_congr {n:Nat} {w w' z z':Nat→Int} (h: ∀i,i < 2 ^ n→w i=w' i∧z i=z' i):ip n w z=ip n w' z':=sm_congr (fun i hi=>by rw [(h i hi).1,(h i hi).2])
theorem ip_comm (n:Nat) (w z:Nat→Int):ip n w z=ip n z w:=sm_congr (fun _ _=>Int.mul_comm _ _)
theorem ip_lin (n:Nat) (c d:Int) (a b z:Nat→Int):ip n (fun i=>c*a i+d*b i) z=c*ip n a z+d*ip n b z:=by
 unfold ip
 rw [← sm_mul, ← sm_mul, ← sm_add]
 exact sm_congr (fun i _=>by grind)
theorem ip_eps (n:Nat) (v w z:Nat→Int):ip (n+1) (eps (n+1) v w) z=ip n (eps n (nx v) w) z+(v 0*ip n w (hi n z) - ip n (eps n (nx v) (hi n w)) (hi n z)):=by
 rw [ip_two,ip_congr (w:=eps (n+1) v w) (w':=eps n (nx v) w) (z:=z) (z':=z) (fun i hi=>⟨eps_lo v w hi,rfl⟩),
  ip_congr (w:=hi n (eps (n+1) v w)) (w':=fun i=>v 0*w i+ -1*eps n (nx v) (hi n w) i) (z:=hi n z) (z':=hi n z) (fun i _=>⟨by show eps (n+1) v w (2 ^ n+i)=_;rw [eps_hi];omega,rfl⟩),ip_lin]
 omega
theorem ip_iot (n:Nat) (v w z:Nat→Int):ip (n+1) (iot (n+1) v w) z=ip n (iot n (nx v) w) z+v 0*ip n (hi n w) z - ip n (iot n (nx v) (hi n w)) (hi n z):=by
 rw [ip_two,ip_congr (w:=iot (n+1) v w) (w':=fun i=>1*iot n (nx v) w i+v 0*hi n w i) (z:=z) (z':=z) (fun i hi=>⟨by rw [iot_lo v w hi,Int.one_mul];rfl,rfl⟩),
  ip_congr (w:=hi n (iot (n+1) v w)) (w':=fun i=>0*w i+ -1*iot n (nx v) (hi n w) i) (z:=hi n z) (z':=hi n z) (fun i _=>⟨by show iot (n+1) v w (2 ^ n+i)=_;rw [iot_hi];omega,rfl⟩),ip_lin,ip_lin]
 omega
theorem adj (n:Nat): ∀(v w z:Nat→Int),ip n (eps n v w) z=ip n (iot n v z) w:=by
 induction n with
 | zero=>intro v w z;simp [ip,eps,iot,sm]
 | succ n ih=>
  intro v w z
  rw [ip_eps,ip_iot,ih (nx v) w z,ih (nx v) (hi n w) (hi n z),ip_comm n w (hi n z)]
  omega
theorem norms (n:Nat): ∀(v w:Nat→Int),ip n (eps n v w) (eps n v w)+ip n (iot n v w) (iot n v w)=qq n v*ip n w w:=by
 induction n with
 | zero=>intro v w;simp [ip,eps,iot,sm,qq]
 | succ n ih=>
  intro v w
  have q1:qq (n+1) v=v 0*v 0+qq n (nx v):=by unfold qq;rw [sm_first];rfl
  have h1:=ih (nx v) w
  have h2:=ih (nx v) (hi n w)
  have e1:ip n (eps n (nx v) w) (eps (n+1) v w)=ip n (eps n (nx v) w) (eps n (nx v) w):=ip_congr (fun _ hi=>⟨rfl,eps_lo v w hi⟩)
  have e2: ∀z,ip n z (hi n (eps (n+1) v w))=v 0*ip n w z - ip n (eps n (nx v) (hi n w)) z:=fun z=>by
   rw [ip_comm,ip_congr (w:=hi n (eps (n+1) v w)) (w':=fun i=>v 0*w i+ -1*eps n (nx v) (hi n w) i) (z:=z) (z':=z) (fun i _=>⟨by show eps (n+1) v w (2 ^ n+i)=_;rw [eps_hi];omega,rfl⟩),ip_lin]
   omega
  have f1: ∀z,ip n z (iot (n+1) v w)=ip n (iot n (nx v) w) z+v 0*ip n (hi n w) z:=fun z=>by
   rw [ip_comm,ip_congr (w:=iot (n+1) v w) (w':=fun i=>1*iot n (nx v) w i+v 0*hi n w i) (z:=z) (z':=z) (fun i hi=>⟨by rw [iot_lo v w hi,Int.one_mul];rfl,rfl⟩),ip_lin]
   omega
  have f2: ∀z,ip n z (hi n (iot (n+1) v w))= - ip n (iot n (nx v) (hi n w)) z:=fun z=>by
   rw [ip_comm,ip_congr (w:=hi n (iot (n+1) v w)) (w':=fun i=>0*w i+ -1*iot n (nx v) (hi n w) i) (z:=z) (z':=z) (fun i _=>⟨by show iot (n+1) v w (2 ^ n+i)=_;rw [iot_hi];omega,rfl⟩),ip_lin]
   omega
  have a1:ip n (eps n (nx v) (hi n w)) w=ip n (iot n (nx v) w) (hi n w):=adj n _ _ _
  rw [ip_eps,ip_iot,e1,e2,e2,f1,f1,f2,ip_two,q1]
  have c1:=ip_comm n w (eps n (nx v) (hi n w))
  have c2:=ip_comm n (hi n w) (iot n (nx v) w)
  grind
theorem sq_nn (x:Int):0≤x*x:=by
 rcases Int.le_total 0 x with h | h
 ·exact Int.mul_nonneg h h
 ·exact Int.mul_nonneg_of_nonpos_of_nonpos h h
theorem sm_nn {m:Nat} {f:Nat→Int} (h: ∀i,0≤f i):0≤sm m f∧ ∀i,i < m→f i≤sm m f:=by
 induction m with
 | zero=>exact⟨Int.le_refl _,fun i hi=>absurd hi (by omega)⟩
 | succ m ih=>
  have e:sm (m+1) f=sm m f+f m:=rfl
  have h2:=h m
  refine⟨by omega,fun i hi=>?_⟩
  by_cases c:i=m
  ·subst c;omega
  ·have:=ih.2 i (by omega)
   omega
def wd (n:Nat):Nat→(Nat→Nat→Int)→Nat→Int
 | 0,_=>fun i=>if i=0 then 1 else 0
 | m+1,C=>eps n (C 0) (wd n m (fun j=>C (j+1)))
def pr (f:Nat→Int):Nat→Int
 | 0=>1
 | m+1=>f 0*pr (fun j=>f (j+1)) m
theorem eps_congr {n:Nat}: ∀ {v w w':Nat→Int},(∀i,i < 2 ^ n→w i=w' i)→ ∀i,i < 2 ^ n→eps n v w i=eps n v w' i:=by
 induction n with
 | zero=>intro v w w' _ i _;rfl
 | succ n ih=>
  intro v w w' h i hi
  rw [Nat.pow_succ,Nat.mul_two] at hi h
  by_cases c:i < 2 ^ n
  ·rw [eps_lo v w c,eps_lo v w' c]
   exact ih (fun j hj=>h j (by omega)) i c
  ·obtain⟨j,rfl⟩: ∃j,i=2 ^ n+j:=⟨i - 2 ^ n,by omega⟩
   rw [eps_hi,eps_hi,h j (by omega),ih (w:=Lhd.hi n w) (w':=Lhd.hi n w') (fun k hk=>h (2 ^ n+k) (by omega)) j (by omega)]
theorem eps_sum {n m:Nat} (c:Nat→Int): ∀(v:Nat→Int) (w:Nat→Nat→Int) (i:Nat),eps n v (fun i=>sm m (fun k=>c k*w k i)) i=sm m (fun k=>c k*eps n v (w k) i):=by
 induction n with
 | zero=>intro v w i;exact(sm_none (fun k _=>Int.mul_zero _)).symm
 | succ n ih=>
  intro v w i
  by_cases d:i < 2 ^ n
  ·rw [eps_lo _ _ d,ih]
   exact sm_congr (fun k _=>by rw [eps_lo _ _ d])
  ·obtain⟨j,rfl⟩: ∃j,i=2 ^ n+j:=⟨i - 2 ^ n,by omega⟩
   rw [eps_hi]
   have e:=ih (nx v) (fun k=>hi n (w k)) j
   have e2:eps n (nx v) (hi n (fun i=>sm m (fun k=>c k*w k i))) j=sm m (fun k=>c k*eps n (nx v) (hi n (w k)) j):=e
   rw [e2,sm_congr (f:=fun k=>c k*eps (n+1) v (w k) (2 ^ n+j)) (g:=fun k=>v 0*(c k*w k j)+ -1*(c k*eps n (nx v) (hi n (w k)) j)) (fun k _=>by rw [eps_hi];grind),sm_add,sm_mul,sm_mul]
   omega
theorem wd_lo {n m:Nat}: ∀ {C:Nat→Nat→Int} {i:Nat},i < 2 ^ n→wd (n+1) m C i=wd n m (fun j=>nx (C j)) i:=by
 induction m with
 | zero=>intro C i _;rfl
 | succ m ih=>
  intro C i h
  show eps (n+1) (C 0) (wd (n+1) m (fun j=>C (j+1))) i=eps n (nx (C 0)) (wd n m (fun j=>nx (C (j+1)))) i
  rw [eps_lo _ _ h]
  exact eps_congr (fun j hj=>ih hj) i h
theorem wd_hi {n m:Nat}: ∀ {C:Nat→Nat→Int} {i:Nat},i < 2 ^ n→wd (n+1) m C (2 ^ n+i)=sm m (fun k=>(sg k*C k 0)*wd n (m - 1) (fun j=>nx (C (up k j))) i):=by
 induction m with
 | zero=>
  intro C i h
  show (if 2 ^ n+i=0 then(1:Int) else 0)=0
  rw [if_neg (by omega)]
 | succ m ih=>
  intro C i h
  show eps (n+1) (C 0) (wd (n+1) m (fun j=>C (j+1))) (2 ^ n+i)=_
  rw [eps_hi,wd_lo h,sm_first]
  rw [eps_congr (w:=hi n (wd (n+1) m (fun j=>C (j+1)))) (w':=fun i=>sm m (fun k=>(sg k*C (k+1) 0)*wd n (m - 1) (fun j=>nx (C (up k j+1))) i)) (fun j hj=>ih hj) i h,eps_sum]
  have e0:(fun j=>nx (C (up 0 j)))=fun j=>nx (C (j+1)):=by
   funext j;unfold up;rw [if_neg (by omega)]
  have es:sm m (fun k=>sg (k+1)*C (k+1) 0*wd n (m+1 - 1) (fun j=>nx (C (up (k+1) j))) i)=sm m (fun k=> -1*(sg k*C (k+1) 0*eps n (nx (C 0)) (wd n (m - 1) (fun j=>nx (C (up k j+1)))) i)):=by
   refine sm_congr (fun k hk=>?_)
   obtain⟨p,rfl⟩: ∃p,m=p+1:=⟨m - 1,by omega⟩
   have e1:wd n (p+1+1 - 1) (fun j=>nx (C (up (k+1) j)))=eps n (nx (C 0)) (wd n (p+1 - 1) (fun j=>nx (C (up k j+1)))):=by
    show eps n (nx (C (up (k+1) 0))) (wd n p (fun j=>nx (C (up (k+1) (j+1)))))=eps n (nx (C 0)) (wd n p (fun j=>nx (C (up k j+1))))
    have:up (k+1) 0=0:=by unfold up;rw [if_pos (by omega)]
    have h2: ∀j,up (k+1) (j+1)=up k j+1:=fun j=>by unfold up;split <;> split <;> omega
    rw [this]
    simp only [h2]
   rw [e1,sg_succ]
   grind
  rw [es,sm_mul,e0]
  have:sg 0=1:=rfl
  rw [this]
  show C 0 0*wd n m (fun j=>nx (C (j+1))) i - _=1*C 0 0*wd n m (fun j=>nx (C (j+1))) i+_
  rw [Int.one_mul]
  omega
theorem top_det: ∀(n:Nat) (C:Nat→Nat→Int),wd n n C (2 ^ n - 1)=det n (fun i j=>C j i):=by
 intro n
 induction n with
 | zero=>intro C;rfl
 | succ n ih=>
  intro C
  have h:=Nat.pow_pos (n:=n) (show 0 < 2 by omega)
  have e:2 ^ (n+1) - 1=2 ^ n+(2 ^ n - 1):=by rw [Nat.pow_succ];omega
  rw [e,wd_hi (by omega),det_succ]
  refine sm_congr (fun k _=>?_)
  rw [show n+1 - 1=n from rfl,ih,Int.mul_assoc]
  rfl
theorem pr_nn {f:Nat→Int} (h: ∀i,0≤f i): ∀m,0≤pr f m:=by
 intro m
 induction m generalizing f with
 | zero=>exact(by decide:(0:Int)≤1)
 | succ m ih=>exact Int.mul_nonneg (h 0) (ih (fun i=>h (i+1)))
theorem wd_norm (n:Nat): ∀(m:Nat) (C:Nat→Nat→Int),ip n (wd n m C) (wd n m C)≤pr (fun j=>qq n (C j)) m:=by
 intro m
 induction m with
 | zero=>
  intro C
  have h:=Nat.pow_pos (n:=n) (show 0 < 2 by omega)
  show sm (2 ^ n) (fun i=>(if i=0 then(1:Int) else 0)*(if i=0 then 1 else 0))≤1
  rw [sm_one (k:=0) h (fun i _ hi=>by rw [if_neg hi];rfl)]
  decide
 | succ m ih=>
  intro C
  have h1:=norms n (C 0) (wd n m (fun j=>C (j+1)))
  have h2:0≤ip n (iot n (C 0) (wd n m (fun j=>C (j+1)))) (iot n (C 0) (wd n m (fun j=>C (j+1)))):=(sm_nn (fun i=>sq_nn _)).1
  have h3:0≤qq n (C 0):=(sm_nn (fun i=>sq_nn _)).1
  have h4:=Int.mul_le_mul_of_nonneg_left (ih (fun j=>C (j+1))) h3
  show ip n (eps n (C 0) (wd n m (fun j=>C (j+1)))) (eps n (C 0) (wd n m (fun j=>C (j+1))))≤qq n (C 0)*pr (fun j=>qq n (C (j+1))) m
  omega
theorem hadamard (n:Nat) (A:Mat):det n A*det n A≤pr (fun j=>qq n (fun i=>A i j)) n:=by
 have h:=Nat.pow_pos (n:=n) (show 0 < 2 by omega)
 have e:=top_det n (fun j i=>A i j)
 have h1:wd n n (fun j i=>A i j) (2 ^ n - 1)*wd n n (fun j i=>A i j) (2 ^ n - 1)≤ip n (wd n n (fun j i=>A i j)) (wd n n (fun j i=>A i j)):=(sm_nn (f:=fun i=>wd n n (fun j i=>A i j) i*wd n n (fun j i=>A i j) i) (fun i=>sq_nn _)).2 _ (by omega)
 rw [e] at h1
 exact Int.le_trans h1 (wd_norm n n _)
end Go.Proofs.Ytmpkckiifeikkaa.Lhd
end
section
namespace Go.Proofs.Ytmpkckiifeikkaa.Lhd
open Go.RowKit Go.Proofs.YtmpkckiifeikkaaW.PrintWords Go.Proofs.Ytmpkckiifeikkaa.Ma Go.Proofs.Ytmpkckiifeikkaa.Pr Go.Proofs.Ytmpkckiifeikkaa.Dt Go.Proofs.Ytmpkckiifeikkaa.Lk Go.Proofs.Ytmpkckiifeikkaa.Lt Go.Proofs.Ytmpkckiifeikkaa.Fr
theorem pr_le: ∀ {m:Nat} {f g:Nat→Int},(∀j,0≤f j)→(∀j,j < m→f j≤g j)→pr f m≤pr g m:=by
 intro m
 induction m with
 | zero=>intro f g _ _;exact Int.le_refl _
 | succ m ih=>
  intro f g h0 h
  have h1:=h 0 (by omega)
  exact Int.mul_le_mul h1 (ih (fun j=>h0 (j+1)) (fun j hj=>h (j+1) (by omega))) (pr_nn (fun j=>h0 (j+1)) m) (Int.le_trans (h0 0) h1)
theorem pr_top (n i:Nat) (hn:n≤5):pr (fun j=>if j=i then 50000 else 2000) n≤800000000000000000:=by
 have h: ∀n,n < 6→ ∀i,i < 6→pr (fun j=>if j=i then 50000 else 2000) n≤800000000000000000:=by decide
 by_cases c:i < 6
 ·exact h n (by omega) i c
 ·refine Int.le_trans (pr_le (g:=fun j=>if j=5 then 50000 else 2000) (fun j=>by split <;> decide) (fun j hj=>?_)) (h n (by omega) 5 (by omega))
  show (if j=i then(50000:Int) else 2000)≤if j=5 then 50000 else 2000
  rw [if_neg (by omega)]
  split <;> decide
theorem qq_le {n k:Nat} (hn:n≤5) {v:Nat→Int} (h: ∀i,i < n→(v i).natAbs≤k):qq n v≤5*((k:Int)*k):=by
 have sqk: ∀i,i < n→v i*v i≤(k:Int)*k:=fun i hi=>by
  have h1:=h i hi
  have h2:(v i).natAbs*(v i).natAbs≤k*k:=Nat.mul_le_mul h1 h1
  have h3:v i*v i=(((v i).natAbs*(v i).natAbs:Nat):Int):=Int.natAbs_mul_self.symm
  rw [h3]
  exact_mod_cast h2
 have hk:0≤(k:Int)*k:=sq_nn _
 have: ∀m,m≤n→qq m v≤(m:Int)*((k:Int)*k):=by
  intro m
  induction m with
  | zero=>intro _;show (0:Int)≤_;rw [Int.natCast_zero,Int.zero_mul];exact Int.le_refl _
  | succ m ih=>
   intro hm
   have h1:=ih (by omega)
   have h2:=sqk m (by omega)
   have e:qq (m+1) v=qq m v+v m*v m:=rfl
   rw [e,Int.natCast_succ,Int.add_mul,Int.one_mul]
   omega
 have h1:=this n (Nat.le_refl _)
 exact Int.le_trans h1 (Int.mul_le_mul_of_nonneg_right (by omega) hk)
theorem root {x:Int} (h:x*x≤800000000000000000): -894427191≤x∧x≤894427191:=by
 constructor
 ·apply Classical.byContradiction
  intro c
  have h2:894427192*894427192≤(-x)*(-x):=Int.mul_le_mul (by omega) (by omega) (by omega) (by omega)
  rw [Int.neg_mul_neg] at h2
  omega
 ·apply Classical.byContradiction
  intro c
  have h2:894427192*894427192≤x*x:=Int.mul_le_mul (by omega) (by omega) (by omega) (by omega)
  omega
theorem cd_root {n m:Nat} (hn:n≤5) {A:Mat} (hA:Small n m A) {bs:Nat→Nat} (hb: ∀j,j < n→bs j+1 < m) {i c:Nat} (hc:c < m): -894427191≤cd n A bs i c∧cd n A bs i c≤894427191:=by
 apply root
 refine Int.le_trans (hadamard n _) (Int.le_trans (pr_le (g:=fun j=>if j=i then 50000 else 2000) (fun j=>(sm_nn (fun _=>sq_nn _)).1) (fun j hj=>?_)) (pr_top n i hn))
 show qq n (fun k=>cset i (fun k=>A k c) (bas A bs) k j)≤if j=i then 50000 else 2000
 by_cases e:j=i
 ·rw [if_pos e]
  refine qq_le (k:=100) hn (fun a ha=>?_)
  show (cset i (fun k=>A k c) (bas A bs) a j).natAbs≤100
  unfold cset
  rw [if_pos e]
  show (A a c).natAbs≤100
  have:=hA a c ha hc
  split at this <;> omega
 ·rw [if_neg e]
  refine qq_le (k:=20) hn (fun a ha=>?_)
  show (cset i (fun k=>A k c) (bas A bs) a j).natAbs≤20
  unfold cset
  rw [if_neg e]
  have:=hA a (bs j) ha (by have:=hb j hj;omega)
  rw [if_neg (by have:=hb j hj;omega)] at this
  exact this
section
variable {n m:Nat} (hn:n≤5) {A:Mat} (hA:Small n m A) {s:TS} (h:Ok n m A s)
include hn hA h
theorem ok_root {i c:Nat} (hi:i < n) (hc:c < m): -894427191≤s.T i c∧s.T i c≤894427191:=by
 obtain⟨q,hq,_,hT⟩:=h.tab.num
 have:=cd_root hn hA h.lt (i:=i) hc
 rw [hT i c hi hc]
 rcases hq with rfl | rfl <;> omega
theorem ok_den:0 < s.den∧s.den≤894427191:=by
 obtain⟨q,hq,hd,_⟩:=h.tab.num
 refine⟨h.tab.pos,?_⟩
 have: -894427191≤det n (bas A (fun j=>(s.bs.getD j 0).toNat))∧det n (bas A (fun j=>(s.bs.getD j 0).toNat))≤894427191:=by
  apply root
  refine Int.le_trans (hadamard n _) (Int.le_trans (pr_le (g:=fun j=>if j=n then 50000 else 2000) (fun j=>(sm_nn (fun _=>sq_nn _)).1) (fun j hj=>?_)) (pr_top n n hn))
  show qq n (fun k=>A k (s.bs.getD j 0).toNat)≤if j=n then 50000 else 2000
  rw [if_neg (by omega)]
  refine qq_le (k:=20) hn (fun a ha=>?_)
  have:=hA a (s.bs.getD j 0).toNat ha (by have:=h.lt j hj;omega)
  rw [if_neg (by have:=h.lt j hj;omega)] at this
  exact this
 rcases hq with rfl | rfl <;> omega
end
theorem redV_ok {a d:Int} (ha: -894427191≤a∧a≤894427191) (hd:0 < d∧d≤894427191):(redV a d).2.2=0:=by
 have hg:=gc_pos (a:=a) hd.1
 have e1:gc a d ∣ a:=by unfold gc;exact Int.gcd_dvd_left ..
 have e2:gc a d ∣ d:=by unfold gc;exact Int.gcd_dvd_right ..
 obtain⟨x,hx⟩:=e1
 obtain⟨y,hy⟩:=e2
 have hgd:gc a d=(Int.gcd a d:Int):=rfl
 have big: ∀g z:Int,0 < g→(z≤g*z∧0≤z)∨(g*z≤z∧z < 0):=fun g z h=>by
  rcases Int.lt_or_le z 0 with c | c
  ·have:=Int.mul_le_mul_of_nonpos_right (show 1≤g by omega) (show z≤0 by omega)
   rw [Int.one_mul] at this
   exact .inr ⟨this,c⟩
  ·have:=Int.mul_le_mul_of_nonneg_right (show 1≤g by omega) c
   rw [Int.one_mul] at this
   exact .inl ⟨this,c⟩
 unfold redV fV
 generalize gc a d=g at hg hx hy hgd
 have t1:Int.tdiv a g=x:=by rw [hx,Int.mul_tdiv_cancel_left _ (by omega)]
 have t2:Int.tdiv d g=y:=by rw [hy,Int.mul_tdiv_cancel_left _ (by omega)]
 have hy0:0 < y:=by
  apply Classical.byContradiction
  intro c
  have:=Int.mul_nonpos_of_nonneg_of_nonpos (show 0≤g by omega) (show y≤0 by omega)
  omega
 have by1:=big g y hg
 have bx:=big g x hg
 have hc:gc x y=1:=by
  rw [hx,hy,Int.gcd_mul_left,Int.natCast_mul,Int.natAbs_of_nonneg (by omega)] at hgd
  have h2:g*((Int.gcd x y:Int))=g*1:=by omega
  exact Int.eq_of_mul_eq_mul_left (by omega) h2
 rw [t1,t2,w64 (x:=x) (by omega) (by omega),w64 (x:=y) (by omega) (by omega)]
 unfold toldV
 have:isF 1000000000 (x,y).1 (x,y).2=true:=by
  unfold isF
  simp only [Bool.and_eq_true,decide_eq_true_eq,beq_iff_eq]
  exact⟨⟨by omega,by omega⟩,⟨by omega,by omega⟩,hc⟩
 rw [if_pos this]
end Go.Proofs.Ytmpkckiifeikkaa.Lhd
end
section
namespace Go.Proofs.Ytmpkckiifeikkaa.Lcy
open Go.RowKit Go.Proofs.YtmpkckiifeikkaaW.PrintWords Go.Proofs.YtmpkckiifeikkaaW.PrintMore Go.Proofs.Ytmpkckiifeikkaa.Ma Go.Proofs.Ytmpkckiifeikkaa.Dt Go.Proofs.Ytmpkckiifeikkaa.Bz Go.Proofs.Ytmpkckiifeikkaa.Lk Go.Proofs.Ytmpkckiifeikkaa.Lt Go.Proofs.Ytmpkckiifeikkaa.Pr Go.Proofs.Ytmpkckiifeikkaa.Lq
theorem first_J {M:List (List Int)} {Q cv:List Int} (h:PC M Q cv Q.length) (hf: ¬ feas Q.length (fun i=>Q.getD i 0)=true) {r:Nat} (hrow:rowB Q.length (2*Q.length+2) (first Q.length (enL M) (fun i=>cv.getD i 0) (fun i=>Q.getD i 0)) (fun i=>cv.getD i 0)=some r):
  LexRows Q.length (2*Q.length+2) ((first Q.length (enL M) (fun i=>cv.getD i 0) (fun i=>Q.getD i 0)).step r (2*Q.length))∧
  ∀r1,rowB Q.length (2*Q.length+2) ((first Q.length (enL M) (fun i=>cv.getD i 0) (fun i=>Q.getD i 0)).step r (2*Q.length)) (fun i=>((first Q.length (enL M) (fun i=>cv.getD i 0) (fun i=>Q.getD i 0)).step r (2*Q.length)).T i (partner Q.length r))=some r1→
   J Q.length (2*Q.length+2) (tab0 Q.length (enL M) (fun i=>cv.getD i 0) (fun i=>Q.getD i 0)) ((first Q.length (enL M) (fun i=>cv.getD i 0) (fun i=>Q.getD i 0)).step r (2*Q.length)) (partner Q.length r) r1:=by
 have hn0:=h.pos
 have hA:=first_small (n:=Q.length) (M:=enL M) (cv:=fun i=>cv.getD i 0) (q:=fun i=>Q.getD i 0) h.Mb (fun i hi=>by have:=h.cb i hi;omega) h.qb
 have hok:=first_ok (n:=Q.length) (M:=enL M) (cv:=fun i=>cv.getD i 0) (q:=fun i=>Q.getD i 0)
 have hI: ∀i j,i < Q.length→j < Q.length→tab0 Q.length (enL M) (fun i=>cv.getD i 0) (fun i=>Q.getD i 0) i j=if i=j then 1 else 0:=fun i j hi hj=>tab0_unit hi hj
 have hcv: ∀i,i < Q.length→0 < (fun i=>cv.getD i 0) i:=fun i hi=>(h.cb i hi).1
 have hl:=rowB_least (apart_of (by omega) hI hok) hrow
 have hl':Least (tab0 Q.length (enL M) (fun i=>cv.getD i 0) (fun i=>Q.getD i 0)) Q.length (cols Q.length (2*Q.length+2)) (fun i=>cv.getD i 0) r:=hl
 have hr:=hl.1
 have hbr:(first Q.length (enL M) (fun i=>cv.getD i 0) (fun i=>Q.getD i 0)).bs.getD r 0=(r:Int):=by simp [first,idl,hr]
 obtain⟨s1,hs1⟩: ∃s1,(first Q.length (enL M) (fun i=>cv.getD i 0) (fun i=>Q.getD i 0)).step r (2*Q.length)=s1:=⟨_,rfl⟩
 rw [hs1]
 have hlex:LexRows Q.length (2*Q.length+2) s1:=by rw [← hs1];exact first_lex h.le hA hcv hl' hf
 have hok1:Ok Q.length (2*Q.length+2) (tab0 Q.length (enL M) (fun i=>cv.getD i 0) (fun i=>Q.getD i 0)) s1:=by
  rw [← hs1]
  refine hok.step h.le hA hr (by omega) ?_
  show tab0 Q.length (enL M) (fun i=>cv.getD i 0) (fun i=>Q.getD i 0) r (2*Q.length)≠0
  rw [tab0_cv]
  have h3:0 < cv.getD r 0:=hcv r hr
  show - cv.getD r 0≠0
  omega
 refine⟨hlex,fun r1 hrow2=>?_⟩
 have hidl: ∀x,inB Q.length (idl Q.length) x↔x < Q.length:=fun x=>by
  constructor
  ·rintro ⟨i,hi,e⟩
   simp [idl,hi] at e;omega
  ·intro hx;exact⟨x,hx,by simp [idl,hx]⟩
 have hbr2:(idl Q.length).getD r 0=(r:Int):=by simp [idl,hr]
 have hbs:s1.bs=(idl Q.length).set r ((2*Q.length:Nat):Int):=by rw [← hs1];rfl
 have hS: ∀x,inB Q.length s1.bs x↔x=2*Q.length∨(x < Q.length∧x≠r):=fun x=>by
  rw [hbs,inB_set (l:=r) (by simp [idl]) hr hbr2 (fun i j hi hj e=>by simp [idl,hi,hj] at e;omega),hidl]
 have hp:partner Q.length r=r+Q.length:=by unfold partner;rw [if_pos hr]
 have hpp:partner Q.length (partner Q.length r)=r:=par_par (by omega)
 have hcomp:Comp Q.length s1.bs (partner Q.length r):=by
  refine⟨by rw [hp];omega,(hS _).2 (.inl rfl),fun q=>?_,fun q=>?_,fun x hx h1 h2=>?_⟩
  ·rw [hS,hp] at q;omega
  ·rw [hpp,hS] at q;omega
  ·rw [hpp] at h2
   rw [hp] at h1
   rw [hS,hS]
   have hx2:partner Q.length x=if x < Q.length then x+Q.length else x - Q.length:=rfl
   by_cases c:x < Q.length
   ·rw [hx2,if_pos c];omega
   ·rw [hx2,if_neg c];omega
 have aa:J Q.length (2*Q.length+2) (tab0 Q.length (enL M) (fun i=>cv.getD i 0) (fun i=>Q.getD i 0)) s1 (partner Q.length r) r1:=⟨hok1,hlex,hcomp,rowB_least (apart_of (by omega) hI hok1) hrow2⟩
 exact aa
section
variable {n m:Nat} {A:Mat}
theorem lex_nn {s:TS} (h:LexRows n m s) {i:Nat} (hi:i < n):0≤s.T i (m - 1):=by
 rcases h i hi with g | ⟨g,_⟩
 ·exact Int.le_of_lt g
 ·exact Int.le_of_eq g.symm
theorem goI_pre: ∀(q:Nat) (s:TS) (v r:Nat) (st:List (List Int)), ∃e,(goI n m q s v r st).2.1=st++e:=by
 intro q
 induction q with
 | zero=>intro s v r st;exact⟨[],(List.append_nil _).symm⟩
 | succ q ih=>
  intro s v r st
  unfold goI
  split
  ·exact⟨[],(List.append_nil _).symm⟩
  ·split
   ·exact⟨_,rfl⟩
   ·split
    ·exact⟨_,rfl⟩
    ·obtain⟨e,he⟩:=ih (s.step r v) (partner n (s.bs.getD r 0).toNat) ‹_› (st++ [[(v:Int),s.bs.getD r 0]])
     exact⟨_,by rw [he,List.append_assoc]⟩
theorem goI_take: ∀(q p:Nat) (s:TS) (v r:Nat) (st:List (List Int)),st.length+q≤(goI n m p s v r st).2.1.length→q≤p→(goI n m q s v r st).2.1=(goI n m p s v r st).2.1.take (st.length+q):=by
 intro q
 induction q with
 | zero=>
  intro p s v r st h1 h2
  obtain⟨e,he⟩:=goI_pre (n:=n) (m:=m) p s v r st
  rw [he,Nat.add_zero,List.take_left]
  rfl
 | succ q ih=>
  intro p s v r st h1 h2
  obtain⟨p,rfl⟩: ∃p',p=p'+1:=⟨p - 1,by omega⟩
  revert h1
  unfold goI
  split
  ·intro h1;exact absurd h1 (by show ¬ st.length+(q+1)≤st.length;omega)
  ·split
   ·intro h1
    exact(List.take_of_length_le (by show (st++ [_]).length≤_;simp)).symm
   ·split
    ·intro h1
     exact(List.take_of_length_le (by show (st++ [_]).length≤_;simp)).symm
    ·intro h1
     rw [ih p _ _ _ _ (by simp only [List.length_append,List.length_cons,List.length_nil];omega) (by omega)]
     congr 1
     simp only [List.length_append,List.length_cons,List.length_nil];omega
variable (hn:n≤5) (hn0:0 < n) (hm:m=2*n+2) (hA:Small n m A) (hI: ∀i j,i < n→j < n→A i j=if i=j then 1 else 0)
include hn hn0 hm hA hI
theorem goI_lex: ∀(q:Nat) (s:TS) (v r:Nat) (st:List (List Int)),J n m A s v r→LexRows n m (goI n m q s v r st).1:=by
 intro q
 induction q with
 | zero=>intro s v r st h;exact h.lex
 | succ q ih=>
  intro s v r st h
  have hstep:LexRows n m (s.step r v):=step_lex hn (by omega) hA h.ok (by have:=h.comp.lt;omega) h.lex h.least
  unfold goI
  by_cases c:st.length=200
  ·rw [if_pos c];exact h.lex
  ·rw [if_neg c]
   by_cases d:s.bs.getD r 0=2*(n:Int)
   ·rw [if_pos d];exact hstep
   ·rw [if_neg d]
    cases e:rowB n m (s.step r v) (fun i=>(s.step r v).T i (partner n (s.bs.getD r 0).toNat)) with
    | none=>exact hstep
    | some r'=>
     have hx:nx n m s v r=some (s.step r v,partner n (s.bs.getD r 0).toNat,r'):=by
      unfold nx;rw [if_neg d,e]
     exact ih _ _ _ _ (nx_J hn hn0 hm hA hI h hx).1
theorem goI_next: ∀(q:Nat) (s:TS) (v r:Nat) (st:List (List Int)),J n m A s v r→st.length+q < (goI n m (q+1) s v r st).2.1.length→
  ∃r' v':Nat,r' < n∧(v':Int)≠(goI n m q s v r st).1.bs.getD r' 0∧(goI n m (q+1) s v r st).1.bs=(goI n m q s v r st).1.bs.set r' (v':Int)∧(goI n m (q+1) s v r st).2.1=(goI n m q s v r st).2.1++ [[(v':Int),(goI n m q s v r st).1.bs.getD r' 0]]:=by
 intro q
 induction q with
 | zero=>
  intro s v r st h hl
  have hne:(v:Int)≠s.bs.getD r 0:=fun e=>h.comp.out ⟨r,h.least.1,e.symm⟩
  refine⟨r,v,h.least.1,hne,?_⟩
  revert hl
  show st.length+0 < (goI n m 1 s v r st).2.1.length→(goI n m 1 s v r st).1.bs=s.bs.set r (v:Int)∧(goI n m 1 s v r st).2.1=st++ [[(v:Int),s.bs.getD r 0]]
  unfold goI
  split
  ·intro hl;exact absurd hl (by show ¬ st.length+0 < st.length;omega)
  ·split
   ·intro _;exact⟨rfl,rfl⟩
   ·split
    ·intro _;exact⟨rfl,rfl⟩
    ·intro _;exact⟨rfl,rfl⟩
 | succ q ih=>
  intro s v r st h hl
  revert hl
  unfold goI
  by_cases c:st.length=200
  ·rw [if_pos c,if_pos c]
   intro hl;exact absurd hl (by show ¬ st.length+(q+1) < st.length;omega)
  ·rw [if_neg c,if_neg c]
   by_cases d:s.bs.getD r 0=2*(n:Int)
   ·rw [if_pos d,if_pos d]
    intro hl;exact absurd hl (by show ¬ st.length+(q+1) < (st++ [_]).length;simp)
   ·rw [if_neg d,if_neg d]
    cases e:rowB n m (s.step r v) (fun i=>(s.step r v).T i (partner n (s.bs.getD r 0).toNat)) with
    | none=>intro hl;exact absurd hl (by show ¬ st.length+(q+1) < (st++ [_]).length;simp)
    | some r'=>
     have hx:nx n m s v r=some (s.step r v,partner n (s.bs.getD r 0).toNat,r'):=by
      unfold nx;rw [if_neg d,e]
     intro hl
     exact ih _ _ _ _ (nx_J hn hn0 hm hA hI h hx).1 (by simp only [List.length_append,List.length_cons,List.length_nil] at hl ⊢;omega)
end
theorem zero_bs (M:List (List Int)) (Q cv:List Int):(lkR M Q cv 0).1.bs=idl Q.length:=by
 unfold lkR runI
 split
 ·rfl
 ·split
  ·rfl
  ·rfl
theorem right_nn {M:List (List Int)} {Q cv:List Int} (h:PC M Q cv Q.length) {k:Nat} (hk:0 < k) (hl:k≤(lkR M Q cv 201).2.1.length) {i:Nat} (hi:i < Q.length):0≤(lkR M Q cv k).1.T i (2*Q.length+1):=by
 have hn0:=h.pos
 have hA:=first_small (n:=Q.length) (M:=enL M) (cv:=fun i=>cv.getD i 0) (q:=fun i=>Q.getD i 0) h.Mb (fun i hi=>by have:=h.cb i hi;omega) h.qb
 have hI: ∀i j,i < Q.length→j < Q.length→tab0 Q.length (enL M) (fun i=>cv.getD i 0) (fun i=>Q.getD i 0) i j=if i=j then 1 else 0:=fun i j hi hj=>tab0_unit hi hj
 refine lex_nn (m:=2*Q.length+2) ?_ hi
 revert hl
 unfold lkR runI
 by_cases hf:feas Q.length (fun i=>Q.getD i 0)=true
 ·rw [if_pos hf,if_pos hf]
  intro hl;exact absurd hl (by show ¬ k≤0;omega)
 ·rw [if_neg hf,if_neg hf]
  cases hrow:rowB Q.length (2*Q.length+2) (first Q.length (enL M) (fun i=>cv.getD i 0) (fun i=>Q.getD i 0)) (fun i=>cv.getD i 0) with
  | none=>intro hl;exact absurd hl (by show ¬ k≤0;omega)
  | some r=>
   intro _
   obtain⟨q,rfl⟩: ∃q,k=q+1:=⟨k - 1,by omega⟩
   obtain⟨h1,h2⟩:=first_J h hf hrow
   have hr:=(rowB_some hrow).1
   have hbr:(first Q.length (enL M) (fun i=>cv.getD i 0) (fun i=>Q.getD i 0)).bs.getD r 0=(r:Int):=by simp [first,idl,hr]
   show LexRows Q.length (2*Q.length+2) (goI Q.length (2*Q.length+2) (q+1) (first Q.length (enL M) (fun i=>cv.getD i 0) (fun i=>Q.getD i 0)) (2*Q.length) r []).1
   unfold goI
   rw [if_neg (by simp),hbr,if_neg (by omega),Int.toNat_natCast]
   cases hrow2:rowB Q.length (2*Q.length+2) ((first Q.length (enL M) (fun i=>cv.getD i 0) (fun i=>Q.getD i 0)).step r (2*Q.length)) (fun i=>((first Q.length (enL M) (fun i=>cv.getD i 0) (fun i=>Q.getD i 0)).step r (2*Q.length)).T i (partner Q.length r)) with
   | none=>exact h1
   | some r1=>exact goI_lex h.le hn0 rfl hA hI q _ _ _ _ (h2 r1 hrow2)
theorem basis_next {M:List (List Int)} {Q cv:List Int} (h:PC M Q cv Q.length) {k:Nat} (hl:k+1≤(lkR M Q cv 201).2.1.length) (h200:(lkR M Q cv 201).2.1.length≤200):
  ∃r v:Nat,r < Q.length∧(v:Int)≠(lkR M Q cv k).1.bs.getD r 0∧(lkR M Q cv (k+1)).1.bs=(lkR M Q cv k).1.bs.set r (v:Int)∧(lkR M Q cv 201).2.1.getD k []= [(v:Int),(lkR M Q cv k).1.bs.getD r 0]:=by
 have hn0:=h.pos
 have hA:=first_small (n:=Q.length) (M:=enL M) (cv:=fun i=>cv.getD i 0) (q:=fun i=>Q.getD i 0) h.Mb (fun i hi=>by have:=h.cb i hi;omega) h.qb
 have hI: ∀i j,i < Q.length→j < Q.length→tab0 Q.length (enL M) (fun i=>cv.getD i 0) (fun i=>Q.getD i 0) i j=if i=j then 1 else 0:=fun i j hi hj=>tab0_unit hi hj
 revert hl h200
 unfold lkR runI
 by_cases hf:feas Q.length (fun i=>Q.getD i 0)=true
 ·rw [if_pos hf,if_pos hf,if_pos hf]
  intro hl;exact absurd hl (by show ¬ k+1≤0;omega)
 ·rw [if_neg hf,if_neg hf,if_neg hf]
  cases hrow:rowB Q.length (2*Q.length+2) (first Q.length (enL M) (fun i=>cv.getD i 0) (fun i=>Q.getD i 0)) (fun i=>cv.getD i 0) with
  | none=>intro hl;exact absurd hl (by show ¬ k+1≤0;omega)
  | some r=>
   have hr:=(rowB_some hrow).1
   have hbr:(first Q.length (enL M) (fun i=>cv.getD i 0) (fun i=>Q.getD i 0)).bs.getD r 0=(r:Int):=by simp [first,idl,hr]
   obtain⟨h1,h2⟩:=first_J h hf hrow
   intro hl h200
   simp only at hl h200 ⊢
   generalize hs0:first Q.length (enL M) (fun i=>cv.getD i 0) (fun i=>Q.getD i 0)=s0 at*
   have htake:=fun q (hq:q≤201) hlq=>goI_take (n:=Q.length) (m:=2*Q.length+2) q 201 s0 (2*Q.length) r [] hlq hq
   have main: ∃r' v':Nat,r' < Q.length∧(v':Int)≠(goI Q.length (2*Q.length+2) k s0 (2*Q.length) r []).1.bs.getD r' 0∧(goI Q.length (2*Q.length+2) (k+1) s0 (2*Q.length) r []).1.bs=(goI Q.length (2*Q.length+2) k s0 (2*Q.length) r []).1.bs.set r' (v':Int)∧(goI Q.length (2*Q.length+2) (k+1) s0 (2*Q.length) r []).2.1=(goI Q.length (2*Q.length+2) k s0 (2*Q.length) r []).2.1++ [[(v':Int),(goI Q.length (2*Q.length+2) k s0 (2*Q.length) r []).1.bs.getD r' 0]]:=by
    have hlen:k < (goI Q.length (2*Q.length+2) (k+1) s0 (2*Q.length) r []).2.1.length:=by
     rw [htake (k+1) (by omega) (by simp only [List.length_nil];omega),List.length_take]
     simp only [List.length_nil];omega
    revert hlen
    cases k with
    | zero=>
     intro _
     refine⟨r,2*Q.length,hr,?_,?_⟩
     ·show ((2*Q.length:Nat):Int)≠s0.bs.getD r 0
      rw [hbr];omega
     ·show (goI Q.length (2*Q.length+2) 1 s0 (2*Q.length) r []).1.bs=s0.bs.set r _∧(goI Q.length (2*Q.length+2) 1 s0 (2*Q.length) r []).2.1= []++ [[_,s0.bs.getD r 0]]
      unfold goI
      rw [if_neg (by simp),if_neg (by rw [hbr];omega)]
      split
      ·exact⟨rfl,rfl⟩
      ·exact⟨rfl,rfl⟩
    | succ q=>
     unfold goI
     rw [if_neg (by simp),if_neg (by rw [hbr];omega),if_neg (by simp),if_neg (by rw [hbr];omega),hbr,Int.toNat_natCast]
     cases hrow2:rowB Q.length (2*Q.length+2) (s0.step r (2*Q.length)) (fun i=>(s0.step r (2*Q.length)).T i (partner Q.length r)) with
     | none=>intro hlen;exact absurd hlen (by show ¬ q+1 < ([]++ [_]).length;simp)
     | some r1=>
      intro hlen
      exact goI_next h.le hn0 rfl hA hI q _ _ _ _ (h2 r1 hrow2) (by simp only [List.length_append,List.length_cons,List.length_nil] at hlen ⊢;omega)
   obtain⟨r',v',g1,g2,g3,g4⟩:=main
   refine⟨r',v',g1,g2,g3,?_⟩
   have e1:=htake (k+1) (by omega) (by simp only [List.length_nil];omega)
   have e0:=htake k (by omega) (by simp only [List.length_nil];omega)
   have hlk:(goI Q.length (2*Q.length+2) k s0 (2*Q.length) r []).2.1.length=k:=by
    rw [e0,List.length_take]
    simp only [List.length_nil];omega
   have e2:(goI Q.length (2*Q.length+2) 201 s0 (2*Q.length) r []).2.1.getD k []=(goI Q.length (2*Q.length+2) (k+1) s0 (2*Q.length) r []).2.1.getD k []:=by
    rw [e1,List.getD_eq_getElem?_getD,List.getD_eq_getElem?_getD,List.getElem?_take,if_pos (by simp only [List.length_nil];omega)]
   rw [e2,g4,List.getD_eq_getElem?_getD,List.getElem?_append_right (by omega),hlk,Nat.sub_self]
   rfl
end Go.Proofs.Ytmpkckiifeikkaa.Lcy
end
section
namespace Go.Proofs.Ytmpkckiifeikkaa.Lsa
open Go.RowKit Go.Proofs.YtmpkckiifeikkaaW.PrintWords Go.Proofs.YtmpkckiifeikkaaW.PrintMore Go.Proofs.Ytmpkckiifeikkaa.Ma Go.Proofs.Ytmpkckiifeikkaa.Pr Go.Proofs.Ytmpkckiifeikkaa.Dt Go.Proofs.Ytmpkckiifeikkaa.Lk Go.Proofs.Ytmpkckiifeikkaa.Lt Go.Proofs.Ytmpkckiifeikkaa.Lq Go.Proofs.Ytmpkckiifeikkaa.Fr
theorem outL_ok {f:Nat→Int × Int × Int}: ∀(q x:Nat) (acc:List S93),(∀y,x≤y→y < x+q→(f y).2.2=0)→outL f q x acc=(acc++(List.range' x q).map (fun y=>⟨(f y).1,(f y).2.1⟩),0):=by
 intro q
 induction q with
 | zero=>intro x acc _;simp [outL]
 | succ q ih=>
  intro x acc h
  unfold outL
  rw [if_pos (h x (Nat.le_refl _) (by omega)),ih (x+1) _ (fun y h1 h2=>h y (by omega) (by omega)),List.range'_succ,List.map_cons,List.append_assoc]
  rfl
def rtL (s:TS) (n:Nat):List S93:=(List.range' 0 n).map (fun i=>⟨(redV (s.T i (2*n+1)) s.den).1,(redV (s.T i (2*n+1)) s.den).2.1⟩)
theorem rtL_len (s:TS) (n:Nat):(rtL s n).length=n:=by simp [rtL]
section
variable {M:List (List Int)} {Q cv:List Int} (h:PC M Q cv Q.length)
include h
theorem right_ok (k:Nat) {i:Nat} (hi:i < Q.length) {c:Nat} (hc:c < 2*Q.length+2):(redV ((lkR M Q cv k).1.T i c) (lkR M Q cv k).1.den).2.2=0:=by
 have hA:=first_small (n:=Q.length) (M:=enL M) (cv:=fun i=>cv.getD i 0) (q:=fun i=>Q.getD i 0) h.Mb (fun i hi=>by have:=h.cb i hi;omega) h.qb
 have hok:=(lkR_ok h k).1
 exact Lhd.redV_ok (Lhd.ok_root h.le hA hok hi hc) (Lhd.ok_den h.le hA hok)
theorem right_list (k:Nat):outL (fun i=>redV ((lkR M Q cv k).1.T i (2*Q.length+1)) (lkR M Q cv k).1.den) Q.length 0 []=(rtL (lkR M Q cv k).1 Q.length,0):=
 outL_ok Q.length 0 [] (fun y _ hy=>right_ok h k (by omega) (by omega))
end
theorem redV_nn {a d:Int} (ha:0≤a) (ha2:a≤4611686018427387904) (hd:0 < d):0≤(redV a d).1:=by
 have hg:=gc_pos (a:=a) hd
 have h2:=Int.tdiv_nonneg ha (Int.le_of_lt hg)
 have h3:Int.tdiv a (gc a d)≤a:=Int.tdiv_le_self _ ha
 unfold redV toldV fV
 split
 ·show 0≤wrap64 (Int.tdiv a (gc a d))
  rw [w64 (by omega) (by omega)]
  exact h2
 ·exact Int.le_refl _
theorem rtL_nn {M:List (List Int)} {Q cv:List Int} (h:PC M Q cv Q.length) {k:Nat} (hk:0 < k) (hl:k≤(lkR M Q cv 201).2.1.length): ∀x ∈ rtL (lkR M Q cv k).1 Q.length,0≤x.f0:=by
 intro x hx
 have hA:=first_small (n:=Q.length) (M:=enL M) (cv:=fun i=>cv.getD i 0) (q:=fun i=>Q.getD i 0) h.Mb (fun i hi=>by have:=h.cb i hi;omega) h.qb
 have hok:=(lkR_ok h k).1
 unfold rtL at hx
 obtain⟨i,hi,rfl⟩:=List.mem_map.1 hx
 have hi2:i < Q.length:=by have:=List.mem_range'_1.1 hi;omega
 have hr:=Lhd.ok_root h.le hA hok hi2 (c:=2*Q.length+1) (by omega)
 exact redV_nn (Lcy.right_nn h hk hl hi2) (by omega) (Lhd.ok_den h.le hA hok).1
end Go.Proofs.Ytmpkckiifeikkaa.Lsa
end
section
namespace Go.Proofs.Ytmpkckiifeikkaa.Pr
open Go.RowKit Go.Proofs.YtmpkckiifeikkaaW.PrintWords Go.Proofs.YtmpkckiifeikkaaW.PrintLast Go.Proofs.YtmpkckiifeikkaaW.PrintMore Go.Proofs.Ytmpkckiifeikkaa.Ma Go.Proofs.Ytmpkckiifeikkaa.Dt Go.Proofs.Ytmpkckiifeikkaa.Lk Go.Proofs.Ytmpkckiifeikkaa.Lt Go.Proofs.Ytmpkckiifeikkaa.Lq
def lsF (R:TS × List (List Int) × Bool × Int × Int) (c:Int):List (List Int) × Bool × Int:=if c=0 then(if R.2.2.2.2=0 then(R.2.1,R.2.2.1,0) else([],false,R.2.2.2.2)) else([],false,c)
def impl_LemkeSteps.f (aa:List (List Int)) (ae l1:List Int):Option (List (List Int) × Bool × Int):=some (lsF (lkR aa ae l1 201) (lkCode aa ae l1))
theorem impl_LemkeSteps.calls (af:Option Addr) (ag:Nat) (aa:List (List Int)) (ah:Option Addr) (ai:Nat) (ae:List Int) (A1:Option Addr) (c1:Nat) (l1:List Int) (r1:List (List Int)) (r2:Bool) (r3:Int) (w:World) (aj:Kd.C (Kd.slice 2 (Kd.int .i64)) w af aa.length aa) (ak:aa.length≤ag) (aq:Kd.C (Kd.int .i64) w ah ae.length ae) (au:ae.length≤ai) (hr1:Kd.C (Kd.int .i64) w A1 l1.length l1) (hc1:l1.length≤c1) (h:impl_LemkeSteps.f aa ae l1=some (r1,r2,r3)):
  Calls Try.prog 78 #[.agg #[.slice af aa.length ag, .slice ah ae.length ai], .slice A1 l1.length c1] w fun e w'=> ∃v0_:Value,e= .returned (.tuple #[v0_, .bool r2, .int .i64 r3])∧Kd.S (Kd.slice 2 (Kd.int .i64)) 23 w' w.heap.size (fun _=>True) v0_ r1∧Below w.heap.size w w':=by
 unfold impl_LemkeSteps.f at h
 have HB:=q_ (Below.refl w.heap.size w)
 have hcall:=fun W (hb:Below w.heap.size w W)=>runOf_calls af ag aa ah ai ae A1 c1 l1 W (Kd.C_below aj hb) ak (Kd.C_below aq hb) au (Kd.C_below hr1 hb) hc1
 have HL:=q_ hcall
 clear hcall aj ak aq au hr1 hc1
 obtain⟨R,hR⟩: ∃R,lkR aa ae l1 201=R:=⟨_,rfl⟩
 rw [hR] at h HL
 clear hR
 obtain⟨c,hc⟩: ∃c,lkCode aa ae l1=c:=⟨_,rfl⟩
 rw [hc] at h HL
 clear hc
 have H:=q_ (Option.some.inj h)
 clear h
 generalize aa.length=m0 at HL ⊢
 generalize ae.length=m1 at HL ⊢
 generalize l1.length=m2 at HL ⊢
 go_enter Try.func78,Try.ntmps78
 go_wp2_with (first | ((with_reducible refine gate_dst (N:=2) rfl ?_);refine box_event ?hg (N:=2) ?hd (cs:= #[.slice af m0 ag, .slice ah m1 ai]) (t:=30) ?hr ?_;(case hd=>rfl);(case hg=>rfl);(case hr=>first | (go_simp;done) | (go_simp;rfl));intro g2 hg w2 hbox hb;replace HB:=q_ (below_step HB.out hb);have B2:=q_ hbox;have hz0:=cz_ B2 0;have hz1:=cz_ B2 1;clear hb hbox hg))
 refine(HL.out w2 HB.out).mono ?_
 rintro e w3 ⟨hor,hb⟩
 have HBS:=q_ HB.out.size
 replace HB:=q_ (below_step HB.out hb)
 clear hb hz0 hz1 HL
 rcases hor with ⟨hc,rfl⟩ | ⟨rfl,p,rfl,hP⟩
 ·have hcb:(c==0)=false:=by simpa using hc
  have H2:Aside0 (([],false,c)=(r1,r2,r3)):=⟨by rw [← H.out];unfold lsF;rw [if_neg hc]⟩
  clear H
  go_wp2
  go_ret3
  have e:=H2.out
  injection e with e1 e
  injection e with e2 e3
  subst e1 e2 e3
  exact⟨_,rfl,Kd.S_nil _ _ _ _ _,HB.out⟩
 ·obtain⟨cR,hcR⟩: ∃c,R.2.2.2.2=c:=⟨_,rfl⟩
  have H2:Aside0 ((if cR=0 then(R.2.1,R.2.2.1,0) else([],false,cR))=(r1,r2,r3)):=⟨by rw [← H.out, ← hcR];unfold lsF;rw [if_pos rfl]⟩
  rw [hcR] at hP ⊢
  clear H hcR
  by_cases hc0:cR=0
  ·subst hc0
   have HPD:=q_ ((hP.base HBS.out).mv (below_drew (Below.refl w3.heap.size w3)))
   replace HB:=q_ (below_step HB.out (below_drew (Below.refl w3.heap.size w3)))
   clear hP
   have e:=H2.out
   rw [if_pos rfl] at e
   injection e with e1 e
   injection e with e2 e3
   subst e1 e2 e3
   clear H2
   go_wp2
   obtain⟨lo,hi,t,u1,h1,h2,h3,hT,hB,hS⟩:=HPD.out
   obtain⟨A9,c9,rfl⟩:=Kd.S_slice hS
   have hq1:=cz_ ⟨hB⟩ 1
   have hq2:=cz_ ⟨hB⟩ 2
   have HS:=q_ (Kd.S_lower hS (Nat.le_trans h1 h2))
   clear h1 h2 h3 hT hB hS HPD
   obtain⟨sv,hsv⟩: ∃x,R.2.2.1=x:=⟨_,rfl⟩
   obtain⟨st,hst⟩: ∃x,R.2.1=x:=⟨_,rfl⟩
   rw [hsv] at hq2
   rw [hst] at hq1 HS
   have HSV:=q_ hsv
   have HST:=q_ hst
   clear hsv hst
   refine st_ (n:=11) (S:=fun w'=>w'.cell? ⟨p,1,none⟩=some (.slice A9 st.length c9)∧w'.cell? ⟨p,2,none⟩=some (.bool sv)) (ds:= []) ⟨hq1,hq2⟩ (fun hHeld=>?_)
   generalize w3.drew=w6 at HB HS hHeld ⊢
   clear hq1 hq2
   refine pu_ 0 18 ?_;refine pu_ 1 19 ?_;refine pu_ 2 20 ?_;refine tk_ 3 21 ?_;refine pu_ 4 22 ?_;refine pu_ 5 23 ?_;refine pu_ 6 24 ?_;refine tk_ 7 25 ?_;refine pu_ 8 4 ?_;refine pu_ 9 5 ?_;refine pu_ 10 6 ?_
   refine done_ (by kernel_rfl) ?_
   go_wp2
   go_ret3
   exact⟨_,by rw [HSV.out];rfl,by rw [HST.out];exact HS.out,HB.out⟩
  ·have hcb:(cR==0)=false:=by simpa using hc0
   have e:=H2.out
   rw [if_neg hc0] at e
   injection e with e1 e
   injection e with e2 e3
   subst e1 e2 e3
   clear H2 hP
   go_wp2
   go_ret3
   exact⟨_,rfl,Kd.S_nil _ _ _ _ _,HB.out⟩
end Go.Proofs.Ytmpkckiifeikkaa.Pr
end
section
namespace Go.Proofs.Ytmpkckiifeikkaa.Pr
open Go.RowKit Go.Proofs.YtmpkckiifeikkaaW.PrintWords Go.Proofs.YtmpkckiifeikkaaW.PrintLast Go.Proofs.YtmpkckiifeikkaaW.PrintMore
attribute [local go_sem] max2_int min2_int max_two min_two max_three min_three max_four min_four
theorem eqA93 (d:Nat) (w:World) (x0 y0:Int) (x1 y1:Int):
  (Op.equalIn (d+2) 93 (.agg #[.int .i64 x0, .int .i64 x1]) (.agg #[.int .i64 y0, .int .i64 y1])).run Try.prog w= .ok (x0==y0 && (x1==y1)) w:=by
 refine eqA_of Try.underlying93 (by kernel_rfl) ?_
 refine eqf_cons (by rfl) (by go_simp;rfl) (by go_simp;rfl) (by go_simp) ?_
 exact eqf_last (by rfl) (by go_simp;rfl) (by go_simp;rfl) (by go_simp)
end Go.Proofs.Ytmpkckiifeikkaa.Pr
end
section
namespace Go.Proofs.Ytmpkckiifeikkaa.Pr
open Go.RowKit Go.Proofs.YtmpkckiifeikkaaW.PrintWords Go.Proofs.YtmpkckiifeikkaaW.PrintLast Go.Proofs.YtmpkckiifeikkaaW.PrintMore
attribute [local go_sem] max2_int min2_int max_two min_two max_three min_three max_four min_four
attribute [local go_sem high] eqA93
def laws_fracs5.l0:Nat→List (S93)→List (S93)→Int→Option (Bool)
 | 0,_,_,_=>none
 | k+1,x0,x1,x5=>if x5 < (x0.length:Int) then(if 0≤x5 then(if x5 < (x1.length:Int) then(if(!(((rd_T93 x0 x5).f0)==((rd_T93 x1 x5).f0)) || (!(((rd_T93 x0 x5).f1)==((rd_T93 x1 x5).f1))))=true then(some false) else(laws_fracs5.l0 k x0 x1 (wrap64 (x5+1)))) else(none)) else(none)) else(some true)
def laws_fracs5.f (k:Nat) (l0:List (S93)) (l1:List (S93)):Option (Bool):=if(l0.length:Int)=(l1.length:Int) then(laws_fracs5.l0 k l0 l1 0) else(some false)
theorem laws_fracs5.mono_l: ∀k,(∀y0 y1 y2,LeO (laws_fracs5.l0 k y0 y1 y2) (laws_fracs5.l0 (k+1) y0 y1 y2))
 | 0=>fun _ _ _ r h=>by simp [laws_fracs5.l0] at h
 | k+1=>by
  have ih0:=laws_fracs5.mono_l k
  ·intro y0 y1 y2
   unfold laws_fracs5.l0
   repeat' first
   | (with_reducible exact ih0 _ _ _)
   | (with_reducible exact LeO.refl _)
   | (with_reducible exact LeO.none _)
   | (with_reducible refine LeO.ite ?_ ?_)
   | (with_reducible refine LeO.bind ?_ (fun _=>?_))
   | exact ih0 _ _ _
   | exact LeO.none _
   | refine LeO.ite ?_ ?_
   | refine LeO.bind ?_ (fun _=>?_)
theorem laws_fracs5.mono: ∀a0 a1 k,LeO (laws_fracs5.f k a0 a1) (laws_fracs5.f (k+1) a0 a1):=by
 intro a0 a1 k
 have ih0:=laws_fracs5.mono_l k
 unfold laws_fracs5.f
 repeat' first
   | (with_reducible exact ih0 _ _ _)
   | (with_reducible exact LeO.refl _)
   | (with_reducible exact LeO.none _)
   | (with_reducible refine LeO.ite ?_ ?_)
   | (with_reducible refine LeO.bind ?_ (fun _=>?_))
   | exact ih0 _ _ _
   | exact LeO.none _
   | refine LeO.ite ?_ ?_
   | refine LeO.bind ?_ (fun _=>?_)
theorem laws_fracs5.calls (k:Nat) (A0:Option Addr) (c0:Nat) (l0:List (S93)) (A1:Option Addr) (c1:Nat) (l1:List (S93)) (r:Bool) (w:World) (hr0:Kd.C k93 w A0 l0.length l0) (hc0:l0.length≤c0) (hr1:Kd.C k93 w A1 l1.length l1) (hc1:l1.length≤c1) (h:laws_fracs5.f k l0 l1=some r):
  Calls Try.prog 75 #[.slice A0 l0.length c0, .slice A1 l1.length c1] w fun e w'=>e= .returned (.bool r)∧Drawn0 w w':=by
 have hu93:=Try.underlying93
 have HR0:=q_ hr0
 have HC0:=q_ hc0
 clear hr0 hc0
 have HR1:=q_ hr1
 have HC1:=q_ hc1
 clear hr1 hc1
 have H:(if(l0.length:Int)=(l1.length:Int) then(laws_fracs5.l0 k l0 l1 0) else(some false))=some r:=h
 clear h
 by_cases c3:(l0.length:Int)=(l1.length:Int)
 ·rw [if_pos c3] at H
  have c3b0:((l0.length:Int)==(l1.length:Int))=true:=beq_iff_eq.mpr c3
  have c3b1:((l0.length:Int) !=(l1.length:Int))=false:=bne_eq_false_iff_eq.mpr c3
  have c3b2:(l0.length==l1.length)=true:=by first | simpa using c3 | (simp at c3 ⊢;omega)
  clear c3
  have H':=q_ H
  clear H
  go_enter Try.func75,Try.ntmps75
  go_wp2
  repeat (go_quiet (fail);try go_wp2)
  go_loopg [5] k (fun kq v5 w'=> ∃(aa:Int),v5= .int .i64 aa∧Aside0 (laws_fracs5.l0 kq l0 l1 aa=some r)∧Aside0 (kq≤k)∧Drawn0 w w')
  case atStart=>exact⟨(0),rs_,H',⟨Nat.le_refl _⟩,by repeat (first | exact Drawn0.refl _ | apply Drawn0.step)⟩
  case round=>
   clear H'
   try clear c1
   try clear p2
   try clear c3
   try clear c3b0
   try clear c3b1
   try clear c3b2
   obtain⟨aa,rfl,HA,HK1,⟨m1,rfl⟩⟩:=hrel
   cases gk with
   | zero=>exact absurd HA.out (by simp [laws_fracs5.l0])
   | succ k1=>
    have H:=HA.out
    clear HA
    simp only [laws_fracs5.l0] at H
    by_cases c4:aa < (l0.length:Int)
    ·rw [if_pos c4] at H
     have c4b0:decide (aa < (l0.length:Int))=true:=decide_eq_true c4
     clear c4
     by_cases c5:0≤aa
     ·rw [if_pos c5] at H
      have c5b0:decide (0≤aa)=true:=decide_eq_true c5
      clear c5
      by_cases c6:aa < (l1.length:Int)
      ·rw [if_pos c6] at H
       have c6b0:decide (aa < (l1.length:Int))=true:=decide_eq_true c6
       clear c6
       by_cases c7:(!(((rd_T93 l0 aa).f0)==((rd_T93 l1 aa).f0)) || (!(((rd_T93 l0 aa).f1)==((rd_T93 l1 aa).f1))))=true
       ·rw [if_pos c7] at H
        have c7b0:(!(((rd_T93 l0 aa).f0)==((rd_T93 l1 aa).f0)) || (!(((rd_T93 l0 aa).f1)==((rd_T93 l1 aa).f1))))=true:=c7
        clear c7
        obtain rfl:=Option.some.inj H
        have p1413:0≤(aa:Int):=od_
        have q1413:aa < (l0.length:Int):=od_
        obtain⟨ae,e1413,hx1413_0,hx1413_1⟩:=at_T93 HR0.out aa p1413 q1413
        cases e1413
        replace p1413:=eq_true p1413
        replace q1413:=eq_true q1413
        have p1414:0≤(aa:Int):=od_
        have q1414:aa < (l1.length:Int):=od_
        obtain⟨af,e1414,hx1414_0,hx1414_1⟩:=at_T93 HR1.out aa p1414 q1414
        cases e1414
        replace p1414:=eq_true p1414
        replace q1414:=eq_true q1414
        go_wp2
        repeat (go_quiet (fail);try go_wp2)
        go_ret
        exact⟨by first | rfl | (simp;done) | (simp [*];done),by repeat (first | exact Drawn0.refl _ | apply Drawn0.step)⟩
       ·rw [if_neg c7] at H
        have c7b0:(!(((rd_T93 l0 aa).f0)==((rd_T93 l1 aa).f0)) || (!(((rd_T93 l0 aa).f1)==((rd_T93 l1 aa).f1))))=false:=by simpa using c7
        clear c7
        have H':=q_ H
        clear H
        have p1413:0≤(aa:Int):=od_
        have q1413:aa < (l0.length:Int):=od_
        obtain⟨ae,e1413,hx1413_0,hx1413_1⟩:=at_T93 HR0.out aa p1413 q1413
        cases e1413
        replace p1413:=eq_true p1413
        replace q1413:=eq_true q1413
        have p1414:0≤(aa:Int):=od_
        have q1414:aa < (l1.length:Int):=od_
        obtain⟨af,e1414,hx1414_0,hx1414_1⟩:=at_T93 HR1.out aa p1414 q1414
        cases e1414
        replace p1414:=eq_true p1414
        replace q1414:=eq_true q1414
        go_wp2
        repeat (go_quiet (fail);try go_wp2)
        go_roundg k1
        case measure=>have:=HK1.out;omega
        case rel=>exact⟨(wrap64 (aa+1)),rs_,H',⟨by have:=HK1.out;omega⟩,by repeat (first | exact Drawn0.refl _ | apply Drawn0.step)⟩
      ·rw [if_neg c6] at H
       exact absurd H (by simp)
     ·rw [if_neg c5] at H
      exact absurd H (by simp)
    ·rw [if_neg c4] at H
     have c4b0:decide (aa < (l0.length:Int))=false:=decide_eq_false c4
     clear c4
     obtain rfl:=Option.some.inj H
     go_wp2
     repeat (go_quiet (fail);try go_wp2)
     go_ret
     exact⟨by first | rfl | (simp;done) | (simp [*];done),by repeat (first | exact Drawn0.refl _ | apply Drawn0.step)⟩
 ·rw [if_neg c3] at H
  have c3b0:((l0.length:Int)==(l1.length:Int))=false:=beq_eq_false_iff_ne.mpr c3
  have c3b1:((l0.length:Int) !=(l1.length:Int))=true:=bne_iff_ne.mpr c3
  have c3b2:(l0.length==l1.length)=false:=by first | simpa using c3 | (simp at c3 ⊢;omega)
  obtain rfl:=Option.some.inj H
  go_enter Try.func75,Try.ntmps75
  go_wp2
  repeat (go_quiet (fail);try go_wp2)
  go_ret
  exact⟨by first | rfl | (simp;done) | (simp [*];done),by repeat (first | exact Drawn0.refl _ | apply Drawn0.step)⟩
def slices_Index_int_int.l0:Nat→List Int→Int→Int→Int→Option (Int)
 | 0,_,_,_,_=>none
 | k+1,x0,x1,x7,x8=>if x8 < x7 then(if 0≤x8 then(if x8 < (x0.length:Int) then(if x1=(rd x0 x8) then(some x8) else(slices_Index_int_int.l0 k x0 x1 x7 (wrap64 (x8+1)))) else(none)) else(none)) else(some (-1))
def slices_Index_int_int.f (k:Nat) (l0:List Int) (a1:Int):Option (Int):=slices_Index_int_int.l0 k l0 a1 (l0.length:Int) 0
theorem slices_Index_int_int.mono_l: ∀k,(∀y0 y1 y2 y3,LeO (slices_Index_int_int.l0 k y0 y1 y2 y3) (slices_Index_int_int.l0 (k+1) y0 y1 y2 y3))
 | 0=>fun _ _ _ _ r h=>by simp [slices_Index_int_int.l0] at h
 | k+1=>by
  have ih0:=slices_Index_int_int.mono_l k
  ·intro y0 y1 y2 y3
   unfold slices_Index_int_int.l0
   repeat' first
   | (with_reducible exact ih0 _ _ _ _)
   | (with_reducible exact LeO.refl _)
   | (with_reducible exact LeO.none _)
   | (with_reducible refine LeO.ite ?_ ?_)
   | (with_reducible refine LeO.bind ?_ (fun _=>?_))
   | exact ih0 _ _ _ _
   | exact LeO.none _
   | refine LeO.ite ?_ ?_
   | refine LeO.bind ?_ (fun _=>?_)
theorem slices_Index_int_int.mono: ∀a0 a1 k,LeO (slices_Index_int_int.f k a0 a1) (slices_Index_int_int.f (k+1) a0 a1):=by
 intro a0 a1 k
 have ih0:=slices_Index_int_int.mono_l k
 unfold slices_Index_int_int.f
 repeat' first
   | (with_reducible exact ih0 _ _ _ _)
   | (with_reducible exact LeO.refl _)
   | (with_reducible exact LeO.none _)
   | (with_reducible refine LeO.ite ?_ ?_)
   | (with_reducible refine LeO.bind ?_ (fun _=>?_))
   | exact ih0 _ _ _ _
   | exact LeO.none _
   | refine LeO.ite ?_ ?_
   | refine LeO.bind ?_ (fun _=>?_)
theorem slices_Index_int_int.calls (k:Nat) (A0:Option Addr) (c0:Nat) (l0:List Int) (a1:Int) (r:Int) (w:World) (hr0:Kd.C (Kd.int .i64) w A0 l0.length l0) (hc0:l0.length≤c0) (h:slices_Index_int_int.f k l0 a1=some r):
  Calls Try.prog 148 #[.slice A0 l0.length c0, .int .i64 a1] w fun e w'=>e= .returned (.int .i64 r)∧Drawn0 w w':=by
 have HR0:=q_ hr0
 have HC0:=q_ hc0
 clear hr0 hc0
 have H:(slices_Index_int_int.l0 k l0 a1 (l0.length:Int) 0)=some r:=h
 clear h
 have H':=q_ H
 clear H
 go_enter Try.func148,Try.ntmps148
 go_wp2
 go_loopg [8] k (fun kq v8 w'=> ∃(aa:Int),v8= .int .i64 aa∧Aside0 (slices_Index_int_int.l0 kq l0 a1 (l0.length:Int) aa=some r)∧Aside0 (kq≤k)∧Drawn0 w w')
 case atStart=>exact⟨(0),rs_,H',⟨Nat.le_refl _⟩,by repeat (first | exact Drawn0.refl _ | apply Drawn0.step)⟩
 case round=>
  clear H'
  try clear c1
  try clear p2
  obtain⟨aa,rfl,HA,HK1,⟨m1,rfl⟩⟩:=hrel
  cases gk with
  | zero=>exact absurd HA.out (by simp [slices_Index_int_int.l0])
  | succ k1=>
   have H:=HA.out
   clear HA
   simp only [slices_Index_int_int.l0] at H
   by_cases c3:aa < (l0.length:Int)
   ·rw [if_pos c3] at H
    have c3b0:decide (aa < (l0.length:Int))=true:=decide_eq_true c3
    clear c3
    by_cases c4:0≤aa
    ·rw [if_pos c4] at H
     have c4b0:decide (0≤aa)=true:=decide_eq_true c4
     clear c4
     by_cases c5:aa < (l0.length:Int)
     ·rw [if_pos c5] at H
      have c5b0:decide (aa < (l0.length:Int))=true:=decide_eq_true c5
      clear c5
      by_cases c6:a1=(rd l0 aa)
      ·rw [if_pos c6] at H
       have c6b0:(a1==(rd l0 aa))=true:=beq_iff_eq.mpr c6
       have c6b1:(a1 !=(rd l0 aa))=false:=bne_eq_false_iff_eq.mpr c6
       clear c6
       obtain rfl:=Option.some.inj H
       have p1416:0≤(aa:Int):=od_
       have q1416:aa < (l0.length:Int):=od_
       obtain⟨ae,e1416,hx1416_0⟩:=Kd.at_int HR0.out aa p1416 q1416
       cases e1416
       replace p1416:=eq_true p1416
       replace q1416:=eq_true q1416
       go_wp2
       go_ret
       exact⟨by first | rfl | (simp;done) | (simp [*];done),by repeat (first | exact Drawn0.refl _ | apply Drawn0.step)⟩
      ·rw [if_neg c6] at H
       have c6b0:(a1==(rd l0 aa))=false:=beq_eq_false_iff_ne.mpr c6
       have c6b1:(a1 !=(rd l0 aa))=true:=bne_iff_ne.mpr c6
       have H':=q_ H
       clear H
       have p1416:0≤(aa:Int):=od_
       have q1416:aa < (l0.length:Int):=od_
       obtain⟨ae,e1416,hx1416_0⟩:=Kd.at_int HR0.out aa p1416 q1416
       cases e1416
       replace p1416:=eq_true p1416
       replace q1416:=eq_true q1416
       go_wp2
       go_roundg k1
       case measure=>have:=HK1.out;omega
       case rel=>exact⟨(wrap64 (aa+1)),rs_,H',⟨by have:=HK1.out;omega⟩,by repeat (first | exact Drawn0.refl _ | apply Drawn0.step)⟩
     ·rw [if_neg c5] at H
      exact absurd H (by simp)
    ·rw [if_neg c4] at H
     exact absurd H (by simp)
   ·rw [if_neg c3] at H
    have c3b0:decide (aa < (l0.length:Int))=false:=decide_eq_false c3
    clear c3
    obtain rfl:=Option.some.inj H
    go_wp2
    go_ret
    exact⟨by first | rfl | (simp;done) | (simp [*];done),by repeat (first | exact Drawn0.refl _ | apply Drawn0.step)⟩
def spec_BasisAfter.f (k:Nat) (af:List (List Int)) (ag:List Int) (l1:List Int) (a2:Int):Option (List Int × Int):=(spec_l05After.f k af ag l1 a2).bind fun aa=>(if aa.2.2.2=0 then((spec_l01Own.f aa.2.2.1).bind fun ae=>(some (ae,0))) else(some (([]:List Int),aa.2.2.2)))
theorem spec_BasisAfter.mono: ∀a0 a1 a2 a3 k,LeO (spec_BasisAfter.f k a0 a1 a2 a3) (spec_BasisAfter.f (k+1) a0 a1 a2 a3):=by
 intro a0 a1 a2 a3 k
 unfold spec_BasisAfter.f
 repeat' first
   | (with_reducible exact spec_l05After.mono _ _ _ _ _)
   | (with_reducible exact LeO.refl _)
   | (with_reducible exact LeO.none _)
   | (with_reducible refine LeO.ite ?_ ?_)
   | (with_reducible refine LeO.bind ?_ (fun _=>?_))
   | exact spec_l05After.mono _ _ _ _ _
   | exact LeO.none _
   | refine LeO.ite ?_ ?_
   | refine LeO.bind ?_ (fun _=>?_)
theorem spec_BasisAfter.calls (k:Nat) (az:Option Addr) (aA:Nat) (aj:List (List Int)) (aC:Option Addr) (aD:Nat) (ak:List Int) (A1:Option Addr) (c1:Nat) (l1:List Int) (a2:Int) (r1:List Int) (r2:Int) (w:World) (aY:Kd.C (Kd.slice 2 (Kd.int .i64)) w az aj.length aj) (aZ:aj.length≤aA) (a9:Kd.C (Kd.int .i64) w aC ak.length ak) (ba:ak.length≤aD) (hr1:Kd.C (Kd.int .i64) w A1 l1.length l1) (hc1:l1.length≤c1) (h:spec_BasisAfter.f k aj ak l1 a2=some (r1,r2)):
  Calls Try.prog 80 #[.agg #[.slice az aj.length aA, .slice aC ak.length aD], .slice A1 l1.length c1, .int .i64 a2] w fun e w'=> ∃v0_:Value,e= .returned (.tuple #[v0_, .int .i64 r2])∧Kd.R (Kd.int .i64) 2 w' w.heap.size (fun _=>True) v0_ r1∧Below w.heap.size w w':=by
 have hu30:=Try.underlying30
 have hu100:=Try.underlying100
 have HR0_0:=q_ aY
 have HC0_0:=q_ aZ
 clear aY aZ
 have HR0_1:=q_ a9
 have HC0_1:=q_ ba
 clear a9 ba
 have HR1:=q_ hr1
 have HC1:=q_ hc1
 clear hr1 hc1
 have HB:=q_ (Below.refl w.heap.size w)
 have H:((spec_l05After.f k aj ak l1 a2).bind fun aT=>(if aT.2.2.2=0 then((spec_l01Own.f aT.2.2.1).bind fun aG=>(some (aG,0))) else(some (([]:List Int),aT.2.2.2))))=some (r1,r2):=h
 clear h
 replace H:=Option.bind_eq_some_iff.mp H
 obtain⟨⟨av,ax,aq,aw⟩,A40,H⟩:=H
 replace H:(if aw=0 then((spec_l01Own.f aq).bind fun aG=>(some (aG,0))) else(some (([]:List Int),aw)))=some (r1,r2):=H
 have A4:=q_ A40
 clear A40
 by_cases c5:aw=0
 ·rw [if_pos c5] at H
  have c5b0:(aw==0)=true:=beq_iff_eq.mpr c5
  have c5b1:(aw !=0)=false:=bne_eq_false_iff_eq.mpr c5
  clear c5
  replace H:=Option.bind_eq_some_iff.mp H
  obtain⟨aG,A60,H⟩:=H
  replace H:(some (aG,0))=some (r1,r2):=H
  have A6:=q_ A60
  clear A60
  simp only [Option.some.injEq,Prod.mk.injEq] at H
  obtain⟨rfl,rfl⟩:=H
  go_enter Try.func80,Try.ntmps80
  go_wp2_with (first | ((with_reducible refine gate_dst (N:=3) rfl ?_);refine box_event ?hg (N:=3) ?hd (cs:= #[.slice az aj.length aA, .slice aC ak.length aD]) (t:=30) ?hr ?_;(case hd=>rfl);(case hg=>rfl);(case hr=>first | (go_simp;done) | (go_simp;rfl));intro ag hg w7 hbox hb;have ae:=q_ (hbox);have bg:=q_ ((by rw [hg];exact bz_:w.heap.size≤ag));have bh:=q_ ((by rw [hg];exact bz_:w.heap.size≤ag));replace HB:=q_ (bs_ hb);clear hb hbox hg;have bS:w7.cell? ⟨ag,0,none⟩=some (.slice az aj.length aA):=(blk_cell ae.out 0).trans rfl;have bT:w7.cell? ⟨ag,1,none⟩=some (.slice aC ak.length aD):=(blk_cell ae.out 1).trans rfl;have bU:=blk_frozen ae.out 0;have bV:=blk_frozen ae.out 1) | ((with_reducible refine gate_callee (f:=85) rfl ?_);refine gL_ 14 Try.func85 #[.agg #[.slice az aj.length aA, .slice aC ak.length aD], .slice A1 l1.length c1, .int .i64 a2] ?_;(with_reducible refine(spec_l05After.calls k _ _ aj _ _ ak _ _ l1 a2 av ax aq aw _ ?aK ?aM ?aU ?aV ?aW ?aX A4.out).mono ?_);(case aK=>exact cb_ HR0_0.out HB.out);(case aM=>exact HC0_0.out);(case aU=>exact cb_ HR0_1.out HB.out);(case aV=>exact HC0_1.out);(case aW=>exact cb_ HR1.out HB.out);(case aX=>exact HC1.out);rintro e w9 ⟨bq,bu,rfl,ho0,ho1,hb⟩;refine⟨_,rfl,?_⟩;have au:=q_ (Kd.S_lower ho0 bz_);have ah:=q_ (Kd.R_lower ho1 bz_);replace ae:=q_ (bb_ ae.out hb);replace HB:=q_ (bs_ hb);(try clear hb);(try clear hb2);(try clear hk);(try clear hi);(try clear ho0);(try clear ho1)) | ((with_reducible refine gate_dst (N:=8) rfl ?_);refine box_event ?hg (N:=8) ?hd (cs:= #[.slice none 0 0, .int .i64 0, .slice none 0 0]) (t:=100) ?hr ?_;(case hd=>rfl);(case hg=>rfl);(case hr=>first | (go_simp;done) | (go_simp;rfl));intro aa hg w10 hbox hb;replace au:=q_ (Kd.S_below (so_ au.out) hb);replace ah:=q_ (rb_ ah.out hb);have af:=q_ (hbox);have bi:=q_ ((by rw [hg];exact bz_:w.heap.size≤aa));have bk:=q_ ((by rw [hg];exact bz_:w.heap.size≤aa));have ai:=q_ ((by rw [hg];exact lt_ ae.out:ag≠aa));have ay:=q_ ((by rw [hg];exact gt_ ae.out:aa≠ag));replace ae:=q_ (bb_ ae.out hb);replace HB:=q_ (bs_ hb);clear hb hbox hg;obtain⟨aH,aI,bv⟩:=Kd.S_slice au.out;subst bv;have bW:=ay.out;have bX:=ai.out;have bB:w10.cell? ⟨aa,0,none⟩=some (.slice none 0 0):=(blk_cell af.out 0).trans rfl;have bC:w10.cell? ⟨aa,1,none⟩=some (.int .i64 0):=(blk_cell af.out 1).trans rfl;have bD:w10.cell? ⟨aa,2,none⟩=some (.slice none 0 0):=(blk_cell af.out 2).trans rfl;have bE:=blk_frozen af.out 0;have bF:=blk_frozen af.out 1;have bG:=blk_frozen af.out 2;obtain⟨aN,aJ,bw⟩:=Kd.R_slice ah.out;subst bw) | ((with_reducible refine gate_callee (f:=150) rfl ?_);refine gL_ 22 Try.func150 #[.slice aN aq.length aJ] ?_;(with_reducible refine(spec_l01Own.calls _ _ aq aG _ ?aK ?aM A6.out).mono ?_);(case aK=>refine(Kd.R_reads' (e:=2) (base:=w.heap.size) (ok:=fun k_=>True) (n:=aq.length) (c:=aJ) ?_).2.2;exact(by(with_reducible repeat (first | apply Kd.R_alloc | apply Kd.R_drewN | apply Kd.R_drew));exact(Kd.R_mono (Kd.R_far (p:=⟨aa,2,none⟩) (Kd.R_far (p:=⟨aa,1,none⟩) (Kd.R_far (p:=⟨aa,0,none⟩) (Kd.R_types ah.out af.out (by decide)) (fun _ hk=>hk.2) (.slice aH av.length aI)) (fun _ hk=>hk.2) (.int .i64 ax)) (fun _ hk=>hk.2) (.slice aN aq.length aJ)) (fun _ h_=>h_.1))));(case aM=>exact(Kd.R_reads' ah.out).2.1);rintro e w15 ⟨bY,rfl,ho0,hb⟩;refine⟨_,rfl,?_⟩;replace au:=q_ (Kd.S_elder' (by(with_reducible repeat (first | apply Kd.S_alloc | apply Kd.S_drewN | apply Kd.S_drew));exact(Kd.S_mono (Kd.S_far (p:=⟨aa,2,none⟩) (Kd.S_far (p:=⟨aa,1,none⟩) (Kd.S_far (p:=⟨aa,0,none⟩) (Kd.S_types au.out af.out (by decide)) (fun _ hk=>hk.2) (.slice aH av.length aI)) (fun _ hk=>hk.2) (.int .i64 ax)) (fun _ hk=>hk.2) (.slice aN aq.length aJ)) (fun _ h_=>h_.1))) (Kd.R_base ho0) hb);have bn:=q_ (Kd.R_lower (Kd.R_new' ho0 (Kd.R_lt (by(with_reducible repeat (first | apply Kd.R_alloc | apply Kd.R_drewN | apply Kd.R_drew));exact(Kd.R_mono (Kd.R_far (p:=⟨aa,2,none⟩) (Kd.R_far (p:=⟨aa,1,none⟩) (Kd.R_far (p:=⟨aa,0,none⟩) (Kd.R_types ah.out af.out (by decide)) (fun _ hk=>hk.2) (.slice aH av.length aI)) (fun _ hk=>hk.2) (.int .i64 ax)) (fun _ hk=>hk.2) (.slice aN aq.length aJ)) (fun _ h_=>h_.1))))) bz_);replace ae:=q_ (blk_below (g:=ag) (o:= .cells #[.slice az aj.length aA, .slice aC ak.length aD] 30 (0,0)) (by(with_reducible repeat (first | refine blk_drewN ?_ _ | refine blk_drew ?_ | refine blk_alloc ?_ _));refine blk_far ?_ ai.out _;(with_reducible repeat (first | refine blk_drewN ?_ _ | refine blk_drew ?_ | refine blk_alloc ?_ _));refine blk_far ?_ ai.out _;(with_reducible repeat (first | refine blk_drewN ?_ _ | refine blk_drew ?_ | refine blk_alloc ?_ _));refine blk_far ?_ ai.out _;(with_reducible repeat (first | refine blk_drewN ?_ _ | refine blk_drew ?_ | refine blk_alloc ?_ _));exact ae.out) hb);replace ah:=q_ (Kd.R_elder' (by(with_reducible repeat (first | apply Kd.R_alloc | apply Kd.R_drewN | apply Kd.R_drew));exact(Kd.R_mono (Kd.R_far (p:=⟨aa,2,none⟩) (Kd.R_far (p:=⟨aa,1,none⟩) (Kd.R_far (p:=⟨aa,0,none⟩) (Kd.R_types ah.out af.out (by decide)) (fun _ hk=>hk.2) (.slice aH av.length aI)) (fun _ hk=>hk.2) (.int .i64 ax)) (fun _ hk=>hk.2) (.slice aN aq.length aJ)) (fun _ h_=>h_.1))) (Kd.R_base ho0) hb);replace HB:=q_ (bs_ hb);replace af:=q_ (blk_below (g:=aa) (o:= .cells #[.slice aH av.length aI, .int .i64 ax, .slice aN aq.length aJ] 100 (0,0)) (by(with_reducible repeat (first | refine blk_drewN ?_ _ | refine blk_drew ?_ | refine blk_alloc ?_ _));refine blk_put (cs:= #[.slice aH av.length aI, .int .i64 ax, .slice none 0 0]) ?_ 2 _ rfl;(with_reducible repeat (first | refine blk_drewN ?_ _ | refine blk_drew ?_ | refine blk_alloc ?_ _));refine blk_put (cs:= #[.slice aH av.length aI, .int .i64 0, .slice none 0 0]) ?_ 1 _ rfl;(with_reducible repeat (first | refine blk_drewN ?_ _ | refine blk_drew ?_ | refine blk_alloc ?_ _));refine blk_put (cs:= #[.slice none 0 0, .int .i64 0, .slice none 0 0]) ?_ 0 _ rfl;(with_reducible repeat (first | refine blk_drewN ?_ _ | refine blk_drew ?_ | refine blk_alloc ?_ _));exact af.out) hb);(try clear hb);(try clear hb2);(try clear hk);(try clear hi);(try clear ho0)))
  go_ret2
  exact⟨_,by first | rfl | (simp [errW_none,errW_some] <;> rfl) | (simp [*,errW_none,errW_some] <;> rfl),by(with_reducible repeat (first | apply Kd.R_alloc | apply Kd.R_drewN | apply Kd.R_drew));exact Kd.R_mono bn.out (fun _ hk=>trivial),hb_⟩
 ·rw [if_neg c5] at H
  have c5b0:(aw==0)=false:=beq_eq_false_iff_ne.mpr c5
  have c5b1:(aw !=0)=true:=bne_iff_ne.mpr c5
  simp only [Option.some.injEq,Prod.mk.injEq] at H
  obtain⟨rfl,rfl⟩:=H
  go_enter Try.func80,Try.ntmps80
  go_wp2_with (first | ((with_reducible refine gate_dst (N:=3) rfl ?_);refine box_event ?hg (N:=3) ?hd (cs:= #[.slice az aj.length aA, .slice aC ak.length aD]) (t:=30) ?hr ?_;(case hd=>rfl);(case hg=>rfl);(case hr=>first | (go_simp;done) | (go_simp;rfl));intro ag hg w16 hbox hb;have ae:=q_ (hbox);have bg:=q_ ((by rw [hg];exact bz_:w.heap.size≤ag));have bh:=q_ ((by rw [hg];exact bz_:w.heap.size≤ag));replace HB:=q_ (bs_ hb);clear hb hbox hg;have bH:w16.cell? ⟨ag,0,none⟩=some (.slice az aj.length aA):=(blk_cell ae.out 0).trans rfl;have bI:w16.cell? ⟨ag,1,none⟩=some (.slice aC ak.length aD):=(blk_cell ae.out 1).trans rfl;have bJ:=blk_frozen ae.out 0;have bK:=blk_frozen ae.out 1) | ((with_reducible refine gate_callee (f:=85) rfl ?_);refine gL_ 14 Try.func85 #[.agg #[.slice az aj.length aA, .slice aC ak.length aD], .slice A1 l1.length c1, .int .i64 a2] ?_;(with_reducible refine(spec_l05After.calls k _ _ aj _ _ ak _ _ l1 a2 av ax aq aw _ ?aK ?aM ?aU ?aV ?aW ?aX A4.out).mono ?_);(case aK=>exact cb_ HR0_0.out HB.out);(case aM=>exact HC0_0.out);(case aU=>exact cb_ HR0_1.out HB.out);(case aV=>exact HC0_1.out);(case aW=>exact cb_ HR1.out HB.out);(case aX=>exact HC1.out);rintro e w18 ⟨bq,bu,rfl,ho0,ho1,hb⟩;refine⟨_,rfl,?_⟩;have au:=q_ (Kd.S_lower ho0 bz_);have ah:=q_ (Kd.R_lower ho1 bz_);replace ae:=q_ (bb_ ae.out hb);replace HB:=q_ (bs_ hb);(try clear hb);(try clear hb2);(try clear hk);(try clear hi);(try clear ho0);(try clear ho1)) | ((with_reducible refine gate_dst (N:=8) rfl ?_);refine box_event ?hg (N:=8) ?hd (cs:= #[.slice none 0 0, .int .i64 0, .slice none 0 0]) (t:=100) ?hr ?_;(case hd=>rfl);(case hg=>rfl);(case hr=>first | (go_simp;done) | (go_simp;rfl));intro aa hg w19 hbox hb;replace au:=q_ (Kd.S_below (so_ au.out) hb);replace ah:=q_ (rb_ ah.out hb);have af:=q_ (hbox);have bi:=q_ ((by rw [hg];exact bz_:w.heap.size≤aa));have bk:=q_ ((by rw [hg];exact bz_:w.heap.size≤aa));have ai:=q_ ((by rw [hg];exact lt_ ae.out:ag≠aa));have ay:=q_ ((by rw [hg];exact gt_ ae.out:aa≠ag));replace ae:=q_ (bb_ ae.out hb);replace HB:=q_ (bs_ hb);clear hb hbox hg;obtain⟨cn,co,bz⟩:=Kd.S_slice au.out;subst bz;have bZ:=ay.out;have cm:=ai.out;have bL:w19.cell? ⟨aa,0,none⟩=some (.slice none 0 0):=(blk_cell af.out 0).trans rfl;have bM:w19.cell? ⟨aa,1,none⟩=some (.int .i64 0):=(blk_cell af.out 1).trans rfl;have bN:w19.cell? ⟨aa,2,none⟩=some (.slice none 0 0):=(blk_cell af.out 2).trans rfl;have bO:=blk_frozen af.out 0;have bP:=blk_frozen af.out 1;have bQ:=blk_frozen af.out 2;obtain⟨cq,ct,bA⟩:=Kd.R_slice ah.out;subst bA))
  go_ret2
  exact⟨_,by first | rfl | (simp [errW_none,errW_some] <;> rfl) | (simp [*,errW_none,errW_some] <;> rfl),by first | exact Kd.R_nil _ _ _ _ _ | exact Kd.N_nil _ _ _ _ _ | exact Kd.V_nil _ _ _ _ _ | exact Kd.Q_nil _ _ _ _ _ | exact Kd.S_nil _ _ _ _ _,hb_⟩
end Go.Proofs.Ytmpkckiifeikkaa.Pr
end
