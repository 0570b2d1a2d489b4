/- Texts of one claim (the words of the kit's print that the claim uses, printed functions, and this session's own texts), joined in the order of their imports by this session's own program (merge.py). -/
import Derived.Test.YtmpkckiifeikkaaRows
import Derived.WalkKit
import Derived.ProofKit
import Derived.OpenShut
import Derived.ShutString
import Derived.ChangeOld
import Derived.Below
import Derived.SizedLaws
import Derived.Test.YtmpkckiifeikkaaJnFnExactLemkeSolution0
import Derived.Test.YtmpkckiifeikkaaJnFnExactLemkeSolution1
import Derived.Test.YtmpkckiifeikkaaJnFnExactLemkeSolution2
import Derived.Test.YtmpkckiifeikkaaJnFnExactLemkeSolution3
set_option linter.unusedVariables false
set_option linter.unusedSimpArgs false
set_option maxHeartbeats 8000000
set_option maxRecDepth 100000
section
namespace Go.Proofs.Ytmpkckiifeikkaa.Pr
open Go.RowKit Go.Proofs.YtmpkckiifeikkaaW.PrintWords Go.Proofs.YtmpkckiifeikkaaW.PrintLast Go.Proofs.YtmpkckiifeikkaaW.PrintMore
attribute [local go_sem] max2_int min2_int max_two min_two max_three min_three max_four min_four
mutual
def spec_l05Z.l0:Nat→List (S93)→Int→List (S93)→Int→List (List Int)→Int→List Int→Option ((List (S93)) × Int)
 | 0,_,_,_,_,_,_,_=>none
 | k+1,x4,x6,x7,x8,ae,af,aa=>if x8 < x6 then(spec_l05Z.l1 k x4 x6 x7 x8 0 ae af aa 0 1) else(some (x7,0))
def spec_l05Z.l1:Nat→List (S93)→Int→List (S93)→Int→Int→List (List Int)→Int→List Int→Int→Int→Option ((List (S93)) × Int)
 | 0,_,_,_,_,_,_,_,_,_,_=>none
 | k+1,x4,x6,x7,x8,x10,ae,af,aa,ag,ah=>if x10 < (aa.length:Int) then(if 0≤x10 then(if(rd aa x10)=(wrap64 (x6+x8)) then(if x10 < (x4.length:Int) then(spec_l05Z.l1 k x4 x6 x7 x8 (wrap64 (x10+1)) ae af aa ((rd_T93 x4 x10).f0) ((rd_T93 x4 x10).f1)) else(none)) else(spec_l05Z.l1 k x4 x6 x7 x8 (wrap64 (x10+1)) ae af aa ag ah)) else(none)) else(if x7.length < 8796093022208 then(spec_l05Z.l0 k x4 x6 (x7++ [(⟨ag,ah⟩:S93)]) (wrap64 (x8+1)) ae af aa) else(none))
end
def spec_l05Z.f (k:Nat) (ae:List (List Int)) (a0_1:Int) (af:List Int):Option ((List (S93)) × Int):=(spec_l05Right.f k ae a0_1 af).bind fun aa=>(if aa.2=0 then(spec_l05Z.l0 k aa.1 (ae.length:Int) (([]:List (S93))) 0 ae a0_1 af) else(some (([]:List (S93)),aa.2)))
theorem spec_l05Z.mono_l: ∀k,(∀y0 y1 y2 y3 y4 y5 y6,LeO (spec_l05Z.l0 k y0 y1 y2 y3 y4 y5 y6) (spec_l05Z.l0 (k+1) y0 y1 y2 y3 y4 y5 y6))∧(∀y0 y1 y2 y3 y4 y5 y6 y7 y8 y9,LeO (spec_l05Z.l1 k y0 y1 y2 y3 y4 y5 y6 y7 y8 y9) (spec_l05Z.l1 (k+1) y0 y1 y2 y3 y4 y5 y6 y7 y8 y9))
 | 0=>⟨fun _ _ _ _ _ _ _ r h=>by simp [spec_l05Z.l0] at h,fun _ _ _ _ _ _ _ _ _ _ r h=>by simp [spec_l05Z.l1] at h⟩
 | k+1=>by
  obtain⟨ih0,ih1⟩:=spec_l05Z.mono_l k
  refine⟨?_,?_⟩
  ·intro y0 y1 y2 y3 y4 y5 y6
   unfold spec_l05Z.l0
   repeat' first
   | (with_reducible exact ih0 _ _ _ _ _ _ _)
   | (with_reducible exact ih1 _ _ _ _ _ _ _ _ _ _)
   | (with_reducible exact spec_l05Right.mono _ _ _ _)
   | (with_reducible exact LeO.refl _)
   | (with_reducible exact LeO.none _)
   | (with_reducible refine LeO.ite ?_ ?_)
   | (with_reducible refine LeO.bind ?_ (fun _=>?_))
   | exact ih0 _ _ _ _ _ _ _
   | exact ih1 _ _ _ _ _ _ _ _ _ _
   | exact spec_l05Right.mono _ _ _ _
   | exact LeO.none _
   | refine LeO.ite ?_ ?_
   | refine LeO.bind ?_ (fun _=>?_)
  ·intro y0 y1 y2 y3 y4 y5 y6 y7 y8 y9
   unfold spec_l05Z.l1
   repeat' first
   | (with_reducible exact ih0 _ _ _ _ _ _ _)
   | (with_reducible exact ih1 _ _ _ _ _ _ _ _ _ _)
   | (with_reducible exact spec_l05Right.mono _ _ _ _)
   | (with_reducible exact LeO.refl _)
   | (with_reducible exact LeO.none _)
   | (with_reducible refine LeO.ite ?_ ?_)
   | (with_reducible refine LeO.bind ?_ (fun _=>?_))
   | exact ih0 _ _ _ _ _ _ _
   | exact ih1 _ _ _ _ _ _ _ _ _ _
   | exact spec_l05Right.mono _ _ _ _
   | exact LeO.none _
   | refine LeO.ite ?_ ?_
   | refine LeO.bind ?_ (fun _=>?_)
theorem spec_l05Z.mono: ∀a0 a1 a2 k,LeO (spec_l05Z.f k a0 a1 a2) (spec_l05Z.f (k+1) a0 a1 a2):=by
 intro a0 a1 a2 k
 obtain⟨ih0,ih1⟩:=spec_l05Z.mono_l k
 unfold spec_l05Z.f
 repeat' first
   | (with_reducible exact ih0 _ _ _ _ _ _ _)
   | (with_reducible exact ih1 _ _ _ _ _ _ _ _ _ _)
   | (with_reducible exact spec_l05Right.mono _ _ _ _)
   | (with_reducible exact LeO.refl _)
   | (with_reducible exact LeO.none _)
   | (with_reducible refine LeO.ite ?_ ?_)
   | (with_reducible refine LeO.bind ?_ (fun _=>?_))
   | exact ih0 _ _ _ _ _ _ _
   | exact ih1 _ _ _ _ _ _ _ _ _ _
   | exact spec_l05Right.mono _ _ _ _
   | exact LeO.none _
   | refine LeO.ite ?_ ?_
   | refine LeO.bind ?_ (fun _=>?_)
theorem spec_l05Z.calls (k:Nat) (aw:Option Addr) (ax:Nat) (af:List (List Int)) (a0_1:Int) (ay:Option Addr) (az:Nat) (ah:List Int) (r1:List (S93)) (r2:Int) (w:World) (bq:Kd.C (Kd.slice 2 (Kd.int .i64)) w aw af.length af) (bu:af.length≤ax) (bv:Kd.C (Kd.int .i64) w ay ah.length ah) (bw:ah.length≤az) (h:spec_l05Z.f k af a0_1 ah=some (r1,r2)):
  Calls Try.prog 96 #[.agg #[.slice aw af.length ax, .int .i64 a0_1, .slice ay ah.length az]] w fun e w'=> ∃v0_:Value,e= .returned (.tuple #[v0_, .int .i64 r2])∧Kd.R k93 93 w' w.heap.size (fun _=>True) v0_ r1∧Below w.heap.size w w':=by
 have hu100:=Try.underlying100
 have hu93:=Try.underlying93
 have HR0_0:=Aside0.mk bq
 have HC0_0:=Aside0.mk bu
 clear bq bu
 have HR0_2:=Aside0.mk bv
 have HC0_2:=Aside0.mk bw
 clear bv bw
 have HB:=Aside0.mk (Below.refl w.heap.size w)
 have H:((spec_l05Right.f k af a0_1 ah).bind fun aM=>(if aM.2=0 then(spec_l05Z.l0 k aM.1 (af.length:Int) (([]:List (S93))) 0 af a0_1 ah) else(some (([]:List (S93)),aM.2))))=some (r1,r2):=h
 clear h
 replace H:=Option.bind_eq_some_iff.mp H
 obtain⟨⟨av,aH⟩,A20,H⟩:=H
 replace H:(if aH=0 then(spec_l05Z.l0 k av (af.length:Int) (([]:List (S93))) 0 af a0_1 ah) else(some (([]:List (S93)),aH)))=some (r1,r2):=H
 have A2:=Aside0.mk A20
 clear A20
 by_cases c3:aH=0
 ·rw [if_pos c3] at H
  have c3b0:(aH==0)=true:=beq_iff_eq.mpr c3
  have c3b1:(aH !=0)=false:=bne_eq_false_iff_eq.mpr c3
  clear c3
  obtain⟨bE,hy394⟩: ∃y_:List (S93),y_=(([]:List (S93))):=⟨_,rfl⟩
  replace H:(spec_l05Z.l0 k av (af.length:Int) bE 0 af a0_1 ah)=some (r1,r2):=by first | (rw [hy394];with_reducible exact H) | (have H2_:=(Option.bind_some _ _).symm.trans H;rw [hy394];with_reducible exact H2_) | (have H2_:=(Option.bind_some _ _).symm.trans H;with_reducible exact H2_) | with_reducible exact H | (rw [hy394];exact H) | exact H
  have bz:=Aside0.mk hy394
  clear hy394
  have H':=Aside0.mk H
  clear H
  go_enter Try.func96,Try.ntmps96
  go_wp2_with (first | ((with_reducible refine gate_dst (N:=1) rfl ?_);refine box_event ?hg (N:=1) ?hd (cs:= #[.slice aw af.length ax, .int .i64 a0_1, .slice ay ah.length az]) (t:=100) ?hr ?_;(case hd=>rfl);(case hg=>rfl);(case hr=>first | (go_simp;done) | (go_simp;rfl));intro ai hg w4 hbox hb;have aa:=Aside0.mk (hbox);have bG:=Aside0.mk ((by rw [hg];exact bz_:w.heap.size≤ai));have bH:=Aside0.mk ((by rw [hg];exact bz_:w.heap.size≤ai));replace HB:=Aside0.mk (bs_ hb);clear hb hbox hg;have aW:w4.cell? ⟨ai,0,none⟩=some (.slice aw af.length ax):=(blk_cell aa.out 0).trans rfl;have aX:w4.cell? ⟨ai,1,none⟩=some (.int .i64 a0_1):=(blk_cell aa.out 1).trans rfl;have aY:w4.cell? ⟨ai,2,none⟩=some (.slice ay ah.length az):=(blk_cell aa.out 2).trans rfl;have aZ:=blk_frozen aa.out 0;have a9:=blk_frozen aa.out 1;have ba:=blk_frozen aa.out 2) | ((with_reducible refine gate_callee (f:=86) rfl ?_);refine gL_ 13 Try.func86 #[.agg #[.slice aw af.length ax, .int .i64 a0_1, .slice ay ah.length az]] ?_;(with_reducible refine(spec_l05Right.calls k _ _ af a0_1 _ _ ah av aH _ ?aN ?aT ?aU ?aV A2.out).mono ?_);(case aN=>exact cb_ HR0_0.out HB.out);(case aT=>exact HC0_0.out);(case aU=>exact cb_ HR0_2.out HB.out);(case aV=>exact HC0_2.out);rintro e w6 ⟨aK,rfl,ho0,hb⟩;refine⟨_,rfl,?_⟩;have aJ:=Aside0.mk (Kd.R_lower ho0 bz_);replace aa:=Aside0.mk (bb_ aa.out hb);replace HB:=Aside0.mk (bs_ hb);(try clear hb);(try clear hb2);(try clear hk);(try clear hi);(try clear ho0);have bb:w6.cell? ⟨ai,0,none⟩=some (.slice aw af.length ax):=(blk_cell aa.out 0).trans rfl;have bg:w6.cell? ⟨ai,1,none⟩=some (.int .i64 a0_1):=(blk_cell aa.out 1).trans rfl;have bh:w6.cell? ⟨ai,2,none⟩=some (.slice ay ah.length az):=(blk_cell aa.out 2).trans rfl;have bi:=blk_frozen aa.out 0;have bk:=blk_frozen aa.out 1;have bn:=blk_frozen aa.out 2) | ((with_reducible refine gate_dst (N:=22) rfl ?_);refine Kd.R_lit k93 _ 93 ?hg (N:=22) ?hd (xs:=([]:List (S93))) (inner:= []) (ok:=fun _=>True) (okp:=fun _=>True) ?hr ?hp (fun _ hk=>hk) trivial (Below.refl _ _) (Nat.le_refl _) (by simp) ?_;(case hd=>rfl);(case hg=>rfl);(case hr=>first | (go_simp;done) | (go_simp;rfl));(case hp=>exact(Reps.none _ _));intro df w8 ho9 hb hg_ hnew_;clear hg_ hnew_;(first | rw [← bz.out] at ho9 | (simp only [Int.reduceToNat] at ho9;rw [← bz.out] at ho9));have bI:=Aside0.mk (Kd.R_lower (Kd.R_new' ho9 (Kd.R_lt (ro_ aJ.out))) bz_);replace aa:=Aside0.mk (bb_ aa.out hb);replace aJ:=Aside0.mk (Kd.R_elder' (ro_ aJ.out) (Kd.R_base ho9) hb);replace HB:=Aside0.mk (bs_ hb);clear hb ho9))
  go_loopg [7,8] k (fun kq v7 v8 w'=> ∃(aI:List (S93)) (aA:Int),v8= .int .i64 aA∧Aside0 (spec_l05Z.l0 kq av (af.length:Int) aI aA af a0_1 ah=some (r1,r2))∧Aside0 (kq≤k)∧Aside0 (Kd.R k93 93 w' w.heap.size (fun k_=>some k_≠(v7:Value).ownBlock) aK av)∧Aside0 (Kd.R k93 93 w' w.heap.size (fun k_=>some k_≠(aK:Value).ownBlock) v7 aI)∧Aside0 (w'.heap[ai]?=some (.cells #[(.slice aw af.length ax), .int .i64 a0_1,(.slice ay ah.length az)] 100 (0,0)))∧Aside0 (Below w.heap.size w w'))
  case atStart=>exact⟨(bE),(0),rs_,H',⟨Nat.le_refl _⟩,⟨by(with_reducible repeat (first | apply Kd.R_alloc | apply Kd.R_drewN | apply Kd.R_drew));exact Kd.R_mono aJ.out (fun _ hk=>hk.2)⟩,⟨by(with_reducible repeat (first | apply Kd.R_alloc | apply Kd.R_drewN | apply Kd.R_drew));exact Kd.R_mono bI.out (fun _ hk=>hk.2)⟩,⟨bk_⟩,⟨hb_⟩⟩
  case round=>
   clear H'
   try clear p2
   try clear c3
   try clear c3b0
   try clear c3b1
   try clear c8
   try clear c9
   try clear aW
   try clear aX
   try clear aY
   try clear bb
   try clear bg
   try clear bh
   try clear aZ
   try clear a9
   try clear ba
   try clear bi
   try clear bk
   try clear bn
   obtain⟨aI,aA,rfl,HA,HK1,aC,aD,aa,HB⟩:=hrel
   cases gk with
   | zero=>exact absurd HA.out (by simp [spec_l05Z.l0])
   | succ k1=>
    have H:=HA.out
    clear HA
    simp only [spec_l05Z.l0] at H
    by_cases c10:aA < (af.length:Int)
    ·rw [if_pos c10] at H
     have c10b0:decide (aA < (af.length:Int))=true:=decide_eq_true c10
     clear c10
     have H':=Aside0.mk H
     clear H
     go_wp2_with (first | ((with_reducible refine gate_dst (N:=9) rfl ?_);refine box_event ?hg (N:=9) ?hd (cs:= #[.int .i64 0, .int .i64 0]) (t:=93) ?hr ?_;(case hd=>rfl);(case hg=>rfl);(case hr=>first | (go_simp;done) | (go_simp;rfl));intro ag hg w11 hbox hb;replace aC:=Aside0.mk (Kd.R_below (Kd.R_elderB (ro_ aC.out) ag (Nat.le_of_eq hg.symm)) hb);replace aD:=Aside0.mk (Kd.R_below (Kd.R_elderB (ro_ aD.out) ag (Nat.le_of_eq hg.symm)) hb);have aq:=Aside0.mk (hbox);have cP:=Aside0.mk ((by rw [hg];exact bz_:w.heap.size≤ag));have cQ:=Aside0.mk ((by rw [hg];exact bz_:w.heap.size≤ag));have au:=Aside0.mk ((by rw [hg];exact lt_ aa.out:ai≠ag));have aG:=Aside0.mk ((by rw [hg];exact gt_ aa.out:ag≠ai));replace aa:=Aside0.mk (bb_ aa.out hb);replace HB:=Aside0.mk (bs_ hb);clear hb hbox hg;have cS:=aG.out;have cT:=au.out;have bA:w11.cell? ⟨ag,0,none⟩=some (.int .i64 0):=(blk_cell aq.out 0).trans rfl;have bB:w11.cell? ⟨ag,1,none⟩=some (.int .i64 0):=(blk_cell aq.out 1).trans rfl;have bC:=blk_frozen aq.out 0;have bD:=blk_frozen aq.out 1))
     go_loopg [10] k1 (fun kq v10 w'=> ∃(ae:Int) (ak:Int) (aj:Int),v10= .int .i64 ae∧Aside0 (spec_l05Z.l1 kq av (af.length:Int) aI aA ae af a0_1 ah ak aj=some (r1,r2))∧Aside0 (kq≤k1)∧Aside0 (Kd.R k93 93 w' w.heap.size (fun k_=>some k_≠(u7:Value).ownBlock∧k_≠ag) aK av)∧Aside0 (Kd.R k93 93 w' w.heap.size (fun k_=>some k_≠(aK:Value).ownBlock∧k_≠ag) u7 aI)∧Aside0 (w'.heap[ai]?=some (.cells #[(.slice aw af.length ax), .int .i64 a0_1,(.slice ay ah.length az)] 100 (0,0)))∧Aside0 (w'.heap[ag]?=some (.cells #[.int .i64 ak, .int .i64 aj] 93 (0,0)))∧Aside0 (Below w.heap.size w w'))
     case atStart=>exact⟨(0),(0),(1),rs_,H',⟨Nat.le_refl _⟩,⟨by(with_reducible repeat (first | apply Kd.R_alloc | apply Kd.R_drewN | apply Kd.R_drew));exact Kd.R_mono (Kd.R_far (p:=⟨ag,1,none⟩) (Kd.R_far (p:=⟨ag,0,none⟩) (Kd.R_mono aC.out (fun k_ hk=>(⟨hk,hk.2⟩:_∧k_≠ag))) (fun _ hk=>hk.2) (.int .i64 0)) (fun _ hk=>hk.2) (.int .i64 1)) (fun _ hk=>⟨hk.1.1,hk.1.2⟩)⟩,⟨by(with_reducible repeat (first | apply Kd.R_alloc | apply Kd.R_drewN | apply Kd.R_drew));exact Kd.R_mono (Kd.R_far (p:=⟨ag,1,none⟩) (Kd.R_far (p:=⟨ag,0,none⟩) (Kd.R_mono aD.out (fun k_ hk=>(⟨hk,hk.2⟩:_∧k_≠ag))) (fun _ hk=>hk.2) (.int .i64 0)) (fun _ hk=>hk.2) (.int .i64 1)) (fun _ hk=>⟨hk.1.1,hk.1.2⟩)⟩,⟨by(with_reducible repeat (first | refine blk_drewN ?_ _ | refine blk_drew ?_ | refine blk_alloc ?_ _));refine blk_far ?_ au.out _;(with_reducible repeat (first | refine blk_drewN ?_ _ | refine blk_drew ?_ | refine blk_alloc ?_ _));refine blk_far ?_ au.out _;(with_reducible repeat (first | refine blk_drewN ?_ _ | refine blk_drew ?_ | refine blk_alloc ?_ _));exact aa.out⟩,⟨by(with_reducible repeat (first | refine blk_drewN ?_ _ | refine blk_drew ?_ | refine blk_alloc ?_ _));refine blk_put (cs:= #[.int .i64 0, .int .i64 0]) ?_ 1 _ rfl;(with_reducible repeat (first | refine blk_drewN ?_ _ | refine blk_drew ?_ | refine blk_alloc ?_ _));refine blk_put (cs:= #[.int .i64 0, .int .i64 0]) ?_ 0 _ rfl;(with_reducible repeat (first | refine blk_drewN ?_ _ | refine blk_drew ?_ | refine blk_alloc ?_ _));exact aq.out⟩,⟨hb_⟩⟩
     case round=>
      clear H'
      try clear c1
      try clear p2
      try clear c3
      try clear c3b0
      try clear c3b1
      try clear c8
      try clear c9
      try clear c10
      try clear c10b0
      try clear c12
      try clear bA
      try clear bB
      try clear aW
      try clear aX
      try clear aY
      try clear bb
      try clear bg
      try clear bh
      try clear bC
      try clear bD
      try clear aZ
      try clear a9
      try clear ba
      try clear bi
      try clear bk
      try clear bn
      try clear p2
      obtain⟨ae,ak,aj,rfl,HA,HK2,aC,aD,aa,aq,HB⟩:=hrel
      cases gk with
      | zero=>exact absurd HA.out (by simp [spec_l05Z.l1])
      | succ k2=>
       have H:=HA.out
       clear HA
       simp only [spec_l05Z.l1] at H
       by_cases c14:ae < (ah.length:Int)
       ·rw [if_pos c14] at H
        have c14b0:decide (ae < (ah.length:Int))=true:=decide_eq_true c14
        clear c14
        by_cases c15:0≤ae
        ·rw [if_pos c15] at H
         have c15b0:decide (0≤ae)=true:=decide_eq_true c15
         clear c15
         by_cases c16:(rd ah ae)=(wrap64 ((af.length:Int)+aA))
         ·rw [if_pos c16] at H
          have c16b0:((rd ah ae)==(wrap64 ((af.length:Int)+aA)))=true:=beq_iff_eq.mpr c16
          have c16b1:((rd ah ae) !=(wrap64 ((af.length:Int)+aA)))=false:=bne_eq_false_iff_eq.mpr c16
          clear c16
          by_cases c17:ae < (av.length:Int)
          ·rw [if_pos c17] at H
           have c17b0:decide (ae < (av.length:Int))=true:=decide_eq_true c17
           clear c17
           have H':=Aside0.mk H
           clear H
           have cU:=au.out
           have cV:=aG.out
           have bO:wr.cell? ⟨ai,0,none⟩=some (.slice aw af.length ax):=(blk_cell aa.out 0).trans rfl
           have bP:wr.cell? ⟨ai,1,none⟩=some (.int .i64 a0_1):=(blk_cell aa.out 1).trans rfl
           have bQ:wr.cell? ⟨ai,2,none⟩=some (.slice ay ah.length az):=(blk_cell aa.out 2).trans rfl
           have bS:=blk_frozen aa.out 0
           have bT:=blk_frozen aa.out 1
           have bU:=blk_frozen aa.out 2
           have p398:0≤(ae:Int):=od_
           have q398:ae < (ah.length:Int):=od_
           obtain⟨bJ,e398,hx398_0⟩:=Kd.at_int HR0_2.out ae p398 q398
           cases e398
           replace hx398_0:=(HB.out.cell (World.block_lt_of_cell? w _ hx398_0)).trans hx398_0
           replace p398:=eq_true p398
           replace q398:=eq_true q398
           obtain⟨dh,di,bN⟩:=Kd.R_slice aC.out
           subst bN
           have p399:0≤(ae:Int):=od_
           have q399:ae < (av.length:Int):=od_
           obtain⟨cW,e399,hx399_0,hx399_1⟩:=at_T93 (Kd.R_reads' aC.out).2.2 ae p399 q399
           cases e399
           replace p399:=eq_true p399
           replace q399:=eq_true q399
           have bV:wr.cell? ⟨ag,0,none⟩=some (.int .i64 ak):=(blk_cell aq.out 0).trans rfl
           have bW:wr.cell? ⟨ag,1,none⟩=some (.int .i64 aj):=(blk_cell aq.out 1).trans rfl
           have bX:=blk_frozen aq.out 0
           have bY:=blk_frozen aq.out 1
           go_wp2
           go_roundg k2
           case measure=>have:=HK1.out;have:=HK2.out;omega
           case rel=>exact⟨(wrap64 (ae+1)),((rd_T93 av ae).f0),((rd_T93 av ae).f1),rs_,H',⟨by have:=HK1.out;have:=HK2.out;omega⟩,⟨by(with_reducible repeat (first | apply Kd.R_alloc | apply Kd.R_drewN | apply Kd.R_drew));exact Kd.R_mono (Kd.R_far (p:=⟨ag,1,none⟩) (Kd.R_far (p:=⟨ag,0,none⟩) (Kd.R_mono aC.out (fun k_ hk=>(⟨hk,hk.2⟩:_∧k_≠ag))) (fun _ hk=>hk.2) (.int .i64 ((rd_T93 av ae).f0))) (fun _ hk=>hk.2) (.int .i64 ((rd_T93 av ae).f1))) (fun _ hk=>⟨hk.1.1,hk.1.2⟩)⟩,⟨by(with_reducible repeat (first | apply Kd.R_alloc | apply Kd.R_drewN | apply Kd.R_drew));exact Kd.R_mono (Kd.R_far (p:=⟨ag,1,none⟩) (Kd.R_far (p:=⟨ag,0,none⟩) (Kd.R_mono aD.out (fun k_ hk=>(⟨hk,hk.2⟩:_∧k_≠ag))) (fun _ hk=>hk.2) (.int .i64 ((rd_T93 av ae).f0))) (fun _ hk=>hk.2) (.int .i64 ((rd_T93 av ae).f1))) (fun _ hk=>⟨hk.1.1,hk.1.2⟩)⟩,⟨by(with_reducible repeat (first | refine blk_drewN ?_ _ | refine blk_drew ?_ | refine blk_alloc ?_ _));refine blk_far ?_ au.out _;(with_reducible repeat (first | refine blk_drewN ?_ _ | refine blk_drew ?_ | refine blk_alloc ?_ _));refine blk_far ?_ au.out _;(with_reducible repeat (first | refine blk_drewN ?_ _ | refine blk_drew ?_ | refine blk_alloc ?_ _));exact aa.out⟩,⟨by(with_reducible repeat (first | refine blk_drewN ?_ _ | refine blk_drew ?_ | refine blk_alloc ?_ _));refine blk_put (cs:= #[.int .i64 ((rd_T93 av ae).f0), .int .i64 aj]) ?_ 1 _ rfl;(with_reducible repeat (first | refine blk_drewN ?_ _ | refine blk_drew ?_ | refine blk_alloc ?_ _));refine blk_put (cs:= #[.int .i64 ak, .int .i64 aj]) ?_ 0 _ rfl;(with_reducible repeat (first | refine blk_drewN ?_ _ | refine blk_drew ?_ | refine blk_alloc ?_ _));exact aq.out⟩,⟨hb_⟩⟩
          ·rw [if_neg c17] at H
           exact absurd H (by simp)
         ·rw [if_neg c16] at H
          have c16b0:((rd ah ae)==(wrap64 ((af.length:Int)+aA)))=false:=beq_eq_false_iff_ne.mpr c16
          have c16b1:((rd ah ae) !=(wrap64 ((af.length:Int)+aA)))=true:=bne_iff_ne.mpr c16
          have H':=Aside0.mk H
          clear H
          have cZ:=au.out
          have da:=aG.out
          have bZ:wr.cell? ⟨ai,0,none⟩=some (.slice aw af.length ax):=(blk_cell aa.out 0).trans rfl
          have ck:wr.cell? ⟨ai,1,none⟩=some (.int .i64 a0_1):=(blk_cell aa.out 1).trans rfl
          have cm:wr.cell? ⟨ai,2,none⟩=some (.slice ay ah.length az):=(blk_cell aa.out 2).trans rfl
          have cn:=blk_frozen aa.out 0
          have co:=blk_frozen aa.out 1
          have cq:=blk_frozen aa.out 2
          have p398:0≤(ae:Int):=od_
          have q398:ae < (ah.length:Int):=od_
          obtain⟨bJ,e398,hx398_0⟩:=Kd.at_int HR0_2.out ae p398 q398
          cases e398
          replace hx398_0:=(HB.out.cell (World.block_lt_of_cell? w _ hx398_0)).trans hx398_0
          replace p398:=eq_true p398
          replace q398:=eq_true q398
          go_wp2
          go_roundg k2
          case measure=>have:=HK1.out;have:=HK2.out;omega
          case rel=>exact⟨(wrap64 (ae+1)),(ak),(aj),rs_,H',⟨by have:=HK1.out;have:=HK2.out;omega⟩,⟨ro_ aC.out⟩,⟨ro_ aD.out⟩,⟨bk_⟩,⟨bk_⟩,⟨hb_⟩⟩
        ·rw [if_neg c15] at H
         exact absurd H (by simp)
       ·rw [if_neg c14] at H
        have c14b0:decide (ae < (ah.length:Int))=false:=decide_eq_false c14
        clear c14
        by_cases c24:aI.length < 8796093022208
        ·rw [if_pos c24] at H
         have bK:=Aside0.mk c24
         clear c24
         obtain⟨bF,hy400⟩: ∃y_:List (S93),y_=(aI++ [(⟨ak,aj⟩:S93)]):=⟨_,rfl⟩
         replace H:(spec_l05Z.l0 k2 av (af.length:Int) bF (wrap64 (aA+1)) af a0_1 ah)=some (r1,r2):=by first | (rw [hy400];with_reducible exact H) | (have H2_:=(Option.bind_some _ _).symm.trans H;rw [hy400];with_reducible exact H2_) | (have H2_:=(Option.bind_some _ _).symm.trans H;with_reducible exact H2_) | with_reducible exact H | (rw [hy400];exact H) | exact H
         have bL:=Aside0.mk hy400
         clear hy400
         have H':=Aside0.mk H
         clear H
         have db:=au.out
         have dc:=aG.out
         have ct:wr.cell? ⟨ai,0,none⟩=some (.slice aw af.length ax):=(blk_cell aa.out 0).trans rfl
         have cz:wr.cell? ⟨ai,1,none⟩=some (.int .i64 a0_1):=(blk_cell aa.out 1).trans rfl
         have cA:wr.cell? ⟨ai,2,none⟩=some (.slice ay ah.length az):=(blk_cell aa.out 2).trans rfl
         have cB:=blk_frozen aa.out 0
         have cC:=blk_frozen aa.out 1
         have cD:=blk_frozen aa.out 2
         have cE:wr.cell? ⟨ag,0,none⟩=some (.int .i64 ak):=(blk_cell aq.out 0).trans rfl
         have cF:wr.cell? ⟨ag,1,none⟩=some (.int .i64 aj):=(blk_cell aq.out 1).trans rfl
         have cG:=blk_frozen aq.out 0
         have cH:=blk_frozen aq.out 1
         go_wp2_with (first | ((with_reducible refine gate_builtin (b:= .append) (xs:= #[.tmp 49, .tmp 51]) rfl ?_);at_builtin;refine Kd.R_append k93 (w0:=w) w.heap.size rfl (.tmp 49) (.tmp 51) 27 93 (.agg #[(.int .i64 0),(.int .i64 0)]) 16 rfl Try.underlying27 info93 rfl (by decide) (by omega) u7 aI (⟨ak,aj⟩:S93) [.int .i64 ak, .int .i64 aj] (fun k_=>some k_≠(aK:Value).ownBlock∧k_≠ag) (fun _=>False) rfl rfl ?aP (fun _ hk=>hk.elim) ?aF ?aO ?aB ?aS ?aL ?_;(case aP=>exact k93_mkM _ _ _ (⟨ak,aj⟩:S93));(case aB=>exact hb_);(case aF=>exact(fun k_ hk=>⟨Kd.fresh' (Kd.R_lt (ro_ aC.out)) k_ hk,Kd.freshB (g:=ag) (o:= .cells #[.int .i64 ak, .int .i64 aj] 93 (0,0)) bk_ k_ hk⟩));(case aO=>exact(ro_ aD.out));(case aS=>exact bz_);(case aL=>have:=bK.out;omega);intro dl w28 ho hb hg hat;rw [← bL.out] at ho;replace aC:=Aside0.mk (Kd.R_after (ok:=(fun k_=>k_≠ag)) (by(with_reducible repeat (first | apply Kd.R_alloc | apply Kd.R_drewN | apply Kd.R_drew));exact Kd.R_mono aC.out (fun _ hk=>⟨hk.2,hk.1⟩)) hg hat);replace aa:=Aside0.mk (bg_ aa.out hg (Kd.R_ne aD.out aa.out (by decide)));replace aq:=Aside0.mk (bg_ aq.out hg (Kd.R_away aD.out (fun _ hk=>hk.2)));replace HB:=Aside0.mk (hb);have bM:=Aside0.mk (ho);clear aD ho hb hg hat))
         go_roundg k2
         case measure=>have:=HK1.out;have:=HK2.out;omega
         case rel=>exact⟨(bF),(wrap64 (aA+1)),rs_,H',⟨by have:=HK1.out;have:=HK2.out;omega⟩,⟨by(with_reducible repeat (first | apply Kd.R_alloc | apply Kd.R_drewN | apply Kd.R_drew));exact Kd.R_mono aC.out (fun _ hk=>hk.2)⟩,⟨by(with_reducible repeat (first | apply Kd.R_alloc | apply Kd.R_drewN | apply Kd.R_drew));exact Kd.R_mono bM.out (fun _ hk=>hk.1)⟩,⟨bk_⟩,⟨hb_⟩⟩
        ·rw [if_neg c24] at H
         exact absurd H (by simp)
    ·rw [if_neg c10] at H
     have c10b0:decide (aA < (af.length:Int))=false:=decide_eq_false c10
     clear c10
     simp only [Option.some.injEq,Prod.mk.injEq] at H
     obtain⟨rfl,rfl⟩:=H
     go_wp2
     go_ret2
     exact⟨_,by first | rfl | (simp [errW_none,errW_some] <;> rfl) | (simp [*,errW_none,errW_some] <;> rfl),by(with_reducible repeat (first | apply Kd.R_alloc | apply Kd.R_drewN | apply Kd.R_drew));exact Kd.R_mono aD.out (fun _ hk=>trivial),hb_⟩
 ·rw [if_neg c3] at H
  have c3b0:(aH==0)=false:=beq_eq_false_iff_ne.mpr c3
  have c3b1:(aH !=0)=true:=bne_iff_ne.mpr c3
  simp only [Option.some.injEq,Prod.mk.injEq] at H
  obtain⟨rfl,rfl⟩:=H
  go_enter Try.func96,Try.ntmps96
  go_wp2_with (first | ((with_reducible refine gate_dst (N:=1) rfl ?_);refine box_event ?hg (N:=1) ?hd (cs:= #[.slice aw af.length ax, .int .i64 a0_1, .slice ay ah.length az]) (t:=100) ?hr ?_;(case hd=>rfl);(case hg=>rfl);(case hr=>first | (go_simp;done) | (go_simp;rfl));intro ai hg w29 hbox hb;have aa:=Aside0.mk (hbox);have bG:=Aside0.mk ((by rw [hg];exact bz_:w.heap.size≤ai));have bH:=Aside0.mk ((by rw [hg];exact bz_:w.heap.size≤ai));replace HB:=Aside0.mk (bs_ hb);clear hb hbox hg;have cI:w29.cell? ⟨ai,0,none⟩=some (.slice aw af.length ax):=(blk_cell aa.out 0).trans rfl;have cJ:w29.cell? ⟨ai,1,none⟩=some (.int .i64 a0_1):=(blk_cell aa.out 1).trans rfl;have cK:w29.cell? ⟨ai,2,none⟩=some (.slice ay ah.length az):=(blk_cell aa.out 2).trans rfl;have cL:=blk_frozen aa.out 0;have cN:=blk_frozen aa.out 1;have cO:=blk_frozen aa.out 2) | ((with_reducible refine gate_callee (f:=86) rfl ?_);refine gL_ 13 Try.func86 #[.agg #[.slice aw af.length ax, .int .i64 a0_1, .slice ay ah.length az]] ?_;(with_reducible refine(spec_l05Right.calls k _ _ af a0_1 _ _ ah av aH _ ?aN ?aT ?aU ?aV A2.out).mono ?_);(case aN=>exact cb_ HR0_0.out HB.out);(case aT=>exact HC0_0.out);(case aU=>exact cb_ HR0_2.out HB.out);(case aV=>exact HC0_2.out);rintro e w31 ⟨aK,rfl,ho0,hb⟩;refine⟨_,rfl,?_⟩;have aJ:=Aside0.mk (Kd.R_lower ho0 bz_);replace aa:=Aside0.mk (bb_ aa.out hb);replace HB:=Aside0.mk (bs_ hb);(try clear hb);(try clear hb2);(try clear hk);(try clear hi);(try clear ho0)))
  go_ret2
  exact⟨_,by first | rfl | (simp [errW_none,errW_some] <;> rfl) | (simp [*,errW_none,errW_some] <;> rfl),by first | exact Kd.R_nil _ _ _ _ _ | exact Kd.N_nil _ _ _ _ _ | exact Kd.V_nil _ _ _ _ _ | exact Kd.Q_nil _ _ _ _ _ | exact Kd.S_nil _ _ _ _ _,hb_⟩
def spec_LemkeSolution.l0:Nat→List (S93)→Int→List (List Int)→List Int→Option ((List (S93)) × Int)
 | 0,_,_,_,_=>none
 | k+1,x11,x12,ae,aa=>if x12 < (aa.length:Int) then(if x11.length < 8796093022208 then(spec_LemkeSolution.l0 k (x11++ [(⟨0,1⟩:S93)]) (wrap64 (x12+1)) ae aa) else(none)) else(some (x11,0))
def spec_LemkeSolution.f (k:Nat) (ae:List (List Int)) (af:List Int) (l1:List Int):Option ((List (S93)) × Int):=(spec_l05Code.f k ae af l1).bind fun ah=>(if ah=0 then((spec_l05Run.f k ae af l1 201).bind fun aa=>(if(aa.2.2.2.1.length:Int) > 200 then(some (([]:List (S93)),3)) else(if aa.2.2.2.2.2=true then(if(aa.2.2.2.1.length:Int)=0 then(spec_LemkeSolution.l0 k (([]:List (S93))) 0 ae af) else((spec_l05Z.f k aa.1 aa.2.1 aa.2.2.1).bind fun ag=>(some (ag.1,ag.2)))) else(some (([]:List (S93)),4))))) else(some (([]:List (S93)),ah)))
theorem spec_LemkeSolution.mono_l: ∀k,(∀y0 y1 y2 y3,LeO (spec_LemkeSolution.l0 k y0 y1 y2 y3) (spec_LemkeSolution.l0 (k+1) y0 y1 y2 y3))
 | 0=>fun _ _ _ _ r h=>by simp [spec_LemkeSolution.l0] at h
 | k+1=>by
  have ih0:=spec_LemkeSolution.mono_l k
  ·intro y0 y1 y2 y3
   unfold spec_LemkeSolution.l0
   repeat' first
   | (with_reducible exact ih0 _ _ _ _)
   | (with_reducible exact spec_l05Code.mono _ _ _ _)
   | (with_reducible exact spec_l05Run.mono _ _ _ _ _)
   | (with_reducible exact spec_l05Z.mono _ _ _ _)
   | (with_reducible exact LeO.refl _)
   | (with_reducible exact LeO.none _)
   | (with_reducible refine LeO.ite ?_ ?_)
   | (with_reducible refine LeO.bind ?_ (fun _=>?_))
   | exact ih0 _ _ _ _
   | exact spec_l05Code.mono _ _ _ _
   | exact spec_l05Run.mono _ _ _ _ _
   | exact spec_l05Z.mono _ _ _ _
   | exact LeO.none _
   | refine LeO.ite ?_ ?_
   | refine LeO.bind ?_ (fun _=>?_)
theorem spec_LemkeSolution.mono: ∀a0 a1 a2 k,LeO (spec_LemkeSolution.f k a0 a1 a2) (spec_LemkeSolution.f (k+1) a0 a1 a2):=by
 intro a0 a1 a2 k
 have ih0:=spec_LemkeSolution.mono_l k
 unfold spec_LemkeSolution.f
 repeat' first
   | (with_reducible exact ih0 _ _ _ _)
   | (with_reducible exact spec_l05Code.mono _ _ _ _)
   | (with_reducible exact spec_l05Run.mono _ _ _ _ _)
   | (with_reducible exact spec_l05Z.mono _ _ _ _)
   | (with_reducible exact LeO.refl _)
   | (with_reducible exact LeO.none _)
   | (with_reducible refine LeO.ite ?_ ?_)
   | (with_reducible refine LeO.bind ?_ (fun _=>?_))
   | exact ih0 _ _ _ _
   | exact spec_l05Code.mono _ _ _ _
   | exact spec_l05Run.mono _ _ _ _ _
   | exact spec_l05Z.mono _ _ _ _
   | exact LeO.none _
   | refine LeO.ite ?_ ?_
   | refine LeO.bind ?_ (fun _=>?_)
theorem spec_LemkeSolution.calls (k:Nat) (ak:Option Addr) (aq:Nat) (ai:List (List Int)) (au:Option Addr) (av:Nat) (ag:List Int) (A1:Option Addr) (c1:Nat) (l1:List Int) (r1:List (S93)) (r2:Int) (w:World) (bG:Kd.C (Kd.slice 2 (Kd.int .i64)) w ak ai.length ai) (bH:ai.length≤aq) (bI:Kd.C (Kd.int .i64) w au ag.length ag) (bJ:ag.length≤av) (hr1:Kd.C (Kd.int .i64) w A1 l1.length l1) (hc1:l1.length≤c1) (h:spec_LemkeSolution.f k ai ag l1=some (r1,r2)):
  Calls Try.prog 21 #[.agg #[.slice ak ai.length aq, .slice au ag.length av], .slice A1 l1.length c1] w fun e w'=> ∃v0_:Value,e= .returned (.tuple #[v0_, .int .i64 r2])∧Kd.R k93 93 w' w.heap.size (fun _=>True) v0_ r1∧Below w.heap.size w w':=by
 have hu30:=Try.underlying30
 have hu100:=Try.underlying100
 have hu93:=Try.underlying93
 have HR0_0:=Aside0.mk bG
 have HC0_0:=Aside0.mk bH
 clear bG bH
 have HR0_1:=Aside0.mk bI
 have HC0_1:=Aside0.mk bJ
 clear bI bJ
 have HR1:=Aside0.mk hr1
 have HC1:=Aside0.mk hc1
 clear hr1 hc1
 have HB:=Aside0.mk (Below.refl w.heap.size w)
 have H:((spec_l05Code.f k ai ag l1).bind fun aU=>(if aU=0 then((spec_l05Run.f k ai ag l1 201).bind fun aT=>(if(aT.2.2.2.1.length:Int) > 200 then(some (([]:List (S93)),3)) else(if aT.2.2.2.2.2=true then(if(aT.2.2.2.1.length:Int)=0 then(spec_LemkeSolution.l0 k (([]:List (S93))) 0 ai ag) else((spec_l05Z.f k aT.1 aT.2.1 aT.2.2.1).bind fun aV=>(some (aV.1,aV.2)))) else(some (([]:List (S93)),4))))) else(some (([]:List (S93)),aU))))=some (r1,r2):=h
 clear h
 replace H:=Option.bind_eq_some_iff.mp H
 obtain⟨aU,A30,H⟩:=H
 replace H:(if aU=0 then((spec_l05Run.f k ai ag l1 201).bind fun aT=>(if(aT.2.2.2.1.length:Int) > 200 then(some (([]:List (S93)),3)) else(if aT.2.2.2.2.2=true then(if(aT.2.2.2.1.length:Int)=0 then(spec_LemkeSolution.l0 k (([]:List (S93))) 0 ai ag) else((spec_l05Z.f k aT.1 aT.2.1 aT.2.2.1).bind fun aV=>(some (aV.1,aV.2)))) else(some (([]:List (S93)),4))))) else(some (([]:List (S93)),aU)))=some (r1,r2):=H
 have A3:=Aside0.mk A30
 clear A30
 by_cases c4:aU=0
 ·rw [if_pos c4] at H
  have c4b0:(aU==0)=true:=beq_iff_eq.mpr c4
  have c4b1:(aU !=0)=false:=bne_eq_false_iff_eq.mpr c4
  clear c4
  replace H:=Option.bind_eq_some_iff.mp H
  obtain⟨⟨ay,aM,az,aN,bz,bC⟩,A50,H⟩:=H
  replace H:(if(aN.length:Int) > 200 then(some (([]:List (S93)),3)) else(if bC=true then(if(aN.length:Int)=0 then(spec_LemkeSolution.l0 k (([]:List (S93))) 0 ai ag) else((spec_l05Z.f k ay aM az).bind fun aV=>(some (aV.1,aV.2)))) else(some (([]:List (S93)),4))))=some (r1,r2):=H
  have A5:=Aside0.mk A50
  clear A50
  by_cases c6:(aN.length:Int) > 200
  ·rw [if_pos c6] at H
   have c6b0:decide (200 < (aN.length:Int))=true:=decide_eq_true c6
   have c6b1:decide (200 < aN.length)=true:=decide_eq_true (by omega)
   clear c6
   simp only [Option.some.injEq,Prod.mk.injEq] at H
   obtain⟨rfl,rfl⟩:=H
   go_enter Try.func21,Try.ntmps21
   go_wp2_with (first | ((with_reducible refine gate_dst (N:=2) rfl ?_);refine box_event ?hg (N:=2) ?hd (cs:= #[.slice ak ai.length aq, .slice au ag.length av]) (t:=30) ?hr ?_;(case hd=>rfl);(case hg=>rfl);(case hr=>first | (go_simp;done) | (go_simp;rfl));intro af hg w7 hbox hb;have aa:=Aside0.mk (hbox);have bu:=Aside0.mk ((by rw [hg];exact bz_:w.heap.size≤af));have bv:=Aside0.mk ((by rw [hg];exact bz_:w.heap.size≤af));replace HB:=Aside0.mk (bs_ hb);clear hb hbox hg;have cD:w7.cell? ⟨af,0,none⟩=some (.slice ak ai.length aq):=(blk_cell aa.out 0).trans rfl;have cE:w7.cell? ⟨af,1,none⟩=some (.slice au ag.length av):=(blk_cell aa.out 1).trans rfl;have cF:=blk_frozen aa.out 0;have cG:=blk_frozen aa.out 1) | ((with_reducible refine gate_callee (f:=94) rfl ?_);refine gL_ 17 Try.func94 #[.agg #[.slice ak ai.length aq, .slice au ag.length av], .slice A1 l1.length c1] ?_;(with_reducible refine(spec_l05Code.calls k _ _ ai _ _ ag _ _ l1 aU _ ?aA ?aC ?aD ?aG ?aI ?aJ A3.out).mono ?_);(case aA=>exact cb_ HR0_0.out HB.out);(case aC=>exact HC0_0.out);(case aD=>exact cb_ HR0_1.out HB.out);(case aG=>exact HC0_1.out);(case aI=>exact cb_ HR1.out HB.out);(case aJ=>exact HC1.out);rintro e w9 ⟨rfl,hb⟩;refine⟨_,rfl,?_⟩;replace aa:=Aside0.mk (bb_ aa.out hb);replace HB:=Aside0.mk (bs_ hb);(try clear hb);(try clear hb2);(try clear hk);(try clear hi);have bL:w9.cell? ⟨af,0,none⟩=some (.slice ak ai.length aq):=(blk_cell aa.out 0).trans rfl;have bM:w9.cell? ⟨af,1,none⟩=some (.slice au ag.length av):=(blk_cell aa.out 1).trans rfl;have bN:=blk_frozen aa.out 0;have bO:=blk_frozen aa.out 1) | ((with_reducible refine gate_callee (f:=95) rfl ?_);refine gL_ 24 Try.func95 #[.agg #[.slice ak ai.length aq, .slice au ag.length av], .slice A1 l1.length c1, .int .i64 201] ?_;(with_reducible refine(spec_l05Run.calls k _ _ ai _ _ ag _ _ l1 201 ay aM az aN bz bC _ ?aA ?aC ?aD ?aG ?aI ?aJ A5.out).mono ?_);(case aA=>exact cb_ HR0_0.out HB.out);(case aC=>exact HC0_0.out);(case aD=>exact cb_ HR0_1.out HB.out);(case aG=>exact HC0_1.out);(case aI=>exact cb_ HR1.out HB.out);(case aJ=>exact HC1.out);rintro e w11 ⟨bD,bE,bF,rfl,ho0,ho1,ho2,hb⟩;refine⟨_,rfl,?_⟩;have aw:=Aside0.mk (Kd.S_lower ho0 bz_);have ax:=Aside0.mk (Kd.R_lower ho1 bz_);have aH:=Aside0.mk (Kd.S_lower ho2 bz_);replace aa:=Aside0.mk (bb_ aa.out hb);replace HB:=Aside0.mk (bs_ hb);(try clear hb);(try clear hb2);(try clear hk);(try clear hi);(try clear ho0);(try clear ho1);(try clear ho2)) | ((with_reducible refine gate_dst (N:=7) rfl ?_);refine box_event ?hg (N:=7) ?hd (cs:= #[.slice none 0 0, .int .i64 0, .slice none 0 0]) (t:=100) ?hr ?_;(case hd=>rfl);(case hg=>rfl);(case hr=>first | (go_simp;done) | (go_simp;rfl));intro ae hg w12 hbox hb;replace aw:=Aside0.mk (Kd.S_below (so_ aw.out) hb);replace ax:=Aside0.mk (rb_ ax.out hb);replace aH:=Aside0.mk (Kd.S_below (so_ aH.out) hb);have ah:=Aside0.mk (hbox);have bA:=Aside0.mk ((by rw [hg];exact bz_:w.heap.size≤ae));have bB:=Aside0.mk ((by rw [hg];exact bz_:w.heap.size≤ae));have aj:=Aside0.mk ((by rw [hg];exact lt_ aa.out:af≠ae));have aK:=Aside0.mk ((by rw [hg];exact gt_ aa.out:ae≠af));replace aa:=Aside0.mk (bb_ aa.out hb);replace HB:=Aside0.mk (bs_ hb);clear hb hbox hg;obtain⟨eV,eW,cS⟩:=Kd.S_slice aw.out;subst cS;have eH:=aK.out;have eI:=aj.out;have bP:w12.cell? ⟨ae,0,none⟩=some (.slice none 0 0):=(blk_cell ah.out 0).trans rfl;have bQ:w12.cell? ⟨ae,1,none⟩=some (.int .i64 0):=(blk_cell ah.out 1).trans rfl;have bS:w12.cell? ⟨ae,2,none⟩=some (.slice none 0 0):=(blk_cell ah.out 2).trans rfl;have bT:=blk_frozen ah.out 0;have bU:=blk_frozen ah.out 1;have bV:=blk_frozen ah.out 2;obtain⟨eX,eY,cT⟩:=Kd.R_slice ax.out;subst cT;obtain⟨eZ,fc,cU⟩:=Kd.S_slice aH.out;subst cU))
   go_ret2
   exact⟨_,by first | rfl | (simp [errW_none,errW_some] <;> rfl) | (simp [*,errW_none,errW_some] <;> rfl),by first | exact Kd.R_nil _ _ _ _ _ | exact Kd.N_nil _ _ _ _ _ | exact Kd.V_nil _ _ _ _ _ | exact Kd.Q_nil _ _ _ _ _ | exact Kd.S_nil _ _ _ _ _,hb_⟩
  ·rw [if_neg c6] at H
   have c6b0:decide (200 < (aN.length:Int))=false:=decide_eq_false c6
   have c6b1:decide (200 < aN.length)=false:=decide_eq_false (by omega)
   clear c6
   by_cases c18:bC=true
   ·subst c18
    have H1:(if(aN.length:Int)=0 then(spec_LemkeSolution.l0 k (([]:List (S93))) 0 ai ag) else((spec_l05Z.f k ay aM az).bind fun aV=>(some (aV.1,aV.2))))=some (r1,r2):=by rw [if_pos rfl] at H;exact H
    clear H
    have H:=H1
    clear H1
    by_cases c19:(aN.length:Int)=0
    ·rw [if_pos c19] at H
     have c19b0:((aN.length:Int)==0)=true:=beq_iff_eq.mpr c19
     have c19b1:((aN.length:Int) !=0)=false:=bne_eq_false_iff_eq.mpr c19
     clear c19
     obtain⟨cH,hy418⟩: ∃y_:List (S93),y_=(([]:List (S93))):=⟨_,rfl⟩
     replace H:(spec_LemkeSolution.l0 k cH 0 ai ag)=some (r1,r2):=by first | (rw [hy418];with_reducible exact H) | (have H2_:=(Option.bind_some _ _).symm.trans H;rw [hy418];with_reducible exact H2_) | (have H2_:=(Option.bind_some _ _).symm.trans H;with_reducible exact H2_) | with_reducible exact H | (rw [hy418];exact H) | exact H
     have bK:=Aside0.mk hy418
     clear hy418
     have H':=Aside0.mk H
     clear H
     go_enter Try.func21,Try.ntmps21
     go_wp2_with (first | ((with_reducible refine gate_dst (N:=2) rfl ?_);refine box_event ?hg (N:=2) ?hd (cs:= #[.slice ak ai.length aq, .slice au ag.length av]) (t:=30) ?hr ?_;(case hd=>rfl);(case hg=>rfl);(case hr=>first | (go_simp;done) | (go_simp;rfl));intro af hg w20 hbox hb;have aa:=Aside0.mk (hbox);have bu:=Aside0.mk ((by rw [hg];exact bz_:w.heap.size≤af));have bv:=Aside0.mk ((by rw [hg];exact bz_:w.heap.size≤af));replace HB:=Aside0.mk (bs_ hb);clear hb hbox hg;have bW:w20.cell? ⟨af,0,none⟩=some (.slice ak ai.length aq):=(blk_cell aa.out 0).trans rfl;have bX:w20.cell? ⟨af,1,none⟩=some (.slice au ag.length av):=(blk_cell aa.out 1).trans rfl;have bY:=blk_frozen aa.out 0;have bZ:=blk_frozen aa.out 1) | ((with_reducible refine gate_callee (f:=94) rfl ?_);refine gL_ 17 Try.func94 #[.agg #[.slice ak ai.length aq, .slice au ag.length av], .slice A1 l1.length c1] ?_;(with_reducible refine(spec_l05Code.calls k _ _ ai _ _ ag _ _ l1 aU _ ?aA ?aC ?aD ?aG ?aI ?aJ A3.out).mono ?_);(case aA=>exact cb_ HR0_0.out HB.out);(case aC=>exact HC0_0.out);(case aD=>exact cb_ HR0_1.out HB.out);(case aG=>exact HC0_1.out);(case aI=>exact cb_ HR1.out HB.out);(case aJ=>exact HC1.out);rintro e w22 ⟨rfl,hb⟩;refine⟨_,rfl,?_⟩;replace aa:=Aside0.mk (bb_ aa.out hb);replace HB:=Aside0.mk (bs_ hb);(try clear hb);(try clear hb2);(try clear hk);(try clear hi);have ck:w22.cell? ⟨af,0,none⟩=some (.slice ak ai.length aq):=(blk_cell aa.out 0).trans rfl;have cm:w22.cell? ⟨af,1,none⟩=some (.slice au ag.length av):=(blk_cell aa.out 1).trans rfl;have cn:=blk_frozen aa.out 0;have co:=blk_frozen aa.out 1) | ((with_reducible refine gate_callee (f:=95) rfl ?_);refine gL_ 24 Try.func95 #[.agg #[.slice ak ai.length aq, .slice au ag.length av], .slice A1 l1.length c1, .int .i64 201] ?_;(with_reducible refine(spec_l05Run.calls k _ _ ai _ _ ag _ _ l1 201 ay aM az aN bz true _ ?aA ?aC ?aD ?aG ?aI ?aJ A5.out).mono ?_);(case aA=>exact cb_ HR0_0.out HB.out);(case aC=>exact HC0_0.out);(case aD=>exact cb_ HR0_1.out HB.out);(case aG=>exact HC0_1.out);(case aI=>exact cb_ HR1.out HB.out);(case aJ=>exact HC1.out);rintro e w24 ⟨bD,bE,bF,rfl,ho0,ho1,ho2,hb⟩;refine⟨_,rfl,?_⟩;have aw:=Aside0.mk (Kd.S_lower ho0 bz_);have ax:=Aside0.mk (Kd.R_lower ho1 bz_);have aH:=Aside0.mk (Kd.S_lower ho2 bz_);replace aa:=Aside0.mk (bb_ aa.out hb);replace HB:=Aside0.mk (bs_ hb);(try clear hb);(try clear hb2);(try clear hk);(try clear hi);(try clear ho0);(try clear ho1);(try clear ho2)) | ((with_reducible refine gate_dst (N:=7) rfl ?_);refine box_event ?hg (N:=7) ?hd (cs:= #[.slice none 0 0, .int .i64 0, .slice none 0 0]) (t:=100) ?hr ?_;(case hd=>rfl);(case hg=>rfl);(case hr=>first | (go_simp;done) | (go_simp;rfl));intro ae hg w25 hbox hb;replace aw:=Aside0.mk (Kd.S_below (so_ aw.out) hb);replace ax:=Aside0.mk (rb_ ax.out hb);replace aH:=Aside0.mk (Kd.S_below (so_ aH.out) hb);have ah:=Aside0.mk (hbox);have bA:=Aside0.mk ((by rw [hg];exact bz_:w.heap.size≤ae));have bB:=Aside0.mk ((by rw [hg];exact bz_:w.heap.size≤ae));have aj:=Aside0.mk ((by rw [hg];exact lt_ aa.out:af≠ae));have aK:=Aside0.mk ((by rw [hg];exact gt_ aa.out:ae≠af));replace aa:=Aside0.mk (bb_ aa.out hb);replace HB:=Aside0.mk (bs_ hb);clear hb hbox hg;obtain⟨ba,bb,cV⟩:=Kd.S_slice aw.out;subst cV;have eJ:=aK.out;have eK:=aj.out;have cq:w25.cell? ⟨ae,0,none⟩=some (.slice none 0 0):=(blk_cell ah.out 0).trans rfl;have ct:w25.cell? ⟨ae,1,none⟩=some (.int .i64 0):=(blk_cell ah.out 1).trans rfl;have cz:w25.cell? ⟨ae,2,none⟩=some (.slice none 0 0):=(blk_cell ah.out 2).trans rfl;have cA:=blk_frozen ah.out 0;have cB:=blk_frozen ah.out 1;have cC:=blk_frozen ah.out 2;obtain⟨bn,bq,cW⟩:=Kd.R_slice ax.out;subst cW;obtain⟨fe,fg,cZ⟩:=Kd.S_slice aH.out;subst cZ) | ((with_reducible refine gate_dst (N:=37) rfl ?_);refine Kd.R_lit k93 _ 93 ?hg (N:=37) ?hd (xs:=([]:List (S93))) (inner:= []) (ok:=fun _=>True) (okp:=fun _=>True) ?hr ?hp (fun _ hk=>hk) trivial (Below.refl _ _) (Nat.le_refl _) (by simp) ?_;(case hd=>rfl);(case hg=>rfl);(case hr=>first | (go_simp;done) | (go_simp;rfl));(case hp=>exact(Reps.none _ _));intro fj w31 bw hb hg_ hnew_;clear hg_ hnew_;(first | rw [← bK.out] at bw | (simp only [Int.reduceToNat] at bw;rw [← bK.out] at bw));replace aw:=Aside0.mk (Kd.S_below (by(with_reducible repeat (first | apply Kd.S_alloc | apply Kd.S_drewN | apply Kd.S_drew));exact(Kd.S_mono (Kd.S_far (p:=⟨ae,2,none⟩) (Kd.S_far (p:=⟨ae,1,none⟩) (Kd.S_far (p:=⟨ae,0,none⟩) (Kd.S_types aw.out ah.out (by decide)) (fun _ hk=>hk.2) (.slice ba ay.length bb)) (fun _ hk=>hk.2) (.int .i64 aM)) (fun _ hk=>hk.2) (.slice bn az.length bq)) (fun _ h_=>h_.1))) hb);replace ax:=Aside0.mk (Kd.R_below (by(with_reducible repeat (first | apply Kd.R_alloc | apply Kd.R_drewN | apply Kd.R_drew));exact(Kd.R_mono (Kd.R_far (p:=⟨ae,2,none⟩) (Kd.R_far (p:=⟨ae,1,none⟩) (Kd.R_far (p:=⟨ae,0,none⟩) (Kd.R_types ax.out ah.out (by decide)) (fun _ hk=>hk.2) (.slice ba ay.length bb)) (fun _ hk=>hk.2) (.int .i64 aM)) (fun _ hk=>hk.2) (.slice bn az.length bq)) (fun _ h_=>h_.1))) hb);replace aH:=Aside0.mk (Kd.S_below (by(with_reducible repeat (first | apply Kd.S_alloc | apply Kd.S_drewN | apply Kd.S_drew));exact(Kd.S_mono (Kd.S_far (p:=⟨ae,2,none⟩) (Kd.S_far (p:=⟨ae,1,none⟩) (Kd.S_far (p:=⟨ae,0,none⟩) (Kd.S_types aH.out ah.out (by decide)) (fun _ hk=>hk.2) (.slice ba ay.length bb)) (fun _ hk=>hk.2) (.int .i64 aM)) (fun _ hk=>hk.2) (.slice bn az.length bq)) (fun _ h_=>h_.1))) hb);have cL:=Aside0.mk (Kd.R_lower bw bz_);replace aa:=Aside0.mk (blk_below (g:=af) (o:= .cells #[.slice ak ai.length aq, .slice au ag.length av] 30 (0,0)) (by(with_reducible repeat (first | refine blk_drewN ?_ _ | refine blk_drew ?_ | refine blk_alloc ?_ _));refine blk_far ?_ aj.out _;(with_reducible repeat (first | refine blk_drewN ?_ _ | refine blk_drew ?_ | refine blk_alloc ?_ _));refine blk_far ?_ aj.out _;(with_reducible repeat (first | refine blk_drewN ?_ _ | refine blk_drew ?_ | refine blk_alloc ?_ _));refine blk_far ?_ aj.out _;(with_reducible repeat (first | refine blk_drewN ?_ _ | refine blk_drew ?_ | refine blk_alloc ?_ _));exact aa.out) hb);replace ah:=Aside0.mk (blk_below (g:=ae) (o:= .cells #[.slice ba ay.length bb, .int .i64 aM, .slice bn az.length bq] 100 (0,0)) (by(with_reducible repeat (first | refine blk_drewN ?_ _ | refine blk_drew ?_ | refine blk_alloc ?_ _));refine blk_put (cs:= #[.slice ba ay.length bb, .int .i64 aM, .slice none 0 0]) ?_ 2 _ rfl;(with_reducible repeat (first | refine blk_drewN ?_ _ | refine blk_drew ?_ | refine blk_alloc ?_ _));refine blk_put (cs:= #[.slice ba ay.length bb, .int .i64 0, .slice none 0 0]) ?_ 1 _ rfl;(with_reducible repeat (first | refine blk_drewN ?_ _ | refine blk_drew ?_ | refine blk_alloc ?_ _));refine blk_put (cs:= #[.slice none 0 0, .int .i64 0, .slice none 0 0]) ?_ 0 _ rfl;(with_reducible repeat (first | refine blk_drewN ?_ _ | refine blk_drew ?_ | refine blk_alloc ?_ _));exact ah.out) hb);replace HB:=Aside0.mk (bs_ hb);clear hb bw))
     go_loopg [11,12] k (fun kq v11 v12 w'=> ∃(bk:List (S93)) (aW:Int),v12= .int .i64 aW∧Aside0 (spec_LemkeSolution.l0 kq bk aW ai ag=some (r1,r2))∧Aside0 (kq≤k)∧Aside0 (Kd.R k93 93 w' w.heap.size (fun _=>True) v11 bk)∧Aside0 (Kd.S (Kd.slice 2 (Kd.int .i64)) 23 w' w.heap.size (fun k_=>some k_≠((.slice bn az.length bq):Value).ownBlock) (.slice ba ay.length bb) ay)∧Aside0 (Kd.R (Kd.int .i64) 2 w' w.heap.size (fun _=>True) (.slice bn az.length bq) az)∧Aside0 (w'.heap[af]?=some (.cells #[(.slice ak ai.length aq),(.slice au ag.length av)] 30 (0,0)))∧Aside0 (w'.heap[ae]?=some (.cells #[(.slice ba ay.length bb), .int .i64 aM,(.slice bn az.length bq)] 100 (0,0)))∧Aside0 (Below w.heap.size w w'))
     case atStart=>exact⟨(cH),(0),rs_,H',⟨Nat.le_refl _⟩,⟨ro_ cL.out⟩,⟨by(with_reducible repeat (first | apply Kd.S_alloc | apply Kd.S_drewN | apply Kd.S_drew));exact Kd.S_mono aw.out (fun _ hk=>hk.1)⟩,⟨ro_ ax.out⟩,⟨bk_⟩,⟨bk_⟩,⟨hb_⟩⟩
     case round=>
      clear H'
      try clear c1
      try clear c2
      try clear p2
      try clear c4
      try clear c4b0
      try clear c4b1
      try clear c6
      try clear c6b0
      try clear c6b1
      try clear c9
      try clear c14
      try clear c18
      try clear c19
      try clear c19b0
      try clear c19b1
      try clear c21
      try clear c27
      try clear bL
      try clear bM
      try clear bP
      try clear bQ
      try clear bS
      try clear bW
      try clear bX
      try clear ck
      try clear cm
      try clear cq
      try clear ct
      try clear cz
      try clear cD
      try clear cE
      try clear bN
      try clear bO
      try clear bT
      try clear bU
      try clear bV
      try clear bY
      try clear bZ
      try clear cn
      try clear co
      try clear cA
      try clear cB
      try clear cC
      try clear cF
      try clear cG
      obtain⟨bk,aW,rfl,HA,HK1,aY,bg,bh,aa,ah,HB⟩:=hrel
      cases gk with
      | zero=>exact absurd HA.out (by simp [spec_LemkeSolution.l0])
      | succ k1=>
       have H:=HA.out
       clear HA
       simp only [spec_LemkeSolution.l0] at H
       by_cases c33:aW < (ag.length:Int)
       ·rw [if_pos c33] at H
        have c33b0:decide (aW < (ag.length:Int))=true:=decide_eq_true c33
        clear c33
        by_cases c34:bk.length < 8796093022208
        ·rw [if_pos c34] at H
         have cN:=Aside0.mk c34
         clear c34
         obtain⟨cI,hy421⟩: ∃y_:List (S93),y_=(bk++ [(⟨0,1⟩:S93)]):=⟨_,rfl⟩
         replace H:(spec_LemkeSolution.l0 k1 cI (wrap64 (aW+1)) ai ag)=some (r1,r2):=by first | (rw [hy421];with_reducible exact H) | (have H2_:=(Option.bind_some _ _).symm.trans H;rw [hy421];with_reducible exact H2_) | (have H2_:=(Option.bind_some _ _).symm.trans H;with_reducible exact H2_) | with_reducible exact H | (rw [hy421];exact H) | exact H
         have cO:=Aside0.mk hy421
         clear hy421
         have H':=Aside0.mk H
         clear H
         have eL:=aj.out
         have eM:=aK.out
         have dq:wr.cell? ⟨af,0,none⟩=some (.slice ak ai.length aq):=(blk_cell aa.out 0).trans rfl
         have dr:wr.cell? ⟨af,1,none⟩=some (.slice au ag.length av):=(blk_cell aa.out 1).trans rfl
         have du:=blk_frozen aa.out 0
         have dw:=blk_frozen aa.out 1
         go_wp2_with (first | ((with_reducible refine gate_builtin (b:= .append) (xs:= #[.tmp 45, .tmp 47]) rfl ?_);at_builtin;refine Kd.R_append k93 (w0:=w) w.heap.size rfl (.tmp 45) (.tmp 47) 27 93 (.agg #[(.int .i64 0),(.int .i64 0)]) 16 rfl Try.underlying27 info93 rfl (by decide) (by omega) u11 bk (⟨0,1⟩:S93) [.int .i64 0, .int .i64 1] (fun _=>True) (fun _=>False) rfl rfl ?aP (fun _ hk=>hk.elim) ?aF ?aO ?aB ?aS ?aL ?_;(case aP=>exact k93_mkM _ _ _ (⟨0,1⟩:S93));(case aB=>exact hb_);(case aF=>exact(fun _ _=>trivial));(case aO=>exact(ro_ aY.out));(case aS=>exact bz_);(case aL=>have:=cN.out;omega);intro fk w37 ho hb hg hat;rw [← cO.out] at ho;replace bg:=Aside0.mk (Kd.S_over' (so_ bg.out) (Kd.R_typed (ro_ aY.out)) (by decide) hg);replace bh:=Aside0.mk (Kd.R_over' (ro_ bh.out) (Kd.R_typed (ro_ aY.out)) (by decide) hg);replace aa:=Aside0.mk (bg_ aa.out hg (Kd.R_ne aY.out aa.out (by decide)));replace ah:=Aside0.mk (bg_ ah.out hg (Kd.R_ne aY.out ah.out (by decide)));replace HB:=Aside0.mk (hb);have cP:=Aside0.mk (ho);clear aY ho hb hg hat))
         go_roundg k1
         case measure=>have:=HK1.out;omega
         case rel=>exact⟨(cI),(wrap64 (aW+1)),rs_,H',⟨by have:=HK1.out;omega⟩,⟨ro_ cP.out⟩,⟨so_ bg.out⟩,⟨ro_ bh.out⟩,⟨bk_⟩,⟨bk_⟩,⟨hb_⟩⟩
        ·rw [if_neg c34] at H
         exact absurd H (by simp)
       ·rw [if_neg c33] at H
        have c33b0:decide (aW < (ag.length:Int))=false:=decide_eq_false c33
        clear c33
        simp only [Option.some.injEq,Prod.mk.injEq] at H
        obtain⟨rfl,rfl⟩:=H
        have eO:=aj.out
        have eP:=aK.out
        have dx:wr.cell? ⟨af,0,none⟩=some (.slice ak ai.length aq):=(blk_cell aa.out 0).trans rfl
        have dz:wr.cell? ⟨af,1,none⟩=some (.slice au ag.length av):=(blk_cell aa.out 1).trans rfl
        have dA:=blk_frozen aa.out 0
        have dB:=blk_frozen aa.out 1
        go_wp2
        go_ret2
        exact⟨_,by first | rfl | (simp [errW_none,errW_some] <;> rfl) | (simp [*,errW_none,errW_some] <;> rfl),ro_ aY.out,hb_⟩
    ·rw [if_neg c19] at H
     have c19b0:((aN.length:Int)==0)=false:=beq_eq_false_iff_ne.mpr c19
     have c19b1:((aN.length:Int) !=0)=true:=bne_iff_ne.mpr c19
     have c19b2: ¬ (aN= []):=fun h_=>c19 (by rw [h_];rfl)
     replace H:=Option.bind_eq_some_iff.mp H
     obtain⟨⟨cJ,cK⟩,A400,H⟩:=H
     replace H:(some (cJ,cK))=some (r1,r2):=H
     have A40:=Aside0.mk A400
     clear A400
     simp only [Option.some.injEq,Prod.mk.injEq] at H
     obtain⟨rfl,rfl⟩:=H
     go_enter Try.func21,Try.ntmps21
     go_wp2_with (first | ((with_reducible refine gate_dst (N:=2) rfl ?_);refine box_event ?hg (N:=2) ?hd (cs:= #[.slice ak ai.length aq, .slice au ag.length av]) (t:=30) ?hr ?_;(case hd=>rfl);(case hg=>rfl);(case hr=>first | (go_simp;done) | (go_simp;rfl));intro af hg w41 hbox hb;have aa:=Aside0.mk (hbox);have bu:=Aside0.mk ((by rw [hg];exact bz_:w.heap.size≤af));have bv:=Aside0.mk ((by rw [hg];exact bz_:w.heap.size≤af));replace HB:=Aside0.mk (bs_ hb);clear hb hbox hg;have dC:w41.cell? ⟨af,0,none⟩=some (.slice ak ai.length aq):=(blk_cell aa.out 0).trans rfl;have dD:w41.cell? ⟨af,1,none⟩=some (.slice au ag.length av):=(blk_cell aa.out 1).trans rfl;have dE:=blk_frozen aa.out 0;have dF:=blk_frozen aa.out 1) | ((with_reducible refine gate_callee (f:=94) rfl ?_);refine gL_ 17 Try.func94 #[.agg #[.slice ak ai.length aq, .slice au ag.length av], .slice A1 l1.length c1] ?_;(with_reducible refine(spec_l05Code.calls k _ _ ai _ _ ag _ _ l1 aU _ ?aA ?aC ?aD ?aG ?aI ?aJ A3.out).mono ?_);(case aA=>exact cb_ HR0_0.out HB.out);(case aC=>exact HC0_0.out);(case aD=>exact cb_ HR0_1.out HB.out);(case aG=>exact HC0_1.out);(case aI=>exact cb_ HR1.out HB.out);(case aJ=>exact HC1.out);rintro e w43 ⟨rfl,hb⟩;refine⟨_,rfl,?_⟩;replace aa:=Aside0.mk (bb_ aa.out hb);replace HB:=Aside0.mk (bs_ hb);(try clear hb);(try clear hb2);(try clear hk);(try clear hi);have dG:w43.cell? ⟨af,0,none⟩=some (.slice ak ai.length aq):=(blk_cell aa.out 0).trans rfl;have dH:w43.cell? ⟨af,1,none⟩=some (.slice au ag.length av):=(blk_cell aa.out 1).trans rfl;have dI:=blk_frozen aa.out 0;have dJ:=blk_frozen aa.out 1) | ((with_reducible refine gate_callee (f:=95) rfl ?_);refine gL_ 24 Try.func95 #[.agg #[.slice ak ai.length aq, .slice au ag.length av], .slice A1 l1.length c1, .int .i64 201] ?_;(with_reducible refine(spec_l05Run.calls k _ _ ai _ _ ag _ _ l1 201 ay aM az aN bz true _ ?aA ?aC ?aD ?aG ?aI ?aJ A5.out).mono ?_);(case aA=>exact cb_ HR0_0.out HB.out);(case aC=>exact HC0_0.out);(case aD=>exact cb_ HR0_1.out HB.out);(case aG=>exact HC0_1.out);(case aI=>exact cb_ HR1.out HB.out);(case aJ=>exact HC1.out);rintro e w45 ⟨bD,bE,bF,rfl,ho0,ho1,ho2,hb⟩;refine⟨_,rfl,?_⟩;have aw:=Aside0.mk (Kd.S_lower ho0 bz_);have ax:=Aside0.mk (Kd.R_lower ho1 bz_);have aH:=Aside0.mk (Kd.S_lower ho2 bz_);replace aa:=Aside0.mk (bb_ aa.out hb);replace HB:=Aside0.mk (bs_ hb);(try clear hb);(try clear hb2);(try clear hk);(try clear hi);(try clear ho0);(try clear ho1);(try clear ho2)) | ((with_reducible refine gate_dst (N:=7) rfl ?_);refine box_event ?hg (N:=7) ?hd (cs:= #[.slice none 0 0, .int .i64 0, .slice none 0 0]) (t:=100) ?hr ?_;(case hd=>rfl);(case hg=>rfl);(case hr=>first | (go_simp;done) | (go_simp;rfl));intro ae hg w46 hbox hb;replace aw:=Aside0.mk (Kd.S_below (so_ aw.out) hb);replace ax:=Aside0.mk (rb_ ax.out hb);replace aH:=Aside0.mk (Kd.S_below (so_ aH.out) hb);have ah:=Aside0.mk (hbox);have bA:=Aside0.mk ((by rw [hg];exact bz_:w.heap.size≤ae));have bB:=Aside0.mk ((by rw [hg];exact bz_:w.heap.size≤ae));have aj:=Aside0.mk ((by rw [hg];exact lt_ aa.out:af≠ae));have aK:=Aside0.mk ((by rw [hg];exact gt_ aa.out:ae≠af));replace aa:=Aside0.mk (bb_ aa.out hb);replace HB:=Aside0.mk (bs_ hb);clear hb hbox hg;obtain⟨aZ,aX,da⟩:=Kd.S_slice aw.out;subst da;have eQ:=aK.out;have eS:=aj.out;have dK:w46.cell? ⟨ae,0,none⟩=some (.slice none 0 0):=(blk_cell ah.out 0).trans rfl;have dL:w46.cell? ⟨ae,1,none⟩=some (.int .i64 0):=(blk_cell ah.out 1).trans rfl;have dM:w46.cell? ⟨ae,2,none⟩=some (.slice none 0 0):=(blk_cell ah.out 2).trans rfl;have dN:=blk_frozen ah.out 0;have dO:=blk_frozen ah.out 1;have dP:=blk_frozen ah.out 2;obtain⟨bi,a9,db⟩:=Kd.R_slice ax.out;subst db;obtain⟨dc,df,dh⟩:=Kd.S_slice aH.out;subst dh) | ((with_reducible refine gate_callee (f:=96) rfl ?_);refine gL_ 52 Try.func96 #[.agg #[.slice aZ ay.length aX, .int .i64 aM, .slice bi az.length a9]] ?_;(with_reducible refine(spec_l05Z.calls k _ _ ay aM _ _ az cJ cK _ ?aA ?aC ?aD ?aG A40.out).mono ?_);(case aA=>refine(Kd.S_reads' (e:=23) (base:=w.heap.size) (ok:=fun k_=>(some k_≠(.slice bi az.length a9:Value).ownBlock∧some k_≠(.slice dc aN.length df:Value).ownBlock)) (n:=ay.length) (c:=aX) ?_).2.2;exact(by(with_reducible repeat (first | apply Kd.S_alloc | apply Kd.S_drewN | apply Kd.S_drew));exact(Kd.S_mono (Kd.S_far (p:=⟨ae,2,none⟩) (Kd.S_far (p:=⟨ae,1,none⟩) (Kd.S_far (p:=⟨ae,0,none⟩) (Kd.S_types aw.out ah.out (by decide)) (fun _ hk=>hk.2) (.slice aZ ay.length aX)) (fun _ hk=>hk.2) (.int .i64 aM)) (fun _ hk=>hk.2) (.slice bi az.length a9)) (fun _ h_=>h_.1))));(case aC=>exact(Kd.S_reads' aw.out).2.1);(case aD=>refine(Kd.R_reads' (e:=2) (base:=w.heap.size) (ok:=fun k_=>True) (n:=az.length) (c:=a9) ?_).2.2;exact(by(with_reducible repeat (first | apply Kd.R_alloc | apply Kd.R_drewN | apply Kd.R_drew));exact(Kd.R_mono (Kd.R_far (p:=⟨ae,2,none⟩) (Kd.R_far (p:=⟨ae,1,none⟩) (Kd.R_far (p:=⟨ae,0,none⟩) (Kd.R_types ax.out ah.out (by decide)) (fun _ hk=>hk.2) (.slice aZ ay.length aX)) (fun _ hk=>hk.2) (.int .i64 aM)) (fun _ hk=>hk.2) (.slice bi az.length a9)) (fun _ h_=>h_.1))));(case aG=>exact(Kd.R_reads' ax.out).2.1);rintro e w52 ⟨fo,rfl,ho0,hb⟩;refine⟨_,rfl,?_⟩;replace aw:=Aside0.mk (Kd.S_below (by(with_reducible repeat (first | apply Kd.S_alloc | apply Kd.S_drewN | apply Kd.S_drew));exact(Kd.S_mono (Kd.S_far (p:=⟨ae,2,none⟩) (Kd.S_far (p:=⟨ae,1,none⟩) (Kd.S_far (p:=⟨ae,0,none⟩) (Kd.S_types aw.out ah.out (by decide)) (fun _ hk=>hk.2) (.slice aZ ay.length aX)) (fun _ hk=>hk.2) (.int .i64 aM)) (fun _ hk=>hk.2) (.slice bi az.length a9)) (fun _ h_=>h_.1))) hb);replace ax:=Aside0.mk (Kd.R_below (by(with_reducible repeat (first | apply Kd.R_alloc | apply Kd.R_drewN | apply Kd.R_drew));exact(Kd.R_mono (Kd.R_far (p:=⟨ae,2,none⟩) (Kd.R_far (p:=⟨ae,1,none⟩) (Kd.R_far (p:=⟨ae,0,none⟩) (Kd.R_types ax.out ah.out (by decide)) (fun _ hk=>hk.2) (.slice aZ ay.length aX)) (fun _ hk=>hk.2) (.int .i64 aM)) (fun _ hk=>hk.2) (.slice bi az.length a9)) (fun _ h_=>h_.1))) hb);replace aH:=Aside0.mk (Kd.S_below (by(with_reducible repeat (first | apply Kd.S_alloc | apply Kd.S_drewN | apply Kd.S_drew));exact(Kd.S_mono (Kd.S_far (p:=⟨ae,2,none⟩) (Kd.S_far (p:=⟨ae,1,none⟩) (Kd.S_far (p:=⟨ae,0,none⟩) (Kd.S_types aH.out ah.out (by decide)) (fun _ hk=>hk.2) (.slice aZ ay.length aX)) (fun _ hk=>hk.2) (.int .i64 aM)) (fun _ hk=>hk.2) (.slice bi az.length a9)) (fun _ h_=>h_.1))) hb);have cQ:=Aside0.mk (Kd.R_lower ho0 bz_);replace aa:=Aside0.mk (blk_below (g:=af) (o:= .cells #[.slice ak ai.length aq, .slice au ag.length av] 30 (0,0)) (by(with_reducible repeat (first | refine blk_drewN ?_ _ | refine blk_drew ?_ | refine blk_alloc ?_ _));refine blk_far ?_ aj.out _;(with_reducible repeat (first | refine blk_drewN ?_ _ | refine blk_drew ?_ | refine blk_alloc ?_ _));refine blk_far ?_ aj.out _;(with_reducible repeat (first | refine blk_drewN ?_ _ | refine blk_drew ?_ | refine blk_alloc ?_ _));refine blk_far ?_ aj.out _;(with_reducible repeat (first | refine blk_drewN ?_ _ | refine blk_drew ?_ | refine blk_alloc ?_ _));exact aa.out) hb);replace ah:=Aside0.mk (blk_below (g:=ae) (o:= .cells #[.slice aZ ay.length aX, .int .i64 aM, .slice bi az.length a9] 100 (0,0)) (by(with_reducible repeat (first | refine blk_drewN ?_ _ | refine blk_drew ?_ | refine blk_alloc ?_ _));refine blk_put (cs:= #[.slice aZ ay.length aX, .int .i64 aM, .slice none 0 0]) ?_ 2 _ rfl;(with_reducible repeat (first | refine blk_drewN ?_ _ | refine blk_drew ?_ | refine blk_alloc ?_ _));refine blk_put (cs:= #[.slice aZ ay.length aX, .int .i64 0, .slice none 0 0]) ?_ 1 _ rfl;(with_reducible repeat (first | refine blk_drewN ?_ _ | refine blk_drew ?_ | refine blk_alloc ?_ _));refine blk_put (cs:= #[.slice none 0 0, .int .i64 0, .slice none 0 0]) ?_ 0 _ rfl;(with_reducible repeat (first | refine blk_drewN ?_ _ | refine blk_drew ?_ | refine blk_alloc ?_ _));exact ah.out) hb);replace HB:=Aside0.mk (bs_ hb);(try clear hb);(try clear hb2);(try clear hk);(try clear hi);(try clear ho0)))
     go_ret2
     exact⟨_,by first | rfl | (simp [errW_none,errW_some] <;> rfl) | (simp [*,errW_none,errW_some] <;> rfl),ro_ cQ.out,hb_⟩
   ·replace c18:=Bool.eq_false_iff.mpr c18
    subst c18
    have H1:(some (([]:List (S93)),4))=some (r1,r2):=by rw [if_neg (show ¬ (false=true) by decide)] at H;exact H
    clear H
    have H:=H1
    clear H1
    simp only [Option.some.injEq,Prod.mk.injEq] at H
    obtain⟨rfl,rfl⟩:=H
    go_enter Try.func21,Try.ntmps21
    go_wp2_with (first | ((with_reducible refine gate_dst (N:=2) rfl ?_);refine box_event ?hg (N:=2) ?hd (cs:= #[.slice ak ai.length aq, .slice au ag.length av]) (t:=30) ?hr ?_;(case hd=>rfl);(case hg=>rfl);(case hr=>first | (go_simp;done) | (go_simp;rfl));intro af hg w53 hbox hb;have aa:=Aside0.mk (hbox);have bu:=Aside0.mk ((by rw [hg];exact bz_:w.heap.size≤af));have bv:=Aside0.mk ((by rw [hg];exact bz_:w.heap.size≤af));replace HB:=Aside0.mk (bs_ hb);clear hb hbox hg;have dQ:w53.cell? ⟨af,0,none⟩=some (.slice ak ai.length aq):=(blk_cell aa.out 0).trans rfl;have dR:w53.cell? ⟨af,1,none⟩=some (.slice au ag.length av):=(blk_cell aa.out 1).trans rfl;have dS:=blk_frozen aa.out 0;have dU:=blk_frozen aa.out 1) | ((with_reducible refine gate_callee (f:=94) rfl ?_);refine gL_ 17 Try.func94 #[.agg #[.slice ak ai.length aq, .slice au ag.length av], .slice A1 l1.length c1] ?_;(with_reducible refine(spec_l05Code.calls k _ _ ai _ _ ag _ _ l1 aU _ ?aA ?aC ?aD ?aG ?aI ?aJ A3.out).mono ?_);(case aA=>exact cb_ HR0_0.out HB.out);(case aC=>exact HC0_0.out);(case aD=>exact cb_ HR0_1.out HB.out);(case aG=>exact HC0_1.out);(case aI=>exact cb_ HR1.out HB.out);(case aJ=>exact HC1.out);rintro e w55 ⟨rfl,hb⟩;refine⟨_,rfl,?_⟩;replace aa:=Aside0.mk (bb_ aa.out hb);replace HB:=Aside0.mk (bs_ hb);(try clear hb);(try clear hb2);(try clear hk);(try clear hi);have dV:w55.cell? ⟨af,0,none⟩=some (.slice ak ai.length aq):=(blk_cell aa.out 0).trans rfl;have dW:w55.cell? ⟨af,1,none⟩=some (.slice au ag.length av):=(blk_cell aa.out 1).trans rfl;have dX:=blk_frozen aa.out 0;have dY:=blk_frozen aa.out 1) | ((with_reducible refine gate_callee (f:=95) rfl ?_);refine gL_ 24 Try.func95 #[.agg #[.slice ak ai.length aq, .slice au ag.length av], .slice A1 l1.length c1, .int .i64 201] ?_;(with_reducible refine(spec_l05Run.calls k _ _ ai _ _ ag _ _ l1 201 ay aM az aN bz false _ ?aA ?aC ?aD ?aG ?aI ?aJ A5.out).mono ?_);(case aA=>exact cb_ HR0_0.out HB.out);(case aC=>exact HC0_0.out);(case aD=>exact cb_ HR0_1.out HB.out);(case aG=>exact HC0_1.out);(case aI=>exact cb_ HR1.out HB.out);(case aJ=>exact HC1.out);rintro e w57 ⟨bD,bE,bF,rfl,ho0,ho1,ho2,hb⟩;refine⟨_,rfl,?_⟩;have aw:=Aside0.mk (Kd.S_lower ho0 bz_);have ax:=Aside0.mk (Kd.R_lower ho1 bz_);have aH:=Aside0.mk (Kd.S_lower ho2 bz_);replace aa:=Aside0.mk (bb_ aa.out hb);replace HB:=Aside0.mk (bs_ hb);(try clear hb);(try clear hb2);(try clear hk);(try clear hi);(try clear ho0);(try clear ho1);(try clear ho2)) | ((with_reducible refine gate_dst (N:=7) rfl ?_);refine box_event ?hg (N:=7) ?hd (cs:= #[.slice none 0 0, .int .i64 0, .slice none 0 0]) (t:=100) ?hr ?_;(case hd=>rfl);(case hg=>rfl);(case hr=>first | (go_simp;done) | (go_simp;rfl));intro ae hg w58 hbox hb;replace aw:=Aside0.mk (Kd.S_below (so_ aw.out) hb);replace ax:=Aside0.mk (rb_ ax.out hb);replace aH:=Aside0.mk (Kd.S_below (so_ aH.out) hb);have ah:=Aside0.mk (hbox);have bA:=Aside0.mk ((by rw [hg];exact bz_:w.heap.size≤ae));have bB:=Aside0.mk ((by rw [hg];exact bz_:w.heap.size≤ae));have aj:=Aside0.mk ((by rw [hg];exact lt_ aa.out:af≠ae));have aK:=Aside0.mk ((by rw [hg];exact gt_ aa.out:ae≠af));replace aa:=Aside0.mk (bb_ aa.out hb);replace HB:=Aside0.mk (bs_ hb);clear hb hbox hg;obtain⟨fp,fq,di⟩:=Kd.S_slice aw.out;subst di;have eT:=aK.out;have eU:=aj.out;have dZ:w58.cell? ⟨ae,0,none⟩=some (.slice none 0 0):=(blk_cell ah.out 0).trans rfl;have d9:w58.cell? ⟨ae,1,none⟩=some (.int .i64 0):=(blk_cell ah.out 1).trans rfl;have ep:w58.cell? ⟨ae,2,none⟩=some (.slice none 0 0):=(blk_cell ah.out 2).trans rfl;have eu:=blk_frozen ah.out 0;have ez:=blk_frozen ah.out 1;have eB:=blk_frozen ah.out 2;obtain⟨fu,fw,dl⟩:=Kd.R_slice ax.out;subst dl;obtain⟨fA,fB,dm⟩:=Kd.S_slice aH.out;subst dm))
    go_ret2
    exact⟨_,by first | rfl | (simp [errW_none,errW_some] <;> rfl) | (simp [*,errW_none,errW_some] <;> rfl),by first | exact Kd.R_nil _ _ _ _ _ | exact Kd.N_nil _ _ _ _ _ | exact Kd.V_nil _ _ _ _ _ | exact Kd.Q_nil _ _ _ _ _ | exact Kd.S_nil _ _ _ _ _,hb_⟩
 ·rw [if_neg c4] at H
  have c4b0:(aU==0)=false:=beq_eq_false_iff_ne.mpr c4
  have c4b1:(aU !=0)=true:=bne_iff_ne.mpr c4
  simp only [Option.some.injEq,Prod.mk.injEq] at H
  obtain⟨rfl,rfl⟩:=H
  go_enter Try.func21,Try.ntmps21
  go_wp2_with (first | ((with_reducible refine gate_dst (N:=2) rfl ?_);refine box_event ?hg (N:=2) ?hd (cs:= #[.slice ak ai.length aq, .slice au ag.length av]) (t:=30) ?hr ?_;(case hd=>rfl);(case hg=>rfl);(case hr=>first | (go_simp;done) | (go_simp;rfl));intro af hg w64 hbox hb;have aa:=Aside0.mk (hbox);have bu:=Aside0.mk ((by rw [hg];exact bz_:w.heap.size≤af));have bv:=Aside0.mk ((by rw [hg];exact bz_:w.heap.size≤af));replace HB:=Aside0.mk (bs_ hb);clear hb hbox hg;have eC:w64.cell? ⟨af,0,none⟩=some (.slice ak ai.length aq):=(blk_cell aa.out 0).trans rfl;have eD:w64.cell? ⟨af,1,none⟩=some (.slice au ag.length av):=(blk_cell aa.out 1).trans rfl;have eF:=blk_frozen aa.out 0;have eG:=blk_frozen aa.out 1) | ((with_reducible refine gate_callee (f:=94) rfl ?_);refine gL_ 17 Try.func94 #[.agg #[.slice ak ai.length aq, .slice au ag.length av], .slice A1 l1.length c1] ?_;(with_reducible refine(spec_l05Code.calls k _ _ ai _ _ ag _ _ l1 aU _ ?aA ?aC ?aD ?aG ?aI ?aJ A3.out).mono ?_);(case aA=>exact cb_ HR0_0.out HB.out);(case aC=>exact HC0_0.out);(case aD=>exact cb_ HR0_1.out HB.out);(case aG=>exact HC0_1.out);(case aI=>exact cb_ HR1.out HB.out);(case aJ=>exact HC1.out);rintro e w66 ⟨rfl,hb⟩;refine⟨_,rfl,?_⟩;replace aa:=Aside0.mk (bb_ aa.out hb);replace HB:=Aside0.mk (bs_ hb);(try clear hb);(try clear hb2);(try clear hk);(try clear hi)))
  go_ret2
  exact⟨_,by first | rfl | (simp [errW_none,errW_some] <;> rfl) | (simp [*,errW_none,errW_some] <;> rfl),by first | exact Kd.R_nil _ _ _ _ _ | exact Kd.N_nil _ _ _ _ _ | exact Kd.V_nil _ _ _ _ _ | exact Kd.Q_nil _ _ _ _ _ | exact Kd.S_nil _ _ _ _ _,hb_⟩
def laws_eqFracS.l0:Nat→List (S93)→List (S93)→Int→Option (Bool)
 | 0,_,_,_=>none
 | k+1,x0,x1,x5=>if x5 < (x0.length:Int) then(if 0≤x5 then(if x5 < (x1.length:Int) then((laws_eqFrac.f ((rd_T93 x0 x5).f0) ((rd_T93 x0 x5).f1) ((rd_T93 x1 x5).f0) ((rd_T93 x1 x5).f1)).bind fun aa=>(if aa=true then(laws_eqFracS.l0 k x0 x1 (wrap64 (x5+1))) else(some false))) else(none)) else(none)) else(some true)
def laws_eqFracS.f (k:Nat) (l0:List (S93)) (l1:List (S93)):Option (Bool):=if(l0.length:Int)=(l1.length:Int) then(laws_eqFracS.l0 k l0 l1 0) else(some false)
theorem laws_eqFracS.mono_l: ∀k,(∀y0 y1 y2,LeO (laws_eqFracS.l0 k y0 y1 y2) (laws_eqFracS.l0 (k+1) y0 y1 y2))
 | 0=>fun _ _ _ r h=>by simp [laws_eqFracS.l0] at h
 | k+1=>by
  have ih0:=laws_eqFracS.mono_l k
  ·intro y0 y1 y2
   unfold laws_eqFracS.l0
   repeat' first
   | (with_reducible exact ih0 _ _ _)
   | (with_reducible exact LeO.refl _)
   | (with_reducible exact LeO.none _)
   | (with_reducible refine LeO.ite ?_ ?_)
   | (with_reducible refine LeO.bind ?_ (fun _=>?_))
   | exact ih0 _ _ _
   | exact LeO.none _
   | refine LeO.ite ?_ ?_
   | refine LeO.bind ?_ (fun _=>?_)
theorem laws_eqFracS.mono: ∀a0 a1 k,LeO (laws_eqFracS.f k a0 a1) (laws_eqFracS.f (k+1) a0 a1):=by
 intro a0 a1 k
 have ih0:=laws_eqFracS.mono_l k
 unfold laws_eqFracS.f
 repeat' first
   | (with_reducible exact ih0 _ _ _)
   | (with_reducible exact LeO.refl _)
   | (with_reducible exact LeO.none _)
   | (with_reducible refine LeO.ite ?_ ?_)
   | (with_reducible refine LeO.bind ?_ (fun _=>?_))
   | exact ih0 _ _ _
   | exact LeO.none _
   | refine LeO.ite ?_ ?_
   | refine LeO.bind ?_ (fun _=>?_)
def laws_eqFracS.T6:Bool × List (List Nat × List Nat):=(true, [([], []),([], []),([0,1], [0,1]),([2], [2]),([], []),([], []),([4,5], [4,5]),([6], [6]),([3,7], [3,7]),([8], [8])])
def laws_eqFracS.B6:List Nat:= [0,0,3,7,0,0,48,112,255,511]
theorem laws_eqFracS.tab6:rtab .any (opsOf Try.f14 6)=laws_eqFracS.T6:=by kernel_rfl
theorem laws_eqFracS.bits6:waitsOk laws_eqFracS.T6.2 laws_eqFracS.B6=true:=by kernel_rfl
theorem laws_eqFracS.calls (k:Nat) (A0:Option Addr) (c0:Nat) (l0:List (S93)) (A1:Option Addr) (c1:Nat) (l1:List (S93)) (r:Bool) (w:World) (hr0:Kd.C k93 w A0 l0.length l0) (hc0:l0.length≤c0) (hr1:Kd.C k93 w A1 l1.length l1) (hc1:l1.length≤c1) (h:laws_eqFracS.f k l0 l1=some r):
  Calls Try.prog 14 #[.slice A0 l0.length c0, .slice A1 l1.length c1] w fun e w'=>e= .returned (.bool r)∧Below w.heap.size w w':=by
 have hu93:=Try.underlying93
 have HR0:=Aside0.mk hr0
 have HC0:=Aside0.mk hc0
 clear hr0 hc0
 have HR1:=Aside0.mk hr1
 have HC1:=Aside0.mk hc1
 clear hr1 hc1
 have HB:=Aside0.mk (Below.refl w.heap.size w)
 have H:(if(l0.length:Int)=(l1.length:Int) then(laws_eqFracS.l0 k l0 l1 0) else(some false))=some r:=h
 clear h
 by_cases c3:(l0.length:Int)=(l1.length:Int)
 ·rw [if_pos c3] at H
  have c3b0:((l0.length:Int)==(l1.length:Int))=true:=beq_iff_eq.mpr c3
  have c3b1:((l0.length:Int) !=(l1.length:Int))=false:=bne_eq_false_iff_eq.mpr c3
  have c3b2:(l0.length==l1.length)=true:=by first | simpa using c3 | (simp at c3 ⊢;omega)
  clear c3
  have H':=Aside0.mk H
  clear H
  go_enter Try.func14,Try.ntmps14
  go_wp2
  go_loopg [5] k (fun kq v5 w'=> ∃(aa:Int),v5= .int .i64 aa∧Aside0 (laws_eqFracS.l0 kq l0 l1 aa=some r)∧Aside0 (kq≤k)∧Aside0 (Below w.heap.size w w'))
  case atStart=>exact⟨(0),rs_,H',⟨Nat.le_refl _⟩,⟨hb_⟩⟩
  case round=>
   clear H'
   try clear c1
   try clear p2
   try clear c3
   try clear c3b0
   try clear c3b1
   try clear c3b2
   obtain⟨aa,rfl,HA,HK1,HB⟩:=hrel
   cases gk with
   | zero=>exact absurd HA.out (by simp [laws_eqFracS.l0])
   | succ k1=>
    have H:=HA.out
    clear HA
    simp only [laws_eqFracS.l0] at H
    by_cases c4:aa < (l0.length:Int)
    ·rw [if_pos c4] at H
     have c4b0:decide (aa < (l0.length:Int))=true:=decide_eq_true c4
     clear c4
     by_cases c5:0≤aa
     ·rw [if_pos c5] at H
      have c5b0:decide (0≤aa)=true:=decide_eq_true c5
      clear c5
      by_cases c6:aa < (l1.length:Int)
      ·rw [if_pos c6] at H
       have c6b0:decide (aa < (l1.length:Int))=true:=decide_eq_true c6
       clear c6
       replace H:=Option.bind_eq_some_iff.mp H
       obtain⟨ak,A70,H⟩:=H
       replace H:(if ak=true then(laws_eqFracS.l0 k1 l0 l1 (wrap64 (aa+1))) else(some false))=some r:=H
       have A7:=Aside0.mk A70
       clear A70
       by_cases c8:ak=true
       ·subst c8
        have H1:(laws_eqFracS.l0 k1 l0 l1 (wrap64 (aa+1)))=some r:=by rw [if_pos rfl] at H;exact H
        clear H
        have H:=H1
        clear H1
        have H':=Aside0.mk H
        clear H
        try go_wp2
        replace HB:=Aside0.mk (below_drew1 HB.out)
        have p133:0≤(aa:Int):=od_
        have q133:aa < (l0.length:Int):=od_
        obtain⟨ai,e133,hx133_0,hx133_1⟩:=at_T93 HR0.out aa p133 q133
        have ae:=hx133_1
        have af:=hx133_0
        cases e133
        replace hx133_0:=(HB.out.cell (World.block_lt_of_cell? w _ hx133_0)).trans hx133_0
        replace hx133_1:=(HB.out.cell (World.block_lt_of_cell? w _ hx133_1)).trans hx133_1
        replace p133:=eq_true p133
        replace q133:=eq_true q133
        have p134:0≤(aa:Int):=od_
        have q134:aa < (l1.length:Int):=od_
        obtain⟨aj,e134,hx134_0,hx134_1⟩:=at_T93 HR1.out aa p134 q134
        have ag:=hx134_1
        have ah:=hx134_0
        cases e134
        replace hx134_0:=(HB.out.cell (World.block_lt_of_cell? w _ hx134_0)).trans hx134_0
        replace hx134_1:=(HB.out.cell (World.block_lt_of_cell? w _ hx134_1)).trans hx134_1
        replace p134:=eq_true p134
        replace q134:=eq_true q134
        refine st_ (n:=10) (S:=fun w'=>w'.cell? (ai.add ((aa).toNat*2))=some (.int .i64 ((rd_T93 l0 aa).f0))∧w'.cell? ⟨(ai.add ((aa).toNat*2)).block,(ai.add ((aa).toNat*2)).off+1,none⟩=some (.int .i64 ((rd_T93 l0 aa).f1))∧w'.cell? (aj.add ((aa).toNat*2))=some (.int .i64 ((rd_T93 l1 aa).f0))∧w'.cell? ⟨(aj.add ((aa).toNat*2)).block,(aj.add ((aa).toNat*2)).off+1,none⟩=some (.int .i64 ((rd_T93 l1 aa).f1))) (ds:= []) ⟨((HB.out.cell (World.block_lt_of_cell? w _ af)).trans af),((HB.out.cell (World.block_lt_of_cell? w _ ae)).trans ae),((HB.out.cell (World.block_lt_of_cell? w _ ah)).trans ah),((HB.out.cell (World.block_lt_of_cell? w _ ag)).trans ag)⟩ (fun hHeld=>?_);refine with_tabW laws_eqFracS.tab6 laws_eqFracS.bits6 (fun HT_ HW_=>?_)
        generalize wr.drew=w9 at HB hx133_0 hx133_1 hx134_0 hx134_1 hHeld ⊢
        refine pu_ 0 17 ?_;refine pu_ 1 18 ?_;refine pu_ 2 19 ?_;refine pu_ 4 21 ?_;refine pu_ 5 22 ?_;refine pu_ 6 23 ?_;refine tk_ 3 20 ?_;refine tk_ 7 24 ?_
        refine on_ 8 (some 25) (fun K hK=>?_)
        refine goes_ Try.func91 (by kernel_rfl) rfl #[.agg #[.int .i64 ((rd_T93 l0 aa).f0), .int .i64 ((rd_T93 l0 aa).f1)], .agg #[.int .i64 ((rd_T93 l1 aa).f0), .int .i64 ((rd_T93 l1 aa).f1)]] (by rfl) rfl rfl (by(try simp only [List.map_toArray,List.map_cons,List.map_nil]);first | done | rfl | (simp only [List.length_drop,List.length_take];rfl)) ?_
        with_reducible refine(laws_eqFrac.calls ((rd_T93 l0 aa).f0) ((rd_T93 l0 aa).f1) ((rd_T93 l1 aa).f0) ((rd_T93 l1 aa).f1) true _ A7.out).mono ?_
        rintro e w10 ⟨rfl,hb⟩
        refine⟨_,rfl,?_⟩
        replace HB:=Aside0.mk (bs_ hb)
        (try clear hb)
        (try clear hb2)
        (try clear hk)
        (try clear hi)
        refine hK.out _ _ ⟨((HB.out.cell (World.block_lt_of_cell? w _ af)).trans af),((HB.out.cell (World.block_lt_of_cell? w _ ae)).trans ae),((HB.out.cell (World.block_lt_of_cell? w _ ah)).trans ah),((HB.out.cell (World.block_lt_of_cell? w _ ag)).trans ag)⟩ (fun hHeld=>?_)
        clear hK K
        refine norm_ (a':=?_) ?_ ?_
        rotate_left
        ·show Act.put _ (some 25) _=_
         simp only [Act.put,List.setIfInBounds_toArray,List.set_cons_zero,List.set_cons_succ,i64_w,i32_w]
         rfl
        refine pu_ 9 26 ?_
        refine done_ (done_of HT_.out (by kernel_rfl)) ?_
        try go_wp2
        go_roundg k1
        case measure=>have:=HK1.out;omega
        case rel=>exact⟨(wrap64 (aa+1)),rs_,H',⟨by have:=HK1.out;omega⟩,⟨hb_⟩⟩
       ·replace c8:=Bool.eq_false_iff.mpr c8
        subst c8
        have H1:(some false)=some r:=by rw [if_neg (show ¬ (false=true) by decide)] at H;exact H
        clear H
        have H:=H1
        clear H1
        obtain rfl:=Option.some.inj H
        try go_wp2
        replace HB:=Aside0.mk (below_drew1 HB.out)
        have p133:0≤(aa:Int):=od_
        have q133:aa < (l0.length:Int):=od_
        obtain⟨ai,e133,hx133_0,hx133_1⟩:=at_T93 HR0.out aa p133 q133
        have ae:=hx133_1
        have af:=hx133_0
        cases e133
        replace hx133_0:=(HB.out.cell (World.block_lt_of_cell? w _ hx133_0)).trans hx133_0
        replace hx133_1:=(HB.out.cell (World.block_lt_of_cell? w _ hx133_1)).trans hx133_1
        replace p133:=eq_true p133
        replace q133:=eq_true q133
        have p134:0≤(aa:Int):=od_
        have q134:aa < (l1.length:Int):=od_
        obtain⟨aj,e134,hx134_0,hx134_1⟩:=at_T93 HR1.out aa p134 q134
        have ag:=hx134_1
        have ah:=hx134_0
        cases e134
        replace hx134_0:=(HB.out.cell (World.block_lt_of_cell? w _ hx134_0)).trans hx134_0
        replace hx134_1:=(HB.out.cell (World.block_lt_of_cell? w _ hx134_1)).trans hx134_1
        replace p134:=eq_true p134
        replace q134:=eq_true q134
        refine st_ (n:=10) (S:=fun w'=>w'.cell? (ai.add ((aa).toNat*2))=some (.int .i64 ((rd_T93 l0 aa).f0))∧w'.cell? ⟨(ai.add ((aa).toNat*2)).block,(ai.add ((aa).toNat*2)).off+1,none⟩=some (.int .i64 ((rd_T93 l0 aa).f1))∧w'.cell? (aj.add ((aa).toNat*2))=some (.int .i64 ((rd_T93 l1 aa).f0))∧w'.cell? ⟨(aj.add ((aa).toNat*2)).block,(aj.add ((aa).toNat*2)).off+1,none⟩=some (.int .i64 ((rd_T93 l1 aa).f1))) (ds:= []) ⟨((HB.out.cell (World.block_lt_of_cell? w _ af)).trans af),((HB.out.cell (World.block_lt_of_cell? w _ ae)).trans ae),((HB.out.cell (World.block_lt_of_cell? w _ ah)).trans ah),((HB.out.cell (World.block_lt_of_cell? w _ ag)).trans ag)⟩ (fun hHeld=>?_);refine with_tabW laws_eqFracS.tab6 laws_eqFracS.bits6 (fun HT_ HW_=>?_)
        generalize wr.drew=w11 at HB hx133_0 hx133_1 hx134_0 hx134_1 hHeld ⊢
        refine pu_ 0 17 ?_;refine pu_ 1 18 ?_;refine pu_ 2 19 ?_;refine pu_ 4 21 ?_;refine pu_ 5 22 ?_;refine pu_ 6 23 ?_;refine tk_ 3 20 ?_;refine tk_ 7 24 ?_
        refine on_ 8 (some 25) (fun K hK=>?_)
        refine goes_ Try.func91 (by kernel_rfl) rfl #[.agg #[.int .i64 ((rd_T93 l0 aa).f0), .int .i64 ((rd_T93 l0 aa).f1)], .agg #[.int .i64 ((rd_T93 l1 aa).f0), .int .i64 ((rd_T93 l1 aa).f1)]] (by rfl) rfl rfl (by(try simp only [List.map_toArray,List.map_cons,List.map_nil]);first | done | rfl | (simp only [List.length_drop,List.length_take];rfl)) ?_
        with_reducible refine(laws_eqFrac.calls ((rd_T93 l0 aa).f0) ((rd_T93 l0 aa).f1) ((rd_T93 l1 aa).f0) ((rd_T93 l1 aa).f1) false _ A7.out).mono ?_
        rintro e w12 ⟨rfl,hb⟩
        refine⟨_,rfl,?_⟩
        replace HB:=Aside0.mk (bs_ hb)
        (try clear hb)
        (try clear hb2)
        (try clear hk)
        (try clear hi)
        refine hK.out _ _ ⟨((HB.out.cell (World.block_lt_of_cell? w _ af)).trans af),((HB.out.cell (World.block_lt_of_cell? w _ ae)).trans ae),((HB.out.cell (World.block_lt_of_cell? w _ ah)).trans ah),((HB.out.cell (World.block_lt_of_cell? w _ ag)).trans ag)⟩ (fun hHeld=>?_)
        clear hK K
        refine norm_ (a':=?_) ?_ ?_
        rotate_left
        ·show Act.put _ (some 25) _=_
         simp only [Act.put,List.setIfInBounds_toArray,List.set_cons_zero,List.set_cons_succ,i64_w,i32_w]
         rfl
        refine pu_ 9 26 ?_
        refine done_ (done_of HT_.out (by kernel_rfl)) ?_
        try go_wp2
        go_ret
        exact⟨by first | rfl | (simp [errW_none,errW_some] <;> rfl) | (simp [*,errW_none,errW_some] <;> rfl),hb_⟩
      ·rw [if_neg c6] at H
       exact absurd H (by simp)
     ·rw [if_neg c5] at H
      exact absurd H (by simp)
    ·rw [if_neg c4] at H
     have c4b0:decide (aa < (l0.length:Int))=false:=decide_eq_false c4
     clear c4
     obtain rfl:=Option.some.inj H
     go_wp2
     go_ret
     exact⟨by first | rfl | (simp [errW_none,errW_some] <;> rfl) | (simp [*,errW_none,errW_some] <;> rfl),hb_⟩
 ·rw [if_neg c3] at H
  have c3b0:((l0.length:Int)==(l1.length:Int))=false:=beq_eq_false_iff_ne.mpr c3
  have c3b1:((l0.length:Int) !=(l1.length:Int))=true:=bne_iff_ne.mpr c3
  have c3b2:(l0.length==l1.length)=false:=by first | simpa using c3 | (simp at c3 ⊢;omega)
  obtain rfl:=Option.some.inj H
  go_enter Try.func14,Try.ntmps14
  go_wp2
  go_ret
  exact⟨by first | rfl | (simp [errW_none,errW_some] <;> rfl) | (simp [*,errW_none,errW_some] <;> rfl),hb_⟩
end Go.Proofs.Ytmpkckiifeikkaa.Pr
end
section
namespace Go.Proofs.Ytmpkckiifeikkaa.Pr
open Go.RowKit Go.Proofs.YtmpkckiifeikkaaW.PrintWords Go.Proofs.YtmpkckiifeikkaaW.PrintLast Go.Proofs.YtmpkckiifeikkaaW.PrintMore Go.Proofs.Ytmpkckiifeikkaa.La Go.Proofs.Ytmpkckiifeikkaa.Hm Go.Proofs.Ytmpkckiifeikkaa.Lw
theorem laws_FnExactLemkeSolution.walk (k:Nat) (af:Option Addr) (ag:Nat) (aa:List (List Int)) (ah:Option Addr) (ai:Nat) (ae:List Int) (A1:Option Addr) (c1:Nat) (l1:List Int) (aN:Int) (s0:List (S93)) (s1:Int) (m1:Int) (m2:Int) (m3:Int) (w:World) (aG:Kd.C (Kd.slice 2 (Kd.int .i64)) w af aa.length aa) (aH:aa.length≤ag) (aI:Kd.C (Kd.int .i64) w ah ae.length ae) (aJ:ae.length≤ai) (hr1:Kd.C (Kd.int .i64) w A1 l1.length l1) (hc1:l1.length≤c1) (h1: ¬ (l1.length:Int) > 1048576) (h2:laws_szProblem.f k aa ae 1048576=some aN) (h3: ¬ aN < 0) (h4:laws_toProblem.f k aa ae=some (aa,ae)) (h5:laws_toInt64S.f k l1=some l1) (h6:spec_LemkeSolution.f k aa ae l1=some (s0,s1)) (h7:impl_LemkeSolution.f k aa ae l1=some (s0,s1)) (h8:laws_eqFracS.f k s0 s0=some true) (h9:laws_eqProblem.f k aa ae aa ae=some true) (h10:laws_eqInt64S.f k l1 l1=some true) (h11:m1=1+(lens aa:Int)+(ae.length:Int)) (h12:1+(lens aa:Int)+(ae.length:Int)≤1099511627776) (h13:aa.length≤1099511627776) (h14: ¬ m1 < 0) (h15:0≤m1) (h16:m2=m1+(l1.length:Int)) (h17:m1+(l1.length:Int)≤1099511627776) (h18: ¬ m2 < 0) (h19:m3=1+2*(s0.length:Int)) (h20:1+2*(s0.length:Int)≤1099511627776) (h21: ¬ m3 < 0) (h22:laws_heldFracS.f k ((cntF 1 s0.length)) 1=some m3):
  Calls Try.prog 4 #[.agg #[.slice af aa.length ag, .slice ah ae.length ai], .slice A1 l1.length c1] w fun e w'=>e= .returned (.bool true)∧Below w.heap.size w w':=by
 have HR0_0:=Aside0.mk aG
 have HC0_0:=Aside0.mk aH
 clear aG aH
 have HR0_1:=Aside0.mk aI
 have HC0_1:=Aside0.mk aJ
 clear aI aJ
 have HR1:=Aside0.mk hr1
 have HC1:=Aside0.mk hc1
 clear hr1 hc1
 have HB:=Aside0.mk (Below.refl w.heap.size w)
 have H2':=Aside0.mk h2
 clear h2
 have H4':=Aside0.mk h4
 clear h4
 have H5':=Aside0.mk h5
 clear h5
 have H6':=Aside0.mk h6
 clear h6
 have H7':=Aside0.mk h7
 clear h7
 have H8':=Aside0.mk h8
 clear h8
 have H9':=Aside0.mk h9
 clear h9
 have H10':=Aside0.mk h10
 clear h10
 have H11':=Aside0.mk h11
 clear h11
 have H12':=Aside0.mk h12
 clear h12
 have H13':=Aside0.mk h13
 clear h13
 have H15':=Aside0.mk h15
 clear h15
 have H16':=Aside0.mk h16
 clear h16
 have H17':=Aside0.mk h17
 clear h17
 have H19':=Aside0.mk h19
 clear h19
 have H20':=Aside0.mk h20
 clear h20
 have H22':=Aside0.mk h22
 clear h22
 go_enter Try.func4,Try.ntmps4
 go_wp2_with (first | ((with_reducible refine gate_dst (N:=2) rfl ?_);refine box_event ?hg (N:=2) ?hd (cs:= #[.slice af aa.length ag, .slice ah ae.length ai]) (t:=25) ?hr ?_;(case hd=>rfl);(case hg=>rfl);(case hr=>first | (go_simp;done) | (go_simp;rfl));intro g2 hg w1 hbox hb;have Gg2:Aside0 (g2=w.heap.size):=⟨hg⟩;have Kg2:=Aside0.mk (blk_lt hbox);clear hg;have n_HB:=Aside0.mk (below_step HB.out hb);have NN1:Aside0 (w.heap.size≤w1.heap.size):=⟨hb.size⟩;clear HB;have HB:=n_HB;clear n_HB;have Bg2:=Aside0.mk hbox;clear hb hbox;have av:w1.cell? ⟨g2,0,none⟩=some (.slice af aa.length ag):=(blk_cell Bg2.out 0).trans rfl;have hf2_0:=blk_frozen Bg2.out 0;have aw:w1.cell? ⟨g2,1,none⟩=some (.slice ah ae.length ai):=(blk_cell Bg2.out 1).trans rfl;have hf2_1:=blk_frozen Bg2.out 1) | ((with_reducible refine gate_callee (f:=9) rfl ?_);refine gL_ 22 Try.func9 #[.agg #[.slice af aa.length ag, .slice ah ae.length ai], .int .i64 1048576] ?_;refine(laws_szProblem.calls k _ _ aa _ _ ae 1048576 aN _ ?s1 ?s2 ?s3 ?s4 H2'.out).mono ?_;(case s1=>exact Kd.C_below HR0_0.out HB.out);(case s2=>exact HC0_0.out);(case s3=>exact Kd.C_below HR0_1.out HB.out);(case s4=>exact HC0_1.out);rintro e w2 ⟨rfl,hb⟩;refine⟨_,rfl,?_⟩;have n_Bg2:=Aside0.mk (blk_below Bg2.out hb);have n_HB:=Aside0.mk (below_step HB.out hb);have NN2:Aside0 (w1.heap.size≤w2.heap.size):=⟨hb.size⟩;clear av hf2_0 aw hf2_1 Bg2 HB;have Bg2:=n_Bg2;have HB:=n_HB;clear n_Bg2 n_HB hb;have av:w2.cell? ⟨g2,0,none⟩=some (.slice af aa.length ag):=(blk_cell Bg2.out 0).trans rfl;have hf2_0:=blk_frozen Bg2.out 0;have aw:w2.cell? ⟨g2,1,none⟩=some (.slice ah ae.length ai):=(blk_cell Bg2.out 1).trans rfl;have hf2_1:=blk_frozen Bg2.out 1) | ((with_reducible refine gate_callee (f:=11) rfl ?_);refine gL_ 27 Try.func11 #[.agg #[.slice af aa.length ag, .slice ah ae.length ai]] ?_;refine(laws_toProblem.calls k _ _ aa _ _ ae aa ae _ ?s1 ?s2 ?s3 ?s4 H4'.out).mono ?_;(case s1=>exact Kd.C_below HR0_0.out HB.out);(case s2=>exact HC0_0.out);(case s3=>exact Kd.C_below HR0_1.out HB.out);(case s4=>exact HC0_1.out);rintro e w3 ⟨v27_0,v27_1,rfl,ho0,ho1,hb⟩;refine⟨_,rfl,?_⟩;have nu0:=Aside0.mk (UP.of ho0 ho1 HB.out.size);have n_Bg2:=Aside0.mk (blk_below Bg2.out hb);have n_HB:=Aside0.mk (below_step HB.out hb);have NN3:Aside0 (w2.heap.size≤w3.heap.size):=⟨hb.size⟩;clear av hf2_0 aw hf2_1 Bg2 HB;have Bg2:=n_Bg2;have HB:=n_HB;clear n_Bg2 n_HB hb ho0 ho1;have U27:=nu0;clear nu0;obtain⟨aT,aU,aV,aW,e0,e1⟩:=U27.out.slices;subst e0;subst e1) | ((with_reducible refine gate_callee (f:=12) rfl ?_);refine gL_ 29 Try.func12 #[.slice A1 l1.length c1] ?_;refine(laws_toInt64S.calls k _ _ l1 l1 _ ?s1 ?s2 H5'.out).mono ?_;(case s1=>exact Kd.C_below HR1.out HB.out);(case s2=>exact HC1.out);rintro e w4 ⟨v29_0,rfl,ho0,hb⟩;refine⟨_,rfl,?_⟩;have nu0:=Aside0.mk (UR.of ho0 HB.out.size);have n_U27:=Aside0.mk (U27.out.mvB (Frm.below hb));have n_Bg2:=Aside0.mk (blk_below Bg2.out hb);have n_HB:=Aside0.mk (below_step HB.out hb);have NN4:Aside0 (w3.heap.size≤w4.heap.size):=⟨hb.size⟩;clear U27 Bg2 HB;have U27:=n_U27;have Bg2:=n_Bg2;have HB:=n_HB;clear n_U27 n_Bg2 n_HB hb ho0;have U29_0:=nu0;clear nu0;obtain⟨aX,aY,e0⟩:=Kd.R_slice U29_0.out;subst e0) | ((with_reducible refine gate_callee (f:=21) rfl ?_);refine gL_ 30 Try.func21 #[.agg #[.slice aT aa.length aU, .slice aV ae.length aW], .slice aX l1.length aY] ?_;refine(spec_LemkeSolution.calls k _ _ aa _ _ ae _ _ l1 s0 s1 _ ?s1 ?s2 ?s3 ?s4 ?s5 ?s6 H6'.out).mono ?_;(case s1=>exact U27.out.C0);(case s2=>exact U27.out.cap0);(case s3=>exact U27.out.C1);(case s4=>exact U27.out.cap1);(case s5=>exact UR.C U29_0.out);(case s6=>exact UR.cap U29_0.out);rintro e w5 ⟨v30_0,rfl,ho0,hb⟩;refine⟨_,rfl,?_⟩;have nu0:=Aside0.mk (UR.of ho0 HB.out.size);have n_U27:=Aside0.mk (U27.out.mvB (Frm.below hb));have n_U29_0:=Aside0.mk (U29_0.out.mvB (Frm.below hb));have n_Bg2:=Aside0.mk (blk_below Bg2.out hb);have n_HB:=Aside0.mk (below_step HB.out hb);have NN5:Aside0 (w4.heap.size≤w5.heap.size):=⟨hb.size⟩;clear U27 U29_0 Bg2 HB;have U27:=n_U27;have U29_0:=n_U29_0;have Bg2:=n_Bg2;have HB:=n_HB;clear n_U27 n_U29_0 n_Bg2 n_HB hb ho0;have U30_0:=nu0;clear nu0;obtain⟨aK,aM,e0⟩:=Kd.R_slice U30_0.out;subst e0;have av:w5.cell? ⟨g2,0,none⟩=some (.slice af aa.length ag):=(blk_cell Bg2.out 0).trans rfl;have hf2_0:=blk_frozen Bg2.out 0;have aw:w5.cell? ⟨g2,1,none⟩=some (.slice ah ae.length ai):=(blk_cell Bg2.out 1).trans rfl;have hf2_1:=blk_frozen Bg2.out 1) | ((with_reducible refine gate_callee (f:=11) rfl ?_);refine gL_ 34 Try.func11 #[.agg #[.slice af aa.length ag, .slice ah ae.length ai]] ?_;refine(laws_toProblem.calls k _ _ aa _ _ ae aa ae _ ?s1 ?s2 ?s3 ?s4 H4'.out).mono ?_;(case s1=>exact Kd.C_below HR0_0.out HB.out);(case s2=>exact HC0_0.out);(case s3=>exact Kd.C_below HR0_1.out HB.out);(case s4=>exact HC0_1.out);rintro e w6 ⟨v34_0,v34_1,rfl,ho0,ho1,hb⟩;refine⟨_,rfl,?_⟩;have nu0:=Aside0.mk (UP.of ho0 ho1 HB.out.size);have n_U27:=Aside0.mk (U27.out.mvB (Frm.below hb));have n_U29_0:=Aside0.mk (U29_0.out.mvB (Frm.below hb));have n_U30_0:=Aside0.mk (U30_0.out.mvB (Frm.below hb));have n_Bg2:=Aside0.mk (blk_below Bg2.out hb);have n_HB:=Aside0.mk (below_step HB.out hb);have NN6:Aside0 (w5.heap.size≤w6.heap.size):=⟨hb.size⟩;clear av hf2_0 aw hf2_1 U27 U29_0 U30_0 Bg2 HB;have U27:=n_U27;have U29_0:=n_U29_0;have U30_0:=n_U30_0;have Bg2:=n_Bg2;have HB:=n_HB;clear n_U27 n_U29_0 n_U30_0 n_Bg2 n_HB hb ho0 ho1;have U34:=nu0;clear nu0;obtain⟨aj,ak,aq,au,e0,e1⟩:=U34.out.slices;subst e0;subst e1) | ((with_reducible refine gate_dst (N:=8) rfl ?_);refine box_event ?hg (N:=8) ?hd (cs:= #[.slice none 0 0, .slice none 0 0]) (t:=30) ?hr ?_;(case hd=>rfl);(case hg=>rfl);(case hr=>first | (go_simp;done) | (go_simp;rfl));intro g8 hg w7 hbox hb;have Gg8:Aside0 (g8=w6.heap.size):=⟨hg⟩;have Kg8:=Aside0.mk (blk_lt hbox);clear hg;have n_U27:=Aside0.mk (U27.out.mvB (Frm.below hb));have n_U29_0:=Aside0.mk (U29_0.out.mvB (Frm.below hb));have n_U30_0:=Aside0.mk (U30_0.out.mvB (Frm.below hb));have n_U34:=Aside0.mk (U34.out.mvB (Frm.below hb));have n_Bg2:=Aside0.mk (blk_below Bg2.out hb);have n_HB:=Aside0.mk (below_step HB.out hb);have NN7:Aside0 (w6.heap.size≤w7.heap.size):=⟨hb.size⟩;clear U27 U29_0 U30_0 U34 Bg2 HB;have U27:=n_U27;have U29_0:=n_U29_0;have U30_0:=n_U30_0;have U34:=n_U34;have Bg2:=n_Bg2;have HB:=n_HB;clear n_U27 n_U29_0 n_U30_0 n_U34 n_Bg2 n_HB;have Bg8:=Aside0.mk hbox;clear hb hbox;have ax:w7.cell? ⟨g8,0,none⟩=some (.slice none 0 0):=(blk_cell Bg8.out 0).trans rfl;have hf8_0:=blk_frozen Bg8.out 0;have ay:w7.cell? ⟨g8,1,none⟩=some (.slice none 0 0):=(blk_cell Bg8.out 1).trans rfl;have hf8_1:=blk_frozen Bg8.out 1) | ((with_reducible refine gate_store (t:=30) (p:=8) rfl ?_);refine store_event (t:=30) (p:=8) (v:=?vo_w8) (w1:=((w7.setCell ⟨g8,0,none⟩ (.slice aj aa.length ak)).setCell ⟨g8,1,none⟩ (.slice aq ae.length au))) ?hg ?ho ?hn ?hr ?_;(case ho=>rfl);(case hg=>rfl);(case hn=>rfl);(case hr=>first | (go_simp;done) | (go_simp;rfl));intro w8 hw;have hge:w.heap.size≤g8:=(by have:=NN1.out;have:=Gg2.out;have:=Kg2.out;have:=NN2.out;have:=NN3.out;have:=NN4.out;have:=NN5.out;have:=NN6.out;have:=NN7.out;have:=Gg8.out;have:=Kg8.out;have:=HB.out.size;omega);have hF:Frm w7 w8 g8 (g8+1):=(by rw [hw];exact(Frm.trans (Frm.set _ _ _ _) (Frm.set _ _ _ _)));have nb:=Aside0.mk (show w8.heap[g8]?=some (.cells #[.slice aj aa.length ak, .slice aq ae.length au] 30 (0,0)) from (by rw [hw];exact(blk_put (blk_put Bg8.out 0 _ rfl) 1 _ rfl)));have n_U27:=Aside0.mk (U27.out.mv hF (by have:=NN1.out;have:=Gg2.out;have:=Kg2.out;have:=NN2.out;have:=NN3.out;have:=NN4.out;have:=NN5.out;have:=NN6.out;have:=NN7.out;have:=Gg8.out;have:=Kg8.out;omega));have n_U29_0:=Aside0.mk (U29_0.out.mv hF (by have:=NN1.out;have:=Gg2.out;have:=Kg2.out;have:=NN2.out;have:=NN3.out;have:=NN4.out;have:=NN5.out;have:=NN6.out;have:=NN7.out;have:=Gg8.out;have:=Kg8.out;omega));have n_U30_0:=Aside0.mk (U30_0.out.mv hF (by have:=NN1.out;have:=Gg2.out;have:=Kg2.out;have:=NN2.out;have:=NN3.out;have:=NN4.out;have:=NN5.out;have:=NN6.out;have:=NN7.out;have:=Gg8.out;have:=Kg8.out;omega));have n_U34:=Aside0.mk (U34.out.mv hF (by have:=NN1.out;have:=Gg2.out;have:=Kg2.out;have:=NN2.out;have:=NN3.out;have:=NN4.out;have:=NN5.out;have:=NN6.out;have:=NN7.out;have:=Gg8.out;have:=Kg8.out;omega));have n_Bg2:=Aside0.mk ((hF.same g2 (blk_lt Bg2.out) (by have:=NN1.out;have:=Gg2.out;have:=Kg2.out;have:=NN2.out;have:=NN3.out;have:=NN4.out;have:=NN5.out;have:=NN6.out;have:=NN7.out;have:=Gg8.out;have:=Kg8.out;omega)).trans Bg2.out);have n_HB:=Aside0.mk ((by rw [hw];exact(below_set (below_set HB.out hge) hge):Below w.heap.size w w8));have NN8:Aside0 (w7.heap.size≤w8.heap.size):=⟨hF.size⟩;clear ax hf8_0 ay hf8_1 U27 U29_0 U30_0 U34 Bg2 HB;have U27:=n_U27;have U29_0:=n_U29_0;have U30_0:=n_U30_0;have U34:=n_U34;have Bg2:=n_Bg2;have HB:=n_HB;clear n_U27 n_U29_0 n_U30_0 n_U34 n_Bg2 n_HB Bg8;have Bg8:=nb;clear nb hF hge hw) | ((with_reducible refine gate_callee (f:=12) rfl ?_);refine gL_ 36 Try.func12 #[.slice A1 l1.length c1] ?_;refine(laws_toInt64S.calls k _ _ l1 l1 _ ?s1 ?s2 H5'.out).mono ?_;(case s1=>exact Kd.C_below HR1.out HB.out);(case s2=>exact HC1.out);rintro e w9 ⟨v36_0,rfl,ho0,hb⟩;refine⟨_,rfl,?_⟩;have nu0:=Aside0.mk (UR.of ho0 HB.out.size);have n_U27:=Aside0.mk (U27.out.mvB (Frm.below hb));have n_U29_0:=Aside0.mk (U29_0.out.mvB (Frm.below hb));have n_U30_0:=Aside0.mk (U30_0.out.mvB (Frm.below hb));have n_U34:=Aside0.mk (U34.out.mvB (Frm.below hb));have n_Bg2:=Aside0.mk (blk_below Bg2.out hb);have n_Bg8:=Aside0.mk (blk_below Bg8.out hb);have n_HB:=Aside0.mk (below_step HB.out hb);have NN9:Aside0 (w8.heap.size≤w9.heap.size):=⟨hb.size⟩;clear U27 U29_0 U30_0 U34 Bg2 Bg8 HB;have U27:=n_U27;have U29_0:=n_U29_0;have U30_0:=n_U30_0;have U34:=n_U34;have Bg2:=n_Bg2;have Bg8:=n_Bg8;have HB:=n_HB;clear n_U27 n_U29_0 n_U30_0 n_U34 n_Bg2 n_Bg8 n_HB hb ho0;have U36_0:=nu0;clear nu0;obtain⟨aC,aD,e0⟩:=Kd.R_slice U36_0.out;subst e0;have ax:w9.cell? ⟨g8,0,none⟩=some (.slice aj aa.length ak):=(blk_cell Bg8.out 0).trans rfl;have hf8_0:=blk_frozen Bg8.out 0;have ay:w9.cell? ⟨g8,1,none⟩=some (.slice aq ae.length au):=(blk_cell Bg8.out 1).trans rfl;have hf8_1:=blk_frozen Bg8.out 1) | ((with_reducible refine gate_callee (f:=22) rfl ?_);refine gL_ 40 Try.func22 #[.agg #[.slice aj aa.length ak, .slice aq ae.length au], .slice aC l1.length aD] ?_;refine(impl_LemkeSolution.calls k _ _ aa _ _ ae _ _ l1 s0 s1 _ ?s1 ?s2 ?s3 ?s4 ?s5 ?s6 H7'.out).mono ?_;(case s1=>exact U34.out.C0);(case s2=>exact U34.out.cap0);(case s3=>exact U34.out.C1);(case s4=>exact U34.out.cap1);(case s5=>exact UR.C U36_0.out);(case s6=>exact UR.cap U36_0.out);rintro e w10 ⟨v40_0,rfl,ho0,hb⟩;refine⟨_,rfl,?_⟩;have nu0:=Aside0.mk (UR.of ho0 HB.out.size);have n_U27:=Aside0.mk (U27.out.mvB (Frm.below hb));have n_U29_0:=Aside0.mk (U29_0.out.mvB (Frm.below hb));have n_U30_0:=Aside0.mk (U30_0.out.mvB (Frm.below hb));have n_U34:=Aside0.mk (U34.out.mvB (Frm.below hb));have n_U36_0:=Aside0.mk (U36_0.out.mvB (Frm.below hb));have n_Bg2:=Aside0.mk (blk_below Bg2.out hb);have n_Bg8:=Aside0.mk (blk_below Bg8.out hb);have n_HB:=Aside0.mk (below_step HB.out hb);have NN10:Aside0 (w9.heap.size≤w10.heap.size):=⟨hb.size⟩;clear ax hf8_0 ay hf8_1 U27 U29_0 U30_0 U34 U36_0 Bg2 Bg8 HB;have U27:=n_U27;have U29_0:=n_U29_0;have U30_0:=n_U30_0;have U34:=n_U34;have U36_0:=n_U36_0;have Bg2:=n_Bg2;have Bg8:=n_Bg8;have HB:=n_HB;clear n_U27 n_U29_0 n_U30_0 n_U34 n_U36_0 n_Bg2 n_Bg8 n_HB hb ho0;have U40_0:=nu0;clear nu0;obtain⟨az,aA,e0⟩:=Kd.R_slice U40_0.out;subst e0) | ((with_reducible refine gate_callee (f:=14) rfl ?_);refine gL_ 45 Try.func14 #[.slice az s0.length aA, .slice aK s0.length aM] ?_;refine(laws_eqFracS.calls k _ _ s0 _ _ s0 true _ ?s1 ?s2 ?s3 ?s4 H8'.out).mono ?_;(case s1=>exact UR.C U40_0.out);(case s2=>exact UR.cap U40_0.out);(case s3=>exact UR.C U30_0.out);(case s4=>exact UR.cap U30_0.out);rintro e w11 ⟨rfl,hb⟩;refine⟨_,rfl,?_⟩;have n_U27:=Aside0.mk (U27.out.mvB (Frm.below hb));have n_U29_0:=Aside0.mk (U29_0.out.mvB (Frm.below hb));have n_U30_0:=Aside0.mk (U30_0.out.mvB (Frm.below hb));have n_U34:=Aside0.mk (U34.out.mvB (Frm.below hb));have n_U36_0:=Aside0.mk (U36_0.out.mvB (Frm.below hb));have n_U40_0:=Aside0.mk (U40_0.out.mvB (Frm.below hb));have n_Bg2:=Aside0.mk (blk_below Bg2.out hb);have n_Bg8:=Aside0.mk (blk_below Bg8.out hb);have n_HB:=Aside0.mk (below_step HB.out hb);have NN11:Aside0 (w10.heap.size≤w11.heap.size):=⟨hb.size⟩;clear U27 U29_0 U30_0 U34 U36_0 U40_0 Bg2 Bg8 HB;have U27:=n_U27;have U29_0:=n_U29_0;have U30_0:=n_U30_0;have U34:=n_U34;have U36_0:=n_U36_0;have U40_0:=n_U40_0;have Bg2:=n_Bg2;have Bg8:=n_Bg8;have HB:=n_HB;clear n_U27 n_U29_0 n_U30_0 n_U34 n_U36_0 n_U40_0 n_Bg2 n_Bg8 n_HB hb))
 try go_wp2
 have hb:Below w11.heap.size w11 w11.drew:=(Below.refl _ _).drew
 have n_U27:=Aside0.mk (U27.out.mvB (Frm.below hb))
 have n_U29_0:=Aside0.mk (U29_0.out.mvB (Frm.below hb))
 have n_U30_0:=Aside0.mk (U30_0.out.mvB (Frm.below hb))
 have n_U34:=Aside0.mk (U34.out.mvB (Frm.below hb))
 have n_U36_0:=Aside0.mk (U36_0.out.mvB (Frm.below hb))
 have n_U40_0:=Aside0.mk (U40_0.out.mvB (Frm.below hb))
 have n_Bg2:=Aside0.mk (blk_below Bg2.out hb)
 have n_Bg8:=Aside0.mk (blk_below Bg8.out hb)
 have n_HB:=Aside0.mk (below_step HB.out hb)
 have NN12:Aside0 (w11.heap.size≤w11.drew.heap.size):=⟨hb.size⟩
 clear U27 U29_0 U30_0 U34 U36_0 U40_0 Bg2 Bg8 HB
 have U27:=n_U27
 have U29_0:=n_U29_0
 have U30_0:=n_U30_0
 have U34:=n_U34
 have U36_0:=n_U36_0
 have U40_0:=n_U40_0
 have Bg2:=n_Bg2
 have Bg8:=n_Bg8
 have HB:=n_HB
 clear n_U27 n_U29_0 n_U30_0 n_U34 n_U36_0 n_U40_0 n_Bg2 n_Bg8 n_HB hb
 refine st_ (n:=5) (S:=fun w'=>w'.cell? ⟨g8,0,none⟩=some (.slice aj aa.length ak)∧w'.cell? ⟨g8,1,none⟩=some (.slice aq ae.length au)∧w'.cell? ⟨g2,0,none⟩=some (.slice af aa.length ag)∧w'.cell? ⟨g2,1,none⟩=some (.slice ah ae.length ai)) (ds:= []) ⟨(blk_cell Bg8.out 0).trans rfl,(blk_cell Bg8.out 1).trans rfl,(blk_cell Bg2.out 0).trans rfl,(blk_cell Bg2.out 1).trans rfl⟩ (fun hHeld=>?_)
 generalize w11.drew=w12 at U27 U29_0 U30_0 U34 U36_0 U40_0 Bg2 Bg8 HB NN12 hHeld ⊢
 have av:w12.cell? ⟨g2,0,none⟩=some (.slice af aa.length ag):=(blk_cell Bg2.out 0).trans rfl
 have hf2_0:=blk_frozen Bg2.out 0
 have aw:w12.cell? ⟨g2,1,none⟩=some (.slice ah ae.length ai):=(blk_cell Bg2.out 1).trans rfl
 have hf2_1:=blk_frozen Bg2.out 1
 have ax:w12.cell? ⟨g8,0,none⟩=some (.slice aj aa.length ak):=(blk_cell Bg8.out 0).trans rfl
 have hf8_0:=blk_frozen Bg8.out 0
 have ay:w12.cell? ⟨g8,1,none⟩=some (.slice aq ae.length au):=(blk_cell Bg8.out 1).trans rfl
 have hf8_1:=blk_frozen Bg8.out 1
 refine tk_ 0 52 ?_;refine tk_ 1 53 ?_
 refine on_ 2 (some 54) (fun K hK=>?_)
 refine goes_ Try.func11 (by kernel_rfl) rfl #[.agg #[.slice af aa.length ag, .slice ah ae.length ai]] (by rfl) rfl rfl (by(try simp only [List.map_toArray,List.map_cons,List.map_nil]);first | done | rfl) ?_
 (refine(laws_toProblem.calls k _ _ aa _ _ ae aa ae _ ?s1 ?s2 ?s3 ?s4 H4'.out).mono ?_;(case s1=>exact Kd.C_below HR0_0.out HB.out);(case s2=>exact HC0_0.out);(case s3=>exact Kd.C_below HR0_1.out HB.out);(case s4=>exact HC0_1.out);rintro e w13 ⟨v54_0,v54_1,rfl,ho0,ho1,hb⟩;refine⟨_,rfl,?_⟩;have nu0:=Aside0.mk (UP.of ho0 ho1 HB.out.size);have n_U27:=Aside0.mk (U27.out.mvB (Frm.below hb));have n_U29_0:=Aside0.mk (U29_0.out.mvB (Frm.below hb));have n_U30_0:=Aside0.mk (U30_0.out.mvB (Frm.below hb));have n_U34:=Aside0.mk (U34.out.mvB (Frm.below hb));have n_U36_0:=Aside0.mk (U36_0.out.mvB (Frm.below hb));have n_U40_0:=Aside0.mk (U40_0.out.mvB (Frm.below hb));have n_Bg2:=Aside0.mk (blk_below Bg2.out hb);have n_Bg8:=Aside0.mk (blk_below Bg8.out hb);have n_HB:=Aside0.mk (below_step HB.out hb);have NN13:Aside0 (w12.heap.size≤w13.heap.size):=⟨hb.size⟩;clear av hf2_0 aw hf2_1 ax hf8_0 ay hf8_1 U27 U29_0 U30_0 U34 U36_0 U40_0 Bg2 Bg8 HB;have U27:=n_U27;have U29_0:=n_U29_0;have U30_0:=n_U30_0;have U34:=n_U34;have U36_0:=n_U36_0;have U40_0:=n_U40_0;have Bg2:=n_Bg2;have Bg8:=n_Bg8;have HB:=n_HB;clear n_U27 n_U29_0 n_U30_0 n_U34 n_U36_0 n_U40_0 n_Bg2 n_Bg8 n_HB hb ho0 ho1;have U54:=nu0;clear nu0;obtain⟨aZ,a9,ba,bb,e0,e1⟩:=U54.out.slices;subst e0;subst e1)
 refine hK.out _ _ ⟨(blk_cell Bg8.out 0).trans rfl,(blk_cell Bg8.out 1).trans rfl,(blk_cell Bg2.out 0).trans rfl,(blk_cell Bg2.out 1).trans rfl⟩ (fun hHeld=>?_)
 clear hK K
 refine norm_ (a':=?_) ?_ ?_
 rotate_left
 ·show Act.put _ (some 54) _=_
  simp only [Act.put,List.setIfInBounds_toArray,List.set_cons_zero,List.set_cons_succ,i64_w,i32_w]
  rfl
 refine on_ 3 (some 55) (fun K hK=>?_)
 refine goes_ Try.func15 (by kernel_rfl) rfl #[.agg #[.slice aj aa.length ak, .slice aq ae.length au], .agg #[.slice aZ aa.length a9, .slice ba ae.length bb]] (by rfl) rfl rfl (by(try simp only [List.map_toArray,List.map_cons,List.map_nil]);first | done | rfl) ?_
 (refine(laws_eqProblem.calls k _ _ aa _ _ ae _ _ aa _ _ ae true _ ?s1 ?s2 ?s3 ?s4 ?s5 ?s6 ?s7 ?s8 H9'.out).mono ?_;(case s1=>exact U34.out.C0);(case s2=>exact U34.out.cap0);(case s3=>exact U34.out.C1);(case s4=>exact U34.out.cap1);(case s5=>exact U54.out.C0);(case s6=>exact U54.out.cap0);(case s7=>exact U54.out.C1);(case s8=>exact U54.out.cap1);rintro e w14 ⟨rfl,hb⟩;refine⟨_,rfl,?_⟩;have n_U27:=Aside0.mk (U27.out.mvB (Frm.below hb));have n_U29_0:=Aside0.mk (U29_0.out.mvB (Frm.below hb));have n_U30_0:=Aside0.mk (U30_0.out.mvB (Frm.below hb));have n_U34:=Aside0.mk (U34.out.mvB (Frm.below hb));have n_U36_0:=Aside0.mk (U36_0.out.mvB (Frm.below hb));have n_U40_0:=Aside0.mk (U40_0.out.mvB (Frm.below hb));have n_U54:=Aside0.mk (U54.out.mvB (Frm.below hb));have n_Bg2:=Aside0.mk (blk_below Bg2.out hb);have n_Bg8:=Aside0.mk (blk_below Bg8.out hb);have n_HB:=Aside0.mk (below_step HB.out hb);have NN14:Aside0 (w13.heap.size≤w14.heap.size):=⟨hb.size⟩;clear U27 U29_0 U30_0 U34 U36_0 U40_0 U54 Bg2 Bg8 HB;have U27:=n_U27;have U29_0:=n_U29_0;have U30_0:=n_U30_0;have U34:=n_U34;have U36_0:=n_U36_0;have U40_0:=n_U40_0;have U54:=n_U54;have Bg2:=n_Bg2;have Bg8:=n_Bg8;have HB:=n_HB;clear n_U27 n_U29_0 n_U30_0 n_U34 n_U36_0 n_U40_0 n_U54 n_Bg2 n_Bg8 n_HB hb)
 refine hK.out _ _ ⟨(blk_cell Bg8.out 0).trans rfl,(blk_cell Bg8.out 1).trans rfl,(blk_cell Bg2.out 0).trans rfl,(blk_cell Bg2.out 1).trans rfl⟩ (fun hHeld=>?_)
 clear hK K
 refine norm_ (a':=?_) ?_ ?_
 rotate_left
 ·show Act.put _ (some 55) _=_
  simp only [Act.put,List.setIfInBounds_toArray,List.set_cons_zero,List.set_cons_succ,i64_w,i32_w]
  rfl
 refine pu_ 4 56 ?_
 refine done_ (by kernel_rfl) ?_
 go_wp2_with (first | ((with_reducible refine gate_callee (f:=12) rfl ?_);refine gL_ 59 Try.func12 #[.slice A1 l1.length c1] ?_;refine(laws_toInt64S.calls k _ _ l1 l1 _ ?s1 ?s2 H5'.out).mono ?_;(case s1=>exact Kd.C_below HR1.out HB.out);(case s2=>exact HC1.out);rintro e w15 ⟨v59_0,rfl,ho0,hb⟩;refine⟨_,rfl,?_⟩;have nu0:=Aside0.mk (UR.of ho0 HB.out.size);have n_U27:=Aside0.mk (U27.out.mvB (Frm.below hb));have n_U29_0:=Aside0.mk (U29_0.out.mvB (Frm.below hb));have n_U30_0:=Aside0.mk (U30_0.out.mvB (Frm.below hb));have n_U34:=Aside0.mk (U34.out.mvB (Frm.below hb));have n_U36_0:=Aside0.mk (U36_0.out.mvB (Frm.below hb));have n_U40_0:=Aside0.mk (U40_0.out.mvB (Frm.below hb));have n_U54:=Aside0.mk (U54.out.mvB (Frm.below hb));have n_Bg2:=Aside0.mk (blk_below Bg2.out hb);have n_Bg8:=Aside0.mk (blk_below Bg8.out hb);have n_HB:=Aside0.mk (below_step HB.out hb);have NN15:Aside0 (w14.heap.size≤w15.heap.size):=⟨hb.size⟩;clear U27 U29_0 U30_0 U34 U36_0 U40_0 U54 Bg2 Bg8 HB;have U27:=n_U27;have U29_0:=n_U29_0;have U30_0:=n_U30_0;have U34:=n_U34;have U36_0:=n_U36_0;have U40_0:=n_U40_0;have U54:=n_U54;have Bg2:=n_Bg2;have Bg8:=n_Bg8;have HB:=n_HB;clear n_U27 n_U29_0 n_U30_0 n_U34 n_U36_0 n_U40_0 n_U54 n_Bg2 n_Bg8 n_HB hb ho0;have U59_0:=nu0;clear nu0;obtain⟨bg,bh,e0⟩:=Kd.R_slice U59_0.out;subst e0) | ((with_reducible refine gate_callee (f:=16) rfl ?_);refine gL_ 60 Try.func16 #[.slice aC l1.length aD, .slice bg l1.length bh] ?_;refine(laws_eqInt64S.calls k _ _ l1 _ _ l1 true _ ?s1 ?s2 ?s3 ?s4 H10'.out).mono ?_;(case s1=>exact UR.C U36_0.out);(case s2=>exact UR.cap U36_0.out);(case s3=>exact UR.C U59_0.out);(case s4=>exact UR.cap U59_0.out);rintro e w16 ⟨rfl,hb⟩;refine⟨_,rfl,?_⟩;have hb:=hb.below;have n_U27:=Aside0.mk (U27.out.mvB (Frm.below hb));have n_U29_0:=Aside0.mk (U29_0.out.mvB (Frm.below hb));have n_U30_0:=Aside0.mk (U30_0.out.mvB (Frm.below hb));have n_U34:=Aside0.mk (U34.out.mvB (Frm.below hb));have n_U36_0:=Aside0.mk (U36_0.out.mvB (Frm.below hb));have n_U40_0:=Aside0.mk (U40_0.out.mvB (Frm.below hb));have n_U54:=Aside0.mk (U54.out.mvB (Frm.below hb));have n_U59_0:=Aside0.mk (U59_0.out.mvB (Frm.below hb));have n_Bg2:=Aside0.mk (blk_below Bg2.out hb);have n_Bg8:=Aside0.mk (blk_below Bg8.out hb);have n_HB:=Aside0.mk (below_step HB.out hb);have NN16:Aside0 (w15.heap.size≤w16.heap.size):=⟨hb.size⟩;clear U27 U29_0 U30_0 U34 U36_0 U40_0 U54 U59_0 Bg2 Bg8 HB;have U27:=n_U27;have U29_0:=n_U29_0;have U30_0:=n_U30_0;have U34:=n_U34;have U36_0:=n_U36_0;have U40_0:=n_U40_0;have U54:=n_U54;have U59_0:=n_U59_0;have Bg2:=n_Bg2;have Bg8:=n_Bg8;have HB:=n_HB;clear n_U27 n_U29_0 n_U30_0 n_U34 n_U36_0 n_U40_0 n_U54 n_U59_0 n_Bg2 n_Bg8 n_HB hb;have ax:w16.cell? ⟨g8,0,none⟩=some (.slice aj aa.length ak):=(blk_cell Bg8.out 0).trans rfl;have hf8_0:=blk_frozen Bg8.out 0;have ay:w16.cell? ⟨g8,1,none⟩=some (.slice aq ae.length au):=(blk_cell Bg8.out 1).trans rfl;have hf8_1:=blk_frozen Bg8.out 1) | ((with_reducible refine gate_callee (f:=17) rfl ?_);refine gL_ 64 Try.func17 #[.agg #[.slice aj aa.length ak, .slice aq ae.length au], .int .i64 1] ?_;refine(mark_UP aj ak aq au aa ae 1 m1 HB.out U34.out (by decide) H12'.out H13'.out H11'.out (by have:=NN1.out;have:=Gg2.out;have:=Kg2.out;have:=NN2.out;have:=NN3.out;have:=NN4.out;have:=NN5.out;have:=NN6.out;have:=NN7.out;have:=Gg8.out;have:=Kg8.out;have:=NN8.out;have:=NN9.out;have:=NN10.out;have:=NN11.out;have:=NN12.out;have:=NN13.out;have:=NN14.out;have:=NN15.out;have:=NN16.out;omega)).mono ?_;rintro e w17 ⟨rfl,hU,hB',hF⟩;refine⟨_,rfl,?_⟩;have nu:=Aside0.mk hU;have n_U27:=Aside0.mk (U27.out.mv hF (by have:=NN1.out;have:=Gg2.out;have:=Kg2.out;have:=NN2.out;have:=NN3.out;have:=NN4.out;have:=NN5.out;have:=NN6.out;have:=NN7.out;have:=Gg8.out;have:=Kg8.out;have:=NN8.out;have:=NN9.out;have:=NN10.out;have:=NN11.out;have:=NN12.out;have:=NN13.out;have:=NN14.out;have:=NN15.out;have:=NN16.out;omega));have n_U29_0:=Aside0.mk (U29_0.out.mv hF (by have:=NN1.out;have:=Gg2.out;have:=Kg2.out;have:=NN2.out;have:=NN3.out;have:=NN4.out;have:=NN5.out;have:=NN6.out;have:=NN7.out;have:=Gg8.out;have:=Kg8.out;have:=NN8.out;have:=NN9.out;have:=NN10.out;have:=NN11.out;have:=NN12.out;have:=NN13.out;have:=NN14.out;have:=NN15.out;have:=NN16.out;omega));have n_U30_0:=Aside0.mk (U30_0.out.mv hF (by have:=NN1.out;have:=Gg2.out;have:=Kg2.out;have:=NN2.out;have:=NN3.out;have:=NN4.out;have:=NN5.out;have:=NN6.out;have:=NN7.out;have:=Gg8.out;have:=Kg8.out;have:=NN8.out;have:=NN9.out;have:=NN10.out;have:=NN11.out;have:=NN12.out;have:=NN13.out;have:=NN14.out;have:=NN15.out;have:=NN16.out;omega));have n_U36_0:=Aside0.mk (U36_0.out.mv hF (by have:=NN1.out;have:=Gg2.out;have:=Kg2.out;have:=NN2.out;have:=NN3.out;have:=NN4.out;have:=NN5.out;have:=NN6.out;have:=NN7.out;have:=Gg8.out;have:=Kg8.out;have:=NN8.out;have:=NN9.out;have:=NN10.out;have:=NN11.out;have:=NN12.out;have:=NN13.out;have:=NN14.out;have:=NN15.out;have:=NN16.out;omega));have n_U40_0:=Aside0.mk (U40_0.out.mv hF (by have:=NN1.out;have:=Gg2.out;have:=Kg2.out;have:=NN2.out;have:=NN3.out;have:=NN4.out;have:=NN5.out;have:=NN6.out;have:=NN7.out;have:=Gg8.out;have:=Kg8.out;have:=NN8.out;have:=NN9.out;have:=NN10.out;have:=NN11.out;have:=NN12.out;have:=NN13.out;have:=NN14.out;have:=NN15.out;have:=NN16.out;omega));have n_U54:=Aside0.mk (U54.out.mv hF (by have:=NN1.out;have:=Gg2.out;have:=Kg2.out;have:=NN2.out;have:=NN3.out;have:=NN4.out;have:=NN5.out;have:=NN6.out;have:=NN7.out;have:=Gg8.out;have:=Kg8.out;have:=NN8.out;have:=NN9.out;have:=NN10.out;have:=NN11.out;have:=NN12.out;have:=NN13.out;have:=NN14.out;have:=NN15.out;have:=NN16.out;omega));have n_U59_0:=Aside0.mk (U59_0.out.mv hF (by have:=NN1.out;have:=Gg2.out;have:=Kg2.out;have:=NN2.out;have:=NN3.out;have:=NN4.out;have:=NN5.out;have:=NN6.out;have:=NN7.out;have:=Gg8.out;have:=Kg8.out;have:=NN8.out;have:=NN9.out;have:=NN10.out;have:=NN11.out;have:=NN12.out;have:=NN13.out;have:=NN14.out;have:=NN15.out;have:=NN16.out;omega));have n_Bg2:=Aside0.mk ((hF.same g2 (blk_lt Bg2.out) (by have:=NN1.out;have:=Gg2.out;have:=Kg2.out;have:=NN2.out;have:=NN3.out;have:=NN4.out;have:=NN5.out;have:=NN6.out;have:=NN7.out;have:=Gg8.out;have:=Kg8.out;have:=NN8.out;have:=NN9.out;have:=NN10.out;have:=NN11.out;have:=NN12.out;have:=NN13.out;have:=NN14.out;have:=NN15.out;have:=NN16.out;omega)).trans Bg2.out);have n_Bg8:=Aside0.mk ((hF.same g8 (blk_lt Bg8.out) (by have:=NN1.out;have:=Gg2.out;have:=Kg2.out;have:=NN2.out;have:=NN3.out;have:=NN4.out;have:=NN5.out;have:=NN6.out;have:=NN7.out;have:=Gg8.out;have:=Kg8.out;have:=NN8.out;have:=NN9.out;have:=NN10.out;have:=NN11.out;have:=NN12.out;have:=NN13.out;have:=NN14.out;have:=NN15.out;have:=NN16.out;omega)).trans Bg8.out);have n_HB:=Aside0.mk (hB');have NN17:Aside0 (w16.heap.size≤w17.heap.size):=⟨hF.size⟩;clear ax hf8_0 ay hf8_1 U27 U29_0 U30_0 U36_0 U40_0 U54 U59_0 Bg2 Bg8 HB;have U27:=n_U27;have U29_0:=n_U29_0;have U30_0:=n_U30_0;have U36_0:=n_U36_0;have U40_0:=n_U40_0;have U54:=n_U54;have U59_0:=n_U59_0;have Bg2:=n_Bg2;have Bg8:=n_Bg8;have HB:=n_HB;clear n_U27 n_U29_0 n_U30_0 n_U36_0 n_U40_0 n_U54 n_U59_0 n_Bg2 n_Bg8 n_HB U34;have U34:=nu;clear nu hU hB' hF) | ((with_reducible refine gate_callee (f:=18) rfl ?_);refine gL_ 67 Try.func18 #[.slice aC l1.length aD, .int .i64 m1] ?_;refine(mark_UR aC aD l1 _ m1 m2 HB.out U36_0.out H15'.out H17'.out H16'.out).mono ?_;rintro e w18 ⟨rfl,hU,hB',hF⟩;refine⟨_,rfl,?_⟩;have nu:=Aside0.mk hU;have n_U27:=Aside0.mk (U27.out.mv hF (by have:=NN1.out;have:=Gg2.out;have:=Kg2.out;have:=NN2.out;have:=NN3.out;have:=NN4.out;have:=NN5.out;have:=NN6.out;have:=NN7.out;have:=Gg8.out;have:=Kg8.out;have:=NN8.out;have:=NN9.out;have:=NN10.out;have:=NN11.out;have:=NN12.out;have:=NN13.out;have:=NN14.out;have:=NN15.out;have:=NN16.out;have:=NN17.out;omega));have n_U29_0:=Aside0.mk (U29_0.out.mv hF (by have:=NN1.out;have:=Gg2.out;have:=Kg2.out;have:=NN2.out;have:=NN3.out;have:=NN4.out;have:=NN5.out;have:=NN6.out;have:=NN7.out;have:=Gg8.out;have:=Kg8.out;have:=NN8.out;have:=NN9.out;have:=NN10.out;have:=NN11.out;have:=NN12.out;have:=NN13.out;have:=NN14.out;have:=NN15.out;have:=NN16.out;have:=NN17.out;omega));have n_U30_0:=Aside0.mk (U30_0.out.mv hF (by have:=NN1.out;have:=Gg2.out;have:=Kg2.out;have:=NN2.out;have:=NN3.out;have:=NN4.out;have:=NN5.out;have:=NN6.out;have:=NN7.out;have:=Gg8.out;have:=Kg8.out;have:=NN8.out;have:=NN9.out;have:=NN10.out;have:=NN11.out;have:=NN12.out;have:=NN13.out;have:=NN14.out;have:=NN15.out;have:=NN16.out;have:=NN17.out;omega));have n_U34:=Aside0.mk (U34.out.mv hF (by have:=NN1.out;have:=Gg2.out;have:=Kg2.out;have:=NN2.out;have:=NN3.out;have:=NN4.out;have:=NN5.out;have:=NN6.out;have:=NN7.out;have:=Gg8.out;have:=Kg8.out;have:=NN8.out;have:=NN9.out;have:=NN10.out;have:=NN11.out;have:=NN12.out;have:=NN13.out;have:=NN14.out;have:=NN15.out;have:=NN16.out;have:=NN17.out;omega));have n_U40_0:=Aside0.mk (U40_0.out.mv hF (by have:=NN1.out;have:=Gg2.out;have:=Kg2.out;have:=NN2.out;have:=NN3.out;have:=NN4.out;have:=NN5.out;have:=NN6.out;have:=NN7.out;have:=Gg8.out;have:=Kg8.out;have:=NN8.out;have:=NN9.out;have:=NN10.out;have:=NN11.out;have:=NN12.out;have:=NN13.out;have:=NN14.out;have:=NN15.out;have:=NN16.out;have:=NN17.out;omega));have n_U54:=Aside0.mk (U54.out.mv hF (by have:=NN1.out;have:=Gg2.out;have:=Kg2.out;have:=NN2.out;have:=NN3.out;have:=NN4.out;have:=NN5.out;have:=NN6.out;have:=NN7.out;have:=Gg8.out;have:=Kg8.out;have:=NN8.out;have:=NN9.out;have:=NN10.out;have:=NN11.out;have:=NN12.out;have:=NN13.out;have:=NN14.out;have:=NN15.out;have:=NN16.out;have:=NN17.out;omega));have n_U59_0:=Aside0.mk (U59_0.out.mv hF (by have:=NN1.out;have:=Gg2.out;have:=Kg2.out;have:=NN2.out;have:=NN3.out;have:=NN4.out;have:=NN5.out;have:=NN6.out;have:=NN7.out;have:=Gg8.out;have:=Kg8.out;have:=NN8.out;have:=NN9.out;have:=NN10.out;have:=NN11.out;have:=NN12.out;have:=NN13.out;have:=NN14.out;have:=NN15.out;have:=NN16.out;have:=NN17.out;omega));have n_Bg2:=Aside0.mk ((hF.same g2 (blk_lt Bg2.out) (by have:=NN1.out;have:=Gg2.out;have:=Kg2.out;have:=NN2.out;have:=NN3.out;have:=NN4.out;have:=NN5.out;have:=NN6.out;have:=NN7.out;have:=Gg8.out;have:=Kg8.out;have:=NN8.out;have:=NN9.out;have:=NN10.out;have:=NN11.out;have:=NN12.out;have:=NN13.out;have:=NN14.out;have:=NN15.out;have:=NN16.out;have:=NN17.out;omega)).trans Bg2.out);have n_Bg8:=Aside0.mk ((hF.same g8 (blk_lt Bg8.out) (by have:=NN1.out;have:=Gg2.out;have:=Kg2.out;have:=NN2.out;have:=NN3.out;have:=NN4.out;have:=NN5.out;have:=NN6.out;have:=NN7.out;have:=Gg8.out;have:=Kg8.out;have:=NN8.out;have:=NN9.out;have:=NN10.out;have:=NN11.out;have:=NN12.out;have:=NN13.out;have:=NN14.out;have:=NN15.out;have:=NN16.out;have:=NN17.out;omega)).trans Bg8.out);have n_HB:=Aside0.mk (hB');have NN18:Aside0 (w17.heap.size≤w18.heap.size):=⟨hF.size⟩;clear U27 U29_0 U30_0 U34 U40_0 U54 U59_0 Bg2 Bg8 HB;have U27:=n_U27;have U29_0:=n_U29_0;have U30_0:=n_U30_0;have U34:=n_U34;have U40_0:=n_U40_0;have U54:=n_U54;have U59_0:=n_U59_0;have Bg2:=n_Bg2;have Bg8:=n_Bg8;have HB:=n_HB;clear n_U27 n_U29_0 n_U30_0 n_U34 n_U40_0 n_U54 n_U59_0 n_Bg2 n_Bg8 n_HB U36_0;have U36_0:=nu;clear nu hU hB' hF) | (go_at_call 14;refine(laws_eqFracS.calls k _ _ s0 _ _ s0 true _ ?s1 ?s2 ?s3 ?s4 H8'.out).mono ?_;(case s1=>exact UR.C U40_0.out);(case s2=>exact UR.cap U40_0.out);(case s3=>exact UR.C U30_0.out);(case s4=>exact UR.cap U30_0.out);rintro e w19 ⟨rfl,hb⟩;have n_U27:=Aside0.mk (U27.out.mvB (Frm.below hb));have n_U29_0:=Aside0.mk (U29_0.out.mvB (Frm.below hb));have n_U30_0:=Aside0.mk (U30_0.out.mvB (Frm.below hb));have n_U34:=Aside0.mk (U34.out.mvB (Frm.below hb));have n_U36_0:=Aside0.mk (U36_0.out.mvB (Frm.below hb));have n_U40_0:=Aside0.mk (U40_0.out.mvB (Frm.below hb));have n_U54:=Aside0.mk (U54.out.mvB (Frm.below hb));have n_U59_0:=Aside0.mk (U59_0.out.mvB (Frm.below hb));have n_Bg2:=Aside0.mk (blk_below Bg2.out hb);have n_Bg8:=Aside0.mk (blk_below Bg8.out hb);have n_HB:=Aside0.mk (below_step HB.out hb);have NN19:Aside0 (w18.heap.size≤w19.heap.size):=⟨hb.size⟩;clear U27 U29_0 U30_0 U34 U36_0 U40_0 U54 U59_0 Bg2 Bg8 HB;have U27:=n_U27;have U29_0:=n_U29_0;have U30_0:=n_U30_0;have U34:=n_U34;have U36_0:=n_U36_0;have U40_0:=n_U40_0;have U54:=n_U54;have U59_0:=n_U59_0;have Bg2:=n_Bg2;have Bg8:=n_Bg8;have HB:=n_HB;clear n_U27 n_U29_0 n_U30_0 n_U34 n_U36_0 n_U40_0 n_U54 n_U59_0 n_Bg2 n_Bg8 n_HB hb) | ((with_reducible refine gate_callee (f:=19) rfl ?_);refine gL_ 83 Try.func19 #[.slice az s0.length aA, .int .i64 1] ?_;refine(mark_UF az aA s0 _ 1 m3 HB.out U40_0.out (by decide) H20'.out H19'.out).mono ?_;rintro e w20 ⟨rfl,hU,hB',hF⟩;refine⟨_,rfl,?_⟩;have nu:=Aside0.mk hU;have n_U27:=Aside0.mk (U27.out.mv hF (by have:=NN1.out;have:=Gg2.out;have:=Kg2.out;have:=NN2.out;have:=NN3.out;have:=NN4.out;have:=NN5.out;have:=NN6.out;have:=NN7.out;have:=Gg8.out;have:=Kg8.out;have:=NN8.out;have:=NN9.out;have:=NN10.out;have:=NN11.out;have:=NN12.out;have:=NN13.out;have:=NN14.out;have:=NN15.out;have:=NN16.out;have:=NN17.out;have:=NN18.out;have:=NN19.out;omega));have n_U29_0:=Aside0.mk (U29_0.out.mv hF (by have:=NN1.out;have:=Gg2.out;have:=Kg2.out;have:=NN2.out;have:=NN3.out;have:=NN4.out;have:=NN5.out;have:=NN6.out;have:=NN7.out;have:=Gg8.out;have:=Kg8.out;have:=NN8.out;have:=NN9.out;have:=NN10.out;have:=NN11.out;have:=NN12.out;have:=NN13.out;have:=NN14.out;have:=NN15.out;have:=NN16.out;have:=NN17.out;have:=NN18.out;have:=NN19.out;omega));have n_U30_0:=Aside0.mk (U30_0.out.mv hF (by have:=NN1.out;have:=Gg2.out;have:=Kg2.out;have:=NN2.out;have:=NN3.out;have:=NN4.out;have:=NN5.out;have:=NN6.out;have:=NN7.out;have:=Gg8.out;have:=Kg8.out;have:=NN8.out;have:=NN9.out;have:=NN10.out;have:=NN11.out;have:=NN12.out;have:=NN13.out;have:=NN14.out;have:=NN15.out;have:=NN16.out;have:=NN17.out;have:=NN18.out;have:=NN19.out;omega));have n_U34:=Aside0.mk (U34.out.mv hF (by have:=NN1.out;have:=Gg2.out;have:=Kg2.out;have:=NN2.out;have:=NN3.out;have:=NN4.out;have:=NN5.out;have:=NN6.out;have:=NN7.out;have:=Gg8.out;have:=Kg8.out;have:=NN8.out;have:=NN9.out;have:=NN10.out;have:=NN11.out;have:=NN12.out;have:=NN13.out;have:=NN14.out;have:=NN15.out;have:=NN16.out;have:=NN17.out;have:=NN18.out;have:=NN19.out;omega));have n_U36_0:=Aside0.mk (U36_0.out.mv hF (by have:=NN1.out;have:=Gg2.out;have:=Kg2.out;have:=NN2.out;have:=NN3.out;have:=NN4.out;have:=NN5.out;have:=NN6.out;have:=NN7.out;have:=Gg8.out;have:=Kg8.out;have:=NN8.out;have:=NN9.out;have:=NN10.out;have:=NN11.out;have:=NN12.out;have:=NN13.out;have:=NN14.out;have:=NN15.out;have:=NN16.out;have:=NN17.out;have:=NN18.out;have:=NN19.out;omega));have n_U54:=Aside0.mk (U54.out.mv hF (by have:=NN1.out;have:=Gg2.out;have:=Kg2.out;have:=NN2.out;have:=NN3.out;have:=NN4.out;have:=NN5.out;have:=NN6.out;have:=NN7.out;have:=Gg8.out;have:=Kg8.out;have:=NN8.out;have:=NN9.out;have:=NN10.out;have:=NN11.out;have:=NN12.out;have:=NN13.out;have:=NN14.out;have:=NN15.out;have:=NN16.out;have:=NN17.out;have:=NN18.out;have:=NN19.out;omega));have n_U59_0:=Aside0.mk (U59_0.out.mv hF (by have:=NN1.out;have:=Gg2.out;have:=Kg2.out;have:=NN2.out;have:=NN3.out;have:=NN4.out;have:=NN5.out;have:=NN6.out;have:=NN7.out;have:=Gg8.out;have:=Kg8.out;have:=NN8.out;have:=NN9.out;have:=NN10.out;have:=NN11.out;have:=NN12.out;have:=NN13.out;have:=NN14.out;have:=NN15.out;have:=NN16.out;have:=NN17.out;have:=NN18.out;have:=NN19.out;omega));have n_Bg2:=Aside0.mk ((hF.same g2 (blk_lt Bg2.out) (by have:=NN1.out;have:=Gg2.out;have:=Kg2.out;have:=NN2.out;have:=NN3.out;have:=NN4.out;have:=NN5.out;have:=NN6.out;have:=NN7.out;have:=Gg8.out;have:=Kg8.out;have:=NN8.out;have:=NN9.out;have:=NN10.out;have:=NN11.out;have:=NN12.out;have:=NN13.out;have:=NN14.out;have:=NN15.out;have:=NN16.out;have:=NN17.out;have:=NN18.out;have:=NN19.out;omega)).trans Bg2.out);have n_Bg8:=Aside0.mk ((hF.same g8 (blk_lt Bg8.out) (by have:=NN1.out;have:=Gg2.out;have:=Kg2.out;have:=NN2.out;have:=NN3.out;have:=NN4.out;have:=NN5.out;have:=NN6.out;have:=NN7.out;have:=Gg8.out;have:=Kg8.out;have:=NN8.out;have:=NN9.out;have:=NN10.out;have:=NN11.out;have:=NN12.out;have:=NN13.out;have:=NN14.out;have:=NN15.out;have:=NN16.out;have:=NN17.out;have:=NN18.out;have:=NN19.out;omega)).trans Bg8.out);have n_HB:=Aside0.mk (hB');have NN20:Aside0 (w19.heap.size≤w20.heap.size):=⟨hF.size⟩;clear U27 U29_0 U30_0 U34 U36_0 U54 U59_0 Bg2 Bg8 HB;have U27:=n_U27;have U29_0:=n_U29_0;have U30_0:=n_U30_0;have U34:=n_U34;have U36_0:=n_U36_0;have U54:=n_U54;have U59_0:=n_U59_0;have Bg2:=n_Bg2;have Bg8:=n_Bg8;have HB:=n_HB;clear n_U27 n_U29_0 n_U30_0 n_U34 n_U36_0 n_U54 n_U59_0 n_Bg2 n_Bg8 n_HB U40_0;have U40_0:=nu;clear nu hU hB' hF) | ((with_reducible refine gate_callee (f:=20) rfl ?_);refine gL_ 86 Try.func20 #[.slice az s0.length aA, .int .i64 1] ?_;have hcall:=laws_heldFracS.calls k _ _ ((cntF 1 s0.length)) 1 m3 _ (UR.C U40_0.out) (UR.cap U40_0.out) H22'.out;simp only [marks_length,count_length,cntF_length] at hcall;refine hcall.mono ?_;clear hcall;rintro e w21 ⟨rfl,hb⟩;refine⟨_,rfl,?_⟩;have hb:=hb.below;have n_U27:=Aside0.mk (U27.out.mvB (Frm.below hb));have n_U29_0:=Aside0.mk (U29_0.out.mvB (Frm.below hb));have n_U30_0:=Aside0.mk (U30_0.out.mvB (Frm.below hb));have n_U34:=Aside0.mk (U34.out.mvB (Frm.below hb));have n_U36_0:=Aside0.mk (U36_0.out.mvB (Frm.below hb));have n_U40_0:=Aside0.mk (U40_0.out.mvB (Frm.below hb));have n_U54:=Aside0.mk (U54.out.mvB (Frm.below hb));have n_U59_0:=Aside0.mk (U59_0.out.mvB (Frm.below hb));have n_Bg2:=Aside0.mk (blk_below Bg2.out hb);have n_Bg8:=Aside0.mk (blk_below Bg8.out hb);have n_HB:=Aside0.mk (below_step HB.out hb);have NN21:Aside0 (w20.heap.size≤w21.heap.size):=⟨hb.size⟩;clear U27 U29_0 U30_0 U34 U36_0 U40_0 U54 U59_0 Bg2 Bg8 HB;have U27:=n_U27;have U29_0:=n_U29_0;have U30_0:=n_U30_0;have U34:=n_U34;have U36_0:=n_U36_0;have U40_0:=n_U40_0;have U54:=n_U54;have U59_0:=n_U59_0;have Bg2:=n_Bg2;have Bg8:=n_Bg8;have HB:=n_HB;clear n_U27 n_U29_0 n_U30_0 n_U34 n_U36_0 n_U40_0 n_U54 n_U59_0 n_Bg2 n_Bg8 n_HB hb;have av:w21.cell? ⟨g2,0,none⟩=some (.slice af aa.length ag):=(blk_cell Bg2.out 0).trans rfl;have hf2_0:=blk_frozen Bg2.out 0;have aw:w21.cell? ⟨g2,1,none⟩=some (.slice ah ae.length ai):=(blk_cell Bg2.out 1).trans rfl;have hf2_1:=blk_frozen Bg2.out 1) | ((with_reducible refine gate_callee (f:=11) rfl ?_);refine gL_ 94 Try.func11 #[.agg #[.slice af aa.length ag, .slice ah ae.length ai]] ?_;refine(laws_toProblem.calls k _ _ aa _ _ ae aa ae _ ?s1 ?s2 ?s3 ?s4 H4'.out).mono ?_;(case s1=>exact Kd.C_below HR0_0.out HB.out);(case s2=>exact HC0_0.out);(case s3=>exact Kd.C_below HR0_1.out HB.out);(case s4=>exact HC0_1.out);rintro e w22 ⟨v94_0,v94_1,rfl,ho0,ho1,hb⟩;refine⟨_,rfl,?_⟩;have nu0:=Aside0.mk (UP.of ho0 ho1 HB.out.size);have n_U27:=Aside0.mk (U27.out.mvB (Frm.below hb));have n_U29_0:=Aside0.mk (U29_0.out.mvB (Frm.below hb));have n_U30_0:=Aside0.mk (U30_0.out.mvB (Frm.below hb));have n_U34:=Aside0.mk (U34.out.mvB (Frm.below hb));have n_U36_0:=Aside0.mk (U36_0.out.mvB (Frm.below hb));have n_U40_0:=Aside0.mk (U40_0.out.mvB (Frm.below hb));have n_U54:=Aside0.mk (U54.out.mvB (Frm.below hb));have n_U59_0:=Aside0.mk (U59_0.out.mvB (Frm.below hb));have n_Bg2:=Aside0.mk (blk_below Bg2.out hb);have n_Bg8:=Aside0.mk (blk_below Bg8.out hb);have n_HB:=Aside0.mk (below_step HB.out hb);have NN22:Aside0 (w21.heap.size≤w22.heap.size):=⟨hb.size⟩;clear av hf2_0 aw hf2_1 U27 U29_0 U30_0 U34 U36_0 U40_0 U54 U59_0 Bg2 Bg8 HB;have U27:=n_U27;have U29_0:=n_U29_0;have U30_0:=n_U30_0;have U34:=n_U34;have U36_0:=n_U36_0;have U40_0:=n_U40_0;have U54:=n_U54;have U59_0:=n_U59_0;have Bg2:=n_Bg2;have Bg8:=n_Bg8;have HB:=n_HB;clear n_U27 n_U29_0 n_U30_0 n_U34 n_U36_0 n_U40_0 n_U54 n_U59_0 n_Bg2 n_Bg8 n_HB hb ho0 ho1;have U94:=nu0;clear nu0;obtain⟨bi,bk,bn,bq,e0,e1⟩:=U94.out.slices;subst e0;subst e1) | ((with_reducible refine gate_callee (f:=12) rfl ?_);refine gL_ 96 Try.func12 #[.slice A1 l1.length c1] ?_;refine(laws_toInt64S.calls k _ _ l1 l1 _ ?s1 ?s2 H5'.out).mono ?_;(case s1=>exact Kd.C_below HR1.out HB.out);(case s2=>exact HC1.out);rintro e w23 ⟨v96_0,rfl,ho0,hb⟩;refine⟨_,rfl,?_⟩;have nu0:=Aside0.mk (UR.of ho0 HB.out.size);have n_U27:=Aside0.mk (U27.out.mvB (Frm.below hb));have n_U29_0:=Aside0.mk (U29_0.out.mvB (Frm.below hb));have n_U30_0:=Aside0.mk (U30_0.out.mvB (Frm.below hb));have n_U34:=Aside0.mk (U34.out.mvB (Frm.below hb));have n_U36_0:=Aside0.mk (U36_0.out.mvB (Frm.below hb));have n_U40_0:=Aside0.mk (U40_0.out.mvB (Frm.below hb));have n_U54:=Aside0.mk (U54.out.mvB (Frm.below hb));have n_U59_0:=Aside0.mk (U59_0.out.mvB (Frm.below hb));have n_U94:=Aside0.mk (U94.out.mvB (Frm.below hb));have n_Bg2:=Aside0.mk (blk_below Bg2.out hb);have n_Bg8:=Aside0.mk (blk_below Bg8.out hb);have n_HB:=Aside0.mk (below_step HB.out hb);have NN23:Aside0 (w22.heap.size≤w23.heap.size):=⟨hb.size⟩;clear U27 U29_0 U30_0 U34 U36_0 U40_0 U54 U59_0 U94 Bg2 Bg8 HB;have U27:=n_U27;have U29_0:=n_U29_0;have U30_0:=n_U30_0;have U34:=n_U34;have U36_0:=n_U36_0;have U40_0:=n_U40_0;have U54:=n_U54;have U59_0:=n_U59_0;have U94:=n_U94;have Bg2:=n_Bg2;have Bg8:=n_Bg8;have HB:=n_HB;clear n_U27 n_U29_0 n_U30_0 n_U34 n_U36_0 n_U40_0 n_U54 n_U59_0 n_U94 n_Bg2 n_Bg8 n_HB hb ho0;have U96_0:=nu0;clear nu0;obtain⟨bu,bv,e0⟩:=Kd.R_slice U96_0.out;subst e0) | ((with_reducible refine gate_callee (f:=22) rfl ?_);refine gL_ 97 Try.func22 #[.agg #[.slice bi aa.length bk, .slice bn ae.length bq], .slice bu l1.length bv] ?_;refine(impl_LemkeSolution.calls k _ _ aa _ _ ae _ _ l1 s0 s1 _ ?s1 ?s2 ?s3 ?s4 ?s5 ?s6 H7'.out).mono ?_;(case s1=>exact U94.out.C0);(case s2=>exact U94.out.cap0);(case s3=>exact U94.out.C1);(case s4=>exact U94.out.cap1);(case s5=>exact UR.C U96_0.out);(case s6=>exact UR.cap U96_0.out);rintro e w24 ⟨v97_0,rfl,ho0,hb⟩;refine⟨_,rfl,?_⟩;have nu0:=Aside0.mk (UR.of ho0 HB.out.size);have n_U27:=Aside0.mk (U27.out.mvB (Frm.below hb));have n_U29_0:=Aside0.mk (U29_0.out.mvB (Frm.below hb));have n_U30_0:=Aside0.mk (U30_0.out.mvB (Frm.below hb));have n_U34:=Aside0.mk (U34.out.mvB (Frm.below hb));have n_U36_0:=Aside0.mk (U36_0.out.mvB (Frm.below hb));have n_U40_0:=Aside0.mk (U40_0.out.mvB (Frm.below hb));have n_U54:=Aside0.mk (U54.out.mvB (Frm.below hb));have n_U59_0:=Aside0.mk (U59_0.out.mvB (Frm.below hb));have n_U94:=Aside0.mk (U94.out.mvB (Frm.below hb));have n_U96_0:=Aside0.mk (U96_0.out.mvB (Frm.below hb));have n_Bg2:=Aside0.mk (blk_below Bg2.out hb);have n_Bg8:=Aside0.mk (blk_below Bg8.out hb);have n_HB:=Aside0.mk (below_step HB.out hb);have NN24:Aside0 (w23.heap.size≤w24.heap.size):=⟨hb.size⟩;clear U27 U29_0 U30_0 U34 U36_0 U40_0 U54 U59_0 U94 U96_0 Bg2 Bg8 HB;have U27:=n_U27;have U29_0:=n_U29_0;have U30_0:=n_U30_0;have U34:=n_U34;have U36_0:=n_U36_0;have U40_0:=n_U40_0;have U54:=n_U54;have U59_0:=n_U59_0;have U94:=n_U94;have U96_0:=n_U96_0;have Bg2:=n_Bg2;have Bg8:=n_Bg8;have HB:=n_HB;clear n_U27 n_U29_0 n_U30_0 n_U34 n_U36_0 n_U40_0 n_U54 n_U59_0 n_U94 n_U96_0 n_Bg2 n_Bg8 n_HB hb ho0;have U97_0:=nu0;clear nu0;obtain⟨bw,bz,e0⟩:=Kd.R_slice U97_0.out;subst e0) | ((with_reducible refine gate_callee (f:=14) rfl ?_);refine gL_ 102 Try.func14 #[.slice bw s0.length bz, .slice aK s0.length aM] ?_;refine(laws_eqFracS.calls k _ _ s0 _ _ s0 true _ ?s1 ?s2 ?s3 ?s4 H8'.out).mono ?_;(case s1=>exact UR.C U97_0.out);(case s2=>exact UR.cap U97_0.out);(case s3=>exact UR.C U30_0.out);(case s4=>exact UR.cap U30_0.out);rintro e w25 ⟨rfl,hb⟩;refine⟨_,rfl,?_⟩;have n_U27:=Aside0.mk (U27.out.mvB (Frm.below hb));have n_U29_0:=Aside0.mk (U29_0.out.mvB (Frm.below hb));have n_U30_0:=Aside0.mk (U30_0.out.mvB (Frm.below hb));have n_U34:=Aside0.mk (U34.out.mvB (Frm.below hb));have n_U36_0:=Aside0.mk (U36_0.out.mvB (Frm.below hb));have n_U40_0:=Aside0.mk (U40_0.out.mvB (Frm.below hb));have n_U54:=Aside0.mk (U54.out.mvB (Frm.below hb));have n_U59_0:=Aside0.mk (U59_0.out.mvB (Frm.below hb));have n_U94:=Aside0.mk (U94.out.mvB (Frm.below hb));have n_U96_0:=Aside0.mk (U96_0.out.mvB (Frm.below hb));have n_U97_0:=Aside0.mk (U97_0.out.mvB (Frm.below hb));have n_Bg2:=Aside0.mk (blk_below Bg2.out hb);have n_Bg8:=Aside0.mk (blk_below Bg8.out hb);have n_HB:=Aside0.mk (below_step HB.out hb);have NN25:Aside0 (w24.heap.size≤w25.heap.size):=⟨hb.size⟩;clear U27 U29_0 U30_0 U34 U36_0 U40_0 U54 U59_0 U94 U96_0 U97_0 Bg2 Bg8 HB;have U27:=n_U27;have U29_0:=n_U29_0;have U30_0:=n_U30_0;have U34:=n_U34;have U36_0:=n_U36_0;have U40_0:=n_U40_0;have U54:=n_U54;have U59_0:=n_U59_0;have U94:=n_U94;have U96_0:=n_U96_0;have U97_0:=n_U97_0;have Bg2:=n_Bg2;have Bg8:=n_Bg8;have HB:=n_HB;clear n_U27 n_U29_0 n_U30_0 n_U34 n_U36_0 n_U40_0 n_U54 n_U59_0 n_U94 n_U96_0 n_U97_0 n_Bg2 n_Bg8 n_HB hb) | ((with_reducible refine gate_callee (f:=20) rfl ?_);refine gL_ 111 Try.func20 #[.slice az s0.length aA, .int .i64 1] ?_;have hcall:=laws_heldFracS.calls k _ _ ((cntF 1 s0.length)) 1 m3 _ (UR.C U40_0.out) (UR.cap U40_0.out) H22'.out;simp only [marks_length,count_length,cntF_length] at hcall;refine hcall.mono ?_;clear hcall;rintro e w26 ⟨rfl,hb⟩;refine⟨_,rfl,?_⟩;have hb:=hb.below;have n_U27:=Aside0.mk (U27.out.mvB (Frm.below hb));have n_U29_0:=Aside0.mk (U29_0.out.mvB (Frm.below hb));have n_U30_0:=Aside0.mk (U30_0.out.mvB (Frm.below hb));have n_U34:=Aside0.mk (U34.out.mvB (Frm.below hb));have n_U36_0:=Aside0.mk (U36_0.out.mvB (Frm.below hb));have n_U40_0:=Aside0.mk (U40_0.out.mvB (Frm.below hb));have n_U54:=Aside0.mk (U54.out.mvB (Frm.below hb));have n_U59_0:=Aside0.mk (U59_0.out.mvB (Frm.below hb));have n_U94:=Aside0.mk (U94.out.mvB (Frm.below hb));have n_U96_0:=Aside0.mk (U96_0.out.mvB (Frm.below hb));have n_U97_0:=Aside0.mk (U97_0.out.mvB (Frm.below hb));have n_Bg2:=Aside0.mk (blk_below Bg2.out hb);have n_Bg8:=Aside0.mk (blk_below Bg8.out hb);have n_HB:=Aside0.mk (below_step HB.out hb);have NN26:Aside0 (w25.heap.size≤w26.heap.size):=⟨hb.size⟩;clear U27 U29_0 U30_0 U34 U36_0 U40_0 U54 U59_0 U94 U96_0 U97_0 Bg2 Bg8 HB;have U27:=n_U27;have U29_0:=n_U29_0;have U30_0:=n_U30_0;have U34:=n_U34;have U36_0:=n_U36_0;have U40_0:=n_U40_0;have U54:=n_U54;have U59_0:=n_U59_0;have U94:=n_U94;have U96_0:=n_U96_0;have U97_0:=n_U97_0;have Bg2:=n_Bg2;have Bg8:=n_Bg8;have HB:=n_HB;clear n_U27 n_U29_0 n_U30_0 n_U34 n_U36_0 n_U40_0 n_U54 n_U59_0 n_U94 n_U96_0 n_U97_0 n_Bg2 n_Bg8 n_HB hb))
 go_ret
 exact⟨rfl,HB.out⟩
theorem laws_FnExactLemkeSolution.small0 (k:Nat) (af:Option Addr) (ag:Nat) (aa:List (List Int)) (ah:Option Addr) (ai:Nat) (ae:List Int) (A1:Option Addr) (c1:Nat) (l1:List Int)  (w:World) (aj:Kd.C (Kd.slice 2 (Kd.int .i64)) w af aa.length aa) (ak:aa.length≤ag) (aq:Kd.C (Kd.int .i64) w ah ae.length ae) (au:ae.length≤ai) (hr1:Kd.C (Kd.int .i64) w A1 l1.length l1) (hc1:l1.length≤c1) (h1:(l1.length:Int) > 1048576):
  Calls Try.prog 4 #[.agg #[.slice af aa.length ag, .slice ah ae.length ai], .slice A1 l1.length c1] w fun e w'=>e= .returned (.bool true)∧Below w.heap.size w w':=by
 have HR0_0:=Aside0.mk aj
 have HC0_0:=Aside0.mk ak
 clear aj ak
 have HR0_1:=Aside0.mk aq
 have HC0_1:=Aside0.mk au
 clear aq au
 have HR1:=Aside0.mk hr1
 have HC1:=Aside0.mk hc1
 clear hr1 hc1
 have HB:=Aside0.mk (Below.refl w.heap.size w)
 go_enter Try.func4,Try.ntmps4
 go_wp2_with (first | ((with_reducible refine gate_dst (N:=2) rfl ?_);refine box_event ?hg (N:=2) ?hd (cs:= #[.slice af aa.length ag, .slice ah ae.length ai]) (t:=25) ?hr ?_;(case hd=>rfl);(case hg=>rfl);(case hr=>first | (go_simp;done) | (go_simp;rfl));intro g2 hg w1 hbox hb;have Gg2:Aside0 (g2=w.heap.size):=⟨hg⟩;have Kg2:=Aside0.mk (blk_lt hbox);clear hg;have n_HB:=Aside0.mk (below_step HB.out hb);have NN1:Aside0 (w.heap.size≤w1.heap.size):=⟨hb.size⟩;clear HB;have HB:=n_HB;clear n_HB;have Bg2:=Aside0.mk hbox;clear hb hbox;have av:w1.cell? ⟨g2,0,none⟩=some (.slice af aa.length ag):=(blk_cell Bg2.out 0).trans rfl;have hf2_0:=blk_frozen Bg2.out 0;have aw:w1.cell? ⟨g2,1,none⟩=some (.slice ah ae.length ai):=(blk_cell Bg2.out 1).trans rfl;have hf2_1:=blk_frozen Bg2.out 1))
 go_ret
 exact⟨rfl,HB.out⟩
theorem laws_FnExactLemkeSolution.small1 (k:Nat) (af:Option Addr) (ag:Nat) (aa:List (List Int)) (ah:Option Addr) (ai:Nat) (ae:List Int) (A1:Option Addr) (c1:Nat) (l1:List Int) (ax:Int) (w:World) (aj:Kd.C (Kd.slice 2 (Kd.int .i64)) w af aa.length aa) (ak:aa.length≤ag) (aq:Kd.C (Kd.int .i64) w ah ae.length ae) (au:ae.length≤ai) (hr1:Kd.C (Kd.int .i64) w A1 l1.length l1) (hc1:l1.length≤c1) (h1: ¬ (l1.length:Int) > 1048576) (h2:laws_szProblem.f k aa ae 1048576=some ax) (h3:ax < 0):
  Calls Try.prog 4 #[.agg #[.slice af aa.length ag, .slice ah ae.length ai], .slice A1 l1.length c1] w fun e w'=>e= .returned (.bool true)∧Below w.heap.size w w':=by
 have HR0_0:=Aside0.mk aj
 have HC0_0:=Aside0.mk ak
 clear aj ak
 have HR0_1:=Aside0.mk aq
 have HC0_1:=Aside0.mk au
 clear aq au
 have HR1:=Aside0.mk hr1
 have HC1:=Aside0.mk hc1
 clear hr1 hc1
 have HB:=Aside0.mk (Below.refl w.heap.size w)
 have H2':=Aside0.mk h2
 clear h2
 go_enter Try.func4,Try.ntmps4
 go_wp2_with (first | ((with_reducible refine gate_dst (N:=2) rfl ?_);refine box_event ?hg (N:=2) ?hd (cs:= #[.slice af aa.length ag, .slice ah ae.length ai]) (t:=25) ?hr ?_;(case hd=>rfl);(case hg=>rfl);(case hr=>first | (go_simp;done) | (go_simp;rfl));intro g2 hg w1 hbox hb;have Gg2:Aside0 (g2=w.heap.size):=⟨hg⟩;have Kg2:=Aside0.mk (blk_lt hbox);clear hg;have n_HB:=Aside0.mk (below_step HB.out hb);have NN1:Aside0 (w.heap.size≤w1.heap.size):=⟨hb.size⟩;clear HB;have HB:=n_HB;clear n_HB;have Bg2:=Aside0.mk hbox;clear hb hbox;have av:w1.cell? ⟨g2,0,none⟩=some (.slice af aa.length ag):=(blk_cell Bg2.out 0).trans rfl;have hf2_0:=blk_frozen Bg2.out 0;have aw:w1.cell? ⟨g2,1,none⟩=some (.slice ah ae.length ai):=(blk_cell Bg2.out 1).trans rfl;have hf2_1:=blk_frozen Bg2.out 1) | ((with_reducible refine gate_callee (f:=9) rfl ?_);refine gL_ 22 Try.func9 #[.agg #[.slice af aa.length ag, .slice ah ae.length ai], .int .i64 1048576] ?_;refine(laws_szProblem.calls k _ _ aa _ _ ae 1048576 ax _ ?s1 ?s2 ?s3 ?s4 H2'.out).mono ?_;(case s1=>exact Kd.C_below HR0_0.out HB.out);(case s2=>exact HC0_0.out);(case s3=>exact Kd.C_below HR0_1.out HB.out);(case s4=>exact HC0_1.out);rintro e w2 ⟨rfl,hb⟩;refine⟨_,rfl,?_⟩;have n_Bg2:=Aside0.mk (blk_below Bg2.out hb);have n_HB:=Aside0.mk (below_step HB.out hb);have NN2:Aside0 (w1.heap.size≤w2.heap.size):=⟨hb.size⟩;clear av hf2_0 aw hf2_1 Bg2 HB;have Bg2:=n_Bg2;have HB:=n_HB;clear n_Bg2 n_HB hb;have av:w2.cell? ⟨g2,0,none⟩=some (.slice af aa.length ag):=(blk_cell Bg2.out 0).trans rfl;have hf2_0:=blk_frozen Bg2.out 0;have aw:w2.cell? ⟨g2,1,none⟩=some (.slice ah ae.length ai):=(blk_cell Bg2.out 1).trans rfl;have hf2_1:=blk_frozen Bg2.out 1))
 go_ret
 exact⟨rfl,HB.out⟩
def laws_FnExactLemkeSolution.ok_walk (k:Nat) (aa:List (List Int)) (ae:List Int) (l1:List Int):Prop:= ∃(af:Int) (s0:List (S93)) (s1:Int) (m1:Int) (m2:Int) (m3:Int),(¬ (l1.length:Int) > 1048576)∧(laws_szProblem.f k aa ae 1048576=some af)∧(¬ af < 0)∧(laws_toProblem.f k aa ae=some (aa,ae))∧(laws_toInt64S.f k l1=some l1)∧(spec_LemkeSolution.f k aa ae l1=some (s0,s1))∧(impl_LemkeSolution.f k aa ae l1=some (s0,s1))∧(laws_eqFracS.f k s0 s0=some true)∧(laws_eqProblem.f k aa ae aa ae=some true)∧(laws_eqInt64S.f k l1 l1=some true)∧(m1=1+(lens aa:Int)+(ae.length:Int))∧(1+(lens aa:Int)+(ae.length:Int)≤1099511627776)∧(aa.length≤1099511627776)∧(¬ m1 < 0)∧(0≤m1)∧(m2=m1+(l1.length:Int))∧(m1+(l1.length:Int)≤1099511627776)∧(¬ m2 < 0)∧(m3=1+2*(s0.length:Int))∧(1+2*(s0.length:Int)≤1099511627776)∧(¬ m3 < 0)∧(laws_heldFracS.f k ((cntF 1 s0.length)) 1=some m3)
def laws_FnExactLemkeSolution.ok_small0 (k:Nat) (aa:List (List Int)) (ae:List Int) (l1:List Int):Prop:=((l1.length:Int) > 1048576)
def laws_FnExactLemkeSolution.ok_small1 (k:Nat) (ae:List (List Int)) (af:List Int) (l1:List Int):Prop:= ∃(aa:Int),(¬ (l1.length:Int) > 1048576)∧(laws_szProblem.f k ae af 1048576=some aa)∧(aa < 0)
open Classical in
noncomputable def laws_FnExactLemkeSolution.f (k:Nat) (l0_0:List (List Int)) (l0_1:List Int) (l1:List Int):Option Bool:=if laws_FnExactLemkeSolution.ok_walk k l0_0 l0_1 l1∨laws_FnExactLemkeSolution.ok_small0 k l0_0 l0_1 l1∨laws_FnExactLemkeSolution.ok_small1 k l0_0 l0_1 l1 then some true else none
theorem laws_FnExactLemkeSolution.calls (k:Nat) (af:Option Addr) (ag:Nat) (aa:List (List Int)) (ah:Option Addr) (ai:Nat) (ae:List Int) (A1:Option Addr) (c1:Nat) (l1:List Int) (r:Bool) (w:World) (aj:Kd.C (Kd.slice 2 (Kd.int .i64)) w af aa.length aa) (ak:aa.length≤ag) (aq:Kd.C (Kd.int .i64) w ah ae.length ae) (au:ae.length≤ai) (hr1:Kd.C (Kd.int .i64) w A1 l1.length l1) (hc1:l1.length≤c1) (h:laws_FnExactLemkeSolution.f k aa ae l1=some r):
  Calls Try.prog 4 #[.agg #[.slice af aa.length ag, .slice ah ae.length ai], .slice A1 l1.length c1] w fun e w'=>e= .returned (.bool r)∧Below w.heap.size w w':=by
 unfold laws_FnExactLemkeSolution.f at h
 split at h
 case isFalse=>cases h
 rename_i hok
 cases h
 rcases hok with ⟨av,s0,s1,m1,m2,m3,h1,h2,h3,h4,h5,h6,h7,h8,h9,h10,h11,h12,h13,h14,h15,h16,h17,h18,h19,h20,h21,h22⟩ | ⟨h1⟩ | ⟨av,h1,h2,h3⟩
 ·exact laws_FnExactLemkeSolution.walk k af ag aa ah ai ae A1 c1 l1 av s0 s1 m1 m2 m3 w aj ak aq au hr1 hc1 h1 h2 h3 h4 h5 h6 h7 h8 h9 h10 h11 h12 h13 h14 h15 h16 h17 h18 h19 h20 h21 h22
 ·exact laws_FnExactLemkeSolution.small0 k af ag aa ah ai ae A1 c1 l1  w aj ak aq au hr1 hc1 h1
 ·exact laws_FnExactLemkeSolution.small1 k af ag aa ah ai ae A1 c1 l1 av w aj ak aq au hr1 hc1 h1 h2 h3
end Go.Proofs.Ytmpkckiifeikkaa.Pr
end
section
namespace Go.Proofs.Ytmpkckiifeikkaa.Say
open Go.Proofs.Ytmpkckiifeikkaa.Op Go.Proofs.Ytmpkckiifeikkaa.Pr
def FnExactLemkeSolution:Prop:= ∀(aa:List (List Int)) (ae:List Int) (l1:List Int),GoodList (GoodList (GoodInt .i64)) aa→GoodList (GoodInt .i64) ae→GoodList (GoodInt .i64) l1→ ∃k,laws_FnExactLemkeSolution.f k aa ae l1=some true
end Go.Proofs.Ytmpkckiifeikkaa.Say
end
section
namespace Go.Proofs.Ytmpkckiifeikkaa.Lsa
open Go.RowKit Go.Proofs.YtmpkckiifeikkaaW.PrintWords Go.Proofs.YtmpkckiifeikkaaW.PrintMore Go.Proofs.Ytmpkckiifeikkaa.Ma Go.Proofs.Ytmpkckiifeikkaa.Pr Go.Proofs.Ytmpkckiifeikkaa.Dt Go.Proofs.Ytmpkckiifeikkaa.Lk Go.Proofs.Ytmpkckiifeikkaa.Lt Go.Proofs.Ytmpkckiifeikkaa.Lq Go.Proofs.Ytmpkckiifeikkaa.Lp
theorem rd1 (l:List (List Int)) (i:Nat):rd_L1 l (i:Int)=l.getD i []:=by simp [rd_L1]
section
variable {n m:Nat} {T:Mat}
theorem at_rows {i:Nat} (hi:i < n):rd_L1 (rowsM n m T) (i:Int)=rowN T i m:=by rw [rd1,rowsM_at hi]
theorem at_num {i j:Nat} (hj:j < m):rd (rowN T i m) (j:Int)=T i j:=by rw [rd_nat,rowN_at hj]
theorem wB {x y:Int} (hx:Bnd x) (hy:Bnd y):wrap64 (x*y)=x*y:=by
 have:=prodB hx hy
 exact w64 (by omega) (by omega)
theorem kl_cons {i k:Nat} {x y:Int} (c:Nat) (l:List Nat):kl T i k x y (c::l)=if T i c*y=T k c*x then kl T i k x y l else decide (T i c*y < T k c*x):=by
 rw [show kl T i k x y (c::l)=(if T i c*y < T k c*x then true else if T k c*x < T i c*y then false else kl T i k x y l) from rfl]
 by_cases e:T i c*y=T k c*x
 ·rw [if_pos e,if_neg (by omega),if_neg (by omega)]
 ·rw [if_neg e]
  by_cases f:T i c*y < T k c*x
  ·rw [if_pos f];simp [f]
  ·rw [if_neg f,if_pos (by omega)];simp [f]
variable (hT: ∀a c,a < n→c < m→Bnd (T a c)) (hm:n < m) (hn:n≤1000) (hm2:m≤1000)
include hT hm hn hm2
theorem key_eq {i k:Nat} (hi:i < n) (hk:k < n) {a b:Int} (ha:Bnd a) (hb:Bnd b) (den:Int) (bs:List Int):Ev (fun q=>spec_l05Key.f q (rowsM n m T) den bs (i:Int) (k:Int) a b) (kl T i k a b (cols n m)):=by
 have loop: ∀q j,j+q=n→ ∀x y:Int,Ev (fun f=>spec_l05Key.l0 f (i:Int) (k:Int) a b (n:Int) x y (j:Int) (rowsM n m T) den bs) (if x=y then kl T i k a b (List.range' j q) else decide (x < y)):=by
  intro q
  induction q with
  | zero=>
   intro j hj x y
   refine evstep (fun f=>by rw [spec_l05Key.l0]) (evneg (by omega) (evc ?_))
   by_cases e:x=y
   ·rw [if_pos e];subst e;simp [List.range',kl]
   ·rw [if_neg e]
  | succ q ih=>
   intro j hj x y
   refine evstep (fun f=>by rw [spec_l05Key.l0]) (evpos (by omega) ?_)
   by_cases e:x=y
   ·rw [at_rows hi,at_rows hk,rowN_len,rowN_len,rowsM_len]
    refine evpos e (evpos (by omega) (evpos (by omega) (evpos (by omega) (evpos (by omega) (evpos (by omega) (evpos (by omega) (evpos (by omega) ?_)))))))
    rw [at_num (by omega),at_num (by omega),wB (hT i j hi (by omega)) hb,wB (hT k j hk (by omega)) ha,w64 (x:=(j:Int)+1) (by omega) (by omega),if_pos e,List.range'_succ,kl_cons]
    exact ih (j+1) (by omega) _ _
   ·rw [if_neg e]
    exact evneg e (evc rfl)
 unfold spec_l05Key.f
 rw [at_rows hi,at_rows hk,rowN_len,rowN_len,rowsM_len,w64 (x:=(m:Int) - 1) (by omega) (by omega),show (m:Int) - 1=((m - 1:Nat):Int) from by omega]
 refine evpos (by omega) (evpos (by omega) (evpos (by omega) (evpos (by omega) (evpos (by omega) (evpos (by omega) (evpos (by omega) ?_))))))
 rw [at_num (by omega),at_num (by omega),wB (hT i _ hi (by omega)) hb,wB (hT k _ hk (by omega)) ha]
 have e:cols n m=(m - 1)::List.range' 0 n:=by unfold cols;rw [List.range_eq_range']
 rw [e,kl_cons]
 exact loop n 0 (by omega) _ _
def encR:Option Nat→Int
 | none=> -1
 | some r=>(r:Int)
theorem row_eq (s:TS) (hs:s.T=T) {v:Nat} (hv:v < m) (den:Int) (bs:List Int):Ev (fun q=>spec_l05Row.f q (rowsM n m T) den bs (v:Int)) (encR (rowB n m s (fun i=>T i v))):=by
 have loop: ∀q j,j+q=n→ ∀o:Option Nat,(∀r,o=some r→r < n∧0 < T r v)→Ev (fun f=>spec_l05Row.l0 f (v:Int) (encR o) (j:Int) (rowsM n m T) den bs) (encR (lst (fun i=>T i v) (fun i j=>kl T i j (T i v) (T j v) (cols n m)) (List.range' j q) o)):=by
  intro q
  induction q with
  | zero=>
   intro j hj o ho
   exact evstep (fun f=>by rw [spec_l05Row.l0]) (by rw [rowsM_len];exact evneg (by omega) (evc rfl))
  | succ q ih=>
   intro j hj o ho
   refine evstep (fun f=>by rw [spec_l05Row.l0]) ?_
   rw [at_rows (show j < n by omega),rowN_len,rowsM_len,at_num hv]
   refine evpos (by omega) (evpos (by omega) (evpos (by omega) (evpos (by omega) ?_)))
   rw [w64 (x:=(j:Int)+1) (by omega) (by omega),List.range'_succ]
   show Ev _ (encR (lst _ _ (List.range' (j+1) q) (if 0 < T j v∧bet _ j o=true then some j else o)))
   by_cases c:0 < T j v
   ·refine evpos (by omega) ?_
    cases o with
    | none=>
     rw [if_pos ⟨c,rfl⟩]
     exact evpos (by decide) (ih (j+1) (by omega) (some j) (fun r hr=>by cases hr;exact⟨by omega,c⟩))
    | some r=>
     obtain⟨hr,hr2⟩:=ho r rfl
     refine evneg (by show ¬ (r:Int) < 0;omega) (evpos (by show 0≤(r:Int);omega) (evpos (by show (r:Int) < _;omega) ?_))
     show Ev (fun f=>if(v:Int) < ((rd_L1 (rowsM n m T) (r:Int)).length:Int) then((spec_l05Key.f f (rowsM n m T) den bs (j:Int) (r:Int) (T j v) (rd (rd_L1 (rowsM n m T) (r:Int)) (v:Int))).bind fun aa=>if aa=true then _ else _) else _) _
     rw [at_rows hr,rowN_len,at_num hv]
     refine evpos (by omega) (evbind (key_eq hT hm hn hm2 (show j < n by omega) hr (hT j v (by omega) hv) (hT r v hr hv) den bs) ?_)
     by_cases d:kl T j r (T j v) (T r v) (cols n m)=true
     ·rw [if_pos ⟨c,d⟩]
      exact evpos d (ih (j+1) (by omega) (some j) (fun r hr=>by cases hr;exact⟨by omega,c⟩))
     ·rw [if_neg (fun h=>d h.2)]
      exact evneg d (ih (j+1) (by omega) (some r) ho)
   ·rw [if_neg (fun h=>c h.1)]
    exact evneg (by omega) (ih (j+1) (by omega) o ho)
 unfold spec_l05Row.f
 have h:=loop n 0 (by omega) none (fun r hr=>by cases hr)
 unfold rowB
 rw [List.range_eq_range',hs]
 exact h
end
theorem enL_rows {n m:Nat} {T:Mat} {i j:Nat} (hi:i < n) (hj:j < m):enL (rowsM n m T) i j=T i j:=by
 unfold enL
 rw [rowsM_at hi,rowN_at hj]
theorem stT_congr {T T':Mat} {n m r v:Nat} (h: ∀i j,i < n→j < m→T i j=T' i j) (hr:r < n) (hv:v < m) (den:Int) {i j:Nat} (hi:i < n) (hj:j < m):stT T den r v i j=stT T' den r v i j:=by
 unfold stT stA evT
 rw [h r v hr hv,h r j hr hj,h i j hi hj,h i v hi hv]
theorem pivot_eq {n m:Nat} {s:TS} {r v:Nat} (hr:r < n) (hv:v < m) (hl:s.bs.length=n) (hn:n≤1000) (hm2:m≤1000) (hd:s.den≠0):spec_l05Pivot.f (rowsM n m s.T) s.den s.bs (r:Int) (v:Int)=some (rowsM n m (s.step r v).T,(s.step r v).den,(s.step r v).bs):=by
 have h0:((rowsM n m s.T).headD []).length=m:=by
  rw [show (rowsM n m s.T).headD []=(rowsM n m s.T).getD 0 [] from by cases rowsM n m s.T <;> rfl,rowsM_at (by omega),rowN_len]
 unfold spec_l05Pivot.f
 rw [h0,rowsM_len,if_pos ⟨by omega,by omega,by omega,by omega,by omega,by
  rw [List.all_eq_true]
  intro x hx
  unfold rowsM at hx
  obtain⟨a,_,rfl⟩:=List.mem_map.1 hx
  simp [rowN_len],hn,hm2,by omega,hd⟩]
 rw [Int.toNat_natCast,Int.toNat_natCast,rowsM_congr (Z:=stT s.T s.den r v) (fun i j hi hj=>stT_congr (fun i j hi hj=>enL_rows hi hj) hr hv s.den hi hj)]
 have e:stD (enL (rowsM n m s.T)) r v=stD s.T r v:=by unfold stD;rw [enL_rows hr hv]
 rw [e];rfl
theorem begin_eq {n:Nat} {M:List (List Int)} {cv Q:List Int} (hM:M.length=n) (hQ:Q.length=n) (hr: ∀x ∈ M,x.length=n) (hcv:cv.length=n) (hn:0 < n) (hn2:n≤5) (hMb: ∀i k,i < n→k < n→((enL M) i k).natAbs≤20) (hcb: ∀i,i < n→0 < cv.getD i 0∧cv.getD i 0≤20):
  Ev (fun k=>spec_l05Begin.f k M Q cv) (rowsM n (2*n+2) (tab0 n (enL M) (fun i=>cv.getD i 0) (fun i=>Q.getD i 0)),1,idl n):=by
 obtain⟨T,hT⟩: ∃T,tab0 n (enL M) (fun i=>cv.getD i 0) (fun i=>Q.getD i 0)=T:=⟨_,rfl⟩
 rw [hT]
 have hid: ∀i,(idl i).length=i:=fun i=>by simp [idl]
 have hidn: ∀i,idl (i+1)=idl i++ [(i:Int)]:=fun i=>by unfold idl;rw [List.range_succ,List.map_append];rfl
 have loop: ∀q i,i+q=n→Ev (fun k=>spec_l05Begin.l0 k cv (n:Int) (i:Int) M Q (rowsM i (2*n+2) T) 1 (idl i)) (rowsM n (2*n+2) T,1,idl n):=by
  intro q
  induction q with
  | zero=>
   intro i hi
   obtain rfl:i=n:=by omega
   exact evstep (fun k=>by rw [spec_l05Begin.l0]) (evneg (by omega) (evc rfl))
  | succ q ih=>
   intro i hi
   refine evstep (fun k=>by rw [spec_l05Begin.l0]) (evpos (by omega) ?_)
   have eln:(M.getD i []).length=n:=hr _ (by rw [List.getD_eq_getElem?_getD,List.getElem?_eq_getElem (by omega)];exact List.getElem_mem _)
   have loop2: ∀p j,j+p=n→Ev (fun k=>spec_l05Begin.l2 k cv (n:Int) (i:Int) (rowN T i (n+j)) (j:Int) M Q (rowsM i (2*n+2) T) 1 (idl i)) (rowsM n (2*n+2) T,1,idl n):=by
    intro p
    induction p with
    | zero=>
     intro j hj
     obtain rfl:j=n:=by omega
     refine evstep (fun k=>by rw [spec_l05Begin.l2]) ?_
     rw [rowN_len,rowsM_len,hid]
     refine evneg (by omega) (evpos (by omega) (evpos (by omega) (evpos (by omega) (evpos (by omega) (evsome rfl ?_)))))
     refine evpos (by omega) (evpos (by rw [List.length_append,rowN_len];show j+j+1 < _;omega) (evpos (by omega) (evpos (by omega) ?_)))
     have hc:=hcb i (by omega)
     have e1:T i (j+j)= - cv.getD i 0:=by rw [← hT];unfold tab0;rw [if_neg (by omega),if_neg (by omega),if_pos (by omega)]
     have e2:T i (j+j+1)=Q.getD i 0:=by rw [← hT];unfold tab0;rw [if_neg (by omega),if_neg (by omega),if_neg (by omega)]
     rw [rd_nat,rd_nat,w64 (x:= -(cv.getD i 0)) (by omega) (by omega), ← e1, ← rowN_next, ← e2, ← rowN_next,w64 (x:=(i:Int)+1) (by omega) (by omega), ← hidn,show j+j+1+1=2*j+2 from by omega, ← rowsM_next]
     exact ih (i+1) (by omega)
    | succ p ihp=>
     intro j hj
     have hb:=hMb i j (by omega) (by omega)
     have e1:T i (n+j)= - (M.getD i []).getD j 0:=by rw [← hT];unfold tab0;rw [if_neg (by omega),if_pos (by omega),show n+j - n=j from by omega];rfl
     have hb2:((M.getD i []).getD j 0).natAbs≤20:=hb
     refine evstep (fun k=>by rw [spec_l05Begin.l2]) ?_
     rw [rd1,eln,rowN_len]
     refine evpos (by omega) (evpos (by omega) (evpos (by omega) (evpos (by omega) (evpos (by omega) (evpos (by omega) ?_)))))
     rw [rd_nat,w64 (x:= -((M.getD i []).getD j 0)) (by omega) (by omega), ← e1, ← rowN_next,w64 (x:=(j:Int)+1) (by omega) (by omega)]
     exact ihp (j+1) (by omega)
   have loop1: ∀p j,j+p=n→Ev (fun k=>spec_l05Begin.l1 k cv (n:Int) (i:Int) (rowN T i j) (j:Int) M Q (rowsM i (2*n+2) T) 1 (idl i)) (rowsM n (2*n+2) T,1,idl n):=by
    intro p
    induction p with
    | zero=>
     intro j hj
     obtain rfl:j=n:=by omega
     refine evstep (fun k=>by rw [spec_l05Begin.l1]) (evneg (by omega) ?_)
     exact loop2 j 0 (by omega)
    | succ p ihp=>
     intro j hj
     have e1:T i j=if j=i then 1 else 0:=by rw [← hT];unfold tab0;rw [if_pos (by omega)]
     refine evstep (fun k=>by rw [spec_l05Begin.l1]) (evpos (by omega) ?_)
     rw [rowN_len,w64 (x:=(j:Int)+1) (by omega) (by omega)]
     by_cases c:j=i
     ·rw [if_pos c] at e1
      refine evpos (by omega) (evpos (by omega) ?_)
      rw [show rowN T i j++ [1]=rowN T i (j+1) from by rw [rowN_next,e1]]
      exact ihp (j+1) (by omega)
     ·rw [if_neg c] at e1
      refine evneg (by omega) (evpos (by omega) ?_)
      rw [show rowN T i j++ [0]=rowN T i (j+1) from by rw [rowN_next,e1]]
      exact ihp (j+1) (by omega)
   exact loop1 n 0 (by omega)
 unfold spec_l05Begin.f
 rw [hQ]
 exact loop n 0 (by omega)
end Go.Proofs.Ytmpkckiifeikkaa.Lsa
end
section
namespace Go.Proofs.Ytmpkckiifeikkaa.Lsa
open Go.RowKit Go.Proofs.YtmpkckiifeikkaaW.PrintWords Go.Proofs.YtmpkckiifeikkaaW.PrintMore Go.Proofs.Ytmpkckiifeikkaa.Ma Go.Proofs.Ytmpkckiifeikkaa.Pr Go.Proofs.Ytmpkckiifeikkaa.Dt Go.Proofs.Ytmpkckiifeikkaa.Lk Go.Proofs.Ytmpkckiifeikkaa.Lt Go.Proofs.Ytmpkckiifeikkaa.Lq Go.Proofs.Ytmpkckiifeikkaa.Lp
def goS (n m:Nat):Nat→TS→Nat→Nat→List (List Int)→TS × List (List Int) × Int × Bool
 | 0,s,v,r,st=>(s,st,(v:Int),false)
 | q+1,s,v,r,st=>
  if s.bs.getD r 0=2*(n:Int) then(s.step r v,st++ [[(v:Int),s.bs.getD r 0]], -1,true)
  else match rowB n m (s.step r v) (fun i=>(s.step r v).T i (partner n (s.bs.getD r 0).toNat)) with
   | none=>(s.step r v,st++ [[(v:Int),s.bs.getD r 0]],(partner n (s.bs.getD r 0).toNat:Nat),false)
   | some r'=>goS n m q (s.step r v) (partner n (s.bs.getD r 0).toNat) r' (st++ [[(v:Int),s.bs.getD r 0]])
def runS (n:Nat) (M:Mat) (cv q:Nat→Int) (most:Nat):TS × List (List Int) × Int × Bool:=
 if feas n q=true then(first n M cv q, [], -1,true)
 else match rowB n (2*n+2) (first n M cv q) cv with
  | none=>(first n M cv q, [], -1,false)
  | some r=>goS n (2*n+2) most (first n M cv q) (2*n) r []
def encS (n m:Nat) (R:TS × List (List Int) × Int × Bool):(List (List Int)) × Int × List Int × (List (List Int)) × Int × Bool:=(rowsM n m R.1.T,R.1.den,R.1.bs,R.2.1,R.2.2.1,R.2.2.2)
theorem partner_lt {n l:Nat} (h:l < 2*n):partner n l < 2*n:=by unfold partner;split <;> omega
theorem spartner {n l:Nat} (hn:n≤1000) (h:l < 2*n):spec_l05Partner.f (l:Int) (n:Int)=some ((partner n l:Nat):Int):=by
 unfold spec_l05Partner.f partner
 by_cases c:l < n
 ·rw [if_pos (by omega),if_pos c,w64 (by omega) (by omega)];rfl
 ·rw [if_neg (by omega),if_neg c,w64 (by omega) (by omega),show (l:Int) - (n:Int)=((l - n:Nat):Int) from by omega]
section
variable {n m:Nat} {A:Mat} (hn:n≤5) (hn0:0 < n) (hm:m=2*n+2) (hA:Small n m A) (most:Nat) (hmost:most≤100000)
include hn hn0 hm hA hmost
theorem j2_eq: ∀(q:Nat) (s:TS) (v r:Nat) (st:List (List Int)),Ok n m A s→st.length+(q+1)=most→r < n→v < m - 1→s.T r v≠0→
  Ev (fun k=>spec_l05Run.j2 k (most:Int) (n:Int) st (r:Int) (v:Int) (rowsM n m s.T) s.den s.bs) (encS n m (goS n m (q+1) s v r st)):=by
 intro q
 induction q with
 | zero=>
  intro s v r st hs hq hr hv hp
  obtain⟨l,hl⟩: ∃l:Nat,s.bs.getD r 0=(l:Int):=⟨(s.bs.getD r 0).toNat,by have:=hs.nn r hr;omega⟩
  have hlt:l < m - 1:=by have:=hs.lt r hr;rw [hl] at this;simp only [Int.toNat_natCast] at this;omega
  refine evstep (fun k=>by rw [spec_l05Run.j2]) ?_
  rw [rd_nat,hl]
  refine evpos (by omega) (evpos (by rw [hs.len];omega) (evpos (by omega) (evsome rfl (evsome (pivot_eq hr (by omega) hs.len (by omega) (by omega) (by have:=hs.tab.pos;omega)) ?_))))
  rw [w64 (x:=2*(n:Int)) (by omega) (by omega)]
  unfold goS
  rw [hl]
  by_cases c:(l:Int)=2*(n:Int)
  ·rw [if_pos c]
   exact evpos c (evc rfl)
  ·rw [if_neg c]
   have hp2:=partner_lt (n:=n) (l:=l) (by omega)
   refine evneg c (evsome (spartner (by omega) (by omega)) (evstep (fun k=>by rw [spec_l05Run.l1]) (evneg (by rw [List.length_append];simp only [List.length_singleton];omega) (evc ?_))))
   rw [Int.toNat_natCast]
   generalize rowB n m _ _=o
   cases o <;> rfl
 | succ q ih=>
  intro s v r st hs hq hr hv hp
  obtain⟨l,hl⟩: ∃l:Nat,s.bs.getD r 0=(l:Int):=⟨(s.bs.getD r 0).toNat,by have:=hs.nn r hr;omega⟩
  have hlt:l < m - 1:=by have:=hs.lt r hr;rw [hl] at this;simp only [Int.toNat_natCast] at this;omega
  have hs2:=hs.step hn hA hr (v:=v) (by omega) hp
  refine evstep (fun k=>by rw [spec_l05Run.j2]) ?_
  rw [rd_nat,hl]
  refine evpos (by omega) (evpos (by rw [hs.len];omega) (evpos (by omega) (evsome rfl (evsome (pivot_eq hr (by omega) hs.len (by omega) (by omega) (by have:=hs.tab.pos;omega)) ?_))))
  rw [w64 (x:=2*(n:Int)) (by omega) (by omega)]
  unfold goS
  rw [hl]
  by_cases c:(l:Int)=2*(n:Int)
  ·rw [if_pos c]
   exact evpos c (evc rfl)
  ·rw [if_neg c]
   have hp2:=partner_lt (n:=n) (l:=l) (by omega)
   refine evneg c (evsome (spartner (by omega) (by omega)) (evstep (fun k=>by rw [spec_l05Run.l1]) (evpos (by rw [List.length_append];simp only [List.length_singleton];omega) ?_)))
   rw [w64 (x:=2*(n:Int)) (by omega) (by omega),Int.toNat_natCast]
   obtain⟨v2,hv2⟩: ∃v2,partner n l=v2:=⟨_,rfl⟩
   rw [hv2] at hp2 ⊢
   refine evpos (by omega) (evbind (row_eq (T:=(s.step r v).T) (fun a c ha hc=>hs2.abs hn hA ha hc) (by omega) (by omega) (by omega) (s.step r v) rfl (by omega) (s.step r v).den (s.step r v).bs) ?_)
   obtain⟨o,ho⟩: ∃o,rowB n m (s.step r v) (fun i=>(s.step r v).T i v2)=o:=⟨_,rfl⟩
   rw [ho]
   cases o with
   | none=>exact evpos (by decide) (evc rfl)
   | some r2=>
    have h2:=rowB_some ho
    refine evneg (by show ¬ (r2:Int) < 0;omega) ?_
    exact ih (s.step r v) v2 r2 _ hs2 (by rw [List.length_append];simp only [List.length_singleton];omega) h2.1 (by omega) (by have:=h2.2;omega)
end
theorem lst_app2 (bf:Nat→Int) (less:Nat→Nat→Bool) (l l':List Nat) (o:Option Nat):lst bf less (l++l') o=lst bf less l' (lst bf less l o):=by
 induction l generalizing o with
 | nil=>rfl
 | cons x l ih=>simp only [List.cons_append,lst];exact ih _
theorem run_eq {M:List (List Int)} {Q cv:List Int} {n:Nat} (h:PC M Q cv n) (most:Nat) (hmost:most≤100000):
  Ev (fun k=>spec_l05Run.f k M Q cv (most:Int)) (encS n (2*n+2) (runS n (enL M) (fun i=>cv.getD i 0) (fun i=>Q.getD i 0) most)):=by
 have hA:=first_small (n:=n) (M:=enL M) (cv:=fun i=>cv.getD i 0) (q:=fun i=>Q.getD i 0) h.Mb (fun i hi=>by have:=h.cb i hi;omega) h.qb
 have hok:=first_ok (n:=n) (M:=enL M) (cv:=fun i=>cv.getD i 0) (q:=fun i=>Q.getD i 0)
 have hn:=h.le
 have hn0:=h.pos
 have hcl:=h.lcv
 obtain⟨s,hs⟩: ∃s,first n (enL M) (fun i=>cv.getD i 0) (fun i=>Q.getD i 0)=s:=⟨_,rfl⟩
 have hT:tab0 n (enL M) (fun i=>cv.getD i 0) (fun i=>Q.getD i 0)=s.T:=by rw [← hs];rfl
 have hT2: ∀a c,a < n→c < 2*n+2→Bnd (s.T a c):=fun a c ha hc=>by rw [← hs];exact hok.abs hn hA ha hc
 have hcb: ∀i,i < n→Bnd (cv.getD i 0):=fun i hi=>by have:=h.cb i hi;exact⟨by omega,by omega⟩
 unfold spec_l05Run.f
 refine evbind (begin_eq h.lM h.lQ h.rows h.lcv h.pos h.le h.Mb h.cb) ?_
 rw [hT,h.lQ]
 have e1:(1:Int)=s.den:=by rw [← hs];rfl
 have e2:idl n=s.bs:=by rw [← hs];rfl
 have ed:((rowsM n (2*n+2) s.T,(1:Int),idl n):List (List Int) × Int × List Int)=(rowsM n (2*n+2) s.T,s.den,s.bs):=by rw [← e1, ← e2]
 rw [ed]
 unfold runS
 rw [hs]
 have loop: ∀q i,i+q=n→ ∀(f:Bool) (r:Nat),f=(List.range i).any (fun j=>decide (Q.getD j 0 < 0))→r < n→(i=0→r=0)→(0 < i→lst (fun i=>cv.getD i 0) (fun i j=>kl s.T i j (cv.getD i 0) (cv.getD j 0) (cols n (2*n+2))) (List.range i) none=some r)→
   Ev (fun k=>spec_l05Run.l0 k cv (most:Int) (n:Int) [] f (r:Int) (i:Int) M Q (rowsM n (2*n+2) s.T) s.den s.bs) (encS n (2*n+2) (if feas n (fun i=>Q.getD i 0)=true then(s, [], -1,true) else match rowB n (2*n+2) s (fun i=>cv.getD i 0) with
    | none=>(s, [], -1,false)
    | some r=>goS n (2*n+2) most s (2*n) r [])):=by
  intro q
  induction q with
  | zero=>
   intro i hi f r hf hr h0 h1
   obtain rfl:i=n:=by omega
   refine evstep (fun k=>by rw [spec_l05Run.l0]) (evneg (by rw [h.lQ];omega) ?_)
   have hrow:rowB i (2*i+2) s (fun i=>cv.getD i 0)=some r:=h1 hn0
   have hfe:feas i (fun i=>Q.getD i 0)=!f:=by
    rw [hf];unfold feas
    rw [List.not_any_eq_all_not]
    refine List.all_congr rfl (fun j=>?_)
    by_cases c:Q.getD j 0 < 0
    ·rw [decide_eq_true c,decide_eq_false (by show ¬ 0≤Q.getD j 0;omega)];rfl
    ·rw [decide_eq_false c,decide_eq_true (by show 0≤Q.getD j 0;omega)];rfl
   rw [hfe,hrow]
   cases f with
   | false=>
    rw [if_pos (show (!false)=true from rfl)]
    exact evneg (by decide) (evc rfl)
   | true=>
    rw [if_neg (by decide)]
    show Ev _ (encS i (2*i+2) (goS i (2*i+2) most s (2*i) r []))
    refine evpos rfl ?_
    rw [w64 (x:=2*(i:Int)) (by omega) (by omega),show (2*(i:Int))=((2*i:Nat):Int) from by omega]
    cases most with
    | zero=>
     refine evstep (fun k=>by rw [spec_l05Run.l1]) ?_
     exact(evneg (by show ¬ ((0:Nat):Int) < ((0:Nat):Int);omega) (evc rfl))
    | succ mm=>
     refine evstep (fun k=>by rw [spec_l05Run.l1]) (evpos (by show ((0:Nat):Int) < ((mm+1:Nat):Int);omega) (evneg (by rw [w64 (by omega) (by omega)];omega) ?_))
     refine j2_eq hn hn0 rfl hA (mm+1) hmost mm s (2*i) r [] (by rw [← hs];exact hok) (by simp) hr (by omega) ?_
     rw [← hT];unfold tab0
     rw [if_neg (by omega),if_neg (by omega),if_pos rfl]
     have:=(h.cb r hr).1
     show - cv.getD r 0≠0
     omega
  | succ q ih=>
   intro i hi f r hf hr h0 h1
   have hl:=h.lQ
   have key:=key_eq (T:=s.T) hT2 (by omega) (by omega) (by omega) (show i < n by omega) hr (hcb i (by omega)) (hcb r hr) s.den s.bs
   obtain⟨z,hz⟩: ∃z,kl s.T i r (cv.getD i 0) (cv.getD r 0) (cols n (2*n+2))=z:=⟨_,rfl⟩
   rw [hz] at key
   have hnext:lst (fun i=>cv.getD i 0) (fun i j=>kl s.T i j (cv.getD i 0) (cv.getD j 0) (cols n (2*n+2))) (List.range (i+1)) none=some (if z=true then i else r):=by
    rw [List.range_succ,lst_app2]
    by_cases c:i=0
    ·subst c
     have:=h0 rfl
     subst this
     simp only [List.range_zero,lst,bet]
     rw [if_pos ⟨(h.cb 0 hn0).1,trivial⟩]
     simp
    ·rw [h1 (by omega)]
     by_cases d:z=true
     ·rw [if_pos d]
      exact(if_pos ⟨(h.cb i (by omega)).1,hz.trans d⟩:(if 0 < cv.getD i 0∧kl s.T i r (cv.getD i 0) (cv.getD r 0) (cols n (2*n+2))=true then some i else some r)=some i)
     ·rw [if_neg d]
      exact(if_neg (fun q=>d (hz.symm.trans q.2)):(if 0 < cv.getD i 0∧kl s.T i r (cv.getD i 0) (cv.getD r 0) (cols n (2*n+2))=true then some i else some r)=some r)
   refine evstep (fun k=>by rw [spec_l05Run.l0]) (evpos (by rw [hl];omega) ?_)
   have hw:wrap64 ((i:Int)+1)=((i+1:Nat):Int):=by rw [w64 (by omega) (by omega)];rfl
   have hfn: ∀g:Bool,g=(f || decide (Q.getD i 0 < 0))→g=(List.range (i+1)).any (fun j=>decide (Q.getD j 0 < 0)):=fun g hg=>by rw [hg,List.range_succ,List.any_append,hf];simp
   have step: ∀g:Bool,g=(f || decide (Q.getD i 0 < 0))→Ev (fun k=>(spec_l05Key.f k (rowsM n (2*n+2) s.T) s.den s.bs (i:Int) (r:Int) (rd cv (i:Int)) (rd cv (r:Int))).bind fun t=>if t=true then spec_l05Run.l0 k cv (most:Int) (n:Int) [] g (i:Int) (wrap64 ((i:Int)+1)) M Q (rowsM n (2*n+2) s.T) s.den s.bs else spec_l05Run.l0 k cv (most:Int) (n:Int) [] g (r:Int) (wrap64 ((i:Int)+1)) M Q (rowsM n (2*n+2) s.T) s.den s.bs) (encS n (2*n+2) (if feas n (fun i=>Q.getD i 0)=true then(s, [], -1,true) else match rowB n (2*n+2) s (fun i=>cv.getD i 0) with
    | none=>(s, [], -1,false)
    | some r=>goS n (2*n+2) most s (2*n) r [])):=by
    intro g hg
    rw [rd_nat,rd_nat,hw]
    refine evbind key ?_
    by_cases d:z=true
    ·rw [if_pos d] at hnext
     exact evpos d (ih (i+1) (by omega) g i (hfn g hg) (by omega) (fun e=>by omega) (fun _=>hnext))
    ·rw [if_neg d] at hnext
     exact evneg d (ih (i+1) (by omega) g r (hfn g hg) hr (fun e=>by omega) (fun _=>hnext))
   by_cases cf:f=true
   ·refine evpos cf (evpos (by omega) (evpos (by omega) (evpos (by omega) (evpos (by omega) ?_))))
    exact step true (by rw [cf];rfl)
   ·refine evneg cf (evpos (by omega) (evpos (by omega) (evpos (by omega) (evpos (by omega) ?_))))
    have e:decide (rd Q (i:Int) < 0)=(f || decide (Q.getD i 0 < 0)):=by rw [rd_nat];cases f with | false=>rfl | true=>exact absurd rfl cf
    exact step _ e
 exact loop n 0 (by omega) false 0 rfl hn0 (fun _=>rfl) (fun e=>by omega)
end Go.Proofs.Ytmpkckiifeikkaa.Lsa
end
section
namespace Go.Proofs.Ytmpkckiifeikkaa.Lsa
open Go.RowKit Go.Proofs.YtmpkckiifeikkaaW.PrintWords Go.Proofs.YtmpkckiifeikkaaW.PrintMore Go.Proofs.Ytmpkckiifeikkaa.Ma Go.Proofs.Ytmpkckiifeikkaa.Pr Go.Proofs.Ytmpkckiifeikkaa.Dt Go.Proofs.Ytmpkckiifeikkaa.Lk Go.Proofs.Ytmpkckiifeikkaa.Lt Go.Proofs.Ytmpkckiifeikkaa.Lq Go.Proofs.Ytmpkckiifeikkaa.Lp
theorem goS_len (n m:Nat): ∀(q:Nat) (s:TS) (v r:Nat) (st:List (List Int)),st.length≤(goS n m q s v r st).2.1.length∧(0 < q→st.length < (goS n m q s v r st).2.1.length):=by
 intro q
 induction q with
 | zero=>intro s v r st;exact⟨Nat.le_refl _,fun h=>absurd h (by omega)⟩
 | succ q ih=>
  intro s v r st
  suffices h:st.length < (goS n m (q+1) s v r st).2.1.length from ⟨by omega,fun _=>h⟩
  unfold goS
  split
  ·simp
  ·generalize rowB n m _ _=o
   cases o with
   | none=>simp
   | some r'=>have:=(ih (s.step r v) (partner n (s.bs.getD r 0).toNat) r' (st++ [[(v:Int),s.bs.getD r 0]])).1;simp at this ⊢;omega
def Rel (most:Nat) (R:TS × List (List Int) × Bool × Int × Int) (S:TS × List (List Int) × Int × Bool):Prop:=
 (R.2.2.2.2=3∧200 < S.2.1.length)∨(R.2.2.2.2=0∧S.2.1.length≤200∧S.1=R.1∧S.2.1=R.2.1∧S.2.2.2=R.2.2.1∧(most=201→R.2.2.1=false→S.2.2.1=R.2.2.2.1))
theorem go_rel (n m most:Nat): ∀(q:Nat) (s:TS) (v r:Nat) (st:List (List Int)),st.length+q=most→st.length≤200→Rel most (goI n m q s v r st) (goS n m q s v r st):=by
 intro q
 induction q with
 | zero=>intro s v r st h1 h2;exact .inr ⟨rfl,h2,rfl,rfl,rfl,fun e=>by omega⟩
 | succ q ih=>
  intro s v r st h1 h2
  by_cases c:st.length=200
  ·have:=(goS_len n m (q+1) s v r st).2 (by omega)
   refine .inl ⟨?_,by omega⟩
   unfold goI
   rw [if_pos c]
  ·unfold goI goS
   rw [if_neg c]
   split
   ·exact .inr ⟨rfl,by simp;omega,rfl,rfl,rfl,fun _ e=>by cases e⟩
   ·generalize rowB n m _ _=o
    cases o with
    | none=>exact .inr ⟨rfl,by simp;omega,rfl,rfl,rfl,fun _ _=>rfl⟩
    | some r'=>exact ih _ _ _ _ (by simp;omega) (by simp;omega)
section
variable {M:List (List Int)} {Q cv:List Int} {n:Nat} (h:PC M Q cv n)
include h
theorem row0: ∃r,rowB n (2*n+2) (first n (enL M) (fun i=>cv.getD i 0) (fun i=>Q.getD i 0)) (fun i=>cv.getD i 0)=some r:=by
 cases e:rowB n (2*n+2) (first n (enL M) (fun i=>cv.getD i 0) (fun i=>Q.getD i 0)) (fun i=>cv.getD i 0) with
 | none=>
  have h1:=rowB_none e 0 h.pos
  have h2:=(h.cb 0 h.pos).1
  exact absurd h1 (by show ¬ cv.getD 0 0≤0;omega)
 | some r=>exact⟨r,rfl⟩
theorem run_rel {most:Nat}:Rel most (runI n (enL M) (fun i=>cv.getD i 0) (fun i=>Q.getD i 0) most) (runS n (enL M) (fun i=>cv.getD i 0) (fun i=>Q.getD i 0) most):=by
 obtain⟨r,hr⟩:=row0 h
 unfold runI runS
 split
 ·exact .inr ⟨rfl,by simp,rfl,rfl,rfl,fun _ e=>by cases e⟩
 ·rw [hr]
  exact go_rel n _ most most _ _ _ [] (by simp) (by simp)
end
theorem code_eq (M:List (List Int)) (Q cv:List Int) (hQ:Q.length≤1048576) (hcv:cv.length≤1048576):Ev (fun k=>spec_l05Code.f k M Q cv) (lkCode M Q cv):=by
 classical
 have loop: ∀q i,i+q=cv.length→Ev (fun k=>spec_l05Code.l0 k cv (i:Int)) (if(cv.drop i).any badV=true then 2 else 0):=by
  intro q
  induction q with
  | zero=>
   intro i hi
   refine evstep (fun k=>by rw [spec_l05Code.l0]) (evneg (by omega) (evc ?_))
   rw [List.drop_of_length_le (by omega)];rfl
  | succ q ih=>
   intro i hi
   refine evstep (fun k=>by rw [spec_l05Code.l0]) (evpos (by omega) (evpos (by omega) (evsome (Pb.sin_eq _ _ _) ?_)))
   rw [rd_nat,w64 (x:=(i:Int)+1) (by omega) (by omega),List.drop_eq_getElem_cons (show i < cv.length by omega),List.any_cons]
   have e:cv.getD i 0=cv[i]:=by rw [List.getD_eq_getElem?_getD,List.getElem?_eq_getElem (by omega)];rfl
   rw [e]
   unfold badV
   by_cases c:1≤cv[i]∧cv[i]≤20
   ·have d:(!(decide (1≤cv[i]) && decide (cv[i]≤20)))=false:=by simp [c]
    rw [d,Bool.false_or]
    exact evpos (decide_eq_true c) (ih (i+1) (by omega))
   ·have d:(!(decide (1≤cv[i]) && decide (cv[i]≤20)))=true:=by
     rw [Bool.not_eq_true',Bool.and_eq_false_iff]
     by_cases c1:1≤cv[i]
     ·right;exact decide_eq_false (fun c2=>c ⟨c1,c2⟩)
     ·left;exact decide_eq_false c1
    rw [d,Bool.true_or,if_pos rfl]
    exact evneg (by simpa using c) (evc rfl)
 unfold spec_l05Code.f lkCode
 refine evbind (Pb.spec_is M Q hQ (decide (Pb.POK M Q)) (by simp)) ?_
 rw [Pb.impl_is M Q (decide (Pb.POK M Q)) (by simp)]
 by_cases p:Pb.POK M Q
 ·rw [decide_eq_true p,if_pos rfl]
  refine evpos rfl ?_
  unfold cvB
  by_cases c:(cv.length:Int)=(Q.length:Int)
  ·refine evpos c ?_
   have:=loop cv.length 0 (by omega)
   rw [List.drop_zero] at this
   rw [decide_eq_true c,Bool.true_and]
   cases hb:cv.any badV with
   | true=>rw [hb] at this;exact this
   | false=>rw [hb] at this;exact this
  ·refine evneg c (evc ?_)
   rw [decide_eq_false c];rfl
 ·rw [decide_eq_false p,if_neg (by simp)]
  exact evneg (by decide) (evc rfl)
theorem spec_run {M:List (List Int)} {Q cv:List Int} (h:lkCode M Q cv=0) (most:Nat) (hm:most≤100000): ∃S:TS × List (List Int) × Int × Bool,Ev (fun k=>spec_l05Run.f k M Q cv (most:Int)) (encS Q.length (2*Q.length+2) S)∧Rel most (lkR M Q cv most) S:=⟨_,run_eq (lkCode_pc h) most hm,run_rel (lkCode_pc h)⟩
end Go.Proofs.Ytmpkckiifeikkaa.Lsa
end
section
namespace Go.Proofs.Ytmpkckiifeikkaa.Fr
open Go.RowKit Go.Proofs.YtmpkckiifeikkaaW.PrintWords Go.Proofs.YtmpkckiifeikkaaW.PrintMore Go.Proofs.Ytmpkckiifeikkaa.Ma Go.Proofs.Ytmpkckiifeikkaa.Pr
def gc (a b:Int):Int:=(Int.gcd a b:Int)
def Big (x:Int):Prop:= -4611686018427387904≤x∧x≤4611686018427387904
theorem gc_zero (a:Int):gc a 0=if 0≤a then a else -a:=by
 unfold gc
 rw [Int.gcd_zero_right]
 split <;> omega
theorem gc_step (a b:Int):gc a b=gc b (Int.tmod a b):=by
 unfold gc Int.gcd
 rw [Int.natAbs_tmod,Nat.gcd_comm,Nat.gcd_rec,Nat.gcd_comm]
theorem tmod_lt {a b:Int} (h:b≠0):(Int.tmod a b).natAbs < b.natAbs:=by
 rw [Int.natAbs_tmod]
 exact Nat.mod_lt _ (by omega)
theorem abs_eq {a:Int} (h:Big a):mx a (wrap64 (-a))=if 0≤a then a else -a:=by
 unfold Big at h
 rw [w64 (by omega) (by omega)]
 unfold mx
 split <;> split <;> omega
theorem spec_loop: ∀(n:Nat) (a b:Int),b.natAbs≤n→Big a→Big b→Ev (fun k=>spec_l01Gcd.l0 k a b) (gc a b):=by
 intro n
 induction n with
 | zero=>
  intro a b hn ha hb
  obtain rfl:b=0:=by omega
  refine evstep (fun k=>by rw [spec_l01Gcd.l0]) (evpos rfl (evc ?_))
  rw [abs_eq ha,gc_zero]
 | succ n ih=>
  intro a b hn ha hb
  by_cases e:b=0
  ·subst e
   refine evstep (fun k=>by rw [spec_l01Gcd.l0]) (evpos rfl (evc ?_))
   rw [abs_eq ha,gc_zero]
  ·refine evstep (fun k=>by rw [spec_l01Gcd.l0]) (evneg e ?_)
   have h:=tmod_lt (a:=a) e
   rw [gc_step]
   exact ih b (Int.tmod a b) (by omega) hb (by unfold Big at*;omega)
theorem spec_gcd (a b:Int) (ha:Big a) (hb:Big b):Ev (fun k=>spec_l01Gcd.f k a b) (gc a b):=spec_loop b.natAbs a b (Nat.le_refl _) ha hb
end Go.Proofs.Ytmpkckiifeikkaa.Fr
end
section
namespace Go.Proofs.Ytmpkckiifeikkaa.Fr
open Go.RowKit Go.Proofs.YtmpkckiifeikkaaW.PrintWords Go.Proofs.YtmpkckiifeikkaaW.PrintMore Go.Proofs.Ytmpkckiifeikkaa.Ma Go.Proofs.Ytmpkckiifeikkaa.Pr
theorem impl_loop: ∀(n:Nat) (a b:Int),b.natAbs≤n→0≤a→0≤b→Ev (fun k=>impl_common.l0 k a b) (gc a b):=by
 intro n
 induction n with
 | zero=>
  intro a b hn ha hb
  obtain rfl:b=0:=by omega
  refine evstep (fun k=>by rw [impl_common.l0]) (evpos rfl (evc ?_))
  rw [gc_zero,if_pos ha]
 | succ n ih=>
  intro a b hn ha hb
  by_cases e:b=0
  ·subst e
   refine evstep (fun k=>by rw [impl_common.l0]) (evpos rfl (evc ?_))
   rw [gc_zero,if_pos ha]
  ·refine evstep (fun k=>by rw [impl_common.l0]) (evneg e ?_)
   have h:=tmod_lt (a:=a) e
   rw [gc_step]
   exact ih b (Int.tmod a b) (by omega) hb (Int.tmod_nonneg _ ha)
theorem gc_abs (a b:Int):gc (if 0≤a then a else -a) (if 0≤b then b else -b)=gc a b:=by
 unfold gc
 split <;> split <;> simp
theorem impl_gcd (a b:Int) (ha:Big a) (hb:Big b):Ev (fun k=>impl_common.f k a b) (gc a b):=by
 unfold impl_common.f impl_size.f
 refine evsome rfl (evsome rfl ?_)
 rw [abs_eq ha,abs_eq hb, ← gc_abs]
 exact impl_loop _ _ _ (Nat.le_refl _) (by split <;> omega) (by split <;> omega)
def isF (m a b:Int):Bool:=(decide (1≤b) && decide (b≤m)) && ((decide (-m≤a) && decide (a≤m)) && (gc a b==1))
theorem sin_b (n a b:Int):spec_l01In.f n a b=some (decide (a≤n) && decide (n≤b)):=by
 unfold spec_l01In.f
 by_cases h:a≤n
 ·rw [if_pos (by omega)];simp [h]
 ·rw [if_neg (by omega)];simp [h]
theorem iin_b (n a b:Int):impl_within.f n a b=some (decide (a≤n) && decide (n≤b)):=by
 unfold impl_within.f
 by_cases h:a≤n
 ·rw [if_pos (by omega)];simp [h]
 ·rw [if_neg (by omega)];simp [h]
theorem spec_isF (m a b:Int) (h0:0≤m) (h1:m≤4611686018427387904):Ev (fun k=>spec_l01IsFrac.f k a b m) (isF m a b):=by
 unfold spec_l01IsFrac.f isF
 refine evsome (sin_b _ _ _) ?_
 cases c1:(decide (1≤b) && decide (b≤m)) with
 | false=>exact evneg (by simp) (evc (by simp))
 | true=>
  refine evpos rfl (evsome (sin_b _ _ _) ?_)
  rw [w64 (by omega) (by omega)]
  cases c2:(decide (-m≤a) && decide (a≤m)) with
  | false=>exact evneg (by simp) (evc (by simp))
  | true=>
   simp only [Bool.and_eq_true,decide_eq_true_eq] at c1 c2
   refine evpos rfl (evbind (spec_gcd a b (by unfold Big;omega) (by unfold Big;omega)) (evc ?_))
   simp
theorem impl_isF (a b:Int):Ev (fun k=>impl_IsFrac.f k a b) (isF 1000000000 a b):=by
 unfold impl_IsFrac.f isF
 refine evsome (iin_b _ _ _) ?_
 cases c1:(decide (1≤b) && decide (b≤1000000000)) with
 | false=>exact evneg (by simp) (evc (by simp))
 | true=>
  refine evpos rfl ?_
  unfold impl_upTo.f
  rw [w64 (by omega) (by omega),iin_b]
  refine evsome rfl ?_
  cases c2:(decide (-1000000000≤a) && decide (a≤1000000000)) with
  | false=>exact evneg (by simp) (evc (by simp))
  | true=>
   simp only [Bool.and_eq_true,decide_eq_true_eq] at c1 c2
   refine evpos rfl (evbind (impl_gcd a b (by unfold Big;omega) (by unfold Big;omega)) (evc ?_))
   simp
end Go.Proofs.Ytmpkckiifeikkaa.Fr
end
section
namespace Go.Proofs.Ytmpkckiifeikkaa.Fr
open Go.RowKit Go.Proofs.YtmpkckiifeikkaaW.PrintWords Go.Proofs.YtmpkckiifeikkaaW.PrintMore Go.Proofs.Ytmpkckiifeikkaa.Ma Go.Proofs.Ytmpkckiifeikkaa.Pr
def fV (a d:Int):Int × Int:=(wrap64 (Int.tdiv a (gc a d)),wrap64 (Int.tdiv d (gc a d)))
def toldV (x:Int × Int):Int × Int × Int:=if isF 1000000000 x.1 x.2=true then(x.1,x.2,0) else(0,0,3)
def redV (a d:Int):Int × Int × Int:=toldV (fV a d)
theorem gc_pos {a d:Int} (hd:0 < d):0 < gc a d:=by
 unfold gc
 have:Int.gcd a d≠0:=by rw [Ne,Int.gcd_eq_zero_iff];intro h;omega
 omega
theorem red_eq (a d:Int) (ha:Big a) (hb:Big d) (hd:0 < d):Ev (fun k=>impl_reduced.f k a d) (redV a d):=by
 have hg:=gc_pos (a:=a) hd
 unfold impl_reduced.f redV toldV fV
 refine evbind (impl_gcd a d ha hb) (evneg (by omega) (evneg (by omega) (evbind (impl_isF _ _) ?_)))
 by_cases c:isF 1000000000 (wrap64 (Int.tdiv a (gc a d))) (wrap64 (Int.tdiv d (gc a d)))=true
 ·exact evpos c (evc (congrArg some (if_pos c).symm))
 ·exact evneg c (evc (congrArg some (if_neg c).symm))
theorem sfrac_eq (a d:Int) (ha:Big a) (hb:Big d) (hd:0 < d):Ev (fun k=>spec_l01Frac.f k a d) (fV a d):=by
 have hg:=gc_pos (a:=a) hd
 unfold spec_l01Frac.f fV
 exact evneg (by omega) (evbind (spec_gcd a d ha hb) (evneg (by omega) (evc rfl)))
theorem told_eq (x y:Int):Ev (fun k=>spec_l01Told.f k x y) (toldV (x,y)):=by
 unfold spec_l01Told.f toldV
 refine evbind (spec_isF 1000000000 x y (by decide) (by decide)) ?_
 by_cases c:isF 1000000000 x y=true
 ·exact evpos c (evc (congrArg some (if_pos c).symm))
 ·exact evneg c (evc (congrArg some (if_neg c).symm))
theorem redV_zero {d:Int} (hd:0 < d) (h1:d≤4611686018427387904):redV 0 d=(0,1,0):=by
 have e:gc 0 d=d:=by unfold gc;rw [Int.gcd_zero_left];omega
 unfold redV fV
 rw [e,Int.zero_tdiv,Int.tdiv_self (by omega),w64 (x:=0) (by omega) (by omega),w64 (x:=1) (by omega) (by omega)]
 unfold toldV
 exact if_pos (by decide)
end Go.Proofs.Ytmpkckiifeikkaa.Fr
end
section
namespace Go.Proofs.Ytmpkckiifeikkaa.Lsa
open Go.RowKit Go.Proofs.YtmpkckiifeikkaaW.PrintWords Go.Proofs.YtmpkckiifeikkaaW.PrintMore Go.Proofs.Ytmpkckiifeikkaa.Ma Go.Proofs.Ytmpkckiifeikkaa.Pr Go.Proofs.Ytmpkckiifeikkaa.Dt Go.Proofs.Ytmpkckiifeikkaa.Lk Go.Proofs.Ytmpkckiifeikkaa.Lt Go.Proofs.Ytmpkckiifeikkaa.Lq Go.Proofs.Ytmpkckiifeikkaa.Lp Go.Proofs.Ytmpkckiifeikkaa.Fr
def outL (f:Nat→Int × Int × Int):Nat→Nat→List S93→List S93 × Int
 | 0,_,acc=>(acc,0)
 | q+1,x,acc=>if(f x).2.2=0 then outL f q (x+1) (acc++ [⟨(f x).1,(f x).2.1⟩]) else([],(f x).2.2)
theorem all_red (l:List Int) (d:Int) (hl:l.length≤1000) (hd:0 < d) (hb:Big d) (hx: ∀i,i < l.length→Big (l.getD i 0)):Ev (fun k=>impl_allReduced.f k l d) (outL (fun x=>redV (l.getD x 0) d) l.length 0 []):=by
 have loop: ∀q x acc,x+q=l.length→acc.length≤x→Ev (fun k=>impl_allReduced.l0 k d acc l (l.length:Int) (x:Int)) (outL (fun x=>redV (l.getD x 0) d) q x acc):=by
  intro q
  induction q with
  | zero=>
   intro x acc h1 h2
   refine evstep (fun k=>by rw [impl_allReduced.l0]) ?_
   exact evneg (by omega) (evc rfl)
  | succ q ih=>
   intro x acc h1 h2
   refine evstep (fun k=>by rw [impl_allReduced.l0]) (evpos (by omega) (evpos (by omega) (evpos (by omega) ?_)))
   rw [rd_nat,w64 (x:=(x:Int)+1) (by omega) (by omega)]
   refine evbind (red_eq _ _ (hx x (by omega)) hb hd) ?_
   unfold outL
   by_cases c:(redV (l.getD x 0) d).2.2=0
   ·rw [if_pos c]
    exact evpos c (evpos (by omega) (ih (x+1) _ (by omega) (by simp;omega)))
   ·rw [if_neg c]
    exact evneg c (evc rfl)
 exact loop l.length 0 [] (by omega) (Nat.le_refl _)
end Go.Proofs.Ytmpkckiifeikkaa.Lsa
end
section
namespace Go.Proofs.Ytmpkckiifeikkaa.Lhd
open Go.Proofs.Ytmpkckiifeikkaa.Dt
def hi (n:Nat) (w:Nat→Int):Nat→Int:=fun j=>w (2 ^ n+j)
def nx (v:Nat→Int):Nat→Int:=fun j=>v (j+1)
def eps:Nat→(Nat→Int)→(Nat→Int)→Nat→Int
 | 0,_,_=>fun _=>0
 | n+1,v,w=>fun i=>if i < 2 ^ n then eps n (nx v) w i else v 0*w (i - 2 ^ n) - eps n (nx v) (hi n w) (i - 2 ^ n)
def iot:Nat→(Nat→Int)→(Nat→Int)→Nat→Int
 | 0,_,_=>fun _=>0
 | n+1,v,w=>fun i=>if i < 2 ^ n then iot n (nx v) w i+v 0*w (2 ^ n+i) else - iot n (nx v) (hi n w) (i - 2 ^ n)
def ip (n:Nat) (w z:Nat→Int):Int:=sm (2 ^ n) (fun i=>w i*z i)
def qq (n:Nat) (v:Nat→Int):Int:=sm n (fun i=>v i*v i)
theorem eps_lo {n i:Nat} (v w:Nat→Int) (h:i < 2 ^ n):eps (n+1) v w i=eps n (nx v) w i:=if_pos h
theorem eps_hi (n i:Nat) (v w:Nat→Int):eps (n+1) v w (2 ^ n+i)=v 0*w i - eps n (nx v) (hi n w) i:=by
 show (if _ then _ else _)=_
 rw [if_neg (by omega),Nat.add_sub_cancel_left]
theorem iot_lo {n i:Nat} (v w:Nat→Int) (h:i < 2 ^ n):iot (n+1) v w i=iot n (nx v) w i+v 0*w (2 ^ n+i):=if_pos h
theorem iot_hi (n i:Nat) (v w:Nat→Int):iot (n+1) v w (2 ^ n+i)= - iot n (nx v) (hi n w) i:=by
 show (if _ then _ else _)=_
 rw [if_neg (by omega),Nat.add_sub_cancel_left]
theorem ip_two (n:Nat) (w z:Nat→Int):ip (n+1) w z=ip n w z+ip n (hi n w) (hi n z):=by
 unfold ip;rw [Nat.pow_succ,Nat.mul_two,sm_split];rfl
theorem ip_congr {n:Nat} {w w' z z':Nat→Int} (h: ∀i,i < 2 ^ n→w i=w' i∧z i=z' i):ip n w z=ip n w' z':=sm_congr (fun i hi=>by rw [(h i hi).1,(h i hi).2])
theorem ip_comm (n:Nat) (w z:Nat→Int):ip n w z=ip n z w:=sm_congr (fun _ _=>Int.mul_comm _ _)
theorem ip_lin (n:Nat) (c d:Int) (a b z:Nat→Int):ip n (fun i=>c*a i+d*b i) z=c*ip n a z+d*ip n b z:=by
 unfold ip
 rw [← sm_mul, ← sm_mul, ← sm_add]
 exact sm_congr (fun i _=>by grind)
theorem ip_eps (n:Nat) (v w z:Nat→Int):ip (n+1) (eps (n+1) v w) z=ip n (eps n (nx v) w) z+(v 0*ip n w (hi n z) - ip n (eps n (nx v) (hi n w)) (hi n z)):=by
 rw [ip_two,ip_congr (w:=eps (n+1) v w) (w':=eps n (nx v) w) (z:=z) (z':=z) (fun i hi=>⟨eps_lo v w hi,rfl⟩),
  ip_congr (w:=hi n (eps (n+1) v w)) (w':=fun i=>v 0*w i+ -1*eps n (nx v) (hi n w) i) (z:=hi n z) (z':=hi n z) (fun i _=>⟨by show eps (n+1) v w (2 ^ n+i)=_;rw [eps_hi];omega,rfl⟩),ip_lin]
 omega
theorem ip_iot (n:Nat) (v w z:Nat→Int):ip (n+1) (iot (n+1) v w) z=ip n (iot n (nx v) w) z+v 0*ip n (hi n w) z - ip n (iot n (nx v) (hi n w)) (hi n z):=by
 rw [ip_two,ip_congr (w:=iot (n+1) v w) (w':=fun i=>1*iot n (nx v) w i+v 0*hi n w i) (z:=z) (z':=z) (fun i hi=>⟨by rw [iot_lo v w hi,Int.one_mul];rfl,rfl⟩),
  ip_congr (w:=hi n (iot (n+1) v w)) (w':=fun i=>0*w i+ -1*iot n (nx v) (hi n w) i) (z:=hi n z) (z':=hi n z) (fun i _=>⟨by show iot (n+1) v w (2 ^ n+i)=_;rw [iot_hi];omega,rfl⟩),ip_lin,ip_lin]
 omega
theorem adj (n:Nat): ∀(v w z:Nat→Int),ip n (eps n v w) z=ip n (iot n v z) w:=by
 induction n with
 | zero=>intro v w z;simp [ip,eps,iot,sm]
 | succ n ih=>
  intro v w z
  rw [ip_eps,ip_iot,ih (nx v) w z,ih (nx v) (hi n w) (hi n z),ip_comm n w (hi n z)]
  omega
theorem norms (n:Nat): ∀(v w:Nat→Int),ip n (eps n v w) (eps n v w)+ip n (iot n v w) (iot n v w)=qq n v*ip n w w:=by
 induction n with
 | zero=>intro v w;simp [ip,eps,iot,sm,qq]
 | succ n ih=>
  intro v w
  have q1:qq (n+1) v=v 0*v 0+qq n (nx v):=by unfold qq;rw [sm_first];rfl
  have h1:=ih (nx v) w
  have h2:=ih (nx v) (hi n w)
  have e1:ip n (eps n (nx v) w) (eps (n+1) v w)=ip n (eps n (nx v) w) (eps n (nx v) w):=ip_congr (fun _ hi=>⟨rfl,eps_lo v w hi⟩)
  have e2: ∀z,ip n z (hi n (eps (n+1) v w))=v 0*ip n w z - ip n (eps n (nx v) (hi n w)) z:=fun z=>by
   rw [ip_comm,ip_congr (w:=hi n (eps (n+1) v w)) (w':=fun i=>v 0*w i+ -1*eps n (nx v) (hi n w) i) (z:=z) (z':=z) (fun i _=>⟨by show eps (n+1) v w (2 ^ n+i)=_;rw [eps_hi];omega,rfl⟩),ip_lin]
   omega
  have f1: ∀z,ip n z (iot (n+1) v w)=ip n (iot n (nx v) w) z+v 0*ip n (hi n w) z:=fun z=>by
   rw [ip_comm,ip_congr (w:=iot (n+1) v w) (w':=fun i=>1*iot n (nx v) w i+v 0*hi n w i) (z:=z) (z':=z) (fun i hi=>⟨by rw [iot_lo v w hi,Int.one_mul];rfl,rfl⟩),ip_lin]
   omega
  have f2: ∀z,ip n z (hi n (iot (n+1) v w))= - ip n (iot n (nx v) (hi n w)) z:=fun z=>by
   rw [ip_comm,ip_congr (w:=hi n (iot (n+1) v w)) (w':=fun i=>0*w i+ -1*iot n (nx v) (hi n w) i) (z:=z) (z':=z) (fun i _=>⟨by show iot (n+1) v w (2 ^ n+i)=_;rw [iot_hi];omega,rfl⟩),ip_lin]
   omega
  have a1:ip n (eps n (nx v) (hi n w)) w=ip n (iot n (nx v) w) (hi n w):=adj n _ _ _
  rw [ip_eps,ip_iot,e1,e2,e2,f1,f1,f2,ip_two,q1]
  have c1:=ip_comm n w (eps n (nx v) (hi n w))
  have c2:=ip_comm n (hi n w) (iot n (nx v) w)
  grind
theorem sq_nn (x:Int):0≤x*x:=by
 rcases Int.le_total 0 x with h | h
 ·exact Int.mul_nonneg h h
 ·exact Int.mul_nonneg_of_nonpos_of_nonpos h h
theorem sm_nn {m:Nat} {f:Nat→Int} (h: ∀i,0≤f i):0≤sm m f∧ ∀i,i < m→f i≤sm m f:=by
 induction m with
 | zero=>exact⟨Int.le_refl _,fun i hi=>absurd hi (by omega)⟩
 | succ m ih=>
  have e:sm (m+1) f=sm m f+f m:=rfl
  have h2:=h m
  refine⟨by omega,fun i hi=>?_⟩
  by_cases c:i=m
  ·subst c;omega
  ·have:=ih.2 i (by omega)
   omega
def wd (n:Nat):Nat→(Nat→Nat→Int)→Nat→Int
 | 0,_=>fun i=>if i=0 then 1 else 0
 | m+1,C=>eps n (C 0) (wd n m (fun j=>C (j+1)))
def pr (f:Nat→Int):Nat→Int
 | 0=>1
 | m+1=>f 0*pr (fun j=>f (j+1)) m
theorem eps_congr {n:Nat}: ∀ {v w w':Nat→Int},(∀i,i < 2 ^ n→w i=w' i)→ ∀i,i < 2 ^ n→eps n v w i=eps n v w' i:=by
 induction n with
 | zero=>intro v w w' _ i _;rfl
 | succ n ih=>
  intro v w w' h i hi
  rw [Nat.pow_succ,Nat.mul_two] at hi h
  by_cases c:i < 2 ^ n
  ·rw [eps_lo v w c,eps_lo v w' c]
   exact ih (fun j hj=>h j (by omega)) i c
  ·obtain⟨j,rfl⟩: ∃j,i=2 ^ n+j:=⟨i - 2 ^ n,by omega⟩
   rw [eps_hi,eps_hi,h j (by omega),ih (w:=Lhd.hi n w) (w':=Lhd.hi n w') (fun k hk=>h (2 ^ n+k) (by omega)) j (by omega)]
theorem eps_sum {n m:Nat} (c:Nat→Int): ∀(v:Nat→Int) (w:Nat→Nat→Int) (i:Nat),eps n v (fun i=>sm m (fun k=>c k*w k i)) i=sm m (fun k=>c k*eps n v (w k) i):=by
 induction n with
 | zero=>intro v w i;exact(sm_none (fun k _=>Int.mul_zero _)).symm
 | succ n ih=>
  intro v w i
  by_cases d:i < 2 ^ n
  ·rw [eps_lo _ _ d,ih]
   exact sm_congr (fun k _=>by rw [eps_lo _ _ d])
  ·obtain⟨j,rfl⟩: ∃j,i=2 ^ n+j:=⟨i - 2 ^ n,by omega⟩
   rw [eps_hi]
   have e:=ih (nx v) (fun k=>hi n (w k)) j
   have e2:eps n (nx v) (hi n (fun i=>sm m (fun k=>c k*w k i))) j=sm m (fun k=>c k*eps n (nx v) (hi n (w k)) j):=e
   rw [e2,sm_congr (f:=fun k=>c k*eps (n+1) v (w k) (2 ^ n+j)) (g:=fun k=>v 0*(c k*w k j)+ -1*(c k*eps n (nx v) (hi n (w k)) j)) (fun k _=>by rw [eps_hi];grind),sm_add,sm_mul,sm_mul]
   omega
theorem wd_lo {n m:Nat}: ∀ {C:Nat→Nat→Int} {i:Nat},i < 2 ^ n→wd (n+1) m C i=wd n m (fun j=>nx (C j)) i:=by
 induction m with
 | zero=>intro C i _;rfl
 | succ m ih=>
  intro C i h
  show eps (n+1) (C 0) (wd (n+1) m (fun j=>C (j+1))) i=eps n (nx (C 0)) (wd n m (fun j=>nx (C (j+1)))) i
  rw [eps_lo _ _ h]
  exact eps_congr (fun j hj=>ih hj) i h
theorem wd_hi {n m:Nat}: ∀ {C:Nat→Nat→Int} {i:Nat},i < 2 ^ n→wd (n+1) m C (2 ^ n+i)=sm m (fun k=>(sg k*C k 0)*wd n (m - 1) (fun j=>nx (C (up k j))) i):=by
 induction m with
 | zero=>
  intro C i h
  show (if 2 ^ n+i=0 then(1:Int) else 0)=0
  rw [if_neg (by omega)]
 | succ m ih=>
  intro C i h
  show eps (n+1) (C 0) (wd (n+1) m (fun j=>C (j+1))) (2 ^ n+i)=_
  rw [eps_hi,wd_lo h,sm_first]
  rw [eps_congr (w:=hi n (wd (n+1) m (fun j=>C (j+1)))) (w':=fun i=>sm m (fun k=>(sg k*C (k+1) 0)*wd n (m - 1) (fun j=>nx (C (up k j+1))) i)) (fun j hj=>ih hj) i h,eps_sum]
  have e0:(fun j=>nx (C (up 0 j)))=fun j=>nx (C (j+1)):=by
   funext j;unfold up;rw [if_neg (by omega)]
  have es:sm m (fun k=>sg (k+1)*C (k+1) 0*wd n (m+1 - 1) (fun j=>nx (C (up (k+1) j))) i)=sm m (fun k=> -1*(sg k*C (k+1) 0*eps n (nx (C 0)) (wd n (m - 1) (fun j=>nx (C (up k j+1)))) i)):=by
   refine sm_congr (fun k hk=>?_)
   obtain⟨p,rfl⟩: ∃p,m=p+1:=⟨m - 1,by omega⟩
   have e1:wd n (p+1+1 - 1) (fun j=>nx (C (up (k+1) j)))=eps n (nx (C 0)) (wd n (p+1 - 1) (fun j=>nx (C (up k j+1)))):=by
    show eps n (nx (C (up (k+1) 0))) (wd n p (fun j=>nx (C (up (k+1) (j+1)))))=eps n (nx (C 0)) (wd n p (fun j=>nx (C (up k j+1))))
    have:up (k+1) 0=0:=by unfold up;rw [if_pos (by omega)]
    have h2: ∀j,up (k+1) (j+1)=up k j+1:=fun j=>by unfold up;split <;> split <;> omega
    rw [this]
    simp only [h2]
   rw [e1,sg_succ]
   grind
  rw [es,sm_mul,e0]
  have:sg 0=1:=rfl
  rw [this]
  show C 0 0*wd n m (fun j=>nx (C (j+1))) i - _=1*C 0 0*wd n m (fun j=>nx (C (j+1))) i+_
  rw [Int.one_mul]
  omega
theorem top_det: ∀(n:Nat) (C:Nat→Nat→Int),wd n n C (2 ^ n - 1)=det n (fun i j=>C j i):=by
 intro n
 induction n with
 | zero=>intro C;rfl
 | succ n ih=>
  intro C
  have h:=Nat.pow_pos (n:=n) (show 0 < 2 by omega)
  have e:2 ^ (n+1) - 1=2 ^ n+(2 ^ n - 1):=by rw [Nat.pow_succ];omega
  rw [e,wd_hi (by omega),det_succ]
  refine sm_congr (fun k _=>?_)
  rw [show n+1 - 1=n from rfl,ih,Int.mul_assoc]
  rfl
theorem pr_nn {f:Nat→Int} (h: ∀i,0≤f i): ∀m,0≤pr f m:=by
 intro m
 induction m generalizing f with
 | zero=>exact(by decide:(0:Int)≤1)
 | succ m ih=>exact Int.mul_nonneg (h 0) (ih (fun i=>h (i+1)))
theorem wd_norm (n:Nat): ∀(m:Nat) (C:Nat→Nat→Int),ip n (wd n m C) (wd n m C)≤pr (fun j=>qq n (C j)) m:=by
 intro m
 induction m with
 | zero=>
  intro C
  have h:=Nat.pow_pos (n:=n) (show 0 < 2 by omega)
  show sm (2 ^ n) (fun i=>(if i=0 then(1:Int) else 0)*(if i=0 then 1 else 0))≤1
  rw [sm_one (k:=0) h (fun i _ hi=>by rw [if_neg hi];rfl)]
  decide
 | succ m ih=>
  intro C
  have h1:=norms n (C 0) (wd n m (fun j=>C (j+1)))
  have h2:0≤ip n (iot n (C 0) (wd n m (fun j=>C (j+1)))) (iot n (C 0) (wd n m (fun j=>C (j+1)))):=(sm_nn (fun i=>sq_nn _)).1
  have h3:0≤qq n (C 0):=(sm_nn (fun i=>sq_nn _)).1
  have h4:=Int.mul_le_mul_of_nonneg_left (ih (fun j=>C (j+1))) h3
  show ip n (eps n (C 0) (wd n m (fun j=>C (j+1)))) (eps n (C 0) (wd n m (fun j=>C (j+1))))≤qq n (C 0)*pr (fun j=>qq n (C (j+1))) m
  omega
theorem hadamard (n:Nat) (A:Mat):det n A*det n A≤pr (fun j=>qq n (fun i=>A i j)) n:=by
 have h:=Nat.pow_pos (n:=n) (show 0 < 2 by omega)
 have e:=top_det n (fun j i=>A i j)
 have h1:wd n n (fun j i=>A i j) (2 ^ n - 1)*wd n n (fun j i=>A i j) (2 ^ n - 1)≤ip n (wd n n (fun j i=>A i j)) (wd n n (fun j i=>A i j)):=(sm_nn (f:=fun i=>wd n n (fun j i=>A i j) i*wd n n (fun j i=>A i j) i) (fun i=>sq_nn _)).2 _ (by omega)
 rw [e] at h1
 exact Int.le_trans h1 (wd_norm n n _)
end Go.Proofs.Ytmpkckiifeikkaa.Lhd
end
section
namespace Go.Proofs.Ytmpkckiifeikkaa.Lhd
open Go.RowKit Go.Proofs.YtmpkckiifeikkaaW.PrintWords Go.Proofs.Ytmpkckiifeikkaa.Ma Go.Proofs.Ytmpkckiifeikkaa.Pr Go.Proofs.Ytmpkckiifeikkaa.Dt Go.Proofs.Ytmpkckiifeikkaa.Lk Go.Proofs.Ytmpkckiifeikkaa.Lt Go.Proofs.Ytmpkckiifeikkaa.Fr
theorem pr_le: ∀ {m:Nat} {f g:Nat→Int},(∀j,0≤f j)→(∀j,j < m→f j≤g j)→pr f m≤pr g m:=by
 intro m
 induction m with
 | zero=>intro f g _ _;exact Int.le_refl _
 | succ m ih=>
  intro f g h0 h
  have h1:=h 0 (by omega)
  exact Int.mul_le_mul h1 (ih (fun j=>h0 (j+1)) (fun j hj=>h (j+1) (by omega))) (pr_nn (fun j=>h0 (j+1)) m) (Int.le_trans (h0 0) h1)
theorem pr_top (n i:Nat) (hn:n≤5):pr (fun j=>if j=i then 50000 else 2000) n≤800000000000000000:=by
 have h: ∀n,n < 6→ ∀i,i < 6→pr (fun j=>if j=i then 50000 else 2000) n≤800000000000000000:=by decide
 by_cases c:i < 6
 ·exact h n (by omega) i c
 ·refine Int.le_trans (pr_le (g:=fun j=>if j=5 then 50000 else 2000) (fun j=>by split <;> decide) (fun j hj=>?_)) (h n (by omega) 5 (by omega))
  show (if j=i then(50000:Int) else 2000)≤if j=5 then 50000 else 2000
  rw [if_neg (by omega)]
  split <;> decide
theorem qq_le {n k:Nat} (hn:n≤5) {v:Nat→Int} (h: ∀i,i < n→(v i).natAbs≤k):qq n v≤5*((k:Int)*k):=by
 have sqk: ∀i,i < n→v i*v i≤(k:Int)*k:=fun i hi=>by
  have h1:=h i hi
  have h2:(v i).natAbs*(v i).natAbs≤k*k:=Nat.mul_le_mul h1 h1
  have h3:v i*v i=(((v i).natAbs*(v i).natAbs:Nat):Int):=Int.natAbs_mul_self.symm
  rw [h3]
  exact_mod_cast h2
 have hk:0≤(k:Int)*k:=sq_nn _
 have: ∀m,m≤n→qq m v≤(m:Int)*((k:Int)*k):=by
  intro m
  induction m with
  | zero=>intro _;show (0:Int)≤_;rw [Int.natCast_zero,Int.zero_mul];exact Int.le_refl _
  | succ m ih=>
   intro hm
   have h1:=ih (by omega)
   have h2:=sqk m (by omega)
   have e:qq (m+1) v=qq m v+v m*v m:=rfl
   rw [e,Int.natCast_succ,Int.add_mul,Int.one_mul]
   omega
 have h1:=this n (Nat.le_refl _)
 exact Int.le_trans h1 (Int.mul_le_mul_of_nonneg_right (by omega) hk)
theorem root {x:Int} (h:x*x≤800000000000000000): -894427191≤x∧x≤894427191:=by
 constructor
 ·apply Classical.byContradiction
  intro c
  have h2:894427192*894427192≤(-x)*(-x):=Int.mul_le_mul (by omega) (by omega) (by omega) (by omega)
  rw [Int.neg_mul_neg] at h2
  omega
 ·apply Classical.byContradiction
  intro c
  have h2:894427192*894427192≤x*x:=Int.mul_le_mul (by omega) (by omega) (by omega) (by omega)
  omega
theorem cd_root {n m:Nat} (hn:n≤5) {A:Mat} (hA:Small n m A) {bs:Nat→Nat} (hb: ∀j,j < n→bs j+1 < m) {i c:Nat} (hc:c < m): -894427191≤cd n A bs i c∧cd n A bs i c≤894427191:=by
 apply root
 refine Int.le_trans (hadamard n _) (Int.le_trans (pr_le (g:=fun j=>if j=i then 50000 else 2000) (fun j=>(sm_nn (fun _=>sq_nn _)).1) (fun j hj=>?_)) (pr_top n i hn))
 show qq n (fun k=>cset i (fun k=>A k c) (bas A bs) k j)≤if j=i then 50000 else 2000
 by_cases e:j=i
 ·rw [if_pos e]
  refine qq_le (k:=100) hn (fun a ha=>?_)
  show (cset i (fun k=>A k c) (bas A bs) a j).natAbs≤100
  unfold cset
  rw [if_pos e]
  show (A a c).natAbs≤100
  have:=hA a c ha hc
  split at this <;> omega
 ·rw [if_neg e]
  refine qq_le (k:=20) hn (fun a ha=>?_)
  show (cset i (fun k=>A k c) (bas A bs) a j).natAbs≤20
  unfold cset
  rw [if_neg e]
  have:=hA a (bs j) ha (by have:=hb j hj;omega)
  rw [if_neg (by have:=hb j hj;omega)] at this
  exact this
section
variable {n m:Nat} (hn:n≤5) {A:Mat} (hA:Small n m A) {s:TS} (h:Ok n m A s)
include hn hA h
theorem ok_root {i c:Nat} (hi:i < n) (hc:c < m): -894427191≤s.T i c∧s.T i c≤894427191:=by
 obtain⟨q,hq,_,hT⟩:=h.tab.num
 have:=cd_root hn hA h.lt (i:=i) hc
 rw [hT i c hi hc]
 rcases hq with rfl | rfl <;> omega
theorem ok_den:0 < s.den∧s.den≤894427191:=by
 obtain⟨q,hq,hd,_⟩:=h.tab.num
 refine⟨h.tab.pos,?_⟩
 have: -894427191≤det n (bas A (fun j=>(s.bs.getD j 0).toNat))∧det n (bas A (fun j=>(s.bs.getD j 0).toNat))≤894427191:=by
  apply root
  refine Int.le_trans (hadamard n _) (Int.le_trans (pr_le (g:=fun j=>if j=n then 50000 else 2000) (fun j=>(sm_nn (fun _=>sq_nn _)).1) (fun j hj=>?_)) (pr_top n n hn))
  show qq n (fun k=>A k (s.bs.getD j 0).toNat)≤if j=n then 50000 else 2000
  rw [if_neg (by omega)]
  refine qq_le (k:=20) hn (fun a ha=>?_)
  have:=hA a (s.bs.getD j 0).toNat ha (by have:=h.lt j hj;omega)
  rw [if_neg (by have:=h.lt j hj;omega)] at this
  exact this
 rcases hq with rfl | rfl <;> omega
end
theorem redV_ok {a d:Int} (ha: -894427191≤a∧a≤894427191) (hd:0 < d∧d≤894427191):(redV a d).2.2=0:=by
 have hg:=gc_pos (a:=a) hd.1
 have e1:gc a d ∣ a:=by unfold gc;exact Int.gcd_dvd_left ..
 have e2:gc a d ∣ d:=by unfold gc;exact Int.gcd_dvd_right ..
 obtain⟨x,hx⟩:=e1
 obtain⟨y,hy⟩:=e2
 have hgd:gc a d=(Int.gcd a d:Int):=rfl
 have big: ∀g z:Int,0 < g→(z≤g*z∧0≤z)∨(g*z≤z∧z < 0):=fun g z h=>by
  rcases Int.lt_or_le z 0 with c | c
  ·have:=Int.mul_le_mul_of_nonpos_right (show 1≤g by omega) (show z≤0 by omega)
   rw [Int.one_mul] at this
   exact .inr ⟨this,c⟩
  ·have:=Int.mul_le_mul_of_nonneg_right (show 1≤g by omega) c
   rw [Int.one_mul] at this
   exact .inl ⟨this,c⟩
 unfold redV fV
 generalize gc a d=g at hg hx hy hgd
 have t1:Int.tdiv a g=x:=by rw [hx,Int.mul_tdiv_cancel_left _ (by omega)]
 have t2:Int.tdiv d g=y:=by rw [hy,Int.mul_tdiv_cancel_left _ (by omega)]
 have hy0:0 < y:=by
  apply Classical.byContradiction
  intro c
  have:=Int.mul_nonpos_of_nonneg_of_nonpos (show 0≤g by omega) (show y≤0 by omega)
  omega
 have by1:=big g y hg
 have bx:=big g x hg
 have hc:gc x y=1:=by
  rw [hx,hy,Int.gcd_mul_left,Int.natCast_mul,Int.natAbs_of_nonneg (by omega)] at hgd
  have h2:g*((Int.gcd x y:Int))=g*1:=by omega
  exact Int.eq_of_mul_eq_mul_left (by omega) h2
 rw [t1,t2,w64 (x:=x) (by omega) (by omega),w64 (x:=y) (by omega) (by omega)]
 unfold toldV
 have:isF 1000000000 (x,y).1 (x,y).2=true:=by
  unfold isF
  simp only [Bool.and_eq_true,decide_eq_true_eq,beq_iff_eq]
  exact⟨⟨by omega,by omega⟩,⟨by omega,by omega⟩,hc⟩
 rw [if_pos this]
end Go.Proofs.Ytmpkckiifeikkaa.Lhd
end
section
namespace Go.Proofs.Ytmpkckiifeikkaa.Lcy
open Go.RowKit Go.Proofs.YtmpkckiifeikkaaW.PrintWords Go.Proofs.YtmpkckiifeikkaaW.PrintMore Go.Proofs.Ytmpkckiifeikkaa.Ma Go.Proofs.Ytmpkckiifeikkaa.Dt Go.Proofs.Ytmpkckiifeikkaa.Bz Go.Proofs.Ytmpkckiifeikkaa.Lk Go.Proofs.Ytmpkckiifeikkaa.Lt
section
variable {n m:Nat} {A:Mat} {bs:Nat→Nat} {T:Mat} {den:Int} (h:Tab n m A bs T den)
include h
theorem unit_ {i j:Nat} (hi:i < n) (hj:j < n) (hb:bs j < m):T i (bs j)=if i=j then den else 0:=by
 obtain⟨s,hs,hd,hT⟩:=h.num
 rw [hT i (bs j) hi hb]
 by_cases e:i=j
 ·subst e
  rw [if_pos rfl,hd]
  unfold cd
  congr 1
  refine det_congr (fun a b _ _=>?_)
  unfold cset bas
  split
  ·rename_i e;rw [e]
  ·rfl
 ·rw [if_neg e]
  unfold cd
  rw [det_col_alt (c:=i) (d:=j) hi hj e (fun a _=>by unfold cset bas;rw [if_pos rfl,if_neg (Ne.symm e)]),Int.mul_zero]
theorem lin_ (hA: ∀i j,i < n→j < n→A i j=if i=j then 1 else 0) (hnm:n≤m) {i x:Nat} (hi:i < n) (hx:x < m):T i x=sm n (fun c=>A c x*T i c):=by
 obtain⟨s,hs,hd,hT⟩:=h.num
 rw [hT i x hi hx]
 have e:cd n A bs i x=sm n (fun c=>A c x*cd n A bs i c):=by
  unfold cd
  rw [← det_csum hi]
  refine det_congr (fun a b ha hb=>?_)
  unfold cset
  split
  ·show A a x=sm n (fun k=>A k x*A a k)
   rw [sm_one (f:=fun k=>A k x*A a k) (k:=a) ha (fun c hc hne=>by rw [hA a c ha hc,if_neg (Ne.symm hne),Int.mul_zero]),hA a a ha ha,if_pos rfl,Int.mul_one]
  ·rfl
 rw [e, ← sm_mul]
 refine sm_congr (fun c hc=>?_)
 rw [hT i c hi (by omega)]
 grind
theorem inj_ {i j:Nat} (hi:i < n) (hj:j < n) (hb: ∀j,j < n→bs j < m) (e:bs i=bs j):i=j:=by
 have h1:=unit_ h hi hi (hb i hi)
 have h2:=unit_ h hi hj (hb j hj)
 rw [if_pos rfl] at h1
 rw [← e,h1] at h2
 by_cases c:i=j
 ·exact c
 ·rw [if_neg c] at h2
  have:=h.pos
  omega
theorem same_rows {bs':Nat→Nat} {T':Mat} {den':Int} (h':Tab n m A bs' T' den') (hA: ∀i j,i < n→j < n→A i j=if i=j then 1 else 0) (hnm:n≤m) (hb: ∀j,j < n→bs j < m) (hb': ∀j,j < n→bs' j < m)
  (hs: ∀j',j' < n→ ∃j,j < n∧bs' j'=bs j) {i i' c:Nat} (hi:i < n) (hi':i' < n) (hc:c < m) (e:bs i=bs' i'):T i c*den'=T' i' c*den:=by
 have cr: ∀k,k < n→sm n (fun j=>A k (bs' j)*T' j c)=den'*A k c:=fun k hk=>h'.cramer hk hc
 have e1:T i c*den'=sm n (fun j=>T' j c*T i (bs' j)):=by
  rw [lin_ h hA hnm hi hc, ← sm_mulr]
  rw [show sm n (fun k=>A k c*T i k*den')=sm n (fun k=>sm n (fun j=>T i k*(A k (bs' j)*T' j c))) from sm_congr (fun k hk=>by rw [sm_mul,cr k hk];grind)]
  rw [sm_swap]
  refine sm_congr (fun j hj=>?_)
  rw [lin_ h hA hnm hi (hb' j hj), ← sm_mul]
  exact sm_congr (fun k hk=>by grind)
 rw [e1,sm_one (k:=i') hi' (fun j hj hne=>?_)]
 ·rw [← e,unit_ h hi hi (hb i hi),if_pos rfl]
 ·obtain⟨j2,hj2,e2⟩:=hs j hj
  rw [e2,unit_ h hi hj2 (hb j2 hj2),if_neg (fun q=>?_),Int.mul_zero]
  exact hne (inj_ h' hj hi' hb' (by rw [e2, ← q,e]))
end
def lexpos (f:Nat→Int):List Nat→Prop
 | []=>False
 | c::l=>0 < f c∨(f c=0∧lexpos f l)
theorem lexpos.congr {f g:Nat→Int}: ∀ {l:List Nat},(∀c ∈ l,f c=g c)→lexpos f l→lexpos g l
 | [],_,h=>h
 | c::l,e,h=>by
  have e1:=e c List.mem_cons_self
  rcases h with h | ⟨h1,h2⟩
  ·exact .inl (by omega)
  ·exact .inr ⟨by omega,lexpos.congr (fun d hd=>e d (List.mem_cons_of_mem _ hd)) h2⟩
theorem lexpos.add {f g:Nat→Int}: ∀ {l:List Nat},lexpos f l→lexpos g l→lexpos (fun c=>f c+g c) l
 | [],h,_=>h
 | c::l,h,k=>by
  rcases h with h | ⟨h1,h2⟩
  ·rcases k with k | ⟨k1,k2⟩
   ·exact .inl (by show 0 < f c+g c;omega)
   ·exact .inl (by show 0 < f c+g c;omega)
  ·rcases k with k | ⟨k1,k2⟩
   ·exact .inl (by show 0 < f c+g c;omega)
   ·exact .inr ⟨by show f c+g c=0;omega,h2.add k2⟩
theorem lexpos.mul {f:Nat→Int} {a:Int} (ha:0 < a): ∀ {l:List Nat},lexpos f l→lexpos (fun c=>a*f c) l
 | [],h=>h
 | c::l,h=>by
  rcases h with h | ⟨h1,h2⟩
  ·exact .inl (Int.mul_pos ha h)
  ·exact .inr ⟨by show a*f c=0;rw [h1,Int.mul_zero],lexpos.mul ha h2⟩
theorem lexpos.of_mul {f:Nat→Int} {a:Int} (ha:0 < a): ∀ {l:List Nat},lexpos (fun c=>a*f c) l→lexpos f l
 | [],h=>h
 | c::l,h=>by
  rcases h with h | ⟨h1,h2⟩
  ·exact .inl (Int.pos_of_mul_pos_right (by simpa [Int.mul_comm] using h) ha)
  ·refine .inr ⟨?_,lexpos.of_mul ha h2⟩
   rcases Int.mul_eq_zero.1 h1 with e | e
   ·omega
   ·exact e
theorem lexpos.not_neg {f:Nat→Int}: ∀ {l:List Nat},lexpos f l→ ¬ lexpos (fun c=> - f c) l
 | [],h,_=>h
 | c::l,h,k=>by
  rcases h with h | ⟨h1,h2⟩
  ·rcases k with k | ⟨k1,k2⟩ <;> simp at* <;> omega
  ·rcases k with k | ⟨k1,k2⟩
   ·simp at*;omega
   ·exact h2.not_neg k2
theorem lex_tri (f:Nat→Int): ∀l:List Nat,lexpos f l∨lexpos (fun c=> - f c) l∨ ∀c ∈ l,f c=0
 | []=> .inr (.inr (fun c hc=>by cases hc))
 | c::l=>by
  rcases Int.lt_trichotomy (f c) 0 with h | h | h
  ·exact .inr (.inl (.inl (by show 0 < - f c;omega)))
  ·rcases lex_tri f l with k | k | k
   ·exact .inl (.inr ⟨h,k⟩)
   ·exact .inr (.inl (.inr ⟨by show - f c=0;omega,k⟩))
   ·refine .inr (.inr (fun d hd=>?_))
    rcases List.mem_cons.1 hd with e | e
    ·rw [e];exact h
    ·exact k d e
  ·exact .inl (.inl h)
theorem kl_iff (T:Mat) (i k:Nat) (x y:Int): ∀l:List Nat,kl T i k x y l=true↔lexpos (fun c=>T k c*x - T i c*y) l
 | []=>by simp [kl,lexpos]
 | c::l=>by
  have ih:=kl_iff T i k x y l
  unfold kl lexpos
  by_cases h1:T i c*y < T k c*x
  ·rw [if_pos h1];simp;left;omega
  ·rw [if_neg h1]
   by_cases h2:T k c*x < T i c*y
   ·rw [if_pos h2];simp;constructor;omega;intro e;omega
   ·rw [if_neg h2,ih]
    constructor
    ·intro h;exact .inr ⟨by omega,h⟩
    ·intro h
     rcases h with h | h
     ·omega
     ·exact h.2
def Least (T:Mat) (n:Nat) (l:List Nat) (b:Nat→Int) (r:Nat):Prop:=r < n∧0 < b r∧ ∀i,i < n→i≠r→0 < b i→lexpos (fun c=>T i c*b r - T r c*b i) l
def Apart (T:Mat) (n:Nat) (l:List Nat):Prop:= ∀i j (x y:Int),i < n→j < n→i≠j→0 < x→0 < y→ ¬ ∀c ∈ l,T i c*y=T j c*x
theorem Apart.or {T:Mat} {n:Nat} {l:List Nat} (h:Apart T n l) {i j:Nat} {x y:Int} (hi:i < n) (hj:j < n) (hij:i≠j) (hx:0 < x) (hy:0 < y):lexpos (fun c=>T j c*x - T i c*y) l∨lexpos (fun c=>T i c*y - T j c*x) l:=by
 rcases lex_tri (fun c=>T j c*x - T i c*y) l with k | k | k
 ·exact .inl k
 ·exact .inr (k.congr (fun c _=>by omega))
 ·exact absurd (fun c hc=>by have:=k c hc;omega) (h i j x y hi hj hij hx hy)
theorem lst_least {T:Mat} {n:Nat} {cl:List Nat} {b:Nat→Int} (ha:Apart T n cl): ∀(l done:List Nat) (o:Option Nat) (r:Nat),(∀i ∈ l,i < n)→(∀i ∈ done,i < n)→
  (∀j,o=some j→j < n∧0 < b j∧ ∀i ∈ done,i≠j→0 < b i→lexpos (fun c=>T i c*b j - T j c*b i) cl)→(o=none→ ∀i ∈ done, ¬ 0 < b i)→lst b (fun i j=>kl T i j (b i) (b j) cl) l o=some r→
  r < n∧0 < b r∧ ∀i,i ∈ l∨i ∈ done→i≠r→0 < b i→lexpos (fun c=>T i c*b r - T r c*b i) cl
 | [],done,o,r,hl,hd,ho,hn,h=>by
  obtain⟨h1,h2,h3⟩:=ho r h
  refine⟨h1,h2,fun i hi=>?_⟩
  rcases hi with hi | hi
  ·cases hi
  ·exact h3 i hi
 | k::l,done,o,r,hl,hd,ho,hn,h=>by
  have hk:=hl k List.mem_cons_self
  have step: ∀o',lst b (fun i j=>kl T i j (b i) (b j) cl) l o'=some r→(∀j,o'=some j→j < n∧0 < b j∧ ∀i ∈ k::done,i≠j→0 < b i→lexpos (fun c=>T i c*b j - T j c*b i) cl)→(o'=none→ ∀i ∈ k::done, ¬ 0 < b i)→
    r < n∧0 < b r∧ ∀i,i ∈ k::l∨i ∈ done→i≠r→0 < b i→lexpos (fun c=>T i c*b r - T r c*b i) cl:=fun o' ho' h1 h2=>by
   obtain⟨g1,g2,g3⟩:=lst_least ha l (k::done) o' r (fun i hi=>hl i (List.mem_cons_of_mem _ hi)) (fun i hi=>by rcases List.mem_cons.1 hi with e | e;rw [e];exact hk;exact hd i e) h1 h2 ho'
   refine⟨g1,g2,fun i hi=>g3 i ?_⟩
   rcases hi with hi | hi
   ·rcases List.mem_cons.1 hi with e | e
    ·exact .inr (by rw [e];exact List.mem_cons_self)
    ·exact .inl e
   ·exact .inr (List.mem_cons_of_mem _ hi)
  unfold lst at h
  by_cases c:0 < b k∧bet (fun i j=>kl T i j (b i) (b j) cl) k o=true
  ·rw [if_pos c] at h
   refine step _ h (fun j hj=>?_) (fun e=>by cases e)
   injection hj with hj
   subst hj
   refine⟨hk,c.1,fun i hi hne hb=>?_⟩
   rcases List.mem_cons.1 hi with e | e
   ·exact absurd e hne
   ·cases o with
    | none=>exact absurd hb (hn rfl i e)
    | some j=>
     obtain⟨g1,g2,g3⟩:=ho j rfl
     have hkj:lexpos (fun c=>T j c*b k - T k c*b j) cl:=(kl_iff _ _ _ _ _ _).1 c.2
     by_cases eij:i=j
     ·rw [eij];exact hkj
     ·have hij:=g3 i e eij hb
      refine lexpos.of_mul g2 ?_
      refine((hij.mul c.1).add (hkj.mul hb)).congr (fun d _=>?_)
      grind
  ·rw [if_neg c] at h
   refine step _ h (fun j hj=>?_) (fun e i hi=>?_)
   ·obtain⟨g1,g2,g3⟩:=ho j hj
    refine⟨g1,g2,fun i hi hne hb=>?_⟩
    rcases List.mem_cons.1 hi with e | e
    ·subst e
     rcases ha.or (x:=b j) (y:=b i) g1 hk (Ne.symm hne) g2 hb with q | q
     ·exact q
     ·exfalso
      apply c
      refine⟨hb,?_⟩
      rw [hj]
      exact(kl_iff _ _ _ _ _ _).2 q
    ·exact g3 i e hne hb
   ·rcases List.mem_cons.1 hi with e2 | e2
    ·subst e2
     intro hb
     exact c ⟨hb,by rw [e];rfl⟩
    ·exact hn e i e2
theorem rowB_least {n m:Nat} {s:TS} {b:Nat→Int} {r:Nat} (ha:Apart s.T n (cols n m)) (h:rowB n m s b=some r):Least s.T n (cols n m) b r:=by
 obtain⟨h1,h2,h3⟩:=lst_least ha (List.range n) [] none r (fun i hi=>List.mem_range.1 hi) (fun i hi=>by cases hi) (fun j hj=>by cases hj) (fun _ i hi=>by cases hi) h
 exact⟨h1,h2,fun i hi hne hb=>h3 i (.inl (List.mem_range.2 hi)) hne hb⟩
theorem least_one {T:Mat} {n:Nat} {l:List Nat} {b:Nat→Int} {r r':Nat} (h:Least T n l b r) (h':Least T n l b r'):r=r':=by
 by_cases e:r=r'
 ·exact e
 ·have h1:=h.2.2 r' h'.1 (Ne.symm e) h'.2.1
  have h2:=h'.2.2 r h.1 e h.2.1
  exact absurd (h2.congr (fun c _=>by omega)) h1.not_neg
end Go.Proofs.Ytmpkckiifeikkaa.Lcy
end
section
namespace Go.Proofs.Ytmpkckiifeikkaa.Lcy
open Go.RowKit Go.Proofs.YtmpkckiifeikkaaW.PrintWords Go.Proofs.YtmpkckiifeikkaaW.PrintMore Go.Proofs.Ytmpkckiifeikkaa.Ma Go.Proofs.Ytmpkckiifeikkaa.Dt Go.Proofs.Ytmpkckiifeikkaa.Bz Go.Proofs.Ytmpkckiifeikkaa.Lk Go.Proofs.Ytmpkckiifeikkaa.Lt
def LexRows (n m:Nat) (s:TS):Prop:= ∀i,i < n→lexpos (fun c=>s.T i c) (cols n m)
theorem cols_lt {n m c:Nat} (hnm:n < m) (h:c ∈ cols n m):c < m:=by
 unfold cols at h
 rcases List.mem_cons.1 h with e | e
 ·omega
 ·have:=List.mem_range.1 e;omega
section
variable {n m:Nat} {A:Mat} (hn:n≤5) (hnm:n < m) (hA:Small n m A) (hI: ∀i j,i < n→j < n→A i j=if i=j then 1 else 0) {s:TS} (hs:Ok n m A s)
include hnm hI hs in
theorem apart_of:Apart s.T n (cols n m):=by
 intro i j x y hi hj hij hx hy h
 have hb:=hs.lt i hi
 have h1:=lin_ hs.tab hI (by omega) hi (show (s.bs.getD i 0).toNat < m by omega)
 have h2:=lin_ hs.tab hI (by omega) hj (show (s.bs.getD i 0).toNat < m by omega)
 have u1:=unit_ hs.tab hi hi (show (fun j=>(s.bs.getD j 0).toNat) i < m by show (s.bs.getD i 0).toNat < m;omega)
 have u2:=unit_ hs.tab hj hi (show (fun j=>(s.bs.getD j 0).toNat) i < m by show (s.bs.getD i 0).toNat < m;omega)
 rw [if_pos rfl] at u1
 rw [if_neg (Ne.symm hij)] at u2
 have e:s.T i (s.bs.getD i 0).toNat*y=s.T j (s.bs.getD i 0).toNat*x:=by
  rw [h1,h2, ← sm_mulr, ← sm_mulr]
  refine sm_congr (fun c hc=>?_)
  have:=h c (by unfold cols;exact List.mem_cons_of_mem _ (List.mem_range.2 hc))
  rw [Int.mul_assoc,this,Int.mul_assoc]
 rw [u1,u2,Int.zero_mul] at e
 have:=Int.mul_pos hs.tab.pos hy
 omega
include hn hA hs
theorem step_at {r v i c:Nat} (hr:r < n) (hv:v+1 < m) (hi:i < n) (hc:c < m):
  (i=r→(s.step r v).T i c=(if s.T r v < 0 then -1 else 1)*s.T r c)∧(i≠r→s.den*(s.step r v).T i c=(if s.T r v < 0 then -1 else 1)*(s.T i c*s.T r v - s.T i v*s.T r c)):=by
 have hb:=hs.stE_abs hn hA hr hv hi hc
 have ha:=hs.stA_eq hn hA hr hv hi hc
 obtain⟨g,_,_,_,key,h4⟩:=hs.tab.stE_eq hr (show v < m by omega) hi hc
 have e:(s.step r v).T i c=(if s.T r v < 0 then -1 else 1)*stE s.T s.den r v i c:=by
  show stT s.T s.den r v i c=_
  unfold stT
  rw [ha]
  split
  ·rw [w64 (by omega) (by omega)];omega
  ·omega
 refine⟨fun hir=>?_,fun hir=>?_⟩
 ·rw [e];unfold stE;rw [if_pos hir]
 ·rw [e,key hir,h4];grind
include hnm in
theorem step_lex {r v:Nat} (hv:v+1 < m) (hx:LexRows n m s) (hl:Least s.T n (cols n m) (fun i=>s.T i v) r):LexRows n m (s.step r v):=by
 obtain⟨hr,hp,hl⟩:=hl
 simp only at hp hl
 intro i hi
 by_cases e:i=r
 ·refine(hx r hr).congr (fun c hc=>?_)
  have:=(step_at hn hA hs hr hv hi (cols_lt hnm hc)).1 e
  rw [if_neg (by omega)] at this
  rw [this];omega
 ·refine lexpos.of_mul hs.tab.pos ?_
  have hst: ∀c ∈ cols n m,s.den*(s.step r v).T i c=s.T i c*s.T r v - s.T i v*s.T r c:=fun c hc=>by
   have:=(step_at hn hA hs hr hv hi (cols_lt hnm hc)).2 e
   rw [if_neg (by omega)] at this
   rw [this];omega
  rcases Int.lt_trichotomy (s.T i v) 0 with h | h | h
  ·refine(((hx i hi).mul hp).add ((hx r hr).mul (show 0 < - s.T i v by omega))).congr (fun c hc=>?_)
   rw [hst c hc];grind
  ·refine((hx i hi).mul hp).congr (fun c hc=>?_)
   rw [hst c hc,h];grind
  ·refine(hl i hi e h).congr (fun c hc=>?_)
   rw [hst c hc];grind
include hnm in
theorem step_back {r v:Nat} (hv:v+1 < m) (hx:LexRows n m s) (hr:r < n) (hp:0 < s.T r v):Least (s.step r v).T n (cols n m) (fun i=>(s.step r v).T i (s.bs.getD r 0).toNat) r:=by
 have hd:=hs.tab.pos
 have hlt:=hs.lt r hr
 obtain⟨l,hl⟩: ∃l,(s.bs.getD r 0).toNat=l:=⟨_,rfl⟩
 rw [hl] at hlt ⊢
 have u: ∀i,i < n→s.T i l=if i=r then s.den else 0:=fun i hi=>by
  have h:=unit_ hs.tab hi hr (show (fun j=>(s.bs.getD j 0).toNat) r < m by show (s.bs.getD r 0).toNat < m;omega)
  rw [hl] at h;exact h
 have e1:(s.step r v).T r l=s.den:=by
  have h:=(step_at hn hA hs hr hv hr (show l < m by omega)).1 rfl
  rw [if_neg (by omega),u r hr,if_pos rfl] at h
  omega
 have e2: ∀i,i < n→i≠r→(s.step r v).T i l= - s.T i v:=fun i hi hne=>by
  have h:=(step_at hn hA hs hr hv hi (show l < m by omega)).2 hne
  rw [if_neg (by omega),u i hi,u r hr,if_neg hne,if_pos rfl] at h
  have:s.den*(s.step r v).T i l=s.den* - s.T i v:=by rw [h];grind
  exact Int.eq_of_mul_eq_mul_left (by omega) this
 refine⟨hr,by show 0 < (s.step r v).T r l;omega,fun i hi hne hb=>?_⟩
 simp only at hb ⊢
 refine lexpos.congr (fun c hc=>?_) ((hx i hi).mul hp)
 have h1:=(step_at hn hA hs hr hv hr (cols_lt hnm hc)).1 rfl
 have h2:=(step_at hn hA hs hr hv hi (cols_lt hnm hc)).2 hne
 rw [if_neg (by omega)] at h1 h2
 rw [e1,e2 i hi hne,h1]
 have:(s.step r v).T i c*s.den=s.T i c*s.T r v - s.T i v*s.T r c:=by rw [Int.mul_comm,h2];omega
 rw [this];grind
end
section
variable {n:Nat} {M:Mat} {cv q:Nat→Int} (hn:n≤5) (hA:Small n (2*n+2) (tab0 n M cv q)) (hcv: ∀i,i < n→0 < cv i) {r:Nat} (hl:Least (tab0 n M cv q) n (cols n (2*n+2)) cv r) (hf:feas n q≠true)
theorem tab0_unit {i j:Nat} (hi:i < n) (hj:j < n):tab0 n M cv q i j=if i=j then 1 else 0:=by
 unfold tab0
 rw [if_pos hj]
 by_cases e:i=j
 ·rw [if_pos e,if_pos e.symm]
 ·rw [if_neg e,if_neg (Ne.symm e)]
theorem tab0_cv {i:Nat}:tab0 n M cv q i (2*n)= - cv i:=by
 unfold tab0
 by_cases h:2*n < n
 ·omega
 ·rw [if_neg h,if_neg (by omega),if_pos rfl]
include hn hA hcv hl
theorem first_at {i c:Nat} (hi:i < n) (hc:c < 2*n+2):((first n M cv q).step r (2*n)).T i c=if i=r then - tab0 n M cv q r c else tab0 n M cv q i c*cv r - cv i*tab0 n M cv q r c:=by
 have hok:=first_ok (n:=n) (M:=M) (cv:=cv) (q:=q)
 have hr:=hl.1
 have hc0:=hcv r hr
 have hs:=step_at hn hA hok hr (show 2*n+1 < 2*n+2 by omega) hi hc
 have e:(first n M cv q).T=tab0 n M cv q:=rfl
 rw [e,tab0_cv,tab0_cv,if_pos (show - cv r < 0 by omega)] at hs
 by_cases h:i=r
 ·rw [if_pos h,hs.1 h];omega
 ·rw [if_neg h]
  have:=hs.2 h
  rw [show (first n M cv q).den=1 from rfl,Int.one_mul] at this
  rw [this];grind
theorem first_neg {i:Nat} (hi:i < n):((first n M cv q).step r (2*n)).T i r < 0:=by
 have hr:=hl.1
 rw [first_at hn hA hcv hl hi (by omega)]
 have:=hcv i hi
 by_cases h:i=r
 ·rw [if_pos h,tab0_unit hr hr,if_pos rfl];omega
 ·rw [if_neg h,tab0_unit hi hr,tab0_unit hr hr,if_neg h,if_pos rfl];omega
include hf in
theorem first_lex:LexRows n (2*n+2) ((first n M cv q).step r (2*n)):=by
 have hr:=hl.1
 intro i hi
 by_cases h:i=r
 ·have hq:q r < 0:=by
   have hex: ∃j,j < n∧q j < 0:=by
    apply Classical.byContradiction
    intro hno
    apply hf
    unfold feas
    rw [List.all_eq_true]
    intro j hj
    have hj:=List.mem_range.1 hj
    have: ¬ q j < 0:=fun h=>hno ⟨j,hj,h⟩
    simp;omega
   obtain⟨j,hj,hqj⟩:=hex
   by_cases e:j=r
   ·rw [← e];exact hqj
   ·have hlj:=hl.2.2 j hj e (hcv j hj)
    have e1: ∀i,tab0 n M cv q i (2*n+2 - 1)=q i:=fun i=>by
     unfold tab0
     rw [if_neg (by omega),if_neg (by omega),if_neg (by omega)]
    have hge:0≤q j*cv r - q r*cv j:=by
     unfold cols lexpos at hlj
     simp only [e1] at hlj
     rcases hlj with h | h <;> omega
    have h1:q j*cv r < 0:=Int.mul_neg_of_neg_of_pos hqj (hcv r hr)
    have h2:q r*cv j < 0:=by omega
    apply Classical.byContradiction
    intro hneg
    have:=Int.mul_nonneg (show 0≤q r by omega) (Int.le_of_lt (hcv j hj))
    omega
  unfold cols lexpos
  left
  rw [first_at hn hA hcv hl hi (by omega),if_pos h]
  unfold tab0
  rw [if_neg (by omega),if_neg (by omega),if_neg (by omega)]
  omega
 ·refine(hl.2.2 i hi h (hcv i hi)).congr (fun c hc=>?_)
  rw [first_at hn hA hcv hl hi (cols_lt (by omega) hc),if_neg h]
  grind
end
end Go.Proofs.Ytmpkckiifeikkaa.Lcy
end
section
namespace Go.Proofs.Ytmpkckiifeikkaa.Lcy
open Go.RowKit Go.Proofs.YtmpkckiifeikkaaW.PrintWords Go.Proofs.YtmpkckiifeikkaaW.PrintMore Go.Proofs.Ytmpkckiifeikkaa.Ma Go.Proofs.Ytmpkckiifeikkaa.Dt Go.Proofs.Ytmpkckiifeikkaa.Bz Go.Proofs.Ytmpkckiifeikkaa.Lk Go.Proofs.Ytmpkckiifeikkaa.Lt
def inB (n:Nat) (bs:List Int) (x:Nat):Prop:= ∃i,i < n∧bs.getD i 0=(x:Int)
structure Comp (n:Nat) (bs:List Int) (v:Nat):Prop where
 lt:v < 2*n
 z0:inB n bs (2*n)
 out: ¬ inB n bs v
 out2: ¬ inB n bs (partner n v)
 one: ∀x,x < 2*n→x≠v→x≠partner n v→(inB n bs x↔ ¬ inB n bs (partner n x))
theorem par_lt {n x:Nat} (h:x < 2*n):partner n x < 2*n:=by unfold partner;split <;> omega
theorem par_par {n x:Nat} (h:x < 2*n):partner n (partner n x)=x:=by
 unfold partner
 by_cases c:x < n
 ·rw [if_pos c,if_neg (by omega)];omega
 ·rw [if_neg c,if_pos (by omega)];omega
theorem par_ne {n x:Nat} (hn:0 < n) (h:x < 2*n):partner n x≠x:=by unfold partner;split <;> omega
theorem getD_set {bs:List Int} {r i:Nat} {v:Int} (hr:r < bs.length):(bs.set r v).getD i 0=if i=r then v else bs.getD i 0:=by
 rw [List.getD_eq_getElem?_getD,List.getElem?_set]
 by_cases e:r=i
 ·subst e;rw [if_pos rfl,if_pos hr,if_pos rfl];rfl
 ·rw [if_neg e,if_neg (Ne.symm e),List.getD_eq_getElem?_getD]
theorem inB_set {n r v l:Nat} {bs:List Int} (hl:bs.length=n) (hr:r < n) (hb:bs.getD r 0=(l:Int)) (inj: ∀i j,i < n→j < n→bs.getD i 0=bs.getD j 0→i=j) (x:Nat):inB n (bs.set r (v:Int)) x↔x=v∨(inB n bs x∧x≠l):=by
 constructor
 ·rintro ⟨i,hi,e⟩
  rw [getD_set (by omega)] at e
  by_cases c:i=r
  ·rw [if_pos c] at e;left;omega
  ·rw [if_neg c] at e
   right
   refine⟨⟨i,hi,e⟩,fun q=>c (inj i r hi hr (by rw [e,hb,q]))⟩
 ·rintro (e | ⟨⟨i,hi,e⟩,hne⟩)
  ·exact⟨r,hr,by rw [getD_set (by omega),if_pos rfl,e]⟩
  ·refine⟨i,hi,?_⟩
   rw [getD_set (by omega),if_neg (fun q=>hne (by rw [q,hb] at e;omega))]
   exact e
theorem comp_step {n r v l:Nat} {bs:List Int} (hn:0 < n) (hl:bs.length=n) (hr:r < n) (hb:bs.getD r 0=(l:Int)) (inj: ∀i j,i < n→j < n→bs.getD i 0=bs.getD j 0→i=j) (hl2:l < 2*n) (h:Comp n bs v):Comp n (bs.set r (v:Int)) (partner n l):=by
 have hin:inB n bs l:=⟨r,hr,hb⟩
 have hlv:l≠v:=fun e=>h.out (e ▸ hin)
 have hlp:l≠partner n v:=fun e=>h.out2 (e ▸ hin)
 have hpl: ¬ inB n bs (partner n l):=(h.one l hl2 hlv hlp).1 hin
 have hpv:partner n l≠v:=fun e=>hlp (by rw [← e,par_par hl2])
 have S:=inB_set (v:=v) hl hr hb inj
 refine⟨par_lt hl2,(S _).2 (.inr ⟨h.z0,by omega⟩),fun q=>?_,fun q=>?_,fun x hx h1 h2=>?_⟩
 ·rcases (S _).1 q with e | e
  ·exact hpv e
  ·exact hpl e.1
 ·rw [par_par hl2] at q
  rcases (S _).1 q with e | e
  ·exact hlv e
  ·exact e.2 rfl
 ·rw [par_par hl2] at h2
  have hpx:partner n x≠l:=fun e=>h1 (by rw [← e,par_par hx])
  rw [S,S]
  by_cases c:x=v
  ·subst c
   constructor
   ·intro _ q
    rcases q with e | e
    ·exact par_ne hn hx e
    ·exact h.out2 e.1
   ·intro _;exact .inl rfl
  ·by_cases d:x=partner n v
   ·have e2:partner n x=v:=by rw [d,par_par h.lt]
    constructor
    ·intro q
     rcases q with e | e
     ·exact absurd e c
     ·exact absurd (d ▸ e.1) h.out2
    ·intro q;exact absurd (.inl e2) q
   ·have ho:=h.one x hx c d
    have hpxv:partner n x≠v:=fun e=>d (by rw [← e,par_par hx])
    constructor
    ·intro q
     rcases q with e | e
     ·exact absurd e c
     ·intro q2
      rcases q2 with e2 | e2
      ·exact hpxv e2
      ·exact ho.1 e.1 e2.1
    ·intro q
     refine .inr ⟨ho.2 (fun q2=>q (.inr ⟨q2,hpx⟩)),h2⟩
section
variable {n m:Nat} {A:Mat} (hn:n≤5) (hn0:0 < n) (hm:m=2*n+2) (hA:Small n m A) (hI: ∀i j,i < n→j < n→A i j=if i=j then 1 else 0)
structure J (n m:Nat) (A:Mat) (s:TS) (v r:Nat):Prop where
 ok:Ok n m A s
 lex:LexRows n m s
 comp:Comp n s.bs v
 least:Least s.T n (cols n m) (fun i=>s.T i v) r
def nx (n m:Nat) (s:TS) (v r:Nat):Option (TS × Nat × Nat):=
 if s.bs.getD r 0=2*(n:Int) then none
 else match rowB n m (s.step r v) (fun i=>(s.step r v).T i (partner n (s.bs.getD r 0).toNat)) with
  | none=>none
  | some r'=>some (s.step r v,partner n (s.bs.getD r 0).toNat,r')
theorem ok_inj {s:TS} (hs:Ok n m A s) (i j:Nat) (hi:i < n) (hj:j < n) (e:s.bs.getD i 0=s.bs.getD j 0):i=j:=
 inj_ hs.tab hi hj (fun k hk=>by have:=hs.lt k hk;omega) (by show (s.bs.getD i 0).toNat=(s.bs.getD j 0).toNat;rw [e])
structure Bk (n m:Nat) (s:TS) (v r:Nat) (s':TS) (v':Nat):Prop where
 least:Least s'.T n (cols n m) (fun i=>s'.T i (partner n v')) r
 ent:s'.bs.getD r 0=(v:Int)
 mem: ∀x,inB n s.bs x↔x=partner n v'∨(inB n s'.bs x∧x≠v)
include hn hn0 hm hA hI in
theorem nx_J {s:TS} {v r:Nat} (h:J n m A s v r) {s':TS} {v' r':Nat} (e:nx n m s v r=some (s',v',r')):J n m A s' v' r'∧Bk n m s v r s' v':=by
 have hr:=h.least.1
 have hp:0 < s.T r v:=h.least.2.1
 have hv:v+1 < m:=by have:=h.comp.lt;omega
 have hnn:=h.ok.nn r hr
 have hlt:=h.ok.lt r hr
 have hs2:=h.ok.step hn hA hr hv (show s.T r v≠0 by omega)
 have inj:=ok_inj h.ok
 obtain⟨l,hl⟩: ∃l:Nat,s.bs.getD r 0=(l:Int):=⟨(s.bs.getD r 0).toNat,by omega⟩
 unfold nx at e
 rw [hl,Int.toNat_natCast] at e
 rw [hl,Int.toNat_natCast] at hlt
 by_cases c:(l:Int)=2*(n:Int)
 ·rw [if_pos c] at e;cases e
 ·rw [if_neg c] at e
  have hl2:l < 2*n:=by omega
  cases hrow:rowB n m (s.step r v) (fun i=>(s.step r v).T i (partner n l)) with
  | none=>rw [hrow] at e;cases e
  | some r2=>
   rw [hrow] at e
   injection e with e
   injection e with e1 e
   injection e with e2 e3
   subst e1 e2 e3
   have hb:s.bs.length=n:=h.ok.len
   refine⟨⟨hs2,step_lex hn (by omega) hA h.ok hv h.lex h.least,comp_step hn0 hb hr hl inj hl2 h.comp,rowB_least (apart_of (by omega) hI hs2) hrow⟩,?_,?_,fun x=>?_⟩
   ·rw [par_par hl2]
    have:=step_back hn (by omega) hA h.ok hv h.lex hr hp
    rw [hl,Int.toNat_natCast] at this
    exact this
   ·show (s.bs.set r (v:Int)).getD r 0=v
    rw [getD_set (by omega),if_pos rfl]
   ·rw [par_par hl2]
    show _↔x=l∨(inB n (s.bs.set r (v:Int)) x∧x≠v)
    rw [inB_set hb hr hl inj]
    constructor
    ·intro hx
     by_cases d:x=l
     ·exact .inl d
     ·exact .inr ⟨.inr ⟨hx,d⟩,fun q=>h.comp.out (q ▸ hx)⟩
    ·rintro (d | ⟨d | d,hne⟩)
     ·exact d ▸ ⟨r,hr,hl⟩
     ·exact absurd d hne
     ·exact d.1
def SE (n:Nat) (s s':TS):Prop:= ∀x,inB n s.bs x↔inB n s'.bs x
include hm hI in
theorem se_rows {s s':TS} (h:Ok n m A s) (h':Ok n m A s') (e:SE n s s') {i i' c:Nat} (hi:i < n) (hi':i' < n) (hc:c < m) (hb:s.bs.getD i 0=s'.bs.getD i' 0):s.T i c*s'.den=s'.T i' c*s.den:=by
 refine same_rows h.tab h'.tab hI (by omega) (fun j hj=>by have:=h.lt j hj;omega) (fun j hj=>by have:=h'.lt j hj;omega) (fun j' hj'=>?_) hi hi' hc (by show (s.bs.getD i 0).toNat=(s'.bs.getD i' 0).toNat;rw [hb])
 have hnn:=h'.nn j' hj'
 obtain⟨j,hj,e2⟩:=(e (s'.bs.getD j' 0).toNat).2 ⟨j',hj',by omega⟩
 exact⟨j,hj,by show (s'.bs.getD j' 0).toNat=(s.bs.getD j 0).toNat;rw [e2,Int.toNat_natCast]⟩
include hm hI in
theorem se_least {s s':TS} (h:Ok n m A s) (h':Ok n m A s') (e:SE n s s') {l r i:Nat} (hl:l < m) (hr:Least s.T n (cols n m) (fun i=>s.T i l) r) (hi:i < n) (hb:s.bs.getD r 0=s'.bs.getD i 0):Least s'.T n (cols n m) (fun i=>s'.T i l) i:=by
 have hd:=h.tab.pos
 have hd':=h'.tab.pos
 have hrn:=hr.1
 have hp:0 < s.T r l:=hr.2.1
 have h1:=se_rows hm hI h h' e hrn hi hl hb
 refine⟨hi,?_,fun i2 hi2 hne hb2=>?_⟩
 ·show 0 < s'.T i l
  have:0 < s'.T i l*s.den:=by rw [← h1];exact Int.mul_pos hp hd'
  exact Int.pos_of_mul_pos_left this hd
 ·have hnn:=h'.nn i2 hi2
  obtain⟨j,hj,ej⟩:=(e (s'.bs.getD i2 0).toNat).2 ⟨i2,hi2,by omega⟩
  have ej2:s.bs.getD j 0=s'.bs.getD i2 0:=by rw [ej];omega
  have hjr:j≠r:=fun q=>hne (ok_inj h' i2 i hi2 hi (by rw [← ej2,q,hb]))
  have h2:=se_rows hm hI h h' e hj hi2 hl ej2
  simp only at hb2 ⊢
  have hjp:0 < s.T j l:=by
   have:0 < s.T j l*s'.den:=by rw [h2];exact Int.mul_pos hb2 hd
   exact Int.pos_of_mul_pos_left this hd'
  have hx:=hr.2.2 j hj hjr hjp
  simp only at hx
  refine lexpos.of_mul (Int.mul_pos hd hd) (((hx.mul (Int.mul_pos hd' hd'))).congr (fun c hc=>?_))
  have h3:=se_rows hm hI h h' e hrn hi (cols_lt (by omega) hc) hb
  have h4:=se_rows hm hI h h' e hj hi2 (cols_lt (by omega) hc) ej2
  grind
include hm hI in
theorem back_one {a:TS} {va ra:Nat} {b:TS} {vb rb:Nat} {a' b':TS} {v':Nat} (ha:J n m A a va ra) (hb:J n m A b vb rb) (ha':Ok n m A a') (hb':Ok n m A b') (hv:v' < 2*n) (ka:Bk n m a va ra a' v') (kb:Bk n m b vb rb b' v') (e:SE n a' b'):SE n a b∧va=vb:=by
 obtain⟨i,hi,ei⟩:=(e va).1 ⟨ra,ka.least.1,ka.ent⟩
 have hL:=se_least hm hI ha' hb' e (show partner n v' < m by have:=par_lt hv;omega) ka.least hi (by rw [ka.ent,ei])
 have hir:=least_one hL kb.least
 have hv2:va=vb:=by
  have h1:=kb.ent
  rw [← hir,ei] at h1
  omega
 refine⟨fun x=>?_,hv2⟩
 rw [ka.mem,kb.mem,e x,hv2]
theorem pigeon: ∀(k N:Nat) (f:Nat→Nat),(∀i,i < N→f i < k)→(∀i j,i < j→j < N→f i≠f j)→N≤k
 | 0,N,f,h1,h2=>by
  cases N with
  | zero=>exact Nat.le_refl _
  | succ N=>exact absurd (h1 0 (by omega)) (by omega)
 | k+1,N,f,h1,h2=>by
  by_cases c: ∃i,i < N∧f i=k
  ·obtain⟨i0,hi0,e0⟩:=c
   have:=pigeon k (N - 1) (fun i=>if i < i0 then f i else f (i+1)) (fun i hi=>by
    show (if i < i0 then f i else f (i+1)) < k
    by_cases d:i < i0
    ·rw [if_pos d]
     have h3:=h1 i (by omega)
     have h4:=h2 i i0 d hi0
     omega
    ·rw [if_neg d]
     have h3:=h1 (i+1) (by omega)
     have h4:=h2 i0 (i+1) (by omega) (by omega)
     omega) (fun i j hij hj=>by
    show (if i < i0 then f i else f (i+1))≠(if j < i0 then f j else f (j+1))
    by_cases d:i < i0
    ·rw [if_pos d]
     by_cases d2:j < i0
     ·rw [if_pos d2];exact h2 i j hij (by omega)
     ·rw [if_neg d2];exact h2 i (j+1) (by omega) (by omega)
    ·rw [if_neg d,if_neg (by omega)]
     exact h2 (i+1) (j+1) (by omega) (by omega))
   omega
  ·have:=pigeon k N f (fun i hi=>by
    have h3:=h1 i hi
    have h4:f i≠k:=fun e=>c ⟨i,hi,e⟩
    omega) h2
   omega
def cf (i0:Nat) (f:Nat→Bool):Nat→Nat
 | 0=>0
 | j+1=>if j=i0 then cf i0 f j else 2*cf i0 f j+(if f j=true then 1 else 0)
theorem cf_eq {i0:Nat} {f g:Nat→Bool}: ∀ {j:Nat},cf i0 f j=cf i0 g j→ ∀k,k < j→k≠i0→f k=g k
 | 0,_,k,hk,_=>absurd hk (by omega)
 | j+1,h,k,hk,hne=>by
  unfold cf at h
  by_cases c:j=i0
  ·rw [if_pos c,if_pos c] at h
   exact cf_eq h k (by omega) hne
  ·rw [if_neg c,if_neg c] at h
   have hb: ∀b:Bool,(if b=true then 1 else 0)≤1:=fun b=>by cases b <;> decide
   have h1:=hb (f j)
   have h2:=hb (g j)
   have e:cf i0 f j=cf i0 g j∧(if f j=true then 1 else 0)=(if g j=true then 1 else 0):=by omega
   by_cases d:k=j
   ·rw [d]
    have:=e.2
    cases hf:f j <;> cases hg:g j <;> simp [hf,hg] at this ⊢
   ·exact cf_eq e.1 k (by omega) hne
theorem cf_lt (i0:Nat) (f:Nat→Bool): ∀j,cf i0 f j+1≤2 ^ j∧(i0 < j→cf i0 f j+1≤2 ^ (j - 1))
 | 0=>⟨by simp [cf],fun h=>absurd h (by omega)⟩
 | j+1=>by
  have ih:=cf_lt i0 f j
  have hb:(if f j=true then 1 else 0)≤1:=by cases f j <;> decide
  unfold cf
  rw [Nat.pow_succ,Nat.add_sub_cancel]
  by_cases c:j=i0
  ·rw [if_pos c]
   have:=ih.1
   exact⟨by omega,fun _=>by omega⟩
  ·rw [if_neg c]
   refine⟨by have:=ih.1;omega,fun h=>?_⟩
   have h2:=ih.2 (by omega)
   obtain⟨j',rfl⟩: ∃j',j=j'+1:=⟨j - 1,by omega⟩
   rw [Nat.add_sub_cancel] at h2
   rw [Nat.pow_succ]
   omega
open Classical in
include hn hn0 hm in
theorem many (a:Nat→TS × Nat × Nat) (N:Nat) (hN:160 < N) (hJ: ∀t,t < N→J n m A (a t).1 (a t).2.1 (a t).2.2): ∃i j,i < j∧j < N∧SE n (a i).1 (a j).1∧(a i).2.1=(a j).2.1:=by
 apply Classical.byContradiction
 intro hno
 have hp:=pigeon 160 N (fun t=>(a t).2.1*16+cf ((a t).2.1 % n) (fun j=>decide (inB n (a t).1.bs j)) n) (fun t ht=>?_) (fun i j hij hj he=>?_)
 ·omega
 ·have hv:=(hJ t ht).comp.lt
  have hc:=(cf_lt ((a t).2.1 % n) (fun j=>decide (inB n (a t).1.bs j)) n).2 (Nat.mod_lt _ hn0)
  have h5:2 ^ (n - 1)≤16:=Nat.le_trans (Nat.pow_le_pow_right (by decide) (show n - 1≤4 by omega)) (by decide)
  show (a t).2.1*16+_ < 160
  omega
 ·have hc: ∀t,cf ((a t).2.1 % n) (fun j=>decide (inB n (a t).1.bs j)) n < 16:=fun t=>by
   have hc:=(cf_lt ((a t).2.1 % n) (fun j=>decide (inB n (a t).1.bs j)) n).2 (Nat.mod_lt _ hn0)
   have h5:2 ^ (n - 1)≤16:=Nat.le_trans (Nat.pow_le_pow_right (by decide) (show n - 1≤4 by omega)) (by decide)
   omega
  have h1:=hc i
  have h2:=hc j
  have hv:(a i).2.1=(a j).2.1:=by
   have he':(a i).2.1*16+cf ((a i).2.1 % n) (fun k=>decide (inB n (a i).1.bs k)) n=(a j).2.1*16+cf ((a j).2.1 % n) (fun k=>decide (inB n (a j).1.bs k)) n:=he
   omega
  have hcc:cf ((a i).2.1 % n) (fun k=>decide (inB n (a i).1.bs k)) n=cf ((a i).2.1 % n) (fun k=>decide (inB n (a j).1.bs k)) n:=by
   have he':(a i).2.1*16+cf ((a i).2.1 % n) (fun k=>decide (inB n (a i).1.bs k)) n=(a j).2.1*16+cf ((a j).2.1 % n) (fun k=>decide (inB n (a j).1.bs k)) n:=he
   rw [← hv] at he'
   omega
  have Ji:=hJ i (by omega)
  have Jj:=hJ j hj
  have hci:=Ji.comp
  have hcj:=Jj.comp
  rw [← hv] at hcj
  obtain⟨v,hvv⟩: ∃v,(a i).2.1=v:=⟨_,rfl⟩
  rw [hvv] at hci hcj hcc
  have hlow: ∀k,k < n→k≠v→k≠partner n v→(inB n (a i).1.bs k↔inB n (a j).1.bs k):=fun k hk h3 h4=>by
   have hk2:k≠v % n:=fun e=>by
    have hvl:=hci.lt
    by_cases c:v < n
    ·rw [Nat.mod_eq_of_lt c] at e;exact h3 e
    ·have:v % n=v - n:=by rw [Nat.mod_eq_sub_mod (by omega),Nat.mod_eq_of_lt (by omega)]
     rw [this] at e
     exact h4 (by unfold partner;rw [if_neg c];exact e)
   have:=cf_eq hcc k hk hk2
   simpa using this
  refine hno ⟨i,j,hij,hj,fun x=>?_,hv⟩
  by_cases cx:x < 2*n
  ·by_cases h3:x=v
   ·rw [h3];exact⟨fun q=>absurd q hci.out,fun q=>absurd q hcj.out⟩
   ·by_cases h4:x=partner n v
    ·rw [h4];exact⟨fun q=>absurd q hci.out2,fun q=>absurd q hcj.out2⟩
    ·by_cases c:x < n
     ·exact hlow x c h3 h4
     ·rw [hci.one x cx h3 h4,hcj.one x cx h3 h4]
      have h5:partner n x≠v:=fun e=>h4 (by rw [← e,par_par cx])
      have h6:partner n x≠partner n v:=fun e=>h3 (by rw [← par_par cx,e,par_par hci.lt])
      have h7:partner n x < n:=by unfold partner;rw [if_neg c];omega
      rw [hlow _ h7 h5 h6]
  ·by_cases c:x=2*n
   ·rw [c];exact⟨fun _=>hcj.z0,fun _=>hci.z0⟩
   ·constructor
    ·rintro ⟨k,hk,e⟩
     have:=Ji.ok.lt k hk
     rw [e] at this;simp only [Int.toNat_natCast] at this;omega
    ·rintro ⟨k,hk,e⟩
     have:=Jj.ok.lt k hk
     rw [e] at this;simp only [Int.toNat_natCast] at this;omega
end
section
variable {n m:Nat}
def tr (n m:Nat) (x:TS × Nat × Nat):Nat→Option (TS × Nat × Nat)
 | 0=>some x
 | t+1=>(tr n m x t).bind fun y=>nx n m y.1 y.2.1 y.2.2
theorem go_tr (x:TS × Nat × Nat): ∀(q:Nat) (s:TS) (v r:Nat) (st:List (List Int)) (t:Nat),tr n m x t=some (s,v,r)→st.length=t+1→st.length≤200→(goI n m q s v r st).2.2.2.2≠0→tr n m x 199≠none
 | 0,s,v,r,st,t,_,_,_,h=>absurd rfl h
 | q+1,s,v,r,st,t,ht,hl,hle,h=>by
  unfold goI at h
  by_cases c:st.length=200
  ·obtain rfl:t=199:=by omega
   rw [ht];simp
  ·rw [if_neg c] at h
   by_cases d:s.bs.getD r 0=2*(n:Int)
   ·rw [if_pos d] at h;exact absurd rfl h
   ·rw [if_neg d] at h
    cases hrow:rowB n m (s.step r v) (fun i=>(s.step r v).T i (partner n (s.bs.getD r 0).toNat)) with
    | none=>rw [hrow] at h;exact absurd rfl h
    | some r'=>
     rw [hrow] at h
     have ht2:tr n m x (t+1)=some (s.step r v,partner n (s.bs.getD r 0).toNat,r'):=by
      show (tr n m x t).bind _=_
      rw [ht]
      show nx n m s v r=_
      unfold nx
      rw [if_neg d,hrow]
     exact go_tr x q _ _ _ _ (t+1) ht2 (by simp;omega) (by simp;omega) h
theorem tr_le (x:TS × Nat × Nat): ∀k t,tr n m x (t+k)≠none→tr n m x t≠none
 | 0,t,h=>h
 | k+1,t,h=>tr_le x k t (fun e=>h (by show (tr n m x (t+k)).bind _=none;rw [e];rfl))
variable {A:Mat} (hn:n≤5) (hn0:0 < n) (hm:m=2*n+2) (hA:Small n m A) (hI: ∀i j,i < n→j < n→A i j=if i=j then 1 else 0)
include hn hn0 hm hA hI
theorem no_199 {s:TS} {v r:Nat} (h:J n m A s v r) (hneg: ∀i,i < n→s.T i (partner n v)≤0):tr n m (s,v,r) 199=none:=by
 apply Classical.byContradiction
 intro hne
 have hall: ∀t, ∃y,t < 200→tr n m (s,v,r) t=some y:=fun t=>by
  by_cases c:t < 200
  ·cases e:tr n m (s,v,r) t with
   | none=>exact absurd e (tr_le _ (199 - t) t (by rw [show t+(199 - t)=199 from by omega];exact hne))
   | some y=>exact⟨y,fun _=>rfl⟩
  ·exact⟨(s,v,r),fun q=>absurd q c⟩
 obtain⟨a,ha⟩:=Classical.axiomOfChoice hall
 have h0:a 0=(s,v,r):=by have:=ha 0 (by omega);injection this with this;exact this.symm
 have hnx: ∀t,t+1 < 200→nx n m (a t).1 (a t).2.1 (a t).2.2=some (a (t+1)):=fun t ht=>by
  have h1:=ha (t+1) ht
  have h2:(tr n m (s,v,r) t).bind (fun y=>nx n m y.1 y.2.1 y.2.2)=some (a (t+1)):=h1
  rw [ha t (by omega)] at h2
  exact h2
 have hJ: ∀t,t < 200→J n m A (a t).1 (a t).2.1 (a t).2.2:=by
  intro t
  induction t with
  | zero=>intro _;rw [h0];exact h
  | succ t ih=>intro ht;exact(nx_J hn hn0 hm hA hI (ih (by omega)) (hnx t ht)).1
 have hB: ∀t,t+1 < 200→Bk n m (a t).1 (a t).2.1 (a t).2.2 (a (t+1)).1 (a (t+1)).2.1:=fun t ht=>(nx_J hn hn0 hm hA hI (hJ t (by omega)) (hnx t ht)).2
 obtain⟨i,j,hij,hj,hse,hv⟩:=many hn hn0 hm a 200 (by omega) hJ
 have back: ∀k d,k+d < 200→SE n (a k).1 (a (k+d)).1→(a k).2.1=(a (k+d)).2.1→SE n (a 0).1 (a d).1∧(a 0).2.1=(a d).2.1:=by
  intro k
  induction k with
  | zero=>intro d _ h1 h2;rw [Nat.zero_add] at h1 h2;exact⟨h1,h2⟩
  | succ k ih=>
   intro d hd h1 h2
   have e:k+1+d=k+d+1:=by omega
   rw [e] at h1 h2
   have hb2:=hB (k+d) (by omega)
   rw [← h2] at hb2
   obtain⟨g1,g2⟩:=back_one hm hI (hJ k (by omega)) (hJ (k+d) (by omega)) (hJ (k+1) (by omega)).ok (hJ (k+d+1) (by omega)).ok (hJ (k+1) (by omega)).comp.lt (hB k (by omega)) hb2 h1
   exact ih d (by omega) g1 g2
 obtain⟨g1,g2⟩:=back i (j - i) (by omega) (by rw [show i+(j - i)=j from by omega];exact hse) (by rw [show i+(j - i)=j from by omega];exact hv)
 obtain⟨d,hd⟩: ∃d,j - i=d+1:=⟨j - i - 1,by omega⟩
 rw [hd] at g1 g2
 have hb:=hB d (by omega)
 rw [h0] at g1 g2
 simp only at g1 g2
 rw [← g2] at hb
 have hr2:=hb.least.1
 have hp:0 < (a (d+1)).1.T (a d).2.2 (partner n v):=hb.least.2.1
 have hok:=(hJ (d+1) (by omega)).ok
 have hnn:=hok.nn _ hr2
 obtain⟨k,hk,ek⟩:=(g1 ((a (d+1)).1.bs.getD (a d).2.2 0).toNat).2 ⟨_,hr2,by omega⟩
 have hrow:=se_rows hm hI h.ok hok g1 hk hr2 (show partner n v < m by have:=par_lt h.comp.lt;omega) (by rw [ek];omega)
 have h1:=Int.mul_pos hp h.ok.tab.pos
 have h2:=hneg k hk
 rw [← hrow] at h1
 have h3:=hok.tab.pos
 have h4:s.T k (partner n v)*(a (d+1)).1.den≤0:=Int.mul_nonpos_of_nonpos_of_nonneg h2 (Int.le_of_lt h3)
 omega
end
open Go.Proofs.Ytmpkckiifeikkaa.Pr Go.Proofs.Ytmpkckiifeikkaa.Lq in
theorem no_limit {M:List (List Int)} {Q cv:List Int} (h:PC M Q cv Q.length) (most:Nat):(lkR M Q cv most).2.2.2.2=0:=by
 have hn0:=h.pos
 have hA:=first_small (n:=Q.length) (M:=enL M) (cv:=fun i=>cv.getD i 0) (q:=fun i=>Q.getD i 0) h.Mb (fun i hi=>by have:=h.cb i hi;omega) h.qb
 have hok:=first_ok (n:=Q.length) (M:=enL M) (cv:=fun i=>cv.getD i 0) (q:=fun i=>Q.getD i 0)
 have hI: ∀i j,i < Q.length→j < Q.length→tab0 Q.length (enL M) (fun i=>cv.getD i 0) (fun i=>Q.getD i 0) i j=if i=j then 1 else 0:=fun i j hi hj=>tab0_unit hi hj
 have hcv: ∀i,i < Q.length→0 < (fun i=>cv.getD i 0) i:=fun i hi=>(h.cb i hi).1
 unfold lkR runI
 by_cases hf:feas Q.length (fun i=>Q.getD i 0)=true
 ·rw [if_pos hf]
 ·rw [if_neg hf]
  cases hrow:rowB Q.length (2*Q.length+2) (first Q.length (enL M) (fun i=>cv.getD i 0) (fun i=>Q.getD i 0)) (fun i=>cv.getD i 0) with
  | none=>rfl
  | some r=>
   have hl:=rowB_least (apart_of (by omega) hI hok) hrow
   have hl':Least (tab0 Q.length (enL M) (fun i=>cv.getD i 0) (fun i=>Q.getD i 0)) Q.length (cols Q.length (2*Q.length+2)) (fun i=>cv.getD i 0) r:=hl
   have hr:=hl.1
   cases most with
   | zero=>rfl
   | succ q=>
    show (goI Q.length (2*Q.length+2) (q+1) (first Q.length (enL M) (fun i=>cv.getD i 0) (fun i=>Q.getD i 0)) (2*Q.length) r []).2.2.2.2=0
    have hbr:(first Q.length (enL M) (fun i=>cv.getD i 0) (fun i=>Q.getD i 0)).bs.getD r 0=(r:Int):=by simp [first,idl,hr]
    obtain⟨s1,hs1⟩: ∃s1,(first Q.length (enL M) (fun i=>cv.getD i 0) (fun i=>Q.getD i 0)).step r (2*Q.length)=s1:=⟨_,rfl⟩
    unfold goI
    rw [if_neg (by simp),hbr,if_neg (by omega),Int.toNat_natCast,hs1]
    have hneg: ∀i,i < Q.length→s1.T i r < 0:=fun i hi=>by rw [← hs1];exact first_neg h.le hA hcv hl' hi
    have hlex:LexRows Q.length (2*Q.length+2) s1:=by rw [← hs1];exact first_lex h.le hA hcv hl' hf
    have hok1:Ok Q.length (2*Q.length+2) (tab0 Q.length (enL M) (fun i=>cv.getD i 0) (fun i=>Q.getD i 0)) s1:=by
     rw [← hs1]
     refine hok.step h.le hA hr (by omega) ?_
     show tab0 Q.length (enL M) (fun i=>cv.getD i 0) (fun i=>Q.getD i 0) r (2*Q.length)≠0
     rw [tab0_cv]
     have h3:0 < cv.getD r 0:=hcv r hr
     show - cv.getD r 0≠0
     omega
    cases hrow2:rowB Q.length (2*Q.length+2) s1 (fun i=>s1.T i (partner Q.length r)) with
    | none=>rfl
    | some r1=>
     show (goI Q.length (2*Q.length+2) q s1 (partner Q.length r) r1 ([]++ [[((2*Q.length:Nat):Int),(r:Int)]])).2.2.2.2=0
     have hidl: ∀x,inB Q.length (idl Q.length) x↔x < Q.length:=fun x=>by
      constructor
      ·rintro ⟨i,hi,e⟩
       simp [idl,hi] at e;omega
      ·intro hx;exact⟨x,hx,by simp [idl,hx]⟩
     have hbr2:(idl Q.length).getD r 0=(r:Int):=by simp [idl,hr]
     have hbs:s1.bs=(idl Q.length).set r ((2*Q.length:Nat):Int):=by rw [← hs1];rfl
     have hS: ∀x,inB Q.length s1.bs x↔x=2*Q.length∨(x < Q.length∧x≠r):=fun x=>by
      rw [hbs,inB_set (l:=r) (by simp [idl]) hr hbr2 (fun i j hi hj e=>by simp [idl,hi,hj] at e;omega),hidl]
     have hp:partner Q.length r=r+Q.length:=by unfold partner;rw [if_pos hr]
     have hpp:partner Q.length (partner Q.length r)=r:=par_par (by omega)
     have hcomp:Comp Q.length s1.bs (partner Q.length r):=by
      refine⟨by rw [hp];omega,(hS _).2 (.inl rfl),fun q=>?_,fun q=>?_,fun x hx h1 h2=>?_⟩
      ·rw [hS,hp] at q;omega
      ·rw [hpp,hS] at q;omega
      ·rw [hpp] at h2
       rw [hp] at h1
       rw [hS,hS]
       have hx2:partner Q.length x=if x < Q.length then x+Q.length else x - Q.length:=rfl
       by_cases c:x < Q.length
       ·rw [hx2,if_pos c];omega
       ·rw [hx2,if_neg c];omega
     have aa:J Q.length (2*Q.length+2) (tab0 Q.length (enL M) (fun i=>cv.getD i 0) (fun i=>Q.getD i 0)) s1 (partner Q.length r) r1:=⟨hok1,hlex,hcomp,rowB_least (apart_of (by omega) hI hok1) hrow2⟩
     apply Classical.byContradiction
     intro hne
     exact go_tr (s1,partner Q.length r,r1) q s1 (partner Q.length r) r1 _ 0 rfl (by simp) (by simp) hne (no_199 h.le hn0 rfl hA hI aa (fun i hi=>by rw [hpp];exact Int.le_of_lt (hneg i hi)))
end Go.Proofs.Ytmpkckiifeikkaa.Lcy
end
section
namespace Go.Proofs.Ytmpkckiifeikkaa.Lcy
open Go.RowKit Go.Proofs.YtmpkckiifeikkaaW.PrintWords Go.Proofs.YtmpkckiifeikkaaW.PrintMore Go.Proofs.Ytmpkckiifeikkaa.Ma Go.Proofs.Ytmpkckiifeikkaa.Dt Go.Proofs.Ytmpkckiifeikkaa.Bz Go.Proofs.Ytmpkckiifeikkaa.Lk Go.Proofs.Ytmpkckiifeikkaa.Lt Go.Proofs.Ytmpkckiifeikkaa.Pr Go.Proofs.Ytmpkckiifeikkaa.Lq
section
variable {n m:Nat} {A:Mat}
theorem goI_pre: ∀(q:Nat) (s:TS) (v r:Nat) (st:List (List Int)), ∃e,(goI n m q s v r st).2.1=st++e:=by
 intro q
 induction q with
 | zero=>intro s v r st;exact⟨[],(List.append_nil _).symm⟩
 | succ q ih=>
  intro s v r st
  unfold goI
  split
  ·exact⟨[],(List.append_nil _).symm⟩
  ·split
   ·exact⟨_,rfl⟩
   ·split
    ·exact⟨_,rfl⟩
    ·obtain⟨e,he⟩:=ih (s.step r v) (partner n (s.bs.getD r 0).toNat) ‹_› (st++ [[(v:Int),s.bs.getD r 0]])
     exact⟨_,by rw [he,List.append_assoc]⟩
variable (hn:n≤5) (hn0:0 < n) (hm:m=2*n+2) (hA:Small n m A) (hI: ∀i j,i < n→j < n→A i j=if i=j then 1 else 0)
include hn hn0 hm hA hI
end
end Go.Proofs.Ytmpkckiifeikkaa.Lcy
end
section
namespace Go.Proofs.Ytmpkckiifeikkaa.Pr
open Go.RowKit Go.Proofs.YtmpkckiifeikkaaW.PrintWords Go.Proofs.YtmpkckiifeikkaaW.PrintLast Go.Proofs.YtmpkckiifeikkaaW.PrintMore Go.Proofs.Ytmpkckiifeikkaa.Ma Go.Proofs.Ytmpkckiifeikkaa.Dt Go.Proofs.Ytmpkckiifeikkaa.Lk Go.Proofs.Ytmpkckiifeikkaa.Lt Go.Proofs.Ytmpkckiifeikkaa.Lq
def afC' (R:TS × List (List Int) × Bool × Int × Int) (c k:Int):Int:=if c=0 then(if R.2.2.2.2=0 then(if 0≤k∧k≤(R.2.1.length:Int) then 0 else 2) else R.2.2.2.2) else c
def afC (M:List (List Int)) (Q cv:List Int) (k:Int):Int:=afC' (lkR M Q cv 201) (lkCode M Q cv) k
theorem afC_lk {M:List (List Int)} {Q cv:List Int} {k:Int} (h:afC M Q cv k=0):lkCode M Q cv=0∧(lkR M Q cv 201).2.2.2.2=0∧0≤k∧k≤((lkR M Q cv 201).2.1.length:Int):=by
 unfold afC afC' at h
 by_cases c:lkCode M Q cv=0
 ·rw [if_pos c] at h
  by_cases d:(lkR M Q cv 201).2.2.2.2=0
  ·rw [if_pos d] at h
   by_cases e:0≤k∧k≤((lkR M Q cv 201).2.1.length:Int)
   ·exact⟨c,d,e.1,e.2⟩
   ·rw [if_neg e] at h;cases h
  ·rw [if_neg d] at h;exact absurd h d
 ·rw [if_neg c] at h;exact absurd h c
theorem within2_f (n a b:Int):impl_within.f n a b=some (decide (a≤n∧n≤b)):=by
 unfold impl_within.f
 by_cases h:a≤n
 ·rw [if_pos (by omega)];simp [h]
 ·rw [if_neg (by omega)];simp [h]
theorem after_calls (A0:Option Addr) (c0:Nat) (M:List (List Int)) (A1:Option Addr) (c1:Nat) (Q:List Int) (A2:Option Addr) (c2:Nat) (cv:List Int) (k:Int) (w:World)
  (hC0:Kd.C (Kd.slice 2 (Kd.int .i64)) w A0 M.length M) (hc0:M.length≤c0) (hC1:Kd.C (Kd.int .i64) w A1 Q.length Q) (hc1:Q.length≤c1) (hC2:Kd.C (Kd.int .i64) w A2 cv.length cv) (hc2:cv.length≤c2):
  Calls Try.prog 88 #[.agg #[.slice A0 M.length c0, .slice A1 Q.length c1], .slice A2 cv.length c2, .int .i64 k] w fun e w'=>
   ((afC M Q cv k≠0∧e= .returned (.tuple #[.pointer none, .int .i64 (afC M Q cv k)]))∨(afC M Q cv k=0∧ ∃lo hi t,e= .returned (.tuple #[.pointer (some ⟨t,0,none⟩), .int .i64 0])∧w.heap.size≤lo∧TmE w' lo hi t Q.length (2*Q.length+2) (lkR M Q cv k.toNat).1))∧Below w.heap.size w w':=by
 have HB:=Aside0.mk (Below.refl w.heap.size w)
 have hcall:=fun W (hb:Below w.heap.size w W)=>runOf_calls A0 c0 M A1 c1 Q A2 c2 cv W (Kd.C_below hC0 hb) hc0 (Kd.C_below hC1 hb) hc1 (Kd.C_below hC2 hb) hc2
 have HL:=Aside0.mk hcall
 have hrun:=fun(h:lkCode M Q cv=0) W (hb:Below w.heap.size w W) (N:Nat)=>run_calls A0 c0 M A1 c1 Q A2 c2 cv N W Q.length (Kd.C_below hC0 hb) (Kd.C_below hC1 hb) (Kd.C_below hC2 hb) hc0 hc1 hc2 (lkCode_pc h).lM rfl (lkCode_pc h).rows (lkCode_pc h).pos (lkCode_pc h).le (lkCode_pc h).lcv (lkCode_pc h).Mb (lkCode_pc h).cb (lkCode_pc h).qb (lkR M Q cv N) (by unfold lkR;rfl)
 have HRUN:=Aside0.mk hrun
 clear hcall hrun hC0 hc0 hC1 hc1 hC2 hc2
 obtain⟨a,ha⟩: ∃a,afC M Q cv k=a:=⟨_,rfl⟩
 have HA0:Aside0 (afC' (lkR M Q cv 201) (lkCode M Q cv) k=a):=⟨ha⟩
 rw [ha]
 clear ha
 obtain⟨R,hR⟩: ∃R,lkR M Q cv 201=R:=⟨_,rfl⟩
 rw [hR] at HA0 HL
 clear hR
 obtain⟨c,hc⟩: ∃c,lkCode M Q cv=c:=⟨_,rfl⟩
 rw [hc] at HA0 HL HRUN
 clear hc
 generalize M.length=m0 at HL HRUN ⊢
 obtain⟨n,hn⟩: ∃n,Q.length=n:=⟨_,rfl⟩
 rw [hn] at HL HRUN ⊢
 clear hn
 generalize cv.length=m2 at HL HRUN ⊢
 go_enter Try.func88,Try.ntmps88
 go_wp2_with (first | ((with_reducible refine gate_dst (N:=3) rfl ?_);refine box_event ?hg (N:=3) ?hd (cs:= #[.slice A0 m0 c0, .slice A1 n c1]) (t:=30) ?hr ?_;(case hd=>rfl);(case hg=>rfl);(case hr=>first | (go_simp;done) | (go_simp;rfl));intro g3 hg w2 hbox hb;replace HB:=Aside0.mk (below_step HB.out hb);have B3:=Aside0.mk hbox;have hz0:=cz_ B3 0;have hz1:=cz_ B3 1;clear hb hbox hg))
 refine(HL.out w2 HB.out).mono ?_
 rintro e w3 ⟨hor,hb⟩
 have HBS:=Aside0.mk HB.out.size
 replace HB:=Aside0.mk (below_step HB.out hb)
 replace B3:=Aside0.mk (blk_below B3.out hb)
 clear hb hz0 hz1 HL
 rcases hor with ⟨hc,rfl⟩ | ⟨rfl,p,rfl,hP⟩
 ·have hcb:(c==0)=false:=by simpa using hc
  have e1:c=a:=by have h:=HA0.out;unfold afC' at h;rw [if_neg hc] at h;exact h
  subst e1
  clear HA0 HRUN
  go_wp2
  go_ret2
  exact⟨.inl ⟨hc,rfl⟩,HB.out⟩
 ·obtain⟨cR,hcR⟩: ∃c,R.2.2.2.2=c:=⟨_,rfl⟩
  rw [hcR] at hP
  have HP:=Aside0.mk (hP.base HBS.out)
  have HA1:Aside0 ((if cR=0 then(if 0≤k∧k≤(R.2.1.length:Int) then 0 else 2) else cR)=a):=⟨by have h:=HA0.out;unfold afC' at h;rw [if_pos rfl,hcR] at h;exact h⟩
  clear HA0 hP
  rw [hcR]
  clear hcR
  by_cases hc0:cR=0
  ·subst hc0
   have HA2:Aside0 ((if 0≤k∧k≤(R.2.1.length:Int) then 0 else 2)=a):=⟨by have h:=HA1.out;rw [if_pos rfl] at h;exact h⟩
   clear HA1
   have hq1: ∃A9 c9,w3.cell? ⟨p,1,none⟩=some (.slice A9 R.2.1.length c9):=by
    obtain⟨lo,hi,t,u1,h1,h2,h3,hT,hB,hS⟩:=HP.out
    obtain⟨A9,c9,rfl⟩:=Kd.S_slice hS
    exact⟨A9,c9,cz_ ⟨hB⟩ 1⟩
   obtain⟨A9,c9,hq1⟩:=hq1
   clear HP
   obtain⟨ls,hls⟩: ∃x,R.2.1.length=x:=⟨_,rfl⟩
   rw [hls] at hq1 HA2
   clear hls
   obtain⟨z,hz⟩: ∃z,decide (0≤k∧k≤(ls:Int))=z:=⟨_,rfl⟩
   have HW:=Aside0.mk ((within2_f k 0 (ls:Int)).trans (by rw [hz]))
   have HZ:=Aside0.mk hz
   clear hz
   go_wp2_with fail
   refine(impl_within.calls k 0 (ls:Int) z _ HW.out).mono ?_
   rintro e w4 ⟨rfl,⟨nd,rfl⟩⟩
   replace HB:=Aside0.mk (below_step HB.out (pw_below_drewN (Below.refl w3.heap.size w3) nd))
   replace B3:=Aside0.mk (blk_below B3.out (pw_below_drewN (Below.refl w3.heap.size w3) nd))
   clear hq1 HW
   generalize w3.drewN nd=w4 at HB B3 ⊢
   cases z with
   | false=>
    have e1:a=2:=by have h:=HA2.out;rw [if_neg (of_decide_eq_false HZ.out)] at h;exact h.symm
    subst e1
    clear HA2 HRUN
    go_wp2
    go_ret2
    exact⟨.inl ⟨by decide,rfl⟩,HB.out⟩
   | true=>
    have hk:=of_decide_eq_true HZ.out
    have e1:a=0:=by have h:=HA2.out;rw [if_pos hk] at h;exact h.symm
    subst e1
    obtain⟨N,rfl⟩:=Int.eq_ofNat_of_zero_le hk.1
    have HR2:=Aside0.mk (HRUN.out (by first | exact rfl | trivial) w4 HB.out N)
    clear HRUN HA2 hk HZ
    have hz0:=cz_ B3 0
    have hz1:=cz_ B3 1
    obtain⟨R2,hR2⟩: ∃x,lkR M Q cv N=x:=⟨_,rfl⟩
    rw [hR2] at HR2
    have HE:=Aside0.mk hR2
    clear hR2
    go_wp2_with fail
    refine HR2.out.mono ?_
    rintro e w5 ⟨p2,rfl,hP,hb⟩
    have HP2:=Aside0.mk (hP.base HB.out.size)
    replace HB:=Aside0.mk (below_step HB.out hb)
    clear hP hb hz0 hz1 HR2 B3
    obtain⟨lo,hi,t,u1,h1,h2,h3,hT,hB,hS⟩:=HP2.out
    have hq0:=cz_ ⟨hB⟩ 0
    have HT:=Aside0.mk hT
    have HLO:=Aside0.mk h1
    clear h1 h2 h3 hT hB hS HP2
    go_wp2
    go_ret2
    exact⟨⟨lo,hi,t,rfl,HLO.out,by first | (rw [HE.out];exact HT.out) | (rw [Int.toNat_natCast,HE.out];exact HT.out)⟩,HB.out⟩
  ·have hcb:(cR==0)=false:=by simpa using hc0
   have e1:cR=a:=by have h:=HA1.out;rw [if_neg hc0] at h;exact h
   subst e1
   clear HA1 HP HRUN
   go_wp2
   go_ret2
   exact⟨.inl ⟨hc0,rfl⟩,HB.out⟩
end Go.Proofs.Ytmpkckiifeikkaa.Pr
end
section
namespace Go.Proofs.Ytmpkckiifeikkaa.Lsa
open Go.RowKit Go.Proofs.YtmpkckiifeikkaaW.PrintWords Go.Proofs.YtmpkckiifeikkaaW.PrintMore Go.Proofs.Ytmpkckiifeikkaa.Ma Go.Proofs.Ytmpkckiifeikkaa.Pr Go.Proofs.Ytmpkckiifeikkaa.Dt Go.Proofs.Ytmpkckiifeikkaa.Lk Go.Proofs.Ytmpkckiifeikkaa.Lt Go.Proofs.Ytmpkckiifeikkaa.Lq Go.Proofs.Ytmpkckiifeikkaa.Fr
theorem outL_ok {f:Nat→Int × Int × Int}: ∀(q x:Nat) (acc:List S93),(∀y,x≤y→y < x+q→(f y).2.2=0)→outL f q x acc=(acc++(List.range' x q).map (fun y=>⟨(f y).1,(f y).2.1⟩),0):=by
 intro q
 induction q with
 | zero=>intro x acc _;simp [outL]
 | succ q ih=>
  intro x acc h
  unfold outL
  rw [if_pos (h x (Nat.le_refl _) (by omega)),ih (x+1) _ (fun y h1 h2=>h y (by omega) (by omega)),List.range'_succ,List.map_cons,List.append_assoc]
  rfl
def rtL (s:TS) (n:Nat):List S93:=(List.range' 0 n).map (fun i=>⟨(redV (s.T i (2*n+1)) s.den).1,(redV (s.T i (2*n+1)) s.den).2.1⟩)
theorem rtL_len (s:TS) (n:Nat):(rtL s n).length=n:=by simp [rtL]
section
variable {M:List (List Int)} {Q cv:List Int} (h:PC M Q cv Q.length)
include h
theorem right_ok (k:Nat) {i:Nat} (hi:i < Q.length) {c:Nat} (hc:c < 2*Q.length+2):(redV ((lkR M Q cv k).1.T i c) (lkR M Q cv k).1.den).2.2=0:=by
 have hA:=first_small (n:=Q.length) (M:=enL M) (cv:=fun i=>cv.getD i 0) (q:=fun i=>Q.getD i 0) h.Mb (fun i hi=>by have:=h.cb i hi;omega) h.qb
 have hok:=(lkR_ok h k).1
 exact Lhd.redV_ok (Lhd.ok_root h.le hA hok hi hc) (Lhd.ok_den h.le hA hok)
theorem right_list (k:Nat):outL (fun i=>redV ((lkR M Q cv k).1.T i (2*Q.length+1)) (lkR M Q cv k).1.den) Q.length 0 []=(rtL (lkR M Q cv k).1 Q.length,0):=
 outL_ok Q.length 0 [] (fun y _ hy=>right_ok h k (by omega) (by omega))
end
end Go.Proofs.Ytmpkckiifeikkaa.Lsa
end
section
namespace Go.Proofs.Ytmpkckiifeikkaa.Lsa
open Go.RowKit Go.Proofs.YtmpkckiifeikkaaW.PrintWords Go.Proofs.YtmpkckiifeikkaaW.PrintMore Go.Proofs.Ytmpkckiifeikkaa.Ma Go.Proofs.Ytmpkckiifeikkaa.Pr Go.Proofs.Ytmpkckiifeikkaa.Dt Go.Proofs.Ytmpkckiifeikkaa.Lk Go.Proofs.Ytmpkckiifeikkaa.Lt Go.Proofs.Ytmpkckiifeikkaa.Lq Go.Proofs.Ytmpkckiifeikkaa.Fr
def lastI (s:TS) (x:Nat):Nat→Option Nat
 | 0=>none
 | i+1=>if s.bs.getD i 0=(x:Int) then some i else lastI s x i
theorem lastI_some {s:TS} {x k:Nat}: ∀ {i:Nat},lastI s x i=some k→k < i∧s.bs.getD k 0=(x:Int)
 | 0,h=>by cases h
 | i+1,h=>by
  unfold lastI at h
  split at h
  ·injection h with h;subst h;exact⟨by omega, ‹_›⟩
  ·have:=lastI_some h;exact⟨by omega,this.2⟩
def num (s:TS) (n:Nat):Option Nat→Int
 | some k=>s.T k (2*n+1)
 | none=>0
theorem valL_at (s:TS) (n x:Nat) (hx:x < 2*n) (hnn: ∀i,i < n→0≤s.bs.getD i 0): ∀i,i≤n→(valL s n i).getD x 0=num s n (lastI s x i)
 | 0,_=>by
  unfold valL lastI
  rw [List.getD_eq_getElem?_getD,List.getElem?_replicate,if_pos hx];rfl
 | i+1,hi=>by
  have ih:=valL_at s n x hx hnn i (by omega)
  have h0:=hnn i (by omega)
  unfold valL lastI
  by_cases c:s.bs.getD i 0 < 2*(n:Int)
  ·rw [if_pos c]
   by_cases d:s.bs.getD i 0=(x:Int)
   ·rw [if_pos d,d,Int.toNat_natCast,List.getD_eq_getElem?_getD,List.getElem?_set_self (by rw [valL_len];exact hx)];rfl
   ·rw [if_neg d, ← ih,List.getD_eq_getElem?_getD,List.getElem?_set_ne (by omega), ← List.getD_eq_getElem?_getD]
  ·rw [if_neg c,if_neg (by omega)];exact ih
def frac (x:Int × Int × Int):S93:=⟨x.1,x.2.1⟩
def zsL (s:TS) (n:Nat):List S93:=(List.range' 0 n).map (fun j=>frac (redV (num s n (lastI s (n+j) n)) s.den))
theorem zsL_len (s:TS) (n:Nat):(zsL s n).length=n:=by simp [zsL]
section
variable {M:List (List Int)} {Q cv:List Int} (h:PC M Q cv Q.length)
include h
theorem z_ok (k j:Nat):(redV (num (lkR M Q cv k).1 Q.length (lastI (lkR M Q cv k).1 j Q.length)) (lkR M Q cv k).1.den).2.2=0:=by
 have hA:=first_small (n:=Q.length) (M:=enL M) (cv:=fun i=>cv.getD i 0) (q:=fun i=>Q.getD i 0) h.Mb (fun i hi=>by have:=h.cb i hi;omega) h.qb
 have hok:=(lkR_ok h k).1
 cases e:lastI (lkR M Q cv k).1 j Q.length with
 | some r=>exact right_ok h k (lastI_some e).1 (by omega)
 | none=>exact Lhd.redV_ok (a:=0) ⟨by decide,by decide⟩ (Lhd.ok_den h.le hA hok)
theorem z_list (k:Nat):outL (fun j=>redV (((valL (lkR M Q cv k).1 Q.length Q.length).drop Q.length).getD j 0) (lkR M Q cv k).1.den) Q.length 0 []=(zsL (lkR M Q cv k).1 Q.length,0):=by
 have hok:=(lkR_ok h k).1
 have e: ∀j,j < Q.length→((valL (lkR M Q cv k).1 Q.length Q.length).drop Q.length).getD j 0=num (lkR M Q cv k).1 Q.length (lastI (lkR M Q cv k).1 (Q.length+j) Q.length):=fun j hj=>by
  rw [List.getD_eq_getElem?_getD,List.getElem?_drop, ← List.getD_eq_getElem?_getD]
  exact valL_at _ _ _ (by omega) hok.nn _ (Nat.le_refl _)
 rw [outL_ok Q.length 0 [] (fun y _ hy=>by show (redV (((valL (lkR M Q cv k).1 Q.length Q.length).drop Q.length).getD y 0) _).2.2=0;rw [e y (by omega)];exact z_ok h k _)]
 unfold zsL
 rw [List.nil_append]
 refine congrArg (fun l=>(l,(0:Int))) (List.map_congr_left (fun j hj=>?_))
 have:=(List.mem_range'_1.1 hj).2
 rw [e j (by omega)]
 rfl
end
theorem solved_none {M:List (List Int)} {Q cv:List Int} {k:Nat} (h1:(lkR M Q cv k).2.2.1=true) (h2:(lkR M Q cv k).2.1= []):(lkR M Q cv k).1.bs=idl Q.length∧(lkR M Q cv k).1.den=1:=by
 revert h1 h2
 unfold lkR runI
 split
 ·intro _ _;exact⟨rfl,rfl⟩
 ·split
  ·intro h;cases h
  ·intro h1 h2
   exfalso
   revert h1 h2
   generalize ‹Nat› =r
   have all: ∀(q:Nat) (s:TS) (v r:Nat),(goI Q.length (2*Q.length+2) q s v r []).2.2.1=true→(goI Q.length (2*Q.length+2) q s v r []).2.1= []→False:=by
    intro q s v r
    cases q with
    | zero=>intro h;cases h
    | succ q=>
     unfold goI
     split
     ·intro h;cases h
     ·split
      ·intro _ h;cases h
      ·split
       ·intro h;cases h
       ·intro _ h
        obtain⟨e,he⟩:=Lcy.goI_pre (n:=Q.length) (m:=2*Q.length+2) q (s.step r v) (partner Q.length (s.bs.getD r 0).toNat) ‹_› ([]++ [[(v:Int),s.bs.getD r 0]])
        rw [he] at h
        simp at h
   exact all _ _ _ _
theorem zs_first {s:TS} {n:Nat} (h:s.bs=idl n) (hd:s.den=1):zsL s n=List.replicate n ⟨0,1⟩:=by
 unfold zsL
 rw [List.eq_replicate_iff]
 refine⟨by simp,fun x hx=>?_⟩
 obtain⟨j,hj,rfl⟩:=List.mem_map.1 hx
 have none_: ∀i,i≤n→lastI s (n+j) i=none:=fun i=>by
  induction i with
  | zero=>intro _;rfl
  | succ i ih=>
   intro hi
   unfold lastI
   rw [if_neg,ih (by omega)]
   rw [h]
   have:(idl n).getD i 0=(i:Int):=by simp [idl,show i < n by omega]
   rw [this];omega
 rw [none_ n (Nat.le_refl _),hd]
 show frac (redV 0 1)=_
 rw [redV_zero (by decide) (by decide)]
 rfl
end Go.Proofs.Ytmpkckiifeikkaa.Lsa
end
section
namespace Go.Proofs.Ytmpkckiifeikkaa.Lsa
open Go.RowKit Go.Proofs.YtmpkckiifeikkaaW.PrintWords Go.Proofs.YtmpkckiifeikkaaW.PrintMore Go.Proofs.Ytmpkckiifeikkaa.Ma Go.Proofs.Ytmpkckiifeikkaa.Pr Go.Proofs.Ytmpkckiifeikkaa.Dt Go.Proofs.Ytmpkckiifeikkaa.Lk Go.Proofs.Ytmpkckiifeikkaa.Lt Go.Proofs.Ytmpkckiifeikkaa.Lq Go.Proofs.Ytmpkckiifeikkaa.Lp
end Go.Proofs.Ytmpkckiifeikkaa.Lsa
end
section
namespace Go.Proofs.Ytmpkckiifeikkaa.Pr
open Go.RowKit Go.Proofs.YtmpkckiifeikkaaW.PrintWords Go.Proofs.YtmpkckiifeikkaaW.PrintLast Go.Proofs.YtmpkckiifeikkaaW.PrintMore Go.Proofs.Ytmpkckiifeikkaa.Ma Go.Proofs.Ytmpkckiifeikkaa.Dt Go.Proofs.Ytmpkckiifeikkaa.Lk Go.Proofs.Ytmpkckiifeikkaa.Lt Go.Proofs.Ytmpkckiifeikkaa.Lq
def baF (s:TS) (c:Int):List Int × Int:=if c=0 then(s.bs,0) else([],c)
def impl_BasisAfter.f (aa:List (List Int)) (ae l1:List Int) (a2:Int):Option (List Int × Int):=some (baF (lkR aa ae l1 a2.toNat).1 (afC aa ae l1 a2))
theorem take_next (l:List Int) {i:Nat} (h:i < l.length):l.take (i+1)=l.take i++ [l.getD i 0]:=by
 rw [List.take_add_one,List.getElem?_eq_getElem h,List.getD_eq_getElem?_getD,List.getElem?_eq_getElem h];rfl
theorem impl_BasisAfter.calls (af:Option Addr) (ag:Nat) (ae:List (List Int)) (ah:Option Addr) (ai:Nat) (aa:List Int) (A1:Option Addr) (c1:Nat) (l1:List Int) (a2:Int) (r1:List Int) (r2:Int) (w:World) (aj:Kd.C (Kd.slice 2 (Kd.int .i64)) w af ae.length ae) (ak:ae.length≤ag) (aq:Kd.C (Kd.int .i64) w ah aa.length aa) (au:aa.length≤ai) (hr1:Kd.C (Kd.int .i64) w A1 l1.length l1) (hc1:l1.length≤c1) (h:impl_BasisAfter.f ae aa l1 a2=some (r1,r2)):
  Calls Try.prog 76 #[.agg #[.slice af ae.length ag, .slice ah aa.length ai], .slice A1 l1.length c1, .int .i64 a2] w fun e w'=> ∃v0_:Value,e= .returned (.tuple #[v0_, .int .i64 r2])∧Kd.R (Kd.int .i64) 2 w' w.heap.size (fun _=>True) v0_ r1∧Below w.heap.size w w':=by
 unfold impl_BasisAfter.f at h
 have HB:=Aside0.mk (Below.refl w.heap.size w)
 have hcall:=fun W (hb:Below w.heap.size w W)=>after_calls af ag ae ah ai aa A1 c1 l1 a2 W (Kd.C_below aj hb) ak (Kd.C_below aq hb) au (Kd.C_below hr1 hb) hc1
 have HL:=Aside0.mk hcall
 clear hcall aj ak aq au hr1 hc1
 have hle:afC ae aa l1 a2=0→aa.length≤5:=fun h0=>(lkCode_pc (afC_lk h0).1).le
 obtain⟨s,hs⟩: ∃s,(lkR ae aa l1 a2.toNat).1=s:=⟨_,rfl⟩
 rw [hs] at h HL
 clear hs
 obtain⟨c,hc⟩: ∃c,afC ae aa l1 a2=c:=⟨_,rfl⟩
 rw [hc] at h HL hle
 clear hc
 have H:=Aside0.mk (Option.some.inj h)
 have HLE:=Aside0.mk hle
 clear h hle
 generalize ae.length=m0 at HL ⊢
 generalize aa.length=n at HL HLE ⊢
 generalize l1.length=m2 at HL ⊢
 go_enter Try.func76,Try.ntmps76
 go_wp2_with (first | ((with_reducible refine gate_dst (N:=3) rfl ?_);refine box_event ?hg (N:=3) ?hd (cs:= #[.slice af m0 ag, .slice ah n ai]) (t:=30) ?hr ?_;(case hd=>rfl);(case hg=>rfl);(case hr=>first | (go_simp;done) | (go_simp;rfl));intro g3 hg w2 hbox hb;replace HB:=Aside0.mk (below_step HB.out hb);have B3:=Aside0.mk hbox;have hz0:=cz_ B3 0;have hz1:=cz_ B3 1;clear hb hbox hg))
 refine(HL.out w2 HB.out).mono ?_
 rintro e w3 ⟨hor,hb⟩
 have HBS:=Aside0.mk HB.out.size
 replace HB:=Aside0.mk (below_step HB.out hb)
 clear hb hz0 hz1 HL B3
 rcases hor with ⟨hc,rfl⟩ | ⟨rfl,lo,hi,t,rfl,hlo,hT⟩
 ·have hcb:(c==0)=false:=by simpa using hc
  have e:=H.out
  unfold baF at e
  rw [if_neg hc] at e
  injection e with e1 e2
  subst e1 e2
  clear H
  go_wp2
  go_ret2
  exact⟨_,rfl,Kd.R_nil _ _ _ _ _,HB.out⟩
 ·have e:=H.out
  unfold baF at e
  rw [if_pos rfl] at e
  injection e with e1 e2
  subst e1 e2
  clear H
  obtain⟨g,gb,cg,cb,b,cp,hT⟩:=hT
  have HLEN:=Aside0.mk hT.len
  have HT:=Aside0.mk hT
  have HLO:=Aside0.mk (Nat.le_trans HBS.out hlo)
  have HN5:=Aside0.mk (HLE.out rfl)
  obtain⟨base,hbase⟩: ∃x,w3.heap.size=x:=⟨_,rfl⟩
  have HHI:Aside0 (hi≤base):=⟨by rw [← hbase];exact hT.size⟩
  have HB3:Aside0 (Below base w3 w3):=⟨Below.refl _ _⟩
  have HWB:Aside0 (base≤w3.heap.size):=⟨by omega⟩
  have hq2:=hT.h2
  clear hT hlo HLE hbase
  go_wp2
  clear hq2
  have HR:Aside0 (Kd.R (Kd.int .i64) 2 w3 base (fun _=>True) (.slice none 0 0) (s.bs.take 0)):=⟨by rw [List.take_zero];exact Kd.R_nil _ _ _ _ _⟩
  go_loopg [10,28] n (fun gg v10 v28 wr=> ∃(i:Nat),i≤n∧n - i≤gg∧v28= .int .i64 (i:Int)∧Aside0 (Kd.R (Kd.int .i64) 2 wr base (fun _=>True) v10 (s.bs.take i))∧Aside0 (Below base w3 wr)∧Aside0 (base≤wr.heap.size))
  case atStart=>exact⟨0,Nat.zero_le _,by omega,rfl,HR,HB3,HWB⟩
  case round=>
   clear HR HB3 HWB
   obtain⟨i,hi',hg,rfl,HR,HB3,HWB⟩:=hrel
   have HG:=Aside0.mk hg
   obtain⟨A10,c10,e10⟩:=Kd.R_slice HR.out
   have hl10:(s.bs.take i).length=i:=by rw [List.length_take,HLEN.out];omega
   rw [hl10] at e10
   subst e10
   clear hl10
   by_cases hlt:i < n
   ·have hltz:(i:Int) < (n:Int):=by omega
    have h0z:(0:Int)≤(i:Int):=by omega
    have hw:IntKind.i64.wrap ((i:Int)+1)=((i+1:Nat):Int):=by rw [IntWalk.i64_in _ (by have:=HN5.out;omega)];rfl
    have HW:=Aside0.mk hw
    have HLT:=Aside0.mk hlt
    have hcell:=((HT.out.mv (Out.hi HB3.out) (.inl HHI.out)).oq i hlt).1
    obtain⟨x,hx⟩: ∃x,s.bs.getD i 0=x:=⟨_,rfl⟩
    rw [hx] at hcell
    have HX:=Aside0.mk hx
    clear hi' hg hlt hx
    go_wp2_with (first | ((with_reducible refine gate_builtin (b:= .append) (xs:= #[.tmp 32, .tmp 34]) rfl ?_);at_builtin;refine Kd.R_append (Kd.int .i64) (w0:=w3) base rfl (.tmp 32) (.tmp 34) 23 2 (.int .i64 0) 8 rfl Try.underlying23 info2 rfl (by decide) (by omega) (.slice A10 i c10) (s.bs.take i) x [.int .i64 x] (fun _=>True) (fun _=>False) rfl rfl rfl (fun _ hk=>hk.elim) (fun _ _=>trivial) HR.out HB3.out HWB.out ?aL ?_;(case aL=>have:=HN5.out;have:=HLT.out;rw [List.length_take];omega);intro v11 w11 ho hb hg hat;replace HR:=Aside0.mk ho;replace HB3:=Aside0.mk hb;replace HWB:=Aside0.mk (Nat.le_trans HWB.out hg.size);clear ho hb hg hat hcell))
    go_roundg (n - (i+1))
    case measure=>have:=HG.out;have:=HLT.out;omega
    case rel=>
     refine⟨i+1,HLT.out,by omega,by first | rfl | (rw [HW.out]) | (simp [HW.out]),?_,HB3,HWB⟩
     rw [take_next _ (by rw [HLEN.out];exact HLT.out),HX.out]
     exact HR
   ·have hltz: ¬ (i:Int) < (n:Int):=by omega
    obtain rfl:n=i:=by omega
    have hall:s.bs.take n=s.bs:=List.take_of_length_le (by rw [HLEN.out];exact Nat.le_refl _)
    rw [hall] at HR
    clear hi' hg hlt hall
    go_wp2
    go_ret2
    exact⟨_,rfl,Kd.R_lower HR.out (Nat.le_trans HLO.out (Nat.le_trans (Nat.le_of_lt (Nat.lt_of_le_of_lt HT.out.tR.1 HT.out.tR.2)) HHI.out)),(Out.hi HB3.out).toBelow HB.out (Nat.le_trans HLO.out (Nat.le_trans (Nat.le_of_lt (Nat.lt_of_le_of_lt HT.out.tR.1 HT.out.tR.2)) HHI.out))⟩
end Go.Proofs.Ytmpkckiifeikkaa.Pr
end
section
namespace Go.Proofs.Ytmpkckiifeikkaa.Pr
open Go.RowKit Go.Proofs.YtmpkckiifeikkaaW.PrintWords Go.Proofs.YtmpkckiifeikkaaW.PrintLast Go.Proofs.YtmpkckiifeikkaaW.PrintMore Go.Proofs.Ytmpkckiifeikkaa.Ma Go.Proofs.Ytmpkckiifeikkaa.Dt Go.Proofs.Ytmpkckiifeikkaa.Lk Go.Proofs.Ytmpkckiifeikkaa.Lt Go.Proofs.Ytmpkckiifeikkaa.Lq
def rgL (s:TS) (n:Nat):Nat→List Int
 | 0=> []
 | i+1=>rgL s n i++ [s.T i (2*n+1)]
theorem rgL_len (s:TS) (n:Nat): ∀i,(rgL s n i).length=i
 | 0=>rfl
 | i+1=>by simp [rgL,rgL_len s n i]
def raF (k:Nat) (s:TS) (n:Nat) (c:Int):Option (List S93 × Int):=if c=0 then impl_allReduced.f k (rgL s n n) s.den else some ([],c)
def impl_RightAfter.f (k:Nat) (ae:List (List Int)) (aa l1:List Int) (a2:Int):Option (List S93 × Int):=raF k (lkR ae aa l1 a2.toNat).1 aa.length (afC ae aa l1 a2)
theorem impl_RightAfter.mono: ∀a0 a1 a2 a3 k,LeO (impl_RightAfter.f k a0 a1 a2 a3) (impl_RightAfter.f (k+1) a0 a1 a2 a3):=by
 intro a0 a1 a2 a3 k
 unfold impl_RightAfter.f raF
 exact LeO.ite (impl_allReduced.mono _ _ _) (LeO.refl _)
theorem impl_RightAfter.calls (k:Nat) (af:Option Addr) (ag:Nat) (ae:List (List Int)) (ah:Option Addr) (ai:Nat) (aa:List Int) (A1:Option Addr) (c1:Nat) (l1:List Int) (a2:Int) (r1:List (S93)) (r2:Int) (w:World) (aj:Kd.C (Kd.slice 2 (Kd.int .i64)) w af ae.length ae) (ak:ae.length≤ag) (aq:Kd.C (Kd.int .i64) w ah aa.length aa) (au:aa.length≤ai) (hr1:Kd.C (Kd.int .i64) w A1 l1.length l1) (hc1:l1.length≤c1) (h:impl_RightAfter.f k ae aa l1 a2=some (r1,r2)):
  Calls Try.prog 13 #[.agg #[.slice af ae.length ag, .slice ah aa.length ai], .slice A1 l1.length c1, .int .i64 a2] w fun e w'=> ∃v0_:Value,e= .returned (.tuple #[v0_, .int .i64 r2])∧Kd.R k93 93 w' w.heap.size (fun _=>True) v0_ r1∧Below w.heap.size w w':=by
 unfold impl_RightAfter.f at h
 have HB:=Aside0.mk (Below.refl w.heap.size w)
 have hcall:=fun W (hb:Below w.heap.size w W)=>after_calls af ag ae ah ai aa A1 c1 l1 a2 W (Kd.C_below aj hb) ak (Kd.C_below aq hb) au (Kd.C_below hr1 hb) hc1
 have HL:=Aside0.mk hcall
 clear hcall aj ak aq au hr1 hc1
 have hle:afC ae aa l1 a2=0→aa.length≤5:=fun h0=>(lkCode_pc (afC_lk h0).1).le
 obtain⟨s,hs⟩: ∃s,(lkR ae aa l1 a2.toNat).1=s:=⟨_,rfl⟩
 rw [hs] at h HL
 clear hs
 obtain⟨c,hc⟩: ∃c,afC ae aa l1 a2=c:=⟨_,rfl⟩
 rw [hc] at h HL hle
 clear hc
 have H:=Aside0.mk h
 have HLE:=Aside0.mk hle
 clear h hle
 generalize ae.length=m0 at HL ⊢
 generalize aa.length=n at H HL HLE ⊢
 generalize l1.length=m2 at HL ⊢
 go_enter Try.func13,Try.ntmps13
 go_wp2_with (first | ((with_reducible refine gate_dst (N:=3) rfl ?_);refine box_event ?hg (N:=3) ?hd (cs:= #[.slice af m0 ag, .slice ah n ai]) (t:=30) ?hr ?_;(case hd=>rfl);(case hg=>rfl);(case hr=>first | (go_simp;done) | (go_simp;rfl));intro g3 hg w2 hbox hb;replace HB:=Aside0.mk (below_step HB.out hb);have B3:=Aside0.mk hbox;have hz0:=cz_ B3 0;have hz1:=cz_ B3 1;clear hb hbox hg))
 refine(HL.out w2 HB.out).mono ?_
 rintro e w3 ⟨hor,hb⟩
 have HBS:=Aside0.mk HB.out.size
 replace HB:=Aside0.mk (below_step HB.out hb)
 clear hb hz0 hz1 HL B3
 rcases hor with ⟨hc,rfl⟩ | ⟨rfl,lo,hi,t,rfl,hlo,hT⟩
 ·have hcb:(c==0)=false:=by simpa using hc
  have e:=H.out
  unfold raF at e
  rw [if_neg hc] at e
  injection e with e
  injection e with e1 e2
  subst e1 e2
  clear H
  go_wp2
  go_ret2
  exact⟨_,rfl,Kd.R_nil _ _ _ _ _,HB.out⟩
 ·have e:=H.out
  unfold raF at e
  rw [if_pos rfl] at e
  have H2:=Aside0.mk e
  clear H e
  obtain⟨g,gb,cg,cb,b,cp,hT⟩:=hT
  have HT:=Aside0.mk hT
  have HLO:=Aside0.mk (Nat.le_trans HBS.out hlo)
  have HN5:=Aside0.mk (HLE.out rfl)
  have HHI:Aside0 (hi≤w3.heap.size):=⟨hT.size⟩
  have HB3:Aside0 (Below w3.heap.size w3 w3):=⟨Below.refl _ _⟩
  have HWB:Aside0 (w3.heap.size≤w3.heap.size):=⟨Nat.le_refl _⟩
  have hq0:=hT.h0
  clear hT hlo HLE
  go_wp2
  clear hq0
  have HR:Aside0 (Kd.R (Kd.int .i64) 2 w3 w3.heap.size (fun _=>True) (.slice none 0 0) (rgL s n 0)):=⟨Kd.R_nil _ _ _ _ _⟩
  go_loopg [10,27] n (fun gg v10 v27 wr=> ∃(i:Nat),i≤n∧n - i≤gg∧v27= .int .i64 (i:Int)∧Aside0 (Kd.R (Kd.int .i64) 2 wr w3.heap.size (fun _=>True) v10 (rgL s n i))∧Aside0 (Below w3.heap.size w3 wr)∧Aside0 (w3.heap.size≤wr.heap.size))
  case atStart=>exact⟨0,Nat.zero_le _,by omega,rfl,HR,HB3,HWB⟩
  case round=>
   clear HR HB3 HWB
   obtain⟨i,hi',hg,rfl,HR,HB3,HWB⟩:=hrel
   have HG:=Aside0.mk hg
   obtain⟨A10,c10,e10⟩:=Kd.R_slice HR.out
   rw [rgL_len] at e10
   subst e10
   by_cases hlt:i < n
   ·have hltz:(i:Int) < (n:Int):=by omega
    have h0z:(0:Int)≤(i:Int):=by omega
    have hw:IntKind.i64.wrap ((i:Int)+1)=((i+1:Nat):Int):=by rw [IntWalk.i64_in _ (by have:=HN5.out;omega)];rfl
    have HW:=Aside0.mk hw
    have HLT:=Aside0.mk hlt
    clear hi' hg hlt
    go_wp2_with fail
    refine(right_calls (HT.out.mv (Out.hi HB3.out) (.inl HHI.out)) i HLT.out (by omega) (by have:=HN5.out;omega)).mono ?_
    rintro e w7 ⟨rfl,hb⟩
    replace HR:=Aside0.mk (Kd.R_below HR.out hb)
    replace HB3:=Aside0.mk (below_step HB3.out hb)
    replace HWB:=Aside0.mk (Nat.le_trans HWB.out hb.size)
    obtain⟨x,hx⟩: ∃x,s.T i (2*n+2 - 1)=x:=⟨_,rfl⟩
    rw [hx]
    have HX:=Aside0.mk hx
    clear hb hx
    go_wp2_with (first | ((with_reducible refine gate_builtin (b:= .append) (xs:= #[.tmp 30, .tmp 34]) rfl ?_);at_builtin;refine Kd.R_append (Kd.int .i64) (w0:=w3) w3.heap.size rfl (.tmp 30) (.tmp 34) 23 2 (.int .i64 0) 8 rfl Try.underlying23 info2 rfl (by decide) (by omega) (.slice A10 i c10) (rgL s n i) x [.int .i64 x] (fun _=>True) (fun _=>False) rfl rfl rfl (fun _ hk=>hk.elim) (fun _ _=>trivial) HR.out HB3.out HWB.out ?aL ?_;(case aL=>have:=HN5.out;have:=HLT.out;rw [rgL_len];omega);intro v11 w11 ho hb hg hat;replace HR:=Aside0.mk ho;replace HB3:=Aside0.mk hb;replace HWB:=Aside0.mk (Nat.le_trans HWB.out hg.size);clear ho hb hg hat))
    go_roundg (n - (i+1))
    case measure=>have:=HG.out;have:=HLT.out;omega
    case rel=>
     refine⟨i+1,HLT.out,by omega,by first | rfl | (rw [HW.out]) | (simp [HW.out]),?_,HB3,HWB⟩
     show Aside0 (Kd.R _ _ _ _ _ _ (rgL s n i++ [s.T i (2*n+1)]))
     rw [show s.T i (2*n+1)=x from HX.out]
     exact HR
   ·have hltz: ¬ (i:Int) < (n:Int):=by omega
    obtain rfl:n=i:=by omega
    have hq1:=(HT.out.mv (Out.hi HB3.out) (.inl HHI.out)).h1.1
    have hcall:=impl_allReduced.calls k A10 c10 (rgL s n n) s.den r1 r2 wr (Kd.R_reads' HR.out).2.2 (by have:=(Kd.R_reads' HR.out).2.1;rw [rgL_len];exact this) H2.out
    rw [rgL_len] at hcall
    have HCALL:=Aside0.mk hcall
    clear hi' hg hlt hcall
    go_wp2_with fail
    refine HCALL.out.mono ?_
    rintro e w8 ⟨v9,rfl,hR9,hb⟩
    have HW3:Aside0 (w.heap.size≤w3.heap.size):=⟨Nat.le_trans HLO.out (Nat.le_trans (Nat.le_of_lt (Nat.lt_of_le_of_lt HT.out.tR.1 HT.out.tR.2)) HHI.out)⟩
    have HR9:=Aside0.mk (Kd.R_lower hR9 (Nat.le_trans HW3.out HWB.out))
    replace HB3:=Aside0.mk (below_step HB3.out hb)
    clear hR9 hb hq1 HCALL
    go_wp2
    go_ret2
    exact⟨_,rfl,HR9.out,(Out.hi HB3.out).toBelow HB.out HW3.out⟩
end Go.Proofs.Ytmpkckiifeikkaa.Pr
end
section
namespace Go.Proofs.Ytmpkckiifeikkaa.Pr
open Go.RowKit Go.Proofs.YtmpkckiifeikkaaW.PrintWords Go.Proofs.YtmpkckiifeikkaaW.PrintLast Go.Proofs.YtmpkckiifeikkaaW.PrintMore
attribute [local go_sem] max2_int min2_int max_two min_two max_three min_three max_four min_four
end Go.Proofs.Ytmpkckiifeikkaa.Pr
end
section
namespace Go.Proofs.Ytmpkckiifeikkaa.Lsa
open Go.RowKit Go.Proofs.YtmpkckiifeikkaaW.PrintWords Go.Proofs.YtmpkckiifeikkaaW.PrintMore Go.Proofs.Ytmpkckiifeikkaa.Ma Go.Proofs.Ytmpkckiifeikkaa.Pr Go.Proofs.Ytmpkckiifeikkaa.Dt Go.Proofs.Ytmpkckiifeikkaa.Lk Go.Proofs.Ytmpkckiifeikkaa.Lt Go.Proofs.Ytmpkckiifeikkaa.Lq Go.Proofs.Ytmpkckiifeikkaa.Lp Go.Proofs.Ytmpkckiifeikkaa.Fr
theorem spec_right {n m:Nat} {s:TS} (hm:m=2*n+2) (hn:n≤5) (hT: ∀a c,a < n→c < m→Bnd (s.T a c)) (hd:0 < s.den) (hd2:s.den≤1920000000):Ev (fun k=>spec_l05Right.f k (rowsM n m s.T) s.den s.bs) (outL (fun i=>redV (s.T i (2*n+1)) s.den) n 0 []):=by
 have hbd:Big s.den:=⟨by omega,by omega⟩
 have big: ∀i,i < n→Big (s.T i (2*n+1)):=fun i hi=>by
  have:=hT i (2*n+1) hi (by omega)
  unfold Bnd at this
  exact⟨by omega,by omega⟩
 have loop: ∀q x acc,x+q=n→acc.length≤x→Ev (fun k=>spec_l05Right.l0 k acc (x:Int) (rowsM n m s.T) s.den s.bs) (outL (fun i=>redV (s.T i (2*n+1)) s.den) q x acc):=by
  intro q
  induction q with
  | zero=>
   intro x acc h1 h2
   refine evstep (fun k=>by rw [spec_l05Right.l0]) ?_
   exact evneg (by rw [rowsM_len];omega) (evc rfl)
  | succ q ih=>
   intro x acc h1 h2
   refine evstep (fun k=>by rw [spec_l05Right.l0]) ?_
   refine evpos (by rw [rowsM_len];omega) (evpos (by omega) ?_)
   rw [at_rows (show x < n by omega),rowN_len,w64 (x:=((m:Nat):Int) - 1) (by omega) (by omega),show ((m:Nat):Int) - 1=((2*n+1:Nat):Int) from by omega,at_num (by omega),w64 (x:=(x:Int)+1) (by omega) (by omega)]
   refine evpos (by omega) (evpos (by omega) (evbind (sfrac_eq _ _ (big x (by omega)) hbd hd) (evbind (told_eq _ _) ?_)))
   unfold outL
   by_cases c:(redV (s.T x (2*n+1)) s.den).2.2=0
   ·rw [if_pos c]
    exact evpos c (evpos (by omega) (ih (x+1) _ (by omega) (by simp;omega)))
   ·rw [if_neg c]
    exact evneg c (evc rfl)
 exact loop n 0 [] (by omega) (Nat.le_refl _)
end Go.Proofs.Ytmpkckiifeikkaa.Lsa
end
section
namespace Go.Proofs.Ytmpkckiifeikkaa.Lsa
open Go.RowKit Go.Proofs.YtmpkckiifeikkaaW.PrintWords Go.Proofs.YtmpkckiifeikkaaW.PrintMore Go.Proofs.Ytmpkckiifeikkaa.Ma Go.Proofs.Ytmpkckiifeikkaa.Pr Go.Proofs.Ytmpkckiifeikkaa.Dt Go.Proofs.Ytmpkckiifeikkaa.Lk Go.Proofs.Ytmpkckiifeikkaa.Lt Go.Proofs.Ytmpkckiifeikkaa.Lq Go.Proofs.Ytmpkckiifeikkaa.Lp Go.Proofs.Ytmpkckiifeikkaa.Fr
section
variable {M:List (List Int)} {Q cv:List Int} (h:PC M Q cv Q.length)
include h
theorem spec_z (k0:Nat):Ev (fun k=>spec_l05Z.f k (rowsM Q.length (2*Q.length+2) (lkR M Q cv k0).1.T) (lkR M Q cv k0).1.den (lkR M Q cv k0).1.bs) (zsL (lkR M Q cv k0).1 Q.length,0):=by
 have hok:=(lkR_ok h k0).1
 have hA:=first_small (n:=Q.length) (M:=enL M) (cv:=fun i=>cv.getD i 0) (q:=fun i=>Q.getD i 0) h.Mb (fun i hi=>by have:=h.cb i hi;omega) h.qb
 have hT: ∀i j,i < Q.length→j < 2*Q.length+2→Bnd ((lkR M Q cv k0).1.T i j):=fun i j hi hj=>hok.abs h.le hA hi hj
 have hden:=hok.den_le h.le hA
 have hr:=spec_right (s:=(lkR M Q cv k0).1) rfl h.le hT hden.1 hden.2
 rw [right_list h k0] at hr
 have h5:=h.le
 have hl:=hok.len
 have hrl:=rtL_len (lkR M Q cv k0).1 Q.length
 have hd0:0 < (lkR M Q cv k0).1.den:=hden.1
 have hd2:(lkR M Q cv k0).1.den≤1920000000:=hden.2
 generalize hs:(lkR M Q cv k0).1=s at hr hl hrl hd0 hd2 ⊢
 generalize hn:Q.length=n at hr h5 hl hrl ⊢
 have at_r: ∀i,i < n→rd_T93 (rtL s n) (i:Int)=frac (redV (s.T i (2*n+1)) s.den):=fun i hi=>by
  unfold rtL
  simp [rd_T93,frac,hi]
 have z0:redV 0 s.den=(0,1,0):=redV_zero hd0 (by omega)
 unfold spec_l05Z.f
 refine evbind hr (evpos rfl ?_)
 show Ev (fun k=>spec_l05Z.l0 k (rtL s n) ((rowsM n (2*n+2) s.T).length:Int) [] 0 (rowsM n (2*n+2) s.T) s.den s.bs) _
 rw [rowsM_len]
 have loop: ∀q j acc,j+q=n→acc.length≤j→Ev (fun k=>spec_l05Z.l0 k (rtL s n) (n:Int) acc (j:Int) (rowsM n (2*n+2) s.T) s.den s.bs) (acc++(List.range' j q).map (fun j=>frac (redV (num s n (lastI s (n+j) n)) s.den)),0):=by
  intro q
  induction q with
  | zero=>
   intro j acc h1 h2
   refine evstep (fun k=>by rw [spec_l05Z.l0]) ?_
   exact evneg (by omega) (evc (by simp))
  | succ q ih=>
   intro j acc h1 h2
   have inner: ∀p i,i+p=n→ ∀o:S93,o=(match lastI s (n+j) i with | some r=>frac (redV (s.T r (2*n+1)) s.den) | none=>⟨0,1⟩)→Ev (fun k=>spec_l05Z.l1 k (rtL s n) (n:Int) acc (j:Int) (i:Int) (rowsM n (2*n+2) s.T) s.den s.bs o.f0 o.f1) (acc++(List.range' j (q+1)).map (fun j=>frac (redV (num s n (lastI s (n+j) n)) s.den)),0):=by
    intro p
    induction p with
    | zero=>
     intro i hi o ho
     obtain rfl:i=n:=by omega
     refine evstep (fun k=>by rw [spec_l05Z.l1]) ?_
     refine evneg (by rw [hl];omega) (evpos (by omega) ?_)
     rw [w64 (x:=(j:Int)+1) (by omega) (by omega)]
     have e:(⟨o.f0,o.f1⟩:S93)=frac (redV (num s i (lastI s (i+j) i)) s.den):=by
      show o=_
      rw [ho]
      cases lastI s (i+j) i with
      | some r=>rfl
      | none=>show _=frac (redV 0 s.den);rw [z0];rfl
     have hi2:=ih (j+1) (acc++ [(⟨o.f0,o.f1⟩:S93)]) (by omega) (by simp;omega)
     rw [List.append_assoc,e] at hi2
     rw [List.range'_succ,List.map_cons,e]
     exact hi2
    | succ p ihp=>
     intro i hi o ho
     refine evstep (fun k=>by rw [spec_l05Z.l1]) ?_
     refine evpos (by rw [hl];omega) (evpos (by omega) ?_)
     rw [rd_nat,w64 (x:=(i:Int)+1) (by omega) (by omega),w64 (x:=(n:Int)+(j:Int)) (by omega) (by omega)]
     by_cases c:s.bs.getD i 0=(n:Int)+(j:Int)
     ·refine evpos c (evpos (by rw [hrl];omega) ?_)
      rw [at_r i (by omega)]
      exact ihp (i+1) (by omega) _ (by simp only [lastI];rw [if_pos (by omega)])
     ·refine evneg c (ihp (i+1) (by omega) o ?_)
      rw [ho]
      simp only [lastI]
      rw [if_neg (by omega)]
   refine evstep (fun k=>by rw [spec_l05Z.l0]) ?_
   refine evpos (by omega) ?_
   exact inner n 0 (by omega) ⟨0,1⟩ rfl
 have hfin:=loop n 0 [] (by omega) (Nat.le_refl _)
 exact hfin
end
theorem sol_both (M:List (List Int)) (Q cv:List Int) (hQ:Q.length≤1048576) (hcv:cv.length≤1048576): ∃R:List S93 × Int,Ev (fun k=>spec_LemkeSolution.f k M Q cv) R∧Ev (fun k=>impl_LemkeSolution.f k M Q cv) R∧R.1.length≤5:=by
 by_cases c:lkCode M Q cv=0
 ·obtain⟨S,h1,h2⟩:=spec_run c 201 (by omega)
  have hpc:=lkCode_pc c
  have hl2:=Lcy.no_limit hpc 201
  have hok:=(lkR_ok hpc 201).1
  have hz:=spec_z hpc 201
  have hzl:=z_list hpc 201
  have hA:=first_small (n:=Q.length) (M:=enL M) (cv:=fun i=>cv.getD i 0) (q:=fun i=>Q.getD i 0) hpc.Mb (fun i hi=>by have:=hpc.cb i hi;omega) hpc.qb
  have hT: ∀a c,a < Q.length→c < 2*Q.length+2→Bnd ((lkR M Q cv 201).1.T a c):=fun a c ha hc=>hok.abs hpc.le hA ha hc
  have hden:=hok.den_le hpc.le hA
  have hnone:=solved_none (M:=M) (Q:=Q) (cv:=cv) (k:=201)
  have hzf:=zs_first (s:=(lkR M Q cv 201).1) (n:=Q.length)
  have h5:=hpc.le
  unfold spec_LemkeSolution.f impl_LemkeSolution.f lsF
  obtain⟨R,hR⟩: ∃R,lkR M Q cv 201=R:=⟨_,rfl⟩
  rw [hR] at h2 hl2 hok hz hzl hT hden hnone hzf ⊢
  rcases h2 with ⟨e1,e2⟩ | ⟨e1,e2,e3,e4,e5,e6⟩
  ·rw [hl2] at e1;cases e1
  ·by_cases d:R.2.2.1=true
   ·refine⟨(zsL R.1 Q.length,0),?_,evpos c (evpos e1 (evpos d ?_)),by show (zsL R.1 Q.length).length≤5;rw [zsL_len];exact h5⟩
    ·refine evbind (code_eq M Q cv hQ hcv) (evpos c (evbind h1 (evneg (by show ¬ (S.2.1.length:Int) > 200;omega) (evpos (by show S.2.2.2=true;rw [e5];exact d) ?_))))
     by_cases z:S.2.1.length=0
     ·refine evpos (by show (S.2.1.length:Int)=0;omega) ?_
      have hz0:=hnone d (List.length_eq_zero_iff.1 (e4 ▸ z))
      rw [hzf hz0.1 hz0.2]
      have loop: ∀q j (acc:List S93),j+q=Q.length→acc.length≤j→Ev (fun k=>spec_LemkeSolution.l0 k acc (j:Int) M Q) (acc++List.replicate q ⟨0,1⟩,0):=by
       intro q
       induction q with
       | zero=>
        intro j acc a1 a2
        refine evstep (fun k=>by rw [spec_LemkeSolution.l0]) ?_
        exact evneg (by omega) (evc (by simp))
       | succ q ih=>
        intro j acc a1 a2
        refine evstep (fun k=>by rw [spec_LemkeSolution.l0]) ?_
        refine evpos (by omega) (evpos (by omega) ?_)
        rw [w64 (x:=(j:Int)+1) (by omega) (by omega)]
        have hi:=ih (j+1) (acc++ [(⟨0,1⟩:S93)]) (by omega) (by simp;omega)
        rw [List.append_assoc] at hi
        exact hi
      exact loop Q.length 0 [] (by omega) (Nat.le_refl _)
     ·refine evneg (by show ¬ (S.2.1.length:Int)=0;omega) ?_
      show Ev (fun k=>(spec_l05Z.f k (rowsM Q.length (2*Q.length+2) S.1.T) S.1.den S.1.bs).bind _) _
      rw [e3]
      exact evbind hz (evc rfl)
    ·have h:=all_red ((valL R.1 Q.length Q.length).drop Q.length) R.1.den (by rw [List.length_drop,valL_len];omega) hden.1 ⟨by have:=hden.2;omega,by have:=hden.2;omega⟩ (fun i hi=>by
      rw [List.length_drop,valL_len] at hi
      rw [List.getD_eq_getElem?_getD,List.getElem?_drop, ← List.getD_eq_getElem?_getD,valL_at _ _ _ (by omega) hok.nn _ (Nat.le_refl _)]
      cases e:lastI R.1 (Q.length+i) Q.length with
      | some r=>
       have:=hT r (2*Q.length+1) (lastI_some e).1 (by omega)
       unfold Bnd at this
       exact⟨by show -4611686018427387904≤R.1.T r (2*Q.length+1);omega,by show R.1.T r (2*Q.length+1)≤4611686018427387904;omega⟩
      | none=>exact⟨by show (-4611686018427387904:Int)≤0;decide,by show (0:Int)≤4611686018427387904;decide⟩)
     rw [List.length_drop,valL_len,show 2*Q.length - Q.length=Q.length from by omega,hzl] at h
     exact h
   ·refine⟨([],4),?_,evpos c (evpos e1 (evneg d (evc rfl))),by simp⟩
    refine evbind (code_eq M Q cv hQ hcv) (evpos c (evbind h1 (evneg (by show ¬ (S.2.1.length:Int) > 200;omega) ?_)))
    exact evneg (by show ¬ S.2.2.2=true;rw [e5];exact d) (evc rfl)
 ·refine⟨([],lkCode M Q cv),?_,?_,by simp⟩
  ·unfold spec_LemkeSolution.f
   exact evbind (code_eq M Q cv hQ hcv) (evneg c (evc rfl))
  ·unfold impl_LemkeSolution.f lsF
   exact evneg c (evc rfl)
end Go.Proofs.Ytmpkckiifeikkaa.Lsa
end
section
namespace Go.Proofs.Ytmpkckiifeikkaa.La
open Go.RowKit Go.Proofs.YtmpkckiifeikkaaW.PrintWords Go.Proofs.YtmpkckiifeikkaaW.PrintMore Go.Proofs.Ytmpkckiifeikkaa.Ma Go.Proofs.Ytmpkckiifeikkaa.Pr Go.Proofs.Ytmpkckiifeikkaa.Hm Go.Proofs.Ytmpkckiifeikkaa.Op
theorem szP2 {M:List (List Int)} {Q:List Int} (ga:GoodList (GoodList (GoodInt .i64)) M) (gb:GoodList (GoodInt .i64) Q):
  ∃t:Int,Ev (fun k=>laws_szProblem.f k M Q 1048576) t∧t≤1048576∧(0≤t→tot M≤1048576∧Q.length≤1048576):=by
 have h1:=szSS M ga (n:=1048576) (by decide) (by decide)
 by_cases c:(1048576:Int) < (tot M:Int)
 ·rw [if_pos c] at h1
  exact⟨-1,by unfold laws_szProblem.f;exact evbind h1 (evpos (by decide) (evc rfl)),by decide,fun h=>by omega⟩
 ·rw [if_neg c] at h1
  have h2:=sz_eq (l:=Q) (n:=1048576 - (tot M:Int)) (by omega) (by omega) gb.1
  by_cases c2:(1048576:Int) - (tot M:Int) < (Q.length:Int)
  ·rw [if_pos c2] at h2
   exact⟨-1,by unfold laws_szProblem.f;exact evbind h1 (evneg (by omega) (evsome h2 (evpos (by decide) (evc rfl)))),by decide,fun h=>by omega⟩
  ·rw [if_neg c2] at h2
   exact⟨_,by unfold laws_szProblem.f;exact evbind h1 (evneg (by omega) (evsome h2 (evneg (by omega) (evc rfl)))),by omega,fun _=>⟨by omega,by omega⟩⟩
theorem fit_lensP {l:List (List Int)} (h:tot l≤1048576):lens l≤1048576:=by unfold tot at h;omega
theorem toP {M:List (List Int)} {Q:List Int} (hM:Fit M) (hQ:Q.length≤1048576):Ev (fun k=>laws_toProblem.f k M Q) (M,Q):=by
 unfold laws_toProblem.f
 exact evbind (fit_to hM) (evbind (toI Q hQ) (evc rfl))
theorem eqPr {M:List (List Int)} {Q:List Int} (hM:Fit M) (hQ:Q.length≤1152921504606846976):Ev (fun k=>laws_eqProblem.f k M Q M Q) true:=by
 unfold laws_eqProblem.f
 exact evbind (fit_eq hM) (evpos rfl (evbind (eqI_same Q hQ) (evpos rfl (evc rfl))))
end Go.Proofs.Ytmpkckiifeikkaa.La
end
section
namespace Go.Proofs.Ytmpkckiifeikkaa.La
open Go.RowKit Go.Proofs.YtmpkckiifeikkaaW.PrintWords Go.Proofs.YtmpkckiifeikkaaW.PrintMore Go.Proofs.Ytmpkckiifeikkaa.Ma Go.Proofs.Ytmpkckiifeikkaa.Pr Go.Proofs.Ytmpkckiifeikkaa.Lw
theorem eqF (l:List S93) (hl:l.length≤1048576):Ev (fun k=>laws_eqFracS.f k l l) true:=by
 have key: ∀(m i:Nat),i+m=l.length→Ev (fun k=>laws_eqFracS.l0 k l l i) true:=by
  intro m
  induction m with
  | zero=>
   intro i hi
   exact evstep (fun k=>by rw [laws_eqFracS.l0]) (evneg (by omega) (evc rfl))
  | succ m ih=>
   intro i hi
   refine evstep (fun k=>by rw [laws_eqFracS.l0]) (evpos (by omega) (evpos (by omega) (evpos (by omega) ?_)))
   unfold laws_eqFrac.f
   refine evsome (a:=true) (by simp) (evpos rfl ?_)
   rw [w64 (by omega) (by omega)]
   exact ih (i+1) (by omega)
 unfold laws_eqFracS.f
 exact evpos rfl (key l.length 0 (by omega))
theorem heldF (n:Int) (m:Nat) (hl:m≤1099511627776) (h0:0≤n) (h1:n≤1099511627776):Ev (fun k=>laws_heldFracS.f k (cntF n m) n) (n+2*m):=by
 have key: ∀(j i:Nat),i+j=m→Ev (fun k=>laws_heldFracS.l0 k (cntF n m) (n+2*i) i) (n+2*m):=by
  intro j
  induction j with
  | zero=>
   intro i hi
   refine evstep (fun k=>by rw [laws_heldFracS.l0]) (evneg (by rw [cntF_length];omega) (evc ?_))
   rw [show i=m from by omega]
  | succ j ih=>
   intro i hi
   have e:rd_T93 (cntF n m) (i:Int)=⟨n+2*(i:Int),n+2*(i:Int)+1⟩:=by
    have hi':i < m:=by omega
    simp [rd_T93,cntF,hi']
   refine evstep (fun k=>by rw [laws_heldFracS.l0]) ?_
   rw [e,cntF_length,w64 (x:=n+2*(i:Int)+1) (by omega) (by omega),w64 (x:=n+2*(i:Int)+1+1) (by omega) (by omega),w64 (x:=(i:Int)+1) (by omega) (by omega)]
   refine evpos (by omega) (evpos (by omega) (evpos rfl (evpos rfl ?_)))
   have:=ih (i+1) (by omega)
   rw [show n+2*((i+1:Nat):Int)=n+2*i+1+1 from by omega] at this
   exact this
 have:=key m 0 (by omega)
 simpa [laws_heldFracS.f] using this
end Go.Proofs.Ytmpkckiifeikkaa.La
end
section
namespace Go.Proofs.Ytmpkckiifeikkaa.Pure
open Go.RowKit Go.Proofs.YtmpkckiifeikkaaW.PrintWords Go.Proofs.YtmpkckiifeikkaaW.PrintMore Go.Proofs.Ytmpkckiifeikkaa.Ma Go.Proofs.Ytmpkckiifeikkaa.Pr Go.Proofs.Ytmpkckiifeikkaa.La Go.Proofs.Ytmpkckiifeikkaa.Op
theorem FnExactLemkeSolution:Say.FnExactLemkeSolution:=by
 intro M q c ga gb gc
 obtain⟨t,⟨k0,ht⟩,ht1,hf⟩:=szP2 ga gb
 by_cases cc:(c.length:Int) > 1048576
 ·refine⟨0,?_⟩
  unfold laws_FnExactLemkeSolution.f
  rw [if_pos]
  exact .inr (.inl cc)
 by_cases c0:t < 0
 ·refine⟨k0,?_⟩
  unfold laws_FnExactLemkeSolution.f
  rw [if_pos]
  exact .inr (.inr ⟨t,cc,ht _ (Nat.le_refl _),c0⟩)
 ·obtain⟨ta,tb⟩:=hf (by omega)
  have fa:=fit_of ta
  have fl:=fit_lensP ta
  have al:=fa.len
  obtain⟨R,⟨k1,e1⟩,⟨k2,e2⟩,hR⟩:=Lsa.sol_both M q c tb (by omega)
  obtain⟨k3,e3⟩:=toP fa tb
  obtain⟨k4,e4⟩:=toI c (by omega)
  obtain⟨k5,e5⟩:=eqF R.1 (by omega)
  obtain⟨k6,e6⟩:=eqPr (Q:=q) fa (by omega)
  obtain⟨k7,e7⟩:=eqI_same c (by omega)
  obtain⟨k8,e8⟩:=heldF 1 R.1.length (by omega) (by decide) (by decide)
  refine⟨k0+k1+k2+k3+k4+k5+k6+k7+k8,?_⟩
  unfold laws_FnExactLemkeSolution.f
  rw [if_pos]
  exact .inl ⟨t,R.1,R.2,_,_,_,cc,ht _ (by omega),c0,e3 _ (by omega),e4 _ (by omega),e1 _ (by omega),e2 _ (by omega),e5 _ (by omega),e6 _ (by omega),e7 _ (by omega),rfl,by omega,by omega,by omega,by omega,rfl,by omega,by omega,rfl,by omega,by omega,e8 _ (by omega)⟩
end Go.Proofs.Ytmpkckiifeikkaa.Pure
end
section
namespace Go.Proofs.Ytmpkckiifeikkaa.fnExactLemkeSolution
open Go.ChangeShapes Go.WideShapes Go.ChangeAt Go.RowKit Go.Proofs.Ytmpkckiifeikkaa.Op Go.Proofs.YtmpkckiifeikkaaW.PrintWords
theorem own:ownKnob Try.prog.godebug=none:=by kernel_rfl
theorem laidOut:laidOutB Try.prog=true:=by kernel_rfl
theorem lifted (os:Os) (started:os.Started) (H:Type) (enc:TypeId × Value→H):
  ReturnsInHanded {} Try.checked os 4 .any (Rows.fnExactLemkeSolutionSpec.pre6 enc Try.prog Try.f4 Rows.fnExactLemkeSolutionRow.domain false) (Rows.fnExactLemkeSolutionSpec.post enc Try.prog Try.f4 false true false false):=by
 refine returnsInHanded_of_change_sized (C:=Try.checked) own started (by kernel_rfl) Try.func4
  (ChangeSpec.witness6 (enc:=enc) (C:=Try.checked) false ⟨#[], #[.agg #[.slice none 0 0, .slice none 0 0], .slice none 0 0], []⟩ 8 (by kernel_rfl) (by kernel_rfl) (by kernel_rfl) (by kernel_rfl)) ?_
 intro W base args ds gs before hval0 hW hcnd hsz0 _
 have hval: ∀(j:Nat) t v,Try.f4.params[j]?=some t→args[j]?=some v→Value.okWide Try.prog W .any base t v:=hval0
 have hW':=hW
 obtain⟨p,q,hA0,hV,rfl,hfz,hnd⟩:=hW
 have hA:DataW.TrodAll enc Try.prog W 0 (fun _=>true) true Try.f4.params.toList args.toList ds p:=hA0
 rw [Try.params4] at hA hval
 obtain⟨v0,vs0,d0,ds0,p0,q0,hargs,rfl,rfl,h0,r0⟩:=trodAll_cons hA
 obtain⟨v1,vs1,d1,ds1,p1,q1,rfl,rfl,rfl,h1,r1⟩:=trodAll_cons r0
 obtain⟨rfl,rfl,rfl⟩:=trodAll_nil r1
 obtain rfl:args= #[v0,v1]:=by cases args;simp_all
 obtain⟨rfl,rfl⟩:=trodVars_none hV
 have k0:=h0
 have lt0:=trod_blocks k0
 obtain⟨⟨aa,ae⟩,cs0,rfl,hk0,g0⟩:=arg_struct Try.underlying25 (opens_struct2 Try.underlying25 ⟨by kernel_rfl,by kernel_rfl⟩ ⟨by kernel_rfl,by kernel_rfl⟩ (by kernel_rfl) (opens_slice Try.underlying22 (by kernel_rfl) (opens_slice Try.underlying23 (by kernel_rfl) (opens_int Try.underlying2))) (opens_slice Try.underlying23 (by kernel_rfl) (opens_int Try.underlying2)) id (Kd.pair (Kd.slice 23 (Kd.slice 2 (Kd.int .i64))) (Kd.slice 2 (Kd.int .i64))) (fun _ _ _ h=>h) (fun x=>(GoodList (GoodList (GoodInt .i64))) x.1∧(GoodList (GoodInt .i64)) x.2) (fun _ h0 h1=>⟨h0,h1⟩)) (hval 0 25 v0 rfl rfl) h0
 obtain⟨af,ag,ah,ai,rfl,q0_0,r0_0,q0_1,r0_1⟩:=cells_slice_slice hk0
 have k1:=h1
 have lt1:=trod_blocks k1
 obtain⟨A1,c1,l1,rfl,q1_0,r1_0,g1⟩:=arg_slice (d:=(Kd.int .i64)) Try.underlying23 (by kernel_rfl) (opens_int Try.underlying2) (hval 1 23 v1 rfl rfl) h1
 obtain⟨k,h⟩:=Pure.FnExactLemkeSolution aa ae l1 g0.1 g0.2 g1
 clear hA0 hval0 hsz0
 refine(Pr.laws_FnExactLemkeSolution.calls k af ag aa ah ai ae A1 c1 l1 true W r0_0 q0_0 r0_1 q0_1 r1_0 q1_0 h).mono ?_
 rintro e W' ⟨rfl,bel0⟩
 have bel:Below W.heap.size W W':=by first | exact bel0 | exact bel0.below
 exact⟨_,rfl,_,_,_, [],_, [],hW',trodAll_mk1 (shut_bool Try.underlying4 _),(trodAll_cons_mk (Below.trod laidOut (by kernel_rfl) (of_decide_eq_true (by kernel_rfl)) k0 bel lt0) (trodAll_cons_mk (Below.trod laidOut (by kernel_rfl) (of_decide_eq_true (by kernel_rfl)) k1 bel lt1) trodAll_mk0)),rfl,bel.frame _,fun h=>by cases h⟩
theorem over:Rows.fnExactLemkeSolutionRow.holds Try.pinned (OpenSpec.ofChange Rows.fnExactLemkeSolutionSpec):=
 OpenClaim.holds_of_wide 4 Try.f4 rfl rfl rfl rfl rfl rfl rfl ⟨rfl,rfl,rfl,rfl,rfl⟩ rfl rfl rfl rfl rfl (by kernel_rfl) Try.func4 (by kernel_rfl)
  (of_decide_eq_true (by kernel_rfl)) (by unfold Func.isWrapper;first | (rw [if_pos (by decide+kernel)];kernel_rfl) | (rw [if_neg (by decide+kernel)];exact⟨rfl,rfl⟩))
  (fun os started H enc _=>lifted os started H enc)
theorem proved:Rows.FnExactLemkeSolutionSaid:=over
#print axioms proved
end Go.Proofs.Ytmpkckiifeikkaa.fnExactLemkeSolution
namespace Go.Proofs.Ytmpkckiifeikkaa
theorem fnExactLemkeSolution_holds:Rows.FnExactLemkeSolutionSaid:=fnExactLemkeSolution.proved
end Go.Proofs.Ytmpkckiifeikkaa
end
