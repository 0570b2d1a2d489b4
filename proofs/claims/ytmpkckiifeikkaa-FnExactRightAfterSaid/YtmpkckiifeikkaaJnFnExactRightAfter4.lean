/- Texts of one claim (the words of the kit's print that the claim uses, printed functions, and this session's own texts), joined in the order of their imports by this session's own program (merge.py). -/
import Derived.Test.YtmpkckiifeikkaaRows
import Derived.WalkKit
import Derived.ProofKit
import Derived.OpenShut
import Derived.ShutString
import Derived.ChangeOld
import Derived.Below
import Derived.SizedLaws
import Derived.Test.YtmpkckiifeikkaaJnFnExactRightAfter0
import Derived.Test.YtmpkckiifeikkaaJnFnExactRightAfter1
import Derived.Test.YtmpkckiifeikkaaJnFnExactRightAfter2
import Derived.Test.YtmpkckiifeikkaaJnFnExactRightAfter3
set_option linter.unusedVariables false
set_option linter.unusedSimpArgs false
set_option maxHeartbeats 8000000
set_option maxRecDepth 100000
section
namespace Go.Proofs.Ytmpkckiifeikkaa.Pr
open Go.RowKit Go.Proofs.YtmpkckiifeikkaaW.PrintWords Go.Proofs.YtmpkckiifeikkaaW.PrintLast Go.Proofs.YtmpkckiifeikkaaW.PrintMore
attribute [local go_sem] max2_int min2_int max_two min_two max_three min_three max_four min_four
def spec_l05Right.l0:Nat→List (S93)→Int→List (List Int)→Int→List Int→Option ((List (S93)) × Int)
 | 0,_,_,_,_,_=>none
 | k+1,x4,x5,aa,af,ah=>if x5 < (aa.length:Int) then(if 0≤x5 then(if 0≤(wrap64 (((rd_L1 aa x5).length:Int) - 1)) then(if(wrap64 (((rd_L1 aa x5).length:Int) - 1)) < ((rd_L1 aa x5).length:Int) then((spec_l01Frac.f k (rd (rd_L1 aa x5) (wrap64 (((rd_L1 aa x5).length:Int) - 1))) af).bind fun ag=>((spec_l01Told.f k ag.1 ag.2).bind fun ae=>(if ae.2.2=0 then(if x4.length < 8796093022208 then(spec_l05Right.l0 k (x4++ [(⟨ae.1,ae.2.1⟩:S93)]) (wrap64 (x5+1)) aa af ah) else(none)) else(some (([]:List (S93)),ae.2.2))))) else(none)) else(none)) else(none)) else(some (x4,0))
def spec_l05Right.f (k:Nat) (aa:List (List Int)) (a0_1:Int) (ae:List Int):Option ((List (S93)) × Int):=spec_l05Right.l0 k (([]:List (S93))) 0 aa a0_1 ae
theorem spec_l05Right.mono_l: ∀k,(∀y0 y1 y2 y3 y4,LeO (spec_l05Right.l0 k y0 y1 y2 y3 y4) (spec_l05Right.l0 (k+1) y0 y1 y2 y3 y4))
 | 0=>fun _ _ _ _ _ r h=>by simp [spec_l05Right.l0] at h
 | k+1=>by
  have ih0:=spec_l05Right.mono_l k
  ·intro y0 y1 y2 y3 y4
   unfold spec_l05Right.l0
   repeat' first
   | (with_reducible exact ih0 _ _ _ _ _)
   | (with_reducible exact spec_l01Frac.mono _ _ _)
   | (with_reducible exact spec_l01Told.mono _ _ _)
   | (with_reducible exact LeO.refl _)
   | (with_reducible exact LeO.none _)
   | (with_reducible refine LeO.ite ?_ ?_)
   | (with_reducible refine LeO.bind ?_ (fun _=>?_))
   | exact ih0 _ _ _ _ _
   | exact spec_l01Frac.mono _ _ _
   | exact spec_l01Told.mono _ _ _
   | exact LeO.none _
   | refine LeO.ite ?_ ?_
   | refine LeO.bind ?_ (fun _=>?_)
theorem spec_l05Right.mono: ∀a0 a1 a2 k,LeO (spec_l05Right.f k a0 a1 a2) (spec_l05Right.f (k+1) a0 a1 a2):=by
 intro a0 a1 a2 k
 have ih0:=spec_l05Right.mono_l k
 unfold spec_l05Right.f
 repeat' first
   | (with_reducible exact ih0 _ _ _ _ _)
   | (with_reducible exact spec_l01Frac.mono _ _ _)
   | (with_reducible exact spec_l01Told.mono _ _ _)
   | (with_reducible exact LeO.refl _)
   | (with_reducible exact LeO.none _)
   | (with_reducible refine LeO.ite ?_ ?_)
   | (with_reducible refine LeO.bind ?_ (fun _=>?_))
   | exact ih0 _ _ _ _ _
   | exact spec_l01Frac.mono _ _ _
   | exact spec_l01Told.mono _ _ _
   | exact LeO.none _
   | refine LeO.ite ?_ ?_
   | refine LeO.bind ?_ (fun _=>?_)
def spec_l05Right.T5:Bool × List (List Nat × List Nat):=(true, [([], []),([0], [0]),([], []),([1,2], [1,2]),([3], [3]),([], []),([5], [5]),([], []),([6,7], [6,7]),([8], [8]),([9], [9]),([10], [10]),([4,11], [4,11]),([12], [12]),([], []),([14], [14]),([13,15], [13,15]),([16,16], [16]),([17], [17]),([18], [18]),([18], [18]),([], []),([21,19,17,0,1,2,3,4,5,6,7,8,9,10,11,12,13,14,15,16,17,18,19,21], [19,21]),([20,22,0,1,2,3,4,5,6,7,8,9,10,11,12,13,14,15,16,17,18,19,20,21,22], [20])])
def spec_l05Right.B5:List Nat:= [0,1,0,7,15,0,32,0,224,480,992,2016,4095,8191,0,16384,65535,131071,262143,524287,524287,0,3145727,8388607]
theorem spec_l05Right.tab5:rtab .any (opsOf Try.f86 5)=spec_l05Right.T5:=by kernel_rfl
theorem spec_l05Right.bits5:waitsOk spec_l05Right.T5.2 spec_l05Right.B5=true:=by kernel_rfl
theorem spec_l05Right.calls (k:Nat) (aW:Option Addr) (aK:Nat) (aq:List (List Int)) (a0_1:Int) (aM:Option Addr) (aN:Nat) (az:List Int) (r1:List (S93)) (r2:Int) (w:World) (aY:Kd.C (Kd.slice 2 (Kd.int .i64)) w aW aq.length aq) (aZ:aq.length≤aK) (a9:Kd.C (Kd.int .i64) w aM az.length az) (ba:az.length≤aN) (h:spec_l05Right.f k aq a0_1 az=some (r1,r2)):
  Calls Try.prog 86 #[.agg #[.slice aW aq.length aK, .int .i64 a0_1, .slice aM az.length aN]] w fun e w'=> ∃v0_:Value,e= .returned (.tuple #[v0_, .int .i64 r2])∧Kd.R k93 93 w' w.heap.size (fun _=>True) v0_ r1∧Below w.heap.size w w':=by
 have hu100:=Try.underlying100
 have hu93:=Try.underlying93
 have HR0_0:=Aside0.mk aY
 have HC0_0:=Aside0.mk aZ
 clear aY aZ
 have HR0_2:=Aside0.mk a9
 have HC0_2:=Aside0.mk ba
 clear a9 ba
 have HB:=Aside0.mk (Below.refl w.heap.size w)
 have H:(spec_l05Right.l0 k (([]:List (S93))) 0 aq a0_1 az)=some (r1,r2):=h
 clear h
 obtain⟨bh,hy302⟩: ∃y_:List (S93),y_=(([]:List (S93))):=⟨_,rfl⟩
 replace H:(spec_l05Right.l0 k bh 0 aq a0_1 az)=some (r1,r2):=by first | (rw [hy302];with_reducible exact H) | (have H2_:=(Option.bind_some _ _).symm.trans H;rw [hy302];with_reducible exact H2_) | (have H2_:=(Option.bind_some _ _).symm.trans H;with_reducible exact H2_) | with_reducible exact H | (rw [hy302];exact H) | exact H
 have bb:=Aside0.mk hy302
 clear hy302
 have H':=Aside0.mk H
 clear H
 go_enter Try.func86,Try.ntmps86
 go_wp2_with (first | ((with_reducible refine gate_dst (N:=1) rfl ?_);refine box_event ?hg (N:=1) ?hd (cs:= #[.slice aW aq.length aK, .int .i64 a0_1, .slice aM az.length aN]) (t:=100) ?hr ?_;(case hd=>rfl);(case hg=>rfl);(case hr=>first | (go_simp;done) | (go_simp;rfl));intro au hg w2 hbox hb;have aa:=Aside0.mk (hbox);have bX:=Aside0.mk ((by rw [hg];exact bz_:w.heap.size≤au));have bY:=Aside0.mk ((by rw [hg];exact bz_:w.heap.size≤au));replace HB:=Aside0.mk (bs_ hb);clear hb hbox hg) | ((with_reducible refine gate_dst (N:=8) rfl ?_);refine Kd.R_lit k93 _ 93 ?hg (N:=8) ?hd (xs:=([]:List (S93))) (inner:= []) (ok:=fun _=>True) (okp:=fun _=>True) ?hr ?hp (fun _ hk=>hk) trivial (Below.refl _ _) (Nat.le_refl _) (by simp) ?_;(case hd=>rfl);(case hg=>rfl);(case hr=>first | (go_simp;done) | (go_simp;rfl));(case hp=>exact(Reps.none _ _));intro cm w3 ho4 hb hg_ hnew_;clear hg_ hnew_;(first | rw [← bb.out] at ho4 | (simp only [Int.reduceToNat] at ho4;rw [← bb.out] at ho4));have bu:=Aside0.mk (Kd.R_lower ho4 bz_);replace aa:=Aside0.mk (bb_ aa.out hb);replace HB:=Aside0.mk (bs_ hb);clear hb ho4))
 go_loopg [4,5] k (fun kq v4 v5 w'=> ∃(aU:List (S93)) (ak:Int),v5= .int .i64 ak∧Aside0 (spec_l05Right.l0 kq aU ak aq a0_1 az=some (r1,r2))∧Aside0 (kq≤k)∧Aside0 (Kd.R k93 93 w' w.heap.size (fun _=>True) v4 aU)∧Aside0 (w'.heap[au]?=some (.cells #[(.slice aW aq.length aK), .int .i64 a0_1,(.slice aM az.length aN)] 100 (0,0)))∧Aside0 (Below w.heap.size w w'))
 case atStart=>exact⟨(bh),(0),rs_,H',⟨Nat.le_refl _⟩,⟨ro_ bu.out⟩,⟨bk_⟩,⟨hb_⟩⟩
 case round=>
  clear H'
  try clear p2
  obtain⟨aU,ak,rfl,HA,HK1,av,aa,HB⟩:=hrel
  cases gk with
  | zero=>exact absurd HA.out (by simp [spec_l05Right.l0])
  | succ k1=>
   have H:=HA.out
   clear HA
   simp only [spec_l05Right.l0] at H
   by_cases c5:ak < (aq.length:Int)
   ·rw [if_pos c5] at H
    have c5b0:decide (ak < (aq.length:Int))=true:=decide_eq_true c5
    clear c5
    by_cases c6:0≤ak
    ·rw [if_pos c6] at H
     have c6b0:decide (0≤ak)=true:=decide_eq_true c6
     clear c6
     obtain⟨ji7,hji7⟩: ∃j_:Int,(wrap64 (((rd_L1 aq ak).length:Int) - 1))=j_:=⟨_,rfl⟩
     replace H:(if 0≤(ji7) then(if(ji7) < ((rd_L1 aq ak).length:Int) then((spec_l01Frac.f k1 (rd (rd_L1 aq ak) (ji7)) a0_1).bind fun bg=>((spec_l01Told.f k1 bg.1 bg.2).bind fun aV=>(if aV.2.2=0 then(if aU.length < 8796093022208 then(spec_l05Right.l0 k1 (aU++ [(⟨aV.1,aV.2.1⟩:S93)]) (wrap64 (ak+1)) aq a0_1 az) else(none)) else(some (([]:List (S93)),aV.2.2))))) else(none)) else(none))=some (r1,r2):=by first | (rw [hji7] at H;exact H) | (simp only [hji7] at H ⊢;exact H)
     have hji7w:(IntKind.i64.wrap (((rd_L1 aq ak).length:Int) - 1))=ji7:=(i64_w _).trans hji7
     by_cases c8:0≤(ji7)
     ·rw [if_pos c8] at H
      have c8b0:decide (0≤(ji7))=true:=decide_eq_true c8
      clear c8
      by_cases c9:(ji7) < ((rd_L1 aq ak).length:Int)
      ·rw [if_pos c9] at H
       have c9b0:decide ((ji7) < ((rd_L1 aq ak).length:Int))=true:=decide_eq_true c9
       clear c9
       replace H:=Option.bind_eq_some_iff.mp H
       obtain⟨⟨aH,aI⟩,A100,H⟩:=H
       replace H:((spec_l01Told.f k1 aH aI).bind fun aV=>(if aV.2.2=0 then(if aU.length < 8796093022208 then(spec_l05Right.l0 k1 (aU++ [(⟨aV.1,aV.2.1⟩:S93)]) (wrap64 (ak+1)) aq a0_1 az) else(none)) else(some (([]:List (S93)),aV.2.2))))=some (r1,r2):=H
       have A10:=Aside0.mk A100
       clear A100
       replace H:=Option.bind_eq_some_iff.mp H
       obtain⟨⟨aC,aD,aJ⟩,A110,H⟩:=H
       replace H:(if aJ=0 then(if aU.length < 8796093022208 then(spec_l05Right.l0 k1 (aU++ [(⟨aC,aD⟩:S93)]) (wrap64 (ak+1)) aq a0_1 az) else(none)) else(some (([]:List (S93)),aJ)))=some (r1,r2):=H
       have A11:=Aside0.mk A110
       clear A110
       by_cases c12:aJ=0
       ·rw [if_pos c12] at H
        have c12b0:(aJ==0)=true:=beq_iff_eq.mpr c12
        have c12b1:(aJ !=0)=false:=bne_eq_false_iff_eq.mpr c12
        clear c12
        by_cases c13:aU.length < 8796093022208
        ·rw [if_pos c13] at H
         have bv:=Aside0.mk c13
         clear c13
         obtain⟨bi,hy314⟩: ∃y_:List (S93),y_=(aU++ [(⟨aC,aD⟩:S93)]):=⟨_,rfl⟩
         replace H:(spec_l05Right.l0 k1 bi (wrap64 (ak+1)) aq a0_1 az)=some (r1,r2):=by first | (rw [hy314];with_reducible exact H) | (have H2_:=(Option.bind_some _ _).symm.trans H;rw [hy314];with_reducible exact H2_) | (have H2_:=(Option.bind_some _ _).symm.trans H;with_reducible exact H2_) | with_reducible exact H | (rw [hy314];exact H) | exact H
         have bw:=Aside0.mk hy314
         clear hy314
         have H':=Aside0.mk H
         clear H
         have bA:wr.cell? ⟨au,0,none⟩=some (.slice aW aq.length aK):=(blk_cell aa.out 0).trans rfl
         have bB:wr.cell? ⟨au,1,none⟩=some (.int .i64 a0_1):=(blk_cell aa.out 1).trans rfl
         have bC:wr.cell? ⟨au,2,none⟩=some (.slice aM az.length aN):=(blk_cell aa.out 2).trans rfl
         have bD:=blk_frozen aa.out 0
         have bE:=blk_frozen aa.out 1
         have bF:=blk_frozen aa.out 2
         try go_wp2
         replace av:=Aside0.mk (Kd.R_drew av.out)
         replace aa:=Aside0.mk (blk_drew aa.out)
         replace HB:=Aside0.mk (below_drew1 HB.out)
         have p305:0≤(ak:Int):=od_
         have q305:ak < (aq.length:Int):=od_
         obtain⟨ay,bk,aG,e305,hx305_0,hl305_0,hi305_0⟩:=at_L1 HR0_0.out ak p305 q305
         have af:=hx305_0
         cases e305
         replace hx305_0:=(HB.out.cell (World.block_lt_of_cell? w _ hx305_0)).trans hx305_0
         have HR305_0:=Aside0.mk hi305_0
         have HC305_0:=Aside0.mk hl305_0
         clear hi305_0 hl305_0
         replace p305:=eq_true p305
         replace q305:=eq_true q305
         have p306:0≤(ak:Int):=od_
         have q306:ak < (aq.length:Int):=od_
         obtain⟨aX,bn,bq,e306,hx306_0,hl306_0,hi306_0⟩:=at_L1 HR0_0.out ak p306 q306
         have ag:=hx306_0
         obtain rfl:ay=aX:=(by injection e306)
         replace hx306_0:=(HB.out.cell (World.block_lt_of_cell? w _ hx306_0)).trans hx306_0
         have HR306_0:=Aside0.mk hi306_0
         have HC306_0:=Aside0.mk hl306_0
         clear hi306_0 hl306_0
         replace p306:=eq_true p306
         replace q306:=eq_true q306
         have ea_:=Option.some.inj (hx305_0.symm.trans hx306_0)
         injection ea_ with ea_ en_ ec_
         subst ea_
         subst ec_
         clear en_
         have p307:0≤((ji7):Int):=od_
         have q307:(ji7) < ((rd_L1 aq ak).length:Int):=od_
         obtain⟨aA,e307,hx307_0⟩:=Kd.at_int HR305_0.out (ji7) p307 q307
         have ah:=hx307_0
         cases e307
         replace hx307_0:=(HB.out.cell (World.block_lt_of_cell? w _ hx307_0)).trans hx307_0
         replace p307:=eq_true p307
         replace q307:=eq_true q307
         refine st_ (n:=24) (S:=fun w'=>w'.cell? ⟨au,0,none⟩=some (.slice (some ay) aq.length aK)∧w'.cell? ⟨au,1,none⟩=some (.int .i64 a0_1)∧w'.cell? ⟨au,2,none⟩=some (.slice aM az.length aN)∧w'.cell? (ay.add (ak).toNat)=some (.slice (some aA) (rd_L1 aq ak).length aG)∧w'.cell? (ay.add (ak).toNat)=some (.slice (some aA) (rd_L1 aq ak).length aG)∧w'.cell? (aA.add ((ji7)).toNat)=some (.int .i64 (rd (rd_L1 aq ak) (ji7)))) (ds:= []) ⟨(blk_cell aa.out 0).trans rfl,(blk_cell aa.out 1).trans rfl,(blk_cell aa.out 2).trans rfl,((HB.out.cell (World.block_lt_of_cell? w _ af)).trans af),((HB.out.cell (World.block_lt_of_cell? w _ ag)).trans ag),((HB.out.cell (World.block_lt_of_cell? w _ ah)).trans ah)⟩ (fun hHeld=>?_);refine with_tabW spec_l05Right.tab5 spec_l05Right.bits5 (fun HT_ HW_=>?_)
         generalize wr.drew=w15 at av aa HB HR305_0 HR306_0 hx305_0 hx306_0 hx307_0 hHeld ⊢
         refine pu_ 0 17 ?_;refine pu_ 2 19 ?_;refine pu_ 5 22 ?_;refine pu_ 7 24 ?_;refine pu_ 14 31 ?_;refine tk_ 1 18 ?_;refine pu_ 3 20 ?_;refine tk_ 4 21 ?_;refine tk_ 6 23 ?_;refine pu_ 8 25 ?_;refine tk_ 9 26 ?_;refine pu_ 10 27 ?_;refine pu_ 11 28 ?_;refine pu_ 12 29 ?_;refine tk_ 13 30 ?_;refine tk_ 15 32 ?_
         refine join_ (σ:=Nat) 2 (fm 24 4194303) (fun s_=> [(33, .agg #[.int .i64 aH, .int .i64 aI]),(34, .tuple #[.agg #[.int .i64 aC, .int .i64 aD], .int .i64 aJ]),(6, .pointer (some ⟨s_,0,none⟩)),(16, .tuple #[.agg #[.int .i64 aC, .int .i64 aD], .int .i64 aJ]),(35, .agg #[.int .i64 aC, .int .i64 aD]),(36, .int .i64 aJ)]) (fun s_ w'=>(w'.cell? ⟨au,0,none⟩=some (.slice (some ay) aq.length aK)∧w'.cell? ⟨au,1,none⟩=some (.int .i64 a0_1)∧w'.cell? ⟨au,2,none⟩=some (.slice aM az.length aN)∧w'.cell? (ay.add (ak).toNat)=some (.slice (some aA) (rd_L1 aq ak).length aG)∧w'.cell? (ay.add (ak).toNat)=some (.slice (some aA) (rd_L1 aq ak).length aG)∧w'.cell? (aA.add ((ji7)).toNat)=some (.int .i64 (rd (rd_L1 aq ak) (ji7))))∧(Kd.R k93 93 w' w.heap.size (fun k_=>k_≠s_) u4 aU)∧(w'.heap[au]?=some (.cells #[.slice (some ay) aq.length aK, .int .i64 a0_1, .slice aM az.length aN] 100 (0,0)))∧(w'.heap[s_]?=some (.cells #[.int .i64 0, .int .i64 0] 93 (0,0)))∧(w.heap.size≤s_)∧(w.heap.size≤s_)∧(au≠s_)∧(s_≠au)∧(Below w.heap.size w w')) ?_ ?_
         rotate_left
         ·intro hCont
          refine two_ (i:=16) (j:=21) (Ni:=some 33) (Nj:=some 6) (fm 24 131071) (fm 24 2162687) rfl rfl rfl rfl (two_of HT_.out (by kernel_rfl)) (by decide) (by decide) (fun K hK=>?_) (fun K hK=>?_)
          ·skip
           refine goes_ Try.func152 (by kernel_rfl) rfl #[.int .i64 (rd (rd_L1 aq ak) (ji7)), .int .i64 a0_1] (by rfl) rfl rfl (by(try simp only [List.map_toArray,List.map_cons,List.map_nil]);first | done | (simp only [hji7];rfl) | rfl | (simp only [List.length_drop,List.length_take];rfl)) ?_
           with_reducible refine(spec_l01Frac.calls k1 (rd (rd_L1 aq ak) (ji7)) a0_1 aH aI _ A10.out).mono ?_
           rintro e w16 ⟨rfl,hb⟩
           refine⟨_,rfl,?_⟩
           replace av:=Aside0.mk (rb_ av.out hb)
           replace aa:=Aside0.mk (bb_ aa.out hb)
           replace HB:=Aside0.mk (bs_ hb)
           (try clear hb)
           (try clear hb2)
           (try clear hk)
           (try clear hi)
           refine hK.out _ _ ⟨(blk_cell aa.out 0).trans rfl,(blk_cell aa.out 1).trans rfl,(blk_cell aa.out 2).trans rfl,((HB.out.cell (World.block_lt_of_cell? w _ af)).trans af),((HB.out.cell (World.block_lt_of_cell? w _ ag)).trans ag),((HB.out.cell (World.block_lt_of_cell? w _ ah)).trans ah)⟩ (fun hHeld=>?_)
           clear hK K
           refine norm_ (a':=?_) ?_ ?_
           rotate_left
           ·show Act.put _ (some 33) _=_
            simp only [Act.put,List.setIfInBounds_toArray,List.set_cons_zero,List.set_cons_succ,i64_w,i32_w]
            rfl
           refine two_ (i:=17) (j:=21) (Ni:=some 34) (Nj:=some 6) (fm 24 262143) (fm 24 2228223) rfl rfl rfl rfl (two_of HT_.out (by kernel_rfl)) (by decide) (by decide) (fun K hK=>?_) (fun K hK=>?_)
           ·skip
            refine goes_ Try.func151 (by kernel_rfl) rfl #[.agg #[.int .i64 aH, .int .i64 aI]] (by rfl) rfl rfl (by(try simp only [List.map_toArray,List.map_cons,List.map_nil]);first | done | rfl | (simp only [List.length_drop,List.length_take];rfl)) ?_
            with_reducible refine(spec_l01Told.calls k1 aH aI aC aD aJ _ A11.out).mono ?_
            rintro e w17 ⟨rfl,hb⟩
            refine⟨_,rfl,?_⟩
            replace av:=Aside0.mk (rb_ av.out hb)
            replace aa:=Aside0.mk (bb_ aa.out hb)
            replace HB:=Aside0.mk (bs_ hb)
            (try clear hb)
            (try clear hb2)
            (try clear hk)
            (try clear hi)
            refine hK.out _ _ ⟨(blk_cell aa.out 0).trans rfl,(blk_cell aa.out 1).trans rfl,(blk_cell aa.out 2).trans rfl,((HB.out.cell (World.block_lt_of_cell? w _ af)).trans af),((HB.out.cell (World.block_lt_of_cell? w _ ag)).trans ag),((HB.out.cell (World.block_lt_of_cell? w _ ah)).trans ah)⟩ (fun hHeld=>?_)
            clear hK K
            refine norm_ (a':=?_) ?_ ?_
            rotate_left
            ·show Act.put _ (some 34) _=_
             simp only [Act.put,List.setIfInBounds_toArray,List.set_cons_zero,List.set_cons_succ,i64_w,i32_w]
             rfl
            refine pu_ 18 16 ?_;refine pu_ 19 35 ?_;refine pu_ 20 36 ?_
            refine on_ 21 (some 6) (fun K hK=>?_)
            refine box_step ?hg (N:=6) ?hd (cs:= #[.int .i64 0, .int .i64 0]) (t:=93) ?hr ?_;(case hd=>rfl);(case hg=>rfl);(case hr=>first | (go_simp;done) | (go_simp;rfl))
            intro ae hg w18 hbox hb
            replace av:=Aside0.mk (Kd.R_below (Kd.R_elderB (ro_ av.out) ae (Nat.le_of_eq hg.symm)) hb)
            have aw:=Aside0.mk (hbox)
            have ai:=Aside0.mk ((by rw [hg];exact bz_:w.heap.size≤ae))
            have aT:=Aside0.mk ((by rw [hg];exact bz_:w.heap.size≤ae))
            have aj:=Aside0.mk ((by rw [hg];exact lt_ aa.out:au≠ae))
            have ax:=Aside0.mk ((by rw [hg];exact gt_ aa.out:ae≠au))
            replace aa:=Aside0.mk (bb_ aa.out hb)
            replace HB:=Aside0.mk (bs_ hb)
            clear hb hbox hg
            refine hK.out _ _ ⟨(blk_cell aa.out 0).trans rfl,(blk_cell aa.out 1).trans rfl,(blk_cell aa.out 2).trans rfl,((HB.out.cell (World.block_lt_of_cell? w _ af)).trans af),((HB.out.cell (World.block_lt_of_cell? w _ ag)).trans ag),((HB.out.cell (World.block_lt_of_cell? w _ ah)).trans ah)⟩ (fun hHeld=>?_)
            clear hK K
            refine norm_ (a':=?_) ?_ ?_
            rotate_left
            ·show Act.put _ (some 6) _=_
             simp only [Act.put,List.setIfInBounds_toArray,List.set_cons_zero,List.set_cons_succ,i64_w,i32_w]
             rfl
            exact norm_ (by simp only [putAll,Act.put,List.setIfInBounds_toArray,List.set_cons_zero,List.set_cons_succ]) (hCont (ae) _ ⟨hHeld,(by(with_reducible repeat (first | apply Kd.R_alloc | apply Kd.R_drewN | apply Kd.R_drew));exact Kd.R_mono av.out (fun _ hk=>hk.2)),bk_,bk_,ai.out,aT.out,aj.out,ax.out,hb_⟩)
           ·skip
            refine box_step ?hg (N:=6) ?hd (cs:= #[.int .i64 0, .int .i64 0]) (t:=93) ?hr ?_;(case hd=>rfl);(case hg=>rfl);(case hr=>first | (go_simp;done) | (go_simp;rfl))
            intro ae hg w17 hbox hb
            replace av:=Aside0.mk (Kd.R_below (Kd.R_elderB (ro_ av.out) ae (Nat.le_of_eq hg.symm)) hb)
            have aw:=Aside0.mk (hbox)
            have ai:=Aside0.mk ((by rw [hg];exact bz_:w.heap.size≤ae))
            have aT:=Aside0.mk ((by rw [hg];exact bz_:w.heap.size≤ae))
            have aj:=Aside0.mk ((by rw [hg];exact lt_ aa.out:au≠ae))
            have ax:=Aside0.mk ((by rw [hg];exact gt_ aa.out:ae≠au))
            replace aa:=Aside0.mk (bb_ aa.out hb)
            replace HB:=Aside0.mk (bs_ hb)
            clear hb hbox hg
            refine hK.out _ _ ⟨(blk_cell aa.out 0).trans rfl,(blk_cell aa.out 1).trans rfl,(blk_cell aa.out 2).trans rfl,((HB.out.cell (World.block_lt_of_cell? w _ af)).trans af),((HB.out.cell (World.block_lt_of_cell? w _ ag)).trans ag),((HB.out.cell (World.block_lt_of_cell? w _ ah)).trans ah)⟩ (fun hHeld=>?_)
            clear hK K
            refine norm_ (a':=?_) ?_ ?_
            rotate_left
            ·show Act.put _ (some 6) _=_
             simp only [Act.put,List.setIfInBounds_toArray,List.set_cons_zero,List.set_cons_succ,i64_w,i32_w]
             rfl
            refine on_ 17 (some 34) (fun K hK=>?_)
            refine goes_ Try.func151 (by kernel_rfl) rfl #[.agg #[.int .i64 aH, .int .i64 aI]] (by rfl) rfl rfl (by(try simp only [List.map_toArray,List.map_cons,List.map_nil]);first | done | rfl | (simp only [List.length_drop,List.length_take];rfl)) ?_
            with_reducible refine(spec_l01Told.calls k1 aH aI aC aD aJ _ A11.out).mono ?_
            rintro e w18 ⟨rfl,hb⟩
            refine⟨_,rfl,?_⟩
            replace av:=Aside0.mk (rb_ av.out hb)
            replace aa:=Aside0.mk (bb_ aa.out hb)
            replace aw:=Aside0.mk (bb_ aw.out hb)
            replace HB:=Aside0.mk (bs_ hb)
            (try clear hb)
            (try clear hb2)
            (try clear hk)
            (try clear hi)
            refine hK.out _ _ ⟨(blk_cell aa.out 0).trans rfl,(blk_cell aa.out 1).trans rfl,(blk_cell aa.out 2).trans rfl,((HB.out.cell (World.block_lt_of_cell? w _ af)).trans af),((HB.out.cell (World.block_lt_of_cell? w _ ag)).trans ag),((HB.out.cell (World.block_lt_of_cell? w _ ah)).trans ah)⟩ (fun hHeld=>?_)
            clear hK K
            refine norm_ (a':=?_) ?_ ?_
            rotate_left
            ·show Act.put _ (some 34) _=_
             simp only [Act.put,List.setIfInBounds_toArray,List.set_cons_zero,List.set_cons_succ,i64_w,i32_w]
             rfl
            refine pu_ 18 16 ?_;refine pu_ 19 35 ?_;refine pu_ 20 36 ?_
            exact norm_ (by simp only [putAll,Act.put,List.setIfInBounds_toArray,List.set_cons_zero,List.set_cons_succ]) (hCont (ae) _ ⟨hHeld,(by(with_reducible repeat (first | apply Kd.R_alloc | apply Kd.R_drewN | apply Kd.R_drew));exact Kd.R_mono av.out (fun _ hk=>hk.2)),bk_,bk_,ai.out,aT.out,aj.out,ax.out,hb_⟩)
          ·skip
           refine box_step ?hg (N:=6) ?hd (cs:= #[.int .i64 0, .int .i64 0]) (t:=93) ?hr ?_;(case hd=>rfl);(case hg=>rfl);(case hr=>first | (go_simp;done) | (go_simp;rfl))
           intro ae hg w16 hbox hb
           replace av:=Aside0.mk (Kd.R_below (Kd.R_elderB (ro_ av.out) ae (Nat.le_of_eq hg.symm)) hb)
           have aw:=Aside0.mk (hbox)
           have ai:=Aside0.mk ((by rw [hg];exact bz_:w.heap.size≤ae))
           have aT:=Aside0.mk ((by rw [hg];exact bz_:w.heap.size≤ae))
           have aj:=Aside0.mk ((by rw [hg];exact lt_ aa.out:au≠ae))
           have ax:=Aside0.mk ((by rw [hg];exact gt_ aa.out:ae≠au))
           replace aa:=Aside0.mk (bb_ aa.out hb)
           replace HB:=Aside0.mk (bs_ hb)
           clear hb hbox hg
           refine hK.out _ _ ⟨(blk_cell aa.out 0).trans rfl,(blk_cell aa.out 1).trans rfl,(blk_cell aa.out 2).trans rfl,((HB.out.cell (World.block_lt_of_cell? w _ af)).trans af),((HB.out.cell (World.block_lt_of_cell? w _ ag)).trans ag),((HB.out.cell (World.block_lt_of_cell? w _ ah)).trans ah)⟩ (fun hHeld=>?_)
           clear hK K
           refine norm_ (a':=?_) ?_ ?_
           rotate_left
           ·show Act.put _ (some 6) _=_
            simp only [Act.put,List.setIfInBounds_toArray,List.set_cons_zero,List.set_cons_succ,i64_w,i32_w]
            rfl
           refine on_ 16 (some 33) (fun K hK=>?_)
           refine goes_ Try.func152 (by kernel_rfl) rfl #[.int .i64 (rd (rd_L1 aq ak) (ji7)), .int .i64 a0_1] (by rfl) rfl rfl (by(try simp only [List.map_toArray,List.map_cons,List.map_nil]);first | done | (simp only [hji7];rfl) | rfl | (simp only [List.length_drop,List.length_take];rfl)) ?_
           with_reducible refine(spec_l01Frac.calls k1 (rd (rd_L1 aq ak) (ji7)) a0_1 aH aI _ A10.out).mono ?_
           rintro e w17 ⟨rfl,hb⟩
           refine⟨_,rfl,?_⟩
           replace av:=Aside0.mk (rb_ av.out hb)
           replace aa:=Aside0.mk (bb_ aa.out hb)
           replace aw:=Aside0.mk (bb_ aw.out hb)
           replace HB:=Aside0.mk (bs_ hb)
           (try clear hb)
           (try clear hb2)
           (try clear hk)
           (try clear hi)
           refine hK.out _ _ ⟨(blk_cell aa.out 0).trans rfl,(blk_cell aa.out 1).trans rfl,(blk_cell aa.out 2).trans rfl,((HB.out.cell (World.block_lt_of_cell? w _ af)).trans af),((HB.out.cell (World.block_lt_of_cell? w _ ag)).trans ag),((HB.out.cell (World.block_lt_of_cell? w _ ah)).trans ah)⟩ (fun hHeld=>?_)
           clear hK K
           refine norm_ (a':=?_) ?_ ?_
           rotate_left
           ·show Act.put _ (some 33) _=_
            simp only [Act.put,List.setIfInBounds_toArray,List.set_cons_zero,List.set_cons_succ,i64_w,i32_w]
            rfl
           refine on_ 17 (some 34) (fun K hK=>?_)
           refine goes_ Try.func151 (by kernel_rfl) rfl #[.agg #[.int .i64 aH, .int .i64 aI]] (by rfl) rfl rfl (by(try simp only [List.map_toArray,List.map_cons,List.map_nil]);first | done | rfl | (simp only [List.length_drop,List.length_take];rfl)) ?_
           with_reducible refine(spec_l01Told.calls k1 aH aI aC aD aJ _ A11.out).mono ?_
           rintro e w18 ⟨rfl,hb⟩
           refine⟨_,rfl,?_⟩
           replace av:=Aside0.mk (rb_ av.out hb)
           replace aa:=Aside0.mk (bb_ aa.out hb)
           replace aw:=Aside0.mk (bb_ aw.out hb)
           replace HB:=Aside0.mk (bs_ hb)
           (try clear hb)
           (try clear hb2)
           (try clear hk)
           (try clear hi)
           refine hK.out _ _ ⟨(blk_cell aa.out 0).trans rfl,(blk_cell aa.out 1).trans rfl,(blk_cell aa.out 2).trans rfl,((HB.out.cell (World.block_lt_of_cell? w _ af)).trans af),((HB.out.cell (World.block_lt_of_cell? w _ ag)).trans ag),((HB.out.cell (World.block_lt_of_cell? w _ ah)).trans ah)⟩ (fun hHeld=>?_)
           clear hK K
           refine norm_ (a':=?_) ?_ ?_
           rotate_left
           ·show Act.put _ (some 34) _=_
            simp only [Act.put,List.setIfInBounds_toArray,List.set_cons_zero,List.set_cons_succ,i64_w,i32_w]
            rfl
           refine pu_ 18 16 ?_;refine pu_ 19 35 ?_;refine pu_ 20 36 ?_
           exact norm_ (by simp only [putAll,Act.put,List.setIfInBounds_toArray,List.set_cons_zero,List.set_cons_succ]) (hCont (ae) _ ⟨hHeld,(by(with_reducible repeat (first | apply Kd.R_alloc | apply Kd.R_drewN | apply Kd.R_drew));exact Kd.R_mono av.out (fun _ hk=>hk.2)),bk_,bk_,ai.out,aT.out,aj.out,ax.out,hb_⟩)
         rintro ae w19 ⟨hS_,h0_,h1_,h2_,h3_,h4_,h5_,h6_,h7_⟩
         have n0_:Aside0 (Kd.R k93 93 w19 w.heap.size (fun k_=>k_≠ae) u4 aU):=⟨h0_⟩
         have n1_:Aside0 (w19.heap[au]?=some (.cells #[.slice (some ay) aq.length aK, .int .i64 a0_1, .slice aM az.length aN] 100 (0,0))):=⟨h1_⟩
         have n2_:Aside0 (w19.heap[ae]?=some (.cells #[.int .i64 0, .int .i64 0] 93 (0,0))):=⟨h2_⟩
         have n3_:Aside0 (w.heap.size≤ae):=⟨h3_⟩
         have n4_:Aside0 (w.heap.size≤ae):=⟨h4_⟩
         have n5_:Aside0 (au≠ae):=⟨h5_⟩
         have n6_:Aside0 (ae≠au):=⟨h6_⟩
         have n7_:Aside0 (Below w.heap.size w w19):=⟨h7_⟩
         clear av aa HB h0_ h1_ h2_ h3_ h4_ h5_ h6_ h7_
         have av:=n0_
         have aa:=n1_
         have aw:=n2_
         have ai:=n3_
         have aT:=n4_
         have aj:=n5_
         have ax:=n6_
         have HB:=n7_
         clear n0_ n1_ n2_ n3_ n4_ n5_ n6_ n7_
         have hHeld:w19.cell? ⟨au,0,none⟩=some (.slice (some ay) aq.length aK)∧w19.cell? ⟨au,1,none⟩=some (.int .i64 a0_1)∧w19.cell? ⟨au,2,none⟩=some (.slice aM az.length aN)∧w19.cell? (ay.add (ak).toNat)=some (.slice (some aA) (rd_L1 aq ak).length aG)∧w19.cell? (ay.add (ak).toNat)=some (.slice (some aA) (rd_L1 aq ak).length aG)∧w19.cell? (aA.add ((ji7)).toNat)=some (.int .i64 (rd (rd_L1 aq ak) (ji7))):=hS_
         refine norm_ (a':=?_) ?_ ?_
         rotate_left
         ·simp only [putAll,Act.put,List.setIfInBounds_toArray,List.set_cons_zero,List.set_cons_succ]
          rfl
         refine on_ 22 none (fun K hK=>?_)
         have hs20:w19.cell? ⟨ae,0,none⟩=some (.int .i64 0):=(blk_cell aw.out 0).trans rfl
         have hfs20:=blk_frozen aw.out 0
         have hns20_0:=aj.out
         have hms20_0:=ax.out
         have hs21:w19.cell? ⟨ae,1,none⟩=some (.int .i64 0):=(blk_cell aw.out 1).trans rfl
         have hfs21:=blk_frozen aw.out 1
         have hns21_0:=aj.out
         have hms21_0:=ax.out
         refine skip_ (w1:=?_) (by rfl) rfl ?_ ?_
         rotate_left
         ·go_simp
          rfl
         refine hK.out _ _ ⟨((cell_far (p:=⟨ae,_,none⟩) aj.out _).trans (((cell_far (p:=⟨ae,_,none⟩) aj.out _).trans (hHeld.1)))),((cell_far (p:=⟨ae,_,none⟩) aj.out _).trans (((cell_far (p:=⟨ae,_,none⟩) aj.out _).trans (hHeld.2.1)))),((cell_far (p:=⟨ae,_,none⟩) aj.out _).trans (((cell_far (p:=⟨ae,_,none⟩) aj.out _).trans (hHeld.2.2.1)))),((cell_far (p:=⟨ae,_,none⟩) (by first | exact Nat.ne_of_lt (Nat.lt_of_lt_of_le (by have:=World.block_lt_of_cell? _ _ af;first | rwa [add_block] at this | exact this) ai.out) | (rw [add_block];exact Nat.ne_of_lt (Nat.lt_of_lt_of_le (by have:=World.block_lt_of_cell? _ _ af;first | rwa [add_block] at this | exact this) ai.out)) | (show (Addr.add _ _).block≠_;rw [add_block];exact Nat.ne_of_lt (Nat.lt_of_lt_of_le (by have:=World.block_lt_of_cell? _ _ af;first | rwa [add_block] at this | exact this) ai.out)) | (dsimp only;exact Nat.ne_of_lt (Nat.lt_of_lt_of_le (by have:=World.block_lt_of_cell? _ _ af;first | rwa [add_block] at this | exact this) ai.out))) _).trans (((cell_far (p:=⟨ae,_,none⟩) (by first | exact Nat.ne_of_lt (Nat.lt_of_lt_of_le (by have:=World.block_lt_of_cell? _ _ af;first | rwa [add_block] at this | exact this) ai.out) | (rw [add_block];exact Nat.ne_of_lt (Nat.lt_of_lt_of_le (by have:=World.block_lt_of_cell? _ _ af;first | rwa [add_block] at this | exact this) ai.out)) | (show (Addr.add _ _).block≠_;rw [add_block];exact Nat.ne_of_lt (Nat.lt_of_lt_of_le (by have:=World.block_lt_of_cell? _ _ af;first | rwa [add_block] at this | exact this) ai.out)) | (dsimp only;exact Nat.ne_of_lt (Nat.lt_of_lt_of_le (by have:=World.block_lt_of_cell? _ _ af;first | rwa [add_block] at this | exact this) ai.out))) _).trans (hHeld.2.2.2.1)))),((cell_far (p:=⟨ae,_,none⟩) (by first | exact Nat.ne_of_lt (Nat.lt_of_lt_of_le (by have:=World.block_lt_of_cell? _ _ ag;first | rwa [add_block] at this | exact this) ai.out) | (rw [add_block];exact Nat.ne_of_lt (Nat.lt_of_lt_of_le (by have:=World.block_lt_of_cell? _ _ ag;first | rwa [add_block] at this | exact this) ai.out)) | (show (Addr.add _ _).block≠_;rw [add_block];exact Nat.ne_of_lt (Nat.lt_of_lt_of_le (by have:=World.block_lt_of_cell? _ _ ag;first | rwa [add_block] at this | exact this) ai.out)) | (dsimp only;exact Nat.ne_of_lt (Nat.lt_of_lt_of_le (by have:=World.block_lt_of_cell? _ _ ag;first | rwa [add_block] at this | exact this) ai.out))) _).trans (((cell_far (p:=⟨ae,_,none⟩) (by first | exact Nat.ne_of_lt (Nat.lt_of_lt_of_le (by have:=World.block_lt_of_cell? _ _ ag;first | rwa [add_block] at this | exact this) ai.out) | (rw [add_block];exact Nat.ne_of_lt (Nat.lt_of_lt_of_le (by have:=World.block_lt_of_cell? _ _ ag;first | rwa [add_block] at this | exact this) ai.out)) | (show (Addr.add _ _).block≠_;rw [add_block];exact Nat.ne_of_lt (Nat.lt_of_lt_of_le (by have:=World.block_lt_of_cell? _ _ ag;first | rwa [add_block] at this | exact this) ai.out)) | (dsimp only;exact Nat.ne_of_lt (Nat.lt_of_lt_of_le (by have:=World.block_lt_of_cell? _ _ ag;first | rwa [add_block] at this | exact this) ai.out))) _).trans (hHeld.2.2.2.2.1)))),((cell_far (p:=⟨ae,_,none⟩) (by first | exact Nat.ne_of_lt (Nat.lt_of_lt_of_le (by have:=World.block_lt_of_cell? _ _ ah;first | rwa [add_block] at this | exact this) ai.out) | (rw [add_block];exact Nat.ne_of_lt (Nat.lt_of_lt_of_le (by have:=World.block_lt_of_cell? _ _ ah;first | rwa [add_block] at this | exact this) ai.out)) | (show (Addr.add _ _).block≠_;rw [add_block];exact Nat.ne_of_lt (Nat.lt_of_lt_of_le (by have:=World.block_lt_of_cell? _ _ ah;first | rwa [add_block] at this | exact this) ai.out)) | (dsimp only;exact Nat.ne_of_lt (Nat.lt_of_lt_of_le (by have:=World.block_lt_of_cell? _ _ ah;first | rwa [add_block] at this | exact this) ai.out))) _).trans (((cell_far (p:=⟨ae,_,none⟩) (by first | exact Nat.ne_of_lt (Nat.lt_of_lt_of_le (by have:=World.block_lt_of_cell? _ _ ah;first | rwa [add_block] at this | exact this) ai.out) | (rw [add_block];exact Nat.ne_of_lt (Nat.lt_of_lt_of_le (by have:=World.block_lt_of_cell? _ _ ah;first | rwa [add_block] at this | exact this) ai.out)) | (show (Addr.add _ _).block≠_;rw [add_block];exact Nat.ne_of_lt (Nat.lt_of_lt_of_le (by have:=World.block_lt_of_cell? _ _ ah;first | rwa [add_block] at this | exact this) ai.out)) | (dsimp only;exact Nat.ne_of_lt (Nat.lt_of_lt_of_le (by have:=World.block_lt_of_cell? _ _ ah;first | rwa [add_block] at this | exact this) ai.out))) _).trans (hHeld.2.2.2.2.2))))⟩ (fun hHeld=>?_)
         clear hK K
         refine pu_ 23 7 ?_
         refine done_ (done_of HT_.out (by kernel_rfl)) ?_
         have bZ:=ax.out
         have ck:=aj.out
         have bG:w19.cell? ⟨ae,0,none⟩=some (.int .i64 0):=(blk_cell aw.out 0).trans rfl
         have bH:w19.cell? ⟨ae,1,none⟩=some (.int .i64 0):=(blk_cell aw.out 1).trans rfl
         have bI:=blk_frozen aw.out 0
         have bJ:=blk_frozen aw.out 1
         try go_wp2_with (first | ((with_reducible refine gate_builtin (b:= .append) (xs:= #[.tmp 40, .tmp 42]) rfl ?_);at_builtin;refine Kd.R_append k93 (w0:=w) w.heap.size rfl (.tmp 40) (.tmp 42) 27 93 (.agg #[(.int .i64 0),(.int .i64 0)]) 16 rfl Try.underlying27 info93 rfl (by decide) (by omega) u4 aU (⟨aC,aD⟩:S93) [.int .i64 aC, .int .i64 aD] (fun k_=>k_≠ae) (fun _=>False) rfl (by first | (go_simp;done) | (go_simp;rfl)) ?aP (fun _ hk=>hk.elim) ?aF ?aO ?aB ?aS ?aL ?_;(case aP=>exact k93_mkM _ _ _ (⟨aC,aD⟩:S93));(case aB=>exact hb_);(case aF=>exact(fun k_ hk=>Kd.freshB (g:=ae) (o:= .cells #[.int .i64 aC, .int .i64 aD] 93 (0,0)) (by(with_reducible repeat (first | refine blk_drewN ?_ _ | refine blk_drew ?_ | refine blk_alloc ?_ _));refine blk_put (cs:= #[.int .i64 aC, .int .i64 0]) ?_ 1 _ rfl;(with_reducible repeat (first | refine blk_drewN ?_ _ | refine blk_drew ?_ | refine blk_alloc ?_ _));refine blk_put (cs:= #[.int .i64 0, .int .i64 0]) ?_ 0 _ rfl;(with_reducible repeat (first | refine blk_drewN ?_ _ | refine blk_drew ?_ | refine blk_alloc ?_ _));exact aw.out) k_ hk));(case aO=>exact(by(with_reducible repeat (first | apply Kd.R_alloc | apply Kd.R_drewN | apply Kd.R_drew));exact Kd.R_mono (Kd.R_far (p:=⟨ae,1,none⟩) (Kd.R_far (p:=⟨ae,0,none⟩) (Kd.R_mono av.out (fun k_ hk=>(⟨hk,hk⟩:_∧k_≠ae))) (fun _ hk=>hk.2) (.int .i64 aC)) (fun _ hk=>hk.2) (.int .i64 aD)) (fun _ hk=>hk.1)));(case aS=>exact bz_);(case aL=>have:=bv.out;omega);intro cn w24 ho hb hg hat;rw [← bw.out] at ho;replace aa:=Aside0.mk (blk_grown (g:=au) (o:= .cells #[.slice (some ay) aq.length aK, .int .i64 a0_1, .slice aM az.length aN] 100 (0,0)) (by(with_reducible repeat (first | refine blk_drewN ?_ _ | refine blk_drew ?_ | refine blk_alloc ?_ _));refine blk_far ?_ aj.out _;(with_reducible repeat (first | refine blk_drewN ?_ _ | refine blk_drew ?_ | refine blk_alloc ?_ _));refine blk_far ?_ aj.out _;(with_reducible repeat (first | refine blk_drewN ?_ _ | refine blk_drew ?_ | refine blk_alloc ?_ _));exact aa.out) hg (Kd.R_ne av.out aa.out (by decide)));replace aw:=Aside0.mk (blk_grown (g:=ae) (o:= .cells #[.int .i64 aC, .int .i64 aD] 93 (0,0)) (by(with_reducible repeat (first | refine blk_drewN ?_ _ | refine blk_drew ?_ | refine blk_alloc ?_ _));refine blk_put (cs:= #[.int .i64 aC, .int .i64 0]) ?_ 1 _ rfl;(with_reducible repeat (first | refine blk_drewN ?_ _ | refine blk_drew ?_ | refine blk_alloc ?_ _));refine blk_put (cs:= #[.int .i64 0, .int .i64 0]) ?_ 0 _ rfl;(with_reducible repeat (first | refine blk_drewN ?_ _ | refine blk_drew ?_ | refine blk_alloc ?_ _));exact aw.out) hg (Kd.R_away av.out (fun _ hk=>hk)));replace HB:=Aside0.mk (hb);have bz:=Aside0.mk (ho);clear av ho hb hg hat))
         go_roundg k1
         case measure=>have:=HK1.out;omega
         case rel=>exact⟨(bi),(wrap64 (ak+1)),rs_,H',⟨by have:=HK1.out;omega⟩,⟨by(with_reducible repeat (first | apply Kd.R_alloc | apply Kd.R_drewN | apply Kd.R_drew));exact Kd.R_mono bz.out (fun _ hk=>trivial)⟩,⟨bk_⟩,⟨hb_⟩⟩
        ·rw [if_neg c13] at H
         exact absurd H (by simp)
       ·rw [if_neg c12] at H
        have c12b0:(aJ==0)=false:=beq_eq_false_iff_ne.mpr c12
        have c12b1:(aJ !=0)=true:=bne_iff_ne.mpr c12
        simp only [Option.some.injEq,Prod.mk.injEq] at H
        obtain⟨rfl,rfl⟩:=H
        have bK:wr.cell? ⟨au,0,none⟩=some (.slice aW aq.length aK):=(blk_cell aa.out 0).trans rfl
        have bL:wr.cell? ⟨au,1,none⟩=some (.int .i64 a0_1):=(blk_cell aa.out 1).trans rfl
        have bM:wr.cell? ⟨au,2,none⟩=some (.slice aM az.length aN):=(blk_cell aa.out 2).trans rfl
        have bN:=blk_frozen aa.out 0
        have bO:=blk_frozen aa.out 1
        have bP:=blk_frozen aa.out 2
        try go_wp2
        replace av:=Aside0.mk (Kd.R_drew av.out)
        replace aa:=Aside0.mk (blk_drew aa.out)
        replace HB:=Aside0.mk (below_drew1 HB.out)
        have p305:0≤(ak:Int):=od_
        have q305:ak < (aq.length:Int):=od_
        obtain⟨ay,bk,aG,e305,hx305_0,hl305_0,hi305_0⟩:=at_L1 HR0_0.out ak p305 q305
        have af:=hx305_0
        cases e305
        replace hx305_0:=(HB.out.cell (World.block_lt_of_cell? w _ hx305_0)).trans hx305_0
        have HR305_0:=Aside0.mk hi305_0
        have HC305_0:=Aside0.mk hl305_0
        clear hi305_0 hl305_0
        replace p305:=eq_true p305
        replace q305:=eq_true q305
        have p306:0≤(ak:Int):=od_
        have q306:ak < (aq.length:Int):=od_
        obtain⟨aX,bn,bq,e306,hx306_0,hl306_0,hi306_0⟩:=at_L1 HR0_0.out ak p306 q306
        have ag:=hx306_0
        obtain rfl:ay=aX:=(by injection e306)
        replace hx306_0:=(HB.out.cell (World.block_lt_of_cell? w _ hx306_0)).trans hx306_0
        have HR306_0:=Aside0.mk hi306_0
        have HC306_0:=Aside0.mk hl306_0
        clear hi306_0 hl306_0
        replace p306:=eq_true p306
        replace q306:=eq_true q306
        have ea_:=Option.some.inj (hx305_0.symm.trans hx306_0)
        injection ea_ with ea_ en_ ec_
        subst ea_
        subst ec_
        clear en_
        have p307:0≤((ji7):Int):=od_
        have q307:(ji7) < ((rd_L1 aq ak).length:Int):=od_
        obtain⟨aA,e307,hx307_0⟩:=Kd.at_int HR305_0.out (ji7) p307 q307
        have ah:=hx307_0
        cases e307
        replace hx307_0:=(HB.out.cell (World.block_lt_of_cell? w _ hx307_0)).trans hx307_0
        replace p307:=eq_true p307
        replace q307:=eq_true q307
        refine st_ (n:=24) (S:=fun w'=>w'.cell? ⟨au,0,none⟩=some (.slice (some ay) aq.length aK)∧w'.cell? ⟨au,1,none⟩=some (.int .i64 a0_1)∧w'.cell? ⟨au,2,none⟩=some (.slice aM az.length aN)∧w'.cell? (ay.add (ak).toNat)=some (.slice (some aA) (rd_L1 aq ak).length aG)∧w'.cell? (ay.add (ak).toNat)=some (.slice (some aA) (rd_L1 aq ak).length aG)∧w'.cell? (aA.add ((ji7)).toNat)=some (.int .i64 (rd (rd_L1 aq ak) (ji7)))) (ds:= []) ⟨(blk_cell aa.out 0).trans rfl,(blk_cell aa.out 1).trans rfl,(blk_cell aa.out 2).trans rfl,((HB.out.cell (World.block_lt_of_cell? w _ af)).trans af),((HB.out.cell (World.block_lt_of_cell? w _ ag)).trans ag),((HB.out.cell (World.block_lt_of_cell? w _ ah)).trans ah)⟩ (fun hHeld=>?_);refine with_tabW spec_l05Right.tab5 spec_l05Right.bits5 (fun HT_ HW_=>?_)
        generalize wr.drew=w26 at av aa HB HR305_0 HR306_0 hx305_0 hx306_0 hx307_0 hHeld ⊢
        refine pu_ 0 17 ?_;refine pu_ 2 19 ?_;refine pu_ 5 22 ?_;refine pu_ 7 24 ?_;refine pu_ 14 31 ?_;refine tk_ 1 18 ?_;refine pu_ 3 20 ?_;refine tk_ 4 21 ?_;refine tk_ 6 23 ?_;refine pu_ 8 25 ?_;refine tk_ 9 26 ?_;refine pu_ 10 27 ?_;refine pu_ 11 28 ?_;refine pu_ 12 29 ?_;refine tk_ 13 30 ?_;refine tk_ 15 32 ?_
        refine join_ (σ:=Nat) 2 (fm 24 4194303) (fun s_=> [(33, .agg #[.int .i64 aH, .int .i64 aI]),(34, .tuple #[.agg #[.int .i64 aC, .int .i64 aD], .int .i64 aJ]),(6, .pointer (some ⟨s_,0,none⟩)),(16, .tuple #[.agg #[.int .i64 aC, .int .i64 aD], .int .i64 aJ]),(35, .agg #[.int .i64 aC, .int .i64 aD]),(36, .int .i64 aJ)]) (fun s_ w'=>(w'.cell? ⟨au,0,none⟩=some (.slice (some ay) aq.length aK)∧w'.cell? ⟨au,1,none⟩=some (.int .i64 a0_1)∧w'.cell? ⟨au,2,none⟩=some (.slice aM az.length aN)∧w'.cell? (ay.add (ak).toNat)=some (.slice (some aA) (rd_L1 aq ak).length aG)∧w'.cell? (ay.add (ak).toNat)=some (.slice (some aA) (rd_L1 aq ak).length aG)∧w'.cell? (aA.add ((ji7)).toNat)=some (.int .i64 (rd (rd_L1 aq ak) (ji7))))∧(Kd.R k93 93 w' w.heap.size (fun k_=>k_≠s_) u4 aU)∧(w'.heap[au]?=some (.cells #[.slice (some ay) aq.length aK, .int .i64 a0_1, .slice aM az.length aN] 100 (0,0)))∧(w'.heap[s_]?=some (.cells #[.int .i64 0, .int .i64 0] 93 (0,0)))∧(w.heap.size≤s_)∧(w.heap.size≤s_)∧(au≠s_)∧(s_≠au)∧(Below w.heap.size w w')) ?_ ?_
        rotate_left
        ·intro hCont
         refine two_ (i:=16) (j:=21) (Ni:=some 33) (Nj:=some 6) (fm 24 131071) (fm 24 2162687) rfl rfl rfl rfl (two_of HT_.out (by kernel_rfl)) (by decide) (by decide) (fun K hK=>?_) (fun K hK=>?_)
         ·skip
          refine goes_ Try.func152 (by kernel_rfl) rfl #[.int .i64 (rd (rd_L1 aq ak) (ji7)), .int .i64 a0_1] (by rfl) rfl rfl (by(try simp only [List.map_toArray,List.map_cons,List.map_nil]);first | done | (simp only [hji7];rfl) | rfl | (simp only [List.length_drop,List.length_take];rfl)) ?_
          with_reducible refine(spec_l01Frac.calls k1 (rd (rd_L1 aq ak) (ji7)) a0_1 aH aI _ A10.out).mono ?_
          rintro e w27 ⟨rfl,hb⟩
          refine⟨_,rfl,?_⟩
          replace av:=Aside0.mk (rb_ av.out hb)
          replace aa:=Aside0.mk (bb_ aa.out hb)
          replace HB:=Aside0.mk (bs_ hb)
          (try clear hb)
          (try clear hb2)
          (try clear hk)
          (try clear hi)
          refine hK.out _ _ ⟨(blk_cell aa.out 0).trans rfl,(blk_cell aa.out 1).trans rfl,(blk_cell aa.out 2).trans rfl,((HB.out.cell (World.block_lt_of_cell? w _ af)).trans af),((HB.out.cell (World.block_lt_of_cell? w _ ag)).trans ag),((HB.out.cell (World.block_lt_of_cell? w _ ah)).trans ah)⟩ (fun hHeld=>?_)
          clear hK K
          refine norm_ (a':=?_) ?_ ?_
          rotate_left
          ·show Act.put _ (some 33) _=_
           simp only [Act.put,List.setIfInBounds_toArray,List.set_cons_zero,List.set_cons_succ,i64_w,i32_w]
           rfl
          refine two_ (i:=17) (j:=21) (Ni:=some 34) (Nj:=some 6) (fm 24 262143) (fm 24 2228223) rfl rfl rfl rfl (two_of HT_.out (by kernel_rfl)) (by decide) (by decide) (fun K hK=>?_) (fun K hK=>?_)
          ·skip
           refine goes_ Try.func151 (by kernel_rfl) rfl #[.agg #[.int .i64 aH, .int .i64 aI]] (by rfl) rfl rfl (by(try simp only [List.map_toArray,List.map_cons,List.map_nil]);first | done | rfl | (simp only [List.length_drop,List.length_take];rfl)) ?_
           with_reducible refine(spec_l01Told.calls k1 aH aI aC aD aJ _ A11.out).mono ?_
           rintro e w28 ⟨rfl,hb⟩
           refine⟨_,rfl,?_⟩
           replace av:=Aside0.mk (rb_ av.out hb)
           replace aa:=Aside0.mk (bb_ aa.out hb)
           replace HB:=Aside0.mk (bs_ hb)
           (try clear hb)
           (try clear hb2)
           (try clear hk)
           (try clear hi)
           refine hK.out _ _ ⟨(blk_cell aa.out 0).trans rfl,(blk_cell aa.out 1).trans rfl,(blk_cell aa.out 2).trans rfl,((HB.out.cell (World.block_lt_of_cell? w _ af)).trans af),((HB.out.cell (World.block_lt_of_cell? w _ ag)).trans ag),((HB.out.cell (World.block_lt_of_cell? w _ ah)).trans ah)⟩ (fun hHeld=>?_)
           clear hK K
           refine norm_ (a':=?_) ?_ ?_
           rotate_left
           ·show Act.put _ (some 34) _=_
            simp only [Act.put,List.setIfInBounds_toArray,List.set_cons_zero,List.set_cons_succ,i64_w,i32_w]
            rfl
           refine pu_ 18 16 ?_;refine pu_ 19 35 ?_;refine pu_ 20 36 ?_
           refine on_ 21 (some 6) (fun K hK=>?_)
           refine box_step ?hg (N:=6) ?hd (cs:= #[.int .i64 0, .int .i64 0]) (t:=93) ?hr ?_;(case hd=>rfl);(case hg=>rfl);(case hr=>first | (go_simp;done) | (go_simp;rfl))
           intro ae hg w29 hbox hb
           replace av:=Aside0.mk (Kd.R_below (Kd.R_elderB (ro_ av.out) ae (Nat.le_of_eq hg.symm)) hb)
           have aw:=Aside0.mk (hbox)
           have ai:=Aside0.mk ((by rw [hg];exact bz_:w.heap.size≤ae))
           have aT:=Aside0.mk ((by rw [hg];exact bz_:w.heap.size≤ae))
           have aj:=Aside0.mk ((by rw [hg];exact lt_ aa.out:au≠ae))
           have ax:=Aside0.mk ((by rw [hg];exact gt_ aa.out:ae≠au))
           replace aa:=Aside0.mk (bb_ aa.out hb)
           replace HB:=Aside0.mk (bs_ hb)
           clear hb hbox hg
           refine hK.out _ _ ⟨(blk_cell aa.out 0).trans rfl,(blk_cell aa.out 1).trans rfl,(blk_cell aa.out 2).trans rfl,((HB.out.cell (World.block_lt_of_cell? w _ af)).trans af),((HB.out.cell (World.block_lt_of_cell? w _ ag)).trans ag),((HB.out.cell (World.block_lt_of_cell? w _ ah)).trans ah)⟩ (fun hHeld=>?_)
           clear hK K
           refine norm_ (a':=?_) ?_ ?_
           rotate_left
           ·show Act.put _ (some 6) _=_
            simp only [Act.put,List.setIfInBounds_toArray,List.set_cons_zero,List.set_cons_succ,i64_w,i32_w]
            rfl
           exact norm_ (by simp only [putAll,Act.put,List.setIfInBounds_toArray,List.set_cons_zero,List.set_cons_succ]) (hCont (ae) _ ⟨hHeld,(by(with_reducible repeat (first | apply Kd.R_alloc | apply Kd.R_drewN | apply Kd.R_drew));exact Kd.R_mono av.out (fun _ hk=>hk.2)),bk_,bk_,ai.out,aT.out,aj.out,ax.out,hb_⟩)
          ·skip
           refine box_step ?hg (N:=6) ?hd (cs:= #[.int .i64 0, .int .i64 0]) (t:=93) ?hr ?_;(case hd=>rfl);(case hg=>rfl);(case hr=>first | (go_simp;done) | (go_simp;rfl))
           intro ae hg w28 hbox hb
           replace av:=Aside0.mk (Kd.R_below (Kd.R_elderB (ro_ av.out) ae (Nat.le_of_eq hg.symm)) hb)
           have aw:=Aside0.mk (hbox)
           have ai:=Aside0.mk ((by rw [hg];exact bz_:w.heap.size≤ae))
           have aT:=Aside0.mk ((by rw [hg];exact bz_:w.heap.size≤ae))
           have aj:=Aside0.mk ((by rw [hg];exact lt_ aa.out:au≠ae))
           have ax:=Aside0.mk ((by rw [hg];exact gt_ aa.out:ae≠au))
           replace aa:=Aside0.mk (bb_ aa.out hb)
           replace HB:=Aside0.mk (bs_ hb)
           clear hb hbox hg
           refine hK.out _ _ ⟨(blk_cell aa.out 0).trans rfl,(blk_cell aa.out 1).trans rfl,(blk_cell aa.out 2).trans rfl,((HB.out.cell (World.block_lt_of_cell? w _ af)).trans af),((HB.out.cell (World.block_lt_of_cell? w _ ag)).trans ag),((HB.out.cell (World.block_lt_of_cell? w _ ah)).trans ah)⟩ (fun hHeld=>?_)
           clear hK K
           refine norm_ (a':=?_) ?_ ?_
           rotate_left
           ·show Act.put _ (some 6) _=_
            simp only [Act.put,List.setIfInBounds_toArray,List.set_cons_zero,List.set_cons_succ,i64_w,i32_w]
            rfl
           refine on_ 17 (some 34) (fun K hK=>?_)
           refine goes_ Try.func151 (by kernel_rfl) rfl #[.agg #[.int .i64 aH, .int .i64 aI]] (by rfl) rfl rfl (by(try simp only [List.map_toArray,List.map_cons,List.map_nil]);first | done | rfl | (simp only [List.length_drop,List.length_take];rfl)) ?_
           with_reducible refine(spec_l01Told.calls k1 aH aI aC aD aJ _ A11.out).mono ?_
           rintro e w29 ⟨rfl,hb⟩
           refine⟨_,rfl,?_⟩
           replace av:=Aside0.mk (rb_ av.out hb)
           replace aa:=Aside0.mk (bb_ aa.out hb)
           replace aw:=Aside0.mk (bb_ aw.out hb)
           replace HB:=Aside0.mk (bs_ hb)
           (try clear hb)
           (try clear hb2)
           (try clear hk)
           (try clear hi)
           refine hK.out _ _ ⟨(blk_cell aa.out 0).trans rfl,(blk_cell aa.out 1).trans rfl,(blk_cell aa.out 2).trans rfl,((HB.out.cell (World.block_lt_of_cell? w _ af)).trans af),((HB.out.cell (World.block_lt_of_cell? w _ ag)).trans ag),((HB.out.cell (World.block_lt_of_cell? w _ ah)).trans ah)⟩ (fun hHeld=>?_)
           clear hK K
           refine norm_ (a':=?_) ?_ ?_
           rotate_left
           ·show Act.put _ (some 34) _=_
            simp only [Act.put,List.setIfInBounds_toArray,List.set_cons_zero,List.set_cons_succ,i64_w,i32_w]
            rfl
           refine pu_ 18 16 ?_;refine pu_ 19 35 ?_;refine pu_ 20 36 ?_
           exact norm_ (by simp only [putAll,Act.put,List.setIfInBounds_toArray,List.set_cons_zero,List.set_cons_succ]) (hCont (ae) _ ⟨hHeld,(by(with_reducible repeat (first | apply Kd.R_alloc | apply Kd.R_drewN | apply Kd.R_drew));exact Kd.R_mono av.out (fun _ hk=>hk.2)),bk_,bk_,ai.out,aT.out,aj.out,ax.out,hb_⟩)
         ·skip
          refine box_step ?hg (N:=6) ?hd (cs:= #[.int .i64 0, .int .i64 0]) (t:=93) ?hr ?_;(case hd=>rfl);(case hg=>rfl);(case hr=>first | (go_simp;done) | (go_simp;rfl))
          intro ae hg w27 hbox hb
          replace av:=Aside0.mk (Kd.R_below (Kd.R_elderB (ro_ av.out) ae (Nat.le_of_eq hg.symm)) hb)
          have aw:=Aside0.mk (hbox)
          have ai:=Aside0.mk ((by rw [hg];exact bz_:w.heap.size≤ae))
          have aT:=Aside0.mk ((by rw [hg];exact bz_:w.heap.size≤ae))
          have aj:=Aside0.mk ((by rw [hg];exact lt_ aa.out:au≠ae))
          have ax:=Aside0.mk ((by rw [hg];exact gt_ aa.out:ae≠au))
          replace aa:=Aside0.mk (bb_ aa.out hb)
          replace HB:=Aside0.mk (bs_ hb)
          clear hb hbox hg
          refine hK.out _ _ ⟨(blk_cell aa.out 0).trans rfl,(blk_cell aa.out 1).trans rfl,(blk_cell aa.out 2).trans rfl,((HB.out.cell (World.block_lt_of_cell? w _ af)).trans af),((HB.out.cell (World.block_lt_of_cell? w _ ag)).trans ag),((HB.out.cell (World.block_lt_of_cell? w _ ah)).trans ah)⟩ (fun hHeld=>?_)
          clear hK K
          refine norm_ (a':=?_) ?_ ?_
          rotate_left
          ·show Act.put _ (some 6) _=_
           simp only [Act.put,List.setIfInBounds_toArray,List.set_cons_zero,List.set_cons_succ,i64_w,i32_w]
           rfl
          refine on_ 16 (some 33) (fun K hK=>?_)
          refine goes_ Try.func152 (by kernel_rfl) rfl #[.int .i64 (rd (rd_L1 aq ak) (ji7)), .int .i64 a0_1] (by rfl) rfl rfl (by(try simp only [List.map_toArray,List.map_cons,List.map_nil]);first | done | (simp only [hji7];rfl) | rfl | (simp only [List.length_drop,List.length_take];rfl)) ?_
          with_reducible refine(spec_l01Frac.calls k1 (rd (rd_L1 aq ak) (ji7)) a0_1 aH aI _ A10.out).mono ?_
          rintro e w28 ⟨rfl,hb⟩
          refine⟨_,rfl,?_⟩
          replace av:=Aside0.mk (rb_ av.out hb)
          replace aa:=Aside0.mk (bb_ aa.out hb)
          replace aw:=Aside0.mk (bb_ aw.out hb)
          replace HB:=Aside0.mk (bs_ hb)
          (try clear hb)
          (try clear hb2)
          (try clear hk)
          (try clear hi)
          refine hK.out _ _ ⟨(blk_cell aa.out 0).trans rfl,(blk_cell aa.out 1).trans rfl,(blk_cell aa.out 2).trans rfl,((HB.out.cell (World.block_lt_of_cell? w _ af)).trans af),((HB.out.cell (World.block_lt_of_cell? w _ ag)).trans ag),((HB.out.cell (World.block_lt_of_cell? w _ ah)).trans ah)⟩ (fun hHeld=>?_)
          clear hK K
          refine norm_ (a':=?_) ?_ ?_
          rotate_left
          ·show Act.put _ (some 33) _=_
           simp only [Act.put,List.setIfInBounds_toArray,List.set_cons_zero,List.set_cons_succ,i64_w,i32_w]
           rfl
          refine on_ 17 (some 34) (fun K hK=>?_)
          refine goes_ Try.func151 (by kernel_rfl) rfl #[.agg #[.int .i64 aH, .int .i64 aI]] (by rfl) rfl rfl (by(try simp only [List.map_toArray,List.map_cons,List.map_nil]);first | done | rfl | (simp only [List.length_drop,List.length_take];rfl)) ?_
          with_reducible refine(spec_l01Told.calls k1 aH aI aC aD aJ _ A11.out).mono ?_
          rintro e w29 ⟨rfl,hb⟩
          refine⟨_,rfl,?_⟩
          replace av:=Aside0.mk (rb_ av.out hb)
          replace aa:=Aside0.mk (bb_ aa.out hb)
          replace aw:=Aside0.mk (bb_ aw.out hb)
          replace HB:=Aside0.mk (bs_ hb)
          (try clear hb)
          (try clear hb2)
          (try clear hk)
          (try clear hi)
          refine hK.out _ _ ⟨(blk_cell aa.out 0).trans rfl,(blk_cell aa.out 1).trans rfl,(blk_cell aa.out 2).trans rfl,((HB.out.cell (World.block_lt_of_cell? w _ af)).trans af),((HB.out.cell (World.block_lt_of_cell? w _ ag)).trans ag),((HB.out.cell (World.block_lt_of_cell? w _ ah)).trans ah)⟩ (fun hHeld=>?_)
          clear hK K
          refine norm_ (a':=?_) ?_ ?_
          rotate_left
          ·show Act.put _ (some 34) _=_
           simp only [Act.put,List.setIfInBounds_toArray,List.set_cons_zero,List.set_cons_succ,i64_w,i32_w]
           rfl
          refine pu_ 18 16 ?_;refine pu_ 19 35 ?_;refine pu_ 20 36 ?_
          exact norm_ (by simp only [putAll,Act.put,List.setIfInBounds_toArray,List.set_cons_zero,List.set_cons_succ]) (hCont (ae) _ ⟨hHeld,(by(with_reducible repeat (first | apply Kd.R_alloc | apply Kd.R_drewN | apply Kd.R_drew));exact Kd.R_mono av.out (fun _ hk=>hk.2)),bk_,bk_,ai.out,aT.out,aj.out,ax.out,hb_⟩)
        rintro ae w30 ⟨hS_,h0_,h1_,h2_,h3_,h4_,h5_,h6_,h7_⟩
        have n0_:Aside0 (Kd.R k93 93 w30 w.heap.size (fun k_=>k_≠ae) u4 aU):=⟨h0_⟩
        have n1_:Aside0 (w30.heap[au]?=some (.cells #[.slice (some ay) aq.length aK, .int .i64 a0_1, .slice aM az.length aN] 100 (0,0))):=⟨h1_⟩
        have n2_:Aside0 (w30.heap[ae]?=some (.cells #[.int .i64 0, .int .i64 0] 93 (0,0))):=⟨h2_⟩
        have n3_:Aside0 (w.heap.size≤ae):=⟨h3_⟩
        have n4_:Aside0 (w.heap.size≤ae):=⟨h4_⟩
        have n5_:Aside0 (au≠ae):=⟨h5_⟩
        have n6_:Aside0 (ae≠au):=⟨h6_⟩
        have n7_:Aside0 (Below w.heap.size w w30):=⟨h7_⟩
        clear av aa HB h0_ h1_ h2_ h3_ h4_ h5_ h6_ h7_
        have av:=n0_
        have aa:=n1_
        have aw:=n2_
        have ai:=n3_
        have aT:=n4_
        have aj:=n5_
        have ax:=n6_
        have HB:=n7_
        clear n0_ n1_ n2_ n3_ n4_ n5_ n6_ n7_
        have hHeld:w30.cell? ⟨au,0,none⟩=some (.slice (some ay) aq.length aK)∧w30.cell? ⟨au,1,none⟩=some (.int .i64 a0_1)∧w30.cell? ⟨au,2,none⟩=some (.slice aM az.length aN)∧w30.cell? (ay.add (ak).toNat)=some (.slice (some aA) (rd_L1 aq ak).length aG)∧w30.cell? (ay.add (ak).toNat)=some (.slice (some aA) (rd_L1 aq ak).length aG)∧w30.cell? (aA.add ((ji7)).toNat)=some (.int .i64 (rd (rd_L1 aq ak) (ji7))):=hS_
        refine norm_ (a':=?_) ?_ ?_
        rotate_left
        ·simp only [putAll,Act.put,List.setIfInBounds_toArray,List.set_cons_zero,List.set_cons_succ]
         rfl
        refine on_ 22 none (fun K hK=>?_)
        have hs31:w30.cell? ⟨ae,0,none⟩=some (.int .i64 0):=(blk_cell aw.out 0).trans rfl
        have hfs31:=blk_frozen aw.out 0
        have hns31_0:=aj.out
        have hms31_0:=ax.out
        have hs32:w30.cell? ⟨ae,1,none⟩=some (.int .i64 0):=(blk_cell aw.out 1).trans rfl
        have hfs32:=blk_frozen aw.out 1
        have hns32_0:=aj.out
        have hms32_0:=ax.out
        refine skip_ (w1:=?_) (by rfl) rfl ?_ ?_
        rotate_left
        ·go_simp
         rfl
        refine hK.out _ _ ⟨((cell_far (p:=⟨ae,_,none⟩) aj.out _).trans (((cell_far (p:=⟨ae,_,none⟩) aj.out _).trans (hHeld.1)))),((cell_far (p:=⟨ae,_,none⟩) aj.out _).trans (((cell_far (p:=⟨ae,_,none⟩) aj.out _).trans (hHeld.2.1)))),((cell_far (p:=⟨ae,_,none⟩) aj.out _).trans (((cell_far (p:=⟨ae,_,none⟩) aj.out _).trans (hHeld.2.2.1)))),((cell_far (p:=⟨ae,_,none⟩) (by first | exact Nat.ne_of_lt (Nat.lt_of_lt_of_le (by have:=World.block_lt_of_cell? _ _ af;first | rwa [add_block] at this | exact this) ai.out) | (rw [add_block];exact Nat.ne_of_lt (Nat.lt_of_lt_of_le (by have:=World.block_lt_of_cell? _ _ af;first | rwa [add_block] at this | exact this) ai.out)) | (show (Addr.add _ _).block≠_;rw [add_block];exact Nat.ne_of_lt (Nat.lt_of_lt_of_le (by have:=World.block_lt_of_cell? _ _ af;first | rwa [add_block] at this | exact this) ai.out)) | (dsimp only;exact Nat.ne_of_lt (Nat.lt_of_lt_of_le (by have:=World.block_lt_of_cell? _ _ af;first | rwa [add_block] at this | exact this) ai.out))) _).trans (((cell_far (p:=⟨ae,_,none⟩) (by first | exact Nat.ne_of_lt (Nat.lt_of_lt_of_le (by have:=World.block_lt_of_cell? _ _ af;first | rwa [add_block] at this | exact this) ai.out) | (rw [add_block];exact Nat.ne_of_lt (Nat.lt_of_lt_of_le (by have:=World.block_lt_of_cell? _ _ af;first | rwa [add_block] at this | exact this) ai.out)) | (show (Addr.add _ _).block≠_;rw [add_block];exact Nat.ne_of_lt (Nat.lt_of_lt_of_le (by have:=World.block_lt_of_cell? _ _ af;first | rwa [add_block] at this | exact this) ai.out)) | (dsimp only;exact Nat.ne_of_lt (Nat.lt_of_lt_of_le (by have:=World.block_lt_of_cell? _ _ af;first | rwa [add_block] at this | exact this) ai.out))) _).trans (hHeld.2.2.2.1)))),((cell_far (p:=⟨ae,_,none⟩) (by first | exact Nat.ne_of_lt (Nat.lt_of_lt_of_le (by have:=World.block_lt_of_cell? _ _ ag;first | rwa [add_block] at this | exact this) ai.out) | (rw [add_block];exact Nat.ne_of_lt (Nat.lt_of_lt_of_le (by have:=World.block_lt_of_cell? _ _ ag;first | rwa [add_block] at this | exact this) ai.out)) | (show (Addr.add _ _).block≠_;rw [add_block];exact Nat.ne_of_lt (Nat.lt_of_lt_of_le (by have:=World.block_lt_of_cell? _ _ ag;first | rwa [add_block] at this | exact this) ai.out)) | (dsimp only;exact Nat.ne_of_lt (Nat.lt_of_lt_of_le (by have:=World.block_lt_of_cell? _ _ ag;first | rwa [add_block] at this | exact this) ai.out))) _).trans (((cell_far (p:=⟨ae,_,none⟩) (by first | exact Nat.ne_of_lt (Nat.lt_of_lt_of_le (by have:=World.block_lt_of_cell? _ _ ag;first | rwa [add_block] at this | exact this) ai.out) | (rw [add_block];exact Nat.ne_of_lt (Nat.lt_of_lt_of_le (by have:=World.block_lt_of_cell? _ _ ag;first | rwa [add_block] at this | exact this) ai.out)) | (show (Addr.add _ _).block≠_;rw [add_block];exact Nat.ne_of_lt (Nat.lt_of_lt_of_le (by have:=World.block_lt_of_cell? _ _ ag;first | rwa [add_block] at this | exact this) ai.out)) | (dsimp only;exact Nat.ne_of_lt (Nat.lt_of_lt_of_le (by have:=World.block_lt_of_cell? _ _ ag;first | rwa [add_block] at this | exact this) ai.out))) _).trans (hHeld.2.2.2.2.1)))),((cell_far (p:=⟨ae,_,none⟩) (by first | exact Nat.ne_of_lt (Nat.lt_of_lt_of_le (by have:=World.block_lt_of_cell? _ _ ah;first | rwa [add_block] at this | exact this) ai.out) | (rw [add_block];exact Nat.ne_of_lt (Nat.lt_of_lt_of_le (by have:=World.block_lt_of_cell? _ _ ah;first | rwa [add_block] at this | exact this) ai.out)) | (show (Addr.add _ _).block≠_;rw [add_block];exact Nat.ne_of_lt (Nat.lt_of_lt_of_le (by have:=World.block_lt_of_cell? _ _ ah;first | rwa [add_block] at this | exact this) ai.out)) | (dsimp only;exact Nat.ne_of_lt (Nat.lt_of_lt_of_le (by have:=World.block_lt_of_cell? _ _ ah;first | rwa [add_block] at this | exact this) ai.out))) _).trans (((cell_far (p:=⟨ae,_,none⟩) (by first | exact Nat.ne_of_lt (Nat.lt_of_lt_of_le (by have:=World.block_lt_of_cell? _ _ ah;first | rwa [add_block] at this | exact this) ai.out) | (rw [add_block];exact Nat.ne_of_lt (Nat.lt_of_lt_of_le (by have:=World.block_lt_of_cell? _ _ ah;first | rwa [add_block] at this | exact this) ai.out)) | (show (Addr.add _ _).block≠_;rw [add_block];exact Nat.ne_of_lt (Nat.lt_of_lt_of_le (by have:=World.block_lt_of_cell? _ _ ah;first | rwa [add_block] at this | exact this) ai.out)) | (dsimp only;exact Nat.ne_of_lt (Nat.lt_of_lt_of_le (by have:=World.block_lt_of_cell? _ _ ah;first | rwa [add_block] at this | exact this) ai.out))) _).trans (hHeld.2.2.2.2.2))))⟩ (fun hHeld=>?_)
        clear hK K
        refine pu_ 23 7 ?_
        refine done_ (done_of HT_.out (by kernel_rfl)) ?_
        try go_wp2
        go_ret2
        exact⟨_,by first | rfl | (simp [errW_none,errW_some] <;> rfl) | (simp only [← hji7];first | rfl | (simp [errW_none,errW_some] <;> rfl)) | (simp [*,errW_none,errW_some] <;> rfl),by first | exact Kd.R_nil _ _ _ _ _ | exact Kd.N_nil _ _ _ _ _ | exact Kd.V_nil _ _ _ _ _ | exact Kd.Q_nil _ _ _ _ _ | exact Kd.S_nil _ _ _ _ _,hb_⟩
      ·rw [if_neg c9] at H
       exact absurd H (by simp)
     ·rw [if_neg c8] at H
      exact absurd H (by simp)
    ·rw [if_neg c6] at H
     exact absurd H (by simp)
   ·rw [if_neg c5] at H
    have c5b0:decide (ak < (aq.length:Int))=false:=decide_eq_false c5
    clear c5
    simp only [Option.some.injEq,Prod.mk.injEq] at H
    obtain⟨rfl,rfl⟩:=H
    have bQ:wr.cell? ⟨au,0,none⟩=some (.slice aW aq.length aK):=(blk_cell aa.out 0).trans rfl
    have bS:wr.cell? ⟨au,1,none⟩=some (.int .i64 a0_1):=(blk_cell aa.out 1).trans rfl
    have bT:wr.cell? ⟨au,2,none⟩=some (.slice aM az.length aN):=(blk_cell aa.out 2).trans rfl
    have bU:=blk_frozen aa.out 0
    have bV:=blk_frozen aa.out 1
    have bW:=blk_frozen aa.out 2
    go_wp2
    go_ret2
    exact⟨_,by first | rfl | (simp [errW_none,errW_some] <;> rfl) | (simp [*,errW_none,errW_some] <;> rfl),ro_ av.out,hb_⟩
def spec_RightAfter.f (k:Nat) (af:List (List Int)) (ag:List Int) (l1:List Int) (a2:Int):Option ((List (S93)) × Int):=(spec_l05After.f k af ag l1 a2).bind fun aa=>(if aa.2.2.2=0 then((spec_l05Right.f k aa.1 aa.2.1 aa.2.2.1).bind fun ae=>(some (ae.1,ae.2))) else(some (([]:List (S93)),aa.2.2.2)))
theorem spec_RightAfter.mono: ∀a0 a1 a2 a3 k,LeO (spec_RightAfter.f k a0 a1 a2 a3) (spec_RightAfter.f (k+1) a0 a1 a2 a3):=by
 intro a0 a1 a2 a3 k
 unfold spec_RightAfter.f
 repeat' first
   | (with_reducible exact spec_l05After.mono _ _ _ _ _)
   | (with_reducible exact spec_l05Right.mono _ _ _ _)
   | (with_reducible exact LeO.refl _)
   | (with_reducible exact LeO.none _)
   | (with_reducible refine LeO.ite ?_ ?_)
   | (with_reducible refine LeO.bind ?_ (fun _=>?_))
   | exact spec_l05After.mono _ _ _ _ _
   | exact spec_l05Right.mono _ _ _ _
   | exact LeO.none _
   | refine LeO.ite ?_ ?_
   | refine LeO.bind ?_ (fun _=>?_)
theorem spec_RightAfter.calls (k:Nat) (ax:Option Addr) (ay:Nat) (ah:List (List Int)) (az:Option Addr) (aA:Nat) (ai:List Int) (A1:Option Addr) (c1:Nat) (l1:List Int) (a2:Int) (r1:List (S93)) (r2:Int) (w:World) (aY:Kd.C (Kd.slice 2 (Kd.int .i64)) w ax ah.length ah) (aZ:ah.length≤ay) (a9:Kd.C (Kd.int .i64) w az ai.length ai) (ba:ai.length≤aA) (hr1:Kd.C (Kd.int .i64) w A1 l1.length l1) (hc1:l1.length≤c1) (h:spec_RightAfter.f k ah ai l1 a2=some (r1,r2)):
  Calls Try.prog 10 #[.agg #[.slice ax ah.length ay, .slice az ai.length aA], .slice A1 l1.length c1, .int .i64 a2] w fun e w'=> ∃v0_:Value,e= .returned (.tuple #[v0_, .int .i64 r2])∧Kd.R k93 93 w' w.heap.size (fun _=>True) v0_ r1∧Below w.heap.size w w':=by
 have hu30:=Try.underlying30
 have hu100:=Try.underlying100
 have HR0_0:=Aside0.mk aY
 have HC0_0:=Aside0.mk aZ
 clear aY aZ
 have HR0_1:=Aside0.mk a9
 have HC0_1:=Aside0.mk ba
 clear a9 ba
 have HR1:=Aside0.mk hr1
 have HC1:=Aside0.mk hc1
 clear hr1 hc1
 have HB:=Aside0.mk (Below.refl w.heap.size w)
 have H:((spec_l05After.f k ah ai l1 a2).bind fun aK=>(if aK.2.2.2=0 then((spec_l05Right.f k aK.1 aK.2.1 aK.2.2.1).bind fun aM=>(some (aM.1,aM.2))) else(some (([]:List (S93)),aK.2.2.2))))=some (r1,r2):=h
 clear h
 replace H:=Option.bind_eq_some_iff.mp H
 obtain⟨⟨au,aw,av,aC⟩,A40,H⟩:=H
 replace H:(if aC=0 then((spec_l05Right.f k au aw av).bind fun aM=>(some (aM.1,aM.2))) else(some (([]:List (S93)),aC)))=some (r1,r2):=H
 have A4:=Aside0.mk A40
 clear A40
 by_cases c5:aC=0
 ·rw [if_pos c5] at H
  have c5b0:(aC==0)=true:=beq_iff_eq.mpr c5
  have c5b1:(aC !=0)=false:=bne_eq_false_iff_eq.mpr c5
  clear c5
  replace H:=Option.bind_eq_some_iff.mp H
  obtain⟨⟨bb,bg⟩,A60,H⟩:=H
  replace H:(some (bb,bg))=some (r1,r2):=H
  have A6:=Aside0.mk A60
  clear A60
  simp only [Option.some.injEq,Prod.mk.injEq] at H
  obtain⟨rfl,rfl⟩:=H
  go_enter Try.func10,Try.ntmps10
  go_wp2_with (first | ((with_reducible refine gate_dst (N:=3) rfl ?_);refine box_event ?hg (N:=3) ?hd (cs:= #[.slice ax ah.length ay, .slice az ai.length aA]) (t:=30) ?hr ?_;(case hd=>rfl);(case hg=>rfl);(case hr=>first | (go_simp;done) | (go_simp;rfl));intro ag hg w7 hbox hb;have ae:=Aside0.mk (hbox);have bh:=Aside0.mk ((by rw [hg];exact bz_:w.heap.size≤ag));have bi:=Aside0.mk ((by rw [hg];exact bz_:w.heap.size≤ag));replace HB:=Aside0.mk (bs_ hb);clear hb hbox hg;have bT:w7.cell? ⟨ag,0,none⟩=some (.slice ax ah.length ay):=(blk_cell ae.out 0).trans rfl;have bU:w7.cell? ⟨ag,1,none⟩=some (.slice az ai.length aA):=(blk_cell ae.out 1).trans rfl;have bV:=blk_frozen ae.out 0;have bW:=blk_frozen ae.out 1) | ((with_reducible refine gate_callee (f:=85) rfl ?_);refine gL_ 16 Try.func85 #[.agg #[.slice ax ah.length ay, .slice az ai.length aA], .slice A1 l1.length c1, .int .i64 a2] ?_;(with_reducible refine(spec_l05After.calls k _ _ ah _ _ ai _ _ l1 a2 au aw av aC _ ?aN ?aT ?aU ?aV ?aW ?aX A4.out).mono ?_);(case aN=>exact cb_ HR0_0.out HB.out);(case aT=>exact HC0_0.out);(case aU=>exact cb_ HR0_1.out HB.out);(case aV=>exact HC0_1.out);(case aW=>exact cb_ HR1.out HB.out);(case aX=>exact HC1.out);rintro e w9 ⟨bu,bv,rfl,ho0,ho1,hb⟩;refine⟨_,rfl,?_⟩;have ak:=Aside0.mk (Kd.S_lower ho0 bz_);have aq:=Aside0.mk (Kd.R_lower ho1 bz_);replace ae:=Aside0.mk (bb_ ae.out hb);replace HB:=Aside0.mk (bs_ hb);(try clear hb);(try clear hb2);(try clear hk);(try clear hi);(try clear ho0);(try clear ho1)) | ((with_reducible refine gate_dst (N:=8) rfl ?_);refine box_event ?hg (N:=8) ?hd (cs:= #[.slice none 0 0, .int .i64 0, .slice none 0 0]) (t:=100) ?hr ?_;(case hd=>rfl);(case hg=>rfl);(case hr=>first | (go_simp;done) | (go_simp;rfl));intro aa hg w10 hbox hb;replace ak:=Aside0.mk (Kd.S_below (so_ ak.out) hb);replace aq:=Aside0.mk (rb_ aq.out hb);have af:=Aside0.mk (hbox);have bk:=Aside0.mk ((by rw [hg];exact bz_:w.heap.size≤aa));have bn:=Aside0.mk ((by rw [hg];exact bz_:w.heap.size≤aa));have aj:=Aside0.mk ((by rw [hg];exact lt_ ae.out:ag≠aa));have aG:=Aside0.mk ((by rw [hg];exact gt_ ae.out:aa≠ag));replace ae:=Aside0.mk (bb_ ae.out hb);replace HB:=Aside0.mk (bs_ hb);clear hb hbox hg;obtain⟨aH,aD,bw⟩:=Kd.S_slice ak.out;subst bw;have bX:=aG.out;have bY:=aj.out;have bC:w10.cell? ⟨aa,0,none⟩=some (.slice none 0 0):=(blk_cell af.out 0).trans rfl;have bD:w10.cell? ⟨aa,1,none⟩=some (.int .i64 0):=(blk_cell af.out 1).trans rfl;have bE:w10.cell? ⟨aa,2,none⟩=some (.slice none 0 0):=(blk_cell af.out 2).trans rfl;have bF:=blk_frozen af.out 0;have bG:=blk_frozen af.out 1;have bH:=blk_frozen af.out 2;obtain⟨aJ,aI,bz⟩:=Kd.R_slice aq.out;subst bz) | ((with_reducible refine gate_callee (f:=86) rfl ?_);refine gL_ 24 Try.func86 #[.agg #[.slice aH au.length aD, .int .i64 aw, .slice aJ av.length aI]] ?_;(with_reducible refine(spec_l05Right.calls k _ _ au aw _ _ av bb bg _ ?aN ?aT ?aU ?aV A6.out).mono ?_);(case aN=>refine(Kd.S_reads' (e:=23) (base:=w.heap.size) (ok:=fun k_=>some k_≠(.slice aJ av.length aI:Value).ownBlock) (n:=au.length) (c:=aD) ?_).2.2;exact(by(with_reducible repeat (first | apply Kd.S_alloc | apply Kd.S_drewN | apply Kd.S_drew));exact(Kd.S_mono (Kd.S_far (p:=⟨aa,2,none⟩) (Kd.S_far (p:=⟨aa,1,none⟩) (Kd.S_far (p:=⟨aa,0,none⟩) (Kd.S_types ak.out af.out (by decide)) (fun _ hk=>hk.2) (.slice aH au.length aD)) (fun _ hk=>hk.2) (.int .i64 aw)) (fun _ hk=>hk.2) (.slice aJ av.length aI)) (fun _ h_=>h_.1))));(case aT=>exact(Kd.S_reads' ak.out).2.1);(case aU=>refine(Kd.R_reads' (e:=2) (base:=w.heap.size) (ok:=fun k_=>True) (n:=av.length) (c:=aI) ?_).2.2;exact(by(with_reducible repeat (first | apply Kd.R_alloc | apply Kd.R_drewN | apply Kd.R_drew));exact(Kd.R_mono (Kd.R_far (p:=⟨aa,2,none⟩) (Kd.R_far (p:=⟨aa,1,none⟩) (Kd.R_far (p:=⟨aa,0,none⟩) (Kd.R_types aq.out af.out (by decide)) (fun _ hk=>hk.2) (.slice aH au.length aD)) (fun _ hk=>hk.2) (.int .i64 aw)) (fun _ hk=>hk.2) (.slice aJ av.length aI)) (fun _ h_=>h_.1))));(case aV=>exact(Kd.R_reads' aq.out).2.1);rintro e w15 ⟨cm,rfl,ho0,hb⟩;refine⟨_,rfl,?_⟩;replace ak:=Aside0.mk (Kd.S_below (by(with_reducible repeat (first | apply Kd.S_alloc | apply Kd.S_drewN | apply Kd.S_drew));exact(Kd.S_mono (Kd.S_far (p:=⟨aa,2,none⟩) (Kd.S_far (p:=⟨aa,1,none⟩) (Kd.S_far (p:=⟨aa,0,none⟩) (Kd.S_types ak.out af.out (by decide)) (fun _ hk=>hk.2) (.slice aH au.length aD)) (fun _ hk=>hk.2) (.int .i64 aw)) (fun _ hk=>hk.2) (.slice aJ av.length aI)) (fun _ h_=>h_.1))) hb);replace aq:=Aside0.mk (Kd.R_below (by(with_reducible repeat (first | apply Kd.R_alloc | apply Kd.R_drewN | apply Kd.R_drew));exact(Kd.R_mono (Kd.R_far (p:=⟨aa,2,none⟩) (Kd.R_far (p:=⟨aa,1,none⟩) (Kd.R_far (p:=⟨aa,0,none⟩) (Kd.R_types aq.out af.out (by decide)) (fun _ hk=>hk.2) (.slice aH au.length aD)) (fun _ hk=>hk.2) (.int .i64 aw)) (fun _ hk=>hk.2) (.slice aJ av.length aI)) (fun _ h_=>h_.1))) hb);have bq:=Aside0.mk (Kd.R_lower ho0 bz_);replace ae:=Aside0.mk (blk_below (g:=ag) (o:= .cells #[.slice ax ah.length ay, .slice az ai.length aA] 30 (0,0)) (by(with_reducible repeat (first | refine blk_drewN ?_ _ | refine blk_drew ?_ | refine blk_alloc ?_ _));refine blk_far ?_ aj.out _;(with_reducible repeat (first | refine blk_drewN ?_ _ | refine blk_drew ?_ | refine blk_alloc ?_ _));refine blk_far ?_ aj.out _;(with_reducible repeat (first | refine blk_drewN ?_ _ | refine blk_drew ?_ | refine blk_alloc ?_ _));refine blk_far ?_ aj.out _;(with_reducible repeat (first | refine blk_drewN ?_ _ | refine blk_drew ?_ | refine blk_alloc ?_ _));exact ae.out) hb);replace af:=Aside0.mk (blk_below (g:=aa) (o:= .cells #[.slice aH au.length aD, .int .i64 aw, .slice aJ av.length aI] 100 (0,0)) (by(with_reducible repeat (first | refine blk_drewN ?_ _ | refine blk_drew ?_ | refine blk_alloc ?_ _));refine blk_put (cs:= #[.slice aH au.length aD, .int .i64 aw, .slice none 0 0]) ?_ 2 _ rfl;(with_reducible repeat (first | refine blk_drewN ?_ _ | refine blk_drew ?_ | refine blk_alloc ?_ _));refine blk_put (cs:= #[.slice aH au.length aD, .int .i64 0, .slice none 0 0]) ?_ 1 _ rfl;(with_reducible repeat (first | refine blk_drewN ?_ _ | refine blk_drew ?_ | refine blk_alloc ?_ _));refine blk_put (cs:= #[.slice none 0 0, .int .i64 0, .slice none 0 0]) ?_ 0 _ rfl;(with_reducible repeat (first | refine blk_drewN ?_ _ | refine blk_drew ?_ | refine blk_alloc ?_ _));exact af.out) hb);replace HB:=Aside0.mk (bs_ hb);(try clear hb);(try clear hb2);(try clear hk);(try clear hi);(try clear ho0)))
  go_ret2
  exact⟨_,by first | rfl | (simp [errW_none,errW_some] <;> rfl) | (simp [*,errW_none,errW_some] <;> rfl),ro_ bq.out,hb_⟩
 ·rw [if_neg c5] at H
  have c5b0:(aC==0)=false:=beq_eq_false_iff_ne.mpr c5
  have c5b1:(aC !=0)=true:=bne_iff_ne.mpr c5
  simp only [Option.some.injEq,Prod.mk.injEq] at H
  obtain⟨rfl,rfl⟩:=H
  go_enter Try.func10,Try.ntmps10
  go_wp2_with (first | ((with_reducible refine gate_dst (N:=3) rfl ?_);refine box_event ?hg (N:=3) ?hd (cs:= #[.slice ax ah.length ay, .slice az ai.length aA]) (t:=30) ?hr ?_;(case hd=>rfl);(case hg=>rfl);(case hr=>first | (go_simp;done) | (go_simp;rfl));intro ag hg w16 hbox hb;have ae:=Aside0.mk (hbox);have bh:=Aside0.mk ((by rw [hg];exact bz_:w.heap.size≤ag));have bi:=Aside0.mk ((by rw [hg];exact bz_:w.heap.size≤ag));replace HB:=Aside0.mk (bs_ hb);clear hb hbox hg;have bI:w16.cell? ⟨ag,0,none⟩=some (.slice ax ah.length ay):=(blk_cell ae.out 0).trans rfl;have bJ:w16.cell? ⟨ag,1,none⟩=some (.slice az ai.length aA):=(blk_cell ae.out 1).trans rfl;have bK:=blk_frozen ae.out 0;have bL:=blk_frozen ae.out 1) | ((with_reducible refine gate_callee (f:=85) rfl ?_);refine gL_ 16 Try.func85 #[.agg #[.slice ax ah.length ay, .slice az ai.length aA], .slice A1 l1.length c1, .int .i64 a2] ?_;(with_reducible refine(spec_l05After.calls k _ _ ah _ _ ai _ _ l1 a2 au aw av aC _ ?aN ?aT ?aU ?aV ?aW ?aX A4.out).mono ?_);(case aN=>exact cb_ HR0_0.out HB.out);(case aT=>exact HC0_0.out);(case aU=>exact cb_ HR0_1.out HB.out);(case aV=>exact HC0_1.out);(case aW=>exact cb_ HR1.out HB.out);(case aX=>exact HC1.out);rintro e w18 ⟨bu,bv,rfl,ho0,ho1,hb⟩;refine⟨_,rfl,?_⟩;have ak:=Aside0.mk (Kd.S_lower ho0 bz_);have aq:=Aside0.mk (Kd.R_lower ho1 bz_);replace ae:=Aside0.mk (bb_ ae.out hb);replace HB:=Aside0.mk (bs_ hb);(try clear hb);(try clear hb2);(try clear hk);(try clear hi);(try clear ho0);(try clear ho1)) | ((with_reducible refine gate_dst (N:=8) rfl ?_);refine box_event ?hg (N:=8) ?hd (cs:= #[.slice none 0 0, .int .i64 0, .slice none 0 0]) (t:=100) ?hr ?_;(case hd=>rfl);(case hg=>rfl);(case hr=>first | (go_simp;done) | (go_simp;rfl));intro aa hg w19 hbox hb;replace ak:=Aside0.mk (Kd.S_below (so_ ak.out) hb);replace aq:=Aside0.mk (rb_ aq.out hb);have af:=Aside0.mk (hbox);have bk:=Aside0.mk ((by rw [hg];exact bz_:w.heap.size≤aa));have bn:=Aside0.mk ((by rw [hg];exact bz_:w.heap.size≤aa));have aj:=Aside0.mk ((by rw [hg];exact lt_ ae.out:ag≠aa));have aG:=Aside0.mk ((by rw [hg];exact gt_ ae.out:aa≠ag));replace ae:=Aside0.mk (bb_ ae.out hb);replace HB:=Aside0.mk (bs_ hb);clear hb hbox hg;obtain⟨cn,co,bA⟩:=Kd.S_slice ak.out;subst bA;have bZ:=aG.out;have ck:=aj.out;have bM:w19.cell? ⟨aa,0,none⟩=some (.slice none 0 0):=(blk_cell af.out 0).trans rfl;have bN:w19.cell? ⟨aa,1,none⟩=some (.int .i64 0):=(blk_cell af.out 1).trans rfl;have bO:w19.cell? ⟨aa,2,none⟩=some (.slice none 0 0):=(blk_cell af.out 2).trans rfl;have bP:=blk_frozen af.out 0;have bQ:=blk_frozen af.out 1;have bS:=blk_frozen af.out 2;obtain⟨cq,ct,bB⟩:=Kd.R_slice aq.out;subst bB))
  go_ret2
  exact⟨_,by first | rfl | (simp [errW_none,errW_some] <;> rfl) | (simp [*,errW_none,errW_some] <;> rfl),by first | exact Kd.R_nil _ _ _ _ _ | exact Kd.N_nil _ _ _ _ _ | exact Kd.V_nil _ _ _ _ _ | exact Kd.Q_nil _ _ _ _ _ | exact Kd.S_nil _ _ _ _ _,hb_⟩
def laws_eqFracS.l0:Nat→List (S93)→List (S93)→Int→Option (Bool)
 | 0,_,_,_=>none
 | k+1,x0,x1,x5=>if x5 < (x0.length:Int) then(if 0≤x5 then(if x5 < (x1.length:Int) then((laws_eqFrac.f ((rd_T93 x0 x5).f0) ((rd_T93 x0 x5).f1) ((rd_T93 x1 x5).f0) ((rd_T93 x1 x5).f1)).bind fun aa=>(if aa=true then(laws_eqFracS.l0 k x0 x1 (wrap64 (x5+1))) else(some false))) else(none)) else(none)) else(some true)
def laws_eqFracS.f (k:Nat) (l0:List (S93)) (l1:List (S93)):Option (Bool):=if(l0.length:Int)=(l1.length:Int) then(laws_eqFracS.l0 k l0 l1 0) else(some false)
theorem laws_eqFracS.mono_l: ∀k,(∀y0 y1 y2,LeO (laws_eqFracS.l0 k y0 y1 y2) (laws_eqFracS.l0 (k+1) y0 y1 y2))
 | 0=>fun _ _ _ r h=>by simp [laws_eqFracS.l0] at h
 | k+1=>by
  have ih0:=laws_eqFracS.mono_l k
  ·intro y0 y1 y2
   unfold laws_eqFracS.l0
   repeat' first
   | (with_reducible exact ih0 _ _ _)
   | (with_reducible exact LeO.refl _)
   | (with_reducible exact LeO.none _)
   | (with_reducible refine LeO.ite ?_ ?_)
   | (with_reducible refine LeO.bind ?_ (fun _=>?_))
   | exact ih0 _ _ _
   | exact LeO.none _
   | refine LeO.ite ?_ ?_
   | refine LeO.bind ?_ (fun _=>?_)
theorem laws_eqFracS.mono: ∀a0 a1 k,LeO (laws_eqFracS.f k a0 a1) (laws_eqFracS.f (k+1) a0 a1):=by
 intro a0 a1 k
 have ih0:=laws_eqFracS.mono_l k
 unfold laws_eqFracS.f
 repeat' first
   | (with_reducible exact ih0 _ _ _)
   | (with_reducible exact LeO.refl _)
   | (with_reducible exact LeO.none _)
   | (with_reducible refine LeO.ite ?_ ?_)
   | (with_reducible refine LeO.bind ?_ (fun _=>?_))
   | exact ih0 _ _ _
   | exact LeO.none _
   | refine LeO.ite ?_ ?_
   | refine LeO.bind ?_ (fun _=>?_)
def laws_eqFracS.T6:Bool × List (List Nat × List Nat):=(true, [([], []),([], []),([0,1], [0,1]),([2], [2]),([], []),([], []),([4,5], [4,5]),([6], [6]),([3,7], [3,7]),([8], [8])])
def laws_eqFracS.B6:List Nat:= [0,0,3,7,0,0,48,112,255,511]
theorem laws_eqFracS.tab6:rtab .any (opsOf Try.f14 6)=laws_eqFracS.T6:=by kernel_rfl
theorem laws_eqFracS.bits6:waitsOk laws_eqFracS.T6.2 laws_eqFracS.B6=true:=by kernel_rfl
theorem laws_eqFracS.calls (k:Nat) (A0:Option Addr) (c0:Nat) (l0:List (S93)) (A1:Option Addr) (c1:Nat) (l1:List (S93)) (r:Bool) (w:World) (hr0:Kd.C k93 w A0 l0.length l0) (hc0:l0.length≤c0) (hr1:Kd.C k93 w A1 l1.length l1) (hc1:l1.length≤c1) (h:laws_eqFracS.f k l0 l1=some r):
  Calls Try.prog 14 #[.slice A0 l0.length c0, .slice A1 l1.length c1] w fun e w'=>e= .returned (.bool r)∧Below w.heap.size w w':=by
 have hu93:=Try.underlying93
 have HR0:=Aside0.mk hr0
 have HC0:=Aside0.mk hc0
 clear hr0 hc0
 have HR1:=Aside0.mk hr1
 have HC1:=Aside0.mk hc1
 clear hr1 hc1
 have HB:=Aside0.mk (Below.refl w.heap.size w)
 have H:(if(l0.length:Int)=(l1.length:Int) then(laws_eqFracS.l0 k l0 l1 0) else(some false))=some r:=h
 clear h
 by_cases c3:(l0.length:Int)=(l1.length:Int)
 ·rw [if_pos c3] at H
  have c3b0:((l0.length:Int)==(l1.length:Int))=true:=beq_iff_eq.mpr c3
  have c3b1:((l0.length:Int) !=(l1.length:Int))=false:=bne_eq_false_iff_eq.mpr c3
  have c3b2:(l0.length==l1.length)=true:=by first | simpa using c3 | (simp at c3 ⊢;omega)
  clear c3
  have H':=Aside0.mk H
  clear H
  go_enter Try.func14,Try.ntmps14
  go_wp2
  go_loopg [5] k (fun kq v5 w'=> ∃(aa:Int),v5= .int .i64 aa∧Aside0 (laws_eqFracS.l0 kq l0 l1 aa=some r)∧Aside0 (kq≤k)∧Aside0 (Below w.heap.size w w'))
  case atStart=>exact⟨(0),rs_,H',⟨Nat.le_refl _⟩,⟨hb_⟩⟩
  case round=>
   clear H'
   try clear c1
   try clear p2
   try clear c3
   try clear c3b0
   try clear c3b1
   try clear c3b2
   obtain⟨aa,rfl,HA,HK1,HB⟩:=hrel
   cases gk with
   | zero=>exact absurd HA.out (by simp [laws_eqFracS.l0])
   | succ k1=>
    have H:=HA.out
    clear HA
    simp only [laws_eqFracS.l0] at H
    by_cases c4:aa < (l0.length:Int)
    ·rw [if_pos c4] at H
     have c4b0:decide (aa < (l0.length:Int))=true:=decide_eq_true c4
     clear c4
     by_cases c5:0≤aa
     ·rw [if_pos c5] at H
      have c5b0:decide (0≤aa)=true:=decide_eq_true c5
      clear c5
      by_cases c6:aa < (l1.length:Int)
      ·rw [if_pos c6] at H
       have c6b0:decide (aa < (l1.length:Int))=true:=decide_eq_true c6
       clear c6
       replace H:=Option.bind_eq_some_iff.mp H
       obtain⟨ak,A70,H⟩:=H
       replace H:(if ak=true then(laws_eqFracS.l0 k1 l0 l1 (wrap64 (aa+1))) else(some false))=some r:=H
       have A7:=Aside0.mk A70
       clear A70
       by_cases c8:ak=true
       ·subst c8
        have H1:(laws_eqFracS.l0 k1 l0 l1 (wrap64 (aa+1)))=some r:=by rw [if_pos rfl] at H;exact H
        clear H
        have H:=H1
        clear H1
        have H':=Aside0.mk H
        clear H
        try go_wp2
        replace HB:=Aside0.mk (below_drew1 HB.out)
        have p133:0≤(aa:Int):=od_
        have q133:aa < (l0.length:Int):=od_
        obtain⟨ai,e133,hx133_0,hx133_1⟩:=at_T93 HR0.out aa p133 q133
        have ae:=hx133_1
        have af:=hx133_0
        cases e133
        replace hx133_0:=(HB.out.cell (World.block_lt_of_cell? w _ hx133_0)).trans hx133_0
        replace hx133_1:=(HB.out.cell (World.block_lt_of_cell? w _ hx133_1)).trans hx133_1
        replace p133:=eq_true p133
        replace q133:=eq_true q133
        have p134:0≤(aa:Int):=od_
        have q134:aa < (l1.length:Int):=od_
        obtain⟨aj,e134,hx134_0,hx134_1⟩:=at_T93 HR1.out aa p134 q134
        have ag:=hx134_1
        have ah:=hx134_0
        cases e134
        replace hx134_0:=(HB.out.cell (World.block_lt_of_cell? w _ hx134_0)).trans hx134_0
        replace hx134_1:=(HB.out.cell (World.block_lt_of_cell? w _ hx134_1)).trans hx134_1
        replace p134:=eq_true p134
        replace q134:=eq_true q134
        refine st_ (n:=10) (S:=fun w'=>w'.cell? (ai.add ((aa).toNat*2))=some (.int .i64 ((rd_T93 l0 aa).f0))∧w'.cell? ⟨(ai.add ((aa).toNat*2)).block,(ai.add ((aa).toNat*2)).off+1,none⟩=some (.int .i64 ((rd_T93 l0 aa).f1))∧w'.cell? (aj.add ((aa).toNat*2))=some (.int .i64 ((rd_T93 l1 aa).f0))∧w'.cell? ⟨(aj.add ((aa).toNat*2)).block,(aj.add ((aa).toNat*2)).off+1,none⟩=some (.int .i64 ((rd_T93 l1 aa).f1))) (ds:= []) ⟨((HB.out.cell (World.block_lt_of_cell? w _ af)).trans af),((HB.out.cell (World.block_lt_of_cell? w _ ae)).trans ae),((HB.out.cell (World.block_lt_of_cell? w _ ah)).trans ah),((HB.out.cell (World.block_lt_of_cell? w _ ag)).trans ag)⟩ (fun hHeld=>?_);refine with_tabW laws_eqFracS.tab6 laws_eqFracS.bits6 (fun HT_ HW_=>?_)
        generalize wr.drew=w9 at HB hx133_0 hx133_1 hx134_0 hx134_1 hHeld ⊢
        refine pu_ 0 17 ?_;refine pu_ 1 18 ?_;refine pu_ 2 19 ?_;refine pu_ 4 21 ?_;refine pu_ 5 22 ?_;refine pu_ 6 23 ?_;refine tk_ 3 20 ?_;refine tk_ 7 24 ?_
        refine on_ 8 (some 25) (fun K hK=>?_)
        refine goes_ Try.func91 (by kernel_rfl) rfl #[.agg #[.int .i64 ((rd_T93 l0 aa).f0), .int .i64 ((rd_T93 l0 aa).f1)], .agg #[.int .i64 ((rd_T93 l1 aa).f0), .int .i64 ((rd_T93 l1 aa).f1)]] (by rfl) rfl rfl (by(try simp only [List.map_toArray,List.map_cons,List.map_nil]);first | done | rfl | (simp only [List.length_drop,List.length_take];rfl)) ?_
        with_reducible refine(laws_eqFrac.calls ((rd_T93 l0 aa).f0) ((rd_T93 l0 aa).f1) ((rd_T93 l1 aa).f0) ((rd_T93 l1 aa).f1) true _ A7.out).mono ?_
        rintro e w10 ⟨rfl,hb⟩
        refine⟨_,rfl,?_⟩
        replace HB:=Aside0.mk (bs_ hb)
        (try clear hb)
        (try clear hb2)
        (try clear hk)
        (try clear hi)
        refine hK.out _ _ ⟨((HB.out.cell (World.block_lt_of_cell? w _ af)).trans af),((HB.out.cell (World.block_lt_of_cell? w _ ae)).trans ae),((HB.out.cell (World.block_lt_of_cell? w _ ah)).trans ah),((HB.out.cell (World.block_lt_of_cell? w _ ag)).trans ag)⟩ (fun hHeld=>?_)
        clear hK K
        refine norm_ (a':=?_) ?_ ?_
        rotate_left
        ·show Act.put _ (some 25) _=_
         simp only [Act.put,List.setIfInBounds_toArray,List.set_cons_zero,List.set_cons_succ,i64_w,i32_w]
         rfl
        refine pu_ 9 26 ?_
        refine done_ (done_of HT_.out (by kernel_rfl)) ?_
        try go_wp2
        go_roundg k1
        case measure=>have:=HK1.out;omega
        case rel=>exact⟨(wrap64 (aa+1)),rs_,H',⟨by have:=HK1.out;omega⟩,⟨hb_⟩⟩
       ·replace c8:=Bool.eq_false_iff.mpr c8
        subst c8
        have H1:(some false)=some r:=by rw [if_neg (show ¬ (false=true) by decide)] at H;exact H
        clear H
        have H:=H1
        clear H1
        obtain rfl:=Option.some.inj H
        try go_wp2
        replace HB:=Aside0.mk (below_drew1 HB.out)
        have p133:0≤(aa:Int):=od_
        have q133:aa < (l0.length:Int):=od_
        obtain⟨ai,e133,hx133_0,hx133_1⟩:=at_T93 HR0.out aa p133 q133
        have ae:=hx133_1
        have af:=hx133_0
        cases e133
        replace hx133_0:=(HB.out.cell (World.block_lt_of_cell? w _ hx133_0)).trans hx133_0
        replace hx133_1:=(HB.out.cell (World.block_lt_of_cell? w _ hx133_1)).trans hx133_1
        replace p133:=eq_true p133
        replace q133:=eq_true q133
        have p134:0≤(aa:Int):=od_
        have q134:aa < (l1.length:Int):=od_
        obtain⟨aj,e134,hx134_0,hx134_1⟩:=at_T93 HR1.out aa p134 q134
        have ag:=hx134_1
        have ah:=hx134_0
        cases e134
        replace hx134_0:=(HB.out.cell (World.block_lt_of_cell? w _ hx134_0)).trans hx134_0
        replace hx134_1:=(HB.out.cell (World.block_lt_of_cell? w _ hx134_1)).trans hx134_1
        replace p134:=eq_true p134
        replace q134:=eq_true q134
        refine st_ (n:=10) (S:=fun w'=>w'.cell? (ai.add ((aa).toNat*2))=some (.int .i64 ((rd_T93 l0 aa).f0))∧w'.cell? ⟨(ai.add ((aa).toNat*2)).block,(ai.add ((aa).toNat*2)).off+1,none⟩=some (.int .i64 ((rd_T93 l0 aa).f1))∧w'.cell? (aj.add ((aa).toNat*2))=some (.int .i64 ((rd_T93 l1 aa).f0))∧w'.cell? ⟨(aj.add ((aa).toNat*2)).block,(aj.add ((aa).toNat*2)).off+1,none⟩=some (.int .i64 ((rd_T93 l1 aa).f1))) (ds:= []) ⟨((HB.out.cell (World.block_lt_of_cell? w _ af)).trans af),((HB.out.cell (World.block_lt_of_cell? w _ ae)).trans ae),((HB.out.cell (World.block_lt_of_cell? w _ ah)).trans ah),((HB.out.cell (World.block_lt_of_cell? w _ ag)).trans ag)⟩ (fun hHeld=>?_);refine with_tabW laws_eqFracS.tab6 laws_eqFracS.bits6 (fun HT_ HW_=>?_)
        generalize wr.drew=w11 at HB hx133_0 hx133_1 hx134_0 hx134_1 hHeld ⊢
        refine pu_ 0 17 ?_;refine pu_ 1 18 ?_;refine pu_ 2 19 ?_;refine pu_ 4 21 ?_;refine pu_ 5 22 ?_;refine pu_ 6 23 ?_;refine tk_ 3 20 ?_;refine tk_ 7 24 ?_
        refine on_ 8 (some 25) (fun K hK=>?_)
        refine goes_ Try.func91 (by kernel_rfl) rfl #[.agg #[.int .i64 ((rd_T93 l0 aa).f0), .int .i64 ((rd_T93 l0 aa).f1)], .agg #[.int .i64 ((rd_T93 l1 aa).f0), .int .i64 ((rd_T93 l1 aa).f1)]] (by rfl) rfl rfl (by(try simp only [List.map_toArray,List.map_cons,List.map_nil]);first | done | rfl | (simp only [List.length_drop,List.length_take];rfl)) ?_
        with_reducible refine(laws_eqFrac.calls ((rd_T93 l0 aa).f0) ((rd_T93 l0 aa).f1) ((rd_T93 l1 aa).f0) ((rd_T93 l1 aa).f1) false _ A7.out).mono ?_
        rintro e w12 ⟨rfl,hb⟩
        refine⟨_,rfl,?_⟩
        replace HB:=Aside0.mk (bs_ hb)
        (try clear hb)
        (try clear hb2)
        (try clear hk)
        (try clear hi)
        refine hK.out _ _ ⟨((HB.out.cell (World.block_lt_of_cell? w _ af)).trans af),((HB.out.cell (World.block_lt_of_cell? w _ ae)).trans ae),((HB.out.cell (World.block_lt_of_cell? w _ ah)).trans ah),((HB.out.cell (World.block_lt_of_cell? w _ ag)).trans ag)⟩ (fun hHeld=>?_)
        clear hK K
        refine norm_ (a':=?_) ?_ ?_
        rotate_left
        ·show Act.put _ (some 25) _=_
         simp only [Act.put,List.setIfInBounds_toArray,List.set_cons_zero,List.set_cons_succ,i64_w,i32_w]
         rfl
        refine pu_ 9 26 ?_
        refine done_ (done_of HT_.out (by kernel_rfl)) ?_
        try go_wp2
        go_ret
        exact⟨by first | rfl | (simp [errW_none,errW_some] <;> rfl) | (simp [*,errW_none,errW_some] <;> rfl),hb_⟩
      ·rw [if_neg c6] at H
       exact absurd H (by simp)
     ·rw [if_neg c5] at H
      exact absurd H (by simp)
    ·rw [if_neg c4] at H
     have c4b0:decide (aa < (l0.length:Int))=false:=decide_eq_false c4
     clear c4
     obtain rfl:=Option.some.inj H
     go_wp2
     go_ret
     exact⟨by first | rfl | (simp [errW_none,errW_some] <;> rfl) | (simp [*,errW_none,errW_some] <;> rfl),hb_⟩
 ·rw [if_neg c3] at H
  have c3b0:((l0.length:Int)==(l1.length:Int))=false:=beq_eq_false_iff_ne.mpr c3
  have c3b1:((l0.length:Int) !=(l1.length:Int))=true:=bne_iff_ne.mpr c3
  have c3b2:(l0.length==l1.length)=false:=by first | simpa using c3 | (simp at c3 ⊢;omega)
  obtain rfl:=Option.some.inj H
  go_enter Try.func14,Try.ntmps14
  go_wp2
  go_ret
  exact⟨by first | rfl | (simp [errW_none,errW_some] <;> rfl) | (simp [*,errW_none,errW_some] <;> rfl),hb_⟩
end Go.Proofs.Ytmpkckiifeikkaa.Pr
end
section
namespace Go.Proofs.Ytmpkckiifeikkaa.Pr
open Go.RowKit Go.Proofs.YtmpkckiifeikkaaW.PrintWords Go.Proofs.YtmpkckiifeikkaaW.PrintLast Go.Proofs.YtmpkckiifeikkaaW.PrintMore Go.Proofs.Ytmpkckiifeikkaa.La Go.Proofs.Ytmpkckiifeikkaa.Hm Go.Proofs.Ytmpkckiifeikkaa.Lw
theorem laws_FnExactRightAfter.walk (k:Nat) (af:Option Addr) (ag:Nat) (aa:List (List Int)) (ah:Option Addr) (ai:Nat) (ae:List Int) (A1:Option Addr) (c1:Nat) (l1:List Int) (a2:Int) (aN:Int) (s0:List (S93)) (s1:Int) (m1:Int) (m2:Int) (m3:Int) (w:World) (aG:Kd.C (Kd.slice 2 (Kd.int .i64)) w af aa.length aa) (aH:aa.length≤ag) (aI:Kd.C (Kd.int .i64) w ah ae.length ae) (aJ:ae.length≤ai) (hr1:Kd.C (Kd.int .i64) w A1 l1.length l1) (hc1:l1.length≤c1) (h1: ¬ (l1.length:Int) > 1048576) (h2:laws_szProblem.f k aa ae 1048576=some aN) (h3: ¬ aN < 0) (h4:laws_toProblem.f k aa ae=some (aa,ae)) (h5:laws_toInt64S.f k l1=some l1) (h6:spec_RightAfter.f k aa ae l1 a2=some (s0,s1)) (h7:impl_RightAfter.f k aa ae l1 a2=some (s0,s1)) (h8:laws_eqFracS.f k s0 s0=some true) (h9:laws_eqProblem.f k aa ae aa ae=some true) (h10:laws_eqInt64S.f k l1 l1=some true) (h11:m1=1+(lens aa:Int)+(ae.length:Int)) (h12:1+(lens aa:Int)+(ae.length:Int)≤1099511627776) (h13:aa.length≤1099511627776) (h14: ¬ m1 < 0) (h15:0≤m1) (h16:m2=m1+(l1.length:Int)) (h17:m1+(l1.length:Int)≤1099511627776) (h18: ¬ m2 < 0) (h19:m3=1+2*(s0.length:Int)) (h20:1+2*(s0.length:Int)≤1099511627776) (h21: ¬ m3 < 0) (h22:laws_heldFracS.f k ((cntF 1 s0.length)) 1=some m3):
  Calls Try.prog 3 #[.agg #[.slice af aa.length ag, .slice ah ae.length ai], .slice A1 l1.length c1, .int .i64 a2] w fun e w'=>e= .returned (.bool true)∧Below w.heap.size w w':=by
 have HR0_0:=Aside0.mk aG
 have HC0_0:=Aside0.mk aH
 clear aG aH
 have HR0_1:=Aside0.mk aI
 have HC0_1:=Aside0.mk aJ
 clear aI aJ
 have HR1:=Aside0.mk hr1
 have HC1:=Aside0.mk hc1
 clear hr1 hc1
 have HB:=Aside0.mk (Below.refl w.heap.size w)
 have H2':=Aside0.mk h2
 clear h2
 have H4':=Aside0.mk h4
 clear h4
 have H5':=Aside0.mk h5
 clear h5
 have H6':=Aside0.mk h6
 clear h6
 have H7':=Aside0.mk h7
 clear h7
 have H8':=Aside0.mk h8
 clear h8
 have H9':=Aside0.mk h9
 clear h9
 have H10':=Aside0.mk h10
 clear h10
 have H11':=Aside0.mk h11
 clear h11
 have H12':=Aside0.mk h12
 clear h12
 have H13':=Aside0.mk h13
 clear h13
 have H15':=Aside0.mk h15
 clear h15
 have H16':=Aside0.mk h16
 clear h16
 have H17':=Aside0.mk h17
 clear h17
 have H19':=Aside0.mk h19
 clear h19
 have H20':=Aside0.mk h20
 clear h20
 have H22':=Aside0.mk h22
 clear h22
 go_enter Try.func3,Try.ntmps3
 go_wp2_with (first | ((with_reducible refine gate_dst (N:=3) rfl ?_);refine box_event ?hg (N:=3) ?hd (cs:= #[.slice af aa.length ag, .slice ah ae.length ai]) (t:=25) ?hr ?_;(case hd=>rfl);(case hg=>rfl);(case hr=>first | (go_simp;done) | (go_simp;rfl));intro g3 hg w1 hbox hb;have Gg3:Aside0 (g3=w.heap.size):=⟨hg⟩;have Kg3:=Aside0.mk (blk_lt hbox);clear hg;have n_HB:=Aside0.mk (below_step HB.out hb);have NN1:Aside0 (w.heap.size≤w1.heap.size):=⟨hb.size⟩;clear HB;have HB:=n_HB;clear n_HB;have Bg3:=Aside0.mk hbox;clear hb hbox;have av:w1.cell? ⟨g3,0,none⟩=some (.slice af aa.length ag):=(blk_cell Bg3.out 0).trans rfl;have hf3_0:=blk_frozen Bg3.out 0;have aw:w1.cell? ⟨g3,1,none⟩=some (.slice ah ae.length ai):=(blk_cell Bg3.out 1).trans rfl;have hf3_1:=blk_frozen Bg3.out 1) | ((with_reducible refine gate_callee (f:=9) rfl ?_);refine gL_ 24 Try.func9 #[.agg #[.slice af aa.length ag, .slice ah ae.length ai], .int .i64 1048576] ?_;refine(laws_szProblem.calls k _ _ aa _ _ ae 1048576 aN _ ?s1 ?s2 ?s3 ?s4 H2'.out).mono ?_;(case s1=>exact Kd.C_below HR0_0.out HB.out);(case s2=>exact HC0_0.out);(case s3=>exact Kd.C_below HR0_1.out HB.out);(case s4=>exact HC0_1.out);rintro e w2 ⟨rfl,hb⟩;refine⟨_,rfl,?_⟩;have n_Bg3:=Aside0.mk (blk_below Bg3.out hb);have n_HB:=Aside0.mk (below_step HB.out hb);have NN2:Aside0 (w1.heap.size≤w2.heap.size):=⟨hb.size⟩;clear av hf3_0 aw hf3_1 Bg3 HB;have Bg3:=n_Bg3;have HB:=n_HB;clear n_Bg3 n_HB hb;have av:w2.cell? ⟨g3,0,none⟩=some (.slice af aa.length ag):=(blk_cell Bg3.out 0).trans rfl;have hf3_0:=blk_frozen Bg3.out 0;have aw:w2.cell? ⟨g3,1,none⟩=some (.slice ah ae.length ai):=(blk_cell Bg3.out 1).trans rfl;have hf3_1:=blk_frozen Bg3.out 1) | ((with_reducible refine gate_callee (f:=11) rfl ?_);refine gL_ 29 Try.func11 #[.agg #[.slice af aa.length ag, .slice ah ae.length ai]] ?_;refine(laws_toProblem.calls k _ _ aa _ _ ae aa ae _ ?s1 ?s2 ?s3 ?s4 H4'.out).mono ?_;(case s1=>exact Kd.C_below HR0_0.out HB.out);(case s2=>exact HC0_0.out);(case s3=>exact Kd.C_below HR0_1.out HB.out);(case s4=>exact HC0_1.out);rintro e w3 ⟨v29_0,v29_1,rfl,ho0,ho1,hb⟩;refine⟨_,rfl,?_⟩;have nu0:=Aside0.mk (UP.of ho0 ho1 HB.out.size);have n_Bg3:=Aside0.mk (blk_below Bg3.out hb);have n_HB:=Aside0.mk (below_step HB.out hb);have NN3:Aside0 (w2.heap.size≤w3.heap.size):=⟨hb.size⟩;clear av hf3_0 aw hf3_1 Bg3 HB;have Bg3:=n_Bg3;have HB:=n_HB;clear n_Bg3 n_HB hb ho0 ho1;have U29:=nu0;clear nu0;obtain⟨aX,aY,aZ,a9,e0,e1⟩:=U29.out.slices;subst e0;subst e1) | ((with_reducible refine gate_callee (f:=12) rfl ?_);refine gL_ 31 Try.func12 #[.slice A1 l1.length c1] ?_;refine(laws_toInt64S.calls k _ _ l1 l1 _ ?s1 ?s2 H5'.out).mono ?_;(case s1=>exact Kd.C_below HR1.out HB.out);(case s2=>exact HC1.out);rintro e w4 ⟨v31_0,rfl,ho0,hb⟩;refine⟨_,rfl,?_⟩;have nu0:=Aside0.mk (UR.of ho0 HB.out.size);have n_U29:=Aside0.mk (U29.out.mvB (Frm.below hb));have n_Bg3:=Aside0.mk (blk_below Bg3.out hb);have n_HB:=Aside0.mk (below_step HB.out hb);have NN4:Aside0 (w3.heap.size≤w4.heap.size):=⟨hb.size⟩;clear U29 Bg3 HB;have U29:=n_U29;have Bg3:=n_Bg3;have HB:=n_HB;clear n_U29 n_Bg3 n_HB hb ho0;have U31_0:=nu0;clear nu0;obtain⟨ba,bb,e0⟩:=Kd.R_slice U31_0.out;subst e0) | ((with_reducible refine gate_callee (f:=10) rfl ?_);refine gL_ 33 Try.func10 #[.agg #[.slice aX aa.length aY, .slice aZ ae.length a9], .slice ba l1.length bb, .int .i64 a2] ?_;refine(spec_RightAfter.calls k _ _ aa _ _ ae _ _ l1 a2 s0 s1 _ ?s1 ?s2 ?s3 ?s4 ?s5 ?s6 H6'.out).mono ?_;(case s1=>exact U29.out.C0);(case s2=>exact U29.out.cap0);(case s3=>exact U29.out.C1);(case s4=>exact U29.out.cap1);(case s5=>exact UR.C U31_0.out);(case s6=>exact UR.cap U31_0.out);rintro e w5 ⟨v33_0,rfl,ho0,hb⟩;refine⟨_,rfl,?_⟩;have nu0:=Aside0.mk (UR.of ho0 HB.out.size);have n_U29:=Aside0.mk (U29.out.mvB (Frm.below hb));have n_U31_0:=Aside0.mk (U31_0.out.mvB (Frm.below hb));have n_Bg3:=Aside0.mk (blk_below Bg3.out hb);have n_HB:=Aside0.mk (below_step HB.out hb);have NN5:Aside0 (w4.heap.size≤w5.heap.size):=⟨hb.size⟩;clear U29 U31_0 Bg3 HB;have U29:=n_U29;have U31_0:=n_U31_0;have Bg3:=n_Bg3;have HB:=n_HB;clear n_U29 n_U31_0 n_Bg3 n_HB hb ho0;have U33_0:=nu0;clear nu0;obtain⟨aK,aM,e0⟩:=Kd.R_slice U33_0.out;subst e0;have av:w5.cell? ⟨g3,0,none⟩=some (.slice af aa.length ag):=(blk_cell Bg3.out 0).trans rfl;have hf3_0:=blk_frozen Bg3.out 0;have aw:w5.cell? ⟨g3,1,none⟩=some (.slice ah ae.length ai):=(blk_cell Bg3.out 1).trans rfl;have hf3_1:=blk_frozen Bg3.out 1) | ((with_reducible refine gate_callee (f:=11) rfl ?_);refine gL_ 37 Try.func11 #[.agg #[.slice af aa.length ag, .slice ah ae.length ai]] ?_;refine(laws_toProblem.calls k _ _ aa _ _ ae aa ae _ ?s1 ?s2 ?s3 ?s4 H4'.out).mono ?_;(case s1=>exact Kd.C_below HR0_0.out HB.out);(case s2=>exact HC0_0.out);(case s3=>exact Kd.C_below HR0_1.out HB.out);(case s4=>exact HC0_1.out);rintro e w6 ⟨v37_0,v37_1,rfl,ho0,ho1,hb⟩;refine⟨_,rfl,?_⟩;have nu0:=Aside0.mk (UP.of ho0 ho1 HB.out.size);have n_U29:=Aside0.mk (U29.out.mvB (Frm.below hb));have n_U31_0:=Aside0.mk (U31_0.out.mvB (Frm.below hb));have n_U33_0:=Aside0.mk (U33_0.out.mvB (Frm.below hb));have n_Bg3:=Aside0.mk (blk_below Bg3.out hb);have n_HB:=Aside0.mk (below_step HB.out hb);have NN6:Aside0 (w5.heap.size≤w6.heap.size):=⟨hb.size⟩;clear av hf3_0 aw hf3_1 U29 U31_0 U33_0 Bg3 HB;have U29:=n_U29;have U31_0:=n_U31_0;have U33_0:=n_U33_0;have Bg3:=n_Bg3;have HB:=n_HB;clear n_U29 n_U31_0 n_U33_0 n_Bg3 n_HB hb ho0 ho1;have U37:=nu0;clear nu0;obtain⟨aj,ak,aq,au,e0,e1⟩:=U37.out.slices;subst e0;subst e1) | ((with_reducible refine gate_dst (N:=10) rfl ?_);refine box_event ?hg (N:=10) ?hd (cs:= #[.slice none 0 0, .slice none 0 0]) (t:=30) ?hr ?_;(case hd=>rfl);(case hg=>rfl);(case hr=>first | (go_simp;done) | (go_simp;rfl));intro g10 hg w7 hbox hb;have Gg10:Aside0 (g10=w6.heap.size):=⟨hg⟩;have Kg10:=Aside0.mk (blk_lt hbox);clear hg;have n_U29:=Aside0.mk (U29.out.mvB (Frm.below hb));have n_U31_0:=Aside0.mk (U31_0.out.mvB (Frm.below hb));have n_U33_0:=Aside0.mk (U33_0.out.mvB (Frm.below hb));have n_U37:=Aside0.mk (U37.out.mvB (Frm.below hb));have n_Bg3:=Aside0.mk (blk_below Bg3.out hb);have n_HB:=Aside0.mk (below_step HB.out hb);have NN7:Aside0 (w6.heap.size≤w7.heap.size):=⟨hb.size⟩;clear U29 U31_0 U33_0 U37 Bg3 HB;have U29:=n_U29;have U31_0:=n_U31_0;have U33_0:=n_U33_0;have U37:=n_U37;have Bg3:=n_Bg3;have HB:=n_HB;clear n_U29 n_U31_0 n_U33_0 n_U37 n_Bg3 n_HB;have Bg10:=Aside0.mk hbox;clear hb hbox;have ax:w7.cell? ⟨g10,0,none⟩=some (.slice none 0 0):=(blk_cell Bg10.out 0).trans rfl;have hf10_0:=blk_frozen Bg10.out 0;have ay:w7.cell? ⟨g10,1,none⟩=some (.slice none 0 0):=(blk_cell Bg10.out 1).trans rfl;have hf10_1:=blk_frozen Bg10.out 1) | ((with_reducible refine gate_store (t:=30) (p:=10) rfl ?_);refine store_event (t:=30) (p:=10) (v:=?vo_w8) (w1:=((w7.setCell ⟨g10,0,none⟩ (.slice aj aa.length ak)).setCell ⟨g10,1,none⟩ (.slice aq ae.length au))) ?hg ?ho ?hn ?hr ?_;(case ho=>rfl);(case hg=>rfl);(case hn=>rfl);(case hr=>first | (go_simp;done) | (go_simp;rfl));intro w8 hw;have hge:w.heap.size≤g10:=(by have:=NN1.out;have:=Gg3.out;have:=Kg3.out;have:=NN2.out;have:=NN3.out;have:=NN4.out;have:=NN5.out;have:=NN6.out;have:=NN7.out;have:=Gg10.out;have:=Kg10.out;have:=HB.out.size;omega);have hF:Frm w7 w8 g10 (g10+1):=(by rw [hw];exact(Frm.trans (Frm.set _ _ _ _) (Frm.set _ _ _ _)));have nb:=Aside0.mk (show w8.heap[g10]?=some (.cells #[.slice aj aa.length ak, .slice aq ae.length au] 30 (0,0)) from (by rw [hw];exact(blk_put (blk_put Bg10.out 0 _ rfl) 1 _ rfl)));have n_U29:=Aside0.mk (U29.out.mv hF (by have:=NN1.out;have:=Gg3.out;have:=Kg3.out;have:=NN2.out;have:=NN3.out;have:=NN4.out;have:=NN5.out;have:=NN6.out;have:=NN7.out;have:=Gg10.out;have:=Kg10.out;omega));have n_U31_0:=Aside0.mk (U31_0.out.mv hF (by have:=NN1.out;have:=Gg3.out;have:=Kg3.out;have:=NN2.out;have:=NN3.out;have:=NN4.out;have:=NN5.out;have:=NN6.out;have:=NN7.out;have:=Gg10.out;have:=Kg10.out;omega));have n_U33_0:=Aside0.mk (U33_0.out.mv hF (by have:=NN1.out;have:=Gg3.out;have:=Kg3.out;have:=NN2.out;have:=NN3.out;have:=NN4.out;have:=NN5.out;have:=NN6.out;have:=NN7.out;have:=Gg10.out;have:=Kg10.out;omega));have n_U37:=Aside0.mk (U37.out.mv hF (by have:=NN1.out;have:=Gg3.out;have:=Kg3.out;have:=NN2.out;have:=NN3.out;have:=NN4.out;have:=NN5.out;have:=NN6.out;have:=NN7.out;have:=Gg10.out;have:=Kg10.out;omega));have n_Bg3:=Aside0.mk ((hF.same g3 (blk_lt Bg3.out) (by have:=NN1.out;have:=Gg3.out;have:=Kg3.out;have:=NN2.out;have:=NN3.out;have:=NN4.out;have:=NN5.out;have:=NN6.out;have:=NN7.out;have:=Gg10.out;have:=Kg10.out;omega)).trans Bg3.out);have n_HB:=Aside0.mk ((by rw [hw];exact(below_set (below_set HB.out hge) hge):Below w.heap.size w w8));have NN8:Aside0 (w7.heap.size≤w8.heap.size):=⟨hF.size⟩;clear ax hf10_0 ay hf10_1 U29 U31_0 U33_0 U37 Bg3 HB;have U29:=n_U29;have U31_0:=n_U31_0;have U33_0:=n_U33_0;have U37:=n_U37;have Bg3:=n_Bg3;have HB:=n_HB;clear n_U29 n_U31_0 n_U33_0 n_U37 n_Bg3 n_HB Bg10;have Bg10:=nb;clear nb hF hge hw) | ((with_reducible refine gate_callee (f:=12) rfl ?_);refine gL_ 39 Try.func12 #[.slice A1 l1.length c1] ?_;refine(laws_toInt64S.calls k _ _ l1 l1 _ ?s1 ?s2 H5'.out).mono ?_;(case s1=>exact Kd.C_below HR1.out HB.out);(case s2=>exact HC1.out);rintro e w9 ⟨v39_0,rfl,ho0,hb⟩;refine⟨_,rfl,?_⟩;have nu0:=Aside0.mk (UR.of ho0 HB.out.size);have n_U29:=Aside0.mk (U29.out.mvB (Frm.below hb));have n_U31_0:=Aside0.mk (U31_0.out.mvB (Frm.below hb));have n_U33_0:=Aside0.mk (U33_0.out.mvB (Frm.below hb));have n_U37:=Aside0.mk (U37.out.mvB (Frm.below hb));have n_Bg3:=Aside0.mk (blk_below Bg3.out hb);have n_Bg10:=Aside0.mk (blk_below Bg10.out hb);have n_HB:=Aside0.mk (below_step HB.out hb);have NN9:Aside0 (w8.heap.size≤w9.heap.size):=⟨hb.size⟩;clear U29 U31_0 U33_0 U37 Bg3 Bg10 HB;have U29:=n_U29;have U31_0:=n_U31_0;have U33_0:=n_U33_0;have U37:=n_U37;have Bg3:=n_Bg3;have Bg10:=n_Bg10;have HB:=n_HB;clear n_U29 n_U31_0 n_U33_0 n_U37 n_Bg3 n_Bg10 n_HB hb ho0;have U39_0:=nu0;clear nu0;obtain⟨aC,aD,e0⟩:=Kd.R_slice U39_0.out;subst e0;have ax:w9.cell? ⟨g10,0,none⟩=some (.slice aj aa.length ak):=(blk_cell Bg10.out 0).trans rfl;have hf10_0:=blk_frozen Bg10.out 0;have ay:w9.cell? ⟨g10,1,none⟩=some (.slice aq ae.length au):=(blk_cell Bg10.out 1).trans rfl;have hf10_1:=blk_frozen Bg10.out 1) | ((with_reducible refine gate_callee (f:=13) rfl ?_);refine gL_ 44 Try.func13 #[.agg #[.slice aj aa.length ak, .slice aq ae.length au], .slice aC l1.length aD, .int .i64 a2] ?_;refine(impl_RightAfter.calls k _ _ aa _ _ ae _ _ l1 a2 s0 s1 _ ?s1 ?s2 ?s3 ?s4 ?s5 ?s6 H7'.out).mono ?_;(case s1=>exact U37.out.C0);(case s2=>exact U37.out.cap0);(case s3=>exact U37.out.C1);(case s4=>exact U37.out.cap1);(case s5=>exact UR.C U39_0.out);(case s6=>exact UR.cap U39_0.out);rintro e w10 ⟨v44_0,rfl,ho0,hb⟩;refine⟨_,rfl,?_⟩;have nu0:=Aside0.mk (UR.of ho0 HB.out.size);have n_U29:=Aside0.mk (U29.out.mvB (Frm.below hb));have n_U31_0:=Aside0.mk (U31_0.out.mvB (Frm.below hb));have n_U33_0:=Aside0.mk (U33_0.out.mvB (Frm.below hb));have n_U37:=Aside0.mk (U37.out.mvB (Frm.below hb));have n_U39_0:=Aside0.mk (U39_0.out.mvB (Frm.below hb));have n_Bg3:=Aside0.mk (blk_below Bg3.out hb);have n_Bg10:=Aside0.mk (blk_below Bg10.out hb);have n_HB:=Aside0.mk (below_step HB.out hb);have NN10:Aside0 (w9.heap.size≤w10.heap.size):=⟨hb.size⟩;clear ax hf10_0 ay hf10_1 U29 U31_0 U33_0 U37 U39_0 Bg3 Bg10 HB;have U29:=n_U29;have U31_0:=n_U31_0;have U33_0:=n_U33_0;have U37:=n_U37;have U39_0:=n_U39_0;have Bg3:=n_Bg3;have Bg10:=n_Bg10;have HB:=n_HB;clear n_U29 n_U31_0 n_U33_0 n_U37 n_U39_0 n_Bg3 n_Bg10 n_HB hb ho0;have U44_0:=nu0;clear nu0;obtain⟨az,aA,e0⟩:=Kd.R_slice U44_0.out;subst e0) | ((with_reducible refine gate_callee (f:=14) rfl ?_);refine gL_ 49 Try.func14 #[.slice az s0.length aA, .slice aK s0.length aM] ?_;refine(laws_eqFracS.calls k _ _ s0 _ _ s0 true _ ?s1 ?s2 ?s3 ?s4 H8'.out).mono ?_;(case s1=>exact UR.C U44_0.out);(case s2=>exact UR.cap U44_0.out);(case s3=>exact UR.C U33_0.out);(case s4=>exact UR.cap U33_0.out);rintro e w11 ⟨rfl,hb⟩;refine⟨_,rfl,?_⟩;have n_U29:=Aside0.mk (U29.out.mvB (Frm.below hb));have n_U31_0:=Aside0.mk (U31_0.out.mvB (Frm.below hb));have n_U33_0:=Aside0.mk (U33_0.out.mvB (Frm.below hb));have n_U37:=Aside0.mk (U37.out.mvB (Frm.below hb));have n_U39_0:=Aside0.mk (U39_0.out.mvB (Frm.below hb));have n_U44_0:=Aside0.mk (U44_0.out.mvB (Frm.below hb));have n_Bg3:=Aside0.mk (blk_below Bg3.out hb);have n_Bg10:=Aside0.mk (blk_below Bg10.out hb);have n_HB:=Aside0.mk (below_step HB.out hb);have NN11:Aside0 (w10.heap.size≤w11.heap.size):=⟨hb.size⟩;clear U29 U31_0 U33_0 U37 U39_0 U44_0 Bg3 Bg10 HB;have U29:=n_U29;have U31_0:=n_U31_0;have U33_0:=n_U33_0;have U37:=n_U37;have U39_0:=n_U39_0;have U44_0:=n_U44_0;have Bg3:=n_Bg3;have Bg10:=n_Bg10;have HB:=n_HB;clear n_U29 n_U31_0 n_U33_0 n_U37 n_U39_0 n_U44_0 n_Bg3 n_Bg10 n_HB hb))
 try go_wp2
 have hb:Below w11.heap.size w11 w11.drew:=(Below.refl _ _).drew
 have n_U29:=Aside0.mk (U29.out.mvB (Frm.below hb))
 have n_U31_0:=Aside0.mk (U31_0.out.mvB (Frm.below hb))
 have n_U33_0:=Aside0.mk (U33_0.out.mvB (Frm.below hb))
 have n_U37:=Aside0.mk (U37.out.mvB (Frm.below hb))
 have n_U39_0:=Aside0.mk (U39_0.out.mvB (Frm.below hb))
 have n_U44_0:=Aside0.mk (U44_0.out.mvB (Frm.below hb))
 have n_Bg3:=Aside0.mk (blk_below Bg3.out hb)
 have n_Bg10:=Aside0.mk (blk_below Bg10.out hb)
 have n_HB:=Aside0.mk (below_step HB.out hb)
 have NN12:Aside0 (w11.heap.size≤w11.drew.heap.size):=⟨hb.size⟩
 clear U29 U31_0 U33_0 U37 U39_0 U44_0 Bg3 Bg10 HB
 have U29:=n_U29
 have U31_0:=n_U31_0
 have U33_0:=n_U33_0
 have U37:=n_U37
 have U39_0:=n_U39_0
 have U44_0:=n_U44_0
 have Bg3:=n_Bg3
 have Bg10:=n_Bg10
 have HB:=n_HB
 clear n_U29 n_U31_0 n_U33_0 n_U37 n_U39_0 n_U44_0 n_Bg3 n_Bg10 n_HB hb
 refine st_ (n:=5) (S:=fun w'=>w'.cell? ⟨g10,0,none⟩=some (.slice aj aa.length ak)∧w'.cell? ⟨g10,1,none⟩=some (.slice aq ae.length au)∧w'.cell? ⟨g3,0,none⟩=some (.slice af aa.length ag)∧w'.cell? ⟨g3,1,none⟩=some (.slice ah ae.length ai)) (ds:= []) ⟨(blk_cell Bg10.out 0).trans rfl,(blk_cell Bg10.out 1).trans rfl,(blk_cell Bg3.out 0).trans rfl,(blk_cell Bg3.out 1).trans rfl⟩ (fun hHeld=>?_)
 generalize w11.drew=w12 at U29 U31_0 U33_0 U37 U39_0 U44_0 Bg3 Bg10 HB NN12 hHeld ⊢
 have av:w12.cell? ⟨g3,0,none⟩=some (.slice af aa.length ag):=(blk_cell Bg3.out 0).trans rfl
 have hf3_0:=blk_frozen Bg3.out 0
 have aw:w12.cell? ⟨g3,1,none⟩=some (.slice ah ae.length ai):=(blk_cell Bg3.out 1).trans rfl
 have hf3_1:=blk_frozen Bg3.out 1
 have ax:w12.cell? ⟨g10,0,none⟩=some (.slice aj aa.length ak):=(blk_cell Bg10.out 0).trans rfl
 have hf10_0:=blk_frozen Bg10.out 0
 have ay:w12.cell? ⟨g10,1,none⟩=some (.slice aq ae.length au):=(blk_cell Bg10.out 1).trans rfl
 have hf10_1:=blk_frozen Bg10.out 1
 refine tk_ 0 56 ?_;refine tk_ 1 57 ?_
 refine on_ 2 (some 58) (fun K hK=>?_)
 refine goes_ Try.func11 (by kernel_rfl) rfl #[.agg #[.slice af aa.length ag, .slice ah ae.length ai]] (by rfl) rfl rfl (by(try simp only [List.map_toArray,List.map_cons,List.map_nil]);first | done | rfl) ?_
 (refine(laws_toProblem.calls k _ _ aa _ _ ae aa ae _ ?s1 ?s2 ?s3 ?s4 H4'.out).mono ?_;(case s1=>exact Kd.C_below HR0_0.out HB.out);(case s2=>exact HC0_0.out);(case s3=>exact Kd.C_below HR0_1.out HB.out);(case s4=>exact HC0_1.out);rintro e w13 ⟨v58_0,v58_1,rfl,ho0,ho1,hb⟩;refine⟨_,rfl,?_⟩;have nu0:=Aside0.mk (UP.of ho0 ho1 HB.out.size);have n_U29:=Aside0.mk (U29.out.mvB (Frm.below hb));have n_U31_0:=Aside0.mk (U31_0.out.mvB (Frm.below hb));have n_U33_0:=Aside0.mk (U33_0.out.mvB (Frm.below hb));have n_U37:=Aside0.mk (U37.out.mvB (Frm.below hb));have n_U39_0:=Aside0.mk (U39_0.out.mvB (Frm.below hb));have n_U44_0:=Aside0.mk (U44_0.out.mvB (Frm.below hb));have n_Bg3:=Aside0.mk (blk_below Bg3.out hb);have n_Bg10:=Aside0.mk (blk_below Bg10.out hb);have n_HB:=Aside0.mk (below_step HB.out hb);have NN13:Aside0 (w12.heap.size≤w13.heap.size):=⟨hb.size⟩;clear av hf3_0 aw hf3_1 ax hf10_0 ay hf10_1 U29 U31_0 U33_0 U37 U39_0 U44_0 Bg3 Bg10 HB;have U29:=n_U29;have U31_0:=n_U31_0;have U33_0:=n_U33_0;have U37:=n_U37;have U39_0:=n_U39_0;have U44_0:=n_U44_0;have Bg3:=n_Bg3;have Bg10:=n_Bg10;have HB:=n_HB;clear n_U29 n_U31_0 n_U33_0 n_U37 n_U39_0 n_U44_0 n_Bg3 n_Bg10 n_HB hb ho0 ho1;have U58:=nu0;clear nu0;obtain⟨bg,bh,bi,bk,e0,e1⟩:=U58.out.slices;subst e0;subst e1)
 refine hK.out _ _ ⟨(blk_cell Bg10.out 0).trans rfl,(blk_cell Bg10.out 1).trans rfl,(blk_cell Bg3.out 0).trans rfl,(blk_cell Bg3.out 1).trans rfl⟩ (fun hHeld=>?_)
 clear hK K
 refine norm_ (a':=?_) ?_ ?_
 rotate_left
 ·show Act.put _ (some 58) _=_
  simp only [Act.put,List.setIfInBounds_toArray,List.set_cons_zero,List.set_cons_succ,i64_w,i32_w]
  rfl
 refine on_ 3 (some 59) (fun K hK=>?_)
 refine goes_ Try.func15 (by kernel_rfl) rfl #[.agg #[.slice aj aa.length ak, .slice aq ae.length au], .agg #[.slice bg aa.length bh, .slice bi ae.length bk]] (by rfl) rfl rfl (by(try simp only [List.map_toArray,List.map_cons,List.map_nil]);first | done | rfl) ?_
 (refine(laws_eqProblem.calls k _ _ aa _ _ ae _ _ aa _ _ ae true _ ?s1 ?s2 ?s3 ?s4 ?s5 ?s6 ?s7 ?s8 H9'.out).mono ?_;(case s1=>exact U37.out.C0);(case s2=>exact U37.out.cap0);(case s3=>exact U37.out.C1);(case s4=>exact U37.out.cap1);(case s5=>exact U58.out.C0);(case s6=>exact U58.out.cap0);(case s7=>exact U58.out.C1);(case s8=>exact U58.out.cap1);rintro e w14 ⟨rfl,hb⟩;refine⟨_,rfl,?_⟩;have n_U29:=Aside0.mk (U29.out.mvB (Frm.below hb));have n_U31_0:=Aside0.mk (U31_0.out.mvB (Frm.below hb));have n_U33_0:=Aside0.mk (U33_0.out.mvB (Frm.below hb));have n_U37:=Aside0.mk (U37.out.mvB (Frm.below hb));have n_U39_0:=Aside0.mk (U39_0.out.mvB (Frm.below hb));have n_U44_0:=Aside0.mk (U44_0.out.mvB (Frm.below hb));have n_U58:=Aside0.mk (U58.out.mvB (Frm.below hb));have n_Bg3:=Aside0.mk (blk_below Bg3.out hb);have n_Bg10:=Aside0.mk (blk_below Bg10.out hb);have n_HB:=Aside0.mk (below_step HB.out hb);have NN14:Aside0 (w13.heap.size≤w14.heap.size):=⟨hb.size⟩;clear U29 U31_0 U33_0 U37 U39_0 U44_0 U58 Bg3 Bg10 HB;have U29:=n_U29;have U31_0:=n_U31_0;have U33_0:=n_U33_0;have U37:=n_U37;have U39_0:=n_U39_0;have U44_0:=n_U44_0;have U58:=n_U58;have Bg3:=n_Bg3;have Bg10:=n_Bg10;have HB:=n_HB;clear n_U29 n_U31_0 n_U33_0 n_U37 n_U39_0 n_U44_0 n_U58 n_Bg3 n_Bg10 n_HB hb)
 refine hK.out _ _ ⟨(blk_cell Bg10.out 0).trans rfl,(blk_cell Bg10.out 1).trans rfl,(blk_cell Bg3.out 0).trans rfl,(blk_cell Bg3.out 1).trans rfl⟩ (fun hHeld=>?_)
 clear hK K
 refine norm_ (a':=?_) ?_ ?_
 rotate_left
 ·show Act.put _ (some 59) _=_
  simp only [Act.put,List.setIfInBounds_toArray,List.set_cons_zero,List.set_cons_succ,i64_w,i32_w]
  rfl
 refine pu_ 4 60 ?_
 refine done_ (by kernel_rfl) ?_
 go_wp2_with (first | ((with_reducible refine gate_callee (f:=12) rfl ?_);refine gL_ 63 Try.func12 #[.slice A1 l1.length c1] ?_;refine(laws_toInt64S.calls k _ _ l1 l1 _ ?s1 ?s2 H5'.out).mono ?_;(case s1=>exact Kd.C_below HR1.out HB.out);(case s2=>exact HC1.out);rintro e w15 ⟨v63_0,rfl,ho0,hb⟩;refine⟨_,rfl,?_⟩;have nu0:=Aside0.mk (UR.of ho0 HB.out.size);have n_U29:=Aside0.mk (U29.out.mvB (Frm.below hb));have n_U31_0:=Aside0.mk (U31_0.out.mvB (Frm.below hb));have n_U33_0:=Aside0.mk (U33_0.out.mvB (Frm.below hb));have n_U37:=Aside0.mk (U37.out.mvB (Frm.below hb));have n_U39_0:=Aside0.mk (U39_0.out.mvB (Frm.below hb));have n_U44_0:=Aside0.mk (U44_0.out.mvB (Frm.below hb));have n_U58:=Aside0.mk (U58.out.mvB (Frm.below hb));have n_Bg3:=Aside0.mk (blk_below Bg3.out hb);have n_Bg10:=Aside0.mk (blk_below Bg10.out hb);have n_HB:=Aside0.mk (below_step HB.out hb);have NN15:Aside0 (w14.heap.size≤w15.heap.size):=⟨hb.size⟩;clear U29 U31_0 U33_0 U37 U39_0 U44_0 U58 Bg3 Bg10 HB;have U29:=n_U29;have U31_0:=n_U31_0;have U33_0:=n_U33_0;have U37:=n_U37;have U39_0:=n_U39_0;have U44_0:=n_U44_0;have U58:=n_U58;have Bg3:=n_Bg3;have Bg10:=n_Bg10;have HB:=n_HB;clear n_U29 n_U31_0 n_U33_0 n_U37 n_U39_0 n_U44_0 n_U58 n_Bg3 n_Bg10 n_HB hb ho0;have U63_0:=nu0;clear nu0;obtain⟨bn,bq,e0⟩:=Kd.R_slice U63_0.out;subst e0) | ((with_reducible refine gate_callee (f:=16) rfl ?_);refine gL_ 64 Try.func16 #[.slice aC l1.length aD, .slice bn l1.length bq] ?_;refine(laws_eqInt64S.calls k _ _ l1 _ _ l1 true _ ?s1 ?s2 ?s3 ?s4 H10'.out).mono ?_;(case s1=>exact UR.C U39_0.out);(case s2=>exact UR.cap U39_0.out);(case s3=>exact UR.C U63_0.out);(case s4=>exact UR.cap U63_0.out);rintro e w16 ⟨rfl,hb⟩;refine⟨_,rfl,?_⟩;have hb:=hb.below;have n_U29:=Aside0.mk (U29.out.mvB (Frm.below hb));have n_U31_0:=Aside0.mk (U31_0.out.mvB (Frm.below hb));have n_U33_0:=Aside0.mk (U33_0.out.mvB (Frm.below hb));have n_U37:=Aside0.mk (U37.out.mvB (Frm.below hb));have n_U39_0:=Aside0.mk (U39_0.out.mvB (Frm.below hb));have n_U44_0:=Aside0.mk (U44_0.out.mvB (Frm.below hb));have n_U58:=Aside0.mk (U58.out.mvB (Frm.below hb));have n_U63_0:=Aside0.mk (U63_0.out.mvB (Frm.below hb));have n_Bg3:=Aside0.mk (blk_below Bg3.out hb);have n_Bg10:=Aside0.mk (blk_below Bg10.out hb);have n_HB:=Aside0.mk (below_step HB.out hb);have NN16:Aside0 (w15.heap.size≤w16.heap.size):=⟨hb.size⟩;clear U29 U31_0 U33_0 U37 U39_0 U44_0 U58 U63_0 Bg3 Bg10 HB;have U29:=n_U29;have U31_0:=n_U31_0;have U33_0:=n_U33_0;have U37:=n_U37;have U39_0:=n_U39_0;have U44_0:=n_U44_0;have U58:=n_U58;have U63_0:=n_U63_0;have Bg3:=n_Bg3;have Bg10:=n_Bg10;have HB:=n_HB;clear n_U29 n_U31_0 n_U33_0 n_U37 n_U39_0 n_U44_0 n_U58 n_U63_0 n_Bg3 n_Bg10 n_HB hb;have ax:w16.cell? ⟨g10,0,none⟩=some (.slice aj aa.length ak):=(blk_cell Bg10.out 0).trans rfl;have hf10_0:=blk_frozen Bg10.out 0;have ay:w16.cell? ⟨g10,1,none⟩=some (.slice aq ae.length au):=(blk_cell Bg10.out 1).trans rfl;have hf10_1:=blk_frozen Bg10.out 1) | ((with_reducible refine gate_callee (f:=17) rfl ?_);refine gL_ 68 Try.func17 #[.agg #[.slice aj aa.length ak, .slice aq ae.length au], .int .i64 1] ?_;refine(mark_UP aj ak aq au aa ae 1 m1 HB.out U37.out (by decide) H12'.out H13'.out H11'.out (by have:=NN1.out;have:=Gg3.out;have:=Kg3.out;have:=NN2.out;have:=NN3.out;have:=NN4.out;have:=NN5.out;have:=NN6.out;have:=NN7.out;have:=Gg10.out;have:=Kg10.out;have:=NN8.out;have:=NN9.out;have:=NN10.out;have:=NN11.out;have:=NN12.out;have:=NN13.out;have:=NN14.out;have:=NN15.out;have:=NN16.out;omega)).mono ?_;rintro e w17 ⟨rfl,hU,hB',hF⟩;refine⟨_,rfl,?_⟩;have nu:=Aside0.mk hU;have n_U29:=Aside0.mk (U29.out.mv hF (by have:=NN1.out;have:=Gg3.out;have:=Kg3.out;have:=NN2.out;have:=NN3.out;have:=NN4.out;have:=NN5.out;have:=NN6.out;have:=NN7.out;have:=Gg10.out;have:=Kg10.out;have:=NN8.out;have:=NN9.out;have:=NN10.out;have:=NN11.out;have:=NN12.out;have:=NN13.out;have:=NN14.out;have:=NN15.out;have:=NN16.out;omega));have n_U31_0:=Aside0.mk (U31_0.out.mv hF (by have:=NN1.out;have:=Gg3.out;have:=Kg3.out;have:=NN2.out;have:=NN3.out;have:=NN4.out;have:=NN5.out;have:=NN6.out;have:=NN7.out;have:=Gg10.out;have:=Kg10.out;have:=NN8.out;have:=NN9.out;have:=NN10.out;have:=NN11.out;have:=NN12.out;have:=NN13.out;have:=NN14.out;have:=NN15.out;have:=NN16.out;omega));have n_U33_0:=Aside0.mk (U33_0.out.mv hF (by have:=NN1.out;have:=Gg3.out;have:=Kg3.out;have:=NN2.out;have:=NN3.out;have:=NN4.out;have:=NN5.out;have:=NN6.out;have:=NN7.out;have:=Gg10.out;have:=Kg10.out;have:=NN8.out;have:=NN9.out;have:=NN10.out;have:=NN11.out;have:=NN12.out;have:=NN13.out;have:=NN14.out;have:=NN15.out;have:=NN16.out;omega));have n_U39_0:=Aside0.mk (U39_0.out.mv hF (by have:=NN1.out;have:=Gg3.out;have:=Kg3.out;have:=NN2.out;have:=NN3.out;have:=NN4.out;have:=NN5.out;have:=NN6.out;have:=NN7.out;have:=Gg10.out;have:=Kg10.out;have:=NN8.out;have:=NN9.out;have:=NN10.out;have:=NN11.out;have:=NN12.out;have:=NN13.out;have:=NN14.out;have:=NN15.out;have:=NN16.out;omega));have n_U44_0:=Aside0.mk (U44_0.out.mv hF (by have:=NN1.out;have:=Gg3.out;have:=Kg3.out;have:=NN2.out;have:=NN3.out;have:=NN4.out;have:=NN5.out;have:=NN6.out;have:=NN7.out;have:=Gg10.out;have:=Kg10.out;have:=NN8.out;have:=NN9.out;have:=NN10.out;have:=NN11.out;have:=NN12.out;have:=NN13.out;have:=NN14.out;have:=NN15.out;have:=NN16.out;omega));have n_U58:=Aside0.mk (U58.out.mv hF (by have:=NN1.out;have:=Gg3.out;have:=Kg3.out;have:=NN2.out;have:=NN3.out;have:=NN4.out;have:=NN5.out;have:=NN6.out;have:=NN7.out;have:=Gg10.out;have:=Kg10.out;have:=NN8.out;have:=NN9.out;have:=NN10.out;have:=NN11.out;have:=NN12.out;have:=NN13.out;have:=NN14.out;have:=NN15.out;have:=NN16.out;omega));have n_U63_0:=Aside0.mk (U63_0.out.mv hF (by have:=NN1.out;have:=Gg3.out;have:=Kg3.out;have:=NN2.out;have:=NN3.out;have:=NN4.out;have:=NN5.out;have:=NN6.out;have:=NN7.out;have:=Gg10.out;have:=Kg10.out;have:=NN8.out;have:=NN9.out;have:=NN10.out;have:=NN11.out;have:=NN12.out;have:=NN13.out;have:=NN14.out;have:=NN15.out;have:=NN16.out;omega));have n_Bg3:=Aside0.mk ((hF.same g3 (blk_lt Bg3.out) (by have:=NN1.out;have:=Gg3.out;have:=Kg3.out;have:=NN2.out;have:=NN3.out;have:=NN4.out;have:=NN5.out;have:=NN6.out;have:=NN7.out;have:=Gg10.out;have:=Kg10.out;have:=NN8.out;have:=NN9.out;have:=NN10.out;have:=NN11.out;have:=NN12.out;have:=NN13.out;have:=NN14.out;have:=NN15.out;have:=NN16.out;omega)).trans Bg3.out);have n_Bg10:=Aside0.mk ((hF.same g10 (blk_lt Bg10.out) (by have:=NN1.out;have:=Gg3.out;have:=Kg3.out;have:=NN2.out;have:=NN3.out;have:=NN4.out;have:=NN5.out;have:=NN6.out;have:=NN7.out;have:=Gg10.out;have:=Kg10.out;have:=NN8.out;have:=NN9.out;have:=NN10.out;have:=NN11.out;have:=NN12.out;have:=NN13.out;have:=NN14.out;have:=NN15.out;have:=NN16.out;omega)).trans Bg10.out);have n_HB:=Aside0.mk (hB');have NN17:Aside0 (w16.heap.size≤w17.heap.size):=⟨hF.size⟩;clear ax hf10_0 ay hf10_1 U29 U31_0 U33_0 U39_0 U44_0 U58 U63_0 Bg3 Bg10 HB;have U29:=n_U29;have U31_0:=n_U31_0;have U33_0:=n_U33_0;have U39_0:=n_U39_0;have U44_0:=n_U44_0;have U58:=n_U58;have U63_0:=n_U63_0;have Bg3:=n_Bg3;have Bg10:=n_Bg10;have HB:=n_HB;clear n_U29 n_U31_0 n_U33_0 n_U39_0 n_U44_0 n_U58 n_U63_0 n_Bg3 n_Bg10 n_HB U37;have U37:=nu;clear nu hU hB' hF) | ((with_reducible refine gate_callee (f:=18) rfl ?_);refine gL_ 71 Try.func18 #[.slice aC l1.length aD, .int .i64 m1] ?_;refine(mark_UR aC aD l1 _ m1 m2 HB.out U39_0.out H15'.out H17'.out H16'.out).mono ?_;rintro e w18 ⟨rfl,hU,hB',hF⟩;refine⟨_,rfl,?_⟩;have nu:=Aside0.mk hU;have n_U29:=Aside0.mk (U29.out.mv hF (by have:=NN1.out;have:=Gg3.out;have:=Kg3.out;have:=NN2.out;have:=NN3.out;have:=NN4.out;have:=NN5.out;have:=NN6.out;have:=NN7.out;have:=Gg10.out;have:=Kg10.out;have:=NN8.out;have:=NN9.out;have:=NN10.out;have:=NN11.out;have:=NN12.out;have:=NN13.out;have:=NN14.out;have:=NN15.out;have:=NN16.out;have:=NN17.out;omega));have n_U31_0:=Aside0.mk (U31_0.out.mv hF (by have:=NN1.out;have:=Gg3.out;have:=Kg3.out;have:=NN2.out;have:=NN3.out;have:=NN4.out;have:=NN5.out;have:=NN6.out;have:=NN7.out;have:=Gg10.out;have:=Kg10.out;have:=NN8.out;have:=NN9.out;have:=NN10.out;have:=NN11.out;have:=NN12.out;have:=NN13.out;have:=NN14.out;have:=NN15.out;have:=NN16.out;have:=NN17.out;omega));have n_U33_0:=Aside0.mk (U33_0.out.mv hF (by have:=NN1.out;have:=Gg3.out;have:=Kg3.out;have:=NN2.out;have:=NN3.out;have:=NN4.out;have:=NN5.out;have:=NN6.out;have:=NN7.out;have:=Gg10.out;have:=Kg10.out;have:=NN8.out;have:=NN9.out;have:=NN10.out;have:=NN11.out;have:=NN12.out;have:=NN13.out;have:=NN14.out;have:=NN15.out;have:=NN16.out;have:=NN17.out;omega));have n_U37:=Aside0.mk (U37.out.mv hF (by have:=NN1.out;have:=Gg3.out;have:=Kg3.out;have:=NN2.out;have:=NN3.out;have:=NN4.out;have:=NN5.out;have:=NN6.out;have:=NN7.out;have:=Gg10.out;have:=Kg10.out;have:=NN8.out;have:=NN9.out;have:=NN10.out;have:=NN11.out;have:=NN12.out;have:=NN13.out;have:=NN14.out;have:=NN15.out;have:=NN16.out;have:=NN17.out;omega));have n_U44_0:=Aside0.mk (U44_0.out.mv hF (by have:=NN1.out;have:=Gg3.out;have:=Kg3.out;have:=NN2.out;have:=NN3.out;have:=NN4.out;have:=NN5.out;have:=NN6.out;have:=NN7.out;have:=Gg10.out;have:=Kg10.out;have:=NN8.out;have:=NN9.out;have:=NN10.out;have:=NN11.out;have:=NN12.out;have:=NN13.out;have:=NN14.out;have:=NN15.out;have:=NN16.out;have:=NN17.out;omega));have n_U58:=Aside0.mk (U58.out.mv hF (by have:=NN1.out;have:=Gg3.out;have:=Kg3.out;have:=NN2.out;have:=NN3.out;have:=NN4.out;have:=NN5.out;have:=NN6.out;have:=NN7.out;have:=Gg10.out;have:=Kg10.out;have:=NN8.out;have:=NN9.out;have:=NN10.out;have:=NN11.out;have:=NN12.out;have:=NN13.out;have:=NN14.out;have:=NN15.out;have:=NN16.out;have:=NN17.out;omega));have n_U63_0:=Aside0.mk (U63_0.out.mv hF (by have:=NN1.out;have:=Gg3.out;have:=Kg3.out;have:=NN2.out;have:=NN3.out;have:=NN4.out;have:=NN5.out;have:=NN6.out;have:=NN7.out;have:=Gg10.out;have:=Kg10.out;have:=NN8.out;have:=NN9.out;have:=NN10.out;have:=NN11.out;have:=NN12.out;have:=NN13.out;have:=NN14.out;have:=NN15.out;have:=NN16.out;have:=NN17.out;omega));have n_Bg3:=Aside0.mk ((hF.same g3 (blk_lt Bg3.out) (by have:=NN1.out;have:=Gg3.out;have:=Kg3.out;have:=NN2.out;have:=NN3.out;have:=NN4.out;have:=NN5.out;have:=NN6.out;have:=NN7.out;have:=Gg10.out;have:=Kg10.out;have:=NN8.out;have:=NN9.out;have:=NN10.out;have:=NN11.out;have:=NN12.out;have:=NN13.out;have:=NN14.out;have:=NN15.out;have:=NN16.out;have:=NN17.out;omega)).trans Bg3.out);have n_Bg10:=Aside0.mk ((hF.same g10 (blk_lt Bg10.out) (by have:=NN1.out;have:=Gg3.out;have:=Kg3.out;have:=NN2.out;have:=NN3.out;have:=NN4.out;have:=NN5.out;have:=NN6.out;have:=NN7.out;have:=Gg10.out;have:=Kg10.out;have:=NN8.out;have:=NN9.out;have:=NN10.out;have:=NN11.out;have:=NN12.out;have:=NN13.out;have:=NN14.out;have:=NN15.out;have:=NN16.out;have:=NN17.out;omega)).trans Bg10.out);have n_HB:=Aside0.mk (hB');have NN18:Aside0 (w17.heap.size≤w18.heap.size):=⟨hF.size⟩;clear U29 U31_0 U33_0 U37 U44_0 U58 U63_0 Bg3 Bg10 HB;have U29:=n_U29;have U31_0:=n_U31_0;have U33_0:=n_U33_0;have U37:=n_U37;have U44_0:=n_U44_0;have U58:=n_U58;have U63_0:=n_U63_0;have Bg3:=n_Bg3;have Bg10:=n_Bg10;have HB:=n_HB;clear n_U29 n_U31_0 n_U33_0 n_U37 n_U44_0 n_U58 n_U63_0 n_Bg3 n_Bg10 n_HB U39_0;have U39_0:=nu;clear nu hU hB' hF) | (go_at_call 14;refine(laws_eqFracS.calls k _ _ s0 _ _ s0 true _ ?s1 ?s2 ?s3 ?s4 H8'.out).mono ?_;(case s1=>exact UR.C U44_0.out);(case s2=>exact UR.cap U44_0.out);(case s3=>exact UR.C U33_0.out);(case s4=>exact UR.cap U33_0.out);rintro e w19 ⟨rfl,hb⟩;have n_U29:=Aside0.mk (U29.out.mvB (Frm.below hb));have n_U31_0:=Aside0.mk (U31_0.out.mvB (Frm.below hb));have n_U33_0:=Aside0.mk (U33_0.out.mvB (Frm.below hb));have n_U37:=Aside0.mk (U37.out.mvB (Frm.below hb));have n_U39_0:=Aside0.mk (U39_0.out.mvB (Frm.below hb));have n_U44_0:=Aside0.mk (U44_0.out.mvB (Frm.below hb));have n_U58:=Aside0.mk (U58.out.mvB (Frm.below hb));have n_U63_0:=Aside0.mk (U63_0.out.mvB (Frm.below hb));have n_Bg3:=Aside0.mk (blk_below Bg3.out hb);have n_Bg10:=Aside0.mk (blk_below Bg10.out hb);have n_HB:=Aside0.mk (below_step HB.out hb);have NN19:Aside0 (w18.heap.size≤w19.heap.size):=⟨hb.size⟩;clear U29 U31_0 U33_0 U37 U39_0 U44_0 U58 U63_0 Bg3 Bg10 HB;have U29:=n_U29;have U31_0:=n_U31_0;have U33_0:=n_U33_0;have U37:=n_U37;have U39_0:=n_U39_0;have U44_0:=n_U44_0;have U58:=n_U58;have U63_0:=n_U63_0;have Bg3:=n_Bg3;have Bg10:=n_Bg10;have HB:=n_HB;clear n_U29 n_U31_0 n_U33_0 n_U37 n_U39_0 n_U44_0 n_U58 n_U63_0 n_Bg3 n_Bg10 n_HB hb) | ((with_reducible refine gate_callee (f:=19) rfl ?_);refine gL_ 87 Try.func19 #[.slice az s0.length aA, .int .i64 1] ?_;refine(mark_UF az aA s0 _ 1 m3 HB.out U44_0.out (by decide) H20'.out H19'.out).mono ?_;rintro e w20 ⟨rfl,hU,hB',hF⟩;refine⟨_,rfl,?_⟩;have nu:=Aside0.mk hU;have n_U29:=Aside0.mk (U29.out.mv hF (by have:=NN1.out;have:=Gg3.out;have:=Kg3.out;have:=NN2.out;have:=NN3.out;have:=NN4.out;have:=NN5.out;have:=NN6.out;have:=NN7.out;have:=Gg10.out;have:=Kg10.out;have:=NN8.out;have:=NN9.out;have:=NN10.out;have:=NN11.out;have:=NN12.out;have:=NN13.out;have:=NN14.out;have:=NN15.out;have:=NN16.out;have:=NN17.out;have:=NN18.out;have:=NN19.out;omega));have n_U31_0:=Aside0.mk (U31_0.out.mv hF (by have:=NN1.out;have:=Gg3.out;have:=Kg3.out;have:=NN2.out;have:=NN3.out;have:=NN4.out;have:=NN5.out;have:=NN6.out;have:=NN7.out;have:=Gg10.out;have:=Kg10.out;have:=NN8.out;have:=NN9.out;have:=NN10.out;have:=NN11.out;have:=NN12.out;have:=NN13.out;have:=NN14.out;have:=NN15.out;have:=NN16.out;have:=NN17.out;have:=NN18.out;have:=NN19.out;omega));have n_U33_0:=Aside0.mk (U33_0.out.mv hF (by have:=NN1.out;have:=Gg3.out;have:=Kg3.out;have:=NN2.out;have:=NN3.out;have:=NN4.out;have:=NN5.out;have:=NN6.out;have:=NN7.out;have:=Gg10.out;have:=Kg10.out;have:=NN8.out;have:=NN9.out;have:=NN10.out;have:=NN11.out;have:=NN12.out;have:=NN13.out;have:=NN14.out;have:=NN15.out;have:=NN16.out;have:=NN17.out;have:=NN18.out;have:=NN19.out;omega));have n_U37:=Aside0.mk (U37.out.mv hF (by have:=NN1.out;have:=Gg3.out;have:=Kg3.out;have:=NN2.out;have:=NN3.out;have:=NN4.out;have:=NN5.out;have:=NN6.out;have:=NN7.out;have:=Gg10.out;have:=Kg10.out;have:=NN8.out;have:=NN9.out;have:=NN10.out;have:=NN11.out;have:=NN12.out;have:=NN13.out;have:=NN14.out;have:=NN15.out;have:=NN16.out;have:=NN17.out;have:=NN18.out;have:=NN19.out;omega));have n_U39_0:=Aside0.mk (U39_0.out.mv hF (by have:=NN1.out;have:=Gg3.out;have:=Kg3.out;have:=NN2.out;have:=NN3.out;have:=NN4.out;have:=NN5.out;have:=NN6.out;have:=NN7.out;have:=Gg10.out;have:=Kg10.out;have:=NN8.out;have:=NN9.out;have:=NN10.out;have:=NN11.out;have:=NN12.out;have:=NN13.out;have:=NN14.out;have:=NN15.out;have:=NN16.out;have:=NN17.out;have:=NN18.out;have:=NN19.out;omega));have n_U58:=Aside0.mk (U58.out.mv hF (by have:=NN1.out;have:=Gg3.out;have:=Kg3.out;have:=NN2.out;have:=NN3.out;have:=NN4.out;have:=NN5.out;have:=NN6.out;have:=NN7.out;have:=Gg10.out;have:=Kg10.out;have:=NN8.out;have:=NN9.out;have:=NN10.out;have:=NN11.out;have:=NN12.out;have:=NN13.out;have:=NN14.out;have:=NN15.out;have:=NN16.out;have:=NN17.out;have:=NN18.out;have:=NN19.out;omega));have n_U63_0:=Aside0.mk (U63_0.out.mv hF (by have:=NN1.out;have:=Gg3.out;have:=Kg3.out;have:=NN2.out;have:=NN3.out;have:=NN4.out;have:=NN5.out;have:=NN6.out;have:=NN7.out;have:=Gg10.out;have:=Kg10.out;have:=NN8.out;have:=NN9.out;have:=NN10.out;have:=NN11.out;have:=NN12.out;have:=NN13.out;have:=NN14.out;have:=NN15.out;have:=NN16.out;have:=NN17.out;have:=NN18.out;have:=NN19.out;omega));have n_Bg3:=Aside0.mk ((hF.same g3 (blk_lt Bg3.out) (by have:=NN1.out;have:=Gg3.out;have:=Kg3.out;have:=NN2.out;have:=NN3.out;have:=NN4.out;have:=NN5.out;have:=NN6.out;have:=NN7.out;have:=Gg10.out;have:=Kg10.out;have:=NN8.out;have:=NN9.out;have:=NN10.out;have:=NN11.out;have:=NN12.out;have:=NN13.out;have:=NN14.out;have:=NN15.out;have:=NN16.out;have:=NN17.out;have:=NN18.out;have:=NN19.out;omega)).trans Bg3.out);have n_Bg10:=Aside0.mk ((hF.same g10 (blk_lt Bg10.out) (by have:=NN1.out;have:=Gg3.out;have:=Kg3.out;have:=NN2.out;have:=NN3.out;have:=NN4.out;have:=NN5.out;have:=NN6.out;have:=NN7.out;have:=Gg10.out;have:=Kg10.out;have:=NN8.out;have:=NN9.out;have:=NN10.out;have:=NN11.out;have:=NN12.out;have:=NN13.out;have:=NN14.out;have:=NN15.out;have:=NN16.out;have:=NN17.out;have:=NN18.out;have:=NN19.out;omega)).trans Bg10.out);have n_HB:=Aside0.mk (hB');have NN20:Aside0 (w19.heap.size≤w20.heap.size):=⟨hF.size⟩;clear U29 U31_0 U33_0 U37 U39_0 U58 U63_0 Bg3 Bg10 HB;have U29:=n_U29;have U31_0:=n_U31_0;have U33_0:=n_U33_0;have U37:=n_U37;have U39_0:=n_U39_0;have U58:=n_U58;have U63_0:=n_U63_0;have Bg3:=n_Bg3;have Bg10:=n_Bg10;have HB:=n_HB;clear n_U29 n_U31_0 n_U33_0 n_U37 n_U39_0 n_U58 n_U63_0 n_Bg3 n_Bg10 n_HB U44_0;have U44_0:=nu;clear nu hU hB' hF) | ((with_reducible refine gate_callee (f:=20) rfl ?_);refine gL_ 90 Try.func20 #[.slice az s0.length aA, .int .i64 1] ?_;have hcall:=laws_heldFracS.calls k _ _ ((cntF 1 s0.length)) 1 m3 _ (UR.C U44_0.out) (UR.cap U44_0.out) H22'.out;simp only [marks_length,count_length,cntF_length] at hcall;refine hcall.mono ?_;clear hcall;rintro e w21 ⟨rfl,hb⟩;refine⟨_,rfl,?_⟩;have hb:=hb.below;have n_U29:=Aside0.mk (U29.out.mvB (Frm.below hb));have n_U31_0:=Aside0.mk (U31_0.out.mvB (Frm.below hb));have n_U33_0:=Aside0.mk (U33_0.out.mvB (Frm.below hb));have n_U37:=Aside0.mk (U37.out.mvB (Frm.below hb));have n_U39_0:=Aside0.mk (U39_0.out.mvB (Frm.below hb));have n_U44_0:=Aside0.mk (U44_0.out.mvB (Frm.below hb));have n_U58:=Aside0.mk (U58.out.mvB (Frm.below hb));have n_U63_0:=Aside0.mk (U63_0.out.mvB (Frm.below hb));have n_Bg3:=Aside0.mk (blk_below Bg3.out hb);have n_Bg10:=Aside0.mk (blk_below Bg10.out hb);have n_HB:=Aside0.mk (below_step HB.out hb);have NN21:Aside0 (w20.heap.size≤w21.heap.size):=⟨hb.size⟩;clear U29 U31_0 U33_0 U37 U39_0 U44_0 U58 U63_0 Bg3 Bg10 HB;have U29:=n_U29;have U31_0:=n_U31_0;have U33_0:=n_U33_0;have U37:=n_U37;have U39_0:=n_U39_0;have U44_0:=n_U44_0;have U58:=n_U58;have U63_0:=n_U63_0;have Bg3:=n_Bg3;have Bg10:=n_Bg10;have HB:=n_HB;clear n_U29 n_U31_0 n_U33_0 n_U37 n_U39_0 n_U44_0 n_U58 n_U63_0 n_Bg3 n_Bg10 n_HB hb;have av:w21.cell? ⟨g3,0,none⟩=some (.slice af aa.length ag):=(blk_cell Bg3.out 0).trans rfl;have hf3_0:=blk_frozen Bg3.out 0;have aw:w21.cell? ⟨g3,1,none⟩=some (.slice ah ae.length ai):=(blk_cell Bg3.out 1).trans rfl;have hf3_1:=blk_frozen Bg3.out 1) | ((with_reducible refine gate_callee (f:=11) rfl ?_);refine gL_ 98 Try.func11 #[.agg #[.slice af aa.length ag, .slice ah ae.length ai]] ?_;refine(laws_toProblem.calls k _ _ aa _ _ ae aa ae _ ?s1 ?s2 ?s3 ?s4 H4'.out).mono ?_;(case s1=>exact Kd.C_below HR0_0.out HB.out);(case s2=>exact HC0_0.out);(case s3=>exact Kd.C_below HR0_1.out HB.out);(case s4=>exact HC0_1.out);rintro e w22 ⟨v98_0,v98_1,rfl,ho0,ho1,hb⟩;refine⟨_,rfl,?_⟩;have nu0:=Aside0.mk (UP.of ho0 ho1 HB.out.size);have n_U29:=Aside0.mk (U29.out.mvB (Frm.below hb));have n_U31_0:=Aside0.mk (U31_0.out.mvB (Frm.below hb));have n_U33_0:=Aside0.mk (U33_0.out.mvB (Frm.below hb));have n_U37:=Aside0.mk (U37.out.mvB (Frm.below hb));have n_U39_0:=Aside0.mk (U39_0.out.mvB (Frm.below hb));have n_U44_0:=Aside0.mk (U44_0.out.mvB (Frm.below hb));have n_U58:=Aside0.mk (U58.out.mvB (Frm.below hb));have n_U63_0:=Aside0.mk (U63_0.out.mvB (Frm.below hb));have n_Bg3:=Aside0.mk (blk_below Bg3.out hb);have n_Bg10:=Aside0.mk (blk_below Bg10.out hb);have n_HB:=Aside0.mk (below_step HB.out hb);have NN22:Aside0 (w21.heap.size≤w22.heap.size):=⟨hb.size⟩;clear av hf3_0 aw hf3_1 U29 U31_0 U33_0 U37 U39_0 U44_0 U58 U63_0 Bg3 Bg10 HB;have U29:=n_U29;have U31_0:=n_U31_0;have U33_0:=n_U33_0;have U37:=n_U37;have U39_0:=n_U39_0;have U44_0:=n_U44_0;have U58:=n_U58;have U63_0:=n_U63_0;have Bg3:=n_Bg3;have Bg10:=n_Bg10;have HB:=n_HB;clear n_U29 n_U31_0 n_U33_0 n_U37 n_U39_0 n_U44_0 n_U58 n_U63_0 n_Bg3 n_Bg10 n_HB hb ho0 ho1;have U98:=nu0;clear nu0;obtain⟨bu,bv,bw,bz,e0,e1⟩:=U98.out.slices;subst e0;subst e1) | ((with_reducible refine gate_callee (f:=12) rfl ?_);refine gL_ 100 Try.func12 #[.slice A1 l1.length c1] ?_;refine(laws_toInt64S.calls k _ _ l1 l1 _ ?s1 ?s2 H5'.out).mono ?_;(case s1=>exact Kd.C_below HR1.out HB.out);(case s2=>exact HC1.out);rintro e w23 ⟨v100_0,rfl,ho0,hb⟩;refine⟨_,rfl,?_⟩;have nu0:=Aside0.mk (UR.of ho0 HB.out.size);have n_U29:=Aside0.mk (U29.out.mvB (Frm.below hb));have n_U31_0:=Aside0.mk (U31_0.out.mvB (Frm.below hb));have n_U33_0:=Aside0.mk (U33_0.out.mvB (Frm.below hb));have n_U37:=Aside0.mk (U37.out.mvB (Frm.below hb));have n_U39_0:=Aside0.mk (U39_0.out.mvB (Frm.below hb));have n_U44_0:=Aside0.mk (U44_0.out.mvB (Frm.below hb));have n_U58:=Aside0.mk (U58.out.mvB (Frm.below hb));have n_U63_0:=Aside0.mk (U63_0.out.mvB (Frm.below hb));have n_U98:=Aside0.mk (U98.out.mvB (Frm.below hb));have n_Bg3:=Aside0.mk (blk_below Bg3.out hb);have n_Bg10:=Aside0.mk (blk_below Bg10.out hb);have n_HB:=Aside0.mk (below_step HB.out hb);have NN23:Aside0 (w22.heap.size≤w23.heap.size):=⟨hb.size⟩;clear U29 U31_0 U33_0 U37 U39_0 U44_0 U58 U63_0 U98 Bg3 Bg10 HB;have U29:=n_U29;have U31_0:=n_U31_0;have U33_0:=n_U33_0;have U37:=n_U37;have U39_0:=n_U39_0;have U44_0:=n_U44_0;have U58:=n_U58;have U63_0:=n_U63_0;have U98:=n_U98;have Bg3:=n_Bg3;have Bg10:=n_Bg10;have HB:=n_HB;clear n_U29 n_U31_0 n_U33_0 n_U37 n_U39_0 n_U44_0 n_U58 n_U63_0 n_U98 n_Bg3 n_Bg10 n_HB hb ho0;have U100_0:=nu0;clear nu0;obtain⟨aT,aU,e0⟩:=Kd.R_slice U100_0.out;subst e0) | ((with_reducible refine gate_callee (f:=13) rfl ?_);refine gL_ 102 Try.func13 #[.agg #[.slice bu aa.length bv, .slice bw ae.length bz], .slice aT l1.length aU, .int .i64 a2] ?_;refine(impl_RightAfter.calls k _ _ aa _ _ ae _ _ l1 a2 s0 s1 _ ?s1 ?s2 ?s3 ?s4 ?s5 ?s6 H7'.out).mono ?_;(case s1=>exact U98.out.C0);(case s2=>exact U98.out.cap0);(case s3=>exact U98.out.C1);(case s4=>exact U98.out.cap1);(case s5=>exact UR.C U100_0.out);(case s6=>exact UR.cap U100_0.out);rintro e w24 ⟨v102_0,rfl,ho0,hb⟩;refine⟨_,rfl,?_⟩;have nu0:=Aside0.mk (UR.of ho0 HB.out.size);have n_U29:=Aside0.mk (U29.out.mvB (Frm.below hb));have n_U31_0:=Aside0.mk (U31_0.out.mvB (Frm.below hb));have n_U33_0:=Aside0.mk (U33_0.out.mvB (Frm.below hb));have n_U37:=Aside0.mk (U37.out.mvB (Frm.below hb));have n_U39_0:=Aside0.mk (U39_0.out.mvB (Frm.below hb));have n_U44_0:=Aside0.mk (U44_0.out.mvB (Frm.below hb));have n_U58:=Aside0.mk (U58.out.mvB (Frm.below hb));have n_U63_0:=Aside0.mk (U63_0.out.mvB (Frm.below hb));have n_U98:=Aside0.mk (U98.out.mvB (Frm.below hb));have n_U100_0:=Aside0.mk (U100_0.out.mvB (Frm.below hb));have n_Bg3:=Aside0.mk (blk_below Bg3.out hb);have n_Bg10:=Aside0.mk (blk_below Bg10.out hb);have n_HB:=Aside0.mk (below_step HB.out hb);have NN24:Aside0 (w23.heap.size≤w24.heap.size):=⟨hb.size⟩;clear U29 U31_0 U33_0 U37 U39_0 U44_0 U58 U63_0 U98 U100_0 Bg3 Bg10 HB;have U29:=n_U29;have U31_0:=n_U31_0;have U33_0:=n_U33_0;have U37:=n_U37;have U39_0:=n_U39_0;have U44_0:=n_U44_0;have U58:=n_U58;have U63_0:=n_U63_0;have U98:=n_U98;have U100_0:=n_U100_0;have Bg3:=n_Bg3;have Bg10:=n_Bg10;have HB:=n_HB;clear n_U29 n_U31_0 n_U33_0 n_U37 n_U39_0 n_U44_0 n_U58 n_U63_0 n_U98 n_U100_0 n_Bg3 n_Bg10 n_HB hb ho0;have U102_0:=nu0;clear nu0;obtain⟨aV,aW,e0⟩:=Kd.R_slice U102_0.out;subst e0) | ((with_reducible refine gate_callee (f:=14) rfl ?_);refine gL_ 107 Try.func14 #[.slice aV s0.length aW, .slice aK s0.length aM] ?_;refine(laws_eqFracS.calls k _ _ s0 _ _ s0 true _ ?s1 ?s2 ?s3 ?s4 H8'.out).mono ?_;(case s1=>exact UR.C U102_0.out);(case s2=>exact UR.cap U102_0.out);(case s3=>exact UR.C U33_0.out);(case s4=>exact UR.cap U33_0.out);rintro e w25 ⟨rfl,hb⟩;refine⟨_,rfl,?_⟩;have n_U29:=Aside0.mk (U29.out.mvB (Frm.below hb));have n_U31_0:=Aside0.mk (U31_0.out.mvB (Frm.below hb));have n_U33_0:=Aside0.mk (U33_0.out.mvB (Frm.below hb));have n_U37:=Aside0.mk (U37.out.mvB (Frm.below hb));have n_U39_0:=Aside0.mk (U39_0.out.mvB (Frm.below hb));have n_U44_0:=Aside0.mk (U44_0.out.mvB (Frm.below hb));have n_U58:=Aside0.mk (U58.out.mvB (Frm.below hb));have n_U63_0:=Aside0.mk (U63_0.out.mvB (Frm.below hb));have n_U98:=Aside0.mk (U98.out.mvB (Frm.below hb));have n_U100_0:=Aside0.mk (U100_0.out.mvB (Frm.below hb));have n_U102_0:=Aside0.mk (U102_0.out.mvB (Frm.below hb));have n_Bg3:=Aside0.mk (blk_below Bg3.out hb);have n_Bg10:=Aside0.mk (blk_below Bg10.out hb);have n_HB:=Aside0.mk (below_step HB.out hb);have NN25:Aside0 (w24.heap.size≤w25.heap.size):=⟨hb.size⟩;clear U29 U31_0 U33_0 U37 U39_0 U44_0 U58 U63_0 U98 U100_0 U102_0 Bg3 Bg10 HB;have U29:=n_U29;have U31_0:=n_U31_0;have U33_0:=n_U33_0;have U37:=n_U37;have U39_0:=n_U39_0;have U44_0:=n_U44_0;have U58:=n_U58;have U63_0:=n_U63_0;have U98:=n_U98;have U100_0:=n_U100_0;have U102_0:=n_U102_0;have Bg3:=n_Bg3;have Bg10:=n_Bg10;have HB:=n_HB;clear n_U29 n_U31_0 n_U33_0 n_U37 n_U39_0 n_U44_0 n_U58 n_U63_0 n_U98 n_U100_0 n_U102_0 n_Bg3 n_Bg10 n_HB hb) | ((with_reducible refine gate_callee (f:=20) rfl ?_);refine gL_ 116 Try.func20 #[.slice az s0.length aA, .int .i64 1] ?_;have hcall:=laws_heldFracS.calls k _ _ ((cntF 1 s0.length)) 1 m3 _ (UR.C U44_0.out) (UR.cap U44_0.out) H22'.out;simp only [marks_length,count_length,cntF_length] at hcall;refine hcall.mono ?_;clear hcall;rintro e w26 ⟨rfl,hb⟩;refine⟨_,rfl,?_⟩;have hb:=hb.below;have n_U29:=Aside0.mk (U29.out.mvB (Frm.below hb));have n_U31_0:=Aside0.mk (U31_0.out.mvB (Frm.below hb));have n_U33_0:=Aside0.mk (U33_0.out.mvB (Frm.below hb));have n_U37:=Aside0.mk (U37.out.mvB (Frm.below hb));have n_U39_0:=Aside0.mk (U39_0.out.mvB (Frm.below hb));have n_U44_0:=Aside0.mk (U44_0.out.mvB (Frm.below hb));have n_U58:=Aside0.mk (U58.out.mvB (Frm.below hb));have n_U63_0:=Aside0.mk (U63_0.out.mvB (Frm.below hb));have n_U98:=Aside0.mk (U98.out.mvB (Frm.below hb));have n_U100_0:=Aside0.mk (U100_0.out.mvB (Frm.below hb));have n_U102_0:=Aside0.mk (U102_0.out.mvB (Frm.below hb));have n_Bg3:=Aside0.mk (blk_below Bg3.out hb);have n_Bg10:=Aside0.mk (blk_below Bg10.out hb);have n_HB:=Aside0.mk (below_step HB.out hb);have NN26:Aside0 (w25.heap.size≤w26.heap.size):=⟨hb.size⟩;clear U29 U31_0 U33_0 U37 U39_0 U44_0 U58 U63_0 U98 U100_0 U102_0 Bg3 Bg10 HB;have U29:=n_U29;have U31_0:=n_U31_0;have U33_0:=n_U33_0;have U37:=n_U37;have U39_0:=n_U39_0;have U44_0:=n_U44_0;have U58:=n_U58;have U63_0:=n_U63_0;have U98:=n_U98;have U100_0:=n_U100_0;have U102_0:=n_U102_0;have Bg3:=n_Bg3;have Bg10:=n_Bg10;have HB:=n_HB;clear n_U29 n_U31_0 n_U33_0 n_U37 n_U39_0 n_U44_0 n_U58 n_U63_0 n_U98 n_U100_0 n_U102_0 n_Bg3 n_Bg10 n_HB hb))
 go_ret
 exact⟨rfl,HB.out⟩
theorem laws_FnExactRightAfter.small0 (k:Nat) (af:Option Addr) (ag:Nat) (aa:List (List Int)) (ah:Option Addr) (ai:Nat) (ae:List Int) (A1:Option Addr) (c1:Nat) (l1:List Int) (a2:Int)  (w:World) (aj:Kd.C (Kd.slice 2 (Kd.int .i64)) w af aa.length aa) (ak:aa.length≤ag) (aq:Kd.C (Kd.int .i64) w ah ae.length ae) (au:ae.length≤ai) (hr1:Kd.C (Kd.int .i64) w A1 l1.length l1) (hc1:l1.length≤c1) (h1:(l1.length:Int) > 1048576):
  Calls Try.prog 3 #[.agg #[.slice af aa.length ag, .slice ah ae.length ai], .slice A1 l1.length c1, .int .i64 a2] w fun e w'=>e= .returned (.bool true)∧Below w.heap.size w w':=by
 have HR0_0:=Aside0.mk aj
 have HC0_0:=Aside0.mk ak
 clear aj ak
 have HR0_1:=Aside0.mk aq
 have HC0_1:=Aside0.mk au
 clear aq au
 have HR1:=Aside0.mk hr1
 have HC1:=Aside0.mk hc1
 clear hr1 hc1
 have HB:=Aside0.mk (Below.refl w.heap.size w)
 go_enter Try.func3,Try.ntmps3
 go_wp2_with (first | ((with_reducible refine gate_dst (N:=3) rfl ?_);refine box_event ?hg (N:=3) ?hd (cs:= #[.slice af aa.length ag, .slice ah ae.length ai]) (t:=25) ?hr ?_;(case hd=>rfl);(case hg=>rfl);(case hr=>first | (go_simp;done) | (go_simp;rfl));intro g3 hg w1 hbox hb;have Gg3:Aside0 (g3=w.heap.size):=⟨hg⟩;have Kg3:=Aside0.mk (blk_lt hbox);clear hg;have n_HB:=Aside0.mk (below_step HB.out hb);have NN1:Aside0 (w.heap.size≤w1.heap.size):=⟨hb.size⟩;clear HB;have HB:=n_HB;clear n_HB;have Bg3:=Aside0.mk hbox;clear hb hbox;have av:w1.cell? ⟨g3,0,none⟩=some (.slice af aa.length ag):=(blk_cell Bg3.out 0).trans rfl;have hf3_0:=blk_frozen Bg3.out 0;have aw:w1.cell? ⟨g3,1,none⟩=some (.slice ah ae.length ai):=(blk_cell Bg3.out 1).trans rfl;have hf3_1:=blk_frozen Bg3.out 1))
 go_ret
 exact⟨rfl,HB.out⟩
theorem laws_FnExactRightAfter.small1 (k:Nat) (af:Option Addr) (ag:Nat) (aa:List (List Int)) (ah:Option Addr) (ai:Nat) (ae:List Int) (A1:Option Addr) (c1:Nat) (l1:List Int) (a2:Int) (ax:Int) (w:World) (aj:Kd.C (Kd.slice 2 (Kd.int .i64)) w af aa.length aa) (ak:aa.length≤ag) (aq:Kd.C (Kd.int .i64) w ah ae.length ae) (au:ae.length≤ai) (hr1:Kd.C (Kd.int .i64) w A1 l1.length l1) (hc1:l1.length≤c1) (h1: ¬ (l1.length:Int) > 1048576) (h2:laws_szProblem.f k aa ae 1048576=some ax) (h3:ax < 0):
  Calls Try.prog 3 #[.agg #[.slice af aa.length ag, .slice ah ae.length ai], .slice A1 l1.length c1, .int .i64 a2] w fun e w'=>e= .returned (.bool true)∧Below w.heap.size w w':=by
 have HR0_0:=Aside0.mk aj
 have HC0_0:=Aside0.mk ak
 clear aj ak
 have HR0_1:=Aside0.mk aq
 have HC0_1:=Aside0.mk au
 clear aq au
 have HR1:=Aside0.mk hr1
 have HC1:=Aside0.mk hc1
 clear hr1 hc1
 have HB:=Aside0.mk (Below.refl w.heap.size w)
 have H2':=Aside0.mk h2
 clear h2
 go_enter Try.func3,Try.ntmps3
 go_wp2_with (first | ((with_reducible refine gate_dst (N:=3) rfl ?_);refine box_event ?hg (N:=3) ?hd (cs:= #[.slice af aa.length ag, .slice ah ae.length ai]) (t:=25) ?hr ?_;(case hd=>rfl);(case hg=>rfl);(case hr=>first | (go_simp;done) | (go_simp;rfl));intro g3 hg w1 hbox hb;have Gg3:Aside0 (g3=w.heap.size):=⟨hg⟩;have Kg3:=Aside0.mk (blk_lt hbox);clear hg;have n_HB:=Aside0.mk (below_step HB.out hb);have NN1:Aside0 (w.heap.size≤w1.heap.size):=⟨hb.size⟩;clear HB;have HB:=n_HB;clear n_HB;have Bg3:=Aside0.mk hbox;clear hb hbox;have av:w1.cell? ⟨g3,0,none⟩=some (.slice af aa.length ag):=(blk_cell Bg3.out 0).trans rfl;have hf3_0:=blk_frozen Bg3.out 0;have aw:w1.cell? ⟨g3,1,none⟩=some (.slice ah ae.length ai):=(blk_cell Bg3.out 1).trans rfl;have hf3_1:=blk_frozen Bg3.out 1) | ((with_reducible refine gate_callee (f:=9) rfl ?_);refine gL_ 24 Try.func9 #[.agg #[.slice af aa.length ag, .slice ah ae.length ai], .int .i64 1048576] ?_;refine(laws_szProblem.calls k _ _ aa _ _ ae 1048576 ax _ ?s1 ?s2 ?s3 ?s4 H2'.out).mono ?_;(case s1=>exact Kd.C_below HR0_0.out HB.out);(case s2=>exact HC0_0.out);(case s3=>exact Kd.C_below HR0_1.out HB.out);(case s4=>exact HC0_1.out);rintro e w2 ⟨rfl,hb⟩;refine⟨_,rfl,?_⟩;have n_Bg3:=Aside0.mk (blk_below Bg3.out hb);have n_HB:=Aside0.mk (below_step HB.out hb);have NN2:Aside0 (w1.heap.size≤w2.heap.size):=⟨hb.size⟩;clear av hf3_0 aw hf3_1 Bg3 HB;have Bg3:=n_Bg3;have HB:=n_HB;clear n_Bg3 n_HB hb;have av:w2.cell? ⟨g3,0,none⟩=some (.slice af aa.length ag):=(blk_cell Bg3.out 0).trans rfl;have hf3_0:=blk_frozen Bg3.out 0;have aw:w2.cell? ⟨g3,1,none⟩=some (.slice ah ae.length ai):=(blk_cell Bg3.out 1).trans rfl;have hf3_1:=blk_frozen Bg3.out 1))
 go_ret
 exact⟨rfl,HB.out⟩
def laws_FnExactRightAfter.ok_walk (k:Nat) (aa:List (List Int)) (ae:List Int) (l1:List Int) (a2:Int):Prop:= ∃(af:Int) (s0:List (S93)) (s1:Int) (m1:Int) (m2:Int) (m3:Int),(¬ (l1.length:Int) > 1048576)∧(laws_szProblem.f k aa ae 1048576=some af)∧(¬ af < 0)∧(laws_toProblem.f k aa ae=some (aa,ae))∧(laws_toInt64S.f k l1=some l1)∧(spec_RightAfter.f k aa ae l1 a2=some (s0,s1))∧(impl_RightAfter.f k aa ae l1 a2=some (s0,s1))∧(laws_eqFracS.f k s0 s0=some true)∧(laws_eqProblem.f k aa ae aa ae=some true)∧(laws_eqInt64S.f k l1 l1=some true)∧(m1=1+(lens aa:Int)+(ae.length:Int))∧(1+(lens aa:Int)+(ae.length:Int)≤1099511627776)∧(aa.length≤1099511627776)∧(¬ m1 < 0)∧(0≤m1)∧(m2=m1+(l1.length:Int))∧(m1+(l1.length:Int)≤1099511627776)∧(¬ m2 < 0)∧(m3=1+2*(s0.length:Int))∧(1+2*(s0.length:Int)≤1099511627776)∧(¬ m3 < 0)∧(laws_heldFracS.f k ((cntF 1 s0.length)) 1=some m3)
def laws_FnExactRightAfter.ok_small0 (k:Nat) (aa:List (List Int)) (ae:List Int) (l1:List Int) (a2:Int):Prop:=((l1.length:Int) > 1048576)
def laws_FnExactRightAfter.ok_small1 (k:Nat) (ae:List (List Int)) (af:List Int) (l1:List Int) (a2:Int):Prop:= ∃(aa:Int),(¬ (l1.length:Int) > 1048576)∧(laws_szProblem.f k ae af 1048576=some aa)∧(aa < 0)
open Classical in
noncomputable def laws_FnExactRightAfter.f (k:Nat) (l0_0:List (List Int)) (l0_1:List Int) (l1:List Int) (a2:Int):Option Bool:=if laws_FnExactRightAfter.ok_walk k l0_0 l0_1 l1 a2∨laws_FnExactRightAfter.ok_small0 k l0_0 l0_1 l1 a2∨laws_FnExactRightAfter.ok_small1 k l0_0 l0_1 l1 a2 then some true else none
theorem laws_FnExactRightAfter.calls (k:Nat) (af:Option Addr) (ag:Nat) (aa:List (List Int)) (ah:Option Addr) (ai:Nat) (ae:List Int) (A1:Option Addr) (c1:Nat) (l1:List Int) (a2:Int) (r:Bool) (w:World) (aj:Kd.C (Kd.slice 2 (Kd.int .i64)) w af aa.length aa) (ak:aa.length≤ag) (aq:Kd.C (Kd.int .i64) w ah ae.length ae) (au:ae.length≤ai) (hr1:Kd.C (Kd.int .i64) w A1 l1.length l1) (hc1:l1.length≤c1) (h:laws_FnExactRightAfter.f k aa ae l1 a2=some r):
  Calls Try.prog 3 #[.agg #[.slice af aa.length ag, .slice ah ae.length ai], .slice A1 l1.length c1, .int .i64 a2] w fun e w'=>e= .returned (.bool r)∧Below w.heap.size w w':=by
 unfold laws_FnExactRightAfter.f at h
 split at h
 case isFalse=>cases h
 rename_i hok
 cases h
 rcases hok with ⟨av,s0,s1,m1,m2,m3,h1,h2,h3,h4,h5,h6,h7,h8,h9,h10,h11,h12,h13,h14,h15,h16,h17,h18,h19,h20,h21,h22⟩ | ⟨h1⟩ | ⟨av,h1,h2,h3⟩
 ·exact laws_FnExactRightAfter.walk k af ag aa ah ai ae A1 c1 l1 a2 av s0 s1 m1 m2 m3 w aj ak aq au hr1 hc1 h1 h2 h3 h4 h5 h6 h7 h8 h9 h10 h11 h12 h13 h14 h15 h16 h17 h18 h19 h20 h21 h22
 ·exact laws_FnExactRightAfter.small0 k af ag aa ah ai ae A1 c1 l1 a2  w aj ak aq au hr1 hc1 h1
 ·exact laws_FnExactRightAfter.small1 k af ag aa ah ai ae A1 c1 l1 a2 av w aj ak aq au hr1 hc1 h1 h2 h3
end Go.Proofs.Ytmpkckiifeikkaa.Pr
end
section
namespace Go.Proofs.Ytmpkckiifeikkaa.Say
open Go.Proofs.Ytmpkckiifeikkaa.Op Go.Proofs.Ytmpkckiifeikkaa.Pr
def FnExactRightAfter:Prop:= ∀(aa:List (List Int)) (ae:List Int) (l1:List Int) (a2:Int),GoodList (GoodList (GoodInt .i64)) aa→GoodList (GoodInt .i64) ae→GoodList (GoodInt .i64) l1→GoodInt .i64 a2→ ∃k,laws_FnExactRightAfter.f k aa ae l1 a2=some true
end Go.Proofs.Ytmpkckiifeikkaa.Say
end
section
namespace Go.Proofs.Ytmpkckiifeikkaa.Lsa
open Go.RowKit Go.Proofs.YtmpkckiifeikkaaW.PrintWords Go.Proofs.YtmpkckiifeikkaaW.PrintMore Go.Proofs.Ytmpkckiifeikkaa.Ma Go.Proofs.Ytmpkckiifeikkaa.Pr Go.Proofs.Ytmpkckiifeikkaa.Dt Go.Proofs.Ytmpkckiifeikkaa.Lk Go.Proofs.Ytmpkckiifeikkaa.Lt Go.Proofs.Ytmpkckiifeikkaa.Lq Go.Proofs.Ytmpkckiifeikkaa.Lp
theorem rd1 (l:List (List Int)) (i:Nat):rd_L1 l (i:Int)=l.getD i []:=by simp [rd_L1]
section
variable {n m:Nat} {T:Mat}
theorem at_rows {i:Nat} (hi:i < n):rd_L1 (rowsM n m T) (i:Int)=rowN T i m:=by rw [rd1,rowsM_at hi]
theorem at_num {i j:Nat} (hj:j < m):rd (rowN T i m) (j:Int)=T i j:=by rw [rd_nat,rowN_at hj]
theorem wB {x y:Int} (hx:Bnd x) (hy:Bnd y):wrap64 (x*y)=x*y:=by
 have:=prodB hx hy
 exact w64 (by omega) (by omega)
theorem kl_cons {i k:Nat} {x y:Int} (c:Nat) (l:List Nat):kl T i k x y (c::l)=if T i c*y=T k c*x then kl T i k x y l else decide (T i c*y < T k c*x):=by
 rw [show kl T i k x y (c::l)=(if T i c*y < T k c*x then true else if T k c*x < T i c*y then false else kl T i k x y l) from rfl]
 by_cases e:T i c*y=T k c*x
 ·rw [if_pos e,if_neg (by omega),if_neg (by omega)]
 ·rw [if_neg e]
  by_cases f:T i c*y < T k c*x
  ·rw [if_pos f];simp [f]
  ·rw [if_neg f,if_pos (by omega)];simp [f]
variable (hT: ∀a c,a < n→c < m→Bnd (T a c)) (hm:n < m) (hn:n≤1000) (hm2:m≤1000)
include hT hm hn hm2
theorem key_eq {i k:Nat} (hi:i < n) (hk:k < n) {a b:Int} (ha:Bnd a) (hb:Bnd b) (den:Int) (bs:List Int):Ev (fun q=>spec_l05Key.f q (rowsM n m T) den bs (i:Int) (k:Int) a b) (kl T i k a b (cols n m)):=by
 have loop: ∀q j,j+q=n→ ∀x y:Int,Ev (fun f=>spec_l05Key.l0 f (i:Int) (k:Int) a b (n:Int) x y (j:Int) (rowsM n m T) den bs) (if x=y then kl T i k a b (List.range' j q) else decide (x < y)):=by
  intro q
  induction q with
  | zero=>
   intro j hj x y
   refine evstep (fun f=>by rw [spec_l05Key.l0]) (evneg (by omega) (evc ?_))
   by_cases e:x=y
   ·rw [if_pos e];subst e;simp [List.range',kl]
   ·rw [if_neg e]
  | succ q ih=>
   intro j hj x y
   refine evstep (fun f=>by rw [spec_l05Key.l0]) (evpos (by omega) ?_)
   by_cases e:x=y
   ·rw [at_rows hi,at_rows hk,rowN_len,rowN_len,rowsM_len]
    refine evpos e (evpos (by omega) (evpos (by omega) (evpos (by omega) (evpos (by omega) (evpos (by omega) (evpos (by omega) (evpos (by omega) ?_)))))))
    rw [at_num (by omega),at_num (by omega),wB (hT i j hi (by omega)) hb,wB (hT k j hk (by omega)) ha,w64 (x:=(j:Int)+1) (by omega) (by omega),if_pos e,List.range'_succ,kl_cons]
    exact ih (j+1) (by omega) _ _
   ·rw [if_neg e]
    exact evneg e (evc rfl)
 unfold spec_l05Key.f
 rw [at_rows hi,at_rows hk,rowN_len,rowN_len,rowsM_len,w64 (x:=(m:Int) - 1) (by omega) (by omega),show (m:Int) - 1=((m - 1:Nat):Int) from by omega]
 refine evpos (by omega) (evpos (by omega) (evpos (by omega) (evpos (by omega) (evpos (by omega) (evpos (by omega) (evpos (by omega) ?_))))))
 rw [at_num (by omega),at_num (by omega),wB (hT i _ hi (by omega)) hb,wB (hT k _ hk (by omega)) ha]
 have e:cols n m=(m - 1)::List.range' 0 n:=by unfold cols;rw [List.range_eq_range']
 rw [e,kl_cons]
 exact loop n 0 (by omega) _ _
def encR:Option Nat→Int
 | none=> -1
 | some r=>(r:Int)
theorem row_eq (s:TS) (hs:s.T=T) {v:Nat} (hv:v < m) (den:Int) (bs:List Int):Ev (fun q=>spec_l05Row.f q (rowsM n m T) den bs (v:Int)) (encR (rowB n m s (fun i=>T i v))):=by
 have loop: ∀q j,j+q=n→ ∀o:Option Nat,(∀r,o=some r→r < n∧0 < T r v)→Ev (fun f=>spec_l05Row.l0 f (v:Int) (encR o) (j:Int) (rowsM n m T) den bs) (encR (lst (fun i=>T i v) (fun i j=>kl T i j (T i v) (T j v) (cols n m)) (List.range' j q) o)):=by
  intro q
  induction q with
  | zero=>
   intro j hj o ho
   exact evstep (fun f=>by rw [spec_l05Row.l0]) (by rw [rowsM_len];exact evneg (by omega) (evc rfl))
  | succ q ih=>
   intro j hj o ho
   refine evstep (fun f=>by rw [spec_l05Row.l0]) ?_
   rw [at_rows (show j < n by omega),rowN_len,rowsM_len,at_num hv]
   refine evpos (by omega) (evpos (by omega) (evpos (by omega) (evpos (by omega) ?_)))
   rw [w64 (x:=(j:Int)+1) (by omega) (by omega),List.range'_succ]
   show Ev _ (encR (lst _ _ (List.range' (j+1) q) (if 0 < T j v∧bet _ j o=true then some j else o)))
   by_cases c:0 < T j v
   ·refine evpos (by omega) ?_
    cases o with
    | none=>
     rw [if_pos ⟨c,rfl⟩]
     exact evpos (by decide) (ih (j+1) (by omega) (some j) (fun r hr=>by cases hr;exact⟨by omega,c⟩))
    | some r=>
     obtain⟨hr,hr2⟩:=ho r rfl
     refine evneg (by show ¬ (r:Int) < 0;omega) (evpos (by show 0≤(r:Int);omega) (evpos (by show (r:Int) < _;omega) ?_))
     show Ev (fun f=>if(v:Int) < ((rd_L1 (rowsM n m T) (r:Int)).length:Int) then((spec_l05Key.f f (rowsM n m T) den bs (j:Int) (r:Int) (T j v) (rd (rd_L1 (rowsM n m T) (r:Int)) (v:Int))).bind fun aa=>if aa=true then _ else _) else _) _
     rw [at_rows hr,rowN_len,at_num hv]
     refine evpos (by omega) (evbind (key_eq hT hm hn hm2 (show j < n by omega) hr (hT j v (by omega) hv) (hT r v hr hv) den bs) ?_)
     by_cases d:kl T j r (T j v) (T r v) (cols n m)=true
     ·rw [if_pos ⟨c,d⟩]
      exact evpos d (ih (j+1) (by omega) (some j) (fun r hr=>by cases hr;exact⟨by omega,c⟩))
     ·rw [if_neg (fun h=>d h.2)]
      exact evneg d (ih (j+1) (by omega) (some r) ho)
   ·rw [if_neg (fun h=>c h.1)]
    exact evneg (by omega) (ih (j+1) (by omega) o ho)
 unfold spec_l05Row.f
 have h:=loop n 0 (by omega) none (fun r hr=>by cases hr)
 unfold rowB
 rw [List.range_eq_range',hs]
 exact h
end
theorem enL_rows {n m:Nat} {T:Mat} {i j:Nat} (hi:i < n) (hj:j < m):enL (rowsM n m T) i j=T i j:=by
 unfold enL
 rw [rowsM_at hi,rowN_at hj]
theorem stT_congr {T T':Mat} {n m r v:Nat} (h: ∀i j,i < n→j < m→T i j=T' i j) (hr:r < n) (hv:v < m) (den:Int) {i j:Nat} (hi:i < n) (hj:j < m):stT T den r v i j=stT T' den r v i j:=by
 unfold stT stA evT
 rw [h r v hr hv,h r j hr hj,h i j hi hj,h i v hi hv]
theorem pivot_eq {n m:Nat} {s:TS} {r v:Nat} (hr:r < n) (hv:v < m) (hl:s.bs.length=n) (hn:n≤1000) (hm2:m≤1000) (hd:s.den≠0):spec_l05Pivot.f (rowsM n m s.T) s.den s.bs (r:Int) (v:Int)=some (rowsM n m (s.step r v).T,(s.step r v).den,(s.step r v).bs):=by
 have h0:((rowsM n m s.T).headD []).length=m:=by
  rw [show (rowsM n m s.T).headD []=(rowsM n m s.T).getD 0 [] from by cases rowsM n m s.T <;> rfl,rowsM_at (by omega),rowN_len]
 unfold spec_l05Pivot.f
 rw [h0,rowsM_len,if_pos ⟨by omega,by omega,by omega,by omega,by omega,by
  rw [List.all_eq_true]
  intro x hx
  unfold rowsM at hx
  obtain⟨a,_,rfl⟩:=List.mem_map.1 hx
  simp [rowN_len],hn,hm2,by omega,hd⟩]
 rw [Int.toNat_natCast,Int.toNat_natCast,rowsM_congr (Z:=stT s.T s.den r v) (fun i j hi hj=>stT_congr (fun i j hi hj=>enL_rows hi hj) hr hv s.den hi hj)]
 have e:stD (enL (rowsM n m s.T)) r v=stD s.T r v:=by unfold stD;rw [enL_rows hr hv]
 rw [e];rfl
theorem begin_eq {n:Nat} {M:List (List Int)} {cv Q:List Int} (hM:M.length=n) (hQ:Q.length=n) (hr: ∀x ∈ M,x.length=n) (hcv:cv.length=n) (hn:0 < n) (hn2:n≤5) (hMb: ∀i k,i < n→k < n→((enL M) i k).natAbs≤20) (hcb: ∀i,i < n→0 < cv.getD i 0∧cv.getD i 0≤20):
  Ev (fun k=>spec_l05Begin.f k M Q cv) (rowsM n (2*n+2) (tab0 n (enL M) (fun i=>cv.getD i 0) (fun i=>Q.getD i 0)),1,idl n):=by
 obtain⟨T,hT⟩: ∃T,tab0 n (enL M) (fun i=>cv.getD i 0) (fun i=>Q.getD i 0)=T:=⟨_,rfl⟩
 rw [hT]
 have hid: ∀i,(idl i).length=i:=fun i=>by simp [idl]
 have hidn: ∀i,idl (i+1)=idl i++ [(i:Int)]:=fun i=>by unfold idl;rw [List.range_succ,List.map_append];rfl
 have loop: ∀q i,i+q=n→Ev (fun k=>spec_l05Begin.l0 k cv (n:Int) (i:Int) M Q (rowsM i (2*n+2) T) 1 (idl i)) (rowsM n (2*n+2) T,1,idl n):=by
  intro q
  induction q with
  | zero=>
   intro i hi
   obtain rfl:i=n:=by omega
   exact evstep (fun k=>by rw [spec_l05Begin.l0]) (evneg (by omega) (evc rfl))
  | succ q ih=>
   intro i hi
   refine evstep (fun k=>by rw [spec_l05Begin.l0]) (evpos (by omega) ?_)
   have eln:(M.getD i []).length=n:=hr _ (by rw [List.getD_eq_getElem?_getD,List.getElem?_eq_getElem (by omega)];exact List.getElem_mem _)
   have loop2: ∀p j,j+p=n→Ev (fun k=>spec_l05Begin.l2 k cv (n:Int) (i:Int) (rowN T i (n+j)) (j:Int) M Q (rowsM i (2*n+2) T) 1 (idl i)) (rowsM n (2*n+2) T,1,idl n):=by
    intro p
    induction p with
    | zero=>
     intro j hj
     obtain rfl:j=n:=by omega
     refine evstep (fun k=>by rw [spec_l05Begin.l2]) ?_
     rw [rowN_len,rowsM_len,hid]
     refine evneg (by omega) (evpos (by omega) (evpos (by omega) (evpos (by omega) (evpos (by omega) (evsome rfl ?_)))))
     refine evpos (by omega) (evpos (by rw [List.length_append,rowN_len];show j+j+1 < _;omega) (evpos (by omega) (evpos (by omega) ?_)))
     have hc:=hcb i (by omega)
     have e1:T i (j+j)= - cv.getD i 0:=by rw [← hT];unfold tab0;rw [if_neg (by omega),if_neg (by omega),if_pos (by omega)]
     have e2:T i (j+j+1)=Q.getD i 0:=by rw [← hT];unfold tab0;rw [if_neg (by omega),if_neg (by omega),if_neg (by omega)]
     rw [rd_nat,rd_nat,w64 (x:= -(cv.getD i 0)) (by omega) (by omega), ← e1, ← rowN_next, ← e2, ← rowN_next,w64 (x:=(i:Int)+1) (by omega) (by omega), ← hidn,show j+j+1+1=2*j+2 from by omega, ← rowsM_next]
     exact ih (i+1) (by omega)
    | succ p ihp=>
     intro j hj
     have hb:=hMb i j (by omega) (by omega)
     have e1:T i (n+j)= - (M.getD i []).getD j 0:=by rw [← hT];unfold tab0;rw [if_neg (by omega),if_pos (by omega),show n+j - n=j from by omega];rfl
     have hb2:((M.getD i []).getD j 0).natAbs≤20:=hb
     refine evstep (fun k=>by rw [spec_l05Begin.l2]) ?_
     rw [rd1,eln,rowN_len]
     refine evpos (by omega) (evpos (by omega) (evpos (by omega) (evpos (by omega) (evpos (by omega) (evpos (by omega) ?_)))))
     rw [rd_nat,w64 (x:= -((M.getD i []).getD j 0)) (by omega) (by omega), ← e1, ← rowN_next,w64 (x:=(j:Int)+1) (by omega) (by omega)]
     exact ihp (j+1) (by omega)
   have loop1: ∀p j,j+p=n→Ev (fun k=>spec_l05Begin.l1 k cv (n:Int) (i:Int) (rowN T i j) (j:Int) M Q (rowsM i (2*n+2) T) 1 (idl i)) (rowsM n (2*n+2) T,1,idl n):=by
    intro p
    induction p with
    | zero=>
     intro j hj
     obtain rfl:j=n:=by omega
     refine evstep (fun k=>by rw [spec_l05Begin.l1]) (evneg (by omega) ?_)
     exact loop2 j 0 (by omega)
    | succ p ihp=>
     intro j hj
     have e1:T i j=if j=i then 1 else 0:=by rw [← hT];unfold tab0;rw [if_pos (by omega)]
     refine evstep (fun k=>by rw [spec_l05Begin.l1]) (evpos (by omega) ?_)
     rw [rowN_len,w64 (x:=(j:Int)+1) (by omega) (by omega)]
     by_cases c:j=i
     ·rw [if_pos c] at e1
      refine evpos (by omega) (evpos (by omega) ?_)
      rw [show rowN T i j++ [1]=rowN T i (j+1) from by rw [rowN_next,e1]]
      exact ihp (j+1) (by omega)
     ·rw [if_neg c] at e1
      refine evneg (by omega) (evpos (by omega) ?_)
      rw [show rowN T i j++ [0]=rowN T i (j+1) from by rw [rowN_next,e1]]
      exact ihp (j+1) (by omega)
   exact loop1 n 0 (by omega)
 unfold spec_l05Begin.f
 rw [hQ]
 exact loop n 0 (by omega)
end Go.Proofs.Ytmpkckiifeikkaa.Lsa
end
section
namespace Go.Proofs.Ytmpkckiifeikkaa.Lsa
open Go.RowKit Go.Proofs.YtmpkckiifeikkaaW.PrintWords Go.Proofs.YtmpkckiifeikkaaW.PrintMore Go.Proofs.Ytmpkckiifeikkaa.Ma Go.Proofs.Ytmpkckiifeikkaa.Pr Go.Proofs.Ytmpkckiifeikkaa.Dt Go.Proofs.Ytmpkckiifeikkaa.Lk Go.Proofs.Ytmpkckiifeikkaa.Lt Go.Proofs.Ytmpkckiifeikkaa.Lq Go.Proofs.Ytmpkckiifeikkaa.Lp
def goS (n m:Nat):Nat→TS→Nat→Nat→List (List Int)→TS × List (List Int) × Int × Bool
 | 0,s,v,r,st=>(s,st,(v:Int),false)
 | q+1,s,v,r,st=>
  if s.bs.getD r 0=2*(n:Int) then(s.step r v,st++ [[(v:Int),s.bs.getD r 0]], -1,true)
  else match rowB n m (s.step r v) (fun i=>(s.step r v).T i (partner n (s.bs.getD r 0).toNat)) with
   | none=>(s.step r v,st++ [[(v:Int),s.bs.getD r 0]],(partner n (s.bs.getD r 0).toNat:Nat),false)
   | some r'=>goS n m q (s.step r v) (partner n (s.bs.getD r 0).toNat) r' (st++ [[(v:Int),s.bs.getD r 0]])
def runS (n:Nat) (M:Mat) (cv q:Nat→Int) (most:Nat):TS × List (List Int) × Int × Bool:=
 if feas n q=true then(first n M cv q, [], -1,true)
 else match rowB n (2*n+2) (first n M cv q) cv with
  | none=>(first n M cv q, [], -1,false)
  | some r=>goS n (2*n+2) most (first n M cv q) (2*n) r []
def encS (n m:Nat) (R:TS × List (List Int) × Int × Bool):(List (List Int)) × Int × List Int × (List (List Int)) × Int × Bool:=(rowsM n m R.1.T,R.1.den,R.1.bs,R.2.1,R.2.2.1,R.2.2.2)
theorem partner_lt {n l:Nat} (h:l < 2*n):partner n l < 2*n:=by unfold partner;split <;> omega
theorem spartner {n l:Nat} (hn:n≤1000) (h:l < 2*n):spec_l05Partner.f (l:Int) (n:Int)=some ((partner n l:Nat):Int):=by
 unfold spec_l05Partner.f partner
 by_cases c:l < n
 ·rw [if_pos (by omega),if_pos c,w64 (by omega) (by omega)];rfl
 ·rw [if_neg (by omega),if_neg c,w64 (by omega) (by omega),show (l:Int) - (n:Int)=((l - n:Nat):Int) from by omega]
section
variable {n m:Nat} {A:Mat} (hn:n≤5) (hn0:0 < n) (hm:m=2*n+2) (hA:Small n m A) (most:Nat) (hmost:most≤100000)
include hn hn0 hm hA hmost
theorem j2_eq: ∀(q:Nat) (s:TS) (v r:Nat) (st:List (List Int)),Ok n m A s→st.length+(q+1)=most→r < n→v < m - 1→s.T r v≠0→
  Ev (fun k=>spec_l05Run.j2 k (most:Int) (n:Int) st (r:Int) (v:Int) (rowsM n m s.T) s.den s.bs) (encS n m (goS n m (q+1) s v r st)):=by
 intro q
 induction q with
 | zero=>
  intro s v r st hs hq hr hv hp
  obtain⟨l,hl⟩: ∃l:Nat,s.bs.getD r 0=(l:Int):=⟨(s.bs.getD r 0).toNat,by have:=hs.nn r hr;omega⟩
  have hlt:l < m - 1:=by have:=hs.lt r hr;rw [hl] at this;simp only [Int.toNat_natCast] at this;omega
  refine evstep (fun k=>by rw [spec_l05Run.j2]) ?_
  rw [rd_nat,hl]
  refine evpos (by omega) (evpos (by rw [hs.len];omega) (evpos (by omega) (evsome rfl (evsome (pivot_eq hr (by omega) hs.len (by omega) (by omega) (by have:=hs.tab.pos;omega)) ?_))))
  rw [w64 (x:=2*(n:Int)) (by omega) (by omega)]
  unfold goS
  rw [hl]
  by_cases c:(l:Int)=2*(n:Int)
  ·rw [if_pos c]
   exact evpos c (evc rfl)
  ·rw [if_neg c]
   have hp2:=partner_lt (n:=n) (l:=l) (by omega)
   refine evneg c (evsome (spartner (by omega) (by omega)) (evstep (fun k=>by rw [spec_l05Run.l1]) (evneg (by rw [List.length_append];simp only [List.length_singleton];omega) (evc ?_))))
   rw [Int.toNat_natCast]
   generalize rowB n m _ _=o
   cases o <;> rfl
 | succ q ih=>
  intro s v r st hs hq hr hv hp
  obtain⟨l,hl⟩: ∃l:Nat,s.bs.getD r 0=(l:Int):=⟨(s.bs.getD r 0).toNat,by have:=hs.nn r hr;omega⟩
  have hlt:l < m - 1:=by have:=hs.lt r hr;rw [hl] at this;simp only [Int.toNat_natCast] at this;omega
  have hs2:=hs.step hn hA hr (v:=v) (by omega) hp
  refine evstep (fun k=>by rw [spec_l05Run.j2]) ?_
  rw [rd_nat,hl]
  refine evpos (by omega) (evpos (by rw [hs.len];omega) (evpos (by omega) (evsome rfl (evsome (pivot_eq hr (by omega) hs.len (by omega) (by omega) (by have:=hs.tab.pos;omega)) ?_))))
  rw [w64 (x:=2*(n:Int)) (by omega) (by omega)]
  unfold goS
  rw [hl]
  by_cases c:(l:Int)=2*(n:Int)
  ·rw [if_pos c]
   exact evpos c (evc rfl)
  ·rw [if_neg c]
   have hp2:=partner_lt (n:=n) (l:=l) (by omega)
   refine evneg c (evsome (spartner (by omega) (by omega)) (evstep (fun k=>by rw [spec_l05Run.l1]) (evpos (by rw [List.length_append];simp only [List.length_singleton];omega) ?_)))
   rw [w64 (x:=2*(n:Int)) (by omega) (by omega),Int.toNat_natCast]
   obtain⟨v2,hv2⟩: ∃v2,partner n l=v2:=⟨_,rfl⟩
   rw [hv2] at hp2 ⊢
   refine evpos (by omega) (evbind (row_eq (T:=(s.step r v).T) (fun a c ha hc=>hs2.abs hn hA ha hc) (by omega) (by omega) (by omega) (s.step r v) rfl (by omega) (s.step r v).den (s.step r v).bs) ?_)
   obtain⟨o,ho⟩: ∃o,rowB n m (s.step r v) (fun i=>(s.step r v).T i v2)=o:=⟨_,rfl⟩
   rw [ho]
   cases o with
   | none=>exact evpos (by decide) (evc rfl)
   | some r2=>
    have h2:=rowB_some ho
    refine evneg (by show ¬ (r2:Int) < 0;omega) ?_
    exact ih (s.step r v) v2 r2 _ hs2 (by rw [List.length_append];simp only [List.length_singleton];omega) h2.1 (by omega) (by have:=h2.2;omega)
end
theorem lst_app2 (bf:Nat→Int) (less:Nat→Nat→Bool) (l l':List Nat) (o:Option Nat):lst bf less (l++l') o=lst bf less l' (lst bf less l o):=by
 induction l generalizing o with
 | nil=>rfl
 | cons x l ih=>simp only [List.cons_append,lst];exact ih _
theorem run_eq {M:List (List Int)} {Q cv:List Int} {n:Nat} (h:PC M Q cv n) (most:Nat) (hmost:most≤100000):
  Ev (fun k=>spec_l05Run.f k M Q cv (most:Int)) (encS n (2*n+2) (runS n (enL M) (fun i=>cv.getD i 0) (fun i=>Q.getD i 0) most)):=by
 have hA:=first_small (n:=n) (M:=enL M) (cv:=fun i=>cv.getD i 0) (q:=fun i=>Q.getD i 0) h.Mb (fun i hi=>by have:=h.cb i hi;omega) h.qb
 have hok:=first_ok (n:=n) (M:=enL M) (cv:=fun i=>cv.getD i 0) (q:=fun i=>Q.getD i 0)
 have hn:=h.le
 have hn0:=h.pos
 have hcl:=h.lcv
 obtain⟨s,hs⟩: ∃s,first n (enL M) (fun i=>cv.getD i 0) (fun i=>Q.getD i 0)=s:=⟨_,rfl⟩
 have hT:tab0 n (enL M) (fun i=>cv.getD i 0) (fun i=>Q.getD i 0)=s.T:=by rw [← hs];rfl
 have hT2: ∀a c,a < n→c < 2*n+2→Bnd (s.T a c):=fun a c ha hc=>by rw [← hs];exact hok.abs hn hA ha hc
 have hcb: ∀i,i < n→Bnd (cv.getD i 0):=fun i hi=>by have:=h.cb i hi;exact⟨by omega,by omega⟩
 unfold spec_l05Run.f
 refine evbind (begin_eq h.lM h.lQ h.rows h.lcv h.pos h.le h.Mb h.cb) ?_
 rw [hT,h.lQ]
 have e1:(1:Int)=s.den:=by rw [← hs];rfl
 have e2:idl n=s.bs:=by rw [← hs];rfl
 have ed:((rowsM n (2*n+2) s.T,(1:Int),idl n):List (List Int) × Int × List Int)=(rowsM n (2*n+2) s.T,s.den,s.bs):=by rw [← e1, ← e2]
 rw [ed]
 unfold runS
 rw [hs]
 have loop: ∀q i,i+q=n→ ∀(f:Bool) (r:Nat),f=(List.range i).any (fun j=>decide (Q.getD j 0 < 0))→r < n→(i=0→r=0)→(0 < i→lst (fun i=>cv.getD i 0) (fun i j=>kl s.T i j (cv.getD i 0) (cv.getD j 0) (cols n (2*n+2))) (List.range i) none=some r)→
   Ev (fun k=>spec_l05Run.l0 k cv (most:Int) (n:Int) [] f (r:Int) (i:Int) M Q (rowsM n (2*n+2) s.T) s.den s.bs) (encS n (2*n+2) (if feas n (fun i=>Q.getD i 0)=true then(s, [], -1,true) else match rowB n (2*n+2) s (fun i=>cv.getD i 0) with
    | none=>(s, [], -1,false)
    | some r=>goS n (2*n+2) most s (2*n) r [])):=by
  intro q
  induction q with
  | zero=>
   intro i hi f r hf hr h0 h1
   obtain rfl:i=n:=by omega
   refine evstep (fun k=>by rw [spec_l05Run.l0]) (evneg (by rw [h.lQ];omega) ?_)
   have hrow:rowB i (2*i+2) s (fun i=>cv.getD i 0)=some r:=h1 hn0
   have hfe:feas i (fun i=>Q.getD i 0)=!f:=by
    rw [hf];unfold feas
    rw [List.not_any_eq_all_not]
    refine List.all_congr rfl (fun j=>?_)
    by_cases c:Q.getD j 0 < 0
    ·rw [decide_eq_true c,decide_eq_false (by show ¬ 0≤Q.getD j 0;omega)];rfl
    ·rw [decide_eq_false c,decide_eq_true (by show 0≤Q.getD j 0;omega)];rfl
   rw [hfe,hrow]
   cases f with
   | false=>
    rw [if_pos (show (!false)=true from rfl)]
    exact evneg (by decide) (evc rfl)
   | true=>
    rw [if_neg (by decide)]
    show Ev _ (encS i (2*i+2) (goS i (2*i+2) most s (2*i) r []))
    refine evpos rfl ?_
    rw [w64 (x:=2*(i:Int)) (by omega) (by omega),show (2*(i:Int))=((2*i:Nat):Int) from by omega]
    cases most with
    | zero=>
     refine evstep (fun k=>by rw [spec_l05Run.l1]) ?_
     exact(evneg (by show ¬ ((0:Nat):Int) < ((0:Nat):Int);omega) (evc rfl))
    | succ mm=>
     refine evstep (fun k=>by rw [spec_l05Run.l1]) (evpos (by show ((0:Nat):Int) < ((mm+1:Nat):Int);omega) (evneg (by rw [w64 (by omega) (by omega)];omega) ?_))
     refine j2_eq hn hn0 rfl hA (mm+1) hmost mm s (2*i) r [] (by rw [← hs];exact hok) (by simp) hr (by omega) ?_
     rw [← hT];unfold tab0
     rw [if_neg (by omega),if_neg (by omega),if_pos rfl]
     have:=(h.cb r hr).1
     show - cv.getD r 0≠0
     omega
  | succ q ih=>
   intro i hi f r hf hr h0 h1
   have hl:=h.lQ
   have key:=key_eq (T:=s.T) hT2 (by omega) (by omega) (by omega) (show i < n by omega) hr (hcb i (by omega)) (hcb r hr) s.den s.bs
   obtain⟨z,hz⟩: ∃z,kl s.T i r (cv.getD i 0) (cv.getD r 0) (cols n (2*n+2))=z:=⟨_,rfl⟩
   rw [hz] at key
   have hnext:lst (fun i=>cv.getD i 0) (fun i j=>kl s.T i j (cv.getD i 0) (cv.getD j 0) (cols n (2*n+2))) (List.range (i+1)) none=some (if z=true then i else r):=by
    rw [List.range_succ,lst_app2]
    by_cases c:i=0
    ·subst c
     have:=h0 rfl
     subst this
     simp only [List.range_zero,lst,bet]
     rw [if_pos ⟨(h.cb 0 hn0).1,trivial⟩]
     simp
    ·rw [h1 (by omega)]
     by_cases d:z=true
     ·rw [if_pos d]
      exact(if_pos ⟨(h.cb i (by omega)).1,hz.trans d⟩:(if 0 < cv.getD i 0∧kl s.T i r (cv.getD i 0) (cv.getD r 0) (cols n (2*n+2))=true then some i else some r)=some i)
     ·rw [if_neg d]
      exact(if_neg (fun q=>d (hz.symm.trans q.2)):(if 0 < cv.getD i 0∧kl s.T i r (cv.getD i 0) (cv.getD r 0) (cols n (2*n+2))=true then some i else some r)=some r)
   refine evstep (fun k=>by rw [spec_l05Run.l0]) (evpos (by rw [hl];omega) ?_)
   have hw:wrap64 ((i:Int)+1)=((i+1:Nat):Int):=by rw [w64 (by omega) (by omega)];rfl
   have hfn: ∀g:Bool,g=(f || decide (Q.getD i 0 < 0))→g=(List.range (i+1)).any (fun j=>decide (Q.getD j 0 < 0)):=fun g hg=>by rw [hg,List.range_succ,List.any_append,hf];simp
   have step: ∀g:Bool,g=(f || decide (Q.getD i 0 < 0))→Ev (fun k=>(spec_l05Key.f k (rowsM n (2*n+2) s.T) s.den s.bs (i:Int) (r:Int) (rd cv (i:Int)) (rd cv (r:Int))).bind fun t=>if t=true then spec_l05Run.l0 k cv (most:Int) (n:Int) [] g (i:Int) (wrap64 ((i:Int)+1)) M Q (rowsM n (2*n+2) s.T) s.den s.bs else spec_l05Run.l0 k cv (most:Int) (n:Int) [] g (r:Int) (wrap64 ((i:Int)+1)) M Q (rowsM n (2*n+2) s.T) s.den s.bs) (encS n (2*n+2) (if feas n (fun i=>Q.getD i 0)=true then(s, [], -1,true) else match rowB n (2*n+2) s (fun i=>cv.getD i 0) with
    | none=>(s, [], -1,false)
    | some r=>goS n (2*n+2) most s (2*n) r [])):=by
    intro g hg
    rw [rd_nat,rd_nat,hw]
    refine evbind key ?_
    by_cases d:z=true
    ·rw [if_pos d] at hnext
     exact evpos d (ih (i+1) (by omega) g i (hfn g hg) (by omega) (fun e=>by omega) (fun _=>hnext))
    ·rw [if_neg d] at hnext
     exact evneg d (ih (i+1) (by omega) g r (hfn g hg) hr (fun e=>by omega) (fun _=>hnext))
   by_cases cf:f=true
   ·refine evpos cf (evpos (by omega) (evpos (by omega) (evpos (by omega) (evpos (by omega) ?_))))
    exact step true (by rw [cf];rfl)
   ·refine evneg cf (evpos (by omega) (evpos (by omega) (evpos (by omega) (evpos (by omega) ?_))))
    have e:decide (rd Q (i:Int) < 0)=(f || decide (Q.getD i 0 < 0)):=by rw [rd_nat];cases f with | false=>rfl | true=>exact absurd rfl cf
    exact step _ e
 exact loop n 0 (by omega) false 0 rfl hn0 (fun _=>rfl) (fun e=>by omega)
end Go.Proofs.Ytmpkckiifeikkaa.Lsa
end
section
namespace Go.Proofs.Ytmpkckiifeikkaa.Lsa
open Go.RowKit Go.Proofs.YtmpkckiifeikkaaW.PrintWords Go.Proofs.YtmpkckiifeikkaaW.PrintMore Go.Proofs.Ytmpkckiifeikkaa.Ma Go.Proofs.Ytmpkckiifeikkaa.Pr Go.Proofs.Ytmpkckiifeikkaa.Dt Go.Proofs.Ytmpkckiifeikkaa.Lk Go.Proofs.Ytmpkckiifeikkaa.Lt Go.Proofs.Ytmpkckiifeikkaa.Lq Go.Proofs.Ytmpkckiifeikkaa.Lp
theorem goS_len (n m:Nat): ∀(q:Nat) (s:TS) (v r:Nat) (st:List (List Int)),st.length≤(goS n m q s v r st).2.1.length∧(0 < q→st.length < (goS n m q s v r st).2.1.length):=by
 intro q
 induction q with
 | zero=>intro s v r st;exact⟨Nat.le_refl _,fun h=>absurd h (by omega)⟩
 | succ q ih=>
  intro s v r st
  suffices h:st.length < (goS n m (q+1) s v r st).2.1.length from ⟨by omega,fun _=>h⟩
  unfold goS
  split
  ·simp
  ·generalize rowB n m _ _=o
   cases o with
   | none=>simp
   | some r'=>have:=(ih (s.step r v) (partner n (s.bs.getD r 0).toNat) r' (st++ [[(v:Int),s.bs.getD r 0]])).1;simp at this ⊢;omega
def Rel (most:Nat) (R:TS × List (List Int) × Bool × Int × Int) (S:TS × List (List Int) × Int × Bool):Prop:=
 (R.2.2.2.2=3∧200 < S.2.1.length)∨(R.2.2.2.2=0∧S.2.1.length≤200∧S.1=R.1∧S.2.1=R.2.1∧S.2.2.2=R.2.2.1∧(most=201→R.2.2.1=false→S.2.2.1=R.2.2.2.1))
theorem go_rel (n m most:Nat): ∀(q:Nat) (s:TS) (v r:Nat) (st:List (List Int)),st.length+q=most→st.length≤200→Rel most (goI n m q s v r st) (goS n m q s v r st):=by
 intro q
 induction q with
 | zero=>intro s v r st h1 h2;exact .inr ⟨rfl,h2,rfl,rfl,rfl,fun e=>by omega⟩
 | succ q ih=>
  intro s v r st h1 h2
  by_cases c:st.length=200
  ·have:=(goS_len n m (q+1) s v r st).2 (by omega)
   refine .inl ⟨?_,by omega⟩
   unfold goI
   rw [if_pos c]
  ·unfold goI goS
   rw [if_neg c]
   split
   ·exact .inr ⟨rfl,by simp;omega,rfl,rfl,rfl,fun _ e=>by cases e⟩
   ·generalize rowB n m _ _=o
    cases o with
    | none=>exact .inr ⟨rfl,by simp;omega,rfl,rfl,rfl,fun _ _=>rfl⟩
    | some r'=>exact ih _ _ _ _ (by simp;omega) (by simp;omega)
section
variable {M:List (List Int)} {Q cv:List Int} {n:Nat} (h:PC M Q cv n)
include h
theorem row0: ∃r,rowB n (2*n+2) (first n (enL M) (fun i=>cv.getD i 0) (fun i=>Q.getD i 0)) (fun i=>cv.getD i 0)=some r:=by
 cases e:rowB n (2*n+2) (first n (enL M) (fun i=>cv.getD i 0) (fun i=>Q.getD i 0)) (fun i=>cv.getD i 0) with
 | none=>
  have h1:=rowB_none e 0 h.pos
  have h2:=(h.cb 0 h.pos).1
  exact absurd h1 (by show ¬ cv.getD 0 0≤0;omega)
 | some r=>exact⟨r,rfl⟩
theorem run_rel {most:Nat}:Rel most (runI n (enL M) (fun i=>cv.getD i 0) (fun i=>Q.getD i 0) most) (runS n (enL M) (fun i=>cv.getD i 0) (fun i=>Q.getD i 0) most):=by
 obtain⟨r,hr⟩:=row0 h
 unfold runI runS
 split
 ·exact .inr ⟨rfl,by simp,rfl,rfl,rfl,fun _ e=>by cases e⟩
 ·rw [hr]
  exact go_rel n _ most most _ _ _ [] (by simp) (by simp)
end
theorem code_eq (M:List (List Int)) (Q cv:List Int) (hQ:Q.length≤1048576) (hcv:cv.length≤1048576):Ev (fun k=>spec_l05Code.f k M Q cv) (lkCode M Q cv):=by
 classical
 have loop: ∀q i,i+q=cv.length→Ev (fun k=>spec_l05Code.l0 k cv (i:Int)) (if(cv.drop i).any badV=true then 2 else 0):=by
  intro q
  induction q with
  | zero=>
   intro i hi
   refine evstep (fun k=>by rw [spec_l05Code.l0]) (evneg (by omega) (evc ?_))
   rw [List.drop_of_length_le (by omega)];rfl
  | succ q ih=>
   intro i hi
   refine evstep (fun k=>by rw [spec_l05Code.l0]) (evpos (by omega) (evpos (by omega) (evsome (Pb.sin_eq _ _ _) ?_)))
   rw [rd_nat,w64 (x:=(i:Int)+1) (by omega) (by omega),List.drop_eq_getElem_cons (show i < cv.length by omega),List.any_cons]
   have e:cv.getD i 0=cv[i]:=by rw [List.getD_eq_getElem?_getD,List.getElem?_eq_getElem (by omega)];rfl
   rw [e]
   unfold badV
   by_cases c:1≤cv[i]∧cv[i]≤20
   ·have d:(!(decide (1≤cv[i]) && decide (cv[i]≤20)))=false:=by simp [c]
    rw [d,Bool.false_or]
    exact evpos (decide_eq_true c) (ih (i+1) (by omega))
   ·have d:(!(decide (1≤cv[i]) && decide (cv[i]≤20)))=true:=by
     rw [Bool.not_eq_true',Bool.and_eq_false_iff]
     by_cases c1:1≤cv[i]
     ·right;exact decide_eq_false (fun c2=>c ⟨c1,c2⟩)
     ·left;exact decide_eq_false c1
    rw [d,Bool.true_or,if_pos rfl]
    exact evneg (by simpa using c) (evc rfl)
 unfold spec_l05Code.f lkCode
 refine evbind (Pb.spec_is M Q hQ (decide (Pb.POK M Q)) (by simp)) ?_
 rw [Pb.impl_is M Q (decide (Pb.POK M Q)) (by simp)]
 by_cases p:Pb.POK M Q
 ·rw [decide_eq_true p,if_pos rfl]
  refine evpos rfl ?_
  unfold cvB
  by_cases c:(cv.length:Int)=(Q.length:Int)
  ·refine evpos c ?_
   have:=loop cv.length 0 (by omega)
   rw [List.drop_zero] at this
   rw [decide_eq_true c,Bool.true_and]
   cases hb:cv.any badV with
   | true=>rw [hb] at this;exact this
   | false=>rw [hb] at this;exact this
  ·refine evneg c (evc ?_)
   rw [decide_eq_false c];rfl
 ·rw [decide_eq_false p,if_neg (by simp)]
  exact evneg (by decide) (evc rfl)
theorem spec_run {M:List (List Int)} {Q cv:List Int} (h:lkCode M Q cv=0) (most:Nat) (hm:most≤100000): ∃S:TS × List (List Int) × Int × Bool,Ev (fun k=>spec_l05Run.f k M Q cv (most:Int)) (encS Q.length (2*Q.length+2) S)∧Rel most (lkR M Q cv most) S:=⟨_,run_eq (lkCode_pc h) most hm,run_rel (lkCode_pc h)⟩
end Go.Proofs.Ytmpkckiifeikkaa.Lsa
end
section
namespace Go.Proofs.Ytmpkckiifeikkaa.Lcy
open Go.RowKit Go.Proofs.YtmpkckiifeikkaaW.PrintWords Go.Proofs.YtmpkckiifeikkaaW.PrintMore Go.Proofs.Ytmpkckiifeikkaa.Ma Go.Proofs.Ytmpkckiifeikkaa.Dt Go.Proofs.Ytmpkckiifeikkaa.Bz Go.Proofs.Ytmpkckiifeikkaa.Lk Go.Proofs.Ytmpkckiifeikkaa.Lt
section
variable {n m:Nat} {A:Mat} {bs:Nat→Nat} {T:Mat} {den:Int} (h:Tab n m A bs T den)
include h
theorem unit_ {i j:Nat} (hi:i < n) (hj:j < n) (hb:bs j < m):T i (bs j)=if i=j then den else 0:=by
 obtain⟨s,hs,hd,hT⟩:=h.num
 rw [hT i (bs j) hi hb]
 by_cases e:i=j
 ·subst e
  rw [if_pos rfl,hd]
  unfold cd
  congr 1
  refine det_congr (fun a b _ _=>?_)
  unfold cset bas
  split
  ·rename_i e;rw [e]
  ·rfl
 ·rw [if_neg e]
  unfold cd
  rw [det_col_alt (c:=i) (d:=j) hi hj e (fun a _=>by unfold cset bas;rw [if_pos rfl,if_neg (Ne.symm e)]),Int.mul_zero]
theorem lin_ (hA: ∀i j,i < n→j < n→A i j=if i=j then 1 else 0) (hnm:n≤m) {i x:Nat} (hi:i < n) (hx:x < m):T i x=sm n (fun c=>A c x*T i c):=by
 obtain⟨s,hs,hd,hT⟩:=h.num
 rw [hT i x hi hx]
 have e:cd n A bs i x=sm n (fun c=>A c x*cd n A bs i c):=by
  unfold cd
  rw [← det_csum hi]
  refine det_congr (fun a b ha hb=>?_)
  unfold cset
  split
  ·show A a x=sm n (fun k=>A k x*A a k)
   rw [sm_one (f:=fun k=>A k x*A a k) (k:=a) ha (fun c hc hne=>by rw [hA a c ha hc,if_neg (Ne.symm hne),Int.mul_zero]),hA a a ha ha,if_pos rfl,Int.mul_one]
  ·rfl
 rw [e, ← sm_mul]
 refine sm_congr (fun c hc=>?_)
 rw [hT i c hi (by omega)]
 grind
theorem inj_ {i j:Nat} (hi:i < n) (hj:j < n) (hb: ∀j,j < n→bs j < m) (e:bs i=bs j):i=j:=by
 have h1:=unit_ h hi hi (hb i hi)
 have h2:=unit_ h hi hj (hb j hj)
 rw [if_pos rfl] at h1
 rw [← e,h1] at h2
 by_cases c:i=j
 ·exact c
 ·rw [if_neg c] at h2
  have:=h.pos
  omega
theorem same_rows {bs':Nat→Nat} {T':Mat} {den':Int} (h':Tab n m A bs' T' den') (hA: ∀i j,i < n→j < n→A i j=if i=j then 1 else 0) (hnm:n≤m) (hb: ∀j,j < n→bs j < m) (hb': ∀j,j < n→bs' j < m)
  (hs: ∀j',j' < n→ ∃j,j < n∧bs' j'=bs j) {i i' c:Nat} (hi:i < n) (hi':i' < n) (hc:c < m) (e:bs i=bs' i'):T i c*den'=T' i' c*den:=by
 have cr: ∀k,k < n→sm n (fun j=>A k (bs' j)*T' j c)=den'*A k c:=fun k hk=>h'.cramer hk hc
 have e1:T i c*den'=sm n (fun j=>T' j c*T i (bs' j)):=by
  rw [lin_ h hA hnm hi hc, ← sm_mulr]
  rw [show sm n (fun k=>A k c*T i k*den')=sm n (fun k=>sm n (fun j=>T i k*(A k (bs' j)*T' j c))) from sm_congr (fun k hk=>by rw [sm_mul,cr k hk];grind)]
  rw [sm_swap]
  refine sm_congr (fun j hj=>?_)
  rw [lin_ h hA hnm hi (hb' j hj), ← sm_mul]
  exact sm_congr (fun k hk=>by grind)
 rw [e1,sm_one (k:=i') hi' (fun j hj hne=>?_)]
 ·rw [← e,unit_ h hi hi (hb i hi),if_pos rfl]
 ·obtain⟨j2,hj2,e2⟩:=hs j hj
  rw [e2,unit_ h hi hj2 (hb j2 hj2),if_neg (fun q=>?_),Int.mul_zero]
  exact hne (inj_ h' hj hi' hb' (by rw [e2, ← q,e]))
end
def lexpos (f:Nat→Int):List Nat→Prop
 | []=>False
 | c::l=>0 < f c∨(f c=0∧lexpos f l)
theorem lexpos.congr {f g:Nat→Int}: ∀ {l:List Nat},(∀c ∈ l,f c=g c)→lexpos f l→lexpos g l
 | [],_,h=>h
 | c::l,e,h=>by
  have e1:=e c List.mem_cons_self
  rcases h with h | ⟨h1,h2⟩
  ·exact .inl (by omega)
  ·exact .inr ⟨by omega,lexpos.congr (fun d hd=>e d (List.mem_cons_of_mem _ hd)) h2⟩
theorem lexpos.add {f g:Nat→Int}: ∀ {l:List Nat},lexpos f l→lexpos g l→lexpos (fun c=>f c+g c) l
 | [],h,_=>h
 | c::l,h,k=>by
  rcases h with h | ⟨h1,h2⟩
  ·rcases k with k | ⟨k1,k2⟩
   ·exact .inl (by show 0 < f c+g c;omega)
   ·exact .inl (by show 0 < f c+g c;omega)
  ·rcases k with k | ⟨k1,k2⟩
   ·exact .inl (by show 0 < f c+g c;omega)
   ·exact .inr ⟨by show f c+g c=0;omega,h2.add k2⟩
theorem lexpos.mul {f:Nat→Int} {a:Int} (ha:0 < a): ∀ {l:List Nat},lexpos f l→lexpos (fun c=>a*f c) l
 | [],h=>h
 | c::l,h=>by
  rcases h with h | ⟨h1,h2⟩
  ·exact .inl (Int.mul_pos ha h)
  ·exact .inr ⟨by show a*f c=0;rw [h1,Int.mul_zero],lexpos.mul ha h2⟩
theorem lexpos.of_mul {f:Nat→Int} {a:Int} (ha:0 < a): ∀ {l:List Nat},lexpos (fun c=>a*f c) l→lexpos f l
 | [],h=>h
 | c::l,h=>by
  rcases h with h | ⟨h1,h2⟩
  ·exact .inl (Int.pos_of_mul_pos_right (by simpa [Int.mul_comm] using h) ha)
  ·refine .inr ⟨?_,lexpos.of_mul ha h2⟩
   rcases Int.mul_eq_zero.1 h1 with e | e
   ·omega
   ·exact e
theorem lexpos.not_neg {f:Nat→Int}: ∀ {l:List Nat},lexpos f l→ ¬ lexpos (fun c=> - f c) l
 | [],h,_=>h
 | c::l,h,k=>by
  rcases h with h | ⟨h1,h2⟩
  ·rcases k with k | ⟨k1,k2⟩ <;> simp at* <;> omega
  ·rcases k with k | ⟨k1,k2⟩
   ·simp at*;omega
   ·exact h2.not_neg k2
theorem lex_tri (f:Nat→Int): ∀l:List Nat,lexpos f l∨lexpos (fun c=> - f c) l∨ ∀c ∈ l,f c=0
 | []=> .inr (.inr (fun c hc=>by cases hc))
 | c::l=>by
  rcases Int.lt_trichotomy (f c) 0 with h | h | h
  ·exact .inr (.inl (.inl (by show 0 < - f c;omega)))
  ·rcases lex_tri f l with k | k | k
   ·exact .inl (.inr ⟨h,k⟩)
   ·exact .inr (.inl (.inr ⟨by show - f c=0;omega,k⟩))
   ·refine .inr (.inr (fun d hd=>?_))
    rcases List.mem_cons.1 hd with e | e
    ·rw [e];exact h
    ·exact k d e
  ·exact .inl (.inl h)
theorem kl_iff (T:Mat) (i k:Nat) (x y:Int): ∀l:List Nat,kl T i k x y l=true↔lexpos (fun c=>T k c*x - T i c*y) l
 | []=>by simp [kl,lexpos]
 | c::l=>by
  have ih:=kl_iff T i k x y l
  unfold kl lexpos
  by_cases h1:T i c*y < T k c*x
  ·rw [if_pos h1];simp;left;omega
  ·rw [if_neg h1]
   by_cases h2:T k c*x < T i c*y
   ·rw [if_pos h2];simp;constructor;omega;intro e;omega
   ·rw [if_neg h2,ih]
    constructor
    ·intro h;exact .inr ⟨by omega,h⟩
    ·intro h
     rcases h with h | h
     ·omega
     ·exact h.2
def Least (T:Mat) (n:Nat) (l:List Nat) (b:Nat→Int) (r:Nat):Prop:=r < n∧0 < b r∧ ∀i,i < n→i≠r→0 < b i→lexpos (fun c=>T i c*b r - T r c*b i) l
def Apart (T:Mat) (n:Nat) (l:List Nat):Prop:= ∀i j (x y:Int),i < n→j < n→i≠j→0 < x→0 < y→ ¬ ∀c ∈ l,T i c*y=T j c*x
theorem Apart.or {T:Mat} {n:Nat} {l:List Nat} (h:Apart T n l) {i j:Nat} {x y:Int} (hi:i < n) (hj:j < n) (hij:i≠j) (hx:0 < x) (hy:0 < y):lexpos (fun c=>T j c*x - T i c*y) l∨lexpos (fun c=>T i c*y - T j c*x) l:=by
 rcases lex_tri (fun c=>T j c*x - T i c*y) l with k | k | k
 ·exact .inl k
 ·exact .inr (k.congr (fun c _=>by omega))
 ·exact absurd (fun c hc=>by have:=k c hc;omega) (h i j x y hi hj hij hx hy)
theorem lst_least {T:Mat} {n:Nat} {cl:List Nat} {b:Nat→Int} (ha:Apart T n cl): ∀(l done:List Nat) (o:Option Nat) (r:Nat),(∀i ∈ l,i < n)→(∀i ∈ done,i < n)→
  (∀j,o=some j→j < n∧0 < b j∧ ∀i ∈ done,i≠j→0 < b i→lexpos (fun c=>T i c*b j - T j c*b i) cl)→(o=none→ ∀i ∈ done, ¬ 0 < b i)→lst b (fun i j=>kl T i j (b i) (b j) cl) l o=some r→
  r < n∧0 < b r∧ ∀i,i ∈ l∨i ∈ done→i≠r→0 < b i→lexpos (fun c=>T i c*b r - T r c*b i) cl
 | [],done,o,r,hl,hd,ho,hn,h=>by
  obtain⟨h1,h2,h3⟩:=ho r h
  refine⟨h1,h2,fun i hi=>?_⟩
  rcases hi with hi | hi
  ·cases hi
  ·exact h3 i hi
 | k::l,done,o,r,hl,hd,ho,hn,h=>by
  have hk:=hl k List.mem_cons_self
  have step: ∀o',lst b (fun i j=>kl T i j (b i) (b j) cl) l o'=some r→(∀j,o'=some j→j < n∧0 < b j∧ ∀i ∈ k::done,i≠j→0 < b i→lexpos (fun c=>T i c*b j - T j c*b i) cl)→(o'=none→ ∀i ∈ k::done, ¬ 0 < b i)→
    r < n∧0 < b r∧ ∀i,i ∈ k::l∨i ∈ done→i≠r→0 < b i→lexpos (fun c=>T i c*b r - T r c*b i) cl:=fun o' ho' h1 h2=>by
   obtain⟨g1,g2,g3⟩:=lst_least ha l (k::done) o' r (fun i hi=>hl i (List.mem_cons_of_mem _ hi)) (fun i hi=>by rcases List.mem_cons.1 hi with e | e;rw [e];exact hk;exact hd i e) h1 h2 ho'
   refine⟨g1,g2,fun i hi=>g3 i ?_⟩
   rcases hi with hi | hi
   ·rcases List.mem_cons.1 hi with e | e
    ·exact .inr (by rw [e];exact List.mem_cons_self)
    ·exact .inl e
   ·exact .inr (List.mem_cons_of_mem _ hi)
  unfold lst at h
  by_cases c:0 < b k∧bet (fun i j=>kl T i j (b i) (b j) cl) k o=true
  ·rw [if_pos c] at h
   refine step _ h (fun j hj=>?_) (fun e=>by cases e)
   injection hj with hj
   subst hj
   refine⟨hk,c.1,fun i hi hne hb=>?_⟩
   rcases List.mem_cons.1 hi with e | e
   ·exact absurd e hne
   ·cases o with
    | none=>exact absurd hb (hn rfl i e)
    | some j=>
     obtain⟨g1,g2,g3⟩:=ho j rfl
     have hkj:lexpos (fun c=>T j c*b k - T k c*b j) cl:=(kl_iff _ _ _ _ _ _).1 c.2
     by_cases eij:i=j
     ·rw [eij];exact hkj
     ·have hij:=g3 i e eij hb
      refine lexpos.of_mul g2 ?_
      refine((hij.mul c.1).add (hkj.mul hb)).congr (fun d _=>?_)
      grind
  ·rw [if_neg c] at h
   refine step _ h (fun j hj=>?_) (fun e i hi=>?_)
   ·obtain⟨g1,g2,g3⟩:=ho j hj
    refine⟨g1,g2,fun i hi hne hb=>?_⟩
    rcases List.mem_cons.1 hi with e | e
    ·subst e
     rcases ha.or (x:=b j) (y:=b i) g1 hk (Ne.symm hne) g2 hb with q | q
     ·exact q
     ·exfalso
      apply c
      refine⟨hb,?_⟩
      rw [hj]
      exact(kl_iff _ _ _ _ _ _).2 q
    ·exact g3 i e hne hb
   ·rcases List.mem_cons.1 hi with e2 | e2
    ·subst e2
     intro hb
     exact c ⟨hb,by rw [e];rfl⟩
    ·exact hn e i e2
theorem rowB_least {n m:Nat} {s:TS} {b:Nat→Int} {r:Nat} (ha:Apart s.T n (cols n m)) (h:rowB n m s b=some r):Least s.T n (cols n m) b r:=by
 obtain⟨h1,h2,h3⟩:=lst_least ha (List.range n) [] none r (fun i hi=>List.mem_range.1 hi) (fun i hi=>by cases hi) (fun j hj=>by cases hj) (fun _ i hi=>by cases hi) h
 exact⟨h1,h2,fun i hi hne hb=>h3 i (.inl (List.mem_range.2 hi)) hne hb⟩
theorem least_one {T:Mat} {n:Nat} {l:List Nat} {b:Nat→Int} {r r':Nat} (h:Least T n l b r) (h':Least T n l b r'):r=r':=by
 by_cases e:r=r'
 ·exact e
 ·have h1:=h.2.2 r' h'.1 (Ne.symm e) h'.2.1
  have h2:=h'.2.2 r h.1 e h.2.1
  exact absurd (h2.congr (fun c _=>by omega)) h1.not_neg
end Go.Proofs.Ytmpkckiifeikkaa.Lcy
end
section
namespace Go.Proofs.Ytmpkckiifeikkaa.Lcy
open Go.RowKit Go.Proofs.YtmpkckiifeikkaaW.PrintWords Go.Proofs.YtmpkckiifeikkaaW.PrintMore Go.Proofs.Ytmpkckiifeikkaa.Ma Go.Proofs.Ytmpkckiifeikkaa.Dt Go.Proofs.Ytmpkckiifeikkaa.Bz Go.Proofs.Ytmpkckiifeikkaa.Lk Go.Proofs.Ytmpkckiifeikkaa.Lt
def LexRows (n m:Nat) (s:TS):Prop:= ∀i,i < n→lexpos (fun c=>s.T i c) (cols n m)
theorem cols_lt {n m c:Nat} (hnm:n < m) (h:c ∈ cols n m):c < m:=by
 unfold cols at h
 rcases List.mem_cons.1 h with e | e
 ·omega
 ·have:=List.mem_range.1 e;omega
section
variable {n m:Nat} {A:Mat} (hn:n≤5) (hnm:n < m) (hA:Small n m A) (hI: ∀i j,i < n→j < n→A i j=if i=j then 1 else 0) {s:TS} (hs:Ok n m A s)
include hnm hI hs in
theorem apart_of:Apart s.T n (cols n m):=by
 intro i j x y hi hj hij hx hy h
 have hb:=hs.lt i hi
 have h1:=lin_ hs.tab hI (by omega) hi (show (s.bs.getD i 0).toNat < m by omega)
 have h2:=lin_ hs.tab hI (by omega) hj (show (s.bs.getD i 0).toNat < m by omega)
 have u1:=unit_ hs.tab hi hi (show (fun j=>(s.bs.getD j 0).toNat) i < m by show (s.bs.getD i 0).toNat < m;omega)
 have u2:=unit_ hs.tab hj hi (show (fun j=>(s.bs.getD j 0).toNat) i < m by show (s.bs.getD i 0).toNat < m;omega)
 rw [if_pos rfl] at u1
 rw [if_neg (Ne.symm hij)] at u2
 have e:s.T i (s.bs.getD i 0).toNat*y=s.T j (s.bs.getD i 0).toNat*x:=by
  rw [h1,h2, ← sm_mulr, ← sm_mulr]
  refine sm_congr (fun c hc=>?_)
  have:=h c (by unfold cols;exact List.mem_cons_of_mem _ (List.mem_range.2 hc))
  rw [Int.mul_assoc,this,Int.mul_assoc]
 rw [u1,u2,Int.zero_mul] at e
 have:=Int.mul_pos hs.tab.pos hy
 omega
include hn hA hs
theorem step_at {r v i c:Nat} (hr:r < n) (hv:v+1 < m) (hi:i < n) (hc:c < m):
  (i=r→(s.step r v).T i c=(if s.T r v < 0 then -1 else 1)*s.T r c)∧(i≠r→s.den*(s.step r v).T i c=(if s.T r v < 0 then -1 else 1)*(s.T i c*s.T r v - s.T i v*s.T r c)):=by
 have hb:=hs.stE_abs hn hA hr hv hi hc
 have ha:=hs.stA_eq hn hA hr hv hi hc
 obtain⟨g,_,_,_,key,h4⟩:=hs.tab.stE_eq hr (show v < m by omega) hi hc
 have e:(s.step r v).T i c=(if s.T r v < 0 then -1 else 1)*stE s.T s.den r v i c:=by
  show stT s.T s.den r v i c=_
  unfold stT
  rw [ha]
  split
  ·rw [w64 (by omega) (by omega)];omega
  ·omega
 refine⟨fun hir=>?_,fun hir=>?_⟩
 ·rw [e];unfold stE;rw [if_pos hir]
 ·rw [e,key hir,h4];grind
include hnm in
theorem step_lex {r v:Nat} (hv:v+1 < m) (hx:LexRows n m s) (hl:Least s.T n (cols n m) (fun i=>s.T i v) r):LexRows n m (s.step r v):=by
 obtain⟨hr,hp,hl⟩:=hl
 simp only at hp hl
 intro i hi
 by_cases e:i=r
 ·refine(hx r hr).congr (fun c hc=>?_)
  have:=(step_at hn hA hs hr hv hi (cols_lt hnm hc)).1 e
  rw [if_neg (by omega)] at this
  rw [this];omega
 ·refine lexpos.of_mul hs.tab.pos ?_
  have hst: ∀c ∈ cols n m,s.den*(s.step r v).T i c=s.T i c*s.T r v - s.T i v*s.T r c:=fun c hc=>by
   have:=(step_at hn hA hs hr hv hi (cols_lt hnm hc)).2 e
   rw [if_neg (by omega)] at this
   rw [this];omega
  rcases Int.lt_trichotomy (s.T i v) 0 with h | h | h
  ·refine(((hx i hi).mul hp).add ((hx r hr).mul (show 0 < - s.T i v by omega))).congr (fun c hc=>?_)
   rw [hst c hc];grind
  ·refine((hx i hi).mul hp).congr (fun c hc=>?_)
   rw [hst c hc,h];grind
  ·refine(hl i hi e h).congr (fun c hc=>?_)
   rw [hst c hc];grind
include hnm in
theorem step_back {r v:Nat} (hv:v+1 < m) (hx:LexRows n m s) (hr:r < n) (hp:0 < s.T r v):Least (s.step r v).T n (cols n m) (fun i=>(s.step r v).T i (s.bs.getD r 0).toNat) r:=by
 have hd:=hs.tab.pos
 have hlt:=hs.lt r hr
 obtain⟨l,hl⟩: ∃l,(s.bs.getD r 0).toNat=l:=⟨_,rfl⟩
 rw [hl] at hlt ⊢
 have u: ∀i,i < n→s.T i l=if i=r then s.den else 0:=fun i hi=>by
  have h:=unit_ hs.tab hi hr (show (fun j=>(s.bs.getD j 0).toNat) r < m by show (s.bs.getD r 0).toNat < m;omega)
  rw [hl] at h;exact h
 have e1:(s.step r v).T r l=s.den:=by
  have h:=(step_at hn hA hs hr hv hr (show l < m by omega)).1 rfl
  rw [if_neg (by omega),u r hr,if_pos rfl] at h
  omega
 have e2: ∀i,i < n→i≠r→(s.step r v).T i l= - s.T i v:=fun i hi hne=>by
  have h:=(step_at hn hA hs hr hv hi (show l < m by omega)).2 hne
  rw [if_neg (by omega),u i hi,u r hr,if_neg hne,if_pos rfl] at h
  have:s.den*(s.step r v).T i l=s.den* - s.T i v:=by rw [h];grind
  exact Int.eq_of_mul_eq_mul_left (by omega) this
 refine⟨hr,by show 0 < (s.step r v).T r l;omega,fun i hi hne hb=>?_⟩
 simp only at hb ⊢
 refine lexpos.congr (fun c hc=>?_) ((hx i hi).mul hp)
 have h1:=(step_at hn hA hs hr hv hr (cols_lt hnm hc)).1 rfl
 have h2:=(step_at hn hA hs hr hv hi (cols_lt hnm hc)).2 hne
 rw [if_neg (by omega)] at h1 h2
 rw [e1,e2 i hi hne,h1]
 have:(s.step r v).T i c*s.den=s.T i c*s.T r v - s.T i v*s.T r c:=by rw [Int.mul_comm,h2];omega
 rw [this];grind
end
section
variable {n:Nat} {M:Mat} {cv q:Nat→Int} (hn:n≤5) (hA:Small n (2*n+2) (tab0 n M cv q)) (hcv: ∀i,i < n→0 < cv i) {r:Nat} (hl:Least (tab0 n M cv q) n (cols n (2*n+2)) cv r) (hf:feas n q≠true)
theorem tab0_unit {i j:Nat} (hi:i < n) (hj:j < n):tab0 n M cv q i j=if i=j then 1 else 0:=by
 unfold tab0
 rw [if_pos hj]
 by_cases e:i=j
 ·rw [if_pos e,if_pos e.symm]
 ·rw [if_neg e,if_neg (Ne.symm e)]
theorem tab0_cv {i:Nat}:tab0 n M cv q i (2*n)= - cv i:=by
 unfold tab0
 by_cases h:2*n < n
 ·omega
 ·rw [if_neg h,if_neg (by omega),if_pos rfl]
include hn hA hcv hl
theorem first_at {i c:Nat} (hi:i < n) (hc:c < 2*n+2):((first n M cv q).step r (2*n)).T i c=if i=r then - tab0 n M cv q r c else tab0 n M cv q i c*cv r - cv i*tab0 n M cv q r c:=by
 have hok:=first_ok (n:=n) (M:=M) (cv:=cv) (q:=q)
 have hr:=hl.1
 have hc0:=hcv r hr
 have hs:=step_at hn hA hok hr (show 2*n+1 < 2*n+2 by omega) hi hc
 have e:(first n M cv q).T=tab0 n M cv q:=rfl
 rw [e,tab0_cv,tab0_cv,if_pos (show - cv r < 0 by omega)] at hs
 by_cases h:i=r
 ·rw [if_pos h,hs.1 h];omega
 ·rw [if_neg h]
  have:=hs.2 h
  rw [show (first n M cv q).den=1 from rfl,Int.one_mul] at this
  rw [this];grind
theorem first_neg {i:Nat} (hi:i < n):((first n M cv q).step r (2*n)).T i r < 0:=by
 have hr:=hl.1
 rw [first_at hn hA hcv hl hi (by omega)]
 have:=hcv i hi
 by_cases h:i=r
 ·rw [if_pos h,tab0_unit hr hr,if_pos rfl];omega
 ·rw [if_neg h,tab0_unit hi hr,tab0_unit hr hr,if_neg h,if_pos rfl];omega
include hf in
theorem first_lex:LexRows n (2*n+2) ((first n M cv q).step r (2*n)):=by
 have hr:=hl.1
 intro i hi
 by_cases h:i=r
 ·have hq:q r < 0:=by
   have hex: ∃j,j < n∧q j < 0:=by
    apply Classical.byContradiction
    intro hno
    apply hf
    unfold feas
    rw [List.all_eq_true]
    intro j hj
    have hj:=List.mem_range.1 hj
    have: ¬ q j < 0:=fun h=>hno ⟨j,hj,h⟩
    simp;omega
   obtain⟨j,hj,hqj⟩:=hex
   by_cases e:j=r
   ·rw [← e];exact hqj
   ·have hlj:=hl.2.2 j hj e (hcv j hj)
    have e1: ∀i,tab0 n M cv q i (2*n+2 - 1)=q i:=fun i=>by
     unfold tab0
     rw [if_neg (by omega),if_neg (by omega),if_neg (by omega)]
    have hge:0≤q j*cv r - q r*cv j:=by
     unfold cols lexpos at hlj
     simp only [e1] at hlj
     rcases hlj with h | h <;> omega
    have h1:q j*cv r < 0:=Int.mul_neg_of_neg_of_pos hqj (hcv r hr)
    have h2:q r*cv j < 0:=by omega
    apply Classical.byContradiction
    intro hneg
    have:=Int.mul_nonneg (show 0≤q r by omega) (Int.le_of_lt (hcv j hj))
    omega
  unfold cols lexpos
  left
  rw [first_at hn hA hcv hl hi (by omega),if_pos h]
  unfold tab0
  rw [if_neg (by omega),if_neg (by omega),if_neg (by omega)]
  omega
 ·refine(hl.2.2 i hi h (hcv i hi)).congr (fun c hc=>?_)
  rw [first_at hn hA hcv hl hi (cols_lt (by omega) hc),if_neg h]
  grind
end
end Go.Proofs.Ytmpkckiifeikkaa.Lcy
end
section
namespace Go.Proofs.Ytmpkckiifeikkaa.Lcy
open Go.RowKit Go.Proofs.YtmpkckiifeikkaaW.PrintWords Go.Proofs.YtmpkckiifeikkaaW.PrintMore Go.Proofs.Ytmpkckiifeikkaa.Ma Go.Proofs.Ytmpkckiifeikkaa.Dt Go.Proofs.Ytmpkckiifeikkaa.Bz Go.Proofs.Ytmpkckiifeikkaa.Lk Go.Proofs.Ytmpkckiifeikkaa.Lt
def inB (n:Nat) (bs:List Int) (x:Nat):Prop:= ∃i,i < n∧bs.getD i 0=(x:Int)
structure Comp (n:Nat) (bs:List Int) (v:Nat):Prop where
 lt:v < 2*n
 z0:inB n bs (2*n)
 out: ¬ inB n bs v
 out2: ¬ inB n bs (partner n v)
 one: ∀x,x < 2*n→x≠v→x≠partner n v→(inB n bs x↔ ¬ inB n bs (partner n x))
theorem par_lt {n x:Nat} (h:x < 2*n):partner n x < 2*n:=by unfold partner;split <;> omega
theorem par_par {n x:Nat} (h:x < 2*n):partner n (partner n x)=x:=by
 unfold partner
 by_cases c:x < n
 ·rw [if_pos c,if_neg (by omega)];omega
 ·rw [if_neg c,if_pos (by omega)];omega
theorem par_ne {n x:Nat} (hn:0 < n) (h:x < 2*n):partner n x≠x:=by unfold partner;split <;> omega
theorem getD_set {bs:List Int} {r i:Nat} {v:Int} (hr:r < bs.length):(bs.set r v).getD i 0=if i=r then v else bs.getD i 0:=by
 rw [List.getD_eq_getElem?_getD,List.getElem?_set]
 by_cases e:r=i
 ·subst e;rw [if_pos rfl,if_pos hr,if_pos rfl];rfl
 ·rw [if_neg e,if_neg (Ne.symm e),List.getD_eq_getElem?_getD]
theorem inB_set {n r v l:Nat} {bs:List Int} (hl:bs.length=n) (hr:r < n) (hb:bs.getD r 0=(l:Int)) (inj: ∀i j,i < n→j < n→bs.getD i 0=bs.getD j 0→i=j) (x:Nat):inB n (bs.set r (v:Int)) x↔x=v∨(inB n bs x∧x≠l):=by
 constructor
 ·rintro ⟨i,hi,e⟩
  rw [getD_set (by omega)] at e
  by_cases c:i=r
  ·rw [if_pos c] at e;left;omega
  ·rw [if_neg c] at e
   right
   refine⟨⟨i,hi,e⟩,fun q=>c (inj i r hi hr (by rw [e,hb,q]))⟩
 ·rintro (e | ⟨⟨i,hi,e⟩,hne⟩)
  ·exact⟨r,hr,by rw [getD_set (by omega),if_pos rfl,e]⟩
  ·refine⟨i,hi,?_⟩
   rw [getD_set (by omega),if_neg (fun q=>hne (by rw [q,hb] at e;omega))]
   exact e
theorem comp_step {n r v l:Nat} {bs:List Int} (hn:0 < n) (hl:bs.length=n) (hr:r < n) (hb:bs.getD r 0=(l:Int)) (inj: ∀i j,i < n→j < n→bs.getD i 0=bs.getD j 0→i=j) (hl2:l < 2*n) (h:Comp n bs v):Comp n (bs.set r (v:Int)) (partner n l):=by
 have hin:inB n bs l:=⟨r,hr,hb⟩
 have hlv:l≠v:=fun e=>h.out (e ▸ hin)
 have hlp:l≠partner n v:=fun e=>h.out2 (e ▸ hin)
 have hpl: ¬ inB n bs (partner n l):=(h.one l hl2 hlv hlp).1 hin
 have hpv:partner n l≠v:=fun e=>hlp (by rw [← e,par_par hl2])
 have S:=inB_set (v:=v) hl hr hb inj
 refine⟨par_lt hl2,(S _).2 (.inr ⟨h.z0,by omega⟩),fun q=>?_,fun q=>?_,fun x hx h1 h2=>?_⟩
 ·rcases (S _).1 q with e | e
  ·exact hpv e
  ·exact hpl e.1
 ·rw [par_par hl2] at q
  rcases (S _).1 q with e | e
  ·exact hlv e
  ·exact e.2 rfl
 ·rw [par_par hl2] at h2
  have hpx:partner n x≠l:=fun e=>h1 (by rw [← e,par_par hx])
  rw [S,S]
  by_cases c:x=v
  ·subst c
   constructor
   ·intro _ q
    rcases q with e | e
    ·exact par_ne hn hx e
    ·exact h.out2 e.1
   ·intro _;exact .inl rfl
  ·by_cases d:x=partner n v
   ·have e2:partner n x=v:=by rw [d,par_par h.lt]
    constructor
    ·intro q
     rcases q with e | e
     ·exact absurd e c
     ·exact absurd (d ▸ e.1) h.out2
    ·intro q;exact absurd (.inl e2) q
   ·have ho:=h.one x hx c d
    have hpxv:partner n x≠v:=fun e=>d (by rw [← e,par_par hx])
    constructor
    ·intro q
     rcases q with e | e
     ·exact absurd e c
     ·intro q2
      rcases q2 with e2 | e2
      ·exact hpxv e2
      ·exact ho.1 e.1 e2.1
    ·intro q
     refine .inr ⟨ho.2 (fun q2=>q (.inr ⟨q2,hpx⟩)),h2⟩
section
variable {n m:Nat} {A:Mat} (hn:n≤5) (hn0:0 < n) (hm:m=2*n+2) (hA:Small n m A) (hI: ∀i j,i < n→j < n→A i j=if i=j then 1 else 0)
structure J (n m:Nat) (A:Mat) (s:TS) (v r:Nat):Prop where
 ok:Ok n m A s
 lex:LexRows n m s
 comp:Comp n s.bs v
 least:Least s.T n (cols n m) (fun i=>s.T i v) r
def nx (n m:Nat) (s:TS) (v r:Nat):Option (TS × Nat × Nat):=
 if s.bs.getD r 0=2*(n:Int) then none
 else match rowB n m (s.step r v) (fun i=>(s.step r v).T i (partner n (s.bs.getD r 0).toNat)) with
  | none=>none
  | some r'=>some (s.step r v,partner n (s.bs.getD r 0).toNat,r')
theorem ok_inj {s:TS} (hs:Ok n m A s) (i j:Nat) (hi:i < n) (hj:j < n) (e:s.bs.getD i 0=s.bs.getD j 0):i=j:=
 inj_ hs.tab hi hj (fun k hk=>by have:=hs.lt k hk;omega) (by show (s.bs.getD i 0).toNat=(s.bs.getD j 0).toNat;rw [e])
structure Bk (n m:Nat) (s:TS) (v r:Nat) (s':TS) (v':Nat):Prop where
 least:Least s'.T n (cols n m) (fun i=>s'.T i (partner n v')) r
 ent:s'.bs.getD r 0=(v:Int)
 mem: ∀x,inB n s.bs x↔x=partner n v'∨(inB n s'.bs x∧x≠v)
include hn hn0 hm hA hI in
theorem nx_J {s:TS} {v r:Nat} (h:J n m A s v r) {s':TS} {v' r':Nat} (e:nx n m s v r=some (s',v',r')):J n m A s' v' r'∧Bk n m s v r s' v':=by
 have hr:=h.least.1
 have hp:0 < s.T r v:=h.least.2.1
 have hv:v+1 < m:=by have:=h.comp.lt;omega
 have hnn:=h.ok.nn r hr
 have hlt:=h.ok.lt r hr
 have hs2:=h.ok.step hn hA hr hv (show s.T r v≠0 by omega)
 have inj:=ok_inj h.ok
 obtain⟨l,hl⟩: ∃l:Nat,s.bs.getD r 0=(l:Int):=⟨(s.bs.getD r 0).toNat,by omega⟩
 unfold nx at e
 rw [hl,Int.toNat_natCast] at e
 rw [hl,Int.toNat_natCast] at hlt
 by_cases c:(l:Int)=2*(n:Int)
 ·rw [if_pos c] at e;cases e
 ·rw [if_neg c] at e
  have hl2:l < 2*n:=by omega
  cases hrow:rowB n m (s.step r v) (fun i=>(s.step r v).T i (partner n l)) with
  | none=>rw [hrow] at e;cases e
  | some r2=>
   rw [hrow] at e
   injection e with e
   injection e with e1 e
   injection e with e2 e3
   subst e1 e2 e3
   have hb:s.bs.length=n:=h.ok.len
   refine⟨⟨hs2,step_lex hn (by omega) hA h.ok hv h.lex h.least,comp_step hn0 hb hr hl inj hl2 h.comp,rowB_least (apart_of (by omega) hI hs2) hrow⟩,?_,?_,fun x=>?_⟩
   ·rw [par_par hl2]
    have:=step_back hn (by omega) hA h.ok hv h.lex hr hp
    rw [hl,Int.toNat_natCast] at this
    exact this
   ·show (s.bs.set r (v:Int)).getD r 0=v
    rw [getD_set (by omega),if_pos rfl]
   ·rw [par_par hl2]
    show _↔x=l∨(inB n (s.bs.set r (v:Int)) x∧x≠v)
    rw [inB_set hb hr hl inj]
    constructor
    ·intro hx
     by_cases d:x=l
     ·exact .inl d
     ·exact .inr ⟨.inr ⟨hx,d⟩,fun q=>h.comp.out (q ▸ hx)⟩
    ·rintro (d | ⟨d | d,hne⟩)
     ·exact d ▸ ⟨r,hr,hl⟩
     ·exact absurd d hne
     ·exact d.1
def SE (n:Nat) (s s':TS):Prop:= ∀x,inB n s.bs x↔inB n s'.bs x
include hm hI in
theorem se_rows {s s':TS} (h:Ok n m A s) (h':Ok n m A s') (e:SE n s s') {i i' c:Nat} (hi:i < n) (hi':i' < n) (hc:c < m) (hb:s.bs.getD i 0=s'.bs.getD i' 0):s.T i c*s'.den=s'.T i' c*s.den:=by
 refine same_rows h.tab h'.tab hI (by omega) (fun j hj=>by have:=h.lt j hj;omega) (fun j hj=>by have:=h'.lt j hj;omega) (fun j' hj'=>?_) hi hi' hc (by show (s.bs.getD i 0).toNat=(s'.bs.getD i' 0).toNat;rw [hb])
 have hnn:=h'.nn j' hj'
 obtain⟨j,hj,e2⟩:=(e (s'.bs.getD j' 0).toNat).2 ⟨j',hj',by omega⟩
 exact⟨j,hj,by show (s'.bs.getD j' 0).toNat=(s.bs.getD j 0).toNat;rw [e2,Int.toNat_natCast]⟩
include hm hI in
theorem se_least {s s':TS} (h:Ok n m A s) (h':Ok n m A s') (e:SE n s s') {l r i:Nat} (hl:l < m) (hr:Least s.T n (cols n m) (fun i=>s.T i l) r) (hi:i < n) (hb:s.bs.getD r 0=s'.bs.getD i 0):Least s'.T n (cols n m) (fun i=>s'.T i l) i:=by
 have hd:=h.tab.pos
 have hd':=h'.tab.pos
 have hrn:=hr.1
 have hp:0 < s.T r l:=hr.2.1
 have h1:=se_rows hm hI h h' e hrn hi hl hb
 refine⟨hi,?_,fun i2 hi2 hne hb2=>?_⟩
 ·show 0 < s'.T i l
  have:0 < s'.T i l*s.den:=by rw [← h1];exact Int.mul_pos hp hd'
  exact Int.pos_of_mul_pos_left this hd
 ·have hnn:=h'.nn i2 hi2
  obtain⟨j,hj,ej⟩:=(e (s'.bs.getD i2 0).toNat).2 ⟨i2,hi2,by omega⟩
  have ej2:s.bs.getD j 0=s'.bs.getD i2 0:=by rw [ej];omega
  have hjr:j≠r:=fun q=>hne (ok_inj h' i2 i hi2 hi (by rw [← ej2,q,hb]))
  have h2:=se_rows hm hI h h' e hj hi2 hl ej2
  simp only at hb2 ⊢
  have hjp:0 < s.T j l:=by
   have:0 < s.T j l*s'.den:=by rw [h2];exact Int.mul_pos hb2 hd
   exact Int.pos_of_mul_pos_left this hd'
  have hx:=hr.2.2 j hj hjr hjp
  simp only at hx
  refine lexpos.of_mul (Int.mul_pos hd hd) (((hx.mul (Int.mul_pos hd' hd'))).congr (fun c hc=>?_))
  have h3:=se_rows hm hI h h' e hrn hi (cols_lt (by omega) hc) hb
  have h4:=se_rows hm hI h h' e hj hi2 (cols_lt (by omega) hc) ej2
  grind
include hm hI in
theorem back_one {a:TS} {va ra:Nat} {b:TS} {vb rb:Nat} {a' b':TS} {v':Nat} (ha:J n m A a va ra) (hb:J n m A b vb rb) (ha':Ok n m A a') (hb':Ok n m A b') (hv:v' < 2*n) (ka:Bk n m a va ra a' v') (kb:Bk n m b vb rb b' v') (e:SE n a' b'):SE n a b∧va=vb:=by
 obtain⟨i,hi,ei⟩:=(e va).1 ⟨ra,ka.least.1,ka.ent⟩
 have hL:=se_least hm hI ha' hb' e (show partner n v' < m by have:=par_lt hv;omega) ka.least hi (by rw [ka.ent,ei])
 have hir:=least_one hL kb.least
 have hv2:va=vb:=by
  have h1:=kb.ent
  rw [← hir,ei] at h1
  omega
 refine⟨fun x=>?_,hv2⟩
 rw [ka.mem,kb.mem,e x,hv2]
theorem pigeon: ∀(k N:Nat) (f:Nat→Nat),(∀i,i < N→f i < k)→(∀i j,i < j→j < N→f i≠f j)→N≤k
 | 0,N,f,h1,h2=>by
  cases N with
  | zero=>exact Nat.le_refl _
  | succ N=>exact absurd (h1 0 (by omega)) (by omega)
 | k+1,N,f,h1,h2=>by
  by_cases c: ∃i,i < N∧f i=k
  ·obtain⟨i0,hi0,e0⟩:=c
   have:=pigeon k (N - 1) (fun i=>if i < i0 then f i else f (i+1)) (fun i hi=>by
    show (if i < i0 then f i else f (i+1)) < k
    by_cases d:i < i0
    ·rw [if_pos d]
     have h3:=h1 i (by omega)
     have h4:=h2 i i0 d hi0
     omega
    ·rw [if_neg d]
     have h3:=h1 (i+1) (by omega)
     have h4:=h2 i0 (i+1) (by omega) (by omega)
     omega) (fun i j hij hj=>by
    show (if i < i0 then f i else f (i+1))≠(if j < i0 then f j else f (j+1))
    by_cases d:i < i0
    ·rw [if_pos d]
     by_cases d2:j < i0
     ·rw [if_pos d2];exact h2 i j hij (by omega)
     ·rw [if_neg d2];exact h2 i (j+1) (by omega) (by omega)
    ·rw [if_neg d,if_neg (by omega)]
     exact h2 (i+1) (j+1) (by omega) (by omega))
   omega
  ·have:=pigeon k N f (fun i hi=>by
    have h3:=h1 i hi
    have h4:f i≠k:=fun e=>c ⟨i,hi,e⟩
    omega) h2
   omega
def cf (i0:Nat) (f:Nat→Bool):Nat→Nat
 | 0=>0
 | j+1=>if j=i0 then cf i0 f j else 2*cf i0 f j+(if f j=true then 1 else 0)
theorem cf_eq {i0:Nat} {f g:Nat→Bool}: ∀ {j:Nat},cf i0 f j=cf i0 g j→ ∀k,k < j→k≠i0→f k=g k
 | 0,_,k,hk,_=>absurd hk (by omega)
 | j+1,h,k,hk,hne=>by
  unfold cf at h
  by_cases c:j=i0
  ·rw [if_pos c,if_pos c] at h
   exact cf_eq h k (by omega) hne
  ·rw [if_neg c,if_neg c] at h
   have hb: ∀b:Bool,(if b=true then 1 else 0)≤1:=fun b=>by cases b <;> decide
   have h1:=hb (f j)
   have h2:=hb (g j)
   have e:cf i0 f j=cf i0 g j∧(if f j=true then 1 else 0)=(if g j=true then 1 else 0):=by omega
   by_cases d:k=j
   ·rw [d]
    have:=e.2
    cases hf:f j <;> cases hg:g j <;> simp [hf,hg] at this ⊢
   ·exact cf_eq e.1 k (by omega) hne
theorem cf_lt (i0:Nat) (f:Nat→Bool): ∀j,cf i0 f j+1≤2 ^ j∧(i0 < j→cf i0 f j+1≤2 ^ (j - 1))
 | 0=>⟨by simp [cf],fun h=>absurd h (by omega)⟩
 | j+1=>by
  have ih:=cf_lt i0 f j
  have hb:(if f j=true then 1 else 0)≤1:=by cases f j <;> decide
  unfold cf
  rw [Nat.pow_succ,Nat.add_sub_cancel]
  by_cases c:j=i0
  ·rw [if_pos c]
   have:=ih.1
   exact⟨by omega,fun _=>by omega⟩
  ·rw [if_neg c]
   refine⟨by have:=ih.1;omega,fun h=>?_⟩
   have h2:=ih.2 (by omega)
   obtain⟨j',rfl⟩: ∃j',j=j'+1:=⟨j - 1,by omega⟩
   rw [Nat.add_sub_cancel] at h2
   rw [Nat.pow_succ]
   omega
open Classical in
include hn hn0 hm in
theorem many (a:Nat→TS × Nat × Nat) (N:Nat) (hN:160 < N) (hJ: ∀t,t < N→J n m A (a t).1 (a t).2.1 (a t).2.2): ∃i j,i < j∧j < N∧SE n (a i).1 (a j).1∧(a i).2.1=(a j).2.1:=by
 apply Classical.byContradiction
 intro hno
 have hp:=pigeon 160 N (fun t=>(a t).2.1*16+cf ((a t).2.1 % n) (fun j=>decide (inB n (a t).1.bs j)) n) (fun t ht=>?_) (fun i j hij hj he=>?_)
 ·omega
 ·have hv:=(hJ t ht).comp.lt
  have hc:=(cf_lt ((a t).2.1 % n) (fun j=>decide (inB n (a t).1.bs j)) n).2 (Nat.mod_lt _ hn0)
  have h5:2 ^ (n - 1)≤16:=Nat.le_trans (Nat.pow_le_pow_right (by decide) (show n - 1≤4 by omega)) (by decide)
  show (a t).2.1*16+_ < 160
  omega
 ·have hc: ∀t,cf ((a t).2.1 % n) (fun j=>decide (inB n (a t).1.bs j)) n < 16:=fun t=>by
   have hc:=(cf_lt ((a t).2.1 % n) (fun j=>decide (inB n (a t).1.bs j)) n).2 (Nat.mod_lt _ hn0)
   have h5:2 ^ (n - 1)≤16:=Nat.le_trans (Nat.pow_le_pow_right (by decide) (show n - 1≤4 by omega)) (by decide)
   omega
  have h1:=hc i
  have h2:=hc j
  have hv:(a i).2.1=(a j).2.1:=by
   have he':(a i).2.1*16+cf ((a i).2.1 % n) (fun k=>decide (inB n (a i).1.bs k)) n=(a j).2.1*16+cf ((a j).2.1 % n) (fun k=>decide (inB n (a j).1.bs k)) n:=he
   omega
  have hcc:cf ((a i).2.1 % n) (fun k=>decide (inB n (a i).1.bs k)) n=cf ((a i).2.1 % n) (fun k=>decide (inB n (a j).1.bs k)) n:=by
   have he':(a i).2.1*16+cf ((a i).2.1 % n) (fun k=>decide (inB n (a i).1.bs k)) n=(a j).2.1*16+cf ((a j).2.1 % n) (fun k=>decide (inB n (a j).1.bs k)) n:=he
   rw [← hv] at he'
   omega
  have Ji:=hJ i (by omega)
  have Jj:=hJ j hj
  have hci:=Ji.comp
  have hcj:=Jj.comp
  rw [← hv] at hcj
  obtain⟨v,hvv⟩: ∃v,(a i).2.1=v:=⟨_,rfl⟩
  rw [hvv] at hci hcj hcc
  have hlow: ∀k,k < n→k≠v→k≠partner n v→(inB n (a i).1.bs k↔inB n (a j).1.bs k):=fun k hk h3 h4=>by
   have hk2:k≠v % n:=fun e=>by
    have hvl:=hci.lt
    by_cases c:v < n
    ·rw [Nat.mod_eq_of_lt c] at e;exact h3 e
    ·have:v % n=v - n:=by rw [Nat.mod_eq_sub_mod (by omega),Nat.mod_eq_of_lt (by omega)]
     rw [this] at e
     exact h4 (by unfold partner;rw [if_neg c];exact e)
   have:=cf_eq hcc k hk hk2
   simpa using this
  refine hno ⟨i,j,hij,hj,fun x=>?_,hv⟩
  by_cases cx:x < 2*n
  ·by_cases h3:x=v
   ·rw [h3];exact⟨fun q=>absurd q hci.out,fun q=>absurd q hcj.out⟩
   ·by_cases h4:x=partner n v
    ·rw [h4];exact⟨fun q=>absurd q hci.out2,fun q=>absurd q hcj.out2⟩
    ·by_cases c:x < n
     ·exact hlow x c h3 h4
     ·rw [hci.one x cx h3 h4,hcj.one x cx h3 h4]
      have h5:partner n x≠v:=fun e=>h4 (by rw [← e,par_par cx])
      have h6:partner n x≠partner n v:=fun e=>h3 (by rw [← par_par cx,e,par_par hci.lt])
      have h7:partner n x < n:=by unfold partner;rw [if_neg c];omega
      rw [hlow _ h7 h5 h6]
  ·by_cases c:x=2*n
   ·rw [c];exact⟨fun _=>hcj.z0,fun _=>hci.z0⟩
   ·constructor
    ·rintro ⟨k,hk,e⟩
     have:=Ji.ok.lt k hk
     rw [e] at this;simp only [Int.toNat_natCast] at this;omega
    ·rintro ⟨k,hk,e⟩
     have:=Jj.ok.lt k hk
     rw [e] at this;simp only [Int.toNat_natCast] at this;omega
end
section
variable {n m:Nat}
def tr (n m:Nat) (x:TS × Nat × Nat):Nat→Option (TS × Nat × Nat)
 | 0=>some x
 | t+1=>(tr n m x t).bind fun y=>nx n m y.1 y.2.1 y.2.2
theorem go_tr (x:TS × Nat × Nat): ∀(q:Nat) (s:TS) (v r:Nat) (st:List (List Int)) (t:Nat),tr n m x t=some (s,v,r)→st.length=t+1→st.length≤200→(goI n m q s v r st).2.2.2.2≠0→tr n m x 199≠none
 | 0,s,v,r,st,t,_,_,_,h=>absurd rfl h
 | q+1,s,v,r,st,t,ht,hl,hle,h=>by
  unfold goI at h
  by_cases c:st.length=200
  ·obtain rfl:t=199:=by omega
   rw [ht];simp
  ·rw [if_neg c] at h
   by_cases d:s.bs.getD r 0=2*(n:Int)
   ·rw [if_pos d] at h;exact absurd rfl h
   ·rw [if_neg d] at h
    cases hrow:rowB n m (s.step r v) (fun i=>(s.step r v).T i (partner n (s.bs.getD r 0).toNat)) with
    | none=>rw [hrow] at h;exact absurd rfl h
    | some r'=>
     rw [hrow] at h
     have ht2:tr n m x (t+1)=some (s.step r v,partner n (s.bs.getD r 0).toNat,r'):=by
      show (tr n m x t).bind _=_
      rw [ht]
      show nx n m s v r=_
      unfold nx
      rw [if_neg d,hrow]
     exact go_tr x q _ _ _ _ (t+1) ht2 (by simp;omega) (by simp;omega) h
theorem tr_le (x:TS × Nat × Nat): ∀k t,tr n m x (t+k)≠none→tr n m x t≠none
 | 0,t,h=>h
 | k+1,t,h=>tr_le x k t (fun e=>h (by show (tr n m x (t+k)).bind _=none;rw [e];rfl))
variable {A:Mat} (hn:n≤5) (hn0:0 < n) (hm:m=2*n+2) (hA:Small n m A) (hI: ∀i j,i < n→j < n→A i j=if i=j then 1 else 0)
include hn hn0 hm hA hI
theorem no_199 {s:TS} {v r:Nat} (h:J n m A s v r) (hneg: ∀i,i < n→s.T i (partner n v)≤0):tr n m (s,v,r) 199=none:=by
 apply Classical.byContradiction
 intro hne
 have hall: ∀t, ∃y,t < 200→tr n m (s,v,r) t=some y:=fun t=>by
  by_cases c:t < 200
  ·cases e:tr n m (s,v,r) t with
   | none=>exact absurd e (tr_le _ (199 - t) t (by rw [show t+(199 - t)=199 from by omega];exact hne))
   | some y=>exact⟨y,fun _=>rfl⟩
  ·exact⟨(s,v,r),fun q=>absurd q c⟩
 obtain⟨a,ha⟩:=Classical.axiomOfChoice hall
 have h0:a 0=(s,v,r):=by have:=ha 0 (by omega);injection this with this;exact this.symm
 have hnx: ∀t,t+1 < 200→nx n m (a t).1 (a t).2.1 (a t).2.2=some (a (t+1)):=fun t ht=>by
  have h1:=ha (t+1) ht
  have h2:(tr n m (s,v,r) t).bind (fun y=>nx n m y.1 y.2.1 y.2.2)=some (a (t+1)):=h1
  rw [ha t (by omega)] at h2
  exact h2
 have hJ: ∀t,t < 200→J n m A (a t).1 (a t).2.1 (a t).2.2:=by
  intro t
  induction t with
  | zero=>intro _;rw [h0];exact h
  | succ t ih=>intro ht;exact(nx_J hn hn0 hm hA hI (ih (by omega)) (hnx t ht)).1
 have hB: ∀t,t+1 < 200→Bk n m (a t).1 (a t).2.1 (a t).2.2 (a (t+1)).1 (a (t+1)).2.1:=fun t ht=>(nx_J hn hn0 hm hA hI (hJ t (by omega)) (hnx t ht)).2
 obtain⟨i,j,hij,hj,hse,hv⟩:=many hn hn0 hm a 200 (by omega) hJ
 have back: ∀k d,k+d < 200→SE n (a k).1 (a (k+d)).1→(a k).2.1=(a (k+d)).2.1→SE n (a 0).1 (a d).1∧(a 0).2.1=(a d).2.1:=by
  intro k
  induction k with
  | zero=>intro d _ h1 h2;rw [Nat.zero_add] at h1 h2;exact⟨h1,h2⟩
  | succ k ih=>
   intro d hd h1 h2
   have e:k+1+d=k+d+1:=by omega
   rw [e] at h1 h2
   have hb2:=hB (k+d) (by omega)
   rw [← h2] at hb2
   obtain⟨g1,g2⟩:=back_one hm hI (hJ k (by omega)) (hJ (k+d) (by omega)) (hJ (k+1) (by omega)).ok (hJ (k+d+1) (by omega)).ok (hJ (k+1) (by omega)).comp.lt (hB k (by omega)) hb2 h1
   exact ih d (by omega) g1 g2
 obtain⟨g1,g2⟩:=back i (j - i) (by omega) (by rw [show i+(j - i)=j from by omega];exact hse) (by rw [show i+(j - i)=j from by omega];exact hv)
 obtain⟨d,hd⟩: ∃d,j - i=d+1:=⟨j - i - 1,by omega⟩
 rw [hd] at g1 g2
 have hb:=hB d (by omega)
 rw [h0] at g1 g2
 simp only at g1 g2
 rw [← g2] at hb
 have hr2:=hb.least.1
 have hp:0 < (a (d+1)).1.T (a d).2.2 (partner n v):=hb.least.2.1
 have hok:=(hJ (d+1) (by omega)).ok
 have hnn:=hok.nn _ hr2
 obtain⟨k,hk,ek⟩:=(g1 ((a (d+1)).1.bs.getD (a d).2.2 0).toNat).2 ⟨_,hr2,by omega⟩
 have hrow:=se_rows hm hI h.ok hok g1 hk hr2 (show partner n v < m by have:=par_lt h.comp.lt;omega) (by rw [ek];omega)
 have h1:=Int.mul_pos hp h.ok.tab.pos
 have h2:=hneg k hk
 rw [← hrow] at h1
 have h3:=hok.tab.pos
 have h4:s.T k (partner n v)*(a (d+1)).1.den≤0:=Int.mul_nonpos_of_nonpos_of_nonneg h2 (Int.le_of_lt h3)
 omega
end
open Go.Proofs.Ytmpkckiifeikkaa.Pr Go.Proofs.Ytmpkckiifeikkaa.Lq in
theorem no_limit {M:List (List Int)} {Q cv:List Int} (h:PC M Q cv Q.length) (most:Nat):(lkR M Q cv most).2.2.2.2=0:=by
 have hn0:=h.pos
 have hA:=first_small (n:=Q.length) (M:=enL M) (cv:=fun i=>cv.getD i 0) (q:=fun i=>Q.getD i 0) h.Mb (fun i hi=>by have:=h.cb i hi;omega) h.qb
 have hok:=first_ok (n:=Q.length) (M:=enL M) (cv:=fun i=>cv.getD i 0) (q:=fun i=>Q.getD i 0)
 have hI: ∀i j,i < Q.length→j < Q.length→tab0 Q.length (enL M) (fun i=>cv.getD i 0) (fun i=>Q.getD i 0) i j=if i=j then 1 else 0:=fun i j hi hj=>tab0_unit hi hj
 have hcv: ∀i,i < Q.length→0 < (fun i=>cv.getD i 0) i:=fun i hi=>(h.cb i hi).1
 unfold lkR runI
 by_cases hf:feas Q.length (fun i=>Q.getD i 0)=true
 ·rw [if_pos hf]
 ·rw [if_neg hf]
  cases hrow:rowB Q.length (2*Q.length+2) (first Q.length (enL M) (fun i=>cv.getD i 0) (fun i=>Q.getD i 0)) (fun i=>cv.getD i 0) with
  | none=>rfl
  | some r=>
   have hl:=rowB_least (apart_of (by omega) hI hok) hrow
   have hl':Least (tab0 Q.length (enL M) (fun i=>cv.getD i 0) (fun i=>Q.getD i 0)) Q.length (cols Q.length (2*Q.length+2)) (fun i=>cv.getD i 0) r:=hl
   have hr:=hl.1
   cases most with
   | zero=>rfl
   | succ q=>
    show (goI Q.length (2*Q.length+2) (q+1) (first Q.length (enL M) (fun i=>cv.getD i 0) (fun i=>Q.getD i 0)) (2*Q.length) r []).2.2.2.2=0
    have hbr:(first Q.length (enL M) (fun i=>cv.getD i 0) (fun i=>Q.getD i 0)).bs.getD r 0=(r:Int):=by simp [first,idl,hr]
    obtain⟨s1,hs1⟩: ∃s1,(first Q.length (enL M) (fun i=>cv.getD i 0) (fun i=>Q.getD i 0)).step r (2*Q.length)=s1:=⟨_,rfl⟩
    unfold goI
    rw [if_neg (by simp),hbr,if_neg (by omega),Int.toNat_natCast,hs1]
    have hneg: ∀i,i < Q.length→s1.T i r < 0:=fun i hi=>by rw [← hs1];exact first_neg h.le hA hcv hl' hi
    have hlex:LexRows Q.length (2*Q.length+2) s1:=by rw [← hs1];exact first_lex h.le hA hcv hl' hf
    have hok1:Ok Q.length (2*Q.length+2) (tab0 Q.length (enL M) (fun i=>cv.getD i 0) (fun i=>Q.getD i 0)) s1:=by
     rw [← hs1]
     refine hok.step h.le hA hr (by omega) ?_
     show tab0 Q.length (enL M) (fun i=>cv.getD i 0) (fun i=>Q.getD i 0) r (2*Q.length)≠0
     rw [tab0_cv]
     have h3:0 < cv.getD r 0:=hcv r hr
     show - cv.getD r 0≠0
     omega
    cases hrow2:rowB Q.length (2*Q.length+2) s1 (fun i=>s1.T i (partner Q.length r)) with
    | none=>rfl
    | some r1=>
     show (goI Q.length (2*Q.length+2) q s1 (partner Q.length r) r1 ([]++ [[((2*Q.length:Nat):Int),(r:Int)]])).2.2.2.2=0
     have hidl: ∀x,inB Q.length (idl Q.length) x↔x < Q.length:=fun x=>by
      constructor
      ·rintro ⟨i,hi,e⟩
       simp [idl,hi] at e;omega
      ·intro hx;exact⟨x,hx,by simp [idl,hx]⟩
     have hbr2:(idl Q.length).getD r 0=(r:Int):=by simp [idl,hr]
     have hbs:s1.bs=(idl Q.length).set r ((2*Q.length:Nat):Int):=by rw [← hs1];rfl
     have hS: ∀x,inB Q.length s1.bs x↔x=2*Q.length∨(x < Q.length∧x≠r):=fun x=>by
      rw [hbs,inB_set (l:=r) (by simp [idl]) hr hbr2 (fun i j hi hj e=>by simp [idl,hi,hj] at e;omega),hidl]
     have hp:partner Q.length r=r+Q.length:=by unfold partner;rw [if_pos hr]
     have hpp:partner Q.length (partner Q.length r)=r:=par_par (by omega)
     have hcomp:Comp Q.length s1.bs (partner Q.length r):=by
      refine⟨by rw [hp];omega,(hS _).2 (.inl rfl),fun q=>?_,fun q=>?_,fun x hx h1 h2=>?_⟩
      ·rw [hS,hp] at q;omega
      ·rw [hpp,hS] at q;omega
      ·rw [hpp] at h2
       rw [hp] at h1
       rw [hS,hS]
       have hx2:partner Q.length x=if x < Q.length then x+Q.length else x - Q.length:=rfl
       by_cases c:x < Q.length
       ·rw [hx2,if_pos c];omega
       ·rw [hx2,if_neg c];omega
     have aa:J Q.length (2*Q.length+2) (tab0 Q.length (enL M) (fun i=>cv.getD i 0) (fun i=>Q.getD i 0)) s1 (partner Q.length r) r1:=⟨hok1,hlex,hcomp,rowB_least (apart_of (by omega) hI hok1) hrow2⟩
     apply Classical.byContradiction
     intro hne
     exact go_tr (s1,partner Q.length r,r1) q s1 (partner Q.length r) r1 _ 0 rfl (by simp) (by simp) hne (no_199 h.le hn0 rfl hA hI aa (fun i hi=>by rw [hpp];exact Int.le_of_lt (hneg i hi)))
end Go.Proofs.Ytmpkckiifeikkaa.Lcy
end
section
namespace Go.Proofs.Ytmpkckiifeikkaa.Lsa
open Go.RowKit Go.Proofs.YtmpkckiifeikkaaW.PrintWords Go.Proofs.YtmpkckiifeikkaaW.PrintMore Go.Proofs.Ytmpkckiifeikkaa.Ma Go.Proofs.Ytmpkckiifeikkaa.Pr Go.Proofs.Ytmpkckiifeikkaa.Dt Go.Proofs.Ytmpkckiifeikkaa.Lk Go.Proofs.Ytmpkckiifeikkaa.Lt Go.Proofs.Ytmpkckiifeikkaa.Lq Go.Proofs.Ytmpkckiifeikkaa.Lp
def afE (M:List (List Int)) (Q cv:List Int) (k:Int):(List (List Int)) × Int × List Int × Int:=
 if afC M Q cv k=0 then(rowsM Q.length (2*Q.length+2) (lkR M Q cv k.toNat).1.T,(lkR M Q cv k.toNat).1.den,(lkR M Q cv k.toNat).1.bs,0) else([],0, [],afC M Q cv k)
theorem after_eq (M:List (List Int)) (Q cv:List Int) (a:Int) (hQ:Q.length≤1048576) (hcv:cv.length≤1048576):Ev (fun k=>spec_l05After.f k M Q cv a) (afE M Q cv a):=by
 unfold spec_l05After.f
 refine evbind (code_eq M Q cv hQ hcv) ?_
 by_cases c:lkCode M Q cv=0
 ·refine evpos c ?_
  have hpc:=lkCode_pc c
  obtain⟨S,h1,h2⟩:=spec_run c 201 (by omega)
  have hl:=Lcy.no_limit hpc 201
  rcases h2 with ⟨e1,e2⟩ | ⟨e1,e2,e3,e4,e5,_⟩
  ·rw [hl] at e1;cases e1
  by_cases c0:a < 0
  ·refine evpos c0 (evc ?_)
   have:afC M Q cv a=2:=by unfold afC afC';rw [if_pos c,if_pos hl,if_neg (by omega)]
   unfold afE;rw [if_neg (by rw [this];decide),this]
  ·refine evneg c0 (evbind h1 (evpos (by show (S.2.1.length:Int)≤200;omega) ?_))
   refine evstep (fun f=>by rw [spec_l05After.j0]) ?_
   show Ev (fun f=>if decide (a > (S.2.1.length:Int))=true then _ else _) _
   by_cases c1:a > (S.2.1.length:Int)
   ·refine evpos (by simpa using c1) (evc ?_)
    have:afC M Q cv a=2:=by unfold afC afC';rw [if_pos c,if_pos hl,if_neg (by rw [← e4];omega)]
    unfold afE;rw [if_neg (by rw [this];decide),this]
   ·refine evneg (by simpa using c1) (evneg (by show ¬ (S.2.1.length:Int) > 200;omega) ?_)
    obtain⟨S2,g1,g2⟩:=spec_run c a.toNat (by omega)
    rw [Int.toNat_of_nonneg (by omega)] at g1
    have hl2:=Lcy.no_limit hpc a.toNat
    rcases g2 with ⟨f1,f2⟩ | ⟨f1,f2,f3,f4,f5,_⟩
    ·rw [hl2] at f1;cases f1
    refine evbind g1 (evc ?_)
    have:afC M Q cv a=0:=by unfold afC afC';rw [if_pos c,if_pos hl,if_pos (by rw [← e4];omega)]
    unfold afE;rw [if_pos this]
    show some (rowsM Q.length (2*Q.length+2) S2.1.T,S2.1.den,S2.1.bs,(0:Int))=_
    rw [f3]
 ·refine evneg c (evc ?_)
  have:afC M Q cv a=lkCode M Q cv:=by unfold afC afC';rw [if_neg c]
  unfold afE;rw [if_neg (by rw [this];exact c),this]
end Go.Proofs.Ytmpkckiifeikkaa.Lsa
end
section
namespace Go.Proofs.Ytmpkckiifeikkaa.Pr
open Go.RowKit Go.Proofs.YtmpkckiifeikkaaW.PrintWords Go.Proofs.YtmpkckiifeikkaaW.PrintMore Go.Proofs.Ytmpkckiifeikkaa.Ma Go.Proofs.Ytmpkckiifeikkaa.Dt Go.Proofs.Ytmpkckiifeikkaa.Lk Go.Proofs.Ytmpkckiifeikkaa.Lt Go.Proofs.Ytmpkckiifeikkaa.Lq
theorem goI_ok {n m:Nat} {A:Mat} (hn:n≤5) (hn0:0 < n) (hm:m=2*n+2) (hA:Small n m A): ∀(q:Nat) (s:TS) (v r:Nat) (st:List (List Int)),Ok n m A s→r < n→v+1 < m→s.T r v≠0→
  Ok n m A (goI n m q s v r st).1∧0≤(goI n m q s v r st).2.2.2.1∧(goI n m q s v r st).2.2.2.1 < 2*(n:Int)+1:=by
 intro q
 induction q with
 | zero=>intro s v r st hs hr hv hp;exact⟨hs,Int.le_refl _,by show (0:Int) < 2*(n:Int)+1;omega⟩
 | succ q ih=>
  intro s v r st hs hr hv hp
  have hs2:=hs.step hn hA hr hv hp
  unfold goI
  split
  ·exact⟨hs,Int.le_refl _,by show (0:Int) < 2*(n:Int)+1;omega⟩
  ·split
   ·exact⟨hs2,Int.le_refl _,by show (0:Int) < 2*(n:Int)+1;omega⟩
   ·rename_i hl
    have hlt:=hs.lt r hr
    have hnn:=hs.nn r hr
    have hp2:partner n (s.bs.getD r 0).toNat < 2*n:=by unfold partner;split <;> omega
    obtain⟨o,ho⟩: ∃o,rowB n m (s.step r v) (fun i=>(s.step r v).T i (partner n (s.bs.getD r 0).toNat))=o:=⟨_,rfl⟩
    rw [ho]
    cases o with
    | none=>exact⟨hs2,by show (0:Int)≤((partner n (s.bs.getD r 0).toNat:Nat):Int);omega,by show ((partner n (s.bs.getD r 0).toNat:Nat):Int) < _;omega⟩
    | some r'=>
     have h2:=rowB_some ho
     exact ih _ _ _ _ hs2 h2.1 (by omega) (by have:=h2.2;omega)
theorem lkR_ok {M:List (List Int)} {Q cv:List Int} (h:PC M Q cv Q.length) (most:Nat):
  Ok Q.length (2*Q.length+2) (tab0 Q.length (enL M) (fun i=>cv.getD i 0) (fun i=>Q.getD i 0)) (lkR M Q cv most).1∧0≤(lkR M Q cv most).2.2.2.1∧(lkR M Q cv most).2.2.2.1 < 2*(Q.length:Int)+1:=by
 have hA:=first_small (n:=Q.length) (M:=enL M) (cv:=fun i=>cv.getD i 0) (q:=fun i=>Q.getD i 0) h.Mb (fun i hi=>by have:=h.cb i hi;omega) h.qb
 have hok:=first_ok (n:=Q.length) (M:=enL M) (cv:=fun i=>cv.getD i 0) (q:=fun i=>Q.getD i 0)
 have hn0:=h.pos
 unfold lkR runI
 split
 ·exact⟨hok,Int.le_refl _,by show (0:Int) < 2*(Q.length:Int)+1;omega⟩
 ·obtain⟨o,ho⟩: ∃o,rowB Q.length (2*Q.length+2) (first Q.length (enL M) (fun i=>cv.getD i 0) (fun i=>Q.getD i 0)) (fun i=>cv.getD i 0)=o:=⟨_,rfl⟩
  rw [ho]
  cases o with
  | none=>exact⟨hok,Int.le_refl _,by show (0:Int) < 2*(Q.length:Int)+1;omega⟩
  | some r=>
   have h2:=rowB_some ho
   refine goI_ok h.le hn0 rfl hA most _ (2*Q.length) r [] hok h2.1 (by omega) ?_
   show tab0 Q.length (enL M) (fun i=>cv.getD i 0) (fun i=>Q.getD i 0) r (2*Q.length)≠0
   unfold tab0
   rw [if_neg (by omega),if_neg (by omega),if_pos rfl]
   have h3:0 < cv.getD r 0:=h2.2
   show - cv.getD r 0≠0
   omega
end Go.Proofs.Ytmpkckiifeikkaa.Pr
end
section
namespace Go.Proofs.Ytmpkckiifeikkaa.Fr
open Go.RowKit Go.Proofs.YtmpkckiifeikkaaW.PrintWords Go.Proofs.YtmpkckiifeikkaaW.PrintMore Go.Proofs.Ytmpkckiifeikkaa.Ma Go.Proofs.Ytmpkckiifeikkaa.Pr
def gc (a b:Int):Int:=(Int.gcd a b:Int)
def Big (x:Int):Prop:= -4611686018427387904≤x∧x≤4611686018427387904
theorem gc_zero (a:Int):gc a 0=if 0≤a then a else -a:=by
 unfold gc
 rw [Int.gcd_zero_right]
 split <;> omega
theorem gc_step (a b:Int):gc a b=gc b (Int.tmod a b):=by
 unfold gc Int.gcd
 rw [Int.natAbs_tmod,Nat.gcd_comm,Nat.gcd_rec,Nat.gcd_comm]
theorem tmod_lt {a b:Int} (h:b≠0):(Int.tmod a b).natAbs < b.natAbs:=by
 rw [Int.natAbs_tmod]
 exact Nat.mod_lt _ (by omega)
theorem abs_eq {a:Int} (h:Big a):mx a (wrap64 (-a))=if 0≤a then a else -a:=by
 unfold Big at h
 rw [w64 (by omega) (by omega)]
 unfold mx
 split <;> split <;> omega
theorem spec_loop: ∀(n:Nat) (a b:Int),b.natAbs≤n→Big a→Big b→Ev (fun k=>spec_l01Gcd.l0 k a b) (gc a b):=by
 intro n
 induction n with
 | zero=>
  intro a b hn ha hb
  obtain rfl:b=0:=by omega
  refine evstep (fun k=>by rw [spec_l01Gcd.l0]) (evpos rfl (evc ?_))
  rw [abs_eq ha,gc_zero]
 | succ n ih=>
  intro a b hn ha hb
  by_cases e:b=0
  ·subst e
   refine evstep (fun k=>by rw [spec_l01Gcd.l0]) (evpos rfl (evc ?_))
   rw [abs_eq ha,gc_zero]
  ·refine evstep (fun k=>by rw [spec_l01Gcd.l0]) (evneg e ?_)
   have h:=tmod_lt (a:=a) e
   rw [gc_step]
   exact ih b (Int.tmod a b) (by omega) hb (by unfold Big at*;omega)
theorem spec_gcd (a b:Int) (ha:Big a) (hb:Big b):Ev (fun k=>spec_l01Gcd.f k a b) (gc a b):=spec_loop b.natAbs a b (Nat.le_refl _) ha hb
end Go.Proofs.Ytmpkckiifeikkaa.Fr
end
section
namespace Go.Proofs.Ytmpkckiifeikkaa.Fr
open Go.RowKit Go.Proofs.YtmpkckiifeikkaaW.PrintWords Go.Proofs.YtmpkckiifeikkaaW.PrintMore Go.Proofs.Ytmpkckiifeikkaa.Ma Go.Proofs.Ytmpkckiifeikkaa.Pr
theorem impl_loop: ∀(n:Nat) (a b:Int),b.natAbs≤n→0≤a→0≤b→Ev (fun k=>impl_common.l0 k a b) (gc a b):=by
 intro n
 induction n with
 | zero=>
  intro a b hn ha hb
  obtain rfl:b=0:=by omega
  refine evstep (fun k=>by rw [impl_common.l0]) (evpos rfl (evc ?_))
  rw [gc_zero,if_pos ha]
 | succ n ih=>
  intro a b hn ha hb
  by_cases e:b=0
  ·subst e
   refine evstep (fun k=>by rw [impl_common.l0]) (evpos rfl (evc ?_))
   rw [gc_zero,if_pos ha]
  ·refine evstep (fun k=>by rw [impl_common.l0]) (evneg e ?_)
   have h:=tmod_lt (a:=a) e
   rw [gc_step]
   exact ih b (Int.tmod a b) (by omega) hb (Int.tmod_nonneg _ ha)
theorem gc_abs (a b:Int):gc (if 0≤a then a else -a) (if 0≤b then b else -b)=gc a b:=by
 unfold gc
 split <;> split <;> simp
theorem impl_gcd (a b:Int) (ha:Big a) (hb:Big b):Ev (fun k=>impl_common.f k a b) (gc a b):=by
 unfold impl_common.f impl_size.f
 refine evsome rfl (evsome rfl ?_)
 rw [abs_eq ha,abs_eq hb, ← gc_abs]
 exact impl_loop _ _ _ (Nat.le_refl _) (by split <;> omega) (by split <;> omega)
def isF (m a b:Int):Bool:=(decide (1≤b) && decide (b≤m)) && ((decide (-m≤a) && decide (a≤m)) && (gc a b==1))
theorem sin_b (n a b:Int):spec_l01In.f n a b=some (decide (a≤n) && decide (n≤b)):=by
 unfold spec_l01In.f
 by_cases h:a≤n
 ·rw [if_pos (by omega)];simp [h]
 ·rw [if_neg (by omega)];simp [h]
theorem iin_b (n a b:Int):impl_within.f n a b=some (decide (a≤n) && decide (n≤b)):=by
 unfold impl_within.f
 by_cases h:a≤n
 ·rw [if_pos (by omega)];simp [h]
 ·rw [if_neg (by omega)];simp [h]
theorem spec_isF (m a b:Int) (h0:0≤m) (h1:m≤4611686018427387904):Ev (fun k=>spec_l01IsFrac.f k a b m) (isF m a b):=by
 unfold spec_l01IsFrac.f isF
 refine evsome (sin_b _ _ _) ?_
 cases c1:(decide (1≤b) && decide (b≤m)) with
 | false=>exact evneg (by simp) (evc (by simp))
 | true=>
  refine evpos rfl (evsome (sin_b _ _ _) ?_)
  rw [w64 (by omega) (by omega)]
  cases c2:(decide (-m≤a) && decide (a≤m)) with
  | false=>exact evneg (by simp) (evc (by simp))
  | true=>
   simp only [Bool.and_eq_true,decide_eq_true_eq] at c1 c2
   refine evpos rfl (evbind (spec_gcd a b (by unfold Big;omega) (by unfold Big;omega)) (evc ?_))
   simp
theorem impl_isF (a b:Int):Ev (fun k=>impl_IsFrac.f k a b) (isF 1000000000 a b):=by
 unfold impl_IsFrac.f isF
 refine evsome (iin_b _ _ _) ?_
 cases c1:(decide (1≤b) && decide (b≤1000000000)) with
 | false=>exact evneg (by simp) (evc (by simp))
 | true=>
  refine evpos rfl ?_
  unfold impl_upTo.f
  rw [w64 (by omega) (by omega),iin_b]
  refine evsome rfl ?_
  cases c2:(decide (-1000000000≤a) && decide (a≤1000000000)) with
  | false=>exact evneg (by simp) (evc (by simp))
  | true=>
   simp only [Bool.and_eq_true,decide_eq_true_eq] at c1 c2
   refine evpos rfl (evbind (impl_gcd a b (by unfold Big;omega) (by unfold Big;omega)) (evc ?_))
   simp
end Go.Proofs.Ytmpkckiifeikkaa.Fr
end
section
namespace Go.Proofs.Ytmpkckiifeikkaa.Fr
open Go.RowKit Go.Proofs.YtmpkckiifeikkaaW.PrintWords Go.Proofs.YtmpkckiifeikkaaW.PrintMore Go.Proofs.Ytmpkckiifeikkaa.Ma Go.Proofs.Ytmpkckiifeikkaa.Pr
def fV (a d:Int):Int × Int:=(wrap64 (Int.tdiv a (gc a d)),wrap64 (Int.tdiv d (gc a d)))
def toldV (x:Int × Int):Int × Int × Int:=if isF 1000000000 x.1 x.2=true then(x.1,x.2,0) else(0,0,3)
def redV (a d:Int):Int × Int × Int:=toldV (fV a d)
theorem gc_pos {a d:Int} (hd:0 < d):0 < gc a d:=by
 unfold gc
 have:Int.gcd a d≠0:=by rw [Ne,Int.gcd_eq_zero_iff];intro h;omega
 omega
theorem red_eq (a d:Int) (ha:Big a) (hb:Big d) (hd:0 < d):Ev (fun k=>impl_reduced.f k a d) (redV a d):=by
 have hg:=gc_pos (a:=a) hd
 unfold impl_reduced.f redV toldV fV
 refine evbind (impl_gcd a d ha hb) (evneg (by omega) (evneg (by omega) (evbind (impl_isF _ _) ?_)))
 by_cases c:isF 1000000000 (wrap64 (Int.tdiv a (gc a d))) (wrap64 (Int.tdiv d (gc a d)))=true
 ·exact evpos c (evc (congrArg some (if_pos c).symm))
 ·exact evneg c (evc (congrArg some (if_neg c).symm))
theorem sfrac_eq (a d:Int) (ha:Big a) (hb:Big d) (hd:0 < d):Ev (fun k=>spec_l01Frac.f k a d) (fV a d):=by
 have hg:=gc_pos (a:=a) hd
 unfold spec_l01Frac.f fV
 exact evneg (by omega) (evbind (spec_gcd a d ha hb) (evneg (by omega) (evc rfl)))
theorem told_eq (x y:Int):Ev (fun k=>spec_l01Told.f k x y) (toldV (x,y)):=by
 unfold spec_l01Told.f toldV
 refine evbind (spec_isF 1000000000 x y (by decide) (by decide)) ?_
 by_cases c:isF 1000000000 x y=true
 ·exact evpos c (evc (congrArg some (if_pos c).symm))
 ·exact evneg c (evc (congrArg some (if_neg c).symm))
end Go.Proofs.Ytmpkckiifeikkaa.Fr
end
section
namespace Go.Proofs.Ytmpkckiifeikkaa.Lsa
open Go.RowKit Go.Proofs.YtmpkckiifeikkaaW.PrintWords Go.Proofs.YtmpkckiifeikkaaW.PrintMore Go.Proofs.Ytmpkckiifeikkaa.Ma Go.Proofs.Ytmpkckiifeikkaa.Pr Go.Proofs.Ytmpkckiifeikkaa.Dt Go.Proofs.Ytmpkckiifeikkaa.Lk Go.Proofs.Ytmpkckiifeikkaa.Lt Go.Proofs.Ytmpkckiifeikkaa.Lq Go.Proofs.Ytmpkckiifeikkaa.Lp Go.Proofs.Ytmpkckiifeikkaa.Fr
def outL (f:Nat→Int × Int × Int):Nat→Nat→List S93→List S93 × Int
 | 0,_,acc=>(acc,0)
 | q+1,x,acc=>if(f x).2.2=0 then outL f q (x+1) (acc++ [⟨(f x).1,(f x).2.1⟩]) else([],(f x).2.2)
theorem outL_len (f:Nat→Int × Int × Int): ∀q x acc,(outL f q x acc).1.length≤q+acc.length
 | 0,x,acc=>by simp [outL]
 | q+1,x,acc=>by
  unfold outL
  split
  ·have:=outL_len f q (x+1) (acc++ [⟨(f x).1,(f x).2.1⟩])
   simp at this ⊢;omega
  ·simp
theorem all_red (l:List Int) (d:Int) (hl:l.length≤1000) (hd:0 < d) (hb:Big d) (hx: ∀i,i < l.length→Big (l.getD i 0)):Ev (fun k=>impl_allReduced.f k l d) (outL (fun x=>redV (l.getD x 0) d) l.length 0 []):=by
 have loop: ∀q x acc,x+q=l.length→acc.length≤x→Ev (fun k=>impl_allReduced.l0 k d acc l (l.length:Int) (x:Int)) (outL (fun x=>redV (l.getD x 0) d) q x acc):=by
  intro q
  induction q with
  | zero=>
   intro x acc h1 h2
   refine evstep (fun k=>by rw [impl_allReduced.l0]) ?_
   exact evneg (by omega) (evc rfl)
  | succ q ih=>
   intro x acc h1 h2
   refine evstep (fun k=>by rw [impl_allReduced.l0]) (evpos (by omega) (evpos (by omega) (evpos (by omega) ?_)))
   rw [rd_nat,w64 (x:=(x:Int)+1) (by omega) (by omega)]
   refine evbind (red_eq _ _ (hx x (by omega)) hb hd) ?_
   unfold outL
   by_cases c:(redV (l.getD x 0) d).2.2=0
   ·rw [if_pos c]
    exact evpos c (evpos (by omega) (ih (x+1) _ (by omega) (by simp;omega)))
   ·rw [if_neg c]
    exact evneg c (evc rfl)
 exact loop l.length 0 [] (by omega) (Nat.le_refl _)
end Go.Proofs.Ytmpkckiifeikkaa.Lsa
end
section
namespace Go.Proofs.Ytmpkckiifeikkaa.Lsa
open Go.RowKit Go.Proofs.YtmpkckiifeikkaaW.PrintWords Go.Proofs.YtmpkckiifeikkaaW.PrintMore Go.Proofs.Ytmpkckiifeikkaa.Ma Go.Proofs.Ytmpkckiifeikkaa.Pr Go.Proofs.Ytmpkckiifeikkaa.Dt Go.Proofs.Ytmpkckiifeikkaa.Lk Go.Proofs.Ytmpkckiifeikkaa.Lt Go.Proofs.Ytmpkckiifeikkaa.Lq Go.Proofs.Ytmpkckiifeikkaa.Lp Go.Proofs.Ytmpkckiifeikkaa.Fr
theorem spec_right {n m:Nat} {s:TS} (hm:m=2*n+2) (hn:n≤5) (hT: ∀a c,a < n→c < m→Bnd (s.T a c)) (hd:0 < s.den) (hd2:s.den≤1920000000):Ev (fun k=>spec_l05Right.f k (rowsM n m s.T) s.den s.bs) (outL (fun i=>redV (s.T i (2*n+1)) s.den) n 0 []):=by
 have hbd:Big s.den:=⟨by omega,by omega⟩
 have big: ∀i,i < n→Big (s.T i (2*n+1)):=fun i hi=>by
  have:=hT i (2*n+1) hi (by omega)
  unfold Bnd at this
  exact⟨by omega,by omega⟩
 have loop: ∀q x acc,x+q=n→acc.length≤x→Ev (fun k=>spec_l05Right.l0 k acc (x:Int) (rowsM n m s.T) s.den s.bs) (outL (fun i=>redV (s.T i (2*n+1)) s.den) q x acc):=by
  intro q
  induction q with
  | zero=>
   intro x acc h1 h2
   refine evstep (fun k=>by rw [spec_l05Right.l0]) ?_
   exact evneg (by rw [rowsM_len];omega) (evc rfl)
  | succ q ih=>
   intro x acc h1 h2
   refine evstep (fun k=>by rw [spec_l05Right.l0]) ?_
   refine evpos (by rw [rowsM_len];omega) (evpos (by omega) ?_)
   rw [at_rows (show x < n by omega),rowN_len,w64 (x:=((m:Nat):Int) - 1) (by omega) (by omega),show ((m:Nat):Int) - 1=((2*n+1:Nat):Int) from by omega,at_num (by omega),w64 (x:=(x:Int)+1) (by omega) (by omega)]
   refine evpos (by omega) (evpos (by omega) (evbind (sfrac_eq _ _ (big x (by omega)) hbd hd) (evbind (told_eq _ _) ?_)))
   unfold outL
   by_cases c:(redV (s.T x (2*n+1)) s.den).2.2=0
   ·rw [if_pos c]
    exact evpos c (evpos (by omega) (ih (x+1) _ (by omega) (by simp;omega)))
   ·rw [if_neg c]
    exact evneg c (evc rfl)
 exact loop n 0 [] (by omega) (Nat.le_refl _)
theorem rights_both (M:List (List Int)) (Q cv:List Int) (a:Int) (hQ:Q.length≤1048576) (hcv:cv.length≤1048576): ∃R:List S93 × Int,Ev (fun k=>spec_RightAfter.f k M Q cv a) R∧Ev (fun k=>impl_RightAfter.f k M Q cv a) R∧R.1.length≤5:=by
 unfold spec_RightAfter.f impl_RightAfter.f raF
 by_cases c:afC M Q cv a=0
 ·have hpc:=lkCode_pc (afC_lk c).1
  have hok:=(lkR_ok hpc a.toNat).1
  have hA:=first_small (n:=Q.length) (M:=enL M) (cv:=fun i=>cv.getD i 0) (q:=fun i=>Q.getD i 0) hpc.Mb (fun i hi=>by have:=hpc.cb i hi;omega) hpc.qb
  have hT: ∀i j,i < Q.length→j < 2*Q.length+2→Bnd ((lkR M Q cv a.toNat).1.T i j):=fun i j hi hj=>hok.abs hpc.le hA hi hj
  have hden:=hok.den_le hpc.le hA
  have h5:=hpc.le
  have e:afE M Q cv a=(rowsM Q.length (2*Q.length+2) (lkR M Q cv a.toNat).1.T,(lkR M Q cv a.toNat).1.den,(lkR M Q cv a.toNat).1.bs,0):=if_pos c
  generalize (lkR M Q cv a.toNat).1=s at hT hden e
  refine⟨outL (fun x=>redV ((rgL s Q.length Q.length).getD x 0) s.den) (rgL s Q.length Q.length).length 0 [],evbind (after_eq M Q cv a hQ hcv) ?_,evpos c ?_,?_⟩
  rotate_left 1
  ·have h:=all_red (rgL s Q.length Q.length) s.den (by rw [rgL_len];omega) hden.1 ⟨by omega,by omega⟩ (fun i hi=>by
    rw [rgL_len] at hi
    rw [rgL_at _ _ _ _ hi]
    have:=hT i (2*Q.length+1) hi (by omega)
    unfold Bnd at this
    exact⟨by omega,by omega⟩)
   exact h
  ·have:=outL_len (fun x=>redV ((rgL s Q.length Q.length).getD x 0) s.den) (rgL s Q.length Q.length).length 0 []
   rw [rgL_len] at this
   simp at this ⊢
   rw [rgL_len]
   omega
  ·rw [e]
   refine evpos rfl (evbind (spec_right rfl h5 hT hden.1 hden.2) (evc ?_))
   rw [rgL_len]
   have key: ∀q x acc,x+q≤Q.length→outL (fun i=>redV (s.T i (2*Q.length+1)) s.den) q x acc=outL (fun x=>redV ((rgL s Q.length Q.length).getD x 0) s.den) q x acc:=by
    intro q
    induction q with
    | zero=>intro x acc _;rfl
    | succ q ih=>
     intro x acc hx
     unfold outL
     rw [rgL_at s Q.length Q.length x (by omega),ih (x+1) _ (by omega)]
   rw [key Q.length 0 [] (by omega)]
 ·refine⟨([],afC M Q cv a),evbind (after_eq M Q cv a hQ hcv) ?_,evneg c (evc rfl),by simp⟩
  have e:afE M Q cv a=([],0, [],afC M Q cv a):=if_neg c
  rw [e]
  exact evneg c (evc rfl)
end Go.Proofs.Ytmpkckiifeikkaa.Lsa
end
section
namespace Go.Proofs.Ytmpkckiifeikkaa.La
open Go.RowKit Go.Proofs.YtmpkckiifeikkaaW.PrintWords Go.Proofs.YtmpkckiifeikkaaW.PrintMore Go.Proofs.Ytmpkckiifeikkaa.Ma Go.Proofs.Ytmpkckiifeikkaa.Pr Go.Proofs.Ytmpkckiifeikkaa.Hm Go.Proofs.Ytmpkckiifeikkaa.Op
theorem szP2 {M:List (List Int)} {Q:List Int} (ga:GoodList (GoodList (GoodInt .i64)) M) (gb:GoodList (GoodInt .i64) Q):
  ∃t:Int,Ev (fun k=>laws_szProblem.f k M Q 1048576) t∧t≤1048576∧(0≤t→tot M≤1048576∧Q.length≤1048576):=by
 have h1:=szSS M ga (n:=1048576) (by decide) (by decide)
 by_cases c:(1048576:Int) < (tot M:Int)
 ·rw [if_pos c] at h1
  exact⟨-1,by unfold laws_szProblem.f;exact evbind h1 (evpos (by decide) (evc rfl)),by decide,fun h=>by omega⟩
 ·rw [if_neg c] at h1
  have h2:=sz_eq (l:=Q) (n:=1048576 - (tot M:Int)) (by omega) (by omega) gb.1
  by_cases c2:(1048576:Int) - (tot M:Int) < (Q.length:Int)
  ·rw [if_pos c2] at h2
   exact⟨-1,by unfold laws_szProblem.f;exact evbind h1 (evneg (by omega) (evsome h2 (evpos (by decide) (evc rfl)))),by decide,fun h=>by omega⟩
  ·rw [if_neg c2] at h2
   exact⟨_,by unfold laws_szProblem.f;exact evbind h1 (evneg (by omega) (evsome h2 (evneg (by omega) (evc rfl)))),by omega,fun _=>⟨by omega,by omega⟩⟩
theorem fit_lensP {l:List (List Int)} (h:tot l≤1048576):lens l≤1048576:=by unfold tot at h;omega
theorem toP {M:List (List Int)} {Q:List Int} (hM:Fit M) (hQ:Q.length≤1048576):Ev (fun k=>laws_toProblem.f k M Q) (M,Q):=by
 unfold laws_toProblem.f
 exact evbind (fit_to hM) (evbind (toI Q hQ) (evc rfl))
theorem eqPr {M:List (List Int)} {Q:List Int} (hM:Fit M) (hQ:Q.length≤1152921504606846976):Ev (fun k=>laws_eqProblem.f k M Q M Q) true:=by
 unfold laws_eqProblem.f
 exact evbind (fit_eq hM) (evpos rfl (evbind (eqI_same Q hQ) (evpos rfl (evc rfl))))
end Go.Proofs.Ytmpkckiifeikkaa.La
end
section
namespace Go.Proofs.Ytmpkckiifeikkaa.La
open Go.RowKit Go.Proofs.YtmpkckiifeikkaaW.PrintWords Go.Proofs.YtmpkckiifeikkaaW.PrintMore Go.Proofs.Ytmpkckiifeikkaa.Ma Go.Proofs.Ytmpkckiifeikkaa.Pr Go.Proofs.Ytmpkckiifeikkaa.Lw
theorem eqF (l:List S93) (hl:l.length≤1048576):Ev (fun k=>laws_eqFracS.f k l l) true:=by
 have key: ∀(m i:Nat),i+m=l.length→Ev (fun k=>laws_eqFracS.l0 k l l i) true:=by
  intro m
  induction m with
  | zero=>
   intro i hi
   exact evstep (fun k=>by rw [laws_eqFracS.l0]) (evneg (by omega) (evc rfl))
  | succ m ih=>
   intro i hi
   refine evstep (fun k=>by rw [laws_eqFracS.l0]) (evpos (by omega) (evpos (by omega) (evpos (by omega) ?_)))
   unfold laws_eqFrac.f
   refine evsome (a:=true) (by simp) (evpos rfl ?_)
   rw [w64 (by omega) (by omega)]
   exact ih (i+1) (by omega)
 unfold laws_eqFracS.f
 exact evpos rfl (key l.length 0 (by omega))
theorem heldF (n:Int) (m:Nat) (hl:m≤1099511627776) (h0:0≤n) (h1:n≤1099511627776):Ev (fun k=>laws_heldFracS.f k (cntF n m) n) (n+2*m):=by
 have key: ∀(j i:Nat),i+j=m→Ev (fun k=>laws_heldFracS.l0 k (cntF n m) (n+2*i) i) (n+2*m):=by
  intro j
  induction j with
  | zero=>
   intro i hi
   refine evstep (fun k=>by rw [laws_heldFracS.l0]) (evneg (by rw [cntF_length];omega) (evc ?_))
   rw [show i=m from by omega]
  | succ j ih=>
   intro i hi
   have e:rd_T93 (cntF n m) (i:Int)=⟨n+2*(i:Int),n+2*(i:Int)+1⟩:=by
    have hi':i < m:=by omega
    simp [rd_T93,cntF,hi']
   refine evstep (fun k=>by rw [laws_heldFracS.l0]) ?_
   rw [e,cntF_length,w64 (x:=n+2*(i:Int)+1) (by omega) (by omega),w64 (x:=n+2*(i:Int)+1+1) (by omega) (by omega),w64 (x:=(i:Int)+1) (by omega) (by omega)]
   refine evpos (by omega) (evpos (by omega) (evpos rfl (evpos rfl ?_)))
   have:=ih (i+1) (by omega)
   rw [show n+2*((i+1:Nat):Int)=n+2*i+1+1 from by omega] at this
   exact this
 have:=key m 0 (by omega)
 simpa [laws_heldFracS.f] using this
end Go.Proofs.Ytmpkckiifeikkaa.La
end
section
namespace Go.Proofs.Ytmpkckiifeikkaa.Pure
open Go.RowKit Go.Proofs.YtmpkckiifeikkaaW.PrintWords Go.Proofs.YtmpkckiifeikkaaW.PrintMore Go.Proofs.Ytmpkckiifeikkaa.Ma Go.Proofs.Ytmpkckiifeikkaa.Pr Go.Proofs.Ytmpkckiifeikkaa.La Go.Proofs.Ytmpkckiifeikkaa.Op
theorem FnExactRightAfter:Say.FnExactRightAfter:=by
 intro M q c a ga gb gc gd
 obtain⟨t,⟨k0,ht⟩,ht1,hf⟩:=szP2 ga gb
 by_cases cc:(c.length:Int) > 1048576
 ·refine⟨0,?_⟩
  unfold laws_FnExactRightAfter.f
  rw [if_pos]
  exact .inr (.inl cc)
 by_cases c0:t < 0
 ·refine⟨k0,?_⟩
  unfold laws_FnExactRightAfter.f
  rw [if_pos]
  exact .inr (.inr ⟨t,cc,ht _ (Nat.le_refl _),c0⟩)
 ·obtain⟨ta,tb⟩:=hf (by omega)
  have fa:=fit_of ta
  have fl:=fit_lensP ta
  have al:=fa.len
  obtain⟨R,⟨k1,e1⟩,⟨k2,e2⟩,hR⟩:=Lsa.rights_both M q c a tb (by omega)
  obtain⟨k3,e3⟩:=toP fa tb
  obtain⟨k4,e4⟩:=toI c (by omega)
  obtain⟨k5,e5⟩:=eqF R.1 (by omega)
  obtain⟨k6,e6⟩:=eqPr (Q:=q) fa (by omega)
  obtain⟨k7,e7⟩:=eqI_same c (by omega)
  obtain⟨k8,e8⟩:=heldF 1 R.1.length (by omega) (by decide) (by decide)
  refine⟨k0+k1+k2+k3+k4+k5+k6+k7+k8,?_⟩
  unfold laws_FnExactRightAfter.f
  rw [if_pos]
  exact .inl ⟨t,R.1,R.2,_,_,_,cc,ht _ (by omega),c0,e3 _ (by omega),e4 _ (by omega),e1 _ (by omega),e2 _ (by omega),e5 _ (by omega),e6 _ (by omega),e7 _ (by omega),rfl,by omega,by omega,by omega,by omega,rfl,by omega,by omega,rfl,by omega,by omega,e8 _ (by omega)⟩
end Go.Proofs.Ytmpkckiifeikkaa.Pure
end
section
namespace Go.Proofs.Ytmpkckiifeikkaa.fnExactRightAfter
open Go.ChangeShapes Go.WideShapes Go.ChangeAt Go.RowKit Go.Proofs.Ytmpkckiifeikkaa.Op Go.Proofs.YtmpkckiifeikkaaW.PrintWords
theorem own:ownKnob Try.prog.godebug=none:=by kernel_rfl
theorem laidOut:laidOutB Try.prog=true:=by kernel_rfl
theorem lifted (os:Os) (started:os.Started) (H:Type) (enc:TypeId × Value→H):
  ReturnsInHanded {} Try.checked os 3 .any (Rows.fnExactRightAfterSpec.pre6 enc Try.prog Try.f3 Rows.fnExactRightAfterRow.domain false) (Rows.fnExactRightAfterSpec.post enc Try.prog Try.f3 false true false false):=by
 refine returnsInHanded_of_change_sized (C:=Try.checked) own started (by kernel_rfl) Try.func3
  (ChangeSpec.witness6 (enc:=enc) (C:=Try.checked) false ⟨#[], #[.agg #[.slice none 0 0, .slice none 0 0], .slice none 0 0, .int .i64 0], []⟩ 8 (by kernel_rfl) (by kernel_rfl) (by kernel_rfl) (by kernel_rfl)) ?_
 intro W base args ds gs before hval0 hW hcnd hsz0 _
 have hval: ∀(j:Nat) t v,Try.f3.params[j]?=some t→args[j]?=some v→Value.okWide Try.prog W .any base t v:=hval0
 have hW':=hW
 obtain⟨p,q,hA0,hV,rfl,hfz,hnd⟩:=hW
 have hA:DataW.TrodAll enc Try.prog W 0 (fun _=>true) true Try.f3.params.toList args.toList ds p:=hA0
 rw [Try.params3] at hA hval
 obtain⟨v0,vs0,d0,ds0,p0,q0,hargs,rfl,rfl,h0,r0⟩:=trodAll_cons hA
 obtain⟨v1,vs1,d1,ds1,p1,q1,rfl,rfl,rfl,h1,r1⟩:=trodAll_cons r0
 obtain⟨v2,vs2,d2,ds2,p2,q2,rfl,rfl,rfl,h2,r2⟩:=trodAll_cons r1
 obtain⟨rfl,rfl,rfl⟩:=trodAll_nil r2
 obtain rfl:args= #[v0,v1,v2]:=by cases args;simp_all
 obtain⟨rfl,rfl⟩:=trodVars_none hV
 have k0:=h0
 have lt0:=trod_blocks k0
 obtain⟨⟨aa,ae⟩,cs0,rfl,hk0,g0⟩:=arg_struct Try.underlying25 (opens_struct2 Try.underlying25 ⟨by kernel_rfl,by kernel_rfl⟩ ⟨by kernel_rfl,by kernel_rfl⟩ (by kernel_rfl) (opens_slice Try.underlying22 (by kernel_rfl) (opens_slice Try.underlying23 (by kernel_rfl) (opens_int Try.underlying2))) (opens_slice Try.underlying23 (by kernel_rfl) (opens_int Try.underlying2)) id (Kd.pair (Kd.slice 23 (Kd.slice 2 (Kd.int .i64))) (Kd.slice 2 (Kd.int .i64))) (fun _ _ _ h=>h) (fun x=>(GoodList (GoodList (GoodInt .i64))) x.1∧(GoodList (GoodInt .i64)) x.2) (fun _ h0 h1=>⟨h0,h1⟩)) (hval 0 25 v0 rfl rfl) h0
 obtain⟨af,ag,ah,ai,rfl,q0_0,r0_0,q0_1,r0_1⟩:=cells_slice_slice hk0
 have k1:=h1
 have lt1:=trod_blocks k1
 obtain⟨A1,c1,l1,rfl,q1_0,r1_0,g1⟩:=arg_slice (d:=(Kd.int .i64)) Try.underlying23 (by kernel_rfl) (opens_int Try.underlying2) (hval 1 23 v1 rfl rfl) h1
 have k2:=h2
 have lt2:=trod_blocks k2
 obtain⟨a2,rfl,rfl,rfl,g2⟩:=open_int Try.underlying2 (hval 2 2 v2 rfl rfl) h2
 obtain⟨k,h⟩:=Pure.FnExactRightAfter aa ae l1 a2 g0.1 g0.2 g1 g2
 clear hA0 hval0 hsz0
 refine(Pr.laws_FnExactRightAfter.calls k af ag aa ah ai ae A1 c1 l1 a2 true W r0_0 q0_0 r0_1 q0_1 r1_0 q1_0 h).mono ?_
 rintro e W' ⟨rfl,bel0⟩
 have bel:Below W.heap.size W W':=by first | exact bel0 | exact bel0.below
 exact⟨_,rfl,_,_,_, [],_, [],hW',trodAll_mk1 (shut_bool Try.underlying4 _),(trodAll_cons_mk (Below.trod laidOut (by kernel_rfl) (of_decide_eq_true (by kernel_rfl)) k0 bel lt0) (trodAll_cons_mk (Below.trod laidOut (by kernel_rfl) (of_decide_eq_true (by kernel_rfl)) k1 bel lt1) (trodAll_cons_mk (Below.trod laidOut (by kernel_rfl) (of_decide_eq_true (by kernel_rfl)) k2 bel lt2) trodAll_mk0))),rfl,bel.frame _,fun h=>by cases h⟩
theorem over:Rows.fnExactRightAfterRow.holds Try.pinned (OpenSpec.ofChange Rows.fnExactRightAfterSpec):=
 OpenClaim.holds_of_wide 3 Try.f3 rfl rfl rfl rfl rfl rfl rfl ⟨rfl,rfl,rfl,rfl,rfl⟩ rfl rfl rfl rfl rfl (by kernel_rfl) Try.func3 (by kernel_rfl)
  (of_decide_eq_true (by kernel_rfl)) (by unfold Func.isWrapper;first | (rw [if_pos (by decide+kernel)];kernel_rfl) | (rw [if_neg (by decide+kernel)];exact⟨rfl,rfl⟩))
  (fun os started H enc _=>lifted os started H enc)
theorem proved:Rows.FnExactRightAfterSaid:=over
#print axioms proved
end Go.Proofs.Ytmpkckiifeikkaa.fnExactRightAfter
namespace Go.Proofs.Ytmpkckiifeikkaa
theorem fnExactRightAfter_holds:Rows.FnExactRightAfterSaid:=fnExactRightAfter.proved
end Go.Proofs.Ytmpkckiifeikkaa
end
