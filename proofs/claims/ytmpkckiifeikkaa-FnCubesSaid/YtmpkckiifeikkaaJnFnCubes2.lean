/- Texts of one claim (the words of the kit's print that the claim uses, printed functions, and this session's own texts), joined in the order of their imports by this session's own program (merge.py). -/
import Derived.Laws.BitsLemmas
import Derived.Laws.CopyOwn
import Derived.Test.YtmpkckiifeikkaaJnFnCubes0
import Derived.Test.YtmpkckiifeikkaaJnFnCubes1
set_option linter.unusedVariables false
set_option linter.unusedSimpArgs false
set_option maxHeartbeats 8000000
set_option maxRecDepth 100000
section
namespace Go.Proofs.Ytmpkckiifeikkaa.Pr
open Go.RowKit Go.Proofs.YtmpkckiifeikkaaW.PrintWords Go.Proofs.YtmpkckiifeikkaaW.PrintLast Go.Proofs.YtmpkckiifeikkaaW.PrintMore
attribute [local go_sem] max2_int min2_int max_two min_two max_three min_three max_four min_four
def impl_Cube_sinksIn.l0:Nat→Int→Int→Int→List Int→Int→Int→Option (Int)
 | 0,_,_,_,_,_,_=>none
 | k+1,x1,x2,x7,x11,x12,x13=>if x13 < x12 then(if 0≤x13 then(if x13 < (x11.length:Int) then(if(Go.bits .andNot .i64 (Go.bits .xor .i64 x13 x1) x2)=0 then(if(Go.bits .and .i64 (rd x11 x13) x2)=0 then(impl_Cube_sinksIn.l0 k x1 x2 (wrap64 (x7+1)) x11 x12 (wrap64 (x13+1))) else(impl_Cube_sinksIn.l0 k x1 x2 x7 x11 x12 (wrap64 (x13+1)))) else(impl_Cube_sinksIn.l0 k x1 x2 x7 x11 x12 (wrap64 (x13+1)))) else(none)) else(none)) else(some x7)
def impl_Cube_sinksIn.f (k:Nat) (a0_0:Int) (aa:List Int) (a1:Int) (a2:Int):Option (Int):=impl_Cube_sinksIn.l0 k a1 a2 0 aa (aa.length:Int) 0
theorem impl_Cube_sinksIn.mono_l: ∀k,(∀y0 y1 y2 y3 y4 y5,LeO (impl_Cube_sinksIn.l0 k y0 y1 y2 y3 y4 y5) (impl_Cube_sinksIn.l0 (k+1) y0 y1 y2 y3 y4 y5))
 | 0=>fun _ _ _ _ _ _ r h=>by simp [impl_Cube_sinksIn.l0] at h
 | k+1=>by
  have ih0:=impl_Cube_sinksIn.mono_l k
  ·intro y0 y1 y2 y3 y4 y5
   unfold impl_Cube_sinksIn.l0
   repeat' first
   | (with_reducible exact ih0 _ _ _ _ _ _)
   | (with_reducible exact LeO.refl _)
   | (with_reducible exact LeO.none _)
   | (with_reducible refine LeO.ite ?_ ?_)
   | (with_reducible refine LeO.bind ?_ (fun _=>?_))
   | exact ih0 _ _ _ _ _ _
   | exact LeO.none _
   | refine LeO.ite ?_ ?_
   | refine LeO.bind ?_ (fun _=>?_)
theorem impl_Cube_sinksIn.mono: ∀a0 a1 a2 a3 k,LeO (impl_Cube_sinksIn.f k a0 a1 a2 a3) (impl_Cube_sinksIn.f (k+1) a0 a1 a2 a3):=by
 intro a0 a1 a2 a3 k
 have ih0:=impl_Cube_sinksIn.mono_l k
 unfold impl_Cube_sinksIn.f
 repeat' first
   | (with_reducible exact ih0 _ _ _ _ _ _)
   | (with_reducible exact LeO.refl _)
   | (with_reducible exact LeO.none _)
   | (with_reducible refine LeO.ite ?_ ?_)
   | (with_reducible refine LeO.bind ?_ (fun _=>?_))
   | exact ih0 _ _ _ _ _ _
   | exact LeO.none _
   | refine LeO.ite ?_ ?_
   | refine LeO.bind ?_ (fun _=>?_)
theorem impl_Cube_sinksIn.calls (k:Nat) (a0_0:Int) (ai:Option Addr) (aj:Nat) (ae:List Int) (a1:Int) (a2:Int) (r:Int) (w:World) (ak:Kd.C (Kd.int .i64) w ai ae.length ae) (aq:ae.length≤aj) (h:impl_Cube_sinksIn.f k a0_0 ae a1 a2=some r):
  Calls Try.prog 173 #[.agg #[.int .i64 a0_0, .slice ai ae.length aj], .int .i64 a1, .int .i64 a2] w fun e w'=>e= .returned (.int .i64 r)∧Below w.heap.size w w':=by
 have hu64:=Try.underlying64
 have HR0_1:=Aside0.mk ak
 have HC0_1:=Aside0.mk aq
 clear ak aq
 have HB:=Aside0.mk (Below.refl w.heap.size w)
 have H:(impl_Cube_sinksIn.l0 k a1 a2 0 ae (ae.length:Int) 0)=some r:=h
 clear h
 have H':=Aside0.mk H
 clear H
 go_enter Try.func173,Try.ntmps173
 go_wp2_with (first | ((with_reducible refine gate_dst (N:=3) rfl ?_);refine box_event ?hg (N:=3) ?hd (cs:= #[.int .i64 a0_0, .slice ai ae.length aj]) (t:=64) ?hr ?_;(case hd=>rfl);(case hg=>rfl);(case hr=>first | (go_simp;done) | (go_simp;rfl));intro af hg w4 hbox hb;have ag:=Aside0.mk (hbox);have az:=Aside0.mk ((by rw [hg];exact bz_:w.heap.size≤af));have aA:=Aside0.mk ((by rw [hg];exact bz_:w.heap.size≤af));replace HB:=Aside0.mk (bs_ hb);clear hb hbox hg;have av:w4.cell? ⟨af,0,none⟩=some (.int .i64 a0_0):=(blk_cell ag.out 0).trans rfl;have aw:w4.cell? ⟨af,1,none⟩=some (.slice ai ae.length aj):=(blk_cell ag.out 1).trans rfl;have ax:=blk_frozen ag.out 0;have ay:=blk_frozen ag.out 1))
 go_loopg [7,13] k (fun kq v7 v13 w'=> ∃(ah:Int) (aa:Int),v7= .int .i64 ah∧v13= .int .i64 aa∧Aside0 (impl_Cube_sinksIn.l0 kq a1 a2 ah ae (ae.length:Int) aa=some r)∧Aside0 (kq≤k)∧Aside0 (w'.heap[af]?=some (.cells #[.int .i64 a0_0,(.slice ai ae.length aj)] 64 (0,0)))∧Aside0 (Below w.heap.size w w'))
 case atStart=>exact⟨(0),(0),rs_,rs_,H',⟨Nat.le_refl _⟩,⟨bk_⟩,⟨hb_⟩⟩
 case round=>
  clear H'
  try clear c1
  try clear p2
  try clear av
  try clear aw
  try clear ax
  try clear ay
  obtain⟨ah,aa,rfl,rfl,HA,HK1,ag,HB⟩:=hrel
  cases gk with
  | zero=>exact absurd HA.out (by simp [impl_Cube_sinksIn.l0])
  | succ k1=>
   have H:=HA.out
   clear HA
   simp only [impl_Cube_sinksIn.l0] at H
   by_cases c6:aa < (ae.length:Int)
   ·rw [if_pos c6] at H
    have c6b0:decide (aa < (ae.length:Int))=true:=decide_eq_true c6
    clear c6
    by_cases c7:0≤aa
    ·rw [if_pos c7] at H
     have c7b0:decide (0≤aa)=true:=decide_eq_true c7
     clear c7
     by_cases c8:aa < (ae.length:Int)
     ·rw [if_pos c8] at H
      have c8b0:decide (aa < (ae.length:Int))=true:=decide_eq_true c8
      clear c8
      by_cases c9:(Go.bits .andNot .i64 (Go.bits .xor .i64 aa a1) a2)=0
      ·rw [if_pos c9] at H
       have c9b0:((Go.bits .andNot .i64 (Go.bits .xor .i64 aa a1) a2)==0)=true:=beq_iff_eq.mpr c9
       have c9b1:((Go.bits .andNot .i64 (Go.bits .xor .i64 aa a1) a2) !=0)=false:=bne_eq_false_iff_eq.mpr c9
       clear c9
       by_cases c10:(Go.bits .and .i64 (rd ae aa) a2)=0
       ·rw [if_pos c10] at H
        have c10b0:((Go.bits .and .i64 (rd ae aa) a2)==0)=true:=beq_iff_eq.mpr c10
        have c10b1:((Go.bits .and .i64 (rd ae aa) a2) !=0)=false:=bne_eq_false_iff_eq.mpr c10
        clear c10
        have H':=Aside0.mk H
        clear H
        have p922:0≤(aa:Int):=od_
        have q922:aa < (ae.length:Int):=od_
        obtain⟨au,e922,hx922_0⟩:=Kd.at_int HR0_1.out aa p922 q922
        cases e922
        replace hx922_0:=(HB.out.cell (World.block_lt_of_cell? w _ hx922_0)).trans hx922_0
        replace p922:=eq_true p922
        replace q922:=eq_true q922
        go_wp2
        go_roundg k1
        case measure=>have:=HK1.out;omega
        case rel=>exact⟨(wrap64 (ah+1)),(wrap64 (aa+1)),rs_,rs_,H',⟨by have:=HK1.out;omega⟩,⟨bk_⟩,⟨hb_⟩⟩
       ·rw [if_neg c10] at H
        have c10b0:((Go.bits .and .i64 (rd ae aa) a2)==0)=false:=beq_eq_false_iff_ne.mpr c10
        have c10b1:((Go.bits .and .i64 (rd ae aa) a2) !=0)=true:=bne_iff_ne.mpr c10
        have H':=Aside0.mk H
        clear H
        have p922:0≤(aa:Int):=od_
        have q922:aa < (ae.length:Int):=od_
        obtain⟨au,e922,hx922_0⟩:=Kd.at_int HR0_1.out aa p922 q922
        cases e922
        replace hx922_0:=(HB.out.cell (World.block_lt_of_cell? w _ hx922_0)).trans hx922_0
        replace p922:=eq_true p922
        replace q922:=eq_true q922
        go_wp2
        go_roundg k1
        case measure=>have:=HK1.out;omega
        case rel=>exact⟨(ah),(wrap64 (aa+1)),rs_,rs_,H',⟨by have:=HK1.out;omega⟩,⟨bk_⟩,⟨hb_⟩⟩
      ·rw [if_neg c9] at H
       have c9b0:((Go.bits .andNot .i64 (Go.bits .xor .i64 aa a1) a2)==0)=false:=beq_eq_false_iff_ne.mpr c9
       have c9b1:((Go.bits .andNot .i64 (Go.bits .xor .i64 aa a1) a2) !=0)=true:=bne_iff_ne.mpr c9
       have H':=Aside0.mk H
       clear H
       have p922:0≤(aa:Int):=od_
       have q922:aa < (ae.length:Int):=od_
       obtain⟨au,e922,hx922_0⟩:=Kd.at_int HR0_1.out aa p922 q922
       cases e922
       replace hx922_0:=(HB.out.cell (World.block_lt_of_cell? w _ hx922_0)).trans hx922_0
       replace p922:=eq_true p922
       replace q922:=eq_true q922
       go_wp2
       go_roundg k1
       case measure=>have:=HK1.out;omega
       case rel=>exact⟨(ah),(wrap64 (aa+1)),rs_,rs_,H',⟨by have:=HK1.out;omega⟩,⟨bk_⟩,⟨hb_⟩⟩
     ·rw [if_neg c8] at H
      exact absurd H (by simp)
    ·rw [if_neg c7] at H
     exact absurd H (by simp)
   ·rw [if_neg c6] at H
    have c6b0:decide (aa < (ae.length:Int))=false:=decide_eq_false c6
    clear c6
    obtain rfl:=Option.some.inj H
    go_wp2
    go_ret
    exact⟨by first | rfl | (simp [errW_none,errW_some] <;> rfl) | (simp [*,errW_none,errW_some] <;> rfl),hb_⟩
mutual
def impl_Cube_hasUniqueSinks.l0:Nat→Int→Int→Int→List Int→Option (Bool)
 | 0,_,_,_,_=>none
 | k+1,x7,x8,ae,aa=>if x8 < x7 then(impl_Cube_hasUniqueSinks.l1 k x8 x7 x8 (aa.length:Int) 0 ae aa) else(some true)
def impl_Cube_hasUniqueSinks.l1:Nat→Int→Int→Int→Int→Int→Int→List Int→Option (Bool)
 | 0,_,_,_,_,_,_,_=>none
 | k+1,x3,x7,x8,x13,x14,ae,aa=>if x14 < x13 then(if(Go.bits .and .i64 x14 x3)=0 then((impl_Cube_sinksIn.f k ae aa x14 x3).bind fun af=>(if af=1 then(impl_Cube_hasUniqueSinks.l1 k x3 x7 x8 x13 (wrap64 (x14+1)) ae aa) else(some false))) else(impl_Cube_hasUniqueSinks.l1 k x3 x7 x8 x13 (wrap64 (x14+1)) ae aa)) else(impl_Cube_hasUniqueSinks.l0 k x7 (wrap64 (x8+1)) ae aa)
end
def impl_Cube_hasUniqueSinks.f (k:Nat) (a0_0:Int) (aa:List Int):Option (Bool):=impl_Cube_hasUniqueSinks.l0 k (aa.length:Int) 0 a0_0 aa
theorem impl_Cube_hasUniqueSinks.mono_l: ∀k,(∀y0 y1 y2 y3,LeO (impl_Cube_hasUniqueSinks.l0 k y0 y1 y2 y3) (impl_Cube_hasUniqueSinks.l0 (k+1) y0 y1 y2 y3))∧(∀y0 y1 y2 y3 y4 y5 y6,LeO (impl_Cube_hasUniqueSinks.l1 k y0 y1 y2 y3 y4 y5 y6) (impl_Cube_hasUniqueSinks.l1 (k+1) y0 y1 y2 y3 y4 y5 y6))
 | 0=>⟨fun _ _ _ _ r h=>by simp [impl_Cube_hasUniqueSinks.l0] at h,fun _ _ _ _ _ _ _ r h=>by simp [impl_Cube_hasUniqueSinks.l1] at h⟩
 | k+1=>by
  obtain⟨ih0,ih1⟩:=impl_Cube_hasUniqueSinks.mono_l k
  refine⟨?_,?_⟩
  ·intro y0 y1 y2 y3
   unfold impl_Cube_hasUniqueSinks.l0
   repeat' first
   | (with_reducible exact ih0 _ _ _ _)
   | (with_reducible exact ih1 _ _ _ _ _ _ _)
   | (with_reducible exact impl_Cube_sinksIn.mono _ _ _ _ _)
   | (with_reducible exact LeO.refl _)
   | (with_reducible exact LeO.none _)
   | (with_reducible refine LeO.ite ?_ ?_)
   | (with_reducible refine LeO.bind ?_ (fun _=>?_))
   | exact ih0 _ _ _ _
   | exact ih1 _ _ _ _ _ _ _
   | exact impl_Cube_sinksIn.mono _ _ _ _ _
   | exact LeO.none _
   | refine LeO.ite ?_ ?_
   | refine LeO.bind ?_ (fun _=>?_)
  ·intro y0 y1 y2 y3 y4 y5 y6
   unfold impl_Cube_hasUniqueSinks.l1
   repeat' first
   | (with_reducible exact ih0 _ _ _ _)
   | (with_reducible exact ih1 _ _ _ _ _ _ _)
   | (with_reducible exact impl_Cube_sinksIn.mono _ _ _ _ _)
   | (with_reducible exact LeO.refl _)
   | (with_reducible exact LeO.none _)
   | (with_reducible refine LeO.ite ?_ ?_)
   | (with_reducible refine LeO.bind ?_ (fun _=>?_))
   | exact ih0 _ _ _ _
   | exact ih1 _ _ _ _ _ _ _
   | exact impl_Cube_sinksIn.mono _ _ _ _ _
   | exact LeO.none _
   | refine LeO.ite ?_ ?_
   | refine LeO.bind ?_ (fun _=>?_)
theorem impl_Cube_hasUniqueSinks.mono: ∀a0 a1 k,LeO (impl_Cube_hasUniqueSinks.f k a0 a1) (impl_Cube_hasUniqueSinks.f (k+1) a0 a1):=by
 intro a0 a1 k
 obtain⟨ih0,ih1⟩:=impl_Cube_hasUniqueSinks.mono_l k
 unfold impl_Cube_hasUniqueSinks.f
 repeat' first
   | (with_reducible exact ih0 _ _ _ _)
   | (with_reducible exact ih1 _ _ _ _ _ _ _)
   | (with_reducible exact impl_Cube_sinksIn.mono _ _ _ _ _)
   | (with_reducible exact LeO.refl _)
   | (with_reducible exact LeO.none _)
   | (with_reducible refine LeO.ite ?_ ?_)
   | (with_reducible refine LeO.bind ?_ (fun _=>?_))
   | exact ih0 _ _ _ _
   | exact ih1 _ _ _ _ _ _ _
   | exact impl_Cube_sinksIn.mono _ _ _ _ _
   | exact LeO.none _
   | refine LeO.ite ?_ ?_
   | refine LeO.bind ?_ (fun _=>?_)
theorem impl_Cube_hasUniqueSinks.calls (k:Nat) (a0_0:Int) (ai:Option Addr) (aj:Nat) (aa:List Int) (r:Bool) (w:World) (az:Kd.C (Kd.int .i64) w ai aa.length aa) (aA:aa.length≤aj) (h:impl_Cube_hasUniqueSinks.f k a0_0 aa=some r):
  Calls Try.prog 127 #[.agg #[.int .i64 a0_0, .slice ai aa.length aj]] w fun e w'=>e= .returned (.bool r)∧Below w.heap.size w w':=by
 have hu64:=Try.underlying64
 have HR0_1:=Aside0.mk az
 have HC0_1:=Aside0.mk aA
 clear az aA
 have HB:=Aside0.mk (Below.refl w.heap.size w)
 have H:(impl_Cube_hasUniqueSinks.l0 k (aa.length:Int) 0 a0_0 aa)=some r:=h
 clear h
 have H':=Aside0.mk H
 clear H
 go_enter Try.func127,Try.ntmps127
 go_wp2_with (first | ((with_reducible refine gate_dst (N:=1) rfl ?_);refine box_event ?hg (N:=1) ?hd (cs:= #[.int .i64 a0_0, .slice ai aa.length aj]) (t:=64) ?hr ?_;(case hd=>rfl);(case hg=>rfl);(case hr=>first | (go_simp;done) | (go_simp;rfl));intro ah hg w2 hbox hb;have ae:=Aside0.mk (hbox);have aW:=Aside0.mk ((by rw [hg];exact bz_:w.heap.size≤ah));have aX:=Aside0.mk ((by rw [hg];exact bz_:w.heap.size≤ah));replace HB:=Aside0.mk (bs_ hb);clear hb hbox hg;have av:w2.cell? ⟨ah,0,none⟩=some (.int .i64 a0_0):=(blk_cell ae.out 0).trans rfl;have aw:w2.cell? ⟨ah,1,none⟩=some (.slice ai aa.length aj):=(blk_cell ae.out 1).trans rfl;have ax:=blk_frozen ae.out 0;have ay:=blk_frozen ae.out 1))
 go_loopg [8] k (fun kq v8 w'=> ∃(ag:Int),v8= .int .i64 ag∧Aside0 (impl_Cube_hasUniqueSinks.l0 kq (aa.length:Int) ag a0_0 aa=some r)∧Aside0 (kq≤k)∧Aside0 (w'.heap[ah]?=some (.cells #[.int .i64 a0_0,(.slice ai aa.length aj)] 64 (0,0)))∧Aside0 (Below w.heap.size w w'))
 case atStart=>exact⟨(0),rs_,H',⟨Nat.le_refl _⟩,⟨bk_⟩,⟨hb_⟩⟩
 case round=>
  clear H'
  try clear c1
  try clear p2
  try clear av
  try clear aw
  try clear ax
  try clear ay
  obtain⟨ag,rfl,HA,HK1,ae,HB⟩:=hrel
  cases gk with
  | zero=>exact absurd HA.out (by simp [impl_Cube_hasUniqueSinks.l0])
  | succ k1=>
   have H:=HA.out
   clear HA
   simp only [impl_Cube_hasUniqueSinks.l0] at H
   by_cases c4:ag < (aa.length:Int)
   ·rw [if_pos c4] at H
    have c4b0:decide (ag < (aa.length:Int))=true:=decide_eq_true c4
    clear c4
    have H':=Aside0.mk H
    clear H
    have aC:wr.cell? ⟨ah,0,none⟩=some (.int .i64 a0_0):=(blk_cell ae.out 0).trans rfl
    have aD:wr.cell? ⟨ah,1,none⟩=some (.slice ai aa.length aj):=(blk_cell ae.out 1).trans rfl
    have aG:=blk_frozen ae.out 0
    have aH:=blk_frozen ae.out 1
    go_wp2
    go_loopg [14] k1 (fun kq v14 w'=> ∃(af:Int),v14= .int .i64 af∧Aside0 (impl_Cube_hasUniqueSinks.l1 kq ag (aa.length:Int) ag (aa.length:Int) af a0_0 aa=some r)∧Aside0 (kq≤k1)∧Aside0 (w'.heap[ah]?=some (.cells #[.int .i64 a0_0,(.slice ai aa.length aj)] 64 (0,0)))∧Aside0 (Below w.heap.size w w'))
    case atStart=>exact⟨(0),rs_,H',⟨Nat.le_refl _⟩,⟨bk_⟩,⟨hb_⟩⟩
    case round=>
     clear H'
     try clear c1
     try clear p2
     try clear c4
     try clear c4b0
     try clear av
     try clear aw
     try clear aC
     try clear aD
     try clear ax
     try clear ay
     try clear aG
     try clear aH
     try clear p2
     obtain⟨af,rfl,HA,HK2,ae,HB⟩:=hrel
     cases gk with
     | zero=>exact absurd HA.out (by simp [impl_Cube_hasUniqueSinks.l1])
     | succ k2=>
      have H:=HA.out
      clear HA
      simp only [impl_Cube_hasUniqueSinks.l1] at H
      by_cases c6:af < (aa.length:Int)
      ·rw [if_pos c6] at H
       have c6b0:decide (af < (aa.length:Int))=true:=decide_eq_true c6
       clear c6
       by_cases c7:(Go.bits .and .i64 af ag)=0
       ·rw [if_pos c7] at H
        have c7b0:((Go.bits .and .i64 af ag)==0)=true:=beq_iff_eq.mpr c7
        have c7b1:((Go.bits .and .i64 af ag) !=0)=false:=bne_eq_false_iff_eq.mpr c7
        clear c7
        replace H:=Option.bind_eq_some_iff.mp H
        obtain⟨ak,A80,H⟩:=H
        replace H:(if ak=1 then(impl_Cube_hasUniqueSinks.l1 k2 ag (aa.length:Int) ag (aa.length:Int) (wrap64 (af+1)) a0_0 aa) else(some false))=some r:=H
        have A8:=Aside0.mk A80
        clear A80
        by_cases c9:ak=1
        ·rw [if_pos c9] at H
         have c9b0:(ak==1)=true:=beq_iff_eq.mpr c9
         have c9b1:(ak !=1)=false:=bne_eq_false_iff_eq.mpr c9
         clear c9
         have H':=Aside0.mk H
         clear H
         have aI:wr.cell? ⟨ah,0,none⟩=some (.int .i64 a0_0):=(blk_cell ae.out 0).trans rfl
         have aJ:wr.cell? ⟨ah,1,none⟩=some (.slice ai aa.length aj):=(blk_cell ae.out 1).trans rfl
         have aK:=blk_frozen ae.out 0
         have aM:=blk_frozen ae.out 1
         go_wp2_with (first | (go_at_call 173;(with_reducible refine(impl_Cube_sinksIn.calls k2 a0_0 _ _ aa af ag ak _ ?aq ?au A8.out).mono ?_);(case aq=>exact cb_ HR0_1.out HB.out);(case au=>exact HC0_1.out);rintro e w11 ⟨rfl,hb⟩;replace ae:=Aside0.mk (bb_ ae.out hb);replace HB:=Aside0.mk (bs_ hb);(try clear hb);(try clear hb2);(try clear hk);(try clear hi)))
         go_roundg k2
         case measure=>have:=HK1.out;have:=HK2.out;omega
         case rel=>exact⟨(wrap64 (af+1)),rs_,H',⟨by have:=HK1.out;have:=HK2.out;omega⟩,⟨bk_⟩,⟨hb_⟩⟩
        ·rw [if_neg c9] at H
         have c9b0:(ak==1)=false:=beq_eq_false_iff_ne.mpr c9
         have c9b1:(ak !=1)=true:=bne_iff_ne.mpr c9
         obtain rfl:=Option.some.inj H
         have aN:wr.cell? ⟨ah,0,none⟩=some (.int .i64 a0_0):=(blk_cell ae.out 0).trans rfl
         have aT:wr.cell? ⟨ah,1,none⟩=some (.slice ai aa.length aj):=(blk_cell ae.out 1).trans rfl
         have aU:=blk_frozen ae.out 0
         have aV:=blk_frozen ae.out 1
         go_wp2_with (first | (go_at_call 173;(with_reducible refine(impl_Cube_sinksIn.calls k2 a0_0 _ _ aa af ag ak _ ?aq ?au A8.out).mono ?_);(case aq=>exact cb_ HR0_1.out HB.out);(case au=>exact HC0_1.out);rintro e w13 ⟨rfl,hb⟩;replace ae:=Aside0.mk (bb_ ae.out hb);replace HB:=Aside0.mk (bs_ hb);(try clear hb);(try clear hb2);(try clear hk);(try clear hi)))
         go_ret
         exact⟨by first | rfl | (simp [errW_none,errW_some] <;> rfl) | (simp [*,errW_none,errW_some] <;> rfl),hb_⟩
       ·rw [if_neg c7] at H
        have c7b0:((Go.bits .and .i64 af ag)==0)=false:=beq_eq_false_iff_ne.mpr c7
        have c7b1:((Go.bits .and .i64 af ag) !=0)=true:=bne_iff_ne.mpr c7
        have H':=Aside0.mk H
        clear H
        go_wp2
        go_roundg k2
        case measure=>have:=HK1.out;have:=HK2.out;omega
        case rel=>exact⟨(wrap64 (af+1)),rs_,H',⟨by have:=HK1.out;have:=HK2.out;omega⟩,⟨bk_⟩,⟨hb_⟩⟩
      ·rw [if_neg c6] at H
       have c6b0:decide (af < (aa.length:Int))=false:=decide_eq_false c6
       clear c6
       have H':=Aside0.mk H
       clear H
       go_wp2
       go_roundg k2
       case measure=>have:=HK1.out;have:=HK2.out;omega
       case rel=>exact⟨(wrap64 (ag+1)),rs_,H',⟨by have:=HK1.out;have:=HK2.out;omega⟩,⟨bk_⟩,⟨hb_⟩⟩
   ·rw [if_neg c4] at H
    have c4b0:decide (ag < (aa.length:Int))=false:=decide_eq_false c4
    clear c4
    obtain rfl:=Option.some.inj H
    go_wp2
    go_ret
    exact⟨by first | rfl | (simp [errW_none,errW_some] <;> rfl) | (simp [*,errW_none,errW_some] <;> rfl),hb_⟩
def impl_HasUniqueSinks.f (k:Nat) (a0_0:Int) (aa:List Int):Option (Bool × Int):=(impl_IsCube.f k a0_0 aa).bind fun ae=>(if ae=true then((impl_Cube_hasUniqueSinks.f k a0_0 aa).bind fun af=>(some (af,0))) else(some (false,1)))
theorem impl_HasUniqueSinks.mono: ∀a0 a1 k,LeO (impl_HasUniqueSinks.f k a0 a1) (impl_HasUniqueSinks.f (k+1) a0 a1):=by
 intro a0 a1 k
 unfold impl_HasUniqueSinks.f
 repeat' first
   | (with_reducible exact impl_Cube_hasUniqueSinks.mono _ _ _)
   | (with_reducible exact impl_IsCube.mono _ _ _)
   | (with_reducible exact LeO.refl _)
   | (with_reducible exact LeO.none _)
   | (with_reducible refine LeO.ite ?_ ?_)
   | (with_reducible refine LeO.bind ?_ (fun _=>?_))
   | exact impl_Cube_hasUniqueSinks.mono _ _ _
   | exact impl_IsCube.mono _ _ _
   | exact LeO.none _
   | refine LeO.ite ?_ ?_
   | refine LeO.bind ?_ (fun _=>?_)
theorem impl_HasUniqueSinks.calls (k:Nat) (a0_0:Int) (ag:Option Addr) (ah:Nat) (ae:List Int) (r1:Bool) (r2:Int) (w:World) (au:Kd.C (Kd.int .i64) w ag ae.length ae) (av:ae.length≤ah) (h:impl_HasUniqueSinks.f k a0_0 ae=some (r1,r2)):
  Calls Try.prog 40 #[.agg #[.int .i64 a0_0, .slice ag ae.length ah]] w fun e w'=>e= .returned (.tuple #[.bool r1, .int .i64 r2])∧Below w.heap.size w w':=by
 have hu64:=Try.underlying64
 have HR0_1:=Aside0.mk au
 have HC0_1:=Aside0.mk av
 clear au av
 have HB:=Aside0.mk (Below.refl w.heap.size w)
 have H:((impl_IsCube.f k a0_0 ae).bind fun aq=>(if aq=true then((impl_Cube_hasUniqueSinks.f k a0_0 ae).bind fun ai=>(some (ai,0))) else(some (false,1))))=some (r1,r2):=h
 clear h
 replace H:=Option.bind_eq_some_iff.mp H
 obtain⟨aq,A20,H⟩:=H
 replace H:(if aq=true then((impl_Cube_hasUniqueSinks.f k a0_0 ae).bind fun ai=>(some (ai,0))) else(some (false,1)))=some (r1,r2):=H
 have A2:=Aside0.mk A20
 clear A20
 by_cases c3:aq=true
 ·subst c3
  have H1:((impl_Cube_hasUniqueSinks.f k a0_0 ae).bind fun ai=>(some (ai,0)))=some (r1,r2):=by rw [if_pos rfl] at H;exact H
  clear H
  have H:=H1
  clear H1
  replace H:=Option.bind_eq_some_iff.mp H
  obtain⟨ai,A40,H⟩:=H
  replace H:(some (ai,0))=some (r1,r2):=H
  have A4:=Aside0.mk A40
  clear A40
  simp only [Option.some.injEq,Prod.mk.injEq] at H
  obtain⟨rfl,rfl⟩:=H
  go_enter Try.func40,Try.ntmps40
  go_wp2_with (first | ((with_reducible refine gate_dst (N:=1) rfl ?_);refine box_event ?hg (N:=1) ?hd (cs:= #[.int .i64 a0_0, .slice ag ae.length ah]) (t:=64) ?hr ?_;(case hd=>rfl);(case hg=>rfl);(case hr=>first | (go_simp;done) | (go_simp;rfl));intro af hg w5 hbox hb;have aa:=Aside0.mk (hbox);have aw:=Aside0.mk ((by rw [hg];exact bz_:w.heap.size≤af));have ax:=Aside0.mk ((by rw [hg];exact bz_:w.heap.size≤af));replace HB:=Aside0.mk (bs_ hb);clear hb hbox hg;have aD:w5.cell? ⟨af,0,none⟩=some (.int .i64 a0_0):=(blk_cell aa.out 0).trans rfl;have aG:w5.cell? ⟨af,1,none⟩=some (.slice ag ae.length ah):=(blk_cell aa.out 1).trans rfl;have aH:=blk_frozen aa.out 0;have aI:=blk_frozen aa.out 1) | ((with_reducible refine gate_callee (f:=42) rfl ?_);refine gL_ 5 Try.func42 #[.agg #[.int .i64 a0_0, .slice ag ae.length ah]] ?_;(with_reducible refine(impl_IsCube.calls k a0_0 _ _ ae true _ ?aj ?ak A2.out).mono ?_);(case aj=>exact cb_ HR0_1.out HB.out);(case ak=>exact HC0_1.out);rintro e w7 ⟨rfl,hb⟩;refine⟨_,rfl,?_⟩;replace aa:=Aside0.mk (bb_ aa.out hb);replace HB:=Aside0.mk (bs_ hb);(try clear hb);(try clear hb2);(try clear hk);(try clear hi);have aJ:w7.cell? ⟨af,0,none⟩=some (.int .i64 a0_0):=(blk_cell aa.out 0).trans rfl;have aK:w7.cell? ⟨af,1,none⟩=some (.slice ag ae.length ah):=(blk_cell aa.out 1).trans rfl;have aM:=blk_frozen aa.out 0;have aN:=blk_frozen aa.out 1) | ((with_reducible refine gate_callee (f:=127) rfl ?_);refine gL_ 8 Try.func127 #[.agg #[.int .i64 a0_0, .slice ag ae.length ah]] ?_;(with_reducible refine(impl_Cube_hasUniqueSinks.calls k a0_0 _ _ ae ai _ ?aj ?ak A4.out).mono ?_);(case aj=>exact cb_ HR0_1.out HB.out);(case ak=>exact HC0_1.out);rintro e w9 ⟨rfl,hb⟩;refine⟨_,rfl,?_⟩;replace aa:=Aside0.mk (bb_ aa.out hb);replace HB:=Aside0.mk (bs_ hb);(try clear hb);(try clear hb2);(try clear hk);(try clear hi)))
  go_ret2
  exact⟨by first | rfl | (simp [errW_none,errW_some] <;> rfl) | (simp [*,errW_none,errW_some] <;> rfl),hb_⟩
 ·replace c3:=Bool.eq_false_iff.mpr c3
  subst c3
  have H1:(some (false,1))=some (r1,r2):=by rw [if_neg (show ¬ (false=true) by decide)] at H;exact H
  clear H
  have H:=H1
  clear H1
  simp only [Option.some.injEq,Prod.mk.injEq] at H
  obtain⟨rfl,rfl⟩:=H
  go_enter Try.func40,Try.ntmps40
  go_wp2_with (first | ((with_reducible refine gate_dst (N:=1) rfl ?_);refine box_event ?hg (N:=1) ?hd (cs:= #[.int .i64 a0_0, .slice ag ae.length ah]) (t:=64) ?hr ?_;(case hd=>rfl);(case hg=>rfl);(case hr=>first | (go_simp;done) | (go_simp;rfl));intro af hg w10 hbox hb;have aa:=Aside0.mk (hbox);have aw:=Aside0.mk ((by rw [hg];exact bz_:w.heap.size≤af));have ax:=Aside0.mk ((by rw [hg];exact bz_:w.heap.size≤af));replace HB:=Aside0.mk (bs_ hb);clear hb hbox hg;have ay:w10.cell? ⟨af,0,none⟩=some (.int .i64 a0_0):=(blk_cell aa.out 0).trans rfl;have az:w10.cell? ⟨af,1,none⟩=some (.slice ag ae.length ah):=(blk_cell aa.out 1).trans rfl;have aA:=blk_frozen aa.out 0;have aC:=blk_frozen aa.out 1) | ((with_reducible refine gate_callee (f:=42) rfl ?_);refine gL_ 5 Try.func42 #[.agg #[.int .i64 a0_0, .slice ag ae.length ah]] ?_;(with_reducible refine(impl_IsCube.calls k a0_0 _ _ ae false _ ?aj ?ak A2.out).mono ?_);(case aj=>exact cb_ HR0_1.out HB.out);(case ak=>exact HC0_1.out);rintro e w12 ⟨rfl,hb⟩;refine⟨_,rfl,?_⟩;replace aa:=Aside0.mk (bb_ aa.out hb);replace HB:=Aside0.mk (bs_ hb);(try clear hb);(try clear hb2);(try clear hk);(try clear hi)))
  go_ret2
  exact⟨by first | rfl | (simp [errW_none,errW_some] <;> rfl) | (simp [*,errW_none,errW_some] <;> rfl),hb_⟩
mutual
def spec_l06Is.j0:Nat→Bool→Int→List Int→Option (Bool)
 | 0,_,_,_=>none
 | k+1,x19,ae,aa=>if x19=true then(some false) else(spec_l06Is.l0 k 0 ae aa)
def spec_l06Is.l0:Nat→Int→Int→List Int→Option (Bool)
 | 0,_,_,_=>none
 | k+1,x3,ae,aa=>if x3 < (aa.length:Int) then(if 0≤x3 then((spec_l01In.f (rd aa x3) 0 (wrap64 ((aa.length:Int) - 1))).bind fun af=>(if af=true then(spec_l06Is.l1 k x3 0 ae aa) else(some false))) else(none)) else(some true)
def spec_l06Is.l1:Nat→Int→Int→Int→List Int→Option (Bool)
 | 0,_,_,_,_=>none
 | k+1,x3,x4,ae,aa=>if x4 < ae then(if 0≤(IntKind.u64.wrap (x4)) then(if 0≤x3 then(if x3 < (aa.length:Int) then(if 0≤(Go.bits .xor .i64 x3 (shl .i64 1 (IntKind.u64.wrap (x4)))) then(if(Go.bits .xor .i64 x3 (shl .i64 1 (IntKind.u64.wrap (x4)))) < (aa.length:Int) then(if(Go.bits .and .i64 (rd aa x3) (shl .i64 1 (IntKind.u64.wrap (x4))))=(Go.bits .and .i64 (rd aa (Go.bits .xor .i64 x3 (shl .i64 1 (IntKind.u64.wrap (x4))))) (shl .i64 1 (IntKind.u64.wrap (x4)))) then(some false) else(spec_l06Is.l1 k x3 (wrap64 (x4+1)) ae aa)) else(none)) else(none)) else(none)) else(none)) else(none)) else(spec_l06Is.l0 k (wrap64 (x3+1)) ae aa)
end
def spec_l06Is.f (k:Nat) (a0_0:Int) (aa:List Int):Option (Bool):=(spec_l01In.f a0_0 1 5).bind fun ae=>(if ae=true then(if 0≤(IntKind.u64.wrap (a0_0)) then(spec_l06Is.j0 k ((aa.length:Int) !=(shl .i64 1 (IntKind.u64.wrap (a0_0)))) a0_0 aa) else(none)) else(spec_l06Is.j0 k true a0_0 aa))
theorem spec_l06Is.mono_l: ∀k,(∀y0 y1 y2,LeO (spec_l06Is.j0 k y0 y1 y2) (spec_l06Is.j0 (k+1) y0 y1 y2))∧(∀y0 y1 y2,LeO (spec_l06Is.l0 k y0 y1 y2) (spec_l06Is.l0 (k+1) y0 y1 y2))∧(∀y0 y1 y2 y3,LeO (spec_l06Is.l1 k y0 y1 y2 y3) (spec_l06Is.l1 (k+1) y0 y1 y2 y3))
 | 0=>⟨fun _ _ _ r h=>by simp [spec_l06Is.j0] at h,fun _ _ _ r h=>by simp [spec_l06Is.l0] at h,fun _ _ _ _ r h=>by simp [spec_l06Is.l1] at h⟩
 | k+1=>by
  obtain⟨ih0,ih1,ih2⟩:=spec_l06Is.mono_l k
  refine⟨?_,?_,?_⟩
  ·intro y0 y1 y2
   unfold spec_l06Is.j0
   repeat' first
   | (with_reducible exact ih0 _ _ _)
   | (with_reducible exact ih1 _ _ _)
   | (with_reducible exact ih2 _ _ _ _)
   | (with_reducible exact LeO.refl _)
   | (with_reducible exact LeO.none _)
   | (with_reducible refine LeO.ite ?_ ?_)
   | (with_reducible refine LeO.bind ?_ (fun _=>?_))
   | exact ih0 _ _ _
   | exact ih1 _ _ _
   | exact ih2 _ _ _ _
   | exact LeO.none _
   | refine LeO.ite ?_ ?_
   | refine LeO.bind ?_ (fun _=>?_)
  ·intro y0 y1 y2
   unfold spec_l06Is.l0
   repeat' first
   | (with_reducible exact ih0 _ _ _)
   | (with_reducible exact ih1 _ _ _)
   | (with_reducible exact ih2 _ _ _ _)
   | (with_reducible exact LeO.refl _)
   | (with_reducible exact LeO.none _)
   | (with_reducible refine LeO.ite ?_ ?_)
   | (with_reducible refine LeO.bind ?_ (fun _=>?_))
   | exact ih0 _ _ _
   | exact ih1 _ _ _
   | exact ih2 _ _ _ _
   | exact LeO.none _
   | refine LeO.ite ?_ ?_
   | refine LeO.bind ?_ (fun _=>?_)
  ·intro y0 y1 y2 y3
   unfold spec_l06Is.l1
   repeat' first
   | (with_reducible exact ih0 _ _ _)
   | (with_reducible exact ih1 _ _ _)
   | (with_reducible exact ih2 _ _ _ _)
   | (with_reducible exact LeO.refl _)
   | (with_reducible exact LeO.none _)
   | (with_reducible refine LeO.ite ?_ ?_)
   | (with_reducible refine LeO.bind ?_ (fun _=>?_))
   | exact ih0 _ _ _
   | exact ih1 _ _ _
   | exact ih2 _ _ _ _
   | exact LeO.none _
   | refine LeO.ite ?_ ?_
   | refine LeO.bind ?_ (fun _=>?_)
theorem spec_l06Is.mono: ∀a0 a1 k,LeO (spec_l06Is.f k a0 a1) (spec_l06Is.f (k+1) a0 a1):=by
 intro a0 a1 k
 obtain⟨ih0,ih1,ih2⟩:=spec_l06Is.mono_l k
 unfold spec_l06Is.f
 repeat' first
   | (with_reducible exact ih0 _ _ _)
   | (with_reducible exact ih1 _ _ _)
   | (with_reducible exact ih2 _ _ _ _)
   | (with_reducible exact LeO.refl _)
   | (with_reducible exact LeO.none _)
   | (with_reducible refine LeO.ite ?_ ?_)
   | (with_reducible refine LeO.bind ?_ (fun _=>?_))
   | exact ih0 _ _ _
   | exact ih1 _ _ _
   | exact ih2 _ _ _ _
   | exact LeO.none _
   | refine LeO.ite ?_ ?_
   | refine LeO.bind ?_ (fun _=>?_)
theorem spec_l06Is.calls (k:Nat) (a0_0:Int) (ai:Option Addr) (ah:Nat) (aa:List Int) (r:Bool) (w:World) (aI:Kd.C (Kd.int .i64) w ai aa.length aa) (aJ:aa.length≤ah) (h:spec_l06Is.f k a0_0 aa=some r):
  Calls Try.prog 128 #[.agg #[.int .i64 a0_0, .slice ai aa.length ah]] w fun e w'=>e= .returned (.bool r)∧Below w.heap.size w w':=by
 have hu64:=Try.underlying64
 have HR0_1:=Aside0.mk aI
 have HC0_1:=Aside0.mk aJ
 clear aI aJ
 have HB:=Aside0.mk (Below.refl w.heap.size w)
 have H:((spec_l01In.f a0_0 1 5).bind fun aD=>(if aD=true then(if 0≤(IntKind.u64.wrap (a0_0)) then(spec_l06Is.j0 k ((aa.length:Int) !=(shl .i64 1 (IntKind.u64.wrap (a0_0)))) a0_0 aa) else(none)) else(spec_l06Is.j0 k true a0_0 aa)))=some r:=h
 clear h
 have HC2:=Aside0.mk H
 clear H
 go_enter Try.func128,Try.ntmps128
 go_upto_region 1 with (first | ((with_reducible refine gate_dst (N:=1) rfl ?_);(try (refine gate_guard (by rfl) ?_;dsimp only));refine box_event ?hg (N:=1) ?hd (cs:= #[.int .i64 a0_0, .slice ai aa.length ah]) (t:=64) ?hr ?_;(case hd=>rfl);(case hg=>rfl);(case hr=>first | (go_simp;done) | (go_simp;rfl));intro ag hg w3 hbox hb;have af:=Aside0.mk (hbox);have aK:=Aside0.mk ((by rw [hg];exact bz_:w.heap.size≤ag));have aM:=Aside0.mk ((by rw [hg];exact bz_:w.heap.size≤ag));replace HB:=Aside0.mk (bs_ hb);clear hb hbox hg))
 repeat (go_quiet (first | ((with_reducible refine gate_dst (N:=1) rfl ?_);(try (refine gate_guard (by rfl) ?_;dsimp only));refine box_event ?hg (N:=1) ?hd (cs:= #[.int .i64 a0_0, .slice ai aa.length ah]) (t:=64) ?hr ?_;(case hd=>rfl);(case hg=>rfl);(case hr=>first | (go_simp;done) | (go_simp;rfl));intro ag hg w3 hbox hb;have af:=Aside0.mk (hbox);have aK:=Aside0.mk ((by rw [hg];exact bz_:w.heap.size≤ag));have aM:=Aside0.mk ((by rw [hg];exact bz_:w.heap.size≤ag));replace HB:=Aside0.mk (bs_ hb);clear hb hbox hg));go_upto_region 1 with (first | ((with_reducible refine gate_dst (N:=1) rfl ?_);(try (refine gate_guard (by rfl) ?_;dsimp only));refine box_event ?hg (N:=1) ?hd (cs:= #[.int .i64 a0_0, .slice ai aa.length ah]) (t:=64) ?hr ?_;(case hd=>rfl);(case hg=>rfl);(case hr=>first | (go_simp;done) | (go_simp;rfl));intro ag hg w3 hbox hb;have af:=Aside0.mk (hbox);have aK:=Aside0.mk ((by rw [hg];exact bz_:w.heap.size≤ag));have aM:=Aside0.mk ((by rw [hg];exact bz_:w.heap.size≤ag));replace HB:=Aside0.mk (bs_ hb);clear hb hbox hg)))
 (try simp only [Act.put,List.setIfInBounds_toArray,List.set_cons_zero,List.set_cons_succ])
 go_cut [19] (fun v19 wc=> ∃(kq:Nat) (ax:Bool),v19= .bool ax∧Aside0 (spec_l06Is.j0 kq ax a0_0 aa=some r)∧Aside0 (kq≤k)∧Aside0 (wc.heap[ag]?=some (.cells #[.int .i64 a0_0,(.slice ai aa.length ah)] 64 (0,0)))∧Aside0 (Below w.heap.size w wc))
 case first=>
  have H:=HC2.out
  clear HC2
  replace H:=Option.bind_eq_some_iff.mp H
  obtain⟨aD,A40,H⟩:=H
  replace H:(if aD=true then(if 0≤(IntKind.u64.wrap (a0_0)) then(spec_l06Is.j0 k ((aa.length:Int) !=(shl .i64 1 (IntKind.u64.wrap (a0_0)))) a0_0 aa) else(none)) else(spec_l06Is.j0 k true a0_0 aa))=some r:=H
  have A4:=Aside0.mk A40
  clear A40
  by_cases c5:aD=true
  ·subst c5
   have H1:(if 0≤(IntKind.u64.wrap (a0_0)) then(spec_l06Is.j0 k ((aa.length:Int) !=(shl .i64 1 (IntKind.u64.wrap (a0_0)))) a0_0 aa) else(none))=some r:=by rw [if_pos rfl] at H;exact H
   clear H
   have H:=H1
   clear H1
   obtain⟨ji6,hji6⟩: ∃j_:Int,(IntKind.u64.wrap (a0_0))=j_:=⟨_,rfl⟩
   replace H:(if 0≤(ji6) then(spec_l06Is.j0 k ((aa.length:Int) !=(shl .i64 1 (ji6))) a0_0 aa) else(none))=some r:=by first | (rw [hji6] at H;exact H) | (simp only [hji6] at H ⊢;exact H)
   (try rw [hji6] at A4)
   by_cases c7:0≤(ji6)
   ·rw [if_pos c7] at H
    have c7b0:=eq_true c7
    have c7b1:decide (0≤(ji6))=true:=decide_eq_true c7
    clear c7
    obtain⟨ji8,hji8⟩: ∃j_:Int,(shl .i64 1 (ji6))=j_:=⟨_,rfl⟩
    replace H:(spec_l06Is.j0 k ((aa.length:Int) !=(ji8)) a0_0 aa)=some r:=by first | (rw [hji8] at H;exact H) | (simp only [hji8] at H ⊢;exact H)
    (try rw [hji8] at A4)
    have hji8_:(IntKind.i64.wrap (1*2 ^ min (ji6).toNat 64))=ji8:=hji8
    have hji8z:(ji6)≤64→(IntKind.i64.wrap (1*2 ^ (ji6).toNat))=ji8:=shl_small hji8
    have hji8u:(IntKind.i64.wrap (2 ^ min (ji6).toNat 64))=ji8:=by have h_:=hji8_;rw [Int.one_mul] at h_;exact h_
    have hji8v:(ji6)≤64→(IntKind.i64.wrap (2 ^ (ji6).toNat))=ji8:=fun hle_=>by have h_:=hji8z hle_;rw [Int.one_mul] at h_;exact h_
    have hji8y:(wrap64 (1*2 ^ min (ji6).toNat 64))=ji8:=(i64_w _).symm.trans hji8_
    have hji8x:(ji6)≤64→(wrap64 (1*2 ^ (ji6).toNat))=ji8:=fun h_=>(i64_w _).symm.trans (hji8z h_)
    have H':=Aside0.mk H
    clear H
    have ay:w3.cell? ⟨ag,0,none⟩=some (.int .i64 a0_0):=(blk_cell af.out 0).trans rfl
    have az:w3.cell? ⟨ag,1,none⟩=some (.slice ai aa.length ah):=(blk_cell af.out 1).trans rfl
    have aA:=blk_frozen af.out 0
    have aC:=blk_frozen af.out 1
    go_wp2_with (first | (go_at_call 119;(with_reducible refine(spec_l01In.calls a0_0 1 5 true _ A4.out).mono ?_);rintro e w' ⟨rfl,⟨nd,rfl⟩⟩;(try first | exact⟨rfl,_,World.drewN_drewN _ _ _⟩ | exact⟨rfl,_,Eq.trans (World.drewN_drewN _ _ _) (congrArg (World.drewN _) (Nat.add_assoc _ _ _))⟩)))
    repeat (go_quiet (first | (go_at_call 119;(with_reducible refine(spec_l01In.calls a0_0 1 5 true _ A4.out).mono ?_);rintro e w' ⟨rfl,⟨nd,rfl⟩⟩;(try first | exact⟨rfl,_,World.drewN_drewN _ _ _⟩ | exact⟨rfl,_,Eq.trans (World.drewN_drewN _ _ _) (congrArg (World.drewN _) (Nat.add_assoc _ _ _))⟩)));try go_wp2_with (first | (go_at_call 119;(with_reducible refine(spec_l01In.calls a0_0 1 5 true _ A4.out).mono ?_);rintro e w' ⟨rfl,⟨nd,rfl⟩⟩;(try first | exact⟨rfl,_,World.drewN_drewN _ _ _⟩ | exact⟨rfl,_,Eq.trans (World.drewN_drewN _ _ _) (congrArg (World.drewN _) (Nat.add_assoc _ _ _))⟩))))
    go_meet
    case rel=>exact⟨_,(((aa.length:Int) !=(ji8))),(by first | rfl | (simp;done) | (simp only [← hji8] <;> (first | rfl | simp)) | (simp [*];done)),H',⟨by first | omega | exact Nat.le_refl _⟩,⟨bk_⟩,⟨hb_⟩⟩
   ·rw [if_neg c7] at H
    exact absurd H (by simp)
  ·replace c5:=Bool.eq_false_iff.mpr c5
   subst c5
   have H1:(spec_l06Is.j0 k true a0_0 aa)=some r:=by rw [if_neg (show ¬ (false=true) by decide)] at H;exact H
   clear H
   have H:=H1
   clear H1
   have H':=Aside0.mk H
   clear H
   have aq:w3.cell? ⟨ag,0,none⟩=some (.int .i64 a0_0):=(blk_cell af.out 0).trans rfl
   have au:w3.cell? ⟨ag,1,none⟩=some (.slice ai aa.length ah):=(blk_cell af.out 1).trans rfl
   have av:=blk_frozen af.out 0
   have aw:=blk_frozen af.out 1
   go_wp2_with (first | (go_at_call 119;(with_reducible refine(spec_l01In.calls a0_0 1 5 false _ A4.out).mono ?_);rintro e w' ⟨rfl,⟨nd,rfl⟩⟩;(try first | exact⟨rfl,_,World.drewN_drewN _ _ _⟩ | exact⟨rfl,_,Eq.trans (World.drewN_drewN _ _ _) (congrArg (World.drewN _) (Nat.add_assoc _ _ _))⟩)))
   repeat (go_quiet (first | (go_at_call 119;(with_reducible refine(spec_l01In.calls a0_0 1 5 false _ A4.out).mono ?_);rintro e w' ⟨rfl,⟨nd,rfl⟩⟩;(try first | exact⟨rfl,_,World.drewN_drewN _ _ _⟩ | exact⟨rfl,_,Eq.trans (World.drewN_drewN _ _ _) (congrArg (World.drewN _) (Nat.add_assoc _ _ _))⟩)));try go_wp2_with (first | (go_at_call 119;(with_reducible refine(spec_l01In.calls a0_0 1 5 false _ A4.out).mono ?_);rintro e w' ⟨rfl,⟨nd,rfl⟩⟩;(try first | exact⟨rfl,_,World.drewN_drewN _ _ _⟩ | exact⟨rfl,_,Eq.trans (World.drewN_drewN _ _ _) (congrArg (World.drewN _) (Nat.add_assoc _ _ _))⟩))))
   go_meet
   case rel=>exact⟨_,(true),rs_,H',⟨by first | omega | exact Nat.le_refl _⟩,⟨bk_⟩,⟨hb_⟩⟩
 case rest=>
  clear HC2
  try clear c1
  try clear p2
  try clear c5
  try clear p6
  try clear c7
  try clear c7b0
  try clear c7b1
  try clear aq
  try clear au
  try clear ay
  try clear az
  try clear av
  try clear aw
  try clear aA
  try clear aC
  obtain⟨kq,ax,rfl,HA,HJ1,af,HB⟩:=hcut
  cases kq with
  | zero=>exact absurd HA.out (by simp [spec_l06Is.j0])
  | succ kj1=>
   have H:=HA.out
   clear HA
   simp only [spec_l06Is.j0] at H
   by_cases c11:ax=true
   ·subst c11
    have H1:(some false)=some r:=by rw [if_pos rfl] at H;exact H
    clear H
    have H:=H1
    clear H1
    obtain rfl:=Option.some.inj H
    go_wp2
    repeat (go_quiet (fail);try go_wp2)
    go_ret
    exact⟨by first | rfl | (simp [errW_none,errW_some] <;> rfl) | (simp [*,errW_none,errW_some] <;> rfl),hb_⟩
   ·replace c11:=Bool.eq_false_iff.mpr c11
    subst c11
    have H1:(spec_l06Is.l0 kj1 0 a0_0 aa)=some r:=by rw [if_neg (show ¬ (false=true) by decide)] at H;exact H
    clear H
    have H:=H1
    clear H1
    have H':=Aside0.mk H
    clear H
    go_wp2
    repeat (go_quiet (fail);try go_wp2)
    go_loopg [3] kj1 (fun kq v3 w'=> ∃(ae:Int),v3= .int .i64 ae∧Aside0 (spec_l06Is.l0 kq ae a0_0 aa=some r)∧Aside0 (kq≤kj1)∧Aside0 (w'.heap[ag]?=some (.cells #[.int .i64 a0_0,(.slice ai aa.length ah)] 64 (0,0)))∧Aside0 (Below w.heap.size w w'))
    case atStart=>exact⟨(0),rs_,H',⟨Nat.le_refl _⟩,⟨bk_⟩,⟨hb_⟩⟩
    case round=>
     clear H'
     try clear c1
     try clear p2
     try clear c5
     try clear p6
     try clear c7
     try clear c7b0
     try clear c7b1
     try clear c11
     try clear aq
     try clear au
     try clear ay
     try clear az
     try clear av
     try clear aw
     try clear aA
     try clear aC
     try clear p2
     try clear p6
     obtain⟨ae,rfl,HA,HK2,af,HB⟩:=hrel
     cases gk with
     | zero=>exact absurd HA.out (by simp [spec_l06Is.l0])
     | succ k2=>
      have H:=HA.out
      clear HA
      simp only [spec_l06Is.l0] at H
      by_cases c12:ae < (aa.length:Int)
      ·rw [if_pos c12] at H
       have c12b0:decide (ae < (aa.length:Int))=true:=decide_eq_true c12
       clear c12
       by_cases c13:0≤ae
       ·rw [if_pos c13] at H
        have c13b0:decide (0≤ae)=true:=decide_eq_true c13
        clear c13
        replace H:=Option.bind_eq_some_iff.mp H
        obtain⟨aW,A140,H⟩:=H
        replace H:(if aW=true then(spec_l06Is.l1 k2 ae 0 a0_0 aa) else(some false))=some r:=H
        have A14:=Aside0.mk A140
        clear A140
        by_cases c15:aW=true
        ·subst c15
         have H1:(spec_l06Is.l1 k2 ae 0 a0_0 aa)=some r:=by rw [if_pos rfl] at H;exact H
         clear H
         have H:=H1
         clear H1
         have H':=Aside0.mk H
         clear H
         have aN:wr.cell? ⟨ag,0,none⟩=some (.int .i64 a0_0):=(blk_cell af.out 0).trans rfl
         have aT:wr.cell? ⟨ag,1,none⟩=some (.slice ai aa.length ah):=(blk_cell af.out 1).trans rfl
         have aU:=blk_frozen af.out 0
         have aV:=blk_frozen af.out 1
         have p930:0≤(ae:Int):=od_
         have q930:ae < (aa.length:Int):=od_
         obtain⟨aj,e930,hx930_0⟩:=Kd.at_int HR0_1.out ae p930 q930
         cases e930
         replace hx930_0:=(HB.out.cell (World.block_lt_of_cell? w _ hx930_0)).trans hx930_0
         replace p930:=eq_true p930
         replace q930:=eq_true q930
         go_wp2_with (first | (go_at_call 119;(with_reducible refine(spec_l01In.calls (rd aa ae) 0 (wrap64 ((aa.length:Int) - 1)) true _ A14.out).mono ?_);rintro e w' ⟨rfl,⟨nd,rfl⟩⟩;(try first | exact⟨rfl,_,World.drewN_drewN _ _ _⟩ | exact⟨rfl,_,Eq.trans (World.drewN_drewN _ _ _) (congrArg (World.drewN _) (Nat.add_assoc _ _ _))⟩)))
         repeat (go_quiet (first | (go_at_call 119;(with_reducible refine(spec_l01In.calls (rd aa ae) 0 (wrap64 ((aa.length:Int) - 1)) true _ A14.out).mono ?_);rintro e w' ⟨rfl,⟨nd,rfl⟩⟩;(try first | exact⟨rfl,_,World.drewN_drewN _ _ _⟩ | exact⟨rfl,_,Eq.trans (World.drewN_drewN _ _ _) (congrArg (World.drewN _) (Nat.add_assoc _ _ _))⟩)));try go_wp2_with (first | (go_at_call 119;(with_reducible refine(spec_l01In.calls (rd aa ae) 0 (wrap64 ((aa.length:Int) - 1)) true _ A14.out).mono ?_);rintro e w' ⟨rfl,⟨nd,rfl⟩⟩;(try first | exact⟨rfl,_,World.drewN_drewN _ _ _⟩ | exact⟨rfl,_,Eq.trans (World.drewN_drewN _ _ _) (congrArg (World.drewN _) (Nat.add_assoc _ _ _))⟩))))
         go_loopg [4] k2 (fun kq v4 w'=> ∃(ak:Int),v4= .int .i64 ak∧Aside0 (spec_l06Is.l1 kq ae ak a0_0 aa=some r)∧Aside0 (kq≤k2)∧Aside0 (w'.heap[ag]?=some (.cells #[.int .i64 a0_0,(.slice (some aj) aa.length ah)] 64 (0,0)))∧Aside0 (Below w.heap.size w w'))
         case atStart=>exact⟨(0),rs_,H',⟨Nat.le_refl _⟩,⟨bk_⟩,⟨hb_⟩⟩
         case round=>
          clear H'
          try clear c1
          try clear p2
          try clear c5
          try clear p6
          try clear c7
          try clear c7b0
          try clear c7b1
          try clear p9
          try clear q9
          try clear hx9
          try clear c11
          try clear c12
          try clear c12b0
          try clear c13
          try clear c13b0
          try clear c15
          try clear aq
          try clear au
          try clear aN
          try clear aT
          try clear ay
          try clear az
          try clear av
          try clear aw
          try clear aU
          try clear aV
          try clear aA
          try clear aC
          try clear hx930_0
          try clear p2
          try clear p6
          try clear p930
          try clear q930
          obtain⟨ak,rfl,HA,HK3,af,HB⟩:=hrel
          cases gk with
          | zero=>exact absurd HA.out (by simp [spec_l06Is.l1])
          | succ k3=>
           have H:=HA.out
           clear HA
           simp only [spec_l06Is.l1] at H
           by_cases c17:ak < a0_0
           ·rw [if_pos c17] at H
            have c17b0:decide (ak < a0_0)=true:=decide_eq_true c17
            clear c17
            obtain⟨ji18,hji18⟩: ∃j_:Int,(IntKind.u64.wrap (ak))=j_:=⟨_,rfl⟩
            replace H:(if 0≤(ji18) then(if 0≤ae then(if ae < (aa.length:Int) then(if 0≤(Go.bits .xor .i64 ae (shl .i64 1 (ji18))) then(if(Go.bits .xor .i64 ae (shl .i64 1 (ji18))) < (aa.length:Int) then(if(Go.bits .and .i64 (rd aa ae) (shl .i64 1 (ji18)))=(Go.bits .and .i64 (rd aa (Go.bits .xor .i64 ae (shl .i64 1 (ji18)))) (shl .i64 1 (ji18))) then(some false) else(spec_l06Is.l1 k3 ae (wrap64 (ak+1)) a0_0 aa)) else(none)) else(none)) else(none)) else(none)) else(none))=some r:=by first | (rw [hji18] at H;exact H) | (simp only [hji18] at H ⊢;exact H)
            by_cases c19:0≤(ji18)
            ·rw [if_pos c19] at H
             have c19b0:=eq_true c19
             have c19b1:decide (0≤(ji18))=true:=decide_eq_true c19
             clear c19
             obtain⟨ji20,hji20⟩: ∃j_:Int,(shl .i64 1 (ji18))=j_:=⟨_,rfl⟩
             replace H:(if 0≤ae then(if ae < (aa.length:Int) then(if 0≤(Go.bits .xor .i64 ae (ji20)) then(if(Go.bits .xor .i64 ae (ji20)) < (aa.length:Int) then(if(Go.bits .and .i64 (rd aa ae) (ji20))=(Go.bits .and .i64 (rd aa (Go.bits .xor .i64 ae (ji20))) (ji20)) then(some false) else(spec_l06Is.l1 k3 ae (wrap64 (ak+1)) a0_0 aa)) else(none)) else(none)) else(none)) else(none))=some r:=by first | (rw [hji20] at H;exact H) | (simp only [hji20] at H ⊢;exact H)
             have hji20_:(IntKind.i64.wrap (1*2 ^ min (ji18).toNat 64))=ji20:=hji20
             have hji20z:(ji18)≤64→(IntKind.i64.wrap (1*2 ^ (ji18).toNat))=ji20:=shl_small hji20
             have hji20u:(IntKind.i64.wrap (2 ^ min (ji18).toNat 64))=ji20:=by have h_:=hji20_;rw [Int.one_mul] at h_;exact h_
             have hji20v:(ji18)≤64→(IntKind.i64.wrap (2 ^ (ji18).toNat))=ji20:=fun hle_=>by have h_:=hji20z hle_;rw [Int.one_mul] at h_;exact h_
             have hji20y:(wrap64 (1*2 ^ min (ji18).toNat 64))=ji20:=(i64_w _).symm.trans hji20_
             have hji20x:(ji18)≤64→(wrap64 (1*2 ^ (ji18).toNat))=ji20:=fun h_=>(i64_w _).symm.trans (hji20z h_)
             by_cases c21:0≤ae
             ·rw [if_pos c21] at H
              have c21b0:decide (0≤ae)=true:=decide_eq_true c21
              clear c21
              by_cases c22:ae < (aa.length:Int)
              ·rw [if_pos c22] at H
               have c22b0:decide (ae < (aa.length:Int))=true:=decide_eq_true c22
               clear c22
               by_cases c23:0≤(Go.bits .xor .i64 ae (ji20))
               ·rw [if_pos c23] at H
                have c23b0:decide (0≤(Go.bits .xor .i64 ae (ji20)))=true:=decide_eq_true c23
                clear c23
                by_cases c24:(Go.bits .xor .i64 ae (ji20)) < (aa.length:Int)
                ·rw [if_pos c24] at H
                 have c24b0:decide ((Go.bits .xor .i64 ae (ji20)) < (aa.length:Int))=true:=decide_eq_true c24
                 clear c24
                 by_cases c25:(Go.bits .and .i64 (rd aa ae) (ji20))=(Go.bits .and .i64 (rd aa (Go.bits .xor .i64 ae (ji20))) (ji20))
                 ·rw [if_pos c25] at H
                  have c25b0:((Go.bits .and .i64 (rd aa ae) (ji20))==(Go.bits .and .i64 (rd aa (Go.bits .xor .i64 ae (ji20))) (ji20)))=true:=beq_iff_eq.mpr c25
                  have c25b1:((Go.bits .and .i64 (rd aa ae) (ji20)) !=(Go.bits .and .i64 (rd aa (Go.bits .xor .i64 ae (ji20))) (ji20)))=false:=bne_eq_false_iff_eq.mpr c25
                  clear c25
                  obtain rfl:=Option.some.inj H
                  have aX:wr.cell? ⟨ag,0,none⟩=some (.int .i64 a0_0):=(blk_cell af.out 0).trans rfl
                  have aY:wr.cell? ⟨ag,1,none⟩=some (.slice (some aj) aa.length ah):=(blk_cell af.out 1).trans rfl
                  have aZ:=blk_frozen af.out 0
                  have a9:=blk_frozen af.out 1
                  have p932:0≤(ae:Int):=od_
                  have q932:ae < (aa.length:Int):=od_
                  obtain⟨aG,e932,hx932_0⟩:=Kd.at_int HR0_1.out ae p932 q932
                  obtain rfl:aj=aG:=(by injection e932)
                  replace hx932_0:=(HB.out.cell (World.block_lt_of_cell? w _ hx932_0)).trans hx932_0
                  replace p932:=eq_true p932
                  replace q932:=eq_true q932
                  have p933:0≤((Go.bits .xor .i64 ae (ji20)):Int):=od_
                  have q933:(Go.bits .xor .i64 ae (ji20)) < (aa.length:Int):=od_
                  obtain⟨aH,e933,hx933_0⟩:=Kd.at_int HR0_1.out (Go.bits .xor .i64 ae (ji20)) p933 q933
                  obtain rfl:aj=aH:=(by injection e933)
                  replace hx933_0:=(HB.out.cell (World.block_lt_of_cell? w _ hx933_0)).trans hx933_0
                  replace p933:=eq_true p933
                  replace q933:=eq_true q933
                  go_wp2
                  repeat (go_quiet (fail);try go_wp2)
                  go_ret
                  exact⟨by first | rfl | (simp [errW_none,errW_some] <;> rfl) | (simp only [← hji18, ← hji20];first | rfl | (simp [errW_none,errW_some] <;> rfl)) | (simp [*,errW_none,errW_some] <;> rfl),hb_⟩
                 ·rw [if_neg c25] at H
                  have c25b0:((Go.bits .and .i64 (rd aa ae) (ji20))==(Go.bits .and .i64 (rd aa (Go.bits .xor .i64 ae (ji20))) (ji20)))=false:=beq_eq_false_iff_ne.mpr c25
                  have c25b1:((Go.bits .and .i64 (rd aa ae) (ji20)) !=(Go.bits .and .i64 (rd aa (Go.bits .xor .i64 ae (ji20))) (ji20)))=true:=bne_iff_ne.mpr c25
                  have H':=Aside0.mk H
                  clear H
                  have ba:wr.cell? ⟨ag,0,none⟩=some (.int .i64 a0_0):=(blk_cell af.out 0).trans rfl
                  have bb:wr.cell? ⟨ag,1,none⟩=some (.slice (some aj) aa.length ah):=(blk_cell af.out 1).trans rfl
                  have bf:=blk_frozen af.out 0
                  have bg:=blk_frozen af.out 1
                  have p932:0≤(ae:Int):=od_
                  have q932:ae < (aa.length:Int):=od_
                  obtain⟨aG,e932,hx932_0⟩:=Kd.at_int HR0_1.out ae p932 q932
                  obtain rfl:aj=aG:=(by injection e932)
                  replace hx932_0:=(HB.out.cell (World.block_lt_of_cell? w _ hx932_0)).trans hx932_0
                  replace p932:=eq_true p932
                  replace q932:=eq_true q932
                  have p933:0≤((Go.bits .xor .i64 ae (ji20)):Int):=od_
                  have q933:(Go.bits .xor .i64 ae (ji20)) < (aa.length:Int):=od_
                  obtain⟨aH,e933,hx933_0⟩:=Kd.at_int HR0_1.out (Go.bits .xor .i64 ae (ji20)) p933 q933
                  obtain rfl:aj=aH:=(by injection e933)
                  replace hx933_0:=(HB.out.cell (World.block_lt_of_cell? w _ hx933_0)).trans hx933_0
                  replace p933:=eq_true p933
                  replace q933:=eq_true q933
                  go_wp2
                  repeat (go_quiet (fail);try go_wp2)
                  go_roundg k3
                  case measure=>have:=HJ1.out;have:=HK2.out;have:=HK3.out;omega
                  case rel=>exact⟨(wrap64 (ak+1)),rs_,H',⟨by have:=HJ1.out;have:=HK2.out;have:=HK3.out;omega⟩,⟨bk_⟩,⟨hb_⟩⟩
                ·rw [if_neg c24] at H
                 exact absurd H (by simp)
               ·rw [if_neg c23] at H
                exact absurd H (by simp)
              ·rw [if_neg c22] at H
               exact absurd H (by simp)
             ·rw [if_neg c21] at H
              exact absurd H (by simp)
            ·rw [if_neg c19] at H
             exact absurd H (by simp)
           ·rw [if_neg c17] at H
            have c17b0:decide (ak < a0_0)=false:=decide_eq_false c17
            clear c17
            have H':=Aside0.mk H
            clear H
            have bh:wr.cell? ⟨ag,0,none⟩=some (.int .i64 a0_0):=(blk_cell af.out 0).trans rfl
            have bi:wr.cell? ⟨ag,1,none⟩=some (.slice (some aj) aa.length ah):=(blk_cell af.out 1).trans rfl
            have bk:=blk_frozen af.out 0
            have bn:=blk_frozen af.out 1
            go_wp2
            repeat (go_quiet (fail);try go_wp2)
            go_roundg k3
            case measure=>have:=HJ1.out;have:=HK2.out;have:=HK3.out;omega
            case rel=>exact⟨(wrap64 (ae+1)),rs_,H',⟨by have:=HJ1.out;have:=HK2.out;have:=HK3.out;omega⟩,⟨bk_⟩,⟨hb_⟩⟩
        ·replace c15:=Bool.eq_false_iff.mpr c15
         subst c15
         have H1:(some false)=some r:=by rw [if_neg (show ¬ (false=true) by decide)] at H;exact H
         clear H
         have H:=H1
         clear H1
         obtain rfl:=Option.some.inj H
         have bq:wr.cell? ⟨ag,0,none⟩=some (.int .i64 a0_0):=(blk_cell af.out 0).trans rfl
         have bu:wr.cell? ⟨ag,1,none⟩=some (.slice ai aa.length ah):=(blk_cell af.out 1).trans rfl
         have bv:=blk_frozen af.out 0
         have bw:=blk_frozen af.out 1
         have p930:0≤(ae:Int):=od_
         have q930:ae < (aa.length:Int):=od_
         obtain⟨aj,e930,hx930_0⟩:=Kd.at_int HR0_1.out ae p930 q930
         cases e930
         replace hx930_0:=(HB.out.cell (World.block_lt_of_cell? w _ hx930_0)).trans hx930_0
         replace p930:=eq_true p930
         replace q930:=eq_true q930
         go_wp2_with (first | (go_at_call 119;(with_reducible refine(spec_l01In.calls (rd aa ae) 0 (wrap64 ((aa.length:Int) - 1)) false _ A14.out).mono ?_);rintro e w' ⟨rfl,⟨nd,rfl⟩⟩;(try first | exact⟨rfl,_,World.drewN_drewN _ _ _⟩ | exact⟨rfl,_,Eq.trans (World.drewN_drewN _ _ _) (congrArg (World.drewN _) (Nat.add_assoc _ _ _))⟩)))
         repeat (go_quiet (first | (go_at_call 119;(with_reducible refine(spec_l01In.calls (rd aa ae) 0 (wrap64 ((aa.length:Int) - 1)) false _ A14.out).mono ?_);rintro e w' ⟨rfl,⟨nd,rfl⟩⟩;(try first | exact⟨rfl,_,World.drewN_drewN _ _ _⟩ | exact⟨rfl,_,Eq.trans (World.drewN_drewN _ _ _) (congrArg (World.drewN _) (Nat.add_assoc _ _ _))⟩)));try go_wp2_with (first | (go_at_call 119;(with_reducible refine(spec_l01In.calls (rd aa ae) 0 (wrap64 ((aa.length:Int) - 1)) false _ A14.out).mono ?_);rintro e w' ⟨rfl,⟨nd,rfl⟩⟩;(try first | exact⟨rfl,_,World.drewN_drewN _ _ _⟩ | exact⟨rfl,_,Eq.trans (World.drewN_drewN _ _ _) (congrArg (World.drewN _) (Nat.add_assoc _ _ _))⟩))))
         go_ret
         exact⟨by first | rfl | (simp [errW_none,errW_some] <;> rfl) | (simp [*,errW_none,errW_some] <;> rfl),hb_⟩
       ·rw [if_neg c13] at H
        exact absurd H (by simp)
      ·rw [if_neg c12] at H
       have c12b0:decide (ae < (aa.length:Int))=false:=decide_eq_false c12
       clear c12
       obtain rfl:=Option.some.inj H
       have bz:wr.cell? ⟨ag,0,none⟩=some (.int .i64 a0_0):=(blk_cell af.out 0).trans rfl
       have bA:wr.cell? ⟨ag,1,none⟩=some (.slice ai aa.length ah):=(blk_cell af.out 1).trans rfl
       have bC:=blk_frozen af.out 0
       have bD:=blk_frozen af.out 1
       go_wp2
       repeat (go_quiet (fail);try go_wp2)
       go_ret
       exact⟨by first | rfl | (simp [errW_none,errW_some] <;> rfl) | (simp [*,errW_none,errW_some] <;> rfl),hb_⟩
mutual
def spec_l06Unique.l0:Nat→Int→Int→List Int→Option (Bool)
 | 0,_,_,_=>none
 | k+1,x3,ae,aa=>if x3 < (aa.length:Int) then(spec_l06Unique.l1 k x3 0 ae aa) else(some true)
def spec_l06Unique.l1:Nat→Int→Int→Int→List Int→Option (Bool)
 | 0,_,_,_,_=>none
 | k+1,x3,x4,ae,aa=>if x4 < x3 then(if 0≤x3 then(if x3 < (aa.length:Int) then(if 0≤x4 then(if x4 < (aa.length:Int) then(if(Go.bits .and .i64 (Go.bits .xor .i64 (rd aa x3) (rd aa x4)) (Go.bits .xor .i64 x3 x4))=0 then(some false) else(spec_l06Unique.l1 k x3 (wrap64 (x4+1)) ae aa)) else(none)) else(none)) else(none)) else(none)) else(spec_l06Unique.l0 k (wrap64 (x3+1)) ae aa)
end
def spec_l06Unique.f (k:Nat) (a0_0:Int) (aa:List Int):Option (Bool):=spec_l06Unique.l0 k 0 a0_0 aa
theorem spec_l06Unique.mono_l: ∀k,(∀y0 y1 y2,LeO (spec_l06Unique.l0 k y0 y1 y2) (spec_l06Unique.l0 (k+1) y0 y1 y2))∧(∀y0 y1 y2 y3,LeO (spec_l06Unique.l1 k y0 y1 y2 y3) (spec_l06Unique.l1 (k+1) y0 y1 y2 y3))
 | 0=>⟨fun _ _ _ r h=>by simp [spec_l06Unique.l0] at h,fun _ _ _ _ r h=>by simp [spec_l06Unique.l1] at h⟩
 | k+1=>by
  obtain⟨ih0,ih1⟩:=spec_l06Unique.mono_l k
  refine⟨?_,?_⟩
  ·intro y0 y1 y2
   unfold spec_l06Unique.l0
   repeat' first
   | (with_reducible exact ih0 _ _ _)
   | (with_reducible exact ih1 _ _ _ _)
   | (with_reducible exact LeO.refl _)
   | (with_reducible exact LeO.none _)
   | (with_reducible refine LeO.ite ?_ ?_)
   | (with_reducible refine LeO.bind ?_ (fun _=>?_))
   | exact ih0 _ _ _
   | exact ih1 _ _ _ _
   | exact LeO.none _
   | refine LeO.ite ?_ ?_
   | refine LeO.bind ?_ (fun _=>?_)
  ·intro y0 y1 y2 y3
   unfold spec_l06Unique.l1
   repeat' first
   | (with_reducible exact ih0 _ _ _)
   | (with_reducible exact ih1 _ _ _ _)
   | (with_reducible exact LeO.refl _)
   | (with_reducible exact LeO.none _)
   | (with_reducible refine LeO.ite ?_ ?_)
   | (with_reducible refine LeO.bind ?_ (fun _=>?_))
   | exact ih0 _ _ _
   | exact ih1 _ _ _ _
   | exact LeO.none _
   | refine LeO.ite ?_ ?_
   | refine LeO.bind ?_ (fun _=>?_)
theorem spec_l06Unique.mono: ∀a0 a1 k,LeO (spec_l06Unique.f k a0 a1) (spec_l06Unique.f (k+1) a0 a1):=by
 intro a0 a1 k
 obtain⟨ih0,ih1⟩:=spec_l06Unique.mono_l k
 unfold spec_l06Unique.f
 repeat' first
   | (with_reducible exact ih0 _ _ _)
   | (with_reducible exact ih1 _ _ _ _)
   | (with_reducible exact LeO.refl _)
   | (with_reducible exact LeO.none _)
   | (with_reducible refine LeO.ite ?_ ?_)
   | (with_reducible refine LeO.bind ?_ (fun _=>?_))
   | exact ih0 _ _ _
   | exact ih1 _ _ _ _
   | exact LeO.none _
   | refine LeO.ite ?_ ?_
   | refine LeO.bind ?_ (fun _=>?_)
theorem spec_l06Unique.calls (k:Nat) (a0_0:Int) (ai:Option Addr) (aj:Nat) (aa:List Int) (r:Bool) (w:World) (au:Kd.C (Kd.int .i64) w ai aa.length aa) (av:aa.length≤aj) (h:spec_l06Unique.f k a0_0 aa=some r):
  Calls Try.prog 129 #[.agg #[.int .i64 a0_0, .slice ai aa.length aj]] w fun e w'=>e= .returned (.bool r)∧Below w.heap.size w w':=by
 have hu64:=Try.underlying64
 have HR0_1:=Aside0.mk au
 have HC0_1:=Aside0.mk av
 clear au av
 have HB:=Aside0.mk (Below.refl w.heap.size w)
 have H:(spec_l06Unique.l0 k 0 a0_0 aa)=some r:=h
 clear h
 have H':=Aside0.mk H
 clear H
 go_enter Try.func129,Try.ntmps129
 go_wp2_with (first | ((with_reducible refine gate_dst (N:=1) rfl ?_);refine box_event ?hg (N:=1) ?hd (cs:= #[.int .i64 a0_0, .slice ai aa.length aj]) (t:=64) ?hr ?_;(case hd=>rfl);(case hg=>rfl);(case hr=>first | (go_simp;done) | (go_simp;rfl));intro ah hg w2 hbox hb;have ag:=Aside0.mk (hbox);have aw:=Aside0.mk ((by rw [hg];exact bz_:w.heap.size≤ah));have ax:=Aside0.mk ((by rw [hg];exact bz_:w.heap.size≤ah));replace HB:=Aside0.mk (bs_ hb);clear hb hbox hg))
 repeat (go_quiet (first | ((with_reducible refine gate_dst (N:=1) rfl ?_);refine box_event ?hg (N:=1) ?hd (cs:= #[.int .i64 a0_0, .slice ai aa.length aj]) (t:=64) ?hr ?_;(case hd=>rfl);(case hg=>rfl);(case hr=>first | (go_simp;done) | (go_simp;rfl));intro ah hg w2 hbox hb;have ag:=Aside0.mk (hbox);have aw:=Aside0.mk ((by rw [hg];exact bz_:w.heap.size≤ah));have ax:=Aside0.mk ((by rw [hg];exact bz_:w.heap.size≤ah));replace HB:=Aside0.mk (bs_ hb);clear hb hbox hg));try go_wp2_with (first | ((with_reducible refine gate_dst (N:=1) rfl ?_);refine box_event ?hg (N:=1) ?hd (cs:= #[.int .i64 a0_0, .slice ai aa.length aj]) (t:=64) ?hr ?_;(case hd=>rfl);(case hg=>rfl);(case hr=>first | (go_simp;done) | (go_simp;rfl));intro ah hg w2 hbox hb;have ag:=Aside0.mk (hbox);have aw:=Aside0.mk ((by rw [hg];exact bz_:w.heap.size≤ah));have ax:=Aside0.mk ((by rw [hg];exact bz_:w.heap.size≤ah));replace HB:=Aside0.mk (bs_ hb);clear hb hbox hg)))
 go_loopg [3] k (fun kq v3 w'=> ∃(ae:Int),v3= .int .i64 ae∧Aside0 (spec_l06Unique.l0 kq ae a0_0 aa=some r)∧Aside0 (kq≤k)∧Aside0 (w'.heap[ah]?=some (.cells #[.int .i64 a0_0,(.slice ai aa.length aj)] 64 (0,0)))∧Aside0 (Below w.heap.size w w'))
 case atStart=>exact⟨(0),rs_,H',⟨Nat.le_refl _⟩,⟨bk_⟩,⟨hb_⟩⟩
 case round=>
  clear H'
  try clear c1
  try clear p2
  obtain⟨ae,rfl,HA,HK1,ag,HB⟩:=hrel
  cases gk with
  | zero=>exact absurd HA.out (by simp [spec_l06Unique.l0])
  | succ k1=>
   have H:=HA.out
   clear HA
   simp only [spec_l06Unique.l0] at H
   by_cases c3:ae < (aa.length:Int)
   ·rw [if_pos c3] at H
    have c3b0:decide (ae < (aa.length:Int))=true:=decide_eq_true c3
    clear c3
    have H':=Aside0.mk H
    clear H
    have ay:wr.cell? ⟨ah,0,none⟩=some (.int .i64 a0_0):=(blk_cell ag.out 0).trans rfl
    have az:wr.cell? ⟨ah,1,none⟩=some (.slice ai aa.length aj):=(blk_cell ag.out 1).trans rfl
    have aA:=blk_frozen ag.out 0
    have aC:=blk_frozen ag.out 1
    go_wp2
    repeat (go_quiet (fail);try go_wp2)
    go_loopg [4] k1 (fun kq v4 w'=> ∃(af:Int),v4= .int .i64 af∧Aside0 (spec_l06Unique.l1 kq ae af a0_0 aa=some r)∧Aside0 (kq≤k1)∧Aside0 (w'.heap[ah]?=some (.cells #[.int .i64 a0_0,(.slice ai aa.length aj)] 64 (0,0)))∧Aside0 (Below w.heap.size w w'))
    case atStart=>exact⟨(0),rs_,H',⟨Nat.le_refl _⟩,⟨bk_⟩,⟨hb_⟩⟩
    case round=>
     clear H'
     try clear c1
     try clear p2
     try clear c3
     try clear c3b0
     try clear ay
     try clear az
     try clear aA
     try clear aC
     try clear p2
     obtain⟨af,rfl,HA,HK2,ag,HB⟩:=hrel
     cases gk with
     | zero=>exact absurd HA.out (by simp [spec_l06Unique.l1])
     | succ k2=>
      have H:=HA.out
      clear HA
      simp only [spec_l06Unique.l1] at H
      by_cases c5:af < ae
      ·rw [if_pos c5] at H
       have c5b0:decide (af < ae)=true:=decide_eq_true c5
       clear c5
       by_cases c6:0≤ae
       ·rw [if_pos c6] at H
        have c6b0:decide (0≤ae)=true:=decide_eq_true c6
        clear c6
        by_cases c7:ae < (aa.length:Int)
        ·rw [if_pos c7] at H
         have c7b0:decide (ae < (aa.length:Int))=true:=decide_eq_true c7
         clear c7
         by_cases c8:0≤af
         ·rw [if_pos c8] at H
          have c8b0:decide (0≤af)=true:=decide_eq_true c8
          clear c8
          by_cases c9:af < (aa.length:Int)
          ·rw [if_pos c9] at H
           have c9b0:decide (af < (aa.length:Int))=true:=decide_eq_true c9
           clear c9
           by_cases c10:(Go.bits .and .i64 (Go.bits .xor .i64 (rd aa ae) (rd aa af)) (Go.bits .xor .i64 ae af))=0
           ·rw [if_pos c10] at H
            have c10b0:((Go.bits .and .i64 (Go.bits .xor .i64 (rd aa ae) (rd aa af)) (Go.bits .xor .i64 ae af))==0)=true:=beq_iff_eq.mpr c10
            have c10b1:((Go.bits .and .i64 (Go.bits .xor .i64 (rd aa ae) (rd aa af)) (Go.bits .xor .i64 ae af)) !=0)=false:=bne_eq_false_iff_eq.mpr c10
            clear c10
            obtain rfl:=Option.some.inj H
            have aD:wr.cell? ⟨ah,0,none⟩=some (.int .i64 a0_0):=(blk_cell ag.out 0).trans rfl
            have aG:wr.cell? ⟨ah,1,none⟩=some (.slice ai aa.length aj):=(blk_cell ag.out 1).trans rfl
            have aH:=blk_frozen ag.out 0
            have aI:=blk_frozen ag.out 1
            have p935:0≤(ae:Int):=od_
            have q935:ae < (aa.length:Int):=od_
            obtain⟨ak,e935,hx935_0⟩:=Kd.at_int HR0_1.out ae p935 q935
            cases e935
            replace hx935_0:=(HB.out.cell (World.block_lt_of_cell? w _ hx935_0)).trans hx935_0
            replace p935:=eq_true p935
            replace q935:=eq_true q935
            have p936:0≤(af:Int):=od_
            have q936:af < (aa.length:Int):=od_
            obtain⟨aq,e936,hx936_0⟩:=Kd.at_int HR0_1.out af p936 q936
            obtain rfl:ak=aq:=(by injection e936)
            replace hx936_0:=(HB.out.cell (World.block_lt_of_cell? w _ hx936_0)).trans hx936_0
            replace p936:=eq_true p936
            replace q936:=eq_true q936
            go_wp2
            repeat (go_quiet (fail);try go_wp2)
            go_ret
            exact⟨by first | rfl | (simp [errW_none,errW_some] <;> rfl) | (simp [*,errW_none,errW_some] <;> rfl),hb_⟩
           ·rw [if_neg c10] at H
            have c10b0:((Go.bits .and .i64 (Go.bits .xor .i64 (rd aa ae) (rd aa af)) (Go.bits .xor .i64 ae af))==0)=false:=beq_eq_false_iff_ne.mpr c10
            have c10b1:((Go.bits .and .i64 (Go.bits .xor .i64 (rd aa ae) (rd aa af)) (Go.bits .xor .i64 ae af)) !=0)=true:=bne_iff_ne.mpr c10
            have H':=Aside0.mk H
            clear H
            have aJ:wr.cell? ⟨ah,0,none⟩=some (.int .i64 a0_0):=(blk_cell ag.out 0).trans rfl
            have aK:wr.cell? ⟨ah,1,none⟩=some (.slice ai aa.length aj):=(blk_cell ag.out 1).trans rfl
            have aM:=blk_frozen ag.out 0
            have aN:=blk_frozen ag.out 1
            have p935:0≤(ae:Int):=od_
            have q935:ae < (aa.length:Int):=od_
            obtain⟨ak,e935,hx935_0⟩:=Kd.at_int HR0_1.out ae p935 q935
            cases e935
            replace hx935_0:=(HB.out.cell (World.block_lt_of_cell? w _ hx935_0)).trans hx935_0
            replace p935:=eq_true p935
            replace q935:=eq_true q935
            have p936:0≤(af:Int):=od_
            have q936:af < (aa.length:Int):=od_
            obtain⟨aq,e936,hx936_0⟩:=Kd.at_int HR0_1.out af p936 q936
            obtain rfl:ak=aq:=(by injection e936)
            replace hx936_0:=(HB.out.cell (World.block_lt_of_cell? w _ hx936_0)).trans hx936_0
            replace p936:=eq_true p936
            replace q936:=eq_true q936
            go_wp2
            repeat (go_quiet (fail);try go_wp2)
            go_roundg k2
            case measure=>have:=HK1.out;have:=HK2.out;omega
            case rel=>exact⟨(wrap64 (af+1)),rs_,H',⟨by have:=HK1.out;have:=HK2.out;omega⟩,⟨bk_⟩,⟨hb_⟩⟩
          ·rw [if_neg c9] at H
           exact absurd H (by simp)
         ·rw [if_neg c8] at H
          exact absurd H (by simp)
        ·rw [if_neg c7] at H
         exact absurd H (by simp)
       ·rw [if_neg c6] at H
        exact absurd H (by simp)
      ·rw [if_neg c5] at H
       have c5b0:decide (af < ae)=false:=decide_eq_false c5
       clear c5
       have H':=Aside0.mk H
       clear H
       go_wp2
       repeat (go_quiet (fail);try go_wp2)
       go_roundg k2
       case measure=>have:=HK1.out;have:=HK2.out;omega
       case rel=>exact⟨(wrap64 (ae+1)),rs_,H',⟨by have:=HK1.out;have:=HK2.out;omega⟩,⟨bk_⟩,⟨hb_⟩⟩
   ·rw [if_neg c3] at H
    have c3b0:decide (ae < (aa.length:Int))=false:=decide_eq_false c3
    clear c3
    obtain rfl:=Option.some.inj H
    have aT:wr.cell? ⟨ah,0,none⟩=some (.int .i64 a0_0):=(blk_cell ag.out 0).trans rfl
    have aU:wr.cell? ⟨ah,1,none⟩=some (.slice ai aa.length aj):=(blk_cell ag.out 1).trans rfl
    have aV:=blk_frozen ag.out 0
    have aW:=blk_frozen ag.out 1
    go_wp2
    repeat (go_quiet (fail);try go_wp2)
    go_ret
    exact⟨by first | rfl | (simp [errW_none,errW_some] <;> rfl) | (simp [*,errW_none,errW_some] <;> rfl),hb_⟩
def spec_HasUniqueSinks.f (k:Nat) (a0_0:Int) (aa:List Int):Option (Bool × Int):=(spec_l06Is.f k a0_0 aa).bind fun ae=>(if ae=true then((spec_l06Unique.f k a0_0 aa).bind fun af=>(some (af,0))) else(some (false,1)))
theorem spec_HasUniqueSinks.mono: ∀a0 a1 k,LeO (spec_HasUniqueSinks.f k a0 a1) (spec_HasUniqueSinks.f (k+1) a0 a1):=by
 intro a0 a1 k
 unfold spec_HasUniqueSinks.f
 repeat' first
   | (with_reducible exact spec_l06Is.mono _ _ _)
   | (with_reducible exact spec_l06Unique.mono _ _ _)
   | (with_reducible exact LeO.refl _)
   | (with_reducible exact LeO.none _)
   | (with_reducible refine LeO.ite ?_ ?_)
   | (with_reducible refine LeO.bind ?_ (fun _=>?_))
   | exact spec_l06Is.mono _ _ _
   | exact spec_l06Unique.mono _ _ _
   | exact LeO.none _
   | refine LeO.ite ?_ ?_
   | refine LeO.bind ?_ (fun _=>?_)
theorem spec_HasUniqueSinks.calls (k:Nat) (a0_0:Int) (ag:Option Addr) (ah:Nat) (ae:List Int) (r1:Bool) (r2:Int) (w:World) (au:Kd.C (Kd.int .i64) w ag ae.length ae) (av:ae.length≤ah) (h:spec_HasUniqueSinks.f k a0_0 ae=some (r1,r2)):
  Calls Try.prog 41 #[.agg #[.int .i64 a0_0, .slice ag ae.length ah]] w fun e w'=>e= .returned (.tuple #[.bool r1, .int .i64 r2])∧Below w.heap.size w w':=by
 have hu64:=Try.underlying64
 have HR0_1:=Aside0.mk au
 have HC0_1:=Aside0.mk av
 clear au av
 have HB:=Aside0.mk (Below.refl w.heap.size w)
 have H:((spec_l06Is.f k a0_0 ae).bind fun aq=>(if aq=true then((spec_l06Unique.f k a0_0 ae).bind fun ai=>(some (ai,0))) else(some (false,1))))=some (r1,r2):=h
 clear h
 replace H:=Option.bind_eq_some_iff.mp H
 obtain⟨aq,A20,H⟩:=H
 replace H:(if aq=true then((spec_l06Unique.f k a0_0 ae).bind fun ai=>(some (ai,0))) else(some (false,1)))=some (r1,r2):=H
 have A2:=Aside0.mk A20
 clear A20
 by_cases c3:aq=true
 ·subst c3
  have H1:((spec_l06Unique.f k a0_0 ae).bind fun ai=>(some (ai,0)))=some (r1,r2):=by rw [if_pos rfl] at H;exact H
  clear H
  have H:=H1
  clear H1
  replace H:=Option.bind_eq_some_iff.mp H
  obtain⟨ai,A40,H⟩:=H
  replace H:(some (ai,0))=some (r1,r2):=H
  have A4:=Aside0.mk A40
  clear A40
  simp only [Option.some.injEq,Prod.mk.injEq] at H
  obtain⟨rfl,rfl⟩:=H
  go_enter Try.func41,Try.ntmps41
  go_wp2_with (first | ((with_reducible refine gate_dst (N:=1) rfl ?_);refine box_event ?hg (N:=1) ?hd (cs:= #[.int .i64 a0_0, .slice ag ae.length ah]) (t:=64) ?hr ?_;(case hd=>rfl);(case hg=>rfl);(case hr=>first | (go_simp;done) | (go_simp;rfl));intro af hg w5 hbox hb;have aa:=Aside0.mk (hbox);have aw:=Aside0.mk ((by rw [hg];exact bz_:w.heap.size≤af));have ax:=Aside0.mk ((by rw [hg];exact bz_:w.heap.size≤af));replace HB:=Aside0.mk (bs_ hb);clear hb hbox hg;have aD:w5.cell? ⟨af,0,none⟩=some (.int .i64 a0_0):=(blk_cell aa.out 0).trans rfl;have aG:w5.cell? ⟨af,1,none⟩=some (.slice ag ae.length ah):=(blk_cell aa.out 1).trans rfl;have aH:=blk_frozen aa.out 0;have aI:=blk_frozen aa.out 1) | ((with_reducible refine gate_callee (f:=128) rfl ?_);refine gL_ 5 Try.func128 #[.agg #[.int .i64 a0_0, .slice ag ae.length ah]] ?_;(with_reducible refine(spec_l06Is.calls k a0_0 _ _ ae true _ ?aj ?ak A2.out).mono ?_);(case aj=>exact cb_ HR0_1.out HB.out);(case ak=>exact HC0_1.out);rintro e w7 ⟨rfl,hb⟩;refine⟨_,rfl,?_⟩;replace aa:=Aside0.mk (bb_ aa.out hb);replace HB:=Aside0.mk (bs_ hb);(try clear hb);(try clear hb2);(try clear hk);(try clear hi);have aJ:w7.cell? ⟨af,0,none⟩=some (.int .i64 a0_0):=(blk_cell aa.out 0).trans rfl;have aK:w7.cell? ⟨af,1,none⟩=some (.slice ag ae.length ah):=(blk_cell aa.out 1).trans rfl;have aM:=blk_frozen aa.out 0;have aN:=blk_frozen aa.out 1) | ((with_reducible refine gate_callee (f:=129) rfl ?_);refine gL_ 8 Try.func129 #[.agg #[.int .i64 a0_0, .slice ag ae.length ah]] ?_;(with_reducible refine(spec_l06Unique.calls k a0_0 _ _ ae ai _ ?aj ?ak A4.out).mono ?_);(case aj=>exact cb_ HR0_1.out HB.out);(case ak=>exact HC0_1.out);rintro e w9 ⟨rfl,hb⟩;refine⟨_,rfl,?_⟩;replace aa:=Aside0.mk (bb_ aa.out hb);replace HB:=Aside0.mk (bs_ hb);(try clear hb);(try clear hb2);(try clear hk);(try clear hi)))
  go_ret2
  exact⟨by first | rfl | (simp [errW_none,errW_some] <;> rfl) | (simp [*,errW_none,errW_some] <;> rfl),hb_⟩
 ·replace c3:=Bool.eq_false_iff.mpr c3
  subst c3
  have H1:(some (false,1))=some (r1,r2):=by rw [if_neg (show ¬ (false=true) by decide)] at H;exact H
  clear H
  have H:=H1
  clear H1
  simp only [Option.some.injEq,Prod.mk.injEq] at H
  obtain⟨rfl,rfl⟩:=H
  go_enter Try.func41,Try.ntmps41
  go_wp2_with (first | ((with_reducible refine gate_dst (N:=1) rfl ?_);refine box_event ?hg (N:=1) ?hd (cs:= #[.int .i64 a0_0, .slice ag ae.length ah]) (t:=64) ?hr ?_;(case hd=>rfl);(case hg=>rfl);(case hr=>first | (go_simp;done) | (go_simp;rfl));intro af hg w10 hbox hb;have aa:=Aside0.mk (hbox);have aw:=Aside0.mk ((by rw [hg];exact bz_:w.heap.size≤af));have ax:=Aside0.mk ((by rw [hg];exact bz_:w.heap.size≤af));replace HB:=Aside0.mk (bs_ hb);clear hb hbox hg;have ay:w10.cell? ⟨af,0,none⟩=some (.int .i64 a0_0):=(blk_cell aa.out 0).trans rfl;have az:w10.cell? ⟨af,1,none⟩=some (.slice ag ae.length ah):=(blk_cell aa.out 1).trans rfl;have aA:=blk_frozen aa.out 0;have aC:=blk_frozen aa.out 1) | ((with_reducible refine gate_callee (f:=128) rfl ?_);refine gL_ 5 Try.func128 #[.agg #[.int .i64 a0_0, .slice ag ae.length ah]] ?_;(with_reducible refine(spec_l06Is.calls k a0_0 _ _ ae false _ ?aj ?ak A2.out).mono ?_);(case aj=>exact cb_ HR0_1.out HB.out);(case ak=>exact HC0_1.out);rintro e w12 ⟨rfl,hb⟩;refine⟨_,rfl,?_⟩;replace aa:=Aside0.mk (bb_ aa.out hb);replace HB:=Aside0.mk (bs_ hb);(try clear hb);(try clear hb2);(try clear hk);(try clear hi)))
  go_ret2
  exact⟨by first | rfl | (simp [errW_none,errW_some] <;> rfl) | (simp [*,errW_none,errW_some] <;> rfl),hb_⟩
def spec_IsCube.f (k:Nat) (a0_0:Int) (aa:List Int):Option (Bool):=(spec_l06Is.f k a0_0 aa).bind fun ae=>(some ae)
theorem spec_IsCube.mono: ∀a0 a1 k,LeO (spec_IsCube.f k a0 a1) (spec_IsCube.f (k+1) a0 a1):=by
 intro a0 a1 k
 unfold spec_IsCube.f
 repeat' first
   | (with_reducible exact spec_l06Is.mono _ _ _)
   | (with_reducible exact LeO.refl _)
   | (with_reducible exact LeO.none _)
   | (with_reducible refine LeO.ite ?_ ?_)
   | (with_reducible refine LeO.bind ?_ (fun _=>?_))
   | exact spec_l06Is.mono _ _ _
   | exact LeO.none _
   | refine LeO.ite ?_ ?_
   | refine LeO.bind ?_ (fun _=>?_)
theorem spec_IsCube.calls (k:Nat) (a0_0:Int) (ag:Option Addr) (ah:Nat) (aa:List Int) (r:Bool) (w:World) (aj:Kd.C (Kd.int .i64) w ag aa.length aa) (ak:aa.length≤ah) (h:spec_IsCube.f k a0_0 aa=some r):
  Calls Try.prog 43 #[.agg #[.int .i64 a0_0, .slice ag aa.length ah]] w fun e w'=>e= .returned (.bool r)∧Below w.heap.size w w':=by
 have hu64:=Try.underlying64
 have HR0_1:=Aside0.mk aj
 have HC0_1:=Aside0.mk ak
 clear aj ak
 have HB:=Aside0.mk (Below.refl w.heap.size w)
 have H:((spec_l06Is.f k a0_0 aa).bind fun ai=>(some ai))=some r:=h
 clear h
 replace H:=Option.bind_eq_some_iff.mp H
 obtain⟨ai,A20,H⟩:=H
 replace H:(some ai)=some r:=H
 have A2:=Aside0.mk A20
 clear A20
 obtain rfl:=Option.some.inj H
 go_enter Try.func43,Try.ntmps43
 go_wp2_with (first | ((with_reducible refine gate_dst (N:=1) rfl ?_);refine box_event ?hg (N:=1) ?hd (cs:= #[.int .i64 a0_0, .slice ag aa.length ah]) (t:=64) ?hr ?_;(case hd=>rfl);(case hg=>rfl);(case hr=>first | (go_simp;done) | (go_simp;rfl));intro af hg w3 hbox hb;have ae:=Aside0.mk (hbox);have az:=Aside0.mk ((by rw [hg];exact bz_:w.heap.size≤af));have aA:=Aside0.mk ((by rw [hg];exact bz_:w.heap.size≤af));replace HB:=Aside0.mk (bs_ hb);clear hb hbox hg;have av:w3.cell? ⟨af,0,none⟩=some (.int .i64 a0_0):=(blk_cell ae.out 0).trans rfl;have aw:w3.cell? ⟨af,1,none⟩=some (.slice ag aa.length ah):=(blk_cell ae.out 1).trans rfl;have ax:=blk_frozen ae.out 0;have ay:=blk_frozen ae.out 1) | ((with_reducible refine gate_callee (f:=128) rfl ?_);refine gL_ 4 Try.func128 #[.agg #[.int .i64 a0_0, .slice ag aa.length ah]] ?_;(with_reducible refine(spec_l06Is.calls k a0_0 _ _ aa ai _ ?aq ?au A2.out).mono ?_);(case aq=>exact cb_ HR0_1.out HB.out);(case au=>exact HC0_1.out);rintro e w5 ⟨rfl,hb⟩;refine⟨_,rfl,?_⟩;replace ae:=Aside0.mk (bb_ ae.out hb);replace HB:=Aside0.mk (bs_ hb);(try clear hb);(try clear hb2);(try clear hk);(try clear hi)))
 go_ret
 exact⟨by first | rfl | (simp [errW_none,errW_some] <;> rfl) | (simp [*,errW_none,errW_some] <;> rfl),hb_⟩
def impl_SinksOf.l0:Nat→List Int→List Int→Int→Int→Option (List Int × Int)
 | 0,_,_,_,_=>none
 | k+1,x4,x11,x12,x13=>if x13 < x12 then(if 0≤x13 then(if x13 < (x11.length:Int) then(if(rd x11 x13)=0 then(if x4.length < 17592186044416 then(impl_SinksOf.l0 k (x4++ [x13]) x11 x12 (wrap64 (x13+1))) else(none)) else(impl_SinksOf.l0 k x4 x11 x12 (wrap64 (x13+1)))) else(none)) else(none)) else(some (x4,0))
def impl_SinksOf.f (k:Nat) (a0_0:Int) (aa:List Int):Option (List Int × Int):=(impl_IsCube.f k a0_0 aa).bind fun ae=>(if ae=true then(impl_SinksOf.l0 k ([]:List Int) aa (aa.length:Int) 0) else(some (([]:List Int),1)))
theorem impl_SinksOf.mono_l: ∀k,(∀y0 y1 y2 y3,LeO (impl_SinksOf.l0 k y0 y1 y2 y3) (impl_SinksOf.l0 (k+1) y0 y1 y2 y3))
 | 0=>fun _ _ _ _ r h=>by simp [impl_SinksOf.l0] at h
 | k+1=>by
  have ih0:=impl_SinksOf.mono_l k
  ·intro y0 y1 y2 y3
   unfold impl_SinksOf.l0
   repeat' first
   | (with_reducible exact ih0 _ _ _ _)
   | (with_reducible exact impl_IsCube.mono _ _ _)
   | (with_reducible exact LeO.refl _)
   | (with_reducible exact LeO.none _)
   | (with_reducible refine LeO.ite ?_ ?_)
   | (with_reducible refine LeO.bind ?_ (fun _=>?_))
   | exact ih0 _ _ _ _
   | exact impl_IsCube.mono _ _ _
   | exact LeO.none _
   | refine LeO.ite ?_ ?_
   | refine LeO.bind ?_ (fun _=>?_)
theorem impl_SinksOf.mono: ∀a0 a1 k,LeO (impl_SinksOf.f k a0 a1) (impl_SinksOf.f (k+1) a0 a1):=by
 intro a0 a1 k
 have ih0:=impl_SinksOf.mono_l k
 unfold impl_SinksOf.f
 repeat' first
   | (with_reducible exact ih0 _ _ _ _)
   | (with_reducible exact impl_IsCube.mono _ _ _)
   | (with_reducible exact LeO.refl _)
   | (with_reducible exact LeO.none _)
   | (with_reducible refine LeO.ite ?_ ?_)
   | (with_reducible refine LeO.bind ?_ (fun _=>?_))
   | exact ih0 _ _ _ _
   | exact impl_IsCube.mono _ _ _
   | exact LeO.none _
   | refine LeO.ite ?_ ?_
   | refine LeO.bind ?_ (fun _=>?_)
theorem impl_SinksOf.calls (k:Nat) (a0_0:Int) (ah:Option Addr) (ai:Nat) (aa:List Int) (r1:List Int) (r2:Int) (w:World) (aw:Kd.C (Kd.int .i64) w ah aa.length aa) (ax:aa.length≤ai) (h:impl_SinksOf.f k a0_0 aa=some (r1,r2)):
  Calls Try.prog 44 #[.agg #[.int .i64 a0_0, .slice ah aa.length ai]] w fun e w'=> ∃v0_:Value,e= .returned (.tuple #[v0_, .int .i64 r2])∧Kd.R (Kd.int .i64) 2 w' w.heap.size (fun _=>True) v0_ r1∧Below w.heap.size w w':=by
 have hu64:=Try.underlying64
 have HR0_1:=Aside0.mk aw
 have HC0_1:=Aside0.mk ax
 clear aw ax
 have HB:=Aside0.mk (Below.refl w.heap.size w)
 have H:((impl_IsCube.f k a0_0 aa).bind fun aq=>(if aq=true then(impl_SinksOf.l0 k ([]:List Int) aa (aa.length:Int) 0) else(some (([]:List Int),1))))=some (r1,r2):=h
 clear h
 replace H:=Option.bind_eq_some_iff.mp H
 obtain⟨aq,A20,H⟩:=H
 replace H:(if aq=true then(impl_SinksOf.l0 k ([]:List Int) aa (aa.length:Int) 0) else(some (([]:List Int),1)))=some (r1,r2):=H
 have A2:=Aside0.mk A20
 clear A20
 by_cases c3:aq=true
 ·subst c3
  have H1:(impl_SinksOf.l0 k ([]:List Int) aa (aa.length:Int) 0)=some (r1,r2):=by rw [if_pos rfl] at H;exact H
  clear H
  have H:=H1
  clear H1
  have H':=Aside0.mk H
  clear H
  go_enter Try.func44,Try.ntmps44
  go_wp2_with (first | ((with_reducible refine gate_dst (N:=1) rfl ?_);refine box_event ?hg (N:=1) ?hd (cs:= #[.int .i64 a0_0, .slice ah aa.length ai]) (t:=64) ?hr ?_;(case hd=>rfl);(case hg=>rfl);(case hr=>first | (go_simp;done) | (go_simp;rfl));intro ag hg w4 hbox hb;have af:=Aside0.mk (hbox);have aK:=Aside0.mk ((by rw [hg];exact bz_:w.heap.size≤ag));have aM:=Aside0.mk ((by rw [hg];exact bz_:w.heap.size≤ag));replace HB:=Aside0.mk (bs_ hb);clear hb hbox hg;have ay:w4.cell? ⟨ag,0,none⟩=some (.int .i64 a0_0):=(blk_cell af.out 0).trans rfl;have az:w4.cell? ⟨ag,1,none⟩=some (.slice ah aa.length ai):=(blk_cell af.out 1).trans rfl;have aA:=blk_frozen af.out 0;have aC:=blk_frozen af.out 1) | ((with_reducible refine gate_callee (f:=42) rfl ?_);refine gL_ 8 Try.func42 #[.agg #[.int .i64 a0_0, .slice ah aa.length ai]] ?_;(with_reducible refine(impl_IsCube.calls k a0_0 _ _ aa true _ ?au ?av A2.out).mono ?_);(case au=>exact cb_ HR0_1.out HB.out);(case av=>exact HC0_1.out);rintro e w6 ⟨rfl,hb⟩;refine⟨_,rfl,?_⟩;replace af:=Aside0.mk (bb_ af.out hb);replace HB:=Aside0.mk (bs_ hb);(try clear hb);(try clear hb2);(try clear hk);(try clear hi);have aD:w6.cell? ⟨ag,0,none⟩=some (.int .i64 a0_0):=(blk_cell af.out 0).trans rfl;have aG:w6.cell? ⟨ag,1,none⟩=some (.slice ah aa.length ai):=(blk_cell af.out 1).trans rfl;have aH:=blk_frozen af.out 0;have aI:=blk_frozen af.out 1))
  go_loopg [4,13] k (fun kq v4 v13 w'=> ∃(aj:List Int) (ae:Int),v13= .int .i64 ae∧Aside0 (impl_SinksOf.l0 kq aj aa (aa.length:Int) ae=some (r1,r2))∧Aside0 (kq≤k)∧Aside0 (Kd.R (Kd.int .i64) 2 w' w.heap.size (fun _=>True) v4 aj)∧Aside0 (w'.heap[ag]?=some (.cells #[.int .i64 a0_0,(.slice ah aa.length ai)] 64 (0,0)))∧Aside0 (Below w.heap.size w w'))
  case atStart=>exact⟨(([]:List Int)),(0),rs_,H',⟨Nat.le_refl _⟩,⟨by first | exact Kd.R_nil _ _ _ _ _ | exact Kd.N_nil _ _ _ _ _ | exact Kd.V_nil _ _ _ _ _ | exact Kd.Q_nil _ _ _ _ _ | exact Kd.S_nil _ _ _ _ _⟩,⟨bk_⟩,⟨hb_⟩⟩
  case round=>
   clear H'
   try clear p2
   try clear c3
   try clear c4
   try clear ay
   try clear az
   try clear aD
   try clear aG
   try clear aA
   try clear aC
   try clear aH
   try clear aI
   obtain⟨aj,ae,rfl,HA,HK1,ak,af,HB⟩:=hrel
   cases gk with
   | zero=>exact absurd HA.out (by simp [impl_SinksOf.l0])
   | succ k1=>
    have H:=HA.out
    clear HA
    simp only [impl_SinksOf.l0] at H
    by_cases c8:ae < (aa.length:Int)
    ·rw [if_pos c8] at H
     have c8b0:decide (ae < (aa.length:Int))=true:=decide_eq_true c8
     clear c8
     by_cases c9:0≤ae
     ·rw [if_pos c9] at H
      have c9b0:decide (0≤ae)=true:=decide_eq_true c9
      clear c9
      by_cases c10:ae < (aa.length:Int)
      ·rw [if_pos c10] at H
       have c10b0:decide (ae < (aa.length:Int))=true:=decide_eq_true c10
       clear c10
       by_cases c11:(rd aa ae)=0
       ·rw [if_pos c11] at H
        have c11b0:((rd aa ae)==0)=true:=beq_iff_eq.mpr c11
        have c11b1:((rd aa ae) !=0)=false:=bne_eq_false_iff_eq.mpr c11
        clear c11
        by_cases c12:aj.length < 17592186044416
        ·rw [if_pos c12] at H
         have aN:=Aside0.mk c12
         clear c12
         obtain⟨aJ,hy945⟩: ∃y_:List Int,y_=(aj++ [ae]):=⟨_,rfl⟩
         replace H:(impl_SinksOf.l0 k1 aJ aa (aa.length:Int) (wrap64 (ae+1)))=some (r1,r2):=by first | (rw [hy945];with_reducible exact H) | (have H2_:=(Option.bind_some _ _).symm.trans H;rw [hy945];with_reducible exact H2_) | (have H2_:=(Option.bind_some _ _).symm.trans H;with_reducible exact H2_) | with_reducible exact H | (rw [hy945];exact H) | exact H
         have aT:=Aside0.mk hy945
         clear hy945
         have H':=Aside0.mk H
         clear H
         have p944:0≤(ae:Int):=od_
         have q944:ae < (aa.length:Int):=od_
         obtain⟨aU,e944,hx944_0⟩:=Kd.at_int HR0_1.out ae p944 q944
         cases e944
         replace hx944_0:=(HB.out.cell (World.block_lt_of_cell? w _ hx944_0)).trans hx944_0
         replace p944:=eq_true p944
         replace q944:=eq_true q944
         go_wp2_with (first | ((with_reducible refine gate_builtin (b:= .append) (xs:= #[.tmp 20, .tmp 22]) rfl ?_);at_builtin;refine Kd.R_append (Kd.int .i64) (w0:=w) w.heap.size rfl (.tmp 20) (.tmp 22) 23 2 (.int .i64 0) 8 rfl Try.underlying23 info2 rfl (by decide) (by omega) u4 aj ae [.int .i64 ae] (fun _=>True) (fun _=>False) rfl rfl ?aP (fun _ hk=>hk.elim) ?aF ?aO ?aB ?aS ?aL ?_;(case aP=>exact rfl);(case aB=>exact hb_);(case aF=>exact(fun _ _=>trivial));(case aO=>exact(ro_ ak.out));(case aS=>exact bz_);(case aL=>have:=aN.out;omega);intro a9 w13 ho hb hg hat;rw [← aT.out] at ho;replace af:=Aside0.mk (bg_ af.out hg (Kd.R_ne ak.out af.out (by decide)));replace HB:=Aside0.mk (hb);have aV:=Aside0.mk (ho);clear ak ho hb hg hat))
         go_roundg k1
         case measure=>have:=HK1.out;omega
         case rel=>exact⟨(aJ),(wrap64 (ae+1)),rs_,H',⟨by have:=HK1.out;omega⟩,⟨ro_ aV.out⟩,⟨bk_⟩,⟨hb_⟩⟩
        ·rw [if_neg c12] at H
         exact absurd H (by simp)
       ·rw [if_neg c11] at H
        have c11b0:((rd aa ae)==0)=false:=beq_eq_false_iff_ne.mpr c11
        have c11b1:((rd aa ae) !=0)=true:=bne_iff_ne.mpr c11
        have H':=Aside0.mk H
        clear H
        have p944:0≤(ae:Int):=od_
        have q944:ae < (aa.length:Int):=od_
        obtain⟨aU,e944,hx944_0⟩:=Kd.at_int HR0_1.out ae p944 q944
        cases e944
        replace hx944_0:=(HB.out.cell (World.block_lt_of_cell? w _ hx944_0)).trans hx944_0
        replace p944:=eq_true p944
        replace q944:=eq_true q944
        go_wp2
        go_roundg k1
        case measure=>have:=HK1.out;omega
        case rel=>exact⟨(aj),(wrap64 (ae+1)),rs_,H',⟨by have:=HK1.out;omega⟩,⟨ro_ ak.out⟩,⟨bk_⟩,⟨hb_⟩⟩
      ·rw [if_neg c10] at H
       exact absurd H (by simp)
     ·rw [if_neg c9] at H
      exact absurd H (by simp)
    ·rw [if_neg c8] at H
     have c8b0:decide (ae < (aa.length:Int))=false:=decide_eq_false c8
     clear c8
     simp only [Option.some.injEq,Prod.mk.injEq] at H
     obtain⟨rfl,rfl⟩:=H
     go_wp2
     go_ret2
     exact⟨_,by first | rfl | (simp [errW_none,errW_some] <;> rfl) | (simp [*,errW_none,errW_some] <;> rfl),ro_ ak.out,hb_⟩
 ·replace c3:=Bool.eq_false_iff.mpr c3
  subst c3
  have H1:(some (([]:List Int),1))=some (r1,r2):=by rw [if_neg (show ¬ (false=true) by decide)] at H;exact H
  clear H
  have H:=H1
  clear H1
  simp only [Option.some.injEq,Prod.mk.injEq] at H
  obtain⟨rfl,rfl⟩:=H
  go_enter Try.func44,Try.ntmps44
  go_wp2_with (first | ((with_reducible refine gate_dst (N:=1) rfl ?_);refine box_event ?hg (N:=1) ?hd (cs:= #[.int .i64 a0_0, .slice ah aa.length ai]) (t:=64) ?hr ?_;(case hd=>rfl);(case hg=>rfl);(case hr=>first | (go_simp;done) | (go_simp;rfl));intro ag hg w14 hbox hb;have af:=Aside0.mk (hbox);have aK:=Aside0.mk ((by rw [hg];exact bz_:w.heap.size≤ag));have aM:=Aside0.mk ((by rw [hg];exact bz_:w.heap.size≤ag));replace HB:=Aside0.mk (bs_ hb);clear hb hbox hg;have aW:w14.cell? ⟨ag,0,none⟩=some (.int .i64 a0_0):=(blk_cell af.out 0).trans rfl;have aX:w14.cell? ⟨ag,1,none⟩=some (.slice ah aa.length ai):=(blk_cell af.out 1).trans rfl;have aY:=blk_frozen af.out 0;have aZ:=blk_frozen af.out 1) | ((with_reducible refine gate_callee (f:=42) rfl ?_);refine gL_ 8 Try.func42 #[.agg #[.int .i64 a0_0, .slice ah aa.length ai]] ?_;(with_reducible refine(impl_IsCube.calls k a0_0 _ _ aa false _ ?au ?av A2.out).mono ?_);(case au=>exact cb_ HR0_1.out HB.out);(case av=>exact HC0_1.out);rintro e w16 ⟨rfl,hb⟩;refine⟨_,rfl,?_⟩;replace af:=Aside0.mk (bb_ af.out hb);replace HB:=Aside0.mk (bs_ hb);(try clear hb);(try clear hb2);(try clear hk);(try clear hi)))
  go_ret2
  exact⟨_,by first | rfl | (simp [errW_none,errW_some] <;> rfl) | (simp [*,errW_none,errW_some] <;> rfl),by first | exact Kd.R_nil _ _ _ _ _ | exact Kd.N_nil _ _ _ _ _ | exact Kd.V_nil _ _ _ _ _ | exact Kd.Q_nil _ _ _ _ _ | exact Kd.S_nil _ _ _ _ _,hb_⟩
def spec_SinksOf.l0:Nat→List Int→Int→Int→List Int→Option (List Int × Int)
 | 0,_,_,_,_=>none
 | k+1,x4,x5,ae,aa=>if x5 < (aa.length:Int) then(if 0≤x5 then(if(rd aa x5)=0 then(if x4.length < 17592186044416 then(spec_SinksOf.l0 k (x4++ [x5]) (wrap64 (x5+1)) ae aa) else(none)) else(spec_SinksOf.l0 k x4 (wrap64 (x5+1)) ae aa)) else(none)) else(some (x4,0))
def spec_SinksOf.f (k:Nat) (a0_0:Int) (aa:List Int):Option (List Int × Int):=(spec_l06Is.f k a0_0 aa).bind fun ae=>(if ae=true then(spec_SinksOf.l0 k (([]:List Int)) 0 a0_0 aa) else(some (([]:List Int),1)))
theorem spec_SinksOf.mono_l: ∀k,(∀y0 y1 y2 y3,LeO (spec_SinksOf.l0 k y0 y1 y2 y3) (spec_SinksOf.l0 (k+1) y0 y1 y2 y3))
 | 0=>fun _ _ _ _ r h=>by simp [spec_SinksOf.l0] at h
 | k+1=>by
  have ih0:=spec_SinksOf.mono_l k
  ·intro y0 y1 y2 y3
   unfold spec_SinksOf.l0
   repeat' first
   | (with_reducible exact ih0 _ _ _ _)
   | (with_reducible exact spec_l06Is.mono _ _ _)
   | (with_reducible exact LeO.refl _)
   | (with_reducible exact LeO.none _)
   | (with_reducible refine LeO.ite ?_ ?_)
   | (with_reducible refine LeO.bind ?_ (fun _=>?_))
   | exact ih0 _ _ _ _
   | exact spec_l06Is.mono _ _ _
   | exact LeO.none _
   | refine LeO.ite ?_ ?_
   | refine LeO.bind ?_ (fun _=>?_)
theorem spec_SinksOf.mono: ∀a0 a1 k,LeO (spec_SinksOf.f k a0 a1) (spec_SinksOf.f (k+1) a0 a1):=by
 intro a0 a1 k
 have ih0:=spec_SinksOf.mono_l k
 unfold spec_SinksOf.f
 repeat' first
   | (with_reducible exact ih0 _ _ _ _)
   | (with_reducible exact spec_l06Is.mono _ _ _)
   | (with_reducible exact LeO.refl _)
   | (with_reducible exact LeO.none _)
   | (with_reducible refine LeO.ite ?_ ?_)
   | (with_reducible refine LeO.bind ?_ (fun _=>?_))
   | exact ih0 _ _ _ _
   | exact spec_l06Is.mono _ _ _
   | exact LeO.none _
   | refine LeO.ite ?_ ?_
   | refine LeO.bind ?_ (fun _=>?_)
theorem spec_SinksOf.calls (k:Nat) (a0_0:Int) (ah:Option Addr) (ai:Nat) (ae:List Int) (r1:List Int) (r2:Int) (w:World) (aw:Kd.C (Kd.int .i64) w ah ae.length ae) (ax:ae.length≤ai) (h:spec_SinksOf.f k a0_0 ae=some (r1,r2)):
  Calls Try.prog 45 #[.agg #[.int .i64 a0_0, .slice ah ae.length ai]] w fun e w'=> ∃v0_:Value,e= .returned (.tuple #[v0_, .int .i64 r2])∧Kd.R (Kd.int .i64) 2 w' w.heap.size (fun _=>True) v0_ r1∧Below w.heap.size w w':=by
 have hu64:=Try.underlying64
 have HR0_1:=Aside0.mk aw
 have HC0_1:=Aside0.mk ax
 clear aw ax
 have HB:=Aside0.mk (Below.refl w.heap.size w)
 have H:((spec_l06Is.f k a0_0 ae).bind fun aq=>(if aq=true then(spec_SinksOf.l0 k (([]:List Int)) 0 a0_0 ae) else(some (([]:List Int),1))))=some (r1,r2):=h
 clear h
 replace H:=Option.bind_eq_some_iff.mp H
 obtain⟨aq,A20,H⟩:=H
 replace H:(if aq=true then(spec_SinksOf.l0 k (([]:List Int)) 0 a0_0 ae) else(some (([]:List Int),1)))=some (r1,r2):=H
 have A2:=Aside0.mk A20
 clear A20
 by_cases c3:aq=true
 ·subst c3
  have H1:(spec_SinksOf.l0 k (([]:List Int)) 0 a0_0 ae)=some (r1,r2):=by rw [if_pos rfl] at H;exact H
  clear H
  have H:=H1
  clear H1
  obtain⟨az,hy950⟩: ∃y_:List Int,y_=(([]:List Int)):=⟨_,rfl⟩
  replace H:(spec_SinksOf.l0 k az 0 a0_0 ae)=some (r1,r2):=by first | (rw [hy950];with_reducible exact H) | (have H2_:=(Option.bind_some _ _).symm.trans H;rw [hy950];with_reducible exact H2_) | (have H2_:=(Option.bind_some _ _).symm.trans H;with_reducible exact H2_) | with_reducible exact H | (rw [hy950];exact H) | exact H
  have ay:=Aside0.mk hy950
  clear hy950
  have H':=Aside0.mk H
  clear H
  go_enter Try.func45,Try.ntmps45
  go_wp2_with (first | ((with_reducible refine gate_dst (N:=1) rfl ?_);refine box_event ?hg (N:=1) ?hd (cs:= #[.int .i64 a0_0, .slice ah ae.length ai]) (t:=64) ?hr ?_;(case hd=>rfl);(case hg=>rfl);(case hr=>first | (go_simp;done) | (go_simp;rfl));intro ag hg w4 hbox hb;have aa:=Aside0.mk (hbox);have aI:=Aside0.mk ((by rw [hg];exact bz_:w.heap.size≤ag));have aJ:=Aside0.mk ((by rw [hg];exact bz_:w.heap.size≤ag));replace HB:=Aside0.mk (bs_ hb);clear hb hbox hg;have aA:w4.cell? ⟨ag,0,none⟩=some (.int .i64 a0_0):=(blk_cell aa.out 0).trans rfl;have aC:w4.cell? ⟨ag,1,none⟩=some (.slice ah ae.length ai):=(blk_cell aa.out 1).trans rfl;have aD:=blk_frozen aa.out 0;have aG:=blk_frozen aa.out 1) | ((with_reducible refine gate_callee (f:=128) rfl ?_);refine gL_ 7 Try.func128 #[.agg #[.int .i64 a0_0, .slice ah ae.length ai]] ?_;(with_reducible refine(spec_l06Is.calls k a0_0 _ _ ae true _ ?au ?av A2.out).mono ?_);(case au=>exact cb_ HR0_1.out HB.out);(case av=>exact HC0_1.out);rintro e w6 ⟨rfl,hb⟩;refine⟨_,rfl,?_⟩;replace aa:=Aside0.mk (bb_ aa.out hb);replace HB:=Aside0.mk (bs_ hb);(try clear hb);(try clear hb2);(try clear hk);(try clear hi)) | ((with_reducible refine gate_dst (N:=9) rfl ?_);refine Kd.R_lit (Kd.int .i64) _ 2 ?hg (N:=9) ?hd (xs:=([]:List Int)) (inner:= []) (ok:=fun _=>True) (okp:=fun _=>True) ?hr ?hp (fun _ hk=>hk) trivial (Below.refl _ _) (Nat.le_refl _) (by simp) ?_;(case hd=>rfl);(case hg=>rfl);(case hr=>first | (go_simp;done) | (go_simp;rfl));(case hp=>exact(Reps.none _ _));intro bv w7 ho8 hb hg_ hnew_;clear hg_ hnew_;(first | rw [← ay.out] at ho8 | (simp only [Int.reduceToNat] at ho8;rw [← ay.out] at ho8));have aK:=Aside0.mk (Kd.R_lower ho8 bz_);replace aa:=Aside0.mk (bb_ aa.out hb);replace HB:=Aside0.mk (bs_ hb);clear hb ho8))
  go_loopg [4,5] k (fun kq v4 v5 w'=> ∃(aj:List Int) (af:Int),v5= .int .i64 af∧Aside0 (spec_SinksOf.l0 kq aj af a0_0 ae=some (r1,r2))∧Aside0 (kq≤k)∧Aside0 (Kd.R (Kd.int .i64) 2 w' w.heap.size (fun _=>True) v4 aj)∧Aside0 (w'.heap[ag]?=some (.cells #[.int .i64 a0_0,(.slice ah ae.length ai)] 64 (0,0)))∧Aside0 (Below w.heap.size w w'))
  case atStart=>exact⟨(az),(0),rs_,H',⟨Nat.le_refl _⟩,⟨ro_ aK.out⟩,⟨bk_⟩,⟨hb_⟩⟩
  case round=>
   clear H'
   try clear c1
   try clear p2
   try clear c3
   try clear c4
   try clear aA
   try clear aC
   try clear aD
   try clear aG
   obtain⟨aj,af,rfl,HA,HK1,ak,aa,HB⟩:=hrel
   cases gk with
   | zero=>exact absurd HA.out (by simp [spec_SinksOf.l0])
   | succ k1=>
    have H:=HA.out
    clear HA
    simp only [spec_SinksOf.l0] at H
    by_cases c9:af < (ae.length:Int)
    ·rw [if_pos c9] at H
     have c9b0:decide (af < (ae.length:Int))=true:=decide_eq_true c9
     clear c9
     by_cases c10:0≤af
     ·rw [if_pos c10] at H
      have c10b0:decide (0≤af)=true:=decide_eq_true c10
      clear c10
      by_cases c11:(rd ae af)=0
      ·rw [if_pos c11] at H
       have c11b0:((rd ae af)==0)=true:=beq_iff_eq.mpr c11
       have c11b1:((rd ae af) !=0)=false:=bne_eq_false_iff_eq.mpr c11
       clear c11
       by_cases c12:aj.length < 17592186044416
       ·rw [if_pos c12] at H
        have aM:=Aside0.mk c12
        clear c12
        obtain⟨aH,hy954⟩: ∃y_:List Int,y_=(aj++ [af]):=⟨_,rfl⟩
        replace H:(spec_SinksOf.l0 k1 aH (wrap64 (af+1)) a0_0 ae)=some (r1,r2):=by first | (rw [hy954];with_reducible exact H) | (have H2_:=(Option.bind_some _ _).symm.trans H;rw [hy954];with_reducible exact H2_) | (have H2_:=(Option.bind_some _ _).symm.trans H;with_reducible exact H2_) | with_reducible exact H | (rw [hy954];exact H) | exact H
        have aN:=Aside0.mk hy954
        clear hy954
        have H':=Aside0.mk H
        clear H
        have aV:wr.cell? ⟨ag,0,none⟩=some (.int .i64 a0_0):=(blk_cell aa.out 0).trans rfl
        have aW:wr.cell? ⟨ag,1,none⟩=some (.slice ah ae.length ai):=(blk_cell aa.out 1).trans rfl
        have aX:=blk_frozen aa.out 0
        have aY:=blk_frozen aa.out 1
        have p953:0≤(af:Int):=od_
        have q953:af < (ae.length:Int):=od_
        obtain⟨aT,e953,hx953_0⟩:=Kd.at_int HR0_1.out af p953 q953
        cases e953
        replace hx953_0:=(HB.out.cell (World.block_lt_of_cell? w _ hx953_0)).trans hx953_0
        replace p953:=eq_true p953
        replace q953:=eq_true q953
        go_wp2_with (first | ((with_reducible refine gate_builtin (b:= .append) (xs:= #[.tmp 23, .tmp 25]) rfl ?_);at_builtin;refine Kd.R_append (Kd.int .i64) (w0:=w) w.heap.size rfl (.tmp 23) (.tmp 25) 23 2 (.int .i64 0) 8 rfl Try.underlying23 info2 rfl (by decide) (by omega) u4 aj af [.int .i64 af] (fun _=>True) (fun _=>False) rfl rfl ?aP (fun _ hk=>hk.elim) ?aF ?aO ?aB ?aS ?aL ?_;(case aP=>exact rfl);(case aB=>exact hb_);(case aF=>exact(fun _ _=>trivial));(case aO=>exact(ro_ ak.out));(case aS=>exact bz_);(case aL=>have:=aM.out;omega);intro bw w14 ho hb hg hat;rw [← aN.out] at ho;replace aa:=Aside0.mk (bg_ aa.out hg (Kd.R_ne ak.out aa.out (by decide)));replace HB:=Aside0.mk (hb);have aU:=Aside0.mk (ho);clear ak ho hb hg hat))
        go_roundg k1
        case measure=>have:=HK1.out;omega
        case rel=>exact⟨(aH),(wrap64 (af+1)),rs_,H',⟨by have:=HK1.out;omega⟩,⟨ro_ aU.out⟩,⟨bk_⟩,⟨hb_⟩⟩
       ·rw [if_neg c12] at H
        exact absurd H (by simp)
      ·rw [if_neg c11] at H
       have c11b0:((rd ae af)==0)=false:=beq_eq_false_iff_ne.mpr c11
       have c11b1:((rd ae af) !=0)=true:=bne_iff_ne.mpr c11
       have H':=Aside0.mk H
       clear H
       have aZ:wr.cell? ⟨ag,0,none⟩=some (.int .i64 a0_0):=(blk_cell aa.out 0).trans rfl
       have a9:wr.cell? ⟨ag,1,none⟩=some (.slice ah ae.length ai):=(blk_cell aa.out 1).trans rfl
       have ba:=blk_frozen aa.out 0
       have bb:=blk_frozen aa.out 1
       have p953:0≤(af:Int):=od_
       have q953:af < (ae.length:Int):=od_
       obtain⟨aT,e953,hx953_0⟩:=Kd.at_int HR0_1.out af p953 q953
       cases e953
       replace hx953_0:=(HB.out.cell (World.block_lt_of_cell? w _ hx953_0)).trans hx953_0
       replace p953:=eq_true p953
       replace q953:=eq_true q953
       go_wp2
       go_roundg k1
       case measure=>have:=HK1.out;omega
       case rel=>exact⟨(aj),(wrap64 (af+1)),rs_,H',⟨by have:=HK1.out;omega⟩,⟨ro_ ak.out⟩,⟨bk_⟩,⟨hb_⟩⟩
     ·rw [if_neg c10] at H
      exact absurd H (by simp)
    ·rw [if_neg c9] at H
     have c9b0:decide (af < (ae.length:Int))=false:=decide_eq_false c9
     clear c9
     simp only [Option.some.injEq,Prod.mk.injEq] at H
     obtain⟨rfl,rfl⟩:=H
     have bf:wr.cell? ⟨ag,0,none⟩=some (.int .i64 a0_0):=(blk_cell aa.out 0).trans rfl
     have bg:wr.cell? ⟨ag,1,none⟩=some (.slice ah ae.length ai):=(blk_cell aa.out 1).trans rfl
     have bh:=blk_frozen aa.out 0
     have bi:=blk_frozen aa.out 1
     go_wp2
     go_ret2
     exact⟨_,by first | rfl | (simp [errW_none,errW_some] <;> rfl) | (simp [*,errW_none,errW_some] <;> rfl),ro_ ak.out,hb_⟩
 ·replace c3:=Bool.eq_false_iff.mpr c3
  subst c3
  have H1:(some (([]:List Int),1))=some (r1,r2):=by rw [if_neg (show ¬ (false=true) by decide)] at H;exact H
  clear H
  have H:=H1
  clear H1
  simp only [Option.some.injEq,Prod.mk.injEq] at H
  obtain⟨rfl,rfl⟩:=H
  go_enter Try.func45,Try.ntmps45
  go_wp2_with (first | ((with_reducible refine gate_dst (N:=1) rfl ?_);refine box_event ?hg (N:=1) ?hd (cs:= #[.int .i64 a0_0, .slice ah ae.length ai]) (t:=64) ?hr ?_;(case hd=>rfl);(case hg=>rfl);(case hr=>first | (go_simp;done) | (go_simp;rfl));intro ag hg w17 hbox hb;have aa:=Aside0.mk (hbox);have aI:=Aside0.mk ((by rw [hg];exact bz_:w.heap.size≤ag));have aJ:=Aside0.mk ((by rw [hg];exact bz_:w.heap.size≤ag));replace HB:=Aside0.mk (bs_ hb);clear hb hbox hg;have bk:w17.cell? ⟨ag,0,none⟩=some (.int .i64 a0_0):=(blk_cell aa.out 0).trans rfl;have bn:w17.cell? ⟨ag,1,none⟩=some (.slice ah ae.length ai):=(blk_cell aa.out 1).trans rfl;have bq:=blk_frozen aa.out 0;have bu:=blk_frozen aa.out 1) | ((with_reducible refine gate_callee (f:=128) rfl ?_);refine gL_ 7 Try.func128 #[.agg #[.int .i64 a0_0, .slice ah ae.length ai]] ?_;(with_reducible refine(spec_l06Is.calls k a0_0 _ _ ae false _ ?au ?av A2.out).mono ?_);(case au=>exact cb_ HR0_1.out HB.out);(case av=>exact HC0_1.out);rintro e w19 ⟨rfl,hb⟩;refine⟨_,rfl,?_⟩;replace aa:=Aside0.mk (bb_ aa.out hb);replace HB:=Aside0.mk (bs_ hb);(try clear hb);(try clear hb2);(try clear hk);(try clear hi)))
  go_ret2
  exact⟨_,by first | rfl | (simp [errW_none,errW_some] <;> rfl) | (simp [*,errW_none,errW_some] <;> rfl),by first | exact Kd.R_nil _ _ _ _ _ | exact Kd.N_nil _ _ _ _ _ | exact Kd.V_nil _ _ _ _ _ | exact Kd.Q_nil _ _ _ _ _ | exact Kd.S_nil _ _ _ _ _,hb_⟩
def laws_likeInts.l0:Nat→List Int→List Int→Int→Option (Bool)
 | 0,_,_,_=>none
 | k+1,x0,x1,x5=>if x5 < (x0.length:Int) then(if 0≤x5 then(if x5 < (x1.length:Int) then(if(rd x0 x5)=(rd x1 x5) then(laws_likeInts.l0 k x0 x1 (wrap64 (x5+1))) else(some false)) else(none)) else(none)) else(some true)
def laws_likeInts.f (k:Nat) (l0:List Int) (l1:List Int):Option (Bool):=if(l0.length:Int)=(l1.length:Int) then(laws_likeInts.l0 k l0 l1 0) else(some false)
theorem laws_likeInts.mono_l: ∀k,(∀y0 y1 y2,LeO (laws_likeInts.l0 k y0 y1 y2) (laws_likeInts.l0 (k+1) y0 y1 y2))
 | 0=>fun _ _ _ r h=>by simp [laws_likeInts.l0] at h
 | k+1=>by
  have ih0:=laws_likeInts.mono_l k
  ·intro y0 y1 y2
   unfold laws_likeInts.l0
   repeat' first
   | (with_reducible exact ih0 _ _ _)
   | (with_reducible exact LeO.refl _)
   | (with_reducible exact LeO.none _)
   | (with_reducible refine LeO.ite ?_ ?_)
   | (with_reducible refine LeO.bind ?_ (fun _=>?_))
   | exact ih0 _ _ _
   | exact LeO.none _
   | refine LeO.ite ?_ ?_
   | refine LeO.bind ?_ (fun _=>?_)
theorem laws_likeInts.mono: ∀a0 a1 k,LeO (laws_likeInts.f k a0 a1) (laws_likeInts.f (k+1) a0 a1):=by
 intro a0 a1 k
 have ih0:=laws_likeInts.mono_l k
 unfold laws_likeInts.f
 repeat' first
   | (with_reducible exact ih0 _ _ _)
   | (with_reducible exact LeO.refl _)
   | (with_reducible exact LeO.none _)
   | (with_reducible refine LeO.ite ?_ ?_)
   | (with_reducible refine LeO.bind ?_ (fun _=>?_))
   | exact ih0 _ _ _
   | exact LeO.none _
   | refine LeO.ite ?_ ?_
   | refine LeO.bind ?_ (fun _=>?_)
theorem laws_likeInts.calls (k:Nat) (A0:Option Addr) (c0:Nat) (l0:List Int) (A1:Option Addr) (c1:Nat) (l1:List Int) (r:Bool) (w:World) (hr0:Kd.C (Kd.int .i64) w A0 l0.length l0) (hc0:l0.length≤c0) (hr1:Kd.C (Kd.int .i64) w A1 l1.length l1) (hc1:l1.length≤c1) (h:laws_likeInts.f k l0 l1=some r):
  Calls Try.prog 34 #[.slice A0 l0.length c0, .slice A1 l1.length c1] w fun e w'=>e= .returned (.bool r)∧Drawn0 w w':=by
 have HR0:=Aside0.mk hr0
 have HC0:=Aside0.mk hc0
 clear hr0 hc0
 have HR1:=Aside0.mk hr1
 have HC1:=Aside0.mk hc1
 clear hr1 hc1
 have H:(if(l0.length:Int)=(l1.length:Int) then(laws_likeInts.l0 k l0 l1 0) else(some false))=some r:=h
 clear h
 by_cases c3:(l0.length:Int)=(l1.length:Int)
 ·rw [if_pos c3] at H
  have c3b0:((l0.length:Int)==(l1.length:Int))=true:=beq_iff_eq.mpr c3
  have c3b1:((l0.length:Int) !=(l1.length:Int))=false:=bne_eq_false_iff_eq.mpr c3
  have c3b2:(l0.length==l1.length)=true:=by first | simpa using c3 | (simp at c3 ⊢;omega)
  clear c3
  have H':=Aside0.mk H
  clear H
  go_enter Try.func34,Try.ntmps34
  go_wp2
  repeat (go_quiet (fail);try go_wp2)
  go_loopg [5] k (fun kq v5 w'=> ∃(aa:Int),v5= .int .i64 aa∧Aside0 (laws_likeInts.l0 kq l0 l1 aa=some r)∧Aside0 (kq≤k)∧Drawn0 w w')
  case atStart=>exact⟨(0),(by first | rfl | (simp;done) | (simp [*];done)),H',⟨Nat.le_refl _⟩,by repeat (first | exact Drawn0.refl _ | apply Drawn0.step)⟩
  case round=>
   clear H'
   try clear c1
   try clear p2
   try clear c3
   try clear c3b0
   try clear c3b1
   try clear c3b2
   obtain⟨aa,rfl,HA,HK1,⟨m1,rfl⟩⟩:=hrel
   cases gk with
   | zero=>exact absurd HA.out (by simp [laws_likeInts.l0])
   | succ k1=>
    have H:=HA.out
    clear HA
    simp only [laws_likeInts.l0] at H
    by_cases c4:aa < (l0.length:Int)
    ·rw [if_pos c4] at H
     have c4b0:decide (aa < (l0.length:Int))=true:=decide_eq_true c4
     clear c4
     by_cases c5:0≤aa
     ·rw [if_pos c5] at H
      have c5b0:decide (0≤aa)=true:=decide_eq_true c5
      clear c5
      by_cases c6:aa < (l1.length:Int)
      ·rw [if_pos c6] at H
       have c6b0:decide (aa < (l1.length:Int))=true:=decide_eq_true c6
       clear c6
       by_cases c7:(rd l0 aa)=(rd l1 aa)
       ·rw [if_pos c7] at H
        have c7b0:((rd l0 aa)==(rd l1 aa))=true:=beq_iff_eq.mpr c7
        have c7b1:((rd l0 aa) !=(rd l1 aa))=false:=bne_eq_false_iff_eq.mpr c7
        clear c7
        have H':=Aside0.mk H
        clear H
        have p796:0≤(aa:Int):=of_decide_eq_true (by first | (with_reducible assumption) | assumption)
        have q796:aa < (l0.length:Int):=of_decide_eq_true (by first | (with_reducible assumption) | assumption)
        obtain⟨ae,e796,hx796_0⟩:=Kd.at_int HR0.out aa p796 q796
        cases e796
        replace p796:=eq_true p796
        replace q796:=eq_true q796
        have p797:0≤(aa:Int):=of_decide_eq_true (by first | (with_reducible assumption) | assumption)
        have q797:aa < (l1.length:Int):=of_decide_eq_true (by first | (with_reducible assumption) | assumption)
        obtain⟨af,e797,hx797_0⟩:=Kd.at_int HR1.out aa p797 q797
        cases e797
        replace p797:=eq_true p797
        replace q797:=eq_true q797
        go_wp2
        repeat (go_quiet (fail);try go_wp2)
        go_roundg k1
        case measure=>have:=HK1.out;omega
        case rel=>exact⟨(wrap64 (aa+1)),(by first | rfl | (simp;done) | (simp [*];done)),H',⟨by have:=HK1.out;omega⟩,by repeat (first | exact Drawn0.refl _ | apply Drawn0.step)⟩
       ·rw [if_neg c7] at H
        have c7b0:((rd l0 aa)==(rd l1 aa))=false:=beq_eq_false_iff_ne.mpr c7
        have c7b1:((rd l0 aa) !=(rd l1 aa))=true:=bne_iff_ne.mpr c7
        obtain rfl:=Option.some.inj H
        have p796:0≤(aa:Int):=of_decide_eq_true (by first | (with_reducible assumption) | assumption)
        have q796:aa < (l0.length:Int):=of_decide_eq_true (by first | (with_reducible assumption) | assumption)
        obtain⟨ae,e796,hx796_0⟩:=Kd.at_int HR0.out aa p796 q796
        cases e796
        replace p796:=eq_true p796
        replace q796:=eq_true q796
        have p797:0≤(aa:Int):=of_decide_eq_true (by first | (with_reducible assumption) | assumption)
        have q797:aa < (l1.length:Int):=of_decide_eq_true (by first | (with_reducible assumption) | assumption)
        obtain⟨af,e797,hx797_0⟩:=Kd.at_int HR1.out aa p797 q797
        cases e797
        replace p797:=eq_true p797
        replace q797:=eq_true q797
        go_wp2
        repeat (go_quiet (fail);try go_wp2)
        go_ret
        exact⟨by first | rfl | (simp;done) | (simp [*];done),by repeat (first | exact Drawn0.refl _ | apply Drawn0.step)⟩
      ·rw [if_neg c6] at H
       exact absurd H (by simp)
     ·rw [if_neg c5] at H
      exact absurd H (by simp)
    ·rw [if_neg c4] at H
     have c4b0:decide (aa < (l0.length:Int))=false:=decide_eq_false c4
     clear c4
     obtain rfl:=Option.some.inj H
     go_wp2
     repeat (go_quiet (fail);try go_wp2)
     go_ret
     exact⟨by first | rfl | (simp;done) | (simp [*];done),by repeat (first | exact Drawn0.refl _ | apply Drawn0.step)⟩
 ·rw [if_neg c3] at H
  have c3b0:((l0.length:Int)==(l1.length:Int))=false:=beq_eq_false_iff_ne.mpr c3
  have c3b1:((l0.length:Int) !=(l1.length:Int))=true:=bne_iff_ne.mpr c3
  have c3b2:(l0.length==l1.length)=false:=by first | simpa using c3 | (simp at c3 ⊢;omega)
  obtain rfl:=Option.some.inj H
  go_enter Try.func34,Try.ntmps34
  go_wp2
  repeat (go_quiet (fail);try go_wp2)
  go_ret
  exact⟨by first | rfl | (simp;done) | (simp [*];done),by repeat (first | exact Drawn0.refl _ | apply Drawn0.step)⟩
def slices_Max_int64_int64.l0:Nat→List Int→Int→Int→Option (Int)
 | 0,_,_,_=>none
 | k+1,x0,x3,x4=>if x4 < (x0.length:Int) then(if 0≤x4 then(slices_Max_int64_int64.l0 k x0 (mx x3 (rd x0 x4)) (wrap64 (x4+1))) else(none)) else(some x3)
def slices_Max_int64_int64.f (k:Nat) (l0:List Int):Option (Int):=if(l0.length:Int) < 1 then(none) else(if 0 < (l0.length:Int) then(slices_Max_int64_int64.l0 k l0 (rd l0 0) 1) else(none))
theorem slices_Max_int64_int64.mono_l: ∀k,(∀y0 y1 y2,LeO (slices_Max_int64_int64.l0 k y0 y1 y2) (slices_Max_int64_int64.l0 (k+1) y0 y1 y2))
 | 0=>fun _ _ _ r h=>by simp [slices_Max_int64_int64.l0] at h
 | k+1=>by
  have ih0:=slices_Max_int64_int64.mono_l k
  ·intro y0 y1 y2
   unfold slices_Max_int64_int64.l0
   repeat' first
   | (with_reducible exact ih0 _ _ _)
   | (with_reducible exact LeO.refl _)
   | (with_reducible exact LeO.none _)
   | (with_reducible refine LeO.ite ?_ ?_)
   | (with_reducible refine LeO.bind ?_ (fun _=>?_))
   | exact ih0 _ _ _
   | exact LeO.none _
   | refine LeO.ite ?_ ?_
   | refine LeO.bind ?_ (fun _=>?_)
theorem slices_Max_int64_int64.mono: ∀a0 k,LeO (slices_Max_int64_int64.f k a0) (slices_Max_int64_int64.f (k+1) a0):=by
 intro a0 k
 have ih0:=slices_Max_int64_int64.mono_l k
 unfold slices_Max_int64_int64.f
 repeat' first
   | (with_reducible exact ih0 _ _ _)
   | (with_reducible exact LeO.refl _)
   | (with_reducible exact LeO.none _)
   | (with_reducible refine LeO.ite ?_ ?_)
   | (with_reducible refine LeO.bind ?_ (fun _=>?_))
   | exact ih0 _ _ _
   | exact LeO.none _
   | refine LeO.ite ?_ ?_
   | refine LeO.bind ?_ (fun _=>?_)
theorem slices_Max_int64_int64.calls (k:Nat) (A0:Option Addr) (c0:Nat) (l0:List Int) (r:Int) (w:World) (hr0:Kd.C (Kd.int .i64) w A0 l0.length l0) (hc0:l0.length≤c0) (h:slices_Max_int64_int64.f k l0=some r):
  Calls Try.prog 175 #[.slice A0 l0.length c0] w fun e w'=>e= .returned (.int .i64 r)∧Below w.heap.size w w':=by
 have HR0:=Aside0.mk hr0
 have HC0:=Aside0.mk hc0
 clear hr0 hc0
 have HB:=Aside0.mk (Below.refl w.heap.size w)
 have H:(if(l0.length:Int) < 1 then(none) else(if 0 < (l0.length:Int) then(slices_Max_int64_int64.l0 k l0 (rd l0 0) 1) else(none)))=some r:=h
 clear h
 by_cases c2:(l0.length:Int) < 1
 ·rw [if_pos c2] at H
  exact absurd H (by simp)
 ·rw [if_neg c2] at H
  have c2b0:decide ((l0.length:Int) < 1)=false:=decide_eq_false c2
  have c2b1:decide (l0.length < 1)=false:=decide_eq_false (by omega)
  clear c2
  by_cases c3:0 < (l0.length:Int)
  ·rw [if_pos c3] at H
   have c3b0:decide (0 < (l0.length:Int))=true:=decide_eq_true c3
   have c3b1:decide (0 < l0.length)=true:=decide_eq_true (by omega)
   clear c3
   have H':=Aside0.mk H
   clear H
   have p959:0≤(0:Int):=(by omega)
   have q959:0 < (l0.length:Int):=od_
   obtain⟨af,e959,hx959_0⟩:=Kd.at_int HR0.out 0 p959 q959
   cases e959
   have qi959:(0 < l0.length)=True:=eq_true (by omega)
   (try rw [show ((0:Int)).toNat=0 from rfl] at hx959_0)
   (try rw [Addr.add_zero'] at hx959_0)
   replace p959:=eq_true p959
   replace q959:=eq_true q959
   go_enter Try.func175,Try.ntmps175
   go_wp2
   go_loopg [3,4] k (fun kq v3 v4 w'=> ∃(ae:Int) (aa:Int),v3= .int .i64 ae∧v4= .int .i64 aa∧Aside0 (slices_Max_int64_int64.l0 kq l0 ae aa=some r)∧Aside0 (kq≤k)∧Aside0 (Below w.heap.size w w'))
   case atStart=>exact⟨(rd l0 0),(1),rs_,rs_,H',⟨Nat.le_refl _⟩,⟨hb_⟩⟩
   case round=>
    clear H'
    try clear c1
    try clear c2
    try clear c2b0
    try clear c2b1
    try clear p2
    try clear c3
    try clear c3b0
    try clear c3b1
    try clear hx959_0
    try clear p959
    try clear q959
    obtain⟨ae,aa,rfl,rfl,HA,HK1,HB⟩:=hrel
    cases gk with
    | zero=>exact absurd HA.out (by simp [slices_Max_int64_int64.l0])
    | succ k1=>
     have H:=HA.out
     clear HA
     simp only [slices_Max_int64_int64.l0] at H
     by_cases c4:aa < (l0.length:Int)
     ·rw [if_pos c4] at H
      have c4b0:decide (aa < (l0.length:Int))=true:=decide_eq_true c4
      clear c4
      by_cases c5:0≤aa
      ·rw [if_pos c5] at H
       have c5b0:decide (0≤aa)=true:=decide_eq_true c5
       clear c5
       obtain⟨ji6,hji6⟩: ∃j_:Int,(mx ae (rd l0 aa))=j_:=⟨_,rfl⟩
       replace H:(slices_Max_int64_int64.l0 k1 l0 ji6 (wrap64 (aa+1)))=some r:=by first | (rw [hji6] at H;exact H) | (simp only [hji6] at H ⊢;exact H)
       have hji6_:(if ae < (rd l0 aa) then(rd l0 aa) else ae)=ji6:=hji6
       have H':=Aside0.mk H
       clear H
       have p960:0≤(aa:Int):=od_
       have q960:aa < (l0.length:Int):=od_
       obtain⟨ag,e960,hx960_0⟩:=Kd.at_int HR0.out aa p960 q960
       obtain rfl:af=ag:=(by injection e960)
       replace hx960_0:=(HB.out.cell (World.block_lt_of_cell? w _ hx960_0)).trans hx960_0
       replace p960:=eq_true p960
       replace q960:=eq_true q960
       go_wp2
       go_roundg k1
       case measure=>have:=HK1.out;omega
       case rel=>exact⟨(ji6),(wrap64 (aa+1)),(by first | rfl | (simp;done) | (simp only [← hji6] <;> (first | rfl | simp)) | (simp [*];done)),rs_,H',⟨by have:=HK1.out;omega⟩,⟨hb_⟩⟩
      ·rw [if_neg c5] at H
       exact absurd H (by simp)
     ·rw [if_neg c4] at H
      have c4b0:decide (aa < (l0.length:Int))=false:=decide_eq_false c4
      clear c4
      obtain rfl:=Option.some.inj H
      go_wp2
      go_ret
      exact⟨by first | rfl | (simp [errW_none,errW_some] <;> rfl) | (simp [*,errW_none,errW_some] <;> rfl),hb_⟩
  ·rw [if_neg c3] at H
   exact absurd H (by simp)
end Go.Proofs.Ytmpkckiifeikkaa.Pr
end
section
namespace Go.Proofs.Ytmpkckiifeikkaa.Ma
open Go.RowKit Go.Proofs.YtmpkckiifeikkaaW.PrintWords Go.Proofs.YtmpkckiifeikkaaW.PrintMore
theorem evc {α:Type} {g:Option α} {r:α} (h:g=some r):Ev (fun _=>g) r:=⟨0,fun _ _=>h⟩
theorem evpos {α:Type} {A B:Nat→Option α} {r:α} {c:Prop} [Decidable c] (h:c) (k:Ev A r):Ev (fun n=>if c then A n else B n) r:=by
 obtain⟨K,k⟩:=k
 exact⟨K,fun n hn=>by simp only [if_pos h];exact k n hn⟩
theorem evneg {α:Type} {A B:Nat→Option α} {r:α} {c:Prop} [Decidable c] (h: ¬ c) (k:Ev B r):Ev (fun n=>if c then A n else B n) r:=by
 obtain⟨K,k⟩:=k
 exact⟨K,fun n hn=>by simp only [if_neg h];exact k n hn⟩
theorem evbind {α β:Type} {g:Nat→Option α} {f:Nat→α→Option β} {a:α} {r:β} (h:Ev g a) (k:Ev (fun n=>f n a) r):Ev (fun n=>(g n).bind (f n)) r:=Ev.bind h k
theorem evsome {α β:Type} {g:Option α} {f:Nat→α→Option β} {a:α} {r:β} (h:g=some a) (k:Ev (fun n=>f n a) r):Ev (fun n=>g.bind (f n)) r:=Ev.bind (evc h) k
theorem evstep {α:Type} {g f:Nat→Option α} {r:α} (h: ∀k,g (k+1)=f k) (k:Ev f r):Ev g r:=Ev.step h k
theorem w64 {x:Int} (h0: -9223372036854775808≤x) (h1:x≤9223372036854775807):wrap64 x=x:=by unfold wrap64;omega
theorem u64w {x:Int} (h0:0≤x) (h1:x≤9223372036854775807):IntKind.u64.wrap x=x:=by
 simp only [IntKind.wrap,IntKind.bits,IntKind.signed]
 simp
 omega
theorem rd_nat (l:List Int) (i:Nat):rd l (i:Int)=l.getD i 0:=by simp [rd]
def bB (x:Int) (i:Nat):Bool:=(BitVec.ofInt 64 x).getLsbD i
theorem mod_div_two (x:Int) (i:Nat) (h:i < 64):(x % 2 ^ 64) / 2 ^ i % 2=x / 2 ^ i % 2:=by
 have e:(2:Int) ^ 64=2 ^ i*(2*2 ^ (63 - i)):=by
  have:(64:Nat)=i+(1+(63 - i)):=by omega
  rw [show (2:Int) ^ 64=2 ^ (i+(1+(63 - i))) from by rw [← this],Int.pow_add,Int.pow_add]
  simp
 have hp:(0:Int) < 2 ^ i:=Int.pow_pos (by decide)
 have h1:x % 2 ^ 64=x+2 ^ i*(2*(-(2 ^ (63 - i)*(x / 2 ^ 64)))):=by
  have h2:=Int.emod_add_mul_ediv x (2 ^ 64)
  have h3:(2:Int) ^ 64*(x / 2 ^ 64)=2 ^ i*(2*(2 ^ (63 - i)*(x / 2 ^ 64))):=by
   generalize x / 2 ^ 64=y
   rw [e];simp only [Int.mul_assoc]
  rw [Int.mul_neg,Int.mul_neg, ← h3]
  omega
 rw [h1,Int.add_mul_ediv_left _ _ (Int.ne_of_gt hp),Int.add_mul_emod_self_left]
theorem bB_div (x:Int) (i:Nat) (h:i < 64):bB x i=decide (x / 2 ^ i % 2=1):=by
 unfold bB
 rw [← BitVec.testBit_toNat,BitVec.toNat_ofInt,Nat.testBit_eq_decide_div_mod_eq]
 have e:((2 ^ 64:Nat):Int)=2 ^ 64:=by decide
 rw [e]
 have h0:0≤x % 2 ^ 64:=Int.emod_nonneg _ (by decide)
 have k:=mod_div_two x i h
 obtain⟨n,hn⟩:=Int.eq_ofNat_of_zero_le h0
 rw [hn] at k ⊢
 rw [← k,Int.toNat_natCast]
 have:((n:Int) / 2 ^ i % 2)=((n / 2 ^ i % 2:Nat):Int):=by simp
 rw [this]
 rw [Bool.eq_iff_iff]
 simp only [decide_eq_true_eq]
 omega
theorem bB_nat (n i:Nat) (h:i < 64):bB (n:Int) i=n.testBit i:=by
 unfold bB
 rw [BitVec.ofInt_natCast,BitVec.getLsbD_ofNat]
 simp [h]
theorem wraps_i64 (n:Int) (h₀:0≤n) (h₁:n < 2 ^ 63):IntKind.i64.wrap n=n:=by rw [IntKind.wrap_i64];omega
theorem and_nat {a b:Nat} (ha:a < 2 ^ 63) (hb:b < 2 ^ 63):Go.bits .and .i64 (a:Int) b=((a &&& b:Nat):Int):=(bits_nat .i64 63 (by decide) wraps_i64 a b ha hb).1
theorem or_nat {a b:Nat} (ha:a < 2 ^ 63) (hb:b < 2 ^ 63):Go.bits .or .i64 (a:Int) b=((a ||| b:Nat):Int):=(bits_nat .i64 63 (by decide) wraps_i64 a b ha hb).2
theorem lt63 {n:Nat} (h:n < 2 ^ 63):((n:Nat):Int) < 2 ^ 63:=by exact_mod_cast h
theorem xor_nat {a b:Nat} (ha:a < 2 ^ 63) (hb:b < 2 ^ 63):Go.bits .xor .i64 (a:Int) b=((a ^^^ b:Nat):Int):=by
 have e:(BitVec.ofInt 64 (a:Int) ^^^ BitVec.ofInt 64 (b:Int)).toNat=a ^^^ b:=by
  rw [BitVec.ofInt_natCast,BitVec.ofInt_natCast,BitVec.toNat_xor,BitVec.toNat_ofNat,BitVec.toNat_ofNat,Nat.mod_eq_of_lt (by omega),Nat.mod_eq_of_lt (by omega)]
 show IntKind.i64.wrap (((BitVec.ofInt 64 (a:Int) ^^^ BitVec.ofInt 64 (b:Int)).toNat:Nat):Int)=_
 rw [e]
 exact wraps_i64 _ (Int.natCast_nonneg _) (lt63 (Nat.xor_lt_two_pow ha hb))
theorem andNot_nat {a b:Nat} (ha:a < 2 ^ 63) (hb:b < 2 ^ 63):Go.bits .andNot .i64 (a:Int) b=((a ^^^ (a &&& b):Nat):Int):=by
 have e:(BitVec.ofInt 64 (a:Int) &&& ~~~BitVec.ofInt 64 (b:Int)).toNat=a ^^^ (a &&& b):=by
  apply Nat.eq_of_testBit_eq
  intro i
  rw [BitVec.testBit_toNat,BitVec.ofInt_natCast,BitVec.ofInt_natCast,BitVec.getLsbD_and,BitVec.getLsbD_not,BitVec.getLsbD_ofNat,BitVec.getLsbD_ofNat,Nat.testBit_xor,Nat.testBit_and]
  by_cases h:i < 64
  ·simp only [h,decide_true,Bool.true_and];cases a.testBit i <;> cases b.testBit i <;> rfl
  ·have:a.testBit i=false:=Nat.testBit_lt_two_pow (Nat.lt_of_lt_of_le ha (Nat.pow_le_pow_right (by decide) (by omega)))
   simp [h,this]
 show IntKind.i64.wrap (((BitVec.ofInt 64 (a:Int) &&& ~~~BitVec.ofInt 64 (b:Int)).toNat:Nat):Int)=_
 rw [e]
 exact wraps_i64 _ (Int.natCast_nonneg _) (lt63 (Nat.xor_lt_two_pow ha (Nat.and_lt_two_pow _ hb)))
theorem and_pow (x:Int) {i:Nat} (h:i < 63):Go.bits .and .i64 x (2 ^ i)=if bB x i=true then 2 ^ i else 0:=by
 have e:(BitVec.ofInt 64 x &&& BitVec.ofInt 64 ((2 ^ i:Nat):Int)).toNat=if bB x i=true then 2 ^ i else 0:=by
  apply Nat.eq_of_testBit_eq
  intro j
  rw [BitVec.testBit_toNat,BitVec.ofInt_natCast,BitVec.getLsbD_and,BitVec.getLsbD_ofNat,Nat.testBit_two_pow]
  unfold bB
  by_cases hj:i=j
  ·subst hj
   cases hb:(BitVec.ofInt 64 x).getLsbD i <;> simp [show i < 64 from by omega]
  ·cases hb:(BitVec.ofInt 64 x).getLsbD i <;> simp [hj]
 show IntKind.i64.wrap (((BitVec.ofInt 64 x &&& BitVec.ofInt 64 (2 ^ i)).toNat:Nat):Int)=_
 have e2:((2 ^ i:Nat):Int)=2 ^ i:=by simp
 rw [← e2,e]
 have hp:(2:Nat) ^ i < 2 ^ 63:=Nat.pow_lt_pow_right (by decide) h
 split
 ·exact wraps_i64 _ (Int.natCast_nonneg _) (lt63 hp)
 ·rfl
theorem shl_one {i:Int} (h0:0≤i) (h1:i≤62):shl .i64 1 i=((2 ^ i.toNat:Nat):Int):=by
 unfold shl
 obtain⟨n,rfl⟩:=Int.eq_ofNat_of_zero_le h0
 have hn:n≤62:=by omega
 rw [Int.toNat_natCast,Nat.min_eq_left (by simp [IntKind.bits];omega),Int.one_mul]
 have e2:((2 ^ n:Nat):Int)=2 ^ n:=by simp
 rw [← e2]
 exact wraps_i64 _ (Int.natCast_nonneg _) (lt63 (Nat.pow_lt_pow_right (by decide) (by omega)))
theorem shr_div {x i:Int} (h0:0≤i) (h1:i≤63):shr .i64 x i=x / 2 ^ i.toNat:=by
 unfold shr
 rw [Nat.min_eq_left (by simp [IntKind.bits];omega)]
theorem shr_and_one (x:Int) {i:Nat} (h:i < 64):Go.bits .and .i64 (shr .i64 x (i:Int)) 1=if bB x i=true then 1 else 0:=by
 rw [shr_div (by omega) (by omega),Int.toNat_natCast]
 have k:=and_pow (x / 2 ^ i) (i:=0) (by omega)
 rw [Int.pow_zero] at k
 rw [k,bB_div _ 0 (by omega),bB_div x i h,Int.pow_zero,Int.ediv_one]
end Go.Proofs.Ytmpkckiifeikkaa.Ma
end
section
namespace Go.Proofs.Ytmpkckiifeikkaa.Pr
open Go.RowKit Go.Proofs.YtmpkckiifeikkaaW.PrintWords Go.Proofs.YtmpkckiifeikkaaW.PrintLast Go.Proofs.YtmpkckiifeikkaaW.PrintMore
attribute [local go_sem] max2_int min2_int max_two min_two max_three min_three max_four min_four
def bits_Mul64.f (a0:Int) (a1:Int):Option (Int × Int):=some (IntKind.u64.wrap ((IntKind.u64.wrap ((IntKind.u64.wrap ((a0 / 4294967296)*(a1 / 4294967296)))+((IntKind.u64.wrap ((IntKind.u64.wrap ((a0 / 4294967296)*(Go.bits .and .u64 a1 4294967295)))+((IntKind.u64.wrap ((Go.bits .and .u64 a0 4294967295)*(Go.bits .and .u64 a1 4294967295))) / 4294967296))) / 4294967296)))+((IntKind.u64.wrap ((Go.bits .and .u64 (IntKind.u64.wrap ((IntKind.u64.wrap ((a0 / 4294967296)*(Go.bits .and .u64 a1 4294967295)))+((IntKind.u64.wrap ((Go.bits .and .u64 a0 4294967295)*(Go.bits .and .u64 a1 4294967295))) / 4294967296))) 4294967295)+(IntKind.u64.wrap ((Go.bits .and .u64 a0 4294967295)*(a1 / 4294967296))))) / 4294967296)),IntKind.u64.wrap (a0*a1))
theorem bits_Mul64.calls (a0:Int) (a1:Int) (r1:Int) (r2:Int) (w:World) (h:bits_Mul64.f a0 a1=some (r1,r2)):
  Calls Try.prog 213 #[.int .u64 a0, .int .u64 a1] w fun e w'=>e= .returned (.tuple #[.int .u64 r1, .int .u64 r2])∧Drawn0 w w':=by
 have H:(some (IntKind.u64.wrap ((IntKind.u64.wrap ((IntKind.u64.wrap ((a0 / 4294967296)*(a1 / 4294967296)))+((IntKind.u64.wrap ((IntKind.u64.wrap ((a0 / 4294967296)*(Go.bits .and .u64 a1 4294967295)))+((IntKind.u64.wrap ((Go.bits .and .u64 a0 4294967295)*(Go.bits .and .u64 a1 4294967295))) / 4294967296))) / 4294967296)))+((IntKind.u64.wrap ((Go.bits .and .u64 (IntKind.u64.wrap ((IntKind.u64.wrap ((a0 / 4294967296)*(Go.bits .and .u64 a1 4294967295)))+((IntKind.u64.wrap ((Go.bits .and .u64 a0 4294967295)*(Go.bits .and .u64 a1 4294967295))) / 4294967296))) 4294967295)+(IntKind.u64.wrap ((Go.bits .and .u64 a0 4294967295)*(a1 / 4294967296))))) / 4294967296)),IntKind.u64.wrap (a0*a1)))=some (r1,r2):=h
 clear h
 simp only [Option.some.injEq,Prod.mk.injEq] at H
 obtain⟨rfl,rfl⟩:=H
 go_enter Try.func213,Try.ntmps213
 go_wp2
 go_ret2
 exact⟨by first | rfl | (simp;done) | (simp [*];done),by repeat (first | exact Drawn0.refl _ | apply Drawn0.step)⟩
def bits_Mul.f (a0:Int) (a1:Int):Option (Int × Int):=(bits_Mul64.f a0 a1).bind fun aa=>(some (aa.1,aa.2))
theorem bits_Mul.calls (a0:Int) (a1:Int) (r1:Int) (r2:Int) (w:World) (h:bits_Mul.f a0 a1=some (r1,r2)):
  Calls Try.prog 203 #[.int .u64 a0, .int .u64 a1] w fun e w'=>e= .returned (.tuple #[.int .u64 r1, .int .u64 r2])∧Drawn0 w w':=by
 have H:((bits_Mul64.f a0 a1).bind fun aa=>(some (aa.1,aa.2)))=some (r1,r2):=h
 clear h
 replace H:=Option.bind_eq_some_iff.mp H
 obtain⟨⟨ae,af⟩,A30,H⟩:=H
 replace H:(some (ae,af))=some (r1,r2):=H
 have A3:=Aside0.mk A30
 clear A30
 simp only [Option.some.injEq,Prod.mk.injEq] at H
 obtain⟨rfl,rfl⟩:=H
 go_enter Try.func203,Try.ntmps203
 go_wp2_with (first | ((with_reducible refine gate_callee (f:=213) rfl ?_);refine goesL_ (some 25) rfl rfl Try.func213 (by kernel_rfl) rfl #[.int .u64 a0, .int .u64 a1] rfl (by(try simp only [List.map_toArray,List.map_cons,List.map_nil]);first | done | rfl | (simp only [List.length_drop,List.length_take];rfl)) ?_;(with_reducible refine(bits_Mul64.calls a0 a1 ae af _ A3.out).mono ?_);rintro e w' ⟨rfl,⟨nd,rfl⟩⟩;refine⟨_,rfl,?_⟩))
 go_ret2
 exact⟨by first | rfl | (simp;done) | (simp [*];done),by repeat (first | exact Drawn0.refl _ | apply Drawn0.step)⟩
end Go.Proofs.Ytmpkckiifeikkaa.Pr
end
section
namespace Go.Proofs.Ytmpkckiifeikkaa.Pr
open Go.RowKit Go.Proofs.YtmpkckiifeikkaaW.PrintWords Go.Proofs.YtmpkckiifeikkaaW.PrintLast Go.Proofs.YtmpkckiifeikkaaW.PrintMore
theorem mul_one (n:Int) (h0:0≤n) (h1:n≤1048576):bits_Mul.f 1 n=some (0,n):=by
 have e1:Go.bits .and .u64 n 4294967295=n:=by
  obtain⟨m,rfl⟩:=Int.eq_ofNat_of_zero_le h0
  have:m≤1048576:=by omega
  show IntKind.u64.wrap ((BitVec.ofInt 64 (m:Int) &&& BitVec.ofInt 64 4294967295).toNat:Int)=(m:Int)
  rw [show (BitVec.ofInt 64 (m:Int) &&& BitVec.ofInt 64 4294967295)=BitVec.ofNat 64 m from ?_]
  ·rw [BitVec.toNat_ofNat,Nat.mod_eq_of_lt (by omega:m < 2 ^ 64)]
   exact Ma.u64w h0 (by omega)
  ·apply BitVec.eq_of_toNat_eq
   simp only [BitVec.toNat_and,BitVec.ofInt_natCast,BitVec.toNat_ofNat]
   rw [Nat.mod_eq_of_lt (by omega:m < 2 ^ 64),show (BitVec.ofInt 64 4294967295).toNat=2 ^ 32 - 1 from rfl,Nat.and_two_pow_sub_one_eq_mod,Nat.mod_eq_of_lt (by omega)]
 have e2:Go.bits .and .u64 1 4294967295=1:=by decide
 have e3:Go.bits .and .u64 0 4294967295=0:=by decide
 have d0:n / 4294967296=0:=by omega
 have d1:(1:Int) / 4294967296=0:=by decide
 have w0:IntKind.u64.wrap 0=0:=by decide
 have wn:IntKind.u64.wrap n=n:=Ma.u64w h0 (by omega)
 unfold bits_Mul.f bits_Mul64.f
 simp only [e1,e2,d0,d1,Int.mul_zero,Int.zero_mul,Int.one_mul,w0,wn,Int.zero_add,Int.add_zero,Int.mul_one,e3,Option.bind_some]
 simp [w0]
def slices_Repeat.f (l0:List Int) (a1:Int):Option (List Int):=if l0.length=1∧0≤a1∧a1≤1048576 then some (List.replicate a1.toNat (rd l0 0)) else none
theorem take_more {α:Type} (v:α) (cur:List α) (k m:Nat) (h:cur.take k=List.replicate k v) (hk:k≤cur.length) (hm:m≤k):(splice cur k (List.replicate m v)).take (k+m)=List.replicate (k+m) v:=by
 unfold splice
 rw [h, ← List.append_assoc,List.replicate_append_replicate,List.take_append_of_le_length (by simp),List.take_of_length_le (by simp)]
theorem row_own {v:Int} {w:World} {base g n cap:Nat} {cur:List Value} (hb:base≤g) (hg:w.heap[g]?=some (.cells cur.toArray 2 (0,0))) (hn:n≤cap) (hc:cap≤maxLen) (hl:cur.length=cap) (ht:cur.take n=List.replicate n (.int .i64 v)):
  Kd.R (Kd.int .i64) 2 w base (fun _=>True) (.slice (some ⟨g,0,none⟩) n cap) (List.replicate n v):=
 Kd.R_of_own ⟨by simp [encs], .inr ⟨g,cap,cur.toArray,by simp,hb,hg,by simpa using hn,hc,by simpa using hl,by simp [encs,ht]⟩⟩ (fun _ _=>trivial)
theorem cells_same {w:World} {g k m e:Nat} {cur:List Value} {v:Value} (hg:w.heap[g]?=some (.cells cur.toArray e (0,0))) (hk:k≤cur.length) (ht:cur.take k=List.replicate k v) (hm:m≤k) (j:Nat) (u:Value) (hj:(List.replicate m v)[j]?=some u):w.cell? ((⟨g,0,none⟩:Addr).add j)=some u:=by
 obtain⟨hjm,e⟩:=List.getElem?_eq_some_iff.1 hj
 rw [List.length_replicate] at hjm
 rw [List.getElem_replicate] at e
 subst e
 have h1:(cur.take k)[j]?=some v:=by rw [ht,List.getElem?_replicate,if_pos (by omega)]
 rw [List.getElem?_take,if_pos (by omega)] at h1
 have ha:((⟨g,0,none⟩:Addr).add j)=⟨g,j,none⟩:=by unfold Addr.add;split <;> simp_all
 rw [ha]
 simp [World.cell?,hg,h1]
theorem min_one {n:Nat} (h:0 < n):1=Nat.min 1 n:=(Nat.min_eq_left (by omega:1≤n)).symm
theorem cell_one {w:World} {ad:Addr} {v:Value} (j:Nat) (u:Value) (hj: [v][j]?=some u) (h:w.cell? (ad.add (Int.toNat 0))=some v):w.cell? (ad.add j)=some u:=by
 cases j with
 | zero=>simp at hj;subst hj;exact h
 | succ j=>simp at hj
theorem made_row {w:World} {base n:Nat} {v:Value} (h:Kd.R (Kd.int .i64) 2 w base (fun _=>True) v (List.replicate n 0)):
  ∃A c,v= .slice A n c∧n≤c∧(0 < n→ ∃g cur,A=some ⟨g,0,none⟩∧base≤g∧w.heap[g]?=some (.cells (List.toArray cur) 2 (0,0))∧c≤maxLen∧cur.length=c):=by
 have ho:=Kd.own_of_R h
 rw [List.length_replicate] at ho
 rcases ho.2 with ⟨rfl,rfl⟩ | ⟨g,cap,cur,rfl,hb,hg,h1,h2,h3,h4⟩
 ·exact⟨none,0,rfl,Nat.le_refl _,fun h=>absurd h (by omega)⟩
 ·exact⟨_,cap,rfl,h1,fun _=>⟨g,cur.toList,rfl,hb,by simpa using hg,h2,by simpa using h3⟩⟩
theorem slices_Repeat.calls (A0:Option Addr) (c0:Nat) (l0:List Int) (a1:Int) (r:List Int) (w:World) (hr0:Kd.C (Kd.int .i64) w A0 l0.length l0) (hc0:l0.length≤c0) (h:slices_Repeat.f l0 a1=some r):
  Calls Try.prog 174 #[.slice A0 l0.length c0, .int .i64 a1] w fun e w'=> ∃v0_:Value,e= .returned (v0_)∧Kd.R (Kd.int .i64) 2 w' w.heap.size (fun _=>True) v0_ r∧Below w.heap.size w w':=by
 unfold slices_Repeat.f at h
 split at h
 case isFalse=>cases h
 rename_i hh
 obtain⟨h1,h2,h3⟩:=hh
 obtain⟨n,rfl⟩:=Int.eq_ofNat_of_zero_le h2
 injection h with h
 rw [Int.toNat_natCast] at h
 obtain⟨ad,rfl,hx⟩:=Kd.at_int hr0 0 (by omega) (by omega)
 rw [h1]
 have HM:=Aside0.mk (mul_one n h2 h3)
 have HX:=Aside0.mk hx
 clear hx hr0 hc0
 generalize rd l0 0=v at h HX
 subst h
 have HN:=Aside0.mk h3
 have wu:IntKind.u64.wrap (n:Int)=n:=Ma.u64w h2 (by omega)
 have w2:IntKind.i64.wrap (n:Int)=n:=IntWalk.i64_in _ (by omega)
 have hgt: ¬ (9223372036854775807:Int) < n:=by omega
 clear h1 h3
 by_cases hn:n=0
 ·subst hn
  clear wu w2 hgt h2
  go_enter Try.func174,Try.ntmps174
  go_wp2_with fail
  refine(bits_Mul.calls 1 0 _ _ _ HM.out).mono ?_
  rintro e w1 ⟨rfl,hb1⟩
  have HB:=Aside0.mk hb1
  clear hb1
  go_wp2_with (first | ((with_reducible refine gate_dst (N:=30) rfl ?_);refine Kd.R_make (Kd.int .i64) _ 2 rfl (N:=30) rfl 23 _ _ rfl (0:Int) rfl rfl Try.underlying23 (.int .i64 0) 8 info2 rfl (by decide) (by omega) 0 (ok:=fun _=>True) (okp:=fun _=>True) rfl (fun _ hk=>hk) trivial (by omega) (by have:=HN.out;omega) (Below.refl _ _) (Nat.le_refl _) ?_;intro aa w4 ho5 hb hg_ hnew_;clear hg_ hnew_;obtain⟨A4,c4,rfl,hc4,hrow⟩:=made_row (n:=0) ho5;have HO:=Aside0.mk ho5;have HB4:=Aside0.mk hb;clear ho5 hb hrow hc4) | ((with_reducible refine gate_dst (N:=33) rfl ?_);refine wpList_copy_nothing rfl (.tmp 31) (.tmp 32) 23 23 rfl 2 Try.underlying23 rfl _ _ _ _ _ _ (by rfl) (by rfl) (by simp) ?_))
  go_loopg [8] 0 (fun kq v8 w'=>v8= .int .i64 0∧w'=w4)
  case atStart=>exact⟨rfl,rfl⟩
  case round=>
   obtain⟨rfl,rfl⟩:=hrel
   go_wp2
   go_ret
   exact⟨_,rfl,Kd.R_lower HO.out HB.out.below.size,HB.out.below.trans (HB4.out.mono HB.out.below.size)⟩
 ·have hpos:0 < n:=by omega
  go_enter Try.func174,Try.ntmps174
  go_wp2_with fail
  refine(bits_Mul.calls 1 n _ _ _ HM.out).mono ?_
  rintro e w1 ⟨rfl,hb1⟩
  have HB:=Aside0.mk hb1
  clear hb1
  go_wp2_with (first | ((with_reducible refine gate_dst (N:=30) rfl ?_);refine Kd.R_make (Kd.int .i64) _ 2 rfl (N:=30) rfl 23 _ _ rfl (n:Int) rfl rfl Try.underlying23 (.int .i64 0) 8 info2 rfl (by decide) (by omega) 0 (ok:=fun _=>True) (okp:=fun _=>True) rfl (fun _ hk=>hk) trivial (by omega) (by have:=HN.out;omega) (Below.refl _ _) (Nat.le_refl _) ?_;intro aa w4 ho5 hb hg_ hnew_;clear hg_ hnew_;rw [Int.toNat_natCast] at ho5;obtain⟨A4,c4,rfl,hc4,hrow⟩:=made_row ho5;obtain⟨g,cur,rfl,hg1,hg2,hcm,hcl⟩:=hrow (by omega);have HB4:=Aside0.mk hb;have HG2:=Aside0.mk hg2;have HG1:=Aside0.mk hg1;have HCM:=Aside0.mk hcm;have HCL:=Aside0.mk hcl;have HC4:=Aside0.mk hc4;clear ho5 hb hrow hg1 hg2 hcm hcl hc4) | ((with_reducible refine gate_dst (N:=33) rfl ?_);go_loud (refine wpList_copy_splice rfl (.tmp 31) (.tmp 32) 23 23 rfl 2 Try.underlying23 rfl _ _ _ _ _ _ (by rfl) (by rfl) g 0 cur 2 HG2.out [.int .i64 v] (min_one hpos) (fun _=>⟨by rfl,ad,by rfl,fun j u hj=>cell_one j u hj ((HB.out.below.trans (HB4.out.mono HB.out.below.size)).cell (World.block_lt_of_cell? w _ HX.out) |>.trans HX.out)⟩) (by have:=HCL.out;have:=HC4.out;simp;omega) (by simp [Value.oneCell']) w.heap.size w (HB.out.below.trans (HB4.out.mono HB.out.below.size)) (by have:=HB.out.below.size;have:=HG1.out;omega) ?_;intro w5 HG5 HB6;obtain⟨cur5,hcur5⟩: ∃c,c=splice cur 0 [Value.int .i64 v]:=⟨_,rfl⟩;have hl5:cur5.length=c4:=(by rw [hcur5,length_splice _ _ _ (by have:=HCL.out;have:=HC4.out;simp;omega),HCL.out]);have ht5:cur5.take 1=List.replicate 1 (Value.int .i64 v):=(by rw [hcur5];simp [splice]);have HG6:Aside0 (w5.heap[g]?=some (.cells cur5.toArray 2 (0,0))):=(by rw [hcur5];exact⟨HG5⟩);have HL:=Aside0.mk hl5;have HT:=Aside0.mk ht5;have HB7:=Aside0.mk HB6;clear HG5 hcur5 hl5 ht5 HB6 HG2)))
  have HG0:=Aside0.mk (show w.heap.size≤g by have:=HB.out.below.size;have:=HG1.out;omega)
  clear HG1 HB4 HX HB
  go_loopg [8] n (fun kq v8 w'=> ∃(x8:Nat) (cur8:List Value),v8= .int .i64 (x8:Int)∧Aside0 (1≤x8)∧Aside0 (x8≤n)∧Aside0 (n - x8≤kq)∧Aside0 (cur8.length=c4)∧Aside0 (cur8.take x8=List.replicate x8 (.int .i64 v))∧Aside0 (w'.heap[g]?=some (.cells cur8.toArray 2 (0,0)))∧Aside0 (Below w.heap.size w w'))
  case atStart=>exact⟨1,cur5,rfl,⟨Nat.le_refl _⟩,⟨by omega⟩,⟨by omega⟩,HL,HT,HG6,HB7⟩
  case round=>
   obtain⟨x8,cur8,rfl,X1,X2,X3,XL,XT,XG,XB⟩:=hrel
   by_cases hlt:x8 < n
   ·have k1:(x8:Int) < (n:Int):=by omega
    have k2:(0:Int)≤(x8:Int):=by omega
    have k3:(x8:Int)≤(n:Int):=by omega
    have k4:x8≤n:=by omega
    have k5:x8≤c4:=by have:=HC4.out;omega
    have k6:(x8:Int)≤(c4:Int):=by omega
    have k7: ¬ c4=x8:=by have:=HC4.out;omega
    have k8: ¬ x8=0:=by have:=X1.out;omega
    have k9:IntKind.i64.wrap ((x8:Int)+(Nat.min x8 (n - x8):Nat))=((x8+Nat.min x8 (n - x8):Nat):Int):=by
     have:Nat.min x8 (n - x8)≤n:=Nat.le_trans (Nat.min_le_right _ _) (by omega)
     rw [IntWalk.i64_in _ (by have:=HN.out;omega)];omega
    go_wp2
    have XB1:Below w.heap.size w wr.drew:=XB.out.drew
    have XG1:Aside0 (wr.drew.heap[g]?=some (.cells cur8.toArray 2 (0,0))):=XG
    obtain⟨cs,hcs⟩: ∃c,c=List.replicate (Nat.min x8 (n - x8)) (Value.int .i64 v):=⟨_,rfl⟩
    have XS:=Aside0.mk hcs
    clear hcs
    have XC:Aside0 (∀j u,cs[j]?=some u→wr.drew.cell? ((⟨g,0,none⟩:Addr).add j)=some u):=⟨fun j u hj=>cells_same XG1.out (by rw [XL.out];omega) XT.out (Nat.min_le_left _ _) j u (by rw [XS.out] at hj;exact hj)⟩
    have XF:Aside0 (x8+cs.length≤cur8.length):=⟨by rw [XS.out,XL.out,List.length_replicate];have:=HC4.out;have:Nat.min x8 (n - x8)≤n - x8:=Nat.min_le_right _ _;omega⟩
    have XO:Aside0 (∀u ∈ cs,u.oneCell'=true):=⟨fun u hu=>by rw [XS.out] at hu;rw [List.eq_of_mem_replicate hu];rfl⟩
    have XN:Aside0 (cs.length=Nat.min x8 (n - x8)):=⟨by rw [XS.out];simp⟩
    have XM:Aside0 (0 < Nat.min x8 (n - x8)):=⟨by have:=X1.out;exact Nat.lt_min.2 ⟨by omega,by omega⟩⟩
    have XM2:Aside0 (Nat.min x8 (n - x8)≤n - x8):=⟨Nat.min_le_right _ _⟩
    go_region_law (refine step_copy_splice rfl (.tmp 41) (.tmp 44) 23 23 rfl 2 Try.underlying23 rfl (some ⟨g,x8,none⟩) (some ⟨g,0,none⟩) (n - x8) (c4 - x8) x8 c4 (by simp [Act.eval,Act.put]) (by simp [Act.eval,Act.put]) g x8 cur8 2 XG1.out cs XN.out (fun _=>⟨rfl,⟨g,0,none⟩,rfl,XC.out⟩) XF.out XO.out w.heap.size w XB1 HG0.out ?_;intro w6 hg6 hb6;rw [XN.out])
    go_wp2
    go_roundg (n - (x8+Nat.min x8 (n - x8)))
    case measure=>have:=XM.out;have:=X3.out;omega
    case rel=>exact⟨x8+Nat.min x8 (n - x8),splice cur8 x8 cs,by first | rfl | simp [k9],⟨by have:=X1.out;omega⟩,⟨by have:=XM2.out;omega⟩,⟨Nat.le_refl _⟩,⟨by rw [length_splice _ _ _ XF.out,XL.out]⟩,⟨by rw [XS.out];exact take_more _ _ _ _ XT.out (by rw [XL.out];omega) (Nat.min_le_left _ _)⟩,⟨hg6⟩,⟨hb6⟩⟩
   ·obtain rfl:x8=n:=by have:=X2.out;omega
    go_wp2
    go_ret
    exact⟨_,rfl,row_own HG0.out XG.out HC4.out HCM.out XL.out XT.out,XB.out⟩
end Go.Proofs.Ytmpkckiifeikkaa.Pr
end
section
namespace Go.Proofs.Ytmpkckiifeikkaa.Pr
open Go.RowKit Go.Proofs.YtmpkckiifeikkaaW.PrintWords Go.Proofs.YtmpkckiifeikkaaW.PrintLast Go.Proofs.YtmpkckiifeikkaaW.PrintMore
attribute [local go_sem] max2_int min2_int max_two min_two max_three min_three max_four min_four
mutual
def impl_Cube_longest.l0:Nat→List Int→Int→Int→List Int→Option (Int × Bool)
 | 0,_,_,_,_=>none
 | k+1,x4,x5,ae,aa=>if x5 < (aa.length:Int) then(impl_Cube_longest.l1 k x4 x5 x5 aa (aa.length:Int) 0 ae aa) else((slices_Max_int64_int64.f k x4).bind fun af=>(some (af,true)))
def impl_Cube_longest.l1:Nat→List Int→Int→Int→List Int→Int→Int→Int→List Int→Option (Int × Bool)
 | 0,_,_,_,_,_,_,_,_=>none
 | k+1,x4,x5,x6,x24,x25,x26,ae,aa=>if x26 < x25 then(if 0≤x26 then(if x26 < (x24.length:Int) then(if x26 < (x4.length:Int) then(if(rd x4 x26) ≥ 0 then(impl_Cube_longest.l1 k x4 x5 x6 x24 x25 (wrap64 (x26+1)) ae aa) else(impl_Cube_longest.l2 k x4 x5 x6 x26 (rd x24 x26) 0 x24 x25 x26 ae 0 ae aa)) else(none)) else(none)) else(none)) else(if x5=x6 then(some (0,false)) else(impl_Cube_longest.l0 k x4 x5 ae aa))
def impl_Cube_longest.l2:Nat→List Int→Int→Int→Int→Int→Int→List Int→Int→Int→Int→Int→Int→List Int→Option (Int × Bool)
 | 0,_,_,_,_,_,_,_,_,_,_,_,_,_=>none
 | k+1,x4,x5,x6,x7,x8,x9,x24,x25,x26,x37,x38,ae,aa=>if x38 < x37 then((impl_has.f x8 x38).bind fun ag=>(if ag=true then(impl_Cube_longest.j3 k x4 x5 x6 x7 x8 x9 x38 x24 x25 x26 x37 x38 (decide (x9 < 0)) ae aa) else(impl_Cube_longest.j3 k x4 x5 x6 x7 x8 x9 x38 x24 x25 x26 x37 x38 true ae aa))) else(if x9 ≥ 0 then(if 0≤x7 then(if x7 < (x4.length:Int) then(impl_Cube_longest.l1 k (x4.set (x7:Int).toNat x9) (wrap64 (x5+1)) x6 x24 x25 (wrap64 (x26+1)) ae aa) else(none)) else(none)) else(impl_Cube_longest.l1 k x4 x5 x6 x24 x25 (wrap64 (x26+1)) ae aa))
def impl_Cube_longest.j3:Nat→List Int→Int→Int→Int→Int→Int→Int→List Int→Int→Int→Int→Int→Bool→Int→List Int→Option (Int × Bool)
 | 0,_,_,_,_,_,_,_,_,_,_,_,_,_,_,_=>none
 | k+1,x4,x5,x6,x7,x8,x9,x10,x24,x25,x26,x37,x38,x48,ae,aa=>if x48=true then(impl_Cube_longest.l2 k x4 x5 x6 x7 x8 x9 x24 x25 x26 x37 (wrap64 (x38+1)) ae aa) else(if 0≤x10 then(if 0≤(Go.bits .xor .i64 x7 (shl .i64 1 x10)) then(if(Go.bits .xor .i64 x7 (shl .i64 1 x10)) < (x4.length:Int) then(if(rd x4 (Go.bits .xor .i64 x7 (shl .i64 1 x10))) < 0 then(impl_Cube_longest.l2 k x4 x5 x6 x7 x8 (-1) x24 x25 x26 x37 (wrap64 (x38+1)) ae aa) else(impl_Cube_longest.l2 k x4 x5 x6 x7 x8 (mx x9 (wrap64 ((rd x4 (Go.bits .xor .i64 x7 (shl .i64 1 x10)))+1))) x24 x25 x26 x37 (wrap64 (x38+1)) ae aa)) else(none)) else(none)) else(none))
end
def impl_Cube_longest.f (k:Nat) (a0_0:Int) (aa:List Int):Option (Int × Bool):=(slices_Repeat.f (([(-1)]:List Int)) (aa.length:Int)).bind fun ae=>(impl_Cube_longest.l0 k ae 0 a0_0 aa)
theorem impl_Cube_longest.mono_l: ∀k,(∀y0 y1 y2 y3,LeO (impl_Cube_longest.l0 k y0 y1 y2 y3) (impl_Cube_longest.l0 (k+1) y0 y1 y2 y3))∧(∀y0 y1 y2 y3 y4 y5 y6 y7,LeO (impl_Cube_longest.l1 k y0 y1 y2 y3 y4 y5 y6 y7) (impl_Cube_longest.l1 (k+1) y0 y1 y2 y3 y4 y5 y6 y7))∧(∀y0 y1 y2 y3 y4 y5 y6 y7 y8 y9 y10 y11 y12,LeO (impl_Cube_longest.l2 k y0 y1 y2 y3 y4 y5 y6 y7 y8 y9 y10 y11 y12) (impl_Cube_longest.l2 (k+1) y0 y1 y2 y3 y4 y5 y6 y7 y8 y9 y10 y11 y12))∧(∀y0 y1 y2 y3 y4 y5 y6 y7 y8 y9 y10 y11 y12 y13 y14,LeO (impl_Cube_longest.j3 k y0 y1 y2 y3 y4 y5 y6 y7 y8 y9 y10 y11 y12 y13 y14) (impl_Cube_longest.j3 (k+1) y0 y1 y2 y3 y4 y5 y6 y7 y8 y9 y10 y11 y12 y13 y14))
 | 0=>⟨fun _ _ _ _ r h=>by simp [impl_Cube_longest.l0] at h,fun _ _ _ _ _ _ _ _ r h=>by simp [impl_Cube_longest.l1] at h,fun _ _ _ _ _ _ _ _ _ _ _ _ _ r h=>by simp [impl_Cube_longest.l2] at h,fun _ _ _ _ _ _ _ _ _ _ _ _ _ _ _ r h=>by simp [impl_Cube_longest.j3] at h⟩
 | k+1=>by
  obtain⟨ih0,ih1,ih2,ih3⟩:=impl_Cube_longest.mono_l k
  refine⟨?_,?_,?_,?_⟩
  ·intro y0 y1 y2 y3
   unfold impl_Cube_longest.l0
   repeat' first
   | (with_reducible exact ih0 _ _ _ _)
   | (with_reducible exact ih1 _ _ _ _ _ _ _ _)
   | (with_reducible exact ih2 _ _ _ _ _ _ _ _ _ _ _ _ _)
   | (with_reducible exact ih3 _ _ _ _ _ _ _ _ _ _ _ _ _ _ _)
   | (with_reducible exact slices_Max_int64_int64.mono _ _)
   | (with_reducible exact LeO.refl _)
   | (with_reducible exact LeO.none _)
   | (with_reducible refine LeO.ite ?_ ?_)
   | (with_reducible refine LeO.bind ?_ (fun _=>?_))
   | exact ih0 _ _ _ _
   | exact ih1 _ _ _ _ _ _ _ _
   | exact ih2 _ _ _ _ _ _ _ _ _ _ _ _ _
   | exact ih3 _ _ _ _ _ _ _ _ _ _ _ _ _ _ _
   | exact slices_Max_int64_int64.mono _ _
   | exact LeO.none _
   | refine LeO.ite ?_ ?_
   | refine LeO.bind ?_ (fun _=>?_)
  ·intro y0 y1 y2 y3 y4 y5 y6 y7
   unfold impl_Cube_longest.l1
   repeat' first
   | (with_reducible exact ih0 _ _ _ _)
   | (with_reducible exact ih1 _ _ _ _ _ _ _ _)
   | (with_reducible exact ih2 _ _ _ _ _ _ _ _ _ _ _ _ _)
   | (with_reducible exact ih3 _ _ _ _ _ _ _ _ _ _ _ _ _ _ _)
   | (with_reducible exact slices_Max_int64_int64.mono _ _)
   | (with_reducible exact LeO.refl _)
   | (with_reducible exact LeO.none _)
   | (with_reducible refine LeO.ite ?_ ?_)
   | (with_reducible refine LeO.bind ?_ (fun _=>?_))
   | exact ih0 _ _ _ _
   | exact ih1 _ _ _ _ _ _ _ _
   | exact ih2 _ _ _ _ _ _ _ _ _ _ _ _ _
   | exact ih3 _ _ _ _ _ _ _ _ _ _ _ _ _ _ _
   | exact slices_Max_int64_int64.mono _ _
   | exact LeO.none _
   | refine LeO.ite ?_ ?_
   | refine LeO.bind ?_ (fun _=>?_)
  ·intro y0 y1 y2 y3 y4 y5 y6 y7 y8 y9 y10 y11 y12
   unfold impl_Cube_longest.l2
   repeat' first
   | (with_reducible exact ih0 _ _ _ _)
   | (with_reducible exact ih1 _ _ _ _ _ _ _ _)
   | (with_reducible exact ih2 _ _ _ _ _ _ _ _ _ _ _ _ _)
   | (with_reducible exact ih3 _ _ _ _ _ _ _ _ _ _ _ _ _ _ _)
   | (with_reducible exact slices_Max_int64_int64.mono _ _)
   | (with_reducible exact LeO.refl _)
   | (with_reducible exact LeO.none _)
   | (with_reducible refine LeO.ite ?_ ?_)
   | (with_reducible refine LeO.bind ?_ (fun _=>?_))
   | exact ih0 _ _ _ _
   | exact ih1 _ _ _ _ _ _ _ _
   | exact ih2 _ _ _ _ _ _ _ _ _ _ _ _ _
   | exact ih3 _ _ _ _ _ _ _ _ _ _ _ _ _ _ _
   | exact slices_Max_int64_int64.mono _ _
   | exact LeO.none _
   | refine LeO.ite ?_ ?_
   | refine LeO.bind ?_ (fun _=>?_)
  ·intro y0 y1 y2 y3 y4 y5 y6 y7 y8 y9 y10 y11 y12 y13 y14
   unfold impl_Cube_longest.j3
   repeat' first
   | (with_reducible exact ih0 _ _ _ _)
   | (with_reducible exact ih1 _ _ _ _ _ _ _ _)
   | (with_reducible exact ih2 _ _ _ _ _ _ _ _ _ _ _ _ _)
   | (with_reducible exact ih3 _ _ _ _ _ _ _ _ _ _ _ _ _ _ _)
   | (with_reducible exact slices_Max_int64_int64.mono _ _)
   | (with_reducible exact LeO.refl _)
   | (with_reducible exact LeO.none _)
   | (with_reducible refine LeO.ite ?_ ?_)
   | (with_reducible refine LeO.bind ?_ (fun _=>?_))
   | exact ih0 _ _ _ _
   | exact ih1 _ _ _ _ _ _ _ _
   | exact ih2 _ _ _ _ _ _ _ _ _ _ _ _ _
   | exact ih3 _ _ _ _ _ _ _ _ _ _ _ _ _ _ _
   | exact slices_Max_int64_int64.mono _ _
   | exact LeO.none _
   | refine LeO.ite ?_ ?_
   | refine LeO.bind ?_ (fun _=>?_)
theorem impl_Cube_longest.mono: ∀a0 a1 k,LeO (impl_Cube_longest.f k a0 a1) (impl_Cube_longest.f (k+1) a0 a1):=by
 intro a0 a1 k
 obtain⟨ih0,ih1,ih2,ih3⟩:=impl_Cube_longest.mono_l k
 unfold impl_Cube_longest.f
 repeat' first
   | (with_reducible exact ih0 _ _ _ _)
   | (with_reducible exact ih1 _ _ _ _ _ _ _ _)
   | (with_reducible exact ih2 _ _ _ _ _ _ _ _ _ _ _ _ _)
   | (with_reducible exact ih3 _ _ _ _ _ _ _ _ _ _ _ _ _ _ _)
   | (with_reducible exact slices_Max_int64_int64.mono _ _)
   | (with_reducible exact LeO.refl _)
   | (with_reducible exact LeO.none _)
   | (with_reducible refine LeO.ite ?_ ?_)
   | (with_reducible refine LeO.bind ?_ (fun _=>?_))
   | exact ih0 _ _ _ _
   | exact ih1 _ _ _ _ _ _ _ _
   | exact ih2 _ _ _ _ _ _ _ _ _ _ _ _ _
   | exact ih3 _ _ _ _ _ _ _ _ _ _ _ _ _ _ _
   | exact slices_Max_int64_int64.mono _ _
   | exact LeO.none _
   | refine LeO.ite ?_ ?_
   | refine LeO.bind ?_ (fun _=>?_)
theorem impl_Cube_longest.calls (k:Nat) (a0_0:Int) (aw:Option Addr) (av:Nat) (ae:List Int) (r1:Int) (r2:Bool) (w:World) (bg:Kd.C (Kd.int .i64) w aw ae.length ae) (bh:ae.length≤av) (h:impl_Cube_longest.f k a0_0 ae=some (r1,r2)):
  Calls Try.prog 131 #[.agg #[.int .i64 a0_0, .slice aw ae.length av]] w fun e w'=>e= .returned (.tuple #[.int .i64 r1, .bool r2])∧Below w.heap.size w w':=by
 have hu64:=Try.underlying64
 have HR0_1:=Aside0.mk bg
 have HC0_1:=Aside0.mk bh
 clear bg bh
 have HB:=Aside0.mk (Below.refl w.heap.size w)
 have H:((slices_Repeat.f (([(-1)]:List Int)) (ae.length:Int)).bind fun ay=>(impl_Cube_longest.l0 k ay 0 a0_0 ae))=some (r1,r2):=h
 clear h
 obtain⟨ba,hy962⟩: ∃y_:List Int,y_=(([(-1)]:List Int)):=⟨_,rfl⟩
 replace H:((slices_Repeat.f ba (ae.length:Int)).bind fun ay=>(impl_Cube_longest.l0 k ay 0 a0_0 ae))=some (r1,r2):=by first | (rw [hy962];with_reducible exact H) | (have H2_:=(Option.bind_some _ _).symm.trans H;rw [hy962];with_reducible exact H2_) | (have H2_:=(Option.bind_some _ _).symm.trans H;with_reducible exact H2_) | with_reducible exact H | (rw [hy962];exact H) | exact H
 have bi:=Aside0.mk hy962
 clear hy962
 replace H:=Option.bind_eq_some_iff.mp H
 obtain⟨ay,A20,H⟩:=H
 replace H:(impl_Cube_longest.l0 k ay 0 a0_0 ae)=some (r1,r2):=H
 have A2:=Aside0.mk A20
 clear A20
 have H':=Aside0.mk H
 clear H
 go_enter Try.func131,Try.ntmps131
 go_wp2_with (first | ((with_reducible refine gate_dst (N:=1) rfl ?_);refine box_event ?hg (N:=1) ?hd (cs:= #[.int .i64 a0_0, .slice aw ae.length av]) (t:=64) ?hr ?_;(case hd=>rfl);(case hg=>rfl);(case hr=>first | (go_simp;done) | (go_simp;rfl));intro au hg w3 hbox hb;have ah:=Aside0.mk (hbox);have bN:=Aside0.mk ((by rw [hg];exact bz_:w.heap.size≤au));have bO:=Aside0.mk ((by rw [hg];exact bz_:w.heap.size≤au));replace HB:=Aside0.mk (bs_ hb);clear hb hbox hg) | ((with_reducible refine gate_dst (N:=12) rfl ?_);refine Kd.R_lit (Kd.int .i64) _ 2 ?hg (N:=12) ?hd (xs:=([(-1)]:List Int)) (inner:= [.int .i64 (-1)]) (ok:=fun _=>True) (okp:=fun _=>True) ?hr ?hp (fun _ hk=>hk) trivial (Below.refl _ _) (Nat.le_refl _) (by simp) ?_;(case hd=>rfl);(case hg=>rfl);(case hr=>first | (go_simp;done) | (go_simp;rfl));(case hp=>exact(Reps.one (show Kd.M (Kd.int .i64) _ _ _ (-1) [.int .i64 (-1)] from rfl) (Reps.none _ _)));intro bP w4 ho5 hb hg_ hnew_;clear hg_ hnew_;(first | rw [← bi.out] at ho5 | (simp only [Int.reduceToNat] at ho5;rw [← bi.out] at ho5));have ax:=Aside0.mk (Kd.R_lower ho5 bz_);replace ah:=Aside0.mk (bb_ ah.out hb);replace HB:=Aside0.mk (bs_ hb);clear hb ho5;have az:w4.cell? ⟨au,0,none⟩=some (.int .i64 a0_0):=(blk_cell ah.out 0).trans rfl;have aA:w4.cell? ⟨au,1,none⟩=some (.slice aw ae.length av):=(blk_cell ah.out 1).trans rfl;have aC:=blk_frozen ah.out 0;have aD:=blk_frozen ah.out 1;obtain⟨bK,bL,bM⟩:=Kd.R_slice ax.out;subst bM) | ((with_reducible refine gate_callee (f:=174) rfl ?_);refine gL_ 16 Try.func174 #[.slice bK ba.length bL, .int .i64 (ae.length:Int)] ?_;(with_reducible refine(slices_Repeat.calls _ _ ba (ae.length:Int) ay _ ?aY ?aZ A2.out).mono ?_);(case aY=>repeat (first | exact(Kd.R_reads' ax.out).2.2 | (with_reducible refine Kd.C_alloc ?_ _) | (with_reducible refine Kd.C_drewN ?_ _) | (with_reducible refine Kd.C_drew ?_)));(case aZ=>exact(Kd.R_reads' ax.out).2.1);rintro e w8 ⟨bk,rfl,ho0,hb⟩;refine⟨_,rfl,?_⟩;have bw:=Aside0.mk (Kd.R_lower (Kd.R_new' ho0 (Kd.R_lt (ro_ ax.out))) bz_);replace ah:=Aside0.mk (bb_ ah.out hb);replace ax:=Aside0.mk (Kd.R_elder' (ro_ ax.out) (Kd.R_base ho0) hb);replace HB:=Aside0.mk (bs_ hb);(try clear hb);(try clear hb2);(try clear hk);(try clear hi);(try clear ho0)))
 go_loopg [5] k (fun kq v5 w'=> ∃(aI:List Int) (aj:Int),v5= .int .i64 aj∧Aside0 (impl_Cube_longest.l0 kq aI aj a0_0 ae=some (r1,r2))∧Aside0 (kq≤k)∧Aside0 (Kd.R (Kd.int .i64) 2 w' w.heap.size (fun _=>True) bk aI)∧Aside0 (w'.heap[au]?=some (.cells #[.int .i64 a0_0,(.slice aw ae.length av)] 64 (0,0)))∧Aside0 (Below w.heap.size w w'))
 case atStart=>exact⟨(ay),(0),rs_,H',⟨Nat.le_refl _⟩,⟨by(with_reducible repeat (first | apply Kd.R_alloc | apply Kd.R_drewN | apply Kd.R_drew));exact Kd.R_mono bw.out (fun _ hk=>trivial)⟩,⟨bk_⟩,⟨hb_⟩⟩
 case round=>
  clear H'
  try clear c1
  try clear p2
  try clear az
  try clear aA
  try clear aC
  try clear aD
  obtain⟨aI,aj,rfl,HA,HK1,ai,ah,HB⟩:=hrel
  cases gk with
  | zero=>exact absurd HA.out (by simp [impl_Cube_longest.l0])
  | succ k1=>
   have H:=HA.out
   clear HA
   simp only [impl_Cube_longest.l0] at H
   by_cases c9:aj < (ae.length:Int)
   ·rw [if_pos c9] at H
    have c9b0:decide (aj < (ae.length:Int))=true:=decide_eq_true c9
    clear c9
    have H':=Aside0.mk H
    clear H
    have aJ:wr.cell? ⟨au,0,none⟩=some (.int .i64 a0_0):=(blk_cell ah.out 0).trans rfl
    have aK:wr.cell? ⟨au,1,none⟩=some (.slice aw ae.length av):=(blk_cell ah.out 1).trans rfl
    have aM:=blk_frozen ah.out 0
    have aN:=blk_frozen ah.out 1
    go_wp2
    go_loopg [5,26] k1 (fun kq v5 v26 w'=> ∃(ag:List Int) (ak:Int) (aa:Int),v5= .int .i64 ak∧v26= .int .i64 aa∧Aside0 (impl_Cube_longest.l1 kq ag ak aj ae (ae.length:Int) aa a0_0 ae=some (r1,r2))∧Aside0 (kq≤k1)∧Aside0 (Kd.R (Kd.int .i64) 2 w' w.heap.size (fun _=>True) bk ag)∧Aside0 (w'.heap[au]?=some (.cells #[.int .i64 a0_0,(.slice aw ae.length av)] 64 (0,0)))∧Aside0 (Below w.heap.size w w'))
    case atStart=>exact⟨(aI),(aj),(0),rs_,rs_,H',⟨Nat.le_refl _⟩,⟨ro_ ai.out⟩,⟨bk_⟩,⟨hb_⟩⟩
    case round=>
     clear H'
     try clear c1
     try clear p2
     try clear c9
     try clear c9b0
     try clear aJ
     try clear aK
     try clear az
     try clear aA
     try clear aM
     try clear aN
     try clear aC
     try clear aD
     try clear p2
     obtain⟨ag,ak,aa,rfl,rfl,HA,HK2,ai,ah,HB⟩:=hrel
     cases gk with
     | zero=>exact absurd HA.out (by simp [impl_Cube_longest.l1])
     | succ k2=>
      have H:=HA.out
      clear HA
      simp only [impl_Cube_longest.l1] at H
      by_cases c11:aa < (ae.length:Int)
      ·rw [if_pos c11] at H
       have c11b0:decide (aa < (ae.length:Int))=true:=decide_eq_true c11
       clear c11
       by_cases c12:0≤aa
       ·rw [if_pos c12] at H
        have c12b0:decide (0≤aa)=true:=decide_eq_true c12
        clear c12
        by_cases c13:aa < (ae.length:Int)
        ·rw [if_pos c13] at H
         have c13b0:decide (aa < (ae.length:Int))=true:=decide_eq_true c13
         clear c13
         by_cases c14:aa < (ag.length:Int)
         ·rw [if_pos c14] at H
          have c14b0:decide (aa < (ag.length:Int))=true:=decide_eq_true c14
          clear c14
          by_cases c15:(rd ag aa) ≥ 0
          ·rw [if_pos c15] at H
           have c15b0:decide (0≤(rd ag aa))=true:=decide_eq_true c15
           clear c15
           have H':=Aside0.mk H
           clear H
           have p969:0≤(aa:Int):=od_
           have q969:aa < (ae.length:Int):=od_
           obtain⟨aT,e969,hx969_0⟩:=Kd.at_int HR0_1.out aa p969 q969
           cases e969
           replace hx969_0:=(HB.out.cell (World.block_lt_of_cell? w _ hx969_0)).trans hx969_0
           replace p969:=eq_true p969
           replace q969:=eq_true q969
           obtain⟨bQ,bS,bA⟩:=Kd.R_slice ai.out
           subst bA
           have p970:0≤(aa:Int):=od_
           have q970:aa < (ag.length:Int):=od_
           obtain⟨aG,e970,hx970_0⟩:=Kd.at_int (Kd.R_reads' ai.out).2.2 aa p970 q970
           cases e970
           replace p970:=eq_true p970
           replace q970:=eq_true q970
           go_wp2
           go_roundg k2
           case measure=>have:=HK1.out;have:=HK2.out;omega
           case rel=>exact⟨(ag),(ak),(wrap64 (aa+1)),rs_,rs_,H',⟨by have:=HK1.out;have:=HK2.out;omega⟩,⟨ro_ ai.out⟩,⟨bk_⟩,⟨hb_⟩⟩
          ·rw [if_neg c15] at H
           have c15b0:decide (0≤(rd ag aa))=false:=decide_eq_false c15
           clear c15
           have H':=Aside0.mk H
           clear H
           have p969:0≤(aa:Int):=od_
           have q969:aa < (ae.length:Int):=od_
           obtain⟨aT,e969,hx969_0⟩:=Kd.at_int HR0_1.out aa p969 q969
           cases e969
           replace hx969_0:=(HB.out.cell (World.block_lt_of_cell? w _ hx969_0)).trans hx969_0
           replace p969:=eq_true p969
           replace q969:=eq_true q969
           obtain⟨bT,bb,bC⟩:=Kd.R_slice ai.out
           subst bC
           have p970:0≤(aa:Int):=od_
           have q970:aa < (ag.length:Int):=od_
           obtain⟨aG,e970,hx970_0⟩:=Kd.at_int (Kd.R_reads' ai.out).2.2 aa p970 q970
           cases e970
           replace p970:=eq_true p970
           replace q970:=eq_true q970
           have aU:wr.cell? ⟨au,0,none⟩=some (.int .i64 a0_0):=(blk_cell ah.out 0).trans rfl
           have aV:wr.cell? ⟨au,1,none⟩=some (.slice (some aT) ae.length av):=(blk_cell ah.out 1).trans rfl
           have aW:=blk_frozen ah.out 0
           have aX:=blk_frozen ah.out 1
           go_wp2
           go_loopg [9,38] k2 (fun kq v9 v38 w'=> ∃(aq:Int) (af:Int),v9= .int .i64 aq∧v38= .int .i64 af∧Aside0 (impl_Cube_longest.l2 kq ag ak aj aa (rd ae aa) aq ae (ae.length:Int) aa a0_0 af a0_0 ae=some (r1,r2))∧Aside0 (kq≤k2)∧Aside0 (Kd.R (Kd.int .i64) 2 w' w.heap.size (fun _=>True) (.slice (some aG) ag.length bb) ag)∧Aside0 (w'.heap[au]?=some (.cells #[.int .i64 a0_0,(.slice (some aT) ae.length av)] 64 (0,0)))∧Aside0 (Below w.heap.size w w'))
           case atStart=>exact⟨(0),(0),rs_,rs_,H',⟨Nat.le_refl _⟩,⟨ro_ ai.out⟩,⟨bk_⟩,⟨hb_⟩⟩
           case round=>
            clear H'
            try clear c1
            try clear p2
            try clear p6
            try clear c9
            try clear c9b0
            try clear p9
            try clear q9
            try clear hx9
            try clear c11
            try clear c11b0
            try clear c12
            try clear c12b0
            try clear c13
            try clear c13b0
            try clear c14
            try clear c14b0
            try clear c15
            try clear c15b0
            try clear c17
            try clear aJ
            try clear aK
            try clear aU
            try clear aV
            try clear az
            try clear aA
            try clear aM
            try clear aN
            try clear aW
            try clear aX
            try clear aC
            try clear aD
            try clear hx969_0
            try clear hx970_0
            try clear p2
            try clear p969
            try clear p970
            try clear q969
            try clear q970
            obtain⟨aq,af,rfl,rfl,HA,HK3,ai,ah,HB⟩:=hrel
            cases gk with
            | zero=>exact absurd HA.out (by simp [impl_Cube_longest.l2])
            | succ k3=>
             have H:=HA.out
             clear HA
             simp only [impl_Cube_longest.l2] at H
             by_cases c19:af < a0_0
             ·rw [if_pos c19] at H
              have c19b0:decide (af < a0_0)=true:=decide_eq_true c19
              clear c19
              have HC20:=Aside0.mk H
              clear H
              go_upto_region 13 with (fail)
              go_cut [48] (fun v48 wc=> ∃(kq:Nat) (aH:Bool),v48= .bool aH∧Aside0 (impl_Cube_longest.j3 kq ag ak aj aa (rd ae aa) aq af ae (ae.length:Int) aa a0_0 af aH a0_0 ae=some (r1,r2))∧Aside0 (kq≤k3)∧Aside0 (Kd.R (Kd.int .i64) 2 wc w.heap.size (fun _=>True) (.slice (some aG) ag.length bb) ag)∧Aside0 (wc.heap[au]?=some (.cells #[.int .i64 a0_0,(.slice (some aT) ae.length av)] 64 (0,0)))∧Aside0 (Below w.heap.size w wc))
              case first=>
               have H:=HC20.out
               clear HC20
               replace H:=Option.bind_eq_some_iff.mp H
               obtain⟨bn,A210,H⟩:=H
               replace H:(if bn=true then(impl_Cube_longest.j3 k3 ag ak aj aa (rd ae aa) aq af ae (ae.length:Int) aa a0_0 af (decide (aq < 0)) a0_0 ae) else(impl_Cube_longest.j3 k3 ag ak aj aa (rd ae aa) aq af ae (ae.length:Int) aa a0_0 af true a0_0 ae))=some (r1,r2):=H
               have A21:=Aside0.mk A210
               clear A210
               by_cases c22:bn=true
               ·subst c22
                have H1:(impl_Cube_longest.j3 k3 ag ak aj aa (rd ae aa) aq af ae (ae.length:Int) aa a0_0 af (decide (aq < 0)) a0_0 ae)=some (r1,r2):=by rw [if_pos rfl] at H;exact H
                clear H
                have H:=H1
                clear H1
                have H':=Aside0.mk H
                clear H
                go_wp2_with (first | ((with_reducible refine gate_callee (f:=130) rfl ?_);refine gL_ 43 Try.func130 #[.int .i64 (rd ae aa), .int .i64 af] ?_;(with_reducible refine(impl_has.calls (rd ae aa) af true _ A21.out).mono ?_);rintro e w' ⟨rfl,⟨nd,rfl⟩⟩;refine⟨_,rfl,?_⟩))
                go_meet
                case rel=>exact⟨_,(decide (aq < 0)),rs_,H',⟨by have:=HK1.out;have:=HK2.out;have:=HK3.out;first | omega | exact Nat.le_refl _⟩,⟨ro_ ai.out⟩,⟨bk_⟩,⟨hb_⟩⟩
               ·replace c22:=Bool.eq_false_iff.mpr c22
                subst c22
                have H1:(impl_Cube_longest.j3 k3 ag ak aj aa (rd ae aa) aq af ae (ae.length:Int) aa a0_0 af true a0_0 ae)=some (r1,r2):=by rw [if_neg (show ¬ (false=true) by decide)] at H;exact H
                clear H
                have H:=H1
                clear H1
                have H':=Aside0.mk H
                clear H
                go_wp2_with (first | ((with_reducible refine gate_callee (f:=130) rfl ?_);refine gL_ 43 Try.func130 #[.int .i64 (rd ae aa), .int .i64 af] ?_;(with_reducible refine(impl_has.calls (rd ae aa) af false _ A21.out).mono ?_);rintro e w' ⟨rfl,⟨nd,rfl⟩⟩;refine⟨_,rfl,?_⟩))
                go_meet
                case rel=>exact⟨_,(true),rs_,H',⟨by have:=HK1.out;have:=HK2.out;have:=HK3.out;first | omega | exact Nat.le_refl _⟩,⟨ro_ ai.out⟩,⟨bk_⟩,⟨hb_⟩⟩
              case rest=>
               clear HC20
               try clear c1
               try clear c2
               try clear p2
               try clear p6
               try clear c9
               try clear c9b0
               try clear p9
               try clear q9
               try clear hx9
               try clear c11
               try clear c11b0
               try clear c12
               try clear c12b0
               try clear c13
               try clear c13b0
               try clear c14
               try clear c14b0
               try clear c15
               try clear c15b0
               try clear c17
               try clear c19
               try clear c19b0
               try clear c22
               try clear aJ
               try clear aK
               try clear aU
               try clear aV
               try clear az
               try clear aA
               try clear aM
               try clear aN
               try clear aW
               try clear aX
               try clear aC
               try clear aD
               try clear hx969_0
               try clear hx970_0
               try clear p2
               try clear p6
               try clear p9
               try clear p969
               try clear p970
               try clear q9
               try clear q969
               try clear q970
               obtain⟨kq,aH,rfl,HA,HJ19,ai,ah,HB⟩:=hcut
               cases kq with
               | zero=>exact absurd HA.out (by simp [impl_Cube_longest.j3])
               | succ kj19=>
                have H:=HA.out
                clear HA
                simp only [impl_Cube_longest.j3] at H
                by_cases c23:aH=true
                ·subst c23
                 have H1:(impl_Cube_longest.l2 kj19 ag ak aj aa (rd ae aa) aq ae (ae.length:Int) aa a0_0 (wrap64 (af+1)) a0_0 ae)=some (r1,r2):=by rw [if_pos rfl] at H;exact H
                 clear H
                 have H:=H1
                 clear H1
                 have H':=Aside0.mk H
                 clear H
                 go_wp2
                 go_roundg kj19
                 case measure=>have:=HK1.out;have:=HK2.out;have:=HK3.out;have:=HJ19.out;omega
                 case rel=>exact⟨(aq),(wrap64 (af+1)),rs_,rs_,H',⟨by have:=HK1.out;have:=HK2.out;have:=HK3.out;have:=HJ19.out;omega⟩,⟨ro_ ai.out⟩,⟨bk_⟩,⟨hb_⟩⟩
                ·replace c23:=Bool.eq_false_iff.mpr c23
                 subst c23
                 have H1:(if 0≤af then(if 0≤(Go.bits .xor .i64 aa (shl .i64 1 af)) then(if(Go.bits .xor .i64 aa (shl .i64 1 af)) < (ag.length:Int) then(if(rd ag (Go.bits .xor .i64 aa (shl .i64 1 af))) < 0 then(impl_Cube_longest.l2 kj19 ag ak aj aa (rd ae aa) (-1) ae (ae.length:Int) aa a0_0 (wrap64 (af+1)) a0_0 ae) else(impl_Cube_longest.l2 kj19 ag ak aj aa (rd ae aa) (mx aq (wrap64 ((rd ag (Go.bits .xor .i64 aa (shl .i64 1 af)))+1))) ae (ae.length:Int) aa a0_0 (wrap64 (af+1)) a0_0 ae)) else(none)) else(none)) else(none))=some (r1,r2):=by rw [if_neg (show ¬ (false=true) by decide)] at H;exact H
                 clear H
                 have H:=H1
                 clear H1
                 by_cases c24:0≤af
                 ·rw [if_pos c24] at H
                  have c24b0:=eq_true c24
                  have c24b1:decide (0≤af)=true:=decide_eq_true c24
                  clear c24
                  obtain⟨ji25,hji25⟩: ∃j_:Int,(shl .i64 1 af)=j_:=⟨_,rfl⟩
                  replace H:(if 0≤(Go.bits .xor .i64 aa (ji25)) then(if(Go.bits .xor .i64 aa (ji25)) < (ag.length:Int) then(if(rd ag (Go.bits .xor .i64 aa (ji25))) < 0 then(impl_Cube_longest.l2 kj19 ag ak aj aa (rd ae aa) (-1) ae (ae.length:Int) aa a0_0 (wrap64 (af+1)) a0_0 ae) else(impl_Cube_longest.l2 kj19 ag ak aj aa (rd ae aa) (mx aq (wrap64 ((rd ag (Go.bits .xor .i64 aa (ji25)))+1))) ae (ae.length:Int) aa a0_0 (wrap64 (af+1)) a0_0 ae)) else(none)) else(none))=some (r1,r2):=by first | (rw [hji25] at H;exact H) | (simp only [hji25] at H ⊢;exact H)
                  have hji25_:(IntKind.i64.wrap (1*2 ^ min af.toNat 64))=ji25:=hji25
                  have hji25z:af≤64→(IntKind.i64.wrap (1*2 ^ af.toNat))=ji25:=shl_small hji25
                  have hji25u:(IntKind.i64.wrap (2 ^ min af.toNat 64))=ji25:=by have h_:=hji25_;rw [Int.one_mul] at h_;exact h_
                  have hji25v:af≤64→(IntKind.i64.wrap (2 ^ af.toNat))=ji25:=fun hle_=>by have h_:=hji25z hle_;rw [Int.one_mul] at h_;exact h_
                  have hji25y:(wrap64 (1*2 ^ min af.toNat 64))=ji25:=(i64_w _).symm.trans hji25_
                  have hji25x:af≤64→(wrap64 (1*2 ^ af.toNat))=ji25:=fun h_=>(i64_w _).symm.trans (hji25z h_)
                  by_cases c26:0≤(Go.bits .xor .i64 aa (ji25))
                  ·rw [if_pos c26] at H
                   have c26b0:decide (0≤(Go.bits .xor .i64 aa (ji25)))=true:=decide_eq_true c26
                   clear c26
                   by_cases c27:(Go.bits .xor .i64 aa (ji25)) < (ag.length:Int)
                   ·rw [if_pos c27] at H
                    have c27b0:decide ((Go.bits .xor .i64 aa (ji25)) < (ag.length:Int))=true:=decide_eq_true c27
                    clear c27
                    obtain⟨ji28,hji28⟩: ∃j_:Int,(mx aq (wrap64 ((rd ag (Go.bits .xor .i64 aa (ji25)))+1)))=j_:=⟨_,rfl⟩
                    replace H:(if(rd ag (Go.bits .xor .i64 aa (ji25))) < 0 then(impl_Cube_longest.l2 kj19 ag ak aj aa (rd ae aa) (-1) ae (ae.length:Int) aa a0_0 (wrap64 (af+1)) a0_0 ae) else(impl_Cube_longest.l2 kj19 ag ak aj aa (rd ae aa) ji28 ae (ae.length:Int) aa a0_0 (wrap64 (af+1)) a0_0 ae))=some (r1,r2):=by first | (rw [hji28] at H;exact H) | (simp only [hji28] at H ⊢;exact H)
                    have hji28_:(if aq < (wrap64 ((rd ag (Go.bits .xor .i64 aa (ji25)))+1)) then(wrap64 ((rd ag (Go.bits .xor .i64 aa (ji25)))+1)) else aq)=ji28:=hji28
                    by_cases c29:(rd ag (Go.bits .xor .i64 aa (ji25))) < 0
                    ·rw [if_pos c29] at H
                     have c29b0:decide ((rd ag (Go.bits .xor .i64 aa (ji25))) < 0)=true:=decide_eq_true c29
                     clear c29
                     have H':=Aside0.mk H
                     clear H
                     have p973:0≤((Go.bits .xor .i64 aa (ji25)):Int):=od_
                     have q973:(Go.bits .xor .i64 aa (ji25)) < (ag.length:Int):=od_
                     obtain⟨a9,e973,hx973_0⟩:=Kd.at_int (Kd.R_reads' ai.out).2.2 (Go.bits .xor .i64 aa (ji25)) p973 q973
                     obtain rfl:aG=a9:=(by injection e973)
                     replace p973:=eq_true p973
                     replace q973:=eq_true q973
                     go_wp2
                     go_roundg kj19
                     case measure=>have:=HK1.out;have:=HK2.out;have:=HK3.out;have:=HJ19.out;omega
                     case rel=>exact⟨((-1)),(wrap64 (af+1)),rs_,rs_,H',⟨by have:=HK1.out;have:=HK2.out;have:=HK3.out;have:=HJ19.out;omega⟩,⟨ro_ ai.out⟩,⟨bk_⟩,⟨hb_⟩⟩
                    ·rw [if_neg c29] at H
                     have c29b0:decide ((rd ag (Go.bits .xor .i64 aa (ji25))) < 0)=false:=decide_eq_false c29
                     clear c29
                     have H':=Aside0.mk H
                     clear H
                     have p973:0≤((Go.bits .xor .i64 aa (ji25)):Int):=od_
                     have q973:(Go.bits .xor .i64 aa (ji25)) < (ag.length:Int):=od_
                     obtain⟨a9,e973,hx973_0⟩:=Kd.at_int (Kd.R_reads' ai.out).2.2 (Go.bits .xor .i64 aa (ji25)) p973 q973
                     obtain rfl:aG=a9:=(by injection e973)
                     replace p973:=eq_true p973
                     replace q973:=eq_true q973
                     go_wp2
                     go_roundg kj19
                     case measure=>have:=HK1.out;have:=HK2.out;have:=HK3.out;have:=HJ19.out;omega
                     case rel=>exact⟨(ji28),(wrap64 (af+1)),(by first | rfl | (simp;done) | (simp only [← hji28] <;> (first | rfl | simp)) | (simp [*];done)),rs_,H',⟨by have:=HK1.out;have:=HK2.out;have:=HK3.out;have:=HJ19.out;omega⟩,⟨ro_ ai.out⟩,⟨bk_⟩,⟨hb_⟩⟩
                   ·rw [if_neg c27] at H
                    exact absurd H (by simp)
                  ·rw [if_neg c26] at H
                   exact absurd H (by simp)
                 ·rw [if_neg c24] at H
                  exact absurd H (by simp)
             ·rw [if_neg c19] at H
              have c19b0:decide (af < a0_0)=false:=decide_eq_false c19
              clear c19
              by_cases c30:aq ≥ 0
              ·rw [if_pos c30] at H
               have c30b0:decide (0≤aq)=true:=decide_eq_true c30
               clear c30
               by_cases c31:0≤aa
               ·rw [if_pos c31] at H
                have c31b0:decide (0≤aa)=true:=decide_eq_true c31
                clear c31
                by_cases c32:aa < (ag.length:Int)
                ·rw [if_pos c32] at H
                 have c32b0:decide (aa < (ag.length:Int))=true:=decide_eq_true c32
                 clear c32
                 obtain⟨bf,hy971⟩: ∃y_:List Int,y_=(ag.set (aa:Int).toNat aq):=⟨_,rfl⟩
                 replace H:(impl_Cube_longest.l1 k3 bf (wrap64 (ak+1)) aj ae (ae.length:Int) (wrap64 (aa+1)) a0_0 ae)=some (r1,r2):=by first | (rw [hy971];with_reducible exact H) | (have H2_:=(Option.bind_some _ _).symm.trans H;rw [hy971];with_reducible exact H2_) | (have H2_:=(Option.bind_some _ _).symm.trans H;with_reducible exact H2_) | with_reducible exact H | (rw [hy971];exact H) | exact H
                 have bz:=Aside0.mk hy971
                 clear hy971
                 have H':=Aside0.mk H
                 clear H
                 have p33:0≤(aa:Int):=od_
                 have q33:(aa:Int) < ((ag.length:Int):Int):=od_
                 obtain⟨go33,bU,bq,bu,gl33,cl33,HG33⟩:=Kd.R_form ai.out (by omega)
                 (first | cases bq | (injection bq with ea_ en_ ec_;(first | subst ea_ | (injection ea_ with ea_;subst ea_));subst ec_;clear en_))
                 have GB33:=Aside0.mk bu
                 have GG33:=Aside0.mk HG33
                 clear bu gl33 HG33
                 (first | simp only [add_plain] at hx970_0 | skip)
                 (first | simp only [add_plain] at hx973_0 | skip)
                 obtain⟨hx33_0,hf33_0⟩:=Kd.R_celln 0 ai.out (aa:Int) p33 q33
                 replace p33:=eq_true p33
                 replace q33:=eq_true q33
                 have HP34:=Kd.R_putg ai.out (aa:Int) aq
                 go_wp2_with (first | ((with_reducible refine gate_store (t:=2) (p:=68) rfl ?_);refine store_event (t:=2) (p:=68) (v:=?vo_w35) (w1:=(wr.setCell ⟨go33,(aa:Int).toNat,none⟩ (.int .i64 aq))) ?hg ?ho ?hn ?hr ?_;(case ho=>rfl);(case hg=>rfl);(case hn=>rfl);(case hr=>first | (go_simp;done) | (go_simp;rfl));intro w35 hw;have hg:wr.grownBy w35 (some go33):=(by rw [hw];exact HP34.2);have hp_:Kd.R (Kd.int .i64) 2 w35 w.heap.size (fun _=>True) (.slice (some ⟨go33,0,none⟩) ag.length bb) bf:=(by rw [hw,bz.out];exact HP34.1);clear HP34;replace ah:=Aside0.mk (bg_ ah.out hg (Kd.R_ne ai.out ah.out (by decide)));replace HB:=Aside0.mk ((by rw [hw];exact below_set (HB.out) GB33.out:Below w.heap.size w w35));replace ai:=Aside0.mk (hp_);clear hg hw hp_))
                 go_roundg k3
                 case measure=>have:=HK1.out;have:=HK2.out;have:=HK3.out;omega
                 case rel=>exact⟨(bf),(wrap64 (ak+1)),(wrap64 (aa+1)),rs_,rs_,H',⟨by have:=HK1.out;have:=HK2.out;have:=HK3.out;omega⟩,⟨ro_ ai.out⟩,⟨bk_⟩,⟨hb_⟩⟩
                ·rw [if_neg c32] at H
                 exact absurd H (by simp)
               ·rw [if_neg c31] at H
                exact absurd H (by simp)
              ·rw [if_neg c30] at H
               have c30b0:decide (0≤aq)=false:=decide_eq_false c30
               clear c30
               have H':=Aside0.mk H
               clear H
               go_wp2
               go_roundg k3
               case measure=>have:=HK1.out;have:=HK2.out;have:=HK3.out;omega
               case rel=>exact⟨(ag),(ak),(wrap64 (aa+1)),rs_,rs_,H',⟨by have:=HK1.out;have:=HK2.out;have:=HK3.out;omega⟩,⟨ro_ ai.out⟩,⟨bk_⟩,⟨hb_⟩⟩
         ·rw [if_neg c14] at H
          exact absurd H (by simp)
        ·rw [if_neg c13] at H
         exact absurd H (by simp)
       ·rw [if_neg c12] at H
        exact absurd H (by simp)
      ·rw [if_neg c11] at H
       have c11b0:decide (aa < (ae.length:Int))=false:=decide_eq_false c11
       clear c11
       by_cases c36:ak=aj
       ·rw [if_pos c36] at H
        have c36b0:(ak==aj)=true:=beq_iff_eq.mpr c36
        have c36b1:(ak !=aj)=false:=bne_eq_false_iff_eq.mpr c36
        clear c36
        simp only [Option.some.injEq,Prod.mk.injEq] at H
        obtain⟨rfl,rfl⟩:=H
        go_wp2
        go_ret2
        exact⟨by first | rfl | (simp [errW_none,errW_some] <;> rfl) | (simp [*,errW_none,errW_some] <;> rfl),hb_⟩
       ·rw [if_neg c36] at H
        have c36b0:(ak==aj)=false:=beq_eq_false_iff_ne.mpr c36
        have c36b1:(ak !=aj)=true:=bne_iff_ne.mpr c36
        have H':=Aside0.mk H
        clear H
        go_wp2
        go_roundg k2
        case measure=>have:=HK1.out;have:=HK2.out;omega
        case rel=>exact⟨(ag),(ak),rs_,H',⟨by have:=HK1.out;have:=HK2.out;omega⟩,⟨ro_ ai.out⟩,⟨bk_⟩,⟨hb_⟩⟩
   ·rw [if_neg c9] at H
    have c9b0:decide (aj < (ae.length:Int))=false:=decide_eq_false c9
    clear c9
    replace H:=Option.bind_eq_some_iff.mp H
    obtain⟨bv,A370,H⟩:=H
    replace H:(some (bv,true))=some (r1,r2):=H
    have A37:=Aside0.mk A370
    clear A370
    simp only [Option.some.injEq,Prod.mk.injEq] at H
    obtain⟨rfl,rfl⟩:=H
    have bG:wr.cell? ⟨au,0,none⟩=some (.int .i64 a0_0):=(blk_cell ah.out 0).trans rfl
    have bH:wr.cell? ⟨au,1,none⟩=some (.slice aw ae.length av):=(blk_cell ah.out 1).trans rfl
    have bI:=blk_frozen ah.out 0
    have bJ:=blk_frozen ah.out 1
    obtain⟨bD,bE,bF⟩:=Kd.R_slice ai.out
    subst bF
    go_wp2_with (first | ((with_reducible refine gate_callee (f:=175) rfl ?_);refine gL_ 76 Try.func175 #[.slice bD aI.length bE] ?_;(with_reducible refine(slices_Max_int64_int64.calls k1 _ _ aI bv _ ?aY ?aZ A37.out).mono ?_);(case aY=>repeat (first | exact(Kd.R_reads' ai.out).2.2 | (with_reducible refine Kd.C_alloc ?_ _) | (with_reducible refine Kd.C_drewN ?_ _) | (with_reducible refine Kd.C_drew ?_)));(case aZ=>exact(Kd.R_reads' ai.out).2.1);rintro e w40 ⟨rfl,hb⟩;refine⟨_,rfl,?_⟩;replace ai:=Aside0.mk (rb_ ai.out hb);replace ah:=Aside0.mk (bb_ ah.out hb);replace HB:=Aside0.mk (bs_ hb);(try clear hb);(try clear hb2);(try clear hk);(try clear hi)))
    go_ret2
    exact⟨by first | rfl | (simp [errW_none,errW_some] <;> rfl) | (simp [*,errW_none,errW_some] <;> rfl),hb_⟩
def impl_LongestPath.f (k:Nat) (a0_0:Int) (ae:List Int):Option (Int × Int):=(impl_IsCube.f k a0_0 ae).bind fun af=>(if af=true then((impl_Cube_longest.f k a0_0 ae).bind fun aa=>(if aa.2=true then(some (aa.1,0)) else(some (0,5)))) else(some (0,1)))
theorem impl_LongestPath.mono: ∀a0 a1 k,LeO (impl_LongestPath.f k a0 a1) (impl_LongestPath.f (k+1) a0 a1):=by
 intro a0 a1 k
 unfold impl_LongestPath.f
 repeat' first
   | (with_reducible exact impl_Cube_longest.mono _ _ _)
   | (with_reducible exact impl_IsCube.mono _ _ _)
   | (with_reducible exact LeO.refl _)
   | (with_reducible exact LeO.none _)
   | (with_reducible refine LeO.ite ?_ ?_)
   | (with_reducible refine LeO.bind ?_ (fun _=>?_))
   | exact impl_Cube_longest.mono _ _ _
   | exact impl_IsCube.mono _ _ _
   | exact LeO.none _
   | refine LeO.ite ?_ ?_
   | refine LeO.bind ?_ (fun _=>?_)
theorem impl_LongestPath.calls (k:Nat) (a0_0:Int) (ag:Option Addr) (ah:Nat) (ae:List Int) (r1:Int) (r2:Int) (w:World) (av:Kd.C (Kd.int .i64) w ag ae.length ae) (aw:ae.length≤ah) (h:impl_LongestPath.f k a0_0 ae=some (r1,r2)):
  Calls Try.prog 46 #[.agg #[.int .i64 a0_0, .slice ag ae.length ah]] w fun e w'=>e= .returned (.tuple #[.int .i64 r1, .int .i64 r2])∧Below w.heap.size w w':=by
 have hu64:=Try.underlying64
 have HR0_1:=Aside0.mk av
 have HC0_1:=Aside0.mk aw
 clear av aw
 have HB:=Aside0.mk (Below.refl w.heap.size w)
 have H:((impl_IsCube.f k a0_0 ae).bind fun aq=>(if aq=true then((impl_Cube_longest.f k a0_0 ae).bind fun ak=>(if ak.2=true then(some (ak.1,0)) else(some (0,5)))) else(some (0,1))))=some (r1,r2):=h
 clear h
 replace H:=Option.bind_eq_some_iff.mp H
 obtain⟨aq,A20,H⟩:=H
 replace H:(if aq=true then((impl_Cube_longest.f k a0_0 ae).bind fun ak=>(if ak.2=true then(some (ak.1,0)) else(some (0,5)))) else(some (0,1)))=some (r1,r2):=H
 have A2:=Aside0.mk A20
 clear A20
 by_cases c3:aq=true
 ·subst c3
  have H1:((impl_Cube_longest.f k a0_0 ae).bind fun ak=>(if ak.2=true then(some (ak.1,0)) else(some (0,5))))=some (r1,r2):=by rw [if_pos rfl] at H;exact H
  clear H
  have H:=H1
  clear H1
  replace H:=Option.bind_eq_some_iff.mp H
  obtain⟨⟨au,az⟩,A40,H⟩:=H
  replace H:(if az=true then(some (au,0)) else(some (0,5)))=some (r1,r2):=H
  have A4:=Aside0.mk A40
  clear A40
  by_cases c5:az=true
  ·subst c5
   have H1:(some (au,0))=some (r1,r2):=by rw [if_pos rfl] at H;exact H
   clear H
   have H:=H1
   clear H1
   simp only [Option.some.injEq,Prod.mk.injEq] at H
   obtain⟨rfl,rfl⟩:=H
   go_enter Try.func46,Try.ntmps46
   go_wp2_with (first | ((with_reducible refine gate_dst (N:=1) rfl ?_);refine box_event ?hg (N:=1) ?hd (cs:= #[.int .i64 a0_0, .slice ag ae.length ah]) (t:=64) ?hr ?_;(case hd=>rfl);(case hg=>rfl);(case hr=>first | (go_simp;done) | (go_simp;rfl));intro af hg w6 hbox hb;have aa:=Aside0.mk (hbox);have ax:=Aside0.mk ((by rw [hg];exact bz_:w.heap.size≤af));have ay:=Aside0.mk ((by rw [hg];exact bz_:w.heap.size≤af));replace HB:=Aside0.mk (bs_ hb);clear hb hbox hg;have aV:w6.cell? ⟨af,0,none⟩=some (.int .i64 a0_0):=(blk_cell aa.out 0).trans rfl;have aW:w6.cell? ⟨af,1,none⟩=some (.slice ag ae.length ah):=(blk_cell aa.out 1).trans rfl;have aX:=blk_frozen aa.out 0;have aY:=blk_frozen aa.out 1) | ((with_reducible refine gate_callee (f:=42) rfl ?_);refine gL_ 7 Try.func42 #[.agg #[.int .i64 a0_0, .slice ag ae.length ah]] ?_;(with_reducible refine(impl_IsCube.calls k a0_0 _ _ ae true _ ?ai ?aj A2.out).mono ?_);(case ai=>exact cb_ HR0_1.out HB.out);(case aj=>exact HC0_1.out);rintro e w8 ⟨rfl,hb⟩;refine⟨_,rfl,?_⟩;replace aa:=Aside0.mk (bb_ aa.out hb);replace HB:=Aside0.mk (bs_ hb);(try clear hb);(try clear hb2);(try clear hk);(try clear hi);have aZ:w8.cell? ⟨af,0,none⟩=some (.int .i64 a0_0):=(blk_cell aa.out 0).trans rfl;have a9:w8.cell? ⟨af,1,none⟩=some (.slice ag ae.length ah):=(blk_cell aa.out 1).trans rfl;have ba:=blk_frozen aa.out 0;have bb:=blk_frozen aa.out 1) | ((with_reducible refine gate_callee (f:=131) rfl ?_);refine gL_ 11 Try.func131 #[.agg #[.int .i64 a0_0, .slice ag ae.length ah]] ?_;(with_reducible refine(impl_Cube_longest.calls k a0_0 _ _ ae au true _ ?ai ?aj A4.out).mono ?_);(case ai=>exact cb_ HR0_1.out HB.out);(case aj=>exact HC0_1.out);rintro e w10 ⟨rfl,hb⟩;refine⟨_,rfl,?_⟩;replace aa:=Aside0.mk (bb_ aa.out hb);replace HB:=Aside0.mk (bs_ hb);(try clear hb);(try clear hb2);(try clear hk);(try clear hi)))
   go_ret2
   exact⟨by first | rfl | (simp [errW_none,errW_some] <;> rfl) | (simp [*,errW_none,errW_some] <;> rfl),hb_⟩
  ·replace c5:=Bool.eq_false_iff.mpr c5
   subst c5
   have H1:(some (0,5))=some (r1,r2):=by rw [if_neg (show ¬ (false=true) by decide)] at H;exact H
   clear H
   have H:=H1
   clear H1
   simp only [Option.some.injEq,Prod.mk.injEq] at H
   obtain⟨rfl,rfl⟩:=H
   go_enter Try.func46,Try.ntmps46
   go_wp2_with (first | ((with_reducible refine gate_dst (N:=1) rfl ?_);refine box_event ?hg (N:=1) ?hd (cs:= #[.int .i64 a0_0, .slice ag ae.length ah]) (t:=64) ?hr ?_;(case hd=>rfl);(case hg=>rfl);(case hr=>first | (go_simp;done) | (go_simp;rfl));intro af hg w11 hbox hb;have aa:=Aside0.mk (hbox);have ax:=Aside0.mk ((by rw [hg];exact bz_:w.heap.size≤af));have ay:=Aside0.mk ((by rw [hg];exact bz_:w.heap.size≤af));replace HB:=Aside0.mk (bs_ hb);clear hb hbox hg;have aA:w11.cell? ⟨af,0,none⟩=some (.int .i64 a0_0):=(blk_cell aa.out 0).trans rfl;have aC:w11.cell? ⟨af,1,none⟩=some (.slice ag ae.length ah):=(blk_cell aa.out 1).trans rfl;have aD:=blk_frozen aa.out 0;have aG:=blk_frozen aa.out 1) | ((with_reducible refine gate_callee (f:=42) rfl ?_);refine gL_ 7 Try.func42 #[.agg #[.int .i64 a0_0, .slice ag ae.length ah]] ?_;(with_reducible refine(impl_IsCube.calls k a0_0 _ _ ae true _ ?ai ?aj A2.out).mono ?_);(case ai=>exact cb_ HR0_1.out HB.out);(case aj=>exact HC0_1.out);rintro e w13 ⟨rfl,hb⟩;refine⟨_,rfl,?_⟩;replace aa:=Aside0.mk (bb_ aa.out hb);replace HB:=Aside0.mk (bs_ hb);(try clear hb);(try clear hb2);(try clear hk);(try clear hi);have aH:w13.cell? ⟨af,0,none⟩=some (.int .i64 a0_0):=(blk_cell aa.out 0).trans rfl;have aI:w13.cell? ⟨af,1,none⟩=some (.slice ag ae.length ah):=(blk_cell aa.out 1).trans rfl;have aJ:=blk_frozen aa.out 0;have aK:=blk_frozen aa.out 1) | ((with_reducible refine gate_callee (f:=131) rfl ?_);refine gL_ 11 Try.func131 #[.agg #[.int .i64 a0_0, .slice ag ae.length ah]] ?_;(with_reducible refine(impl_Cube_longest.calls k a0_0 _ _ ae au false _ ?ai ?aj A4.out).mono ?_);(case ai=>exact cb_ HR0_1.out HB.out);(case aj=>exact HC0_1.out);rintro e w15 ⟨rfl,hb⟩;refine⟨_,rfl,?_⟩;replace aa:=Aside0.mk (bb_ aa.out hb);replace HB:=Aside0.mk (bs_ hb);(try clear hb);(try clear hb2);(try clear hk);(try clear hi)))
   go_ret2
   exact⟨by first | rfl | (simp [errW_none,errW_some] <;> rfl) | (simp [*,errW_none,errW_some] <;> rfl),hb_⟩
 ·replace c3:=Bool.eq_false_iff.mpr c3
  subst c3
  have H1:(some (0,1))=some (r1,r2):=by rw [if_neg (show ¬ (false=true) by decide)] at H;exact H
  clear H
  have H:=H1
  clear H1
  simp only [Option.some.injEq,Prod.mk.injEq] at H
  obtain⟨rfl,rfl⟩:=H
  go_enter Try.func46,Try.ntmps46
  go_wp2_with (first | ((with_reducible refine gate_dst (N:=1) rfl ?_);refine box_event ?hg (N:=1) ?hd (cs:= #[.int .i64 a0_0, .slice ag ae.length ah]) (t:=64) ?hr ?_;(case hd=>rfl);(case hg=>rfl);(case hr=>first | (go_simp;done) | (go_simp;rfl));intro af hg w16 hbox hb;have aa:=Aside0.mk (hbox);have ax:=Aside0.mk ((by rw [hg];exact bz_:w.heap.size≤af));have ay:=Aside0.mk ((by rw [hg];exact bz_:w.heap.size≤af));replace HB:=Aside0.mk (bs_ hb);clear hb hbox hg;have aM:w16.cell? ⟨af,0,none⟩=some (.int .i64 a0_0):=(blk_cell aa.out 0).trans rfl;have aN:w16.cell? ⟨af,1,none⟩=some (.slice ag ae.length ah):=(blk_cell aa.out 1).trans rfl;have aT:=blk_frozen aa.out 0;have aU:=blk_frozen aa.out 1) | ((with_reducible refine gate_callee (f:=42) rfl ?_);refine gL_ 7 Try.func42 #[.agg #[.int .i64 a0_0, .slice ag ae.length ah]] ?_;(with_reducible refine(impl_IsCube.calls k a0_0 _ _ ae false _ ?ai ?aj A2.out).mono ?_);(case ai=>exact cb_ HR0_1.out HB.out);(case aj=>exact HC0_1.out);rintro e w18 ⟨rfl,hb⟩;refine⟨_,rfl,?_⟩;replace aa:=Aside0.mk (bb_ aa.out hb);replace HB:=Aside0.mk (bs_ hb);(try clear hb);(try clear hb2);(try clear hk);(try clear hi)))
  go_ret2
  exact⟨by first | rfl | (simp [errW_none,errW_some] <;> rfl) | (simp [*,errW_none,errW_some] <;> rfl),hb_⟩
mutual
def spec_l06Heights.l0:Nat→Int→List Int→List Bool→Int→Bool→Int→List Int→Option (List Int × Bool)
 | 0,_,_,_,_,_,_,_=>none
 | k+1,x4,x5,x6,x7,x8,ae,aa=>if x8=true then(spec_l06Heights.l1 k x4 x5 x6 x7 false 0 ae aa) else(some (x5,(x7==x4)))
def spec_l06Heights.l1:Nat→Int→List Int→List Bool→Int→Bool→Int→Int→List Int→Option (List Int × Bool)
 | 0,_,_,_,_,_,_,_,_=>none
 | k+1,x4,x5,x6,x7,x8,x9,ae,aa=>if x9 < x4 then(if 0≤x9 then(if x9 < (x6.length:Int) then(spec_l06Heights.l2 k x4 x5 x6 x7 x8 x9 (!(rdOf false x6 x9)) 0 0 ae aa) else(none)) else(none)) else(spec_l06Heights.l0 k x4 x5 x6 x7 x8 ae aa)
def spec_l06Heights.l2:Nat→Int→List Int→List Bool→Int→Bool→Int→Bool→Int→Int→Int→List Int→Option (List Int × Bool)
 | 0,_,_,_,_,_,_,_,_,_,_,_=>none
 | k+1,x4,x5,x6,x7,x8,x9,x10,x11,x12,ae,aa=>if x12 < ae then(if 0≤(IntKind.u64.wrap (x12)) then(if 0≤x9 then(if x9 < (aa.length:Int) then(if(Go.bits .and .i64 (rd aa x9) (shl .i64 1 (IntKind.u64.wrap (x12))))=0 then(spec_l06Heights.l2 k x4 x5 x6 x7 x8 x9 x10 x11 (wrap64 (x12+1)) ae aa) else(if x10=true then(if 0≤(Go.bits .xor .i64 x9 (shl .i64 1 (IntKind.u64.wrap (x12)))) then(if(Go.bits .xor .i64 x9 (shl .i64 1 (IntKind.u64.wrap (x12)))) < (x6.length:Int) then(if(Go.bits .xor .i64 x9 (shl .i64 1 (IntKind.u64.wrap (x12)))) < (x5.length:Int) then(spec_l06Heights.l2 k x4 x5 x6 x7 x8 x9 (rdOf false x6 (Go.bits .xor .i64 x9 (shl .i64 1 (IntKind.u64.wrap (x12))))) (mx x11 (wrap64 ((rd x5 (Go.bits .xor .i64 x9 (shl .i64 1 (IntKind.u64.wrap (x12)))))+1))) (wrap64 (x12+1)) ae aa) else(none)) else(none)) else(none)) else(if 0≤(Go.bits .xor .i64 x9 (shl .i64 1 (IntKind.u64.wrap (x12)))) then(if(Go.bits .xor .i64 x9 (shl .i64 1 (IntKind.u64.wrap (x12)))) < (x5.length:Int) then(spec_l06Heights.l2 k x4 x5 x6 x7 x8 x9 false (mx x11 (wrap64 ((rd x5 (Go.bits .xor .i64 x9 (shl .i64 1 (IntKind.u64.wrap (x12)))))+1))) (wrap64 (x12+1)) ae aa) else(none)) else(none)))) else(none)) else(none)) else(none)) else(if x10=true then(if 0≤x9 then(if x9 < (x6.length:Int) then(if x9 < (x5.length:Int) then(spec_l06Heights.l1 k x4 (x5.set (x9:Int).toNat x11) (x6.set (x9:Int).toNat true) (wrap64 (x7+1)) true (wrap64 (x9+1)) ae aa) else(none)) else(none)) else(none)) else(spec_l06Heights.l1 k x4 x5 x6 x7 x8 (wrap64 (x9+1)) ae aa))
end
def spec_l06Heights.f (k:Nat) (a0_0:Int) (aa:List Int):Option (List Int × Bool):=if 0≤(aa.length:Int) then(if((aa.length:Int):Int).toNat≤35184372088832 then(if((aa.length:Int):Int).toNat≤281474976710656 then(spec_l06Heights.l0 k (aa.length:Int) (List.replicate ((aa.length:Int):Int).toNat 0) (List.replicate ((aa.length:Int):Int).toNat false) 0 true a0_0 aa) else(none)) else(none)) else(none)
theorem spec_l06Heights.mono_l: ∀k,(∀y0 y1 y2 y3 y4 y5 y6,LeO (spec_l06Heights.l0 k y0 y1 y2 y3 y4 y5 y6) (spec_l06Heights.l0 (k+1) y0 y1 y2 y3 y4 y5 y6))∧(∀y0 y1 y2 y3 y4 y5 y6 y7,LeO (spec_l06Heights.l1 k y0 y1 y2 y3 y4 y5 y6 y7) (spec_l06Heights.l1 (k+1) y0 y1 y2 y3 y4 y5 y6 y7))∧(∀y0 y1 y2 y3 y4 y5 y6 y7 y8 y9 y10,LeO (spec_l06Heights.l2 k y0 y1 y2 y3 y4 y5 y6 y7 y8 y9 y10) (spec_l06Heights.l2 (k+1) y0 y1 y2 y3 y4 y5 y6 y7 y8 y9 y10))
 | 0=>⟨fun _ _ _ _ _ _ _ r h=>by simp [spec_l06Heights.l0] at h,fun _ _ _ _ _ _ _ _ r h=>by simp [spec_l06Heights.l1] at h,fun _ _ _ _ _ _ _ _ _ _ _ r h=>by simp [spec_l06Heights.l2] at h⟩
 | k+1=>by
  obtain⟨ih0,ih1,ih2⟩:=spec_l06Heights.mono_l k
  refine⟨?_,?_,?_⟩
  ·intro y0 y1 y2 y3 y4 y5 y6
   unfold spec_l06Heights.l0
   repeat' first
   | (with_reducible exact ih0 _ _ _ _ _ _ _)
   | (with_reducible exact ih1 _ _ _ _ _ _ _ _)
   | (with_reducible exact ih2 _ _ _ _ _ _ _ _ _ _ _)
   | (with_reducible exact LeO.refl _)
   | (with_reducible exact LeO.none _)
   | (with_reducible refine LeO.ite ?_ ?_)
   | (with_reducible refine LeO.bind ?_ (fun _=>?_))
   | exact ih0 _ _ _ _ _ _ _
   | exact ih1 _ _ _ _ _ _ _ _
   | exact ih2 _ _ _ _ _ _ _ _ _ _ _
   | exact LeO.none _
   | refine LeO.ite ?_ ?_
   | refine LeO.bind ?_ (fun _=>?_)
  ·intro y0 y1 y2 y3 y4 y5 y6 y7
   unfold spec_l06Heights.l1
   repeat' first
   | (with_reducible exact ih0 _ _ _ _ _ _ _)
   | (with_reducible exact ih1 _ _ _ _ _ _ _ _)
   | (with_reducible exact ih2 _ _ _ _ _ _ _ _ _ _ _)
   | (with_reducible exact LeO.refl _)
   | (with_reducible exact LeO.none _)
   | (with_reducible refine LeO.ite ?_ ?_)
   | (with_reducible refine LeO.bind ?_ (fun _=>?_))
   | exact ih0 _ _ _ _ _ _ _
   | exact ih1 _ _ _ _ _ _ _ _
   | exact ih2 _ _ _ _ _ _ _ _ _ _ _
   | exact LeO.none _
   | refine LeO.ite ?_ ?_
   | refine LeO.bind ?_ (fun _=>?_)
  ·intro y0 y1 y2 y3 y4 y5 y6 y7 y8 y9 y10
   unfold spec_l06Heights.l2
   repeat' first
   | (with_reducible exact ih0 _ _ _ _ _ _ _)
   | (with_reducible exact ih1 _ _ _ _ _ _ _ _)
   | (with_reducible exact ih2 _ _ _ _ _ _ _ _ _ _ _)
   | (with_reducible exact LeO.refl _)
   | (with_reducible exact LeO.none _)
   | (with_reducible refine LeO.ite ?_ ?_)
   | (with_reducible refine LeO.bind ?_ (fun _=>?_))
   | exact ih0 _ _ _ _ _ _ _
   | exact ih1 _ _ _ _ _ _ _ _
   | exact ih2 _ _ _ _ _ _ _ _ _ _ _
   | exact LeO.none _
   | refine LeO.ite ?_ ?_
   | refine LeO.bind ?_ (fun _=>?_)
theorem spec_l06Heights.mono: ∀a0 a1 k,LeO (spec_l06Heights.f k a0 a1) (spec_l06Heights.f (k+1) a0 a1):=by
 intro a0 a1 k
 obtain⟨ih0,ih1,ih2⟩:=spec_l06Heights.mono_l k
 unfold spec_l06Heights.f
 repeat' first
   | (with_reducible exact ih0 _ _ _ _ _ _ _)
   | (with_reducible exact ih1 _ _ _ _ _ _ _ _)
   | (with_reducible exact ih2 _ _ _ _ _ _ _ _ _ _ _)
   | (with_reducible exact LeO.refl _)
   | (with_reducible exact LeO.none _)
   | (with_reducible refine LeO.ite ?_ ?_)
   | (with_reducible refine LeO.bind ?_ (fun _=>?_))
   | exact ih0 _ _ _ _ _ _ _
   | exact ih1 _ _ _ _ _ _ _ _
   | exact ih2 _ _ _ _ _ _ _ _ _ _ _
   | exact LeO.none _
   | refine LeO.ite ?_ ?_
   | refine LeO.bind ?_ (fun _=>?_)
theorem spec_l06Heights.calls (k:Nat) (a0_0:Int) (ax:Option Addr) (ay:Nat) (ae:List Int) (r1:List Int) (r2:Bool) (w:World) (bf:Kd.C (Kd.int .i64) w ax ae.length ae) (bg:ae.length≤ay) (h:spec_l06Heights.f k a0_0 ae=some (r1,r2)):
  Calls Try.prog 132 #[.agg #[.int .i64 a0_0, .slice ax ae.length ay]] w fun e w'=> ∃v0_:Value,e= .returned (.tuple #[v0_, .bool r2])∧Kd.R (Kd.int .i64) 2 w' w.heap.size (fun _=>True) v0_ r1∧Below w.heap.size w w':=by
 have hu64:=Try.underlying64
 have HR0_1:=Aside0.mk bf
 have HC0_1:=Aside0.mk bg
 clear bf bg
 have HB:=Aside0.mk (Below.refl w.heap.size w)
 have H:(if 0≤(ae.length:Int) then(if((ae.length:Int):Int).toNat≤35184372088832 then(if((ae.length:Int):Int).toNat≤281474976710656 then(spec_l06Heights.l0 k (ae.length:Int) (List.replicate ((ae.length:Int):Int).toNat 0) (List.replicate ((ae.length:Int):Int).toNat false) 0 true a0_0 ae) else(none)) else(none)) else(none))=some (r1,r2):=h
 clear h
 by_cases c2:0≤(ae.length:Int)
 ·rw [if_pos c2] at H
  have c2b0:=eq_true c2
  have c2b1:decide (0≤(ae.length:Int))=true:=decide_eq_true c2
  clear c2
  by_cases c3:((ae.length:Int):Int).toNat≤35184372088832
  ·rw [if_pos c3] at H
   have c3b0:=eq_true c3
   have c3b1:decide (((ae.length:Int):Int).toNat≤35184372088832)=true:=decide_eq_true c3
   clear c3
   obtain⟨aN,hy979⟩: ∃y_:List Int,y_=(List.replicate ((ae.length:Int):Int).toNat 0):=⟨_,rfl⟩
   replace H:(if((ae.length:Int):Int).toNat≤281474976710656 then(spec_l06Heights.l0 k (ae.length:Int) aN (List.replicate ((ae.length:Int):Int).toNat false) 0 true a0_0 ae) else(none))=some (r1,r2):=by first | (rw [hy979];with_reducible exact H) | (have H2_:=(Option.bind_some _ _).symm.trans H;rw [hy979];with_reducible exact H2_) | (have H2_:=(Option.bind_some _ _).symm.trans H;with_reducible exact H2_) | with_reducible exact H | (rw [hy979];exact H) | exact H
   have aK:=Aside0.mk hy979
   clear hy979
   by_cases c4:((ae.length:Int):Int).toNat≤281474976710656
   ·rw [if_pos c4] at H
    have c4b0:=eq_true c4
    have c4b1:decide (((ae.length:Int):Int).toNat≤281474976710656)=true:=decide_eq_true c4
    clear c4
    obtain⟨aY,hy982⟩: ∃y_:List Bool,y_=(List.replicate ((ae.length:Int):Int).toNat false):=⟨_,rfl⟩
    replace H:(spec_l06Heights.l0 k (ae.length:Int) aN aY 0 true a0_0 ae)=some (r1,r2):=by first | (rw [hy982];with_reducible exact H) | (have H2_:=(Option.bind_some _ _).symm.trans H;rw [hy982];with_reducible exact H2_) | (have H2_:=(Option.bind_some _ _).symm.trans H;with_reducible exact H2_) | with_reducible exact H | (rw [hy982];exact H) | exact H
    have aM:=Aside0.mk hy982
    clear hy982
    have H':=Aside0.mk H
    clear H
    go_enter Try.func132,Try.ntmps132
    try go_wp2_with (first | ((with_reducible refine gate_dst (N:=1) rfl ?_);refine box_event ?hg (N:=1) ?hd (cs:= #[.int .i64 a0_0, .slice ax ae.length ay]) (t:=64) ?hr ?_;(case hd=>rfl);(case hg=>rfl);(case hr=>first | (go_simp;done) | (go_simp;rfl));intro ak hg w5 hbox hb;have af:=Aside0.mk (hbox);have cf:=Aside0.mk ((by rw [hg];exact bz_:w.heap.size≤ak));have ck:=Aside0.mk ((by rw [hg];exact bz_:w.heap.size≤ak));replace HB:=Aside0.mk (bs_ hb);clear hb hbox hg;have aT:w5.cell? ⟨ak,0,none⟩=some (.int .i64 a0_0):=(blk_cell af.out 0).trans rfl;have aU:w5.cell? ⟨ak,1,none⟩=some (.slice ax ae.length ay):=(blk_cell af.out 1).trans rfl;have aV:=blk_frozen af.out 0;have aW:=blk_frozen af.out 1))
    replace af:=Aside0.mk (blk_drew af.out)
    replace HB:=Aside0.mk (below_drew1 HB.out)
    refine st_ (n:=7) (S:=fun w'=>True) (ds:= []) trivial (fun hHeld=>?_)
    generalize w5.drew=w7 at af HB hHeld ⊢
    refine pu_ 0 17 ?_;refine pu_ 2 19 ?_
    refine join_ (σ:=Value × Value) 2 (fm 7 31) (fun s_=> [(18,s_.1),(20,s_.2),(5,s_.1)]) (fun s_ w'=>(Kd.R (Kd.int .i64) 2 w' w.heap.size (fun _=>True) s_.1 aN)∧(Kd.R Kd.bool 4 w' w.heap.size (fun _=>True) s_.2 aY)∧(w'.heap[ak]?=some (.cells #[.int .i64 a0_0, .slice ax ae.length ay] 64 (0,0)))∧(Below w.heap.size w w')) ?_ ?_
    rotate_left
    ·intro hCont
     refine two_ (i:=1) (j:=3) (Ni:=some 18) (Nj:=some 20) (fm 7 7) (fm 7 13) rfl rfl rfl rfl (by kernel_rfl) (by decide) (by decide) (fun K hK=>?_) (fun K hK=>?_)
     ·skip
      refine Kd.R_make_step (Kd.int .i64) _ 2 (by rfl) (N:=18) rfl 23 _ _ rfl (ae.length:Int) rfl rfl Try.underlying23 (.int .i64 0) 8 info2 rfl (by decide) (by omega) 0 (ok:=fun _=>True) (okp:=fun _=>True) rfl (fun _ hk=>hk) trivial od_ (Nat.le_trans (Nat.mul_le_mul_right _ (od_:(ae.length:Int).toNat≤35184372088832)) (by omega)) (Below.refl _ _) (Nat.le_refl _) ?_
      intro aG w8 ho9 hb hg_ hnew_
      clear hg_ hnew_
      (first | rw [← aK.out] at ho9 | (simp only [Int.reduceToNat] at ho9;rw [← aK.out] at ho9))
      have aC:=Aside0.mk (Kd.R_lower ho9 bz_)
      replace af:=Aside0.mk (bb_ af.out hb)
      replace HB:=Aside0.mk (bs_ hb)
      clear hb ho9
      refine hK.out _ _ trivial (fun hHeld=>?_)
      clear hK K
      refine norm_ (a':=?_) ?_ ?_
      rotate_left
      ·show Act.put _ (some 18) _=_
       simp only [Act.put,List.setIfInBounds_toArray,List.set_cons_zero,List.set_cons_succ,i64_w,i32_w]
       rfl
      refine pu_ 4 5 ?_
      refine on_ 3 (some 20) (fun K hK=>?_)
      refine Kd.R_make_step Kd.bool _ 4 (by rfl) (N:=20) rfl 181 _ _ rfl (ae.length:Int) rfl rfl Try.underlying181 (.bool false) 1 info4 rfl (by decide) (by omega) false (ok:=fun _=>True) (okp:=fun _=>True) rfl (fun _ hk=>hk) trivial od_ (Nat.le_trans (Nat.mul_le_mul_right _ (od_:(ae.length:Int).toNat≤281474976710656)) (by omega)) (Below.refl _ _) (Nat.le_refl _) ?_
      intro aH w10 aA hb hg_ hnew_
      clear hg_ hnew_
      (first | rw [← aM.out] at aA | (simp only [Int.reduceToNat] at aA;rw [← aM.out] at aA))
      replace aC:=Aside0.mk (rb_ aC.out hb)
      have aD:=Aside0.mk (Kd.R_lower aA bz_)
      replace af:=Aside0.mk (bb_ af.out hb)
      replace HB:=Aside0.mk (bs_ hb)
      clear hb aA
      refine hK.out _ _ trivial (fun hHeld=>?_)
      clear hK K
      refine norm_ (a':=?_) ?_ ?_
      rotate_left
      ·show Act.put _ (some 20) _=_
       simp only [Act.put,List.setIfInBounds_toArray,List.set_cons_zero,List.set_cons_succ,i64_w,i32_w]
       rfl
      exact norm_ (by simp only [putAll,Act.put,List.setIfInBounds_toArray,List.set_cons_zero,List.set_cons_succ]) (hCont (aG,aH) _ ⟨(ro_ aC.out),(ro_ aD.out),bk_,hb_⟩)
     ·skip
      refine Kd.R_make_step Kd.bool _ 4 (by rfl) (N:=20) rfl 181 _ _ rfl (ae.length:Int) rfl rfl Try.underlying181 (.bool false) 1 info4 rfl (by decide) (by omega) false (ok:=fun _=>True) (okp:=fun _=>True) rfl (fun _ hk=>hk) trivial od_ (Nat.le_trans (Nat.mul_le_mul_right _ (od_:(ae.length:Int).toNat≤281474976710656)) (by omega)) (Below.refl _ _) (Nat.le_refl _) ?_
      intro aH w8 ho9 hb hg_ hnew_
      clear hg_ hnew_
      (first | rw [← aM.out] at ho9 | (simp only [Int.reduceToNat] at ho9;rw [← aM.out] at ho9))
      have aD:=Aside0.mk (Kd.R_lower ho9 bz_)
      replace af:=Aside0.mk (bb_ af.out hb)
      replace HB:=Aside0.mk (bs_ hb)
      clear hb ho9
      refine hK.out _ _ trivial (fun hHeld=>?_)
      clear hK K
      refine norm_ (a':=?_) ?_ ?_
      rotate_left
      ·show Act.put _ (some 20) _=_
       simp only [Act.put,List.setIfInBounds_toArray,List.set_cons_zero,List.set_cons_succ,i64_w,i32_w]
       rfl
      refine on_ 1 (some 18) (fun K hK=>?_)
      refine Kd.R_make_step (Kd.int .i64) _ 2 (by rfl) (N:=18) rfl 23 _ _ rfl (ae.length:Int) rfl rfl Try.underlying23 (.int .i64 0) 8 info2 rfl (by decide) (by omega) 0 (ok:=fun _=>True) (okp:=fun _=>True) rfl (fun _ hk=>hk) trivial od_ (Nat.le_trans (Nat.mul_le_mul_right _ (od_:(ae.length:Int).toNat≤35184372088832)) (by omega)) (Below.refl _ _) (Nat.le_refl _) ?_
      intro aG w10 aA hb hg_ hnew_
      clear hg_ hnew_
      (first | rw [← aK.out] at aA | (simp only [Int.reduceToNat] at aA;rw [← aK.out] at aA))
      replace aD:=Aside0.mk (rb_ aD.out hb)
      have aC:=Aside0.mk (Kd.R_lower aA bz_)
      replace af:=Aside0.mk (bb_ af.out hb)
      replace HB:=Aside0.mk (bs_ hb)
      clear hb aA
      refine hK.out _ _ trivial (fun hHeld=>?_)
      clear hK K
      refine norm_ (a':=?_) ?_ ?_
      rotate_left
      ·show Act.put _ (some 18) _=_
       simp only [Act.put,List.setIfInBounds_toArray,List.set_cons_zero,List.set_cons_succ,i64_w,i32_w]
       rfl
      refine pu_ 4 5 ?_
      exact norm_ (by simp only [putAll,Act.put,List.setIfInBounds_toArray,List.set_cons_zero,List.set_cons_succ]) (hCont (aG,aH) _ ⟨(ro_ aC.out),(ro_ aD.out),bk_,hb_⟩)
    rintro ⟨aG,aH⟩ w12 ⟨h0_,h1_,h2_,h3_⟩
    have n0_:Aside0 (Kd.R (Kd.int .i64) 2 w12 w.heap.size (fun _=>True) aG aN):=⟨h0_⟩
    have n1_:Aside0 (Kd.R Kd.bool 4 w12 w.heap.size (fun _=>True) aH aY):=⟨h1_⟩
    have n2_:Aside0 (w12.heap[ak]?=some (.cells #[.int .i64 a0_0, .slice ax ae.length ay] 64 (0,0))):=⟨h2_⟩
    have n3_:Aside0 (Below w.heap.size w w12):=⟨h3_⟩
    clear af HB h0_ h1_ h2_ h3_
    have aC:=n0_
    have aD:=n1_
    have af:=n2_
    have HB:=n3_
    clear n0_ n1_ n2_ n3_
    have hHeld:=trivial
    refine norm_ (a':=?_) ?_ ?_
    rotate_left
    ·simp only [putAll,Act.put,List.setIfInBounds_toArray,List.set_cons_zero,List.set_cons_succ]
     rfl
    refine pu_ 5 6 ?_;refine pu_ 6 7 ?_
    refine done_ (by kernel_rfl) ?_
    try go_wp2
    go_loopg [7,8] k (fun kq v7 v8 w'=> ∃(aI:List Int) (aX:List Bool) (aJ:Int) (aZ:Bool),v7= .int .i64 aJ∧v8= .bool aZ∧Aside0 (spec_l06Heights.l0 kq (ae.length:Int) aI aX aJ aZ a0_0 ae=some (r1,r2))∧Aside0 (kq≤k)∧Aside0 (Kd.R (Kd.int .i64) 2 w' w.heap.size (fun _=>True) aG aI)∧Aside0 (Kd.R Kd.bool 4 w' w.heap.size (fun _=>True) aH aX)∧Aside0 (w'.heap[ak]?=some (.cells #[.int .i64 a0_0,(.slice ax ae.length ay)] 64 (0,0)))∧Aside0 (Below w.heap.size w w'))
    case atStart=>exact⟨(aN),(aY),(0),(true),rs_,rs_,H',⟨Nat.le_refl _⟩,⟨ro_ aC.out⟩,⟨ro_ aD.out⟩,⟨bk_⟩,⟨hb_⟩⟩
    case round=>
     clear H'
     try clear c1
     try clear c2
     try clear c2b0
     try clear c2b1
     try clear p2
     try clear c3
     try clear c3b0
     try clear c3b1
     try clear c4
     try clear c4b0
     try clear c4b1
     try clear aT
     try clear aU
     try clear aV
     try clear aW
     obtain⟨aI,aX,aJ,aZ,rfl,rfl,HA,HK1,aq,au,af,HB⟩:=hrel
     cases gk with
     | zero=>exact absurd HA.out (by simp [spec_l06Heights.l0])
     | succ k1=>
      have H:=HA.out
      clear HA
      simp only [spec_l06Heights.l0] at H
      by_cases c13:aZ=true
      ·subst c13
       have H1:(spec_l06Heights.l1 k1 (ae.length:Int) aI aX aJ false 0 a0_0 ae)=some (r1,r2):=by rw [if_pos rfl] at H;exact H
       clear H
       have H:=H1
       clear H1
       have H':=Aside0.mk H
       clear H
       go_wp2
       go_loopg [7,8,9] k1 (fun kq v7 v8 v9 w'=> ∃(ag:List Int) (ah:List Bool) (av:Int) (aw:Bool) (aa:Int),v7= .int .i64 av∧v8= .bool aw∧v9= .int .i64 aa∧Aside0 (spec_l06Heights.l1 kq (ae.length:Int) ag ah av aw aa a0_0 ae=some (r1,r2))∧Aside0 (kq≤k1)∧Aside0 (Kd.R (Kd.int .i64) 2 w' w.heap.size (fun _=>True) aG ag)∧Aside0 (Kd.R Kd.bool 4 w' w.heap.size (fun _=>True) aH ah)∧Aside0 (w'.heap[ak]?=some (.cells #[.int .i64 a0_0,(.slice ax ae.length ay)] 64 (0,0)))∧Aside0 (Below w.heap.size w w'))
       case atStart=>exact⟨(aI),(aX),(aJ),(false),(0),rs_,rs_,rs_,H',⟨Nat.le_refl _⟩,⟨ro_ aq.out⟩,⟨ro_ au.out⟩,⟨bk_⟩,⟨hb_⟩⟩
       case round=>
        clear H'
        try clear c1
        try clear c2
        try clear c2b0
        try clear c2b1
        try clear p2
        try clear c3
        try clear c3b0
        try clear c3b1
        try clear c4
        try clear c4b0
        try clear c4b1
        try clear c13
        try clear aT
        try clear aU
        try clear aV
        try clear aW
        try clear p2
        obtain⟨ag,ah,av,aw,aa,rfl,rfl,rfl,HA,HK2,aq,au,af,HB⟩:=hrel
        cases gk with
        | zero=>exact absurd HA.out (by simp [spec_l06Heights.l1])
        | succ k2=>
         have H:=HA.out
         clear HA
         simp only [spec_l06Heights.l1] at H
         by_cases c14:aa < (ae.length:Int)
         ·rw [if_pos c14] at H
          have c14b0:decide (aa < (ae.length:Int))=true:=decide_eq_true c14
          clear c14
          by_cases c15:0≤aa
          ·rw [if_pos c15] at H
           have c15b0:decide (0≤aa)=true:=decide_eq_true c15
           clear c15
           by_cases c16:aa < (ah.length:Int)
           ·rw [if_pos c16] at H
            have c16b0:decide (aa < (ah.length:Int))=true:=decide_eq_true c16
            clear c16
            have H':=Aside0.mk H
            clear H
            obtain⟨cn,ba,bC⟩:=Kd.R_slice au.out
            subst bC
            have p985:0≤(aa:Int):=od_
            have q985:aa < (ah.length:Int):=od_
            obtain⟨bh,e985,hx985_0⟩:=Kd.at_bool (Kd.R_reads' au.out).2.2 aa p985 q985
            cases e985
            replace p985:=eq_true p985
            replace q985:=eq_true q985
            go_wp2
            go_loopg [10,11,12] k2 (fun kq v10 v11 v12 w'=> ∃(az:Bool) (ai:Int) (aj:Int),v10= .bool az∧v11= .int .i64 ai∧v12= .int .i64 aj∧Aside0 (spec_l06Heights.l2 kq (ae.length:Int) ag ah av aw aa az ai aj a0_0 ae=some (r1,r2))∧Aside0 (kq≤k2)∧Aside0 (Kd.R (Kd.int .i64) 2 w' w.heap.size (fun _=>True) aG ag)∧Aside0 (Kd.R Kd.bool 4 w' w.heap.size (fun _=>True) (.slice (some bh) ah.length ba) ah)∧Aside0 (w'.heap[ak]?=some (.cells #[.int .i64 a0_0,(.slice ax ae.length ay)] 64 (0,0)))∧Aside0 (Below w.heap.size w w'))
            case atStart=>exact⟨(!(rdOf false ah aa)),(0),(0),rs_,rs_,rs_,H',⟨Nat.le_refl _⟩,⟨ro_ aq.out⟩,⟨ro_ au.out⟩,⟨bk_⟩,⟨hb_⟩⟩
            case round=>
             clear H'
             try clear c1
             try clear c2
             try clear c2b0
             try clear c2b1
             try clear p2
             try clear c3
             try clear c3b0
             try clear c3b1
             try clear c4
             try clear c4b0
             try clear c4b1
             try clear p9
             try clear q9
             try clear hx9
             try clear c13
             try clear c14
             try clear c14b0
             try clear c15
             try clear c15b0
             try clear c16
             try clear c16b0
             try clear aT
             try clear aU
             try clear aV
             try clear aW
             try clear hx985_0
             try clear p2
             try clear p985
             try clear q985
             obtain⟨az,ai,aj,rfl,rfl,rfl,HA,HK3,aq,au,af,HB⟩:=hrel
             cases gk with
             | zero=>exact absurd HA.out (by simp [spec_l06Heights.l2])
             | succ k3=>
              have H:=HA.out
              clear HA
              simp only [spec_l06Heights.l2] at H
              by_cases c18:aj < a0_0
              ·rw [if_pos c18] at H
               have c18b0:decide (aj < a0_0)=true:=decide_eq_true c18
               clear c18
               obtain⟨ji19,hji19⟩: ∃j_:Int,(IntKind.u64.wrap (aj))=j_:=⟨_,rfl⟩
               replace H:(if 0≤(ji19) then(if 0≤aa then(if aa < (ae.length:Int) then(if(Go.bits .and .i64 (rd ae aa) (shl .i64 1 (ji19)))=0 then(spec_l06Heights.l2 k3 (ae.length:Int) ag ah av aw aa az ai (wrap64 (aj+1)) a0_0 ae) else(if az=true then(if 0≤(Go.bits .xor .i64 aa (shl .i64 1 (ji19))) then(if(Go.bits .xor .i64 aa (shl .i64 1 (ji19))) < (ah.length:Int) then(if(Go.bits .xor .i64 aa (shl .i64 1 (ji19))) < (ag.length:Int) then(spec_l06Heights.l2 k3 (ae.length:Int) ag ah av aw aa (rdOf false ah (Go.bits .xor .i64 aa (shl .i64 1 (ji19)))) (mx ai (wrap64 ((rd ag (Go.bits .xor .i64 aa (shl .i64 1 (ji19))))+1))) (wrap64 (aj+1)) a0_0 ae) else(none)) else(none)) else(none)) else(if 0≤(Go.bits .xor .i64 aa (shl .i64 1 (ji19))) then(if(Go.bits .xor .i64 aa (shl .i64 1 (ji19))) < (ag.length:Int) then(spec_l06Heights.l2 k3 (ae.length:Int) ag ah av aw aa false (mx ai (wrap64 ((rd ag (Go.bits .xor .i64 aa (shl .i64 1 (ji19))))+1))) (wrap64 (aj+1)) a0_0 ae) else(none)) else(none)))) else(none)) else(none)) else(none))=some (r1,r2):=by first | (rw [hji19] at H;exact H) | (simp only [hji19] at H ⊢;exact H)
               by_cases c20:0≤(ji19)
               ·rw [if_pos c20] at H
                have c20b0:=eq_true c20
                have c20b1:decide (0≤(ji19))=true:=decide_eq_true c20
                clear c20
                obtain⟨ji21,hji21⟩: ∃j_:Int,(shl .i64 1 (ji19))=j_:=⟨_,rfl⟩
                replace H:(if 0≤aa then(if aa < (ae.length:Int) then(if(Go.bits .and .i64 (rd ae aa) (ji21))=0 then(spec_l06Heights.l2 k3 (ae.length:Int) ag ah av aw aa az ai (wrap64 (aj+1)) a0_0 ae) else(if az=true then(if 0≤(Go.bits .xor .i64 aa (ji21)) then(if(Go.bits .xor .i64 aa (ji21)) < (ah.length:Int) then(if(Go.bits .xor .i64 aa (ji21)) < (ag.length:Int) then(spec_l06Heights.l2 k3 (ae.length:Int) ag ah av aw aa (rdOf false ah (Go.bits .xor .i64 aa (ji21))) (mx ai (wrap64 ((rd ag (Go.bits .xor .i64 aa (ji21)))+1))) (wrap64 (aj+1)) a0_0 ae) else(none)) else(none)) else(none)) else(if 0≤(Go.bits .xor .i64 aa (ji21)) then(if(Go.bits .xor .i64 aa (ji21)) < (ag.length:Int) then(spec_l06Heights.l2 k3 (ae.length:Int) ag ah av aw aa false (mx ai (wrap64 ((rd ag (Go.bits .xor .i64 aa (ji21)))+1))) (wrap64 (aj+1)) a0_0 ae) else(none)) else(none)))) else(none)) else(none))=some (r1,r2):=by first | (rw [hji21] at H;exact H) | (simp only [hji21] at H ⊢;exact H)
                have hji21_:(IntKind.i64.wrap (1*2 ^ min (ji19).toNat 64))=ji21:=hji21
                have hji21z:(ji19)≤64→(IntKind.i64.wrap (1*2 ^ (ji19).toNat))=ji21:=shl_small hji21
                have hji21u:(IntKind.i64.wrap (2 ^ min (ji19).toNat 64))=ji21:=by have h_:=hji21_;rw [Int.one_mul] at h_;exact h_
                have hji21v:(ji19)≤64→(IntKind.i64.wrap (2 ^ (ji19).toNat))=ji21:=fun hle_=>by have h_:=hji21z hle_;rw [Int.one_mul] at h_;exact h_
                have hji21y:(wrap64 (1*2 ^ min (ji19).toNat 64))=ji21:=(i64_w _).symm.trans hji21_
                have hji21x:(ji19)≤64→(wrap64 (1*2 ^ (ji19).toNat))=ji21:=fun h_=>(i64_w _).symm.trans (hji21z h_)
                by_cases c22:0≤aa
                ·rw [if_pos c22] at H
                 have c22b0:decide (0≤aa)=true:=decide_eq_true c22
                 clear c22
                 by_cases c23:aa < (ae.length:Int)
                 ·rw [if_pos c23] at H
                  have c23b0:decide (aa < (ae.length:Int))=true:=decide_eq_true c23
                  clear c23
                  by_cases c24:(Go.bits .and .i64 (rd ae aa) (ji21))=0
                  ·rw [if_pos c24] at H
                   have c24b0:((Go.bits .and .i64 (rd ae aa) (ji21))==0)=true:=beq_iff_eq.mpr c24
                   have c24b1:((Go.bits .and .i64 (rd ae aa) (ji21)) !=0)=false:=bne_eq_false_iff_eq.mpr c24
                   clear c24
                   have H':=Aside0.mk H
                   clear H
                   have bF:wr.cell? ⟨ak,0,none⟩=some (.int .i64 a0_0):=(blk_cell af.out 0).trans rfl
                   have bG:wr.cell? ⟨ak,1,none⟩=some (.slice ax ae.length ay):=(blk_cell af.out 1).trans rfl
                   have bH:=blk_frozen af.out 0
                   have bI:=blk_frozen af.out 1
                   have p986:0≤(aa:Int):=od_
                   have q986:aa < (ae.length:Int):=od_
                   obtain⟨bi,e986,hx986_0⟩:=Kd.at_int HR0_1.out aa p986 q986
                   cases e986
                   replace hx986_0:=(HB.out.cell (World.block_lt_of_cell? w _ hx986_0)).trans hx986_0
                   replace p986:=eq_true p986
                   replace q986:=eq_true q986
                   go_wp2
                   go_roundg k3
                   case measure=>have:=HK1.out;have:=HK2.out;have:=HK3.out;omega
                   case rel=>exact⟨(az),(ai),(wrap64 (aj+1)),rs_,rs_,rs_,H',⟨by have:=HK1.out;have:=HK2.out;have:=HK3.out;omega⟩,⟨ro_ aq.out⟩,⟨ro_ au.out⟩,⟨bk_⟩,⟨hb_⟩⟩
                  ·rw [if_neg c24] at H
                   have c24b0:((Go.bits .and .i64 (rd ae aa) (ji21))==0)=false:=beq_eq_false_iff_ne.mpr c24
                   have c24b1:((Go.bits .and .i64 (rd ae aa) (ji21)) !=0)=true:=bne_iff_ne.mpr c24
                   by_cases c26:az=true
                   ·subst c26
                    have H1:(if 0≤(Go.bits .xor .i64 aa (ji21)) then(if(Go.bits .xor .i64 aa (ji21)) < (ah.length:Int) then(if(Go.bits .xor .i64 aa (ji21)) < (ag.length:Int) then(spec_l06Heights.l2 k3 (ae.length:Int) ag ah av aw aa (rdOf false ah (Go.bits .xor .i64 aa (ji21))) (mx ai (wrap64 ((rd ag (Go.bits .xor .i64 aa (ji21)))+1))) (wrap64 (aj+1)) a0_0 ae) else(none)) else(none)) else(none))=some (r1,r2):=by rw [if_pos rfl] at H;exact H
                    clear H
                    have H:=H1
                    clear H1
                    by_cases c27:0≤(Go.bits .xor .i64 aa (ji21))
                    ·rw [if_pos c27] at H
                     have c27b0:decide (0≤(Go.bits .xor .i64 aa (ji21)))=true:=decide_eq_true c27
                     clear c27
                     by_cases c28:(Go.bits .xor .i64 aa (ji21)) < (ah.length:Int)
                     ·rw [if_pos c28] at H
                      have c28b0:decide ((Go.bits .xor .i64 aa (ji21)) < (ah.length:Int))=true:=decide_eq_true c28
                      clear c28
                      by_cases c29:(Go.bits .xor .i64 aa (ji21)) < (ag.length:Int)
                      ·rw [if_pos c29] at H
                       have c29b0:decide ((Go.bits .xor .i64 aa (ji21)) < (ag.length:Int))=true:=decide_eq_true c29
                       clear c29
                       obtain⟨ji30,hji30⟩: ∃j_:Int,(mx ai (wrap64 ((rd ag (Go.bits .xor .i64 aa (ji21)))+1)))=j_:=⟨_,rfl⟩
                       replace H:(spec_l06Heights.l2 k3 (ae.length:Int) ag ah av aw aa (rdOf false ah (Go.bits .xor .i64 aa (ji21))) ji30 (wrap64 (aj+1)) a0_0 ae)=some (r1,r2):=by first | (rw [hji30] at H;exact H) | (simp only [hji30] at H ⊢;exact H)
                       have hji30_:(if ai < (wrap64 ((rd ag (Go.bits .xor .i64 aa (ji21)))+1)) then(wrap64 ((rd ag (Go.bits .xor .i64 aa (ji21)))+1)) else ai)=ji30:=hji30
                       have H':=Aside0.mk H
                       clear H
                       have bJ:wr.cell? ⟨ak,0,none⟩=some (.int .i64 a0_0):=(blk_cell af.out 0).trans rfl
                       have bK:wr.cell? ⟨ak,1,none⟩=some (.slice ax ae.length ay):=(blk_cell af.out 1).trans rfl
                       have bL:=blk_frozen af.out 0
                       have bM:=blk_frozen af.out 1
                       have p986:0≤(aa:Int):=od_
                       have q986:aa < (ae.length:Int):=od_
                       obtain⟨bi,e986,hx986_0⟩:=Kd.at_int HR0_1.out aa p986 q986
                       cases e986
                       replace hx986_0:=(HB.out.cell (World.block_lt_of_cell? w _ hx986_0)).trans hx986_0
                       replace p986:=eq_true p986
                       replace q986:=eq_true q986
                       have p987:0≤((Go.bits .xor .i64 aa (ji21)):Int):=od_
                       have q987:(Go.bits .xor .i64 aa (ji21)) < (ah.length:Int):=od_
                       obtain⟨bw,e987,hx987_0⟩:=Kd.at_bool (Kd.R_reads' au.out).2.2 (Go.bits .xor .i64 aa (ji21)) p987 q987
                       obtain rfl:bh=bw:=(by injection e987)
                       replace p987:=eq_true p987
                       replace q987:=eq_true q987
                       obtain⟨co,cq,bD⟩:=Kd.R_slice aq.out
                       subst bD
                       have p988:0≤((Go.bits .xor .i64 aa (ji21)):Int):=od_
                       have q988:(Go.bits .xor .i64 aa (ji21)) < (ag.length:Int):=od_
                       obtain⟨cl,e988,hx988_0⟩:=Kd.at_int (Kd.R_reads' aq.out).2.2 (Go.bits .xor .i64 aa (ji21)) p988 q988
                       cases e988
                       replace p988:=eq_true p988
                       replace q988:=eq_true q988
                       go_wp2
                       go_roundg k3
                       case measure=>have:=HK1.out;have:=HK2.out;have:=HK3.out;omega
                       case rel=>exact⟨(rdOf false ah (Go.bits .xor .i64 aa (ji21))),(ji30),(wrap64 (aj+1)),(by first | rfl | (simp;done) | (simp only [← hji21] <;> (first | rfl | simp)) | (simp [*];done)),(by first | rfl | (simp;done) | (simp only [← hji30] <;> (first | rfl | simp)) | (simp [*];done)),rs_,H',⟨by have:=HK1.out;have:=HK2.out;have:=HK3.out;omega⟩,⟨ro_ aq.out⟩,⟨ro_ au.out⟩,⟨bk_⟩,⟨hb_⟩⟩
                      ·rw [if_neg c29] at H
                       exact absurd H (by simp)
                     ·rw [if_neg c28] at H
                      exact absurd H (by simp)
                    ·rw [if_neg c27] at H
                     exact absurd H (by simp)
                   ·replace c26:=Bool.eq_false_iff.mpr c26
                    subst c26
                    have H1:(if 0≤(Go.bits .xor .i64 aa (ji21)) then(if(Go.bits .xor .i64 aa (ji21)) < (ag.length:Int) then(spec_l06Heights.l2 k3 (ae.length:Int) ag ah av aw aa false (mx ai (wrap64 ((rd ag (Go.bits .xor .i64 aa (ji21)))+1))) (wrap64 (aj+1)) a0_0 ae) else(none)) else(none))=some (r1,r2):=by rw [if_neg (show ¬ (false=true) by decide)] at H;exact H
                    clear H
                    have H:=H1
                    clear H1
                    by_cases c33:0≤(Go.bits .xor .i64 aa (ji21))
                    ·rw [if_pos c33] at H
                     have c33b0:decide (0≤(Go.bits .xor .i64 aa (ji21)))=true:=decide_eq_true c33
                     clear c33
                     by_cases c34:(Go.bits .xor .i64 aa (ji21)) < (ag.length:Int)
                     ·rw [if_pos c34] at H
                      have c34b0:decide ((Go.bits .xor .i64 aa (ji21)) < (ag.length:Int))=true:=decide_eq_true c34
                      clear c34
                      try clear hji30
                      try clear hji30_
                      try clear hji30z
                      try clear hji30u
                      try clear hji30v
                      try clear hji30y
                      try clear hji30x
                      try clear hji30w
                      obtain⟨ji35,hji35⟩: ∃j_:Int,(mx ai (wrap64 ((rd ag (Go.bits .xor .i64 aa (ji21)))+1)))=j_:=⟨_,rfl⟩
                      replace H:(spec_l06Heights.l2 k3 (ae.length:Int) ag ah av aw aa false ji35 (wrap64 (aj+1)) a0_0 ae)=some (r1,r2):=by first | (rw [hji35] at H;exact H) | (simp only [hji35] at H ⊢;exact H)
                      have hji35_:(if ai < (wrap64 ((rd ag (Go.bits .xor .i64 aa (ji21)))+1)) then(wrap64 ((rd ag (Go.bits .xor .i64 aa (ji21)))+1)) else ai)=ji35:=hji35
                      have H':=Aside0.mk H
                      clear H
                      have bN:wr.cell? ⟨ak,0,none⟩=some (.int .i64 a0_0):=(blk_cell af.out 0).trans rfl
                      have bO:wr.cell? ⟨ak,1,none⟩=some (.slice ax ae.length ay):=(blk_cell af.out 1).trans rfl
                      have bP:=blk_frozen af.out 0
                      have bQ:=blk_frozen af.out 1
                      have p986:0≤(aa:Int):=od_
                      have q986:aa < (ae.length:Int):=od_
                      obtain⟨bi,e986,hx986_0⟩:=Kd.at_int HR0_1.out aa p986 q986
                      cases e986
                      replace hx986_0:=(HB.out.cell (World.block_lt_of_cell? w _ hx986_0)).trans hx986_0
                      replace p986:=eq_true p986
                      replace q986:=eq_true q986
                      obtain⟨ct,cA,bE⟩:=Kd.R_slice aq.out
                      subst bE
                      have p989:0≤((Go.bits .xor .i64 aa (ji21)):Int):=od_
                      have q989:(Go.bits .xor .i64 aa (ji21)) < (ag.length:Int):=od_
                      obtain⟨cm,e989,hx989_0⟩:=Kd.at_int (Kd.R_reads' aq.out).2.2 (Go.bits .xor .i64 aa (ji21)) p989 q989
                      cases e989
                      replace p989:=eq_true p989
                      replace q989:=eq_true q989
                      go_wp2
                      go_roundg k3
                      case measure=>have:=HK1.out;have:=HK2.out;have:=HK3.out;omega
                      case rel=>exact⟨(false),(ji35),(wrap64 (aj+1)),rs_,(by first | rfl | (simp;done) | (simp only [← hji35] <;> (first | rfl | simp)) | (simp [*];done)),rs_,H',⟨by have:=HK1.out;have:=HK2.out;have:=HK3.out;omega⟩,⟨ro_ aq.out⟩,⟨ro_ au.out⟩,⟨bk_⟩,⟨hb_⟩⟩
                     ·rw [if_neg c34] at H
                      exact absurd H (by simp)
                    ·rw [if_neg c33] at H
                     exact absurd H (by simp)
                 ·rw [if_neg c23] at H
                  exact absurd H (by simp)
                ·rw [if_neg c22] at H
                 exact absurd H (by simp)
               ·rw [if_neg c20] at H
                exact absurd H (by simp)
              ·rw [if_neg c18] at H
               have c18b0:decide (aj < a0_0)=false:=decide_eq_false c18
               clear c18
               by_cases c38:az=true
               ·subst c38
                have H1:(if 0≤aa then(if aa < (ah.length:Int) then(if aa < (ag.length:Int) then(spec_l06Heights.l1 k3 (ae.length:Int) (ag.set (aa:Int).toNat ai) (ah.set (aa:Int).toNat true) (wrap64 (av+1)) true (wrap64 (aa+1)) a0_0 ae) else(none)) else(none)) else(none))=some (r1,r2):=by rw [if_pos rfl] at H;exact H
                clear H
                have H:=H1
                clear H1
                by_cases c39:0≤aa
                ·rw [if_pos c39] at H
                 have c39b0:decide (0≤aa)=true:=decide_eq_true c39
                 clear c39
                 by_cases c40:aa < (ah.length:Int)
                 ·rw [if_pos c40] at H
                  have c40b0:decide (aa < (ah.length:Int))=true:=decide_eq_true c40
                  clear c40
                  obtain⟨a9,hy990⟩: ∃y_:List Bool,y_=(ah.set (aa:Int).toNat true):=⟨_,rfl⟩
                  replace H:(if aa < (ag.length:Int) then(spec_l06Heights.l1 k3 (ae.length:Int) (ag.set (aa:Int).toNat ai) a9 (wrap64 (av+1)) true (wrap64 (aa+1)) a0_0 ae) else(none))=some (r1,r2):=by first | (rw [hy990];with_reducible exact H) | (have H2_:=(Option.bind_some _ _).symm.trans H;rw [hy990];with_reducible exact H2_) | (have H2_:=(Option.bind_some _ _).symm.trans H;with_reducible exact H2_) | with_reducible exact H | (rw [hy990];exact H) | exact H
                  have bz:=Aside0.mk hy990
                  clear hy990
                  by_cases c42:aa < (ag.length:Int)
                  ·rw [if_pos c42] at H
                   have c42b0:decide (aa < (ag.length:Int))=true:=decide_eq_true c42
                   clear c42
                   obtain⟨bb,hy991⟩: ∃y_:List Int,y_=(ag.set (aa:Int).toNat ai):=⟨_,rfl⟩
                   replace H:(spec_l06Heights.l1 k3 (ae.length:Int) bb a9 (wrap64 (av+1)) true (wrap64 (aa+1)) a0_0 ae)=some (r1,r2):=by first | (rw [hy991];with_reducible exact H) | (have H2_:=(Option.bind_some _ _).symm.trans H;rw [hy991];with_reducible exact H2_) | (have H2_:=(Option.bind_some _ _).symm.trans H;with_reducible exact H2_) | with_reducible exact H | (rw [hy991];exact H) | exact H
                   have bA:=Aside0.mk hy991
                   clear hy991
                   have H':=Aside0.mk H
                   clear H
                   have bS:wr.cell? ⟨ak,0,none⟩=some (.int .i64 a0_0):=(blk_cell af.out 0).trans rfl
                   have bT:wr.cell? ⟨ak,1,none⟩=some (.slice ax ae.length ay):=(blk_cell af.out 1).trans rfl
                   have bU:=blk_frozen af.out 0
                   have bV:=blk_frozen af.out 1
                   have p41:0≤(aa:Int):=od_
                   have q41:(aa:Int) < ((ah.length:Int):Int):=od_
                   obtain⟨go41,cB,bk,bn,gl41,cl41,HG41⟩:=Kd.R_form au.out (by omega)
                   (first | cases bk | (injection bk with ea_ en_ ec_;(first | subst ea_ | (injection ea_ with ea_;subst ea_));subst ec_;clear en_))
                   have GB41:=Aside0.mk bn
                   have GG41:=Aside0.mk HG41
                   clear bn gl41 HG41
                   (first | simp only [add_plain] at hx985_0 | skip)
                   (first | simp only [add_plain] at hx987_0 | skip)
                   obtain⟨hx41_0,hf41_0⟩:=Kd.R_celln false au.out (aa:Int) p41 q41
                   replace p41:=eq_true p41
                   replace q41:=eq_true q41
                   have HP45:=Kd.R_putg au.out (aa:Int) true
                   go_wp2_with (first | ((with_reducible refine gate_store (t:=4) (p:=70) rfl ?_);refine store_event (t:=4) (p:=70) (v:=?vo_w46) (w1:=(wr.setCell ⟨go41,(aa:Int).toNat,none⟩ (.bool true))) ?hg ?ho ?hn ?hr ?_;(case ho=>rfl);(case hg=>rfl);(case hn=>rfl);(case hr=>first | (go_simp;done) | (go_simp;rfl));intro w46 hw;have hg:wr.grownBy w46 (some go41):=(by rw [hw];exact HP45.2);have hp_:Kd.R Kd.bool 4 w46 w.heap.size (fun _=>True) (.slice (some ⟨go41,0,none⟩) ah.length ba) a9:=(by rw [hw,bz.out];exact HP45.1);clear HP45;replace aq:=Aside0.mk (Kd.R_over' (v:=(.slice (some ⟨go41,0,none⟩) ah.length ba)) (ro_ aq.out) (Kd.R_typed au.out) (by decide) hg);replace af:=Aside0.mk (bg_ af.out hg (Kd.R_ne au.out af.out (by decide)));replace HB:=Aside0.mk ((by rw [hw];exact below_set (HB.out) GB41.out:Below w.heap.size w w46));replace au:=Aside0.mk (hp_);clear hg hw hp_;have p43:0≤(aa:Int):=od_;have q43:(aa:Int) < ((ag.length:Int):Int):=od_;obtain⟨go43,bq,bu,bv,gl43,cl43,HG43⟩:=Kd.R_form aq.out (by omega);(first | cases bu | (injection bu with ea_ en_ ec_;(first | subst ea_ | (injection ea_ with ea_;subst ea_));subst ec_;clear en_));have GB43:=Aside0.mk bv;have GG43:=Aside0.mk HG43;clear bv gl43 HG43;obtain⟨hx43_0,hf43_0⟩:=Kd.R_celln 0 aq.out (aa:Int) p43 q43;replace p43:=eq_true p43;replace q43:=eq_true q43;obtain⟨hy47_,hz47_⟩:=Kd.R_celln 0 aq.out (aa:Int) od_ od_;have HP47:=Kd.R_putg aq.out (aa:Int) ai) | ((with_reducible refine gate_store (t:=2) (p:=74) rfl ?_);refine store_event (t:=2) (p:=74) (v:=?vo_w48) (w1:=(w46.setCell ⟨go43,(aa:Int).toNat,none⟩ (.int .i64 ai))) ?hg ?ho ?hn ?hr ?_;(case ho=>rfl);(case hg=>rfl);(case hn=>rfl);(case hr=>first | (go_simp;done) | (go_simp;rfl));intro w48 hw;have hg:w46.grownBy w48 (some go43):=(by rw [hw];exact HP47.2);have hp_:Kd.R (Kd.int .i64) 2 w48 w.heap.size (fun _=>True) (.slice (some ⟨go43,0,none⟩) ag.length bq) bb:=(by rw [hw,bA.out];exact HP47.1);clear HP47;replace au:=Aside0.mk (Kd.R_over' (v:=(.slice (some ⟨go43,0,none⟩) ag.length bq)) (ro_ au.out) (Kd.R_typed aq.out) (by decide) hg);replace af:=Aside0.mk (bg_ af.out hg (Kd.R_ne aq.out af.out (by decide)));replace HB:=Aside0.mk ((by rw [hw];exact below_set (HB.out) GB43.out:Below w.heap.size w w48));replace aq:=Aside0.mk (hp_);clear hg hw hp_))
                   go_roundg k3
                   case measure=>have:=HK1.out;have:=HK2.out;have:=HK3.out;omega
                   case rel=>exact⟨(bb),(a9),(wrap64 (av+1)),(true),(wrap64 (aa+1)),rs_,rs_,rs_,H',⟨by have:=HK1.out;have:=HK2.out;have:=HK3.out;omega⟩,⟨ro_ aq.out⟩,⟨ro_ au.out⟩,⟨bk_⟩,⟨hb_⟩⟩
                  ·rw [if_neg c42] at H
                   exact absurd H (by simp)
                 ·rw [if_neg c40] at H
                  exact absurd H (by simp)
                ·rw [if_neg c39] at H
                 exact absurd H (by simp)
               ·replace c38:=Bool.eq_false_iff.mpr c38
                subst c38
                have H1:(spec_l06Heights.l1 k3 (ae.length:Int) ag ah av aw (wrap64 (aa+1)) a0_0 ae)=some (r1,r2):=by rw [if_neg (show ¬ (false=true) by decide)] at H;exact H
                clear H
                have H:=H1
                clear H1
                have H':=Aside0.mk H
                clear H
                have bW:wr.cell? ⟨ak,0,none⟩=some (.int .i64 a0_0):=(blk_cell af.out 0).trans rfl
                have bX:wr.cell? ⟨ak,1,none⟩=some (.slice ax ae.length ay):=(blk_cell af.out 1).trans rfl
                have bY:=blk_frozen af.out 0
                have bZ:=blk_frozen af.out 1
                go_wp2
                go_roundg k3
                case measure=>have:=HK1.out;have:=HK2.out;have:=HK3.out;omega
                case rel=>exact⟨(ag),(ah),(av),(aw),(wrap64 (aa+1)),rs_,rs_,rs_,H',⟨by have:=HK1.out;have:=HK2.out;have:=HK3.out;omega⟩,⟨ro_ aq.out⟩,⟨ro_ au.out⟩,⟨bk_⟩,⟨hb_⟩⟩
           ·rw [if_neg c16] at H
            exact absurd H (by simp)
          ·rw [if_neg c15] at H
           exact absurd H (by simp)
         ·rw [if_neg c14] at H
          have c14b0:decide (aa < (ae.length:Int))=false:=decide_eq_false c14
          clear c14
          have H':=Aside0.mk H
          clear H
          go_wp2
          go_roundg k2
          case measure=>have:=HK1.out;have:=HK2.out;omega
          case rel=>exact⟨(ag),(ah),(av),(aw),rs_,rs_,H',⟨by have:=HK1.out;have:=HK2.out;omega⟩,⟨ro_ aq.out⟩,⟨ro_ au.out⟩,⟨bk_⟩,⟨hb_⟩⟩
      ·replace c13:=Bool.eq_false_iff.mpr c13
       subst c13
       have H1:(some (aI,(aJ==(ae.length:Int))))=some (r1,r2):=by rw [if_neg (show ¬ (false=true) by decide)] at H;exact H
       clear H
       have H:=H1
       clear H1
       simp only [Option.some.injEq,Prod.mk.injEq] at H
       obtain⟨rfl,rfl⟩:=H
       go_wp2
       go_ret2
       exact⟨_,by first | rfl | (simp [errW_none,errW_some] <;> rfl) | (simp [*,errW_none,errW_some] <;> rfl),ro_ aq.out,hb_⟩
   ·rw [if_neg c4] at H
    exact absurd H (by simp)
  ·rw [if_neg c3] at H
   exact absurd H (by simp)
 ·rw [if_neg c2] at H
  exact absurd H (by simp)
def spec_LongestPath.l0:Nat→List Int→Int→Int→Option (Int × Int)
 | 0,_,_,_=>none
 | k+1,x4,x6,x7=>if x7 < (x4.length:Int) then(if 0≤x7 then(spec_LongestPath.l0 k x4 (mx x6 (rd x4 x7)) (wrap64 (x7+1))) else(none)) else(some (x6,0))
def spec_LongestPath.f (k:Nat) (a0_0:Int) (ae:List Int):Option (Int × Int):=(spec_l06Is.f k a0_0 ae).bind fun af=>(if af=true then((spec_l06Heights.f k a0_0 ae).bind fun aa=>(if aa.2=true then(spec_LongestPath.l0 k aa.1 0 0) else(some (0,5)))) else(some (0,1)))
theorem spec_LongestPath.mono_l: ∀k,(∀y0 y1 y2,LeO (spec_LongestPath.l0 k y0 y1 y2) (spec_LongestPath.l0 (k+1) y0 y1 y2))
 | 0=>fun _ _ _ r h=>by simp [spec_LongestPath.l0] at h
 | k+1=>by
  have ih0:=spec_LongestPath.mono_l k
  ·intro y0 y1 y2
   unfold spec_LongestPath.l0
   repeat' first
   | (with_reducible exact ih0 _ _ _)
   | (with_reducible exact spec_l06Heights.mono _ _ _)
   | (with_reducible exact spec_l06Is.mono _ _ _)
   | (with_reducible exact LeO.refl _)
   | (with_reducible exact LeO.none _)
   | (with_reducible refine LeO.ite ?_ ?_)
   | (with_reducible refine LeO.bind ?_ (fun _=>?_))
   | exact ih0 _ _ _
   | exact spec_l06Heights.mono _ _ _
   | exact spec_l06Is.mono _ _ _
   | exact LeO.none _
   | refine LeO.ite ?_ ?_
   | refine LeO.bind ?_ (fun _=>?_)
theorem spec_LongestPath.mono: ∀a0 a1 k,LeO (spec_LongestPath.f k a0 a1) (spec_LongestPath.f (k+1) a0 a1):=by
 intro a0 a1 k
 have ih0:=spec_LongestPath.mono_l k
 unfold spec_LongestPath.f
 repeat' first
   | (with_reducible exact ih0 _ _ _)
   | (with_reducible exact spec_l06Heights.mono _ _ _)
   | (with_reducible exact spec_l06Is.mono _ _ _)
   | (with_reducible exact LeO.refl _)
   | (with_reducible exact LeO.none _)
   | (with_reducible refine LeO.ite ?_ ?_)
   | (with_reducible refine LeO.bind ?_ (fun _=>?_))
   | exact ih0 _ _ _
   | exact spec_l06Heights.mono _ _ _
   | exact spec_l06Is.mono _ _ _
   | exact LeO.none _
   | refine LeO.ite ?_ ?_
   | refine LeO.bind ?_ (fun _=>?_)
theorem spec_LongestPath.calls (k:Nat) (a0_0:Int) (ag:Option Addr) (ah:Nat) (ae:List Int) (r1:Int) (r2:Int) (w:World) (ay:Kd.C (Kd.int .i64) w ag ae.length ae) (az:ae.length≤ah) (h:spec_LongestPath.f k a0_0 ae=some (r1,r2)):
  Calls Try.prog 47 #[.agg #[.int .i64 a0_0, .slice ag ae.length ah]] w fun e w'=>e= .returned (.tuple #[.int .i64 r1, .int .i64 r2])∧Below w.heap.size w w':=by
 have hu64:=Try.underlying64
 have HR0_1:=Aside0.mk ay
 have HC0_1:=Aside0.mk az
 clear ay az
 have HB:=Aside0.mk (Below.refl w.heap.size w)
 have H:((spec_l06Is.f k a0_0 ae).bind fun aw=>(if aw=true then((spec_l06Heights.f k a0_0 ae).bind fun au=>(if au.2=true then(spec_LongestPath.l0 k au.1 0 0) else(some (0,5)))) else(some (0,1))))=some (r1,r2):=h
 clear h
 replace H:=Option.bind_eq_some_iff.mp H
 obtain⟨aw,A20,H⟩:=H
 replace H:(if aw=true then((spec_l06Heights.f k a0_0 ae).bind fun au=>(if au.2=true then(spec_LongestPath.l0 k au.1 0 0) else(some (0,5)))) else(some (0,1)))=some (r1,r2):=H
 have A2:=Aside0.mk A20
 clear A20
 by_cases c3:aw=true
 ·subst c3
  have H1:((spec_l06Heights.f k a0_0 ae).bind fun au=>(if au.2=true then(spec_LongestPath.l0 k au.1 0 0) else(some (0,5))))=some (r1,r2):=by rw [if_pos rfl] at H;exact H
  clear H
  have H:=H1
  clear H1
  replace H:=Option.bind_eq_some_iff.mp H
  obtain⟨⟨aj,aG⟩,A40,H⟩:=H
  replace H:(if aG=true then(spec_LongestPath.l0 k aj 0 0) else(some (0,5)))=some (r1,r2):=H
  have A4:=Aside0.mk A40
  clear A40
  by_cases c5:aG=true
  ·subst c5
   have H1:(spec_LongestPath.l0 k aj 0 0)=some (r1,r2):=by rw [if_pos rfl] at H;exact H
   clear H
   have H:=H1
   clear H1
   have H':=Aside0.mk H
   clear H
   go_enter Try.func47,Try.ntmps47
   go_wp2_with (first | ((with_reducible refine gate_dst (N:=1) rfl ?_);refine box_event ?hg (N:=1) ?hd (cs:= #[.int .i64 a0_0, .slice ag ae.length ah]) (t:=64) ?hr ?_;(case hd=>rfl);(case hg=>rfl);(case hr=>first | (go_simp;done) | (go_simp;rfl));intro af hg w6 hbox hb;have aa:=Aside0.mk (hbox);have aA:=Aside0.mk ((by rw [hg];exact bz_:w.heap.size≤af));have aC:=Aside0.mk ((by rw [hg];exact bz_:w.heap.size≤af));replace HB:=Aside0.mk (bs_ hb);clear hb hbox hg;have aH:w6.cell? ⟨af,0,none⟩=some (.int .i64 a0_0):=(blk_cell aa.out 0).trans rfl;have aI:w6.cell? ⟨af,1,none⟩=some (.slice ag ae.length ah):=(blk_cell aa.out 1).trans rfl;have aJ:=blk_frozen aa.out 0;have aK:=blk_frozen aa.out 1) | ((with_reducible refine gate_callee (f:=128) rfl ?_);refine gL_ 9 Try.func128 #[.agg #[.int .i64 a0_0, .slice ag ae.length ah]] ?_;(with_reducible refine(spec_l06Is.calls k a0_0 _ _ ae true _ ?ak ?aq A2.out).mono ?_);(case ak=>exact cb_ HR0_1.out HB.out);(case aq=>exact HC0_1.out);rintro e w8 ⟨rfl,hb⟩;refine⟨_,rfl,?_⟩;replace aa:=Aside0.mk (bb_ aa.out hb);replace HB:=Aside0.mk (bs_ hb);(try clear hb);(try clear hb2);(try clear hk);(try clear hi);have aM:w8.cell? ⟨af,0,none⟩=some (.int .i64 a0_0):=(blk_cell aa.out 0).trans rfl;have aN:w8.cell? ⟨af,1,none⟩=some (.slice ag ae.length ah):=(blk_cell aa.out 1).trans rfl;have aT:=blk_frozen aa.out 0;have aU:=blk_frozen aa.out 1) | ((with_reducible refine gate_callee (f:=132) rfl ?_);refine gL_ 13 Try.func132 #[.agg #[.int .i64 a0_0, .slice ag ae.length ah]] ?_;(with_reducible refine(spec_l06Heights.calls k a0_0 _ _ ae aj true _ ?ak ?aq A4.out).mono ?_);(case ak=>exact cb_ HR0_1.out HB.out);(case aq=>exact HC0_1.out);rintro e w10 ⟨aV,rfl,ho0,hb⟩;refine⟨_,rfl,?_⟩;have aD:=Aside0.mk (Kd.R_lower ho0 bz_);replace aa:=Aside0.mk (bb_ aa.out hb);replace HB:=Aside0.mk (bs_ hb);(try clear hb);(try clear hb2);(try clear hk);(try clear hi);(try clear ho0)))
   go_loopg [6,7] k (fun kq v6 v7 w'=> ∃(av:Int) (ai:Int),v6= .int .i64 av∧v7= .int .i64 ai∧Aside0 (spec_LongestPath.l0 kq aj av ai=some (r1,r2))∧Aside0 (kq≤k)∧Aside0 (Kd.R (Kd.int .i64) 2 w' w.heap.size (fun _=>True) aV aj)∧Aside0 (w'.heap[af]?=some (.cells #[.int .i64 a0_0,(.slice ag ae.length ah)] 64 (0,0)))∧Aside0 (Below w.heap.size w w'))
   case atStart=>exact⟨(0),(0),rs_,rs_,H',⟨Nat.le_refl _⟩,⟨ro_ aD.out⟩,⟨bk_⟩,⟨hb_⟩⟩
   case round=>
    clear H'
    try clear c1
    try clear p2
    try clear c3
    try clear c4
    try clear c5
    try clear aH
    try clear aI
    try clear aM
    try clear aN
    try clear aJ
    try clear aK
    try clear aT
    try clear aU
    obtain⟨av,ai,rfl,rfl,HA,HK1,ax,aa,HB⟩:=hrel
    cases gk with
    | zero=>exact absurd HA.out (by simp [spec_LongestPath.l0])
    | succ k1=>
     have H:=HA.out
     clear HA
     simp only [spec_LongestPath.l0] at H
     by_cases c11:ai < (aj.length:Int)
     ·rw [if_pos c11] at H
      have c11b0:decide (ai < (aj.length:Int))=true:=decide_eq_true c11
      clear c11
      by_cases c12:0≤ai
      ·rw [if_pos c12] at H
       have c12b0:decide (0≤ai)=true:=decide_eq_true c12
       clear c12
       obtain⟨ji13,hji13⟩: ∃j_:Int,(mx av (rd aj ai))=j_:=⟨_,rfl⟩
       replace H:(spec_LongestPath.l0 k1 aj ji13 (wrap64 (ai+1)))=some (r1,r2):=by first | (rw [hji13] at H;exact H) | (simp only [hji13] at H ⊢;exact H)
       have hji13_:(if av < (rd aj ai) then(rd aj ai) else av)=ji13:=hji13
       have H':=Aside0.mk H
       clear H
       obtain⟨bv,bw,aW⟩:=Kd.R_slice ax.out
       subst aW
       have p998:0≤(ai:Int):=od_
       have q998:ai < (aj.length:Int):=od_
       obtain⟨bu,e998,hx998_0⟩:=Kd.at_int (Kd.R_reads' ax.out).2.2 ai p998 q998
       cases e998
       replace p998:=eq_true p998
       replace q998:=eq_true q998
       go_wp2
       go_roundg k1
       case measure=>have:=HK1.out;omega
       case rel=>exact⟨(ji13),(wrap64 (ai+1)),(by first | rfl | (simp;done) | (simp only [← hji13] <;> (first | rfl | simp)) | (simp [*];done)),rs_,H',⟨by have:=HK1.out;omega⟩,⟨ro_ ax.out⟩,⟨bk_⟩,⟨hb_⟩⟩
      ·rw [if_neg c12] at H
       exact absurd H (by simp)
     ·rw [if_neg c11] at H
      have c11b0:decide (ai < (aj.length:Int))=false:=decide_eq_false c11
      clear c11
      simp only [Option.some.injEq,Prod.mk.injEq] at H
      obtain⟨rfl,rfl⟩:=H
      obtain⟨bz,bA,aX⟩:=Kd.R_slice ax.out
      subst aX
      go_wp2
      go_ret2
      exact⟨by first | rfl | (simp [errW_none,errW_some] <;> rfl) | (simp [*,errW_none,errW_some] <;> rfl),hb_⟩
  ·replace c5:=Bool.eq_false_iff.mpr c5
   subst c5
   have H1:(some (0,5))=some (r1,r2):=by rw [if_neg (show ¬ (false=true) by decide)] at H;exact H
   clear H
   have H:=H1
   clear H1
   simp only [Option.some.injEq,Prod.mk.injEq] at H
   obtain⟨rfl,rfl⟩:=H
   go_enter Try.func47,Try.ntmps47
   go_wp2_with (first | ((with_reducible refine gate_dst (N:=1) rfl ?_);refine box_event ?hg (N:=1) ?hd (cs:= #[.int .i64 a0_0, .slice ag ae.length ah]) (t:=64) ?hr ?_;(case hd=>rfl);(case hg=>rfl);(case hr=>first | (go_simp;done) | (go_simp;rfl));intro af hg w16 hbox hb;have aa:=Aside0.mk (hbox);have aA:=Aside0.mk ((by rw [hg];exact bz_:w.heap.size≤af));have aC:=Aside0.mk ((by rw [hg];exact bz_:w.heap.size≤af));replace HB:=Aside0.mk (bs_ hb);clear hb hbox hg;have aY:w16.cell? ⟨af,0,none⟩=some (.int .i64 a0_0):=(blk_cell aa.out 0).trans rfl;have aZ:w16.cell? ⟨af,1,none⟩=some (.slice ag ae.length ah):=(blk_cell aa.out 1).trans rfl;have a9:=blk_frozen aa.out 0;have ba:=blk_frozen aa.out 1) | ((with_reducible refine gate_callee (f:=128) rfl ?_);refine gL_ 9 Try.func128 #[.agg #[.int .i64 a0_0, .slice ag ae.length ah]] ?_;(with_reducible refine(spec_l06Is.calls k a0_0 _ _ ae true _ ?ak ?aq A2.out).mono ?_);(case ak=>exact cb_ HR0_1.out HB.out);(case aq=>exact HC0_1.out);rintro e w18 ⟨rfl,hb⟩;refine⟨_,rfl,?_⟩;replace aa:=Aside0.mk (bb_ aa.out hb);replace HB:=Aside0.mk (bs_ hb);(try clear hb);(try clear hb2);(try clear hk);(try clear hi);have bb:w18.cell? ⟨af,0,none⟩=some (.int .i64 a0_0):=(blk_cell aa.out 0).trans rfl;have bf:w18.cell? ⟨af,1,none⟩=some (.slice ag ae.length ah):=(blk_cell aa.out 1).trans rfl;have bg:=blk_frozen aa.out 0;have bh:=blk_frozen aa.out 1) | ((with_reducible refine gate_callee (f:=132) rfl ?_);refine gL_ 13 Try.func132 #[.agg #[.int .i64 a0_0, .slice ag ae.length ah]] ?_;(with_reducible refine(spec_l06Heights.calls k a0_0 _ _ ae aj false _ ?ak ?aq A4.out).mono ?_);(case ak=>exact cb_ HR0_1.out HB.out);(case aq=>exact HC0_1.out);rintro e w20 ⟨aV,rfl,ho0,hb⟩;refine⟨_,rfl,?_⟩;have aD:=Aside0.mk (Kd.R_lower ho0 bz_);replace aa:=Aside0.mk (bb_ aa.out hb);replace HB:=Aside0.mk (bs_ hb);(try clear hb);(try clear hb2);(try clear hk);(try clear hi);(try clear ho0)))
   go_ret2
   exact⟨by first | rfl | (simp [errW_none,errW_some] <;> rfl) | (simp [*,errW_none,errW_some] <;> rfl),hb_⟩
 ·replace c3:=Bool.eq_false_iff.mpr c3
  subst c3
  have H1:(some (0,1))=some (r1,r2):=by rw [if_neg (show ¬ (false=true) by decide)] at H;exact H
  clear H
  have H:=H1
  clear H1
  simp only [Option.some.injEq,Prod.mk.injEq] at H
  obtain⟨rfl,rfl⟩:=H
  go_enter Try.func47,Try.ntmps47
  go_wp2_with (first | ((with_reducible refine gate_dst (N:=1) rfl ?_);refine box_event ?hg (N:=1) ?hd (cs:= #[.int .i64 a0_0, .slice ag ae.length ah]) (t:=64) ?hr ?_;(case hd=>rfl);(case hg=>rfl);(case hr=>first | (go_simp;done) | (go_simp;rfl));intro af hg w21 hbox hb;have aa:=Aside0.mk (hbox);have aA:=Aside0.mk ((by rw [hg];exact bz_:w.heap.size≤af));have aC:=Aside0.mk ((by rw [hg];exact bz_:w.heap.size≤af));replace HB:=Aside0.mk (bs_ hb);clear hb hbox hg;have bi:w21.cell? ⟨af,0,none⟩=some (.int .i64 a0_0):=(blk_cell aa.out 0).trans rfl;have bk:w21.cell? ⟨af,1,none⟩=some (.slice ag ae.length ah):=(blk_cell aa.out 1).trans rfl;have bn:=blk_frozen aa.out 0;have bq:=blk_frozen aa.out 1) | ((with_reducible refine gate_callee (f:=128) rfl ?_);refine gL_ 9 Try.func128 #[.agg #[.int .i64 a0_0, .slice ag ae.length ah]] ?_;(with_reducible refine(spec_l06Is.calls k a0_0 _ _ ae false _ ?ak ?aq A2.out).mono ?_);(case ak=>exact cb_ HR0_1.out HB.out);(case aq=>exact HC0_1.out);rintro e w23 ⟨rfl,hb⟩;refine⟨_,rfl,?_⟩;replace aa:=Aside0.mk (bb_ aa.out hb);replace HB:=Aside0.mk (bs_ hb);(try clear hb);(try clear hb2);(try clear hk);(try clear hi)))
  go_ret2
  exact⟨by first | rfl | (simp [errW_none,errW_some] <;> rfl) | (simp [*,errW_none,errW_some] <;> rfl),hb_⟩
def impl_IsAcyclicCube.f (k:Nat) (a0_0:Int) (aa:List Int):Option (Bool × Int):=(impl_IsCube.f k a0_0 aa).bind fun af=>(if af=true then((impl_Cube_longest.f k a0_0 aa).bind fun ae=>(some (ae.2,0))) else(some (false,1)))
theorem impl_IsAcyclicCube.mono: ∀a0 a1 k,LeO (impl_IsAcyclicCube.f k a0 a1) (impl_IsAcyclicCube.f (k+1) a0 a1):=by
 intro a0 a1 k
 unfold impl_IsAcyclicCube.f
 repeat' first
   | (with_reducible exact impl_Cube_longest.mono _ _ _)
   | (with_reducible exact impl_IsCube.mono _ _ _)
   | (with_reducible exact LeO.refl _)
   | (with_reducible exact LeO.none _)
   | (with_reducible refine LeO.ite ?_ ?_)
   | (with_reducible refine LeO.bind ?_ (fun _=>?_))
   | exact impl_Cube_longest.mono _ _ _
   | exact impl_IsCube.mono _ _ _
   | exact LeO.none _
   | refine LeO.ite ?_ ?_
   | refine LeO.bind ?_ (fun _=>?_)
theorem impl_IsAcyclicCube.calls (k:Nat) (a0_0:Int) (ag:Option Addr) (ah:Nat) (ae:List Int) (r1:Bool) (r2:Int) (w:World) (au:Kd.C (Kd.int .i64) w ag ae.length ae) (av:ae.length≤ah) (h:impl_IsAcyclicCube.f k a0_0 ae=some (r1,r2)):
  Calls Try.prog 48 #[.agg #[.int .i64 a0_0, .slice ag ae.length ah]] w fun e w'=>e= .returned (.tuple #[.bool r1, .int .i64 r2])∧Below w.heap.size w w':=by
 have hu64:=Try.underlying64
 have HR0_1:=Aside0.mk au
 have HC0_1:=Aside0.mk av
 clear au av
 have HB:=Aside0.mk (Below.refl w.heap.size w)
 have H:((impl_IsCube.f k a0_0 ae).bind fun aq=>(if aq=true then((impl_Cube_longest.f k a0_0 ae).bind fun ai=>(some (ai.2,0))) else(some (false,1))))=some (r1,r2):=h
 clear h
 replace H:=Option.bind_eq_some_iff.mp H
 obtain⟨aq,A20,H⟩:=H
 replace H:(if aq=true then((impl_Cube_longest.f k a0_0 ae).bind fun ai=>(some (ai.2,0))) else(some (false,1)))=some (r1,r2):=H
 have A2:=Aside0.mk A20
 clear A20
 by_cases c3:aq=true
 ·subst c3
  have H1:((impl_Cube_longest.f k a0_0 ae).bind fun ai=>(some (ai.2,0)))=some (r1,r2):=by rw [if_pos rfl] at H;exact H
  clear H
  have H:=H1
  clear H1
  replace H:=Option.bind_eq_some_iff.mp H
  obtain⟨⟨ax,aw⟩,A40,H⟩:=H
  replace H:(some (aw,0))=some (r1,r2):=H
  have A4:=Aside0.mk A40
  clear A40
  simp only [Option.some.injEq,Prod.mk.injEq] at H
  obtain⟨rfl,rfl⟩:=H
  go_enter Try.func48,Try.ntmps48
  go_wp2_with (first | ((with_reducible refine gate_dst (N:=1) rfl ?_);refine box_event ?hg (N:=1) ?hd (cs:= #[.int .i64 a0_0, .slice ag ae.length ah]) (t:=64) ?hr ?_;(case hd=>rfl);(case hg=>rfl);(case hr=>first | (go_simp;done) | (go_simp;rfl));intro af hg w5 hbox hb;have aa:=Aside0.mk (hbox);have ay:=Aside0.mk ((by rw [hg];exact bz_:w.heap.size≤af));have az:=Aside0.mk ((by rw [hg];exact bz_:w.heap.size≤af));replace HB:=Aside0.mk (bs_ hb);clear hb hbox hg;have aH:w5.cell? ⟨af,0,none⟩=some (.int .i64 a0_0):=(blk_cell aa.out 0).trans rfl;have aI:w5.cell? ⟨af,1,none⟩=some (.slice ag ae.length ah):=(blk_cell aa.out 1).trans rfl;have aJ:=blk_frozen aa.out 0;have aK:=blk_frozen aa.out 1) | ((with_reducible refine gate_callee (f:=42) rfl ?_);refine gL_ 7 Try.func42 #[.agg #[.int .i64 a0_0, .slice ag ae.length ah]] ?_;(with_reducible refine(impl_IsCube.calls k a0_0 _ _ ae true _ ?aj ?ak A2.out).mono ?_);(case aj=>exact cb_ HR0_1.out HB.out);(case ak=>exact HC0_1.out);rintro e w7 ⟨rfl,hb⟩;refine⟨_,rfl,?_⟩;replace aa:=Aside0.mk (bb_ aa.out hb);replace HB:=Aside0.mk (bs_ hb);(try clear hb);(try clear hb2);(try clear hk);(try clear hi);have aM:w7.cell? ⟨af,0,none⟩=some (.int .i64 a0_0):=(blk_cell aa.out 0).trans rfl;have aN:w7.cell? ⟨af,1,none⟩=some (.slice ag ae.length ah):=(blk_cell aa.out 1).trans rfl;have aT:=blk_frozen aa.out 0;have aU:=blk_frozen aa.out 1) | ((with_reducible refine gate_callee (f:=131) rfl ?_);refine gL_ 11 Try.func131 #[.agg #[.int .i64 a0_0, .slice ag ae.length ah]] ?_;(with_reducible refine(impl_Cube_longest.calls k a0_0 _ _ ae ax aw _ ?aj ?ak A4.out).mono ?_);(case aj=>exact cb_ HR0_1.out HB.out);(case ak=>exact HC0_1.out);rintro e w9 ⟨rfl,hb⟩;refine⟨_,rfl,?_⟩;replace aa:=Aside0.mk (bb_ aa.out hb);replace HB:=Aside0.mk (bs_ hb);(try clear hb);(try clear hb2);(try clear hk);(try clear hi)))
  go_ret2
  exact⟨by first | rfl | (simp [errW_none,errW_some] <;> rfl) | (simp [*,errW_none,errW_some] <;> rfl),hb_⟩
 ·replace c3:=Bool.eq_false_iff.mpr c3
  subst c3
  have H1:(some (false,1))=some (r1,r2):=by rw [if_neg (show ¬ (false=true) by decide)] at H;exact H
  clear H
  have H:=H1
  clear H1
  simp only [Option.some.injEq,Prod.mk.injEq] at H
  obtain⟨rfl,rfl⟩:=H
  go_enter Try.func48,Try.ntmps48
  go_wp2_with (first | ((with_reducible refine gate_dst (N:=1) rfl ?_);refine box_event ?hg (N:=1) ?hd (cs:= #[.int .i64 a0_0, .slice ag ae.length ah]) (t:=64) ?hr ?_;(case hd=>rfl);(case hg=>rfl);(case hr=>first | (go_simp;done) | (go_simp;rfl));intro af hg w10 hbox hb;have aa:=Aside0.mk (hbox);have ay:=Aside0.mk ((by rw [hg];exact bz_:w.heap.size≤af));have az:=Aside0.mk ((by rw [hg];exact bz_:w.heap.size≤af));replace HB:=Aside0.mk (bs_ hb);clear hb hbox hg;have aA:w10.cell? ⟨af,0,none⟩=some (.int .i64 a0_0):=(blk_cell aa.out 0).trans rfl;have aC:w10.cell? ⟨af,1,none⟩=some (.slice ag ae.length ah):=(blk_cell aa.out 1).trans rfl;have aD:=blk_frozen aa.out 0;have aG:=blk_frozen aa.out 1) | ((with_reducible refine gate_callee (f:=42) rfl ?_);refine gL_ 7 Try.func42 #[.agg #[.int .i64 a0_0, .slice ag ae.length ah]] ?_;(with_reducible refine(impl_IsCube.calls k a0_0 _ _ ae false _ ?aj ?ak A2.out).mono ?_);(case aj=>exact cb_ HR0_1.out HB.out);(case ak=>exact HC0_1.out);rintro e w12 ⟨rfl,hb⟩;refine⟨_,rfl,?_⟩;replace aa:=Aside0.mk (bb_ aa.out hb);replace HB:=Aside0.mk (bs_ hb);(try clear hb);(try clear hb2);(try clear hk);(try clear hi)))
  go_ret2
  exact⟨by first | rfl | (simp [errW_none,errW_some] <;> rfl) | (simp [*,errW_none,errW_some] <;> rfl),hb_⟩
def spec_IsAcyclicCube.f (k:Nat) (a0_0:Int) (aa:List Int):Option (Bool × Int):=(spec_l06Is.f k a0_0 aa).bind fun af=>(if af=true then((spec_l06Heights.f k a0_0 aa).bind fun ae=>(some (ae.2,0))) else(some (false,1)))
theorem spec_IsAcyclicCube.mono: ∀a0 a1 k,LeO (spec_IsAcyclicCube.f k a0 a1) (spec_IsAcyclicCube.f (k+1) a0 a1):=by
 intro a0 a1 k
 unfold spec_IsAcyclicCube.f
 repeat' first
   | (with_reducible exact spec_l06Heights.mono _ _ _)
   | (with_reducible exact spec_l06Is.mono _ _ _)
   | (with_reducible exact LeO.refl _)
   | (with_reducible exact LeO.none _)
   | (with_reducible refine LeO.ite ?_ ?_)
   | (with_reducible refine LeO.bind ?_ (fun _=>?_))
   | exact spec_l06Heights.mono _ _ _
   | exact spec_l06Is.mono _ _ _
   | exact LeO.none _
   | refine LeO.ite ?_ ?_
   | refine LeO.bind ?_ (fun _=>?_)
theorem spec_IsAcyclicCube.calls (k:Nat) (a0_0:Int) (ag:Option Addr) (ah:Nat) (ae:List Int) (r1:Bool) (r2:Int) (w:World) (au:Kd.C (Kd.int .i64) w ag ae.length ae) (av:ae.length≤ah) (h:spec_IsAcyclicCube.f k a0_0 ae=some (r1,r2)):
  Calls Try.prog 49 #[.agg #[.int .i64 a0_0, .slice ag ae.length ah]] w fun e w'=>e= .returned (.tuple #[.bool r1, .int .i64 r2])∧Below w.heap.size w w':=by
 have hu64:=Try.underlying64
 have HR0_1:=Aside0.mk au
 have HC0_1:=Aside0.mk av
 clear au av
 have HB:=Aside0.mk (Below.refl w.heap.size w)
 have H:((spec_l06Is.f k a0_0 ae).bind fun aq=>(if aq=true then((spec_l06Heights.f k a0_0 ae).bind fun ai=>(some (ai.2,0))) else(some (false,1))))=some (r1,r2):=h
 clear h
 replace H:=Option.bind_eq_some_iff.mp H
 obtain⟨aq,A20,H⟩:=H
 replace H:(if aq=true then((spec_l06Heights.f k a0_0 ae).bind fun ai=>(some (ai.2,0))) else(some (false,1)))=some (r1,r2):=H
 have A2:=Aside0.mk A20
 clear A20
 by_cases c3:aq=true
 ·subst c3
  have H1:((spec_l06Heights.f k a0_0 ae).bind fun ai=>(some (ai.2,0)))=some (r1,r2):=by rw [if_pos rfl] at H;exact H
  clear H
  have H:=H1
  clear H1
  replace H:=Option.bind_eq_some_iff.mp H
  obtain⟨⟨az,aw⟩,A40,H⟩:=H
  replace H:(some (aw,0))=some (r1,r2):=H
  have A4:=Aside0.mk A40
  clear A40
  simp only [Option.some.injEq,Prod.mk.injEq] at H
  obtain⟨rfl,rfl⟩:=H
  go_enter Try.func49,Try.ntmps49
  go_wp2_with (first | ((with_reducible refine gate_dst (N:=1) rfl ?_);refine box_event ?hg (N:=1) ?hd (cs:= #[.int .i64 a0_0, .slice ag ae.length ah]) (t:=64) ?hr ?_;(case hd=>rfl);(case hg=>rfl);(case hr=>first | (go_simp;done) | (go_simp;rfl));intro af hg w5 hbox hb;have aa:=Aside0.mk (hbox);have ax:=Aside0.mk ((by rw [hg];exact bz_:w.heap.size≤af));have ay:=Aside0.mk ((by rw [hg];exact bz_:w.heap.size≤af));replace HB:=Aside0.mk (bs_ hb);clear hb hbox hg;have aH:w5.cell? ⟨af,0,none⟩=some (.int .i64 a0_0):=(blk_cell aa.out 0).trans rfl;have aI:w5.cell? ⟨af,1,none⟩=some (.slice ag ae.length ah):=(blk_cell aa.out 1).trans rfl;have aJ:=blk_frozen aa.out 0;have aK:=blk_frozen aa.out 1) | ((with_reducible refine gate_callee (f:=128) rfl ?_);refine gL_ 7 Try.func128 #[.agg #[.int .i64 a0_0, .slice ag ae.length ah]] ?_;(with_reducible refine(spec_l06Is.calls k a0_0 _ _ ae true _ ?aj ?ak A2.out).mono ?_);(case aj=>exact cb_ HR0_1.out HB.out);(case ak=>exact HC0_1.out);rintro e w7 ⟨rfl,hb⟩;refine⟨_,rfl,?_⟩;replace aa:=Aside0.mk (bb_ aa.out hb);replace HB:=Aside0.mk (bs_ hb);(try clear hb);(try clear hb2);(try clear hk);(try clear hi);have aM:w7.cell? ⟨af,0,none⟩=some (.int .i64 a0_0):=(blk_cell aa.out 0).trans rfl;have aN:w7.cell? ⟨af,1,none⟩=some (.slice ag ae.length ah):=(blk_cell aa.out 1).trans rfl;have aT:=blk_frozen aa.out 0;have aU:=blk_frozen aa.out 1) | ((with_reducible refine gate_callee (f:=132) rfl ?_);refine gL_ 11 Try.func132 #[.agg #[.int .i64 a0_0, .slice ag ae.length ah]] ?_;(with_reducible refine(spec_l06Heights.calls k a0_0 _ _ ae az aw _ ?aj ?ak A4.out).mono ?_);(case aj=>exact cb_ HR0_1.out HB.out);(case ak=>exact HC0_1.out);rintro e w9 ⟨aW,rfl,ho0,hb⟩;refine⟨_,rfl,?_⟩;have aV:=Aside0.mk (Kd.R_lower ho0 bz_);replace aa:=Aside0.mk (bb_ aa.out hb);replace HB:=Aside0.mk (bs_ hb);(try clear hb);(try clear hb2);(try clear hk);(try clear hi);(try clear ho0)))
  go_ret2
  exact⟨by first | rfl | (simp [errW_none,errW_some] <;> rfl) | (simp [*,errW_none,errW_some] <;> rfl),hb_⟩
 ·replace c3:=Bool.eq_false_iff.mpr c3
  subst c3
  have H1:(some (false,1))=some (r1,r2):=by rw [if_neg (show ¬ (false=true) by decide)] at H;exact H
  clear H
  have H:=H1
  clear H1
  simp only [Option.some.injEq,Prod.mk.injEq] at H
  obtain⟨rfl,rfl⟩:=H
  go_enter Try.func49,Try.ntmps49
  go_wp2_with (first | ((with_reducible refine gate_dst (N:=1) rfl ?_);refine box_event ?hg (N:=1) ?hd (cs:= #[.int .i64 a0_0, .slice ag ae.length ah]) (t:=64) ?hr ?_;(case hd=>rfl);(case hg=>rfl);(case hr=>first | (go_simp;done) | (go_simp;rfl));intro af hg w10 hbox hb;have aa:=Aside0.mk (hbox);have ax:=Aside0.mk ((by rw [hg];exact bz_:w.heap.size≤af));have ay:=Aside0.mk ((by rw [hg];exact bz_:w.heap.size≤af));replace HB:=Aside0.mk (bs_ hb);clear hb hbox hg;have aA:w10.cell? ⟨af,0,none⟩=some (.int .i64 a0_0):=(blk_cell aa.out 0).trans rfl;have aC:w10.cell? ⟨af,1,none⟩=some (.slice ag ae.length ah):=(blk_cell aa.out 1).trans rfl;have aD:=blk_frozen aa.out 0;have aG:=blk_frozen aa.out 1) | ((with_reducible refine gate_callee (f:=128) rfl ?_);refine gL_ 7 Try.func128 #[.agg #[.int .i64 a0_0, .slice ag ae.length ah]] ?_;(with_reducible refine(spec_l06Is.calls k a0_0 _ _ ae false _ ?aj ?ak A2.out).mono ?_);(case aj=>exact cb_ HR0_1.out HB.out);(case ak=>exact HC0_1.out);rintro e w12 ⟨rfl,hb⟩;refine⟨_,rfl,?_⟩;replace aa:=Aside0.mk (bb_ aa.out hb);replace HB:=Aside0.mk (bs_ hb);(try clear hb);(try clear hb2);(try clear hk);(try clear hi)))
  go_ret2
  exact⟨by first | rfl | (simp [errW_none,errW_some] <;> rfl) | (simp [*,errW_none,errW_some] <;> rfl),hb_⟩
def spec_l06With.f (k:Nat) (l0:List Int):Option (Int × List Int × Int):=(spec_l01From.f k l0).bind fun aa=>((spec_l06Draw.f k aa.1 aa.2.1 aa.2.2).bind fun ae=>((spec_l01Next.f aa.1 ae.2.2.1 ae.2.2.2 24).bind fun af=>((spec_l01Next.f aa.1 af.2.1 af.2.2 (wrap64 ((ae.2.1.length:Int)+(wrap64 (Int.tdiv af.1 23))))).bind fun ag=>(some (ae.1,ae.2.1,ag.1)))))
theorem spec_l06With.mono: ∀a0 k,LeO (spec_l06With.f k a0) (spec_l06With.f (k+1) a0):=by
 intro a0 k
 unfold spec_l06With.f
 repeat' first
   | (with_reducible exact spec_l01From.mono _ _)
   | (with_reducible exact spec_l06Draw.mono _ _ _ _)
   | (with_reducible exact LeO.refl _)
   | (with_reducible exact LeO.none _)
   | (with_reducible refine LeO.ite ?_ ?_)
   | (with_reducible refine LeO.bind ?_ (fun _=>?_))
   | exact spec_l01From.mono _ _
   | exact spec_l06Draw.mono _ _ _ _
   | exact LeO.none _
   | refine LeO.ite ?_ ?_
   | refine LeO.bind ?_ (fun _=>?_)
def spec_l06With.T3:Bool × List (List Nat × List Nat):=(true, [([], []),([], []),([], []),([2], [2]),([3], [3]),([], []),([5], [5]),([6], [6]),([4,7], [4,7]),([1,8,6], [1,8]),([0,9,0], [0]),([9,10,0,1,2,3,4,5,6,7,8,9,10], [9])])
def spec_l06With.B3:List Nat:= [0,0,0,4,12,0,32,96,252,510,1023,2047]
theorem spec_l06With.tab3:rtab .any (opsOf Try.f133 3)=spec_l06With.T3:=by kernel_rfl
theorem spec_l06With.bits3:waitsOk spec_l06With.T3.2 spec_l06With.B3=true:=by kernel_rfl
theorem spec_l06With.calls (k:Nat) (A0:Option Addr) (c0:Nat) (l0:List Int) (r1:Int) (r2:List Int) (r3:Int) (w:World) (hr0:Kd.C (Kd.int .u8) w A0 l0.length l0) (hc0:l0.length≤c0) (h:spec_l06With.f k l0=some (r1,r2,r3)):
  Calls Try.prog 133 #[.slice A0 l0.length c0] w fun e w'=> ∃v1_:Value,e= .returned (.tuple #[.agg #[.int .i64 r1,v1_], .int .i64 r3])∧Kd.R (Kd.int .i64) 2 w' w.heap.size (fun _=>True) v1_ r2∧Below w.heap.size w w':=by
 have hu64:=Try.underlying64
 have HR0:=Aside0.mk hr0
 have HC0:=Aside0.mk hc0
 clear hr0 hc0
 have HB:=Aside0.mk (Below.refl w.heap.size w)
 have H:((spec_l01From.f k l0).bind fun aN=>((spec_l06Draw.f k aN.1 aN.2.1 aN.2.2).bind fun aw=>((spec_l01Next.f aN.1 aw.2.2.1 aw.2.2.2 24).bind fun ax=>((spec_l01Next.f aN.1 ax.2.1 ax.2.2 (wrap64 ((aw.2.1.length:Int)+(wrap64 (Int.tdiv ax.1 23))))).bind fun aD=>(some (aw.1,aw.2.1,aD.1))))))=some (r1,r2,r3):=h
 clear h
 replace H:=Option.bind_eq_some_iff.mp H
 obtain⟨⟨au,aX,aY⟩,A20,H⟩:=H
 replace H:((spec_l06Draw.f k au aX aY).bind fun aw=>((spec_l01Next.f au aw.2.2.1 aw.2.2.2 24).bind fun ax=>((spec_l01Next.f au ax.2.1 ax.2.2 (wrap64 ((aw.2.1.length:Int)+(wrap64 (Int.tdiv ax.1 23))))).bind fun aD=>(some (aw.1,aw.2.1,aD.1)))))=some (r1,r2,r3):=H
 have A2:=Aside0.mk A20
 clear A20
 replace H:=Option.bind_eq_some_iff.mp H
 obtain⟨⟨aj,af,aI,aJ⟩,A30,H⟩:=H
 replace H:((spec_l01Next.f au aI aJ 24).bind fun ax=>((spec_l01Next.f au ax.2.1 ax.2.2 (wrap64 ((af.length:Int)+(wrap64 (Int.tdiv ax.1 23))))).bind fun aD=>(some (aj,af,aD.1))))=some (r1,r2,r3):=H
 have A3:=Aside0.mk A30
 clear A30
 replace H:=Option.bind_eq_some_iff.mp H
 obtain⟨⟨aU,aV,aW⟩,A40,H⟩:=H
 replace H:((spec_l01Next.f au aV aW (wrap64 ((af.length:Int)+(wrap64 (Int.tdiv aU 23))))).bind fun aD=>(some (aj,af,aD.1)))=some (r1,r2,r3):=H
 have A4:=Aside0.mk A40
 clear A40
 replace H:=Option.bind_eq_some_iff.mp H
 obtain⟨⟨aZ,a9,ba⟩,A50,H⟩:=H
 replace H:(some (aj,af,aZ))=some (r1,r2,r3):=H
 have A5:=Aside0.mk A50
 clear A50
 simp only [Option.some.injEq,Prod.mk.injEq] at H
 obtain⟨rfl,rfl,rfl⟩:=H
 go_enter Try.func133,Try.ntmps133
 try go_wp2_with (first | ((with_reducible refine gate_dst (N:=2) rfl ?_);refine box_event ?hg (N:=2) ?hd (cs:= #[.int .i64 0, .slice none 0 0]) (t:=64) ?hr ?_;(case hd=>rfl);(case hg=>rfl);(case hr=>first | (go_simp;done) | (go_simp;rfl));intro ai hg w6 hbox hb;have ae:=Aside0.mk (hbox);have bn:=Aside0.mk ((by rw [hg];exact bz_:w.heap.size≤ai));have ay:=Aside0.mk ((by rw [hg];exact bz_:w.heap.size≤ai));replace HB:=Aside0.mk (bs_ hb);clear hb hbox hg) | ((with_reducible refine gate_callee (f:=101) rfl ?_);refine gL_ 7 Try.func101 #[.slice A0 l0.length c0] ?_;(with_reducible refine(spec_l01From.calls k _ _ l0 au aX aY w _ ?aK ?aM ?bb A2.out).mono ?_);(case aK=>repeat (first | (with_reducible first | exact HB.out | apply below_alloc | apply pw_below_drewN | apply below_drew1 | refine below_set ?_ ay.out) | exact HB.out));(case aM=>exact HR0.out);(case bb=>exact HC0.out);rintro e w7 ⟨g1013,rfl,hi,hb,hb2⟩;refine⟨_,rfl,?_⟩;replace HB:=Aside0.mk (hb);have HI1013:=Aside0.mk (hi);have ah:=Aside0.mk (IsS168.ne_blk hi (bb_ ae.out hb2) (by decide));have aG:=Aside0.mk (Ne.symm (IsS168.ne_blk hi (bb_ ae.out hb2) (by decide)));replace ae:=Aside0.mk (bb_ ae.out hb2);(try clear hb);(try clear hb2);(try clear hk);(try clear hi)) | ((with_reducible refine gate_callee (f:=126) rfl ?_);refine gL_ 9 Try.func126 #[.pointer (some ⟨g1013,0,none⟩)] ?_;(with_reducible refine(spec_l06Draw.calls k g1013 au aX aY aj af aI aJ w _ ?aK ?aM A3.out).mono ?_);(case aK=>repeat (first | (with_reducible first | exact HI1013.out | apply IsS168.alloc | apply IsS168.drewN | apply IsS168.drew | apply IsS168.set_1 | apply IsS168.set_2 | refine IsS168.far ?_ ah.out _) | exact HI1013.out));(case aM=>repeat (first | (with_reducible first | exact HB.out | apply below_alloc | apply pw_below_drewN | apply below_drew1 | refine below_set ?_ (IsS168.ge HI1013.out) | refine below_set ?_ ay.out) | exact HB.out));rintro e w8 ⟨bu,rfl,ho0,hi,hb,hk⟩;refine⟨_,rfl,?_⟩;replace ae:=Aside0.mk (KeepBut.blk hk (g':=ai) (o:= .cells #[.int .i64 0, .slice none 0 0] 64 (0,0)) bk_ aG.out (by simp));have ak:=Aside0.mk (Kd.R_lower ho0 (below_size (by repeat (first | (with_reducible first | exact HB.out | apply below_alloc | apply pw_below_drewN | apply below_drew1 | refine below_set ?_ (IsS168.ge HI1013.out) | refine below_set ?_ ay.out) | exact HB.out))));replace HB:=Aside0.mk (hb);replace HI1013:=Aside0.mk (hi);(try clear hb);(try clear hb2);(try clear hk);(try clear hi);(try clear ho0)) | ((with_reducible refine gate_dst (N:=5) rfl ?_);refine box_event ?hg (N:=5) ?hd (cs:= #[.int .i64 0, .slice none 0 0]) (t:=64) ?hr ?_;(case hd=>rfl);(case hg=>rfl);(case hr=>first | (go_simp;done) | (go_simp;rfl));intro aa hg w9 hbox hb;replace ak:=Aside0.mk (rb_ ak.out hb);have ag:=Aside0.mk (hbox);have bq:=Aside0.mk ((by rw [hg];exact(below_size (by repeat (first | (with_reducible first | exact HB.out | apply below_alloc | apply pw_below_drewN | apply below_drew1 | refine below_set ?_ (IsS168.ge HI1013.out) | refine below_set ?_ ay.out) | exact HB.out))):w.heap.size≤aa));have aT:=Aside0.mk ((by rw [hg];exact(below_size (by repeat (first | (with_reducible first | exact HB.out | apply below_alloc | apply pw_below_drewN | apply below_drew1 | refine below_set ?_ (IsS168.ge HI1013.out) | refine below_set ?_ ay.out) | exact HB.out))):w.heap.size≤aa));have az:=Aside0.mk ((by rw [hg];exact lt_ ae.out:ai≠aa));have aq:=Aside0.mk ((by rw [hg];exact gt_ ae.out:aa≠ai));have av:=Aside0.mk ((by rw [hg];exact Nat.ne_of_lt (IsS168.lt (show IsS168 w _ g1013 au aI aJ from by repeat (first | (with_reducible first | exact HI1013.out | apply IsS168.alloc | apply IsS168.drewN | apply IsS168.drew | apply IsS168.set_1 | apply IsS168.set_2 | refine IsS168.far ?_ ah.out _) | exact HI1013.out))):g1013≠aa));have aH:=Aside0.mk ((by rw [hg];exact Nat.ne_of_gt (IsS168.lt (show IsS168 w _ g1013 au aI aJ from by repeat (first | (with_reducible first | exact HI1013.out | apply IsS168.alloc | apply IsS168.drewN | apply IsS168.drew | apply IsS168.set_1 | apply IsS168.set_2 | refine IsS168.far ?_ ah.out _) | exact HI1013.out))):aa≠g1013));replace ae:=Aside0.mk (bb_ ae.out hb);replace HB:=Aside0.mk (below_step (by repeat (first | (with_reducible first | exact HB.out | apply below_alloc | apply pw_below_drewN | apply below_drew1 | refine below_set ?_ (IsS168.ge HI1013.out) | refine below_set ?_ ay.out) | exact HB.out)) hb);replace HI1013:=Aside0.mk (IsS168.below (by repeat (first | (with_reducible first | exact HI1013.out | apply IsS168.alloc | apply IsS168.drewN | apply IsS168.drew | apply IsS168.set_1 | apply IsS168.set_2 | refine IsS168.far ?_ ah.out _) | exact HI1013.out)) hb);clear hb hbox hg;have bv:=aq.out;have bw:=az.out;have bz:=aH.out;have bA:=av.out;have bg:w9.cell? ⟨aa,0,none⟩=some (.int .i64 0):=(blk_cell ag.out 0).trans rfl;have bh:w9.cell? ⟨aa,1,none⟩=some (.slice none 0 0):=(blk_cell ag.out 1).trans rfl;have bi:=blk_frozen ag.out 0;have bk:=blk_frozen ag.out 1;obtain⟨aA,aC,bf⟩:=Kd.R_slice ak.out;subst bf))
 have n0_:Aside0 (Kd.R (Kd.int .i64) 2 ((w9.setCell ⟨aa,0,none⟩ (.int .i64 aj)).setCell ⟨aa,1,none⟩ (.slice aA af.length aC)) w.heap.size (fun _=>True) (.slice aA af.length aC) af):=⟨by(with_reducible repeat (first | apply Kd.R_alloc | apply Kd.R_drewN | apply Kd.R_drew));exact Kd.R_mono (Kd.R_far (p:=⟨aa,1,none⟩) (Kd.R_far (p:=⟨aa,0,none⟩) (Kd.R_types ak.out ag.out (by decide)) (fun _ hk=>hk.2) (.int .i64 aj)) (fun _ hk=>hk.2) (.slice aA af.length aC)) (fun _ hk=>trivial)⟩
 have n1_:Aside0 (((w9.setCell ⟨aa,0,none⟩ (.int .i64 aj)).setCell ⟨aa,1,none⟩ (.slice aA af.length aC)).heap[ai]?=some (.cells #[.int .i64 0, .slice none 0 0] 64 (0,0))):=⟨by(with_reducible repeat (first | refine blk_drewN ?_ _ | refine blk_drew ?_ | refine blk_alloc ?_ _));refine blk_far ?_ az.out _;(with_reducible repeat (first | refine blk_drewN ?_ _ | refine blk_drew ?_ | refine blk_alloc ?_ _));refine blk_far ?_ az.out _;(with_reducible repeat (first | refine blk_drewN ?_ _ | refine blk_drew ?_ | refine blk_alloc ?_ _));exact ae.out⟩
 have n2_:Aside0 (((w9.setCell ⟨aa,0,none⟩ (.int .i64 aj)).setCell ⟨aa,1,none⟩ (.slice aA af.length aC)).heap[aa]?=some (.cells #[.int .i64 aj, .slice aA af.length aC] 64 (0,0))):=⟨by(with_reducible repeat (first | refine blk_drewN ?_ _ | refine blk_drew ?_ | refine blk_alloc ?_ _));refine blk_put (cs:= #[.int .i64 aj, .slice none 0 0]) ?_ 1 _ rfl;(with_reducible repeat (first | refine blk_drewN ?_ _ | refine blk_drew ?_ | refine blk_alloc ?_ _));refine blk_put (cs:= #[.int .i64 0, .slice none 0 0]) ?_ 0 _ rfl;(with_reducible repeat (first | refine blk_drewN ?_ _ | refine blk_drew ?_ | refine blk_alloc ?_ _));exact ag.out⟩
 have n3_:Aside0 (IsS168 w ((w9.setCell ⟨aa,0,none⟩ (.int .i64 aj)).setCell ⟨aa,1,none⟩ (.slice aA af.length aC)) g1013 au aI aJ):=⟨by repeat (first | (with_reducible first | exact HI1013.out | apply IsS168.alloc | apply IsS168.drewN | apply IsS168.drew | apply IsS168.set_1 | apply IsS168.set_2 | refine IsS168.far ?_ ah.out _ | refine IsS168.far ?_ av.out _) | exact HI1013.out)⟩
 have n4_:Aside0 (Below w.heap.size w ((w9.setCell ⟨aa,0,none⟩ (.int .i64 aj)).setCell ⟨aa,1,none⟩ (.slice aA af.length aC))):=⟨by repeat (first | (with_reducible first | exact HB.out | apply below_alloc | apply pw_below_drewN | apply below_drew1 | refine below_set ?_ (IsS168.ge HI1013.out) | refine below_set ?_ ay.out | refine below_set ?_ aT.out) | exact HB.out)⟩
 (try clear ak)
 (try clear ae)
 (try clear ag)
 (try clear HI1013)
 (try clear HB)
 generalize ((w9.setCell ⟨aa,0,none⟩ (.int .i64 aj)).setCell ⟨aa,1,none⟩ (.slice aA af.length aC))=w14 at n0_ n1_ n2_ n3_ n4_ ⊢
 have ak:=n0_
 have ae:=n1_
 have ag:=n2_
 have HI1013:=n3_
 have HB:=n4_
 clear n0_ n1_ n2_ n3_ n4_
 replace ak:=Aside0.mk (Kd.R_drew ak.out)
 replace ae:=Aside0.mk (blk_drew ae.out)
 replace ag:=Aside0.mk (blk_drew ag.out)
 replace HI1013:=Aside0.mk (IsS168.drew HI1013.out)
 replace HB:=Aside0.mk (below_drew1 HB.out)
 refine st_ (n:=12) (S:=fun w'=>w'.cell? ⟨aa,0,none⟩=some (.int .i64 aj)∧w'.cell? ⟨aa,1,none⟩=some (.slice aA af.length aC)) (ds:= []) ⟨(blk_cell ag.out 0).trans rfl,(blk_cell ag.out 1).trans rfl⟩ (fun hHeld=>?_);refine with_tabW spec_l06With.tab3 spec_l06With.bits3 (fun HT_ HW_=>?_)
 generalize w14.drew=w15 at ak ae ag HI1013 HB hHeld ⊢
 refine pu_ 1 11 ?_;refine pu_ 2 12 ?_;refine pu_ 5 15 ?_;refine tk_ 0 10 ?_;refine tk_ 3 13 ?_;refine pu_ 4 14 ?_
 refine on_ 6 (some 16) (fun K hK=>?_)
 refine goes_ Try.func100 (by kernel_rfl) rfl #[.pointer (some ⟨g1013,0,none⟩), .int .i64 24] (by rfl) rfl rfl (by(try simp only [List.map_toArray,List.map_cons,List.map_nil]);first | done | rfl | (simp only [List.length_drop,List.length_take];rfl)) ?_
 with_reducible refine(spec_l01Next.calls g1013 au aI aJ 24 aU aV aW w _ ?aK ?aM A4.out).mono ?_
 (case aK=>repeat (first | (with_reducible first | exact HI1013.out | apply IsS168.alloc | apply IsS168.drewN | apply IsS168.drew | apply IsS168.set_1 | apply IsS168.set_2 | refine IsS168.far ?_ ah.out _ | refine IsS168.far ?_ av.out _) | exact HI1013.out))
 (case aM=>repeat (first | (with_reducible first | exact HB.out | apply below_alloc | apply pw_below_drewN | apply below_drew1 | refine below_set ?_ (IsS168.ge HI1013.out) | refine below_set ?_ ay.out | refine below_set ?_ aT.out) | exact HB.out))
 rintro e w16 ⟨rfl,hi,hb,hk⟩
 refine⟨_,rfl,?_⟩
 replace ae:=Aside0.mk (KeepBut.blk hk (g':=ai) (o:= .cells #[.int .i64 0, .slice none 0 0] 64 (0,0)) bk_ aG.out (by simp))
 replace ak:=Aside0.mk (Kd.R_mono (Kd.R_keep (IsS168.apart (show IsS168 w _ g1013 au aI aJ from by repeat (first | (with_reducible first | exact HI1013.out | apply IsS168.alloc | apply IsS168.drewN | apply IsS168.drew | apply IsS168.set_1 | apply IsS168.set_2 | refine IsS168.far ?_ ah.out _ | refine IsS168.far ?_ av.out _) | exact HI1013.out)) (ro_ ak.out) (by decide)) hk (fun _ h=>h.2)) (fun _ h=>h.1))
 replace ag:=Aside0.mk (KeepBut.blk hk (g':=aa) (o:= .cells #[.int .i64 aj, .slice aA af.length aC] 64 (0,0)) bk_ aH.out (by simp))
 replace HB:=Aside0.mk (hb)
 replace HI1013:=Aside0.mk (hi)
 (try clear hb)
 (try clear hb2)
 (try clear hk)
 (try clear hi)
 refine hK.out _ _ ⟨(blk_cell ag.out 0).trans rfl,(blk_cell ag.out 1).trans rfl⟩ (fun hHeld=>?_)
 clear hK K
 refine norm_ (a':=?_) ?_ ?_
 rotate_left
 ·show Act.put _ (some 16) _=_
  simp only [Act.put,List.setIfInBounds_toArray,List.set_cons_zero,List.set_cons_succ,i64_w,i32_w]
  rfl
 refine pu_ 7 17 ?_;refine pu_ 8 18 ?_
 refine on_ 9 (some 19) (fun K hK=>?_)
 refine goes_ Try.func100 (by kernel_rfl) rfl #[.pointer (some ⟨g1013,0,none⟩), .int .i64 (wrap64 ((af.length:Int)+(wrap64 (Int.tdiv aU 23))))] (by rfl) rfl rfl (by(try simp only [List.map_toArray,List.map_cons,List.map_nil]);first | done | rfl | (simp only [List.length_drop,List.length_take];rfl)) ?_
 with_reducible refine(spec_l01Next.calls g1013 au aV aW (wrap64 ((af.length:Int)+(wrap64 (Int.tdiv aU 23)))) aZ a9 ba w _ ?aK ?aM A5.out).mono ?_
 (case aK=>repeat (first | (with_reducible first | exact HI1013.out | apply IsS168.alloc | apply IsS168.drewN | apply IsS168.drew | apply IsS168.set_1 | apply IsS168.set_2 | refine IsS168.far ?_ ah.out _ | refine IsS168.far ?_ av.out _) | exact HI1013.out))
 (case aM=>repeat (first | (with_reducible first | exact HB.out | apply below_alloc | apply pw_below_drewN | apply below_drew1 | refine below_set ?_ (IsS168.ge HI1013.out) | refine below_set ?_ ay.out | refine below_set ?_ aT.out) | exact HB.out))
 rintro e w17 ⟨rfl,hi,hb,hk⟩
 refine⟨_,rfl,?_⟩
 replace ae:=Aside0.mk (KeepBut.blk hk (g':=ai) (o:= .cells #[.int .i64 0, .slice none 0 0] 64 (0,0)) bk_ aG.out (by simp))
 replace ak:=Aside0.mk (Kd.R_mono (Kd.R_keep (IsS168.apart (show IsS168 w _ g1013 au aV aW from by repeat (first | (with_reducible first | exact HI1013.out | apply IsS168.alloc | apply IsS168.drewN | apply IsS168.drew | apply IsS168.set_1 | apply IsS168.set_2 | refine IsS168.far ?_ ah.out _ | refine IsS168.far ?_ av.out _) | exact HI1013.out)) (ro_ ak.out) (by decide)) hk (fun _ h=>h.2)) (fun _ h=>h.1))
 replace ag:=Aside0.mk (KeepBut.blk hk (g':=aa) (o:= .cells #[.int .i64 aj, .slice aA af.length aC] 64 (0,0)) bk_ aH.out (by simp))
 replace HB:=Aside0.mk (hb)
 replace HI1013:=Aside0.mk (hi)
 (try clear hb)
 (try clear hb2)
 (try clear hk)
 (try clear hi)
 refine hK.out _ _ ⟨(blk_cell ag.out 0).trans rfl,(blk_cell ag.out 1).trans rfl⟩ (fun hHeld=>?_)
 clear hK K
 refine norm_ (a':=?_) ?_ ?_
 rotate_left
 ·show Act.put _ (some 19) _=_
  simp only [Act.put,List.setIfInBounds_toArray,List.set_cons_zero,List.set_cons_succ,i64_w,i32_w]
  rfl
 refine on_ 10 none (fun K hK=>?_)
 have hs18:w17.cell? ⟨ai,0,none⟩=some (.int .i64 0):=(blk_cell ae.out 0).trans rfl
 have hfs18:=blk_frozen ae.out 0
 have hns18_1:=aq.out
 have hms18_1:=az.out
 have hs19:w17.cell? ⟨ai,1,none⟩=some (.slice none 0 0):=(blk_cell ae.out 1).trans rfl
 have hfs19:=blk_frozen ae.out 1
 have hns19_1:=aq.out
 have hms19_1:=az.out
 refine skip_ (w1:=?_) (by rfl) rfl ?_ ?_
 rotate_left
 ·go_simp
  rfl
 refine hK.out _ _ ⟨((cell_far (p:=⟨ai,_,none⟩) aq.out _).trans (((cell_far (p:=⟨ai,_,none⟩) aq.out _).trans (hHeld.1)))),((cell_far (p:=⟨ai,_,none⟩) aq.out _).trans (((cell_far (p:=⟨ai,_,none⟩) aq.out _).trans (hHeld.2))))⟩ (fun hHeld=>?_)
 clear hK K
 refine pu_ 11 3 ?_
 refine done_ (done_of HT_.out (by kernel_rfl)) ?_
 try go_wp2
 refine bodyPost_ret (results_ct rfl _ _ ai 64 #[.int .i64 aj, .slice aA af.length aC] (0,0) _ rfl (by(with_reducible repeat (first | refine blk_drewN ?_ _ | refine blk_drew ?_ | refine blk_alloc ?_ _));refine blk_put (cs:= #[.int .i64 aj, .slice none 0 0]) ?_ 1 _ rfl;(with_reducible repeat (first | refine blk_drewN ?_ _ | refine blk_drew ?_ | refine blk_alloc ?_ _));refine blk_put (cs:= #[.int .i64 0, .slice none 0 0]) ?_ 0 _ rfl;(with_reducible repeat (first | refine blk_drewN ?_ _ | refine blk_drew ?_ | refine blk_alloc ?_ _));exact ae.out) Try.underlying64 rfl (by kernel_rfl)) rfl ?_
 exact⟨_,by first | rfl | (simp [errW_none,errW_some] <;> rfl) | (simp [*,errW_none,errW_some] <;> rfl),by(with_reducible repeat (first | apply Kd.R_alloc | apply Kd.R_drewN | apply Kd.R_drew));exact Kd.R_mono (Kd.R_far (p:=⟨ai,1,none⟩) (Kd.R_far (p:=⟨ai,0,none⟩) (Kd.R_types ak.out ae.out (by decide)) (fun _ hk=>hk.2) (.int .i64 aj)) (fun _ hk=>hk.2) (.slice aA af.length aC)) (fun _ hk=>trivial),by repeat (first | (with_reducible first | exact HB.out | apply below_alloc | apply pw_below_drewN | apply below_drew1 | refine below_set ?_ (IsS168.ge HI1013.out) | refine below_set ?_ ay.out | refine below_set ?_ aT.out) | exact HB.out)⟩
end Go.Proofs.Ytmpkckiifeikkaa.Pr
end
