/- Texts of one claim (the words of the kit's print that the claim uses, printed functions, and this session's own texts), joined in the order of their imports by this session's own program (merge.py). -/
import Derived.Test.YtmpkckiifeikkaaJnFnExactLemkeSolution0
set_option linter.unusedVariables false
set_option linter.unusedSimpArgs false
set_option maxHeartbeats 8000000
set_option maxRecDepth 100000
section
namespace Go.Proofs.Ytmpkckiifeikkaa.Pr
open Go.RowKit Go.Proofs.YtmpkckiifeikkaaW.PrintWords Go.Proofs.YtmpkckiifeikkaaW.PrintLast Go.Proofs.YtmpkckiifeikkaaW.PrintMore
attribute [local go_sem] max2_int min2_int max_two min_two max_three min_three max_four min_four
def laws_eqInt64SS.l0:Nat→List (List Int)→List (List Int)→Int→Option (Bool)
 | 0,_,_,_=>none
 | k+1,x0,x1,x5=>if x5 < (x0.length:Int) then(if 0≤x5 then(if x5 < (x1.length:Int) then((laws_eqInt64S.f k (rd_L1 x0 x5) (rd_L1 x1 x5)).bind fun aa=>(if aa=true then(laws_eqInt64SS.l0 k x0 x1 (wrap64 (x5+1))) else(some false))) else(none)) else(none)) else(some true)
def laws_eqInt64SS.f (k:Nat) (l0:List (List Int)) (l1:List (List Int)):Option (Bool):=if(l0.length:Int)=(l1.length:Int) then(laws_eqInt64SS.l0 k l0 l1 0) else(some false)
theorem laws_eqInt64SS.mono_l: ∀k,(∀y0 y1 y2,LeO (laws_eqInt64SS.l0 k y0 y1 y2) (laws_eqInt64SS.l0 (k+1) y0 y1 y2))
 | 0=>fun _ _ _ r h=>by simp [laws_eqInt64SS.l0] at h
 | k+1=>by
  have ih0:=laws_eqInt64SS.mono_l k
  ·intro y0 y1 y2
   unfold laws_eqInt64SS.l0
   repeat' first
   | (with_reducible exact ih0 _ _ _)
   | (with_reducible exact laws_eqInt64S.mono _ _ _)
   | (with_reducible exact LeO.refl _)
   | (with_reducible exact LeO.none _)
   | (with_reducible refine LeO.ite ?_ ?_)
   | (with_reducible refine LeO.bind ?_ (fun _=>?_))
   | exact ih0 _ _ _
   | exact laws_eqInt64S.mono _ _ _
   | exact LeO.none _
   | refine LeO.ite ?_ ?_
   | refine LeO.bind ?_ (fun _=>?_)
theorem laws_eqInt64SS.mono: ∀a0 a1 k,LeO (laws_eqInt64SS.f k a0 a1) (laws_eqInt64SS.f (k+1) a0 a1):=by
 intro a0 a1 k
 have ih0:=laws_eqInt64SS.mono_l k
 unfold laws_eqInt64SS.f
 repeat' first
   | (with_reducible exact ih0 _ _ _)
   | (with_reducible exact laws_eqInt64S.mono _ _ _)
   | (with_reducible exact LeO.refl _)
   | (with_reducible exact LeO.none _)
   | (with_reducible refine LeO.ite ?_ ?_)
   | (with_reducible refine LeO.bind ?_ (fun _=>?_))
   | exact ih0 _ _ _
   | exact laws_eqInt64S.mono _ _ _
   | exact LeO.none _
   | refine LeO.ite ?_ ?_
   | refine LeO.bind ?_ (fun _=>?_)
theorem laws_eqInt64SS.calls (k:Nat) (A0:Option Addr) (c0:Nat) (l0:List (List Int)) (A1:Option Addr) (c1:Nat) (l1:List (List Int)) (r:Bool) (w:World) (hr0:Kd.C (Kd.slice 2 (Kd.int .i64)) w A0 l0.length l0) (hc0:l0.length≤c0) (hr1:Kd.C (Kd.slice 2 (Kd.int .i64)) w A1 l1.length l1) (hc1:l1.length≤c1) (h:laws_eqInt64SS.f k l0 l1=some r):
  Calls Try.prog 92 #[.slice A0 l0.length c0, .slice A1 l1.length c1] w fun e w'=>e= .returned (.bool r)∧Drawn0 w w':=by
 have HR0:=Aside0.mk hr0
 have HC0:=Aside0.mk hc0
 clear hr0 hc0
 have HR1:=Aside0.mk hr1
 have HC1:=Aside0.mk hc1
 clear hr1 hc1
 have H:(if(l0.length:Int)=(l1.length:Int) then(laws_eqInt64SS.l0 k l0 l1 0) else(some false))=some r:=h
 clear h
 by_cases c3:(l0.length:Int)=(l1.length:Int)
 ·rw [if_pos c3] at H
  have c3b0:((l0.length:Int)==(l1.length:Int))=true:=beq_iff_eq.mpr c3
  have c3b1:((l0.length:Int) !=(l1.length:Int))=false:=bne_eq_false_iff_eq.mpr c3
  have c3b2:(l0.length==l1.length)=true:=by first | simpa using c3 | (simp at c3 ⊢;omega)
  clear c3
  have H':=Aside0.mk H
  clear H
  go_enter Try.func92,Try.ntmps92
  go_wp2
  repeat (go_quiet (fail);try go_wp2)
  go_loopg [5] k (fun kq v5 w'=> ∃(aa:Int),v5= .int .i64 aa∧Aside0 (laws_eqInt64SS.l0 kq l0 l1 aa=some r)∧Aside0 (kq≤k)∧Drawn0 w w')
  case atStart=>exact⟨(0),rs_,H',⟨Nat.le_refl _⟩,by repeat (first | exact Drawn0.refl _ | apply Drawn0.step)⟩
  case round=>
   clear H'
   try clear c1
   try clear p2
   try clear c3
   try clear c3b0
   try clear c3b1
   try clear c3b2
   obtain⟨aa,rfl,HA,HK1,⟨m1,rfl⟩⟩:=hrel
   cases gk with
   | zero=>exact absurd HA.out (by simp [laws_eqInt64SS.l0])
   | succ k1=>
    have H:=HA.out
    clear HA
    simp only [laws_eqInt64SS.l0] at H
    by_cases c4:aa < (l0.length:Int)
    ·rw [if_pos c4] at H
     have c4b0:decide (aa < (l0.length:Int))=true:=decide_eq_true c4
     clear c4
     by_cases c5:0≤aa
     ·rw [if_pos c5] at H
      have c5b0:decide (0≤aa)=true:=decide_eq_true c5
      clear c5
      by_cases c6:aa < (l1.length:Int)
      ·rw [if_pos c6] at H
       have c6b0:decide (aa < (l1.length:Int))=true:=decide_eq_true c6
       clear c6
       replace H:=Option.bind_eq_some_iff.mp H
       obtain⟨ai,A70,H⟩:=H
       replace H:(if ai=true then(laws_eqInt64SS.l0 k1 l0 l1 (wrap64 (aa+1))) else(some false))=some r:=H
       have A7:=Aside0.mk A70
       clear A70
       by_cases c8:ai=true
       ·subst c8
        have H1:(laws_eqInt64SS.l0 k1 l0 l1 (wrap64 (aa+1)))=some r:=by rw [if_pos rfl] at H;exact H
        clear H
        have H:=H1
        clear H1
        have H':=Aside0.mk H
        clear H
        have p136:0≤(aa:Int):=od_
        have q136:aa < (l0.length:Int):=od_
        obtain⟨av,aj,ak,e136,hx136_0,hl136_0,hi136_0⟩:=at_L1 HR0.out aa p136 q136
        cases e136
        have HR136_0:=Aside0.mk hi136_0
        have HC136_0:=Aside0.mk hl136_0
        clear hi136_0 hl136_0
        replace p136:=eq_true p136
        replace q136:=eq_true q136
        have p137:0≤(aa:Int):=od_
        have q137:aa < (l1.length:Int):=od_
        obtain⟨aw,aq,au,e137,hx137_0,hl137_0,hi137_0⟩:=at_L1 HR1.out aa p137 q137
        cases e137
        have HR137_0:=Aside0.mk hi137_0
        have HC137_0:=Aside0.mk hl137_0
        clear hi137_0 hl137_0
        replace p137:=eq_true p137
        replace q137:=eq_true q137
        go_wp2_with (first | (go_at_call 16;(with_reducible refine(laws_eqInt64S.calls k1 _ _ (rd_L1 l0 aa) _ _ (rd_L1 l1 aa) true _ ?ae ?af ?ag ?ah A7.out).mono ?_);(case ae=>repeat (first | exact HR136_0.out | (with_reducible refine Kd.C_alloc ?_ _) | (with_reducible refine Kd.C_drewN ?_ _) | (with_reducible refine Kd.C_drew ?_)));(case af=>exact HC136_0.out);(case ag=>repeat (first | exact HR137_0.out | (with_reducible refine Kd.C_alloc ?_ _) | (with_reducible refine Kd.C_drewN ?_ _) | (with_reducible refine Kd.C_drew ?_)));(case ah=>exact HC137_0.out);rintro e w' ⟨rfl,⟨nd,rfl⟩⟩;(try first | exact⟨rfl,_,World.drewN_drewN _ _ _⟩ | exact⟨rfl,_,Eq.trans (World.drewN_drewN _ _ _) (congrArg (World.drewN _) (Nat.add_assoc _ _ _))⟩)))
        repeat (go_quiet (first | (go_at_call 16;(with_reducible refine(laws_eqInt64S.calls k1 _ _ (rd_L1 l0 aa) _ _ (rd_L1 l1 aa) true _ ?ae ?af ?ag ?ah A7.out).mono ?_);(case ae=>repeat (first | exact HR136_0.out | (with_reducible refine Kd.C_alloc ?_ _) | (with_reducible refine Kd.C_drewN ?_ _) | (with_reducible refine Kd.C_drew ?_)));(case af=>exact HC136_0.out);(case ag=>repeat (first | exact HR137_0.out | (with_reducible refine Kd.C_alloc ?_ _) | (with_reducible refine Kd.C_drewN ?_ _) | (with_reducible refine Kd.C_drew ?_)));(case ah=>exact HC137_0.out);rintro e w' ⟨rfl,⟨nd,rfl⟩⟩;(try first | exact⟨rfl,_,World.drewN_drewN _ _ _⟩ | exact⟨rfl,_,Eq.trans (World.drewN_drewN _ _ _) (congrArg (World.drewN _) (Nat.add_assoc _ _ _))⟩)));try go_wp2_with (first | (go_at_call 16;(with_reducible refine(laws_eqInt64S.calls k1 _ _ (rd_L1 l0 aa) _ _ (rd_L1 l1 aa) true _ ?ae ?af ?ag ?ah A7.out).mono ?_);(case ae=>repeat (first | exact HR136_0.out | (with_reducible refine Kd.C_alloc ?_ _) | (with_reducible refine Kd.C_drewN ?_ _) | (with_reducible refine Kd.C_drew ?_)));(case af=>exact HC136_0.out);(case ag=>repeat (first | exact HR137_0.out | (with_reducible refine Kd.C_alloc ?_ _) | (with_reducible refine Kd.C_drewN ?_ _) | (with_reducible refine Kd.C_drew ?_)));(case ah=>exact HC137_0.out);rintro e w' ⟨rfl,⟨nd,rfl⟩⟩;(try first | exact⟨rfl,_,World.drewN_drewN _ _ _⟩ | exact⟨rfl,_,Eq.trans (World.drewN_drewN _ _ _) (congrArg (World.drewN _) (Nat.add_assoc _ _ _))⟩))))
        go_roundg k1
        case measure=>have:=HK1.out;omega
        case rel=>exact⟨(wrap64 (aa+1)),rs_,H',⟨by have:=HK1.out;omega⟩,by repeat (first | exact Drawn0.refl _ | apply Drawn0.step)⟩
       ·replace c8:=Bool.eq_false_iff.mpr c8
        subst c8
        have H1:(some false)=some r:=by rw [if_neg (show ¬ (false=true) by decide)] at H;exact H
        clear H
        have H:=H1
        clear H1
        obtain rfl:=Option.some.inj H
        have p136:0≤(aa:Int):=od_
        have q136:aa < (l0.length:Int):=od_
        obtain⟨av,aj,ak,e136,hx136_0,hl136_0,hi136_0⟩:=at_L1 HR0.out aa p136 q136
        cases e136
        have HR136_0:=Aside0.mk hi136_0
        have HC136_0:=Aside0.mk hl136_0
        clear hi136_0 hl136_0
        replace p136:=eq_true p136
        replace q136:=eq_true q136
        have p137:0≤(aa:Int):=od_
        have q137:aa < (l1.length:Int):=od_
        obtain⟨aw,aq,au,e137,hx137_0,hl137_0,hi137_0⟩:=at_L1 HR1.out aa p137 q137
        cases e137
        have HR137_0:=Aside0.mk hi137_0
        have HC137_0:=Aside0.mk hl137_0
        clear hi137_0 hl137_0
        replace p137:=eq_true p137
        replace q137:=eq_true q137
        go_wp2_with (first | (go_at_call 16;(with_reducible refine(laws_eqInt64S.calls k1 _ _ (rd_L1 l0 aa) _ _ (rd_L1 l1 aa) false _ ?ae ?af ?ag ?ah A7.out).mono ?_);(case ae=>repeat (first | exact HR136_0.out | (with_reducible refine Kd.C_alloc ?_ _) | (with_reducible refine Kd.C_drewN ?_ _) | (with_reducible refine Kd.C_drew ?_)));(case af=>exact HC136_0.out);(case ag=>repeat (first | exact HR137_0.out | (with_reducible refine Kd.C_alloc ?_ _) | (with_reducible refine Kd.C_drewN ?_ _) | (with_reducible refine Kd.C_drew ?_)));(case ah=>exact HC137_0.out);rintro e w' ⟨rfl,⟨nd,rfl⟩⟩;(try first | exact⟨rfl,_,World.drewN_drewN _ _ _⟩ | exact⟨rfl,_,Eq.trans (World.drewN_drewN _ _ _) (congrArg (World.drewN _) (Nat.add_assoc _ _ _))⟩)))
        repeat (go_quiet (first | (go_at_call 16;(with_reducible refine(laws_eqInt64S.calls k1 _ _ (rd_L1 l0 aa) _ _ (rd_L1 l1 aa) false _ ?ae ?af ?ag ?ah A7.out).mono ?_);(case ae=>repeat (first | exact HR136_0.out | (with_reducible refine Kd.C_alloc ?_ _) | (with_reducible refine Kd.C_drewN ?_ _) | (with_reducible refine Kd.C_drew ?_)));(case af=>exact HC136_0.out);(case ag=>repeat (first | exact HR137_0.out | (with_reducible refine Kd.C_alloc ?_ _) | (with_reducible refine Kd.C_drewN ?_ _) | (with_reducible refine Kd.C_drew ?_)));(case ah=>exact HC137_0.out);rintro e w' ⟨rfl,⟨nd,rfl⟩⟩;(try first | exact⟨rfl,_,World.drewN_drewN _ _ _⟩ | exact⟨rfl,_,Eq.trans (World.drewN_drewN _ _ _) (congrArg (World.drewN _) (Nat.add_assoc _ _ _))⟩)));try go_wp2_with (first | (go_at_call 16;(with_reducible refine(laws_eqInt64S.calls k1 _ _ (rd_L1 l0 aa) _ _ (rd_L1 l1 aa) false _ ?ae ?af ?ag ?ah A7.out).mono ?_);(case ae=>repeat (first | exact HR136_0.out | (with_reducible refine Kd.C_alloc ?_ _) | (with_reducible refine Kd.C_drewN ?_ _) | (with_reducible refine Kd.C_drew ?_)));(case af=>exact HC136_0.out);(case ag=>repeat (first | exact HR137_0.out | (with_reducible refine Kd.C_alloc ?_ _) | (with_reducible refine Kd.C_drewN ?_ _) | (with_reducible refine Kd.C_drew ?_)));(case ah=>exact HC137_0.out);rintro e w' ⟨rfl,⟨nd,rfl⟩⟩;(try first | exact⟨rfl,_,World.drewN_drewN _ _ _⟩ | exact⟨rfl,_,Eq.trans (World.drewN_drewN _ _ _) (congrArg (World.drewN _) (Nat.add_assoc _ _ _))⟩))))
        go_ret
        exact⟨by first | rfl | (simp;done) | (simp [*];done),by repeat (first | exact Drawn0.refl _ | apply Drawn0.step)⟩
      ·rw [if_neg c6] at H
       exact absurd H (by simp)
     ·rw [if_neg c5] at H
      exact absurd H (by simp)
    ·rw [if_neg c4] at H
     have c4b0:decide (aa < (l0.length:Int))=false:=decide_eq_false c4
     clear c4
     obtain rfl:=Option.some.inj H
     go_wp2
     repeat (go_quiet (fail);try go_wp2)
     go_ret
     exact⟨by first | rfl | (simp;done) | (simp [*];done),by repeat (first | exact Drawn0.refl _ | apply Drawn0.step)⟩
 ·rw [if_neg c3] at H
  have c3b0:((l0.length:Int)==(l1.length:Int))=false:=beq_eq_false_iff_ne.mpr c3
  have c3b1:((l0.length:Int) !=(l1.length:Int))=true:=bne_iff_ne.mpr c3
  have c3b2:(l0.length==l1.length)=false:=by first | simpa using c3 | (simp at c3 ⊢;omega)
  obtain rfl:=Option.some.inj H
  go_enter Try.func92,Try.ntmps92
  go_wp2
  repeat (go_quiet (fail);try go_wp2)
  go_ret
  exact⟨by first | rfl | (simp;done) | (simp [*];done),by repeat (first | exact Drawn0.refl _ | apply Drawn0.step)⟩
def laws_eqProblem.f (k:Nat) (aa:List (List Int)) (ae:List Int) (af:List (List Int)) (ag:List Int):Option (Bool):=(laws_eqInt64SS.f k aa af).bind fun ah=>(if ah=true then((laws_eqInt64S.f k ae ag).bind fun ai=>(if ai=true then(some true) else(some false))) else(some false))
theorem laws_eqProblem.mono: ∀a0 a1 a2 a3 k,LeO (laws_eqProblem.f k a0 a1 a2 a3) (laws_eqProblem.f (k+1) a0 a1 a2 a3):=by
 intro a0 a1 a2 a3 k
 unfold laws_eqProblem.f
 repeat' first
   | (with_reducible exact laws_eqInt64S.mono _ _ _)
   | (with_reducible exact laws_eqInt64SS.mono _ _ _)
   | (with_reducible exact LeO.refl _)
   | (with_reducible exact LeO.none _)
   | (with_reducible refine LeO.ite ?_ ?_)
   | (with_reducible refine LeO.bind ?_ (fun _=>?_))
   | exact laws_eqInt64S.mono _ _ _
   | exact laws_eqInt64SS.mono _ _ _
   | exact LeO.none _
   | refine LeO.ite ?_ ?_
   | refine LeO.bind ?_ (fun _=>?_)
theorem laws_eqProblem.calls (k:Nat) (az:Option Addr) (aA:Nat) (ag:List (List Int)) (aG:Option Addr) (aH:Nat) (ah:List Int) (aC:Option Addr) (aD:Nat) (ai:List (List Int)) (aI:Option Addr) (aJ:Nat) (aj:List Int) (r:Bool) (w:World) (aN:Kd.C (Kd.slice 2 (Kd.int .i64)) w az ag.length ag) (aT:ag.length≤aA) (aU:Kd.C (Kd.int .i64) w aG ah.length ah) (aV:ah.length≤aH) (aW:Kd.C (Kd.slice 2 (Kd.int .i64)) w aC ai.length ai) (aX:ai.length≤aD) (aY:Kd.C (Kd.int .i64) w aI aj.length aj) (aZ:aj.length≤aJ) (h:laws_eqProblem.f k ag ah ai aj=some r):
  Calls Try.prog 15 #[.agg #[.slice az ag.length aA, .slice aG ah.length aH], .agg #[.slice aC ai.length aD, .slice aI aj.length aJ]] w fun e w'=>e= .returned (.bool r)∧Below w.heap.size w w':=by
 have hu30:=Try.underlying30
 have HR0_0:=Aside0.mk aN
 have HC0_0:=Aside0.mk aT
 clear aN aT
 have HR0_1:=Aside0.mk aU
 have HC0_1:=Aside0.mk aV
 clear aU aV
 have HR1_0:=Aside0.mk aW
 have HC1_0:=Aside0.mk aX
 clear aW aX
 have HR1_1:=Aside0.mk aY
 have HC1_1:=Aside0.mk aZ
 clear aY aZ
 have HB:=Aside0.mk (Below.refl w.heap.size w)
 have H:((laws_eqInt64SS.f k ag ai).bind fun aM=>(if aM=true then((laws_eqInt64S.f k ah aj).bind fun aK=>(if aK=true then(some true) else(some false))) else(some false)))=some r:=h
 clear h
 replace H:=Option.bind_eq_some_iff.mp H
 obtain⟨aM,A30,H⟩:=H
 replace H:(if aM=true then((laws_eqInt64S.f k ah aj).bind fun aK=>(if aK=true then(some true) else(some false))) else(some false))=some r:=H
 have A3:=Aside0.mk A30
 clear A30
 by_cases c4:aM=true
 ·subst c4
  have H1:((laws_eqInt64S.f k ah aj).bind fun aK=>(if aK=true then(some true) else(some false)))=some r:=by rw [if_pos rfl] at H;exact H
  clear H
  have H:=H1
  clear H1
  replace H:=Option.bind_eq_some_iff.mp H
  obtain⟨aK,A50,H⟩:=H
  replace H:(if aK=true then(some true) else(some false))=some r:=H
  have A5:=Aside0.mk A50
  clear A50
  by_cases c6:aK=true
  ·subst c6
   have H1:(some true)=some r:=by rw [if_pos rfl] at H;exact H
   clear H
   have H:=H1
   clear H1
   obtain rfl:=Option.some.inj H
   go_enter Try.func15,Try.ntmps15
   go_wp2_with (first | ((with_reducible refine gate_dst (N:=2) rfl ?_);refine box_event ?hg (N:=2) ?hd (cs:= #[.slice az ag.length aA, .slice aG ah.length aH]) (t:=30) ?hr ?_;(case hd=>rfl);(case hg=>rfl);(case hr=>first | (go_simp;done) | (go_simp;rfl));intro ae hg w7 hbox hb;have aa:=Aside0.mk (hbox);have a9:=Aside0.mk ((by rw [hg];exact bz_:w.heap.size≤ae));have ba:=Aside0.mk ((by rw [hg];exact bz_:w.heap.size≤ae));replace HB:=Aside0.mk (bs_ hb);clear hb hbox hg) | ((with_reducible refine gate_dst (N:=3) rfl ?_);refine box_event ?hg (N:=3) ?hd (cs:= #[.slice aC ai.length aD, .slice aI aj.length aJ]) (t:=30) ?hr ?_;(case hd=>rfl);(case hg=>rfl);(case hr=>first | (go_simp;done) | (go_simp;rfl));intro af hg w8 hbox hb;have ak:=Aside0.mk (hbox);have bb:=Aside0.mk ((by rw [hg];exact bz_:w.heap.size≤af));have bg:=Aside0.mk ((by rw [hg];exact bz_:w.heap.size≤af));have aq:=Aside0.mk ((by rw [hg];exact lt_ aa.out:ae≠af));have au:=Aside0.mk ((by rw [hg];exact gt_ aa.out:af≠ae));replace aa:=Aside0.mk (bb_ aa.out hb);replace HB:=Aside0.mk (bs_ hb);clear hb hbox hg;have bU:=aq.out;have bV:=au.out;have bh:w8.cell? ⟨ae,0,none⟩=some (.slice az ag.length aA):=(blk_cell aa.out 0).trans rfl;have bi:w8.cell? ⟨ae,1,none⟩=some (.slice aG ah.length aH):=(blk_cell aa.out 1).trans rfl;have bk:=blk_frozen aa.out 0;have bn:=blk_frozen aa.out 1;have bq:w8.cell? ⟨af,0,none⟩=some (.slice aC ai.length aD):=(blk_cell ak.out 0).trans rfl;have bu:w8.cell? ⟨af,1,none⟩=some (.slice aI aj.length aJ):=(blk_cell ak.out 1).trans rfl;have bv:=blk_frozen ak.out 0;have bw:=blk_frozen ak.out 1) | ((with_reducible refine gate_callee (f:=92) rfl ?_);refine gL_ 9 Try.func92 #[.slice az ag.length aA, .slice aC ai.length aD] ?_;(with_reducible refine(laws_eqInt64SS.calls k _ _ ag _ _ ai true _ ?av ?aw ?ax ?ay A3.out).mono ?_);(case av=>exact cb_ HR0_0.out HB.out);(case aw=>exact HC0_0.out);(case ax=>exact cb_ HR1_0.out HB.out);(case ay=>exact HC1_0.out);rintro e w' ⟨rfl,⟨nd,rfl⟩⟩;refine⟨_,rfl,?_⟩) | ((with_reducible refine gate_callee (f:=16) rfl ?_);refine gL_ 15 Try.func16 #[.slice aG ah.length aH, .slice aI aj.length aJ] ?_;(with_reducible refine(laws_eqInt64S.calls k _ _ ah _ _ aj true _ ?av ?aw ?ax ?ay A5.out).mono ?_);(case av=>repeat (first | exact(Kd.C_below HR0_1.out hb_) | (with_reducible refine Kd.C_alloc ?_ _) | (with_reducible refine Kd.C_drewN ?_ _) | (with_reducible refine Kd.C_drew ?_)));(case aw=>exact HC0_1.out);(case ax=>repeat (first | exact(Kd.C_below HR1_1.out hb_) | (with_reducible refine Kd.C_alloc ?_ _) | (with_reducible refine Kd.C_drewN ?_ _) | (with_reducible refine Kd.C_drew ?_)));(case ay=>exact HC1_1.out);rintro e w' ⟨rfl,⟨nd,rfl⟩⟩;refine⟨_,rfl,?_⟩))
   go_ret
   exact⟨by first | rfl | (simp [errW_none,errW_some] <;> rfl) | (simp [*,errW_none,errW_some] <;> rfl),hb_⟩
  ·replace c6:=Bool.eq_false_iff.mpr c6
   subst c6
   have H1:(some false)=some r:=by rw [if_neg (show ¬ (false=true) by decide)] at H;exact H
   clear H
   have H:=H1
   clear H1
   obtain rfl:=Option.some.inj H
   go_enter Try.func15,Try.ntmps15
   go_wp2_with (first | ((with_reducible refine gate_dst (N:=2) rfl ?_);refine box_event ?hg (N:=2) ?hd (cs:= #[.slice az ag.length aA, .slice aG ah.length aH]) (t:=30) ?hr ?_;(case hd=>rfl);(case hg=>rfl);(case hr=>first | (go_simp;done) | (go_simp;rfl));intro ae hg w12 hbox hb;have aa:=Aside0.mk (hbox);have a9:=Aside0.mk ((by rw [hg];exact bz_:w.heap.size≤ae));have ba:=Aside0.mk ((by rw [hg];exact bz_:w.heap.size≤ae));replace HB:=Aside0.mk (bs_ hb);clear hb hbox hg) | ((with_reducible refine gate_dst (N:=3) rfl ?_);refine box_event ?hg (N:=3) ?hd (cs:= #[.slice aC ai.length aD, .slice aI aj.length aJ]) (t:=30) ?hr ?_;(case hd=>rfl);(case hg=>rfl);(case hr=>first | (go_simp;done) | (go_simp;rfl));intro af hg w13 hbox hb;have ak:=Aside0.mk (hbox);have bb:=Aside0.mk ((by rw [hg];exact bz_:w.heap.size≤af));have bg:=Aside0.mk ((by rw [hg];exact bz_:w.heap.size≤af));have aq:=Aside0.mk ((by rw [hg];exact lt_ aa.out:ae≠af));have au:=Aside0.mk ((by rw [hg];exact gt_ aa.out:af≠ae));replace aa:=Aside0.mk (bb_ aa.out hb);replace HB:=Aside0.mk (bs_ hb);clear hb hbox hg;have bP:=aq.out;have bQ:=au.out;have bz:w13.cell? ⟨ae,0,none⟩=some (.slice az ag.length aA):=(blk_cell aa.out 0).trans rfl;have bA:w13.cell? ⟨ae,1,none⟩=some (.slice aG ah.length aH):=(blk_cell aa.out 1).trans rfl;have bB:=blk_frozen aa.out 0;have bC:=blk_frozen aa.out 1;have bD:w13.cell? ⟨af,0,none⟩=some (.slice aC ai.length aD):=(blk_cell ak.out 0).trans rfl;have bE:w13.cell? ⟨af,1,none⟩=some (.slice aI aj.length aJ):=(blk_cell ak.out 1).trans rfl;have bF:=blk_frozen ak.out 0;have bG:=blk_frozen ak.out 1) | ((with_reducible refine gate_callee (f:=92) rfl ?_);refine gL_ 9 Try.func92 #[.slice az ag.length aA, .slice aC ai.length aD] ?_;(with_reducible refine(laws_eqInt64SS.calls k _ _ ag _ _ ai true _ ?av ?aw ?ax ?ay A3.out).mono ?_);(case av=>exact cb_ HR0_0.out HB.out);(case aw=>exact HC0_0.out);(case ax=>exact cb_ HR1_0.out HB.out);(case ay=>exact HC1_0.out);rintro e w' ⟨rfl,⟨nd,rfl⟩⟩;refine⟨_,rfl,?_⟩) | ((with_reducible refine gate_callee (f:=16) rfl ?_);refine gL_ 15 Try.func16 #[.slice aG ah.length aH, .slice aI aj.length aJ] ?_;(with_reducible refine(laws_eqInt64S.calls k _ _ ah _ _ aj false _ ?av ?aw ?ax ?ay A5.out).mono ?_);(case av=>repeat (first | exact(Kd.C_below HR0_1.out hb_) | (with_reducible refine Kd.C_alloc ?_ _) | (with_reducible refine Kd.C_drewN ?_ _) | (with_reducible refine Kd.C_drew ?_)));(case aw=>exact HC0_1.out);(case ax=>repeat (first | exact(Kd.C_below HR1_1.out hb_) | (with_reducible refine Kd.C_alloc ?_ _) | (with_reducible refine Kd.C_drewN ?_ _) | (with_reducible refine Kd.C_drew ?_)));(case ay=>exact HC1_1.out);rintro e w' ⟨rfl,⟨nd,rfl⟩⟩;refine⟨_,rfl,?_⟩))
   go_ret
   exact⟨by first | rfl | (simp [errW_none,errW_some] <;> rfl) | (simp [*,errW_none,errW_some] <;> rfl),hb_⟩
 ·replace c4:=Bool.eq_false_iff.mpr c4
  subst c4
  have H1:(some false)=some r:=by rw [if_neg (show ¬ (false=true) by decide)] at H;exact H
  clear H
  have H:=H1
  clear H1
  obtain rfl:=Option.some.inj H
  go_enter Try.func15,Try.ntmps15
  go_wp2_with (first | ((with_reducible refine gate_dst (N:=2) rfl ?_);refine box_event ?hg (N:=2) ?hd (cs:= #[.slice az ag.length aA, .slice aG ah.length aH]) (t:=30) ?hr ?_;(case hd=>rfl);(case hg=>rfl);(case hr=>first | (go_simp;done) | (go_simp;rfl));intro ae hg w17 hbox hb;have aa:=Aside0.mk (hbox);have a9:=Aside0.mk ((by rw [hg];exact bz_:w.heap.size≤ae));have ba:=Aside0.mk ((by rw [hg];exact bz_:w.heap.size≤ae));replace HB:=Aside0.mk (bs_ hb);clear hb hbox hg) | ((with_reducible refine gate_dst (N:=3) rfl ?_);refine box_event ?hg (N:=3) ?hd (cs:= #[.slice aC ai.length aD, .slice aI aj.length aJ]) (t:=30) ?hr ?_;(case hd=>rfl);(case hg=>rfl);(case hr=>first | (go_simp;done) | (go_simp;rfl));intro af hg w18 hbox hb;have ak:=Aside0.mk (hbox);have bb:=Aside0.mk ((by rw [hg];exact bz_:w.heap.size≤af));have bg:=Aside0.mk ((by rw [hg];exact bz_:w.heap.size≤af));have aq:=Aside0.mk ((by rw [hg];exact lt_ aa.out:ae≠af));have au:=Aside0.mk ((by rw [hg];exact gt_ aa.out:af≠ae));replace aa:=Aside0.mk (bb_ aa.out hb);replace HB:=Aside0.mk (bs_ hb);clear hb hbox hg;have bS:=aq.out;have bT:=au.out;have bH:w18.cell? ⟨ae,0,none⟩=some (.slice az ag.length aA):=(blk_cell aa.out 0).trans rfl;have bI:w18.cell? ⟨ae,1,none⟩=some (.slice aG ah.length aH):=(blk_cell aa.out 1).trans rfl;have bJ:=blk_frozen aa.out 0;have bK:=blk_frozen aa.out 1;have bL:w18.cell? ⟨af,0,none⟩=some (.slice aC ai.length aD):=(blk_cell ak.out 0).trans rfl;have bM:w18.cell? ⟨af,1,none⟩=some (.slice aI aj.length aJ):=(blk_cell ak.out 1).trans rfl;have bN:=blk_frozen ak.out 0;have bO:=blk_frozen ak.out 1) | ((with_reducible refine gate_callee (f:=92) rfl ?_);refine gL_ 9 Try.func92 #[.slice az ag.length aA, .slice aC ai.length aD] ?_;(with_reducible refine(laws_eqInt64SS.calls k _ _ ag _ _ ai false _ ?av ?aw ?ax ?ay A3.out).mono ?_);(case av=>exact cb_ HR0_0.out HB.out);(case aw=>exact HC0_0.out);(case ax=>exact cb_ HR1_0.out HB.out);(case ay=>exact HC1_0.out);rintro e w' ⟨rfl,⟨nd,rfl⟩⟩;refine⟨_,rfl,?_⟩))
  go_ret
  exact⟨by first | rfl | (simp [errW_none,errW_some] <;> rfl) | (simp [*,errW_none,errW_some] <;> rfl),hb_⟩
end Go.Proofs.Ytmpkckiifeikkaa.Pr
end
section
namespace Go.Proofs.Ytmpkckiifeikkaa.La
open Go.RowKit Go.Proofs.YtmpkckiifeikkaaW.PrintWords Go.Proofs.YtmpkckiifeikkaaW.PrintMore Go.Proofs.Ytmpkckiifeikkaa.Ma Go.Proofs.Ytmpkckiifeikkaa.Pr Go.Proofs.Ytmpkckiifeikkaa.Op
theorem rdL_at {l:List (List Int)} {i:Nat} (h:i < l.length):rd_L1 l (i:Int)=l[i]:=by simp [rd_L1,h]
def lens:List (List Int)→Nat
 | []=>0
 | x::l=>x.length+lens l
theorem lens_cons (x:List Int) (l:List (List Int)):(lens (x::l):Int)=(x.length:Int)+(lens l:Int):=by simp [lens]
def tot (l:List (List Int)):Nat:=l.length+lens l
theorem lens_mem {l:List (List Int)} {x:List Int} (h:x ∈ l):x.length≤lens l:=by
 induction l with
 | nil=>cases h
 | cons y l ih=>
  rcases List.mem_cons.1 h with rfl | h
  ·exact Nat.le_add_right _ _
  ·exact Nat.le_trans (ih h) (Nat.le_add_left _ _)
theorem szSS_loop (l:List (List Int)) (hr: ∀x ∈ l,x.length≤maxLen) (hlen:l.length≤1048576): ∀m i (n:Int),i+m=l.length→0≤n→n≤1048576→
  Ev (fun k=>laws_szInt64SS.l0 k l n i) (if n < (lens (l.drop i):Int) then(-1:Int) else n - (lens (l.drop i):Int)):=by
 intro m
 induction m with
 | zero=>
  intro i n hi h0 h1
  refine evstep (fun k=>by rw [laws_szInt64SS.l0]) (evneg (by omega) (evc ?_))
  rw [List.drop_of_length_le (by omega),if_neg (by simp [lens];omega)]
  simp [lens]
 | succ m ih=>
  intro i n hi h0 h1
  have hlt:i < l.length:=by omega
  have hx:=hr l[i] (List.getElem_mem hlt)
  refine evstep (fun k=>by rw [laws_szInt64SS.l0]) (evpos (by omega) (evpos (by omega) ?_))
  rw [rdL_at hlt]
  refine evsome (sz_eq h0 h1 hx) ?_
  rw [List.drop_eq_getElem_cons hlt]
  by_cases c:n < (l[i].length:Int)
  ·rw [if_pos c,if_pos (by rw [lens_cons];omega)]
   exact evpos (by decide) (evc rfl)
  ·rw [if_neg c]
   refine evneg (by omega) ?_
   rw [w64 (by omega) (by omega)]
   have:=ih (i+1) (n - (l[i].length:Int)) (by omega) (by omega) (by omega)
   have e:(if n - (l[i].length:Int) < (lens (l.drop (i+1)):Int) then(-1:Int) else n - (l[i].length:Int) - (lens (l.drop (i+1)):Int))=(if n < (lens (l[i]::l.drop (i+1)):Int) then(-1:Int) else n - (lens (l[i]::l.drop (i+1)):Int)):=by
    rw [lens_cons]
    by_cases c2:n - (l[i].length:Int) < (lens (l.drop (i+1)):Int)
    ·rw [if_pos c2,if_pos (by omega)]
    ·rw [if_neg c2,if_neg (by omega)];omega
   rw [← e]
   exact this
theorem szSS (l:List (List Int)) (hg:GoodList (GoodList (GoodInt .i64)) l) {n:Int} (h0:0≤n) (h1:n≤1048576):Ev (fun k=>laws_szInt64SS.f k l n) (if n < (tot l:Int) then(-1:Int) else n - (tot l:Int)):=by
 have hl:=hg.1
 unfold maxLen at hl
 unfold laws_szInt64SS.f
 rw [w64 (by omega) (by omega)]
 by_cases c:n < (l.length:Int)
 ·rw [if_pos (by unfold tot;omega)]
  exact evpos (by omega) (evc rfl)
 ·refine evneg (by omega) ?_
  have:=szSS_loop l (fun x hx=>(hg.2 x hx).1) (by omega) l.length 0 (n - (l.length:Int)) (by omega) (by omega) (by omega)
  rw [List.drop_zero] at this
  have e:(if n - (l.length:Int) < (lens l:Int) then(-1:Int) else n - (l.length:Int) - (lens l:Int))=(if n < (tot l:Int) then(-1:Int) else n - (tot l:Int)):=by
   unfold tot
   by_cases c2:n - (l.length:Int) < (lens l:Int)
   ·rw [if_pos c2,if_pos (by omega)]
   ·rw [if_neg c2,if_neg (by omega)];omega
  rw [← e]
  exact this
theorem set_append_at {α:Type} (a b:List α) (x y:α):(a++y::b).set a.length x=a++x::b:=by
 rw [List.set_append_right _ _ (Nat.le_refl _),Nat.sub_self,List.set_cons_zero]
theorem toSS (l:List (List Int)) (hl:l.length≤1048576) (hr: ∀x ∈ l,x.length≤1048576):Ev (fun k=>laws_toInt64SS.f k l) l:=by
 have key: ∀(m i:Nat),i+m=l.length→Ev (fun k=>laws_toInt64SS.l0 k l (l.take i++List.replicate m []) i) l:=by
  intro m
  induction m with
  | zero=>
   intro i hi
   refine evstep (fun k=>by rw [laws_toInt64SS.l0]) (evneg (by omega) (evc ?_))
   rw [List.replicate_zero,List.append_nil,List.take_of_length_le (by omega)]
  | succ m ih=>
   intro i hi
   have hlt:i < l.length:=by omega
   refine evstep (fun k=>by rw [laws_toInt64SS.l0]) (evpos (by omega) (evpos (by omega) ?_))
   rw [rdL_at hlt]
   refine evbind (toI l[i] (hr _ (List.getElem_mem hlt))) (evpos (by simp;omega) ?_)
   rw [w64 (by omega) (by omega),Int.toNat_natCast]
   have e:(l.take i++List.replicate (m+1) []).set i l[i]=l.take (i+1)++List.replicate m []:=by
    have h1:(l.take i).length=i:=by rw [List.length_take];omega
    have h2:=set_append_at (l.take i) (List.replicate m []) l[i] []
    rw [h1] at h2
    rw [List.replicate_succ,h2,List.take_succ_eq_append_getElem hlt,List.append_assoc]
    rfl
   rw [e]
   exact ih (i+1) (by omega)
 unfold laws_toInt64SS.f
 refine evpos (by omega) (evpos (by omega) ?_)
 have:=key l.length 0 (by omega)
 simpa using this
theorem eqSS (l:List (List Int)) (hl:l.length≤1152921504606846976) (hr: ∀x ∈ l,x.length≤1152921504606846976):Ev (fun k=>laws_eqInt64SS.f k l l) true:=by
 have key: ∀(m i:Nat),i+m=l.length→Ev (fun k=>laws_eqInt64SS.l0 k l l i) true:=by
  intro m
  induction m with
  | zero=>
   intro i hi
   refine evstep (fun k=>by rw [laws_eqInt64SS.l0]) ?_
   exact evneg (by omega) (evc rfl)
  | succ m ih=>
   intro i hi
   have hlt:i < l.length:=by omega
   refine evstep (fun k=>by rw [laws_eqInt64SS.l0]) (evpos (by omega) (evpos (by omega) (evpos (by omega) ?_)))
   rw [rdL_at hlt]
   refine evbind (eqI_same _ (hr _ (List.getElem_mem hlt))) (evpos rfl ?_)
   rw [w64 (by omega) (by omega)]
   exact ih (i+1) (by omega)
 unfold laws_eqInt64SS.f
 exact evpos rfl (key l.length 0 (by omega))
structure Fit (l:List (List Int)):Prop where
 len:l.length≤1048576
 row: ∀x ∈ l,x.length≤1048576
theorem fit_of {l:List (List Int)} (h:tot l≤1048576):Fit l:=⟨by unfold tot at h;omega,fun x hx=>by have:=lens_mem hx;unfold tot at h;omega⟩
theorem fit_eq {l:List (List Int)} (h:Fit l):Ev (fun k=>laws_eqInt64SS.f k l l) true:=eqSS l (by have:=h.len;omega) (fun x hx=>by have:=h.row x hx;omega)
theorem fit_to {l:List (List Int)} (h:Fit l):Ev (fun k=>laws_toInt64SS.f k l) l:=toSS l h.len h.row
end Go.Proofs.Ytmpkckiifeikkaa.La
end
section
namespace Go.Proofs.Ytmpkckiifeikkaa.Hm
open Go.RowKit Go.Proofs.YtmpkckiifeikkaaW.PrintWords Go.Proofs.YtmpkckiifeikkaaW.PrintLast Go.Proofs.YtmpkckiifeikkaaW.PrintMore Go.Proofs.Ytmpkckiifeikkaa.Pr Go.Proofs.Ytmpkckiifeikkaa.La Go.Proofs.Ytmpkckiifeikkaa.Ma
def marks:List (List Int)→Int→List (List Int)
 | [],_=> []
 | x::l,n=>count n x.length::marks l (n+x.length)
def part (l:List (List Int)) (n:Int) (i:Nat):List (List Int):=marks (l.take i) n++l.drop i
theorem marks_length: ∀(l:List (List Int)) (n:Int),(marks l n).length=l.length
 | [],_=>rfl
 | x::l,n=>by simp [marks,marks_length l]
theorem part_length (l:List (List Int)) (n:Int) (i:Nat) (h:i≤l.length):(part l n i).length=l.length:=by
 simp [part,marks_length];omega
theorem lens_append (a b:List (List Int)):lens (a++b)=lens a+lens b:=by
 induction a with
 | nil=>simp [lens]
 | cons x a ih=>simp only [List.cons_append,lens,ih];omega
theorem marks_append: ∀(a b:List (List Int)) (n:Int),marks (a++b) n=marks a n++marks b (n+lens a)
 | [],b,n=>by simp [marks,lens]
 | x::a,b,n=>by
  simp only [List.cons_append,marks,marks_append a b,lens]
  congr 3
  push_cast
  omega
theorem part_at (l:List (List Int)) (n:Int) (i:Nat) (h:i < l.length):(part l n i).getD i []=l[i]:=by
 have hm:(marks (l.take i) n).length=i:=by rw [marks_length,List.length_take];omega
 unfold part
 rw [List.getD_eq_getElem?_getD,List.getElem?_append_right (by omega),hm,Nat.sub_self,List.getElem?_drop,Nat.add_zero,List.getElem?_eq_getElem h]
 rfl
theorem part_set (l:List (List Int)) (n:Int) (i:Nat) (h:i < l.length):(part l n i).set i (count (n+lens (l.take i)) l[i].length)=part l n (i+1):=by
 have hm:(marks (l.take i) n).length=i:=by rw [marks_length,List.length_take];omega
 unfold part
 rw [List.take_succ_eq_append_getElem h,marks_append,List.append_assoc,List.set_append_right _ _ (by omega),hm,Nat.sub_self,List.drop_eq_getElem_cons h,List.set_cons_zero]
 simp [marks]
theorem lens_take_succ (l:List (List Int)) (i:Nat) (h:i < l.length):lens (l.take (i+1))=lens (l.take i)+l[i].length:=by
 rw [List.take_succ_eq_append_getElem h,lens_append];simp [lens]
theorem lens_take_le (l:List (List Int)) (i:Nat):lens (l.take i)≤lens l:=by
 have:=lens_append (l.take i) (l.drop i)
 rw [List.take_append_drop] at this
 omega
theorem mark_k (l:List Int) (n:Int) (hl:l.length≤1152921504606846976) (h0:0≤n) (h1:n≤1152921504606846976): ∃k,laws_markInt64S.f k l n=some (n+l.length,count n l.length):=evk (markI l n hl h0 h1)
section
variable {w0:World} {ok:Nat→Prop}
abbrev SS (w0 w:World) (ok:Nat→Prop) (v:Value) (l:List (List Int)):Prop:=Kd.S (Kd.slice 2 (Kd.int .i64)) 23 w w0.heap.size ok v l
theorem mark_row {g cap:Nat} {w:World} {l:List (List Int)} (hB:Below w0.heap.size w0 w) (h:SS w0 w ok (.slice (some ⟨g,0,none⟩) l.length cap) l) (i:Nat) (hi:i < l.length) (n:Int) (hl:l[i].length≤1152921504606846976) (h0:0≤n) (h1:n≤1152921504606846976):
  ∃u:Value,w.cell? ⟨g,i,none⟩=some u∧Calls Try.prog 18 #[u, .int .i64 n] w fun e w'=>e= .returned (.int .i64 (n+l[i].length))∧SS w0 w' ok (.slice (some ⟨g,0,none⟩) l.length cap) (l.set i (count n l[i].length))∧Below w0.heap.size w0 w'∧Kept w w' ok:=by
 obtain⟨oki,c,hcl,hM,hcc,hoki,hH⟩:=Kd.S_lend h [] (i:Int) (by omega) (by omega)
 rw [Int.toNat_natCast,List.getD_eq_getElem?_getD,List.getElem?_eq_getElem hi] at hM
 obtain⟨u,rfl,hR⟩:=hM
 refine⟨u,by have:=hcc 0 u rfl;rw [show (Kd.slice 2 (Kd.int .i64)).sz=1 from rfl] at this;simpa using this,?_⟩
 obtain⟨k,hk⟩:=mark_k l[i] n hl h0 h1
 refine(laws_markInt64S.calls k (fun b=>some b=u.ownBlock) u l[i] n _ _ w0 w hB (Kd.R_tight rfl hR) hk).mono ?_
 rintro e w' ⟨rfl,hR',hB',hK⟩
 have hok: ∀b,some b=u.ownBlock→oki b:=fun b hb=>hR.1 b hb.symm
 refine⟨rfl,?_,hB',hK.mono (fun b hb=>(hoki b (hok b hb)).1)⟩
 have hH':=Kd.H_step (w1:=w') hH (fun b _ hn hlt=>hK.2 b hlt (fun hb=>hn (hok b hb)))
 have hT:=Kd.R_tight (d:=Kd.int .i64) rfl hR'
 have:=Kd.H_back hH' (x':=count n l[i].length) (okp:=fun b=>some b=u.ownBlock) ⟨u,rfl,hT⟩ hok
 rw [Int.toNat_natCast] at this
 exact this
end
theorem markSS {w0 w:World} {ok:Nat→Prop} (v:Value) (l:List (List Int)) (n:Int) (hB:Below w0.heap.size w0 w) (h:SS w0 w ok v l) (h0:0≤n) (h1:n+lens l≤1099511627776) (hl:l.length≤1099511627776):
  Calls Try.prog 93 #[v, .int .i64 n] w fun e w'=>e= .returned (.int .i64 (n+lens l))∧SS w0 w' ok v (marks l n)∧Below w0.heap.size w0 w'∧Kept w w' ok:=by
 obtain⟨A,c,rfl⟩:=Kd.S_slice h
 have HS:=Aside0.mk h
 have HB:=Aside0.mk hB
 have H1:=Aside0.mk h1
 have H0:=Aside0.mk h0
 have HL:=Aside0.mk hl
 clear h hB h1 h0 hl
 go_enter Try.func93,Try.ntmps93
 go_wp2
 go_loopg [1,5] l.length (fun gg v1 v5 wr=> ∃(i:Nat) (m:Int),i≤l.length∧l.length - i≤gg∧v1= .int .i64 m∧v5= .int .i64 (i:Int)∧Aside0 (m=n+lens (l.take i))∧Aside0 (SS w0 wr ok (.slice A l.length c) (part l n i))∧Aside0 (Below w0.heap.size w0 wr)∧Aside0 (Kept w wr ok))
 case atStart=>exact⟨0,n,Nat.zero_le _,by omega,rfl,rfl,⟨by simp [lens]⟩,⟨by simpa [part,marks] using HS.out⟩,HB,⟨Kept.refl _ _⟩⟩
 case round=>
  obtain⟨i,m,hi,hg,rfl,rfl,HM,RS,RB,RK⟩:=hrel
  by_cases hlt:i < l.length
  ·have hpl:=part_length l n i hi
   obtain⟨g,cap,hv,hb1,hb2,cells,hc1⟩:=Kd.S_form RS.out (by rw [hpl];omega)
   rw [hpl] at hv
   injection hv with hA hn hc
   subst hA;subst hc
   have hm0:0≤m:=by have:=HM.out;have:=H0.out;omega
   have hm1:m+l[i].length≤1099511627776:=by
    have e1:=lens_take_succ l i hlt
    have e2:=lens_take_le l (i+1)
    have:=HM.out;have:=H1.out;omega
   have e:(part l n i)[i]'(by omega)=l[i]:=by
    have:=part_at l n i hlt
    rwa [List.getD_eq_getElem?_getD,List.getElem?_eq_getElem (by omega)] at this
   have hrow:=mark_row (g:=g) (cap:=c) RB.out (by rw [hpl];exact RS.out) i (by omega) m (by rw [e];omega) hm0 (by omega)
   rw [e,hpl] at hrow
   obtain⟨u,hcell,hcall⟩:=hrow
   have HCALL:=Aside0.mk hcall
   have hltz:(i:Int) < (l.length:Int):=by omega
   have h0z:(0:Int)≤(i:Int):=by omega
   have hlen:=HL.out
   have hw:IntKind.i64.wrap ((i:Int)+1)=((i+1:Nat):Int):=by rw [IntWalk.i64_in _ (by omega)];rfl
   have HLT:=Aside0.mk hlt
   clear hcall hm0 hm1 e hc1 hb1 hb2 hpl hn hlen
   go_wp2_with fail
   refine HCALL.out.mono ?_
   rintro e w' ⟨rfl,hS,hB',hK⟩
   have HS':=Aside0.mk hS
   have HB':=Aside0.mk hB'
   have HK':=Aside0.mk hK
   clear hS hB' hK HCALL
   go_wp2
   go_roundg (l.length - (i+1))
   case measure=>omega
   case rel=>
    have hle:=HLT.out
    refine⟨i+1,m+l[i].length,by omega,by omega,rfl,by first | rfl | (rw [hw]) | simp [hw],⟨?_⟩,⟨?_⟩,⟨HB'.out⟩,⟨?_⟩⟩
    ·rw [HM.out,lens_take_succ l i hle];push_cast;omega
    ·have:=HS'.out
     rw [HM.out,part_set l n i hle] at this
     exact this
    ·exact RK.out.then_ HK'.out (fun b hb=> .inl hb)
  ·have hltz: ¬ (i:Int) < (l.length:Int):=by omega
   obtain rfl:i=l.length:=by omega
   go_wp2
   go_ret
   have e1:l.take l.length=l:=List.take_length
   refine⟨by rw [HM.out,e1];rfl,?_,RB.out,RK.out⟩
   have:=RS.out
   simpa [part,e1] using this
end Go.Proofs.Ytmpkckiifeikkaa.Hm
end
section
namespace Go.Proofs.Ytmpkckiifeikkaa.Lw
open Go.RowKit Go.Proofs.YtmpkckiifeikkaaW.PrintWords Go.Proofs.YtmpkckiifeikkaaW.PrintLast Go.Proofs.YtmpkckiifeikkaaW.PrintMore Go.Proofs.Ytmpkckiifeikkaa.Pr Go.Proofs.Ytmpkckiifeikkaa.La Go.Proofs.Ytmpkckiifeikkaa.Ma Go.Proofs.Ytmpkckiifeikkaa.Hm
structure Frm (w w':World) (a b:Nat):Prop where
 size:w.heap.size≤w'.heap.size
 same: ∀k,k < w.heap.size→k < a∨b≤k→w'.heap[k]?=w.heap[k]?
theorem Frm.below {w w':World} (h:Below w.heap.size w w'):Frm w w' 0 0:=⟨h.size,fun k hk _=>h.block k hk⟩
theorem Frm.set (w:World) (g i:Nat) (u:Value):Frm w (w.setCell ⟨g,i,none⟩ u) g (g+1):=
 ⟨by simp,fun k _ hk=>Below.heap_setCell w ⟨g,i,none⟩ u k (by simp;omega)⟩
theorem Frm.trans {w w1 w2:World} {a b:Nat} (h:Frm w w1 a b) (k:Frm w1 w2 a b):Frm w w2 a b:=
 ⟨Nat.le_trans h.size k.size,fun i hi hn=>(k.same i (Nat.lt_of_lt_of_le hi h.size) hn).trans (h.same i hi hn)⟩
theorem Frm.kept {w w':World} {ok:Nat→Prop} {a b:Nat} (h:Kept w w' ok) (hok: ∀k,ok k→a≤k∧k < b):Frm w w' a b:=
 ⟨h.1,fun k hk hn=>h.2 k hk (fun ho=>by have:=hok k ho;omega)⟩
section
variable {α:Type} {d:Kd α} {e lo hi a b:Nat} {w0 w w':World} {v v1:Value} {xs:List α}
def UR (d:Kd α) (e:Nat) (w0 w:World) (lo hi:Nat) (v:Value) (xs:List α):Prop:=d.R e w w0.heap.size (fun k=>lo≤k∧k < hi) v xs
def US (d:Kd α) (e:Nat) (w0 w:World) (lo hi:Nat) (v:Value) (xs:List α):Prop:=d.S e w w0.heap.size (fun k=>lo≤k∧k < hi) v xs
theorem UR.mv (h:UR d e w0 w lo hi v xs) (F:Frm w w' a b) (hd:hi≤a∨b≤lo):UR d e w0 w' lo hi v xs:=Kd.R_step h (fun k hk hlt=>F.same k hlt (by omega))
theorem US.mv (h:US d e w0 w lo hi v xs) (F:Frm w w' a b) (hd:hi≤a∨b≤lo):US d e w0 w' lo hi v xs:=Kd.S_step h (fun k hk hlt=>F.same k hlt (by omega))
theorem UR.mvB (h:UR d e w0 w lo hi v xs) (F:Frm w w' 0 0):UR d e w0 w' lo hi v xs:=h.mv F (.inr (Nat.zero_le _))
theorem US.mvB (h:US d e w0 w lo hi v xs) (F:Frm w w' 0 0):US d e w0 w' lo hi v xs:=h.mv F (.inr (Nat.zero_le _))
theorem UR.of {ok:Nat→Prop} (h:d.R e w' w.heap.size ok v xs) (hb:w0.heap.size≤w.heap.size):UR d e w0 w' w.heap.size w'.heap.size v xs:=
 Kd.R_lower (Kd.R_mono (Kd.R_bound h) (fun k hk=>⟨hk.2.1,hk.2.2.1⟩)) hb
theorem US.of {ok:Nat→Prop} (h:d.S e w' w.heap.size ok v xs) (hb:w0.heap.size≤w.heap.size):US d e w0 w' w.heap.size w'.heap.size v xs:=
 Kd.S_lower (Kd.S_mono (Kd.S_bound h) (fun k hk=>⟨hk.2.1,hk.2.2.1⟩)) hb
theorem UR.C {A:Option Addr} {n c:Nat} (h:UR d e w0 w lo hi (.slice A n c) xs):d.C w A xs.length xs:=(Kd.R_reads' h).2.2
theorem UR.len {A:Option Addr} {n c:Nat} (h:UR d e w0 w lo hi (.slice A n c) xs):n=xs.length:=(Kd.R_reads' h).1
theorem UR.cap {A:Option Addr} {n c:Nat} (h:UR d e w0 w lo hi (.slice A n c) xs):xs.length≤c:=(Kd.R_reads' h).1 ▸ (Kd.R_reads' h).2.1
theorem US.C {A:Option Addr} {n c:Nat} (h:US d e w0 w lo hi (.slice A n c) xs):d.C w A xs.length xs:=(Kd.S_reads' h).2.2
theorem US.cap {A:Option Addr} {n c:Nat} (h:US d e w0 w lo hi (.slice A n c) xs):xs.length≤c:=(Kd.S_reads' h).1 ▸ (Kd.S_reads' h).2.1
end
structure UP (w0 w:World) (lo hi:Nat) (v0 v1:Value) (M:List (List Int)) (Q:List Int):Prop where
 m:Kd.S (Kd.slice 2 (Kd.int .i64)) 23 w w0.heap.size (fun k=>(lo≤k∧k < hi)∧some k≠v1.ownBlock) v0 M
 q:Kd.R (Kd.int .i64) 2 w w0.heap.size (fun k=>lo≤k∧k < hi) v1 Q
section
variable {lo hi a b:Nat} {w0 w w':World} {v0 v1:Value} {M:List (List Int)} {Q:List Int}
theorem UP.mv (h:UP w0 w lo hi v0 v1 M Q) (F:Frm w w' a b) (hd:hi≤a∨b≤lo):UP w0 w' lo hi v0 v1 M Q:=
 ⟨Kd.S_step h.m (fun k hk hlt=>F.same k hlt (by have:=hk.1;omega)),Kd.R_step h.q (fun k hk hlt=>F.same k hlt (by omega))⟩
theorem UP.mvB (h:UP w0 w lo hi v0 v1 M Q) (F:Frm w w' 0 0):UP w0 w' lo hi v0 v1 M Q:=h.mv F (.inr (Nat.zero_le _))
theorem UP.of {ok:Nat→Prop} (h:Kd.S (Kd.slice 2 (Kd.int .i64)) 23 w' w.heap.size (fun k=>some k≠v1.ownBlock) v0 M) (h':Kd.R (Kd.int .i64) 2 w' w.heap.size ok v1 Q) (hb:w0.heap.size≤w.heap.size):UP w0 w' w.heap.size w'.heap.size v0 v1 M Q:=
 ⟨Kd.S_lower (Kd.S_mono (Kd.S_bound h) (fun k hk=>⟨⟨hk.2.1,hk.2.2.1⟩,hk.1⟩)) hb,UR.of h' hb⟩
theorem UP.slices (h:UP w0 w lo hi v0 v1 M Q): ∃A0 c0 A1 c1,v0= .slice A0 M.length c0∧v1= .slice A1 Q.length c1:=by
 obtain⟨A0,c0,e0⟩:=Kd.S_slice h.m
 obtain⟨A1,c1,e1⟩:=Kd.R_slice h.q
 exact⟨A0,c0,A1,c1,e0,e1⟩
variable {A0 A1:Option Addr} {n0 c0 n1 c1:Nat}
theorem UP.C0 (h:UP w0 w lo hi (.slice A0 n0 c0) v1 M Q):Kd.C (Kd.slice 2 (Kd.int .i64)) w A0 M.length M:=(Kd.S_reads' h.m).2.2
theorem UP.C1 (h:UP w0 w lo hi v0 (.slice A1 n1 c1) M Q):Kd.C (Kd.int .i64) w A1 Q.length Q:=(Kd.R_reads' h.q).2.2
theorem UP.cap0 (h:UP w0 w lo hi (.slice A0 n0 c0) v1 M Q):M.length≤c0:=(Kd.S_reads' h.m).1 ▸ (Kd.S_reads' h.m).2.1
theorem UP.cap1 (h:UP w0 w lo hi v0 (.slice A1 n1 c1) M Q):Q.length≤c1:=(Kd.R_reads' h.q).1 ▸ (Kd.R_reads' h.q).2.1
end
end Go.Proofs.Ytmpkckiifeikkaa.Lw
end
section
namespace Go.Proofs.Ytmpkckiifeikkaa.Lw
open Go.RowKit Go.Proofs.YtmpkckiifeikkaaW.PrintWords Go.Proofs.YtmpkckiifeikkaaW.PrintLast Go.Proofs.YtmpkckiifeikkaaW.PrintMore Go.Proofs.Ytmpkckiifeikkaa.Pr Go.Proofs.Ytmpkckiifeikkaa.La Go.Proofs.Ytmpkckiifeikkaa.Ma Go.Proofs.Ytmpkckiifeikkaa.Hm
theorem UP.step1 {w0 w w':World} {lo hi:Nat} {v0 v1:Value} {M M':List (List Int)} {Q:List Int} (h:UP w0 w lo hi v0 v1 M Q)
  (hS:SS w0 w' (fun k=>(lo≤k∧k < hi)∧some k≠v1.ownBlock) v0 M') (hK:Kept w w' (fun k=>(lo≤k∧k < hi)∧some k≠v1.ownBlock)):UP w0 w' lo hi v0 v1 M' Q:=
 ⟨hS,Kd.R_mono (Kd.R_step (Kd.R_tight (d:=Kd.int .i64) rfl h.q) (fun k hk hlt=>hK.2 k hlt (fun ho=>ho.2 hk))) (fun k hk=>h.q.1 k hk.symm)⟩
theorem UP.step2 {w0 w w':World} {lo hi:Nat} {v0 v1:Value} {M:List (List Int)} {Q Q':List Int} (h:UP w0 w lo hi v0 v1 M Q) {ok':Nat→Prop}
  (hR:Kd.R (Kd.int .i64) 2 w' w0.heap.size ok' v1 Q') (hK:Kept w w' (fun k=>some k=v1.ownBlock)):UP w0 w' lo hi v0 v1 M Q':=
 ⟨Kd.S_step h.m (fun k hk hlt=>hK.2 k hlt hk.2),Kd.R_mono (Kd.R_tight (d:=Kd.int .i64) rfl hR) (fun k hk=>h.q.1 k hk.symm)⟩
theorem mark_UP {w0 w:World} {lo hi:Nat} (A0:Option Addr) (c0:Nat) (A1:Option Addr) (c1:Nat) (M:List (List Int)) (Q:List Int) (n m:Int) (hB:Below w0.heap.size w0 w) (h:UP w0 w lo hi (.slice A0 M.length c0) (.slice A1 Q.length c1) M Q) (h0:0≤n)
  (h1:n+lens M+Q.length≤1099511627776) (hl:M.length≤1099511627776) (hm:m=n+lens M+Q.length) (hhi:hi≤w.heap.size):
  Calls Try.prog 17 #[.agg #[.slice A0 M.length c0, .slice A1 Q.length c1], .int .i64 n] w fun e w'=>e= .returned (.int .i64 m)∧UP w0 w' lo hi (.slice A0 M.length c0) (.slice A1 Q.length c1) (marks M n) (count (n+lens M) Q.length)∧Below w0.heap.size w0 w'∧Frm w w' lo hi:=by
 have HB:=Aside0.mk hB
 have HU:=Aside0.mk h
 have H0:=Aside0.mk h0
 have H1:=Aside0.mk h1
 have HL:=Aside0.mk hl
 have HM:=Aside0.mk hm
 have HF:=Aside0.mk (show Kept w w (fun k=>lo≤k∧k < hi) from Kept.refl _ _)
 obtain⟨n1,hn1⟩: ∃x,x=n+lens M:=⟨_,rfl⟩
 have HN:=Aside0.mk hn1
 have HHI:=Aside0.mk hhi
 obtain⟨kq,hkq⟩:=mark_k Q n1 (by omega) (by omega) (by omega)
 rw [show n1+(Q.length:Int)=m from by rw [hn1,hm]] at hkq
 have HKQ:=Aside0.mk hkq
 clear hB h h0 h1 hl hm hn1 hhi hkq
 go_enter Try.func17,Try.ntmps17
 go_wp2_with (first | ((with_reducible refine gate_dst (N:=2) rfl ?_);refine box_event ?hg (N:=2) ?hd (cs:= #[.slice A0 M.length c0, .slice A1 Q.length c1]) (t:=30) ?hr ?_;(case hd=>rfl);(case hg=>rfl);(case hr=>first | (go_simp;done) | (go_simp;rfl));intro gb hg w1 hbox hb;have n0:=Aside0.mk (HU.out.mvB (Frm.below hb));have n1:=Aside0.mk (below_then HB.out HB.out.size hb);have n2:=Aside0.mk (HF.out.below hb);have BK:=Aside0.mk hbox;have HG:=Aside0.mk (show hi≤gb by rw [hg];exact HHI.out);clear HU HB HF hb hbox hg;have HU:=n0;have HB:=n1;have HF:=n2;clear n0 n1 n2;have hc0:w1.cell? ⟨gb,0,none⟩=some (.slice A0 M.length c0):=(blk_cell BK.out 0).trans rfl;have hc1:w1.cell? ⟨gb,1,none⟩=some (.slice A1 Q.length c1):=(blk_cell BK.out 1).trans rfl) | ((with_reducible refine gate_callee (f:=93) rfl ?_);refine gL_ 8 Try.func93 #[.slice A0 M.length c0, .int .i64 n] ?_;refine(markSS _ M n HB.out HU.out.m H0.out (by have:=H1.out;omega) HL.out).mono ?_;rintro e w2 ⟨rfl,hS,hB',hK⟩;rw [← HN.out];refine⟨_,rfl,?_⟩;have n0:=Aside0.mk (HU.out.step1 hS hK);have n1:=Aside0.mk hB';have n2:=Aside0.mk (HF.out.then_ hK (fun k hk=> .inl hk.1));have n3:=Aside0.mk ((hK.2 gb (blk_lt BK.out) (fun ho=>by have:=HG.out;have:=ho.1;omega)).trans BK.out);clear HU HB HF BK hS hB' hK hc0 hc1;have HU:=n0;have HB:=n1;have HF:=n2;have BK:=n3;clear n0 n1 n2 n3;have hc0:w2.cell? ⟨gb,0,none⟩=some (.slice A0 M.length c0):=(blk_cell BK.out 0).trans rfl;have hc1:w2.cell? ⟨gb,1,none⟩=some (.slice A1 Q.length c1):=(blk_cell BK.out 1).trans rfl) | ((with_reducible refine gate_callee (f:=18) rfl ?_);refine gL_ 12 Try.func18 #[.slice A1 Q.length c1, .int .i64 n1] ?_;refine(laws_markInt64S.calls kq (fun b=>some b=(Value.slice A1 Q.length c1).ownBlock) (.slice A1 Q.length c1) Q n1 _ _ w0 _ HB.out (Kd.R_tight (d:=Kd.int .i64) rfl HU.out.q) HKQ.out).mono ?_;rintro e w3 ⟨rfl,hR,hB',hK⟩;refine⟨_,rfl,?_⟩;have n0:=Aside0.mk (HU.out.step2 hR hK);have n1_:=Aside0.mk hB';have n2:=Aside0.mk (HF.out.then_ hK (fun k hk=> .inl (HU.out.q.1 k hk.symm)));clear HU HB HF hR hB' hK hc0 hc1;have HU:=n0;have HB:=n1_;have HF:=n2;clear n0 n1_ n2))
 go_ret
 rw [← HN.out]
 exact⟨rfl,HU.out,HB.out,Frm.kept HF.out (fun _ hk=>hk)⟩
end Go.Proofs.Ytmpkckiifeikkaa.Lw
end
section
namespace Go.Proofs.Ytmpkckiifeikkaa.Pr
open Go.RowKit Go.Proofs.YtmpkckiifeikkaaW.PrintWords Go.Proofs.YtmpkckiifeikkaaW.PrintLast Go.Proofs.YtmpkckiifeikkaaW.PrintMore
attribute [local go_sem] max2_int min2_int max_two min_two max_three min_three max_four min_four
def laws_markFracS.l0:Nat→List (S93)→Int→Int→Option (Int × (List (S93)))
 | 0,_,_,_=>none
 | k+1,x0,x1,x5=>if x5 < (x0.length:Int) then(if 0≤x5 then((some (x0.set (x5:Int).toNat (⟨x1,(rd_T93 x0 x5).f1⟩:S93):List (S93))).bind fun aa=>(laws_markFracS.l0 k (aa.set (x5:Int).toNat (⟨(rd_T93 aa x5).f0,wrap64 (x1+1)⟩:S93)) (wrap64 ((wrap64 (x1+1))+1)) (wrap64 (x5+1)))) else(none)) else(some (x1,x0))
def laws_markFracS.f (k:Nat) (l0:List (S93)) (a1:Int):Option (Int × (List (S93))):=laws_markFracS.l0 k l0 a1 0
theorem laws_markFracS.mono_l: ∀k,(∀y0 y1 y2,LeO (laws_markFracS.l0 k y0 y1 y2) (laws_markFracS.l0 (k+1) y0 y1 y2))
 | 0=>fun _ _ _ r h=>by simp [laws_markFracS.l0] at h
 | k+1=>by
  have ih0:=laws_markFracS.mono_l k
  ·intro y0 y1 y2
   unfold laws_markFracS.l0
   repeat' first
   | (with_reducible exact ih0 _ _ _)
   | (with_reducible exact LeO.refl _)
   | (with_reducible exact LeO.none _)
   | (with_reducible refine LeO.ite ?_ ?_)
   | (with_reducible refine LeO.bind ?_ (fun _=>?_))
   | exact ih0 _ _ _
   | exact LeO.none _
   | refine LeO.ite ?_ ?_
   | refine LeO.bind ?_ (fun _=>?_)
theorem laws_markFracS.mono: ∀a0 a1 k,LeO (laws_markFracS.f k a0 a1) (laws_markFracS.f (k+1) a0 a1):=by
 intro a0 a1 k
 have ih0:=laws_markFracS.mono_l k
 unfold laws_markFracS.f
 repeat' first
   | (with_reducible exact ih0 _ _ _)
   | (with_reducible exact LeO.refl _)
   | (with_reducible exact LeO.none _)
   | (with_reducible refine LeO.ite ?_ ?_)
   | (with_reducible refine LeO.bind ?_ (fun _=>?_))
   | exact ih0 _ _ _
   | exact LeO.none _
   | refine LeO.ite ?_ ?_
   | refine LeO.bind ?_ (fun _=>?_)
theorem laws_markFracS.calls (k:Nat) (P0_:Nat→Prop) (u9000_:Value) (l0:List (S93)) (a1:Int) (r1:Int) (r2:List (S93)) (w0 w:World) (hB:Below w0.heap.size w0 w) (ho0:Kd.R k93 93 w w0.heap.size P0_ u9000_ l0) (h:laws_markFracS.f k l0 a1=some (r1,r2)):
  Calls Try.prog 19 #[u9000_, .int .i64 a1] w fun e w'=>e= .returned (.int .i64 r1)∧Kd.R k93 93 w' w0.heap.size (fun k_=>(P0_ k_∨w.heap.size≤k_)) u9000_ r2∧Below w0.heap.size w0 w'∧Kept w w' (fun k_=>P0_ k_):=by
 have ax:=Aside0.mk (show Kd.R k93 93 w w0.heap.size (fun k_=>(P0_ k_∨w.heap.size≤k_)) u9000_ l0 from Kd.R_mono ho0 (fun k_ hk=>(.inl hk)))
 have HK:=Aside0.mk (Kept.refl w (fun k_=>P0_ k_))
 have HW0:=Aside0.mk hB.size
 have HB:=Aside0.mk hB
 clear hB
 have H:(laws_markFracS.l0 k l0 a1 0)=some (r1,r2):=h
 clear h
 have H':=Aside0.mk H
 clear H
 go_enter Try.func19,Try.ntmps19
 go_wp2
 go_loopg [1,5] k (fun kq v1 v5 w'=> ∃(ae:List (S93)) (ag:Int) (aa:Int),v1= .int .i64 ag∧v5= .int .i64 aa∧Aside0 (laws_markFracS.l0 kq ae ag aa=some (r1,r2))∧Aside0 (kq≤k)∧Aside0 (Kd.R k93 93 w' w0.heap.size (fun k_=>(P0_ k_∨w.heap.size≤k_)) u9000_ ae)∧Aside0 (Kept w w' (fun k_=>P0_ k_))∧Aside0 (Below w0.heap.size w0 w'))
 case atStart=>exact⟨(l0),(a1),(0),rs_,rs_,H',⟨Nat.le_refl _⟩,⟨ro_ ax.out⟩,⟨by repeat (first | (with_reducible first | exact HK.out | apply Kept.alloc | apply Kept.drewN | apply Kept.drew) | exact HK.out)⟩,⟨hb_⟩⟩
 case round=>
  clear H'
  try clear c1
  try clear p2
  obtain⟨ae,ag,aa,rfl,rfl,HA,HK1,af,HK,HB⟩:=hrel
  cases gk with
  | zero=>exact absurd HA.out (by simp [laws_markFracS.l0])
  | succ k1=>
   have H:=HA.out
   clear HA
   simp only [laws_markFracS.l0] at H
   by_cases c3:aa < (ae.length:Int)
   ·rw [if_pos c3] at H
    have c3b0:decide (aa < (ae.length:Int))=true:=decide_eq_true c3
    clear c3
    by_cases c4:0≤aa
    ·rw [if_pos c4] at H
     have c4b0:decide (0≤aa)=true:=decide_eq_true c4
     clear c4
     obtain⟨ah,hy145⟩: ∃y_:List (S93),y_=(ae.set (aa:Int).toNat (⟨ag,(rd_T93 ae aa).f1⟩:S93)):=⟨_,rfl⟩
     replace H:(laws_markFracS.l0 k1 (ah.set (aa:Int).toNat (⟨(rd_T93 ah aa).f0,wrap64 (ag+1)⟩:S93)) (wrap64 ((wrap64 (ag+1))+1)) (wrap64 (aa+1)))=some (r1,r2):=by first | (rw [hy145];with_reducible exact H) | (have H2_:=(Option.bind_some _ _).symm.trans H;rw [hy145];with_reducible exact H2_) | (have H2_:=(Option.bind_some _ _).symm.trans H;with_reducible exact H2_) | with_reducible exact H | (rw [hy145];exact H) | exact H
     have ak:=Aside0.mk hy145
     clear hy145
     obtain⟨ai,hy146⟩: ∃y_:List (S93),y_=(ah.set (aa:Int).toNat (⟨(rd_T93 ah aa).f0,wrap64 (ag+1)⟩:S93)):=⟨_,rfl⟩
     replace H:(laws_markFracS.l0 k1 ai (wrap64 ((wrap64 (ag+1))+1)) (wrap64 (aa+1)))=some (r1,r2):=by first | (rw [hy146];with_reducible exact H) | (have H2_:=(Option.bind_some _ _).symm.trans H;rw [hy146];with_reducible exact H2_) | (have H2_:=(Option.bind_some _ _).symm.trans H;with_reducible exact H2_) | with_reducible exact H | (rw [hy146];exact H) | exact H
     have aq:=Aside0.mk hy146
     clear hy146
     have H':=Aside0.mk H
     clear H
     obtain⟨aC,aj,ay⟩:=Kd.R_slice af.out
     subst ay
     have p5:0≤(aa:Int):=od_
     have q5:(aa:Int) < ((ae.length:Int):Int):=od_
     obtain⟨go5,aD,au,av,gl5,cl5,HG5⟩:=Kd.R_form af.out (by omega)
     (first | cases au | (injection au with ea_ en_ ec_;(first | subst ea_ | (injection ea_ with ea_;subst ea_));subst ec_;clear en_))
     have GB5:=Aside0.mk av
     have GG5:=Aside0.mk HG5
     clear av gl5 HG5
     have HMgo5:=Aside0.mk (show (P0_ go5∨w.heap.size≤go5) from (af.out.1 _ rfl))
     obtain⟨ce5,hcl5,hM5,hcc5,hfr5⟩:=Kd.R_elem af.out z93 (aa:Int) p5 q5
     obtain rfl:=k93_openM hM5
     have hx5_0:wr.cell? ⟨go5,(aa:Int).toNat*2,none⟩=some (.int .i64 ((rd_T93 ae aa).f0)):=hcc5 0 _ rfl
     have hx5_1:wr.cell? ⟨go5,(aa:Int).toNat*2+1,none⟩=some (.int .i64 ((rd_T93 ae aa).f1)):=hcc5 1 _ rfl
     have hf5_0:wr.frozen? ⟨go5,(aa:Int).toNat*2,none⟩=false:=hfr5 0
     have hf5_1:wr.frozen? ⟨go5,(aa:Int).toNat*2+1,none⟩=false:=hfr5 1
     (try clear hcl5);(try clear hcc5);(try clear hfr5);(try clear hM5)
     replace p5:=eq_true p5
     replace q5:=eq_true q5
     have HX8:=Aside0.mk (show Kd.R k93 93 wr w0.heap.size (fun k_=>(P0_ k_∨w.heap.size≤k_)) (.slice (some ⟨go5,0,none⟩) ae.length aj) ae from (ro_ af.out))
     obtain⟨ce8,hcl8,hM8,hcc8,hfr8⟩:=Kd.R_elem HX8.out z93 (aa:Int) od_ (by have h_:(aa:Int) < ((ae.length:Int):Int):=od_;first | exact h_ | (have e_:=(Kd.R_reads' af.out).1;omega) | simpa using h_)
     obtain rfl:=k93_openM hM8
     have HP8:=Kd.R_seg HX8.out (aa:Int) od_ (by have h_:(aa:Int) < ((ae.length:Int):Int):=od_;first | exact h_ | (have e_:=(Kd.R_reads' af.out).1;omega) | simpa using h_) (seg:= [.int .i64 ag]) (j:=0) hcl8 hcc8 (show 1≤2 from by decide) (x':=(⟨ag,(rd_T93 ae aa).f1⟩:S93)) (k93_mkM _ _ _ (⟨ag,(rd_T93 ae aa).f1⟩:S93)) (fun _ hk=>hk)
     have hx8_0:=hcc8 0 _ rfl
     (try simp only [show (k93).sz=2 from rfl,Nat.mul_one,Nat.add_zero] at hx8_0)
     have hf8_0:=hfr8 0
     (try simp only [show (k93).sz=2 from rfl,Nat.mul_one,Nat.add_zero] at hf8_0)
     (try clear hcl8);(try clear hcc8);(try clear hfr8);(try clear hM8)
     go_wp2_with (first | ((with_reducible refine gate_store (t:=2) (p:=16) rfl ?_);refine store_event (t:=2) (p:=16) (v:=?vo_w9) (w1:=(wr.setCell ⟨go5,(aa:Int).toNat*2,none⟩ (.int .i64 ag))) ?hg ?ho ?hn ?hr ?_;(case ho=>rfl);(case hg=>rfl);(case hn=>rfl);(case hr=>first | (go_simp;done) | (go_simp;rfl));intro w9 hw;have hg:wr.grownBy w9 (some go5):=(by rw [hw];exact HP8.2);have hp_:Kd.R k93 93 w9 w0.heap.size (fun k_=>(P0_ k_∨w.heap.size≤k_)) (.slice (some ⟨go5,0,none⟩) ae.length aj) ah:=(by rw [hw,ak.out];exact HP8.1);clear HP8;replace HB:=Aside0.mk ((by rw [hw];exact below_set (HB.out) GB5.out:Below w0.heap.size w0 w9));replace HK:=Aside0.mk (Kept.of_grown (S:=(fun k_=>P0_ k_)) hg (by repeat (first | (with_reducible first | exact HK.out | apply Kept.alloc | apply Kept.drewN | apply Kept.drew) | exact HK.out)) (fun k_ e_=>(af.out.1 k_ e_)));replace af:=Aside0.mk (hp_);clear hg hw hp_;have p6:0≤(aa:Int):=od_;have q6:(aa:Int) < ((ae.length:Int):Int):=od_;obtain⟨ce6,hcl6,hM6,hcc6,hfr6⟩:=Kd.R_elem af.out z93 (aa:Int) p6 q6;obtain rfl:=k93_openM hM6;have hx6_0:w9.cell? ⟨go5,(aa:Int).toNat*2,none⟩=some (.int .i64 ((rd_T93 ah aa).f0)):=hcc6 0 _ rfl;have hx6_1:w9.cell? ⟨go5,(aa:Int).toNat*2+1,none⟩=some (.int .i64 ((rd_T93 ah aa).f1)):=hcc6 1 _ rfl;have hf6_0:w9.frozen? ⟨go5,(aa:Int).toNat*2,none⟩=false:=hfr6 0;have hf6_1:w9.frozen? ⟨go5,(aa:Int).toNat*2+1,none⟩=false:=hfr6 1;(try clear hcl6);(try clear hcc6);(try clear hfr6);(try clear hM6);replace p6:=eq_true p6;replace q6:=eq_true q6;have HX10:=Aside0.mk (show Kd.R k93 93 w9 w0.heap.size (fun k_=>(P0_ k_∨w.heap.size≤k_)) (.slice (some ⟨go5,0,none⟩) ae.length aj) ah from (ro_ af.out));obtain⟨ce10,hcl10,hM10,hcc10,hfr10⟩:=Kd.R_elem HX10.out z93 (aa:Int) od_ (by have h_:(aa:Int) < ((ae.length:Int):Int):=od_;first | exact h_ | (have e_:=(Kd.R_reads' af.out).1;omega) | simpa using h_);obtain rfl:=k93_openM hM10;have HP10:=Kd.R_seg HX10.out (aa:Int) od_ (by have h_:(aa:Int) < ((ae.length:Int):Int):=od_;first | exact h_ | (have e_:=(Kd.R_reads' af.out).1;omega) | simpa using h_) (seg:= [.int .i64 (wrap64 (ag+1))]) (j:=1) hcl10 hcc10 (show 2≤2 from by decide) (x':=(⟨(rd_T93 ah aa).f0,wrap64 (ag+1)⟩:S93)) (k93_mkM _ _ _ (⟨(rd_T93 ah aa).f0,wrap64 (ag+1)⟩:S93)) (fun _ hk=>hk);have hx10_1:=hcc10 1 _ rfl;(try simp only [show (k93).sz=2 from rfl,Nat.mul_one,Nat.add_zero] at hx10_1);have hf10_1:=hfr10 1;(try simp only [show (k93).sz=2 from rfl,Nat.mul_one,Nat.add_zero] at hf10_1);(try clear hcl10);(try clear hcc10);(try clear hfr10);(try clear hM10)) | ((with_reducible refine gate_store (t:=2) (p:=23) rfl ?_);refine store_event (t:=2) (p:=23) (v:=?vo_w11) (w1:=(w9.setCell ⟨go5,(aa:Int).toNat*2+1,none⟩ (.int .i64 (wrap64 (ag+1))))) ?hg ?ho ?hn ?hr ?_;(case ho=>rfl);(case hg=>rfl);(case hn=>rfl);(case hr=>first | (go_simp;done) | (go_simp;rfl));intro w11 hw;have hg:w9.grownBy w11 (some go5):=(by rw [hw];exact HP10.2);have hp_:Kd.R k93 93 w11 w0.heap.size (fun k_=>(P0_ k_∨w.heap.size≤k_)) (.slice (some ⟨go5,0,none⟩) ae.length aj) ai:=(by rw [hw,aq.out];exact HP10.1);clear HP10;replace HB:=Aside0.mk ((by rw [hw];exact below_set (HB.out) GB5.out:Below w0.heap.size w0 w11));replace HK:=Aside0.mk (Kept.of_grown (S:=(fun k_=>P0_ k_)) hg (by repeat (first | (with_reducible first | exact HK.out | apply Kept.alloc | apply Kept.drewN | apply Kept.drew) | exact HK.out)) (fun k_ e_=>(af.out.1 k_ e_)));replace af:=Aside0.mk (hp_);clear hg hw hp_))
     go_roundg k1
     case measure=>have:=HK1.out;omega
     case rel=>exact⟨(ai),(wrap64 ((wrap64 (ag+1))+1)),(wrap64 (aa+1)),rs_,rs_,H',⟨by have:=HK1.out;omega⟩,⟨ro_ af.out⟩,⟨by repeat (first | (with_reducible first | exact HK.out | apply Kept.alloc | apply Kept.drewN | apply Kept.drew) | exact HK.out)⟩,⟨hb_⟩⟩
    ·rw [if_neg c4] at H
     exact absurd H (by simp)
   ·rw [if_neg c3] at H
    have c3b0:decide (aa < (ae.length:Int))=false:=decide_eq_false c3
    clear c3
    simp only [Option.some.injEq,Prod.mk.injEq] at H
    obtain⟨rfl,rfl⟩:=H
    obtain⟨az,aA,aw⟩:=Kd.R_slice af.out
    subst aw
    go_wp2
    go_ret
    exact⟨by first | rfl | (simp [errW_none,errW_some] <;> rfl) | (simp [*,errW_none,errW_some] <;> rfl),ro_ af.out,by repeat (first | (with_reducible first | exact HB.out | apply below_alloc | apply pw_below_drewN | apply below_drew1) | exact HB.out),by repeat (first | (with_reducible first | exact HK.out | apply Kept.alloc | apply Kept.drewN | apply Kept.drew) | exact HK.out)⟩
def laws_heldFracS.l0:Nat→List (S93)→Int→Int→Option (Int)
 | 0,_,_,_=>none
 | k+1,x0,x1,x5=>if x5 < (x0.length:Int) then(if 0≤x5 then(if((rd_T93 x0 x5).f0)=x1 then(if((rd_T93 x0 x5).f1)=(wrap64 (x1+1)) then(laws_heldFracS.l0 k x0 (wrap64 ((wrap64 (x1+1))+1)) (wrap64 (x5+1))) else(some (-1))) else(some (-1))) else(none)) else(some x1)
def laws_heldFracS.f (k:Nat) (l0:List (S93)) (a1:Int):Option (Int):=laws_heldFracS.l0 k l0 a1 0
theorem laws_heldFracS.mono_l: ∀k,(∀y0 y1 y2,LeO (laws_heldFracS.l0 k y0 y1 y2) (laws_heldFracS.l0 (k+1) y0 y1 y2))
 | 0=>fun _ _ _ r h=>by simp [laws_heldFracS.l0] at h
 | k+1=>by
  have ih0:=laws_heldFracS.mono_l k
  ·intro y0 y1 y2
   unfold laws_heldFracS.l0
   repeat' first
   | (with_reducible exact ih0 _ _ _)
   | (with_reducible exact LeO.refl _)
   | (with_reducible exact LeO.none _)
   | (with_reducible refine LeO.ite ?_ ?_)
   | (with_reducible refine LeO.bind ?_ (fun _=>?_))
   | exact ih0 _ _ _
   | exact LeO.none _
   | refine LeO.ite ?_ ?_
   | refine LeO.bind ?_ (fun _=>?_)
theorem laws_heldFracS.mono: ∀a0 a1 k,LeO (laws_heldFracS.f k a0 a1) (laws_heldFracS.f (k+1) a0 a1):=by
 intro a0 a1 k
 have ih0:=laws_heldFracS.mono_l k
 unfold laws_heldFracS.f
 repeat' first
   | (with_reducible exact ih0 _ _ _)
   | (with_reducible exact LeO.refl _)
   | (with_reducible exact LeO.none _)
   | (with_reducible refine LeO.ite ?_ ?_)
   | (with_reducible refine LeO.bind ?_ (fun _=>?_))
   | exact ih0 _ _ _
   | exact LeO.none _
   | refine LeO.ite ?_ ?_
   | refine LeO.bind ?_ (fun _=>?_)
theorem laws_heldFracS.calls (k:Nat) (A0:Option Addr) (c0:Nat) (l0:List (S93)) (a1:Int) (r:Int) (w:World) (hr0:Kd.C k93 w A0 l0.length l0) (hc0:l0.length≤c0) (h:laws_heldFracS.f k l0 a1=some r):
  Calls Try.prog 20 #[.slice A0 l0.length c0, .int .i64 a1] w fun e w'=>e= .returned (.int .i64 r)∧Drawn0 w w':=by
 have HR0:=Aside0.mk hr0
 have HC0:=Aside0.mk hc0
 clear hr0 hc0
 have H:(laws_heldFracS.l0 k l0 a1 0)=some r:=h
 clear h
 have H':=Aside0.mk H
 clear H
 go_enter Try.func20,Try.ntmps20
 go_wp2
 go_loopg [1,5] k (fun kq v1 v5 w'=> ∃(ae:Int) (aa:Int),v1= .int .i64 ae∧v5= .int .i64 aa∧Aside0 (laws_heldFracS.l0 kq l0 ae aa=some r)∧Aside0 (kq≤k)∧Drawn0 w w')
 case atStart=>exact⟨(a1),(0),rs_,rs_,H',⟨Nat.le_refl _⟩,by repeat (first | exact Drawn0.refl _ | apply Drawn0.step)⟩
 case round=>
  clear H'
  try clear c2
  try clear p2
  obtain⟨ae,aa,rfl,rfl,HA,HK1,⟨m1,rfl⟩⟩:=hrel
  cases gk with
  | zero=>exact absurd HA.out (by simp [laws_heldFracS.l0])
  | succ k1=>
   have H:=HA.out
   clear HA
   simp only [laws_heldFracS.l0] at H
   by_cases c3:aa < (l0.length:Int)
   ·rw [if_pos c3] at H
    have c3b0:decide (aa < (l0.length:Int))=true:=decide_eq_true c3
    clear c3
    by_cases c4:0≤aa
    ·rw [if_pos c4] at H
     have c4b0:decide (0≤aa)=true:=decide_eq_true c4
     clear c4
     by_cases c5:((rd_T93 l0 aa).f0)=ae
     ·rw [if_pos c5] at H
      have c5b0:(((rd_T93 l0 aa).f0)==ae)=true:=beq_iff_eq.mpr c5
      have c5b1:(((rd_T93 l0 aa).f0) !=ae)=false:=bne_eq_false_iff_eq.mpr c5
      clear c5
      by_cases c6:((rd_T93 l0 aa).f1)=(wrap64 (ae+1))
      ·rw [if_pos c6] at H
       have c6b0:(((rd_T93 l0 aa).f1)==(wrap64 (ae+1)))=true:=beq_iff_eq.mpr c6
       have c6b1:(((rd_T93 l0 aa).f1) !=(wrap64 (ae+1)))=false:=bne_eq_false_iff_eq.mpr c6
       clear c6
       have H':=Aside0.mk H
       clear H
       have p147:0≤(aa:Int):=od_
       have q147:aa < (l0.length:Int):=od_
       obtain⟨af,e147,hx147_0,hx147_1⟩:=at_T93 HR0.out aa p147 q147
       cases e147
       replace p147:=eq_true p147
       replace q147:=eq_true q147
       have p148:0≤(aa:Int):=od_
       have q148:aa < (l0.length:Int):=od_
       obtain⟨ag,e148,hx148_0,hx148_1⟩:=at_T93 HR0.out aa p148 q148
       obtain rfl:af=ag:=(by injection e148)
       replace p148:=eq_true p148
       replace q148:=eq_true q148
       go_wp2
       go_roundg k1
       case measure=>have:=HK1.out;omega
       case rel=>exact⟨(wrap64 ((wrap64 (ae+1))+1)),(wrap64 (aa+1)),rs_,rs_,H',⟨by have:=HK1.out;omega⟩,by repeat (first | exact Drawn0.refl _ | apply Drawn0.step)⟩
      ·rw [if_neg c6] at H
       have c6b0:(((rd_T93 l0 aa).f1)==(wrap64 (ae+1)))=false:=beq_eq_false_iff_ne.mpr c6
       have c6b1:(((rd_T93 l0 aa).f1) !=(wrap64 (ae+1)))=true:=bne_iff_ne.mpr c6
       obtain rfl:=Option.some.inj H
       have p147:0≤(aa:Int):=od_
       have q147:aa < (l0.length:Int):=od_
       obtain⟨af,e147,hx147_0,hx147_1⟩:=at_T93 HR0.out aa p147 q147
       cases e147
       replace p147:=eq_true p147
       replace q147:=eq_true q147
       have p148:0≤(aa:Int):=od_
       have q148:aa < (l0.length:Int):=od_
       obtain⟨ag,e148,hx148_0,hx148_1⟩:=at_T93 HR0.out aa p148 q148
       obtain rfl:af=ag:=(by injection e148)
       replace p148:=eq_true p148
       replace q148:=eq_true q148
       go_wp2
       go_ret
       exact⟨by first | rfl | (simp;done) | (simp [*];done),by repeat (first | exact Drawn0.refl _ | apply Drawn0.step)⟩
     ·rw [if_neg c5] at H
      have c5b0:(((rd_T93 l0 aa).f0)==ae)=false:=beq_eq_false_iff_ne.mpr c5
      have c5b1:(((rd_T93 l0 aa).f0) !=ae)=true:=bne_iff_ne.mpr c5
      obtain rfl:=Option.some.inj H
      have p147:0≤(aa:Int):=od_
      have q147:aa < (l0.length:Int):=od_
      obtain⟨af,e147,hx147_0,hx147_1⟩:=at_T93 HR0.out aa p147 q147
      cases e147
      replace p147:=eq_true p147
      replace q147:=eq_true q147
      go_wp2
      go_ret
      exact⟨by first | rfl | (simp;done) | (simp [*];done),by repeat (first | exact Drawn0.refl _ | apply Drawn0.step)⟩
    ·rw [if_neg c4] at H
     exact absurd H (by simp)
   ·rw [if_neg c3] at H
    have c3b0:decide (aa < (l0.length:Int))=false:=decide_eq_false c3
    clear c3
    obtain rfl:=Option.some.inj H
    go_wp2
    go_ret
    exact⟨by first | rfl | (simp;done) | (simp [*];done),by repeat (first | exact Drawn0.refl _ | apply Drawn0.step)⟩
def spec_l01Own.f (l0:List Int):Option (List Int):=(some (([]:List Int):List Int)).bind fun aa=>(if aa.length+l0.length < 17592186044416 then(some (aa++l0)) else(none))
theorem spec_l01Own.calls (A0:Option Addr) (c0:Nat) (l0:List Int) (r:List Int) (w:World) (hr0:Kd.C (Kd.int .i64) w A0 l0.length l0) (hc0:l0.length≤c0) (h:spec_l01Own.f l0=some r):
  Calls Try.prog 150 #[.slice A0 l0.length c0] w fun e w'=> ∃v0_:Value,e= .returned (v0_)∧Kd.R (Kd.int .i64) 2 w' w.heap.size (fun _=>True) v0_ r∧Below w.heap.size w w':=by
 have HR0:=Aside0.mk hr0
 have HC0:=Aside0.mk hc0
 clear hr0 hc0
 have HB:=Aside0.mk (Below.refl w.heap.size w)
 have H:((some (([]:List Int):List Int)).bind fun aa=>(if aa.length+l0.length < 17592186044416 then(some (aa++l0)) else(none)))=some r:=h
 clear h
 obtain⟨aa,hy149⟩: ∃y_:List Int,y_=(([]:List Int)):=⟨_,rfl⟩
 replace H:(if aa.length+l0.length < 17592186044416 then(some (aa++l0)) else(none))=some r:=by first | (rw [hy149];with_reducible exact H) | (have H2_:=(Option.bind_some _ _).symm.trans H;rw [hy149];with_reducible exact H2_) | (have H2_:=(Option.bind_some _ _).symm.trans H;with_reducible exact H2_) | with_reducible exact H | (rw [hy149];exact H) | exact H
 have ae:=Aside0.mk hy149
 clear hy149
 by_cases c2:aa.length+l0.length < 17592186044416
 ·rw [if_pos c2] at H
  have ai:=Aside0.mk c2
  clear c2
  obtain⟨aj,hy152⟩: ∃y_:List Int,y_=(aa++l0):=⟨_,rfl⟩
  replace H:(some aj)=some r:=by first | (rw [hy152];with_reducible exact H) | (have H2_:=(Option.bind_some _ _).symm.trans H;rw [hy152];with_reducible exact H2_) | (have H2_:=(Option.bind_some _ _).symm.trans H;with_reducible exact H2_) | with_reducible exact H | (rw [hy152];exact H) | exact H
  have ag:=Aside0.mk hy152
  clear hy152
  obtain rfl:=Option.some.inj H
  go_enter Try.func150,Try.ntmps150
  go_wp2_with (first | ((with_reducible refine gate_dst (N:=3) rfl ?_);refine Kd.R_lit (Kd.int .i64) _ 2 ?hg (N:=3) ?hd (xs:=([]:List Int)) (inner:= []) (ok:=fun _=>True) (okp:=fun _=>True) ?hr ?hp (fun _ hk=>hk) trivial (Below.refl _ _) (Nat.le_refl _) (by simp) ?_;(case hd=>rfl);(case hg=>rfl);(case hr=>first | (go_simp;done) | (go_simp;rfl));(case hp=>exact(Reps.none _ _));intro ak w3 ho4 hb hg_ hnew_;clear hg_ hnew_;(first | rw [← ae.out] at ho4 | (simp only [Int.reduceToNat] at ho4;rw [← ae.out] at ho4));have af:=Aside0.mk (Kd.R_lower ho4 bz_);replace HB:=Aside0.mk (bs_ hb);clear hb ho4) | ((with_reducible refine gate_builtin (b:= .append) (xs:= #[.tmp 3, .tmp 4]) rfl ?_);at_builtin;refine Kd.R_append_rows (Kd.int .i64) (w0:=w) w.heap.size rfl (.tmp 3) (.tmp 4) 23 2 (.int .i64 0) 8 rfl Try.underlying23 info2 rfl (by decide) (by omega) ak aa l0 _ _ _ (fun _=>True) (fun _=>False) rfl rfl ?aO ?aR (fun _ _ h=>h) (fun _ h=>h.elim) ?aF ?aB ?aS ?aL ?_;(case aR=>exact cb_ HR0.out HB.out);(case aB=>exact hb_);(case aF=>exact(fun _ _=>trivial));(case aO=>exact(ro_ af.out));(case aS=>exact bz_);(case aL=>have:=ai.out;omega);intro aq w5 ho hb hg hat;rw [← ag.out] at ho;replace HB:=Aside0.mk (hb);have ah:=Aside0.mk (ho);clear af ho hb hg hat))
  go_ret
  exact⟨_,by first | rfl | (simp [errW_none,errW_some] <;> rfl) | (simp [*,errW_none,errW_some] <;> rfl),ro_ ah.out,hb_⟩
 ·rw [if_neg c2] at H
  exact absurd H (by simp)
def impl_within.f (a0:Int) (a1:Int) (a2:Int):Option (Bool):=if a0 ≥ a1 then(some (decide (a0≤a2))) else(some false)
theorem impl_within.calls (a0:Int) (a1:Int) (a2:Int) (r:Bool) (w:World) (h:impl_within.f a0 a1 a2=some r):
  Calls Try.prog 117 #[.int .i64 a0, .int .i64 a1, .int .i64 a2] w fun e w'=>e= .returned (.bool r)∧Drawn0 w w':=by
 have H:(if a0 ≥ a1 then(some (decide (a0≤a2))) else(some false))=some r:=h
 clear h
 by_cases c4:a0 ≥ a1
 ·rw [if_pos c4] at H
  have c4b0:decide (a1≤a0)=true:=decide_eq_true c4
  clear c4
  obtain rfl:=Option.some.inj H
  go_enter Try.func117,Try.ntmps117
  go_wp2
  go_ret
  exact⟨by first | rfl | (simp;done) | (simp [*];done),by repeat (first | exact Drawn0.refl _ | apply Drawn0.step)⟩
 ·rw [if_neg c4] at H
  have c4b0:decide (a1≤a0)=false:=decide_eq_false c4
  clear c4
  obtain rfl:=Option.some.inj H
  go_enter Try.func117,Try.ntmps117
  go_wp2
  go_ret
  exact⟨by first | rfl | (simp;done) | (simp [*];done),by repeat (first | exact Drawn0.refl _ | apply Drawn0.step)⟩
def impl_size.f (a0:Int):Option (Int):=some (mx a0 (wrap64 (-a0)))
theorem impl_size.calls (a0:Int) (r:Int) (w:World) (h:impl_size.f a0=some r):
  Calls Try.prog 205 #[.int .i64 a0] w fun e w'=>e= .returned (.int .i64 r)∧Below w.heap.size w w':=by
 have HB:=Aside0.mk (Below.refl w.heap.size w)
 have H:(some (mx a0 (wrap64 (-a0))))=some r:=h
 clear h
 obtain⟨ji2,hji2⟩: ∃j_:Int,(mx a0 (wrap64 (-a0)))=j_:=⟨_,rfl⟩
 replace H:(some ji2)=some r:=by first | (rw [hji2] at H;exact H) | (simp only [hji2] at H ⊢;exact H)
 have hji2_:(if a0 < (wrap64 (-a0)) then(wrap64 (-a0)) else a0)=ji2:=hji2
 obtain rfl:=Option.some.inj H
 go_enter Try.func205,Try.ntmps205
 go_wp2
 go_ret
 exact⟨by first | rfl | (simp [errW_none,errW_some] <;> rfl) | (simp only [← hji2];first | rfl | (simp [errW_none,errW_some] <;> rfl)) | (simp [*,errW_none,errW_some] <;> rfl),hb_⟩
end Go.Proofs.Ytmpkckiifeikkaa.Pr
end
section
namespace Go.Proofs.Ytmpkckiifeikkaa.Lw
open Go.RowKit Go.Proofs.YtmpkckiifeikkaaW.PrintWords Go.Proofs.YtmpkckiifeikkaaW.PrintLast Go.Proofs.YtmpkckiifeikkaaW.PrintMore Go.Proofs.Ytmpkckiifeikkaa.Pr Go.Proofs.Ytmpkckiifeikkaa.La Go.Proofs.Ytmpkckiifeikkaa.Ma Go.Proofs.Ytmpkckiifeikkaa.Hm
theorem mark_UR (A:Option Addr) (c:Nat) (l:List Int) {w0 w:World} {lo:Nat} (hi:Nat) (n m:Int) (hB:Below w0.heap.size w0 w) (h:UR (Kd.int .i64) 2 w0 w lo hi (.slice A l.length c) l) (h0:0≤n) (h1:n+l.length≤1099511627776) (hm:m=n+l.length):
  Calls Try.prog 18 #[.slice A l.length c, .int .i64 n] w fun e w'=>e= .returned (.int .i64 m)∧UR (Kd.int .i64) 2 w0 w' lo hi (.slice A l.length c) (count n l.length)∧Below w0.heap.size w0 w'∧Frm w w' lo hi:=by
 subst hm
 obtain⟨k,hk⟩:=evk (markI l n (by omega) h0 (by omega))
 refine(laws_markInt64S.calls k _ _ l n _ _ w0 w hB h hk).mono ?_
 rintro e w' ⟨rfl,hS,hB',hK⟩
 exact⟨rfl,⟨h.1,hS.2⟩,hB',Frm.kept hK (fun _ hk=>hk)⟩
def cntF (n:Int) (m:Nat):List S93:=(List.range m).map fun(i:Nat)=>⟨n+2*(i:Int),n+2*(i:Int)+1⟩
theorem cntF_length (n:Int) (m:Nat):(cntF n m).length=m:=by simp [cntF]
theorem markF (l:List S93) (n:Int) (hl:l.length≤1099511627776) (h0:0≤n) (h1:n≤1099511627776):Ev (fun k=>laws_markFracS.f k l n) (n+2*l.length,cntF n l.length):=by
 have key: ∀(m i:Nat),i+m=l.length→Ev (fun k=>laws_markFracS.l0 k (cntF n i++l.drop i) (n+2*i) i) (n+2*l.length,cntF n l.length):=by
  intro m
  induction m with
  | zero=>
   intro i hi
   refine evstep (fun k=>by rw [laws_markFracS.l0]) (evneg (by simp [cntF_length];omega) (evc ?_))
   have e:i=l.length:=by omega
   subst e
   rw [List.drop_of_length_le (Nat.le_refl _),List.append_nil]
  | succ m ih=>
   intro i hi
   refine evstep (fun k=>by rw [laws_markFracS.l0]) (evpos (by simp [cntF_length];omega) (evpos (by omega) ?_))
   refine evsome rfl ?_
   have hlt:i < l.length:=by omega
   have s (x y:S93):(cntF n i++x::l.drop (i+1)).set i y=cntF n i++y::l.drop (i+1):=by
    have:=set_append_nat (cntF n i) (l.drop (i+1)) y x
    rwa [cntF_length] at this
   rw [Int.toNat_natCast,List.drop_eq_getElem_cons hlt,s,s]
   have e:(rd_T93 (cntF n i++(⟨n+2*i,(rd_T93 (cntF n i++l[i]::l.drop (i+1)) (i:Int)).f1⟩:S93)::l.drop (i+1)) (i:Int)).f0=n+2*i:=by
    simp [rd_T93,cntF_length,List.getElem?_append_right]
   rw [e,w64 (x:=n+2*(i:Int)+1) (by omega) (by omega),w64 (x:=n+2*(i:Int)+1+1) (by omega) (by omega),w64 (x:=(i:Int)+1) (by omega) (by omega)]
   have h2:=ih (i+1) (by omega)
   rw [show n+2*((i+1:Nat):Int)=n+2*i+1+1 from by omega,show cntF n (i+1)=cntF n i++ [⟨n+2*i,n+2*i+1⟩] from by simp [cntF,List.range_succ],List.append_assoc] at h2
   exact h2
 have:=key l.length 0 (by omega)
 simpa [laws_markFracS.f,cntF] using this
theorem mark_UF (A:Option Addr) (c:Nat) (l:List S93) {w0 w:World} {lo:Nat} (hi:Nat) (n m:Int) (hB:Below w0.heap.size w0 w) (h:UR k93 93 w0 w lo hi (.slice A l.length c) l) (h0:0≤n) (h1:n+2*l.length≤1099511627776) (hm:m=n+2*l.length):
  Calls Try.prog 19 #[.slice A l.length c, .int .i64 n] w fun e w'=>e= .returned (.int .i64 m)∧UR k93 93 w0 w' lo hi (.slice A l.length c) (cntF n l.length)∧Below w0.heap.size w0 w'∧Frm w w' lo hi:=by
 subst hm
 obtain⟨k,hk⟩:=evk (markF l n (by omega) h0 (by omega))
 refine(laws_markFracS.calls k _ _ l n _ _ w0 w hB h hk).mono ?_
 rintro e w' ⟨rfl,hS,hB',hK⟩
 exact⟨rfl,⟨h.1,hS.2⟩,hB',Frm.kept hK (fun _ hk=>hk)⟩
end Go.Proofs.Ytmpkckiifeikkaa.Lw
end
section
namespace Go.Proofs.Ytmpkckiifeikkaa.Dt
abbrev Mat:=Nat→Nat→Int
def sm:Nat→(Nat→Int)→Int
 | 0,_=>0
 | n+1,f=>sm n f+f n
theorem sm_congr {n:Nat} {f g:Nat→Int} (h: ∀i,i < n→f i=g i):sm n f=sm n g:=by
 induction n with
 | zero=>rfl
 | succ n ih=>simp only [sm];rw [ih (fun i hi=>h i (by omega)),h n (by omega)]
theorem sm_add (n:Nat) (f g:Nat→Int):sm n (fun i=>f i+g i)=sm n f+sm n g:=by
 induction n with
 | zero=>rfl
 | succ n ih=>simp only [sm];rw [ih];omega
theorem sm_mul (n:Nat) (c:Int) (f:Nat→Int):sm n (fun i=>c*f i)=c*sm n f:=by
 induction n with
 | zero=>simp [sm]
 | succ n ih=>simp only [sm];rw [ih,Int.mul_add]
theorem sm_mulr (n:Nat) (c:Int) (f:Nat→Int):sm n (fun i=>f i*c)=sm n f*c:=by
 rw [Int.mul_comm, ← sm_mul];exact sm_congr (fun i _=>Int.mul_comm _ _)
theorem sm_zero (n:Nat):sm n (fun _=>0)=0:=by
 induction n with
 | zero=>rfl
 | succ n ih=>simp only [sm];rw [ih];rfl
theorem sm_none {n:Nat} {f:Nat→Int} (h: ∀i,i < n→f i=0):sm n f=0:=by rw [sm_congr h,sm_zero]
theorem sm_one {n:Nat} {f:Nat→Int} {k:Nat} (hk:k < n) (h: ∀i,i < n→i≠k→f i=0):sm n f=f k:=by
 induction n with
 | zero=>omega
 | succ n ih=>
  simp only [sm]
  by_cases c:k=n
  ·subst c
   rw [sm_none (fun i hi=>h i (by omega) (by omega))];omega
  ·rw [ih (by omega) (fun i hi=>h i (by omega)),h n (by omega) (by omega)];omega
theorem sm_two {n:Nat} {f:Nat→Int} {k l:Nat} (hk:k < n) (hl:l < n) (hkl:k≠l) (h: ∀i,i < n→i≠k→i≠l→f i=0):sm n f=f k+f l:=by
 have e:sm n f=sm n (fun i=>(if i=k then f i else 0)+(if i=k then 0 else f i)):=sm_congr (fun i _=>by split <;> omega)
 rw [e,sm_add,sm_one hk (fun i _ hi=>by simp [hi]),sm_one hl]
 ·simp [Ne.symm hkl]
 ·intro i hi hil
  by_cases c:i=k
  ·simp [c]
  ·simp [c,h i hi c hil]
theorem sm_swap (n m:Nat) (f:Nat→Nat→Int):sm n (fun i=>sm m (f i))=sm m (fun j=>sm n (fun i=>f i j)):=by
 induction n with
 | zero=>simp only [sm];rw [sm_zero]
 | succ n ih=>simp only [sm];rw [ih, ← sm_add]
theorem sm_cut {n m:Nat} {f:Nat→Int} (h: ∀i,n≤i→i < n+m→f i=0):sm (n+m) f=sm n f:=by
 induction m with
 | zero=>rfl
 | succ m ih=>
  rw [← Nat.add_assoc];simp only [sm]
  rw [ih (fun i h1 h2=>h i h1 (by omega)),h (n+m) (by omega) (by omega)];omega
theorem sm_split (n m:Nat) (f:Nat→Int):sm (n+m) f=sm n f+sm m (fun i=>f (n+i)):=by
 induction m with
 | zero=>simp [sm]
 | succ m ih=>rw [← Nat.add_assoc];simp only [sm];rw [ih];omega
theorem sm_first (n:Nat) (f:Nat→Int):sm (n+1) f=f 0+sm n (fun i=>f (i+1)):=by
 rw [Nat.add_comm,sm_split]
 simp only [sm]
 rw [sm_congr (f:=fun i=>f (1+i)) (g:=fun i=>f (i+1)) (fun i _=>by rw [Nat.add_comm])]
 omega
def up (k j:Nat):Nat:=if j < k then j else j+1
def dn (k j:Nat):Nat:=if j < k then j else j - 1
theorem up_ne (k j:Nat):up k j≠k:=by unfold up;split <;> omega
theorem up_dn {k j:Nat} (h:j≠k):up k (dn k j)=j:=by unfold up dn;grind
theorem dn_up (k j:Nat):dn k (up k j)=j:=by unfold up dn;grind
theorem up_lt {k j n:Nat} (h:j < n):up k j < n+1:=by unfold up;split <;> omega
theorem dn_lt {k j n:Nat} (h:j < n+1) (hk:k < n+1) (hj:j≠k):dn k j < n:=by unfold dn;split <;> omega
def mnr (k:Nat) (A:Mat):Mat:=fun i j=>A (i+1) (up k j)
def sg (k:Nat):Int:=if k % 2=1 then -1 else 1
theorem sg_succ (k:Nat):sg (k+1)= - sg k:=by unfold sg;split <;> split <;> omega
theorem sg_sq (k:Nat):sg k*sg k=1:=by unfold sg;split <;> rfl
def det:Nat→Mat→Int
 | 0,_=>1
 | n+1,A=>sm (n+1) (fun k=>sg k*(A 0 k*det n (mnr k A)))
theorem det_succ (n:Nat) (A:Mat):det (n+1) A=sm (n+1) (fun k=>sg k*(A 0 k*det n (mnr k A))):=rfl
theorem det_congr {n:Nat}: ∀ {A B:Mat},(∀i j,i < n→j < n→A i j=B i j)→det n A=det n B:=by
 induction n with
 | zero=>intro A B _;rfl
 | succ n ih=>
  intro A B h
  unfold det
  refine sm_congr (fun k hk=>?_)
  rw [h 0 k (by omega) hk,ih (A:=mnr k A) (B:=mnr k B) (fun i j hi hj=>h _ _ (by omega) (up_lt hj))]
theorem det_col_lin {n:Nat}: ∀ {A B C:Mat} {c:Nat} {s t:Int},c < n→(∀i,i < n→A i c=s*B i c+t*C i c)→(∀i j,i < n→j < n→j≠c→A i j=B i j∧A i j=C i j)→det n A=s*det n B+t*det n C:=by
 induction n with
 | zero=>intro A B C c s t hc;omega
 | succ n ih=>
  intro A B C c s t hc h ho
  unfold det
  rw [← sm_mul, ← sm_mul, ← sm_add]
  refine sm_congr (fun k hk=>?_)
  by_cases e:k=c
  ·subst e
   have e1:det n (mnr k A)=det n (mnr k B):=det_congr (fun i j hi hj=>(ho _ _ (by omega) (up_lt hj) (up_ne k j)).1)
   have e2:det n (mnr k A)=det n (mnr k C):=det_congr (fun i j hi hj=>(ho _ _ (by omega) (up_lt hj) (up_ne k j)).2)
   rw [h 0 (by omega), ← e1, ← e2]
   grind
  ·have key:=ih (A:=mnr k A) (B:=mnr k B) (C:=mnr k C) (c:=dn k c) (s:=s) (t:=t) (dn_lt hc hk (Ne.symm e)) (fun i hi=>by unfold mnr;rw [up_dn (Ne.symm e)];exact h _ (by omega)) (fun i j hi hj hjc=>ho _ _ (by omega) (up_lt hj) (fun hh=>hjc (by rw [← hh,dn_up])))
   have o:=ho 0 k (by omega) hk e
   rw [key, ← o.1, ← o.2]
   grind
def cset (c:Nat) (v:Nat→Int) (A:Mat):Mat:=fun i j=>if j=c then v i else A i j
def rset (r:Nat) (v:Nat→Int) (A:Mat):Mat:=fun i j=>if i=r then v j else A i j
def tr (A:Mat):Mat:=fun i j=>A j i
def one:Mat:=fun i j=>if i=j then 1 else 0
def mul (n:Nat) (A B:Mat):Mat:=fun i j=>sm n (fun k=>A i k*B k j)
theorem det_adj_eq {n:Nat}: ∀ {A:Mat} {c:Nat},c+1 < n→(∀i,i < n→A i c=A i (c+1))→det n A=0:=by
 induction n with
 | zero=>intro A c hc;omega
 | succ n ih=>
  intro A c hc h
  unfold det
  rw [sm_two (k:=c) (l:=c+1) (by omega) (by omega) (by omega)]
  ·have e:det n (mnr c A)=det n (mnr (c+1) A):=det_congr (fun i j hi hj=>by
    unfold mnr up
    by_cases e:j=c
    ·subst e
     simp only [Nat.lt_irrefl,if_false,Nat.lt_succ_self,if_true]
     exact(h _ (by omega)).symm
    ·by_cases e2:j < c
     ·rw [if_pos e2,if_pos (by omega)]
     ·rw [if_neg e2,if_neg (by omega)])
   rw [sg_succ, ← e, ← h 0 (by omega)]
   grind
  ·intro k hk h1 h2
   rw [ih (A:=mnr k A) (c:=dn k c) (by unfold dn;split <;> omega) (fun i hi=>?_)]
   ·simp
   ·unfold mnr
    rw [up_dn (Ne.symm h1),show dn k c+1=dn k (c+1) from by unfold dn;split <;> split <;> omega,up_dn (Ne.symm h2)]
    exact h _ (by omega)
theorem det_cadd {n c:Nat} (hc:c < n) (u v:Nat→Int) (A:Mat) (s t:Int):det n (cset c (fun i=>s*u i+t*v i) A)=s*det n (cset c u A)+t*det n (cset c v A):=
 det_col_lin hc (fun i _=>by simp [cset]) (fun i j _ _ h=>by simp [cset,h])
theorem det_adj_swap {n c:Nat} (hc:c+1 < n) {A B:Mat} (h: ∀i,i < n→B i c=A i (c+1)∧B i (c+1)=A i c) (ho: ∀i j,i < n→j < n→j≠c→j≠c+1→B i j=A i j):det n B= - det n A:=by
 let W (u v:Nat→Int):Mat:=cset c u (cset (c+1) v A)
 let x:Nat→Int:=fun i=>A i c
 let y:Nat→Int:=fun i=>A i (c+1)
 have z (u v:Nat→Int) (e: ∀i,u i=v i):det n (W u v)=0:=det_adj_eq hc (fun i hi=>by simp [W,cset,e])
 have l1 (u v w:Nat→Int):det n (W (fun i=>1*u i+1*v i) w)=1*det n (W u w)+1*det n (W v w):=det_cadd (by omega) u v _ 1 1
 have l2 (u v w:Nat→Int):det n (W w (fun i=>1*u i+1*v i))=1*det n (W w u)+1*det n (W w v):=
  det_col_lin (c:=c+1) hc (fun i _=>by simp [W,cset]) (fun i j _ _ h=>by by_cases e:j=c <;> simp [W,cset,h,e])
 have a:=z (fun i=>1*x i+1*y i) (fun i=>1*x i+1*y i) (fun _=>rfl)
 rw [l1,l2,l2,z x x (fun _=>rfl),z y y (fun _=>rfl)] at a
 have ea:det n (W x y)=det n A:=det_congr (fun i j _ _=>by by_cases e:j=c <;> by_cases e2:j=c+1 <;> simp [W,cset,x,y,e,e2])
 have eb:det n (W y x)=det n B:=det_congr (fun i j hi hj=>by
  by_cases e:j=c
  ·subst e;simp [W,cset,y,(h i hi).1]
  ·by_cases e2:j=c+1
   ·subst e2;simp [W,cset,x,(h i hi).2]
   ·simp [W,cset,e,e2,ho i j hi hj e e2])
 rw [ea,eb] at a
 omega
theorem det_col_eq {n:Nat}: ∀(q:Nat) {A:Mat} {c d:Nat},d=c+1+q→d < n→(∀i,i < n→A i c=A i d)→det n A=0:=by
 intro q
 induction q with
 | zero=>intro A c d e hd h;subst e;exact det_adj_eq hd h
 | succ q ih=>
  intro A c d e hd h
  have k:=ih (A:=fun i j=>if j=c+1+q then A i (c+1+q+1) else if j=c+1+q+1 then A i (c+1+q) else A i j) (c:=c) (d:=c+1+q) rfl (by omega) (fun i hi=>by
   simp only [if_neg (show ¬ c=c+1+q by omega),if_neg (show ¬ c=c+1+q+1 by omega),if_true]
   rw [h i hi,e];rfl)
  have s:=det_adj_swap (n:=n) (c:=c+1+q) (by omega) (A:=A) (B:=fun i j=>if j=c+1+q then A i (c+1+q+1) else if j=c+1+q+1 then A i (c+1+q) else A i j) (fun i hi=>⟨by simp,by simp⟩) (fun i j _ _ h1 h2=>by simp [h1,h2])
  omega
theorem det_col_alt {n c d:Nat} {A:Mat} (hc:c < n) (hd:d < n) (hcd:c≠d) (h: ∀i,i < n→A i c=A i d):det n A=0:=by
 by_cases e:c < d
 ·exact det_col_eq (d - c - 1) (by omega) hd h
 ·exact det_col_eq (c - d - 1) (by omega) hc (fun i hi=>(h i hi).symm)
structure Form (n:Nat) (f:Mat→Int):Prop where
 cong: ∀A B:Mat,(∀i j,i < n→j < n→A i j=B i j)→f A=f B
 lin: ∀(A:Mat) (r:Nat) (u v:Nat→Int) (s t:Int),r < n→f (rset r (fun j=>s*u j+t*v j) A)=s*f (rset r u A)+t*f (rset r v A)
 alt: ∀(A:Mat) (r q:Nat),r < n→q < n→r≠q→(∀j,j < n→A r j=A q j)→f A=0
theorem rset_self (r:Nat) (A:Mat):rset r (A r) A=A:=by funext i j;unfold rset;split <;> simp_all
theorem Form.sums {n:Nat} {f:Mat→Int} (F:Form n f) {r:Nat} (hr:r < n) (A:Mat) (m:Nat) (c:Nat→Int) (v:Nat→Nat→Int):f (rset r (fun j=>sm m (fun k=>c k*v k j)) A)=sm m (fun k=>c k*f (rset r (v k) A)):=by
 induction m with
 | zero=>
  have:=F.lin A r (fun _=>0) (fun _=>0) 0 0 hr
  simp only [sm] at*
  simpa using this
 | succ m ih=>
  simp only [sm]
  have:=F.lin A r (fun j=>sm m (fun k=>c k*v k j)) (v m) 1 (c m) hr
  simp only [Int.one_mul] at this
  rw [this,ih]
theorem Form.swap {n:Nat} {f:Mat→Int} (F:Form n f) {r q:Nat} (hr:r < n) (hq:q < n) (hrq:r≠q) {A B:Mat} (h: ∀j,j < n→B r j=A q j∧B q j=A r j) (ho: ∀i j,i < n→j < n→i≠r→i≠q→B i j=A i j):f B= - f A:=by
 let W (u v:Nat→Int):Mat:=rset r u (rset q v A)
 have z (u v:Nat→Int) (e: ∀i,u i=v i):f (W u v)=0:=F.alt _ r q hr hq hrq (fun j _=>by simp [W,rset,e,Ne.symm hrq])
 have l1 (u v w:Nat→Int):f (W (fun i=>1*u i+1*v i) w)=1*f (W u w)+1*f (W v w):=F.lin _ r u v 1 1 hr
 have c (u v:Nat→Int):W u v=rset q v (rset r u A):=by
  funext i j;simp only [W,rset]
  by_cases e:i=r
  ·subst e;simp [hrq]
  ·simp [e]
 have l2 (u v w:Nat→Int):f (W w (fun i=>1*u i+1*v i))=1*f (W w u)+1*f (W w v):=by
  rw [c,c,c];exact F.lin _ q u v 1 1 hq
 have a:=z (fun i=>1*A r i+1*A q i) (fun i=>1*A r i+1*A q i) (fun _=>rfl)
 rw [l1,l2,l2,z (A r) (A r) (fun _=>rfl),z (A q) (A q) (fun _=>rfl)] at a
 have ea:f (W (A r) (A q))=f A:=F.cong _ _ (fun i j _ _=>by simp only [W,rset];grind)
 have eb:f (W (A q) (A r))=f B:=F.cong _ _ (fun i j hi hj=>by
  by_cases e:i=r
  ·subst e;simp [W,rset,(h j hj).1]
  ·by_cases e2:i=q
   ·subst e2;simp [W,rset,(h j hj).2,e]
   ·simp [W,rset,e,e2,ho i j hi hj e e2])
 rw [ea,eb] at a
 omega
theorem Form.addrow {n:Nat} {f:Mat→Int} (F:Form n f) {r q:Nat} (hr:r < n) (hq:q < n) (hrq:r≠q) (A:Mat) (t:Int):f (rset r (fun j=>A r j+t*A q j) A)=f A:=by
 have l:=F.lin A r (A r) (A q) 1 t hr
 simp only [Int.one_mul] at l
 rw [l,rset_self,F.alt (rset r (A q) A) r q hr hq hrq (fun j _=>by simp [rset,Ne.symm hrq])]
 omega
def emb (k:Nat) (B:Mat):Mat
 | 0,j=>if j=k then 1 else 0
 | i+1,j=>if j=k then 0 else B i (dn k j)
theorem Form.clean {n:Nat} {f:Mat→Int} (F:Form (n+1) f) {k:Nat} (hk:k < n+1) (A:Mat): ∀m,m≤n→f (rset 0 (fun j=>if j=k then 1 else 0) A)=f (fun i j=>if i=0 then(if j=k then 1 else 0) else if i≤m∧j=k then 0 else A i j):=by
 intro m
 induction m with
 | zero=>intro _;exact F.cong _ _ (fun i j _ _=>by by_cases e:i=0 <;> simp [rset,e])
 | succ m ih=>
  intro hm
  rw [ih (by omega)]
  rw [← F.addrow (r:=m+1) (q:=0) (by omega) (by omega) (by omega) _ (- A (m+1) k)]
  refine F.cong _ _ (fun i j hi hj=>?_)
  by_cases e:i=m+1
  ·subst e
   by_cases e2:j=k
   ·subst e2;simp [rset];omega
   ·simp [rset,e2]
  ·by_cases e0:i=0
   ·simp [rset,e0]
   ·have:(i≤m∧j=k)↔(i≤m+1∧j=k):=by constructor <;> intro h <;> omega
    simp [rset,e,e0,this]
theorem Form.emb_sg {n:Nat} {f:Mat→Int} (F:Form (n+1) f): ∀k,k < n+1→f (emb k one)=sg k*f one:=by
 intro k
 induction k with
 | zero=>
  intro _
  rw [show sg 0=1 from rfl,Int.one_mul]
  refine F.cong _ _ (fun i j _ _=>?_)
  cases i with
  | zero=>unfold emb one;by_cases e:j=0 <;> simp [e,eq_comm]
  | succ i=>unfold emb one dn;cases j with
   | zero=>simp
   | succ j=>simp
 | succ k ih=>
  intro hk
  rw [F.swap (r:=0) (q:=k+1) (A:=emb k one) (by omega) (by omega) (by omega),ih (by omega),sg_succ]
  ·grind
  ·intro j hj
   refine⟨?_,?_⟩
   ·simp only [emb,one,dn];grind
   ·simp only [emb,one,dn];grind
  ·intro i j hi hj h0 h1
   cases i with
   | zero=>exact absurd rfl h0
   | succ i=>simp only [emb,one,dn];grind
theorem Form.uniq {n:Nat}: ∀ {f:Mat→Int},Form n f→ ∀A,f A=det n A*f one:=by
 induction n with
 | zero=>intro f F A;rw [show det 0 A=1 from rfl,Int.one_mul];exact F.cong _ _ (fun i j hi _=>absurd hi (Nat.not_lt_zero _))
 | succ n ih=>
  intro f F A
  have e0:f A=f (rset 0 (fun j=>sm (n+1) (fun k=>A 0 k*(if j=k then 1 else 0))) A):=F.cong _ _ (fun i j hi hj=>by
   by_cases e:i=0
   ·subst e
    simp only [rset,if_true]
    rw [sm_one hj (fun i _ h=>by simp [Ne.symm h])];simp
   ·simp [rset,e])
  rw [e0,F.sums (by omega) A (n+1) (A 0) (fun k j=>if j=k then 1 else 0)]
  unfold det
  rw [← sm_mulr]
  refine sm_congr (fun k hk=>?_)
  have G:Form n (fun B=>f (emb k B)):=by
   have er (B:Mat) (r:Nat) (v:Nat→Int):emb k (rset r v B)=rset (r+1) (fun j=>if j=k then 0 else v (dn k j)) (emb k B):=by
    funext i j
    cases i with
    | zero=>simp [emb,rset]
    | succ i=>by_cases e:i=r <;> simp [emb,rset,e]
   refine⟨fun B C h=>F.cong _ _ (fun i j hi hj=>?_),fun B r u v s t hr=>?_,fun B r q hr hq hrq h=>?_⟩
   ·cases i with
    | zero=>rfl
    | succ i=>
     unfold emb
     by_cases e:j=k
     ·simp [e]
     ·simp only [if_neg e];exact h _ _ (by omega) (dn_lt hj hk e)
   ·simp only [er]
    rw [← F.lin _ _ _ _ s t (by omega)]
    congr 2
    funext j
    by_cases e:j=k <;> simp [e]
   ·refine F.alt _ (r+1) (q+1) (by omega) (by omega) (by omega) (fun j hj=>?_)
    unfold emb
    by_cases e:j=k
    ·simp [e]
    ·simp only [if_neg e];exact h _ (dn_lt hj hk e)
  have e1:f (rset 0 (fun j=>if j=k then 1 else 0) A)=f (emb k (mnr k A)):=by
   rw [F.clean hk A n (Nat.le_refl _)]
   refine F.cong _ _ (fun i j hi hj=>?_)
   cases i with
   | zero=>simp [emb]
   | succ i=>
    unfold emb mnr
    by_cases e:j=k
    ·simp [e];omega
    ·simp [e,up_dn e]
  have e2:=ih G (mnr k A)
  rw [e1,e2,F.emb_sg k hk]
  grind
theorem det_one (n:Nat):det n one=1:=by
 induction n with
 | zero=>rfl
 | succ n ih=>
  unfold det
  rw [sm_one (k:=0) (by omega) (fun i _ h=>by simp [one,Ne.symm h])]
  rw [det_congr (A:=mnr 0 one) (B:=one) (fun i j _ _=>by simp [mnr,one,up]),ih]
  rfl
theorem tr_form (n:Nat):Form n (fun A=>det n (tr A)):=by
 refine⟨fun A B h=>det_congr (fun i j hi hj=>h j i hj hi),fun A r u v s t hr=>?_,fun A r q hr hq hrq h=>det_col_alt hr hq hrq h⟩
 exact det_col_lin (c:=r) hr (fun i _=>by simp [tr,rset]) (fun i j _ _ h=>by simp [tr,rset,h])
theorem det_tr (n:Nat) (A:Mat):det n (tr A)=det n A:=by
 have h:det n (tr A)=det n A*det n (tr one):=(tr_form n).uniq A
 rw [h,det_congr (A:=tr one) (B:=one) (fun i j _ _=>by simp [tr,one,eq_comm]),det_one,Int.mul_one]
theorem det_form (n:Nat):Form n (det n):=by
 have e:det n=fun A=>det n (tr A):=by funext A;exact(det_tr n A).symm
 rw [e];exact tr_form n
theorem mul_form (n:Nat) (B:Mat):Form n (fun A=>det n (mul n A B)):=by
 have er (A:Mat) (r:Nat) (v:Nat→Int):mul n (rset r v A) B=rset r (fun j=>sm n (fun k=>v k*B k j)) (mul n A B):=by
  funext i j;by_cases e:i=r <;> simp [mul,rset,e]
 refine⟨fun A C h=>det_congr (fun i j hi hj=>sm_congr (fun k hk=>by rw [h i k hi hk])),fun A r u v s t hr=>?_,fun A r q hr hq hrq h=>?_⟩
 ·simp only [er]
  rw [← (det_form n).lin _ _ _ _ s t hr]
  congr 2
  funext j
  rw [← sm_mul, ← sm_mul, ← sm_add]
  exact sm_congr (fun k _=>by grind)
 ·exact(det_form n).alt _ r q hr hq hrq (fun j hj=>sm_congr (fun k hk=>by rw [h k hk]))
theorem det_mul (n:Nat) (A B:Mat):det n (mul n A B)=det n A*det n B:=by
 have h:det n (mul n A B)=det n A*det n (mul n one B):=(mul_form n B).uniq A
 rw [h,det_congr (A:=mul n one B) (B:=B) (fun i j hi _=>?_)]
 unfold mul
 rw [sm_one (k:=i) hi (fun k _ h=>by simp [one,Ne.symm h])]
 simp [one]
def sh (l:Nat) (A:Mat):Mat:=fun i j=>A (l+i) (l+j)
theorem det_block (d:Nat): ∀(l:Nat) (A:Mat),(∀i j,i < l→l≤j→j < l+d→A i j=0)→det (l+d) A=det l A*det d (sh l A):=by
 intro l
 induction l with
 | zero=>intro A _;rw [Nat.zero_add,show det 0 A=1 from rfl,Int.one_mul];exact det_congr (fun i j _ _=>by simp [sh])
 | succ l ih=>
  intro A h
  rw [show l+1+d=(l+d)+1 from by omega,det_succ,det_succ]
  rw [show l+d+1=(l+1)+d from by omega,sm_cut (fun i h1 h2=>by rw [h 0 i (by omega) h1 h2];simp), ← sm_mulr]
  refine sm_congr (fun k hk=>?_)
  rw [ih (mnr k A) (fun i j hi h1 h2=>by
   unfold mnr up
   rw [if_neg (by omega)]
   exact h _ _ (by omega) (by omega) (by omega))]
  rw [det_congr (A:=sh l (mnr k A)) (B:=sh (l+1) A) (fun i j _ _=>by
   unfold sh mnr up
   rw [if_neg (by omega),show l+i+1=l+1+i from by omega,show l+j+1=l+1+j from by omega])]
  grind
theorem det_block' (d l:Nat) (A:Mat) (h: ∀i j,l≤i→i < l+d→j < l→A i j=0):det (l+d) A=det l A*det d (sh l A):=by
 rw [← det_tr (l+d) A,det_block d l (tr A) (fun i j h1 h2 h3=>h j i h2 h3 h1),det_tr l A, ← det_tr d (sh l A)]
 rfl
def mv (s t:Nat) (b:Nat→Int) (A:Mat):Mat:=fun i j=>if i < s then A (up t i) j else if i=s then b j else A (up t (i - 1)) j
theorem mv_sg {n:Nat} (t:Nat) (b:Nat→Int) (A:Mat): ∀s,s < n→det n (mv s t b A)=sg s*det n (mv 0 t b A):=by
 intro s
 induction s with
 | zero=>intro _;simp [sg]
 | succ s ih=>
  intro hs
  rw [(det_form n).swap (r:=s) (q:=s+1) (A:=mv s t b A) (by omega) (by omega) (by omega),ih (by omega),sg_succ]
  ·grind
  ·intro j _;refine⟨?_,?_⟩
   ·simp [mv];intro h;omega
   ·simp [mv]
  ·intro i j _ _ h1 h2
   unfold mv
   by_cases e:i < s
   ·rw [if_pos e,if_pos (by omega)]
   ·rw [if_neg e,if_neg (by omega),if_neg h1,if_neg h2]
theorem adj_row {n:Nat} (B:Mat) (b:Nat→Int) {j:Nat} (hj:j < n):sm n (fun t=>det n (rset t b B)*B t j)=det n B*b j:=by
 let X:Mat:=fun i c=>if i=0 then(if c=0 then b j else b (c - 1)) else(if c=0 then B (i - 1) j else B (i - 1) (c - 1))
 have z:det (n+1) X=0:=det_col_alt (c:=0) (d:=j+1) (by omega) (by omega) (by omega) (fun i _=>by simp [X])
 have e:=det_tr (n+1) X
 rw [z] at e
 unfold det at e
 rw [sm_first] at e
 have m0:det n (mnr 0 (tr X))=det n B:=by
  rw [← det_tr n B];exact det_congr (fun p q _ _=>by simp [mnr,tr,X,up])
 have mt (t:Nat) (ht:t < n):det n (mnr (t+1) (tr X))=sg t*det n (rset t b B):=by
  rw [← det_tr n (mnr (t+1) (tr X))]
  have e1:det n (tr (mnr (t+1) (tr X)))=det n (mv 0 t b B):=det_congr (fun p q _ _=>by
   cases p with
   | zero=>simp [mnr,tr,X,up,mv]
   | succ p=>
    simp only [mnr,tr,X,up,mv,Nat.not_lt_zero,if_false]
    by_cases c:p < t
    ·simp [c,Nat.succ_lt_succ c]
    ·simp [c,show ¬ p+1 < t+1 from by omega])
  have e2:det n (mv t t b B)=det n (rset t b B):=det_congr (fun p q _ _=>by
   unfold mv rset up
   by_cases c:p < t
   ·simp [c,show p≠t from by omega]
   ·by_cases c2:p=t
    ·simp [c2]
    ·rw [if_neg c,if_neg c2,if_neg c2,if_neg (by omega),show p - 1+1=p from by omega])
  rw [e1, ← e2,mv_sg t b B t ht]
  have:=sg_sq t
  grind
 have e3:sm n (fun i=>sg (i+1)*(tr X 0 (i+1)*det n (mnr (i+1) (tr X))))= - sm n (fun t=>det n (rset t b B)*B t j):=by
  rw [← Int.neg_one_mul, ← sm_mul]
  refine sm_congr (fun t ht=>?_)
  rw [mt t ht,sg_succ]
  have:=sg_sq t
  simp only [tr,X]
  simp
  grind
 rw [e3,m0] at e
 simp [tr,X,sg] at e
 grind
theorem adj_col {n:Nat} (B:Mat) (b:Nat→Int) {j:Nat} (hj:j < n):sm n (fun t=>B j t*det n (cset t b B))=det n B*b j:=by
 rw [← det_tr n B, ← adj_row (tr B) b hj]
 refine sm_congr (fun t _=>?_)
 rw [Int.mul_comm, ← det_tr n (cset t b B)]
 rfl
end Go.Proofs.Ytmpkckiifeikkaa.Dt
end
section
namespace Go.Proofs.Ytmpkckiifeikkaa.Bd
open Go.RowKit Go.Proofs.YtmpkckiifeikkaaW.PrintWords Go.Proofs.YtmpkckiifeikkaaW.PrintMore Go.Proofs.Ytmpkckiifeikkaa.Ma Go.Proofs.Ytmpkckiifeikkaa.Dt
def ev (M:Mat) (i:Nat) (last:Int) (r c:Nat):Int:=wrap64 (Int.tdiv (wrap64 (wrap64 (M r c*M i i) - wrap64 (M r i*M i c))) last)
def el (M:Mat) (i:Nat) (last:Int):Mat:=fun a b=>if i≤b∧i < a then ev M i last a b else M a b
def swp (M:Mat) (r q:Nat):Mat:=fun j=>M (if j=r then q else if j=q then r else j)
end Go.Proofs.Ytmpkckiifeikkaa.Bd
end
section
namespace Go.Proofs.Ytmpkckiifeikkaa.Bz
open Go.RowKit Go.Proofs.YtmpkckiifeikkaaW.PrintWords Go.Proofs.YtmpkckiifeikkaaW.PrintMore Go.Proofs.Ytmpkckiifeikkaa.Ma Go.Proofs.Ytmpkckiifeikkaa.Dt Go.Proofs.Ytmpkckiifeikkaa.Bd
theorem det_scal (L:Int): ∀n,det n (fun a b=>if a=b then L else 0)=L ^ n:=by
 intro n
 induction n with
 | zero=>simp [det]
 | succ n ih=>
  rw [det_succ,sm_one (k:=0) (by omega) (fun i _ h=>by rw [if_neg (by omega)];simp)]
  rw [det_congr (A:=mnr 0 (fun a b=>if a=b then L else 0)) (B:=fun a b=>if a=b then L else 0) (fun i j _ _=>by simp [mnr,up]),ih]
  rw [if_pos rfl,Int.pow_succ,show sg 0=1 from rfl]
  grind
theorem det_zero_col {n c:Nat} (hc:c < n) {A:Mat} (h: ∀i,i < n→A i c=0):det n A=0:=by
 have:=det_col_lin (A:=A) (B:=A) (C:=A) (s:=0) (t:=0) hc (fun i hi=>by rw [h i hi];simp) (fun i j _ _ _=>⟨rfl,rfl⟩)
 simpa using this
theorem det_1 (A:Mat):det 1 A=A 0 0:=by simp [det,sm,sg]
theorem det_2 (A:Mat):det 2 A=A 0 0*A 1 1 - A 0 1*A 1 0:=by
 simp [det,sm,sg,mnr,up]
 omega
def rs (i:Nat) (A:Mat) (r c:Nat):Int:=det i A*A r c - sm i (fun t=>det i (rset t (A r) A)*A t c)
theorem rs_zero (i:Nat) (A:Mat) (r:Nat) {j:Nat} (hj:j < i):rs i A r j=0:=by
 unfold rs
 rw [adj_row A (A r) hj];omega
theorem block_elim (i d:Nat) (A:Mat):det i A ^ d*det (i+d) A=det i A*det d (fun a b=>rs i A (i+a) (i+b)):=by
 let E:Mat:=fun a b=>if a < i then one a b else if b < i then - det i (rset b (A a) A) else if a=b then det i A else 0
 have hE:det (i+d) E=det i A ^ d:=by
  rw [det_block d i E (fun a b ha hb _=>by simp only [E,if_pos ha,one];rw [if_neg (by omega)])]
  rw [det_congr (A:=E) (B:=one) (fun a b ha _=>by simp only [E,if_pos ha]),det_one,Int.one_mul, ← det_scal]
  exact det_congr (fun a b _ _=>by simp only [sh,E];rw [if_neg (by omega),if_neg (by omega)];simp)
 have hlow (a b:Nat) (ha:i≤a) (ha2:a < i+d):mul (i+d) E A a b=rs i A a b:=by
  unfold mul
  rw [sm_split,sm_congr (f:=fun k=>E a k*A k b) (g:=fun k=>(-1)*(det i (rset k (A a) A)*A k b)) (fun k hk=>by simp only [E];rw [if_neg (by omega),if_pos hk];grind),sm_mul]
  rw [sm_one (n:=d) (k:=a - i) (by omega) (fun k hk hne=>by simp only [E];rw [if_neg (by omega),if_neg (by omega),if_neg (by omega)];simp)]
  simp only [E]
  rw [if_neg (by omega),if_neg (by omega),if_pos (by omega),show i+(a - i)=a from by omega]
  unfold rs
  omega
 have hup (a b:Nat) (ha:a < i):mul (i+d) E A a b=A a b:=by
  unfold mul
  rw [sm_one (k:=a) (by omega) (fun k hk hne=>by simp only [E,if_pos ha,one];rw [if_neg (by omega)];simp)]
  simp [E,ha,one]
 rw [← hE, ← det_mul,det_block' d i (mul (i+d) E A) (fun a b h1 h2 h3=>by rw [hlow a b h1 h2,rs_zero i A a h3])]
 rw [det_congr (A:=mul (i+d) E A) (B:=A) (fun a b ha _=>hup a b ha)]
 congr 1
 exact det_congr (fun a b ha _=>by simp only [sh];exact hlow _ _ (by omega) (by omega))
def bord (i r c:Nat) (A:Mat):Mat:=fun a b=>A (if a < i then a else r) (if b < i then b else c)
def bm (i r c:Nat) (A:Mat):Int:=det (i+1) (bord i r c A)
theorem rs_re (i:Nat) (A B:Mat) (r c r' c':Nat) (h1: ∀a b,a < i→b < i→B a b=A a b) (h2: ∀b,b < i→B r' b=A r b) (h3: ∀a,a < i→B a c'=A a c) (h4:B r' c'=A r c):rs i B r' c'=rs i A r c:=by
 unfold rs
 rw [det_congr (A:=B) (B:=A) h1,h4]
 congr 1
 refine sm_congr (fun t ht=>?_)
 rw [h3 t ht,det_congr (A:=rset t (B r') B) (B:=rset t (A r) A) (fun a b ha hb=>by
  unfold rset
  split
  ·exact h2 b hb
  ·exact h1 a b ha hb)]
theorem bm_rs {i:Nat} {A:Mat} (hL:det i A≠0) (r c:Nat):bm i r c A=rs i A r c:=by
 have h:=block_elim i 1 (bord i r c A)
 rw [det_1,det_congr (A:=bord i r c A) (B:=A) (n:=i) (fun a b ha hb=>by simp [bord,ha,hb]),Int.pow_succ,Int.pow_zero,Int.one_mul] at h
 rw [rs_re i A (bord i r c A) r c (i+0) (i+0) (fun a b ha hb=>by simp [bord,ha,hb]) (fun b hb=>by simp [bord,hb]) (fun a ha=>by simp [bord,ha]) (by simp [bord])] at h
 exact Int.eq_of_mul_eq_mul_left hL h
theorem sylv {i:Nat} {A:Mat} (hL:det i A≠0) (r c:Nat):det i A*bm (i+1) r c A=bm i i i A*bm i r c A - bm i i c A*bm i r i A:=by
 have h:=block_elim i 2 (bord (i+1) r c A)
 rw [det_2,det_congr (A:=bord (i+1) r c A) (B:=A) (n:=i) (fun a b ha hb=>by unfold bord;rw [if_pos (by omega),if_pos (by omega)])] at h
 have q (a b r' c':Nat) (ha:(if a < i+1 then a else r)=r') (hb:(if b < i+1 then b else c)=c'):rs i (bord (i+1) r c A) a b=rs i A r' c':=
  rs_re i A (bord (i+1) r c A) r' c' a b (fun x y hx hy=>by unfold bord;rw [if_pos (by omega),if_pos (by omega)]) (fun y hy=>by unfold bord;rw [ha,if_pos (by omega)]) (fun x hx=>by unfold bord;rw [hb,if_pos (by omega)]) (by unfold bord;rw [ha,hb])
 rw [q (i+0) (i+0) i i (by simp) (by simp),q (i+1) (i+1) r c (by simp) (by simp),q (i+0) (i+1) i c (by simp) (by simp),q (i+1) (i+0) r i (by simp) (by simp)] at h
 rw [← bm_rs hL, ← bm_rs hL, ← bm_rs hL, ← bm_rs hL] at h
 have e:det i A ^ 2*det (i+2) (bord (i+1) r c A)=det i A*(det i A*bm (i+1) r c A):=by unfold bm;grind
 rw [e] at h
 exact Int.eq_of_mul_eq_mul_left hL h
def fact:Nat→Nat
 | 0=>1
 | n+1=>(n+1)*fact n
def b20 (n:Nat):Nat:=fact n*20 ^ n
theorem sm_abs {n B:Nat} {f:Nat→Int} (h: ∀i,i < n→(f i).natAbs≤B):(sm n f).natAbs≤n*B:=by
 induction n with
 | zero=>simp [sm]
 | succ n ih=>
  have h1:=ih (fun i hi=>h i (by omega))
  have h2:=h n (by omega)
  have h3:=Int.natAbs_add_le (sm n f) (f n)
  simp only [sm]
  rw [Nat.add_mul,Nat.one_mul]
  omega
theorem sg_abs (k:Nat):(sg k).natAbs=1:=by unfold sg;split <;> rfl
theorem det_abs20: ∀(n:Nat) (A:Mat),(∀i j,i < n→j < n→(A i j).natAbs≤20)→(det n A).natAbs≤b20 n:=by
 intro n
 induction n with
 | zero=>intro A _;show (1:Int).natAbs≤1;decide
 | succ n ih=>
  intro A h
  rw [det_succ]
  refine Nat.le_trans (sm_abs (B:=20*b20 n) (fun k hk=>?_)) ?_
  ·rw [Int.natAbs_mul,Int.natAbs_mul,sg_abs,Nat.one_mul]
   exact Nat.mul_le_mul (h 0 k (by omega) hk) (ih (mnr k A) (fun i j hi hj=>h _ _ (by omega) (up_lt hj)))
  ·unfold b20;rw [fact,Nat.pow_succ]
   exact Nat.le_of_eq (by grind)
def Bk (n k:Nat) (A:Mat):Prop:= ∀i j,i < n→j < n→(A i j).natAbs≤if j=k then 100 else 20
theorem det_absk: ∀(n k:Nat) (A:Mat),Bk n k A→(det n A).natAbs≤5*b20 n:=by
 intro n
 induction n with
 | zero=>intro k A _;show (1:Int).natAbs≤5*1;decide
 | succ n ih=>
  intro k A h
  rw [det_succ]
  refine Nat.le_trans (sm_abs (B:=100*b20 n) (fun c hc=>?_)) ?_
  ·rw [Int.natAbs_mul,Int.natAbs_mul,sg_abs,Nat.one_mul]
   have h0:=h 0 c (by omega) hc
   by_cases e:c=k
   ·subst e
    rw [if_pos rfl] at h0
    exact Nat.mul_le_mul h0 (det_abs20 n (mnr c A) (fun i j hi hj=>by have:=h (i+1) (up c j) (by omega) (up_lt hj);rwa [if_neg (up_ne c j)] at this))
   ·rw [if_neg e] at h0
    have:=ih (dn c k) (mnr c A) (fun i j hi hj=>by
     have:=h (i+1) (up c j) (by omega) (up_lt hj)
     unfold mnr
     by_cases q:up c j=k
     ·rw [if_pos q] at this
      rw [if_pos (by rw [← q,dn_up])];exact this
     ·rw [if_neg q] at this
      split <;> omega)
    calc (A 0 c).natAbs*(det n (mnr c A)).natAbs≤20*(5*b20 n):=Nat.mul_le_mul h0 this
     _=100*b20 n:=by omega
  ·unfold b20;rw [fact,Nat.pow_succ]
   exact Nat.le_of_eq (by grind)
theorem b20_le: ∀n,n≤5→5*b20 n≤1920000000:=by
 intro n h
 match n,h with
 | 0,_=>decide
 | 1,_=>decide
 | 2,_=>decide
 | 3,_=>decide
 | 4,_=>decide
 | 5,_=>decide
 | n+6,h=>omega
theorem bm_abs {n k:Nat} (hn:n≤5) {A:Mat} (h:Bk n k A) {i r c:Nat} (hi:i < n) (hr:r < n) (hic:i≤c) (hc:c < n): -1920000000≤bm i r c A∧bm i r c A≤1920000000:=by
 have h1:(bm i r c A).natAbs≤5*b20 (i+1):=det_absk (i+1) (if k < i then k else i) _ (fun a b ha hb=>by
  unfold bord
  have:=h (if a < i then a else r) (if b < i then b else c) (by split <;> omega) (by split <;> omega)
  refine Nat.le_trans this ?_
  grind)
 have h2:=b20_le (i+1) (by omega)
 omega
theorem prod_b {x y:Int} (hx: -1920000000≤x∧x≤1920000000) (hy: -1920000000≤y∧y≤1920000000): -3686400000000000000≤x*y∧x*y≤3686400000000000000:=by
 have h:(x*y).natAbs≤1920000000*1920000000:=by rw [Int.natAbs_mul];exact Nat.mul_le_mul (by omega) (by omega)
 omega
structure Inv (n k i:Nat) (M:Mat) (last turn:Int) (A A0:Mat):Prop where
 le:i≤n
 small:Bk n k A
 num: ∀r c,i≤r→r < n→i≤c→c < n→M r c=bm i r c A
 last_:last=det i A
 nz:last≠0
 turn_:turn=1∨turn= -1
 det_:turn*det n A=det n A0
section
variable {n k:Nat} (hn:n≤5) {A0:Mat}
include hn
theorem Inv.step {i:Nat} {M A:Mat} {last turn:Int} (h:Inv n k i M last turn A A0) (hi:i < n) (hp:M i i≠0):Inv n k (i+1) (el M i last) (M i i) turn A A0:=by
 have hL:det i A≠0:=by rw [← h.last_];exact h.nz
 have hpi:=h.num i i (Nat.le_refl _) hi (Nat.le_refl _) hi
 refine⟨by omega,h.small,fun r c hr hrn hc hcn=>?_,?_,hp,h.turn_,h.det_⟩
 ·unfold el ev
  rw [if_pos (by omega),h.num r c (by omega) hrn (by omega) hcn,hpi,h.num r i (by omega) hrn (Nat.le_refl _) hi,h.num i c (Nat.le_refl _) hi (by omega) hcn]
  have p1:=prod_b (bm_abs hn h.small hi hrn (by omega) hcn) (bm_abs hn h.small hi hi (Nat.le_refl _) hi)
  have p2:=prod_b (bm_abs hn h.small hi hrn (Nat.le_refl _) hi) (bm_abs hn h.small hi hi (by omega) hcn)
  have s:=sylv hL r c
  have e:bm i r c A*bm i i i A - bm i r i A*bm i i c A=det i A*bm (i+1) r c A:=by rw [s];grind
  have b:=bm_abs hn h.small (i:=i+1) (r:=r) (c:=c) (by omega) hrn hc hcn
  rw [w64 (x:=bm i r c A*bm i i i A) (by omega) (by omega),w64 (x:=bm i r i A*bm i i c A) (by omega) (by omega),w64 (x:=bm i r c A*bm i i i A - bm i r i A*bm i i c A) (by omega) (by omega),e,h.last_,Int.mul_tdiv_cancel_left _ hL]
  exact w64 (by omega) (by omega)
 ·rw [hpi];unfold bm
  exact det_congr (fun a b ha hb=>by
   unfold bord
   have e1:(if a < i then a else i)=a:=by split <;> omega
   have e2:(if b < i then b else i)=b:=by split <;> omega
   rw [e1,e2])
theorem Inv.none_ {i:Nat} {M A:Mat} {last turn:Int} (h:Inv n k i M last turn A A0) (hi:i < n) (hz: ∀r,i≤r→r < n→M r i=0):det n A0=0:=by
 have _h:=hn
 have hL:det i A≠0:=by rw [← h.last_];exact h.nz
 have b:=block_elim i (n - i) A
 rw [show i+(n - i)=n from by omega,det_zero_col (c:=0) (A:=fun a b=>rs i A (i+a) (i+b)) (by omega) (fun a ha=>by
  rw [← bm_rs hL,Nat.add_zero, ← h.num (i+a) i (by omega) (by omega) (Nat.le_refl _) hi];exact hz _ (by omega) (by omega)),Int.mul_zero] at b
 have:det n A=0:=by
  rcases Int.mul_eq_zero.1 b with b | b
  ·exact absurd b (Int.pow_ne_zero hL)
  ·exact b
 rw [← h.det_,this,Int.mul_zero]
theorem Inv.swap {i s:Nat} {M A:Mat} {last turn:Int} (h:Inv n k i M last turn A A0) (his:i < s) (hs:s < n):Inv n k i (swp M i s) last (wrap64 (-turn)) (swp A i s) A0:=by
 have _h:=hn
 have hsr (r:Nat) (hr:r < n):(if r=i then s else if r=s then i else r) < n:=by grind
 have hlow (a:Nat) (ha:a < i):(if a=i then s else if a=s then i else a)=a:=by rw [if_neg (by omega),if_neg (by omega)]
 have w:wrap64 (-turn)= -turn:=w64 (by have:=h.turn_;omega) (by have:=h.turn_;omega)
 refine⟨h.le,fun a b ha hb=>h.small _ _ (hsr a ha) hb,fun r c hr hrn hc hcn=>?_,?_,h.nz,by rw [w];have:=h.turn_;omega,?_⟩
 ·unfold swp
  rw [h.num _ c (by grind) (hsr r hrn) hc hcn]
  unfold bm
  refine det_congr (fun a b _ _=>?_)
  unfold bord
  by_cases ha:a < i
  ·simp only [if_pos ha];rw [hlow a ha]
  ·simp only [if_neg ha]
 ·rw [h.last_]
  exact det_congr (fun a b ha _=>by unfold swp;rw [hlow a ha])
 ·have e:=(det_form n).swap (r:=i) (q:=s) (A:=A) (B:=swp A i s) (by omega) hs (by omega) (fun j _=>⟨by unfold swp;rw [if_pos rfl],by unfold swp;rw [if_neg (by omega),if_pos rfl]⟩) (fun a b _ _ h1 h2=>by unfold swp;rw [if_neg h1,if_neg h2])
  rw [e,w, ← h.det_]
  grind
end
end Go.Proofs.Ytmpkckiifeikkaa.Bz
end
section
namespace Go.Proofs.Ytmpkckiifeikkaa.Lk
open Go.RowKit Go.Proofs.YtmpkckiifeikkaaW.PrintWords Go.Proofs.YtmpkckiifeikkaaW.PrintMore Go.Proofs.Ytmpkckiifeikkaa.Ma Go.Proofs.Ytmpkckiifeikkaa.Dt Go.Proofs.Ytmpkckiifeikkaa.Bz
theorem det_csum {n c:Nat} (hc:c < n) (B:Mat) (m:Nat) (a:Nat→Int) (v:Nat→Nat→Int):det n (cset c (fun i=>sm m (fun k=>a k*v k i)) B)=sm m (fun k=>a k*det n (cset c (v k) B)):=by
 induction m with
 | zero=>
  have:=det_cadd hc (fun _=>0) (fun _=>0) B 0 0
  simp only [sm] at*
  simpa using this
 | succ m ih=>
  simp only [sm]
  have:=det_cadd hc (fun i=>sm m (fun k=>a k*v k i)) (v m) B 1 (a m)
  simp only [Int.one_mul] at this
  rw [this,ih]
theorem det_cscale {n c:Nat} (hc:c < n) (B:Mat) (a:Int) (v:Nat→Int):det n (cset c (fun i=>a*v i) B)=a*det n (cset c v B):=by
 have:=det_csum hc B 1 (fun _=>a) (fun _=>v)
 simpa [sm] using this
theorem det_cswap {n r q:Nat} (hr:r < n) (hq:q < n) (hrq:r≠q) {A B:Mat} (h: ∀i,i < n→B i r=A i q∧B i q=A i r) (ho: ∀i j,i < n→j < n→j≠r→j≠q→B i j=A i j):det n B= - det n A:=by
 rw [← det_tr n B, ← det_tr n A]
 exact(det_form n).swap hr hq hrq (A:=tr A) (B:=tr B) (fun j hj=>h j hj) (fun i j hi hj h1 h2=>ho j i hj hi h1 h2)
theorem pluck {n i r:Nat} (hi:i < n) (hr:r < n) (hir:i≠r) (B:Mat) (x y:Nat→Int):
  det n (cset i x B)*det n (cset r y B) - det n (cset i y B)*det n (cset r x B)=det n B*det n (cset i x (cset r y B)):=by
 have e1:det n B*det n (cset i x (cset r y B))=sm n (fun t=>det n (cset t x B)*det n (cset i (fun k=>B k t) (cset r y B))):=by
  rw [← det_csum hi, ← det_cscale hi]
  refine det_congr (fun a b ha hb=>?_)
  by_cases e:b=i
  ·subst e
   show (if b=b then det n B*x a else _)=(if b=b then sm n (fun t=>det n (cset t x B)*B a t) else _)
   rw [if_pos rfl,if_pos rfl, ← adj_col B x ha]
   exact sm_congr (fun t _=>Int.mul_comm _ _)
  ·show (if b=i then _ else cset r y B a b)=(if b=i then _ else cset r y B a b)
   rw [if_neg e,if_neg e]
 rw [e1,sm_two hi hr hir]
 ·have e2:det n (cset i (fun k=>B k i) (cset r y B))=det n (cset r y B):=det_congr (fun a b _ _=>by
   simp only [cset]
   by_cases e:b=i
   ·subst e;rw [if_pos rfl,if_neg hir]
   ·rw [if_neg e])
  have e3:det n (cset i (fun k=>B k r) (cset r y B))= - det n (cset i y B):=det_cswap hi hr hir (fun a _=>by
   simp only [cset]
   simp [Ne.symm hir]) (fun a b _ _ h1 h2=>by simp only [cset];simp [h1,h2])
  rw [e2,e3]
  grind
 ·intro t ht h1 h2
  have z:det n (cset i (fun k=>B k t) (cset r y B))=0:=det_col_alt (c:=i) (d:=t) hi ht (Ne.symm h1) (fun a _=>by simp only [cset];rw [if_neg h1,if_neg h2];simp)
  rw [z,Int.mul_zero]
def bas (A:Mat) (bs:Nat→Nat):Mat:=fun i j=>A i (bs j)
def nupd (bs:Nat→Nat) (r v:Nat):Nat→Nat:=fun j=>if j=r then v else bs j
def cd (n:Nat) (A:Mat) (bs:Nat→Nat) (i c:Nat):Int:=det n (cset i (fun k=>A k c) (bas A bs))
structure Tab (n m:Nat) (A:Mat) (bs:Nat→Nat) (T:Mat) (den:Int):Prop where
 pos:0 < den
 num: ∃s:Int,(s=1∨s= -1)∧den=s*det n (bas A bs)∧ ∀i c,i < n→c < m→T i c=s*cd n A bs i c
theorem det_cset_one {n i:Nat} (hi:i < n) (v:Nat→Int):det n (cset i v one)=v i:=by
 have h:=adj_col (n:=n) one v hi
 rw [det_one,Int.one_mul,sm_one (k:=i) hi (fun t _ h=>by unfold one;rw [if_neg (Ne.symm h)];simp)] at h
 rw [← h];simp [one]
theorem bas_nupd (A:Mat) (bs:Nat→Nat) (r v:Nat):bas A (nupd bs r v)=cset r (fun k=>A k v) (bas A bs):=by
 funext i j;unfold bas nupd cset;split <;> rfl
theorem cset_twice (r:Nat) (x y:Nat→Int) (B:Mat):cset r x (cset r y B)=cset r x B:=by
 funext i j;unfold cset;split <;> rfl
theorem Tab.first {n m:Nat} {A:Mat} (h: ∀i j,i < n→j < n→A i j=if i=j then 1 else 0):Tab n m A (fun j=>j) A 1:=by
 have e: ∀i j,i < n→j < n→bas A (fun j=>j) i j=one i j:=fun i j hi hj=>by unfold bas one;exact h i j hi hj
 refine⟨by decide,1, .inl rfl,?_,fun i c hi _=>?_⟩
 ·rw [det_congr e,det_one];rfl
 ·unfold cd
  rw [det_congr (B:=cset i (fun k=>A k c) one) (fun a b ha hb=>by unfold cset;split;rfl;exact e a b ha hb),det_cset_one hi];omega
def stE (T:Mat) (den:Int) (r v i c:Nat):Int:=if i=r then T r c else Int.tdiv (T i c*T r v - T i v*T r c) den
section
variable {n m:Nat} {A:Mat} {bs:Nat→Nat} {T:Mat} {den:Int} (h:Tab n m A bs T den)
include h
theorem Tab.nz:det n (bas A bs)≠0:=by
 obtain⟨s,_,hd,_⟩:=h.num
 intro e
 have:=h.pos
 rw [hd,e,Int.mul_zero] at this
 omega
theorem Tab.cramer {k c:Nat} (hk:k < n) (hc:c < m):sm n (fun i=>A k (bs i)*T i c)=den*A k c:=by
 obtain⟨s,_,hd,hT⟩:=h.num
 have e:=adj_col (bas A bs) (fun k=>A k c) hk
 rw [hd,Int.mul_assoc, ← e, ← sm_mul]
 refine sm_congr (fun i hi=>?_)
 rw [hT i c hi hc]
 unfold cd bas
 grind
theorem Tab.stE_eq {r v i c:Nat} (hr:r < n) (hv:v < m) (hi:i < n) (hc:c < m):
  ∃s:Int,(s=1∨s= -1)∧T r v=s*det n (bas A (nupd bs r v))∧den=s*det n (bas A bs)∧(i≠r→T i c*T r v - T i v*T r c=den*(s*cd n A (nupd bs r v) i c))∧stE T den r v i c=s*cd n A (nupd bs r v) i c:=by
 obtain⟨s,hs,hd,hT⟩:=h.num
 have hss:s*s=1:=by rcases hs with rfl | rfl <;> rfl
 have key:i≠r→T i c*T r v - T i v*T r c=den*(s*cd n A (nupd bs r v) i c):=by
  intro hir
  rw [hT i c hi hc,hT r v hr hv,hT i v hi hv,hT r c hr hc,hd]
  have e:=pluck hi hr hir (bas A bs) (fun k=>A k c) (fun k=>A k v)
  unfold cd at*
  rw [bas_nupd]
  grind
 refine⟨s,hs,?_,hd,key,?_⟩
 ·rw [hT r v hr hv,bas_nupd];rfl
 ·unfold stE
  by_cases e:i=r
  ·subst e
   rw [if_pos rfl,hT i c hi hc]
   unfold cd
   rw [bas_nupd,cset_twice]
  ·rw [if_neg e,key e,Int.mul_tdiv_cancel_left _ (by have:=h.pos;omega)]
end
theorem Tab.step {n m:Nat} {A:Mat} {bs:Nat→Nat} {T T':Mat} {den:Int} (h:Tab n m A bs T den) {r v:Nat} (hr:r < n) (hv:v < m) (hp:T r v≠0)
  (hT': ∀i c,i < n→c < m→T' i c=if T r v < 0 then - stE T den r v i c else stE T den r v i c):Tab n m A (nupd bs r v) T' (if T r v < 0 then - T r v else T r v):=by
 obtain⟨s,hs,hd,hT⟩:=h.num
 have e0:T r v=s*det n (bas A (nupd bs r v)):=by rw [hT r v hr hv,bas_nupd];rfl
 have all: ∀i c,i < n→c < m→stE T den r v i c=s*cd n A (nupd bs r v) i c:=by
  intro i c hi hc
  obtain⟨s',hs',h1,h2,_,h4⟩:=h.stE_eq hr hv hi hc
  have:s'=s:=by
   have hz:=h.nz
   rw [hd] at h2
   exact(Int.eq_of_mul_eq_mul_right hz h2).symm
  rw [h4,this]
 by_cases q:T r v < 0
 ·refine⟨by rw [if_pos q];omega, -s,by omega,by rw [if_pos q,e0];grind,fun i c hi hc=>?_⟩
  rw [hT' i c hi hc,if_pos q,all i c hi hc];grind
 ·refine⟨by rw [if_neg q];omega,s,hs,by rw [if_neg q,e0],fun i c hi hc=>?_⟩
  rw [hT' i c hi hc,if_neg q,all i c hi hc]
def Small (n m:Nat) (A:Mat):Prop:= ∀i c,i < n→c < m→(A i c).natAbs≤if c+1=m then 100 else 20
theorem cd_abs {n m:Nat} (hn:n≤5) {A:Mat} (hA:Small n m A) {bs:Nat→Nat} (hb: ∀j,j < n→bs j+1 < m) {i c:Nat} (hc:c < m):(cd n A bs i c).natAbs≤1920000000:=by
 refine Nat.le_trans (det_absk n i _ (fun a b ha hb'=>?_)) (b20_le n hn)
 unfold cset
 by_cases e:b=i
 ·rw [if_pos e,if_pos e]
  have:=hA a c ha hc
  show (A a c).natAbs≤100
  split at this <;> omega
 ·rw [if_neg e,if_neg e]
  have:=hA a (bs b) ha (by have:=hb b hb';omega)
  rw [if_neg (by have:=hb b hb';omega)] at this
  exact this
theorem Tab.abs {n m:Nat} (hn:n≤5) {A:Mat} (hA:Small n m A) {bs:Nat→Nat} (hb: ∀j,j < n→bs j+1 < m) {T:Mat} {den:Int} (h:Tab n m A bs T den) {i c:Nat} (hi:i < n) (hc:c < m): -1920000000≤T i c∧T i c≤1920000000:=by
 obtain⟨s,hs,_,hT⟩:=h.num
 have:=cd_abs hn hA hb (i:=i) hc
 rw [hT i c hi hc]
 rcases hs with rfl | rfl <;> omega
theorem Tab.den_abs {n m:Nat} (hn:n≤5) {A:Mat} (hA:Small n m A) {bs:Nat→Nat} (hb: ∀j,j < n→bs j+1 < m) {T:Mat} {den:Int} (h:Tab n m A bs T den):den≤1920000000:=by
 obtain⟨s,hs,hd,_⟩:=h.num
 have:(det n (bas A bs)).natAbs≤1920000000:=by
  refine Nat.le_trans (det_absk n n _ (fun a b ha hb'=>?_)) (b20_le n hn)
  have:=hA a (bs b) ha (by have:=hb b hb';omega)
  rw [if_neg (by have:=hb b hb';omega)] at this
  rw [if_neg (by omega)]
  exact this
 rcases hs with rfl | rfl <;> omega
end Go.Proofs.Ytmpkckiifeikkaa.Lk
end
section
namespace Go.Proofs.Ytmpkckiifeikkaa.Lt
open Go.RowKit Go.Proofs.YtmpkckiifeikkaaW.PrintWords Go.Proofs.YtmpkckiifeikkaaW.PrintMore Go.Proofs.Ytmpkckiifeikkaa.Ma Go.Proofs.Ytmpkckiifeikkaa.Dt Go.Proofs.Ytmpkckiifeikkaa.Bz Go.Proofs.Ytmpkckiifeikkaa.Lk
def evT (T:Mat) (den:Int) (r v i c:Nat):Int:=wrap64 (Int.tdiv (wrap64 (wrap64 (T i c*T r v) - wrap64 (T i v*T r c))) den)
def stA (T:Mat) (den:Int) (r v:Nat):Mat:=fun i c=>if i=r then T r c else evT T den r v i c
def stT (T:Mat) (den:Int) (r v:Nat):Mat:=fun i c=>if T r v < 0 then wrap64 (- stA T den r v i c) else stA T den r v i c
def stD (T:Mat) (r v:Nat):Int:=if T r v < 0 then wrap64 (- T r v) else T r v
def kl (T:Mat) (i k:Nat) (x y:Int):List Nat→Bool
 | []=>false
 | c::l=>if T i c*y < T k c*x then true else if T k c*x < T i c*y then false else kl T i k x y l
def cols (n m:Nat):List Nat:=(m - 1)::List.range n
def bet (less:Nat→Nat→Bool) (i:Nat):Option Nat→Bool
 | none=>true
 | some j=>less i j
def lst (b:Nat→Int) (less:Nat→Nat→Bool):List Nat→Option Nat→Option Nat
 | [],o=>o
 | i::l,o=>lst b less l (if 0 < b i∧bet less i o=true then some i else o)
def idl (n:Nat):List Int:=(List.range n).map (fun(i:Nat)=>(i:Int))
structure TS where
 T:Mat
 den:Int
 bs:List Int
def TS.step (s:TS) (r v:Nat):TS:=⟨stT s.T s.den r v,stD s.T r v,s.bs.set r (v:Int)⟩
def rowB (n m:Nat) (s:TS) (b:Nat→Int):Option Nat:=lst b (fun i j=>kl s.T i j (b i) (b j) (cols n m)) (List.range n) none
def partner (n v:Nat):Nat:=if v < n then v+n else v - n
def goI (n m:Nat):Nat→TS→Nat→Nat→List (List Int)→TS × List (List Int) × Bool × Int × Int
 | 0,s,_,_,st=>(s,st,false,0,0)
 | q+1,s,v,r,st=>
  if st.length=200 then(s,st,false,0,3)
  else if s.bs.getD r 0=2*(n:Int) then(s.step r v,st++ [[(v:Int),s.bs.getD r 0]],true,0,0)
  else match rowB n m (s.step r v) (fun i=>(s.step r v).T i (partner n (s.bs.getD r 0).toNat)) with
   | none=>(s.step r v,st++ [[(v:Int),s.bs.getD r 0]],false,(partner n (s.bs.getD r 0).toNat:Nat),0)
   | some r'=>goI n m q (s.step r v) (partner n (s.bs.getD r 0).toNat) r' (st++ [[(v:Int),s.bs.getD r 0]])
def tab0 (n:Nat) (M:Mat) (cv q:Nat→Int):Mat:=fun i c=>if c < n then(if c=i then 1 else 0) else if c < 2*n then - M i (c - n) else if c=2*n then - cv i else q i
def first (n:Nat) (M:Mat) (cv q:Nat→Int):TS:=⟨tab0 n M cv q,1,idl n⟩
def feas (n:Nat) (q:Nat→Int):Bool:=(List.range n).all (fun i=>decide (0≤q i))
def runI (n:Nat) (M:Mat) (cv q:Nat→Int) (most:Nat):TS × List (List Int) × Bool × Int × Int:=
 if feas n q=true then(first n M cv q, [],true,0,0)
 else match rowB n (2*n+2) (first n M cv q) cv with
  | none=>(first n M cv q, [],false,0,0)
  | some r=>goI n (2*n+2) most (first n M cv q) (2*n) r []
theorem lst_lt {b:Nat→Int} {less:Nat→Nat→Bool} {n:Nat}: ∀ {l:List Nat} {o:Option Nat} {r:Nat},(∀i ∈ l,i < n)→(∀j,o=some j→j < n∧0 < b j)→lst b less l o=some r→r < n∧0 < b r
 | [],o,r,_,ho,h=>ho r h
 | i::l,o,r,hl,ho,h=>by
  unfold lst at h
  refine lst_lt (fun j hj=>hl j (List.mem_cons_of_mem _ hj)) (fun j hj=>?_) h
  by_cases c:0 < b i∧bet less i o=true
  ·rw [if_pos c] at hj
   cases hj
   exact⟨hl i List.mem_cons_self,c.1⟩
  ·rw [if_neg c] at hj
   exact ho j hj
theorem lst_none {b:Nat→Int} {less:Nat→Nat→Bool}: ∀ {l:List Nat} {o:Option Nat},lst b less l o=none→o=none∧ ∀i ∈ l,b i≤0
 | [],o,h=>⟨h,fun i hi=>by cases hi⟩
 | i::l,o,h=>by
  unfold lst at h
  obtain⟨h1,h2⟩:=lst_none h
  by_cases c:0 < b i∧bet less i o=true
  ·rw [if_pos c] at h1;cases h1
  ·rw [if_neg c] at h1
   subst h1
   refine⟨rfl,fun k hk=>?_⟩
   rcases List.mem_cons.1 hk with rfl | hk
   ·simp [bet] at c;omega
   ·exact h2 k hk
theorem rowB_some {n m:Nat} {s:TS} {b:Nat→Int} {r:Nat} (h:rowB n m s b=some r):r < n∧0 < b r:=lst_lt (fun i hi=>List.mem_range.1 hi) (fun j hj=>by cases hj) h
theorem rowB_none {n m:Nat} {s:TS} {b:Nat→Int} (h:rowB n m s b=none): ∀i,i < n→b i≤0:=fun i hi=>(lst_none h).2 i (List.mem_range.2 hi)
structure Ok (n m:Nat) (A:Mat) (s:TS):Prop where
 tab:Tab n m A (fun j=>(s.bs.getD j 0).toNat) s.T s.den
 len:s.bs.length=n
 nn: ∀j,j < n→0≤s.bs.getD j 0
 lt: ∀j,j < n→(s.bs.getD j 0).toNat+1 < m
section
variable {n m:Nat} (hn:n≤5) {A:Mat} (hA:Small n m A) {s:TS} (h:Ok n m A s)
include hn hA h
theorem Ok.abs {i c:Nat} (hi:i < n) (hc:c < m): -1920000000≤s.T i c∧s.T i c≤1920000000:=h.tab.abs hn hA h.lt hi hc
theorem Ok.den_le:0 < s.den∧s.den≤1920000000:=⟨h.tab.pos,h.tab.den_abs hn hA h.lt⟩
theorem Ok.stE_abs {r v i c:Nat} (hr:r < n) (hv:v+1 < m) (hi:i < n) (hc:c < m): -1920000000≤stE s.T s.den r v i c∧stE s.T s.den r v i c≤1920000000:=by
 obtain⟨g,hg,_,_,_,h4⟩:=h.tab.stE_eq (v:=v) hr (by omega) hi hc
 have:=cd_abs hn hA (bs:=nupd (fun j=>(s.bs.getD j 0).toNat) r v) (fun j hj=>by unfold nupd;split;exact hv;exact h.lt j hj) (i:=i) hc
 rw [h4]
 rcases hg with rfl | rfl <;> omega
theorem Ok.stA_eq {r v i c:Nat} (hr:r < n) (hv:v+1 < m) (hi:i < n) (hc:c < m):stA s.T s.den r v i c=stE s.T s.den r v i c:=by
 unfold stA stE
 by_cases e:i=r
 ·rw [if_pos e,if_pos e]
 ·rw [if_neg e,if_neg e]
  unfold evT
  have b1:=prod_b (h.abs hn hA hi hc) (h.abs hn hA hr (c:=v) (by omega))
  have b2:=prod_b (h.abs hn hA hi (c:=v) (by omega)) (h.abs hn hA hr hc)
  have b3:=h.stE_abs hn hA hr hv hi hc
  unfold stE at b3
  rw [if_neg e] at b3
  rw [w64 (x:=s.T i c*s.T r v) (by omega) (by omega),w64 (x:=s.T i v*s.T r c) (by omega) (by omega),w64 (x:=s.T i c*s.T r v - s.T i v*s.T r c) (by omega) (by omega)]
  exact w64 (by omega) (by omega)
theorem Ok.step {r v:Nat} (hr:r < n) (hv:v+1 < m) (hp:s.T r v≠0):Ok n m A (s.step r v):=by
 have hb:=h.abs hn hA hr (c:=v) (by omega)
 have hset (j:Nat):((s.bs.set r (v:Int)).getD j 0)=if j=r then(v:Int) else s.bs.getD j 0:=by
  have hl:=h.len
  rw [List.getD_eq_getElem?_getD,List.getElem?_set]
  by_cases e:r=j
  ·subst e;rw [if_pos rfl,if_pos (by omega),if_pos rfl];rfl
  ·rw [if_neg e,if_neg (Ne.symm e),List.getD_eq_getElem?_getD]
 have hbs:(fun j=>((s.bs.set r (v:Int)).getD j 0).toNat)=nupd (fun j=>(s.bs.getD j 0).toNat) r v:=by
  funext j
  rw [hset j];unfold nupd
  split <;> simp
 refine⟨?_,by show (s.bs.set r (v:Int)).length=n;rw [List.length_set];exact h.len,fun j hj=>?_,fun j hj=>?_⟩
 ·show Tab n m A (fun j=>((s.bs.set r (v:Int)).getD j 0).toNat) (stT s.T s.den r v) (stD s.T r v)
  rw [hbs]
  have e:stD s.T r v=if s.T r v < 0 then - s.T r v else s.T r v:=by
   unfold stD
   split
   ·exact w64 (by omega) (by omega)
   ·rfl
  rw [e]
  refine h.tab.step hr (by omega) hp (fun i c hi hc=>?_)
  have b:=h.stE_abs hn hA hr hv hi hc
  unfold stT
  rw [h.stA_eq hn hA hr hv hi hc]
  split
  ·exact w64 (by omega) (by omega)
  ·rfl
 ·show 0≤(s.bs.set r (v:Int)).getD j 0
  rw [hset j]
  split
  ·omega
  ·exact h.nn j hj
 ·show ((s.bs.set r (v:Int)).getD j 0).toNat+1 < m
  rw [hset j]
  split
  ·simp;exact hv
  ·exact h.lt j hj
end
theorem first_small {n:Nat} {M:Mat} {cv q:Nat→Int} (hM: ∀i k,i < n→k < n→(M i k).natAbs≤20) (hc: ∀i,i < n→(cv i).natAbs≤20) (hq: ∀i,i < n→(q i).natAbs≤100):Small n (2*n+2) (tab0 n M cv q):=by
 intro i c hi hcm
 unfold tab0
 by_cases e1:c < n
 ·rw [if_pos e1,if_neg (show ¬ c+1=2*n+2 by omega)]
  split <;> decide
 ·rw [if_neg e1]
  by_cases e2:c < 2*n
  ·rw [if_pos e2,if_neg (by omega)]
   have:=hM i (c - n) hi (by omega)
   rw [Int.natAbs_neg];exact this
  ·rw [if_neg e2]
   by_cases e3:c=2*n
   ·rw [if_pos e3,if_neg (by omega)]
    rw [Int.natAbs_neg];exact hc i hi
   ·rw [if_neg e3,if_pos (by omega)]
    exact hq i hi
theorem first_ok {n:Nat} {M:Mat} {cv q:Nat→Int}:Ok n (2*n+2) (tab0 n M cv q) (first n M cv q):=by
 have g: ∀j,j < n→(idl n).getD j 0=(j:Int):=fun j hj=>by simp [idl,hj]
 refine⟨?_,by simp [first,idl],fun j hj=>?_,fun j hj=>?_⟩
 ·have h:=Tab.first (n:=n) (m:=2*n+2) (A:=tab0 n M cv q) (fun i j hi hj=>by unfold tab0;rw [if_pos hj];by_cases e:i=j <;> simp [e,eq_comm])
  refine⟨Int.one_pos,?_⟩
  obtain⟨s,hs,hd,hT⟩:=h.num
  have e: ∀i j,i < n→j < n→bas (tab0 n M cv q) (fun j=>((first n M cv q).bs.getD j 0).toNat) i j=bas (tab0 n M cv q) (fun j=>j) i j:=fun i j hi hj=>by
   unfold bas
   show tab0 n M cv q i ((idl n).getD j 0).toNat=_
   rw [g j hj];rfl
  refine⟨s,hs,by rw [det_congr e];exact hd,fun i c hi hc=>?_⟩
  rw [show (first n M cv q).T i c=tab0 n M cv q i c from rfl,hT i c hi hc]
  unfold cd
  congr 1
  exact det_congr (fun a b ha hb=>by unfold cset;split;rfl;exact(e a b ha hb).symm)
 ·show 0≤(idl n).getD j 0
  rw [g j hj];omega
 ·show ((idl n).getD j 0).toNat+1 < 2*n+2
  rw [g j hj];simp;omega
end Go.Proofs.Ytmpkckiifeikkaa.Lt
end
section
namespace Go.Proofs.Ytmpkckiifeikkaa.Lq
open Go.RowKit Go.Proofs.YtmpkckiifeikkaaW.PrintWords Go.Proofs.YtmpkckiifeikkaaW.PrintLast Go.Proofs.YtmpkckiifeikkaaW.PrintMore Go.Proofs.Ytmpkckiifeikkaa.Pr Go.Proofs.Ytmpkckiifeikkaa.Ma Go.Proofs.Ytmpkckiifeikkaa.Dt Go.Proofs.Ytmpkckiifeikkaa.Lk Go.Proofs.Ytmpkckiifeikkaa.Lt
theorem nd_ {P:Program} {ops:Array Oper} {Q:Exit→Act→World→Prop} {md:Region.Mode} {S:World→Prop} {ds:List Nat} {fuel:Nat} {l:Array Bool} {a a':Act} {w:World} {dst:Option Tmp} {v:Value} (N:Tmp) (h:wpAnyLast P md ops Q S ds fuel l a' w) (hN:dst=some N:=by rfl) (ha:a.put (some N) v=a':=by(simp only [Act.put,List.setIfInBounds_toArray,List.set_cons_zero,List.set_cons_succ,i64_w,i32_w];rfl)):wpAnyLast P md ops Q S ds fuel l (a.put dst v) w:=by
 subst hN;rw [ha];exact h
structure Out (w w':World) (a b:Nat):Prop where
 os:w'.os=w.os
 tape:w'.tape=w.tape
 output:w'.output=w.output
 size:w.heap.size≤w'.heap.size
 same: ∀k,k < w.heap.size→k < a∨b≤k→w'.heap[k]?=w.heap[k]?
theorem Out.below {w w':World} (h:Below w.heap.size w w') (a b:Nat):Out w w' a b:=⟨h.os,h.tape,h.output,h.size,fun k hk _=>h.block k hk⟩
theorem Out.refl (w:World) (a b:Nat):Out w w a b:=⟨rfl,rfl,rfl,Nat.le_refl _,fun _ _ _=>rfl⟩
theorem Out.drew (w:World) (a b:Nat):Out w w.drew a b:=⟨rfl,rfl,rfl,Nat.le_refl _,fun _ _ _=>rfl⟩
theorem Out.trans {w w1 w2:World} {a b:Nat} (h:Out w w1 a b) (k:Out w1 w2 a b):Out w w2 a b:=
 ⟨k.os.trans h.os,k.tape.trans h.tape,k.output.trans h.output,Nat.le_trans h.size k.size,fun i hi hn=>(k.same i (Nat.lt_of_lt_of_le hi h.size) hn).trans (h.same i hi hn)⟩
theorem Out.set (w:World) {g:Nat} (i:Nat) (u:Value) {a b:Nat} (h:a≤g∧g < b):Out w (w.setCell ⟨g,i,none⟩ u) a b:=
 ⟨rfl,rfl,rfl,by simp,fun k _ hk=>Below.heap_setCell w ⟨g,i,none⟩ u k (by simp;omega)⟩
theorem Out.mono {w w':World} {a b c d:Nat} (h:Out w w' a b) (h1:c≤a) (h2:b≤d):Out w w' c d:=⟨h.os,h.tape,h.output,h.size,fun k hk hn=>h.same k hk (by omega)⟩
theorem Out.blk {w w':World} {a b g:Nat} {o:Obj} (h:Out w w' a b) (hg:w.heap[g]?=some o) (hn:g < a∨b≤g):w'.heap[g]?=some o:=(h.same g (blk_lt hg) hn).trans hg
theorem Out.toBelow {w0 w w':World} {a b:Nat} (h:Out w w' a b) (h0:Below w0.heap.size w0 w) (ha:w0.heap.size≤a):Below w0.heap.size w0 w':=
 h0.trans ⟨h.os,h.tape,h.output,h.size,fun k hk=>h.same k (Nat.lt_of_lt_of_le hk h0.size) (by omega)⟩
theorem Out.cell {w w':World} {a b:Nat} (h:Out w w' a b) {p:Addr} {v:Value} (hp:w.cell? p=some v) (hn:p.block < a∨b≤p.block):w'.cell? p=some v:=by
 have:=World.block_lt_of_cell? w _ hp
 rw [← hp]
 unfold World.cell?
 rw [h.same _ this hn]
theorem Out.froz {w w':World} {a b:Nat} (h:Out w w' a b) {p:Addr} (hl:p.block < w.heap.size) (hn:p.block < a∨b≤p.block):w'.frozen? p=w.frozen? p:=by
 unfold World.frozen?
 rw [h.same _ hl hn]
def mset (M:Mat) (r c:Nat) (x:Int):Mat:=fun i j=>if i=r∧j=c then x else M i j
structure Tm (w:World) (lo hi t g gb n m cg cb:Nat) (b cp:Nat→Nat) (s:TS):Prop where
 size:hi≤w.heap.size
 tR:lo≤t∧t < hi
 gR:lo≤g∧g < hi
 bR:lo≤gb∧gb < hi
 rR: ∀j,j < n→lo≤b j∧b j < hi
 inj: ∀i j,i < n→j < n→b i=b j→i=j
 ne: ∀j,j < n→b j≠g∧b j≠t∧b j≠gb
 tg:t≠g
 tb:t≠gb
 gg:g≠gb
 cap: ∀j,j < n→m≤cp j
 len:s.bs.length=n
 nc:n≤cg∧n≤cb
 h0:w.cell? ⟨t,0,none⟩=some (.slice (some ⟨g,0,none⟩) n cg)
 h1:w.cell? ⟨t,1,none⟩=some (.int .i64 s.den)∧w.frozen? ⟨t,1,none⟩=false
 h2:w.cell? ⟨t,2,none⟩=some (.slice (some ⟨gb,0,none⟩) n cb)
 h3:w.cell? ⟨t,3,none⟩=some (.int .i64 n)
 og: ∀j,j < n→w.cell? ⟨g,j,none⟩=some (.slice (some ⟨b j,0,none⟩) m (cp j))
 ob: ∀j c,j < n→c < m→w.cell? ⟨b j,c,none⟩=some (.int .i64 (s.T j c))∧w.frozen? ⟨b j,c,none⟩=false
 oq: ∀j,j < n→w.cell? ⟨gb,j,none⟩=some (.int .i64 (s.bs.getD j 0))∧w.frozen? ⟨gb,j,none⟩=false
theorem lt_of_cell {w:World} {p:Addr} {v:Value} (h:w.cell? p=some v):p.block < w.heap.size:=World.block_lt_of_cell? w _ h
theorem cset_same {w:World} {p:Addr} {u v:Value} (h:w.cell? p=some u):(w.setCell p v).cell? p=some v:=World.cell?_setCell_same w p v h
theorem cset_other {w:World} {p q:Addr} {v:Value} (h:p≠q):(w.setCell p v).cell? q=w.cell? q:=World.cell?_setCell_other w p q v h
theorem fset {w:World} {p q:Addr} {v:Value}:(w.setCell p v).frozen? q=w.frozen? q:=World.frozen?_setCell w p q v
theorem cset_blk {w:World} {g i h j:Nat} {v:Value} (e:g≠h):(w.setCell ⟨g,i,none⟩ v).cell? ⟨h,j,none⟩=w.cell? ⟨h,j,none⟩:=cset_other (fun q=>e (congrArg Addr.block q))
theorem cset_off {w:World} {g i h j:Nat} {v:Value} (e:i≠j):(w.setCell ⟨g,i,none⟩ v).cell? ⟨h,j,none⟩=w.cell? ⟨h,j,none⟩:=cset_other (fun q=>e (congrArg Addr.off q))
theorem add_off (g i j:Nat):(⟨g,i,none⟩:Addr).add j=⟨g,i+j,none⟩:=by unfold Addr.add;split <;> simp_all
def rowN (T:Mat) (i m:Nat):List Int:=(List.range m).map (T i)
theorem rowN_len (T:Mat) (i m:Nat):(rowN T i m).length=m:=by simp [rowN]
section
variable {w w':World} {lo hi t g gb n m cg cb:Nat} {b cp:Nat→Nat} {s:TS} (h:Tm w lo hi t g gb n m cg cb b cp s)
include h
theorem Tm.mv {x y:Nat} (F:Out w w' x y) (hd:hi≤x∨y≤lo):Tm w' lo hi t g gb n m cg cb b cp s:=by
 have ht:t < x∨y≤t:=by have:=h.tR;omega
 have hg:g < x∨y≤g:=by have:=h.gR;omega
 have hq:gb < x∨y≤gb:=by have:=h.bR;omega
 have hb: ∀j,j < n→b j < x∨y≤b j:=fun j hj=>by have:=h.rR j hj;omega
 have hs:=h.size
 have sz:=F.size
 exact⟨by omega,h.tR,h.gR,h.bR,h.rR,h.inj,h.ne,h.tg,h.tb,h.gg,h.cap,h.len,h.nc,F.cell h.h0 ht,⟨F.cell h.h1.1 ht,(F.froz (lt_of_cell h.h1.1) ht).trans h.h1.2⟩,F.cell h.h2 ht,F.cell h.h3 ht,
  fun j hj=>F.cell (h.og j hj) hg,fun j c hj hc=>⟨F.cell (h.ob j c hj hc).1 (hb j hj),(F.froz (lt_of_cell (h.ob j c hj hc).1) (hb j hj)).trans (h.ob j c hj hc).2⟩,
  fun j hj=>⟨F.cell (h.oq j hj).1 hq,(F.froz (lt_of_cell (h.oq j hj).1) hq).trans (h.oq j hj).2⟩⟩
theorem Tm.mvB (hb:Below w.heap.size w w'):Tm w' lo hi t g gb n m cg cb b cp s:=h.mv (Out.below hb 0 0) (.inr (Nat.zero_le _))
theorem Tm.congr {s':TS} (e: ∀i j,i < n→j < m→s.T i j=s'.T i j) (e2:s'.den=s.den) (e3:s'.bs=s.bs):Tm w lo hi t g gb n m cg cb b cp s':=
 ⟨h.size,h.tR,h.gR,h.bR,h.rR,h.inj,h.ne,h.tg,h.tb,h.gg,h.cap,by rw [e3];exact h.len,h.nc,h.h0,by rw [e2];exact h.h1,h.h2,h.h3,h.og,fun j c hj hc=>by rw [← e j c hj hc];exact h.ob j c hj hc,fun j hj=>by rw [e3];exact h.oq j hj⟩
theorem Tm.put {r c:Nat} (hr:r < n) (hc:c < m) (x:Int):Tm (w.setCell ⟨b r,c,none⟩ (.int .i64 x)) lo hi t g gb n m cg cb b cp ⟨mset s.T r c x,s.den,s.bs⟩:=by
 have hn:=h.ne r hr
 refine⟨by simpa using h.size,h.tR,h.gR,h.bR,h.rR,h.inj,h.ne,h.tg,h.tb,h.gg,h.cap,h.len,h.nc,(cset_blk hn.2.1).trans h.h0,⟨(cset_blk hn.2.1).trans h.h1.1,fset.trans h.h1.2⟩,(cset_blk hn.2.1).trans h.h2,(cset_blk hn.2.1).trans h.h3,fun j hj=>(cset_blk hn.1).trans (h.og j hj),fun j d hj hd=>⟨?_,fset.trans (h.ob j d hj hd).2⟩,fun j hj=>⟨(cset_blk hn.2.2).trans (h.oq j hj).1,fset.trans (h.oq j hj).2⟩⟩
 show World.cell? _ _=some (Value.int .i64 (mset s.T r c x j d))
 unfold mset
 by_cases e:j=r∧d=c
 ·obtain⟨rfl,rfl⟩:=e
  rw [if_pos ⟨rfl,rfl⟩]
  exact cset_same (h.ob j d hj hd).1
 ·rw [if_neg e,cset_other (fun q=>e ⟨(h.inj r j hr hj (congrArg Addr.block q)).symm,(congrArg Addr.off q).symm⟩)]
  exact(h.ob j d hj hd).1
theorem Tm.putD (x:Int):Tm (w.setCell ⟨t,1,none⟩ (.int .i64 x)) lo hi t g gb n m cg cb b cp ⟨s.T,x,s.bs⟩:=
 ⟨by simpa using h.size,h.tR,h.gR,h.bR,h.rR,h.inj,h.ne,h.tg,h.tb,h.gg,h.cap,h.len,h.nc,(cset_off (by decide)).trans h.h0,⟨cset_same h.h1.1,fset.trans h.h1.2⟩,(cset_off (by decide)).trans h.h2,(cset_off (by decide)).trans h.h3,fun j hj=>(cset_blk h.tg).trans (h.og j hj),fun j d hj hd=>⟨(cset_blk (Ne.symm (h.ne j hj).2.1)).trans (h.ob j d hj hd).1,fset.trans (h.ob j d hj hd).2⟩,fun j hj=>⟨(cset_blk h.tb).trans (h.oq j hj).1,fset.trans (h.oq j hj).2⟩⟩
theorem Tm.putB {r:Nat} (hr:r < n) (x:Int):Tm (w.setCell ⟨gb,r,none⟩ (.int .i64 x)) lo hi t g gb n m cg cb b cp ⟨s.T,s.den,s.bs.set r x⟩:=by
 refine⟨by simpa using h.size,h.tR,h.gR,h.bR,h.rR,h.inj,h.ne,h.tg,h.tb,h.gg,h.cap,by simpa using h.len,h.nc,(cset_blk (Ne.symm h.tb)).trans h.h0,⟨(cset_blk (Ne.symm h.tb)).trans h.h1.1,fset.trans h.h1.2⟩,(cset_blk (Ne.symm h.tb)).trans h.h2,(cset_blk (Ne.symm h.tb)).trans h.h3,fun j hj=>(cset_blk (Ne.symm h.gg)).trans (h.og j hj),fun j d hj hd=>⟨(cset_blk (Ne.symm (h.ne j hj).2.2)).trans (h.ob j d hj hd).1,fset.trans (h.ob j d hj hd).2⟩,fun j hj=>⟨?_,fset.trans (h.oq j hj).2⟩⟩
 show World.cell? _ _=some (Value.int .i64 ((s.bs.set r x).getD j 0))
 rw [List.getD_eq_getElem?_getD,List.getElem?_set]
 by_cases e:r=j
 ·subst e
  rw [if_pos rfl,if_pos (by rw [h.len];exact hr)]
  exact cset_same (h.oq r hr).1
 ·rw [if_neg e,cset_off e,(h.oq j hj).1,List.getD_eq_getElem?_getD]
theorem Tm.C {j:Nat} (hj:j < n) (k:Nat) (hk:k≤m) (hm:m≤1099511627776):Kd.C (Kd.int .i64) w (some ⟨b j,0,none⟩) (rowN s.T j k).length (rowN s.T j k):=by
 have hl:=rowN_len s.T j k
 refine⟨rfl,by rw [hl];omega,fun _=>⟨_,rfl,fun c p hp=>?_⟩⟩
 have hc:c < k:=by have:=(List.getElem?_eq_some_iff.1 hp).1;omega
 have hpe:p=s.T j c:=by
  rw [rowN,List.getElem?_map,List.getElem?_range hc] at hp
  exact(Option.some.inj hp).symm
 subst hpe
 refine⟨[.int .i64 (s.T j c)],rfl,rfl,fun u v hv=>?_⟩
 have hu:u=0:=by cases u with
  | zero=>rfl
  | succ u=>simp at hv
 subst hu
 have hv:Value.int .i64 (s.T j c)=v:=by simpa using hv
 rw [← hv]
 have e:(⟨b j,0,none⟩:Addr).add (c*(Kd.int .i64).sz+0)=⟨b j,c,none⟩:=by
  show (⟨b j,0,none⟩:Addr).add (c*1+0)=_
  rw [Nat.mul_one,Nat.add_zero,add_off];try rw [Nat.zero_add]
 rw [e];exact(h.ob j c hj (by omega)).1
end
end Go.Proofs.Ytmpkckiifeikkaa.Lq
end
section
namespace Go.Proofs.Ytmpkckiifeikkaa.Lq
open Go.RowKit Go.Proofs.YtmpkckiifeikkaaW.PrintWords Go.Proofs.YtmpkckiifeikkaaW.PrintLast Go.Proofs.YtmpkckiifeikkaaW.PrintMore Go.Proofs.Ytmpkckiifeikkaa.Pr Go.Proofs.Ytmpkckiifeikkaa.Ma Go.Proofs.Ytmpkckiifeikkaa.Dt Go.Proofs.Ytmpkckiifeikkaa.Lk Go.Proofs.Ytmpkckiifeikkaa.Lt
theorem right_calls {w:World} {lo hi t g gb n m cg cb:Nat} {b cp:Nat→Nat} {s:TS} (h:Tm w lo hi t g gb n m cg cb b cp s) (i:Nat) (hin:i < n) (hm:0 < m) (hm2:m≤1000):
  Calls Try.prog 89 #[.pointer (some ⟨t,0,none⟩), .int .i64 (i:Int)] w fun e w'=>e= .returned (.int .i64 (s.T i (m - 1)))∧Below w.heap.size w w':=by
 have h':=h.mv (Out.drew w 0 0) (.inr (Nat.zero_le _))
 have hcz0:=h'.h0
 have hcz1:=h'.og i hin
 have hcz2:=(h'.ob i (m - 1) hin (by omega)).1
 have hiz:(i:Int) < (n:Int):=by omega
 have h0z:(0:Int)≤(i:Int):=by omega
 have hmz:((m - 1:Nat):Int) < (m:Int):=by omega
 have hm0:(0:Int)≤((m - 1:Nat):Int):=by omega
 have hm1:IntKind.i64.wrap ((m:Int) - 1)=((m - 1:Nat):Int):=by rw [IntWalk.i64_in _ (by omega)];omega
 have HBW:=Aside0.mk (below_drew (Below.refl w.heap.size w))
 generalize s.T i (m - 1)=x at hcz2 ⊢
 generalize m - 1=q at hcz2 hm1 hmz hm0
 clear h h' hin hm hm2
 go_enter Try.func89,Try.ntmps89
 go_wp2
 refine st_ (n:=19) (S:=fun w'=>w'.cell? ⟨t,0,none⟩=some (.slice (some ⟨g,0,none⟩) n cg)∧w'.cell? ⟨g,i,none⟩=some (.slice (some ⟨b i,0,none⟩) m (cp i))∧w'.cell? ⟨b i,q,none⟩=some (.int .i64 x)) (ds:= []) ⟨hcz0,hcz1,hcz2⟩ (fun hHeld=>?_)
 generalize w.drew=w1 at HBW hcz0 hcz1 hcz2 hHeld ⊢
 refine pu_ 0 5 ?_;refine pu_ 1 6 ?_;refine pu_ 2 7 ?_;refine tk_ 3 8 ?_;refine pu_ 4 9 ?_;refine pu_ 5 10 ?_;refine tk_ 6 11 ?_
 refine pu_ 7 12 ?_;refine pu_ 8 13 ?_;refine pu_ 9 14 ?_;refine tk_ 10 15 ?_;refine pu_ 11 16 ?_;refine pu_ 12 17 ?_;refine tk_ 13 18 ?_
 refine pu_ 14 19 ?_;refine pu_ 15 20 ?_;refine pu_ 16 21 ?_;refine tk_ 17 22 ?_;refine pu_ 18 4 ?_
 refine done_ (by kernel_rfl) ?_
 go_wp2
 go_ret
 exact⟨rfl,HBW.out⟩
theorem key_calls {w:World} {lo hi t g gb n m cg cb:Nat} {b cp:Nat→Nat} {s:TS} (h:Tm w lo hi t g gb n m cg cb b cp s) (i:Nat) (hin:i < n) (hm:n < m) (hm2:m≤1000):
  Calls Try.prog 215 #[.pointer (some ⟨t,0,none⟩), .int .i64 (i:Int)] w fun e w'=> ∃v,e= .returned v∧Kd.R (Kd.int .i64) 2 w' w.heap.size (fun _=>True) v (s.T i (m - 1)::rowN s.T i n)∧Below w.heap.size w w':=by
 have HB:=Aside0.mk (below_drew (Below.refl w.heap.size w))
 have H:=Aside0.mk h
 have HI:=Aside0.mk hin
 have HM:=Aside0.mk hm
 have HM2:=Aside0.mk hm2
 have hiz:(i:Int) < (n:Int):=by omega
 have h0z:(0:Int)≤(i:Int):=by omega
 have hnz:(0:Int)≤(n:Int):=by omega
 have hcap:(n:Int)≤(cp i:Int):=by have:=h.cap i hin;omega
 clear h hin hm hm2
 go_enter Try.func215,Try.ntmps215
 go_wp2
 refine st_ (n:=18) (S:=fun w'=>w'.cell? ⟨t,0,none⟩=some (.slice (some ⟨g,0,none⟩) n cg)∧w'.cell? ⟨g,i,none⟩=some (.slice (some ⟨b i,0,none⟩) m (cp i))∧w'.cell? ⟨t,3,none⟩=some (.int .i64 n)) (ds:= []) ⟨(H.out.mvB HB.out).h0,(H.out.mvB HB.out).og i HI.out,(H.out.mvB HB.out).h3⟩ (fun hHeld=>?_)
 generalize w.drew=w1 at HB hHeld ⊢
 refine pu_ 0 5 ?_;refine pu_ 1 6 ?_
 refine pu_ 4 9 ?_;refine pu_ 5 10 ?_;refine pu_ 6 11 ?_;refine tk_ 7 12 ?_;refine pu_ 8 13 ?_;refine pu_ 9 14 ?_;refine tk_ 10 15 ?_
 refine pu_ 11 16 ?_;refine pu_ 12 17 ?_;refine pu_ 13 18 ?_;refine tk_ 14 19 ?_;refine pu_ 15 20 ?_
 refine on_ 2 (some 7) (fun K hK=>?_)
 refine ca_ Try.func89 #[.pointer (some ⟨t,0,none⟩), .int .i64 (i:Int)] ?_
 refine(right_calls (H.out.mvB HB.out) i HI.out (by have:=HM.out;omega) HM2.out).mono ?_
 rintro e w2 ⟨rfl,hb⟩
 refine⟨_,rfl,?_⟩
 have HB2:=Aside0.mk (below_step HB.out hb)
 clear HB hb hHeld
 refine hK.out _ _ ⟨(H.out.mvB HB2.out).h0,(H.out.mvB HB2.out).og i HI.out,(H.out.mvB HB2.out).h3⟩ (fun hHeld=>?_)
 clear hK K
 refine no_ ?_
 obtain⟨x,hx⟩: ∃x,s.T i (m - 1)=x:=⟨_,rfl⟩
 rw [hx]
 refine on_ 3 (some 8) (fun K hK=>?_)
 refine Kd.R_lit_step (Kd.int .i64) w.heap.size 2 (by rfl) (N:=8) rfl (xs:= [x]) (inner:= [.int .i64 x]) (ok:=fun _=>True) (okp:=fun _=>True) (by first | (go_simp;done) | (go_simp;rfl)) (Reps.one (show Kd.M (Kd.int .i64) _ _ _ x [.int .i64 x] from rfl) (Reps.none _ _)) (fun _ h=>h) trivial HB2.out HB2.out.size (by simp) ?_
 intro v w3 ho hb hg hat
 have HB3:=Aside0.mk hb
 have HO:=Aside0.mk ho
 clear HB2 ho hb hg hat hHeld
 refine hK.out _ _ ⟨(H.out.mvB HB3.out).h0,(H.out.mvB HB3.out).og i HI.out,(H.out.mvB HB3.out).h3⟩ (fun hHeld=>?_)
 clear hK K
 refine nd_ 8 ?_
 refine on_ 16 (some 21) (fun K hK=>?_)
 refine Kd.R_append_rows_step (Kd.int .i64) (w0:=w) w.heap.size (by rfl) (.tmp 8) (.tmp 20) 23 2 (.int .i64 0) 8 rfl Try.underlying23 info2 rfl (by decide) (by omega) v [x] (rowN s.T i n) _ _ _ (fun _=>True) (fun _=>False) rfl rfl HO.out ?aR (fun _ _ h=>h) (fun _ h=>h.elim) (fun _ _=>trivial) HB3.out HB3.out.size ?aL ?_
 case aR=>have hC:=(H.out.mvB HB3.out).C HI.out n (by have:=HM.out;omega) (by have:=HM2.out;omega);rw [rowN_len] at hC;exact hC
 case aL=>have:=HM.out;have:=HM2.out;simp;omega
 intro v4 w4 ho hb hg hat
 have HB4:=Aside0.mk hb
 have aa:=Aside0.mk ho
 clear HO HB3 ho hb hg hat hHeld
 refine hK.out _ _ ⟨(H.out.mvB HB4.out).h0,(H.out.mvB HB4.out).og i HI.out,(H.out.mvB HB4.out).h3⟩ (fun hHeld=>?_)
 clear hK K
 refine nd_ 21 ?_
 refine pu_ 17 4 ?_
 refine done_ (by kernel_rfl) ?_
 go_wp2
 go_ret
 exact⟨_,rfl,by rw [hx];exact aa.out,HB4.out⟩
end Go.Proofs.Ytmpkckiifeikkaa.Lq
end
section
namespace Go.Proofs.Ytmpkckiifeikkaa.Lq
open Go.RowKit Go.Proofs.YtmpkckiifeikkaaW.PrintWords Go.Proofs.YtmpkckiifeikkaaW.PrintLast Go.Proofs.YtmpkckiifeikkaaW.PrintMore Go.Proofs.Ytmpkckiifeikkaa.Pr
def cmpL (c:Int→Int→Int):List (Int × Int)→Int
 | []=>0
 | x::l=>if c x.1 x.2=0 then cmpL c l else c x.1 x.2
theorem cmpL_hit (c:Int→Int→Int): ∀(l:List (Int × Int)) (j:Nat) (hj:j < l.length),(∀i (hi:i < l.length),i < j→c l[i].1 l[i].2=0)→c l[j].1 l[j].2≠0→cmpL c l=c l[j].1 l[j].2
 | [],j,hj,_,_=>absurd hj (Nat.not_lt_zero _)
 | x::l,0,_,_,h=>by simp at h;simp [cmpL,h]
 | x::l,j+1,hj,h0,h=>by
  have:=h0 0 (by simp) (by omega)
  simp at this
  rw [cmpL,if_pos this]
  simpa using cmpL_hit c l j (by simpa using hj) (fun i hi hij=>by have:=h0 (i+1) (by simpa using hi) (by omega);simpa using this) (by simpa using h)
theorem cmpL_miss (c:Int→Int→Int): ∀(l:List (Int × Int)),(∀i (hi:i < l.length),c l[i].1 l[i].2=0)→cmpL c l=0
 | [],_=>rfl
 | x::l,h=>by
  have:=h 0 (by simp)
  simp at this
  rw [cmpL,if_pos this]
  exact cmpL_miss c l (fun i hi=>by have:=h (i+1) (by simpa using hi);simpa using this)
def CmpRel (g:Nat) (lb:Array Value) (c:Int→Int→Int) (w:World):Prop:=
 ∀(W:World) (x y:Int),Below w.heap.size w W→Calls Try.prog g (#[.int .i64 x, .int .i64 y]++lb) W fun e w'=>e= .returned (.int .i64 (c x y))∧Below W.heap.size W w'
theorem compareInts (c:Int→Int→Int) (g:Nat) (lb:Array Value) (eg: ∀args w,(callFunc g args).run Try.prog w= .ok (.enter g args) w) (A1 A2:Option Addr) (c1 c2:Nat) (l1 l2:List Int) (w:World) (hl:l2.length=l1.length)
  (hr1:Kd.C (Kd.int .i64) w A1 l1.length l1) (hr2:Kd.C (Kd.int .i64) w A2 l2.length l2) (hp:CmpRel g lb c w):
  Calls Try.prog 214 #[.slice A1 l1.length c1, .slice A2 l2.length c2, .func (.func g) #[] lb] w fun e w'=>e= .returned (.int .i64 (cmpL c (l1.zip l2)))∧Below w.heap.size w w':=by
 have HR1:=Aside0.mk hr1
 have HR2:=Aside0.mk hr2
 have HP:=Aside0.mk hp
 have HL:=Aside0.mk hl
 have hbig:l1.length≤9223372036854775807:=hr1.2.1
 have hz:(l1.zip l2).length=l1.length:=by rw [List.length_zip,hl,Nat.min_self]
 have HZ:=Aside0.mk hz
 have hz2:(l2.length:Int)=(l1.length:Int):=by rw [hl]
 clear hr1 hr2 hp hl hz
 go_enter Try.func214,Try.ntmps214
 go_wp2
 go_loopg [7,8,9,10,13] l1.length (fun gg _ _ _ _ s13 wr=> ∃kk:Nat,kk≤l1.length∧l1.length - kk≤gg∧s13= .int .i64 kk∧Aside0 (Below w.heap.size w wr)∧Aside0 (∀j (hj:j < (l1.zip l2).length),j < kk→c (l1.zip l2)[j].1 (l1.zip l2)[j].2=0))
 case atStart=>exact⟨0,Nat.zero_le _,by omega,rfl,⟨Below.refl _ w⟩,⟨fun j _ hj=>absurd hj (Nat.not_lt_zero _)⟩⟩
 case round=>
  obtain⟨kk,hkk,hg,rfl,BW,F⟩:=hrel
  by_cases hlt:kk < l1.length
  ·obtain⟨aa,e1,hx1⟩:=Kd.at_int HR1.out kk (by omega) (by omega)
   obtain⟨ae,e2,hx2⟩:=Kd.at_int HR2.out kk (by omega) (by have:=HL.out;omega)
   cases e1;cases e2
   rw [Int.toNat_natCast] at hx1 hx2
   have hy1:=(BW.out.cell (World.block_lt_of_cell? w _ hx1)).trans hx1
   have hy2:=(BW.out.cell (World.block_lt_of_cell? w _ hx2)).trans hx2
   have hlt2:kk < l2.length:=by have:=HL.out;omega
   have hel1:rd l1 (kk:Int)=((l1.zip l2)[kk]'(by have:=HZ.out;omega)).1:=by simp [rd,hlt]
   have hel2:rd l2 (kk:Int)=((l1.zip l2)[kk]'(by have:=HZ.out;omega)).2:=by simp [rd,hlt2]
   rw [hel1] at hy1
   rw [hel2] at hy2
   clear hx1 hx2 hel1 hel2 hlt2
   obtain⟨x,hx⟩: ∃x,((l1.zip l2)[kk]'(by have:=HZ.out;omega)).1=x:=⟨_,rfl⟩
   obtain⟨y,hy⟩: ∃y,((l1.zip l2)[kk]'(by have:=HZ.out;omega)).2=y:=⟨_,rfl⟩
   rw [hx] at hy1
   rw [hy] at hy2
   have hcall:=HP.out wr x y BW.out
   have HX:=Aside0.mk hx
   have HY:=Aside0.mk hy
   have hltz:(kk:Int) < (l1.length:Int):=by omega
   have h0z:(0:Int)≤(kk:Int):=by omega
   have hw:IntKind.i64.wrap ((kk:Int)+1)=((kk+1:Nat):Int):=by rw [IntWalk.i64_in _ (by omega)];rfl
   clear hx hy
   obtain⟨q,hq⟩: ∃q,c x y=q:=⟨_,rfl⟩
   rw [hq] at hcall
   by_cases hz:q=0
   ·subst hz
    have HQ:=Aside0.mk hq
    clear hq
    go_wp2_with fail
    refine hcall.mono ?_
    rintro e w' ⟨rfl,hb'⟩
    clear hcall
    go_wp2
    go_roundg (l1.length - (kk+1))
    case measure=>omega
    case rel=>
     refine⟨kk+1,by omega,by omega,by first | rfl | simp [hw],⟨Below.trans BW.out (hb'.mono BW.out.size)⟩,⟨fun j hj hjk=>?_⟩⟩
     by_cases e:j=kk
     ·subst e
      rw [HX.out,HY.out];exact HQ.out
     ·exact F.out j hj (by omega)
   ·have HQ:=Aside0.mk hq
    have hqd:decide (q=0)=false:=decide_eq_false hz
    clear hq
    go_wp2_with fail
    refine hcall.mono ?_
    rintro e w' ⟨rfl,hb'⟩
    clear hcall
    go_wp2
    go_ret
    refine⟨?_,Below.trans BW.out (hb'.mono BW.out.size)⟩
    rw [cmpL_hit c _ kk (by have:=HZ.out;omega) F.out (by rw [HX.out,HY.out,HQ.out];exact hz),HX.out,HY.out,HQ.out]
    rfl
  ·have hltz: ¬ (kk:Int) < (l1.length:Int):=by omega
   obtain rfl:kk=l1.length:=by omega
   go_wp2
   go_ret
   refine⟨?_,BW.out⟩
   rw [cmpL_miss c _ (fun i hi=>F.out i hi (by have:=HZ.out;omega))]
   rfl
end Go.Proofs.Ytmpkckiifeikkaa.Lq
end
section
namespace Go.Proofs.Ytmpkckiifeikkaa.Pr
open Go.RowKit Go.Proofs.YtmpkckiifeikkaaW.PrintWords Go.Proofs.YtmpkckiifeikkaaW.PrintLast Go.Proofs.YtmpkckiifeikkaaW.PrintMore
attribute [local go_sem] max2_int min2_int max_two min_two max_three min_three max_four min_four
def impl_sign.f (a0:Int):Option (Int):=if a0 < 0 then(some (-1)) else(if a0 > 0 then(some 1) else(some 0))
theorem impl_sign.calls (a0:Int) (r:Int) (w:World) (h:impl_sign.f a0=some r):
  Calls Try.prog 143 #[.int .i64 a0] w fun e w'=>e= .returned (.int .i64 r)∧Drawn0 w w':=by
 have H:(if a0 < 0 then(some (-1)) else(if a0 > 0 then(some 1) else(some 0)))=some r:=h
 clear h
 by_cases c2:a0 < 0
 ·rw [if_pos c2] at H
  have c2b0:decide (a0 < 0)=true:=decide_eq_true c2
  clear c2
  obtain rfl:=Option.some.inj H
  go_enter Try.func143,Try.ntmps143
  go_wp2
  go_ret
  exact⟨by first | rfl | (simp;done) | (simp [*];done),by repeat (first | exact Drawn0.refl _ | apply Drawn0.step)⟩
 ·rw [if_neg c2] at H
  have c2b0:decide (a0 < 0)=false:=decide_eq_false c2
  clear c2
  by_cases c3:a0 > 0
  ·rw [if_pos c3] at H
   have c3b0:decide (0 < a0)=true:=decide_eq_true c3
   clear c3
   obtain rfl:=Option.some.inj H
   go_enter Try.func143,Try.ntmps143
   go_wp2
   go_ret
   exact⟨by first | rfl | (simp;done) | (simp [*];done),by repeat (first | exact Drawn0.refl _ | apply Drawn0.step)⟩
  ·rw [if_neg c3] at H
   have c3b0:decide (0 < a0)=false:=decide_eq_false c3
   clear c3
   obtain rfl:=Option.some.inj H
   go_enter Try.func143,Try.ntmps143
   go_wp2
   go_ret
   exact⟨by first | rfl | (simp;done) | (simp [*];done),by repeat (first | exact Drawn0.refl _ | apply Drawn0.step)⟩
def spec_l01In.f (a0:Int) (a1:Int) (a2:Int):Option (Bool):=if a0 ≥ a1 then(some (decide (a0≤a2))) else(some false)
theorem spec_l01In.calls (a0:Int) (a1:Int) (a2:Int) (r:Bool) (w:World) (h:spec_l01In.f a0 a1 a2=some r):
  Calls Try.prog 119 #[.int .i64 a0, .int .i64 a1, .int .i64 a2] w fun e w'=>e= .returned (.bool r)∧Drawn0 w w':=by
 have H:(if a0 ≥ a1 then(some (decide (a0≤a2))) else(some false))=some r:=h
 clear h
 by_cases c4:a0 ≥ a1
 ·rw [if_pos c4] at H
  have c4b0:decide (a1≤a0)=true:=decide_eq_true c4
  clear c4
  obtain rfl:=Option.some.inj H
  go_enter Try.func119,Try.ntmps119
  go_wp2
  go_ret
  exact⟨by first | rfl | (simp;done) | (simp [*];done),by repeat (first | exact Drawn0.refl _ | apply Drawn0.step)⟩
 ·rw [if_neg c4] at H
  have c4b0:decide (a1≤a0)=false:=decide_eq_false c4
  clear c4
  obtain rfl:=Option.some.inj H
  go_enter Try.func119,Try.ntmps119
  go_wp2
  go_ret
  exact⟨by first | rfl | (simp;done) | (simp [*];done),by repeat (first | exact Drawn0.refl _ | apply Drawn0.step)⟩
end Go.Proofs.Ytmpkckiifeikkaa.Pr
end
section
namespace Go.Proofs.Ytmpkckiifeikkaa.Lq
open Go.RowKit Go.Proofs.YtmpkckiifeikkaaW.PrintWords Go.Proofs.YtmpkckiifeikkaaW.PrintLast Go.Proofs.YtmpkckiifeikkaaW.PrintMore Go.Proofs.Ytmpkckiifeikkaa.Pr Go.Proofs.Ytmpkckiifeikkaa.Ma Go.Proofs.Ytmpkckiifeikkaa.Dt Go.Proofs.Ytmpkckiifeikkaa.Lk Go.Proofs.Ytmpkckiifeikkaa.Lt
def sgI (x:Int):Int:=if x < 0 then -1 else if x > 0 then 1 else 0
theorem sign_eq (x:Int):impl_sign.f x=some (sgI x):=by unfold impl_sign.f sgI;split;rfl;split <;> rfl
def lc (y x:Int) (p q:Int):Int:=sgI (wrap64 (wrap64 (p*y) - wrap64 (q*x)))
theorem less1 (p9 p7:Nat) (y x:Int) (p q:Int) (w:World) (h9:w.cell? ⟨p9,0,none⟩=some (.int .i64 y)) (h7:w.cell? ⟨p7,0,none⟩=some (.int .i64 x)):
  Calls Try.prog 216 (#[.int .i64 p, .int .i64 q]++ #[.pointer (some ⟨p9,0,none⟩), .pointer (some ⟨p7,0,none⟩)]) w fun e w'=>e= .returned (.int .i64 (lc y x p q))∧Below w.heap.size w w':=by
 show Calls Try.prog 216 #[.int .i64 p, .int .i64 q, .pointer (some ⟨p9,0,none⟩), .pointer (some ⟨p7,0,none⟩)] w _
 go_enter Try.func216,Try.ntmps216
 go_wp2_with fail
 refine(impl_sign.calls _ _ _ (sign_eq _)).mono ?_
 rintro e w' ⟨rfl,hb⟩
 go_wp2
 go_ret
 exact⟨rfl,hb.below⟩
theorem less1_enters: ∀args w,(callFunc 216 args).run Try.prog w= .ok (.enter 216 args) w:=enters_fn Try.func216 (by kernel_rfl) rfl
def ilI (T:Mat) (n m i k:Nat) (x y:Int):Bool:=decide (cmpL (lc y x) ((T i (m - 1)::rowN T i n).zip (T k (m - 1)::rowN T k n)) < 0)
theorem isLess_calls {w:World} {lo hi t g gb n m cg cb:Nat} {b cp:Nat→Nat} {s:TS} (h:Tm w lo hi t g gb n m cg cb b cp s) (i k:Nat) (x y:Int) (hi':i < n) (hk:k < n) (hm:n < m) (hm2:m≤1000):
  Calls Try.prog 207 #[.pointer (some ⟨t,0,none⟩), .int .i64 (i:Int), .int .i64 x, .int .i64 (k:Int), .int .i64 y] w fun e w'=>e= .returned (.bool (ilI s.T n m i k x y))∧Below w.heap.size w w':=by
 have HB:=Aside0.mk (Below.refl w.heap.size w)
 have H:=Aside0.mk h
 have HI:=Aside0.mk hi'
 have HK:=Aside0.mk hk
 have HM:=Aside0.mk hm
 have HM2:=Aside0.mk hm2
 obtain⟨V,hV⟩: ∃V,ilI s.T n m i k x y=V:=⟨_,rfl⟩
 rw [hV]
 have HV:=Aside0.mk hV
 clear h hi' hk hm hm2 hV
 go_enter Try.func207,Try.ntmps207
 go_wp2_with (first | ((with_reducible refine gate_dst (N:=7) rfl ?_);refine box_event ?hg (N:=7) ?hd (cs:= #[.int .i64 x]) (t:=2) ?hr ?_;(case hd=>rfl);(case hg=>rfl);(case hr=>first | (go_simp;done) | (go_simp;rfl));intro g7 hg w7 hbox hb;replace HB:=Aside0.mk (below_step HB.out hb);have B7:=Aside0.mk hbox;clear hb hbox hg) | ((with_reducible refine gate_dst (N:=9) rfl ?_);refine box_event ?hg (N:=9) ?hd (cs:= #[.int .i64 y]) (t:=2) ?hr ?_;(case hd=>rfl);(case hg=>rfl);(case hr=>first | (go_simp;done) | (go_simp;rfl));intro g9 hg w9 hbox hb;replace HB:=Aside0.mk (below_step HB.out hb);replace B7:=Aside0.mk (blk_below B7.out hb);have B9:=Aside0.mk hbox;clear hb hbox hg))
 refine(key_calls (H.out.mvB HB.out) i HI.out HM.out HM2.out).mono ?_
 rintro e w1 ⟨v1,rfl,hR1,hb⟩
 replace HB:=Aside0.mk (below_step HB.out hb)
 replace B7:=Aside0.mk (blk_below B7.out hb)
 replace B9:=Aside0.mk (blk_below B9.out hb)
 obtain⟨l1,hl1⟩: ∃l,s.T i (m - 1)::rowN s.T i n=l:=⟨_,rfl⟩
 rw [hl1] at hR1
 obtain⟨A1,c1,rfl⟩:=Kd.R_slice hR1
 have R1:=Aside0.mk (Kd.R_reads' hR1).2.2
 have L1:=Aside0.mk hl1
 clear hR1 hb hl1
 go_wp2_with fail
 refine(key_calls (H.out.mvB HB.out) k HK.out HM.out HM2.out).mono ?_
 rintro e w2 ⟨v2,rfl,hR2,hb⟩
 replace HB:=Aside0.mk (below_step HB.out hb)
 replace B7:=Aside0.mk (blk_below B7.out hb)
 replace B9:=Aside0.mk (blk_below B9.out hb)
 replace R1:=Aside0.mk (Kd.C_below R1.out hb)
 obtain⟨l2,hl2⟩: ∃l,s.T k (m - 1)::rowN s.T k n=l:=⟨_,rfl⟩
 rw [hl2] at hR2
 obtain⟨A2,c2,rfl⟩:=Kd.R_slice hR2
 have R2:=Aside0.mk (Kd.R_reads' hR2).2.2
 have L2:=Aside0.mk hl2
 clear hR2 hb hl2
 go_wp2_with fail
 refine(compareInts (lc y x) 216 #[.pointer (some ⟨g9,0,none⟩), .pointer (some ⟨g7,0,none⟩)] less1_enters A1 A2 c1 c2 l1 l2 w2 (by rw [← L1.out, ← L2.out];simp [rowN_len]) R1.out R2.out (fun W p q hb=>less1 g9 g7 y x p q W ((blk_cell (blk_below B9.out hb) 0).trans rfl) ((blk_cell (blk_below B7.out hb) 0).trans rfl))).mono ?_
 rintro e w3 ⟨rfl,hb⟩
 replace HB:=Aside0.mk (below_step HB.out hb)
 clear hb
 obtain⟨q,hq⟩: ∃q,cmpL (lc y x) (l1.zip l2)=q:=⟨_,rfl⟩
 rw [hq]
 go_wp2
 go_ret
 refine⟨?_,HB.out⟩
 rw [← HV.out]
 unfold ilI
 rw [L1.out,L2.out,hq]
 rfl
end Go.Proofs.Ytmpkckiifeikkaa.Lq
end
section
namespace Go.Proofs.Ytmpkckiifeikkaa.Lq
open Go.RowKit Go.Proofs.YtmpkckiifeikkaaW.PrintWords Go.Proofs.YtmpkckiifeikkaaW.PrintLast Go.Proofs.YtmpkckiifeikkaaW.PrintMore Go.Proofs.Ytmpkckiifeikkaa.Pr Go.Proofs.Ytmpkckiifeikkaa.Ma Go.Proofs.Ytmpkckiifeikkaa.Dt Go.Proofs.Ytmpkckiifeikkaa.Lk Go.Proofs.Ytmpkckiifeikkaa.Lt
def RowF (g:Nat) (lb:Array Value) (b:Nat→Int) (w:World) (n:Nat):Prop:=
 ∀(W:World) (i:Nat),i < n→Below w.heap.size w W→Calls Try.prog g (#[.int .i64 (i:Int)]++lb) W fun e w'=>e= .returned (.int .i64 (b i))∧Below W.heap.size W w'
def encO:Option Nat→Int
 | none=> -1
 | some r=>(r:Int)
def rowJ (T:Mat) (n m:Nat) (bf:Nat→Int) (k:Nat):Option Nat:=lst bf (fun i j=>ilI T n m i j (bf i) (bf j)) (List.range k) none
theorem lst_app (bf:Nat→Int) (less:Nat→Nat→Bool) (l l':List Nat) (o:Option Nat):lst bf less (l++l') o=lst bf less l' (lst bf less l o):=by
 induction l generalizing o with
 | nil=>rfl
 | cons x l ih=>simp only [List.cons_append,lst];exact ih _
theorem rowJ_next (T:Mat) (n m:Nat) (bf:Nat→Int) (k:Nat):rowJ T n m bf (k+1)=if 0 < bf k∧bet (fun i j=>ilI T n m i j (bf i) (bf j)) k (rowJ T n m bf k)=true then some k else rowJ T n m bf k:=by
 unfold rowJ
 rw [List.range_succ,lst_app]
 rfl
theorem rowJ_lt {T:Mat} {n m:Nat} {bf:Nat→Int} {k r:Nat} (h:rowJ T n m bf k=some r):r < k∧0 < bf r:=lst_lt (fun i hi=>List.mem_range.1 hi) (fun j hj=>by cases hj) h
theorem least_calls {w:World} {lo hi t g gb n m cg cb:Nat} {b cp:Nat→Nat} {s:TS} (h:Tm w lo hi t g gb n m cg cb b cp s) (gf:Nat) (lb:Array Value) (bf:Nat→Int) (eg: ∀args w,(callFunc gf args).run Try.prog w= .ok (.enter gf args) w) (hp:RowF gf lb bf w n) (hn:n≤1000) (hm:n < m) (hm2:m≤1000):
  Calls Try.prog 188 #[.pointer (some ⟨t,0,none⟩), .func (.func gf) #[] lb] w fun e w'=>e= .returned (.int .i64 (encO (rowJ s.T n m bf n)))∧Below w.heap.size w w':=by
 have HB:=Aside0.mk (Below.refl w.heap.size w)
 have H:=Aside0.mk h
 have HP:=Aside0.mk hp
 have HN:=Aside0.mk hn
 have HM:=Aside0.mk hm
 have HM2:=Aside0.mk hm2
 have hcz0:=h.h0
 clear h hp hm hm2 hn
 go_enter Try.func188,Try.ntmps188
 go_wp2
 clear hcz0 HB
 go_loopg [5,6,12] n (fun gg v5 _ v12 wr=> ∃kk:Nat,kk≤n∧n - kk≤gg∧v12= .int .i64 (kk:Int)∧v5= .int .i64 (encO (rowJ s.T n m bf kk))∧Aside0 (Below w.heap.size w wr))
 case atStart=>exact⟨0,Nat.zero_le _,by omega,rfl,rfl,⟨Below.refl _ w⟩⟩
 case round=>
  obtain⟨kk,hkk,hg,rfl,rfl,HB⟩:=hrel
  have HG:=Aside0.mk hg
  by_cases hlt:kk < n
  ·have hltz:(kk:Int) < (n:Int):=by omega
   have hw:IntKind.i64.wrap ((kk:Int)+1)=((kk+1:Nat):Int):=by rw [IntWalk.i64_in _ (by have:=HN.out;omega)];rfl
   have HLT:=Aside0.mk hlt
   obtain⟨o,ho⟩: ∃o,rowJ s.T n m bf kk=o:=⟨_,rfl⟩
   have HO:=Aside0.mk ho
   rw [ho]
   obtain⟨x,hx⟩: ∃x,bf kk=x:=⟨_,rfl⟩
   have HX:=Aside0.mk hx
   have hcall: ∀W,Below w.heap.size w W→Calls Try.prog gf (#[.int .i64 (kk:Int)]++lb) W fun e w'=>e= .returned (.int .i64 x)∧Below W.heap.size W w':=fun W hb=>by rw [← HX.out];exact HP.out W kk HLT.out hb
   have HC:=Aside0.mk hcall
   clear ho hx hcall hg hkk hlt
   by_cases hx0:0 < x
   ·cases o with
    | none=>
     go_wp2_with fail
     refine(HC.out wr HB.out).mono ?_
     rintro e w1 ⟨rfl,hb⟩
     replace HB:=Aside0.mk (below_step HB.out hb)
     clear hb
     go_wp2
     go_roundg (n - (kk+1))
     case measure=>have:=HG.out;omega
     case rel=>
      refine⟨kk+1,by omega,by omega,by first | rfl | simp [hw],?_,HB⟩
      rw [rowJ_next,HO.out,HX.out,if_pos ⟨hx0,rfl⟩];rfl
    | some j=>
     have hj:=rowJ_lt HO.out
     have HJ:=Aside0.mk hj
     have hj0: ¬ (j:Int) < 0:=by omega
     obtain⟨y,hy⟩: ∃y,bf j=y:=⟨_,rfl⟩
     have HY:=Aside0.mk hy
     have hcall: ∀W,Below w.heap.size w W→Calls Try.prog gf (#[.int .i64 (j:Int)]++lb) W fun e w'=>e= .returned (.int .i64 y)∧Below W.heap.size W w':=fun W hb=>by rw [← HY.out];exact HP.out W j (by have:=HJ.out.1;have:=HLT.out;omega) hb
     have HC2:=Aside0.mk hcall
     obtain⟨z,hz⟩: ∃z,ilI s.T n m kk j x y=z:=⟨_,rfl⟩
     have HZ:=Aside0.mk hz
     clear hj hy hcall hz
     simp only [encO]
     go_wp2_with fail
     refine(HC.out wr HB.out).mono ?_
     rintro e w1 ⟨rfl,hb⟩
     replace HB:=Aside0.mk (below_step HB.out hb)
     clear hb
     go_wp2_with fail
     refine(HC.out w1 HB.out).mono ?_
     rintro e w2 ⟨rfl,hb⟩
     replace HB:=Aside0.mk (below_step HB.out hb)
     clear hb
     go_wp2_with fail
     refine(HC2.out w2 HB.out).mono ?_
     rintro e w3 ⟨rfl,hb⟩
     replace HB:=Aside0.mk (below_step HB.out hb)
     clear hb
     go_wp2_with fail
     refine(isLess_calls (H.out.mvB HB.out) kk j x y HLT.out (by have:=HJ.out.1;have:=HLT.out;omega) HM.out HM2.out).mono ?_
     rw [HZ.out]
     rintro e w4 ⟨rfl,hb⟩
     replace HB:=Aside0.mk (below_step HB.out hb)
     clear hb
     cases z with
     | true=>
      go_wp2
      go_roundg (n - (kk+1))
      case measure=>have:=HG.out;omega
      case rel=>
       refine⟨kk+1,by omega,by omega,by first | rfl | simp [hw],?_,HB⟩
       rw [rowJ_next,HO.out,HX.out,if_pos ⟨hx0,by simp only [bet,HX.out,HY.out];exact HZ.out⟩];rfl
     | false=>
      go_wp2
      go_roundg (n - (kk+1))
      case measure=>have:=HG.out;omega
      case rel=>
       refine⟨kk+1,by omega,by omega,by first | rfl | simp [hw],?_,HB⟩
       rw [rowJ_next,HO.out,HX.out,if_neg (by simp only [bet,HX.out,HY.out,HZ.out];simp)];rfl
   ·go_wp2_with fail
    refine(HC.out wr HB.out).mono ?_
    rintro e w1 ⟨rfl,hb⟩
    replace HB:=Aside0.mk (below_step HB.out hb)
    clear hb
    go_wp2
    go_roundg (n - (kk+1))
    case measure=>have:=HG.out;omega
    case rel=>
     refine⟨kk+1,by omega,by omega,by first | rfl | simp [hw],?_,HB⟩
     rw [rowJ_next,HO.out,HX.out,if_neg (fun q=>by have:=q.1;omega)]
  ·have hltz: ¬ (kk:Int) < (n:Int):=by omega
   obtain rfl:kk=n:=by omega
   go_wp2
   go_ret
   exact⟨rfl,HB.out⟩
theorem partner_calls {w:World} {lo hi t g gb n m cg cb:Nat} {b cp:Nat→Nat} {s:TS} (h:Tm w lo hi t g gb n m cg cb b cp s) (v:Nat) (hn:n≤1000) (hv:v < 2*n):
  Calls Try.prog 191 #[.pointer (some ⟨t,0,none⟩), .int .i64 (v:Int)] w fun e w'=>e= .returned (.int .i64 (partner n v:Nat))∧Below w.heap.size w w':=by
 have hcz:=h.h3
 clear h
 by_cases hlt:v < n
 ·have hz:(v:Int) < (n:Int):=by omega
  have hw:IntKind.i64.wrap ((v:Int)+(n:Int))=((v+n:Nat):Int):=by rw [IntWalk.i64_in _ (by omega)];omega
  have e:partner n v=v+n:=by unfold partner;rw [if_pos hlt]
  have HE:=Aside0.mk e
  clear hlt hn hv e
  go_enter Try.func191,Try.ntmps191
  go_wp2
  go_ret
  exact⟨by rw [HE.out];first | rfl | (rw [← hw];rfl),Below.refl _ _⟩
 ·have hz: ¬ (v:Int) < (n:Int):=by omega
  have hw:IntKind.i64.wrap ((v:Int) - (n:Int))=((v - n:Nat):Int):=by rw [IntWalk.i64_in _ (by omega)];omega
  have e:partner n v=v - n:=by unfold partner;rw [if_neg hlt]
  have HE:=Aside0.mk e
  clear hlt hn hv e
  go_enter Try.func191,Try.ntmps191
  go_wp2
  go_ret
  exact⟨by rw [HE.out];first | rfl | (rw [← hw];rfl),Below.refl _ _⟩
theorem enter1 {w:World} {lo hi t g gb n m cg cb:Nat} {b cp:Nat→Nat} {s:TS} (h:Tm w lo hi t g gb n m cg cb b cp s) (p2 p3:Nat) (v i:Nat) (hin:i < n) (hv:v < m) (h2:w.cell? ⟨p2,0,none⟩=some (.pointer (some ⟨t,0,none⟩))) (h3:w.cell? ⟨p3,0,none⟩=some (.int .i64 (v:Int))):
  Calls Try.prog 208 (#[.int .i64 (i:Int)]++ #[.pointer (some ⟨p2,0,none⟩), .pointer (some ⟨p3,0,none⟩)]) w fun e w'=>e= .returned (.int .i64 (s.T i v))∧Below w.heap.size w w':=by
 show Calls Try.prog 208 #[.int .i64 (i:Int), .pointer (some ⟨p2,0,none⟩), .pointer (some ⟨p3,0,none⟩)] w _
 have h':=h.mv (Out.drew w 0 0) (.inr (Nat.zero_le _))
 have hcz0:=h'.h0
 have hcz1:=h'.og i hin
 have hcz2:=(h'.ob i v hin hv).1
 have hc2:w.drew.cell? ⟨p2,0,none⟩=some (.pointer (some ⟨t,0,none⟩)):=h2
 have hc3:w.drew.cell? ⟨p3,0,none⟩=some (.int .i64 (v:Int)):=h3
 have hiz:(i:Int) < (n:Int):=by omega
 have h0z:(0:Int)≤(i:Int):=by omega
 have hvz:(v:Int) < (m:Int):=by omega
 have h0v:(0:Int)≤(v:Int):=by omega
 have HBW:=Aside0.mk (below_drew (Below.refl w.heap.size w))
 generalize s.T i v=x at hcz2 ⊢
 clear h h' hin hv h2 h3
 go_enter Try.func208,Try.ntmps208
 go_wp2
 refine st_ (n:=11) (S:=fun w'=>w'.cell? ⟨t,0,none⟩=some (.slice (some ⟨g,0,none⟩) n cg)∧w'.cell? ⟨g,i,none⟩=some (.slice (some ⟨b i,0,none⟩) m (cp i))∧w'.cell? ⟨b i,v,none⟩=some (.int .i64 x)∧w'.cell? ⟨p2,0,none⟩=some (.pointer (some ⟨t,0,none⟩))∧w'.cell? ⟨p3,0,none⟩=some (.int .i64 (v:Int))) (ds:= []) ⟨hcz0,hcz1,hcz2,hc2,hc3⟩ (fun hHeld=>?_)
 generalize w.drew=w1 at HBW hcz0 hcz1 hcz2 hc2 hc3 hHeld ⊢
 refine tk_ 0 5 ?_;refine pu_ 1 6 ?_;refine pu_ 2 7 ?_;refine tk_ 3 8 ?_;refine pu_ 4 9 ?_;refine pu_ 5 10 ?_;refine tk_ 6 11 ?_
 refine tk_ 7 12 ?_;refine pu_ 8 13 ?_;refine tk_ 9 14 ?_;refine pu_ 10 4 ?_
 refine done_ (by kernel_rfl) ?_
 go_wp2
 go_ret
 exact⟨rfl,HBW.out⟩
theorem enter1_enters: ∀args w,(callFunc 208 args).run Try.prog w= .ok (.enter 208 args) w:=enters_fn Try.func208 (by kernel_rfl) rfl
theorem enterBy_calls {w:World} {lo hi t g gb n m cg cb:Nat} {b cp:Nat→Nat} {s:TS} (h:Tm w lo hi t g gb n m cg cb b cp s) (v:Nat) (hn:n≤1000) (hm:n < m) (hm2:m≤1000) (hv:v < m):
  Calls Try.prog 192 #[.pointer (some ⟨t,0,none⟩), .int .i64 (v:Int)] w fun e w'=>e= .returned (.int .i64 (encO (rowJ s.T n m (fun i=>s.T i v) n)))∧Below w.heap.size w w':=by
 have HB:=Aside0.mk (Below.refl w.heap.size w)
 have H:=Aside0.mk h
 have HN:=Aside0.mk hn
 have HM:=Aside0.mk hm
 have HM2:=Aside0.mk hm2
 have HV:=Aside0.mk hv
 clear h hn hm hm2 hv
 go_enter Try.func192,Try.ntmps192
 go_wp2_with (first | ((with_reducible refine gate_dst (N:=2) rfl ?_);refine box_event ?hg (N:=2) ?hd (cs:= #[.pointer (some ⟨t,0,none⟩)]) (t:=105) ?hr ?_;(case hd=>rfl);(case hg=>rfl);(case hr=>first | (go_simp;done) | (go_simp;rfl));intro g2 hg w2 hbox hb;replace HB:=Aside0.mk (below_step HB.out hb);have B2:=Aside0.mk hbox;clear hb hbox hg) | ((with_reducible refine gate_dst (N:=3) rfl ?_);refine box_event ?hg (N:=3) ?hd (cs:= #[.int .i64 (v:Int)]) (t:=3) ?hr ?_;(case hd=>rfl);(case hg=>rfl);(case hr=>first | (go_simp;done) | (go_simp;rfl));intro g3 hg w3 hbox hb;replace HB:=Aside0.mk (below_step HB.out hb);replace B2:=Aside0.mk (blk_below B2.out hb);have B3:=Aside0.mk hbox;clear hb hbox hg;have hcz2:=cz_ B2 0))
 refine(least_calls (H.out.mvB HB.out) 208 #[.pointer (some ⟨g2,0,none⟩), .pointer (some ⟨g3,0,none⟩)] (fun i=>s.T i v) enter1_enters (fun W i hi hb=>enter1 (H.out.mvB (below_step HB.out hb)) g2 g3 v i hi HV.out ((blk_cell (blk_below B2.out hb) 0).trans rfl) ((blk_cell (blk_below B3.out hb) 0).trans rfl)) HN.out HM.out HM2.out).mono ?_
 rintro e w4 ⟨rfl,hb⟩
 replace HB:=Aside0.mk (below_step HB.out hb)
 clear hb hcz2
 go_wp2
 go_ret
 exact⟨rfl,HB.out⟩
end Go.Proofs.Ytmpkckiifeikkaa.Lq
end
section
namespace Go.Proofs.Ytmpkckiifeikkaa.Lq
open Go.RowKit Go.Proofs.YtmpkckiifeikkaaW.PrintWords Go.Proofs.YtmpkckiifeikkaaW.PrintLast Go.Proofs.YtmpkckiifeikkaaW.PrintMore Go.Proofs.Ytmpkckiifeikkaa.Pr Go.Proofs.Ytmpkckiifeikkaa.Ma Go.Proofs.Ytmpkckiifeikkaa.Dt Go.Proofs.Ytmpkckiifeikkaa.Lk Go.Proofs.Ytmpkckiifeikkaa.Lt
def stP (T:Mat) (den:Int) (r v i c:Nat):Mat:=fun a d=>if a < i∨(a=i∧d < c) then stA T den r v a d else T a d
def ngP (X:Mat) (i c:Nat):Mat:=fun a d=>if a < i∨(a=i∧d < c) then wrap64 (- X a d) else X a d
theorem stP_zero (T:Mat) (den:Int) (r v a d:Nat):stP T den r v 0 0 a d=T a d:=by unfold stP;rw [if_neg (by omega)]
theorem stP_at (T:Mat) (den:Int) (r v i c a d:Nat) (h: ¬ (a < i∨(a=i∧d < c))):stP T den r v i c a d=T a d:=by unfold stP;rw [if_neg h]
theorem stP_row (T:Mat) (den:Int) (r v i c d:Nat):stP T den r v i c r d=T r d:=by unfold stP stA;split <;> simp
theorem stP_next (T:Mat) (den:Int) (r v i c:Nat) (h:i≠r) (a d:Nat):mset (stP T den r v i c) i c (evT T den r v i c) a d=stP T den r v i (c+1) a d:=by
 unfold mset
 by_cases e:a=i∧d=c
 ·obtain⟨rfl,rfl⟩:=e
  rw [if_pos ⟨rfl,rfl⟩];unfold stP stA;rw [if_pos (by omega),if_neg h]
 ·rw [if_neg e];unfold stP
  by_cases q:a < i∨(a=i∧d < c)
  ·rw [if_pos q,if_pos (by omega)]
  ·rw [if_neg q,if_neg (by omega)]
theorem stP_end (T:Mat) (den:Int) (r v i m a d:Nat) (h:d < m):stP T den r v i m a d=stP T den r v (i+1) 0 a d:=by
 unfold stP
 by_cases q:a < i+1
 ·rw [if_pos (by omega),if_pos (by omega)]
 ·rw [if_neg (by omega),if_neg (by omega)]
theorem stP_skip (T:Mat) (den:Int) (r v a d:Nat):stP T den r v r 0 a d=stP T den r v (r+1) 0 a d:=by
 by_cases e:a=r
 ·subst e;rw [stP_row,stP_row]
 ·unfold stP
  by_cases q:a < r
  ·rw [if_pos (by omega),if_pos (by omega)]
  ·rw [if_neg (by omega),if_neg (by omega)]
theorem stP_all (T:Mat) (den:Int) (r v n a d:Nat) (h:a < n):stP T den r v n 0 a d=stA T den r v a d:=by unfold stP;rw [if_pos (by omega)]
theorem ngP_zero (X:Mat) (a d:Nat):ngP X 0 0 a d=X a d:=by unfold ngP;rw [if_neg (by omega)]
theorem ngP_at (X:Mat) (i c a d:Nat) (h: ¬ (a < i∨(a=i∧d < c))):ngP X i c a d=X a d:=by unfold ngP;rw [if_neg h]
theorem ngP_next (X:Mat) (i c a d:Nat):mset (ngP X i c) i c (wrap64 (- X i c)) a d=ngP X i (c+1) a d:=by
 unfold mset
 by_cases e:a=i∧d=c
 ·obtain⟨rfl,rfl⟩:=e
  rw [if_pos ⟨rfl,rfl⟩];unfold ngP;rw [if_pos (by omega)]
 ·rw [if_neg e];unfold ngP
  by_cases q:a < i∨(a=i∧d < c)
  ·rw [if_pos q,if_pos (by omega)]
  ·rw [if_neg q,if_neg (by omega)]
theorem ngP_end (X:Mat) (i m a d:Nat) (h:d < m):ngP X i m a d=ngP X (i+1) 0 a d:=by
 unfold ngP
 by_cases q:a < i+1
 ·rw [if_pos (by omega),if_pos (by omega)]
 ·rw [if_neg (by omega),if_neg (by omega)]
theorem ngP_all (X:Mat) (n a d:Nat) (h:a < n):ngP X n 0 a d=wrap64 (- X a d):=by unfold ngP;rw [if_pos (by omega)]
theorem size_eq {x:Int} (h0: -9223372036854775808 < x) (h1:x < 9223372036854775808):impl_size.f x=some (if x < 0 then wrap64 (-x) else x):=by
 unfold impl_size.f
 rw [w64 (by omega) (by omega)]
 congr 1
 unfold mx
 split <;> split <;> omega
theorem step_calls {w:World} {lo hi t g gb n m cg cb:Nat} {b cp:Nat→Nat} {s:TS} (h:Tm w lo hi t g gb n m cg cb b cp s) (v r:Nat) (hr:r < n) (hv:v < m) (hn:n≤1000) (hm2:m≤1000) (hden:s.den≠0) (hb0: -9223372036854775808 < s.T r v) (hb1:s.T r v < 9223372036854775808):
  Calls Try.prog 190 #[.pointer (some ⟨t,0,none⟩), .int .i64 (v:Int), .int .i64 (r:Int)] w fun e w'=>e= .returned (.int .i64 (s.bs.getD r 0))∧Tm w' lo hi t g gb n m cg cb b cp (s.step r v)∧Out w w' lo hi:=by
 have HO:=Aside0.mk (Out.refl w lo hi)
 have H:=Aside0.mk h
 have HR:=Aside0.mk hr
 have HV:=Aside0.mk hv
 have HN:=Aside0.mk hn
 have HM2:=Aside0.mk hm2
 have HD:=Aside0.mk hden
 obtain⟨p,hp⟩: ∃p,s.T r v=p:=⟨_,rfl⟩
 rw [hp] at hb0 hb1
 have HP:=Aside0.mk hp
 have HSZ:=Aside0.mk (size_eq hb0 hb1)
 have hrz:(r:Int) < (n:Int):=by omega
 have h0r:(0:Int)≤(r:Int):=by omega
 have hvz:(v:Int) < (m:Int):=by omega
 have h0v:(0:Int)≤(v:Int):=by omega
 have hcz0:=h.h0
 have hczr:=h.og r hr
 have hcp:=(h.ob r v hr hv).1
 rw [hp] at hcp
 clear h hr hv hn hm2 hden hp hb0 hb1
 go_enter Try.func190,Try.ntmps190
 go_wp2
 clear hcz0 hczr hcp
 go_loopg [33] n (fun gg v33 wr=> ∃kk:Nat,kk≤n∧n - kk≤gg∧v33= .int .i64 (kk:Int)∧Aside0 (Tm wr lo hi t g gb n m cg cb b cp ⟨stP s.T s.den r v kk 0,s.den,s.bs⟩)∧Aside0 (Out w wr lo hi))
 case atStart=>exact⟨0,Nat.zero_le _,by omega,rfl,⟨H.out.congr (fun i j _ _=>(stP_zero _ _ _ _ i j).symm) rfl rfl⟩,HO⟩
 case round=>
  clear HO
  obtain⟨kk,hkk,hg,rfl,HT,HO⟩:=hrel
  have HG:=Aside0.mk hg
  by_cases hlt:kk < n
  ·have hltz:(kk:Int) < (n:Int):=by omega
   have h0z:(0:Int)≤(kk:Int):=by omega
   have hw:IntKind.i64.wrap ((kk:Int)+1)=((kk+1:Nat):Int):=by rw [IntWalk.i64_in _ (by have:=HN.out;omega)];rfl
   have HW:=Aside0.mk hw
   have HLT:=Aside0.mk hlt
   have hog:=HT.out.og kk hlt
   have hf:=(HT.out.ob kk v hlt HV.out).1
   rw [show (⟨stP s.T s.den r v kk 0,s.den,s.bs⟩:TS).T kk v=s.T kk v from stP_at _ _ _ _ _ _ _ _ (by omega)] at hf
   clear hkk hg hlt
   by_cases hir:kk=r
   ·subst hir
    go_wp2
    go_roundg (n - (kk+1))
    case measure=>have:=HG.out;have:=HLT.out;omega
    case rel=>exact⟨kk+1,HLT.out,by omega,by first | rfl | (rw [HW.out]) | (simp [HW.out]),⟨HT.out.congr (fun i j _ _=>stP_skip _ _ _ _ i j) rfl rfl⟩,HO⟩
   ·have hirz:((kk:Int)==(r:Int))=false:=by simp;omega
    have hirn: ¬ (kk:Int)=(r:Int):=by omega
    have HIR:=Aside0.mk hir
    clear hir
    go_wp2
    clear hf
    go_loopg [47] m (fun gg v47 w4=> ∃c:Nat,c≤m∧m - c≤gg∧v47= .int .i64 (c:Int)∧Aside0 (Tm w4 lo hi t g gb n m cg cb b cp ⟨stP s.T s.den r v kk c,s.den,s.bs⟩)∧Aside0 (Out w w4 lo hi))
    case atStart=>exact⟨0,Nat.zero_le _,by omega,rfl,HT,HO⟩
    case round=>
     clear HT HO hog
     obtain⟨c,hc,hg2,rfl,HT,HO⟩:=hrel
     have HC:=Aside0.mk hc
     have HG2:=Aside0.mk hg2
     by_cases hcm:c < m
     ·have hcz:(c:Int) < (m:Int):=by omega
      have h0c:(0:Int)≤(c:Int):=by omega
      have HCM:=Aside0.mk hcm
      have HT5:=Aside0.mk (HT.out.mv (Out.drew wr lo lo) (.inr (Nat.le_refl _)))
      have ae:=Aside0.mk (HO.out.trans (Out.drew wr lo hi))
      have h1:=(HT5.out.ob kk c HLT.out hcm).1
      have h1f:=(HT5.out.ob kk c HLT.out hcm).2
      have h2:=(HT5.out.ob r c HR.out hcm).1
      have h3:=HT5.out.h1.1
      rw [show (⟨stP s.T s.den r v kk c,s.den,s.bs⟩:TS).T kk c=s.T kk c from stP_at _ _ _ _ _ _ _ _ (by omega)] at h1
      rw [show (⟨stP s.T s.den r v kk c,s.den,s.bs⟩:TS).T r c=s.T r c from stP_row _ _ _ _ _ _ _] at h2
      have hd0:(s.den==0)=false:=by have:=HD.out;simpa using this
      have hd1: ¬ s.den=0:=HD.out
      have hwc:IntKind.i64.wrap ((c:Int)+1)=((c+1:Nat):Int):=by rw [IntWalk.i64_in _ (by have:=HM2.out;omega)];rfl
      have HWC:=Aside0.mk hwc
      clear hc hg2 hcm HT HO
      go_wp2
      refine st_ (n:=22) (S:=fun w'=>w'.cell? ⟨b kk,c,none⟩=some (.int .i64 (s.T kk c))∧w'.cell? ⟨b r,c,none⟩=some (.int .i64 (s.T r c))∧w'.cell? ⟨t,1,none⟩=some (.int .i64 s.den)) (ds:= [21]) ⟨h1,h2,h3⟩ (fun hHeld=>?_)
      generalize wr.drew=w5 at HT5 ae h1 h1f h2 h3 hHeld ⊢
      refine pu_ 0 50 ?_;refine pu_ 1 51 ?_;refine pu_ 2 52 ?_;refine pu_ 3 53 ?_;refine pu_ 4 54 ?_;refine tk_ 5 55 ?_;refine pu_ 6 56 ?_;refine pu_ 7 57 ?_;refine pu_ 8 58 ?_;refine pu_ 9 59 ?_;refine pu_ 10 60 ?_;refine pu_ 11 61 ?_;refine tk_ 12 62 ?_;refine pu_ 13 63 ?_;refine pu_ 14 64 ?_;refine pu_ 15 65 ?_;refine pu_ 16 66 ?_;refine pu_ 17 67 ?_;refine tk_ 18 68 ?_;refine pu_ 19 69 ?_;refine pu_ 20 70 ?_
      refine la_ 21 none (fun K hK=>?_)
      refine skip_ (w1:=?_) (by rfl) rfl ?_ ?_
      rotate_left
      ·go_simp
       rfl
      refine hK.out _ _ ?_
      clear hK K
      refine done_ (by kernel_rfl) ?_
      go_wp2
      go_roundg (m - (c+1))
      case measure=>have:=HG2.out;have:=HCM.out;omega
      case rel=>
       have hput:=(HT5.out.put HLT.out HCM.out (evT s.T s.den r v kk c)).congr (s':=⟨stP s.T s.den r v kk (c+1),s.den,s.bs⟩) (fun a d _ _=>stP_next s.T s.den r v kk c HIR.out a d) rfl rfl
       unfold evT at hput
       rw [HP.out] at hput
       exact⟨c+1,HCM.out,by omega,by first | rfl | (rw [HWC.out]) | (simp [HWC.out]),⟨hput⟩,⟨ae.out.trans (Out.set _ _ _ (HT5.out.rR kk HLT.out))⟩⟩
     ·have hcz: ¬ (c:Int) < (m:Int):=by omega
      obtain rfl:c=m:=by have:=HC.out;omega
      clear hcm hc hg2
      go_wp2
      go_roundg (n - (kk+1))
      case measure=>have:=HG.out;have:=HLT.out;omega
      case rel=>exact⟨kk+1,HLT.out,by omega,by first | rfl | (rw [HW.out]) | (simp [HW.out]),⟨HT.out.congr (fun i j _ hj=>stP_end _ _ _ _ _ _ i j hj) rfl rfl⟩,HO⟩
  ·have hltz: ¬ (kk:Int) < (n:Int):=by omega
   obtain rfl:n=kk:=by omega
   clear hkk hg hlt
   obtain⟨X,hX⟩: ∃X:Mat,X=stA s.T s.den r v:=⟨_,rfl⟩
   have HX:=Aside0.mk hX
   have HT1:=Aside0.mk (HT.out.congr (s':=⟨X,s.den,s.bs⟩) (fun i j hi _=>by rw [hX];exact stP_all _ _ _ _ _ i j hi) rfl rfl)
   clear HT hX
   have hfz:=HT1.out.h1.2
   have hold:=HT1.out.h1.1
   obtain⟨d,hd⟩: ∃d,(if p < 0 then wrap64 (-p) else p)=d:=⟨_,rfl⟩
   have hsz:=HSZ.out
   rw [hd] at hsz
   have HD2:=Aside0.mk hd
   have HSZ2:=Aside0.mk hsz
   clear hd hsz HSZ
   go_wp2_with fail
   refine(impl_size.calls p d wr HSZ2.out).mono ?_
   rintro e w6 ⟨rfl,hb6⟩
   have HT2:=Aside0.mk (HT1.out.mvB hb6)
   replace HO:=Aside0.mk (HO.out.trans (Out.below hb6 lo hi))
   clear HT1 hb6 hfz hold
   have hfz:=HT2.out.h1.2
   have hold:=HT2.out.h1.1
   have HT3:=Aside0.mk (HT2.out.putD d)
   have aa:=Aside0.mk (HO.out.trans (Out.set w6 1 (.int .i64 d) HT2.out.tR))
   by_cases hpn:p < 0
   ·have hcz0:=HT3.out.h0
    have HPN:=Aside0.mk hpn
    have hpb:decide (p < 0)=true:=decide_eq_true hpn
    go_wp2
    generalize w6.setCell ⟨t,1,none⟩ (.int .i64 d)=w7 at*
    clear HT2 HO hcz0 hfz hold
    go_loopg [85] n (fun gg v85 wr=> ∃kk:Nat,kk≤n∧n - kk≤gg∧v85= .int .i64 (kk:Int)∧Aside0 (Tm wr lo hi t g gb n m cg cb b cp ⟨ngP X kk 0,d,s.bs⟩)∧Aside0 (Out w wr lo hi))
    case atStart=>exact⟨0,Nat.zero_le _,by omega,rfl,⟨HT3.out.congr (fun i j _ _=>(ngP_zero _ i j).symm) rfl rfl⟩,aa⟩
    case round=>
     clear aa HT3
     obtain⟨kk,hkk,hg,rfl,HT,HO⟩:=hrel
     have HG:=Aside0.mk hg
     by_cases hlt:kk < n
     ·have hltz:(kk:Int) < (n:Int):=by omega
      have h0z:(0:Int)≤(kk:Int):=by omega
      have hw:IntKind.i64.wrap ((kk:Int)+1)=((kk+1:Nat):Int):=by rw [IntWalk.i64_in _ (by have:=HN.out;omega)];rfl
      have HW:=Aside0.mk hw
      have HLT:=Aside0.mk hlt
      have hog:=HT.out.og kk hlt
      clear hkk hg hlt
      go_wp2
      go_loopg [91] m (fun gg v91 w4=> ∃c:Nat,c≤m∧m - c≤gg∧v91= .int .i64 (c:Int)∧Aside0 (Tm w4 lo hi t g gb n m cg cb b cp ⟨ngP X kk c,d,s.bs⟩)∧Aside0 (Out w w4 lo hi))
      case atStart=>exact⟨0,Nat.zero_le _,by omega,rfl,HT,HO⟩
      case round=>
       clear HT HO hog
       obtain⟨c,hc,hg2,rfl,HT,HO⟩:=hrel
       have HC:=Aside0.mk hc
       have HG2:=Aside0.mk hg2
       by_cases hcm:c < m
       ·have hcz:(c:Int) < (m:Int):=by omega
        have h0c:(0:Int)≤(c:Int):=by omega
        have HCM:=Aside0.mk hcm
        have h1:=(HT.out.ob kk c HLT.out hcm).1
        have h1f:=(HT.out.ob kk c HLT.out hcm).2
        rw [show (⟨ngP X kk c,d,s.bs⟩:TS).T kk c=X kk c from ngP_at _ _ _ _ _ (by omega)] at h1
        have hwc:IntKind.i64.wrap ((c:Int)+1)=((c+1:Nat):Int):=by rw [IntWalk.i64_in _ (by have:=HM2.out;omega)];rfl
        have HWC:=Aside0.mk hwc
        clear hc hg2 hcm
        go_wp2
        go_roundg (m - (c+1))
        case measure=>have:=HG2.out;have:=HCM.out;omega
        case rel=>
         have hput:=(HT.out.put HLT.out HCM.out (wrap64 (- X kk c))).congr (s':=⟨ngP X kk (c+1),d,s.bs⟩) (fun a e _ _=>ngP_next X kk c a e) rfl rfl
         exact⟨c+1,HCM.out,by omega,by first | rfl | (rw [HWC.out]) | (simp [HWC.out]),⟨hput⟩,⟨HO.out.trans (Out.set _ _ _ (HT.out.rR kk HLT.out))⟩⟩
       ·have hcz: ¬ (c:Int) < (m:Int):=by omega
        obtain rfl:c=m:=by have:=HC.out;omega
        clear hcm hc hg2
        go_wp2
        go_roundg (n - (kk+1))
        case measure=>have:=HG.out;have:=HLT.out;omega
        case rel=>exact⟨kk+1,HLT.out,by omega,by first | rfl | (rw [HW.out]) | (simp [HW.out]),⟨HT.out.congr (fun i j _ hj=>ngP_end _ _ _ i j hj) rfl rfl⟩,HO⟩
     ·have hltz: ¬ (kk:Int) < (n:Int):=by omega
      obtain rfl:n=kk:=by omega
      have hcz2:=HT.out.h2
      have hbr:=(HT.out.oq r HR.out).1
      have hbf:=(HT.out.oq r HR.out).2
      go_wp2
      go_ret
      refine⟨rfl,((HT.out.putB HR.out (v:Int)).congr (s':=s.step r v) (fun i j hi _=>?_) ?_ rfl),HO.out.trans (Out.set _ _ _ HT.out.bR)⟩
      ·show ngP X n 0 i j=stT s.T s.den r v i j
       unfold stT
       rw [if_pos (by rw [HP.out];exact HPN.out),ngP_all _ _ _ _ hi,HX.out]
      ·show stD s.T r v=d
       unfold stD
       rw [HP.out,HD2.out]
   ·have hcz2:=HT3.out.h2
    have hbr:=(HT3.out.oq r HR.out).1
    have hbf:=(HT3.out.oq r HR.out).2
    have HPN:=Aside0.mk hpn
    go_wp2
    go_ret
    refine⟨rfl,((HT3.out.putB HR.out (v:Int)).congr (s':=s.step r v) (fun i j _ _=>?_) ?_ rfl),aa.out.trans (Out.set _ _ _ HT2.out.bR)⟩
    ·show X i j=stT s.T s.den r v i j
     unfold stT
     rw [if_neg (by rw [HP.out];omega),HX.out]
    ·show stD s.T r v=d
     unfold stD
     rw [HP.out,HD2.out]
end Go.Proofs.Ytmpkckiifeikkaa.Lq
end
section
namespace Go.Proofs.Ytmpkckiifeikkaa.Lq
open Go.RowKit Go.Proofs.YtmpkckiifeikkaaW.PrintWords Go.Proofs.YtmpkckiifeikkaaW.PrintLast Go.Proofs.YtmpkckiifeikkaaW.PrintMore Go.Proofs.Ytmpkckiifeikkaa.Pr Go.Proofs.Ytmpkckiifeikkaa.Ma Go.Proofs.Ytmpkckiifeikkaa.Dt Go.Proofs.Ytmpkckiifeikkaa.Lk Go.Proofs.Ytmpkckiifeikkaa.Lt
theorem infoI:(Try.prog.info? 3).map (fun i=>(i.zero,i.size,i.bytes))=some (some (.int .i64 0),1,8):=by kernel_rfl
structure Nt (w wr:World) (g6 n:Nat) (u0 u2:Value) (L:List (List Int)) (Q:List Int):Prop where
 below:Below w.heap.size w wr
 g:w.heap.size≤g6
 blk:wr.heap[g6]?=some (.cells #[u0, .int .i64 1,u2, .int .i64 n] 110 (0,0))
 S:Kd.S (Kd.slice 2 (Kd.int .i64)) 23 wr w.heap.size (fun _=>True) u0 L
 R:Kd.R (Kd.int .i64) 3 wr w.heap.size (fun _=>True) u2 Q
structure Nr (w wr:World) (g6 n:Nat) (u0 u2:Value) (L:List (List Int)) (Q:List Int) (v8:Value) (X:List Int):Prop where
 below:Below w.heap.size w wr
 g:w.heap.size≤g6
 blk:wr.heap[g6]?=some (.cells #[u0, .int .i64 1,u2, .int .i64 n] 110 (0,0))
 S:Kd.S (Kd.slice 2 (Kd.int .i64)) 23 wr w.heap.size (fun k=>True∧some k≠v8.ownBlock) u0 L
 R:Kd.R (Kd.int .i64) 3 wr w.heap.size (fun _=>True) u2 Q
 X:Kd.R (Kd.int .i64) 2 wr w.heap.size (fun _=>True) v8 X
section
variable {w wr w1:World} {g6 n:Nat} {u0 u2 v8 v1:Value} {L:List (List Int)} {Q X Y:List Int}
theorem Nt.mv (h:Nt w wr g6 n u0 u2 L Q) (hb:Below wr.heap.size wr w1):Nt w w1 g6 n u0 u2 L Q:=
 ⟨below_step h.below hb,h.g,blk_below h.blk hb,Kd.S_below h.S hb,Kd.R_below h.R hb⟩
theorem Nr.mv (h:Nr w wr g6 n u0 u2 L Q v8 X) (hb:Below wr.heap.size wr w1):Nr w w1 g6 n u0 u2 L Q v8 X:=
 ⟨below_step h.below hb,h.g,blk_below h.blk hb,Kd.S_below h.S hb,Kd.R_below h.R hb,Kd.R_below h.X hb⟩
theorem Nr.new (h:Nt w wr g6 n u0 u2 L Q) (hb:Below wr.heap.size wr w1) (hX:Kd.R (Kd.int .i64) 2 w1 wr.heap.size (fun _=>True) v8 X):Nr w w1 g6 n u0 u2 L Q v8 X:=
 ⟨below_step h.below hb,h.g,blk_below h.blk hb,Kd.S_elder' h.S (Kd.R_base hX) hb,Kd.R_below h.R hb,Kd.R_lower hX h.below.size⟩
theorem Nr.grow (h:Nr w wr g6 n u0 u2 L Q v8 X) (hb:Below w.heap.size w w1) (hg:wr.grownBy w1 v8.ownBlock) (hat:v1.ownBlock=v8.ownBlock∨ ∃b,v1.ownBlock=some b∧wr.heap.size≤b) (hX:Kd.R (Kd.int .i64) 2 w1 w.heap.size (fun _=>True) v1 Y):Nr w w1 g6 n u0 u2 L Q v1 Y:=
 ⟨hb,h.g,blk_grown h.blk hg (Kd.R_ne h.X h.blk (by decide)),Kd.S_after h.S hg hat,Kd.R_over' h.R (Kd.R_typed h.X) (by decide) hg,hX⟩
theorem Nr.put {g8 c l:Nat} (h:Nr w wr g6 n u0 u2 L Q (.slice (some ⟨g8,0,none⟩) l c) X) (j:Nat) (x:Int):Nr w (wr.setCell ⟨g8,j,none⟩ (.int .i64 x)) g6 n u0 u2 L Q (.slice (some ⟨g8,0,none⟩) l c) (X.set j x):=by
 have hp:=Kd.R_putg h.X (j:Int) x
 rw [Int.toNat_natCast] at hp
 exact h.grow (h.below.setCell (Kd.R_base h.X g8 (by simp [Value.ownBlock])) _) hp.2 (.inl rfl) hp.1
theorem tset (hblk:wr.heap[g6]?=some (.cells #[u0, .int .i64 1,u2, .int .i64 n] 110 (0,0))) (j:Nat) (v:Value): ∀k,k≠g6→(wr.setCell ⟨g6,j,none⟩ v).heap[k]?=wr.heap[k]?:=fun k hk=>Below.heap_setCell wr ⟨g6,j,none⟩ v k (by simp;exact hk)
theorem Nt.rows {u:Value} (hb:Below w.heap.size w wr) (hg:w.heap.size≤g6) (hblk:wr.heap[g6]?=some (.cells #[u0, .int .i64 1,u2, .int .i64 n] 110 (0,0)))
  (hS:Kd.S (Kd.slice 2 (Kd.int .i64)) 23 wr w.heap.size (fun _=>True) u L) (hR:Kd.R (Kd.int .i64) 3 wr w.heap.size (fun _=>True) u2 Q):Nt w (wr.setCell ⟨g6,0,none⟩ u) g6 n u u2 L Q:=by
 have hst:=tset hblk 0 u
 refine⟨hb.setCell hg _,hg,blk_put hblk 0 u rfl,?_,?_⟩
 ·refine Kd.S_mono (Kd.S_step (Kd.S_bound hS) (fun k hk hlt=>hst k (fun e=>?_))) (fun _ _=>trivial)
  obtain⟨_,_,_,q,hq,cells,hc⟩:=hk
  rw [e,hblk] at hc
  injection hc with hc;injection hc with _ ht _
  subst ht
  revert hq;decide
 ·refine Kd.R_mono (Kd.R_step (Kd.R_bound hR) (fun k hk hlt=>hst k (fun e=>?_))) (fun _ _=>trivial)
  obtain⟨_,_,_,q,hq,cells,hc⟩:=hk
  rw [e,hblk] at hc
  injection hc with hc;injection hc with _ ht _
  subst ht
  revert hq;decide
theorem Nt.basis {u:Value} (hb:Below w.heap.size w wr) (hg:w.heap.size≤g6) (hblk:wr.heap[g6]?=some (.cells #[u0, .int .i64 1,u2, .int .i64 n] 110 (0,0)))
  (hS:Kd.S (Kd.slice 2 (Kd.int .i64)) 23 wr w.heap.size (fun _=>True) u0 L) (hR:Kd.R (Kd.int .i64) 3 wr w.heap.size (fun _=>True) u Q):Nt w (wr.setCell ⟨g6,2,none⟩ u) g6 n u0 u L Q:=by
 have hst:=tset hblk 2 u
 refine⟨hb.setCell hg _,hg,blk_put hblk 2 u rfl,?_,?_⟩
 ·refine Kd.S_mono (Kd.S_step (Kd.S_bound hS) (fun k hk hlt=>hst k (fun e=>?_))) (fun _ _=>trivial)
  obtain⟨_,_,_,q,hq,cells,hc⟩:=hk
  rw [e,hblk] at hc
  injection hc with hc;injection hc with _ ht _
  subst ht
  revert hq;decide
 ·refine Kd.R_mono (Kd.R_step (Kd.R_bound hR) (fun k hk hlt=>hst k (fun e=>?_))) (fun _ _=>trivial)
  obtain⟨_,_,_,q,hq,cells,hc⟩:=hk
  rw [e,hblk] at hc
  injection hc with hc;injection hc with _ ht _
  subst ht
  revert hq;decide
end
theorem S_over' {α:Type} {d:Kd α} {e e' base:Nat} {ok:Nat→Prop} {W w1:World} {u v:Value} {xs:List α} (h:Kd.S d e W base ok u xs) (hty: ∀k,v.ownBlock=some k→ ∃cells,W.heap[k]?=some (.cells cells e' (0,0))) (ht: ∀q,q ∈ e::d.E→q≠e') (hg:W.grownBy w1 v.ownBlock):Kd.S d e w1 base ok u xs:=
 Kd.S_mono (Kd.S_step (Kd.S_bound h) (fun k hk hlt=>hg.block k hlt (fun e1=>by
  obtain⟨_,_,_,q,hq,cells,hc⟩:=hk
  obtain⟨cells',hc'⟩:=hty k e1.symm
  rw [hc] at hc'
  injection hc' with h1
  injection h1 with _ h2 _
  exact ht q hq h2))) (fun _ hk=>hk.1)
def enL (l:List (List Int)):Mat:=fun i j=>(l.getD i []).getD j 0
theorem Nt.done {w wr:World} {g6 n m:Nat} {u0 u2:Value} {L:List (List Int)} {Q:List Int} (h:Nt w wr g6 n u0 u2 L Q) (hL:L.length=n) (hQ:Q.length=n) (hn:0 < n) (hm:0 < m) (hr: ∀x ∈ L,x.length=m):
  ∃g gb cg cb b cp,Tm wr w.heap.size wr.heap.size g6 g gb n m cg cb b cp ⟨enL L,1,Q⟩:=by
 subst hL
 obtain⟨g,cap,hu0,hg0,hg1,cells,hgc⟩:=Kd.S_form h.S hn
 obtain⟨gb,cb,hu2,hq0,hq1,cellsq,hqc⟩:=Kd.R_form h.R (by omega)
 have hrd:=Kd.S_reads' (hu0 ▸ h.S)
 have hrq:=Kd.R_reads' (hu2 ▸ h.R)
 have hblk:=h.blk
 obtain⟨f,h0,hO⟩:=Kd.S_bound (hu0 ▸ h.S)
 obtain⟨A,c,hv,hc,_,_,hread⟩:=hO.reads
 injection hv with hA _ _
 subst hA
 rw [List.length_zipIdx] at hread
 obtain⟨ad,had,hj⟩:=hread hn
 injection had with had
 subst had
 have key: ∀j, ∃p:Nat × Nat,j < L.length→wr.cell? ⟨g,j,none⟩=some (.slice (some ⟨p.1,0,none⟩) m p.2)∧m≤p.2∧w.heap.size≤p.1∧f p.1=j∧p.1≠g∧(∃cs,wr.heap[p.1]?=some (.cells cs 2 (0,0)))∧ ∀d,d < m→wr.cell? ⟨p.1,d,none⟩=some (.int .i64 (enL L j d))∧wr.frozen? ⟨p.1,d,none⟩=false:=by
  intro j
  by_cases hjl:j < L.length
  ·obtain⟨cs,hcs,hM,hcell⟩:=hj j (L[j],j) (Kd.zip_at (List.getElem?_eq_getElem hjl))
   obtain⟨u,rfl,hR⟩:=(show ∃u,cs= [u]∧Kd.R (Kd.int .i64) 2 wr w.heap.size _ u L[j] from hM)
   have hlen:=hr L[j] (List.getElem_mem hjl)
   obtain⟨bj,cj,rfl,hb1,hb2,cells2,hbc⟩:=Kd.R_form hR (by omega)
   have hcj:=(Kd.R_reads' hR).2.1
   have hown:=hR.1 bj (by simp [Value.ownBlock])
   refine⟨(bj,cj),fun _=>⟨?_,by simpa [hlen] using hcj,hb1,hown.2,?_,⟨_,hbc⟩,fun d hd=>?_⟩⟩
   ·have:=hcell 0 _ rfl
    have e:(⟨g,0,none⟩:Addr).add (j*(Kd.tag f (Kd.slice 2 (Kd.int .i64))).sz+0)=⟨g,j,none⟩:=by
     show (⟨g,0,none⟩:Addr).add (j*1+0)=_
     rw [Nat.mul_one,Nat.add_zero,add_off];try rw [Nat.zero_add]
    rw [e,hlen] at this
    exact this
   ·intro e
    have e:bj=g:=e
    subst e
    exact hown.1.2 (by simp [Value.ownBlock])
   ·have hat:=Kd.R_celln 0 hR (d:Int) (by omega) (by omega)
    rw [Int.toNat_natCast] at hat
    have e2:enL L j d=L[j].getD d 0:=by unfold enL;rw [List.getD_eq_getElem?_getD (l:=L),List.getElem?_eq_getElem hjl];rfl
    rw [e2]
    exact⟨by simpa [rdOf] using hat.1,hat.2⟩
  ·exact⟨(0,0),fun hh=>absurd hh hjl⟩
 obtain⟨p,hp2⟩:=Classical.skolem.1 key
 have tne: ∀ {a c:Nat} {x y:Array Value} {tx ty:TypeId},wr.heap[a]?=some (.cells x tx (0,0))→wr.heap[c]?=some (.cells y ty (0,0))→tx≠ty→a≠c:=by
  intro a c x y tx ty h1 h2 h3 e
  subst e
  rw [h1] at h2
  injection h2 with h2;injection h2 with _ h4 _
  exact h3 h4
 refine⟨g,gb,cap,cb,fun j=>(p j).1,fun j=>(p j).2,Nat.le_refl _,⟨h.g,blk_lt hblk⟩,⟨hg0,blk_lt hgc⟩,⟨hq0,blk_lt hqc⟩,fun j hj=>⟨(hp2 j hj).2.2.1,?_⟩,fun i j hi hj e=>?_,fun j hj=>?_,tne hblk hgc (by decide),tne hblk hqc (by decide),tne hgc hqc (by decide),fun j hj=>(hp2 j hj).2.1,hQ,⟨hrd.2.1,hQ ▸ hrq.2.1⟩,?_,⟨(blk_cell hblk 1).trans rfl,blk_frozen hblk 1⟩,?_,(blk_cell hblk 3).trans rfl,fun j hj=>(hp2 j hj).1,fun j d hj hd=>(hp2 j hj).2.2.2.2.2.2 d hd,fun j hj=>?_⟩
 ·obtain⟨cs,hcs⟩:=(hp2 j hj).2.2.2.2.2.1
  exact blk_lt hcs
 ·have h1:=(hp2 i hi).2.2.2.1
  have h2:=(hp2 j hj).2.2.2.1
  rw [← h1, ← h2]
  exact congrArg f e
 ·obtain⟨cs,hcs⟩:=(hp2 j hj).2.2.2.2.2.1
  exact⟨(hp2 j hj).2.2.2.2.1,tne hcs hblk (by decide),tne hcs hqc (by decide)⟩
 ·rw [← hu0];exact(blk_cell hblk 0).trans rfl
 ·rw [← hQ, ← hu2];exact(blk_cell hblk 2).trans rfl
 ·have hat:=Kd.R_celln 0 (hu2 ▸ h.R) (j:Int) (by omega) (by omega)
  rw [Int.toNat_natCast] at hat
  exact⟨by simpa [rdOf] using hat.1,hat.2⟩
end Go.Proofs.Ytmpkckiifeikkaa.Lq
end
section
namespace Go.Proofs.Ytmpkckiifeikkaa.Lq
open Go.RowKit Go.Proofs.YtmpkckiifeikkaaW.PrintWords Go.Proofs.YtmpkckiifeikkaaW.PrintLast Go.Proofs.YtmpkckiifeikkaaW.PrintMore Go.Proofs.Ytmpkckiifeikkaa.Pr Go.Proofs.Ytmpkckiifeikkaa.Ma Go.Proofs.Ytmpkckiifeikkaa.Dt Go.Proofs.Ytmpkckiifeikkaa.Lk Go.Proofs.Ytmpkckiifeikkaa.Lt
theorem below_alloc_ {w W:World} (h:Below w.heap.size w W) (o:Obj):Below w.heap.size w (W.alloc o):=h.alloc h.size o
theorem R_make2 {P:Program} {ops:Array Oper} {Q:Exit→Act→World→Prop} {o:Oper} {rest:List Oper} {a:Act} {w0 W:World} (base e:Nat) (hgd:o.guard=none) {N:Tmp} (hd:o.dst=some N) (t:TypeId) (x y:Operand) (ho:o.op= .makeSlice t x y) (n c:Nat) {xi yi:Int} (hx:a.eval x= .int .i64 xi) (hy:a.eval y= .int .i64 yi) (hxi:xi=(n:Int)) (hyi:yi=(c:Int))
  (ht:P.underlying t=some (.slice e)) (hinfo:(P.info? e).map (fun i=>(i.zero,i.size,i.bytes))=some (some (.int .i64 0),1,8)) (hnc:n≤c) (hc:c≤1000000) (HB:Below base w0 W) (hbase:base≤W.heap.size)
  (h: ∀v1 w1,(Kd.int .i64).R e w1 base (fun _=>True) v1 (List.replicate n 0)→Below base w0 w1→Below W.heap.size W w1→wpList P ops Q rest (a.put (some N) v1) w1):wpList P ops Q (o::rest) a W:=by
 subst hxi hyi
 obtain⟨i0,hi,hzz⟩:=Option.map_eq_some_iff.1 hinfo
 simp only [Prod.mk.injEq] at hzz
 obtain⟨hz0,hz1,hz2⟩:=hzz
 have hr:=run_make (P:=P) W t e i0 (.int .i64 0) ht hi hz0 .i64 .i64 (n:Int) (c:Int) (by omega) (by omega) (by rw [hz2];omega) (by omega)
 simp only [Int.toNat_natCast] at hr
 rw [hz1] at hr
 have hreps:=Kd.reps_made (R:=(Kd.int .i64).M W base (fun _=>True)) (z:= .int .i64 0) (size:=1) (z0:=(0:Int)) rfl (by decide) rfl c
 have hsz:(madeCells (Value.int .i64 0).cells (c*1)).size=c:=by rw [size_madeCells];omega
 rw [← hd] at h
 generalize madeCells (Value.int .i64 0).cells (c*1)=mc at hr hreps hsz
 have hszl:mc.toList.length=c:=by rw [Array.length_toList];exact hsz
 refine Kd.event_run hgd (v:= .slice (some ⟨W.heap.size,0,none⟩) n c) (w1:=W.alloc (.cells mc e)) (by simp [execOp,ho,hx,hy,hr]) (h _ _ ⟨fun _ _=>trivial,mc.toList.take n,⟨?_, .inr ⟨W.heap.size,c,mc,?_,hbase,blk_new W _,?_,?_,?_,?_⟩⟩,?_,fun j p hj=>?_⟩ (HB.alloc hbase _) (below_alloc (Below.refl _ _) _))
 ·show (mc.toList.take n).length=(List.replicate n (0:Int)).length*1
  rw [List.length_take,List.length_replicate,hszl,Nat.mul_one];omega
 ·rw [List.length_replicate]
 ·rw [List.length_replicate];exact hnc
 ·unfold maxLen;omega
 ·show mc.size=c*1;omega
 ·show mc.toList.take ((List.replicate n (0:Int)).length*1)=mc.toList.take n
  rw [List.length_replicate,Nat.mul_one]
 ·show (mc.toList.take n).length=(List.replicate n (0:Int)).length*1
  rw [List.length_take,List.length_replicate,hszl,Nat.mul_one];omega
 ·have hjn:j < n:=by have:=(List.getElem?_eq_some_iff.1 hj).1;simpa using this
  have hp:p=0:=by rw [List.getElem?_replicate,if_pos hjn] at hj;exact(Option.some.inj hj).symm
  subst hp
  have h2:=hreps.2 j 0 (by rw [List.getElem?_replicate,if_pos (by omega)])
  have h3:(mc.toList.drop (j*1)).take 1= [Value.int .i64 0]:=h2
  show (((mc.toList.take n).drop (j*1)).take 1)= [Value.int .i64 0]
  rw [List.drop_take,List.take_take,Nat.min_eq_left (by omega)]
  exact h3
def bRow (n i:Nat) (Mi:List Int) (j:Nat):List Int:=(List.range (2*n)).map (fun c=>if c < n then(if c=i then 1 else 0) else if c < n+j then wrap64 (- Mi.getD (c - n) 0) else 0)
theorem bRow_len (n i:Nat) (Mi:List Int) (j:Nat):(bRow n i Mi j).length=2*n:=by simp [bRow]
theorem bRow_zero (n i:Nat) (Mi:List Int) (hi:i < n):(List.replicate (2*n) (0:Int)).set i 1=bRow n i Mi 0:=by
 apply List.ext_getElem
 ·simp [bRow]
 ·intro c h1 h2
  rw [List.getElem_set]
  simp only [bRow,List.getElem_map,List.getElem_range,List.getElem_replicate]
  by_cases e:i=c
  ·subst e;simp [hi]
  ·rw [if_neg e]
   by_cases q:c < n
   ·rw [if_pos q,if_neg (Ne.symm e)]
   ·rw [if_neg q,if_neg (by omega)]
theorem bRow_next (n i:Nat) (Mi:List Int) (j:Nat) (hj:j < n):(bRow n i Mi j).set (n+j) (wrap64 (- Mi.getD j 0))=bRow n i Mi (j+1):=by
 apply List.ext_getElem
 ·simp [bRow]
 ·intro c h1 h2
  rw [List.getElem_set]
  simp only [bRow,List.getElem_map,List.getElem_range]
  by_cases e:n+j=c
  ·subst e;rw [if_pos rfl,if_neg (by omega),if_pos (by omega),show n+j - n=j from by omega]
  ·rw [if_neg e]
   by_cases q:c < n
   ·rw [if_pos q,if_pos q]
   ·rw [if_neg q,if_neg q]
    by_cases z:c < n+j
    ·rw [if_pos z,if_pos (by omega)]
    ·rw [if_neg z,if_neg (by omega)]
def TmE (w:World) (lo hi t n m:Nat) (s:TS):Prop:= ∃g gb cg cb b cp,Tm w lo hi t g gb n m cg cb b cp s
def nRow (n i:Nat) (Mi cv:List Int) (q:Int):List Int:=bRow n i Mi n++(if cv.length=0 then [] else [wrap64 (- cv.getD i 0)])++ [q]
def nRows (n:Nat) (M:List (List Int)) (cv Q:List Int) (i:Nat):List (List Int):=(List.range i).map (fun r=>nRow n r (M.getD r []) cv (Q.getD r 0))
theorem nRows_next (n:Nat) (M:List (List Int)) (cv Q:List Int) (i:Nat):nRows n M cv Q (i+1)=nRows n M cv Q i++ [nRow n i (M.getD i []) cv (Q.getD i 0)]:=by unfold nRows;rw [List.range_succ,List.map_append];rfl
theorem idl_next (i:Nat):idl (i+1)=idl i++ [(i:Int)]:=by unfold idl;rw [List.range_succ,List.map_append];rfl
theorem idl_len (i:Nat):(idl i).length=i:=by simp [idl]
theorem nRows_len (n:Nat) (M:List (List Int)) (cv Q:List Int) (i:Nat):(nRows n M cv Q i).length=i:=by simp [nRows]
theorem newTable_calls (A0:Option Addr) (c0:Nat) (M:List (List Int)) (A1:Option Addr) (c1:Nat) (Q:List Int) (A2:Option Addr) (c2:Nat) (cv:List Int) (w:World) (n:Nat)
  (hC0:Kd.C (Kd.slice 2 (Kd.int .i64)) w A0 M.length M) (hC1:Kd.C (Kd.int .i64) w A1 Q.length Q) (hC2:Kd.C (Kd.int .i64) w A2 cv.length cv) (hM:M.length=n) (hQ:Q.length=n) (hr: ∀x ∈ M,x.length=n) (hn:0 < n) (hn2:n≤100) (hcv:cv.length=0∨cv.length=n) (m:Nat) (hm:m=2*n+(if cv.length=0 then 0 else 1)+1):
  Calls Try.prog 186 #[.agg #[.slice A0 M.length c0, .slice A1 Q.length c1], .slice A2 cv.length c2] w fun e w'=> ∃t,e= .returned (.pointer (some ⟨t,0,none⟩))∧TmE w' w.heap.size w'.heap.size t n m ⟨enL (nRows n M cv Q n),1,idl n⟩∧Below w.heap.size w w':=by
 have HB:=Aside0.mk (Below.refl w.heap.size w)
 have HC0:=Aside0.mk hC0
 have HC1:=Aside0.mk hC1
 have HC2:=Aside0.mk hC2
 have HM:=Aside0.mk hM
 have HQ:=Aside0.mk hQ
 have HR:=Aside0.mk hr
 have HN:=Aside0.mk hn
 have HN2:=Aside0.mk hn2
 have HCV:=Aside0.mk hcv
 have HMM:=Aside0.mk hm
 have hqz:(Q.length:Int)=(n:Int):=by omega
 clear hC0 hC1 hC2 hM hQ hr hn hn2 hcv hm
 go_enter Try.func186,Try.ntmps186
 go_wp2_with (first | ((with_reducible refine gate_dst (N:=2) rfl ?_);refine box_event ?hg (N:=2) ?hd (cs:= #[.slice A0 M.length c0, .slice A1 Q.length c1]) (t:=30) ?hr ?_;(case hd=>rfl);(case hg=>rfl);(case hr=>first | (go_simp;done) | (go_simp;rfl));intro g2 hg w2 hbox hb;replace HB:=Aside0.mk (below_step HB.out hb);have B2:=Aside0.mk hbox;have hcz2:=cz_ B2 1;clear hb hbox hg) | ((with_reducible refine gate_dst (N:=16) rfl ?_);refine box_event ?hg (N:=16) ?hd (cs:= #[.slice none 0 0, .int .i64 1, .slice none 0 0, .int .i64 n]) (t:=110) ?hr ?_;(case hd=>rfl);(case hg=>rfl);(case hr=>first | (go_simp;done) | (go_simp;rfl));intro g6 hg w6 hbox hb;have HG6:Aside0 (w.heap.size≤g6):=⟨by rw [hg];exact HB.out.size⟩;replace HB:=Aside0.mk (below_step HB.out hb);replace B2:=Aside0.mk (blk_below B2.out hb);have B6:=Aside0.mk hbox;clear hb hbox hg hcz2))
 have NT:Aside0 (Nt w w6 g6 n (.slice none 0 0) (.slice none 0 0) (nRows n M cv Q 0) (idl 0)):=⟨HB.out,HG6.out,B6.out,Kd.S_nil _ _ _ _ _,Kd.R_nil _ _ _ _ _⟩
 clear HB B6
 go_loopg [18] n (fun gg v18 wr=> ∃(i:Nat) (u0 u2:Value),i≤n∧n - i≤gg∧v18= .int .i64 (i:Int)∧Aside0 (Nt w wr g6 n u0 u2 (nRows n M cv Q i) (idl i))∧Aside0 (wr.heap[g2]?=some (.cells #[.slice A0 M.length c0, .slice A1 Q.length c1] 30 (0,0))))
 case atStart=>exact⟨0,_,_,Nat.zero_le _,by omega,rfl,NT,B2⟩
 case round=>
  clear NT B2
  obtain⟨i,u0,u2,hi,hg,rfl,NT,B2⟩:=hrel
  have HG:=Aside0.mk hg
  by_cases hlt:i < n
  ·have hltz:(i:Int) < (n:Int):=by omega
   have h0z:(0:Int)≤(i:Int):=by omega
   have hn2':=HN2.out
   have hw:IntKind.i64.wrap ((i:Int)+1)=((i+1:Nat):Int):=by rw [IntWalk.i64_in _ (by omega)];rfl
   have hw2:IntKind.i64.wrap (2*(n:Int))=((2*n:Nat):Int):=by rw [IntWalk.i64_in _ (by omega)];omega
   have hw3:wrap64 (2*(n:Int)+2)=((2*n+2:Nat):Int):=by rw [w64 (by omega) (by omega)];omega
   have HW3:=Aside0.mk hw3
   have HW:=Aside0.mk hw
   have HLT:=Aside0.mk hlt
   clear hi hg hlt hn2' hw hw3
   go_wp2_with (first | ((with_reducible refine gate_dst (N:=26) rfl ?_);refine R_make2 (w0:=wr) wr.heap.size 2 rfl (N:=26) rfl 23 _ _ rfl (2*n) (2*n+2) rfl rfl (by omega) HW3.out Try.underlying23 info2 (by omega) (by have:=HN2.out;omega) (Below.refl _ _) (Nat.le_refl _) ?_;intro v8 w8 ho hb hb2;obtain⟨g8,c8,hv8,hg8,_,cells8,hbc⟩:=Kd.R_form ho (by rw [List.length_replicate];have:=HN.out;omega);rw [List.length_replicate] at hv8;subst hv8;have NR:=Aside0.mk (Nr.new NT.out hb2 ho);have hcell:=(Kd.R_celln (W:=w8) (xs:=List.replicate (2*n) (0:Int)) 0 ho (i:Int) (by omega) (by have:=HLT.out;omega));rw [Int.toNat_natCast] at hcell;have hfr:=hcell.2;replace hcell:=hcell.1;have HG82:Aside0 (g2≠g8):=⟨by have:=blk_lt B2.out;omega⟩;replace B2:=Aside0.mk (blk_below B2.out hb2);have NR2:=Aside0.mk (NR.out.put i 1);rw [bRow_zero n i (M.getD i []) HLT.out] at NR2;have B2':Aside0 ((w8.setCell ⟨g8,i,none⟩ (.int .i64 1)).heap[g2]?=some (.cells #[.slice A0 M.length c0, .slice A1 Q.length c1] 30 (0,0))):=⟨(Below.heap_setCell w8 ⟨g8,i,none⟩ _ g2 (by simpa using HG82.out)).trans B2.out⟩;have hcz0:=cz_ B2' 0;obtain⟨ad,A',c',eA,hx,hc',hC'⟩:=at_L1 HC0.out (i:Int) (by omega) (by have:=HM.out;omega);cases eA;rw [Int.toNat_natCast] at hx;have hx':=(NR2.out.below.cell (World.block_lt_of_cell? w _ hx)).trans hx;have el:rd_L1 M (i:Int)=M.getD i []:=(by simp [rd_L1]);rw [el] at hx';rw [el] at hc';have hC2:Kd.C (Kd.int .i64) w A' (M.getD i []).length (M.getD i []):=(by rw [← el];exact hC');have eln:(M.getD i []).length=n:=HR.out _ (by rw [List.getD_eq_getElem?_getD,List.getElem?_eq_getElem (by rw [HM.out];exact HLT.out)];exact List.getElem_mem _);rw [eln] at hx';rw [eln] at hc';have HC':=Aside0.mk hC2;have HELN:=Aside0.mk eln;have hmz:(i:Int) < (M.length:Int):=(by rw [HM.out];exact hltz);have hi2:(i:Int) < ((2*n:Nat):Int):=(by omega);clear ho hb hb2 hg8 hbc hx hc' hC' hC2 el eln NR NT HW3 B2))
   generalize w8.setCell ⟨g8,i,none⟩ (.int .i64 1)=w9 at*
   clear hcell hfr hcz0 hx' hmz hi2
   go_loopg [36] n (fun gg v36 wr2=> ∃j:Nat,j≤n∧n - j≤gg∧v36= .int .i64 (j:Int)∧Aside0 (Nr w wr2 g6 n u0 u2 (nRows n M cv Q i) (idl i) (.slice (some ⟨g8,0,none⟩) (2*n) c8) (bRow n i (M.getD i []) j))∧Aside0 (wr2.heap[g2]?=some (.cells #[.slice (some ad) M.length c0, .slice A1 Q.length c1] 30 (0,0))))
   case atStart=>exact⟨0,Nat.zero_le _,by omega,rfl,NR2,B2'⟩
   case round=>
    clear NR2 B2'
    obtain⟨j,hj,hg2,rfl,NR,B2⟩:=hrel
    have HG2:=Aside0.mk hg2
    have HJ0:=Aside0.mk hj
    by_cases hjn:j < n
    ·have hjz:(j:Int) < (n:Int):=by omega
     have h0j:(0:Int)≤(j:Int):=by omega
     have hn2':=HN2.out
     have hwj:IntKind.i64.wrap ((j:Int)+1)=((j+1:Nat):Int):=by rw [IntWalk.i64_in _ (by omega)];rfl
     have hwn:IntKind.i64.wrap ((n:Int)+(j:Int))=((n+j:Nat):Int):=by rw [IntWalk.i64_in _ (by omega)];omega
     have hnj:((n+j:Nat):Int) < ((2*n:Nat):Int):=by omega
     have HWJ:=Aside0.mk hwj
     have HJN:=Aside0.mk hjn
     obtain⟨ae,eA,hx⟩:=Kd.at_int HC'.out (j:Int) (by omega) (by rw [HELN.out];omega)
     subst eA
     rw [Int.toNat_natCast,rd_nat] at hx
     have hx':=(NR.out.below.cell (World.block_lt_of_cell? w _ hx)).trans hx
     have hcell:=Kd.R_celln 0 NR.out.X ((n+j:Nat):Int) (by omega) (by omega)
     rw [Int.toNat_natCast] at hcell
     have hfr:=hcell.2
     replace hcell:=hcell.1
     clear hj hg2 hjn hn2' hx
     go_wp2
     go_roundg (n - (j+1))
     case measure=>have:=HG2.out;have:=HJN.out;omega
     case rel=>
      have hput:=NR.out.put (n+j) (wrap64 (- (M.getD i []).getD j 0))
      rw [bRow_next n i _ j HJN.out] at hput
      exact⟨j+1,HJN.out,by omega,by first | rfl | (rw [HWJ.out]) | (simp [HWJ.out]),⟨hput⟩,⟨(Below.heap_setCell _ ⟨g8,n+j,none⟩ _ g2 (by simpa using HG82.out)).trans B2.out⟩⟩
    ·have hjz: ¬ (j:Int) < (n:Int):=by omega
     obtain rfl:n=j:=by have:=HJ0.out;omega
     by_cases hcv0:cv.length=0
     ·have hcz: ¬ (0:Int) < (cv.length:Int):=by omega
      have HCV0:=Aside0.mk hcv0
      clear hcv0
      go_wp2
      --TAIL A
      have hqi:(i:Int) < (Q.length:Int):=by rw [HQ.out];exact hltz
      obtain⟨aa,eA1,hx⟩:=Kd.at_int HC1.out (i:Int) (by omega) hqi
      subst eA1
      rw [Int.toNat_natCast,rd_nat] at hx
      obtain⟨q,hq⟩: ∃q,Q.getD i 0=q:=⟨_,rfl⟩
      rw [hq] at hx
      have HX:=Aside0.mk hx
      have HQI:=Aside0.mk hq
      clear hx hq
      replace NR:=Aside0.mk (NR.out.mv (below_drew (Below.refl wr.heap.size wr)))
      replace B2:=Aside0.mk (blk_below B2.out (below_drew (Below.refl wr.heap.size wr)))
      refine st_ (n:=18) (S:=fun w'=>w'.cell? ⟨g6,0,none⟩=some u0∧w'.cell? ⟨g2,1,none⟩=some (.slice (some aa) Q.length c1)∧w'.cell? (aa.add i)=some (.int .i64 q)) (ds:= [17]) ⟨(blk_cell (NR.out.blk) 0).trans rfl,(blk_cell (B2.out) 1).trans rfl,(Below.cell (NR.out.below) (World.block_lt_of_cell? w _ HX.out)).trans HX.out⟩ (fun hHeld=>?_)
      generalize wr.drew=w10 at NR B2 hHeld ⊢
      refine pu_ 0 60 ?_;refine pu_ 1 61 ?_;refine pu_ 2 62 ?_;refine pu_ 3 63 ?_;refine tk_ 4 64 ?_;refine pu_ 5 65 ?_;refine pu_ 6 66 ?_;refine tk_ 7 67 ?_;refine pu_ 8 68 ?_;refine pu_ 9 69 ?_;refine tk_ 10 70 ?_
      refine on_ 11 (some 71) (fun K hK=>?_)
      refine va_ ?_
      refine hK.out _ _ ⟨(blk_cell (blk_alloc NR.out.blk _) 0).trans rfl,(blk_cell (blk_alloc B2.out _) 1).trans rfl,(Below.cell (below_alloc_ NR.out.below _) (World.block_lt_of_cell? w _ HX.out)).trans HX.out⟩ (fun hHeld=>?_)
      clear hK K
      refine no_ ?_
      refine on_ 12 (some 72) (fun K hK=>?_)
      refine Kd.R_append_step (Kd.int .i64) (w0:=w) w.heap.size (by rfl) (.tmp 65) (.tmp 71) 23 2 (.int .i64 0) 8 rfl Try.underlying23 info2 rfl (by decide) (by omega) (.slice (some ⟨g8,0,none⟩) (2*n) c8) (bRow n i (M.getD i []) n) q [.int .i64 q] (fun _=>True) (fun _=>False) rfl rfl rfl (fun _ hk=>hk.elim) (fun _ _=>trivial) NR.out.X NR.out.below NR.out.below.size ?aL ?_
      case aL=>have:=HN2.out;simp [bRow_len];omega
      intro v11 w11 ho hb hg hat
      replace B2:=Aside0.mk (blk_grown B2.out hg (Kd.R_ne NR.out.X B2.out (by decide)))
      replace NR:=Aside0.mk (NR.out.grow hb hg hat ho)
      obtain⟨Y,hY⟩: ∃Y,(bRow n i (M.getD i []) n)++ [q]=Y:=⟨_,rfl⟩
      rw [hY] at NR
      have HY:=Aside0.mk hY
      clear ho hb hg hat hY hHeld
      obtain⟨A9,c9,rfl⟩:=Kd.R_slice NR.out.X
      refine hK.out _ _ ⟨(blk_cell (NR.out.blk) 0).trans rfl,(blk_cell (B2.out) 1).trans rfl,(Below.cell (NR.out.below) (World.block_lt_of_cell? w _ HX.out)).trans HX.out⟩ (fun hHeld=>?_)
      clear hK K
      refine nd_ 72 ?_
      refine on_ 13 (some 73) (fun K hK=>?_)
      refine va_ ?_
      refine hK.out _ _ ⟨(blk_cell (blk_alloc NR.out.blk _) 0).trans rfl,(blk_cell (blk_alloc B2.out _) 1).trans rfl,(Below.cell (below_alloc_ NR.out.below _) (World.block_lt_of_cell? w _ HX.out)).trans HX.out⟩ (fun hHeld=>?_)
      clear hK K
      refine no_ ?_
      have HA:=Aside0.mk (Kd.R_apart' NR.out.X (Kd.S_typed NR.out.S) (by decide))
      refine on_ 14 (some 74) (fun K hK=>?_)
      refine Kd.S_append_step (Kd.slice 2 (Kd.int .i64)) (w0:=w) w.heap.size (by rfl) (.tmp 64) (.tmp 73) 22 23 (.slice none 0 0) 24 rfl Try.underlying22 info23 rfl (by decide) (by omega) u0 (nRows n M cv Q i) Y [.slice A9 Y.length c9] (fun _=>True) (fun k=>some k=(.slice A9 Y.length c9:Value).ownBlock) rfl rfl (Kd.M_row (Kd.R_mono (Kd.R_tight rfl HA.out) (fun _ h=>h))) (fun k hk=>HA.out.1 k hk.symm) (fun _ _=>trivial) (Kd.S_mono NR.out.S (fun k hk=>⟨trivial,fun e=>hk.2 e⟩)) NR.out.below NR.out.below.size ?aL ?_
      case aL=>have:=HN2.out;have:=HLT.out;rw [nRows_len];omega
      intro u12 w12 ho hb hg hat
      replace B2:=Aside0.mk (blk_grown B2.out hg (Kd.S_ne NR.out.S B2.out (by decide)))
      have BK:=Aside0.mk (blk_grown NR.out.blk hg (Kd.S_ne NR.out.S NR.out.blk (by decide)))
      have HRR:=Aside0.mk (Kd.R_over' NR.out.R (Kd.S_typed NR.out.S) (by decide) hg)
      obtain⟨L1,hL1⟩: ∃L1,nRows n M cv Q i++ [Y]=L1:=⟨_,rfl⟩
      rw [hL1] at ho
      have HL1:=Aside0.mk hL1
      obtain⟨A12,c12,rfl⟩:=Kd.S_slice ho
      have HS:=Aside0.mk ho
      have HB:=Aside0.mk hb
      have HG6':=Aside0.mk NR.out.g
      clear ho hb hg hat hHeld HA NR hL1
      refine hK.out _ _ ⟨(blk_cell (BK.out) 0).trans rfl,(blk_cell (B2.out) 1).trans rfl,(Below.cell (HB.out) (World.block_lt_of_cell? w _ HX.out)).trans HX.out⟩ (fun hHeld=>?_)
      clear hK K
      refine nd_ 74 ?_
      refine pu_ 15 75 ?_;refine pu_ 16 76 ?_
      have hs0:=cz_ BK 0
      have hs0f:=blk_frozen BK.out 0
      refine la_ 17 none (fun K hK=>?_)
      refine skip_ (w1:=?_) (by rfl) rfl ?_ ?_
      rotate_left
      ·go_simp
       rfl
      refine hK.out _ _ ?_
      clear hK K hs0 hs0f
      refine done_ (by kernel_rfl) ?_
      have NT:=Aside0.mk (Nt.rows HB.out HG6'.out BK.out HS.out HRR.out)
      have hg26:g2≠g6:=fun e=>by have h1:=B2.out;have h2:=BK.out;rw [e,h2] at h1;injection h1 with h1;injection h1 with _ h3 _;revert h3;decide
      replace B2:=Aside0.mk ((Below.heap_setCell w12 ⟨g6,0,none⟩ (.slice A12 L1.length c12) g2 (by simpa using hg26)).trans B2.out)
      have HG26:=Aside0.mk hg26
      generalize w12.setCell ⟨g6,0,none⟩ (.slice A12 L1.length c12)=w13 at NT B2 ⊢
      clear HB HG6' BK HS HRR hg26 hHeld
      have hcz2:w13.cell? ⟨g6,2,none⟩=some u2:=(blk_cell NT.out.blk 2).trans rfl
      go_wp2_with (first | ((with_reducible refine gate_builtin (b:= .append) (xs:= #[.tmp 81, .tmp 83]) rfl ?_);at_builtin;refine Kd.R_append (Kd.int .i64) (w0:=w) w.heap.size rfl (.tmp 81) (.tmp 83) 108 3 (.int .i64 0) 8 rfl Try.underlying108 infoI rfl (by decide) (by omega) u2 (idl i) (i:Int) [.int .i64 (i:Int)] (fun _=>True) (fun _=>False) rfl rfl ?aP (fun _ hk=>hk.elim) ?aF ?aO ?aB ?aS ?aL ?_;(case aP=>exact rfl);(case aF=>exact fun _ _=>trivial);(case aO=>exact NT.out.R);(case aB=>exact NT.out.below);(case aS=>exact NT.out.below.size);(case aL=>have:=HN2.out;have:=HLT.out;rw [idl_len];omega);intro u14 w14 ho hb hg hat;rw [← idl_next] at ho;obtain⟨A14,c14,rfl⟩:=Kd.R_slice ho;replace B2:=Aside0.mk (blk_grown B2.out hg (Kd.R_ne NT.out.R B2.out (by decide)));have BK:=Aside0.mk (blk_grown NT.out.blk hg (Kd.R_ne NT.out.R NT.out.blk (by decide)));have HS:=Aside0.mk (S_over' NT.out.S (Kd.R_typed NT.out.R) (by decide) hg);have HRR:=Aside0.mk ho;have HB:=Aside0.mk hb;have HG6':=Aside0.mk NT.out.g;clear ho hb hg hat NT hcz2;have hs2:=cz_ BK 2;have hs2f:=blk_frozen BK.out 2))
      have NT:=Aside0.mk (Nt.basis HB.out HG6'.out BK.out HS.out HRR.out)
      go_roundg (n - (i+1))
      case measure=>have:=HG.out;have:=HLT.out;omega
      case rel=>
       have h1:=NT.out
       have e1:nRows n M cv Q (i+1)=L1:=by
        rw [nRows_next, ← HL1.out, ← HY.out]
        unfold nRow
        rw [if_pos HCV0.out,List.append_nil,HQI.out]
       rw [← e1] at h1
       exact⟨i+1,_,_,HLT.out,by omega,by first | rfl | (rw [HW.out]) | (simp [HW.out,w64 (x:=(i:Int)+1) (by omega) (by have:=HN2.out;have:=HLT.out;omega)]),⟨h1⟩,⟨(Below.heap_setCell w14 ⟨g6,2,none⟩ _ g2 (by simpa using HG26.out)).trans B2.out⟩⟩
      --END A
     ·have hcz:(0:Int) < (cv.length:Int):=by omega
      have HCV0:=Aside0.mk hcv0
      clear hcv0
      have hcvn:(i:Int) < (cv.length:Int):=by have:=HCV.out;have:=HCV0.out;have:=HLT.out;omega
      obtain⟨af,eA3,hx⟩:=Kd.at_int HC2.out (i:Int) (by omega) hcvn
      subst eA3
      rw [Int.toNat_natCast,rd_nat] at hx
      have hx':=(NR.out.below.cell (World.block_lt_of_cell? w _ hx)).trans hx
      obtain⟨x,hxx⟩: ∃x,cv.getD i 0=x:=⟨_,rfl⟩
      rw [hxx] at hx'
      have HCX:=Aside0.mk hxx
      clear hx hxx
      go_wp2_with (first | ((with_reducible refine gate_builtin (b:= .append) (xs:= #[.tmp 52, .tmp 58]) rfl ?_);at_builtin;refine Kd.R_append (Kd.int .i64) (w0:=w) w.heap.size rfl (.tmp 52) (.tmp 58) 23 2 (.int .i64 0) 8 rfl Try.underlying23 info2 rfl (by decide) (by omega) (.slice (some ⟨g8,0,none⟩) (2*n) c8) (bRow n i (M.getD i []) n) (wrap64 (- x)) [.int .i64 (wrap64 (- x))] (fun _=>True) (fun _=>False) rfl rfl ?aP (fun _ hk=>hk.elim) ?aF ?aO ?aB ?aS ?aL ?_;(case aP=>exact rfl);(case aF=>exact fun _ _=>trivial);(case aO=>exact NR.out.X);(case aB=>exact NR.out.below);(case aS=>exact NR.out.below.size);(case aL=>have:=HN2.out;rw [bRow_len];omega);intro v15 w15 ho hb hg hat;obtain⟨X1,hX1⟩: ∃X1,bRow n i (M.getD i []) n++ [wrap64 (- x)]=X1:=⟨_,rfl⟩;rw [hX1] at ho;have HX1:=Aside0.mk hX1;have HX1L:Aside0 (X1.length=2*n+1):=⟨(by rw [← hX1,List.length_append,bRow_len];rfl)⟩;obtain⟨A15,c15,rfl⟩:=Kd.R_slice ho;replace B2:=Aside0.mk (blk_grown B2.out hg (Kd.R_ne NR.out.X B2.out (by decide)));replace NR:=Aside0.mk (NR.out.grow hb hg hat ho);clear ho hb hg hat hX1 hx'))
      --TAIL B
      have hqi:(i:Int) < (Q.length:Int):=by rw [HQ.out];exact hltz
      obtain⟨aa,eA1,hx⟩:=Kd.at_int HC1.out (i:Int) (by omega) hqi
      subst eA1
      rw [Int.toNat_natCast,rd_nat] at hx
      obtain⟨q,hq⟩: ∃q,Q.getD i 0=q:=⟨_,rfl⟩
      rw [hq] at hx
      have HX:=Aside0.mk hx
      have HQI:=Aside0.mk hq
      clear hx hq
      replace NR:=Aside0.mk (NR.out.mv (below_drew (Below.refl w15.heap.size w15)))
      replace B2:=Aside0.mk (blk_below B2.out (below_drew (Below.refl w15.heap.size w15)))
      refine st_ (n:=18) (S:=fun w'=>w'.cell? ⟨g6,0,none⟩=some u0∧w'.cell? ⟨g2,1,none⟩=some (.slice (some aa) Q.length c1)∧w'.cell? (aa.add i)=some (.int .i64 q)) (ds:= [17]) ⟨(blk_cell (NR.out.blk) 0).trans rfl,(blk_cell (B2.out) 1).trans rfl,(Below.cell (NR.out.below) (World.block_lt_of_cell? w _ HX.out)).trans HX.out⟩ (fun hHeld=>?_)
      generalize w15.drew=w10 at NR B2 hHeld ⊢
      refine pu_ 0 60 ?_;refine pu_ 1 61 ?_;refine pu_ 2 62 ?_;refine pu_ 3 63 ?_;refine tk_ 4 64 ?_;refine pu_ 5 65 ?_;refine pu_ 6 66 ?_;refine tk_ 7 67 ?_;refine pu_ 8 68 ?_;refine pu_ 9 69 ?_;refine tk_ 10 70 ?_
      refine on_ 11 (some 71) (fun K hK=>?_)
      refine va_ ?_
      refine hK.out _ _ ⟨(blk_cell (blk_alloc NR.out.blk _) 0).trans rfl,(blk_cell (blk_alloc B2.out _) 1).trans rfl,(Below.cell (below_alloc_ NR.out.below _) (World.block_lt_of_cell? w _ HX.out)).trans HX.out⟩ (fun hHeld=>?_)
      clear hK K
      refine no_ ?_
      refine on_ 12 (some 72) (fun K hK=>?_)
      refine Kd.R_append_step (Kd.int .i64) (w0:=w) w.heap.size (by rfl) (.tmp 65) (.tmp 71) 23 2 (.int .i64 0) 8 rfl Try.underlying23 info2 rfl (by decide) (by omega) (.slice A15 X1.length c15) X1 q [.int .i64 q] (fun _=>True) (fun _=>False) rfl rfl rfl (fun _ hk=>hk.elim) (fun _ _=>trivial) NR.out.X NR.out.below NR.out.below.size ?aL ?_
      case aL=>have:=HN2.out;have:=HX1L.out;omega
      intro v11 w11 ho hb hg hat
      replace B2:=Aside0.mk (blk_grown B2.out hg (Kd.R_ne NR.out.X B2.out (by decide)))
      replace NR:=Aside0.mk (NR.out.grow hb hg hat ho)
      obtain⟨Y,hY⟩: ∃Y,X1++ [q]=Y:=⟨_,rfl⟩
      rw [hY] at NR
      have HY:=Aside0.mk hY
      clear ho hb hg hat hY hHeld
      obtain⟨A9,c9,rfl⟩:=Kd.R_slice NR.out.X
      refine hK.out _ _ ⟨(blk_cell (NR.out.blk) 0).trans rfl,(blk_cell (B2.out) 1).trans rfl,(Below.cell (NR.out.below) (World.block_lt_of_cell? w _ HX.out)).trans HX.out⟩ (fun hHeld=>?_)
      clear hK K
      refine nd_ 72 ?_
      refine on_ 13 (some 73) (fun K hK=>?_)
      refine va_ ?_
      refine hK.out _ _ ⟨(blk_cell (blk_alloc NR.out.blk _) 0).trans rfl,(blk_cell (blk_alloc B2.out _) 1).trans rfl,(Below.cell (below_alloc_ NR.out.below _) (World.block_lt_of_cell? w _ HX.out)).trans HX.out⟩ (fun hHeld=>?_)
      clear hK K
      refine no_ ?_
      have HA:=Aside0.mk (Kd.R_apart' NR.out.X (Kd.S_typed NR.out.S) (by decide))
      refine on_ 14 (some 74) (fun K hK=>?_)
      refine Kd.S_append_step (Kd.slice 2 (Kd.int .i64)) (w0:=w) w.heap.size (by rfl) (.tmp 64) (.tmp 73) 22 23 (.slice none 0 0) 24 rfl Try.underlying22 info23 rfl (by decide) (by omega) u0 (nRows n M cv Q i) Y [.slice A9 Y.length c9] (fun _=>True) (fun k=>some k=(.slice A9 Y.length c9:Value).ownBlock) rfl rfl (Kd.M_row (Kd.R_mono (Kd.R_tight rfl HA.out) (fun _ h=>h))) (fun k hk=>HA.out.1 k hk.symm) (fun _ _=>trivial) (Kd.S_mono NR.out.S (fun k hk=>⟨trivial,fun e=>hk.2 e⟩)) NR.out.below NR.out.below.size ?aL ?_
      case aL=>have:=HN2.out;have:=HLT.out;rw [nRows_len];omega
      intro u12 w12 ho hb hg hat
      replace B2:=Aside0.mk (blk_grown B2.out hg (Kd.S_ne NR.out.S B2.out (by decide)))
      have BK:=Aside0.mk (blk_grown NR.out.blk hg (Kd.S_ne NR.out.S NR.out.blk (by decide)))
      have HRR:=Aside0.mk (Kd.R_over' NR.out.R (Kd.S_typed NR.out.S) (by decide) hg)
      obtain⟨L1,hL1⟩: ∃L1,nRows n M cv Q i++ [Y]=L1:=⟨_,rfl⟩
      rw [hL1] at ho
      have HL1:=Aside0.mk hL1
      obtain⟨A12,c12,rfl⟩:=Kd.S_slice ho
      have HS:=Aside0.mk ho
      have HB:=Aside0.mk hb
      have HG6':=Aside0.mk NR.out.g
      clear ho hb hg hat hHeld HA NR hL1
      refine hK.out _ _ ⟨(blk_cell (BK.out) 0).trans rfl,(blk_cell (B2.out) 1).trans rfl,(Below.cell (HB.out) (World.block_lt_of_cell? w _ HX.out)).trans HX.out⟩ (fun hHeld=>?_)
      clear hK K
      refine nd_ 74 ?_
      refine pu_ 15 75 ?_;refine pu_ 16 76 ?_
      have hs0:=cz_ BK 0
      have hs0f:=blk_frozen BK.out 0
      refine la_ 17 none (fun K hK=>?_)
      refine skip_ (w1:=?_) (by rfl) rfl ?_ ?_
      rotate_left
      ·go_simp
       rfl
      refine hK.out _ _ ?_
      clear hK K hs0 hs0f
      refine done_ (by kernel_rfl) ?_
      have NT:=Aside0.mk (Nt.rows HB.out HG6'.out BK.out HS.out HRR.out)
      have hg26:g2≠g6:=fun e=>by have h1:=B2.out;have h2:=BK.out;rw [e,h2] at h1;injection h1 with h1;injection h1 with _ h3 _;revert h3;decide
      replace B2:=Aside0.mk ((Below.heap_setCell w12 ⟨g6,0,none⟩ (.slice A12 L1.length c12) g2 (by simpa using hg26)).trans B2.out)
      have HG26:=Aside0.mk hg26
      generalize w12.setCell ⟨g6,0,none⟩ (.slice A12 L1.length c12)=w13 at NT B2 ⊢
      clear HB HG6' BK HS HRR hg26 hHeld
      have hcz2:w13.cell? ⟨g6,2,none⟩=some u2:=(blk_cell NT.out.blk 2).trans rfl
      go_wp2_with (first | ((with_reducible refine gate_builtin (b:= .append) (xs:= #[.tmp 81, .tmp 83]) rfl ?_);at_builtin;refine Kd.R_append (Kd.int .i64) (w0:=w) w.heap.size rfl (.tmp 81) (.tmp 83) 108 3 (.int .i64 0) 8 rfl Try.underlying108 infoI rfl (by decide) (by omega) u2 (idl i) (i:Int) [.int .i64 (i:Int)] (fun _=>True) (fun _=>False) rfl rfl ?aP (fun _ hk=>hk.elim) ?aF ?aO ?aB ?aS ?aL ?_;(case aP=>exact rfl);(case aF=>exact fun _ _=>trivial);(case aO=>exact NT.out.R);(case aB=>exact NT.out.below);(case aS=>exact NT.out.below.size);(case aL=>have:=HN2.out;have:=HLT.out;rw [idl_len];omega);intro u14 w14 ho hb hg hat;rw [← idl_next] at ho;obtain⟨A14,c14,rfl⟩:=Kd.R_slice ho;replace B2:=Aside0.mk (blk_grown B2.out hg (Kd.R_ne NT.out.R B2.out (by decide)));have BK:=Aside0.mk (blk_grown NT.out.blk hg (Kd.R_ne NT.out.R NT.out.blk (by decide)));have HS:=Aside0.mk (S_over' NT.out.S (Kd.R_typed NT.out.R) (by decide) hg);have HRR:=Aside0.mk ho;have HB:=Aside0.mk hb;have HG6':=Aside0.mk NT.out.g;clear ho hb hg hat NT hcz2;have hs2:=cz_ BK 2;have hs2f:=blk_frozen BK.out 2))
      have NT:=Aside0.mk (Nt.basis HB.out HG6'.out BK.out HS.out HRR.out)
      go_roundg (n - (i+1))
      case measure=>have:=HG.out;have:=HLT.out;omega
      case rel=>
       have h1:=NT.out
       have e1:nRows n M cv Q (i+1)=L1:=by
        rw [nRows_next, ← HL1.out, ← HY.out]
        unfold nRow
        rw [if_neg HCV0.out,HCX.out,HX1.out,HQI.out]
       rw [← e1] at h1
       exact⟨i+1,_,_,HLT.out,by omega,by first | rfl | (rw [HW.out]) | (simp [HW.out,w64 (x:=(i:Int)+1) (by omega) (by have:=HN2.out;have:=HLT.out;omega)]),⟨h1⟩,⟨(Below.heap_setCell w14 ⟨g6,2,none⟩ _ g2 (by simpa using HG26.out)).trans B2.out⟩⟩
      --END B
  ·have hltz: ¬ (i:Int) < (n:Int):=by omega
   obtain rfl:n=i:=by omega
   go_wp2
   go_ret
   exact⟨_,rfl,NT.out.done (m:=m) (nRows_len _ _ _ _ _) (idl_len _) HN.out (by rw [HMM.out];omega) (by
    intro x hx
    obtain⟨r,_,rfl⟩:=List.mem_map.1 hx
    unfold nRow
    rw [List.length_append,List.length_append,bRow_len,HMM.out]
    split <;> rfl),NT.out.below⟩
end Go.Proofs.Ytmpkckiifeikkaa.Lq
end
section
namespace Go.Proofs.Ytmpkckiifeikkaa.Lq
open Go.RowKit Go.Proofs.YtmpkckiifeikkaaW.PrintWords Go.Proofs.YtmpkckiifeikkaaW.PrintLast Go.Proofs.YtmpkckiifeikkaaW.PrintMore Go.Proofs.Ytmpkckiifeikkaa.Pr Go.Proofs.Ytmpkckiifeikkaa.Ma Go.Proofs.Ytmpkckiifeikkaa.Dt Go.Proofs.Ytmpkckiifeikkaa.Lk Go.Proofs.Ytmpkckiifeikkaa.Lt
def Bnd (x:Int):Prop:= -1920000000≤x∧x≤1920000000
theorem prodB {x y:Int} (hx:Bnd x) (hy:Bnd y): -3686400000000000000≤x*y∧x*y≤3686400000000000000:=by
 have h:(x*y).natAbs≤1920000000*1920000000:=by
  rw [Int.natAbs_mul]
  exact Nat.mul_le_mul (by have:=hx.1;have:=hx.2;omega) (by have:=hy.1;have:=hy.2;omega)
 omega
theorem lc_eq {x y p q:Int} (hx:Bnd x) (hy:Bnd y) (hp:Bnd p) (hq:Bnd q):lc y x p q=sgI (p*y - q*x):=by
 have b1:=prodB hp hy
 have b2:=prodB hq hx
 unfold lc
 rw [w64 (x:=p*y) (by omega) (by omega),w64 (x:=q*x) (by omega) (by omega),w64 (by omega) (by omega)]
theorem cmp_kl {T:Mat} {i k:Nat} {x y:Int} (hx:Bnd x) (hy:Bnd y): ∀(l:List Nat),(∀c ∈ l,Bnd (T i c)∧Bnd (T k c))→decide (cmpL (lc y x) (l.map (fun c=>(T i c,T k c))) < 0)=kl T i k x y l
 | [],_=>rfl
 | c::l,h=>by
  have hc:=h c List.mem_cons_self
  have ih:=cmp_kl hx hy l (fun d hd=>h d (List.mem_cons_of_mem _ hd))
  simp only [List.map_cons,cmpL,kl]
  rw [lc_eq hx hy hc.1 hc.2]
  unfold sgI
  by_cases h1:T i c*y - T k c*x < 0
  ·rw [if_pos h1,if_neg (by decide),if_pos (by omega)];rfl
  ·rw [if_neg h1,if_neg (show ¬ T i c*y < T k c*x by omega)]
   by_cases h2:T i c*y - T k c*x > 0
   ·rw [if_pos h2,if_neg (by decide),if_pos (by omega)];rfl
   ·rw [if_neg h2,if_pos rfl,if_neg (show ¬ T k c*x < T i c*y by omega)]
    exact ih
theorem ilI_eq {T:Mat} {n m i k:Nat} {x y:Int} (hx:Bnd x) (hy:Bnd y) (hT: ∀a c,a < n→c < m→Bnd (T a c)) (hi:i < n) (hk:k < n) (hm:n < m):ilI T n m i k x y=kl T i k x y (cols n m):=by
 have e:((T i (m - 1)::rowN T i n).zip (T k (m - 1)::rowN T k n))=(cols n m).map (fun c=>(T i c,T k c)):=by
  unfold cols rowN
  rw [List.map_cons,List.zip_cons_cons,List.zip_map']
 unfold ilI
 rw [e]
 refine cmp_kl hx hy _ (fun c hc=>?_)
 have hcm:c < m:=by
  rcases List.mem_cons.1 hc with rfl | hc
  ·omega
  ·have:=List.mem_range.1 hc;omega
 exact⟨hT i c hi hcm,hT k c hk hcm⟩
theorem lst_congr {bf:Nat→Int} {f g:Nat→Nat→Bool} {n:Nat} (h: ∀i j,i < n→j < n→f i j=g i j): ∀(l:List Nat) (o:Option Nat),(∀i ∈ l,i < n)→(∀j,o=some j→j < n)→lst bf f l o=lst bf g l o
 | [],_,_,_=>rfl
 | i::l,o,hl,ho=>by
  have hi:=hl i List.mem_cons_self
  have e:bet f i o=bet g i o:=by
   cases o with
   | none=>rfl
   | some j=>exact h i j hi (ho j rfl)
  unfold lst
  rw [e]
  refine lst_congr h l _ (fun j hj=>hl j (List.mem_cons_of_mem _ hj)) (fun j hj=>?_)
  split at hj
  ·cases hj;exact hi
  ·exact ho j hj
theorem rowJ_eq {s:TS} {n m:Nat} {bf:Nat→Int} (hb: ∀i,i < n→Bnd (bf i)) (hT: ∀a c,a < n→c < m→Bnd (s.T a c)) (hm:n < m):rowJ s.T n m bf n=rowB n m s bf:=by
 unfold rowJ rowB
 exact lst_congr (n:=n) (fun i j hi hj=>ilI_eq (hb i hi) (hb j hj) hT hi hj hm) _ _ (fun i hi=>List.mem_range.1 hi) (fun j hj=>by cases hj)
theorem nRow_at {n i:Nat} {Mi cv:List Int} {q:Int} (hcv:cv.length≠0) (c:Nat) (hc:c < 2*n+2):(nRow n i Mi cv q).getD c 0=if c < n then(if c=i then 1 else 0) else if c < 2*n then wrap64 (- Mi.getD (c - n) 0) else if c=2*n then wrap64 (- cv.getD i 0) else q:=by
 unfold nRow
 rw [if_neg hcv,List.getD_eq_getElem?_getD,List.append_assoc,List.getElem?_append]
 rw [bRow_len]
 by_cases h1:c < 2*n
 ·rw [if_pos h1]
  unfold bRow
  rw [List.getElem?_map,List.getElem?_range h1]
  show (if c < n then(if c=i then(1:Int) else 0) else if c < n+n then wrap64 (- Mi.getD (c - n) 0) else 0)=_
  by_cases h2:c < n
  ·rw [if_pos h2,if_pos h2]
  ·rw [if_neg h2,if_neg h2,if_pos (by omega),if_pos h1]
 ·rw [if_neg h1,if_neg (show ¬ c < n by omega),if_neg h1]
  by_cases h2:c=2*n
  ·subst h2;simp
  ·rw [if_neg h2,show c - 2*n=1 from by omega];rfl
theorem first_at {n:Nat} {M:List (List Int)} {cv Q:List Int} (hcv:cv.length≠0) (hM: ∀i k,i < n→k < n→((enL M) i k).natAbs≤20) (hc: ∀i,i < n→(cv.getD i 0).natAbs≤20) (i c:Nat) (hi:i < n) (hcm:c < 2*n+2):
  enL (nRows n M cv Q n) i c=tab0 n (enL M) (fun i=>cv.getD i 0) (fun i=>Q.getD i 0) i c:=by
 have e:enL (nRows n M cv Q n) i c=(nRow n i (M.getD i []) cv (Q.getD i 0)).getD c 0:=by
  unfold enL nRows
  rw [List.getD_eq_getElem?_getD (l:=List.map _ _),List.getElem?_map,List.getElem?_range hi];rfl
 rw [e,nRow_at hcv c hcm]
 unfold tab0
 by_cases h1:c < n
 ·rw [if_pos h1,if_pos h1]
 ·rw [if_neg h1,if_neg h1]
  by_cases h2:c < 2*n
  ·rw [if_pos h2,if_pos h2]
   have:=hM i (c - n) hi (by omega)
   unfold enL at this
   exact w64 (by omega) (by omega)
  ·rw [if_neg h2,if_neg h2]
   by_cases h3:c=2*n
   ·rw [if_pos h3,if_pos h3]
    have:=hc i hi
    exact w64 (by omega) (by omega)
   ·rw [if_neg h3,if_neg h3]
theorem feas_eq {n:Nat} {Q:List Int} (hQ:Q.length=n):feas n (fun i=>Q.getD i 0)=!(Q.any (fun x=>decide (x < 0))):=by
 subst hQ
 unfold feas
 rw [Bool.eq_iff_iff]
 simp only [List.all_eq_true,List.mem_range,decide_eq_true_eq,Bool.not_eq_true',List.any_eq_false]
 constructor
 ·intro h x hx
  obtain⟨i,hi,rfl⟩:=List.mem_iff_getElem.1 hx
  have:=h i hi
  rw [List.getD_eq_getElem?_getD,List.getElem?_eq_getElem hi] at this
  simpa using this
 ·intro h i hi
  have:=h Q[i] (List.getElem_mem hi)
  rw [List.getD_eq_getElem?_getD,List.getElem?_eq_getElem hi]
  simpa using this
end Go.Proofs.Ytmpkckiifeikkaa.Lq
end
section
namespace Go.Proofs.Ytmpkckiifeikkaa.Pr
open Go.RowKit Go.Proofs.YtmpkckiifeikkaaW.PrintWords Go.Proofs.YtmpkckiifeikkaaW.PrintLast Go.Proofs.YtmpkckiifeikkaaW.PrintMore
def IntsPred (g:Nat) (lb:Array Value) (p:Int→Bool) (w:World) (l:List Int):Prop:=
 ∀(W:World) (x:Int),x ∈ l→Below w.heap.size w W→Calls Try.prog g (#[.int .i64 x]++lb) W fun e w'=>e= .returned (.bool (p x))∧Below W.heap.size W w'
theorem indexFuncInts (p:Int→Bool) (g:Nat) (lb:Array Value) (eg: ∀args w,(callFunc g args).run Try.prog w= .ok (.enter g args) w) (A:Option Addr) (c:Nat) (l:List Int) (w:World)
  (hr:Kd.C (Kd.int .i64) w A l.length l) (hp:IntsPred g lb p w l):
  Calls Try.prog 166 #[.slice A l.length c, .func (.func g) #[] lb] w fun e w'=>e= .returned (.int .i64 (idxP p l 0))∧Below w.heap.size w w':=by
 have HR:=Aside0.mk hr
 have HP:=Aside0.mk hp
 have hbig:l.length≤9223372036854775807:=hr.2.1
 clear hr hp
 go_enter Try.func166,Try.ntmps166
 go_wp2
 go_loopg [5,8] l.length (fun gg _ s8 wr=> ∃kk:Nat,kk≤l.length∧l.length - kk≤gg∧s8= .int .i64 kk∧Aside0 (Below w.heap.size w wr)∧Aside0 (∀j (hj:j < l.length),j < kk→p l[j]=false))
 case atStart=>exact⟨0,Nat.zero_le _,by omega,rfl,⟨Below.refl _ w⟩,⟨fun j _ hj=>absurd hj (Nat.not_lt_zero _)⟩⟩
 case round=>
  obtain⟨kk,hkk,hg,rfl,BW,F⟩:=hrel
  by_cases hlt:kk < l.length
  ·obtain⟨ad,e,hx⟩:=Kd.at_int HR.out kk (by omega) (by omega)
   cases e
   rw [Int.toNat_natCast] at hx
   have hx':=(BW.out.cell (World.block_lt_of_cell? w _ hx)).trans hx
   clear hx
   have hel:rd l (kk:Int)=l[kk]:=by simp [rd,hlt]
   have hcall:=HP.out wr l[kk] (List.getElem_mem hlt) BW.out
   rw [hel] at hx'
   clear hel
   have hltz:(kk:Int) < (l.length:Int):=by omega
   have h0z:(0:Int)≤(kk:Int):=by omega
   generalize hy:l[kk]=y at hx' hcall
   have HY:=Aside0.mk hy
   clear hy
   cases hq:p y with
   | true=>
    rw [hq] at hcall
    have HQ:=Aside0.mk hq
    clear hq
    go_wp2_with fail
    refine hcall.mono ?_
    rintro e w' ⟨rfl,hb'⟩
    clear hcall
    go_wp2
    go_ret
    refine⟨?_,Below.trans BW.out (hb'.mono BW.out.size)⟩
    rw [idxP_hit p l kk hlt F.out (by rw [HY.out];exact HQ.out)]
    rfl
   | false=>
    rw [hq] at hcall
    have HQ:=Aside0.mk hq
    clear hq
    go_wp2_with fail
    refine hcall.mono ?_
    rintro e w' ⟨rfl,hb'⟩
    clear hcall
    go_wp2
    go_roundg (l.length - (kk+1))
    case measure=>omega
    case rel=>
     refine⟨kk+1,by omega,by omega,by go_num,⟨Below.trans BW.out (hb'.mono BW.out.size)⟩,⟨fun j hj hjk=>?_⟩⟩
     by_cases e:j=kk
     ·subst e
      rw [HY.out];exact HQ.out
     ·exact F.out j hj (by omega)
  ·have hltz: ¬ (kk:Int) < (l.length:Int):=by omega
   obtain rfl:kk=l.length:=by omega
   go_wp2
   go_ret
   refine⟨?_,BW.out⟩
   rw [idxP_miss p l (fun i hi=>F.out i hi hi)]
   rfl
theorem containsFuncInts (p:Int→Bool) (g:Nat) (lb:Array Value) (eg: ∀args w,(callFunc g args).run Try.prog w= .ok (.enter g args) w) (A:Option Addr) (c:Nat) (l:List Int) (w:World)
  (hr:Kd.C (Kd.int .i64) w A l.length l) (hp:IntsPred g lb p w l):
  Calls Try.prog 115 #[.slice A l.length c, .func (.func g) #[] lb] w fun e w'=>e= .returned (.bool (l.any p))∧Below w.heap.size w w':=by
 rw [← idxP_nonneg p l 0 (Int.le_refl _)]
 have HR:=Aside0.mk hr
 have HP:=Aside0.mk hp
 clear hr hp
 go_enter Try.func115,Try.ntmps115
 go_wp2_with fail
 refine(indexFuncInts p g lb eg A c l _ HR.out HP.out).mono ?_
 rintro e w' ⟨rfl,hb'⟩
 go_wp2
 go_ret
 exact⟨rfl,hb'⟩
end Go.Proofs.Ytmpkckiifeikkaa.Pr
end
section
namespace Go.Proofs.Ytmpkckiifeikkaa.Pr
open Go.RowKit Go.Proofs.YtmpkckiifeikkaaW.PrintWords Go.Proofs.YtmpkckiifeikkaaW.PrintLast Go.Proofs.YtmpkckiifeikkaaW.PrintMore
def badN (n:Int):Bool:=decide (n < 0)
theorem isFeasible1 (n:Int) (w:World):Calls Try.prog 206 (#[.int .i64 n]++ #[]) w fun e w'=>e= .returned (.bool (badN n))∧Below w.heap.size w w':=by
 unfold badN
 show Calls Try.prog 206 #[.int .i64 n] w _
 go_enter Try.func206,Try.ntmps206
 go_wp2
 go_ret
 exact⟨rfl,Below.refl _ _⟩
theorem isFeasible1_enters: ∀args w,(callFunc 206 args).run Try.prog w= .ok (.enter 206 args) w:=enters_fn Try.func206 (by kernel_rfl) rfl
def impl_isFeasible.f (l0:List Int):Option Bool:=some (!(l0.any badN))
theorem impl_isFeasible.calls (A0:Option Addr) (c0:Nat) (l0:List Int) (r:Bool) (w:World) (hr0:Kd.C (Kd.int .i64) w A0 l0.length l0) (hc0:l0.length≤c0) (h:impl_isFeasible.f l0=some r):
  Calls Try.prog 187 #[.slice A0 l0.length c0] w fun e w'=>e= .returned (.bool r)∧Below w.heap.size w w':=by
 have HV:=Aside0.mk (Option.some.inj h)
 have hcall:=containsFuncInts badN 206 #[] isFeasible1_enters A0 c0 l0 w hr0 (fun W x _ _=>isFeasible1 x W)
 have HC:=Aside0.mk hcall
 clear hr0 hc0 h hcall
 generalize l0.any badN=b at HV HC
 go_enter Try.func187,Try.ntmps187
 go_wp2_with fail
 refine HC.out.mono ?_
 rintro e w' ⟨rfl,hb⟩
 go_wp2
 go_ret
 exact⟨by rw [← HV.out];rfl,hb⟩
end Go.Proofs.Ytmpkckiifeikkaa.Pr
end
section
namespace Go.Proofs.Ytmpkckiifeikkaa.Lq
open Go.RowKit Go.Proofs.YtmpkckiifeikkaaW.PrintWords Go.Proofs.YtmpkckiifeikkaaW.PrintLast Go.Proofs.YtmpkckiifeikkaaW.PrintMore Go.Proofs.Ytmpkckiifeikkaa.Pr Go.Proofs.Ytmpkckiifeikkaa.Ma Go.Proofs.Ytmpkckiifeikkaa.Dt Go.Proofs.Ytmpkckiifeikkaa.Lk Go.Proofs.Ytmpkckiifeikkaa.Lt
theorem run1 (A:Option Addr) (c:Nat) (cv:List Int) (p4 i:Nat) (hi:i < cv.length) (w:World) (h4:w.cell? ⟨p4,0,none⟩=some (.slice A cv.length c)) (hC:Kd.C (Kd.int .i64) w A cv.length cv):
  Calls Try.prog 189 (#[.int .i64 (i:Int)]++ #[.pointer (some ⟨p4,0,none⟩)]) w fun e w'=>e= .returned (.int .i64 (cv.getD i 0))∧Below w.heap.size w w':=by
 show Calls Try.prog 189 #[.int .i64 (i:Int), .pointer (some ⟨p4,0,none⟩)] w _
 obtain⟨ad,eA,hx⟩:=Kd.at_int hC (i:Int) (by omega) (by omega)
 subst eA
 rw [Int.toNat_natCast,rd_nat] at hx
 have hiz:(i:Int) < (cv.length:Int):=by omega
 have h0z:(0:Int)≤(i:Int):=by omega
 generalize cv.getD i 0=x at hx ⊢
 generalize cv.length=l at*
 clear hC hi
 go_enter Try.func189,Try.ntmps189
 go_wp2
 go_ret
 exact⟨rfl,Below.refl _ _⟩
theorem run1_enters: ∀args w,(callFunc 189 args).run Try.prog w= .ok (.enter 189 args) w:=enters_fn Try.func189 (by kernel_rfl) rfl
theorem S_type {α:Type} {d:Kd α} {e base g t:Nat} {ok:Nat→Prop} {W w1:World} {u:Value} {xs:List α} {cs:Array Value} (h:Kd.S d e W base ok u xs) (hg:W.heap[g]?=some (.cells cs t (0,0))) (ht: ∀q,q ∈ e::d.E→q≠t) (hs: ∀k,k≠g→w1.heap[k]?=W.heap[k]?):Kd.S d e w1 base ok u xs:=
 Kd.S_mono (Kd.S_step (Kd.S_bound h) (fun k hk hlt=>hs k (fun e1=>by
  obtain⟨_,_,_,q,hq,cells,hc⟩:=hk
  rw [e1,hg] at hc
  injection hc with h1
  injection h1 with _ h2 _
  exact ht q hq h2.symm))) (fun _ hk=>hk.1)
theorem S_out {α:Type} {d:Kd α} {e lo hi:Nat} {ok:Nat→Prop} {W w1:World} {u:Value} {xs:List α} (h:Kd.S d e W hi ok u xs) (F:Out W w1 lo hi):Kd.S d e w1 hi ok u xs:=
 Kd.S_mono (Kd.S_step (Kd.S_bound h) (fun k hk hlt=>F.same k hlt (.inr hk.2.1))) (fun _ hk=>hk.1)
theorem hset (w:World) (g j:Nat) (v:Value): ∀k,k≠g→(w.setCell ⟨g,j,none⟩ v).heap[k]?=w.heap[k]?:=fun k hk=>Below.heap_setCell w ⟨g,j,none⟩ v k (by simp;exact hk)
def goN (n m q:Nat) (s:TS) (v:Nat) (st:List (List Int)):Option Nat→TS × List (List Int) × Bool × Int × Int
 | none=>(s,st,false,(v:Int),0)
 | some r=>goI n m q s v r st
theorem S_own {α:Type} {d:Kd α} {e base N:Nat} {W:World} {u:Value} {xs:List α} (h:Kd.S d e W base (fun k=>k < N) u xs): ∀k,u.ownBlock=some k→k < N:=by
 obtain⟨f,h⟩:=h
 exact fun k hk=>h.1 k hk
theorem S_ne {α:Type} {d:Kd α} {e base g t:Nat} {ok:Nat→Prop} {W:World} {u:Value} {xs:List α} {cs:Array Value} (h:Kd.S d e W base ok u xs) (hg:W.heap[g]?=some (.cells cs t (0,0))) (ht:e≠t):some g≠u.ownBlock:=by
 obtain⟨f,h⟩:=h
 exact Kd.R_ne h hg ht
theorem Out.hi {w w':World} {b:Nat} (h:Below b w w'):Out w w' b w.heap.size:=⟨h.os,h.tape,h.output,h.size,fun k hk hn=>h.block k (by omega)⟩
def PlE (w0 w':World) (p n m:Nat) (s:TS) (st:List (List Int)) (solved:Bool) (ray code:Int):Prop:=
 ∃lo hi t u1,w0.heap.size≤lo∧lo≤hi∧hi≤p∧TmE w' lo hi t n m s∧w'.heap[p]?=some (.cells #[.pointer (some ⟨t,0,none⟩),u1, .bool solved, .int .i64 ray, .int .i64 code] 121 (0,0))∧Kd.S (Kd.slice 2 (Kd.int .i64)) 23 w' hi (fun _=>True) u1 st
theorem run_calls (A0:Option Addr) (c0:Nat) (M:List (List Int)) (A1:Option Addr) (c1:Nat) (Q:List Int) (A2:Option Addr) (c2:Nat) (cv:List Int) (most:Nat) (w:World) (n:Nat)
  (hC0:Kd.C (Kd.slice 2 (Kd.int .i64)) w A0 M.length M) (hC1:Kd.C (Kd.int .i64) w A1 Q.length Q) (hC2:Kd.C (Kd.int .i64) w A2 cv.length cv) (hc0:M.length≤c0) (hc1:Q.length≤c1) (hc2:cv.length≤c2) (hM:M.length=n) (hQ:Q.length=n) (hr: ∀x ∈ M,x.length=n) (hn:0 < n) (hn2:n≤5) (hcv:cv.length=n)
  (hMb: ∀i k,i < n→k < n→((enL M) i k).natAbs≤20) (hcb: ∀i,i < n→0 < cv.getD i 0∧cv.getD i 0≤20) (hqb: ∀i,i < n→(Q.getD i 0).natAbs≤100)
  (R:TS × List (List Int) × Bool × Int × Int) (hR:runI n (enL M) (fun i=>cv.getD i 0) (fun i=>Q.getD i 0) most=R):
  Calls Try.prog 153 #[.agg #[.slice A0 M.length c0, .slice A1 Q.length c1], .slice A2 cv.length c2, .int .i64 (most:Int)] w fun e w'=> ∃p,e= .returned (.pointer (some ⟨p,0,none⟩))∧PlE w w' p n (2*n+2) R.1 R.2.1 R.2.2.1 R.2.2.2.1 R.2.2.2.2∧Below w.heap.size w w':=by
 have HB:=Aside0.mk (Below.refl w.heap.size w)
 have HC0:=Aside0.mk hC0
 have HC1:=Aside0.mk hC1
 have HC2:=Aside0.mk hC2
 have HC1c:=Aside0.mk hc1
 have HM:=Aside0.mk hM
 have HQ:=Aside0.mk hQ
 have HR:=Aside0.mk hr
 have HN:=Aside0.mk hn
 have HN2:=Aside0.mk hn2
 have HCV:=Aside0.mk hcv
 have HMB:=Aside0.mk hMb
 have HCB:=Aside0.mk hcb
 have HQB:=Aside0.mk hqb
 have HRR:=Aside0.mk hR
 have HSM:=Aside0.mk (first_small (n:=n) (M:=enL M) (cv:=fun i=>cv.getD i 0) (q:=fun i=>Q.getD i 0) hMb (fun i hi=>by have:=hcb i hi;omega) hqb)
 clear hMb hcb hqb hR hC0 hC1 hC2 hM hQ hr hn hn2 hcv hc0 hc1 hc2
 go_enter Try.func153,Try.ntmps153
 go_wp2_with (first | ((with_reducible refine gate_dst (N:=3) rfl ?_);refine box_event ?hg (N:=3) ?hd (cs:= #[.slice A0 M.length c0, .slice A1 Q.length c1]) (t:=30) ?hr ?_;(case hd=>rfl);(case hg=>rfl);(case hr=>first | (go_simp;done) | (go_simp;rfl));intro g3 hg w3 hbox hb;replace HB:=Aside0.mk (below_step HB.out hb);have B3:=Aside0.mk hbox;clear hb hbox hg) | ((with_reducible refine gate_dst (N:=4) rfl ?_);refine box_event ?hg (N:=4) ?hd (cs:= #[.slice A2 cv.length c2]) (t:=23) ?hr ?_;(case hd=>rfl);(case hg=>rfl);(case hr=>first | (go_simp;done) | (go_simp;rfl));intro g4 hg w4 hbox hb;replace HB:=Aside0.mk (below_step HB.out hb);replace B3:=Aside0.mk (blk_below B3.out hb);have B4:=Aside0.mk hbox;clear hb hbox hg))
 replace HB:=Aside0.mk (below_step HB.out (below_drew (Below.refl w4.heap.size w4)))
 replace B3:=Aside0.mk (blk_below B3.out (below_drew (Below.refl w4.heap.size w4)))
 replace B4:=Aside0.mk (blk_below B4.out (below_drew (Below.refl w4.heap.size w4)))
 refine st_ (n:=9) (S:=fun w'=>w'.cell? ⟨g3,0,none⟩=some (.slice A0 M.length c0)∧w'.cell? ⟨g3,1,none⟩=some (.slice A1 Q.length c1)∧w'.cell? ⟨g4,0,none⟩=some (.slice A2 cv.length c2)) (ds:= []) ⟨cz_ B3 0,cz_ B3 1,cz_ B4 0⟩ (fun hHeld=>?_)
 generalize w4.drew=w5 at HB B3 B4 hHeld ⊢
 refine tk_ 0 11 ?_;refine tk_ 1 12 ?_;refine pu_ 3 14 ?_;refine tk_ 4 15 ?_
 refine on_ 2 (some 13) (fun K hK=>?_)
 refine ca_ Try.func186 #[.agg #[.slice A0 M.length c0, .slice A1 Q.length c1], .slice A2 cv.length c2] ?_
 refine(newTable_calls A0 c0 M A1 c1 Q A2 c2 cv w5 n (Kd.C_below HC0.out HB.out) (Kd.C_below HC1.out HB.out) (Kd.C_below HC2.out HB.out) HM.out HQ.out HR.out HN.out (by have:=HN2.out;omega) (.inr HCV.out) (2*n+2) (by rw [if_neg (by have:=HCV.out;have:=HN.out;omega)])).mono ?_
 rintro e w6 ⟨t,rfl,hT,hb⟩
 refine⟨_,rfl,?_⟩
 have HLO:Aside0 (w.heap.size≤w5.heap.size):=⟨HB.out.size⟩
 have HLH:Aside0 (w5.heap.size≤w6.heap.size):=⟨hb.size⟩
 obtain⟨g,gb,cg,cb,b,cp,hT⟩:=hT
 have HT:=Aside0.mk hT
 have HHI:=Aside0.mk (Nat.le_refl w6.heap.size)
 replace HB:=Aside0.mk (below_step HB.out hb)
 replace B3:=Aside0.mk (blk_below B3.out hb)
 replace B4:=Aside0.mk (blk_below B4.out hb)
 clear hT hb hHeld
 refine hK.out _ _ ⟨cz_ B3 0,cz_ B3 1,cz_ B4 0⟩ (fun hHeld=>?_)
 clear hK K
 refine no_ ?_
 obtain⟨fz,hfz⟩: ∃fz,(!(Q.any badN))=fz:=⟨_,rfl⟩
 have HFZ:=Aside0.mk hfz
 clear hfz
 refine on_ 5 (some 16) (fun K hK=>?_)
 refine ca_ Try.func187 #[.slice A1 Q.length c1] ?_
 refine(impl_isFeasible.calls A1 c1 Q fz w6 (Kd.C_below HC1.out HB.out) HC1c.out (by unfold impl_isFeasible.f;rw [HFZ.out])).mono ?_
 rintro e w7 ⟨rfl,hb⟩
 refine⟨_,rfl,?_⟩
 replace HB:=Aside0.mk (below_step HB.out hb)
 replace B3:=Aside0.mk (blk_below B3.out hb)
 replace B4:=Aside0.mk (blk_below B4.out hb)
 replace HT:=Aside0.mk (HT.out.mvB hb)
 replace HHI:=Aside0.mk (Nat.le_trans HHI.out hb.size)
 clear hb hHeld
 refine hK.out _ _ ⟨cz_ B3 0,cz_ B3 1,cz_ B4 0⟩ (fun hHeld=>?_)
 clear hK K
 refine no_ ?_
 refine pu_ 6 17 ?_
 refine on_ 7 (some 18) (fun K hK=>?_)
 refine box_step (by rfl) (N:=18) rfl (cs:= #[.pointer (some ⟨t,0,none⟩), .slice none 0 0, .bool fz, .int .i64 0, .int .i64 0]) (t:=121) (by first | (go_simp;done) | (go_simp;rfl)) ?_
 intro g7 hg w8 hbox hb
 have HG7:Aside0 (w6.heap.size≤g7):=⟨by rw [hg];exact HHI.out⟩
 have B7:=Aside0.mk hbox
 replace HB:=Aside0.mk (below_step HB.out hb)
 replace B3:=Aside0.mk (blk_below B3.out hb)
 replace B4:=Aside0.mk (blk_below B4.out hb)
 replace HT:=Aside0.mk (HT.out.mvB hb)
 clear hb hHeld hbox hg HHI
 refine hK.out _ _ ⟨cz_ B3 0,cz_ B3 1,cz_ B4 0⟩ (fun hHeld=>?_)
 clear hK K
 refine nd_ 18 ?_
 refine pu_ 8 7 ?_
 refine done_ (by kernel_rfl) ?_
 generalize w5.heap.size=lo at*
 generalize w6.heap.size=hi at*
 replace HT:=Aside0.mk (HT.out.congr (s':=first n (enL M) (fun i=>cv.getD i 0) (fun i=>Q.getD i 0)) (fun i j hi hj=>first_at (by have:=HCV.out;have:=HN.out;omega) HMB.out (fun i hi=>by have:=HCB.out i hi;omega) i j hi hj) rfl rfl)
 have HOK:=Aside0.mk (first_ok (n:=n) (M:=enL M) (cv:=fun i=>cv.getD i 0) (q:=fun i=>Q.getD i 0))
 obtain⟨s0,hs0⟩: ∃s0:TS,first n (enL M) (fun i=>cv.getD i 0) (fun i=>Q.getD i 0)=s0:=⟨_,rfl⟩
 rw [hs0] at HT HOK
 have HS0:=Aside0.mk hs0
 clear hs0 hHeld B3
 have hn2':=HN2.out
 have hw2:wrap64 (2*(n:Int))=2*(n:Int):=w64 (by omega) (by omega)
 have HW2:=Aside0.mk hw2
 clear hn2' hw2
 go_wp2
 replace HB:=Aside0.mk (below_step HB.out (below_drew (Below.refl w8.heap.size w8)))
 replace B7:=Aside0.mk (blk_below B7.out (below_drew (Below.refl w8.heap.size w8)))
 replace B4:=Aside0.mk (blk_below B4.out (below_drew (Below.refl w8.heap.size w8)))
 replace HT:=Aside0.mk (HT.out.mvB (below_drew (Below.refl w8.heap.size w8)))
 refine st_ (n:=16) (S:=fun w'=>w'.cell? ⟨g7,0,none⟩=some (.pointer (some ⟨t,0,none⟩))∧w'.cell? ⟨t,3,none⟩=some (.int .i64 (n:Int))) (ds:= []) ⟨cz_ B7 0,HT.out.h3⟩ (fun hHeld=>?_)
 generalize w8.drew=w9 at HB B7 B4 HT hHeld ⊢
 have hw2:=HW2.out
 refine pu_ 0 19 ?_;refine pu_ 1 20 ?_;refine pu_ 2 21 ?_;refine tk_ 3 22 ?_;refine pu_ 4 23 ?_;refine pu_ 5 24 ?_;refine tk_ 6 25 ?_;refine pu_ 7 26 ?_;refine pu_ 8 27 ?_;refine pu_ 9 28 ?_;refine pu_ 10 29 ?_;refine tk_ 11 30 ?_;refine pu_ 12 31 ?_
 refine on_ 13 (some 32) (fun K hK=>?_)
 refine ca_ Try.func188 #[.pointer (some ⟨t,0,none⟩), .func (.func 189) #[] #[.pointer (some ⟨g4,0,none⟩)]] ?_
 obtain⟨o0,ho0⟩: ∃o,rowJ s0.T n (2*n+2) (fun i=>cv.getD i 0) n=o:=⟨_,rfl⟩
 have aa:=Aside0.mk ho0
 refine(least_calls HT.out 189 #[.pointer (some ⟨g4,0,none⟩)] (fun i=>cv.getD i 0) run1_enters (fun W i hi hb=>run1 A2 c2 cv g4 i (by rw [HCV.out];exact hi) W ((blk_cell (blk_below B4.out hb) 0).trans rfl) (Kd.C_below HC2.out (below_step HB.out hb))) (by have:=HN2.out;omega) (by omega) (by have:=HN2.out;omega)).mono ?_
 rw [ho0]
 clear ho0
 rintro e w10 ⟨rfl,hb⟩
 refine⟨_,rfl,?_⟩
 replace HB:=Aside0.mk (below_step HB.out hb)
 replace B7:=Aside0.mk (blk_below B7.out hb)
 replace HT:=Aside0.mk (HT.out.mvB hb)
 clear hb hHeld B4
 refine hK.out _ _ ⟨cz_ B7 0,HT.out.h3⟩ (fun hHeld=>?_)
 clear hK K
 refine no_ ?_
 refine pu_ 14 8 ?_;refine pu_ 15 9 ?_
 refine done_ (by kernel_rfl) ?_
 clear hHeld hw2
 have HFE:=Aside0.mk ((feas_eq (n:=n) HQ.out).trans HFZ.out)
 have hmost:=HN2.out
 cases fz with
 | true=>
  have HRE:Aside0 (R=(s0, [],true,0,0)):=⟨by rw [← HRR.out];unfold runI;rw [if_pos HFE.out,HS0.out]⟩
  clear HRR hmost
  go_wp2
  go_loopg [8,9] 0 (fun gg _ _ wr=>Aside0 (Below w.heap.size w wr)∧Aside0 (Tm wr lo hi t g gb n (2*n+2) cg cb b cp s0)∧Aside0 (wr.heap[g7]?=some (.cells #[.pointer (some ⟨t,0,none⟩), .slice none 0 0, .bool true, .int .i64 0, .int .i64 0] 121 (0,0))))
  case atStart=>exact⟨HB,HT,B7⟩
  case round=>
   clear HB HT B7
   obtain⟨HB,HT,B7⟩:=hrel
   have hc1:=cz_ B7 1
   have hc2:=cz_ B7 2
   go_wp2
   go_ret
   refine⟨_,rfl,?_,HB.out⟩
   rw [HRE.out]
   exact⟨lo,hi,t,_,HLO.out,HLH.out,HG7.out,⟨g,gb,cg,cb,b,cp,HT.out⟩,B7.out,Kd.S_nil _ _ _ _ _⟩
 | false=>
  obtain⟨r0,hr0⟩: ∃r0,rowB n (2*n+2) s0 (fun i=>cv.getD i 0)=some r0:=by
   cases hq:rowB n (2*n+2) s0 (fun i=>cv.getD i 0) with
   | none=>
    have h1:=rowB_none hq 0 HN.out
    have h2:=(HCB.out 0 HN.out).1
    exact absurd h1 (by show ¬ cv.getD 0 0≤0;omega)
   | some r=>exact⟨r,rfl⟩
  have hrj:rowJ s0.T n (2*n+2) (fun i=>cv.getD i 0) n=some r0:=(rowJ_eq (fun i hi=>by have:=HCB.out i hi;exact⟨by show -1920000000≤cv.getD i 0;omega,by show cv.getD i 0≤1920000000;omega⟩) (fun a c ha hc=>HOK.out.abs HN2.out HSM.out ha hc) (by omega)).trans hr0
  have HR0:=Aside0.mk (rowB_some hr0)
  have HRE:Aside0 (goI n (2*n+2) most s0 (2*n) r0 []=R):=⟨by rw [← HRR.out];unfold runI;rw [if_neg (by rw [HFE.out];decide),HS0.out,hr0]⟩
  have HT0:Aside0 (s0.T r0 (2*n)≠0):=⟨by
   rw [← HS0.out]
   show tab0 n (enL M) (fun i=>cv.getD i 0) (fun i=>Q.getD i 0) r0 (2*n)≠0
   unfold tab0
   rw [if_neg (by omega),if_neg (by omega),if_pos rfl]
   have h2:=HR0.out.2
   show - cv.getD r0 0≠0
   have h3:0 < cv.getD r0 0:=h2
   omega⟩
  obtain rfl:o0=some r0:=by rw [← aa.out];exact hrj
  clear hr0 hrj HRR hmost
  simp only [encO,HW2.out]
  go_wp2
  go_loopg [8,9] most (fun gg v8 v9 wr=> ∃(v r:Nat) (s:TS) (st:List (List Int)) (u1:Value),v8= .int .i64 (v:Int)∧v9= .int .i64 (r:Int)∧Aside0 (st.length≤most∧st.length≤200∧most - st.length≤gg∧v+1 < 2*n+2∧r < n∧s.T r v≠0)∧Aside0 (Ok n (2*n+2) (tab0 n (enL M) (fun i=>cv.getD i 0) (fun i=>Q.getD i 0)) s)∧Aside0 (goI n (2*n+2) (most - st.length) s v r st=R)∧Aside0 (Below w.heap.size w wr)∧Aside0 (Tm wr lo hi t g gb n (2*n+2) cg cb b cp s)∧Aside0 (wr.heap[g7]?=some (.cells #[.pointer (some ⟨t,0,none⟩),u1, .bool false, .int .i64 0, .int .i64 0] 121 (0,0)))∧Aside0 (Kd.S (Kd.slice 2 (Kd.int .i64)) 23 wr hi (fun _=>True) u1 st))
  case atStart=>exact⟨2*n,r0,s0, [], .slice none 0 0,by first | rfl | simp,rfl,⟨by simp,by simp,by simp,by omega,HR0.out.1,HT0.out⟩,HOK,⟨HRE.out⟩,HB,HT,B7,⟨Kd.S_nil _ _ _ _ _⟩⟩
  case round=>
   clear HB HT B7 HOK HRE HT0 HR0
   obtain⟨v,r,s,st,u1,rfl,rfl,HA,HOK,HRE,HB,HT,B7,HS⟩:=hrel
   obtain⟨As,cs,rfl⟩:=Kd.S_slice HS.out
   have hc1:=cz_ B7 1
   have hc2:=cz_ B7 2
   by_cases hlm:st.length < most
   ·have hlz:(st.length:Int) < (most:Int):=by omega
    obtain⟨q,hq⟩: ∃q,most - st.length=q+1:=⟨most - st.length - 1,by omega⟩
    have hre:=HRE.out
    rw [hq] at hre
    have HRE2:=Aside0.mk hre
    have HQ1:=Aside0.mk hq
    clear hre hq hlm HRE
    by_cases h200:st.length=200
    ·have h2z:((st.length:Int)==200)=true:=by rw [h200];rfl
     have HRE3:Aside0 ((s,st,false,0,3)=R):=⟨by rw [← HRE2.out];unfold goI;rw [if_pos h200]⟩
     have hs4:=cz_ B7 4
     have hs4f:=blk_frozen B7.out 4
     clear h200 HRE2
     go_wp2
     go_ret
     refine⟨_,rfl,?_,HB.out.setCell (Nat.le_trans HLO.out (Nat.le_trans HLH.out HG7.out)) _⟩
     rw [← HRE3.out]
     exact⟨lo,hi,t,_,HLO.out,HLH.out,HG7.out,⟨g,gb,cg,cb,b,cp,HT.out.mv (Out.set _ (a:=g7) (b:=g7+1) _ _ ⟨Nat.le_refl _,Nat.lt_succ_self _⟩) (.inl HG7.out)⟩,blk_put B7.out 4 _ rfl,S_type HS.out B7.out (by decide) (hset _ _ _ _)⟩
    ·have h2z:((st.length:Int)==200)=false:=by simp;omega
     have h2n: ¬ (st.length:Int)=200:=by omega
     obtain⟨ha1,ha2,ha3,hv,hr,hp⟩:=HA.out
     have HV:=Aside0.mk hv
     have HR:=Aside0.mk hr
     have HP:=Aside0.mk hp
     have HL2:Aside0 (st.length < 200):=⟨by omega⟩
     obtain⟨l,hl⟩: ∃l:Nat,s.bs.getD r 0=(l:Int):=⟨(s.bs.getD r 0).toNat,by have:=HOK.out.nn r hr;omega⟩
     have HLV:=Aside0.mk hl
     have hstep:=step_calls HT.out v r hr (by omega) (by have:=HN2.out;omega) (by have:=HN2.out;omega) (by have:=(HOK.out.den_le HN2.out HSM.out).1;omega) (by have:=(HOK.out.abs HN2.out HSM.out hr (show v < 2*n+2 by omega)).1;omega) (by have:=(HOK.out.abs HN2.out HSM.out hr (show v < 2*n+2 by omega)).2;omega)
     rw [hl] at hstep
     have HSTEP:=Aside0.mk hstep
     clear hstep hl ha1 ha2 ha3 hv hr hp h200
     have hc0:=cz_ B7 0
     go_wp2_with fail
     refine HSTEP.out.mono ?_
     rintro e w11 ⟨rfl,hT',hO⟩
     replace HT:=Aside0.mk hT'
     replace HB:=Aside0.mk (hO.toBelow HB.out HLO.out)
     replace B7:=Aside0.mk (hO.blk B7.out (.inr HG7.out))
     replace HS:=Aside0.mk (S_out HS.out hO)
     clear hT' hO HSTEP hc0 hc1 hc2
     have HSO:=Aside0.mk (Kd.S_mono (Kd.S_bound HS.out) (fun k hk=>hk.2.2.1):Kd.S (Kd.slice 2 (Kd.int .i64)) 23 w11 hi (fun k=>k < w11.heap.size) (.slice As st.length cs) st)
     have HHW:Aside0 (hi≤w11.heap.size):=⟨HT.out.size⟩
     have HW11:=Aside0.mk (Below.refl w11.heap.size w11)
     obtain⟨st2,hst2⟩: ∃st2,st++ [[(v:Int),(l:Int)]]=st2:=⟨_,rfl⟩
     have HST2:=Aside0.mk hst2
     obtain⟨zb,hzb⟩: ∃zb,((l:Int)==2*(n:Int))=zb:=⟨_,rfl⟩
     have HZB:=Aside0.mk hzb
     clear HS hst2 hzb
     have hc1:=cz_ B7 1
     go_wp2_with (first | ((with_reducible refine gate_dst (N:=71) rfl ?_);refine Kd.R_lit (Kd.int .i64) (w0:=w11) w11.heap.size 2 ?hg (N:=71) ?hd (xs:= [(v:Int),(l:Int)]) (inner:= [.int .i64 (v:Int), .int .i64 (l:Int)]) (ok:=fun k=>w11.heap.size≤k) (okp:=fun k=>w11.heap.size≤k) ?hr ?hp (fun _ hk=>hk) (Nat.le_refl _) (Below.refl _ _) (Nat.le_refl _) (by simp) ?_;(case hd=>rfl);(case hg=>rfl);(case hr=>first | (go_simp;done) | (go_simp;rfl));(case hp=>exact Reps.one rfl (Reps.one rfl (Reps.none _ _)));intro v71 w12 hr hb hg_ hat_;clear hg_ hat_;have HR71:=Aside0.mk (Kd.R_lower hr HHW.out);replace HB:=Aside0.mk (below_step HB.out hb);replace B7:=Aside0.mk (blk_below B7.out hb);replace HT:=Aside0.mk (HT.out.mvB hb);replace HSO:=Aside0.mk (Kd.S_below HSO.out hb);replace HW11:=Aside0.mk hb;clear hr hb hc1;obtain⟨A71,c71,e71⟩:=Kd.R_slice HR71.out;subst e71) | ((with_reducible refine gate_builtin (b:= .append) (xs:= #[.tmp 68, .tmp 72]) rfl ?_);at_builtin;refine Kd.S_append (Kd.slice 2 (Kd.int .i64)) (w0:=w12) hi rfl (.tmp 68) (.tmp 72) 22 23 (.slice none 0 0) 24 rfl Try.underlying22 info23 rfl (by decide) (by omega) (.slice As st.length cs) st [(v:Int),(l:Int)] [.slice A71 [(v:Int),(l:Int)].length c71] (fun _=>True) (fun k=>w11.heap.size≤k) rfl rfl ?aP ?aQ ?aF ?aO (Below.refl _ _) ?aS ?aL ?_;(case aP=>exact Kd.M_row HR71.out);(case aQ=>exact fun k hk=>⟨trivial,fun e=>Nat.lt_irrefl _ (Nat.lt_of_lt_of_le (S_own HSO.out k e.symm) hk)⟩);(case aF=>exact fun _ _=>trivial);(case aO=>exact Kd.S_mono HSO.out (fun k hk=>⟨trivial,fun q=>Nat.lt_irrefl _ (Nat.lt_of_lt_of_le hk q)⟩));(case aS=>exact HT.out.size);(case aL=>have:=HL2.out;omega);intro v1 w13 hs hb hg hat;replace B7:=Aside0.mk (blk_grown B7.out hg (S_ne HSO.out B7.out (by decide)));rw [HST2.out] at hs;have HS:=Aside0.mk hs;replace HT:=Aside0.mk (HT.out.mv (Out.hi hb) (.inl (Nat.le_refl _)));replace HB:=Aside0.mk ((Out.hi hb).toBelow HB.out (Nat.le_trans HLO.out HLH.out));clear hs hb hg hat HSO HW11 HR71;obtain⟨A9,c9,e9⟩:=Kd.S_slice HS.out;subst e9;have hc1:=cz_ B7 1;have hs1f:=blk_frozen B7.out 1;have hc2:=cz_ B7 2;have hs2f:=blk_frozen B7.out 2;have hcn:=HT.out.h3;have hc0:=cz_ B7 0;have hne1:=(Nat.ne_of_lt (Nat.lt_of_lt_of_le HT.out.tR.2 HG7.out));have hne2:=(Nat.ne_of_gt (Nat.lt_of_lt_of_le HT.out.tR.2 HG7.out));have hw2:=HW2.out;have hzb:=HZB.out))
     ·rename_i hz
      have HZ:=Aside0.mk (HZB.out.trans hz)
      go_ret
      have B7a:=Aside0.mk (blk_put B7.out 1 (.slice A9 st2.length c9) rfl)
      refine⟨_,rfl,?_,(HB.out.setCell (Nat.le_trans HLO.out (Nat.le_trans HLH.out HG7.out)) _).setCell (Nat.le_trans HLO.out (Nat.le_trans HLH.out HG7.out)) _⟩
      have hl2:s.bs.getD r 0=2*(n:Int):=by rw [HLV.out];exact eq_of_beq HZ.out
      rw [← HRE2.out]
      unfold goI
      rw [if_neg (by have:=HL2.out;omega),if_pos hl2,HLV.out,HST2.out]
      exact⟨lo,hi,t,_,HLO.out,HLH.out,HG7.out,⟨g,gb,cg,cb,b,cp,(HT.out.mv (Out.set _ (a:=g7) (b:=g7+1) _ _ ⟨Nat.le_refl _,Nat.lt_succ_self _⟩) (.inl HG7.out)).mv (Out.set _ (a:=g7) (b:=g7+1) _ _ ⟨Nat.le_refl _,Nat.lt_succ_self _⟩) (.inl HG7.out)⟩,blk_put B7a.out 2 _ rfl,S_type (S_type HS.out B7.out (by decide) (hset _ _ _ _)) B7a.out (by decide) (hset _ _ _ _)⟩
     ·have hz:zb=false:=by assumption
      have HZ:=Aside0.mk (HZB.out.trans hz)
      have hl2: ¬ s.bs.getD r 0=2*(n:Int):=by rw [HLV.out];intro e;have:=HZ.out;rw [e] at this;simp at this
      have HL3:=Aside0.mk hl2
      replace HS:=Aside0.mk (S_type HS.out B7.out (by decide) (hset w13 g7 1 (.slice A9 st2.length c9)))
      replace HT:=Aside0.mk (HT.out.mv (Out.set w13 (a:=g7) (b:=g7+1) 1 (.slice A9 st2.length c9) ⟨Nat.le_refl _,Nat.lt_succ_self _⟩) (.inl HG7.out))
      replace HB:=Aside0.mk (HB.out.setCell (p:=⟨g7,1,none⟩) (Nat.le_trans HLO.out (Nat.le_trans HLH.out HG7.out)) (.slice A9 st2.length c9))
      replace B7:=Aside0.mk (blk_put B7.out 1 (.slice A9 st2.length c9) rfl)
      clear hl2 hz hzb hc0 hc1 hc2 hs1f hs2f hcn hne1 hne2
      generalize w13.setCell ⟨g7,1,none⟩ (.slice A9 st2.length c9)=w14 at HT HS HB B7 ⊢
      have hll:l < 2*n:=by have h1:=HOK.out.lt r HR.out;have h2:=HL3.out;rw [HLV.out] at h1 h2;simp only [Int.toNat_natCast] at h1;omega
      have hll2:partner n l < 2*n:=by unfold partner;split <;> omega
      obtain⟨v2,hv2⟩: ∃v2,partner n l=v2:=⟨_,rfl⟩
      have HV2B:Aside0 (v2 < 2*n):=⟨by rw [← hv2];exact hll2⟩
      have HV2:=Aside0.mk hv2
      clear hll2
      refine(partner_calls HT.out l (by have:=HN2.out;omega) hll).mono ?_
      rw [hv2]
      clear hv2 hll
      rintro e w15 ⟨rfl,hb⟩
      replace HB:=Aside0.mk (below_step HB.out hb)
      replace B7:=Aside0.mk (blk_below B7.out hb)
      replace HT:=Aside0.mk (HT.out.mvB hb)
      replace HS:=Aside0.mk (Kd.S_below HS.out hb)
      clear hb
      have HOK2:=Aside0.mk (HOK.out.step HN2.out HSM.out HR.out HV.out HP.out)
      obtain⟨s2,hs2⟩: ∃s2,s.step r v=s2:=⟨_,rfl⟩
      rw [hs2] at HT HOK2
      have HS2:=Aside0.mk hs2
      clear hs2
      obtain⟨o,ho⟩: ∃o,rowJ s2.T n (2*n+2) (fun i=>s2.T i v2) n=o:=⟨_,rfl⟩
      have HO:=Aside0.mk ho
      clear ho
      have HRJ:=Aside0.mk ((rowJ_eq (s:=s2) (bf:=fun i=>s2.T i v2) (fun i hi=>HOK2.out.abs HN2.out HSM.out hi (by have:=HV2B.out;omega)) (fun a c ha hc=>HOK2.out.abs HN2.out HSM.out ha hc) (by omega)).symm.trans HO.out)
      have HGO:Aside0 (goN n (2*n+2) q s2 v2 st2 o=R):=⟨by
       rw [← HRE2.out]
       conv=>rhs;unfold goI
       rw [if_neg (by have:=HL2.out;omega),if_neg HL3.out,HLV.out,HST2.out,HS2.out,Int.toNat_natCast,HV2.out]
       have e:=HRJ.out
       rw [e]
       cases o <;> rfl⟩
      have hc0:=cz_ B7 0
      go_wp2_with fail
      refine(enterBy_calls HT.out v2 (by have:=HN2.out;omega) (by have:=HN.out;omega) (by have:=HN2.out;omega) (by have:=HV2B.out;omega)).mono ?_
      rw [HO.out]
      rintro e w16 ⟨rfl,hb⟩
      replace HB:=Aside0.mk (below_step HB.out hb)
      replace B7:=Aside0.mk (blk_below B7.out hb)
      replace HT:=Aside0.mk (HT.out.mvB hb)
      replace HS:=Aside0.mk (Kd.S_below HS.out hb)
      clear hb hc0
      cases o with
      | none=>
       simp only [encO]
       have hc3:=cz_ B7 3
       have hs3f:=blk_frozen B7.out 3
       go_wp2
       go_ret
       refine⟨_,rfl,?_,HB.out.setCell (Nat.le_trans HLO.out (Nat.le_trans HLH.out HG7.out)) _⟩
       rw [← HGO.out]
       exact⟨lo,hi,t,_,HLO.out,HLH.out,HG7.out,⟨g,gb,cg,cb,b,cp,HT.out.mv (Out.set _ (a:=g7) (b:=g7+1) _ _ ⟨Nat.le_refl _,Nat.lt_succ_self _⟩) (.inl HG7.out)⟩,blk_put B7.out 3 _ rfl,S_type HS.out B7.out (by decide) (hset _ _ _ _)⟩
      | some r2=>
       simp only [encO]
       have hr20: ¬ (r2:Int) < 0:=by omega
       have HRB:=Aside0.mk (rowB_some HRJ.out)
       go_wp2
       go_roundg q
       case measure=>have h1:=HA.out.2.2.1;have h2:=HQ1.out;omega
       case rel=>
        have hlen:st2.length=st.length+1:=by rw [← HST2.out];simp
        have hq:most - st2.length=q:=by have h2:=HQ1.out;omega
        exact⟨v2,r2,s2,st2,_,rfl,rfl,⟨by have h2:=HQ1.out;omega,by have h2:=HL2.out;omega,by omega,by have h2:=HV2B.out;omega,HRB.out.1,by have h3:=HRB.out.2;omega⟩,HOK2,⟨by rw [hq];exact HGO.out⟩,HB,HT,B7,HS⟩
   ·have hlz: ¬ (st.length:Int) < (most:Int):=by omega
    have e0:most - st.length=0:=by omega
    have hre:=HRE.out
    rw [e0] at hre
    have HRE2:Aside0 ((s,st,false,0,0)=R):=⟨hre⟩
    clear hre HRE hlm
    go_wp2
    go_ret
    refine⟨_,rfl,?_,HB.out⟩
    rw [← HRE2.out]
    exact⟨lo,hi,t,_,HLO.out,HLH.out,HG7.out,⟨g,gb,cg,cb,b,cp,HT.out⟩,B7.out,HS.out⟩
theorem PlE.mv {w0 w w':World} {p n m:Nat} {s:TS} {st:List (List Int)} {solved:Bool} {ray code:Int} (h:PlE w0 w p n m s st solved ray code) (hb:Below w.heap.size w w'):PlE w0 w' p n m s st solved ray code:=by
 obtain⟨lo,hi,t,u1,h1,h2,h3,⟨g,gb,cg,cb,b,cp,hT⟩,hB,hS⟩:=h
 exact⟨lo,hi,t,u1,h1,h2,h3,⟨g,gb,cg,cb,b,cp,hT.mvB hb⟩,blk_below hB hb,Kd.S_below hS hb⟩
theorem PlE.base {w0 w1 w:World} {p n m:Nat} {s:TS} {st:List (List Int)} {solved:Bool} {ray code:Int} (h:PlE w1 w p n m s st solved ray code) (hb:w0.heap.size≤w1.heap.size):PlE w0 w p n m s st solved ray code:=by
 obtain⟨lo,hi,t,u1,h1,h2⟩:=h
 exact⟨lo,hi,t,u1,Nat.le_trans hb h1,h2⟩
end Go.Proofs.Ytmpkckiifeikkaa.Lq
end
section
namespace Go.Proofs.Ytmpkckiifeikkaa.Un
open Go.RowKit Go.Proofs.YtmpkckiifeikkaaW.PrintWords Go.Proofs.YtmpkckiifeikkaaW.PrintMore Go.Proofs.Ytmpkckiifeikkaa.Ma Go.Proofs.Ytmpkckiifeikkaa.Dt Go.Proofs.Ytmpkckiifeikkaa.Bz
end Go.Proofs.Ytmpkckiifeikkaa.Un
end
section
namespace Go.Proofs.Ytmpkckiifeikkaa.Pr
open Go.RowKit Go.Proofs.YtmpkckiifeikkaaW.PrintWords Go.Proofs.YtmpkckiifeikkaaW.PrintLast Go.Proofs.YtmpkckiifeikkaaW.PrintMore
attribute [local go_sem] max2_int min2_int max_two min_two max_three min_three max_four min_four
end Go.Proofs.Ytmpkckiifeikkaa.Pr
end
section
namespace Go.Proofs.Ytmpkckiifeikkaa.Cz
open Go.RowKit Go.Proofs.YtmpkckiifeikkaaW.PrintWords Go.Proofs.YtmpkckiifeikkaaW.PrintMore Go.Proofs.Ytmpkckiifeikkaa.Ma Go.Proofs.Ytmpkckiifeikkaa.Pr Go.Proofs.Ytmpkckiifeikkaa.Dt Go.Proofs.Ytmpkckiifeikkaa.Bz Go.Proofs.Ytmpkckiifeikkaa.Un
def en (l:List (List Int)):Mat:=fun i j=>(l.getD i []).getD j 0
structure Sq (n:Nat) (l:List (List Int)):Prop where
 len:l.length=n
 row: ∀i,i < n→(l.getD i []).length=n
 num: ∀i j,i < n→j < n→(en l i j).natAbs≤20
theorem rdL1 (l:List (List Int)) (i:Nat):rd_L1 l (i:Int)=l.getD i []:=by simp [rd_L1]
def rw1 (m:Nat) (f:Nat→Int):List Int:=(List.range m).map f
def mk (r m:Nat) (f:Nat→Nat→Int):List (List Int):=(List.range r).map fun i=>rw1 m (f i)
section
variable {n:Nat} {l:List (List Int)} (h:Sq n l) (hn:n≤5) (s:Int)
include h hn
end
end Go.Proofs.Ytmpkckiifeikkaa.Cz
end
section
namespace Go.Proofs.Ytmpkckiifeikkaa.Pr
open Go.RowKit Go.Proofs.YtmpkckiifeikkaaW.PrintWords Go.Proofs.YtmpkckiifeikkaaW.PrintLast Go.Proofs.YtmpkckiifeikkaaW.PrintMore
attribute [local go_sem] max2_int min2_int max_two min_two max_three min_three max_four min_four
mutual
def spec_l01Matrix.j0:Nat→List (List Int)→Int→Bool→Option (Bool)
 | 0,_,_,_=>none
 | k+1,x0,x3,x13=>if x13=true then(some false) else(spec_l01Matrix.l0 k x0 x3 0)
def spec_l01Matrix.l0:Nat→List (List Int)→Int→Int→Option (Bool)
 | 0,_,_,_=>none
 | k+1,x0,x3,x4=>if x4 < x3 then(if 0≤x4 then(if x4 < (x0.length:Int) then(if((rd_L1 x0 x4).length:Int)=x3 then(spec_l01Matrix.l1 k x0 x3 x4 0) else(some false)) else(none)) else(none)) else(some true)
def spec_l01Matrix.l1:Nat→List (List Int)→Int→Int→Int→Option (Bool)
 | 0,_,_,_,_=>none
 | k+1,x0,x3,x4,x5=>if x5 < x3 then(if 0≤x4 then(if x4 < (x0.length:Int) then(if 0≤x5 then(if x5 < ((rd_L1 x0 x4).length:Int) then((spec_l01In.f (rd (rd_L1 x0 x4) x5) (-20) 20).bind fun aa=>(if aa=true then(spec_l01Matrix.l1 k x0 x3 x4 (wrap64 (x5+1))) else(some false))) else(none)) else(none)) else(none)) else(none)) else(spec_l01Matrix.l0 k x0 x3 (wrap64 (x4+1)))
end
def spec_l01Matrix.f (k:Nat) (l0:List (List Int)):Option (Bool):=if(l0.length:Int) < 1 then(spec_l01Matrix.j0 k l0 (l0.length:Int) true) else(spec_l01Matrix.j0 k l0 (l0.length:Int) (decide ((l0.length:Int) > 5)))
theorem spec_l01Matrix.mono_l: ∀k,(∀y0 y1 y2,LeO (spec_l01Matrix.j0 k y0 y1 y2) (spec_l01Matrix.j0 (k+1) y0 y1 y2))∧(∀y0 y1 y2,LeO (spec_l01Matrix.l0 k y0 y1 y2) (spec_l01Matrix.l0 (k+1) y0 y1 y2))∧(∀y0 y1 y2 y3,LeO (spec_l01Matrix.l1 k y0 y1 y2 y3) (spec_l01Matrix.l1 (k+1) y0 y1 y2 y3))
 | 0=>⟨fun _ _ _ r h=>by simp [spec_l01Matrix.j0] at h,fun _ _ _ r h=>by simp [spec_l01Matrix.l0] at h,fun _ _ _ _ r h=>by simp [spec_l01Matrix.l1] at h⟩
 | k+1=>by
  obtain⟨ih0,ih1,ih2⟩:=spec_l01Matrix.mono_l k
  refine⟨?_,?_,?_⟩
  ·intro y0 y1 y2
   unfold spec_l01Matrix.j0
   repeat' first
   | (with_reducible exact ih0 _ _ _)
   | (with_reducible exact ih1 _ _ _)
   | (with_reducible exact ih2 _ _ _ _)
   | (with_reducible exact LeO.refl _)
   | (with_reducible exact LeO.none _)
   | (with_reducible refine LeO.ite ?_ ?_)
   | (with_reducible refine LeO.bind ?_ (fun _=>?_))
   | exact ih0 _ _ _
   | exact ih1 _ _ _
   | exact ih2 _ _ _ _
   | exact LeO.none _
   | refine LeO.ite ?_ ?_
   | refine LeO.bind ?_ (fun _=>?_)
  ·intro y0 y1 y2
   unfold spec_l01Matrix.l0
   repeat' first
   | (with_reducible exact ih0 _ _ _)
   | (with_reducible exact ih1 _ _ _)
   | (with_reducible exact ih2 _ _ _ _)
   | (with_reducible exact LeO.refl _)
   | (with_reducible exact LeO.none _)
   | (with_reducible refine LeO.ite ?_ ?_)
   | (with_reducible refine LeO.bind ?_ (fun _=>?_))
   | exact ih0 _ _ _
   | exact ih1 _ _ _
   | exact ih2 _ _ _ _
   | exact LeO.none _
   | refine LeO.ite ?_ ?_
   | refine LeO.bind ?_ (fun _=>?_)
  ·intro y0 y1 y2 y3
   unfold spec_l01Matrix.l1
   repeat' first
   | (with_reducible exact ih0 _ _ _)
   | (with_reducible exact ih1 _ _ _)
   | (with_reducible exact ih2 _ _ _ _)
   | (with_reducible exact LeO.refl _)
   | (with_reducible exact LeO.none _)
   | (with_reducible refine LeO.ite ?_ ?_)
   | (with_reducible refine LeO.bind ?_ (fun _=>?_))
   | exact ih0 _ _ _
   | exact ih1 _ _ _
   | exact ih2 _ _ _ _
   | exact LeO.none _
   | refine LeO.ite ?_ ?_
   | refine LeO.bind ?_ (fun _=>?_)
theorem spec_l01Matrix.mono: ∀a0 k,LeO (spec_l01Matrix.f k a0) (spec_l01Matrix.f (k+1) a0):=by
 intro a0 k
 obtain⟨ih0,ih1,ih2⟩:=spec_l01Matrix.mono_l k
 unfold spec_l01Matrix.f
 repeat' first
   | (with_reducible exact ih0 _ _ _)
   | (with_reducible exact ih1 _ _ _)
   | (with_reducible exact ih2 _ _ _ _)
   | (with_reducible exact LeO.refl _)
   | (with_reducible exact LeO.none _)
   | (with_reducible refine LeO.ite ?_ ?_)
   | (with_reducible refine LeO.bind ?_ (fun _=>?_))
   | exact ih0 _ _ _
   | exact ih1 _ _ _
   | exact ih2 _ _ _ _
   | exact LeO.none _
   | refine LeO.ite ?_ ?_
   | refine LeO.bind ?_ (fun _=>?_)
theorem spec_l01Matrix.calls (k:Nat) (A0:Option Addr) (c0:Nat) (l0:List (List Int)) (r:Bool) (w:World) (hr0:Kd.C (Kd.slice 2 (Kd.int .i64)) w A0 l0.length l0) (hc0:l0.length≤c0) (h:spec_l01Matrix.f k l0=some r):
  Calls Try.prog 167 #[.slice A0 l0.length c0] w fun e w'=>e= .returned (.bool r)∧Drawn0 w w':=by
 have HR0:=Aside0.mk hr0
 have HC0:=Aside0.mk hc0
 clear hr0 hc0
 have H:(if(l0.length:Int) < 1 then(spec_l01Matrix.j0 k l0 (l0.length:Int) true) else(spec_l01Matrix.j0 k l0 (l0.length:Int) (decide ((l0.length:Int) > 5))))=some r:=h
 clear h
 have HC2:=Aside0.mk H
 clear H
 go_enter Try.func167,Try.ntmps167
 go_upto_region 2 with (fail)
 go_cut [13] (fun v13 wc=> ∃(kq:Nat) (af:Bool),v13= .bool af∧Aside0 (spec_l01Matrix.j0 kq l0 (l0.length:Int) af=some r)∧Aside0 (kq≤k)∧Drawn0 w wc)
 case first=>
  have H:=HC2.out
  clear HC2
  by_cases c3:(l0.length:Int) < 1
  ·rw [if_pos c3] at H
   have c3b0:decide ((l0.length:Int) < 1)=true:=decide_eq_true c3
   have c3b1:decide (l0.length < 1)=true:=decide_eq_true (by omega)
   clear c3
   (first | rw [c3b0] | (simp only [i64_w,i32_w];rw [c3b0]) | skip)
   have H':=Aside0.mk H
   clear H
   go_wp2
   go_meet
   case rel=>exact⟨_,(true),(by first | rfl | (simp;done) | (simp [*];done)),H',⟨by first | omega | exact Nat.le_refl _⟩,by repeat (first | exact Drawn0.refl _ | apply Drawn0.step)⟩
  ·rw [if_neg c3] at H
   have c3b0:decide ((l0.length:Int) < 1)=false:=decide_eq_false c3
   have c3b1:decide (l0.length < 1)=false:=decide_eq_false (by omega)
   clear c3
   (first | rw [c3b0] | (simp only [i64_w,i32_w];rw [c3b0]) | skip)
   have H':=Aside0.mk H
   clear H
   go_wp2
   go_meet
   case rel=>exact⟨_,(decide ((l0.length:Int) > 5)),(by first | rfl | (simp;done) | (simp [*];done)),H',⟨by first | omega | exact Nat.le_refl _⟩,by repeat (first | exact Drawn0.refl _ | apply Drawn0.step)⟩
 case rest=>
  clear HC2
  try clear c1
  try clear p2
  try clear c3
  try clear c3b0
  try clear c3b1
  obtain⟨kq,af,rfl,HA,HJ1,⟨mc1,rfl⟩⟩:=hcut
  cases kq with
  | zero=>exact absurd HA.out (by simp [spec_l01Matrix.j0])
  | succ kj1=>
   have H:=HA.out
   clear HA
   simp only [spec_l01Matrix.j0] at H
   by_cases c4:af=true
   ·subst c4
    have H1:(some false)=some r:=by rw [if_pos rfl] at H;exact H
    clear H
    have H:=H1
    clear H1
    obtain rfl:=Option.some.inj H
    go_wp2
    go_ret
    exact⟨by first | rfl | (simp;done) | (simp [*];done),by repeat (first | exact Drawn0.refl _ | apply Drawn0.step)⟩
   ·replace c4:=Bool.eq_false_iff.mpr c4
    subst c4
    have H1:(spec_l01Matrix.l0 kj1 l0 (l0.length:Int) 0)=some r:=by rw [if_neg (show ¬ (false=true) by decide)] at H;exact H
    clear H
    have H:=H1
    clear H1
    have H':=Aside0.mk H
    clear H
    go_wp2
    go_loopg [4] kj1 (fun kq v4 w'=> ∃(aa:Int),v4= .int .i64 aa∧Aside0 (spec_l01Matrix.l0 kq l0 (l0.length:Int) aa=some r)∧Aside0 (kq≤kj1)∧Drawn0 w w')
    case atStart=>exact⟨(0),(by first | rfl | (simp;done) | (simp [*];done)),H',⟨Nat.le_refl _⟩,by repeat (first | exact Drawn0.refl _ | apply Drawn0.step)⟩
    case round=>
     clear H'
     try clear c1
     try clear p2
     try clear c3
     try clear c3b0
     try clear c3b1
     try clear c4
     try clear p2
     obtain⟨aa,rfl,HA,HK2,⟨m2,rfl⟩⟩:=hrel
     cases gk with
     | zero=>exact absurd HA.out (by simp [spec_l01Matrix.l0])
     | succ k2=>
      have H:=HA.out
      clear HA
      simp only [spec_l01Matrix.l0] at H
      by_cases c5:aa < (l0.length:Int)
      ·rw [if_pos c5] at H
       have c5b0:decide (aa < (l0.length:Int))=true:=decide_eq_true c5
       clear c5
       by_cases c6:0≤aa
       ·rw [if_pos c6] at H
        have c6b0:decide (0≤aa)=true:=decide_eq_true c6
        clear c6
        by_cases c7:aa < (l0.length:Int)
        ·rw [if_pos c7] at H
         have c7b0:decide (aa < (l0.length:Int))=true:=decide_eq_true c7
         clear c7
         by_cases c8:((rd_L1 l0 aa).length:Int)=(l0.length:Int)
         ·rw [if_pos c8] at H
          have c8b0:(((rd_L1 l0 aa).length:Int)==(l0.length:Int))=true:=beq_iff_eq.mpr c8
          have c8b1:(((rd_L1 l0 aa).length:Int) !=(l0.length:Int))=false:=bne_eq_false_iff_eq.mpr c8
          have c8b2:((rd_L1 l0 aa).length==l0.length)=true:=by first | simpa using c8 | (simp at c8 ⊢;omega)
          clear c8
          have H':=Aside0.mk H
          clear H
          have p155:0≤(aa:Int):=of_decide_eq_true (by first | (with_reducible assumption) | assumption)
          have q155:aa < (l0.length:Int):=of_decide_eq_true (by first | (with_reducible assumption) | assumption)
          obtain⟨ag,ai,aj,e155,hx155_0,hl155_0,hi155_0⟩:=at_L1 HR0.out aa p155 q155
          cases e155
          have HR155_0:=Aside0.mk hi155_0
          have HC155_0:=Aside0.mk hl155_0
          clear hi155_0 hl155_0
          replace p155:=eq_true p155
          replace q155:=eq_true q155
          go_wp2
          go_loopg [5] k2 (fun kq v5 w'=> ∃(ae:Int),v5= .int .i64 ae∧Aside0 (spec_l01Matrix.l1 kq l0 (l0.length:Int) aa ae=some r)∧Aside0 (kq≤k2)∧Drawn0 w w')
          case atStart=>exact⟨(0),(by first | rfl | (simp;done) | (simp [*];done)),H',⟨Nat.le_refl _⟩,by repeat (first | exact Drawn0.refl _ | apply Drawn0.step)⟩
          case round=>
           clear H'
           try clear c1
           try clear p1
           try clear q1
           try clear hx1
           try clear p2
           try clear c3
           try clear c3b0
           try clear c3b1
           try clear c4
           try clear c5
           try clear c5b0
           try clear c6
           try clear c6b0
           try clear c7
           try clear c7b0
           try clear c8
           try clear c8b0
           try clear c8b1
           try clear c8b2
           try clear hx155_0
           try clear p155
           try clear p2
           try clear q155
           obtain⟨ae,rfl,HA,HK3,⟨m3,rfl⟩⟩:=hrel
           cases gk with
           | zero=>exact absurd HA.out (by simp [spec_l01Matrix.l1])
           | succ k3=>
            have H:=HA.out
            clear HA
            simp only [spec_l01Matrix.l1] at H
            by_cases c9:ae < (l0.length:Int)
            ·rw [if_pos c9] at H
             have c9b0:decide (ae < (l0.length:Int))=true:=decide_eq_true c9
             clear c9
             by_cases c10:0≤aa
             ·rw [if_pos c10] at H
              have c10b0:decide (0≤aa)=true:=decide_eq_true c10
              clear c10
              by_cases c11:aa < (l0.length:Int)
              ·rw [if_pos c11] at H
               have c11b0:decide (aa < (l0.length:Int))=true:=decide_eq_true c11
               clear c11
               by_cases c12:0≤ae
               ·rw [if_pos c12] at H
                have c12b0:decide (0≤ae)=true:=decide_eq_true c12
                clear c12
                by_cases c13:ae < ((rd_L1 l0 aa).length:Int)
                ·rw [if_pos c13] at H
                 have c13b0:decide (ae < ((rd_L1 l0 aa).length:Int))=true:=decide_eq_true c13
                 clear c13
                 replace H:=Option.bind_eq_some_iff.mp H
                 obtain⟨ak,A140,H⟩:=H
                 replace H:(if ak=true then(spec_l01Matrix.l1 k3 l0 (l0.length:Int) aa (wrap64 (ae+1))) else(some false))=some r:=H
                 have A14:=Aside0.mk A140
                 clear A140
                 by_cases c15:ak=true
                 ·subst c15
                  have H1:(spec_l01Matrix.l1 k3 l0 (l0.length:Int) aa (wrap64 (ae+1)))=some r:=by rw [if_pos rfl] at H;exact H
                  clear H
                  have H:=H1
                  clear H1
                  have H':=Aside0.mk H
                  clear H
                  have p156:0≤(aa:Int):=of_decide_eq_true (by first | (with_reducible assumption) | assumption)
                  have q156:aa < (l0.length:Int):=of_decide_eq_true (by first | (with_reducible assumption) | assumption)
                  obtain⟨ah,aq,au,e156,hx156_0,hl156_0,hi156_0⟩:=at_L1 HR0.out aa p156 q156
                  obtain rfl:ag=ah:=(by injection e156)
                  have HR156_0:=Aside0.mk hi156_0
                  have HC156_0:=Aside0.mk hl156_0
                  clear hi156_0 hl156_0
                  replace p156:=eq_true p156
                  replace q156:=eq_true q156
                  have p157:0≤(ae:Int):=of_decide_eq_true (by first | (with_reducible assumption) | assumption)
                  have q157:ae < ((rd_L1 l0 aa).length:Int):=of_decide_eq_true (by first | (with_reducible assumption) | assumption)
                  obtain⟨av,e157,hx157_0⟩:=Kd.at_int HR156_0.out ae p157 q157
                  cases e157
                  replace p157:=eq_true p157
                  replace q157:=eq_true q157
                  go_wp2_with (first | ((with_reducible refine gate_callee (f:=119) rfl ?_);refine goesL_ (some 38) rfl rfl Try.func119 (by kernel_rfl) rfl #[.int .i64 (rd (rd_L1 l0 aa) ae), .int .i64 (-20), .int .i64 20] rfl (by(try simp only [List.map_toArray,List.map_cons,List.map_nil]);first | done | rfl | (simp only [List.length_drop,List.length_take];rfl)) ?_;(with_reducible refine(spec_l01In.calls (rd (rd_L1 l0 aa) ae) (-20) 20 true _ A14.out).mono ?_);rintro e w' ⟨rfl,⟨nd,rfl⟩⟩;refine⟨_,rfl,?_⟩))
                  go_roundg k3
                  case measure=>have:=HJ1.out;have:=HK2.out;have:=HK3.out;omega
                  case rel=>exact⟨(wrap64 (ae+1)),(by first | rfl | (simp;done) | (simp [*];done)),H',⟨by have:=HJ1.out;have:=HK2.out;have:=HK3.out;omega⟩,by repeat (first | exact Drawn0.refl _ | apply Drawn0.step)⟩
                 ·replace c15:=Bool.eq_false_iff.mpr c15
                  subst c15
                  have H1:(some false)=some r:=by rw [if_neg (show ¬ (false=true) by decide)] at H;exact H
                  clear H
                  have H:=H1
                  clear H1
                  obtain rfl:=Option.some.inj H
                  have p156:0≤(aa:Int):=of_decide_eq_true (by first | (with_reducible assumption) | assumption)
                  have q156:aa < (l0.length:Int):=of_decide_eq_true (by first | (with_reducible assumption) | assumption)
                  obtain⟨ah,aq,au,e156,hx156_0,hl156_0,hi156_0⟩:=at_L1 HR0.out aa p156 q156
                  obtain rfl:ag=ah:=(by injection e156)
                  have HR156_0:=Aside0.mk hi156_0
                  have HC156_0:=Aside0.mk hl156_0
                  clear hi156_0 hl156_0
                  replace p156:=eq_true p156
                  replace q156:=eq_true q156
                  have p157:0≤(ae:Int):=of_decide_eq_true (by first | (with_reducible assumption) | assumption)
                  have q157:ae < ((rd_L1 l0 aa).length:Int):=of_decide_eq_true (by first | (with_reducible assumption) | assumption)
                  obtain⟨av,e157,hx157_0⟩:=Kd.at_int HR156_0.out ae p157 q157
                  cases e157
                  replace p157:=eq_true p157
                  replace q157:=eq_true q157
                  go_wp2_with (first | ((with_reducible refine gate_callee (f:=119) rfl ?_);refine goesL_ (some 38) rfl rfl Try.func119 (by kernel_rfl) rfl #[.int .i64 (rd (rd_L1 l0 aa) ae), .int .i64 (-20), .int .i64 20] rfl (by(try simp only [List.map_toArray,List.map_cons,List.map_nil]);first | done | rfl | (simp only [List.length_drop,List.length_take];rfl)) ?_;(with_reducible refine(spec_l01In.calls (rd (rd_L1 l0 aa) ae) (-20) 20 false _ A14.out).mono ?_);rintro e w' ⟨rfl,⟨nd,rfl⟩⟩;refine⟨_,rfl,?_⟩))
                  go_ret
                  exact⟨by first | rfl | (simp;done) | (simp [*];done),by repeat (first | exact Drawn0.refl _ | apply Drawn0.step)⟩
                ·rw [if_neg c13] at H
                 exact absurd H (by simp)
               ·rw [if_neg c12] at H
                exact absurd H (by simp)
              ·rw [if_neg c11] at H
               exact absurd H (by simp)
             ·rw [if_neg c10] at H
              exact absurd H (by simp)
            ·rw [if_neg c9] at H
             have c9b0:decide (ae < (l0.length:Int))=false:=decide_eq_false c9
             clear c9
             have H':=Aside0.mk H
             clear H
             go_wp2
             go_roundg k3
             case measure=>have:=HJ1.out;have:=HK2.out;have:=HK3.out;omega
             case rel=>exact⟨(wrap64 (aa+1)),(by first | rfl | (simp;done) | (simp [*];done)),H',⟨by have:=HJ1.out;have:=HK2.out;have:=HK3.out;omega⟩,by repeat (first | exact Drawn0.refl _ | apply Drawn0.step)⟩
         ·rw [if_neg c8] at H
          have c8b0:(((rd_L1 l0 aa).length:Int)==(l0.length:Int))=false:=beq_eq_false_iff_ne.mpr c8
          have c8b1:(((rd_L1 l0 aa).length:Int) !=(l0.length:Int))=true:=bne_iff_ne.mpr c8
          have c8b2:((rd_L1 l0 aa).length==l0.length)=false:=by first | simpa using c8 | (simp at c8 ⊢;omega)
          obtain rfl:=Option.some.inj H
          have p155:0≤(aa:Int):=of_decide_eq_true (by first | (with_reducible assumption) | assumption)
          have q155:aa < (l0.length:Int):=of_decide_eq_true (by first | (with_reducible assumption) | assumption)
          obtain⟨ag,ai,aj,e155,hx155_0,hl155_0,hi155_0⟩:=at_L1 HR0.out aa p155 q155
          cases e155
          have HR155_0:=Aside0.mk hi155_0
          have HC155_0:=Aside0.mk hl155_0
          clear hi155_0 hl155_0
          replace p155:=eq_true p155
          replace q155:=eq_true q155
          go_wp2
          go_ret
          exact⟨by first | rfl | (simp;done) | (simp [*];done),by repeat (first | exact Drawn0.refl _ | apply Drawn0.step)⟩
        ·rw [if_neg c7] at H
         exact absurd H (by simp)
       ·rw [if_neg c6] at H
        exact absurd H (by simp)
      ·rw [if_neg c5] at H
       have c5b0:decide (aa < (l0.length:Int))=false:=decide_eq_false c5
       clear c5
       obtain rfl:=Option.some.inj H
       go_wp2
       go_ret
       exact⟨by first | rfl | (simp;done) | (simp [*];done),by repeat (first | exact Drawn0.refl _ | apply Drawn0.step)⟩
mutual
def spec_l01Is.j0:Nat→Bool→List (List Int)→List Int→Option (Bool)
 | 0,_,_,_=>none
 | k+1,x16,ae,aa=>if x16=true then(some false) else(spec_l01Is.l0 k 0 ae aa)
def spec_l01Is.l0:Nat→Int→List (List Int)→List Int→Option (Bool)
 | 0,_,_,_=>none
 | k+1,x3,ae,aa=>if x3 < (aa.length:Int) then(if 0≤x3 then((spec_l01In.f (rd aa x3) (-100) 100).bind fun af=>(if af=true then(spec_l01Is.l0 k (wrap64 (x3+1)) ae aa) else(some false))) else(none)) else(some true)
end
def spec_l01Is.f (k:Nat) (aa:List (List Int)) (ae:List Int):Option (Bool):=(spec_l01Matrix.f k aa).bind fun af=>(if af=true then(spec_l01Is.j0 k ((ae.length:Int) !=(aa.length:Int)) aa ae) else(spec_l01Is.j0 k true aa ae))
theorem spec_l01Is.mono_l: ∀k,(∀y0 y1 y2,LeO (spec_l01Is.j0 k y0 y1 y2) (spec_l01Is.j0 (k+1) y0 y1 y2))∧(∀y0 y1 y2,LeO (spec_l01Is.l0 k y0 y1 y2) (spec_l01Is.l0 (k+1) y0 y1 y2))
 | 0=>⟨fun _ _ _ r h=>by simp [spec_l01Is.j0] at h,fun _ _ _ r h=>by simp [spec_l01Is.l0] at h⟩
 | k+1=>by
  obtain⟨ih0,ih1⟩:=spec_l01Is.mono_l k
  refine⟨?_,?_⟩
  ·intro y0 y1 y2
   unfold spec_l01Is.j0
   repeat' first
   | (with_reducible exact ih0 _ _ _)
   | (with_reducible exact ih1 _ _ _)
   | (with_reducible exact spec_l01Matrix.mono _ _)
   | (with_reducible exact LeO.refl _)
   | (with_reducible exact LeO.none _)
   | (with_reducible refine LeO.ite ?_ ?_)
   | (with_reducible refine LeO.bind ?_ (fun _=>?_))
   | exact ih0 _ _ _
   | exact ih1 _ _ _
   | exact spec_l01Matrix.mono _ _
   | exact LeO.none _
   | refine LeO.ite ?_ ?_
   | refine LeO.bind ?_ (fun _=>?_)
  ·intro y0 y1 y2
   unfold spec_l01Is.l0
   repeat' first
   | (with_reducible exact ih0 _ _ _)
   | (with_reducible exact ih1 _ _ _)
   | (with_reducible exact spec_l01Matrix.mono _ _)
   | (with_reducible exact LeO.refl _)
   | (with_reducible exact LeO.none _)
   | (with_reducible refine LeO.ite ?_ ?_)
   | (with_reducible refine LeO.bind ?_ (fun _=>?_))
   | exact ih0 _ _ _
   | exact ih1 _ _ _
   | exact spec_l01Matrix.mono _ _
   | exact LeO.none _
   | refine LeO.ite ?_ ?_
   | refine LeO.bind ?_ (fun _=>?_)
theorem spec_l01Is.mono: ∀a0 a1 k,LeO (spec_l01Is.f k a0 a1) (spec_l01Is.f (k+1) a0 a1):=by
 intro a0 a1 k
 obtain⟨ih0,ih1⟩:=spec_l01Is.mono_l k
 unfold spec_l01Is.f
 repeat' first
   | (with_reducible exact ih0 _ _ _)
   | (with_reducible exact ih1 _ _ _)
   | (with_reducible exact spec_l01Matrix.mono _ _)
   | (with_reducible exact LeO.refl _)
   | (with_reducible exact LeO.none _)
   | (with_reducible refine LeO.ite ?_ ?_)
   | (with_reducible refine LeO.bind ?_ (fun _=>?_))
   | exact ih0 _ _ _
   | exact ih1 _ _ _
   | exact spec_l01Matrix.mono _ _
   | exact LeO.none _
   | refine LeO.ite ?_ ?_
   | refine LeO.bind ?_ (fun _=>?_)
theorem spec_l01Is.calls (k:Nat) (ai:Option Addr) (aj:Nat) (ae:List (List Int)) (ak:Option Addr) (aq:Nat) (aa:List Int) (r:Bool) (w:World) (aJ:Kd.C (Kd.slice 2 (Kd.int .i64)) w ai ae.length ae) (aK:ae.length≤aj) (aM:Kd.C (Kd.int .i64) w ak aa.length aa) (aN:aa.length≤aq) (h:spec_l01Is.f k ae aa=some r):
  Calls Try.prog 118 #[.agg #[.slice ai ae.length aj, .slice ak aa.length aq]] w fun e w'=>e= .returned (.bool r)∧Below w.heap.size w w':=by
 have hu30:=Try.underlying30
 have HR0_0:=Aside0.mk aJ
 have HC0_0:=Aside0.mk aK
 clear aJ aK
 have HR0_1:=Aside0.mk aM
 have HC0_1:=Aside0.mk aN
 clear aM aN
 have HB:=Aside0.mk (Below.refl w.heap.size w)
 have H:((spec_l01Matrix.f k ae).bind fun av=>(if av=true then(spec_l01Is.j0 k ((aa.length:Int) !=(ae.length:Int)) ae aa) else(spec_l01Is.j0 k true ae aa)))=some r:=h
 clear h
 have HC2:=Aside0.mk H
 clear H
 go_enter Try.func118,Try.ntmps118
 go_upto_region 1 with (first | ((with_reducible refine gate_dst (N:=1) rfl ?_);(try (refine gate_guard (by rfl) ?_;dsimp only));refine box_event ?hg (N:=1) ?hd (cs:= #[.slice ai ae.length aj, .slice ak aa.length aq]) (t:=30) ?hr ?_;(case hd=>rfl);(case hg=>rfl);(case hr=>first | (go_simp;done) | (go_simp;rfl));intro ah hg w3 hbox hb;have af:=Aside0.mk (hbox);have bn:=Aside0.mk ((by rw [hg];exact bz_:w.heap.size≤ah));have bq:=Aside0.mk ((by rw [hg];exact bz_:w.heap.size≤ah));replace HB:=Aside0.mk (bs_ hb);clear hb hbox hg))
 (try simp only [Act.put,List.setIfInBounds_toArray,List.set_cons_zero,List.set_cons_succ])
 go_cut [16] (fun v16 wc=> ∃(kq:Nat) (au:Bool),v16= .bool au∧Aside0 (spec_l01Is.j0 kq au ae aa=some r)∧Aside0 (kq≤k)∧Aside0 (wc.heap[ah]?=some (.cells #[(.slice ai ae.length aj),(.slice ak aa.length aq)] 30 (0,0)))∧Aside0 (Below w.heap.size w wc))
 case first=>
  have H:=HC2.out
  clear HC2
  replace H:=Option.bind_eq_some_iff.mp H
  obtain⟨av,A40,H⟩:=H
  replace H:(if av=true then(spec_l01Is.j0 k ((aa.length:Int) !=(ae.length:Int)) ae aa) else(spec_l01Is.j0 k true ae aa))=some r:=H
  have A4:=Aside0.mk A40
  clear A40
  by_cases c5:av=true
  ·subst c5
   have H1:(spec_l01Is.j0 k ((aa.length:Int) !=(ae.length:Int)) ae aa)=some r:=by rw [if_pos rfl] at H;exact H
   clear H
   have H:=H1
   clear H1
   have H':=Aside0.mk H
   clear H
   have ay:w3.cell? ⟨ah,0,none⟩=some (.slice ai ae.length aj):=(blk_cell af.out 0).trans rfl
   have az:w3.cell? ⟨ah,1,none⟩=some (.slice ak aa.length aq):=(blk_cell af.out 1).trans rfl
   have aA:=blk_frozen af.out 0
   have aC:=blk_frozen af.out 1
   go_wp2_with (first | ((with_reducible refine gate_callee (f:=167) rfl ?_);refine gL_ 6 Try.func167 #[.slice ai ae.length aj] ?_;(with_reducible refine(spec_l01Matrix.calls k _ _ ae true _ ?aw ?ax A4.out).mono ?_);(case aw=>exact cb_ HR0_0.out HB.out);(case ax=>exact HC0_0.out);rintro e w' ⟨rfl,⟨nd,rfl⟩⟩;refine⟨_,rfl,?_⟩))
   go_meet
   case rel=>exact⟨_,(((aa.length:Int) !=(ae.length:Int))),rs_,H',⟨by first | omega | exact Nat.le_refl _⟩,⟨bk_⟩,⟨hb_⟩⟩
  ·replace c5:=Bool.eq_false_iff.mpr c5
   subst c5
   have H1:(spec_l01Is.j0 k true ae aa)=some r:=by rw [if_neg (show ¬ (false=true) by decide)] at H;exact H
   clear H
   have H:=H1
   clear H1
   have H':=Aside0.mk H
   clear H
   have aD:w3.cell? ⟨ah,0,none⟩=some (.slice ai ae.length aj):=(blk_cell af.out 0).trans rfl
   have aG:w3.cell? ⟨ah,1,none⟩=some (.slice ak aa.length aq):=(blk_cell af.out 1).trans rfl
   have aH:=blk_frozen af.out 0
   have aI:=blk_frozen af.out 1
   go_wp2_with (first | ((with_reducible refine gate_callee (f:=167) rfl ?_);refine gL_ 6 Try.func167 #[.slice ai ae.length aj] ?_;(with_reducible refine(spec_l01Matrix.calls k _ _ ae false _ ?aw ?ax A4.out).mono ?_);(case aw=>exact cb_ HR0_0.out HB.out);(case ax=>exact HC0_0.out);rintro e w' ⟨rfl,⟨nd,rfl⟩⟩;refine⟨_,rfl,?_⟩))
   go_meet
   case rel=>exact⟨_,(true),rs_,H',⟨by first | omega | exact Nat.le_refl _⟩,⟨bk_⟩,⟨hb_⟩⟩
 case rest=>
  clear HC2
  try clear c1
  try clear p2
  try clear c5
  try clear ay
  try clear az
  try clear aD
  try clear aG
  try clear aA
  try clear aC
  try clear aH
  try clear aI
  obtain⟨kq,au,rfl,HA,HJ1,af,HB⟩:=hcut
  cases kq with
  | zero=>exact absurd HA.out (by simp [spec_l01Is.j0])
  | succ kj1=>
   have H:=HA.out
   clear HA
   simp only [spec_l01Is.j0] at H
   by_cases c8:au=true
   ·subst c8
    have H1:(some false)=some r:=by rw [if_pos rfl] at H;exact H
    clear H
    have H:=H1
    clear H1
    obtain rfl:=Option.some.inj H
    go_wp2
    go_ret
    exact⟨by first | rfl | (simp [errW_none,errW_some] <;> rfl) | (simp [*,errW_none,errW_some] <;> rfl),hb_⟩
   ·replace c8:=Bool.eq_false_iff.mpr c8
    subst c8
    have H1:(spec_l01Is.l0 kj1 0 ae aa)=some r:=by rw [if_neg (show ¬ (false=true) by decide)] at H;exact H
    clear H
    have H:=H1
    clear H1
    have H':=Aside0.mk H
    clear H
    go_wp2
    go_loopg [3] kj1 (fun kq v3 w'=> ∃(ag:Int),v3= .int .i64 ag∧Aside0 (spec_l01Is.l0 kq ag ae aa=some r)∧Aside0 (kq≤kj1)∧Aside0 (w'.heap[ah]?=some (.cells #[(.slice ai ae.length aj),(.slice ak aa.length aq)] 30 (0,0)))∧Aside0 (Below w.heap.size w w'))
    case atStart=>exact⟨(0),rs_,H',⟨Nat.le_refl _⟩,⟨bk_⟩,⟨hb_⟩⟩
    case round=>
     clear H'
     try clear c1
     try clear p2
     try clear c5
     try clear c8
     try clear ay
     try clear az
     try clear aD
     try clear aG
     try clear aA
     try clear aC
     try clear aH
     try clear aI
     try clear p2
     obtain⟨ag,rfl,HA,HK2,af,HB⟩:=hrel
     cases gk with
     | zero=>exact absurd HA.out (by simp [spec_l01Is.l0])
     | succ k2=>
      have H:=HA.out
      clear HA
      simp only [spec_l01Is.l0] at H
      by_cases c9:ag < (aa.length:Int)
      ·rw [if_pos c9] at H
       have c9b0:decide (ag < (aa.length:Int))=true:=decide_eq_true c9
       clear c9
       by_cases c10:0≤ag
       ·rw [if_pos c10] at H
        have c10b0:decide (0≤ag)=true:=decide_eq_true c10
        clear c10
        replace H:=Option.bind_eq_some_iff.mp H
        obtain⟨aT,A110,H⟩:=H
        replace H:(if aT=true then(spec_l01Is.l0 k2 (wrap64 (ag+1)) ae aa) else(some false))=some r:=H
        have A11:=Aside0.mk A110
        clear A110
        by_cases c12:aT=true
        ·subst c12
         have H1:(spec_l01Is.l0 k2 (wrap64 (ag+1)) ae aa)=some r:=by rw [if_pos rfl] at H;exact H
         clear H
         have H:=H1
         clear H1
         have H':=Aside0.mk H
         clear H
         have aV:wr.cell? ⟨ah,0,none⟩=some (.slice ai ae.length aj):=(blk_cell af.out 0).trans rfl
         have aW:wr.cell? ⟨ah,1,none⟩=some (.slice ak aa.length aq):=(blk_cell af.out 1).trans rfl
         have aX:=blk_frozen af.out 0
         have aY:=blk_frozen af.out 1
         have p161:0≤(ag:Int):=od_
         have q161:ag < (aa.length:Int):=od_
         obtain⟨aU,e161,hx161_0⟩:=Kd.at_int HR0_1.out ag p161 q161
         cases e161
         replace hx161_0:=(HB.out.cell (World.block_lt_of_cell? w _ hx161_0)).trans hx161_0
         replace p161:=eq_true p161
         replace q161:=eq_true q161
         go_wp2_with (first | ((with_reducible refine gate_callee (f:=119) rfl ?_);refine gL_ 29 Try.func119 #[.int .i64 (rd aa ag), .int .i64 (-100), .int .i64 100] ?_;(with_reducible refine(spec_l01In.calls (rd aa ag) (-100) 100 true _ A11.out).mono ?_);rintro e w' ⟨rfl,⟨nd,rfl⟩⟩;refine⟨_,rfl,?_⟩))
         go_roundg k2
         case measure=>have:=HJ1.out;have:=HK2.out;omega
         case rel=>exact⟨(wrap64 (ag+1)),rs_,H',⟨by have:=HJ1.out;have:=HK2.out;omega⟩,⟨bk_⟩,⟨hb_⟩⟩
        ·replace c12:=Bool.eq_false_iff.mpr c12
         subst c12
         have H1:(some false)=some r:=by rw [if_neg (show ¬ (false=true) by decide)] at H;exact H
         clear H
         have H:=H1
         clear H1
         obtain rfl:=Option.some.inj H
         have aZ:wr.cell? ⟨ah,0,none⟩=some (.slice ai ae.length aj):=(blk_cell af.out 0).trans rfl
         have a9:wr.cell? ⟨ah,1,none⟩=some (.slice ak aa.length aq):=(blk_cell af.out 1).trans rfl
         have ba:=blk_frozen af.out 0
         have bb:=blk_frozen af.out 1
         have p161:0≤(ag:Int):=od_
         have q161:ag < (aa.length:Int):=od_
         obtain⟨aU,e161,hx161_0⟩:=Kd.at_int HR0_1.out ag p161 q161
         cases e161
         replace hx161_0:=(HB.out.cell (World.block_lt_of_cell? w _ hx161_0)).trans hx161_0
         replace p161:=eq_true p161
         replace q161:=eq_true q161
         go_wp2_with (first | ((with_reducible refine gate_callee (f:=119) rfl ?_);refine gL_ 29 Try.func119 #[.int .i64 (rd aa ag), .int .i64 (-100), .int .i64 100] ?_;(with_reducible refine(spec_l01In.calls (rd aa ag) (-100) 100 false _ A11.out).mono ?_);rintro e w' ⟨rfl,⟨nd,rfl⟩⟩;refine⟨_,rfl,?_⟩))
         go_ret
         exact⟨by first | rfl | (simp [errW_none,errW_some] <;> rfl) | (simp [*,errW_none,errW_some] <;> rfl),hb_⟩
       ·rw [if_neg c10] at H
        exact absurd H (by simp)
      ·rw [if_neg c9] at H
       have c9b0:decide (ag < (aa.length:Int))=false:=decide_eq_false c9
       clear c9
       obtain rfl:=Option.some.inj H
       have bg:wr.cell? ⟨ah,0,none⟩=some (.slice ai ae.length aj):=(blk_cell af.out 0).trans rfl
       have bh:wr.cell? ⟨ah,1,none⟩=some (.slice ak aa.length aq):=(blk_cell af.out 1).trans rfl
       have bi:=blk_frozen af.out 0
       have bk:=blk_frozen af.out 1
       go_wp2
       go_ret
       exact⟨by first | rfl | (simp [errW_none,errW_some] <;> rfl) | (simp [*,errW_none,errW_some] <;> rfl),hb_⟩
end Go.Proofs.Ytmpkckiifeikkaa.Pr
end
