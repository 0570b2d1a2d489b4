/- Texts of one claim (the words of the kit's print that the claim uses, printed functions, and this session's own texts), joined in the order of their imports by this session's own program (merge.py). -/
import Derived.Test.YthmfdplckdijdaaGreatJnFnCubeWalks0
import Derived.Test.YthmfdplckdijdaaGreatJnFnCubeWalks1
set_option linter.unusedVariables false
set_option linter.unusedSimpArgs false
set_option maxHeartbeats 8000000
set_option maxRecDepth 100000
section
namespace Go.Proofs.YthmfdplckdijdaaGreat.Pr
open Go.RowKit Go.Proofs.YthmfdplckdijdaaGreatW.PrintWords Go.Proofs.YthmfdplckdijdaaGreatW.PrintLast Go.Proofs.YthmfdplckdijdaaGreatW.PrintMore
attribute [local go_sem] max2_int min2_int max_two min_two max_three min_three max_four min_four
mutual
def impl_part.l0:Nat→Int→Int→List (List Int)→List (List Int)→Int→Int→Option ((List (List Int)))
 | 0,_,_,_,_,_,_=>none
 | k+1,x1,x2,x7,x13,x14,x15=>if x15 < x14 then(if 0≤x15 then(if x15 < (x13.length:Int) then((impl_has.f x1 x15).bind fun aa=>(if aa=true then(impl_part.l1 k x1 x2 x7 ([]:List Int) x13 x14 x15 (rd_L3 x13 x15) ((rd_L3 x13 x15).length:Int) 0) else(impl_part.l0 k x1 x2 x7 x13 x14 (wrap64 (x15+1))))) else(none)) else(none)) else(some x7)
def impl_part.l1:Nat→Int→Int→List (List Int)→List Int→List (List Int)→Int→Int→List Int→Int→Int→Option ((List (List Int)))
 | 0,_,_,_,_,_,_,_,_,_,_=>none
 | k+1,x1,x2,x7,x10,x13,x14,x15,x24,x25,x26=>if x26 < x25 then(if 0≤x26 then(if x26 < (x24.length:Int) then((impl_has.f x2 x26).bind fun ae=>(if ae=true then(if x10.length < 17592186044416 then(impl_part.l1 k x1 x2 x7 (x10++ [rd x24 x26]) x13 x14 x15 x24 x25 (wrap64 (x26+1))) else(none)) else(impl_part.l1 k x1 x2 x7 x10 x13 x14 x15 x24 x25 (wrap64 (x26+1))))) else(none)) else(none)) else(if x7.length < 5864062014805 then(impl_part.l0 k x1 x2 (x7++ [x10]) x13 x14 (wrap64 (x15+1))) else(none))
end
def impl_part.f (k:Nat) (l0:List (List Int)) (a1:Int) (a2:Int):Option ((List (List Int))):=impl_part.l0 k a1 a2 ([]:List (List Int)) l0 (l0.length:Int) 0
theorem impl_part.mono_l: ∀k,(∀y0 y1 y2 y3 y4 y5,LeO (impl_part.l0 k y0 y1 y2 y3 y4 y5) (impl_part.l0 (k+1) y0 y1 y2 y3 y4 y5))∧(∀y0 y1 y2 y3 y4 y5 y6 y7 y8 y9,LeO (impl_part.l1 k y0 y1 y2 y3 y4 y5 y6 y7 y8 y9) (impl_part.l1 (k+1) y0 y1 y2 y3 y4 y5 y6 y7 y8 y9))
 | 0=>⟨fun _ _ _ _ _ _ r h=>by simp [impl_part.l0] at h,fun _ _ _ _ _ _ _ _ _ _ r h=>by simp [impl_part.l1] at h⟩
 | k+1=>by
  obtain⟨ih0,ih1⟩:=impl_part.mono_l k
  refine⟨?_,?_⟩<;>intros<;>(first | unfold impl_part.l0 | unfold impl_part.l1)<;>(repeat' first | (with_reducible first | exact ih0 _ _ _ _ _ _ | exact ih1 _ _ _ _ _ _ _ _ _ _ | exact LeO.refl _ | exact LeO.none _ | refine LeO.ite ?_ ?_ | refine LeO.bind ?_ (fun _=>?_)) | exact ih0 _ _ _ _ _ _ | exact ih1 _ _ _ _ _ _ _ _ _ _ | exact LeO.none _ | refine LeO.ite ?_ ?_ | refine LeO.bind ?_ (fun _=>?_))
theorem impl_part.mono: ∀a0 a1 a2 k,LeO (impl_part.f k a0 a1 a2) (impl_part.f (k+1) a0 a1 a2):=by
 intro a0 a1 a2 k
 obtain⟨ih0,ih1⟩:=impl_part.mono_l k
 unfold impl_part.f
 repeat' first | (with_reducible first | exact ih0 _ _ _ _ _ _ | exact ih1 _ _ _ _ _ _ _ _ _ _ | exact LeO.refl _ | exact LeO.none _ | refine LeO.ite ?_ ?_ | refine LeO.bind ?_ (fun _=>?_)) | exact ih0 _ _ _ _ _ _ | exact ih1 _ _ _ _ _ _ _ _ _ _ | exact LeO.none _ | refine LeO.ite ?_ ?_ | refine LeO.bind ?_ (fun _=>?_)
theorem impl_part.calls (k:Nat) (A0:Option Addr) (c0:Nat) (l0:List (List Int)) (a1:Int) (a2:Int) (r:List (List Int)) (w:World) (hr0:Kd.C (Kd.slice 2 (Kd.int .i64)) w A0 l0.length l0) (hc0:l0.length≤c0) (h:impl_part.f k l0 a1 a2=some r):
  Calls Tryz.prog 148 #[.slice A0 l0.length c0, .int .i64 a1, .int .i64 a2] w fun e w'=> ∃v0_:Value,e= .returned (v0_)∧Kd.S (Kd.slice 2 (Kd.int .i64)) 24 w' w.heap.size (fun _=>True) v0_ r∧Below w.heap.size w w':=by
 have HR0:=q_ hr0;have HC0:=q_ hc0;clear hr0 hc0;have HB:=q_ (Below.refl w.heap.size w);have H:(impl_part.l0 k a1 a2 ([]:List (List Int)) l0 (l0.length:Int) 0)=some r:=h;clear h;have H':=q_ H;clear H
 go_enter Tryz.func148,Tryz.ntmps148
 go_wp2
 go_loopg [7,15] k (fun kq v7 v15 w'=> ∃(ag:List (List Int)) (aa:Int),v15= .int .i64 aa∧Aside0 (impl_part.l0 kq a1 a2 ag l0 (l0.length:Int) aa=some r)∧Aside0 (kq≤k)∧Aside0 (Kd.S (Kd.slice 2 (Kd.int .i64)) 24 w' w.heap.size (fun _=>True) v7 ag)∧Aside0 (Below w.heap.size w w'))
 case atStart=>exact⟨(([]:List (List Int))),(0),rs_,H',⟨Nat.le_refl _⟩,⟨by first | exact Kd.S_nil _ _ _ _ _ | exact Kd.N_nil _ _ _ _ _ | exact Kd.V_nil _ _ _ _ _ | exact Kd.Q_nil _ _ _ _ _ | exact Kd.R_nil _ _ _ _ _⟩,⟨hb_⟩⟩
 case round=>
  clear H';obtain⟨ag,aa,rfl,HA,HK1,ah,HB⟩:=hrel;cases gk with
  | zero=>exact absurd HA.out (by simp [impl_part.l0])
  | succ k1=>
   have H:=HA.out;clear HA;simp only [impl_part.l0] at H
   by_cases c4:aa < (l0.length:Int)
   ·rw [if_pos c4] at H;have c4b0:=decide_eq_true c4;clear c4
    by_cases c5:0≤aa
    ·rw [if_pos c5] at H;have c5b0:=decide_eq_true c5;clear c5
     by_cases c6:aa < (l0.length:Int)
     ·rw [if_pos c6] at H;have c6b0:=decide_eq_true c6;clear c6;replace H:=Option.bind_eq_some_iff.mp H;obtain⟨aj,A70,H⟩:=H;replace H:(if aj=true then(impl_part.l1 k1 a1 a2 ag ([]:List Int) l0 (l0.length:Int) aa (rd_L3 l0 aa) ((rd_L3 l0 aa).length:Int) 0) else(impl_part.l0 k1 a1 a2 ag l0 (l0.length:Int) (wrap64 (aa+1))))=some r:=H;have A7:=q_ A70;clear A70
      by_cases c8:aj=true
      ·subst c8;have H1:(impl_part.l1 k1 a1 a2 ag ([]:List Int) l0 (l0.length:Int) aa (rd_L3 l0 aa) ((rd_L3 l0 aa).length:Int) 0)=some r:=by rw [if_pos rfl] at H;exact H
       clear H;have H:=H1;clear H1;have H':=q_ H;clear H;have p575:0≤(aa:Int):=od_;have q575:aa < (l0.length:Int):=od_;obtain⟨az,ak,aq,e575,hx575_0,hl575_0,hi575_0⟩:=at_L3 HR0.out aa p575 q575;cases e575
       replace hx575_0:=(HB.out.cell (World.block_lt_of_cell? w _ hx575_0)).trans hx575_0;have HR575_0:=q_ hi575_0;have HC575_0:=q_ hl575_0;clear hi575_0 hl575_0;replace p575:=eq_true p575;replace q575:=eq_true q575
       go_wp2_with (first | ((with_reducible refine gate_callee (f:=53) rfl ?_);refine gL_ 22 Tryz.func53 #[.int .i64 a1, .int .i64 aa] ?_;(with_reducible refine(impl_has.calls a1 aa true _ A7.out).mono ?_);rintro e w' ⟨rfl,⟨nd,rfl⟩⟩;refine⟨_,rfl,?_⟩))
       go_loopg [10,26] k1 (fun kq v10 v26 w'=> ∃(af:List Int) (ae:Int),v26= .int .i64 ae∧Aside0 (impl_part.l1 kq a1 a2 ag af l0 (l0.length:Int) aa (rd_L3 l0 aa) ((rd_L3 l0 aa).length:Int) ae=some r)∧Aside0 (kq≤k1)∧Aside0 (Kd.S (Kd.slice 2 (Kd.int .i64)) 24 w' w.heap.size (fun k_=>some k_≠(v10:Value).ownBlock) u7 ag)∧Aside0 (Kd.R (Kd.int .i64) 2 w' w.heap.size (fun _=>True) v10 af)∧Aside0 (Below w.heap.size w w'))
       case atStart=>exact⟨(([]:List Int)),(0),rs_,H',⟨Nat.le_refl _⟩,⟨by(with_reducible repeat (first | apply Kd.S_alloc | apply Kd.S_drewN | apply Kd.S_drew));exact Kd.S_mono ah.out (fun _ hk=>(by simp [Value.ownBlock]))⟩,⟨by first | exact Kd.R_nil _ _ _ _ _ | exact Kd.N_nil _ _ _ _ _ | exact Kd.V_nil _ _ _ _ _ | exact Kd.Q_nil _ _ _ _ _ | exact Kd.S_nil _ _ _ _ _⟩,⟨hb_⟩⟩
       case round=>
        clear H';(try clear c4b0);(try clear c5);(try clear c5b0);(try clear c6);(try clear c6b0);(try clear c8);(try clear hx575_0);(try clear p575);(try clear q575);obtain⟨af,ae,rfl,HA,HK2,ah,ai,HB⟩:=hrel;cases gk with
        | zero=>exact absurd HA.out (by simp [impl_part.l1])
        | succ k2=>
         have H:=HA.out;clear HA;simp only [impl_part.l1] at H
         by_cases c9:ae < ((rd_L3 l0 aa).length:Int)
         ·rw [if_pos c9] at H;have c9b0:=decide_eq_true c9;clear c9
          by_cases c10:0≤ae
          ·rw [if_pos c10] at H;have c10b0:=decide_eq_true c10;clear c10
           by_cases c11:ae < ((rd_L3 l0 aa).length:Int)
           ·rw [if_pos c11] at H;have c11b0:=decide_eq_true c11;clear c11;replace H:=Option.bind_eq_some_iff.mp H;obtain⟨au,A120,H⟩:=H;replace H:(if au=true then(if af.length < 17592186044416 then(impl_part.l1 k2 a1 a2 ag (af++ [rd (rd_L3 l0 aa) ae]) l0 (l0.length:Int) aa (rd_L3 l0 aa) ((rd_L3 l0 aa).length:Int) (wrap64 (ae+1))) else(none)) else(impl_part.l1 k2 a1 a2 ag af l0 (l0.length:Int) aa (rd_L3 l0 aa) ((rd_L3 l0 aa).length:Int) (wrap64 (ae+1))))=some r:=H;have A12:=q_ A120;clear A120
            by_cases c13:au=true
            ·subst c13;have H1:(if af.length < 17592186044416 then(impl_part.l1 k2 a1 a2 ag (af++ [rd (rd_L3 l0 aa) ae]) l0 (l0.length:Int) aa (rd_L3 l0 aa) ((rd_L3 l0 aa).length:Int) (wrap64 (ae+1))) else(none))=some r:=by rw [if_pos rfl] at H;exact H
             clear H;have H:=H1;clear H1
             by_cases c14:af.length < 17592186044416
             ·rw [if_pos c14] at H;have aA:=q_ c14;clear c14;obtain⟨av,hy⟩: ∃y_:List Int,y_=(af++ [rd (rd_L3 l0 aa) ae]):=⟨_,rfl⟩
              replace H:(impl_part.l1 k2 a1 a2 ag av l0 (l0.length:Int) aa (rd_L3 l0 aa) ((rd_L3 l0 aa).length:Int) (wrap64 (ae+1)))=some r:=hh_;have aC:=q_ hy;clear hy;have H':=q_ H;clear H;have p577:0≤(ae:Int):=od_;have q577:ae < ((rd_L3 l0 aa).length:Int):=od_;obtain⟨aD,e577,hx577_0⟩:=Kd.at_int HR575_0.out ae p577 q577;cases e577
              replace hx577_0:=(HB.out.cell (World.block_lt_of_cell? w _ hx577_0)).trans hx577_0;replace p577:=eq_true p577;replace q577:=eq_true q577
              go_wp2_with (first | ((with_reducible refine gate_callee (f:=53) rfl ?_);refine gL_ 33 Tryz.func53 #[.int .i64 a2, .int .i64 ae] ?_;(with_reducible refine(impl_has.calls a2 ae true _ A12.out).mono ?_);rintro e w' ⟨rfl,⟨nd,rfl⟩⟩;refine⟨_,rfl,?_⟩) | ((with_reducible refine gate_builtin (b:= .append) (xs:= #[.tmp 34, .tmp 36]) rfl ?_);at_builtin;refine Kd.R_append (Kd.int .i64) (w0:=w) w.heap.size rfl (.tmp 34) (.tmp 36) 24 2 (.int .i64 0) 8 rfl Tryz.underlying24 info2 rfl (by decide) (by omega) u10 af (rd (rd_L3 l0 aa) ae) [.int .i64 (rd (rd_L3 l0 aa) ae)] (fun _=>True) (fun _=>False) rfl rfl ?aP (fun _ hk=>hk.elim) ?aF ?aO ?aB ?aS ?aL ?_;(case aP=>exact rfl);(case aB=>exact hb_);(case aF=>exact(fun _ _=>trivial));(case aO=>exact(ro_ ai.out));(case aS=>exact bz_);(case aL=>have:=aA.out;omega);intro aM w15 ho hb hg hat;rw [← aC.out] at ho;replace ah:=q_ (Kd.S_after (ok:=(fun _=>True)) (by(with_reducible repeat (first | apply Kd.S_alloc | apply Kd.S_drewN | apply Kd.S_drew));exact Kd.S_mono ah.out (fun _ hk=>⟨trivial,hk⟩)) hg hat);replace HB:=q_ (hb);have aG:=q_ (ho);clear ai ho hb hg hat))
              go_roundg k2
              case measure=>have:=HK1.out;have:=HK2.out;omega
              case rel=>exact⟨(av),(wrap64 (ae+1)),rs_,H',⟨by have:=HK1.out;have:=HK2.out;omega⟩,⟨by(with_reducible repeat (first | apply Kd.S_alloc | apply Kd.S_drewN | apply Kd.S_drew));exact Kd.S_mono ah.out (fun _ hk=>hk.2)⟩,⟨ro_ aG.out⟩,⟨hb_⟩⟩
             ·rw [if_neg c14] at H;exact absurd H (by simp)
            ·replace c13:=Bool.eq_false_iff.mpr c13;subst c13;have H1:(impl_part.l1 k2 a1 a2 ag af l0 (l0.length:Int) aa (rd_L3 l0 aa) ((rd_L3 l0 aa).length:Int) (wrap64 (ae+1)))=some r:=by rw [if_neg (show ¬ (false=true) by decide)] at H;exact H
             clear H;have H:=H1;clear H1;have H':=q_ H;clear H;have p577:0≤(ae:Int):=od_;have q577:ae < ((rd_L3 l0 aa).length:Int):=od_;obtain⟨aD,e577,hx577_0⟩:=Kd.at_int HR575_0.out ae p577 q577;cases e577
             replace hx577_0:=(HB.out.cell (World.block_lt_of_cell? w _ hx577_0)).trans hx577_0;replace p577:=eq_true p577;replace q577:=eq_true q577
             go_wp2_with (first | ((with_reducible refine gate_callee (f:=53) rfl ?_);refine gL_ 33 Tryz.func53 #[.int .i64 a2, .int .i64 ae] ?_;(with_reducible refine(impl_has.calls a2 ae false _ A12.out).mono ?_);rintro e w' ⟨rfl,⟨nd,rfl⟩⟩;refine⟨_,rfl,?_⟩))
             go_roundg k2
             case measure=>have:=HK1.out;have:=HK2.out;omega
             case rel=>exact⟨(af),(wrap64 (ae+1)),rs_,H',⟨by have:=HK1.out;have:=HK2.out;omega⟩,⟨so_ ah.out⟩,⟨ro_ ai.out⟩,⟨hb_⟩⟩
           ·rw [if_neg c11] at H;exact absurd H (by simp)
          ·rw [if_neg c10] at H;exact absurd H (by simp)
         ·rw [if_neg c9] at H;have c9b0:=decide_eq_false c9;clear c9
          by_cases c16:ag.length < 5864062014805
          ·rw [if_pos c16] at H;have aH:=q_ c16;clear c16;obtain⟨aw,hy⟩: ∃y_:List (List Int),y_=(ag++ [af]):=⟨_,rfl⟩
           replace H:(impl_part.l0 k2 a1 a2 aw l0 (l0.length:Int) (wrap64 (aa+1)))=some r:=hh_;have aI:=q_ hy;clear hy;have H':=q_ H;clear H;obtain⟨ax,ay,aK⟩:=Kd.R_slice ai.out;subst aK
           go_wp2_with (first | ((with_reducible refine gate_builtin (b:= .append) (xs:= #[.tmp 39, .tmp 41]) rfl ?_);at_builtin;refine Kd.S_append (Kd.slice 2 (Kd.int .i64)) (w0:=w) w.heap.size rfl (.tmp 39) (.tmp 41) 32 24 (.slice none 0 0) 24 rfl Tryz.underlying32 info24 rfl (by decide) (by omega) u7 ag af [.slice ax af.length ay] (fun _=>True) (fun k_=>some k_=(.slice ax af.length ay:Value).ownBlock) rfl rfl ?aP (fun k_ hk_=>((Kd.R_mono (ok':=fun k_=>((fun _=>True)) k_∧some k_≠(u7:Value).ownBlock) (Kd.R_apart' (ai.out) (Kd.S_typed ah.out) (by decide)) (fun k_ hk=>⟨trivial,hk.2⟩))).1 k_ hk_.symm) ?aF ?aO ?aB ?aS ?aL ?_;(case aP=>exact Kd.M_row (Kd.R_mono (Kd.R_tight rfl (Kd.R_mono (ok':=fun k_=>((fun _=>True)) k_∧some k_≠(u7:Value).ownBlock) (Kd.R_apart' (ai.out) (Kd.S_typed ah.out) (by decide)) (fun k_ hk=>⟨trivial,hk.2⟩))) (fun _ h_=>h_)));(case aB=>exact hb_);(case aF=>exact(fun _ _=>trivial));(case aO=>exact(by(with_reducible repeat (first | apply Kd.S_alloc | apply Kd.S_drewN | apply Kd.S_drew));exact Kd.S_mono ah.out (fun k_ hk=>⟨trivial,fun e_=>hk e_⟩)));(case aS=>exact bz_);(case aL=>have:=aH.out;omega);intro aN w17 ho hb hg hat;rw [← aI.out] at ho;replace HB:=q_ (hb);have aJ:=q_ (ho);clear ah ai ho hb hg hat))
           go_roundg k2
           case measure=>have:=HK1.out;have:=HK2.out;omega
           case rel=>exact⟨(aw),(wrap64 (aa+1)),rs_,H',⟨by have:=HK1.out;have:=HK2.out;omega⟩,⟨so_ aJ.out⟩,⟨hb_⟩⟩
          ·rw [if_neg c16] at H;exact absurd H (by simp)
      ·replace c8:=Bool.eq_false_iff.mpr c8;subst c8;have H1:(impl_part.l0 k1 a1 a2 ag l0 (l0.length:Int) (wrap64 (aa+1)))=some r:=by rw [if_neg (show ¬ (false=true) by decide)] at H;exact H
       clear H;have H:=H1;clear H1;have H':=q_ H;clear H;have p575:0≤(aa:Int):=od_;have q575:aa < (l0.length:Int):=od_;obtain⟨az,ak,aq,e575,hx575_0,hl575_0,hi575_0⟩:=at_L3 HR0.out aa p575 q575;cases e575
       replace hx575_0:=(HB.out.cell (World.block_lt_of_cell? w _ hx575_0)).trans hx575_0;have HR575_0:=q_ hi575_0;have HC575_0:=q_ hl575_0;clear hi575_0 hl575_0;replace p575:=eq_true p575;replace q575:=eq_true q575
       go_wp2_with (first | ((with_reducible refine gate_callee (f:=53) rfl ?_);refine gL_ 22 Tryz.func53 #[.int .i64 a1, .int .i64 aa] ?_;(with_reducible refine(impl_has.calls a1 aa false _ A7.out).mono ?_);rintro e w' ⟨rfl,⟨nd,rfl⟩⟩;refine⟨_,rfl,?_⟩))
       go_roundg k1
       case measure=>have:=HK1.out;omega
       case rel=>exact⟨(ag),(wrap64 (aa+1)),rs_,H',⟨by have:=HK1.out;omega⟩,⟨so_ ah.out⟩,⟨hb_⟩⟩
     ·rw [if_neg c6] at H;exact absurd H (by simp)
    ·rw [if_neg c5] at H;exact absurd H (by simp)
   ·rw [if_neg c4] at H;have c4b0:=decide_eq_false c4;clear c4;obtain rfl:=Option.some.inj H;go_wp2
    go_ret
    exact⟨_,by first | rfl | (simp [errW_none,errW_some] <;> rfl) | (simp [*,errW_none,errW_some] <;> rfl),so_ ah.out,hb_⟩
def impl_minor.f (k:Nat) (l0:List (List Int)) (a1:Int):Option (Int):=(impl_part.f k l0 a1 a1).bind fun aa=>((impl_determinant.f aa).bind fun ae=>(some ae))
theorem impl_minor.mono: ∀a0 a1 k,LeO (impl_minor.f k a0 a1) (impl_minor.f (k+1) a0 a1):=by
 intro a0 a1 k
 unfold impl_minor.f
 repeat' first | (with_reducible first | exact impl_part.mono _ _ _ _ | exact LeO.refl _ | exact LeO.none _ | refine LeO.ite ?_ ?_ | refine LeO.bind ?_ (fun _=>?_)) | exact impl_part.mono _ _ _ _ | exact LeO.none _ | refine LeO.ite ?_ ?_ | refine LeO.bind ?_ (fun _=>?_)
theorem impl_minor.calls (k:Nat) (A0:Option Addr) (c0:Nat) (l0:List (List Int)) (a1:Int) (r:Int) (w:World) (hr0:Kd.C (Kd.slice 2 (Kd.int .i64)) w A0 l0.length l0) (hc0:l0.length≤c0) (h:impl_minor.f k l0 a1=some r):
  Calls Tryz.prog 162 #[.slice A0 l0.length c0, .int .i64 a1] w fun e w'=>e= .returned (.int .i64 r)∧Below w.heap.size w w':=by
 have HR0:=q_ hr0;have HC0:=q_ hc0;clear hr0 hc0;have HB:=q_ (Below.refl w.heap.size w);have H:((impl_part.f k l0 a1 a1).bind fun ae=>((impl_determinant.f ae).bind fun af=>(some af)))=some r:=h;clear h;replace H:=Option.bind_eq_some_iff.mp H;obtain⟨ae,A30,H⟩:=H;replace H:((impl_determinant.f ae).bind fun af=>(some af))=some r:=H;have A3:=q_ A30;clear A30;replace H:=Option.bind_eq_some_iff.mp H;obtain⟨af,A40,H⟩:=H;replace H:(some af)=some r:=H;have A4:=q_ A40;clear A40;obtain rfl:=Option.some.inj H
 go_enter Tryz.func162,Tryz.ntmps162
 go_wp2_with (first | ((with_reducible refine gate_callee (f:=148) rfl ?_);refine gL_ 8 Tryz.func148 #[.slice A0 l0.length c0, .int .i64 a1, .int .i64 a1] ?_;(with_reducible refine(impl_part.calls k _ _ l0 a1 a1 ae _ ?ag ?ah A3.out).mono ?_);(case ag=>repeat (first | exact HR0.out | (with_reducible refine Kd.C_alloc ?_ _) | (with_reducible refine Kd.C_drewN ?_ _) | (with_reducible refine Kd.C_drew ?_)));(case ah=>exact HC0.out);rintro e w5 ⟨aq,rfl,ho0,hb⟩;refine⟨_,rfl,?_⟩;have aa:=q_ (Kd.S_lower ho0 bz_);replace HB:=q_ (bs_ hb);(try clear hb);(try clear ho0);obtain⟨ai,aj,ak⟩:=Kd.S_slice aa.out;subst ak) | ((with_reducible refine gate_callee (f:=132) rfl ?_);refine gL_ 9 Tryz.func132 #[.slice ai ae.length aj] ?_;(with_reducible refine(impl_determinant.calls _ _ ae af _ ?ag ?ah A4.out).mono ?_);(case ag=>repeat (first | exact(Kd.S_reads' aa.out).2.2 | (with_reducible refine Kd.C_alloc ?_ _) | (with_reducible refine Kd.C_drewN ?_ _) | (with_reducible refine Kd.C_drew ?_)));(case ah=>exact(Kd.S_reads' aa.out).2.1);rintro e w7 ⟨rfl,hb⟩;refine⟨_,rfl,?_⟩;replace aa:=q_ (Kd.S_below (so_ aa.out) hb);replace HB:=q_ (bs_ hb);(try clear hb)))
 go_ret
 exact⟨by first | rfl | (simp [errW_none,errW_some] <;> rfl) | (simp [*,errW_none,errW_some] <;> rfl),hb_⟩
end Go.Proofs.YthmfdplckdijdaaGreat.Pr
end
section
namespace Go.Proofs.YthmfdplckdijdaaGreat.Cz
open Go.RowKit Go.Proofs.YthmfdplckdijdaaGreatW.PrintWords Go.Proofs.YthmfdplckdijdaaGreatW.PrintMore Go.Proofs.YthmfdplckdijdaaGreat.Ma Go.Proofs.YthmfdplckdijdaaGreat.Pr Go.Proofs.YthmfdplckdijdaaGreat.Dt Go.Proofs.YthmfdplckdijdaaGreat.Bz Go.Proofs.YthmfdplckdijdaaGreat.Un
def en (l:List (List Int)):Mat:=fun i j=>(l.getD i []).getD j 0
structure Sq (n:Nat) (l:List (List Int)):Prop where
 len:l.length=n
 row: ∀i,i < n→(l.getD i []).length=n
 num: ∀i j,i < n→j < n→(en l i j).natAbs≤20
theorem rdL1 (l:List (List Int)) (i:Nat):rd_L3 l (i:Int)=l.getD i []:=by simp [rd_L3]
def rw1 (m:Nat) (f:Nat→Int):List Int:=(List.range m).map f
theorem rw1_len (m:Nat) (f:Nat→Int):(rw1 m f).length=m:=by simp [rw1]
theorem rw1_succ (m:Nat) (f:Nat→Int):rw1 (m+1) f=rw1 m f++ [f m]:=by simp [rw1,List.range_succ]
def mk (r m:Nat) (f:Nat→Nat→Int):List (List Int):=(List.range r).map fun i=>rw1 m (f i)
theorem mk_len (r m:Nat) (f:Nat→Nat→Int):(mk r m f).length=r:=by simp [mk]
theorem mk_succ (r m:Nat) (f:Nat→Nat→Int):mk (r+1) m f=mk r m f++ [rw1 m (f r)]:=by simp [mk,List.range_succ]
theorem mk_row (r m:Nat) (f:Nat→Nat→Int) (i:Nat) (hi:i < r):(mk r m f).getD i []=rw1 m (f i):=by simp [mk,hi]
theorem mk_en (r m:Nat) (f:Nat→Nat→Int) (i j:Nat) (hi:i < r) (hj:j < m):en (mk r m f) i j=f i j:=by
 unfold en;rw [mk_row r m f i hi];simp [rw1,hj]
theorem mk_rows (r m:Nat) (f:Nat→Nat→Int): ∀x ∈ mk r m f,x.length=m:=by
 intro x hx
 obtain⟨i,_,rfl⟩:=List.mem_map.1 hx
 exact rw1_len _ _
def partL (l:List (List Int)) (R L:List Nat):List (List Int):=R.map fun i=>L.map fun j=>en l i j
theorem has_eq' (s:Int) (c:Nat) (hc:c < 64):impl_has.f s (c:Int)=some (bB s c):=by
 unfold impl_has.f
 rw [if_pos (by omega),shr_and_one s hc]
 congr 1
 cases hb:bB s c <;> simp
theorem impl_part_eq' {n:Nat} {l:List (List Int)} (hn:n≤5) (hl:l.length=n) (hrow: ∀i,i < n→(l.getD i []).length=n) (s:Int):Ev (fun k=>impl_part.f k l s s) (partL l (sel n (bB s)) (sel n (bB s))):=by
 have sel_succ (i:Nat):sel (i+1) (bB s)=if bB s i=true then sel i (bB s)++ [i] else sel i (bB s):=by
  unfold sel;rw [List.range_succ,List.filter_append]
  by_cases b:bB s i=true
  ·simp [b]
  ·simp [b]
 have sel_len (i:Nat):(sel i (bB s)).length≤i:=by unfold sel;have:=List.length_filter_le (bB s) (List.range i);simpa using this
 have rows: ∀q i,i+q=n→Ev (fun k=>impl_part.l0 k s s (partL l (sel i (bB s)) (sel n (bB s))) l (n:Int) i) (partL l (sel n (bB s)) (sel n (bB s))):=by
  intro q
  induction q with
  | zero=>
   intro i hi
   obtain rfl:i=n:=by omega
   exact evstep (fun k=>by rw [impl_part.l0]) (evneg (by omega) (evc rfl))
  | succ q ih=>
   intro i hi
   have nx:=ih (i+1) (by omega)
   rw [sel_succ] at nx
   have hr:=hrow i (by omega)
   refine evstep (fun k=>by rw [impl_part.l0]) (evpos (by omega) (evpos (by omega) (evpos (by omega) (evsome (has_eq' s i (by omega)) ?_))))
   rw [w64 (x:=(i:Int)+1) (by omega) (by omega)]
   by_cases b:bB s i=true
   ·refine evpos b ?_
    rw [if_pos b] at nx
    rw [rdL1]
    have cols: ∀p c,c+p=n→Ev (fun k=>impl_part.l1 k s s (partL l (sel i (bB s)) (sel n (bB s))) ((sel c (bB s)).map fun j=>en l i j) l (n:Int) i (l.getD i []) ((l.getD i []).length:Int) c) (partL l (sel n (bB s)) (sel n (bB s))):=by
     intro p
     induction p with
     | zero=>
      intro c hc
      obtain rfl:c=n:=by omega
      refine evstep (fun k=>by rw [impl_part.l1]) (evneg (by omega) (evpos ?_ ?_))
      ·unfold partL;rw [List.length_map];have:=sel_len i;omega
      ·rw [w64 (x:=(i:Int)+1) (by omega) (by omega)]
       unfold partL at nx ⊢
       rw [List.map_append] at nx
       exact nx
     | succ p ihp=>
      intro c hc
      have nx2:=ihp (c+1) (by omega)
      rw [sel_succ] at nx2
      refine evstep (fun k=>by rw [impl_part.l1]) (evpos (by omega) (evpos (by omega) (evpos (by omega) (evsome (has_eq' s c (by omega)) ?_))))
      rw [w64 (x:=(c:Int)+1) (by omega) (by omega)]
      by_cases b2:bB s c=true
      ·rw [if_pos b2,List.map_append] at nx2
       refine evpos b2 (evpos (by rw [List.length_map];have:=sel_len c;omega) ?_)
       rw [rd_nat]
       exact nx2
      ·rw [if_neg b2] at nx2
       exact evneg b2 nx2
    have:=cols n 0 (by omega)
    exact this
   ·rw [if_neg b] at nx
    exact evneg b nx
 have:=rows n 0 (by omega)
 unfold impl_part.f
 rw [hl]
 exact this
section
variable {n:Nat} {l:List (List Int)} (h:Sq n l) (hn:n≤5) (s:Int)
include h hn
theorem spec_cols:Ev (fun k=>spec_l01Columns.f k l s) (mk n n (colM (bB s) (en l))):=by
 have hl:=h.len
 have rows: ∀q i,i+q=n→Ev (fun k=>spec_l01Columns.l0 k l s (mk i n (colM (bB s) (en l))) i) (mk n n (colM (bB s) (en l))):=by
  intro q
  induction q with
  | zero=>
   intro i hi
   obtain rfl:i=n:=by omega
   exact evstep (fun k=>by rw [spec_l01Columns.l0]) (evneg (by omega) (evc rfl))
  | succ q ih=>
   intro i hi
   have nx:=ih (i+1) (by omega)
   have hr:=h.row i (by omega)
   have cols: ∀p c,c+p=n→Ev (fun k=>spec_l01Columns.l1 k l s (mk i n (colM (bB s) (en l))) i (rw1 c (colM (bB s) (en l) i)) c) (mk n n (colM (bB s) (en l))):=by
    intro p
    induction p with
    | zero=>
     intro c hc
     obtain rfl:c=n:=by omega
     refine evstep (fun k=>by rw [spec_l01Columns.l1]) (evneg (by omega) (evpos (by rw [mk_len];omega) ?_))
     rw [w64 (x:=(i:Int)+1) (by omega) (by omega), ← mk_succ]
     exact nx
    | succ p ihp=>
     intro c hc
     have nx2:=ihp (c+1) (by omega)
     rw [rw1_succ] at nx2
     have hnum:=h.num i c (by omega) (by omega)
     refine evstep (fun k=>by rw [spec_l01Columns.l1]) (evpos (by omega) ?_)
     rw [u64w (x:=(c:Int)) (by omega) (by omega),shr_and_one s (by omega)]
     refine evpos (by omega) ?_
     have ce:colM (bB s) (en l) i c=if bB s c=true then - en l i c else if i=c then 1 else 0:=rfl
     by_cases b:bB s c=true
     ·rw [if_pos b] at ce
      rw [ce] at nx2
      rw [rdL1]
      refine evpos (by rw [if_pos b]) (evpos (by omega) (evpos (by omega) (evpos (by omega) (evpos (by omega) (evpos (by rw [rw1_len];omega) ?_)))))
      rw [rd_nat,show (l.getD i []).getD c 0=en l i c from rfl,w64 (x:= - en l i c) (by omega) (by omega),w64 (x:=(c:Int)+1) (by omega) (by omega)]
      exact nx2
     ·rw [if_neg b] at ce
      refine evneg (by rw [if_neg b];decide) ?_
      rw [w64 (x:=(c:Int)+1) (by omega) (by omega)]
      by_cases e:i=c
      ·rw [if_pos e] at ce
       rw [ce] at nx2
       exact evpos (by omega) (evpos (by rw [rw1_len];omega) nx2)
      ·rw [if_neg e] at ce
       rw [ce] at nx2
       exact evneg (by omega) (evpos (by rw [rw1_len];omega) nx2)
   refine evstep (fun k=>by rw [spec_l01Columns.l0]) (evpos (by omega) ?_)
   exact cols n 0 (by omega)
 exact rows n 0 (by omega)
theorem has_eq (c:Nat) (hc:c < 64):impl_has.f s (c:Int)=some (bB s c):=by
 have _h:=h
 have _h2:=hn
 unfold impl_has.f
 rw [if_pos (by omega),shr_and_one s hc]
 congr 1
 cases hb:bB s c <;> simp
theorem impl_part_eq:Ev (fun k=>impl_part.f k l s s) (partL l (sel n (bB s)) (sel n (bB s))):=impl_part_eq' hn h.len h.row s
end
end Go.Proofs.YthmfdplckdijdaaGreat.Cz
end
section
namespace Go.Proofs.YthmfdplckdijdaaGreat.Pr
open Go.RowKit Go.Proofs.YthmfdplckdijdaaGreatW.PrintWords Go.Proofs.YthmfdplckdijdaaGreatW.PrintLast Go.Proofs.YthmfdplckdijdaaGreatW.PrintMore
attribute [local go_sem] max2_int min2_int max_two min_two max_three min_three max_four min_four
mutual
def spec_l01Matrix.j0:Nat→List (List Int)→Int→Bool→Option (Bool)
 | 0,_,_,_=>none
 | k+1,x0,x3,x13=>if x13=true then(some false) else(spec_l01Matrix.l0 k x0 x3 0)
def spec_l01Matrix.l0:Nat→List (List Int)→Int→Int→Option (Bool)
 | 0,_,_,_=>none
 | k+1,x0,x3,x4=>if x4 < x3 then(if 0≤x4 then(if x4 < (x0.length:Int) then(if((rd_L3 x0 x4).length:Int)=x3 then(spec_l01Matrix.l1 k x0 x3 x4 0) else(some false)) else(none)) else(none)) else(some true)
def spec_l01Matrix.l1:Nat→List (List Int)→Int→Int→Int→Option (Bool)
 | 0,_,_,_,_=>none
 | k+1,x0,x3,x4,x5=>if x5 < x3 then(if 0≤x4 then(if x4 < (x0.length:Int) then(if 0≤x5 then(if x5 < ((rd_L3 x0 x4).length:Int) then((spec_l01In.f (rd (rd_L3 x0 x4) x5) (-20) 20).bind fun aa=>(if aa=true then(spec_l01Matrix.l1 k x0 x3 x4 (wrap64 (x5+1))) else(some false))) else(none)) else(none)) else(none)) else(none)) else(spec_l01Matrix.l0 k x0 x3 (wrap64 (x4+1)))
end
def spec_l01Matrix.f (k:Nat) (l0:List (List Int)):Option (Bool):=if(l0.length:Int) < 1 then(spec_l01Matrix.j0 k l0 (l0.length:Int) true) else(spec_l01Matrix.j0 k l0 (l0.length:Int) (decide ((l0.length:Int) > 5)))
theorem spec_l01Matrix.mono_l: ∀k,(∀y0 y1 y2,LeO (spec_l01Matrix.j0 k y0 y1 y2) (spec_l01Matrix.j0 (k+1) y0 y1 y2))∧(∀y0 y1 y2,LeO (spec_l01Matrix.l0 k y0 y1 y2) (spec_l01Matrix.l0 (k+1) y0 y1 y2))∧(∀y0 y1 y2 y3,LeO (spec_l01Matrix.l1 k y0 y1 y2 y3) (spec_l01Matrix.l1 (k+1) y0 y1 y2 y3))
 | 0=>⟨fun _ _ _ r h=>by simp [spec_l01Matrix.j0] at h,fun _ _ _ r h=>by simp [spec_l01Matrix.l0] at h,fun _ _ _ _ r h=>by simp [spec_l01Matrix.l1] at h⟩
 | k+1=>by
  obtain⟨ih0,ih1,ih2⟩:=spec_l01Matrix.mono_l k
  refine⟨?_,?_,?_⟩<;>intros<;>(first | unfold spec_l01Matrix.j0 | unfold spec_l01Matrix.l0 | unfold spec_l01Matrix.l1)<;>(repeat' first | (with_reducible first | exact ih0 _ _ _ | exact ih1 _ _ _ | exact ih2 _ _ _ _ | exact LeO.refl _ | exact LeO.none _ | refine LeO.ite ?_ ?_ | refine LeO.bind ?_ (fun _=>?_)) | exact ih0 _ _ _ | exact ih1 _ _ _ | exact ih2 _ _ _ _ | exact LeO.none _ | refine LeO.ite ?_ ?_ | refine LeO.bind ?_ (fun _=>?_))
theorem spec_l01Matrix.mono: ∀a0 k,LeO (spec_l01Matrix.f k a0) (spec_l01Matrix.f (k+1) a0):=by
 intro a0 k
 obtain⟨ih0,ih1,ih2⟩:=spec_l01Matrix.mono_l k
 unfold spec_l01Matrix.f
 repeat' first | (with_reducible first | exact ih0 _ _ _ | exact ih1 _ _ _ | exact ih2 _ _ _ _ | exact LeO.refl _ | exact LeO.none _ | refine LeO.ite ?_ ?_ | refine LeO.bind ?_ (fun _=>?_)) | exact ih0 _ _ _ | exact ih1 _ _ _ | exact ih2 _ _ _ _ | exact LeO.none _ | refine LeO.ite ?_ ?_ | refine LeO.bind ?_ (fun _=>?_)
theorem spec_l01Matrix.calls (k:Nat) (A0:Option Addr) (c0:Nat) (l0:List (List Int)) (r:Bool) (w:World) (hr0:Kd.C (Kd.slice 2 (Kd.int .i64)) w A0 l0.length l0) (hc0:l0.length≤c0) (h:spec_l01Matrix.f k l0=some r):
  Calls Tryz.prog 81 #[.slice A0 l0.length c0] w fun e w'=>e= .returned (.bool r)∧Drawn0 w w':=by
 have HR0:=q_ hr0;have HC0:=q_ hc0;clear hr0 hc0;have H:(if(l0.length:Int) < 1 then(spec_l01Matrix.j0 k l0 (l0.length:Int) true) else(spec_l01Matrix.j0 k l0 (l0.length:Int) (decide ((l0.length:Int) > 5))))=some r:=h;clear h;have HC2:=q_ H;clear H
 go_enter Tryz.func81,Tryz.ntmps81
 go_upto_region 2 with (fail)
 go_cut [13] (fun v13 wc=> ∃(kq:Nat) (af:Bool),v13= .bool af∧Aside0 (spec_l01Matrix.j0 kq l0 (l0.length:Int) af=some r)∧Aside0 (kq≤k)∧Drawn0 w wc)
 case first=>
  have H:=HC2.out;clear HC2
  by_cases c3:(l0.length:Int) < 1
  ·rw [if_pos c3] at H;have c3b0:=decide_eq_true c3;have c3b1:decide (l0.length < 1)=true:=decide_eq_true (by omega);clear c3
   (first | rw [c3b0] | (simp only [i64_w,i32_w];rw [c3b0]) | skip)
   have H':=q_ H;clear H;go_wp2
   go_meet
   case rel=>exact⟨_,(true),(by first | rfl | (simp;done) | (simp [*];done)),H',⟨by first | omega | exact Nat.le_refl _⟩,by repeat (first | exact Drawn0.refl _ | apply Drawn0.step)⟩
  ·rw [if_neg c3] at H;have c3b0:=decide_eq_false c3;have c3b1:decide (l0.length < 1)=false:=decide_eq_false (by omega);clear c3
   (first | rw [c3b0] | (simp only [i64_w,i32_w];rw [c3b0]) | skip)
   have H':=q_ H;clear H;go_wp2
   go_meet
   case rel=>exact⟨_,(decide ((l0.length:Int) > 5)),(by first | rfl | (simp;done) | (simp [*];done)),H',⟨by first | omega | exact Nat.le_refl _⟩,by repeat (first | exact Drawn0.refl _ | apply Drawn0.step)⟩
 case rest=>
  clear HC2;(try clear c3b0);(try clear c3b1);obtain⟨kq,af,rfl,HA,HJ1,⟨mc1,rfl⟩⟩:=hcut;cases kq with
  | zero=>exact absurd HA.out (by simp [spec_l01Matrix.j0])
  | succ kj1=>
   have H:=HA.out;clear HA;simp only [spec_l01Matrix.j0] at H
   by_cases c4:af=true
   ·subst c4;have H1:(some false)=some r:=by rw [if_pos rfl] at H;exact H
    clear H;have H:=H1;clear H1;obtain rfl:=Option.some.inj H;go_wp2
    go_ret
    exact⟨by first | rfl | (simp;done) | (simp [*];done),by repeat (first | exact Drawn0.refl _ | apply Drawn0.step)⟩
   ·replace c4:=Bool.eq_false_iff.mpr c4;subst c4;have H1:(spec_l01Matrix.l0 kj1 l0 (l0.length:Int) 0)=some r:=by rw [if_neg (show ¬ (false=true) by decide)] at H;exact H
    clear H;have H:=H1;clear H1;have H':=q_ H;clear H;go_wp2
    go_loopg [4] kj1 (fun kq v4 w'=> ∃(aa:Int),v4= .int .i64 aa∧Aside0 (spec_l01Matrix.l0 kq l0 (l0.length:Int) aa=some r)∧Aside0 (kq≤kj1)∧Drawn0 w w')
    case atStart=>exact⟨(0),(by first | rfl | (simp;done) | (simp [*];done)),H',⟨Nat.le_refl _⟩,by repeat (first | exact Drawn0.refl _ | apply Drawn0.step)⟩
    case round=>
     clear H';(try clear c3b0);(try clear c3b1);(try clear c4);obtain⟨aa,rfl,HA,HK2,⟨m2,rfl⟩⟩:=hrel;cases gk with
     | zero=>exact absurd HA.out (by simp [spec_l01Matrix.l0])
     | succ k2=>
      have H:=HA.out;clear HA;simp only [spec_l01Matrix.l0] at H
      by_cases c5:aa < (l0.length:Int)
      ·rw [if_pos c5] at H;have c5b0:=decide_eq_true c5;clear c5
       by_cases c6:0≤aa
       ·rw [if_pos c6] at H;have c6b0:=decide_eq_true c6;clear c6
        by_cases c7:aa < (l0.length:Int)
        ·rw [if_pos c7] at H;have c7b0:=decide_eq_true c7;clear c7
         by_cases c8:((rd_L3 l0 aa).length:Int)=(l0.length:Int)
         ·rw [if_pos c8] at H;have c8b0:=e1_ c8;have c8b1:=e2_ c8;have c8b2:((rd_L3 l0 aa).length==l0.length)=true:=by first | simpa using c8 | (simp at c8 ⊢;omega)
          clear c8;have H':=q_ H;clear H;have p353:0≤(aa:Int):=of_decide_eq_true (by first | (with_reducible assumption) | assumption);have q353:aa < (l0.length:Int):=of_decide_eq_true (by first | (with_reducible assumption) | assumption);obtain⟨ag,ai,aj,e353,hx353_0,hl353_0,hi353_0⟩:=at_L3 HR0.out aa p353 q353;cases e353
          have HR353_0:=q_ hi353_0;have HC353_0:=q_ hl353_0;clear hi353_0 hl353_0;replace p353:=eq_true p353;replace q353:=eq_true q353;go_wp2
          go_loopg [5] k2 (fun kq v5 w'=> ∃(ae:Int),v5= .int .i64 ae∧Aside0 (spec_l01Matrix.l1 kq l0 (l0.length:Int) aa ae=some r)∧Aside0 (kq≤k2)∧Drawn0 w w')
          case atStart=>exact⟨(0),(by first | rfl | (simp;done) | (simp [*];done)),H',⟨Nat.le_refl _⟩,by repeat (first | exact Drawn0.refl _ | apply Drawn0.step)⟩
          case round=>
           clear H';(try clear c3b0);(try clear c3b1);(try clear c4);(try clear c5b0);(try clear c6);(try clear c6b0);(try clear c7);(try clear c7b0);(try clear c8);(try clear c8b0);(try clear c8b1);(try clear c8b2);(try clear hx353_0);(try clear p353);(try clear q353);obtain⟨ae,rfl,HA,HK3,⟨m3,rfl⟩⟩:=hrel;cases gk with
           | zero=>exact absurd HA.out (by simp [spec_l01Matrix.l1])
           | succ k3=>
            have H:=HA.out;clear HA;simp only [spec_l01Matrix.l1] at H
            by_cases c9:ae < (l0.length:Int)
            ·rw [if_pos c9] at H;have c9b0:=decide_eq_true c9;clear c9
             by_cases c10:0≤aa
             ·rw [if_pos c10] at H;have c10b0:=decide_eq_true c10;clear c10
              by_cases c11:aa < (l0.length:Int)
              ·rw [if_pos c11] at H;have c11b0:=decide_eq_true c11;clear c11
               by_cases c12:0≤ae
               ·rw [if_pos c12] at H;have c12b0:=decide_eq_true c12;clear c12
                by_cases c13:ae < ((rd_L3 l0 aa).length:Int)
                ·rw [if_pos c13] at H;have c13b0:=decide_eq_true c13;clear c13;replace H:=Option.bind_eq_some_iff.mp H;obtain⟨ak,A140,H⟩:=H;replace H:(if ak=true then(spec_l01Matrix.l1 k3 l0 (l0.length:Int) aa (wrap64 (ae+1))) else(some false))=some r:=H;have A14:=q_ A140;clear A140
                 by_cases c15:ak=true
                 ·subst c15;have H1:(spec_l01Matrix.l1 k3 l0 (l0.length:Int) aa (wrap64 (ae+1)))=some r:=by rw [if_pos rfl] at H;exact H
                  clear H;have H:=H1;clear H1;have H':=q_ H;clear H;have p354:0≤(aa:Int):=of_decide_eq_true (by first | (with_reducible assumption) | assumption);have q354:aa < (l0.length:Int):=of_decide_eq_true (by first | (with_reducible assumption) | assumption);obtain⟨ah,aq,au,e354,hx354_0,hl354_0,hi354_0⟩:=at_L3 HR0.out aa p354 q354;obtain rfl:ag=ah:=(by injection e354)
                  have HR354_0:=q_ hi354_0;have HC354_0:=q_ hl354_0;clear hi354_0 hl354_0;replace p354:=eq_true p354;replace q354:=eq_true q354;have p355:0≤(ae:Int):=of_decide_eq_true (by first | (with_reducible assumption) | assumption);have q355:ae < ((rd_L3 l0 aa).length:Int):=of_decide_eq_true (by first | (with_reducible assumption) | assumption);obtain⟨av,e355,hx355_0⟩:=Kd.at_int HR354_0.out ae p355 q355;cases e355
                  replace p355:=eq_true p355;replace q355:=eq_true q355
                  go_wp2_with (first | ((with_reducible refine gate_callee (f:=43) rfl ?_);refine goesL_ (some 38) rfl rfl Tryz.func43 (by kernel_rfl) rfl #[.int .i64 (rd (rd_L3 l0 aa) ae), .int .i64 (-20), .int .i64 20] rfl (by(try simp only [List.map_toArray,List.map_cons,List.map_nil]);first | done | rfl | (simp only [List.length_drop,List.length_take];rfl)) ?_;(with_reducible refine(spec_l01In.calls (rd (rd_L3 l0 aa) ae) (-20) 20 true _ A14.out).mono ?_);rintro e w' ⟨rfl,⟨nd,rfl⟩⟩;refine⟨_,rfl,?_⟩))
                  go_roundg k3
                  case measure=>have:=HJ1.out;have:=HK2.out;have:=HK3.out;omega
                  case rel=>exact⟨(wrap64 (ae+1)),(by first | rfl | (simp;done) | (simp [*];done)),H',⟨by have:=HJ1.out;have:=HK2.out;have:=HK3.out;omega⟩,by repeat (first | exact Drawn0.refl _ | apply Drawn0.step)⟩
                 ·replace c15:=Bool.eq_false_iff.mpr c15;subst c15;have H1:(some false)=some r:=by rw [if_neg (show ¬ (false=true) by decide)] at H;exact H
                  clear H;have H:=H1;clear H1;obtain rfl:=Option.some.inj H;have p354:0≤(aa:Int):=of_decide_eq_true (by first | (with_reducible assumption) | assumption);have q354:aa < (l0.length:Int):=of_decide_eq_true (by first | (with_reducible assumption) | assumption);obtain⟨ah,aq,au,e354,hx354_0,hl354_0,hi354_0⟩:=at_L3 HR0.out aa p354 q354;obtain rfl:ag=ah:=(by injection e354)
                  have HR354_0:=q_ hi354_0;have HC354_0:=q_ hl354_0;clear hi354_0 hl354_0;replace p354:=eq_true p354;replace q354:=eq_true q354;have p355:0≤(ae:Int):=of_decide_eq_true (by first | (with_reducible assumption) | assumption);have q355:ae < ((rd_L3 l0 aa).length:Int):=of_decide_eq_true (by first | (with_reducible assumption) | assumption);obtain⟨av,e355,hx355_0⟩:=Kd.at_int HR354_0.out ae p355 q355;cases e355
                  replace p355:=eq_true p355;replace q355:=eq_true q355
                  go_wp2_with (first | ((with_reducible refine gate_callee (f:=43) rfl ?_);refine goesL_ (some 38) rfl rfl Tryz.func43 (by kernel_rfl) rfl #[.int .i64 (rd (rd_L3 l0 aa) ae), .int .i64 (-20), .int .i64 20] rfl (by(try simp only [List.map_toArray,List.map_cons,List.map_nil]);first | done | rfl | (simp only [List.length_drop,List.length_take];rfl)) ?_;(with_reducible refine(spec_l01In.calls (rd (rd_L3 l0 aa) ae) (-20) 20 false _ A14.out).mono ?_);rintro e w' ⟨rfl,⟨nd,rfl⟩⟩;refine⟨_,rfl,?_⟩))
                  go_ret
                  exact⟨by first | rfl | (simp;done) | (simp [*];done),by repeat (first | exact Drawn0.refl _ | apply Drawn0.step)⟩
                ·rw [if_neg c13] at H;exact absurd H (by simp)
               ·rw [if_neg c12] at H;exact absurd H (by simp)
              ·rw [if_neg c11] at H;exact absurd H (by simp)
             ·rw [if_neg c10] at H;exact absurd H (by simp)
            ·rw [if_neg c9] at H;have c9b0:=decide_eq_false c9;clear c9;have H':=q_ H;clear H;go_wp2
             go_roundg k3
             case measure=>have:=HJ1.out;have:=HK2.out;have:=HK3.out;omega
             case rel=>exact⟨(wrap64 (aa+1)),(by first | rfl | (simp;done) | (simp [*];done)),H',⟨by have:=HJ1.out;have:=HK2.out;have:=HK3.out;omega⟩,by repeat (first | exact Drawn0.refl _ | apply Drawn0.step)⟩
         ·rw [if_neg c8] at H;have c8b0:=e3_ c8;have c8b1:=e4_ c8;have c8b2:((rd_L3 l0 aa).length==l0.length)=false:=by first | simpa using c8 | (simp at c8 ⊢;omega)
          obtain rfl:=Option.some.inj H;have p353:0≤(aa:Int):=of_decide_eq_true (by first | (with_reducible assumption) | assumption);have q353:aa < (l0.length:Int):=of_decide_eq_true (by first | (with_reducible assumption) | assumption);obtain⟨ag,ai,aj,e353,hx353_0,hl353_0,hi353_0⟩:=at_L3 HR0.out aa p353 q353;cases e353
          have HR353_0:=q_ hi353_0;have HC353_0:=q_ hl353_0;clear hi353_0 hl353_0;replace p353:=eq_true p353;replace q353:=eq_true q353;go_wp2
          go_ret
          exact⟨by first | rfl | (simp;done) | (simp [*];done),by repeat (first | exact Drawn0.refl _ | apply Drawn0.step)⟩
        ·rw [if_neg c7] at H;exact absurd H (by simp)
       ·rw [if_neg c6] at H;exact absurd H (by simp)
      ·rw [if_neg c5] at H;have c5b0:=decide_eq_false c5;clear c5;obtain rfl:=Option.some.inj H;go_wp2
       go_ret
       exact⟨by first | rfl | (simp;done) | (simp [*];done),by repeat (first | exact Drawn0.refl _ | apply Drawn0.step)⟩
mutual
def spec_l01Is.j0:Nat→Bool→List (List Int)→List Int→Option (Bool)
 | 0,_,_,_=>none
 | k+1,x16,ae,aa=>if x16=true then(some false) else(spec_l01Is.l0 k 0 ae aa)
def spec_l01Is.l0:Nat→Int→List (List Int)→List Int→Option (Bool)
 | 0,_,_,_=>none
 | k+1,x3,ae,aa=>if x3 < (aa.length:Int) then(if 0≤x3 then((spec_l01In.f (rd aa x3) (-100) 100).bind fun af=>(if af=true then(spec_l01Is.l0 k (wrap64 (x3+1)) ae aa) else(some false))) else(none)) else(some true)
end
def spec_l01Is.f (k:Nat) (aa:List (List Int)) (ae:List Int):Option (Bool):=(spec_l01Matrix.f k aa).bind fun af=>(if af=true then(spec_l01Is.j0 k ((ae.length:Int) !=(aa.length:Int)) aa ae) else(spec_l01Is.j0 k true aa ae))
theorem spec_l01Is.mono_l: ∀k,(∀y0 y1 y2,LeO (spec_l01Is.j0 k y0 y1 y2) (spec_l01Is.j0 (k+1) y0 y1 y2))∧(∀y0 y1 y2,LeO (spec_l01Is.l0 k y0 y1 y2) (spec_l01Is.l0 (k+1) y0 y1 y2))
 | 0=>⟨fun _ _ _ r h=>by simp [spec_l01Is.j0] at h,fun _ _ _ r h=>by simp [spec_l01Is.l0] at h⟩
 | k+1=>by
  obtain⟨ih0,ih1⟩:=spec_l01Is.mono_l k
  refine⟨?_,?_⟩<;>intros<;>(first | unfold spec_l01Is.j0 | unfold spec_l01Is.l0)<;>(repeat' first | (with_reducible first | exact ih0 _ _ _ | exact ih1 _ _ _ | exact spec_l01Matrix.mono _ _ | exact LeO.refl _ | exact LeO.none _ | refine LeO.ite ?_ ?_ | refine LeO.bind ?_ (fun _=>?_)) | exact ih0 _ _ _ | exact ih1 _ _ _ | exact spec_l01Matrix.mono _ _ | exact LeO.none _ | refine LeO.ite ?_ ?_ | refine LeO.bind ?_ (fun _=>?_))
theorem spec_l01Is.mono: ∀a0 a1 k,LeO (spec_l01Is.f k a0 a1) (spec_l01Is.f (k+1) a0 a1):=by
 intro a0 a1 k
 obtain⟨ih0,ih1⟩:=spec_l01Is.mono_l k
 unfold spec_l01Is.f
 repeat' first | (with_reducible first | exact ih0 _ _ _ | exact ih1 _ _ _ | exact spec_l01Matrix.mono _ _ | exact LeO.refl _ | exact LeO.none _ | refine LeO.ite ?_ ?_ | refine LeO.bind ?_ (fun _=>?_)) | exact ih0 _ _ _ | exact ih1 _ _ _ | exact spec_l01Matrix.mono _ _ | exact LeO.none _ | refine LeO.ite ?_ ?_ | refine LeO.bind ?_ (fun _=>?_)
theorem spec_l01Is.calls (k:Nat) (ai:Option Addr) (aj:Nat) (ae:List (List Int)) (ak:Option Addr) (aq:Nat) (aa:List Int) (r:Bool) (w:World) (aJ:Kd.C (Kd.slice 2 (Kd.int .i64)) w ai ae.length ae) (aK:ae.length≤aj) (aM:Kd.C (Kd.int .i64) w ak aa.length aa) (aN:aa.length≤aq) (h:spec_l01Is.f k ae aa=some r):
  Calls Tryz.prog 46 #[.agg #[.slice ai ae.length aj, .slice ak aa.length aq]] w fun e w'=>e= .returned (.bool r)∧Below w.heap.size w w':=by
 have hu34:=Tryz.underlying34;have HR0_0:=q_ aJ;have HC0_0:=q_ aK;clear aJ aK;have HR0_1:=q_ aM;have HC0_1:=q_ aN;clear aM aN;have HB:=q_ (Below.refl w.heap.size w);have H:((spec_l01Matrix.f k ae).bind fun av=>(if av=true then(spec_l01Is.j0 k ((aa.length:Int) !=(ae.length:Int)) ae aa) else(spec_l01Is.j0 k true ae aa)))=some r:=h;clear h;have HC2:=q_ H;clear H
 go_enter Tryz.func46,Tryz.ntmps46
 go_upto_region 1 with (first | ((with_reducible refine gate_dst (N:=1) rfl ?_);(try (refine gate_guard (by rfl) ?_;dsimp only));refine be_ 1 #[.slice ai ae.length aj, .slice ak aa.length aq] 34 ?_;intro ah hg w3 hbox hb;have af:=q_ (hbox);have bk:=q_ ((by rw [hg];exact bz_:w.heap.size≤ah));have bq:=q_ ((by rw [hg];exact bz_:w.heap.size≤ah));replace HB:=q_ (bs_ hb);clear hb hbox hg))
 (try simp only [Act.put,List.setIfInBounds_toArray,List.set_cons_zero,List.set_cons_succ])
 go_cut [16] (fun v16 wc=> ∃(kq:Nat) (au:Bool),v16= .bool au∧Aside0 (spec_l01Is.j0 kq au ae aa=some r)∧Aside0 (kq≤k)∧Aside0 (wc.heap[ah]?=some (.cells #[(.slice ai ae.length aj),(.slice ak aa.length aq)] 34 (0,0)))∧Aside0 (Below w.heap.size w wc))
 case first=>
  have H:=HC2.out;clear HC2;replace H:=Option.bind_eq_some_iff.mp H;obtain⟨av,A40,H⟩:=H;replace H:(if av=true then(spec_l01Is.j0 k ((aa.length:Int) !=(ae.length:Int)) ae aa) else(spec_l01Is.j0 k true ae aa))=some r:=H;have A4:=q_ A40;clear A40
  by_cases c5:av=true
  ·subst c5;have H1:(spec_l01Is.j0 k ((aa.length:Int) !=(ae.length:Int)) ae aa)=some r:=by rw [if_pos rfl] at H;exact H
   clear H;have H:=H1;clear H1;have H':=q_ H;clear H;have ay:=cz_ af 0;have az:=cz_ af 1;have aA:=blk_frozen af.out 0;have aC:=blk_frozen af.out 1
   go_wp2_with (first | ((with_reducible refine gate_callee (f:=81) rfl ?_);refine gL_ 6 Tryz.func81 #[.slice ai ae.length aj] ?_;(with_reducible refine(spec_l01Matrix.calls k _ _ ae true _ ?aw ?ax A4.out).mono ?_);(case aw=>exact cb_ HR0_0.out HB.out);(case ax=>exact HC0_0.out);rintro e w' ⟨rfl,⟨nd,rfl⟩⟩;refine⟨_,rfl,?_⟩))
   go_meet
   case rel=>exact⟨_,(((aa.length:Int) !=(ae.length:Int))),rs_,H',⟨by first | omega | exact Nat.le_refl _⟩,⟨bk_⟩,⟨hb_⟩⟩
  ·replace c5:=Bool.eq_false_iff.mpr c5;subst c5;have H1:(spec_l01Is.j0 k true ae aa)=some r:=by rw [if_neg (show ¬ (false=true) by decide)] at H;exact H
   clear H;have H:=H1;clear H1;have H':=q_ H;clear H;have aD:=cz_ af 0;have aG:=cz_ af 1;have aH:=blk_frozen af.out 0;have aI:=blk_frozen af.out 1
   go_wp2_with (first | ((with_reducible refine gate_callee (f:=81) rfl ?_);refine gL_ 6 Tryz.func81 #[.slice ai ae.length aj] ?_;(with_reducible refine(spec_l01Matrix.calls k _ _ ae false _ ?aw ?ax A4.out).mono ?_);(case aw=>exact cb_ HR0_0.out HB.out);(case ax=>exact HC0_0.out);rintro e w' ⟨rfl,⟨nd,rfl⟩⟩;refine⟨_,rfl,?_⟩))
   go_meet
   case rel=>exact⟨_,(true),rs_,H',⟨by first | omega | exact Nat.le_refl _⟩,⟨bk_⟩,⟨hb_⟩⟩
 case rest=>
  clear HC2;(try clear c5);(try clear ay);(try clear az);(try clear aD);(try clear aG);(try clear aA);(try clear aC);(try clear aH);(try clear aI);obtain⟨kq,au,rfl,HA,HJ1,af,HB⟩:=hcut;cases kq with
  | zero=>exact absurd HA.out (by simp [spec_l01Is.j0])
  | succ kj1=>
   have H:=HA.out;clear HA;simp only [spec_l01Is.j0] at H
   by_cases c8:au=true
   ·subst c8;have H1:(some false)=some r:=by rw [if_pos rfl] at H;exact H
    clear H;have H:=H1;clear H1;obtain rfl:=Option.some.inj H;go_wp2
    go_ret
    exact⟨by first | rfl | (simp [errW_none,errW_some] <;> rfl) | (simp [*,errW_none,errW_some] <;> rfl),hb_⟩
   ·replace c8:=Bool.eq_false_iff.mpr c8;subst c8;have H1:(spec_l01Is.l0 kj1 0 ae aa)=some r:=by rw [if_neg (show ¬ (false=true) by decide)] at H;exact H
    clear H;have H:=H1;clear H1;have H':=q_ H;clear H;go_wp2
    go_loopg [3] kj1 (fun kq v3 w'=> ∃(ag:Int),v3= .int .i64 ag∧Aside0 (spec_l01Is.l0 kq ag ae aa=some r)∧Aside0 (kq≤kj1)∧Aside0 (w'.heap[ah]?=some (.cells #[(.slice ai ae.length aj),(.slice ak aa.length aq)] 34 (0,0)))∧Aside0 (Below w.heap.size w w'))
    case atStart=>exact⟨(0),rs_,H',⟨Nat.le_refl _⟩,⟨bk_⟩,⟨hb_⟩⟩
    case round=>
     clear H';(try clear c5);(try clear c8);(try clear ay);(try clear az);(try clear aD);(try clear aG);(try clear aA);(try clear aC);(try clear aH);(try clear aI);obtain⟨ag,rfl,HA,HK2,af,HB⟩:=hrel;cases gk with
     | zero=>exact absurd HA.out (by simp [spec_l01Is.l0])
     | succ k2=>
      have H:=HA.out;clear HA;simp only [spec_l01Is.l0] at H
      by_cases c9:ag < (aa.length:Int)
      ·rw [if_pos c9] at H;have c9b0:=decide_eq_true c9;clear c9
       by_cases c10:0≤ag
       ·rw [if_pos c10] at H;have c10b0:=decide_eq_true c10;clear c10;replace H:=Option.bind_eq_some_iff.mp H;obtain⟨aQ,A110,H⟩:=H;replace H:(if aQ=true then(spec_l01Is.l0 k2 (wrap64 (ag+1)) ae aa) else(some false))=some r:=H;have A11:=q_ A110;clear A110
        by_cases c12:aQ=true
        ·subst c12;have H1:(spec_l01Is.l0 k2 (wrap64 (ag+1)) ae aa)=some r:=by rw [if_pos rfl] at H;exact H
         clear H;have H:=H1;clear H1;have H':=q_ H;clear H;have aU:=cz_ af 0;have aV:=cz_ af 1;have aW:=blk_frozen af.out 0;have aX:=blk_frozen af.out 1;have p359:0≤(ag:Int):=od_;have q359:ag < (aa.length:Int):=od_;obtain⟨aT,e359,hx359_0⟩:=Kd.at_int HR0_1.out ag p359 q359;cases e359
         replace hx359_0:=(HB.out.cell (World.block_lt_of_cell? w _ hx359_0)).trans hx359_0;replace p359:=eq_true p359;replace q359:=eq_true q359
         go_wp2_with (first | ((with_reducible refine gate_callee (f:=43) rfl ?_);refine gL_ 29 Tryz.func43 #[.int .i64 (rd aa ag), .int .i64 (-100), .int .i64 100] ?_;(with_reducible refine(spec_l01In.calls (rd aa ag) (-100) 100 true _ A11.out).mono ?_);rintro e w' ⟨rfl,⟨nd,rfl⟩⟩;refine⟨_,rfl,?_⟩))
         go_roundg k2
         case measure=>have:=HJ1.out;have:=HK2.out;omega
         case rel=>exact⟨(wrap64 (ag+1)),rs_,H',⟨by have:=HJ1.out;have:=HK2.out;omega⟩,⟨bk_⟩,⟨hb_⟩⟩
        ·replace c12:=Bool.eq_false_iff.mpr c12;subst c12;have H1:(some false)=some r:=by rw [if_neg (show ¬ (false=true) by decide)] at H;exact H
         clear H;have H:=H1;clear H1;obtain rfl:=Option.some.inj H;have aY:=cz_ af 0;have aZ:=cz_ af 1;have a9:=blk_frozen af.out 0;have ba:=blk_frozen af.out 1;have p359:0≤(ag:Int):=od_;have q359:ag < (aa.length:Int):=od_;obtain⟨aT,e359,hx359_0⟩:=Kd.at_int HR0_1.out ag p359 q359;cases e359
         replace hx359_0:=(HB.out.cell (World.block_lt_of_cell? w _ hx359_0)).trans hx359_0;replace p359:=eq_true p359;replace q359:=eq_true q359
         go_wp2_with (first | ((with_reducible refine gate_callee (f:=43) rfl ?_);refine gL_ 29 Tryz.func43 #[.int .i64 (rd aa ag), .int .i64 (-100), .int .i64 100] ?_;(with_reducible refine(spec_l01In.calls (rd aa ag) (-100) 100 false _ A11.out).mono ?_);rintro e w' ⟨rfl,⟨nd,rfl⟩⟩;refine⟨_,rfl,?_⟩))
         go_ret
         exact⟨by first | rfl | (simp [errW_none,errW_some] <;> rfl) | (simp [*,errW_none,errW_some] <;> rfl),hb_⟩
       ·rw [if_neg c10] at H;exact absurd H (by simp)
      ·rw [if_neg c9] at H;have c9b0:=decide_eq_false c9;clear c9;obtain rfl:=Option.some.inj H;have bf:=cz_ af 0;have bg:=cz_ af 1;have bh:=blk_frozen af.out 0;have bi:=blk_frozen af.out 1;go_wp2
       go_ret
       exact⟨by first | rfl | (simp [errW_none,errW_some] <;> rfl) | (simp [*,errW_none,errW_some] <;> rfl),hb_⟩
end Go.Proofs.YthmfdplckdijdaaGreat.Pr
end
section
namespace Go.Proofs.YthmfdplckdijdaaGreat.Pr
open Go.RowKit Go.Proofs.YthmfdplckdijdaaGreatW.PrintWords Go.Proofs.YthmfdplckdijdaaGreatW.PrintLast Go.Proofs.YthmfdplckdijdaaGreatW.PrintMore
def badL (k:Int) (row:List Int):Bool:=(row.length:Int) !=k
theorem isSquare1 (gb:Nat) (k:Int) (A:Option Addr) (c:Nat) (x:List Int) (w:World) (hb:w.cell? ⟨gb,0,none⟩=some (.int .i64 k)):
  Calls Tryz.prog 140 (#[.slice A x.length c]++ #[.pointer (some ⟨gb,0,none⟩)]) w fun e w'=>e= .returned (.bool (badL k x))∧Below w.heap.size w w':=by
 unfold badL
 show Calls Tryz.prog 140 #[.slice A x.length c, .pointer (some ⟨gb,0,none⟩)] w _
 by_cases e:(x.length:Int)=k
 ·have h1:((x.length:Int) !=k)=false:=by simp [e]
  have h2:((x.length:Int)==k)=true:=by simp [e]
  clear e
  go_enter Tryz.func140,Tryz.ntmps140
  go_wp2
  go_ret
  exact⟨by rw [h1];rfl,Below.refl _ _⟩
 ·have h1:((x.length:Int) !=k)=true:=by simp [e]
  have h2:((x.length:Int)==k)=false:=by simp [e]
  clear e
  go_enter Tryz.func140,Tryz.ntmps140
  go_wp2
  go_ret
  exact⟨by rw [h1];rfl,Below.refl _ _⟩
theorem isSquare1_enters: ∀args w,(callFunc 140 args).run Tryz.prog w= .ok (.enter 140 args) w:=enters_fn Tryz.func140 (by kernel_rfl) rfl
def impl_isSquare.f (l0:List (List Int)) (a1:Int):Option Bool:=some (((l0.length:Int)==a1) && !(l0.any (badL a1)))
theorem impl_isSquare.calls (A0:Option Addr) (c0:Nat) (l0:List (List Int)) (a1:Int) (r:Bool) (w:World) (hr0:Kd.C (Kd.slice 2 (Kd.int .i64)) w A0 l0.length l0) (hc0:l0.length≤c0) (h:impl_isSquare.f l0 a1=some r):
  Calls Tryz.prog 90 #[.slice A0 l0.length c0, .int .i64 a1] w fun e w'=>e= .returned (.bool r)∧Below w.heap.size w w':=by
 have HR:=q_ hr0;clear hr0 hc0;have hv:=(Option.some.inj h)
 clear h
 by_cases e:(l0.length:Int)=a1
 ·have h1:((l0.length:Int)==a1)=true:=by simp [e]
  rw [h1,Bool.true_and] at hv;have HV:=q_ hv;clear hv e;have hcall:=fun(gb:Nat) W (hW:Below w.heap.size w W) (hgb:gb < W.heap.size) (hcell:W.cell? ⟨gb,0,none⟩=some (.int .i64 a1))=>
   containsFuncRows (badL a1) 140 #[.pointer (some ⟨gb,0,none⟩)] isSquare1_enters A0 c0 l0 W (Kd.C_below HR.out hW)
    (fun W' A c x _ hb _ hC=>isSquare1 gb a1 A c x W' ((hb.cell (p:=⟨gb,0,none⟩) hgb).trans hcell))
  have HC:=q_ hcall;clear hcall
  generalize l0.any (badL a1)=b at HC HV
  go_enter Tryz.func90,Tryz.ntmps90
  go_wp2_with fail
  refine(HC.out _ _ ((Below.refl _ _).alloc (Nat.le_refl _) _) (by simp) (by simp)).mono ?_
  rintro e w' ⟨rfl,hb'⟩;go_wp2
  go_ret
  exact⟨by rw [← HV.out];rfl,((Below.refl _ _).alloc (Nat.le_refl _) _).trans (hb'.mono (by simp))⟩
 ·have h1:((l0.length:Int)==a1)=false:=by simp [e]
  rw [h1,Bool.false_and] at hv;have HV:=q_ hv;clear hv e
  go_enter Tryz.func90,Tryz.ntmps90
  go_wp2
  go_ret
  exact⟨by rw [← HV.out];rfl,(Below.refl _ _).alloc (Nat.le_refl _) _⟩
end Go.Proofs.YthmfdplckdijdaaGreat.Pr
end
section
namespace Go.Proofs.YthmfdplckdijdaaGreat.Pr
open Go.RowKit Go.Proofs.YthmfdplckdijdaaGreatW.PrintWords Go.Proofs.YthmfdplckdijdaaGreatW.PrintLast Go.Proofs.YthmfdplckdijdaaGreatW.PrintMore
def IntsPred (g:Nat) (lb:Array Value) (p:Int→Bool) (w:World) (l:List Int):Prop:=
 ∀(W:World) (x:Int),x ∈ l→Below w.heap.size w W→Calls Tryz.prog g (#[.int .i64 x]++lb) W fun e w'=>e= .returned (.bool (p x))∧Below W.heap.size W w'
theorem indexFuncInts (p:Int→Bool) (g:Nat) (lb:Array Value) (eg: ∀args w,(callFunc g args).run Tryz.prog w= .ok (.enter g args) w) (A:Option Addr) (c:Nat) (l:List Int) (w:World)
  (hr:Kd.C (Kd.int .i64) w A l.length l) (hp:IntsPred g lb p w l):
  Calls Tryz.prog 139 #[.slice A l.length c, .func (.func g) #[] lb] w fun e w'=>e= .returned (.int .i64 (idxP p l 0))∧Below w.heap.size w w':=by
 have HR:=q_ hr;have HP:=q_ hp;have hbig:l.length≤9223372036854775807:=hr.2.1;clear hr hp
 go_enter Tryz.func139,Tryz.ntmps139
 go_wp2
 go_loopg [5,8] l.length (fun gg _ s8 wr=> ∃kk:Nat,kk≤l.length∧l.length - kk≤gg∧s8= .int .i64 kk∧Aside0 (Below w.heap.size w wr)∧Aside0 (∀j (hj:j < l.length),j < kk→p l[j]=false))
 case atStart=>exact⟨0,Nat.zero_le _,by omega,rfl,⟨Below.refl _ w⟩,⟨fun j _ hj=>absurd hj (Nat.not_lt_zero _)⟩⟩
 case round=>
  obtain⟨kk,hkk,hg,rfl,BW,F⟩:=hrel
  by_cases hlt:kk < l.length
  ·obtain⟨ad,e,hx⟩:=Kd.at_int HR.out kk (by omega) (by omega);cases e
   rw [Int.toNat_natCast] at hx;have hx':=(BW.out.cell (World.block_lt_of_cell? w _ hx)).trans hx;clear hx;have hel:rd l (kk:Int)=l[kk]:=by simp [rd,hlt]
   have hcall:=HP.out wr l[kk] (List.getElem_mem hlt) BW.out;rw [hel] at hx';clear hel;have hltz:(kk:Int) < (l.length:Int):=by omega
   have h0z:(0:Int)≤(kk:Int):=by omega
   generalize hy:l[kk]=y at hx' hcall
   have HY:=q_ hy;clear hy;cases hq:p y with
   | true=>
    rw [hq] at hcall;have HQ:=q_ hq;clear hq
    go_wp2_with fail
    refine hcall.mono ?_
    rintro e w' ⟨rfl,hb'⟩;clear hcall;go_wp2
    go_ret
    refine⟨?_,Below.trans BW.out (hb'.mono BW.out.size)⟩
    rw [idxP_hit p l kk hlt F.out (by rw [HY.out];exact HQ.out)]
    rfl
   | false=>
    rw [hq] at hcall;have HQ:=q_ hq;clear hq
    go_wp2_with fail
    refine hcall.mono ?_
    rintro e w' ⟨rfl,hb'⟩;clear hcall;go_wp2
    go_roundg (l.length - (kk+1))
    case measure=>omega
    case rel=>
     refine⟨kk+1,by omega,by omega,by go_num,⟨Below.trans BW.out (hb'.mono BW.out.size)⟩,⟨fun j hj hjk=>?_⟩⟩
     by_cases e:j=kk
     ·subst e;rw [HY.out];exact HQ.out
     ·exact F.out j hj (by omega)
  ·have hltz: ¬ (kk:Int) < (l.length:Int):=by omega
   obtain rfl:kk=l.length:=by omega
   go_wp2
   go_ret
   refine⟨?_,BW.out⟩
   rw [idxP_miss p l (fun i hi=>F.out i hi hi)]
   rfl
theorem containsFuncInts (p:Int→Bool) (g:Nat) (lb:Array Value) (eg: ∀args w,(callFunc g args).run Tryz.prog w= .ok (.enter g args) w) (A:Option Addr) (c:Nat) (l:List Int) (w:World)
  (hr:Kd.C (Kd.int .i64) w A l.length l) (hp:IntsPred g lb p w l):
  Calls Tryz.prog 88 #[.slice A l.length c, .func (.func g) #[] lb] w fun e w'=>e= .returned (.bool (l.any p))∧Below w.heap.size w w':=by
 rw [← idxP_nonneg p l 0 (Int.le_refl _)];have HR:=q_ hr;have HP:=q_ hp;clear hr hp
 go_enter Tryz.func88,Tryz.ntmps88
 go_wp2_with fail
 refine(indexFuncInts p g lb eg A c l _ HR.out HP.out).mono ?_
 rintro e w' ⟨rfl,hb'⟩;go_wp2
 go_ret
 exact⟨rfl,hb'⟩
end Go.Proofs.YthmfdplckdijdaaGreat.Pr
end
section
namespace Go.Proofs.YthmfdplckdijdaaGreat.Pr
open Go.RowKit Go.Proofs.YthmfdplckdijdaaGreatW.PrintWords Go.Proofs.YthmfdplckdijdaaGreatW.PrintLast Go.Proofs.YthmfdplckdijdaaGreatW.PrintMore
attribute [local go_sem] max2_int min2_int max_two min_two max_three min_three max_four min_four
def impl_upTo.f (a0:Int) (a1:Int):Option (Bool):=(impl_within.f a0 (wrap64 (-a1)) a1).bind fun aa=>(some aa)
theorem impl_upTo.calls (a0:Int) (a1:Int) (r:Bool) (w:World) (h:impl_upTo.f a0 a1=some r):
  Calls Tryz.prog 117 #[.int .i64 a0, .int .i64 a1] w fun e w'=>e= .returned (.bool r)∧Drawn0 w w':=by
 have H:((impl_within.f a0 (wrap64 (-a1)) a1).bind fun aa=>(some aa))=some r:=h;clear h;replace H:=Option.bind_eq_some_iff.mp H;obtain⟨aa,A30,H⟩:=H;replace H:(some aa)=some r:=H;have A3:=q_ A30;clear A30;obtain rfl:=Option.some.inj H
 go_enter Tryz.func117,Tryz.ntmps117
 go_wp2_with (first | ((with_reducible refine gate_callee (f:=39) rfl ?_);refine gL_ 9 Tryz.func39 #[.int .i64 a0, .int .i64 (wrap64 (-a1)), .int .i64 a1] ?_;(with_reducible refine(impl_within.calls a0 (wrap64 (-a1)) a1 aa _ A3.out).mono ?_);rintro e w' ⟨rfl,⟨nd,rfl⟩⟩;refine⟨_,rfl,?_⟩))
 go_ret
 exact⟨by first | rfl | (simp;done) | (simp [*];done),by repeat (first | exact Drawn0.refl _ | apply Drawn0.step)⟩
end Go.Proofs.YthmfdplckdijdaaGreat.Pr
end
section
namespace Go.Proofs.YthmfdplckdijdaaGreat.Pr
open Go.RowKit Go.Proofs.YthmfdplckdijdaaGreatW.PrintWords Go.Proofs.YthmfdplckdijdaaGreatW.PrintLast Go.Proofs.YthmfdplckdijdaaGreatW.PrintMore
def badU (a n:Int):Bool:=!(decide (-a≤n) && decide (n≤a))
theorem upTo_f (n a:Int) (h0:0≤a) (h1:a≤1099511627776):impl_upTo.f n a=some (!(badU a n)):=by
 unfold impl_upTo.f impl_within.f badU
 rw [Ma.w64 (by omega) (by omega),Bool.not_not]
 by_cases h: -a≤n
 ·rw [if_pos (by omega)];simp [h]
 ·rw [if_neg (by omega)];simp [h]
theorem allUpTo1 (gb:Nat) (a n:Int) (w:World) (h0:0≤a) (h1:a≤1099511627776) (hb:w.cell? ⟨gb,0,none⟩=some (.int .i64 a)):
  Calls Tryz.prog 130 (#[.int .i64 n]++ #[.pointer (some ⟨gb,0,none⟩)]) w fun e w'=>e= .returned (.bool (badU a n))∧Below w.heap.size w w':=by
 have hf:=upTo_f n a h0 h1;have HF:=q_ hf;clear hf h0 h1
 show Calls Tryz.prog 130 #[.int .i64 n, .pointer (some ⟨gb,0,none⟩)] w _
 generalize badU a n=b at HF ⊢
 go_enter Tryz.func130,Tryz.ntmps130
 go_wp2_with fail
 refine(impl_upTo.calls n a _ _ HF.out).mono ?_
 rintro e w' ⟨rfl,⟨nd,rfl⟩⟩;go_wp2
 go_ret
 refine⟨by simp,pw_below_drewN (Below.refl _ _) _⟩
theorem allUpTo1_enters: ∀args w,(callFunc 130 args).run Tryz.prog w= .ok (.enter 130 args) w:=enters_fn Tryz.func130 (by kernel_rfl) rfl
def impl_allUpTo.f (l0:List Int) (a1:Int):Option Bool:=if 0≤a1∧a1≤1099511627776 then some (!(l0.any (badU a1))) else none
theorem impl_allUpTo.calls (A0:Option Addr) (c0:Nat) (l0:List Int) (a1:Int) (r:Bool) (w:World) (hr0:Kd.C (Kd.int .i64) w A0 l0.length l0) (hc0:l0.length≤c0) (h:impl_allUpTo.f l0 a1=some r):
  Calls Tryz.prog 83 #[.slice A0 l0.length c0, .int .i64 a1] w fun e w'=>e= .returned (.bool r)∧Below w.heap.size w w':=by
 unfold impl_allUpTo.f at h
 split at h
 case isFalse=>cases h
 rename_i ha
 have HR:=q_ hr0;clear hr0 hc0;have HV:=q_ (Option.some.inj h);clear h;have hcall:=fun(gb:Nat) W (hW:Below w.heap.size w W) (hgb:gb < W.heap.size) (hcell:W.cell? ⟨gb,0,none⟩=some (.int .i64 a1))=>
  containsFuncInts (badU a1) 130 #[.pointer (some ⟨gb,0,none⟩)] allUpTo1_enters A0 c0 l0 W (Kd.C_below HR.out hW)
   (fun W' x _ hb=>allUpTo1 gb a1 x W' ha.1 ha.2 ((hb.cell (p:=⟨gb,0,none⟩) hgb).trans hcell))
 have HC:=q_ hcall;clear hcall ha
 generalize l0.any (badU a1)=b at HC HV
 go_enter Tryz.func83,Tryz.ntmps83
 go_wp2_with fail
 refine(HC.out _ _ ((Below.refl _ _).alloc (Nat.le_refl _) _) (by simp) (by simp)).mono ?_
 rintro e w' ⟨rfl,hb'⟩;go_wp2
 go_ret
 exact⟨by rw [← HV.out];rfl,((Below.refl _ _).alloc (Nat.le_refl _) _).trans (hb'.mono (by simp))⟩
end Go.Proofs.YthmfdplckdijdaaGreat.Pr
end
section
namespace Go.Proofs.YthmfdplckdijdaaGreat.Pr
open Go.RowKit Go.Proofs.YthmfdplckdijdaaGreatW.PrintWords Go.Proofs.YthmfdplckdijdaaGreatW.PrintLast Go.Proofs.YthmfdplckdijdaaGreatW.PrintMore
def badM (row:List Int):Bool:=row.any (badU 20)
theorem isMatrix1 (A:Option Addr) (c:Nat) (x:List Int) (w:World) (hx:Kd.C (Kd.int .i64) w A x.length x) (hc:x.length≤c):
  Calls Tryz.prog 92 (#[.slice A x.length c]++ #[]) w fun e w'=>e= .returned (.bool (badM x))∧Below w.heap.size w w':=by
 have HX:=q_ hx;have HC:=q_ hc;have hf:impl_allUpTo.f x 20=some (!(badM x)):=by unfold impl_allUpTo.f badM;rw [if_pos ⟨by decide,by decide⟩]
 have HF:=q_ hf;clear hx hc hf
 show Calls Tryz.prog 92 #[.slice A x.length c] w _
 generalize badM x=b at HF ⊢
 go_enter Tryz.func92,Tryz.ntmps92
 go_wp2_with fail
 refine(impl_allUpTo.calls A c x 20 _ _ HX.out HC.out HF.out).mono ?_
 rintro e w' ⟨rfl,hb⟩;go_wp2
 go_ret
 exact⟨by simp,hb⟩
theorem isMatrix1_enters: ∀args w,(callFunc 92 args).run Tryz.prog w= .ok (.enter 92 args) w:=enters_fn Tryz.func92 (by kernel_rfl) rfl
def impl_IsMatrix.f (l0:List (List Int)):Option Bool:=some ((decide (1≤(l0.length:Int)) && decide ((l0.length:Int)≤5)) && !(l0.any (badL l0.length)) && !(l0.any badM))
theorem within_b (n a b:Int):impl_within.f n a b=some (decide (a≤n) && decide (n≤b)):=by
 unfold impl_within.f
 by_cases h:a≤n
 ·rw [if_pos (by omega)];simp [h]
 ·rw [if_neg (by omega)];simp [h]
theorem impl_IsMatrix.calls (A0:Option Addr) (c0:Nat) (l0:List (List Int)) (r:Bool) (w:World) (hr0:Kd.C (Kd.slice 2 (Kd.int .i64)) w A0 l0.length l0) (hc0:l0.length≤c0) (h:impl_IsMatrix.f l0=some r):
  Calls Tryz.prog 58 #[.slice A0 l0.length c0] w fun e w'=>e= .returned (.bool r)∧Below w.heap.size w w':=by
 have HR:=q_ hr0;have HC0:=q_ hc0;have HW:=q_ (within_b (l0.length:Int) 1 5);have hsq:impl_isSquare.f l0 (l0.length:Int)=some (!(l0.any (badL l0.length))):=by unfold impl_isSquare.f;simp
 have HS:=q_ hsq;have hv:=(Option.some.inj h)
 have hcall:=fun W (hW:Below w.heap.size w W)=>containsFuncRows badM 92 #[] isMatrix1_enters A0 c0 l0 W (Kd.C_below HR.out hW) (fun W' A c x _ _ hc hC=>isMatrix1 A c x W' hC hc)
 have HC:=q_ hcall;have HV:=q_ hv;clear hr0 hc0 h hsq hv hcall
 generalize l0.any badM=b3 at HC HV
 generalize l0.any (badL l0.length)=b2 at HS HV
 generalize (decide (1≤(l0.length:Int)) && decide ((l0.length:Int)≤5))=b1 at HW HV
 go_enter Tryz.func58,Tryz.ntmps58
 go_wp2_with fail
 refine(impl_within.calls _ 1 5 _ _ HW.out).mono ?_
 rintro e w1 ⟨rfl,hd⟩;have hb1:=hd.below;have HB1:=q_ hb1;clear hb1 hd;cases b1 with
 | false=>
  go_wp2
  go_ret
  exact⟨by rw [← HV.out];rfl,HB1.out⟩
 | true=>
  go_wp2_with fail
  refine(impl_isSquare.calls A0 c0 l0 _ _ _ (Kd.C_below HR.out HB1.out) HC0.out HS.out).mono ?_
  rintro e w2 ⟨rfl,hb2⟩;have HB2:=q_ (HB1.out.trans (hb2.mono HB1.out.size));clear hb2;cases b2 with
  | true=>
   go_wp2
   go_ret
   exact⟨by rw [← HV.out];rfl,HB2.out⟩
  | false=>
   go_wp2_with fail
   refine(HC.out _ HB2.out).mono ?_
   rintro e w3 ⟨rfl,hb3⟩;go_wp2
   go_ret
   exact⟨by rw [← HV.out];simp,HB2.out.trans (hb3.mono HB2.out.size)⟩
end Go.Proofs.YthmfdplckdijdaaGreat.Pr
end
section
namespace Go.Proofs.YthmfdplckdijdaaGreat.Pr
open Go.RowKit Go.Proofs.YthmfdplckdijdaaGreatW.PrintWords Go.Proofs.YthmfdplckdijdaaGreatW.PrintLast Go.Proofs.YthmfdplckdijdaaGreatW.PrintMore
attribute [local go_sem] max2_int min2_int max_two min_two max_three min_three max_four min_four
def impl_IsProblem.f (aa:List (List Int)) (ae:List Int):Option (Bool):=(impl_IsMatrix.f aa).bind fun af=>(if af=true then(if(ae.length:Int)=(aa.length:Int) then((impl_allUpTo.f ae 100).bind fun ag=>(some ag)) else(some false)) else(some false))
theorem impl_IsProblem.calls (ah:Option Addr) (ai:Nat) (ae:List (List Int)) (aj:Option Addr) (ak:Nat) (af:List Int) (r:Bool) (w:World) (ax:Kd.C (Kd.slice 2 (Kd.int .i64)) w ah ae.length ae) (ay:ae.length≤ai) (az:Kd.C (Kd.int .i64) w aj af.length af) (aA:af.length≤ak) (h:impl_IsProblem.f ae af=some r):
  Calls Tryz.prog 48 #[.agg #[.slice ah ae.length ai, .slice aj af.length ak]] w fun e w'=>e= .returned (.bool r)∧Below w.heap.size w w':=by
 have hu34:=Tryz.underlying34;have HR0_0:=q_ ax;have HC0_0:=q_ ay;clear ax ay;have HR0_1:=q_ az;have HC0_1:=q_ aA;clear az aA;have HB:=q_ (Below.refl w.heap.size w);have H:((impl_IsMatrix.f ae).bind fun aw=>(if aw=true then(if(af.length:Int)=(ae.length:Int) then((impl_allUpTo.f af 100).bind fun av=>(some av)) else(some false)) else(some false)))=some r:=h;clear h;replace H:=Option.bind_eq_some_iff.mp H;obtain⟨aw,A20,H⟩:=H;replace H:(if aw=true then(if(af.length:Int)=(ae.length:Int) then((impl_allUpTo.f af 100).bind fun av=>(some av)) else(some false)) else(some false))=some r:=H;have A2:=q_ A20;clear A20
 by_cases c3:aw=true
 ·subst c3;have H1:(if(af.length:Int)=(ae.length:Int) then((impl_allUpTo.f af 100).bind fun av=>(some av)) else(some false))=some r:=by rw [if_pos rfl] at H;exact H
  clear H;have H:=H1;clear H1
  by_cases c4:(af.length:Int)=(ae.length:Int)
  ·rw [if_pos c4] at H;have c4b0:=e1_ c4;have c4b1:=e2_ c4;have c4b2:(af.length==ae.length)=true:=by first | simpa using c4 | (simp at c4 ⊢;omega)
   clear c4;replace H:=Option.bind_eq_some_iff.mp H;obtain⟨av,A50,H⟩:=H;replace H:(some av)=some r:=H;have A5:=q_ A50;clear A50;obtain rfl:=Option.some.inj H
   go_enter Tryz.func48,Tryz.ntmps48
   go_wp2_with (first | ((with_reducible refine gate_dst (N:=1) rfl ?_);(try (refine gate_guard (by rfl) ?_;dsimp only));refine be_ 1 #[.slice ah ae.length ai, .slice aj af.length ak] 34 ?_;intro ag hg w6 hbox hb;have aa:=q_ (hbox);have aC:=q_ ((by rw [hg];exact bz_:w.heap.size≤ag));have aD:=q_ ((by rw [hg];exact bz_:w.heap.size≤ag));replace HB:=q_ (bs_ hb);clear hb hbox hg;have aX:=cz_ aa 0;have aY:=cz_ aa 1;have aZ:=blk_frozen aa.out 0;have a9:=blk_frozen aa.out 1) | ((with_reducible refine gate_callee (f:=58) rfl ?_);refine gL_ 5 Tryz.func58 #[.slice ah ae.length ai] ?_;(with_reducible refine(impl_IsMatrix.calls _ _ ae true _ ?aq ?au A2.out).mono ?_);(case aq=>exact cb_ HR0_0.out HB.out);(case au=>exact HC0_0.out);rintro e w8 ⟨rfl,hb⟩;refine⟨_,rfl,?_⟩;replace aa:=q_ (bb_ aa.out hb);replace HB:=q_ (bs_ hb);(try clear hb);have ba:=cz_ aa 0;have bf:=cz_ aa 1;have bg:=blk_frozen aa.out 0;have bh:=blk_frozen aa.out 1) | (go_at_call 83;(with_reducible refine(impl_allUpTo.calls _ _ af 100 av _ ?aq ?au A5.out).mono ?_);(case aq=>exact cb_ HR0_1.out HB.out);(case au=>exact HC0_1.out);rintro e w10 ⟨rfl,hb⟩;replace aa:=q_ (bb_ aa.out hb);replace HB:=q_ (bs_ hb);(try clear hb)))
   go_ret
   exact⟨by first | rfl | (simp [errW_none,errW_some] <;> rfl) | (simp [*,errW_none,errW_some] <;> rfl),hb_⟩
  ·rw [if_neg c4] at H;have c4b0:=e3_ c4;have c4b1:=e4_ c4;have c4b2:(af.length==ae.length)=false:=by first | simpa using c4 | (simp at c4 ⊢;omega)
   obtain rfl:=Option.some.inj H
   go_enter Tryz.func48,Tryz.ntmps48
   go_wp2_with (first | ((with_reducible refine gate_dst (N:=1) rfl ?_);(try (refine gate_guard (by rfl) ?_;dsimp only));refine be_ 1 #[.slice ah ae.length ai, .slice aj af.length ak] 34 ?_;intro ag hg w11 hbox hb;have aa:=q_ (hbox);have aC:=q_ ((by rw [hg];exact bz_:w.heap.size≤ag));have aD:=q_ ((by rw [hg];exact bz_:w.heap.size≤ag));replace HB:=q_ (bs_ hb);clear hb hbox hg;have aG:=cz_ aa 0;have aH:=cz_ aa 1;have aI:=blk_frozen aa.out 0;have aJ:=blk_frozen aa.out 1) | ((with_reducible refine gate_callee (f:=58) rfl ?_);refine gL_ 5 Tryz.func58 #[.slice ah ae.length ai] ?_;(with_reducible refine(impl_IsMatrix.calls _ _ ae true _ ?aq ?au A2.out).mono ?_);(case aq=>exact cb_ HR0_0.out HB.out);(case au=>exact HC0_0.out);rintro e w13 ⟨rfl,hb⟩;refine⟨_,rfl,?_⟩;replace aa:=q_ (bb_ aa.out hb);replace HB:=q_ (bs_ hb);(try clear hb);have aK:=cz_ aa 0;have aM:=cz_ aa 1;have aN:=blk_frozen aa.out 0;have aQ:=blk_frozen aa.out 1))
   go_ret
   exact⟨by first | rfl | (simp [errW_none,errW_some] <;> rfl) | (simp [*,errW_none,errW_some] <;> rfl),hb_⟩
 ·replace c3:=Bool.eq_false_iff.mpr c3;subst c3;have H1:(some false)=some r:=by rw [if_neg (show ¬ (false=true) by decide)] at H;exact H
  clear H;have H:=H1;clear H1;obtain rfl:=Option.some.inj H
  go_enter Tryz.func48,Tryz.ntmps48
  go_wp2_with (first | ((with_reducible refine gate_dst (N:=1) rfl ?_);(try (refine gate_guard (by rfl) ?_;dsimp only));refine be_ 1 #[.slice ah ae.length ai, .slice aj af.length ak] 34 ?_;intro ag hg w15 hbox hb;have aa:=q_ (hbox);have aC:=q_ ((by rw [hg];exact bz_:w.heap.size≤ag));have aD:=q_ ((by rw [hg];exact bz_:w.heap.size≤ag));replace HB:=q_ (bs_ hb);clear hb hbox hg;have aT:=cz_ aa 0;have aU:=cz_ aa 1;have aV:=blk_frozen aa.out 0;have aW:=blk_frozen aa.out 1) | ((with_reducible refine gate_callee (f:=58) rfl ?_);refine gL_ 5 Tryz.func58 #[.slice ah ae.length ai] ?_;(with_reducible refine(impl_IsMatrix.calls _ _ ae false _ ?aq ?au A2.out).mono ?_);(case aq=>exact cb_ HR0_0.out HB.out);(case au=>exact HC0_0.out);rintro e w17 ⟨rfl,hb⟩;refine⟨_,rfl,?_⟩;replace aa:=q_ (bb_ aa.out hb);replace HB:=q_ (bs_ hb);(try clear hb)))
  go_ret
  exact⟨by first | rfl | (simp [errW_none,errW_some] <;> rfl) | (simp [*,errW_none,errW_some] <;> rfl),hb_⟩
def impl_Problem_all.f (ae:List (List Int)) (aa:List Int):Option (Int):=some (shl .i64 1 (aa.length:Int))
theorem impl_Problem_all.calls (ah:Option Addr) (ai:Nat) (ae:List (List Int)) (aj:Option Addr) (ak:Nat) (aa:List Int) (r:Int) (w:World) (aq:Kd.C (Kd.slice 2 (Kd.int .i64)) w ah ae.length ae) (au:ae.length≤ai) (av:Kd.C (Kd.int .i64) w aj aa.length aa) (aw:aa.length≤ak) (h:impl_Problem_all.f ae aa=some r):
  Calls Tryz.prog 49 #[.agg #[.slice ah ae.length ai, .slice aj aa.length ak]] w fun e w'=>e= .returned (.int .i64 r)∧Below w.heap.size w w':=by
 have hu34:=Tryz.underlying34;have HR0_0:=q_ aq;have HC0_0:=q_ au;clear aq au;have HR0_1:=q_ av;have HC0_1:=q_ aw;clear av aw;have HB:=q_ (Below.refl w.heap.size w);have H:(some (shl .i64 1 (aa.length:Int)))=some r:=h;clear h;obtain⟨ji2,hji2⟩: ∃j_:Int,(shl .i64 1 (aa.length:Int))=j_:=⟨_,rfl⟩
 replace H:(some ji2)=some r:=by first | (rw [hji2] at H;exact H) | (simp only [hji2] at H ⊢;exact H)
 have hji2_:(IntKind.i64.wrap (1*2 ^ min (aa.length:Int).toNat 64))=ji2:=hji2;have hji2z:(aa.length:Int)≤64→(IntKind.i64.wrap (1*2 ^ (aa.length:Int).toNat))=ji2:=shl_small hji2;have hji2p:(IntKind.i64.wrap (1*2 ^ min aa.length 64))=ji2:=hji2_;have hji2q:(aa.length:Int)≤64→(IntKind.i64.wrap (1*2 ^ aa.length))=ji2:=hji2z;have hji2r:(IntKind.i64.wrap (2 ^ min aa.length 64))=ji2:=by have h_:=hji2p;rw [Int.one_mul] at h_;exact h_
 have hji2s:(aa.length:Int)≤64→(IntKind.i64.wrap (2 ^ aa.length))=ji2:=fun hle_=>by have h_:=hji2q hle_;rw [Int.one_mul] at h_;exact h_
 have hji2u:(IntKind.i64.wrap (2 ^ min (aa.length:Int).toNat 64))=ji2:=by have h_:=hji2_;rw [Int.one_mul] at h_;exact h_
 have hji2v:(aa.length:Int)≤64→(IntKind.i64.wrap (2 ^ (aa.length:Int).toNat))=ji2:=fun hle_=>by have h_:=hji2z hle_;rw [Int.one_mul] at h_;exact h_
 have hji2y:(wrap64 (1*2 ^ min (aa.length:Int).toNat 64))=ji2:=(i64_w _).symm.trans hji2_;have hji2x:(aa.length:Int)≤64→(wrap64 (1*2 ^ (aa.length:Int).toNat))=ji2:=fun h_=>(i64_w _).symm.trans (hji2z h_)
 obtain rfl:=Option.some.inj H
 go_enter Tryz.func49,Tryz.ntmps49
 go_wp2_with (first | ((with_reducible refine gate_dst (N:=1) rfl ?_);refine be_ 1 #[.slice ah ae.length ai, .slice aj aa.length ak] 34 ?_;intro af hg w3 hbox hb;have ag:=q_ (hbox);have aC:=q_ ((by rw [hg];exact bz_:w.heap.size≤af));have aD:=q_ ((by rw [hg];exact bz_:w.heap.size≤af));replace HB:=q_ (bs_ hb);clear hb hbox hg;have ax:=cz_ ag 0;have ay:=cz_ ag 1;have az:=blk_frozen ag.out 0;have aA:=blk_frozen ag.out 1))
 go_ret
 exact⟨by first | rfl | (simp [errW_none,errW_some] <;> rfl) | (simp only [← hji2];first | rfl | (simp [errW_none,errW_some] <;> rfl)) | (simp [*,errW_none,errW_some] <;> rfl),hb_⟩
def impl_Problem_column.l0:Nat→Int→Bool→List Int→List (List Int)→Int→Int→Option (List Int)
 | 0,_,_,_,_,_,_=>none
 | k+1,x1,x2,x7,x15,x16,x17=>if x17 < x16 then(if 0≤x17 then(if x17 < (x15.length:Int) then(if x2=true then(if 0≤x1 then(if x1 < ((rd_L3 x15 x17).length:Int) then(if x17 < (x7.length:Int) then(impl_Problem_column.l0 k x1 x2 (x7.set (x17:Int).toNat (wrap64 (-(rd (rd_L3 x15 x17) x1)))) x15 x16 (wrap64 (x17+1))) else(none)) else(none)) else(none)) else(impl_Problem_column.l0 k x1 x2 x7 x15 x16 (wrap64 (x17+1)))) else(none)) else(none)) else(if x2=true then(some x7) else(if 0≤x1 then(if x1 < (x7.length:Int) then(some (x7.set (x1:Int).toNat 1)) else(none)) else(none)))
def impl_Problem_column.f (k:Nat) (ae:List (List Int)) (aa:List Int) (a1:Int) (a2:Bool):Option (List Int):=if 0≤(aa.length:Int) then(if((aa.length:Int):Int).toNat≤35184372088832 then(impl_Problem_column.l0 k a1 a2 (List.replicate ((aa.length:Int):Int).toNat 0) ae (ae.length:Int) 0) else(none)) else(none)
theorem impl_Problem_column.mono_l: ∀k,(∀y0 y1 y2 y3 y4 y5,LeO (impl_Problem_column.l0 k y0 y1 y2 y3 y4 y5) (impl_Problem_column.l0 (k+1) y0 y1 y2 y3 y4 y5))
 | 0=>fun _ _ _ _ _ _ r h=>by simp [impl_Problem_column.l0] at h
 | k+1=>by
  have ih0:=impl_Problem_column.mono_l k
  intros;unfold impl_Problem_column.l0;repeat' first | (with_reducible first | exact ih0 _ _ _ _ _ _ | exact LeO.refl _ | exact LeO.none _ | refine LeO.ite ?_ ?_ | refine LeO.bind ?_ (fun _=>?_)) | exact ih0 _ _ _ _ _ _ | exact LeO.none _ | refine LeO.ite ?_ ?_ | refine LeO.bind ?_ (fun _=>?_)
theorem impl_Problem_column.mono: ∀a0 a1 a2 a3 k,LeO (impl_Problem_column.f k a0 a1 a2 a3) (impl_Problem_column.f (k+1) a0 a1 a2 a3):=by
 intro a0 a1 a2 a3 k
 have ih0:=impl_Problem_column.mono_l k
 unfold impl_Problem_column.f
 repeat' first | (with_reducible first | exact ih0 _ _ _ _ _ _ | exact LeO.refl _ | exact LeO.none _ | refine LeO.ite ?_ ?_ | refine LeO.bind ?_ (fun _=>?_)) | exact ih0 _ _ _ _ _ _ | exact LeO.none _ | refine LeO.ite ?_ ?_ | refine LeO.bind ?_ (fun _=>?_)
theorem impl_Problem_column.calls (k:Nat) (ak:Option Addr) (aq:Nat) (ae:List (List Int)) (au:Option Addr) (av:Nat) (ah:List Int) (a1:Int) (a2:Bool) (r:List Int) (w:World) (ax:Kd.C (Kd.slice 2 (Kd.int .i64)) w ak ae.length ae) (ay:ae.length≤aq) (az:Kd.C (Kd.int .i64) w au ah.length ah) (aA:ah.length≤av) (h:impl_Problem_column.f k ae ah a1 a2=some r):
  Calls Tryz.prog 159 #[.agg #[.slice ak ae.length aq, .slice au ah.length av], .int .i64 a1, .bool a2] w fun e w'=> ∃v0_:Value,e= .returned (v0_)∧Kd.R (Kd.int .i64) 2 w' w.heap.size (fun _=>True) v0_ r∧Below w.heap.size w w':=by
 have hu34:=Tryz.underlying34;have HR0_0:=q_ ax;have HC0_0:=q_ ay;clear ax ay;have HR0_1:=q_ az;have HC0_1:=q_ aA;clear az aA;have HB:=q_ (Below.refl w.heap.size w);have H:(if 0≤(ah.length:Int) then(if((ah.length:Int):Int).toNat≤35184372088832 then(impl_Problem_column.l0 k a1 a2 (List.replicate ((ah.length:Int):Int).toNat 0) ae (ae.length:Int) 0) else(none)) else(none))=some r:=h;clear h
 by_cases c4:0≤(ah.length:Int)
 ·rw [if_pos c4] at H;have c4b0:=eq_true c4;have c4b1:=decide_eq_true c4;clear c4
  by_cases c5:((ah.length:Int):Int).toNat≤35184372088832
  ·rw [if_pos c5] at H;have c5b0:=eq_true c5;have c5b1:=decide_eq_true c5;clear c5;obtain⟨aJ,hy⟩: ∃y_:List Int,y_=(List.replicate ((ah.length:Int):Int).toNat 0):=⟨_,rfl⟩
   replace H:(impl_Problem_column.l0 k a1 a2 aJ ae (ae.length:Int) 0)=some r:=hh_;have aC:=q_ hy;clear hy;have H':=q_ H;clear H
   go_enter Tryz.func159,Tryz.ntmps159
   go_wp2_with (first | ((with_reducible refine gate_dst (N:=3) rfl ?_);refine be_ 3 #[.slice ak ae.length aq, .slice au ah.length av] 34 ?_;intro aj hg w6 hbox hb;have af:=q_ (hbox);have bq:=q_ ((by rw [hg];exact bz_:w.heap.size≤aj));have bu:=q_ ((by rw [hg];exact bz_:w.heap.size≤aj));replace HB:=q_ (bs_ hb);clear hb hbox hg;have aK:=cz_ af 0;have aM:=cz_ af 1;have aN:=blk_frozen af.out 0;have aQ:=blk_frozen af.out 1) | ((with_reducible refine gate_dst (N:=13) rfl ?_);refine Kd.R_make (Kd.int .i64) _ 2 rfl (N:=13) rfl 24 _ _ rfl (ah.length:Int) rfl rfl Tryz.underlying24 (.int .i64 0) 8 info2 rfl (by decide) (by omega) 0 (ok:=fun _=>True) (okp:=fun _=>True) rfl (fun _ hk=>hk) trivial od_ (Nat.le_trans (Nat.mul_le_mul_right _ (od_:(ah.length:Int).toNat≤35184372088832)) (by omega)) (Below.refl _ _) (Nat.le_refl _) ?_;intro bh w8 ho9 hb hg_ hnew_;clear hg_ hnew_;(first | rw [← aC.out] at ho9 | (simp only [Int.reduceToNat] at ho9;rw [← aC.out] at ho9));have a9:=q_ (Kd.R_lower ho9 bz_);replace af:=q_ (bb_ af.out hb);replace HB:=q_ (bs_ hb);clear hb ho9;have aD:=cz_ af 0;have aG:=cz_ af 1;have aH:=blk_frozen af.out 0;have aI:=blk_frozen af.out 1))
   go_loopg [17] k (fun kq v17 w'=> ∃(ag:List Int) (aa:Int),v17= .int .i64 aa∧Aside0 (impl_Problem_column.l0 kq a1 a2 ag ae (ae.length:Int) aa=some r)∧Aside0 (kq≤k)∧Aside0 (Kd.R (Kd.int .i64) 2 w' w.heap.size (fun _=>True) bh ag)∧Aside0 (w'.heap[aj]?=some (.cells #[(.slice ak ae.length aq),(.slice au ah.length av)] 34 (0,0)))∧Aside0 (Below w.heap.size w w'))
   case atStart=>exact⟨(aJ),(0),rs_,H',⟨Nat.le_refl _⟩,⟨ro_ a9.out⟩,⟨bk_⟩,⟨hb_⟩⟩
   case round=>
    clear H';(try clear c4);(try clear c4b0);(try clear c4b1);(try clear c5);(try clear c5b0);(try clear c5b1);(try clear aD);(try clear aG);(try clear aK);(try clear aM);(try clear aH);(try clear aI);(try clear aN);(try clear aQ);obtain⟨ag,aa,rfl,HA,HK1,ai,af,HB⟩:=hrel;cases gk with
    | zero=>exact absurd HA.out (by simp [impl_Problem_column.l0])
    | succ k1=>
     have H:=HA.out;clear HA;simp only [impl_Problem_column.l0] at H
     by_cases c11:aa < (ae.length:Int)
     ·rw [if_pos c11] at H;have c11b0:=decide_eq_true c11;clear c11
      by_cases c12:0≤aa
      ·rw [if_pos c12] at H;have c12b0:=decide_eq_true c12;clear c12
       by_cases c13:aa < (ae.length:Int)
       ·rw [if_pos c13] at H;have c13b0:=decide_eq_true c13;clear c13
        by_cases c14:a2=true
        ·subst c14;have H1:(if 0≤a1 then(if a1 < ((rd_L3 ae aa).length:Int) then(if aa < (ag.length:Int) then(impl_Problem_column.l0 k1 a1 true (ag.set (aa:Int).toNat (wrap64 (-(rd (rd_L3 ae aa) a1)))) ae (ae.length:Int) (wrap64 (aa+1))) else(none)) else(none)) else(none))=some r:=by rw [if_pos rfl] at H;exact H
         clear H;have H:=H1;clear H1
         by_cases c15:0≤a1
         ·rw [if_pos c15] at H;have c15b0:=decide_eq_true c15;clear c15
          by_cases c16:a1 < ((rd_L3 ae aa).length:Int)
          ·rw [if_pos c16] at H;have c16b0:=decide_eq_true c16;clear c16
           by_cases c17:aa < (ag.length:Int)
           ·rw [if_pos c17] at H;have c17b0:=decide_eq_true c17;clear c17;obtain⟨aw,hy⟩: ∃y_:List Int,y_=(ag.set (aa:Int).toNat (wrap64 (-(rd (rd_L3 ae aa) a1)))):=⟨_,rfl⟩
            replace H:(impl_Problem_column.l0 k1 a1 true aw ae (ae.length:Int) (wrap64 (aa+1)))=some r:=hh_;have ba:=q_ hy;clear hy;have H':=q_ H;clear H;have p376:0≤(aa:Int):=od_;have q376:aa < (ae.length:Int):=od_;obtain⟨bf,aT,aU,e376,hx376_0,hl376_0,hi376_0⟩:=at_L3 HR0_0.out aa p376 q376;cases e376
            replace hx376_0:=(HB.out.cell (World.block_lt_of_cell? w _ hx376_0)).trans hx376_0;have HR376_0:=q_ hi376_0;have HC376_0:=q_ hl376_0;clear hi376_0 hl376_0;replace p376:=eq_true p376;replace q376:=eq_true q376;have p377:0≤(a1:Int):=od_;have q377:a1 < ((rd_L3 ae aa).length:Int):=od_;obtain⟨bv,e377,hx377_0⟩:=Kd.at_int HR376_0.out a1 p377 q377;cases e377
            replace hx377_0:=(HB.out.cell (World.block_lt_of_cell? w _ hx377_0)).trans hx377_0;replace p377:=eq_true p377;replace q377:=eq_true q377;have p18:0≤(aa:Int):=od_;have q18:(aa:Int) < ((ag.length:Int):Int):=od_;obtain⟨go18,bi,aV,aW,gl18,cl18,HG18⟩:=Kd.R_form ai.out (by omega)
            (first | cases aV | (injection aV with ea_ en_ ec_;(first | subst ea_ | (injection ea_ with ea_;subst ea_));subst ec_;clear en_))
            have GB18:=q_ aW;have GG18:=q_ HG18;clear aW gl18 HG18;obtain⟨hx18_0,hf18_0⟩:=Kd.R_celln 0 ai.out (aa:Int) p18 q18;replace p18:=eq_true p18;replace q18:=eq_true q18;have HP19:=Kd.R_putg ai.out (aa:Int) (wrap64 (-(rd (rd_L3 ae aa) a1)))
            go_wp2_with (first | ((with_reducible refine gate_store (t:=2) (p:=30) rfl ?_);refine store_event (t:=2) (p:=30) (v:=?vo_w20) (w1:=(wr.setCell ⟨go18,(aa:Int).toNat,none⟩ (.int .i64 (wrap64 (-(rd (rd_L3 ae aa) a1)))))) ?hg ?ho ?hn ?hr ?_;(case ho=>rfl);(case hg=>rfl);(case hn=>rfl);(case hr=>first | (go_simp;done) | (go_simp;rfl));intro w20 hw;have hg:wr.grownBy w20 (some go18):=(by rw [hw];exact HP19.2);have hp_:Kd.R (Kd.int .i64) 2 w20 w.heap.size (fun _=>True) (.slice (some ⟨go18,0,none⟩) ag.length bi) aw:=(by rw [hw,ba.out];exact HP19.1);clear HP19;replace af:=q_ (bg_ af.out hg (Kd.R_ne ai.out af.out (by decide)));replace HB:=q_ ((by rw [hw];exact below_set (HB.out) GB18.out:Below w.heap.size w w20));replace ai:=q_ (hp_);clear hg hw hp_))
            go_roundg k1
            case measure=>have:=HK1.out;omega
            case rel=>exact⟨(aw),(wrap64 (aa+1)),rs_,H',⟨by have:=HK1.out;omega⟩,⟨ro_ ai.out⟩,⟨bk_⟩,⟨hb_⟩⟩
           ·rw [if_neg c17] at H;exact absurd H (by simp)
          ·rw [if_neg c16] at H;exact absurd H (by simp)
         ·rw [if_neg c15] at H;exact absurd H (by simp)
        ·replace c14:=Bool.eq_false_iff.mpr c14;subst c14;have H1:(impl_Problem_column.l0 k1 a1 false ag ae (ae.length:Int) (wrap64 (aa+1)))=some r:=by rw [if_neg (show ¬ (false=true) by decide)] at H;exact H
         clear H;have H:=H1;clear H1;have H':=q_ H;clear H;have p376:0≤(aa:Int):=od_;have q376:aa < (ae.length:Int):=od_;obtain⟨bf,aT,aU,e376,hx376_0,hl376_0,hi376_0⟩:=at_L3 HR0_0.out aa p376 q376;cases e376
         replace hx376_0:=(HB.out.cell (World.block_lt_of_cell? w _ hx376_0)).trans hx376_0;have HR376_0:=q_ hi376_0;have HC376_0:=q_ hl376_0;clear hi376_0 hl376_0;replace p376:=eq_true p376;replace q376:=eq_true q376;go_wp2
         go_roundg k1
         case measure=>have:=HK1.out;omega
         case rel=>exact⟨(ag),(wrap64 (aa+1)),rs_,H',⟨by have:=HK1.out;omega⟩,⟨ro_ ai.out⟩,⟨bk_⟩,⟨hb_⟩⟩
       ·rw [if_neg c13] at H;exact absurd H (by simp)
      ·rw [if_neg c12] at H;exact absurd H (by simp)
     ·rw [if_neg c11] at H;have c11b0:=decide_eq_false c11;clear c11
      by_cases c21:a2=true
      ·subst c21;have H1:(some ag)=some r:=by rw [if_pos rfl] at H;exact H
       clear H;have H:=H1;clear H1;obtain rfl:=Option.some.inj H;go_wp2
       go_ret
       exact⟨_,by first | rfl | (simp [errW_none,errW_some] <;> rfl) | (simp [*,errW_none,errW_some] <;> rfl),ro_ ai.out,hb_⟩
      ·replace c21:=Bool.eq_false_iff.mpr c21;subst c21;have H1:(if 0≤a1 then(if a1 < (ag.length:Int) then(some (ag.set (a1:Int).toNat 1)) else(none)) else(none))=some r:=by rw [if_neg (show ¬ (false=true) by decide)] at H;exact H
       clear H;have H:=H1;clear H1
       by_cases c22:0≤a1
       ·rw [if_pos c22] at H;have c22b0:=decide_eq_true c22;clear c22
        by_cases c23:a1 < (ag.length:Int)
        ·rw [if_pos c23] at H;have c23b0:=decide_eq_true c23;clear c23;obtain⟨aX,hy⟩: ∃y_:List Int,y_=(ag.set (a1:Int).toNat 1):=⟨_,rfl⟩
         replace H:(some aX)=some r:=hh_;have bg:=q_ hy;clear hy;obtain rfl:=Option.some.inj H;have p24:0≤(a1:Int):=od_;have q24:(a1:Int) < ((ag.length:Int):Int):=od_;obtain⟨go24,bk,aY,aZ,gl24,cl24,HG24⟩:=Kd.R_form ai.out (by omega)
         (first | cases aY | (injection aY with ea_ en_ ec_;(first | subst ea_ | (injection ea_ with ea_;subst ea_));subst ec_;clear en_))
         have GB24:=q_ aZ;have GG24:=q_ HG24;clear aZ gl24 HG24;obtain⟨hx24_0,hf24_0⟩:=Kd.R_celln 0 ai.out (a1:Int) p24 q24;replace p24:=eq_true p24;replace q24:=eq_true q24;have HP25:=Kd.R_putg ai.out (a1:Int) 1
         go_wp2_with (first | ((with_reducible refine gate_store (t:=2) (p:=36) rfl ?_);refine store_event (t:=2) (p:=36) (v:=?vo_w26) (w1:=(wr.setCell ⟨go24,(a1:Int).toNat,none⟩ (.int .i64 1))) ?hg ?ho ?hn ?hr ?_;(case ho=>rfl);(case hg=>rfl);(case hn=>rfl);(case hr=>first | (go_simp;done) | (go_simp;rfl));intro w26 hw;have hg:wr.grownBy w26 (some go24):=(by rw [hw];exact HP25.2);have hp_:Kd.R (Kd.int .i64) 2 w26 w.heap.size (fun _=>True) (.slice (some ⟨go24,0,none⟩) ag.length bk) aX:=(by rw [hw,bg.out];exact HP25.1);clear HP25;replace af:=q_ (bg_ af.out hg (Kd.R_ne ai.out af.out (by decide)));replace HB:=q_ ((by rw [hw];exact below_set (HB.out) GB24.out:Below w.heap.size w w26));replace ai:=q_ (hp_);clear hg hw hp_))
         go_ret
         exact⟨_,by first | rfl | (simp [errW_none,errW_some] <;> rfl) | (simp [*,errW_none,errW_some] <;> rfl),ro_ ai.out,hb_⟩
        ·rw [if_neg c23] at H;exact absurd H (by simp)
       ·rw [if_neg c22] at H;exact absurd H (by simp)
  ·rw [if_neg c5] at H;exact absurd H (by simp)
 ·rw [if_neg c4] at H;exact absurd H (by simp)
end Go.Proofs.YthmfdplckdijdaaGreat.Pr
end
section
namespace Go.Proofs.YthmfdplckdijdaaGreat.Pb
open Go.RowKit Go.Proofs.YthmfdplckdijdaaGreatW.PrintWords Go.Proofs.YthmfdplckdijdaaGreatW.PrintMore Go.Proofs.YthmfdplckdijdaaGreat.Ma Go.Proofs.YthmfdplckdijdaaGreat.Pr Go.Proofs.YthmfdplckdijdaaGreat.Dt Go.Proofs.YthmfdplckdijdaaGreat.Bz Go.Proofs.YthmfdplckdijdaaGreat.Cz
theorem sin_eq (x a b:Int):spec_l01In.f x a b=some (decide (a≤x∧x≤b)):=by
 unfold spec_l01In.f
 by_cases h:x ≥ a
 ·rw [if_pos h];congr 1;rw [Bool.eq_iff_iff];simp;omega
 ·rw [if_neg h];congr 1;rw [Bool.eq_iff_iff];simp;omega
theorem head_step {P:Nat→Prop} {i d:Nat} (h:i < d):(∀j,i≤j→j < d→P j)↔P i∧ ∀j,i+1≤j→j < d→P j:=
 ⟨fun q=>⟨q i (Nat.le_refl _) h,fun j h1 h2=>q j (by omega) h2⟩,fun q j h1 h2=>by
  by_cases e:j=i
  ·subst e;exact q.1
  ·exact q.2 j (by omega) h2⟩
theorem no_iff {b:Bool} {p:Prop} (h:b=true↔p) (hp: ¬ p):b=false:=by
 cases b with
 | false=>rfl
 | true=>exact absurd (h.1 rfl) hp
def N20 (x:Int):Prop:= -20≤x∧x≤20
def N100 (x:Int):Prop:= -100≤x∧x≤100
def RowM (M:List (List Int)) (i:Nat):Prop:=(M.getD i []).length=M.length∧ ∀j,0≤j→j < M.length→N20 (en M i j)
structure MatOK (M:List (List Int)):Prop where
 n1:1≤M.length
 n5:M.length≤5
 rows: ∀i,0≤i→i < M.length→RowM M i
structure POK (M:List (List Int)) (q:List Int):Prop where
 mat:MatOK M
 len:q.length=M.length
 num: ∀i,0≤i→i < q.length→N100 (q.getD i 0)
theorem MatOK.sq {M:List (List Int)} (h:MatOK M):Sq M.length M:=⟨rfl,fun i hi=>(h.rows i (Nat.zero_le _) hi).1,fun i j hi hj=>by have:=(h.rows i (Nat.zero_le _) hi).2 j (Nat.zero_le _) hj;unfold N20 at this;omega⟩
section
variable {M:List (List Int)} (hM:M.length≤5)
include hM
theorem spec_mrows: ∀m i,i+m=M.length→ ∀t:Bool,(t=true↔ ∀u,i≤u→u < M.length→RowM M u)→Ev (fun k=>spec_l01Matrix.l0 k M (M.length:Int) i) t:=by
 intro m
 induction m with
 | zero=>
  intro i hi t ht
  obtain rfl:t=true:=ht.2 (fun u h1 h2=>by omega)
  exact evstep (fun k=>by rw [spec_l01Matrix.l0]) (evneg (by omega) (evc rfl))
 | succ m ih=>
  intro i hi t ht
  have hs:=head_step (P:=RowM M) (i:=i) (d:=M.length) (by omega)
  have ht2:=ht.trans hs
  refine evstep (fun k=>by rw [spec_l01Matrix.l0]) (evpos (by omega) (evpos (by omega) (evpos (by omega) ?_)))
  rw [rdL1]
  by_cases c:(M.getD i []).length=M.length
  ·refine evpos (by omega) ?_
   have cols: ∀p j,j+p=M.length→ ∀t:Bool,(t=true↔(∀v,j≤v→v < M.length→N20 (en M i v))∧ ∀u,i+1≤u→u < M.length→RowM M u)→Ev (fun k=>spec_l01Matrix.l1 k M (M.length:Int) i j) t:=by
    intro p
    induction p with
    | zero=>
     intro j hj t ht
     refine evstep (fun k=>by rw [spec_l01Matrix.l1]) (evneg (by omega) ?_)
     rw [w64 (x:=(i:Int)+1) (by omega) (by omega)]
     exact ih (i+1) (by omega) t (ht.trans ⟨fun h=>h.2,fun h=>⟨fun v h1 h2=>by omega,h⟩⟩)
    | succ p ihp=>
     intro j hj t ht
     have hs2:=head_step (P:=fun v=>N20 (en M i v)) (i:=j) (d:=M.length) (by omega)
     refine evstep (fun k=>by rw [spec_l01Matrix.l1]) ?_
     rw [rdL1]
     refine evpos (by omega) (evpos (by omega) (evpos (by omega) (evpos (by omega) (evpos (by omega) (evsome (sin_eq _ _ _) ?_)))))
     rw [rd_nat,show (M.getD i []).getD j 0=en M i j from rfl,w64 (x:=(j:Int)+1) (by omega) (by omega)]
     by_cases d: -20≤en M i j∧en M i j≤20
     ·exact evpos (decide_eq_true d) (ihp (j+1) (by omega) t (ht.trans ⟨fun h=>⟨(hs2.1 h.1).2,h.2⟩,fun h=>⟨hs2.2 ⟨d,h.1⟩,h.2⟩⟩))
     ·rw [no_iff ht (fun h=>d ((hs2.1 h.1).1))]
      exact evneg (by simpa using d) (evc rfl)
   exact cols M.length 0 (by omega) t (ht2.trans ⟨fun h=>⟨fun v h1 h2=>h.1.2 v h1 h2,h.2⟩,fun h=>⟨⟨c,fun v h1 h2=>h.1 v h1 h2⟩,h.2⟩⟩)
  ·rw [no_iff ht2 (fun h=>c h.1.1)]
   exact evneg (by omega) (evc rfl)
end
theorem spec_mat (M:List (List Int)) (t:Bool) (ht:t=true↔MatOK M):Ev (fun k=>spec_l01Matrix.f k M) t:=by
 unfold spec_l01Matrix.f
 by_cases c1:(M.length:Int) < 1
 ·rw [no_iff ht (fun h=>by have:=h.n1;omega)]
  exact evpos c1 (evstep (fun k=>by rw [spec_l01Matrix.j0]) (evpos rfl (evc rfl)))
 ·refine evneg c1 (evstep (fun k=>by rw [spec_l01Matrix.j0]) ?_)
  by_cases c2:(M.length:Int) > 5
  ·rw [no_iff ht (fun h=>by have:=h.n5;omega)]
   exact evpos (decide_eq_true c2) (evc rfl)
  ·refine evneg (by simpa using c2) ?_
   exact spec_mrows (by omega) M.length 0 (by omega) t (ht.trans ⟨fun h=>h.rows,fun h=>⟨by omega,by omega,h⟩⟩)
open Classical in
theorem spec_is (M:List (List Int)) (q:List Int) (hq:q.length≤1048576) (t:Bool) (ht:t=true↔POK M q):Ev (fun k=>spec_l01Is.f k M q) t:=by
 unfold spec_l01Is.f
 refine evbind (spec_mat M (decide (MatOK M)) (by simp)) ?_
 by_cases m:MatOK M
 ·refine evpos (by simpa using m) (evstep (fun k=>by rw [spec_l01Is.j0]) ?_)
  by_cases c:q.length=M.length
  ·refine evneg (by simp [c]) ?_
   have loop: ∀p i,i+p=q.length→ ∀t:Bool,(t=true↔ ∀u,i≤u→u < q.length→N100 (q.getD u 0))→Ev (fun k=>spec_l01Is.l0 k i M q) t:=by
    intro p
    induction p with
    | zero=>
     intro i hi t ht
     obtain rfl:t=true:=ht.2 (fun u h1 h2=>by omega)
     exact evstep (fun k=>by rw [spec_l01Is.l0]) (evneg (by omega) (evc rfl))
    | succ p ih=>
     intro i hi t ht
     have hs:=head_step (P:=fun u=>N100 (q.getD u 0)) (i:=i) (d:=q.length) (by omega)
     refine evstep (fun k=>by rw [spec_l01Is.l0]) (evpos (by omega) (evpos (by omega) (evsome (sin_eq _ _ _) ?_)))
     rw [rd_nat,w64 (x:=(i:Int)+1) (by omega) (by omega)]
     by_cases d: -100≤q.getD i 0∧q.getD i 0≤100
     ·exact evpos (decide_eq_true d) (ih (i+1) (by omega) t (ht.trans (hs.trans ⟨fun h=>h.2,fun h=>⟨d,h⟩⟩)))
     ·rw [no_iff (ht.trans hs) (fun h=>d h.1)]
      exact evneg (by simpa using d) (evc rfl)
   exact loop q.length 0 (by omega) t (ht.trans ⟨fun h=>h.num,fun h=>⟨m,c,h⟩⟩)
  ·rw [no_iff ht (fun h=>c h.len)]
   exact evpos (by simp;omega) (evc rfl)
 ·rw [no_iff ht (fun h=>m h.mat)]
  exact evneg (by simpa using m) (evstep (fun k=>by rw [spec_l01Is.j0]) (evpos rfl (evc rfl)))
theorem any_false {α:Type} (p:α→Bool) (l:List α):l.any p=false↔ ∀i (h:i < l.length),p l[i]=false:=by
 rw [List.any_eq_false]
 constructor
 ·intro h i hi
  have:=h l[i] (List.getElem_mem hi)
  simpa using this
 ·intro h x hx
  obtain⟨i,hi,rfl⟩:=List.getElem_of_mem hx
  simp [h i hi]
theorem badU_iff (a n:Int):badU a n=false↔ -a≤n∧n≤a:=by unfold badU;simp
theorem any_badU (a:Int) (l:List Int):l.any (badU a)=false↔ ∀i,0≤i→i < l.length→ -a≤l.getD i 0∧l.getD i 0≤a:=by
 rw [any_false]
 constructor
 ·intro h i _ hi
  have:=(badU_iff a _).1 (h i hi)
  simpa [hi] using this
 ·intro h i hi
  have:=h i (Nat.zero_le _) hi
  exact(badU_iff a _).2 (by simpa [hi] using this)
theorem gD {M:List (List Int)} {i:Nat} (h:i < M.length):M.getD i []=M[i]:=by simp [h]
open Classical in
theorem impl_mat (M:List (List Int)):impl_IsMatrix.f M=some (decide (MatOK M)):=by
 unfold impl_IsMatrix.f
 congr 1
 rw [Bool.eq_iff_iff]
 simp only [Bool.and_eq_true,decide_eq_true_eq,Bool.not_eq_true']
 rw [any_false,any_false]
 constructor
 ·rintro ⟨⟨h1,h2⟩,h3⟩
  refine⟨by omega,by omega,fun i _ hi=>?_⟩
  have r1:=h2 i hi
  have r2:=h3 i hi
  unfold badL at r1
  unfold badM at r2
  have e:M[i].length=M.length:=by simp at r1;omega
  refine⟨by rw [gD hi];exact e,fun j _ hj=>?_⟩
  have:=(any_badU 20 M[i]).1 r2 j (Nat.zero_le _) (by omega)
  rw [← gD hi] at this
  exact this
 ·intro h
  refine⟨⟨⟨by have:=h.n1;omega,by have:=h.n5;omega⟩,fun i hi=>?_⟩,fun i hi=>?_⟩
  ·have:=(h.rows i (Nat.zero_le _) hi).1
   rw [gD hi] at this
   unfold badL;simp [this]
  ·have:=h.rows i (Nat.zero_le _) hi
   unfold badM
   refine(any_badU 20 M[i]).2 (fun j h0 hj=>?_)
   have e:=this.1
   rw [gD hi] at e
   have:=this.2 j h0 (by omega)
   unfold N20 en at this
   rwa [gD hi] at this
open Classical in
theorem impl_is (M:List (List Int)) (q:List Int) (t:Bool) (ht:t=true↔POK M q):impl_IsProblem.f M q=some t:=by
 unfold impl_IsProblem.f
 rw [impl_mat,Option.bind_some]
 by_cases m:MatOK M
 ·rw [if_pos (by simpa using m)]
  by_cases c:q.length=M.length
  ·rw [if_pos (by omega)]
   unfold impl_allUpTo.f
   rw [if_pos (by decide),Option.bind_some]
   congr 1
   rw [Bool.eq_iff_iff,ht,Bool.not_eq_true',any_badU]
   exact⟨fun h=>⟨m,c,h⟩,fun h=>h.num⟩
  ·rw [if_neg (by omega),no_iff ht (fun h=>c h.len)]
 ·rw [if_neg (by simpa using m),no_iff ht (fun h=>m h.mat)]
end Go.Proofs.YthmfdplckdijdaaGreat.Pb
end
section
namespace Go.Proofs.YthmfdplckdijdaaGreat.Pr
open Go.RowKit Go.Proofs.YthmfdplckdijdaaGreatW.PrintWords Go.Proofs.YthmfdplckdijdaaGreatW.PrintLast Go.Proofs.YthmfdplckdijdaaGreatW.PrintMore
attribute [local go_sem] max2_int min2_int max_two min_two max_three min_three max_four min_four
mutual
def spec_l01Det.l0:Nat→List (List Int)→Int→Int→Option (Int)
 | 0,_,_,_=>none
 | k+1,x0,x3,x4=>if x4 < (x0.length:Int) then(if 0 < (x0.length:Int) then(if 0≤x4 then(if x4 < ((rd_L3 x0 0).length:Int) then(if(rd (rd_L3 x0 0) x4)=0 then(spec_l01Det.l0 k x0 x3 (wrap64 (x4+1))) else(spec_l01Det.l1 k x0 x3 x4 (([]:List (List Int))) 1)) else(none)) else(none)) else(none)) else(some x3)
def spec_l01Det.l1:Nat→List (List Int)→Int→Int→List (List Int)→Int→Option (Int)
 | 0,_,_,_,_,_=>none
 | k+1,x0,x3,x4,x5,x6=>if x6 < (x0.length:Int) then(if 0≤x6 then(if 0≤x4 then(if x4≤((rd_L3 x0 x6).length:Int) then((spec_l01Own.f ((rd_L3 x0 x6).take (x4:Int).toNat)).bind fun aa=>(if 0≤(wrap64 (x4+1)) then(if(wrap64 (x4+1))≤((rd_L3 x0 x6).length:Int) then(if aa.length+((rd_L3 x0 x6).drop ((wrap64 (x4+1)):Int).toNat).length < 17592186044416 then(if x5.length < 5864062014805 then(spec_l01Det.l1 k x0 x3 x4 (x5++ [(aa++((rd_L3 x0 x6).drop ((wrap64 (x4+1)):Int).toNat))]) (wrap64 (x6+1))) else(none)) else(none)) else(none)) else(none))) else(none)) else(none)) else(none)) else(if 0 < (x0.length:Int) then(if 0≤x4 then(if x4 < ((rd_L3 x0 0).length:Int) then((spec_l01Det.f k x5).bind fun ae=>(if(Int.tmod x4 2)=1 then(spec_l01Det.l0 k x0 (wrap64 (x3+(wrap64 (-(wrap64 ((rd (rd_L3 x0 0) x4)*ae)))))) (wrap64 (x4+1))) else(spec_l01Det.l0 k x0 (wrap64 (x3+(wrap64 ((rd (rd_L3 x0 0) x4)*ae)))) (wrap64 (x4+1))))) else(none)) else(none)) else(none))
def spec_l01Det.f:Nat→List (List Int)→Option (Int)
 | 0,_=>none
 | k+1,l0=>if(l0.length:Int)=0 then(some 1) else(spec_l01Det.l0 k l0 0 0)
end
theorem spec_l01Det.mono_l: ∀k,(∀y0,LeO (spec_l01Det.f k y0) (spec_l01Det.f (k+1) y0))∧(∀y0 y1 y2,LeO (spec_l01Det.l0 k y0 y1 y2) (spec_l01Det.l0 (k+1) y0 y1 y2))∧(∀y0 y1 y2 y3 y4,LeO (spec_l01Det.l1 k y0 y1 y2 y3 y4) (spec_l01Det.l1 (k+1) y0 y1 y2 y3 y4))
 | 0=>⟨fun _ r h=>by simp [spec_l01Det.f] at h,fun _ _ _ r h=>by simp [spec_l01Det.l0] at h,fun _ _ _ _ _ r h=>by simp [spec_l01Det.l1] at h⟩
 | k+1=>by
  obtain⟨ih0,ih1,ih2⟩:=spec_l01Det.mono_l k
  refine⟨?_,?_,?_⟩<;>intros<;>(first | unfold spec_l01Det.f | unfold spec_l01Det.l0 | unfold spec_l01Det.l1)<;>(repeat' first | (with_reducible first | exact ih0 _ | exact ih1 _ _ _ | exact ih2 _ _ _ _ _ | exact LeO.refl _ | exact LeO.none _ | refine LeO.ite ?_ ?_ | refine LeO.bind ?_ (fun _=>?_)) | exact ih0 _ | exact ih1 _ _ _ | exact ih2 _ _ _ _ _ | exact LeO.none _ | refine LeO.ite ?_ ?_ | refine LeO.bind ?_ (fun _=>?_))
theorem spec_l01Det.mono: ∀a0 k,LeO (spec_l01Det.f k a0) (spec_l01Det.f (k+1) a0):=by
 intro a0 k
 obtain⟨ih0,ih1,ih2⟩:=spec_l01Det.mono_l k
 exact ih0 a0
def spec_l01Det.T12:Bool × List (List Nat × List Nat):=(true, [([], []),([], []),([], []),([1,2], [1,2]),([3], [3]),([], []),([4,5], [4,5]),([6], [6]),([], []),([], []),([8,9], [8,9]),([10], [10]),([], []),([12], [12]),([11,13], [11,13]),([7,14,7], [7,14]),([15], [15]),([0,16,15], [0,16]),([17,17,0,1,2,3,4,5,6,7,8,9,10,11,12,13,14,15,16,17], [0,17])])
def spec_l01Det.B12:List Nat:= [0,0,0,6,14,0,62,126,0,0,768,1792,0,4096,16128,32766,65534,131071,262143]
theorem spec_l01Det.tab12:rtab .any (opsOf Tryz.f138 12)=spec_l01Det.T12:=by kernel_rfl
theorem spec_l01Det.bits12:waitsOk spec_l01Det.T12.2 spec_l01Det.B12=true:=by kernel_rfl
def spec_l01Det.T13:Bool × List (List Nat × List Nat):=(true, [([], []),([0], [0]),([1], [1]),([], []),([2,3], [2,3]),([4], [4]),([], []),([6], [6]),([5,7], [5,7]),([8,7,0,1,2,3,4,5,6,7,8], [8])])
def spec_l01Det.B13:List Nat:= [0,1,3,0,15,31,0,64,255,511]
theorem spec_l01Det.tab13:rtab .any (opsOf Tryz.f138 13)=spec_l01Det.T13:=by kernel_rfl
theorem spec_l01Det.bits13:waitsOk spec_l01Det.T13.2 spec_l01Det.B13=true:=by kernel_rfl
theorem spec_l01Det.calls (k:Nat): ∀(A0:Option Addr) (c0:Nat) (l0:List (List Int)) (r:Int) (w:World) (hr0:Kd.C (Kd.slice 2 (Kd.int .i64)) w A0 l0.length l0) (hc0:l0.length≤c0) (h:spec_l01Det.f k l0=some r),
  Calls Tryz.prog 138 #[.slice A0 l0.length c0] w fun e w'=>e= .returned (.int .i64 r)∧Below w.heap.size w w':=by
 induction k using Nat.strongRecOn with
 | _ k ih=>
 intro A0 c0 l0 r w hr0 hc0 h;cases k with
 | zero=>exact absurd h (by simp [spec_l01Det.f])
 | succ k=>
 simp only [spec_l01Det.f] at h;have HR0:=q_ hr0;have HC0:=q_ hc0;clear hr0 hc0;have HB:=q_ (Below.refl w.heap.size w);have H:(if(l0.length:Int)=0 then(some 1) else(spec_l01Det.l0 k l0 0 0))=some r:=h;clear h
 by_cases c2:(l0.length:Int)=0
 ·rw [if_pos c2] at H;have c2b0:=e1_ c2;have c2b1:=e2_ c2;clear c2;obtain rfl:=Option.some.inj H
  go_enter Tryz.func138,Tryz.ntmps138
  go_wp2
  go_ret
  exact⟨by first | rfl | (simp [errW_none,errW_some] <;> rfl) | (simp [*,errW_none,errW_some] <;> rfl),hb_⟩
 ·rw [if_neg c2] at H;have c2b0:=e3_ c2;have c2b1:=e4_ c2;have c2b2: ¬ (l0= []):=fun h_=>c2 (by rw [h_];rfl)
  have H':=q_ H;clear H
  go_enter Tryz.func138,Tryz.ntmps138
  go_wp2
  go_loopg [3,4] k (fun kq v3 v4 w'=> ∃(aq:Int) (aa:Int),v3= .int .i64 aq∧v4= .int .i64 aa∧Aside0 (spec_l01Det.l0 kq l0 aq aa=some r)∧Aside0 (kq≤k)∧Aside0 (Below w.heap.size w w'))
  case atStart=>exact⟨(0),(0),rs_,rs_,H',⟨Nat.le_refl _⟩,⟨hb_⟩⟩
  case round=>
   clear H';(try clear c2);(try clear c2b0);(try clear c2b1);(try clear c2b2);obtain⟨aq,aa,rfl,rfl,HA,HK1,HB⟩:=hrel;cases gk with
   | zero=>exact absurd HA.out (by simp [spec_l01Det.l0])
   | succ k1=>
    have H:=HA.out;clear HA;simp only [spec_l01Det.l0] at H
    by_cases c3:aa < (l0.length:Int)
    ·rw [if_pos c3] at H;have c3b0:=decide_eq_true c3;clear c3
     by_cases c4:0 < (l0.length:Int)
     ·rw [if_pos c4] at H;have c4b0:=decide_eq_true c4;have c4b1:decide (0 < l0.length)=true:=decide_eq_true (by omega);clear c4
      by_cases c5:0≤aa
      ·rw [if_pos c5] at H;have c5b0:=decide_eq_true c5;clear c5
       by_cases c6:aa < ((rd_L3 l0 0).length:Int)
       ·rw [if_pos c6] at H;have c6b0:=decide_eq_true c6;clear c6
        by_cases c7:(rd (rd_L3 l0 0) aa)=0
        ·rw [if_pos c7] at H;have c7b0:=e1_ c7;have c7b1:=e2_ c7;clear c7;have H':=q_ H;clear H;have p424:0≤(0:Int):=(by omega)
         have q424:0 < (l0.length:Int):=od_;obtain⟨au,aM,aN,e424,hx424_0,hl424_0,hi424_0⟩:=at_L3 HR0.out 0 p424 q424;cases e424
         have qi424:(0 < l0.length)=True:=eq_true (by omega)
         (try rw [show ((0:Int)).toNat=0 from rfl] at hx424_0)
         (try rw [Addr.add_zero'] at hx424_0)
         replace hx424_0:=(HB.out.cell (World.block_lt_of_cell? w _ hx424_0)).trans hx424_0;have HR424_0:=q_ hi424_0;have HC424_0:=q_ hl424_0;clear hi424_0 hl424_0;replace p424:=eq_true p424;replace q424:=eq_true q424;have p425:0≤(aa:Int):=od_;have q425:aa < ((rd_L3 l0 0).length:Int):=od_;obtain⟨a9,e425,hx425_0⟩:=Kd.at_int HR424_0.out aa p425 q425;cases e425
         replace hx425_0:=(HB.out.cell (World.block_lt_of_cell? w _ hx425_0)).trans hx425_0;replace p425:=eq_true p425;replace q425:=eq_true q425;go_wp2
         go_roundg k1
         case measure=>have:=HK1.out;omega
         case rel=>exact⟨(aq),(wrap64 (aa+1)),rs_,rs_,H',⟨by have:=HK1.out;omega⟩,⟨hb_⟩⟩
        ·rw [if_neg c7] at H;have c7b0:=e3_ c7;have c7b1:=e4_ c7;obtain⟨aQ,hy⟩: ∃y_:List (List Int),y_=(([]:List (List Int))):=⟨_,rfl⟩
         replace H:(spec_l01Det.l1 k1 l0 aq aa aQ 1)=some r:=hh_;have aJ:=q_ hy;clear hy;have H':=q_ H;clear H;have p424:0≤(0:Int):=(by omega)
         have q424:0 < (l0.length:Int):=od_;obtain⟨au,aM,aN,e424,hx424_0,hl424_0,hi424_0⟩:=at_L3 HR0.out 0 p424 q424;cases e424
         have qi424:(0 < l0.length)=True:=eq_true (by omega)
         (try rw [show ((0:Int)).toNat=0 from rfl] at hx424_0)
         (try rw [Addr.add_zero'] at hx424_0)
         replace hx424_0:=(HB.out.cell (World.block_lt_of_cell? w _ hx424_0)).trans hx424_0;have HR424_0:=q_ hi424_0;have HC424_0:=q_ hl424_0;clear hi424_0 hl424_0;replace p424:=eq_true p424;replace q424:=eq_true q424;have p425:0≤(aa:Int):=od_;have q425:aa < ((rd_L3 l0 0).length:Int):=od_;obtain⟨a9,e425,hx425_0⟩:=Kd.at_int HR424_0.out aa p425 q425;cases e425
         replace hx425_0:=(HB.out.cell (World.block_lt_of_cell? w _ hx425_0)).trans hx425_0;replace p425:=eq_true p425;replace q425:=eq_true q425
         go_wp2_with (first | ((with_reducible refine gate_dst (N:=24) rfl ?_);refine Kd.S_lit (Kd.slice 2 (Kd.int .i64)) _ 24 ?hg (N:=24) ?hd (xs:=([]:List (List Int))) (inner:= []) (ok:=fun _=>True) (okp:=fun _=>True) ?hr ?hp (fun _ hk=>hk) trivial (Below.refl _ _) (Nat.le_refl _) (by simp) ?_;(case hd=>rfl);(case hg=>rfl);(case hr=>first | (go_simp;done) | (go_simp;rfl));(case hp=>exact(Reps.none _ _));intro bF w8 ho9 hb hg_ hnew_;clear hg_ hnew_;(first | rw [← aJ.out] at ho9 | (simp only [Int.reduceToNat] at ho9;rw [← aJ.out] at ho9));have ba:=q_ (Kd.S_lower ho9 bz_);replace HB:=q_ (bs_ hb);clear hb ho9))
         go_loopg [5,6] k1 (fun kq v5 v6 w'=> ∃(ak:List (List Int)) (ae:Int),v6= .int .i64 ae∧Aside0 (spec_l01Det.l1 kq l0 aq aa ak ae=some r)∧Aside0 (kq≤k1)∧Aside0 (Kd.S (Kd.slice 2 (Kd.int .i64)) 24 w' w.heap.size (fun _=>True) v5 ak)∧Aside0 (Below w.heap.size w w'))
         case atStart=>exact⟨(aQ),(1),rs_,H',⟨Nat.le_refl _⟩,⟨so_ ba.out⟩,⟨hb_⟩⟩
         case round=>
          clear H';(try clear c2);(try clear c2b0);(try clear c2b1);(try clear c2b2);(try clear c3b0);(try clear c4);(try clear c4b0);(try clear c4b1);(try clear c5);(try clear c5b0);(try clear c6);(try clear c6b0);(try clear c7);(try clear c7b0);(try clear c7b1);(try clear hx424_0);(try clear hx425_0);(try clear p424);(try clear p425);(try clear q424);(try clear q425);obtain⟨ak,ae,rfl,HA,HK2,af,HB⟩:=hrel;cases gk with
          | zero=>exact absurd HA.out (by simp [spec_l01Det.l1])
          | succ k2=>
           have H:=HA.out;clear HA;simp only [spec_l01Det.l1] at H
           by_cases c10:ae < (l0.length:Int)
           ·rw [if_pos c10] at H;have c10b0:=decide_eq_true c10;clear c10
            by_cases c11:0≤ae
            ·rw [if_pos c11] at H;have c11b0:=decide_eq_true c11;clear c11
             by_cases c12:0≤aa
             ·rw [if_pos c12] at H;have c12b0:=eq_true c12;have c12b1:=decide_eq_true c12;clear c12
              by_cases c13:aa≤((rd_L3 l0 ae).length:Int)
              ·rw [if_pos c13] at H;have c13b0:=eq_true c13;have c13b1:=decide_eq_true c13;clear c13;replace H:=Option.bind_eq_some_iff.mp H;obtain⟨av,A140,H⟩:=H;replace H:(if 0≤(wrap64 (aa+1)) then(if(wrap64 (aa+1))≤((rd_L3 l0 ae).length:Int) then(if av.length+((rd_L3 l0 ae).drop ((wrap64 (aa+1)):Int).toNat).length < 17592186044416 then(if ak.length < 5864062014805 then(spec_l01Det.l1 k2 l0 aq aa (ak++ [(av++((rd_L3 l0 ae).drop ((wrap64 (aa+1)):Int).toNat))]) (wrap64 (ae+1))) else(none)) else(none)) else(none)) else(none))=some r:=H;have A14:=q_ A140;clear A140;obtain⟨ji15,hji15⟩: ∃j_:Int,(wrap64 (aa+1))=j_:=⟨_,rfl⟩
               replace H:(if 0≤(ji15) then(if(ji15)≤((rd_L3 l0 ae).length:Int) then(if av.length+((rd_L3 l0 ae).drop ((ji15):Int).toNat).length < 17592186044416 then(if ak.length < 5864062014805 then(spec_l01Det.l1 k2 l0 aq aa (ak++ [(av++((rd_L3 l0 ae).drop ((ji15):Int).toNat))]) (wrap64 (ae+1))) else(none)) else(none)) else(none)) else(none))=some r:=by first | (rw [hji15] at H;exact H) | (simp only [hji15] at H ⊢;exact H)
               (try rw [hji15] at A14)
               have hji15w:(IntKind.i64.wrap (aa+1))=ji15:=(i64_w _).trans hji15
               by_cases c16:0≤(ji15)
               ·rw [if_pos c16] at H;have c16b0:=eq_true c16;have c16b1:=decide_eq_true c16;clear c16
                by_cases c17:(ji15)≤((rd_L3 l0 ae).length:Int)
                ·rw [if_pos c17] at H;have c17b0:=eq_true c17;have c17b1:=decide_eq_true c17;clear c17
                 by_cases c18:av.length+((rd_L3 l0 ae).drop ((ji15):Int).toNat).length < 17592186044416
                 ·rw [if_pos c18] at H;have bf:=q_ c18;clear c18;obtain⟨aG,hy⟩: ∃y_:List Int,y_=(av++((rd_L3 l0 ae).drop ((ji15):Int).toNat)):=⟨_,rfl⟩
                  replace H:(if ak.length < 5864062014805 then(spec_l01Det.l1 k2 l0 aq aa (ak++ [aG]) (wrap64 (ae+1))) else(none))=some r:=hh_;have bg:=q_ hy;clear hy
                  by_cases c19:ak.length < 5864062014805
                  ·rw [if_pos c19] at H;have bh:=q_ c19;clear c19;obtain⟨aT,hy⟩: ∃y_:List (List Int),y_=(ak++ [aG]):=⟨_,rfl⟩
                   replace H:(spec_l01Det.l1 k2 l0 aq aa aT (wrap64 (ae+1)))=some r:=hh_;have bi:=q_ hy;clear hy;have H':=q_ H;clear H
                   try go_wp2
                   replace af:=q_ (Kd.S_drew af.out);replace HB:=q_ (below_drew1 HB.out);have p429:0≤(ae:Int):=od_;have q429:ae < (l0.length:Int):=od_;obtain⟨bk,aw,ax,e429,hx429_0,hl429_0,hi429_0⟩:=at_L3 HR0.out ae p429 q429;have ah:=hx429_0;obtain rfl:au=bk:=(by injection e429)
                   replace hx429_0:=(HB.out.cell (World.block_lt_of_cell? w _ hx429_0)).trans hx429_0;have HR429_0:=q_ hi429_0;have HC429_0:=q_ hl429_0;clear hi429_0 hl429_0;replace p429:=eq_true p429;replace q429:=eq_true q429;obtain⟨i021,hi021,_,hsz21,_⟩:=info_parts info2;obtain⟨hcut21,hA21,hC21⟩:=print_take_of (P:=Tryz.prog) (Value.int .i64) 0 24 2 .i64 Tryz.underlying24 hi021 hsz21 aw ax (rd_L3 l0 ae) aa od_ od_ HC429_0.out;have HR430:=q_ (Kd.C_of_reads (h1:=fun _=>rfl) (hA21 _ (Kd.reads_of_C HR429_0.out)));have HC430:=q_ hC21;clear hA21 hC21 hi021 hsz21;have p434:0≤(ae:Int):=od_;have q434:ae < (l0.length:Int):=od_;obtain⟨bq,bD,bE,e434,hx434_0,hl434_0,hi434_0⟩:=at_L3 HR0.out ae p434 q434;have ai:=hx434_0;obtain rfl:au=bq:=(by injection e434)
                   replace hx434_0:=(HB.out.cell (World.block_lt_of_cell? w _ hx434_0)).trans hx434_0;have HR434_0:=q_ hi434_0;have HC434_0:=q_ hl434_0;clear hi434_0 hl434_0;replace p434:=eq_true p434;replace q434:=eq_true q434;have ea_:=Option.some.inj (hx429_0.symm.trans hx434_0);injection ea_ with ea_ en_ ec_
                   subst ea_;subst ec_;clear en_;obtain⟨i022,hi022,_,hsz22,_⟩:=info_parts info2;obtain⟨A22,hcut22,hA22,hC22⟩:=print_drop_of (P:=Tryz.prog) (Value.int .i64) 0 24 2 .i64 Tryz.underlying24 hi022 hsz22 aw ax (rd_L3 l0 ae) (ji15) od_ od_ HC434_0.out;have HR435:=q_ (Kd.C_of_reads (h1:=fun _=>rfl) (hA22 _ (Kd.reads_of_C HR434_0.out)));have HC435:=q_ hC22;clear hA22 hC22 hi022 hsz22;refine st_ (n:=19) (S:=fun w'=>w'.cell? (au.add (ae).toNat)=some (.slice aw (rd_L3 l0 ae).length ax)∧w'.cell? (au.add (ae).toNat)=some (.slice aw (rd_L3 l0 ae).length ax)) (ds:= []) ⟨((HB.out.cell (World.block_lt_of_cell? w _ ah)).trans ah),((HB.out.cell (World.block_lt_of_cell? w _ ai)).trans ai)⟩ (fun hHeld=>?_);refine with_tabW spec_l01Det.tab12 spec_l01Det.bits12 (fun HT_ HW_=>?_)
                   generalize wr.drew=w20 at af HB HR429_0 HR430 HR434_0 HR435 hx429_0 hx434_0 hHeld ⊢
                   refine pu_ 0 31 ?_;refine pu_ 1 32 ?_;refine pu_ 2 33 ?_;refine pu_ 3 34 ?_;refine pu_ 5 36 ?_;refine pu_ 8 39 ?_;refine pu_ 9 40 ?_;refine pu_ 10 41 ?_;refine pu_ 12 43 ?_;refine pu_ 13 44 ?_;refine tk_ 4 35 ?_;refine pu_ 6 37 ?_;refine tk_ 11 42 ?_;refine pu_ 14 45 ?_
                   refine on_ 7 (some 38) (fun K hK=>?_)
                   refine goes_ Tryz.func137 (by kernel_rfl) rfl #[.slice aw ((rd_L3 l0 ae).take (aa:Int).toNat).length ax] (by rfl) rfl rfl (by(try simp only [List.map_toArray,List.map_cons,List.map_nil]);first | done | (rw [show ((rd_L3 l0 ae).take (aa:Int).toNat).length=aa.toNat from (by rw [List.length_take];have h_:(aa:Int)≤((rd_L3 l0 ae).length:Int):=od_;omega)] <;> rfl) | rfl | (simp only [List.length_drop,List.length_take];rfl)) ?_
                   with_reducible refine(spec_l01Own.calls _ _ ((rd_L3 l0 ae).take (aa:Int).toNat) av _ ?ay ?az A14.out).mono ?_
                   (case ay=>exact cb_ HR430.out HB.out)
                   (case az=>exact HC430.out)
                   rintro e w23 ⟨bv,rfl,ho0,hb⟩;refine⟨_,rfl,?_⟩
                   replace af:=q_ (Kd.S_elder' (so_ af.out) (Kd.R_base ho0) hb);have aK:=q_ (Kd.R_lower ho0 bz_);replace HB:=q_ (bs_ hb);(try clear hb)
                   
                   (try clear hk)
                   
                   (try clear ho0);refine hK.out _ _ ⟨((HB.out.cell (World.block_lt_of_cell? w _ ah)).trans ah),((HB.out.cell (World.block_lt_of_cell? w _ ai)).trans ai)⟩ (fun hHeld=>?_)
                   clear hK K;refine norm_ (a':=?_) ?_ ?_
                   rotate_left
                   ·show Act.put _ (some 38) _=_
                    simp only [Act.put,List.setIfInBounds_toArray,List.set_cons_zero,List.set_cons_succ,i64_w,i32_w]
                    rfl
                   refine on_ 15 (some 46) (fun K hK=>?_)
                   refine Kd.R_append_rows_step (Kd.int .i64) (w0:=w) w.heap.size (by rfl) (.tmp 38) (.tmp 45) 24 2 (.int .i64 0) 8 rfl Tryz.underlying24 info2 rfl (by decide) (by omega) bv av ((rd_L3 l0 ae).drop ((ji15):Int).toNat) _ _ _ (fun _=>True) (fun _=>False) rfl rfl ?aO ?aR (fun _ _ h=>h) (fun _ h=>h.elim) ?aF ?aB ?aS ?aL ?_
                   (case aR=>first | (rw [← show ((rd_L3 l0 ae).drop ((ji15):Int).toNat).length=((rd_L3 l0 ae).length - (ji15).toNat) from List.length_drop];exact cb_ HR435.out HB.out) | (exact cb_ HR435.out HB.out))
                   (case aB=>exact hb_)
                   (case aF=>exact(fun _ _=>trivial))
                   (case aO=>exact(ro_ aK.out))
                   (case aS=>exact bz_)
                   (case aL=>have:=bf.out;have hlx_:=(show ((rd_L3 l0 ae).drop ((ji15):Int).toNat).length=((rd_L3 l0 ae).length - (ji15).toNat) from List.length_drop);omega)
                   intro bG w24 ho hb hg hat;rw [← bg.out] at ho;replace af:=q_ (Kd.S_after (ok:=(fun _=>True)) (so_ af.out) hg hat);replace HB:=q_ (hb);have aD:=q_ (ho);clear aK ho hb hg hat;obtain⟨aU,aV,aW⟩:=Kd.R_slice aD.out
                   (first | subst aW | (injection aW with f1_ f2_ f3_;have f4_:=f1_.symm;have f5_:=f3_.symm;clear f1_ f2_ f3_;subst f4_;subst f5_))
                   refine hK.out _ _ ⟨((HB.out.cell (World.block_lt_of_cell? w _ ah)).trans ah),((HB.out.cell (World.block_lt_of_cell? w _ ai)).trans ai)⟩ (fun hHeld=>?_)
                   clear hK K;refine norm_ (a':=?_) ?_ ?_
                   rotate_left
                   ·show Act.put _ (some 46) _=_
                    simp only [Act.put,List.setIfInBounds_toArray,List.set_cons_zero,List.set_cons_succ,i64_w,i32_w]
                    rfl
                   refine on_ 16 (some 47) (fun K hK=>?_)
                   refine value_ (w1:=?_) (v:=?_) (by rfl) rfl ?_ ?_
                   rotate_left 2
                   ·go_simp
                    constructor
                    ·rfl
                    ·rfl
                   refine hK.out _ _ ⟨(World.cell?_alloc_lt _ _ _ (World.block_lt_of_cell? _ _ (((HB.out.cell (World.block_lt_of_cell? w _ ah)).trans ah)))).trans (((HB.out.cell (World.block_lt_of_cell? w _ ah)).trans ah)),(World.cell?_alloc_lt _ _ _ (World.block_lt_of_cell? _ _ (((HB.out.cell (World.block_lt_of_cell? w _ ai)).trans ai)))).trans (((HB.out.cell (World.block_lt_of_cell? w _ ai)).trans ai))⟩ (fun hHeld=>?_)
                   clear hK K;refine norm_ (a':=?_) ?_ ?_
                   rotate_left
                   ·show Act.put _ (some 47) _=_
                    simp only [Act.put,List.setIfInBounds_toArray,List.set_cons_zero,List.set_cons_succ,i64_w,i32_w]
                    rfl
                   refine on_ 17 (some 48) (fun K hK=>?_)
                   refine Kd.S_append_step (Kd.slice 2 (Kd.int .i64)) (w0:=w) w.heap.size (by rfl) (.tmp 31) (.tmp 47) 32 24 (.slice none 0 0) 24 rfl Tryz.underlying32 info24 rfl (by decide) (by omega) u5 ak aG [.slice aU aG.length aV] (fun _=>True) (fun k_=>some k_=(.slice aU aG.length aV:Value).ownBlock) rfl rfl ?aP (fun k_ hk_=>((Kd.R_mono (ok':=fun k_=>((fun _=>True)) k_∧some k_≠(u5:Value).ownBlock) (Kd.R_apart' (aD.out) (Kd.S_typed af.out) (by decide)) (fun k_ hk=>⟨trivial,hk.2⟩))).1 k_ hk_.symm) ?aF ?aO ?aB ?aS ?aL ?_
                   (case aP=>exact Kd.M_row (Kd.R_mono (Kd.R_tight rfl (Kd.R_mono (ok':=fun k_=>((fun _=>True)) k_∧some k_≠(u5:Value).ownBlock) (Kd.R_apart' (aD.out) (Kd.S_typed af.out) (by decide)) (fun k_ hk=>⟨trivial,hk.2⟩))) (fun _ h_=>h_)))
                   (case aB=>exact hb_)
                   (case aF=>exact(fun _ _=>trivial))
                   (case aO=>exact(by(with_reducible repeat (first | apply Kd.S_alloc | apply Kd.S_drewN | apply Kd.S_drew));exact Kd.S_mono af.out (fun k_ hk=>⟨trivial,fun e_=>hk.2 e_⟩)))
                   (case aS=>exact bz_)
                   (case aL=>have:=bh.out;omega)
                   intro bH w25 ho hb hg hat;rw [← bi.out] at ho;replace HB:=q_ (hb);have bu:=q_ (ho);clear af aD ho hb hg hat;refine hK.out _ _ ⟨((HB.out.cell (World.block_lt_of_cell? w _ ah)).trans ah),((HB.out.cell (World.block_lt_of_cell? w _ ai)).trans ai)⟩ (fun hHeld=>?_)
                   clear hK K;refine norm_ (a':=?_) ?_ ?_
                   rotate_left
                   ·show Act.put _ (some 48) _=_
                    simp only [Act.put,List.setIfInBounds_toArray,List.set_cons_zero,List.set_cons_succ,i64_w,i32_w]
                    rfl
                   refine pu_ 18 5 ?_
                   refine done_ (done_of HT_.out (by kernel_rfl)) ?_
                   try go_wp2
                   go_roundg k2
                   case measure=>have:=HK1.out;have:=HK2.out;omega
                   case rel=>exact⟨(aT),(wrap64 (ae+1)),rs_,H',⟨by have:=HK1.out;have:=HK2.out;omega⟩,⟨so_ bu.out⟩,⟨hb_⟩⟩
                  ·rw [if_neg c19] at H;exact absurd H (by simp)
                 ·rw [if_neg c18] at H;exact absurd H (by simp)
                ·rw [if_neg c17] at H;exact absurd H (by simp)
               ·rw [if_neg c16] at H;exact absurd H (by simp)
              ·rw [if_neg c13] at H;exact absurd H (by simp)
             ·rw [if_neg c12] at H;exact absurd H (by simp)
            ·rw [if_neg c11] at H;exact absurd H (by simp)
           ·rw [if_neg c10] at H;have c10b0:=decide_eq_false c10;clear c10
            by_cases c27:0 < (l0.length:Int)
            ·rw [if_pos c27] at H;have c27b0:=decide_eq_true c27;have c27b1:decide (0 < l0.length)=true:=decide_eq_true (by omega);clear c27
             by_cases c28:0≤aa
             ·rw [if_pos c28] at H;have c28b0:=decide_eq_true c28;clear c28
              by_cases c29:aa < ((rd_L3 l0 0).length:Int)
              ·rw [if_pos c29] at H;have c29b0:=decide_eq_true c29;clear c29;replace H:=Option.bind_eq_some_iff.mp H;obtain⟨aC,A300,H⟩:=H;replace H:(if(Int.tmod aa 2)=1 then(spec_l01Det.l0 k2 l0 (wrap64 (aq+(wrap64 (-(wrap64 ((rd (rd_L3 l0 0) aa)*aC)))))) (wrap64 (aa+1))) else(spec_l01Det.l0 k2 l0 (wrap64 (aq+(wrap64 ((rd (rd_L3 l0 0) aa)*aC)))) (wrap64 (aa+1))))=some r:=H;have A30:=q_ A300;clear A300
               by_cases c31:(Int.tmod aa 2)=1
               ·rw [if_pos c31] at H;have c31b0:=e1_ c31;have c31b1:=e2_ c31;clear c31;have H':=q_ H;clear H
                try go_wp2
                replace af:=q_ (Kd.S_drew af.out);replace HB:=q_ (below_drew1 HB.out);have p442:0≤(0:Int):=(by omega)
                have q442:0 < (l0.length:Int):=od_;obtain⟨aI,aX,aH,e442,hx442_0,hl442_0,hi442_0⟩:=at_L3 HR0.out 0 p442 q442;have ag:=hx442_0
                (try rw [show ((0:Int)).toNat=0 from rfl] at ag)
                (try rw [show 0*1=0 from rfl] at ag)
                (try rw [Addr.add_zero'] at ag)
                obtain rfl:au=aI:=(by injection e442)
                have qi442:(0 < l0.length)=True:=eq_true (by omega)
                (try rw [show ((0:Int)).toNat=0 from rfl] at hx442_0)
                (try rw [Addr.add_zero'] at hx442_0)
                replace hx442_0:=(HB.out.cell (World.block_lt_of_cell? w _ hx442_0)).trans hx442_0;have HR442_0:=q_ hi442_0;have HC442_0:=q_ hl442_0;clear hi442_0 hl442_0;replace p442:=eq_true p442;replace q442:=eq_true q442;have p443:0≤(aa:Int):=od_;have q443:aa < ((rd_L3 l0 0).length:Int):=od_;obtain⟨aA,e443,hx443_0⟩:=Kd.at_int HR442_0.out aa p443 q443;have aj:=hx443_0;cases e443
                replace hx443_0:=(HB.out.cell (World.block_lt_of_cell? w _ hx443_0)).trans hx443_0;replace p443:=eq_true p443;replace q443:=eq_true q443;obtain⟨bw,bz,aY⟩:=Kd.S_slice af.out
                (first | subst aY | (injection aY with f1_ f2_ f3_;have f4_:=f1_.symm;have f5_:=f3_.symm;clear f1_ f2_ f3_;subst f4_;subst f5_))
                refine st_ (n:=10) (S:=fun w'=>w'.cell? au=some (.slice (some aA) (rd_L3 l0 0).length aH)∧w'.cell? (aA.add (aa).toNat)=some (.int .i64 (rd (rd_L3 l0 0) aa))) (ds:= []) ⟨((HB.out.cell (World.block_lt_of_cell? w _ ag)).trans ag),((HB.out.cell (World.block_lt_of_cell? w _ aj)).trans aj)⟩ (fun hHeld=>?_);refine with_tabW spec_l01Det.tab13 spec_l01Det.bits13 (fun HT_ HW_=>?_)
                generalize wr.drew=w32 at af HB HR442_0 hx442_0 hx443_0 hHeld ⊢
                refine pu_ 0 49 ?_;refine pu_ 1 50 ?_;refine pu_ 3 52 ?_;refine pu_ 6 55 ?_;refine tk_ 2 51 ?_;refine pu_ 4 53 ?_;refine tk_ 5 54 ?_
                refine on_ 7 (some 56) (fun K hK=>?_)
                refine goes_ Tryz.func138 (by kernel_rfl) rfl #[.slice bw ak.length bz] (by rfl) rfl rfl (by(try simp only [List.map_toArray,List.map_cons,List.map_nil]);first | done | rfl | (simp only [List.length_drop,List.length_take];rfl)) ?_
                with_reducible refine(ih k2 (by have:=HK1.out;have:=HK2.out;omega) _ _ ak aC _ ?ay ?az A30.out).mono ?_
                (case ay=>repeat (first | exact(Kd.S_reads' af.out).2.2 | (with_reducible refine Kd.C_alloc ?_ _) | (with_reducible refine Kd.C_drewN ?_ _) | (with_reducible refine Kd.C_drew ?_)))
                (case az=>exact(Kd.S_reads' af.out).2.1)
                rintro e w34 ⟨rfl,hb⟩;refine⟨_,rfl,?_⟩
                replace af:=q_ (Kd.S_below (so_ af.out) hb);replace HB:=q_ (bs_ hb);(try clear hb)
                
                (try clear hk)
                
                refine hK.out _ _ ⟨((HB.out.cell (World.block_lt_of_cell? w _ ag)).trans ag),((HB.out.cell (World.block_lt_of_cell? w _ aj)).trans aj)⟩ (fun hHeld=>?_)
                clear hK K;refine norm_ (a':=?_) ?_ ?_
                rotate_left
                ·show Act.put _ (some 56) _=_
                 simp only [Act.put,List.setIfInBounds_toArray,List.set_cons_zero,List.set_cons_succ,i64_w,i32_w]
                 rfl
                refine pu_ 8 57 ?_;refine pu_ 9 7 ?_
                refine done_ (done_of HT_.out (by kernel_rfl)) ?_
                try go_wp2
                go_roundg k2
                case measure=>have:=HK1.out;have:=HK2.out;omega
                case rel=>exact⟨(wrap64 (aq+(wrap64 (-(wrap64 ((rd (rd_L3 l0 0) aa)*aC)))))),(wrap64 (aa+1)),rs_,rs_,H',⟨by have:=HK1.out;have:=HK2.out;omega⟩,⟨hb_⟩⟩
               ·rw [if_neg c31] at H;have c31b0:=e3_ c31;have c31b1:=e4_ c31;have H':=q_ H;clear H
                try go_wp2
                replace af:=q_ (Kd.S_drew af.out);replace HB:=q_ (below_drew1 HB.out);have p442:0≤(0:Int):=(by omega)
                have q442:0 < (l0.length:Int):=od_;obtain⟨aI,aX,aH,e442,hx442_0,hl442_0,hi442_0⟩:=at_L3 HR0.out 0 p442 q442;have ag:=hx442_0
                (try rw [show ((0:Int)).toNat=0 from rfl] at ag)
                (try rw [show 0*1=0 from rfl] at ag)
                (try rw [Addr.add_zero'] at ag)
                obtain rfl:au=aI:=(by injection e442)
                have qi442:(0 < l0.length)=True:=eq_true (by omega)
                (try rw [show ((0:Int)).toNat=0 from rfl] at hx442_0)
                (try rw [Addr.add_zero'] at hx442_0)
                replace hx442_0:=(HB.out.cell (World.block_lt_of_cell? w _ hx442_0)).trans hx442_0;have HR442_0:=q_ hi442_0;have HC442_0:=q_ hl442_0;clear hi442_0 hl442_0;replace p442:=eq_true p442;replace q442:=eq_true q442;have p443:0≤(aa:Int):=od_;have q443:aa < ((rd_L3 l0 0).length:Int):=od_;obtain⟨aA,e443,hx443_0⟩:=Kd.at_int HR442_0.out aa p443 q443;have aj:=hx443_0;cases e443
                replace hx443_0:=(HB.out.cell (World.block_lt_of_cell? w _ hx443_0)).trans hx443_0;replace p443:=eq_true p443;replace q443:=eq_true q443;obtain⟨bA,bC,aZ⟩:=Kd.S_slice af.out
                (first | subst aZ | (injection aZ with f1_ f2_ f3_;have f4_:=f1_.symm;have f5_:=f3_.symm;clear f1_ f2_ f3_;subst f4_;subst f5_))
                refine st_ (n:=10) (S:=fun w'=>w'.cell? au=some (.slice (some aA) (rd_L3 l0 0).length aH)∧w'.cell? (aA.add (aa).toNat)=some (.int .i64 (rd (rd_L3 l0 0) aa))) (ds:= []) ⟨((HB.out.cell (World.block_lt_of_cell? w _ ag)).trans ag),((HB.out.cell (World.block_lt_of_cell? w _ aj)).trans aj)⟩ (fun hHeld=>?_);refine with_tabW spec_l01Det.tab13 spec_l01Det.bits13 (fun HT_ HW_=>?_)
                generalize wr.drew=w35 at af HB HR442_0 hx442_0 hx443_0 hHeld ⊢
                refine pu_ 0 49 ?_;refine pu_ 1 50 ?_;refine pu_ 3 52 ?_;refine pu_ 6 55 ?_;refine tk_ 2 51 ?_;refine pu_ 4 53 ?_;refine tk_ 5 54 ?_
                refine on_ 7 (some 56) (fun K hK=>?_)
                refine goes_ Tryz.func138 (by kernel_rfl) rfl #[.slice bA ak.length bC] (by rfl) rfl rfl (by(try simp only [List.map_toArray,List.map_cons,List.map_nil]);first | done | rfl | (simp only [List.length_drop,List.length_take];rfl)) ?_
                with_reducible refine(ih k2 (by have:=HK1.out;have:=HK2.out;omega) _ _ ak aC _ ?ay ?az A30.out).mono ?_
                (case ay=>repeat (first | exact(Kd.S_reads' af.out).2.2 | (with_reducible refine Kd.C_alloc ?_ _) | (with_reducible refine Kd.C_drewN ?_ _) | (with_reducible refine Kd.C_drew ?_)))
                (case az=>exact(Kd.S_reads' af.out).2.1)
                rintro e w37 ⟨rfl,hb⟩;refine⟨_,rfl,?_⟩
                replace af:=q_ (Kd.S_below (so_ af.out) hb);replace HB:=q_ (bs_ hb);(try clear hb)
                
                (try clear hk)
                
                refine hK.out _ _ ⟨((HB.out.cell (World.block_lt_of_cell? w _ ag)).trans ag),((HB.out.cell (World.block_lt_of_cell? w _ aj)).trans aj)⟩ (fun hHeld=>?_)
                clear hK K;refine norm_ (a':=?_) ?_ ?_
                rotate_left
                ·show Act.put _ (some 56) _=_
                 simp only [Act.put,List.setIfInBounds_toArray,List.set_cons_zero,List.set_cons_succ,i64_w,i32_w]
                 rfl
                refine pu_ 8 57 ?_;refine pu_ 9 7 ?_
                refine done_ (done_of HT_.out (by kernel_rfl)) ?_
                try go_wp2
                go_roundg k2
                case measure=>have:=HK1.out;have:=HK2.out;omega
                case rel=>exact⟨(wrap64 (aq+(wrap64 ((rd (rd_L3 l0 0) aa)*aC)))),(wrap64 (aa+1)),rs_,rs_,H',⟨by have:=HK1.out;have:=HK2.out;omega⟩,⟨hb_⟩⟩
              ·rw [if_neg c29] at H;exact absurd H (by simp)
             ·rw [if_neg c28] at H;exact absurd H (by simp)
            ·rw [if_neg c27] at H;exact absurd H (by simp)
       ·rw [if_neg c6] at H;exact absurd H (by simp)
      ·rw [if_neg c5] at H;exact absurd H (by simp)
     ·rw [if_neg c4] at H;exact absurd H (by simp)
    ·rw [if_neg c3] at H;have c3b0:=decide_eq_false c3;clear c3;obtain rfl:=Option.some.inj H;go_wp2
     go_ret
     exact⟨by first | rfl | (simp [errW_none,errW_some] <;> rfl) | (simp [*,errW_none,errW_some] <;> rfl),hb_⟩
end Go.Proofs.YthmfdplckdijdaaGreat.Pr
end
section
namespace Go.Proofs.YthmfdplckdijdaaGreat.Sd
open Go.RowKit Go.Proofs.YthmfdplckdijdaaGreatW.PrintWords Go.Proofs.YthmfdplckdijdaaGreatW.PrintMore Go.Proofs.YthmfdplckdijdaaGreat.Ma Go.Proofs.YthmfdplckdijdaaGreat.Pr Go.Proofs.YthmfdplckdijdaaGreat.Dt Go.Proofs.YthmfdplckdijdaaGreat.Bz
def en (l:List (List Int)):Mat:=fun i j=>(l.getD i []).getD j 0
def SB (n:Nat) (A:Mat):Prop:= ∃k,Bk n k A
theorem SB.mnr {n c:Nat} {A:Mat} (h:SB (n+1) A) (hc:c < n+1):SB n (mnr c A):=by
 obtain⟨k,h⟩:=h
 by_cases e:c=k
 ·subst e
  refine⟨n,fun i j hi hj=>?_⟩
  have:=h (i+1) (up c j) (by omega) (up_lt hj)
  rw [if_neg (up_ne c j)] at this
  unfold Dt.mnr
  split <;> omega
 ·refine⟨dn c k,fun i j hi hj=>?_⟩
  have:=h (i+1) (up c j) (by omega) (up_lt hj)
  unfold Dt.mnr
  by_cases q:up c j=k
  ·rw [if_pos q] at this
   rw [if_pos (by rw [← q,dn_up])];exact this
  ·rw [if_neg q] at this
   split <;> omega
theorem SB.det {n:Nat} {A:Mat} (h:SB n A) (hn:n≤5): -1920000000≤det n A∧det n A≤1920000000:=by
 obtain⟨k,h⟩:=h
 have h1:=det_absk n k A h
 have h2:=b20_le n hn
 omega
theorem SB.num {n:Nat} {A:Mat} (h:SB n A) {i j:Nat} (hi:i < n) (hj:j < n): -100≤A i j∧A i j≤100:=by
 obtain⟨k,h⟩:=h
 have:=h i j hi hj
 split at this <;> omega
def mrow (l:List (List Int)) (c r:Nat):List (List Int):=(List.range r).map fun i=>((l.getD (i+1) []).take c)++((l.getD (i+1) []).drop (c+1))
theorem mrow_len (l:List (List Int)) (c r:Nat):(mrow l c r).length=r:=by simp [mrow]
theorem mrow_succ (l:List (List Int)) (c r:Nat):mrow l c (r+1)=mrow l c r++ [((l.getD (r+1) []).take c)++((l.getD (r+1) []).drop (c+1))]:=by simp [mrow,List.range_succ]
theorem mrow_en (l:List (List Int)) (c r n:Nat) (hl: ∀x ∈ l,x.length=n+1) (hn:l.length=n+1) (hc:c < n+1) (i j:Nat) (hi:i < r) (hr:r≤n) (hj:j < n):en (mrow l c r) i j=Dt.mnr c (en l) i j:=by
 have hx:(l.getD (i+1) []).length=n+1:=by
  rw [List.getD_eq_getElem?_getD,List.getElem?_eq_getElem (show i+1 < l.length by omega)];exact hl _ (List.getElem_mem _)
 unfold en Dt.mnr mrow
 rw [List.getD_eq_getElem?_getD (l:=List.map _ _),List.getElem?_map,List.getElem?_range hi]
 simp only [Option.map_some,Option.getD_some]
 show _=(l.getD (i+1) []).getD (up c j) 0
 generalize l.getD (i+1) []=x at hx ⊢
 rw [List.getD_eq_getElem?_getD,List.getD_eq_getElem?_getD]
 congr 1
 unfold up
 by_cases q:j < c
 ·rw [if_pos q,List.getElem?_append_left (by rw [List.length_take];omega),List.getElem?_take_of_lt q]
 ·rw [if_neg q,List.getElem?_append_right (by rw [List.length_take];omega),List.length_take,Nat.min_eq_left (by omega),List.getElem?_drop,show c+1+(j - c)=j+1 from by omega]
theorem own_eq (x:List Int) (h:x.length < 17592186044416):spec_l01Own.f x=some x:=by
 unfold spec_l01Own.f
 simp only [Option.bind_some,List.length_nil,Nat.zero_add,List.nil_append]
 rw [if_pos h]
theorem rdL1 (l:List (List Int)) (i:Nat):rd_L3 l (i:Int)=l.getD i []:=by simp [rd_L3]
theorem odd_sg (c:Nat) (x:Int):(if Int.tmod (c:Int) 2=1 then -x else x)=sg c*x:=by
 have e:Int.tmod (c:Int) 2=((c % 2:Nat):Int):=by rw [Int.tmod_eq_emod_of_nonneg (by omega)];omega
 unfold sg
 by_cases q:c % 2=1
 ·rw [if_pos (by rw [e,q];rfl),if_pos q];omega
 ·rw [if_neg (by rw [e];omega),if_neg q];omega
theorem spec_det: ∀(n:Nat) (l:List (List Int)),n≤5→l.length=n→(∀x ∈ l,x.length=n)→SB n (en l)→Ev (fun k=>spec_l01Det.f k l) (det n (en l)):=by
 intro n
 induction n with
 | zero=>
  intro l _ hn _ _
  show Ev _ (1:Int)
  exact evstep (fun k=>by rw [spec_l01Det.f]) (evpos (by omega) (evc rfl))
 | succ n ih=>
  intro l h5 hn hl hs
  have hrow (i:Nat) (hi:i < n+1):(l.getD i []).length=n+1:=by
   rw [List.getD_eq_getElem?_getD,List.getElem?_eq_getElem (show i < l.length by omega)];exact hl _ (List.getElem_mem _)
  let F:Nat→Int:=fun k=>sg k*(en l 0 k*det n (Dt.mnr k (en l)))
  have hF (k:Nat) (hk:k < n+1): -192000000000≤F k∧F k≤192000000000:=by
   have h1:=(hs.mnr hk).det (by omega)
   have h2:=hs.num (i:=0) (j:=k) (by omega) hk
   have:(F k).natAbs≤100*1920000000:=by
    show (sg k*(en l 0 k*det n (Dt.mnr k (en l)))).natAbs≤_
    rw [Int.natAbs_mul,Int.natAbs_mul,sg_abs,Nat.one_mul]
    exact Nat.mul_le_mul (by omega) (by omega)
   omega
  have hS: ∀c,c≤n+1→ -192000000000*(c:Int)≤sm c F∧sm c F≤192000000000*(c:Int):=by
   intro c
   induction c with
   | zero=>intro _;simp [sm]
   | succ c ihc=>
    intro hc
    have h1:=ihc (by omega)
    have h2:=hF c (by omega)
    simp only [sm]
    push_cast
    omega
  have key: ∀q c,c+q=n+1→Ev (fun k=>spec_l01Det.l0 k l (sm c F) c) (sm (n+1) F):=by
   intro q
   induction q with
   | zero=>
    intro c hc
    obtain rfl:c=n+1:=by omega
    exact evstep (fun k=>by rw [spec_l01Det.l0]) (evneg (by omega) (evc rfl))
   | succ q ihq=>
    intro c hc
    have nx:=ihq (c+1) (by omega)
    have hr0:=hrow 0 (by omega)
    have e0:rd (rd_L3 l 0) (c:Int)=en l 0 c:=by
     rw [show rd_L3 l 0=l.getD 0 [] from rdL1 l 0,rd_nat];rfl
    have hr0':(rd_L3 l 0).length=n+1:=by rw [show rd_L3 l 0=l.getD 0 [] from rdL1 l 0];exact hr0
    have f1:=hF c (by omega)
    have s1:=hS c (by omega)
    have s2:=hS (c+1) (by omega)
    refine evstep (fun k=>by rw [spec_l01Det.l0]) (evpos (by omega) (evpos (by omega) (evpos (by omega) (evpos (by omega) ?_))))
    rw [e0]
    by_cases z:en l 0 c=0
    ·refine evpos z ?_
     rw [w64 (x:=(c:Int)+1) (by omega) (by omega)]
     have e:sm (c+1) F=sm c F:=by
      show sm c F+sg c*(en l 0 c*det n (Dt.mnr c (en l)))=_
      rw [z];simp
     rw [e] at nx
     exact nx
    ·refine evneg z ?_
     have build: ∀p r,r+p=n→Ev (fun k=>spec_l01Det.l1 k l (sm c F) c (mrow l c r) ((r+1:Nat):Int)) (sm (n+1) F):=by
      intro p
      induction p with
      | zero=>
       intro r hr
       obtain rfl:r=n:=by omega
       refine evstep (fun k=>by rw [spec_l01Det.l1]) (evneg (by omega) (evpos (by omega) (evpos (by omega) (evpos (by omega) ?_))))
       have hm:=ih (mrow l c r) (by omega) (mrow_len l c r) (fun x hx=>by
        obtain⟨i,hi,rfl⟩:=List.mem_map.1 hx
        have:=hrow (i+1) (by have:=List.mem_range.1 hi;omega)
        rw [List.length_append,List.length_take,List.length_drop];omega) (by
        obtain⟨k',hk'⟩:=hs.mnr (c:=c) (by omega)
        exact⟨k',fun i j hi hj=>by rw [mrow_en l c r r hl hn (by omega) i j hi (Nat.le_refl _) hj];exact hk' i j hi hj⟩)
       rw [det_congr (A:=en (mrow l c r)) (B:=Dt.mnr c (en l)) (fun i j hi hj=>mrow_en l c r r hl hn (by omega) i j hi (Nat.le_refl _) hj)] at hm
       have hd:=(hs.mnr (c:=c) (by omega)).det (by omega)
       have ha:=hs.num (i:=0) (j:=c) (by omega) (by omega)
       refine evbind hm ?_
       rw [e0]
       have hp: -192000000000≤en l 0 c*det r (Dt.mnr c (en l))∧en l 0 c*det r (Dt.mnr c (en l))≤192000000000:=by
        have:(en l 0 c*det r (Dt.mnr c (en l))).natAbs≤100*1920000000:=by
         rw [Int.natAbs_mul];exact Nat.mul_le_mul (by omega) (by omega)
        omega
       have o:=odd_sg c (en l 0 c*det r (Dt.mnr c (en l)))
       have fe:F c=sg c*(en l 0 c*det r (Dt.mnr c (en l))):=rfl
       have se:sm (c+1) F=sm c F+F c:=rfl
       rw [w64 (x:=en l 0 c*det r (Dt.mnr c (en l))) (by omega) (by omega)]
       by_cases od:Int.tmod (c:Int) 2=1
       ·refine evpos od ?_
        rw [if_pos od] at o
        rw [w64 (x:= -(en l 0 c*det r (Dt.mnr c (en l)))) (by omega) (by omega),o, ← fe, ← se,w64 (x:=sm (c+1) F) (by omega) (by omega),w64 (x:=(c:Int)+1) (by omega) (by omega)]
        exact nx
       ·refine evneg od ?_
        rw [if_neg od] at o
        rw [o, ← fe, ← se,w64 (x:=sm (c+1) F) (by omega) (by omega),w64 (x:=(c:Int)+1) (by omega) (by omega)]
        exact nx
      | succ p ihp=>
       intro r hr
       have hx:=hrow (r+1) (by omega)
       have nx2:=ihp (r+1) (by omega)
       rw [mrow_succ] at nx2
       refine evstep (fun k=>by rw [spec_l01Det.l1]) ?_
       rw [rdL1]
       refine evpos (by omega) (evpos (by omega) (evpos (by omega) (evpos (by omega) ?_)))
       rw [Int.toNat_natCast,w64 (x:=(c:Int)+1) (by omega) (by omega)]
       refine evsome (a:=(l.getD (r+1) []).take c) (own_eq _ (by rw [List.length_take];omega)) (evpos (by omega) (evpos (by omega) (evpos ?_ (evpos (by rw [mrow_len];omega) ?_))))
       ·rw [List.length_take,List.length_drop];omega
       ·rw [show ((c:Int)+1).toNat=c+1 from by omega,w64 (x:=((r+1:Nat):Int)+1) (by omega) (by omega)]
        exact nx2
     have:=build n 0 (by omega)
     exact this
  refine evstep (fun k=>by rw [spec_l01Det.f]) (evneg (by omega) ?_)
  exact key (n+1) 0 (by omega)
end Go.Proofs.YthmfdplckdijdaaGreat.Sd
end
section
namespace Go.Proofs.YthmfdplckdijdaaGreat.Mn
open Go.RowKit Go.Proofs.YthmfdplckdijdaaGreatW.PrintWords Go.Proofs.YthmfdplckdijdaaGreatW.PrintMore Go.Proofs.YthmfdplckdijdaaGreat.Ma Go.Proofs.YthmfdplckdijdaaGreat.Pr Go.Proofs.YthmfdplckdijdaaGreat.Dt Go.Proofs.YthmfdplckdijdaaGreat.Bz Go.Proofs.YthmfdplckdijdaaGreat.Bd Go.Proofs.YthmfdplckdijdaaGreat.Un Go.Proofs.YthmfdplckdijdaaGreat.Cz
section
variable {n:Nat} {l:List (List Int)} (h:Sq n l) (hn:n≤5) (s:Int)
include h hn
theorem colM_small (i j:Nat) (hi:i < n) (hj:j < n):(colM (bB s) (en l) i j).natAbs≤20:=by
 have _h:=hn
 have:=h.num i j hi hj
 unfold colM
 split
 ·omega
 ·split <;> decide
theorem cols_det:Ev (fun k=>spec_l01Det.f k (mk n n (colM (bB s) (en l)))) (det n (colM (bB s) (en l))):=by
 have he (i j:Nat) (hi:i < n) (hj:j < n):en (mk n n (colM (bB s) (en l))) i j=colM (bB s) (en l) i j:=mk_en n n _ i j hi hj
 have:=Sd.spec_det n (mk n n (colM (bB s) (en l))) hn (mk_len _ _ _) (mk_rows _ _ _) ⟨0,fun i j hi hj=>by
  show (en (mk n n (colM (bB s) (en l))) i j).natAbs≤_
  rw [he i j hi hj]
  have:=colM_small h hn s i j hi hj
  split <;> omega⟩
 have e:det n (Sd.en (mk n n (colM (bB s) (en l))))=det n (colM (bB s) (en l)):=det_congr he
 rw [e] at this
 exact this
end
end Go.Proofs.YthmfdplckdijdaaGreat.Mn
end
section
namespace Go.Proofs.YthmfdplckdijdaaGreat.Hd
open Go.RowKit Go.Proofs.YthmfdplckdijdaaGreatW.PrintWords Go.Proofs.YthmfdplckdijdaaGreatW.PrintLast Go.Proofs.YthmfdplckdijdaaGreatW.PrintMore Go.Proofs.YthmfdplckdijdaaGreat.Pr Go.Proofs.YthmfdplckdijdaaGreat.La Go.Proofs.YthmfdplckdijdaaGreat.Ma Go.Proofs.YthmfdplckdijdaaGreat.Hm Go.Proofs.YthmfdplckdijdaaGreat.Dt
def pcol (M:Mat) (i:Nat) (col:List Int) (r:Nat):Mat:=fun a d=>if d=i∧a < r then col.getD a 0 else M a d
theorem pcol_zero (M:Mat) (i:Nat) (col:List Int) (a d:Nat):pcol M i col 0 a d=M a d:=by unfold pcol;rw [if_neg (by omega)]
theorem pcol_next (M:Mat) (i:Nat) (col:List Int) (r a d:Nat):mset (pcol M i col r) r i (col.getD r 0) a d=pcol M i col (r+1) a d:=by
 unfold mset pcol
 by_cases e:a=r∧d=i
 ·obtain⟨rfl,rfl⟩:=e
  rw [if_pos ⟨rfl,rfl⟩,if_pos ⟨rfl,by omega⟩]
 ·rw [if_neg e]
  by_cases q:d=i∧a < r
  ·rw [if_pos q,if_pos (by omega)]
  ·rw [if_neg q,if_neg (by omega)]
def okB (n:Nat) (b:Nat→Nat) (k:Nat):Prop:= ∃j,j < n∧k=b j
theorem putO {w0 w:World} {g n:Nat} {b cp:Nat→Nat} {M:Mat} (i:Nat) (hi:i < n) (cap:Nat) (A:Option Addr) (c:Nat) (col:List Int) (hO:Own w0 w g n b cp M) (hn:n≤1000) (hc:n≤col.length)
  (hcol: ∀W,Kept w W (okB n b)→Below w0.heap.size w0 W→Kd.C (Kd.int .i64) W A col.length col):
  Calls Tryz.prog 134 #[.slice (some ⟨g,0,none⟩) n cap, .int .i64 (i:Int), .slice A col.length c] w fun e w'=>e= .returned (.tuple #[])∧Own w0 w' g n b cp (pcol M i col n)∧Kept w w' (okB n b):=by
 have HO:=q_ hO;have HI:=q_ hi;have HN:=q_ hn;have HC:=q_ hc;have HCOL:=q_ hcol;clear hO hi hn hc hcol
 go_enter Tryz.func134,Tryz.ntmps134
 go_wp2
 go_loopg [6,7,10] n (fun gg v6 v7 v10 wr=> ∃r:Nat,r≤n∧n - r≤gg∧v10= .int .i64 (r:Int)∧Aside0 (Own w0 wr g n b cp (pcol M i col r))∧Aside0 (Kept w wr (okB n b)))
 case atStart=>exact⟨0,Nat.zero_le _,by omega,rfl,⟨HO.out.congr (fun a d _ _=>(pcol_zero M i col a d).symm)⟩,⟨Kept.refl _ _⟩⟩
 case round=>
  clear HO;obtain⟨r,hr,hg,rfl,RO,RK⟩:=hrel
  by_cases hlt:r < n
  ·have hltz:(r:Int) < (n:Int):=by omega
   have h0z:(0:Int)≤(r:Int):=by omega
   have hiz:(i:Int) < (n:Int):=by have:=HI.out;omega
   have h0i:(0:Int)≤(i:Int):=by omega
   have hcell:=(RO.out.og r hlt).1;have hold:=(RO.out.ob r i hlt HI.out).1;have hfr:=(RO.out.ob r i hlt HI.out).2;have hcz:(r:Int) < (col.length:Int):=by have:=HC.out;omega
   obtain⟨adc,eA,hcc⟩:=Kd.at_int (HCOL.out wr RK.out RO.out.below) (r:Int) (by omega) (by omega);subst eA;rw [Int.toNat_natCast,rd_nat] at hcc;have hw:IntKind.i64.wrap ((r:Int)+1)=((r+1:Nat):Int):=by rw [IntWalk.i64_in _ (by have:=HN.out;omega)];rfl
   have HW:=q_ hw;have HLT:=q_ hlt;have HG:=q_ hg;clear hlt hr hg;go_wp2
   go_roundg (n - (r+1))
   case measure=>have:=HG.out;have:=HLT.out;omega
   case rel=>
    have hput:=(RO.out.put HLT.out HI.out (col.getD r 0)).congr (M':=pcol M i col (r+1)) (fun a d _ _=>pcol_next M i col r a d);exact⟨r+1,by have:=HLT.out;omega,by omega,by first | rfl | (rw [HW.out]) | (simp [HW.out]),⟨hput⟩,⟨RK.out.then_ ((Kept.refl _ _).setCell (.inl ⟨r,HLT.out,rfl⟩) _) (fun k hk=> .inl hk)⟩⟩
  ·have hltz: ¬ (r:Int) < (n:Int):=by omega
   obtain rfl:r=n:=by omega
   go_wp2
   go_end0
   exact⟨rfl,RO.out,RK.out⟩
end Go.Proofs.YthmfdplckdijdaaGreat.Hd
end
section
namespace Go.Proofs.YthmfdplckdijdaaGreat.Hd
open Go.RowKit Go.Proofs.YthmfdplckdijdaaGreatW.PrintWords Go.Proofs.YthmfdplckdijdaaGreatW.PrintLast Go.Proofs.YthmfdplckdijdaaGreatW.PrintMore Go.Proofs.YthmfdplckdijdaaGreat.Pr Go.Proofs.YthmfdplckdijdaaGreat.La Go.Proofs.YthmfdplckdijdaaGreat.Ma Go.Proofs.YthmfdplckdijdaaGreat.Hm Go.Proofs.YthmfdplckdijdaaGreat.Dt
structure Pre (w0 w:World) (g n r:Nat) (b cp:Nat→Nat):Prop where
 below:Below w0.heap.size w0 w
 gb:w0.heap.size≤g
 bb: ∀j,j < r→w0.heap.size≤b j
 inj: ∀i j,i < r→j < r→b i=b j→i=j
 ne: ∀j,j < r→b j≠g
 cap: ∀j,j < r→n≤cp j
 og: ∀j,j < r→w.cell? ⟨g,j,none⟩=some (.slice (some ⟨b j,0,none⟩) n (cp j))
 ob: ∀j c,j < r→c < n→w.cell? ⟨b j,c,none⟩=some (.int .i64 0)∧w.frozen? ⟨b j,c,none⟩=false
 rest: ∀j,j < n→(∃v,w.cell? ⟨g,j,none⟩=some v)∧w.frozen? ⟨g,j,none⟩=false
section
variable {w0 w w1:World} {g n r:Nat} {b cp:Nat→Nat}
theorem Pre.step (h:Pre w0 w g n r b cp) (hr:r≤n) (hb:Below w.heap.size w w1):Pre w0 w1 g n r b cp:=
  ⟨Below.trans h.below (hb.mono h.below.size),h.gb,h.bb,h.inj,h.ne,h.cap,
   fun j hj=>by have:=lt_of_cell (h.og j hj);exact(hb.cell (p:=⟨g,j,none⟩) this).trans (h.og j hj),
   fun j c hj hc=>by have:=lt_of_cell (h.ob j c hj hc).1;exact⟨(hb.cell (p:=⟨b j,c,none⟩) this).trans (h.ob j c hj hc).1,(frozen_below hb this).trans (h.ob j c hj hc).2⟩,
   fun j hj=>by obtain⟨⟨v,hv⟩,hf⟩:=h.rest j hj;have:=lt_of_cell hv;exact⟨⟨v,(hb.cell (p:=⟨g,j,none⟩) this).trans hv⟩,(frozen_below hb this).trans hf⟩⟩
theorem Pre.full (h:Pre w0 w g n n b cp):Own w0 w g n b cp (fun _ _=>0):=
 ⟨h.below,h.gb,h.bb,h.inj,h.ne,h.cap,fun j hj=>⟨h.og j hj,(h.rest j hj).2⟩,h.ob⟩
theorem Pre.add {bn cn:Nat} (h:Pre w0 w g n r b cp) (hr:r < n) (hb:Below w.heap.size w w1) (hR:Kd.R (Kd.int .i64) 2 w1 w.heap.size (fun _=>True) (.slice (some ⟨bn,0,none⟩) n cn) (List.replicate n 0)):
  Pre w0 (w1.setCell ⟨g,r,none⟩ (.slice (some ⟨bn,0,none⟩) n cn)) g n (r+1) (fun j=>if j=r then bn else b j) (fun j=>if j=r then cn else cp j):=by
 have h1:=h.step (Nat.le_of_lt hr) hb
 have hbn:w.heap.size≤bn:=Kd.R_base hR bn (by simp [Value.ownBlock])
 have hcn:=(Kd.R_reads' hR).2.1
 have hlt (j:Nat) (hj:j < r):b j < w.heap.size:=lt_of_cell (h.ob j 0 hj (by omega)).1
 have hg:g < w.heap.size:=by obtain⟨⟨v,hv⟩,_⟩:=h.rest r hr;exact lt_of_cell hv
 refine⟨h1.below.setCell h1.gb _,h1.gb,fun j hj=>?_,fun i j hi hj e=>?_,fun j hj=>?_,fun j hj=>?_,fun j hj=>?_,fun j c hj hc=>?_,fun j hj=>?_⟩
 ·show w0.heap.size≤if j=r then bn else b j
  split
  ·have:=h.below.size;omega
  ·exact h.bb j (by omega)
 ·by_cases ei:i=r <;> by_cases ej:j=r
  ·omega
  ·simp only [if_pos ei,if_neg ej] at e;have:=hlt j (by omega);omega
  ·simp only [if_neg ei,if_pos ej] at e;have:=hlt i (by omega);omega
  ·simp only [if_neg ei,if_neg ej] at e;exact h.inj i j (by omega) (by omega) e
 ·show (if j=r then bn else b j)≠g
  split
  ·omega
  ·exact h.ne j (by omega)
 ·show n≤if j=r then cn else cp j
  split
  ·exact hcn
  ·exact h.cap j (by omega)
 ·by_cases e:j=r
  ·subst e
   simp only [if_true]
   obtain⟨⟨v,hv⟩,_⟩:=h1.rest j hr
   exact cset_same hv
  ·simp only [if_neg e]
   rw [cset_other (by intro q;exact e (congrArg Addr.off q).symm)]
   exact h1.og j (by omega)
 ·rw [fset]
  by_cases e:j=r
  ·subst e
   simp only [if_true]
   have hat:=Kd.R_celln 0 hR (c:Int) (by omega) (by simp;omega)
   rw [Int.toNat_natCast] at hat
   rw [cset_other (by intro q;have:=congrArg Addr.block q;simp only at this;omega)]
   exact⟨by simpa [rdOf,hc] using hat.1,hat.2⟩
  ·simp only [if_neg e]
   rw [cset_other (by intro q;exact h.ne j (by omega) (congrArg Addr.block q).symm)]
   exact h1.ob j c (by omega) hc
 ·rw [fset]
  refine⟨?_,(h1.rest j hj).2⟩
  by_cases e:j=r
  ·subst e
   obtain⟨⟨v,hv⟩,_⟩:=h1.rest j hr
   exact⟨_,cset_same hv⟩
  ·rw [cset_other (by intro q;exact e (congrArg Addr.off q).symm)]
   exact(h1.rest j hj).1
theorem pre_of_S {ok:Nat→Prop} {v:Value} (h:SS w0 w ok v (List.replicate n [])) (hB:Below w0.heap.size w0 w) (hp:0 < n): ∃g cap,v= .slice (some ⟨g,0,none⟩) n cap∧n≤cap∧Pre w0 w g n 0 (fun _=>0) (fun _=>0):=by
 obtain⟨g,cap,rfl,hg0,hg1,cells,hgc⟩:=Kd.S_form h (by simpa using hp)
 have hrd:=Kd.S_reads' h
 rw [List.length_replicate] at hrd ⊢
 refine⟨g,cap,rfl,hrd.2.1,⟨hB,hg0,fun j hj=>by omega,fun i j hi=>by omega,fun j hj=>by omega,fun j hj=>by omega,fun j hj=>by omega,fun j c hj=>by omega,fun j hj=>⟨?_,blk_frozen hgc j⟩⟩⟩
 obtain⟨ad,A',c',e,hx,_⟩:=at_L3 hrd.2.2 (j:Int) (by omega) (by simp;omega)
 cases e
 rw [Int.toNat_natCast,add_off,Nat.zero_add] at hx
 exact⟨_,hx⟩
theorem R_keptC {ok:Nat→Prop} {A:Option Addr} {c base:Nat} {xs:List Int} {W:World} {m:Nat} (hR:Kd.R (Kd.int .i64) 2 w base ok (.slice A m c) xs) (hK:Kept w W (okB n b)) (hlt: ∀j,j < n→b j < base):Kd.C (Kd.int .i64) W A xs.length xs:=by
 have h2:=Kd.R_step (w1:=W) (Kd.R_bound hR) (fun k hk hlt2=>hK.2 k hlt2 (fun⟨j,hj,e⟩=>by have:=hlt j hj;have:=hk.2.1;omega))
 exact(Kd.R_reads' h2).2.2
end
def cM (cl:Nat→List Int) (i:Nat):Mat:=fun a d=>if d < i then(cl d).getD a 0 else 0
theorem cM_next (cl:Nat→List Int) (i n a d:Nat) (ha:a < n):pcol (cM cl i) i (cl i) n a d=cM cl (i+1) a d:=by
 unfold pcol cM
 by_cases e:d=i
 ·subst e;rw [if_pos ⟨rfl,ha⟩,if_pos (by omega)]
 ·rw [if_neg (by omega)]
  by_cases q:d < i
  ·rw [if_pos q,if_pos (by omega)]
  ·rw [if_neg q,if_neg (by omega)]
theorem columns_calls (k n:Nat) (s:Int) (cl:Nat→List Int) (A0:Option Addr) (c0:Nat) (M:List (List Int)) (A1:Option Addr) (c1:Nat) (Q:List Int) (w:World) (hr0:Kd.C (Kd.slice 2 (Kd.int .i64)) w A0 M.length M) (hc0:M.length≤c0) (hr1:Kd.C (Kd.int .i64) w A1 Q.length Q) (hc1:Q.length≤c1) (hQ:Q.length=n) (hp:0 < n) (hn:n≤1000)
  (hcl: ∀i,i < n→ ∃t,impl_has.f s (i:Int)=some t∧impl_Problem_column.f k M Q (i:Int) t=some (cl i)∧(cl i).length=n):
  Calls Tryz.prog 131 #[.agg #[.slice A0 M.length c0, .slice A1 Q.length c1], .int .i64 s] w fun e w'=> ∃(g cap:Nat) (b cp:Nat→Nat),e= .returned (.slice (some ⟨g,0,none⟩) n cap)∧n≤cap∧Own w w' g n b cp (cM cl n):=by
 have HR0:=q_ hr0;have HC0:=q_ hc0;have HR1:=q_ hr1;have HC1:=q_ hc1;have HQ:=q_ hQ;have HP:=q_ hp;have HN:=q_ hn;have HCL:=q_ hcl;have HB:=q_ (Below.refl w.heap.size w);clear hr0 hc0 hr1 hc1 hp hn hcl;rw [hQ];clear hQ;have hn0:(0:Int)≤(n:Int):=by omega
 go_enter Tryz.func131,Tryz.ntmps131
 go_wp2_with (first | ((with_reducible refine gate_dst (N:=2) rfl ?_);refine be_ 2 #[.slice A0 M.length c0, .slice A1 n c1] 34 ?_;intro gb hg w6 hbox hb;replace HB:=q_ (below_step HB.out hb);have BK:=q_ hbox;clear hb hbox hg;have hcz0:=cz_ BK 0;have hcz1:=cz_ BK 1) | ((with_reducible refine gate_dst (N:=13) rfl ?_);refine Kd.S_make (Kd.slice 2 (Kd.int .i64)) w.heap.size 24 rfl (N:=13) rfl 32 _ _ rfl (n:Int) rfl rfl Tryz.underlying32 (.slice none 0 0) 24 info24 rfl (by decide) (by omega) [] (ok:=fun _=>True) (okp:=fun _=>True) ⟨_,rfl,Kd.R_nil _ _ _ _ _⟩ (fun _ hk=>hk) trivial hn0 (by have:=HN.out;omega) HB.out HB.out.size ?_;intro v13 w7 ho hb hg hat;have n0_:=q_ ho;have n1_:=q_ (blk_grown BK.out hg (by simp));have aa:=BK;clear HB BK hcz0 hcz1;have HS:=n0_;have BK:=n1_;have HB:=q_ hb;have HGN:Aside0 (∀k,v13.ownBlock=some k→gb < k):=⟨fun k hk=>by obtain⟨b_,hb_,hl_⟩:=hat;rw [hb_] at hk;injection hk with hk;have:=blk_lt aa.out;omega⟩;clear aa n0_ n1_ ho hb hg hat))
 obtain⟨g,cap,rfl,hcap,hpre⟩:=pre_of_S (by simpa using HS.out) HB.out HP.out;have HPRE:=q_ hpre;have HCAP:=q_ hcap;have HGB:Aside0 (gb < g):=⟨by have:=HGN.out g (by simp [Value.ownBlock]);omega⟩
 clear HS hcap hpre HGN;go_wp2
 go_loopg [16] n (fun gg v16 wr=> ∃(r:Nat) (b cp:Nat→Nat),r≤n∧n - r≤gg∧v16= .int .i64 (r:Int)∧Aside0 (Pre w wr g n r b cp)∧Aside0 (∀j,j < r→gb < b j)∧Aside0 (wr.heap[gb]?=some (.cells #[.slice A0 M.length c0, .slice A1 n c1] 34 (0,0))))
 case atStart=>exact⟨0,_,_,Nat.zero_le _,by omega,rfl,HPRE,⟨fun j hj=>by omega⟩,BK⟩
 case round=>
  clear HPRE BK HB;obtain⟨r,b,cp,hr,hg,rfl,HPRE,HGJ,BK⟩:=hrel;have HR:=q_ hr;have HG:=q_ hg
  by_cases hlt:r < n
  ·have hltz:(r:Int) < (n:Int):=by omega
   have h0z:(0:Int)≤(r:Int):=by omega
   have HLT:=q_ hlt;have hr1:IntKind.i64.wrap ((r:Int)+1)=((r+1:Nat):Int):=by rw [IntWalk.i64_in _ (by have:=HN.out;omega)];rfl
   have HR1:=q_ hr1;clear hlt hr hg
   go_wp2_with (first | ((with_reducible refine gate_dst (N:=22) rfl ?_);refine Kd.R_make (w0:=wr) (Kd.int .i64) wr.heap.size 2 rfl (N:=22) rfl 24 _ _ rfl (n:Int) rfl rfl Tryz.underlying24 (.int .i64 0) 8 info2 rfl (by decide) (by decide) 0 (ok:=fun _=>True) (okp:=fun _=>True) rfl (fun _ hk=>hk) trivial hn0 (by have:=HN.out;omega) (Below.refl _ _) (Nat.le_refl _) ?_;intro v22 w8 ho hb hg2 hat;obtain⟨bn,cn,rfl,hbn1,hbn2,cells,hbc⟩:=Kd.R_form ho (by have:=HP.out;simp;omega);simp only [Int.toNat_natCast,List.length_replicate] at ho ⊢;have HADD:=q_ (HPRE.out.add HLT.out hb ho);have hcg:=(((HPRE.out.step (Nat.le_of_lt HLT.out) hb).rest r HLT.out).1);have hfr:=(((HPRE.out.step (Nat.le_of_lt HLT.out) hb).rest r HLT.out).2);obtain⟨vg,hcg⟩:=hcg;have HBN:Aside0 (wr.heap.size≤bn):=⟨hbn1⟩;have n1_:=q_ (blk_below BK.out hb);have HGBW:=q_ (blk_lt BK.out);clear BK HPRE;have BK:=n1_;clear n1_ ho hb hg2 hat hbn1 hbn2 hbc))
   go_roundg (n - (r+1))
   case measure=>have:=HG.out;have:=HLT.out;omega
   case rel=>
    refine⟨r+1,_,_,by have:=HLT.out;omega,by omega,by first | rfl | (rw [HR1.out]) | (simp [HR1.out]),HADD,⟨fun j hj=>?_⟩,⟨?_⟩⟩
    ·show gb < if j=r then bn else b j
     split
     ·have:=HBN.out;have:=HGBW.out;omega
     ·exact HGJ.out j (by omega)
    ·exact(Below.heap_setCell _ _ _ gb (by have:=HGB.out;simp;omega)).trans BK.out
  ·have hltz: ¬ (r:Int) < (n:Int):=by omega
   obtain rfl:r=n:=by omega
   have HO:=q_ (HPRE.out.full);have HO:=q_ (HO.out.congr (M':=cM cl 0) (fun a d _ _=>by simp [cM]));clear HPRE hr hg;go_wp2
   go_loopg [26] r (fun gg v26 w4=> ∃i:Nat,i≤r∧r - i≤gg∧v26= .int .i64 (i:Int)∧Aside0 (Own w w4 g r b cp (cM cl i))∧Aside0 (w4.heap[gb]?=some (.cells #[.slice A0 M.length c0, .slice A1 r c1] 34 (0,0))))
   case atStart=>exact⟨0,Nat.zero_le _,by omega,rfl,HO,BK⟩
   case round=>
    clear HO BK;obtain⟨i,hi,hg2,rfl,HO,BK⟩:=hrel;have HG2:=q_ hg2
    by_cases hin:i < r
    ·have hiz:(i:Int) < (r:Int):=by omega
     have h0i:(0:Int)≤(i:Int):=by omega
     have HIN:=q_ hin;have hi1:IntKind.i64.wrap ((i:Int)+1)=((i+1:Nat):Int):=by rw [IntWalk.i64_in _ (by have:=HN.out;omega)];rfl
     have HI1:=q_ hi1;obtain⟨th,hth,hcol,hclen⟩:=HCL.out i hin;have HTH:=q_ hth;have HCOLF:=q_ hcol;have HCLEN:=q_ hclen;replace HO:=q_ (HO.out.step (below_drew (Below.refl wr.heap.size wr)));replace BK:=q_ (blk_drew BK.out);have hcz0:wr.drew.cell? ⟨gb,0,none⟩=some (.slice A0 M.length c0):=(blk_cell BK.out 0).trans rfl;have hcz1:wr.drew.cell? ⟨gb,1,none⟩=some (.slice A1 r c1):=(blk_cell BK.out 1).trans rfl;go_wp2
     refine st_ (n:=9) (S:=fun w'=>w'.cell? ⟨gb,0,none⟩=some (.slice A0 M.length c0)∧w'.cell? ⟨gb,1,none⟩=some (.slice A1 r c1)) (ds:= []) ⟨hcz0,hcz1⟩ (fun hHeld=>?_)
     generalize wr.drew=w9 at HO BK hcz0 hcz1 hHeld ⊢
     refine pu_ 0 29 ?_;refine pu_ 1 30 ?_;refine tk_ 2 31 ?_;refine pu_ 3 32 ?_;refine pu_ 4 33 ?_;refine pu_ 5 34 ?_
     refine on_ 6 (some 35) (fun K hK=>?_)
     refine goes_ Tryz.func53 (by kernel_rfl) rfl #[.int .i64 s, .int .i64 (i:Int)] (by rfl) rfl rfl (by(try simp only [List.map_toArray,List.map_cons,List.map_nil]);first | done | rfl) ?_
     refine(impl_has.calls s (i:Int) th _ HTH.out).mono ?_
     rintro e w5 ⟨rfl,hd5⟩;refine⟨_,rfl,?_⟩
     replace HO:=q_ (HO.out.step hd5.below);replace BK:=q_ (blk_below BK.out hd5.below);clear hd5 hHeld hcz0 hcz1;refine hK.out _ _ ⟨(blk_cell BK.out 0).trans rfl,(blk_cell BK.out 1).trans rfl⟩ (fun hHeld=>?_)
     clear hK K;refine norm_ (a':=?_) ?_ ?_
     rotate_left
     ·show Act.put _ (some 35) _=_
      simp only [Act.put,List.setIfInBounds_toArray,List.set_cons_zero,List.set_cons_succ,i64_w,i32_w]
      rfl
     refine on_ 7 (some 36) (fun K hK=>?_)
     refine goes_ Tryz.func159 (by kernel_rfl) rfl #[.agg #[.slice A0 M.length c0, .slice A1 r c1], .int .i64 (i:Int), .bool th] (by rfl) rfl rfl (by(try simp only [List.map_toArray,List.map_cons,List.map_nil]);first | done | rfl) ?_
     have hcc:=impl_Problem_column.calls k A0 c0 M A1 c1 Q (i:Int) th (cl i) w5 (Kd.C_below HR0.out HO.out.below) HC0.out (Kd.C_below HR1.out HO.out.below) HC1.out HCOLF.out;rw [HQ.out] at hcc;refine hcc.mono ?_
     clear hcc;rintro e w6' ⟨vc,rfl,hRc,hb6⟩;obtain⟨Ac,cc,rfl⟩:=Kd.R_slice hRc;refine⟨_,rfl,?_⟩
     have HRC:=q_ hRc;have HBL:Aside0 (∀j,j < r→b j < w5.heap.size):=⟨fun j hj=>lt_of_cell (HO.out.ob j i hj HIN.out).1⟩
     replace HO:=q_ (HO.out.step hb6);replace BK:=q_ (blk_below BK.out hb6);clear hb6 hHeld hRc;refine hK.out _ _ ⟨(blk_cell BK.out 0).trans rfl,(blk_cell BK.out 1).trans rfl⟩ (fun hHeld=>?_)
     clear hK K;refine norm_ (a':=?_) ?_ ?_
     rotate_left
     ·show Act.put _ (some 36) _=_
      simp only [Act.put,List.setIfInBounds_toArray,List.set_cons_zero,List.set_cons_succ,i64_w,i32_w]
      rfl
     refine on_ 8 (some 37) (fun K hK=>?_)
     refine goes_ Tryz.func134 (by kernel_rfl) rfl #[.slice (some ⟨g,0,none⟩) r cap, .int .i64 (i:Int), .slice Ac (cl i).length cc] (by rfl) rfl rfl (by(try simp only [List.map_toArray,List.map_cons,List.map_nil]);first | done | rfl) ?_
     refine(putO (w0:=w) i HIN.out cap Ac cc (cl i) HO.out HN.out (by rw [HCLEN.out];exact Nat.le_refl _) (fun W hK hB=>R_keptC HRC.out hK HBL.out)).mono ?_
     rintro e w7' ⟨rfl,hO7,hK7⟩;refine⟨_,rfl,?_⟩
     replace HO:=q_ (hO7.congr (M':=cM cl (i+1)) (fun a d ha _=>cM_next cl i r a d ha));replace BK:=q_ (blk_kept BK.out hK7 (fun⟨j,hj,e⟩=>by have:=HGJ.out j hj;omega));clear hK7 hO7 hHeld;refine hK.out _ _ ⟨(blk_cell BK.out 0).trans rfl,(blk_cell BK.out 1).trans rfl⟩ (fun hHeld=>?_)
     clear hK K;refine norm_ (a':=?_) ?_ ?_
     rotate_left
     ·show Act.put _ (some 37) _=_
      simp only [Act.put,List.setIfInBounds_toArray,List.set_cons_zero,List.set_cons_succ,i64_w,i32_w]
      rfl
     refine done_ (by kernel_rfl) ?_
     go_wp2
     go_roundg (r - (i+1))
     case measure=>have:=HG2.out;have:=HIN.out;omega
     case rel=>exact⟨i+1,by have:=HIN.out;omega,by omega,by first | rfl | (rw [HI1.out]) | (simp [HI1.out]),HO,BK⟩
    ·have hiz: ¬ (i:Int) < (r:Int):=by omega
     obtain rfl:i=r:=by omega
     go_wp2
     go_ret
     exact⟨g,cap,rfl,HCAP.out,b,cp,HO.out⟩
end Go.Proofs.YthmfdplckdijdaaGreat.Hd
end
section
namespace Go.Proofs.YthmfdplckdijdaaGreat.Hd
open Go.RowKit Go.Proofs.YthmfdplckdijdaaGreatW.PrintWords Go.Proofs.YthmfdplckdijdaaGreatW.PrintLast Go.Proofs.YthmfdplckdijdaaGreatW.PrintMore Go.Proofs.YthmfdplckdijdaaGreat.Pr Go.Proofs.YthmfdplckdijdaaGreat.La Go.Proofs.YthmfdplckdijdaaGreat.Ma Go.Proofs.YthmfdplckdijdaaGreat.Hm Go.Proofs.YthmfdplckdijdaaGreat.Dt Go.Proofs.YthmfdplckdijdaaGreat.Bd Go.Proofs.YthmfdplckdijdaaGreat.Cp
def dO (n:Nat) (M:Mat):Int:=dgo n n 0 (en (rowsFrom M n 0)) 1 1
theorem rowsFrom_rows (M:Mat) (n i:Nat): ∀x ∈ rowsFrom M n i,x.length=n:=by
 intro x hx
 obtain⟨r,_,rfl⟩:=List.mem_map.1 hx
 simp
section
variable {w0 w w1:World} {g n cap:Nat} {b cp:Nat→Nat} {M:Mat}
theorem Own.low (h:Own w1 w g n b cp M) (hB:Below w0.heap.size w0 w1):Own w0 w g n b cp M:=
 ⟨Below.trans hB (h.below.mono hB.size),Nat.le_trans hB.size h.gb,fun j hj=>Nat.le_trans hB.size (h.bb j hj),h.inj,h.ne,h.cap,h.og,h.ob⟩
theorem Own.far (h:Own w0 w g n b cp M) {p:Addr} (hp:w0.heap.size≤p.block) (h1:p.block≠g) (h2: ∀j,j < n→b j≠p.block) (v:Value):Own w0 (w.setCell p v) g n b cp M:=
  ⟨h.below.setCell hp v,h.gb,h.bb,h.inj,h.ne,h.cap,
   fun j hj=>⟨by rw [cset_other (by intro e;exact h1 (congrArg Addr.block e))];exact(h.og j hj).1,by rw [fset];exact(h.og j hj).2⟩,
   fun j c hj hc=>⟨by rw [cset_other (by intro e;exact h2 j hj (congrArg Addr.block e).symm)];exact(h.ob j c hj hc).1,by rw [fset];exact(h.ob j c hj hc).2⟩⟩
theorem det_own (h:Own w0 w g n b cp M) (hcap:n≤cap) (hp:0 < n) (hn:n≤1000):
  Calls Tryz.prog 132 #[.slice (some ⟨g,0,none⟩) n cap] w fun e w'=>e= .returned (.int .i64 (dO n M))∧Below w.heap.size w w':=
 det_calls n (dO n M) (some ⟨g,0,none⟩) cap (rowsFrom M n 0) w (h.C 0 (by omega)) (by rw [rowsFrom_len];omega) (by rw [rowsFrom_len];omega) hp hn (fun x hx=>by rw [rowsFrom_rows M n 0 x hx,rowsFrom_len];omega) rfl
theorem copy_own (h:Own w0 w g n b cp M) (hcap:n≤cap) (hp:0 < n) (hn:n≤1000):
  Calls Tryz.prog 133 #[.slice (some ⟨g,0,none⟩) n cap] w fun e w'=> ∃(g2 cap2:Nat) (b2 cp2:Nat→Nat),e= .returned (.slice (some ⟨g2,0,none⟩) n cap2)∧n≤cap2∧Own w w' g2 n b2 cp2 (en (rowsFrom M n 0)):=by
 have hl:(rowsFrom M n 0).length=n:=by rw [rowsFrom_len];omega
 obtain⟨k,hk⟩:=evk (copy_eq (rowsFrom M n 0) (by omega) (fun x hx=>by rw [rowsFrom_rows M n 0 x hx];omega))
 have hc:=impl_copyRows.calls k (some ⟨g,0,none⟩) cap (rowsFrom M n 0) (rowsFrom M n 0) w (h.C 0 (by omega)) (by omega) hk
 rw [hl] at hc
 refine hc.mono ?_
 rintro e w' ⟨v,rfl,hS,hB⟩
 obtain⟨g2,cap2,b2,cp2,rfl,h1,h2⟩:=own_of_S (w0:=w) hS hB (by omega) (fun x hx=>by rw [rowsFrom_rows M n 0 x hx,hl])
 rw [hl] at h1 h2 ⊢
 exact⟨g2,cap2,b2,cp2,rfl,h1,h2⟩
end
def sl (n:Nat) (C:Mat) (right:List Int) (sg:Int) (i:Nat):Int:=wrap64 (sg*dO n (pcol (en (rowsFrom C n 0)) i right n))
def slL (n:Nat) (C:Mat) (right:List Int) (sg:Int) (i:Nat):List Int:=(List.range n).map fun u=>if u < i then sl n C right sg u else 0
theorem slL_zero (n:Nat) (C:Mat) (right:List Int) (sg:Int):List.replicate n (0:Int)=slL n C right sg 0:=by
 apply List.ext_getElem
 ·simp [slL]
 ·intro k h1 h2;simp [slL]
theorem slL_next (n:Nat) (C:Mat) (right:List Int) (sg:Int) (i:Nat) (h:i < n):(slL n C right sg i).set i (sl n C right sg i)=slL n C right sg (i+1):=by
 apply List.ext_getElem
 ·simp [slL]
 ·intro k h1 h2
  have hk:k < n:=by simpa [slL] using h2
  rw [List.getElem_set]
  simp only [slL,List.getElem_map,List.getElem_range]
  by_cases e:i=k
  ·subst e;rw [if_pos rfl,if_pos (by omega)]
  ·rw [if_neg e]
   by_cases c:k < i
   ·rw [if_pos c,if_pos (by omega)]
   ·rw [if_neg c,if_neg (by omega)]
theorem solve_calls (k n:Nat) (s D sg sz:Int) (cl:Nat→List Int) (A0:Option Addr) (c0:Nat) (M:List (List Int)) (A1:Option Addr) (c1:Nat) (Q:List Int) (A2:Option Addr) (c2:Nat) (right:List Int) (w:World) (hr0:Kd.C (Kd.slice 2 (Kd.int .i64)) w A0 M.length M) (hc0:M.length≤c0) (hr1:Kd.C (Kd.int .i64) w A1 Q.length Q) (hc1:Q.length≤c1) (hr2:Kd.C (Kd.int .i64) w A2 right.length right) (hc2:right.length≤c2) (hQ:Q.length=n) (hright:right.length=n) (hp:0 < n) (hn:n≤1000)
  (hcl: ∀i,i < n→ ∃t,impl_has.f s (i:Int)=some t∧impl_Problem_column.f k M Q (i:Int) t=some (cl i)∧(cl i).length=n)
  (hD:dO n (cM cl n)=D) (hsg:impl_sign.f D=some sg) (hsz:impl_size.f D=some sz):
  Calls Tryz.prog 84 #[.agg #[.slice A0 M.length c0, .slice A1 Q.length c1], .int .i64 s, .slice A2 right.length c2] w fun e w'=> ∃v0_:Value,e= .returned (if D=0 then .tuple #[v0_, .int .i64 0, .bool false] else .tuple #[v0_, .int .i64 sz, .bool true])∧Kd.R (Kd.int .i64) 2 w' w.heap.size (fun _=>True) v0_ (if D=0 then [] else slL n (cM cl n) right sg n)∧Below w.heap.size w w':=by
 have HR0:=q_ hr0;have HC0:=q_ hc0;have HR1:=q_ hr1;have HC1:=q_ hc1;have HR2:=q_ hr2;have HC2:=q_ hc2;have HQ:=q_ hQ;have HRI:=q_ hright;have HP:=q_ hp;have HN:=q_ hn;have HCL:=q_ hcl;have HD:=q_ hD;have HSG:=q_ hsg;have HSZ:=q_ hsz;have HB:=q_ (Below.refl w.heap.size w);clear hr0 hc0 hr1 hc1 hr2 hc2 hp hn hcl hD hsg hsz hQ;rw [hright];clear hright;have hn0:(0:Int)≤(n:Int):=by omega
 go_enter Tryz.func84,Tryz.ntmps84
 go_wp2_with (first | ((with_reducible refine gate_dst (N:=3) rfl ?_);refine be_ 3 #[.slice A0 M.length c0, .slice A1 Q.length c1] 34 ?_;intro gb hg w6 hbox hb;replace HB:=q_ (below_step HB.out hb);have BK:=q_ hbox;clear hb hbox hg;have hcz0:=cz_ BK 0;have hcz1:=cz_ BK 1))
 refine(columns_calls k n s cl A0 c0 M A1 c1 Q w6 (Kd.C_below HR0.out HB.out) HC0.out (Kd.C_below HR1.out HB.out) HC1.out HQ.out HP.out HN.out HCL.out).mono ?_
 rintro e w7 ⟨g,cap,b,cp,rfl,hcap,hO⟩;have n0_:=q_ (hO.low HB.out);have HCAP:=q_ hcap;clear hcz0 hcz1 BK HB hO hcap;have HO:=n0_;clear n0_
 go_wp2_with fail
 refine(det_own HO.out HCAP.out HP.out HN.out).mono ?_
 rintro e w8 ⟨rfl,hb⟩;rw [HD.out];replace HO:=q_ (HO.out.step hb);clear hb
 by_cases d0:D=0
 ·subst d0;go_wp2
  refine bodyPost_ret (results_list (rs:= [.tmp 6, .tmp 7, .tmp 8]) rfl (by simp) (.tmp (.tmp (.tmp .nil)))) rfl ?_
  exact⟨_,rfl,Kd.R_nil _ _ _ _ _,HO.out.below⟩
 ·have hd0:(D==0)=false:=by simpa using d0
  have D0:=q_ d0
  go_wp2_with (first | ((with_reducible refine gate_dst (N:=23) rfl ?_);refine Kd.R_make (w0:=w8) (Kd.int .i64) w8.heap.size 2 rfl (N:=23) rfl 24 _ _ rfl (n:Int) rfl rfl Tryz.underlying24 (.int .i64 0) 8 info2 rfl (by decide) (by decide) 0 (ok:=fun _=>True) (okp:=fun _=>True) rfl (fun _ hk=>hk) trivial hn0 (by have:=HN.out;omega) (Below.refl _ _) (Nat.le_refl _) ?_;intro v23 w9 ho hb hg2 hat;obtain⟨go,co,rfl,hgo1,hgo2,cells,hgoc⟩:=Kd.R_form ho (by have:=HP.out;simp;omega);simp only [Int.toNat_natCast,List.length_replicate] at ho ⊢;rw [slL_zero n (cM cl n) right sg] at ho;have HGO:Aside0 (w8.heap.size≤go):=⟨hgo1⟩;have HGL:=q_ (HO.out.og 0 HP.out).1;have HBL:=q_ (fun j (hj:j < n)=>(HO.out.ob j 0 hj HP.out).1);have n0_:=q_ (HO.out.step hb);have HRO:=q_ (Kd.R_lower ho HO.out.below.size);clear HO;have HO:=n0_;clear n0_ ho hb hg2 hat hgo1 hgo2 hgoc))
  have HSEP:Aside0 (w.heap.size≤go∧go≠g∧ ∀j,j < n→b j≠go):=⟨by
   have h1:=HGO.out;have h2:=lt_of_cell HGL.out;have h3:=HO.out.gb;refine⟨?_,?_,fun j hj=>?_⟩
   ·simp only at h2;omega
   ·simp only at h2;omega
   ·have h4:=lt_of_cell (HBL.out j hj);simp only at h4;omega⟩
  clear HGO HGL HBL
  go_loopg [26] n (fun gg v26 wr=> ∃i:Nat,i≤n∧n - i≤gg∧v26= .int .i64 (i:Int)∧Aside0 (Own w wr g n b cp (cM cl n))∧Aside0 (Kd.R (Kd.int .i64) 2 wr w.heap.size (fun _=>True) (.slice (some ⟨go,0,none⟩) n co) (slL n (cM cl n) right sg i)))
  case atStart=>exact⟨0,Nat.zero_le _,by omega,rfl,HO,HRO⟩
  case round=>
   clear HO HRO;obtain⟨i,hi,hg,rfl,HO,HRO⟩:=hrel;have HG:=q_ hg
   by_cases hlt:i < n
   ·have hltz:(i:Int) < (n:Int):=by omega
    have h0z:(0:Int)≤(i:Int):=by omega
    have HLT:=q_ hlt;have hi1:IntKind.i64.wrap ((i:Int)+1)=((i+1:Nat):Int):=by rw [IntWalk.i64_in _ (by have:=HN.out;omega)];rfl
    have HI1:=q_ hi1;clear hlt hi hg
    go_wp2_with fail
    refine(copy_own HO.out HCAP.out HP.out HN.out).mono ?_
    rintro e w10 ⟨g2,cap2,b2,cp2,rfl,hcap2,hO2⟩;have HCAP2:=q_ hcap2;have ae:=q_ hO2;clear hcap2 hO2
    go_wp2_with fail
    have hpc:=putO (w0:=wr) i HLT.out cap2 A2 c2 right ae.out HN.out (by rw [HRI.out];exact Nat.le_refl _) (fun W hK hB=>Kd.C_below HR2.out (Below.trans HO.out.below (hB.mono HO.out.below.size)));rw [HRI.out] at hpc;refine hpc.mono ?_
    clear hpc;rintro e w11 ⟨rfl,hO3,hK3⟩;have aa:=q_ hO3;clear hO3 hK3 ae
    go_wp2_with fail
    refine(impl_sign.calls D sg _ HSG.out).mono ?_
    rintro e w12 ⟨rfl,hd12⟩;replace aa:=q_ (aa.out.step hd12.below);clear hd12
    go_wp2_with fail
    refine(det_own aa.out HCAP2.out HP.out HN.out).mono ?_
    rintro e w13 ⟨rfl,hb13⟩;have hB13:Below wr.heap.size wr w13:=Below.trans aa.out.below (hb13.mono aa.out.below.size);replace HO:=q_ (HO.out.step hB13);replace HRO:=q_ (Kd.R_below HRO.out hB13);clear aa hb13 hB13;have hat:=Kd.R_celln 0 HRO.out (i:Int) (by omega) hltz;rw [Int.toNat_natCast] at hat;have hcg:=hat.1;have hfg:=hat.2;clear hat;have hput:=Kd.R_putg HRO.out (i:Int) (sl n (cM cl n) right sg i);rw [Int.toNat_natCast,slL_next _ _ _ _ _ HLT.out] at hput;have HPUT:=q_ hput.1;have HFAR:=q_ (HO.out.far (p:=⟨go,i,none⟩) HSEP.out.1 HSEP.out.2.1 HSEP.out.2.2 (.int .i64 (sl n (cM cl n) right sg i)));clear hput;go_wp2
    go_roundg (n - (i+1))
    case measure=>have:=HG.out;have:=HLT.out;omega
    case rel=>exact⟨i+1,by have:=HLT.out;omega,by omega,by first | rfl | (rw [HI1.out]) | (simp [HI1.out]),HFAR,HPUT⟩
   ·have hltz: ¬ (i:Int) < (n:Int):=by omega
    obtain rfl:i=n:=by omega
    go_wp2_with fail
    refine(impl_size.calls D sz _ HSZ.out).mono ?_
    rintro e w14 ⟨rfl,hb⟩;have n0_:=q_ (HO.out.step hb);have n1_:=q_ (Kd.R_below HRO.out hb);clear HO HRO hb;go_wp2
    refine bodyPost_ret (results_list (rs:= [.tmp 6, .tmp 7, .tmp 8]) rfl (by simp) (.tmp (.tmp (.tmp .nil)))) rfl ?_
    refine⟨.slice (some ⟨go,0,none⟩) i co,?_,?_,n0_.out.below⟩
    ·rfl
    ·exact n1_.out
end Go.Proofs.YthmfdplckdijdaaGreat.Hd
end
section
namespace Go.Proofs.YthmfdplckdijdaaGreat.Pr
open Go.RowKit Go.Proofs.YthmfdplckdijdaaGreatW.PrintWords Go.Proofs.YthmfdplckdijdaaGreatW.PrintLast Go.Proofs.YthmfdplckdijdaaGreatW.PrintMore Go.Proofs.YthmfdplckdijdaaGreat.La Go.Proofs.YthmfdplckdijdaaGreat.Ma Go.Proofs.YthmfdplckdijdaaGreat.Hm Go.Proofs.YthmfdplckdijdaaGreat.Dt Go.Proofs.YthmfdplckdijdaaGreat.Hd
def colF (k:Nat) (M:List (List Int)) (Q:List Int) (s:Int) (i:Nat):Option (List Int):=(impl_has.f s (i:Int)).bind fun t=>impl_Problem_column.f k M Q (i:Int) t
def colOK (k:Nat) (M:List (List Int)) (Q:List Int) (s:Int) (n:Nat):Bool:=(List.range n).all fun i=>match colF k M Q s i with
 | some c=>c.length==n
 | none=>false
def colL (k:Nat) (M:List (List Int)) (Q:List Int) (s:Int) (i:Nat):List Int:=(colF k M Q s i).getD []
def impl_Problem_solve.f (k:Nat) (ae:List (List Int)) (aa:List Int) (a1:Int) (l2:List Int):Option (List Int × Int × Bool):=
 if 0 < aa.length∧aa.length≤1000∧l2.length=aa.length∧colOK k ae aa a1 aa.length=true then
  (impl_sign.f (dO aa.length (cM (colL k ae aa a1) aa.length))).bind fun sg=>(impl_size.f (dO aa.length (cM (colL k ae aa a1) aa.length))).bind fun sz=>
   some (if dO aa.length (cM (colL k ae aa a1) aa.length)=0 then([],0,false) else(slL aa.length (cM (colL k ae aa a1) aa.length) l2 sg aa.length,sz,true))
 else none
theorem colF_mono (k:Nat) (M:List (List Int)) (Q:List Int) (s:Int) (i:Nat):LeO (colF k M Q s i) (colF (k+1) M Q s i):=by
 unfold colF
 exact LeO.bind (LeO.refl _) (fun t=>impl_Problem_column.mono _ _ _ _ _)
theorem colOK_mono {k:Nat} {M:List (List Int)} {Q:List Int} {s:Int} {n:Nat} (h:colOK k M Q s n=true):colOK (k+1) M Q s n=true∧ ∀i,i < n→colL (k+1) M Q s i=colL k M Q s i:=by
 unfold colOK at h ⊢
 rw [List.all_eq_true] at h ⊢
 have key: ∀i,i < n→colF (k+1) M Q s i=colF k M Q s i∧ ∃c,colF k M Q s i=some c:=by
  intro i hi
  have:=h i (List.mem_range.2 hi)
  cases hc:colF k M Q s i with
  | none=>rw [hc] at this;cases this
  | some c=>exact⟨colF_mono k M Q s i c hc,c,rfl⟩
 refine⟨fun i hi=>?_,fun i hi=>?_⟩
 ·rw [(key i (List.mem_range.1 hi)).1];exact h i hi
 ·unfold colL;rw [(key i hi).1]
theorem impl_Problem_solve.mono: ∀a0 a1 a2 a3 k,LeO (impl_Problem_solve.f k a0 a1 a2 a3) (impl_Problem_solve.f (k+1) a0 a1 a2 a3):=by
 intro a0 a1 a2 a3 k r h
 unfold impl_Problem_solve.f at h ⊢
 split at h
 case isFalse=>cases h
 rename_i hc
 obtain⟨h1,h2,h3,h4⟩:=hc
 obtain⟨h5,hl⟩:=colOK_mono h4
 have hcm:cM (colL (k+1) a0 a1 a2) a1.length=cM (colL k a0 a1 a2) a1.length:=by
  funext a d
  unfold cM
  by_cases z:d < a1.length
  ·rw [if_pos z,if_pos z,hl d z]
  ·rw [if_neg z,if_neg z]
 rw [if_pos ⟨h1,h2,h3,h5⟩,hcm]
 exact h
theorem impl_Problem_solve.calls (k:Nat) (af:Option Addr) (ag:Nat) (ae:List (List Int)) (ah:Option Addr) (ai:Nat) (aa:List Int) (a1:Int) (A2:Option Addr) (c2:Nat) (l2:List Int) (r1:List Int) (r2:Int) (r3:Bool) (w:World) (aj:Kd.C (Kd.slice 2 (Kd.int .i64)) w af ae.length ae) (ak:ae.length≤ag) (aq:Kd.C (Kd.int .i64) w ah aa.length aa) (au:aa.length≤ai) (hr2:Kd.C (Kd.int .i64) w A2 l2.length l2) (hc2:l2.length≤c2) (h:impl_Problem_solve.f k ae aa a1 l2=some (r1,r2,r3)):
  Calls Tryz.prog 84 #[.agg #[.slice af ae.length ag, .slice ah aa.length ai], .int .i64 a1, .slice A2 l2.length c2] w fun e w'=> ∃v0_:Value,e= .returned (.tuple #[v0_, .int .i64 r2, .bool r3])∧Kd.R (Kd.int .i64) 2 w' w.heap.size (fun _=>True) v0_ r1∧Below w.heap.size w w':=by
 unfold impl_Problem_solve.f at h
 split at h
 case isFalse=>cases h
 rename_i hc
 obtain⟨h1,h2,h3,h4⟩:=hc;obtain⟨sg,hsg,h⟩:=Option.bind_eq_some_iff.mp h;obtain⟨sz,hsz,h⟩:=Option.bind_eq_some_iff.mp h;have h:=Option.some.inj h;have hcl: ∀i,i < aa.length→ ∃t,impl_has.f a1 (i:Int)=some t∧impl_Problem_column.f k ae aa (i:Int) t=some (colL k ae aa a1 i)∧(colL k ae aa a1 i).length=aa.length:=by
  intro i hi;unfold colOK at h4;rw [List.all_eq_true] at h4;have:=h4 i (List.mem_range.2 hi);unfold colL;cases hcf:colF k ae aa a1 i with
  | none=>rw [hcf] at this;cases this
  | some c=>
   rw [hcf] at this;obtain⟨t,ht1,ht2⟩:=Option.bind_eq_some_iff.mp hcf;exact⟨t,ht1,ht2,by simpa using this⟩
 have hs:=solve_calls k aa.length a1 (dO aa.length (cM (colL k ae aa a1) aa.length)) sg sz (colL k ae aa a1) af ag ae ah ai aa A2 c2 l2 w aj ak aq au hr2 hc2 rfl h3 h1 h2 hcl rfl hsg hsz
 by_cases d:dO aa.length (cM (colL k ae aa a1) aa.length)=0
 ·rw [if_pos d] at h;simp only [if_pos d] at hs;cases h
  exact hs
 ·rw [if_neg d] at h;simp only [if_neg d] at hs;cases h
  exact hs
end Go.Proofs.YthmfdplckdijdaaGreat.Pr
end
section
namespace Go.Proofs.YthmfdplckdijdaaGreat.Pr
open Go.RowKit Go.Proofs.YthmfdplckdijdaaGreatW.PrintWords Go.Proofs.YthmfdplckdijdaaGreatW.PrintLast Go.Proofs.YthmfdplckdijdaaGreatW.PrintMore
attribute [local go_sem] max2_int min2_int max_two min_two max_three min_three max_four min_four
mutual
def spec_l01Solve.l0:Nat→List (List Int)→List Int→List Int→Int→Option (List Int × Int)
 | 0,_,_,_,_=>none
 | k+1,x0,x1,x6,x7=>if x7 < (x0.length:Int) then(spec_l01Solve.l1 k x0 x1 x6 x7 (([]:List (List Int))) 0) else((spec_l01Det.f k x0).bind fun ae=>(some (x6,ae)))
def spec_l01Solve.l1:Nat→List (List Int)→List Int→List Int→Int→List (List Int)→Int→Option (List Int × Int)
 | 0,_,_,_,_,_,_=>none
 | k+1,x0,x1,x6,x7,x8,x9=>if x9 < (x0.length:Int) then(if 0≤x9 then((spec_l01Own.f (rd_L3 x0 x9)).bind fun aa=>(if x9 < (x1.length:Int) then(if 0≤x7 then(if x7 < (aa.length:Int) then(if x8.length < 5864062014805 then(spec_l01Solve.l1 k x0 x1 x6 x7 (x8++ [(aa.set (x7:Int).toNat (rd x1 x9))]) (wrap64 (x9+1))) else(none)) else(none)) else(none)) else(none))) else(none)) else((spec_l01Det.f k x8).bind fun af=>(if x6.length < 17592186044416 then(spec_l01Solve.l0 k x0 x1 (x6++ [af]) (wrap64 (x7+1))) else(none)))
end
def spec_l01Solve.f (k:Nat) (l0:List (List Int)) (l1:List Int):Option (List Int × Int):=spec_l01Solve.l0 k l0 l1 (([]:List Int)) 0
theorem spec_l01Solve.mono_l: ∀k,(∀y0 y1 y2 y3,LeO (spec_l01Solve.l0 k y0 y1 y2 y3) (spec_l01Solve.l0 (k+1) y0 y1 y2 y3))∧(∀y0 y1 y2 y3 y4 y5,LeO (spec_l01Solve.l1 k y0 y1 y2 y3 y4 y5) (spec_l01Solve.l1 (k+1) y0 y1 y2 y3 y4 y5))
 | 0=>⟨fun _ _ _ _ r h=>by simp [spec_l01Solve.l0] at h,fun _ _ _ _ _ _ r h=>by simp [spec_l01Solve.l1] at h⟩
 | k+1=>by
  obtain⟨ih0,ih1⟩:=spec_l01Solve.mono_l k
  refine⟨?_,?_⟩<;>intros<;>(first | unfold spec_l01Solve.l0 | unfold spec_l01Solve.l1)<;>(repeat' first | (with_reducible first | exact ih0 _ _ _ _ | exact ih1 _ _ _ _ _ _ | exact spec_l01Det.mono _ _ | exact LeO.refl _ | exact LeO.none _ | refine LeO.ite ?_ ?_ | refine LeO.bind ?_ (fun _=>?_)) | exact ih0 _ _ _ _ | exact ih1 _ _ _ _ _ _ | exact spec_l01Det.mono _ _ | exact LeO.none _ | refine LeO.ite ?_ ?_ | refine LeO.bind ?_ (fun _=>?_))
theorem spec_l01Solve.mono: ∀a0 a1 k,LeO (spec_l01Solve.f k a0 a1) (spec_l01Solve.f (k+1) a0 a1):=by
 intro a0 a1 k
 obtain⟨ih0,ih1⟩:=spec_l01Solve.mono_l k
 unfold spec_l01Solve.f
 repeat' first | (with_reducible first | exact ih0 _ _ _ _ | exact ih1 _ _ _ _ _ _ | exact spec_l01Det.mono _ _ | exact LeO.refl _ | exact LeO.none _ | refine LeO.ite ?_ ?_ | refine LeO.bind ?_ (fun _=>?_)) | exact ih0 _ _ _ _ | exact ih1 _ _ _ _ _ _ | exact spec_l01Det.mono _ _ | exact LeO.none _ | refine LeO.ite ?_ ?_ | refine LeO.bind ?_ (fun _=>?_)
theorem spec_l01Solve.calls (k:Nat) (A0:Option Addr) (c0:Nat) (l0:List (List Int)) (A1:Option Addr) (c1:Nat) (l1:List Int) (r1:List Int) (r2:Int) (w:World) (hr0:Kd.C (Kd.slice 2 (Kd.int .i64)) w A0 l0.length l0) (hc0:l0.length≤c0) (hr1:Kd.C (Kd.int .i64) w A1 l1.length l1) (hc1:l1.length≤c1) (h:spec_l01Solve.f k l0 l1=some (r1,r2)):
  Calls Tryz.prog 85 #[.slice A0 l0.length c0, .slice A1 l1.length c1] w fun e w'=> ∃v0_:Value,e= .returned (.tuple #[v0_, .int .i64 r2])∧Kd.R (Kd.int .i64) 2 w' w.heap.size (fun _=>True) v0_ r1∧Below w.heap.size w w':=by
 have HR0:=q_ hr0;have HC0:=q_ hc0;clear hr0 hc0;have HR1:=q_ hr1;have HC1:=q_ hc1;clear hr1 hc1;have HB:=q_ (Below.refl w.heap.size w);have H:(spec_l01Solve.l0 k l0 l1 (([]:List Int)) 0)=some (r1,r2):=h;clear h;obtain⟨aC,hy⟩: ∃y_:List Int,y_=(([]:List Int)):=⟨_,rfl⟩
 replace H:(spec_l01Solve.l0 k l0 l1 aC 0)=some (r1,r2):=hh_;have az:=q_ hy;clear hy;have H':=q_ H;clear H
 go_enter Tryz.func85,Tryz.ntmps85
 go_wp2_with (first | ((with_reducible refine gate_dst (N:=11) rfl ?_);refine Kd.R_lit (Kd.int .i64) _ 2 ?hg (N:=11) ?hd (xs:=([]:List Int)) (inner:= []) (ok:=fun _=>True) (okp:=fun _=>True) ?hr ?hp (fun _ hk=>hk) trivial (Below.refl _ _) (Nat.le_refl _) (by simp) ?_;(case hd=>rfl);(case hg=>rfl);(case hr=>first | (go_simp;done) | (go_simp;rfl));(case hp=>exact(Reps.none _ _));intro bk w3 ho4 hb hg_ hnew_;clear hg_ hnew_;(first | rw [← az.out] at ho4 | (simp only [Int.reduceToNat] at ho4;rw [← az.out] at ho4));have aQ:=q_ (Kd.R_lower ho4 bz_);replace HB:=q_ (bs_ hb);clear hb ho4))
 go_loopg [6,7] k (fun kq v6 v7 w'=> ∃(aw:List Int) (aa:Int),v7= .int .i64 aa∧Aside0 (spec_l01Solve.l0 kq l0 l1 aw aa=some (r1,r2))∧Aside0 (kq≤k)∧Aside0 (Kd.R (Kd.int .i64) 2 w' w.heap.size (fun _=>True) v6 aw)∧Aside0 (Below w.heap.size w w'))
 case atStart=>exact⟨(aC),(0),rs_,H',⟨Nat.le_refl _⟩,⟨ro_ aQ.out⟩,⟨hb_⟩⟩
 case round=>
  clear H';(try clear c1);obtain⟨aw,aa,rfl,HA,HK1,af,HB⟩:=hrel;cases gk with
  | zero=>exact absurd HA.out (by simp [spec_l01Solve.l0])
  | succ k1=>
   have H:=HA.out;clear HA;simp only [spec_l01Solve.l0] at H
   by_cases c5:aa < (l0.length:Int)
   ·rw [if_pos c5] at H;have c5b0:=decide_eq_true c5;clear c5;obtain⟨aD,hy⟩: ∃y_:List (List Int),y_=(([]:List (List Int))):=⟨_,rfl⟩
    replace H:(spec_l01Solve.l1 k1 l0 l1 aw aa aD 0)=some (r1,r2):=hh_;have aA:=q_ hy;clear hy;have H':=q_ H;clear H
    go_wp2_with (first | ((with_reducible refine gate_dst (N:=18) rfl ?_);refine Kd.S_lit (Kd.slice 2 (Kd.int .i64)) _ 24 ?hg (N:=18) ?hd (xs:=([]:List (List Int))) (inner:= []) (ok:=fun _=>True) (okp:=fun _=>True) ?hr ?hp (fun _ hk=>hk) trivial (Below.refl _ _) (Nat.le_refl _) (by simp) ?_;(case hd=>rfl);(case hg=>rfl);(case hr=>first | (go_simp;done) | (go_simp;rfl));(case hp=>exact(Reps.none _ _));intro bq w6 ho7 hb hg_ hnew_;clear hg_ hnew_;(first | rw [← aA.out] at ho7 | (simp only [Int.reduceToNat] at ho7;rw [← aA.out] at ho7));have aT:=q_ (Kd.S_lower (Kd.S_new' ho7 (Kd.R_lt (ro_ af.out))) bz_);replace af:=q_ (rb_ af.out hb);replace HB:=q_ (bs_ hb);clear hb ho7))
    go_loopg [8,9] k1 (fun kq v8 v9 w'=> ∃(aj:List Int) (ak:List (List Int)) (ae:Int),v9= .int .i64 ae∧Aside0 (spec_l01Solve.l1 kq l0 l1 aj aa ak ae=some (r1,r2))∧Aside0 (kq≤k1)∧Aside0 (Kd.R (Kd.int .i64) 2 w' w.heap.size (fun _=>True) u6 aj)∧Aside0 (Kd.S (Kd.slice 2 (Kd.int .i64)) 24 w' w.heap.size (fun k_=>some k_≠(u6:Value).ownBlock) v8 ak)∧Aside0 (Below w.heap.size w w'))
    case atStart=>exact⟨(aw),(aD),(0),rs_,H',⟨Nat.le_refl _⟩,⟨ro_ af.out⟩,⟨by(with_reducible repeat (first | apply Kd.S_alloc | apply Kd.S_drewN | apply Kd.S_drew));exact Kd.S_mono aT.out (fun _ hk=>hk.2)⟩,⟨hb_⟩⟩
    case round=>
     clear H';(try clear c1);(try clear c5b0);obtain⟨aj,ak,ae,rfl,HA,HK2,af,ag,HB⟩:=hrel;cases gk with
     | zero=>exact absurd HA.out (by simp [spec_l01Solve.l1])
     | succ k2=>
      have H:=HA.out;clear HA;simp only [spec_l01Solve.l1] at H
      by_cases c8:ae < (l0.length:Int)
      ·rw [if_pos c8] at H;have c8b0:=decide_eq_true c8;clear c8
       by_cases c9:0≤ae
       ·rw [if_pos c9] at H;have c9b0:=decide_eq_true c9;clear c9;replace H:=Option.bind_eq_some_iff.mp H;obtain⟨ah,A100,H⟩:=H;replace H:(if ae < (l1.length:Int) then(if 0≤aa then(if aa < (ah.length:Int) then(if ak.length < 5864062014805 then(spec_l01Solve.l1 k2 l0 l1 aj aa (ak++ [(ah.set (aa:Int).toNat (rd l1 ae))]) (wrap64 (ae+1))) else(none)) else(none)) else(none)) else(none))=some (r1,r2):=H;have A10:=q_ A100;clear A100
        by_cases c11:ae < (l1.length:Int)
        ·rw [if_pos c11] at H;have c11b0:=decide_eq_true c11;clear c11
         by_cases c12:0≤aa
         ·rw [if_pos c12] at H;have c12b0:=decide_eq_true c12;clear c12
          by_cases c13:aa < (ah.length:Int)
          ·rw [if_pos c13] at H;have c13b0:=decide_eq_true c13;clear c13;obtain⟨ay,hy⟩: ∃y_:List Int,y_=(ah.set (aa:Int).toNat (rd l1 ae)):=⟨_,rfl⟩
           replace H:(if ak.length < 5864062014805 then(spec_l01Solve.l1 k2 l0 l1 aj aa (ak++ [ay]) (wrap64 (ae+1))) else(none))=some (r1,r2):=hh_;have aU:=q_ hy;clear hy
           by_cases c15:ak.length < 5864062014805
           ·rw [if_pos c15] at H;have aV:=q_ c15;clear c15;obtain⟨aG,hy⟩: ∃y_:List (List Int),y_=(ak++ [ay]):=⟨_,rfl⟩
            replace H:(spec_l01Solve.l1 k2 l0 l1 aj aa aG (wrap64 (ae+1)))=some (r1,r2):=hh_;have aW:=q_ hy;clear hy;have H':=q_ H;clear H;have p452:0≤(ae:Int):=od_;have q452:ae < (l0.length:Int):=od_;obtain⟨bh,aH,aI,e452,hx452_0,hl452_0,hi452_0⟩:=at_L3 HR0.out ae p452 q452;cases e452
            replace hx452_0:=(HB.out.cell (World.block_lt_of_cell? w _ hx452_0)).trans hx452_0;have HR452_0:=q_ hi452_0;have HC452_0:=q_ hl452_0;clear hi452_0 hl452_0;replace p452:=eq_true p452;replace q452:=eq_true q452
            go_wp2_with (first | ((with_reducible refine gate_callee (f:=137) rfl ?_);refine gL_ 29 Tryz.func137 #[.slice aH (rd_L3 l0 ae).length aI] ?_;(with_reducible refine(spec_l01Own.calls _ _ (rd_L3 l0 ae) ah _ ?au ?av A10.out).mono ?_);(case au=>exact cb_ HR452_0.out HB.out);(case av=>exact HC452_0.out);rintro e w16 ⟨bu,rfl,ho0,hb⟩;refine⟨_,rfl,?_⟩;replace ag:=q_ (Kd.S_elder' (so_ ag.out) (Kd.R_base ho0) hb);have ai:=q_ (Kd.R_lower (Kd.R_new' ho0 (Kd.R_lt (ro_ af.out))) bz_);replace af:=q_ (Kd.R_elder' (ro_ af.out) (Kd.R_base ho0) hb);replace HB:=q_ (bs_ hb);(try clear hb);(try clear hk);(try clear ho0);have p456:0≤(ae:Int):=od_;have q456:ae < (l1.length:Int):=od_;obtain⟨bi,e456,hx456_0⟩:=Kd.at_int HR1.out ae p456 q456;cases e456;replace hx456_0:=(HB.out.cell (World.block_lt_of_cell? w _ hx456_0)).trans hx456_0;replace p456:=eq_true p456;replace q456:=eq_true q456;have p14:0≤(aa:Int):=od_;have q14:(aa:Int) < ((ah.length:Int):Int):=od_;obtain⟨go14,aq,aJ,aK,gl14,cl14,HG14⟩:=Kd.R_form ai.out (by omega);(first | cases aJ | (injection aJ with ea_ en_ ec_;(first | subst ea_ | (injection ea_ with ea_;subst ea_));subst ec_;clear en_));have GB14:=q_ aK;have GG14:=q_ HG14;clear aK gl14 HG14;obtain⟨hx14_0,hf14_0⟩:=Kd.R_celln 0 ai.out (aa:Int) p14 q14;replace p14:=eq_true p14;replace q14:=eq_true q14;have n_:=q_ (Kd.R_mono (ok':=(fun k_=>some k_≠(u6:Value).ownBlock)) ai.out (fun k_ hk=>hk.2));clear ai;have ai:=n_;clear n_;obtain⟨hy17_,hz17_⟩:=Kd.R_celln 0 ai.out (aa:Int) od_ od_;have HP17:=Kd.R_putg ai.out (aa:Int) (rd l1 ae)) | ((with_reducible refine gate_store (t:=2) (p:=36) rfl ?_);refine store_event (t:=2) (p:=36) (v:=?vo_w18) (w1:=(w16.setCell ⟨go14,(aa:Int).toNat,none⟩ (.int .i64 (rd l1 ae)))) ?hg ?ho ?hn ?hr ?_;(case ho=>rfl);(case hg=>rfl);(case hn=>rfl);(case hr=>first | (go_simp;done) | (go_simp;rfl));intro w18 hw;have hg:w16.grownBy w18 (some go14):=(by rw [hw];exact HP17.2);have hp_:Kd.R (Kd.int .i64) 2 w18 w.heap.size (fun k_=>some k_≠(u6:Value).ownBlock) (.slice (some ⟨go14,0,none⟩) ah.length aq) ay:=(by rw [hw,aU.out];exact HP17.1);clear HP17;replace af:=q_ (Kd.R_after (v:=(.slice (some ⟨go14,0,none⟩) ah.length aq)) (v1:=(.slice (some ⟨go14,0,none⟩) ah.length aq)) (ok:=(fun _=>True)) (ro_ af.out) hg (.inl rfl));replace ag:=q_ (Kd.S_after (v:=(.slice (some ⟨go14,0,none⟩) ah.length aq)) (v1:=(.slice (some ⟨go14,0,none⟩) ah.length aq)) (ok:=(fun k_=>some k_≠(u6:Value).ownBlock)) (so_ ag.out) hg (.inl rfl));replace ai:=q_ (hp_);replace HB:=q_ ((by rw [hw];exact below_set (HB.out) GB14.out:Below w.heap.size w w18));clear hg hw hp_) | ((with_reducible refine gate_builtin (b:= .append) (xs:= #[.tmp 37, .tmp 39]) rfl ?_);at_builtin;refine Kd.S_append (Kd.slice 2 (Kd.int .i64)) (w0:=w) w.heap.size rfl (.tmp 37) (.tmp 39) 32 24 (.slice none 0 0) 24 rfl Tryz.underlying32 info24 rfl (by decide) (by omega) u8 ak ay [.slice (some ⟨go14,0,none⟩) ah.length aq] (fun k_=>some k_≠(u6:Value).ownBlock) (fun k_=>some k_=(.slice (some ⟨go14,0,none⟩) ah.length aq:Value).ownBlock) rfl rfl ?aP (fun k_ hk_=>((Kd.R_mono (ok':=fun k_=>((fun k_=>some k_≠(u6:Value).ownBlock)) k_∧some k_≠(u8:Value).ownBlock) (Kd.R_apart' (ai.out) (Kd.S_typed ag.out) (by decide)) (fun k_ hk=>⟨hk.1,hk.2⟩))).1 k_ hk_.symm) ?aF ?aO ?aB ?aS ?aL ?_;(case aP=>exact Kd.M_row (Kd.R_mono (Kd.R_tight rfl (Kd.R_mono (ok':=fun k_=>((fun k_=>some k_≠(u6:Value).ownBlock)) k_∧some k_≠(u8:Value).ownBlock) (Kd.R_apart' (ai.out) (Kd.S_typed ag.out) (by decide)) (fun k_ hk=>⟨hk.1,hk.2⟩))) (fun _ h_=>h_)));(case aB=>exact hb_);(case aF=>exact(fun k_ hk=>Kd.fresh' (Kd.R_lt (ro_ af.out)) k_ hk));(case aO=>exact(by(with_reducible repeat (first | apply Kd.S_alloc | apply Kd.S_drewN | apply Kd.S_drew));exact Kd.S_mono ag.out (fun k_ hk=>⟨hk.1,fun e_=>hk.2 e_⟩)));(case aS=>exact bz_);(case aL=>have:=aV.out;omega);intro bv w19 ho hb hg hat;rw [← aW.out] at ho;replace af:=q_ (Kd.R_over' (ro_ af.out) (Kd.S_typed (so_ ag.out)) (by decide) hg);replace HB:=q_ (hb);have aX:=q_ (ho);clear ag ai ho hb hg hat))
            go_roundg k2
            case measure=>have:=HK1.out;have:=HK2.out;omega
            case rel=>exact⟨(aj),(aG),(wrap64 (ae+1)),rs_,H',⟨by have:=HK1.out;have:=HK2.out;omega⟩,⟨by(with_reducible repeat (first | apply Kd.R_alloc | apply Kd.R_drewN | apply Kd.R_drew));exact Kd.R_mono af.out (fun _ hk=>trivial)⟩,⟨so_ aX.out⟩,⟨hb_⟩⟩
           ·rw [if_neg c15] at H;exact absurd H (by simp)
          ·rw [if_neg c13] at H;exact absurd H (by simp)
         ·rw [if_neg c12] at H;exact absurd H (by simp)
        ·rw [if_neg c11] at H;exact absurd H (by simp)
       ·rw [if_neg c9] at H;exact absurd H (by simp)
      ·rw [if_neg c8] at H;have c8b0:=decide_eq_false c8;clear c8;replace H:=Option.bind_eq_some_iff.mp H;obtain⟨ax,A200,H⟩:=H;replace H:(if aj.length < 17592186044416 then(spec_l01Solve.l0 k2 l0 l1 (aj++ [ax]) (wrap64 (aa+1))) else(none))=some (r1,r2):=H;have A20:=q_ A200;clear A200
       by_cases c21:aj.length < 17592186044416
       ·rw [if_pos c21] at H;have aY:=q_ c21;clear c21;obtain⟨aM,hy⟩: ∃y_:List Int,y_=(aj++ [ax]):=⟨_,rfl⟩
        replace H:(spec_l01Solve.l0 k2 l0 l1 aM (wrap64 (aa+1)))=some (r1,r2):=hh_;have aZ:=q_ hy;clear hy;have H':=q_ H;clear H;obtain⟨ba,bf,bg⟩:=Kd.S_slice ag.out;subst bg
        go_wp2_with (first | ((with_reducible refine gate_callee (f:=138) rfl ?_);refine gL_ 43 Tryz.func138 #[.slice ba ak.length bf] ?_;(with_reducible refine(spec_l01Det.calls k2 _ _ ak ax _ ?au ?av A20.out).mono ?_);(case au=>repeat (first | exact(Kd.S_reads' ag.out).2.2 | (with_reducible refine Kd.C_alloc ?_ _) | (with_reducible refine Kd.C_drewN ?_ _) | (with_reducible refine Kd.C_drew ?_)));(case av=>exact(Kd.S_reads' ag.out).2.1);rintro e w23 ⟨rfl,hb⟩;refine⟨_,rfl,?_⟩;replace af:=q_ (rb_ af.out hb);replace ag:=q_ (Kd.S_below (so_ ag.out) hb);replace HB:=q_ (bs_ hb);(try clear hb);(try clear hk)) | ((with_reducible refine gate_builtin (b:= .append) (xs:= #[.tmp 41, .tmp 44]) rfl ?_);at_builtin;refine Kd.R_append (Kd.int .i64) (w0:=w) w.heap.size rfl (.tmp 41) (.tmp 44) 24 2 (.int .i64 0) 8 rfl Tryz.underlying24 info2 rfl (by decide) (by omega) u6 aj ax [.int .i64 ax] (fun _=>True) (fun _=>False) rfl rfl ?aP (fun _ hk=>hk.elim) ?aF ?aO ?aB ?aS ?aL ?_;(case aP=>exact rfl);(case aB=>exact hb_);(case aF=>exact(fun _ _=>trivial));(case aO=>exact(ro_ af.out));(case aS=>exact bz_);(case aL=>have:=aY.out;omega);intro bw w24 ho hb hg hat;rw [← aZ.out] at ho;replace ag:=q_ (Kd.S_after (ok:=(fun _=>True)) (by(with_reducible repeat (first | apply Kd.S_alloc | apply Kd.S_drewN | apply Kd.S_drew));exact Kd.S_mono ag.out (fun _ hk=>⟨trivial,hk⟩)) hg hat);replace HB:=q_ (hb);have a9:=q_ (ho);clear af ho hb hg hat))
        go_roundg k2
        case measure=>have:=HK1.out;have:=HK2.out;omega
        case rel=>exact⟨(aM),(wrap64 (aa+1)),rs_,H',⟨by have:=HK1.out;have:=HK2.out;omega⟩,⟨ro_ a9.out⟩,⟨hb_⟩⟩
       ·rw [if_neg c21] at H;exact absurd H (by simp)
   ·rw [if_neg c5] at H;have c5b0:=decide_eq_false c5;clear c5;replace H:=Option.bind_eq_some_iff.mp H;obtain⟨aN,A250,H⟩:=H;replace H:(some (aw,aN))=some (r1,r2):=H;have A25:=q_ A250;clear A250;simp only [Option.some.injEq,Prod.mk.injEq] at H;obtain⟨rfl,rfl⟩:=H
    go_wp2_with (first | ((with_reducible refine gate_callee (f:=138) rfl ?_);refine gL_ 48 Tryz.func138 #[.slice A0 l0.length c0] ?_;(with_reducible refine(spec_l01Det.calls k1 _ _ l0 aN _ ?au ?av A25.out).mono ?_);(case au=>exact cb_ HR0.out HB.out);(case av=>exact HC0.out);rintro e w26 ⟨rfl,hb⟩;refine⟨_,rfl,?_⟩;replace af:=q_ (rb_ af.out hb);replace HB:=q_ (bs_ hb);(try clear hb);(try clear hk)))
    go_ret2
    exact⟨_,by first | rfl | (simp [errW_none,errW_some] <;> rfl) | (simp [*,errW_none,errW_some] <;> rfl),ro_ af.out,hb_⟩
end Go.Proofs.YthmfdplckdijdaaGreat.Pr
end
section
namespace Go.Proofs.YthmfdplckdijdaaGreat.Sv
open Go.RowKit Go.Proofs.YthmfdplckdijdaaGreatW.PrintWords Go.Proofs.YthmfdplckdijdaaGreatW.PrintMore Go.Proofs.YthmfdplckdijdaaGreat.Ma Go.Proofs.YthmfdplckdijdaaGreat.Pr Go.Proofs.YthmfdplckdijdaaGreat.Dt Go.Proofs.YthmfdplckdijdaaGreat.Bz Go.Proofs.YthmfdplckdijdaaGreat.Bd Go.Proofs.YthmfdplckdijdaaGreat.Un Go.Proofs.YthmfdplckdijdaaGreat.Cz Go.Proofs.YthmfdplckdijdaaGreat.Mn
open Go.Proofs.YthmfdplckdijdaaGreat.Hd (dO cM pcol rowsFrom rowsFrom_len sl slL)
def dc (n:Nat) (C:Mat) (x:List Int) (i:Nat):Int:=det n (cset i (fun r=>x.getD r 0) C)
def sgn (d:Int):Int:=if d < 0 then -1 else if d > 0 then 1 else 0
section
variable {n:Nat} {l:List (List Int)} (h:Sq n l) (hn:n≤5) (s:Int)
include h hn
theorem col_t (Q:List Int) (hQ:Q.length=n) (i:Nat) (hi:i < n):Ev (fun k=>impl_Problem_column.f k l Q (i:Int) true) (rw1 n (fun r=> - en l r i)):=by
 have hl:=h.len
 have at_ (r:Nat) (hr:r < n):((List.range n).map fun u=>if u < r then - en l u i else 0).set r (- en l r i)=(List.range n).map fun u=>if u < r+1 then - en l u i else 0:=by
  apply List.ext_getElem
  ·simp
  ·intro k h1 h2
   have hk:k < n:=by simpa using h2
   rw [List.getElem_set]
   simp only [List.getElem_map,List.getElem_range]
   by_cases e:r=k
   ·subst e;rw [if_pos rfl,if_pos (by omega)]
   ·rw [if_neg e]
    by_cases c:k < r
    ·rw [if_pos c,if_pos (by omega)]
    ·rw [if_neg c,if_neg (by omega)]
 have loop: ∀q r,r+q=n→Ev (fun k=>impl_Problem_column.l0 k (i:Int) true ((List.range n).map fun u=>if u < r then - en l u i else 0) l (n:Int) r) (rw1 n (fun r=> - en l r i)):=by
  intro q
  induction q with
  | zero=>
   intro r hr
   obtain rfl:r=n:=by omega
   refine evstep (fun k=>by rw [impl_Problem_column.l0]) (evneg (by omega) (evpos rfl (evc ?_)))
   congr 1
   exact List.map_congr_left (fun u hu=>by rw [if_pos (List.mem_range.1 hu)])
  | succ q ih=>
   intro r hr
   have nx:=ih (r+1) (by omega)
   have hrow:=h.row r (by omega)
   have hnum:=h.num r i (by omega) hi
   refine evstep (fun k=>by rw [impl_Problem_column.l0]) ?_
   rw [rdL1]
   refine evpos (by omega) (evpos (by omega) (evpos (by omega) (evpos rfl (evpos (by omega) (evpos (by omega) (evpos (by simp;omega) ?_))))))
   rw [rd_nat,show (l.getD r []).getD i 0=en l r i from rfl,w64 (x:= - en l r i) (by omega) (by omega),Int.toNat_natCast,at_ r (by omega),w64 (x:=(r:Int)+1) (by omega) (by omega)]
   exact nx
 unfold impl_Problem_column.f
 rw [hQ,hl]
 refine evpos (by omega) (evpos (by omega) ?_)
 have:=loop n 0 (by omega)
 rw [show ((List.range n).map fun u=>if u < 0 then - en l u i else 0)=List.replicate ((n:Int)).toNat 0 from by
  apply List.ext_getElem
  ·simp
  ·intro k h1 h2;simp] at this
 exact this
theorem col_f (Q:List Int) (hQ:Q.length=n) (i:Nat) (hi:i < n):Ev (fun k=>impl_Problem_column.f k l Q (i:Int) false) (rw1 n (fun r=>if r=i then 1 else 0)):=by
 have hl:=h.len
 have loop: ∀q r,r+q=n→Ev (fun k=>impl_Problem_column.l0 k (i:Int) false (List.replicate n 0) l (n:Int) r) (rw1 n (fun r=>if r=i then 1 else 0)):=by
  intro q
  induction q with
  | zero=>
   intro r hr
   obtain rfl:r=n:=by omega
   refine evstep (fun k=>by rw [impl_Problem_column.l0]) (evneg (by omega) (evneg (by simp) (evpos (by omega) (evpos (by simp;omega) (evc ?_)))))
   congr 1
   rw [Int.toNat_natCast]
   apply List.ext_getElem
   ·simp [rw1]
   ·intro k h1 h2
    rw [List.getElem_set]
    simp only [rw1,List.getElem_map,List.getElem_range,List.getElem_replicate]
    by_cases e:i=k
    ·subst e;simp
    ·rw [if_neg e,if_neg (Ne.symm e)]
  | succ q ih=>
   intro r hr
   have nx:=ih (r+1) (by omega)
   refine evstep (fun k=>by rw [impl_Problem_column.l0]) (evpos (by omega) (evpos (by omega) (evpos (by omega) (evneg (by simp) ?_))))
   rw [w64 (x:=(r:Int)+1) (by omega) (by omega)]
   exact nx
 unfold impl_Problem_column.f
 rw [hQ,hl]
 refine evpos (by omega) (evpos (by omega) ?_)
 have:=loop n 0 (by omega)
 rw [Int.toNat_natCast]
 exact this
theorem colF_eq (Q:List Int) (hQ:Q.length=n) (i:Nat) (hi:i < n):Ev (fun k=>colF k l Q s i) (rw1 n (fun r=>colM (bB s) (en l) r i)):=by
 unfold colF
 refine evsome (has_eq h hn s i (by omega)) ?_
 cases hb:bB s i with
 | true=>
  have:=col_t h hn Q hQ i hi
  have e:(fun r=>colM (bB s) (en l) r i)=fun r=> - en l r i:=by funext r;unfold colM;rw [if_pos hb]
  rw [e];exact this
 | false=>
  have:=col_f h hn Q hQ i hi
  have e:(fun r=>colM (bB s) (en l) r i)=fun r=>if r=i then 1 else 0:=by funext r;unfold colM;rw [if_neg (by simp [hb])]
  rw [e];exact this
theorem cols_all (Q:List Int) (hQ:Q.length=n): ∃K, ∀k,K≤k→ ∀i,i < n→colF k l Q s i=some (rw1 n (fun r=>colM (bB s) (en l) r i)):=by
 have key: ∀m,m≤n→ ∃K, ∀k,K≤k→ ∀i,i < m→colF k l Q s i=some (rw1 n (fun r=>colM (bB s) (en l) r i)):=by
  intro m
  induction m with
  | zero=>intro _;exact⟨0,fun k _ i hi=>by omega⟩
  | succ m ih=>
   intro hm
   obtain⟨K1,h1⟩:=ih (by omega)
   obtain⟨K2,h2⟩:=colF_eq h hn s Q hQ m (by omega)
   refine⟨K1+K2,fun k hk i hi=>?_⟩
   by_cases e:i=m
   ·subst e;exact h2 k (by omega)
   ·exact h1 k (by omega) i (by omega)
 exact key n (Nat.le_refl _)
end
theorem en_rows (M:Mat) (n a d:Nat) (ha:a < n) (hd:d < n):Hd.en (rowsFrom M n 0) a d=M a d:=by
 unfold Hd.en rowsFrom
 simp [ha,hd]
theorem dO_det {n k:Nat} (hn:n≤5) (M:Mat) (hb:Bk n k M):dO n M=det n M:=by
 unfold dO
 rw [dgo_det hn (k:=k) (Hd.en (rowsFrom M n 0)) (fun i j hi hj=>by rw [en_rows M n i j hi hj];exact hb i j hi hj)]
 exact det_congr (fun i j hi hj=>en_rows M n i j hi hj)
theorem sgn_mul (d x:Int) (hx: -1920000000≤x∧x≤1920000000):wrap64 (sgn d*x)=sgn d*x:=by
 unfold sgn
 split
 ·exact w64 (by omega) (by omega)
 ·split
  ·exact w64 (by omega) (by omega)
  ·exact w64 (by omega) (by omega)
section
variable {n:Nat} {l:List (List Int)} (h:Sq n l) (hn:n≤5) (s:Int)
include h hn
theorem D_b: -1920000000≤det n (colM (bB s) (en l))∧det n (colM (bB s) (en l))≤1920000000:=by
 have h1:=det_abs20 n (colM (bB s) (en l)) (fun i j hi hj=>colM_small h hn s i j hi hj)
 have h2:=b20_le n hn
 omega
end
section
variable {n:Nat} {l:List (List Int)} (h:Sq n l) (hn:n≤5) (s:Int) (x:List Int) (hx: ∀r,r < n→(x.getD r 0).natAbs≤100)
include h hn hx
theorem cset_small (i:Nat):Bk n i (cset i (fun r=>x.getD r 0) (colM (bB s) (en l))):=by
 intro a d ha hd
 unfold cset
 by_cases e:d=i
 ·rw [if_pos e,if_pos e];exact hx a ha
 ·rw [if_neg e,if_neg e];exact colM_small h hn s a d ha hd
theorem dc_b (i:Nat): -1920000000≤dc n (colM (bB s) (en l)) x i∧dc n (colM (bB s) (en l)) x i≤1920000000:=by
 have h1:=det_absk n i _ (cset_small h hn s x hx i)
 have h2:=b20_le n hn
 unfold dc
 omega
def solR (n:Nat) (C:Mat) (x:List Int):List Int × Int × Bool:=if det n C=0 then([],0,false) else((List.range n).map fun i=>sgn (det n C)*dc n C x i,(if det n C < 0 then - det n C else det n C),true)
theorem impl_solve (Q:List Int) (hQ:Q.length=n) (hxl:x.length=n) (hp:0 < n):Ev (fun k=>impl_Problem_solve.f k l Q s x) (solR n (colM (bB s) (en l)) x):=by
 obtain⟨K,hK⟩:=cols_all h hn s Q hQ
 refine⟨K,fun k hk=>?_⟩
 have hc:=hK k hk
 have hL (i:Nat) (hi:i < n):colL k l Q s i=rw1 n (fun r=>colM (bB s) (en l) r i):=by unfold colL;rw [hc i hi];rfl
 have hcM (a d:Nat) (ha:a < n) (hd:d < n):cM (colL k l Q s) n a d=colM (bB s) (en l) a d:=by
  unfold cM
  rw [if_pos hd,hL d hd]
  simp [rw1,ha]
 have hD:dO n (cM (colL k l Q s) n)=det n (colM (bB s) (en l)):=by
  rw [dO_det hn (k:=0) _ (fun i j hi hj=>by rw [hcM i j hi hj];have:=colM_small h hn s i j hi hj;split <;> omega)]
  exact det_congr hcM
 have db:=D_b h hn s
 show impl_Problem_solve.f k l Q s x=_
 unfold impl_Problem_solve.f
 rw [hQ]
 rw [if_pos ⟨hp,by omega,hxl,by
  unfold colOK
  rw [List.all_eq_true]
  intro i hi
  rw [hc i (List.mem_range.1 hi)]
  simp [rw1]⟩]
 rw [hD]
 have e1:impl_sign.f (det n (colM (bB s) (en l)))=some (sgn (det n (colM (bB s) (en l)))):=by
  unfold impl_sign.f sgn
  split
  ·rfl
  ·split <;> rfl
 have e2:impl_size.f (det n (colM (bB s) (en l)))=some (if det n (colM (bB s) (en l)) < 0 then - det n (colM (bB s) (en l)) else det n (colM (bB s) (en l))):=by
  unfold impl_size.f mx
  rw [w64 (x:= - det n (colM (bB s) (en l))) (by omega) (by omega)]
  congr 1
  split <;> split <;> omega
 rw [e1,e2,Option.bind_some,Option.bind_some]
 congr 1
 unfold solR
 by_cases d:det n (colM (bB s) (en l))=0
 ·rw [if_pos d,if_pos d]
 ·rw [if_neg d,if_neg d]
  congr 1
  unfold slL
  refine List.map_congr_left (fun i hi=>?_)
  have hi:=List.mem_range.1 hi
  rw [if_pos hi]
  unfold sl
  have hY (a d:Nat) (ha:a < n) (hd:d < n):pcol (Hd.en (rowsFrom (cM (colL k l Q s) n) n 0)) i x n a d=cset i (fun r=>x.getD r 0) (colM (bB s) (en l)) a d:=by
   unfold pcol cset
   by_cases e:d=i
   ·rw [if_pos ⟨e,ha⟩,if_pos e]
   ·rw [if_neg (fun q=>e q.1),if_neg e,en_rows _ n a d ha hd,hcM a d ha hd]
  rw [dO_det hn (k:=i) _ (fun a d ha hd=>by rw [hY a d ha hd];exact cset_small h hn s x hx i a d ha hd),det_congr hY]
  exact sgn_mul _ _ (dc_b h hn s x hx i)
theorem spec_solve (hxl:x.length=n):Ev (fun k=>spec_l01Solve.f k (mk n n (colM (bB s) (en l))) x) ((List.range n).map (dc n (colM (bB s) (en l)) x),det n (colM (bB s) (en l))):=by
 have hml:=mk_len n n (colM (bB s) (en l))
 have rows: ∀q c,c+q=n→Ev (fun k=>spec_l01Solve.l0 k (mk n n (colM (bB s) (en l))) x ((List.range c).map (dc n (colM (bB s) (en l)) x)) c) ((List.range n).map (dc n (colM (bB s) (en l)) x),det n (colM (bB s) (en l))):=by
  intro q
  induction q with
  | zero=>
   intro c hc
   obtain rfl:c=n:=by omega
   exact evstep (fun k=>by rw [spec_l01Solve.l0]) (evneg (by omega) (evbind (cols_det h hn s) (evc rfl)))
  | succ q ih=>
   intro c hc
   have nx:=ih (c+1) (by omega)
   rw [List.range_succ,List.map_append] at nx
   have build: ∀p r,r+p=n→Ev (fun k=>spec_l01Solve.l1 k (mk n n (colM (bB s) (en l))) x ((List.range c).map (dc n (colM (bB s) (en l)) x)) c (mk r n (cset c (fun r=>x.getD r 0) (colM (bB s) (en l)))) r) ((List.range n).map (dc n (colM (bB s) (en l)) x),det n (colM (bB s) (en l))):=by
    intro p
    induction p with
    | zero=>
     intro r hr
     obtain rfl:r=n:=by omega
     have he (i j:Nat) (hi:i < r) (hj:j < r):en (mk r r (cset c (fun r=>x.getD r 0) (colM (bB s) (en l)))) i j=cset c (fun r=>x.getD r 0) (colM (bB s) (en l)) i j:=mk_en r r _ i j hi hj
     have hd:=Sd.spec_det r (mk r r (cset c (fun r=>x.getD r 0) (colM (bB s) (en l)))) hn (mk_len _ _ _) (mk_rows _ _ _) ⟨c,fun i j hi hj=>by
      show (en (mk r r (cset c (fun r=>x.getD r 0) (colM (bB s) (en l)))) i j).natAbs≤_
      rw [he i j hi hj];exact cset_small h hn s x hx c i j hi hj⟩
     have e:det r (Sd.en (mk r r (cset c (fun r=>x.getD r 0) (colM (bB s) (en l)))))=dc r (colM (bB s) (en l)) x c:=det_congr he
     rw [e] at hd
     refine evstep (fun k=>by rw [spec_l01Solve.l1]) (evneg (by omega) (evbind hd ?_))
     refine evpos (by rw [List.length_map,List.length_range];omega) ?_
     rw [w64 (x:=(c:Int)+1) (by omega) (by omega)]
     exact nx
    | succ p ihp=>
     intro r hr
     have nx2:=ihp (r+1) (by omega)
     rw [mk_succ] at nx2
     refine evstep (fun k=>by rw [spec_l01Solve.l1]) ?_
     rw [rdL1,mk_row n n _ r (by omega)]
     refine evpos (by omega) (evpos (by omega) (evsome (Sd.own_eq _ (by rw [rw1_len];omega)) (evpos (by omega) (evpos (by omega) (evpos (by rw [rw1_len];omega) (evpos (by rw [mk_len];omega) ?_))))))
     rw [rd_nat,Int.toNat_natCast,w64 (x:=(r:Int)+1) (by omega) (by omega),show (rw1 n (colM (bB s) (en l) r)).set c (x.getD r 0)=rw1 n (cset c (fun r=>x.getD r 0) (colM (bB s) (en l)) r) from by
      apply List.ext_getElem
      ·simp [rw1]
      ·intro k h1 h2
       rw [List.getElem_set]
       simp only [rw1,List.getElem_map,List.getElem_range,cset]
       by_cases e:c=k
       ·subst e;simp
       ·rw [if_neg e,if_neg (Ne.symm e)]]
     exact nx2
   refine evstep (fun k=>by rw [spec_l01Solve.l0]) (evpos (by omega) ?_)
   exact build n 0 (by omega)
 exact rows n 0 (by omega)
end
end Go.Proofs.YthmfdplckdijdaaGreat.Sv
end
section
namespace Go.Proofs.YthmfdplckdijdaaGreat.Pr
open Go.RowKit Go.Proofs.YthmfdplckdijdaaGreatW.PrintWords Go.Proofs.YthmfdplckdijdaaGreatW.PrintLast Go.Proofs.YthmfdplckdijdaaGreatW.PrintMore
attribute [local go_sem] max2_int min2_int max_two min_two max_three min_three max_four min_four
def spec_l01Gcd.l0:Nat→Int→Int→Option (Int)
 | 0,_,_=>none
 | k+1,x0,x1=>if x1=0 then(some (mx x0 (wrap64 (-x0)))) else(spec_l01Gcd.l0 k x1 (Int.tmod x0 x1))
def spec_l01Gcd.f (k:Nat) (a0:Int) (a1:Int):Option (Int):=spec_l01Gcd.l0 k a0 a1
theorem spec_l01Gcd.mono_l: ∀k,(∀y0 y1,LeO (spec_l01Gcd.l0 k y0 y1) (spec_l01Gcd.l0 (k+1) y0 y1))
 | 0=>fun _ _ r h=>by simp [spec_l01Gcd.l0] at h
 | k+1=>by
  have ih0:=spec_l01Gcd.mono_l k
  intros;unfold spec_l01Gcd.l0;repeat' first | (with_reducible first | exact ih0 _ _ | exact LeO.refl _ | exact LeO.none _ | refine LeO.ite ?_ ?_ | refine LeO.bind ?_ (fun _=>?_)) | exact ih0 _ _ | exact LeO.none _ | refine LeO.ite ?_ ?_ | refine LeO.bind ?_ (fun _=>?_)
theorem spec_l01Gcd.mono: ∀a0 a1 k,LeO (spec_l01Gcd.f k a0 a1) (spec_l01Gcd.f (k+1) a0 a1):=by
 intro a0 a1 k
 have ih0:=spec_l01Gcd.mono_l k
 unfold spec_l01Gcd.f
 repeat' first | (with_reducible first | exact ih0 _ _ | exact LeO.refl _ | exact LeO.none _ | refine LeO.ite ?_ ?_ | refine LeO.bind ?_ (fun _=>?_)) | exact ih0 _ _ | exact LeO.none _ | refine LeO.ite ?_ ?_ | refine LeO.bind ?_ (fun _=>?_)
theorem spec_l01Gcd.calls (k:Nat) (a0:Int) (a1:Int) (r:Int) (w:World) (h:spec_l01Gcd.f k a0 a1=some r):
  Calls Tryz.prog 113 #[.int .i64 a0, .int .i64 a1] w fun e w'=>e= .returned (.int .i64 r)∧Below w.heap.size w w':=by
 have HB:=q_ (Below.refl w.heap.size w);have H:(spec_l01Gcd.l0 k a0 a1)=some r:=h;clear h;have H':=q_ H;clear H
 go_enter Tryz.func113,Tryz.ntmps113
 go_wp2
 go_loopg [0,1] k (fun kq v0 v1 w'=> ∃(aa:Int) (ae:Int),v0= .int .i64 aa∧v1= .int .i64 ae∧Aside0 (spec_l01Gcd.l0 kq aa ae=some r)∧Aside0 (kq≤k)∧Aside0 (Below w.heap.size w w'))
 case atStart=>exact⟨(a0),(a1),rs_,rs_,H',⟨Nat.le_refl _⟩,⟨hb_⟩⟩
 case round=>
  clear H';obtain⟨aa,ae,rfl,rfl,HA,HK1,HB⟩:=hrel;cases gk with
  | zero=>exact absurd HA.out (by simp [spec_l01Gcd.l0])
  | succ k1=>
   have H:=HA.out;clear HA;simp only [spec_l01Gcd.l0] at H
   by_cases c3:ae=0
   ·rw [if_pos c3] at H;have c3b0:=e1_ c3;have c3b1:=e2_ c3;clear c3;obtain⟨ji4,hji4⟩: ∃j_:Int,(mx aa (wrap64 (-aa)))=j_:=⟨_,rfl⟩
    replace H:(some ji4)=some r:=by first | (rw [hji4] at H;exact H) | (simp only [hji4] at H ⊢;exact H)
    have hji4_:(if aa < (wrap64 (-aa)) then(wrap64 (-aa)) else aa)=ji4:=hji4;obtain rfl:=Option.some.inj H;go_wp2
    go_ret
    exact⟨by first | rfl | (simp [errW_none,errW_some] <;> rfl) | (simp only [← hji4];first | rfl | (simp [errW_none,errW_some] <;> rfl)) | (simp [*,errW_none,errW_some] <;> rfl),hb_⟩
   ·rw [if_neg c3] at H;have c3b0:=e3_ c3;have c3b1:=e4_ c3;have H':=q_ H;clear H;go_wp2
    go_roundg k1
    case measure=>have:=HK1.out;omega
    case rel=>exact⟨(ae),(Int.tmod aa ae),rs_,rs_,H',⟨by have:=HK1.out;omega⟩,⟨hb_⟩⟩
def spec_l01Frac.f (k:Nat) (a0:Int) (a1:Int):Option (Int × Int):=if a1 < 0 then((spec_l01Gcd.f k (wrap64 (-a0)) (wrap64 (-a1))).bind fun aa=>(if aa=0 then(none) else(some (wrap64 (Int.tdiv (wrap64 (-a0)) aa),wrap64 (Int.tdiv (wrap64 (-a1)) aa))))) else((spec_l01Gcd.f k a0 a1).bind fun ae=>(if ae=0 then(none) else(some (wrap64 (Int.tdiv a0 ae),wrap64 (Int.tdiv a1 ae)))))
theorem spec_l01Frac.mono: ∀a0 a1 k,LeO (spec_l01Frac.f k a0 a1) (spec_l01Frac.f (k+1) a0 a1):=by
 intro a0 a1 k
 unfold spec_l01Frac.f
 repeat' first | (with_reducible first | exact spec_l01Gcd.mono _ _ _ | exact LeO.refl _ | exact LeO.none _ | refine LeO.ite ?_ ?_ | refine LeO.bind ?_ (fun _=>?_)) | exact spec_l01Gcd.mono _ _ _ | exact LeO.none _ | refine LeO.ite ?_ ?_ | refine LeO.bind ?_ (fun _=>?_)
def spec_l01Frac.T5:Bool × List (List Nat × List Nat):=(true, [([], []),([], []),([0,1], [0,1]),([], []),([], []),([3,4], [3,4]),([2,5], [2,5]),([6,0,1,2,3,4,5,6], [6])])
def spec_l01Frac.B5:List Nat:= [0,0,3,0,0,24,63,127]
theorem spec_l01Frac.tab5:rtab .any (opsOf Tryz.f67 5)=spec_l01Frac.T5:=by kernel_rfl
theorem spec_l01Frac.bits5:waitsOk spec_l01Frac.T5.2 spec_l01Frac.B5=true:=by kernel_rfl
theorem spec_l01Frac.calls (k:Nat) (a0:Int) (a1:Int) (r1:Int) (r2:Int) (w:World) (h:spec_l01Frac.f k a0 a1=some (r1,r2)):
  Calls Tryz.prog 67 #[.int .i64 a0, .int .i64 a1] w fun e w'=>e= .returned (.agg #[.int .i64 r1, .int .i64 r2])∧Below w.heap.size w w':=by
 have hu58:=Tryz.underlying58;have HB:=q_ (Below.refl w.heap.size w);have H:(if a1 < 0 then((spec_l01Gcd.f k (wrap64 (-a0)) (wrap64 (-a1))).bind fun ae=>(if ae=0 then(none) else(some (wrap64 (Int.tdiv (wrap64 (-a0)) ae),wrap64 (Int.tdiv (wrap64 (-a1)) ae))))) else((spec_l01Gcd.f k a0 a1).bind fun af=>(if af=0 then(none) else(some (wrap64 (Int.tdiv a0 af),wrap64 (Int.tdiv a1 af))))))=some (r1,r2):=h;clear h
 by_cases c3:a1 < 0
 ·rw [if_pos c3] at H;have c3b0:=decide_eq_true c3;clear c3;replace H:=Option.bind_eq_some_iff.mp H;obtain⟨ae,A40,H⟩:=H;replace H:(if ae=0 then(none) else(some (wrap64 (Int.tdiv (wrap64 (-a0)) ae),wrap64 (Int.tdiv (wrap64 (-a1)) ae))))=some (r1,r2):=H;have A4:=q_ A40;clear A40
  by_cases c5:ae=0
  ·rw [if_pos c5] at H;exact absurd H (by simp)
  ·rw [if_neg c5] at H;have c5b0:=e3_ c5;have c5b1:=e4_ c5;simp only [Option.some.injEq,Prod.mk.injEq] at H;obtain⟨rfl,rfl⟩:=H
   go_enter Tryz.func67,Tryz.ntmps67
   try go_wp2_with (first | ((with_reducible refine gate_dst (N:=4) rfl ?_);refine be_ 4 #[.int .i64 0, .int .i64 0] 58 ?_;intro ag hg w6 hbox hb;have aa:=q_ (hbox);have ah:=q_ ((by rw [hg];exact bz_:w.heap.size≤ag));have ai:=q_ ((by rw [hg];exact bz_:w.heap.size≤ag));replace HB:=q_ (bs_ hb);clear hb hbox hg) | ((with_reducible refine gate_callee (f:=113) rfl ?_);refine gL_ 14 Tryz.func113 #[.int .i64 (wrap64 (-a0)), .int .i64 (wrap64 (-a1))] ?_;(with_reducible refine(spec_l01Gcd.calls k (wrap64 (-a0)) (wrap64 (-a1)) ae _ A4.out).mono ?_);rintro e w7 ⟨rfl,hb⟩;refine⟨_,rfl,?_⟩;replace aa:=q_ (bb_ aa.out hb);replace HB:=q_ (bs_ hb);(try clear hb)))
   replace aa:=q_ (blk_drew aa.out);replace HB:=q_ (below_drew1 HB.out);refine st_ (n:=8) (S:=fun w'=>True) (ds:= []) trivial (fun hHeld=>?_);refine with_tabW spec_l01Frac.tab5 spec_l01Frac.bits5 (fun HT_ HW_=>?_)
   generalize w7.drew=w8 at aa HB hHeld ⊢
   refine pu_ 0 15 ?_;refine pu_ 1 16 ?_;refine pu_ 2 17 ?_;refine pu_ 3 18 ?_;refine pu_ 4 19 ?_;refine pu_ 5 20 ?_;refine pu_ 6 21 ?_
   refine on_ 7 none (fun K hK=>?_)
   have hs9:=cz_ aa 0;have hfs9:=blk_frozen aa.out 0;have hs10:=cz_ aa 1;have hfs10:=blk_frozen aa.out 1;refine skip_ (w1:=?_) (by rfl) rfl ?_ ?_
   rotate_left
   ·go_simp
    rfl
   refine hK.out _ _ trivial (fun hHeld=>?_)
   clear hK K;refine done_ (done_of HT_.out (by kernel_rfl)) ?_
   try go_wp2
   refine bodyPost_ret (results_cell_row rfl _ _ ag 58 #[.int .i64 (wrap64 (Int.tdiv (wrap64 (-a0)) ae)), .int .i64 (wrap64 (Int.tdiv (wrap64 (-a1)) ae))] (0,0) _ rfl (by(with_reducible repeat (first | refine blk_drewN ?_ _ | refine blk_drew ?_ | refine blk_alloc ?_ _));refine blk_put (cs:= #[.int .i64 (wrap64 (Int.tdiv (wrap64 (-a0)) ae)), .int .i64 0]) ?_ 1 _ rfl;(with_reducible repeat (first | refine blk_drewN ?_ _ | refine blk_drew ?_ | refine blk_alloc ?_ _));refine blk_put (cs:= #[.int .i64 0, .int .i64 0]) ?_ 0 _ rfl;(with_reducible repeat (first | refine blk_drewN ?_ _ | refine blk_drew ?_ | refine blk_alloc ?_ _));exact aa.out) Tryz.underlying58 rfl (by kernel_rfl)) rfl ?_
   exact⟨by first | rfl | (simp [errW_none,errW_some] <;> rfl) | (simp [*,errW_none,errW_some] <;> rfl),hb_⟩
 ·rw [if_neg c3] at H;have c3b0:=decide_eq_false c3;clear c3;replace H:=Option.bind_eq_some_iff.mp H;obtain⟨af,A110,H⟩:=H;replace H:(if af=0 then(none) else(some (wrap64 (Int.tdiv a0 af),wrap64 (Int.tdiv a1 af))))=some (r1,r2):=H;have A11:=q_ A110;clear A110
  by_cases c12:af=0
  ·rw [if_pos c12] at H;exact absurd H (by simp)
  ·rw [if_neg c12] at H;have c12b0:=e3_ c12;have c12b1:=e4_ c12;simp only [Option.some.injEq,Prod.mk.injEq] at H;obtain⟨rfl,rfl⟩:=H
   go_enter Tryz.func67,Tryz.ntmps67
   try go_wp2_with (first | ((with_reducible refine gate_dst (N:=4) rfl ?_);refine be_ 4 #[.int .i64 0, .int .i64 0] 58 ?_;intro ag hg w13 hbox hb;have aa:=q_ (hbox);have ah:=q_ ((by rw [hg];exact bz_:w.heap.size≤ag));have ai:=q_ ((by rw [hg];exact bz_:w.heap.size≤ag));replace HB:=q_ (bs_ hb);clear hb hbox hg) | ((with_reducible refine gate_callee (f:=113) rfl ?_);refine gL_ 14 Tryz.func113 #[.int .i64 a0, .int .i64 a1] ?_;(with_reducible refine(spec_l01Gcd.calls k a0 a1 af _ A11.out).mono ?_);rintro e w14 ⟨rfl,hb⟩;refine⟨_,rfl,?_⟩;replace aa:=q_ (bb_ aa.out hb);replace HB:=q_ (bs_ hb);(try clear hb)))
   replace aa:=q_ (blk_drew aa.out);replace HB:=q_ (below_drew1 HB.out);refine st_ (n:=8) (S:=fun w'=>True) (ds:= []) trivial (fun hHeld=>?_);refine with_tabW spec_l01Frac.tab5 spec_l01Frac.bits5 (fun HT_ HW_=>?_)
   generalize w14.drew=w15 at aa HB hHeld ⊢
   refine pu_ 0 15 ?_;refine pu_ 1 16 ?_;refine pu_ 2 17 ?_;refine pu_ 3 18 ?_;refine pu_ 4 19 ?_;refine pu_ 5 20 ?_;refine pu_ 6 21 ?_
   refine on_ 7 none (fun K hK=>?_)
   have hs16:=cz_ aa 0;have hfs16:=blk_frozen aa.out 0;have hs17:=cz_ aa 1;have hfs17:=blk_frozen aa.out 1;refine skip_ (w1:=?_) (by rfl) rfl ?_ ?_
   rotate_left
   ·go_simp
    rfl
   refine hK.out _ _ trivial (fun hHeld=>?_)
   clear hK K;refine done_ (done_of HT_.out (by kernel_rfl)) ?_
   try go_wp2
   refine bodyPost_ret (results_cell_row rfl _ _ ag 58 #[.int .i64 (wrap64 (Int.tdiv a0 af)), .int .i64 (wrap64 (Int.tdiv a1 af))] (0,0) _ rfl (by(with_reducible repeat (first | refine blk_drewN ?_ _ | refine blk_drew ?_ | refine blk_alloc ?_ _));refine blk_put (cs:= #[.int .i64 (wrap64 (Int.tdiv a0 af)), .int .i64 0]) ?_ 1 _ rfl;(with_reducible repeat (first | refine blk_drewN ?_ _ | refine blk_drew ?_ | refine blk_alloc ?_ _));refine blk_put (cs:= #[.int .i64 0, .int .i64 0]) ?_ 0 _ rfl;(with_reducible repeat (first | refine blk_drewN ?_ _ | refine blk_drew ?_ | refine blk_alloc ?_ _));exact aa.out) Tryz.underlying58 rfl (by kernel_rfl)) rfl ?_
   exact⟨by first | rfl | (simp [errW_none,errW_some] <;> rfl) | (simp [*,errW_none,errW_some] <;> rfl),hb_⟩
end Go.Proofs.YthmfdplckdijdaaGreat.Pr
end
section
namespace Go.Proofs.YthmfdplckdijdaaGreat.Fr
open Go.RowKit Go.Proofs.YthmfdplckdijdaaGreatW.PrintWords Go.Proofs.YthmfdplckdijdaaGreatW.PrintMore Go.Proofs.YthmfdplckdijdaaGreat.Ma Go.Proofs.YthmfdplckdijdaaGreat.Pr
def gc (a b:Int):Int:=(Int.gcd a b:Int)
def Big (x:Int):Prop:= -4611686018427387904≤x∧x≤4611686018427387904
theorem gc_zero (a:Int):gc a 0=if 0≤a then a else -a:=by
 unfold gc
 rw [Int.gcd_zero_right]
 split <;> omega
theorem gc_step (a b:Int):gc a b=gc b (Int.tmod a b):=by
 unfold gc Int.gcd
 rw [Int.natAbs_tmod,Nat.gcd_comm,Nat.gcd_rec,Nat.gcd_comm]
theorem tmod_lt {a b:Int} (h:b≠0):(Int.tmod a b).natAbs < b.natAbs:=by
 rw [Int.natAbs_tmod]
 exact Nat.mod_lt _ (by omega)
theorem abs_eq {a:Int} (h:Big a):mx a (wrap64 (-a))=if 0≤a then a else -a:=by
 unfold Big at h
 rw [w64 (by omega) (by omega)]
 unfold mx
 split <;> split <;> omega
theorem spec_loop: ∀(n:Nat) (a b:Int),b.natAbs≤n→Big a→Big b→Ev (fun k=>spec_l01Gcd.l0 k a b) (gc a b):=by
 intro n
 induction n with
 | zero=>
  intro a b hn ha hb
  obtain rfl:b=0:=by omega
  refine evstep (fun k=>by rw [spec_l01Gcd.l0]) (evpos rfl (evc ?_))
  rw [abs_eq ha,gc_zero]
 | succ n ih=>
  intro a b hn ha hb
  by_cases e:b=0
  ·subst e
   refine evstep (fun k=>by rw [spec_l01Gcd.l0]) (evpos rfl (evc ?_))
   rw [abs_eq ha,gc_zero]
  ·refine evstep (fun k=>by rw [spec_l01Gcd.l0]) (evneg e ?_)
   have h:=tmod_lt (a:=a) e
   rw [gc_step]
   exact ih b (Int.tmod a b) (by omega) hb (by unfold Big at*;omega)
theorem spec_gcd (a b:Int) (ha:Big a) (hb:Big b):Ev (fun k=>spec_l01Gcd.f k a b) (gc a b):=spec_loop b.natAbs a b (Nat.le_refl _) ha hb
end Go.Proofs.YthmfdplckdijdaaGreat.Fr
end
section
namespace Go.Proofs.YthmfdplckdijdaaGreat.Pr
open Go.RowKit Go.Proofs.YthmfdplckdijdaaGreatW.PrintWords Go.Proofs.YthmfdplckdijdaaGreatW.PrintLast Go.Proofs.YthmfdplckdijdaaGreatW.PrintMore
attribute [local go_sem] max2_int min2_int max_two min_two max_three min_three max_four min_four
def impl_Problem_point.f (k:Nat) (af:List (List Int)) (ae:List Int) (a1:Int):Option (List Int × Int × Bool):=(impl_Problem_solve.f k af ae a1 ae).bind fun aa=>(some (aa.1,aa.2.1,aa.2.2))
theorem impl_Problem_point.mono: ∀a0 a1 a2 k,LeO (impl_Problem_point.f k a0 a1 a2) (impl_Problem_point.f (k+1) a0 a1 a2):=by
 intro a0 a1 a2 k
 unfold impl_Problem_point.f
 repeat' first | (with_reducible first | exact impl_Problem_solve.mono _ _ _ _ _ | exact LeO.refl _ | exact LeO.none _ | refine LeO.ite ?_ ?_ | refine LeO.bind ?_ (fun _=>?_)) | exact impl_Problem_solve.mono _ _ _ _ _ | exact LeO.none _ | refine LeO.ite ?_ ?_ | refine LeO.bind ?_ (fun _=>?_)
theorem impl_Problem_point.calls (k:Nat) (aj:Option Addr) (ak:Nat) (ae:List (List Int)) (ag:Option Addr) (ah:Nat) (aa:List Int) (a1:Int) (r1:List Int) (r2:Int) (r3:Bool) (w:World) (au:Kd.C (Kd.slice 2 (Kd.int .i64)) w aj ae.length ae) (av:ae.length≤ak) (aw:Kd.C (Kd.int .i64) w ag aa.length aa) (ax:aa.length≤ah) (h:impl_Problem_point.f k ae aa a1=some (r1,r2,r3)):
  Calls Tryz.prog 50 #[.agg #[.slice aj ae.length ak, .slice ag aa.length ah], .int .i64 a1] w fun e w'=> ∃v0_:Value,e= .returned (.tuple #[v0_, .int .i64 r2, .bool r3])∧Kd.R (Kd.int .i64) 2 w' w.heap.size (fun _=>True) v0_ r1∧Below w.heap.size w w':=by
 have hu34:=Tryz.underlying34;have HR0_0:=q_ au;have HC0_0:=q_ av;clear au av;have HR0_1:=q_ aw;have HC0_1:=q_ ax;clear aw ax;have HB:=q_ (Below.refl w.heap.size w);have H:((impl_Problem_solve.f k ae aa a1 aa).bind fun aq=>(some (aq.1,aq.2.1,aq.2.2)))=some (r1,r2,r3):=h;clear h;replace H:=Option.bind_eq_some_iff.mp H;obtain⟨⟨ay,az,aA⟩,A30,H⟩:=H;replace H:(some (ay,az,aA))=some (r1,r2,r3):=H;have A3:=q_ A30;clear A30;simp only [Option.some.injEq,Prod.mk.injEq] at H;obtain⟨rfl,rfl,rfl⟩:=H
 go_enter Tryz.func50,Tryz.ntmps50
 go_wp2_with (first | ((with_reducible refine gate_dst (N:=2) rfl ?_);refine be_ 2 #[.slice aj ae.length ak, .slice ag aa.length ah] 34 ?_;intro ai hg w4 hbox hb;have af:=q_ (hbox);have aU:=q_ ((by rw [hg];exact bz_:w.heap.size≤ai));have aV:=q_ ((by rw [hg];exact bz_:w.heap.size≤ai));replace HB:=q_ (bs_ hb);clear hb hbox hg;have aM:=cz_ af 0;have aN:=cz_ af 1;have aQ:=blk_frozen af.out 0;have aT:=blk_frozen af.out 1) | ((with_reducible refine gate_callee (f:=84) rfl ?_);refine gL_ 11 Tryz.func84 #[.agg #[.slice aj ae.length ak, .slice ag aa.length ah], .int .i64 a1, .slice ag aa.length ah] ?_;(with_reducible refine(impl_Problem_solve.calls k _ _ ae _ _ aa a1 _ _ aa ay az aA _ ?aC ?aD ?aG ?aH ?aI ?aJ A3.out).mono ?_);(case aC=>exact cb_ HR0_0.out HB.out);(case aD=>exact HC0_0.out);(case aG=>exact cb_ HR0_1.out HB.out);(case aH=>exact HC0_1.out);(case aI=>exact cb_ HR0_1.out HB.out);(case aJ=>exact HC0_1.out);rintro e w6 ⟨aW,rfl,ho0,hb⟩;refine⟨_,rfl,?_⟩;have aK:=q_ (Kd.R_lower ho0 bz_);replace af:=q_ (bb_ af.out hb);replace HB:=q_ (bs_ hb);(try clear hb);(try clear ho0)))
 go_ret3
 exact⟨_,by first | rfl | (simp [errW_none,errW_some] <;> rfl) | (simp [*,errW_none,errW_some] <;> rfl),ro_ aK.out,hb_⟩
def spec_l01Point.l0:Nat→List Int→Int→List (S58)→Int→Option ((List (S58)) × Bool)
 | 0,_,_,_,_=>none
 | k+1,x6,x7,x8,x9=>if x9 < (x6.length:Int) then(if 0≤x9 then((spec_l01Frac.f k (rd x6 x9) x7).bind fun aa=>(if x8.length < 8796093022208 then(spec_l01Point.l0 k x6 x7 (x8++ [(⟨aa.1,aa.2⟩:S58)]) (wrap64 (x9+1))) else(none))) else(none)) else(some (x8,true))
def spec_l01Point.f (k:Nat) (ae:List (List Int)) (af:List Int) (a1:Int):Option ((List (S58)) × Bool):=(spec_l01Columns.f k ae a1).bind fun ag=>((spec_l01Solve.f k ag af).bind fun aa=>(if aa.2=0 then(some (([]:List (S58)),false)) else(spec_l01Point.l0 k aa.1 aa.2 (([]:List (S58))) 0)))
theorem spec_l01Point.mono_l: ∀k,(∀y0 y1 y2 y3,LeO (spec_l01Point.l0 k y0 y1 y2 y3) (spec_l01Point.l0 (k+1) y0 y1 y2 y3))
 | 0=>fun _ _ _ _ r h=>by simp [spec_l01Point.l0] at h
 | k+1=>by
  have ih0:=spec_l01Point.mono_l k
  intros;unfold spec_l01Point.l0;repeat' first | (with_reducible first | exact ih0 _ _ _ _ | exact spec_l01Columns.mono _ _ _ | exact spec_l01Frac.mono _ _ _ | exact spec_l01Solve.mono _ _ _ | exact LeO.refl _ | exact LeO.none _ | refine LeO.ite ?_ ?_ | refine LeO.bind ?_ (fun _=>?_)) | exact ih0 _ _ _ _ | exact spec_l01Columns.mono _ _ _ | exact spec_l01Frac.mono _ _ _ | exact spec_l01Solve.mono _ _ _ | exact LeO.none _ | refine LeO.ite ?_ ?_ | refine LeO.bind ?_ (fun _=>?_)
theorem spec_l01Point.mono: ∀a0 a1 a2 k,LeO (spec_l01Point.f k a0 a1 a2) (spec_l01Point.f (k+1) a0 a1 a2):=by
 intro a0 a1 a2 k
 have ih0:=spec_l01Point.mono_l k
 unfold spec_l01Point.f
 repeat' first | (with_reducible first | exact ih0 _ _ _ _ | exact spec_l01Columns.mono _ _ _ | exact spec_l01Frac.mono _ _ _ | exact spec_l01Solve.mono _ _ _ | exact LeO.refl _ | exact LeO.none _ | refine LeO.ite ?_ ?_ | refine LeO.bind ?_ (fun _=>?_)) | exact ih0 _ _ _ _ | exact spec_l01Columns.mono _ _ _ | exact spec_l01Frac.mono _ _ _ | exact spec_l01Solve.mono _ _ _ | exact LeO.none _ | refine LeO.ite ?_ ?_ | refine LeO.bind ?_ (fun _=>?_)
def spec_l01Point.T1:Bool × List (List Nat × List Nat):=(true, [([], []),([0], [0]),([], []),([1,2], [1,2]),([], []),([4], [4]),([3,5,3], [3,5]),([6], [6]),([7], [7]),([7], [7]),([8,6,0,1,2,3,4,5,6,7,8], [8]),([9,10,0,1,2,3,4,5,6,7,8,9,10], [9])])
def spec_l01Point.B1:List Nat:= [0,1,0,7,0,16,63,127,255,255,511,2047]
theorem spec_l01Point.tab1:rtab .any (opsOf Tryz.f51 1)=spec_l01Point.T1:=by kernel_rfl
theorem spec_l01Point.bits1:waitsOk spec_l01Point.T1.2 spec_l01Point.B1=true:=by kernel_rfl
theorem spec_l01Point.calls (k:Nat) (aq:Option Addr) (au:Nat) (ah:List (List Int)) (av:Option Addr) (aw:Nat) (af:List Int) (a1:Int) (r1:List (S58)) (r2:Bool) (w:World) (aQ:Kd.C (Kd.slice 2 (Kd.int .i64)) w aq ah.length ah) (aT:ah.length≤au) (aU:Kd.C (Kd.int .i64) w av af.length af) (aV:af.length≤aw) (h:spec_l01Point.f k ah af a1=some (r1,r2)):
  Calls Tryz.prog 51 #[.agg #[.slice aq ah.length au, .slice av af.length aw], .int .i64 a1] w fun e w'=> ∃v0_:Value,e= .returned (.tuple #[v0_, .bool r2])∧Kd.R k58 58 w' w.heap.size (fun _=>True) v0_ r1∧Below w.heap.size w w':=by
 have hu34:=Tryz.underlying34;have HR0_0:=q_ aQ;have HC0_0:=q_ aT;clear aQ aT;have HR0_1:=q_ aU;have HC0_1:=q_ aV;clear aU aV;have HB:=q_ (Below.refl w.heap.size w);have H:((spec_l01Columns.f k ah a1).bind fun ax=>((spec_l01Solve.f k ax af).bind fun ay=>(if ay.2=0 then(some (([]:List (S58)),false)) else(spec_l01Point.l0 k ay.1 ay.2 (([]:List (S58))) 0))))=some (r1,r2):=h;clear h;replace H:=Option.bind_eq_some_iff.mp H;obtain⟨ax,A30,H⟩:=H;replace H:((spec_l01Solve.f k ax af).bind fun ay=>(if ay.2=0 then(some (([]:List (S58)),false)) else(spec_l01Point.l0 k ay.1 ay.2 (([]:List (S58))) 0)))=some (r1,r2):=H;have A3:=q_ A30;clear A30;replace H:=Option.bind_eq_some_iff.mp H;obtain⟨⟨aj,ai⟩,A40,H⟩:=H;replace H:(if ai=0 then(some (([]:List (S58)),false)) else(spec_l01Point.l0 k aj ai (([]:List (S58))) 0))=some (r1,r2):=H;have A4:=q_ A40;clear A40
 by_cases c5:ai=0
 ·rw [if_pos c5] at H;have c5b0:=e1_ c5;have c5b1:=e2_ c5;clear c5;simp only [Option.some.injEq,Prod.mk.injEq] at H;obtain⟨rfl,rfl⟩:=H
  go_enter Tryz.func51,Tryz.ntmps51
  try go_wp2_with (first | ((with_reducible refine gate_dst (N:=2) rfl ?_);refine be_ 2 #[.slice aq ah.length au, .slice av af.length aw] 34 ?_;intro ak hg w6 hbox hb;have aa:=q_ (hbox);have ba:=q_ ((by rw [hg];exact bz_:w.heap.size≤ak));have bf:=q_ ((by rw [hg];exact bz_:w.heap.size≤ak));replace HB:=q_ (bs_ hb);clear hb hbox hg))
  replace aa:=q_ (blk_drew aa.out);replace HB:=q_ (below_drew1 HB.out);refine st_ (n:=12) (S:=fun w'=>w'.cell? ⟨ak,0,none⟩=some (.slice aq ah.length au)∧w'.cell? ⟨ak,1,none⟩=some (.slice av af.length aw)) (ds:= []) ⟨(blk_cell aa.out 0).trans rfl,(blk_cell aa.out 1).trans rfl⟩ (fun hHeld=>?_);refine with_tabW spec_l01Point.tab1 spec_l01Point.bits1 (fun HT_ HW_=>?_)
  generalize w6.drew=w7 at aa HB hHeld ⊢
  refine pu_ 0 11 ?_;refine pu_ 2 13 ?_;refine pu_ 4 15 ?_;refine tk_ 1 12 ?_;refine tk_ 5 16 ?_
  refine on_ 3 (some 14) (fun K hK=>?_)
  refine goes_ Tryz.func86 (by kernel_rfl) rfl #[.slice aq ah.length au, .int .i64 a1] (by rfl) rfl rfl (by(try simp only [List.map_toArray,List.map_cons,List.map_nil]);first | done | rfl | (simp only [List.length_drop,List.length_take];rfl)) ?_
  with_reducible refine(spec_l01Columns.calls k _ _ ah a1 ax _ ?az ?aA A3.out).mono ?_
  (case az=>exact cb_ HR0_0.out HB.out)
  (case aA=>exact HC0_0.out)
  rintro e w8 ⟨bu,rfl,ho0,hb⟩;refine⟨_,rfl,?_⟩
  have ae:=q_ (Kd.S_lower ho0 bz_);replace aa:=q_ (bb_ aa.out hb);replace HB:=q_ (bs_ hb);(try clear hb)
  
  (try clear hk)
  
  (try clear ho0);obtain⟨bC,bD,bq⟩:=Kd.S_slice ae.out
  (first | subst bq | (injection bq with f1_ f2_ f3_;have f4_:=f1_.symm;have f5_:=f3_.symm;clear f1_ f2_ f3_;subst f4_;subst f5_))
  refine hK.out _ _ ⟨(blk_cell aa.out 0).trans rfl,(blk_cell aa.out 1).trans rfl⟩ (fun hHeld=>?_)
  clear hK K;refine norm_ (a':=?_) ?_ ?_
  rotate_left
  ·show Act.put _ (some 14) _=_
   simp only [Act.put,List.setIfInBounds_toArray,List.set_cons_zero,List.set_cons_succ,i64_w,i32_w]
   rfl
  refine on_ 6 (some 17) (fun K hK=>?_)
  refine goes_ Tryz.func85 (by kernel_rfl) rfl #[.slice bC ax.length bD, .slice av af.length aw] (by rfl) rfl rfl (by(try simp only [List.map_toArray,List.map_cons,List.map_nil]);first | done | rfl | (simp only [List.length_drop,List.length_take];rfl)) ?_
  with_reducible refine(spec_l01Solve.calls k _ _ ax _ _ af aj ai _ ?az ?aA ?aM ?aN A4.out).mono ?_
  (case az=>repeat (first | exact(Kd.S_reads' ae.out).2.2 | (with_reducible refine Kd.C_alloc ?_ _) | (with_reducible refine Kd.C_drewN ?_ _) | (with_reducible refine Kd.C_drew ?_)))
  (case aA=>exact(Kd.S_reads' ae.out).2.1)
  (case aM=>exact cb_ HR0_1.out HB.out)
  (case aN=>exact HC0_1.out)
  rintro e w10 ⟨aX,rfl,ho0,hb⟩;refine⟨_,rfl,?_⟩
  replace ae:=q_ (Kd.S_elder' (so_ ae.out) (Kd.R_base ho0) hb);have aJ:=q_ (Kd.R_lower ho0 bz_);replace aa:=q_ (bb_ aa.out hb);replace HB:=q_ (bs_ hb);(try clear hb)
  
  (try clear hk)
  
  (try clear ho0);refine hK.out _ _ ⟨(blk_cell aa.out 0).trans rfl,(blk_cell aa.out 1).trans rfl⟩ (fun hHeld=>?_)
  clear hK K;refine norm_ (a':=?_) ?_ ?_
  rotate_left
  ·show Act.put _ (some 17) _=_
   simp only [Act.put,List.setIfInBounds_toArray,List.set_cons_zero,List.set_cons_succ,i64_w,i32_w]
   rfl
  refine pu_ 7 10 ?_;refine pu_ 8 18 ?_;refine pu_ 9 19 ?_;refine pu_ 10 6 ?_;refine pu_ 11 7 ?_
  refine done_ (done_of HT_.out (by kernel_rfl)) ?_
  try go_wp2
  go_ret2
  exact⟨_,by first | rfl | (simp [errW_none,errW_some] <;> rfl) | (simp [*,errW_none,errW_some] <;> rfl),by first | exact Kd.R_nil _ _ _ _ _ | exact Kd.N_nil _ _ _ _ _ | exact Kd.V_nil _ _ _ _ _ | exact Kd.Q_nil _ _ _ _ _ | exact Kd.S_nil _ _ _ _ _,hb_⟩
 ·rw [if_neg c5] at H;have c5b0:=e3_ c5;have c5b1:=e4_ c5;obtain⟨aY,hy⟩: ∃y_:List (S58),y_=(([]:List (S58))):=⟨_,rfl⟩
  replace H:(spec_l01Point.l0 k aj ai aY 0)=some (r1,r2):=hh_;have aW:=q_ hy;clear hy;have H':=q_ H;clear H
  go_enter Tryz.func51,Tryz.ntmps51
  try go_wp2_with (first | ((with_reducible refine gate_dst (N:=2) rfl ?_);refine be_ 2 #[.slice aq ah.length au, .slice av af.length aw] 34 ?_;intro ak hg w11 hbox hb;have aa:=q_ (hbox);have ba:=q_ ((by rw [hg];exact bz_:w.heap.size≤ak));have bf:=q_ ((by rw [hg];exact bz_:w.heap.size≤ak));replace HB:=q_ (bs_ hb);clear hb hbox hg))
  replace aa:=q_ (blk_drew aa.out);replace HB:=q_ (below_drew1 HB.out);refine st_ (n:=12) (S:=fun w'=>w'.cell? ⟨ak,0,none⟩=some (.slice aq ah.length au)∧w'.cell? ⟨ak,1,none⟩=some (.slice av af.length aw)) (ds:= []) ⟨(blk_cell aa.out 0).trans rfl,(blk_cell aa.out 1).trans rfl⟩ (fun hHeld=>?_);refine with_tabW spec_l01Point.tab1 spec_l01Point.bits1 (fun HT_ HW_=>?_)
  generalize w11.drew=w12 at aa HB hHeld ⊢
  refine pu_ 0 11 ?_;refine pu_ 2 13 ?_;refine pu_ 4 15 ?_;refine tk_ 1 12 ?_;refine tk_ 5 16 ?_
  refine on_ 3 (some 14) (fun K hK=>?_)
  refine goes_ Tryz.func86 (by kernel_rfl) rfl #[.slice aq ah.length au, .int .i64 a1] (by rfl) rfl rfl (by(try simp only [List.map_toArray,List.map_cons,List.map_nil]);first | done | rfl | (simp only [List.length_drop,List.length_take];rfl)) ?_
  with_reducible refine(spec_l01Columns.calls k _ _ ah a1 ax _ ?az ?aA A3.out).mono ?_
  (case az=>exact cb_ HR0_0.out HB.out)
  (case aA=>exact HC0_0.out)
  rintro e w13 ⟨bu,rfl,ho0,hb⟩;refine⟨_,rfl,?_⟩
  have ae:=q_ (Kd.S_lower ho0 bz_);replace aa:=q_ (bb_ aa.out hb);replace HB:=q_ (bs_ hb);(try clear hb)
  
  (try clear hk)
  
  (try clear ho0);obtain⟨bv,bw,aZ⟩:=Kd.S_slice ae.out
  (first | subst aZ | (injection aZ with f1_ f2_ f3_;have f4_:=f1_.symm;have f5_:=f3_.symm;clear f1_ f2_ f3_;subst f4_;subst f5_))
  refine hK.out _ _ ⟨(blk_cell aa.out 0).trans rfl,(blk_cell aa.out 1).trans rfl⟩ (fun hHeld=>?_)
  clear hK K;refine norm_ (a':=?_) ?_ ?_
  rotate_left
  ·show Act.put _ (some 14) _=_
   simp only [Act.put,List.setIfInBounds_toArray,List.set_cons_zero,List.set_cons_succ,i64_w,i32_w]
   rfl
  refine on_ 6 (some 17) (fun K hK=>?_)
  refine goes_ Tryz.func85 (by kernel_rfl) rfl #[.slice bv ax.length bw, .slice av af.length aw] (by rfl) rfl rfl (by(try simp only [List.map_toArray,List.map_cons,List.map_nil]);first | done | rfl | (simp only [List.length_drop,List.length_take];rfl)) ?_
  with_reducible refine(spec_l01Solve.calls k _ _ ax _ _ af aj ai _ ?az ?aA ?aM ?aN A4.out).mono ?_
  (case az=>repeat (first | exact(Kd.S_reads' ae.out).2.2 | (with_reducible refine Kd.C_alloc ?_ _) | (with_reducible refine Kd.C_drewN ?_ _) | (with_reducible refine Kd.C_drew ?_)))
  (case aA=>exact(Kd.S_reads' ae.out).2.1)
  (case aM=>exact cb_ HR0_1.out HB.out)
  (case aN=>exact HC0_1.out)
  rintro e w15 ⟨aX,rfl,ho0,hb⟩;refine⟨_,rfl,?_⟩
  replace ae:=q_ (Kd.S_elder' (so_ ae.out) (Kd.R_base ho0) hb);have aJ:=q_ (Kd.R_lower ho0 bz_);replace aa:=q_ (bb_ aa.out hb);replace HB:=q_ (bs_ hb);(try clear hb)
  
  (try clear hk)
  
  (try clear ho0);refine hK.out _ _ ⟨(blk_cell aa.out 0).trans rfl,(blk_cell aa.out 1).trans rfl⟩ (fun hHeld=>?_)
  clear hK K;refine norm_ (a':=?_) ?_ ?_
  rotate_left
  ·show Act.put _ (some 17) _=_
   simp only [Act.put,List.setIfInBounds_toArray,List.set_cons_zero,List.set_cons_succ,i64_w,i32_w]
   rfl
  refine pu_ 7 10 ?_;refine pu_ 8 18 ?_;refine pu_ 9 19 ?_;refine pu_ 10 6 ?_;refine pu_ 11 7 ?_
  refine done_ (done_of HT_.out (by kernel_rfl)) ?_
  try go_wp2_with (first | ((with_reducible refine gate_dst (N:=22) rfl ?_);refine Kd.R_lit k58 _ 58 ?hg (N:=22) ?hd (xs:=([]:List (S58))) (inner:= []) (ok:=fun _=>True) (okp:=fun _=>True) ?hr ?hp (fun _ hk=>hk) trivial (Below.refl _ _) (Nat.le_refl _) (by simp) ?_;(case hd=>rfl);(case hg=>rfl);(case hr=>first | (go_simp;done) | (go_simp;rfl));(case hp=>exact(Reps.none _ _));intro bF w16 aK hb hg_ hnew_;clear hg_ hnew_;(first | rw [← aW.out] at aK | (simp only [Int.reduceToNat] at aK;rw [← aW.out] at aK));replace ae:=q_ (Kd.S_below (so_ ae.out) hb);replace aJ:=q_ (rb_ aJ.out hb);have bg:=q_ (Kd.R_lower aK bz_);replace aa:=q_ (bb_ aa.out hb);replace HB:=q_ (bs_ hb);clear hb aK))
  go_loopg [8,9] k (fun kq v8 v9 w'=> ∃(aC:List (S58)) (ag:Int),v9= .int .i64 ag∧Aside0 (spec_l01Point.l0 kq aj ai aC ag=some (r1,r2))∧Aside0 (kq≤k)∧Aside0 (Kd.R (Kd.int .i64) 2 w' w.heap.size (fun _=>True) aX aj)∧Aside0 (Kd.R k58 58 w' w.heap.size (fun _=>True) v8 aC)∧Aside0 (w'.heap[ak]?=some (.cells #[(.slice aq ah.length au),(.slice av af.length aw)] 34 (0,0)))∧Aside0 (Below w.heap.size w w'))
  case atStart=>exact⟨(aY),(0),rs_,H',⟨Nat.le_refl _⟩,⟨ro_ aJ.out⟩,⟨ro_ bg.out⟩,⟨bk_⟩,⟨hb_⟩⟩
  case round=>
   clear H';(try clear c5);(try clear c5b0);(try clear c5b1);obtain⟨aC,ag,rfl,HA,HK1,aD,aG,aa,HB⟩:=hrel;cases gk with
   | zero=>exact absurd HA.out (by simp [spec_l01Point.l0])
   | succ k1=>
    have H:=HA.out;clear HA;simp only [spec_l01Point.l0] at H
    by_cases c18:ag < (aj.length:Int)
    ·rw [if_pos c18] at H;have c18b0:=decide_eq_true c18;clear c18
     by_cases c19:0≤ag
     ·rw [if_pos c19] at H;have c19b0:=decide_eq_true c19;clear c19;replace H:=Option.bind_eq_some_iff.mp H;obtain⟨⟨aH,aI⟩,A200,H⟩:=H;replace H:(if aC.length < 8796093022208 then(spec_l01Point.l0 k1 aj ai (aC++ [(⟨aH,aI⟩:S58)]) (wrap64 (ag+1))) else(none))=some (r1,r2):=H;have A20:=q_ A200;clear A200
      by_cases c21:aC.length < 8796093022208
      ·rw [if_pos c21] at H;have bh:=q_ c21;clear c21;obtain⟨a9,hy⟩: ∃y_:List (S58),y_=(aC++ [(⟨aH,aI⟩:S58)]):=⟨_,rfl⟩
       replace H:(spec_l01Point.l0 k1 aj ai a9 (wrap64 (ag+1)))=some (r1,r2):=hh_;have bi:=q_ hy;clear hy;have H':=q_ H;clear H;obtain⟨bG,bH,bz⟩:=Kd.R_slice aD.out;subst bz;have p496:0≤(ag:Int):=od_;have q496:ag < (aj.length:Int):=od_;obtain⟨bE,e496,hx496_0⟩:=Kd.at_int (Kd.R_reads' aD.out).2.2 ag p496 q496;cases e496
       replace p496:=eq_true p496;replace q496:=eq_true q496
       go_wp2_with (first | ((with_reducible refine gate_callee (f:=67) rfl ?_);refine gL_ 35 Tryz.func67 #[.int .i64 (rd aj ag), .int .i64 ai] ?_;(with_reducible refine(spec_l01Frac.calls k1 (rd aj ag) ai aH aI _ A20.out).mono ?_);rintro e w23 ⟨rfl,hb⟩;refine⟨_,rfl,?_⟩;replace aD:=q_ (rb_ aD.out hb);replace aG:=q_ (rb_ aG.out hb);replace aa:=q_ (bb_ aa.out hb);replace HB:=q_ (bs_ hb);(try clear hb);(try clear hk)) | ((with_reducible refine gate_builtin (b:= .append) (xs:= #[.tmp 29, .tmp 36]) rfl ?_);at_builtin;refine Kd.R_append k58 (w0:=w) w.heap.size rfl (.tmp 29) (.tmp 36) 49 58 (.agg #[(.int .i64 0),(.int .i64 0)]) 16 rfl Tryz.underlying49 info58 rfl (by decide) (by omega) u8 aC (⟨aH,aI⟩:S58) [.int .i64 aH, .int .i64 aI] (fun _=>True) (fun _=>False) rfl rfl ?aP (fun _ hk=>hk.elim) ?aF ?aO ?aB ?aS ?aL ?_;(case aP=>exact k58_mkM _ _ _ (⟨aH,aI⟩:S58));(case aB=>exact hb_);(case aF=>exact(fun _ _=>trivial));(case aO=>exact(ro_ aG.out));(case aS=>exact bz_);(case aL=>have:=bh.out;omega);intro bI w24 ho hb hg hat;rw [← bi.out] at ho;replace aD:=q_ (Kd.R_over' (ro_ aD.out) (Kd.R_typed (ro_ aG.out)) (by decide) hg);replace aa:=q_ (bg_ aa.out hg (Kd.R_ne aG.out aa.out (by decide)));replace HB:=q_ (hb);have bk:=q_ (ho);clear aG ho hb hg hat))
       go_roundg k1
       case measure=>have:=HK1.out;omega
       case rel=>exact⟨(a9),(wrap64 (ag+1)),rs_,H',⟨by have:=HK1.out;omega⟩,⟨ro_ aD.out⟩,⟨ro_ bk.out⟩,⟨bk_⟩,⟨hb_⟩⟩
      ·rw [if_neg c21] at H;exact absurd H (by simp)
     ·rw [if_neg c19] at H;exact absurd H (by simp)
    ·rw [if_neg c18] at H;have c18b0:=decide_eq_false c18;clear c18;simp only [Option.some.injEq,Prod.mk.injEq] at H;obtain⟨rfl,rfl⟩:=H;obtain⟨bJ,bK,bA⟩:=Kd.R_slice aD.out;subst bA;go_wp2
     go_ret2
     exact⟨_,by first | rfl | (simp [errW_none,errW_some] <;> rfl) | (simp [*,errW_none,errW_some] <;> rfl),ro_ aG.out,hb_⟩
end Go.Proofs.YthmfdplckdijdaaGreat.Pr
end
section
namespace Go.Proofs.YthmfdplckdijdaaGreat.Er
open Go.RowKit Go.Proofs.YthmfdplckdijdaaGreatW.PrintWords Go.Proofs.YthmfdplckdijdaaGreatW.PrintMore Go.Proofs.YthmfdplckdijdaaGreat.Ma Go.Proofs.YthmfdplckdijdaaGreat.Pr Go.Proofs.YthmfdplckdijdaaGreat.Dt Go.Proofs.YthmfdplckdijdaaGreat.Bz Go.Proofs.YthmfdplckdijdaaGreat.Un Go.Proofs.YthmfdplckdijdaaGreat.Cz Go.Proofs.YthmfdplckdijdaaGreat.Pb Go.Proofs.YthmfdplckdijdaaGreat.Mn Go.Proofs.YthmfdplckdijdaaGreat.Sv
open Go.Proofs.YthmfdplckdijdaaGreat.Fr (gc spec_gcd Big)
abbrev T:=S58
def fr (p d:Int):T:=⟨Int.tdiv p (gc p d),Int.tdiv d (gc p d)⟩
def Sm (x:Int):Prop:= -1920000000≤x∧x≤1920000000
theorem fr_facts {p d:Int} (hp:Sm p) (h1:1≤d) (hd:Sm d): ∃g:Int,1≤g∧gc p d=g∧p=g*(fr p d).f0∧d=g*(fr p d).f1∧1≤(fr p d).f1∧(fr p d).f1≤1920000000∧Sm (fr p d).f0:=by
 unfold Sm at*
 have h0:0 < Int.gcd p d:=Int.gcd_pos_of_ne_zero_right p (by omega)
 have hg:1≤gc p d:=by unfold gc;omega
 have d1:gc p d ∣ p:=Int.gcd_dvd_left p d
 have d2:gc p d ∣ d:=Int.gcd_dvd_right p d
 generalize hgg:gc p d=g at*
 obtain⟨a,ha⟩:=d1
 obtain⟨b,hb⟩:=d2
 have e1:Int.tdiv p g=a:=by rw [ha];exact Int.mul_tdiv_cancel_left a (by omega)
 have e2:Int.tdiv d g=b:=by rw [hb];exact Int.mul_tdiv_cancel_left b (by omega)
 have fb:(fr p d).f0=a∧(fr p d).f1=b:=by unfold fr;rw [hgg];exact⟨e1,e2⟩
 rw [fb.1,fb.2]
 have b1:1≤b:=by
  by_cases q:1≤b
  ·exact q
  ·have:g*b≤0:=Int.mul_nonpos_of_nonneg_of_nonpos (by omega) (by omega)
   omega
 have b2:b≤d:=by
  have:1*b≤g*b:=Int.mul_le_mul_of_nonneg_right hg (by omega)
  omega
 have a1:a.natAbs≤p.natAbs:=by
  rw [ha,Int.natAbs_mul]
  have:1*a.natAbs≤g.natAbs*a.natAbs:=Nat.mul_le_mul_right _ (by omega)
  omega
 exact⟨g,hg,rfl,ha,hb,b1,by omega,by omega⟩
theorem fr_neg {p d:Int} (hp:Sm p) (h1:1≤d) (hd:Sm d):(fr p d).f0 < 0↔p < 0:=by
 obtain⟨g,hg,_,e1,_⟩:=fr_facts hp h1 hd
 generalize (fr p d).f0=a at e1
 subst e1
 constructor
 ·intro h;exact Int.mul_neg_of_pos_of_neg (by omega) h
 ·intro h
  by_cases q:a < 0
  ·exact q
  ·have:0≤g*a:=Int.mul_nonneg (by omega) (by omega)
   omega
theorem spec_frac {x D:Int} (hx:Sm x) (hD:Sm D) (h0:D≠0):Ev (fun k=>spec_l01Frac.f k x D) ((fr (sgn D*x) (if D < 0 then - D else D)).f0,(fr (sgn D*x) (if D < 0 then - D else D)).f1):=by
 unfold spec_l01Frac.f
 have hh:=hx;have hDD:=hD
 unfold Sm at hh hDD
 by_cases c:D < 0
 ·have e:sgn D*x= -x:=by unfold sgn;rw [if_pos c];omega
  rw [e,if_pos c]
  obtain⟨g,hg,hgc,e1,e2,e3,e4,e5⟩:=fr_facts (p:= -x) (d:= -D) (by unfold Sm;omega) (by omega) (by unfold Sm;omega)
  unfold Sm at e5
  refine evpos c ?_
  rw [w64 (x:= -x) (by omega) (by omega),w64 (x:= -D) (by omega) (by omega)]
  refine evbind (spec_gcd (-x) (-D) (by unfold Big;omega) (by unfold Big;omega)) ?_
  rw [hgc]
  refine evneg (by omega) ?_
  have f0:Int.tdiv (-x) g=(fr (-x) (-D)).f0:=by unfold fr;rw [hgc]
  have f1:Int.tdiv (-D) g=(fr (-x) (-D)).f1:=by unfold fr;rw [hgc]
  rw [f0,f1,w64 (x:=(fr (-x) (-D)).f0) (by omega) (by omega),w64 (x:=(fr (-x) (-D)).f1) (by omega) (by omega)]
  exact evc rfl
 ·have e:sgn D*x=x:=by unfold sgn;rw [if_neg c,if_pos (by omega)];omega
  rw [e,if_neg c]
  obtain⟨g,hg,hgc,e1,e2,e3,e4,e5⟩:=fr_facts (p:=x) (d:=D) hx (by omega) hD
  unfold Sm at e5
  refine evneg c ?_
  refine evbind (spec_gcd x D (by unfold Big;omega) (by unfold Big;omega)) ?_
  rw [hgc]
  refine evneg (by omega) ?_
  have f0:Int.tdiv x g=(fr x D).f0:=by unfold fr;rw [hgc]
  have f1:Int.tdiv D g=(fr x D).f1:=by unfold fr;rw [hgc]
  rw [f0,f1,w64 (x:=(fr x D).f0) (by omega) (by omega),w64 (x:=(fr x D).f1) (by omega) (by omega)]
  exact evc rfl
structure St where
 f:Int
 la:Int
 le:Int
 al:Nat
def nx (P:Nat→Int) (i:Nat) (σ:St):St:=if P i < 0 then⟨if σ.f < 0 then(i:Int) else σ.f,i,if σ.le < 0 then(i:Int) else if P i < P σ.le.toNat then(i:Int) else σ.le,σ.al ||| 2 ^ i⟩ else σ
def st (P:Nat→Int):Nat→St
 | 0=>⟨-1, -1, -1,0⟩
 | i+1=>nx P i (st P i)
structure Inv (P:Nat→Int) (i:Nat) (σ:St):Prop where
 none_:σ.f < 0→σ.f= -1∧σ.la= -1∧σ.le= -1∧σ.al=0∧ ∀j,j < i→ ¬ P j < 0
 some_: ¬ σ.f < 0→σ.f < i∧0≤σ.la∧σ.la < i∧0≤σ.le∧σ.le < i∧σ.al≠0
 lt:σ.al < 2 ^ i
theorem st_inv (P:Nat→Int): ∀i,Inv P i (st P i)
 | 0=>⟨fun _=>⟨rfl,rfl,rfl,rfl,fun j hj=>by omega⟩,fun h=>absurd (show (-1:Int) < 0 by decide) h,show 0 < 2 ^ 0 by decide⟩
 | i+1=>by
  have h:=st_inv P i
  show Inv P (i+1) (nx P i (st P i))
  generalize st P i=σ at h ⊢
  have hp:(2:Nat) ^ (i+1)=2 ^ i+2 ^ i:=by rw [Nat.pow_succ];omega
  have hpos:0 < (2:Nat) ^ i:=Nat.pow_pos (by decide)
  have hlt:=h.lt
  unfold nx
  by_cases c:P i < 0
  ·rw [if_pos c]
   refine⟨fun q=>?_,fun q=>?_,?_⟩
   ·simp only at q
    split at q <;> omega
   ·refine⟨?_,by simp,by simp;omega,?_,?_,?_⟩
    ·simp only
     split
     ·omega
     ·next d=>have:=(h.some_ d).1;omega
    ·simp only
     split
     ·omega
     ·split <;> omega
    ·simp only
     split
     ·omega
     ·next d=>
      have hf: ¬ σ.f < 0:=fun z=>d (by have:=(h.none_ z).2.2.1;omega)
      have:=(h.some_ hf).2.2.2.2.1
      split <;> omega
    ·simp only
     have:2 ^ i≤σ.al ||| 2 ^ i:=Nat.right_le_or
     omega
   ·simp only
    exact Nat.or_lt_two_pow (by omega) (by omega)
  ·rw [if_neg c]
   refine⟨fun q=>?_,fun q=>?_,by omega⟩
   ·obtain⟨a,b,d,e,f⟩:=h.none_ q
    refine⟨a,b,d,e,fun j hj=>?_⟩
    by_cases z:j=i
    ·subst z;exact c
    ·exact f j (by omega)
   ·obtain⟨a,b,d,e,f,g⟩:=h.some_ q
    exact⟨by omega,b,by omega,e,by omega,g⟩
theorem or_pow {A i:Nat} (hA:A < 2 ^ i) (hi:i≤5):Go.bits .or .i64 (A:Int) (shl .i64 1 (i:Int))=((A ||| 2 ^ i:Nat):Int):=by
 rw [shl_one (by omega) (by omega),Int.toNat_natCast]
 have h1:(2:Nat) ^ i < 2 ^ 63:=Nat.pow_lt_pow_right (by decide) (by omega)
 exact or_nat (by omega) h1
end Go.Proofs.YthmfdplckdijdaaGreat.Er
end
section
namespace Go.Proofs.YthmfdplckdijdaaGreat.Er
open Go.RowKit Go.Proofs.YthmfdplckdijdaaGreatW.PrintWords Go.Proofs.YthmfdplckdijdaaGreatW.PrintMore Go.Proofs.YthmfdplckdijdaaGreat.Ma Go.Proofs.YthmfdplckdijdaaGreat.Pr Go.Proofs.YthmfdplckdijdaaGreat.Dt Go.Proofs.YthmfdplckdijdaaGreat.Bz Go.Proofs.YthmfdplckdijdaaGreat.Un Go.Proofs.YthmfdplckdijdaaGreat.Cz Go.Proofs.YthmfdplckdijdaaGreat.Pb Go.Proofs.YthmfdplckdijdaaGreat.Mn Go.Proofs.YthmfdplckdijdaaGreat.Sv
def ab (d:Int):Int:=if d < 0 then - d else d
section
variable {n:Nat} {l:List (List Int)} (h:Sq n l) (hn:n≤5) (s:Int) (x:List Int) (hx: ∀r,r < n→(x.getD r 0).natAbs≤100) (hxl:x.length=n)
include h hn hx hxl
theorem P_sm (i:Nat):Sm (sgn (det n (colM (bB s) (en l)))*dc n (colM (bB s) (en l)) x i):=by
 have b:=dc_b h hn s x hx i
 have _h:=hxl
 unfold Sm sgn
 split
 ·omega
 ·split <;> omega
theorem spec_point:Ev (fun k=>spec_l01Point.f k l x s) (if det n (colM (bB s) (en l))=0 then([],false) else((List.range n).map fun i=>fr (sgn (det n (colM (bB s) (en l)))*dc n (colM (bB s) (en l)) x i) (ab (det n (colM (bB s) (en l)))),true)):=by
 unfold spec_l01Point.f
 refine evbind (spec_cols h hn s) (evbind (spec_solve h hn s x hx hxl) ?_)
 have db:=D_b h hn s
 by_cases d:det n (colM (bB s) (en l))=0
 ·rw [if_pos d];exact evpos d (evc rfl)
 ·rw [if_neg d]
  refine evneg d ?_
  have loop: ∀q i,i+q=n→Ev (fun k=>spec_l01Point.l0 k ((List.range n).map (dc n (colM (bB s) (en l)) x)) (det n (colM (bB s) (en l))) ((List.range i).map fun i=>fr (sgn (det n (colM (bB s) (en l)))*dc n (colM (bB s) (en l)) x i) (ab (det n (colM (bB s) (en l))))) i) ((List.range n).map fun i=>fr (sgn (det n (colM (bB s) (en l)))*dc n (colM (bB s) (en l)) x i) (ab (det n (colM (bB s) (en l)))),true):=by
   intro q
   induction q with
   | zero=>
    intro i hi
    obtain rfl:i=n:=by omega
    exact evstep (fun k=>by rw [spec_l01Point.l0]) (evneg (by simp) (evc rfl))
   | succ q ih=>
    intro i hi
    have nx:=ih (i+1) (by omega)
    rw [List.range_succ,List.map_append] at nx
    refine evstep (fun k=>by rw [spec_l01Point.l0]) (evpos (by simp;omega) (evpos (by omega) ?_))
    rw [rd_nat,show ((List.range n).map (dc n (colM (bB s) (en l)) x)).getD i 0=dc n (colM (bB s) (en l)) x i from by simp [show i < n by omega],w64 (x:=(i:Int)+1) (by omega) (by omega)]
    refine evbind (spec_frac (x:=dc n (colM (bB s) (en l)) x i) (D:=det n (colM (bB s) (en l))) (by unfold Sm;exact dc_b h hn s x hx i) (by unfold Sm;exact db) d) ?_
    refine evpos (by rw [List.length_map,List.length_range];omega) ?_
    exact nx
  exact loop n 0 (by omega)
end
end Go.Proofs.YthmfdplckdijdaaGreat.Er
end
section
namespace Go.Proofs.YthmfdplckdijdaaGreat.Pr
open Go.RowKit Go.Proofs.YthmfdplckdijdaaGreatW.PrintWords Go.Proofs.YthmfdplckdijdaaGreatW.PrintLast Go.Proofs.YthmfdplckdijdaaGreatW.PrintMore
attribute [local go_sem] max2_int min2_int max_two min_two max_three min_three max_four min_four
mutual
def impl_CubeOfProblem.l0:Nat→Int→Int→List (List Int)→List Int→Int→List Int→Option (Int × List Int × Int)
 | 0,_,_,_,_,_,_=>none
 | k+1,x21,x22,af,ag,ae,aa=>if x22 < x21 then((impl_Problem_point.f k af ag x22).bind fun ah=>(if ah.2.2=true then((slices_Contains_int64_int64.f k ah.1 0).bind fun ai=>(impl_CubeOfProblem.j1 k ah.1 x21 x22 ai af ag ae aa)) else(impl_CubeOfProblem.j1 k ah.1 x21 x22 true af ag ae aa))) else((impl_IsCube.f k ae aa).bind fun aj=>(if aj=true then(some (ae,aa,0)) else(some (0,([]:List Int),5))))
def impl_CubeOfProblem.j1:Nat→List Int→Int→Int→Bool→List (List Int)→List Int→Int→List Int→Option (Int × List Int × Int)
 | 0,_,_,_,_,_,_,_,_=>none
 | k+1,x6,x21,x22,x37,af,ag,ae,aa=>if x37=true then(some (0,([]:List Int),5)) else(impl_CubeOfProblem.l1 k 0 x21 x22 x6 (x6.length:Int) 0 af ag ae aa)
def impl_CubeOfProblem.l1:Nat→Int→Int→Int→List Int→Int→Int→List (List Int)→List Int→Int→List Int→Option (Int × List Int × Int)
 | 0,_,_,_,_,_,_,_,_,_,_=>none
 | k+1,x9,x21,x22,x39,x40,x41,af,ag,ae,aa=>if x41 < x40 then(if 0≤x41 then(if x41 < (x39.length:Int) then(if(rd x39 x41) < 0 then(impl_CubeOfProblem.l1 k (Go.bits .or .i64 x9 (shl .i64 1 x41)) x21 x22 x39 x40 (wrap64 (x41+1)) af ag ae aa) else(impl_CubeOfProblem.l1 k x9 x21 x22 x39 x40 (wrap64 (x41+1)) af ag ae aa)) else(none)) else(none)) else(if aa.length < 17592186044416 then(impl_CubeOfProblem.l0 k x21 (wrap64 (x22+1)) af ag ae (aa++ [x9])) else(none))
end
def impl_CubeOfProblem.f (k:Nat) (ae:List (List Int)) (aa:List Int):Option (Int × List Int × Int):=(impl_IsProblem.f ae aa).bind fun af=>(if af=true then((impl_Problem_all.f ae aa).bind fun ag=>(impl_CubeOfProblem.l0 k ag 0 ae aa (aa.length:Int) ([]:List Int))) else(some (0,([]:List Int),1)))
theorem impl_CubeOfProblem.mono_l: ∀k,(∀y0 y1 y2 y3 y4 y5,LeO (impl_CubeOfProblem.l0 k y0 y1 y2 y3 y4 y5) (impl_CubeOfProblem.l0 (k+1) y0 y1 y2 y3 y4 y5))∧(∀y0 y1 y2 y3 y4 y5 y6 y7,LeO (impl_CubeOfProblem.j1 k y0 y1 y2 y3 y4 y5 y6 y7) (impl_CubeOfProblem.j1 (k+1) y0 y1 y2 y3 y4 y5 y6 y7))∧(∀y0 y1 y2 y3 y4 y5 y6 y7 y8 y9,LeO (impl_CubeOfProblem.l1 k y0 y1 y2 y3 y4 y5 y6 y7 y8 y9) (impl_CubeOfProblem.l1 (k+1) y0 y1 y2 y3 y4 y5 y6 y7 y8 y9))
 | 0=>⟨fun _ _ _ _ _ _ r h=>by simp [impl_CubeOfProblem.l0] at h,fun _ _ _ _ _ _ _ _ r h=>by simp [impl_CubeOfProblem.j1] at h,fun _ _ _ _ _ _ _ _ _ _ r h=>by simp [impl_CubeOfProblem.l1] at h⟩
 | k+1=>by
  obtain⟨ih0,ih1,ih2⟩:=impl_CubeOfProblem.mono_l k
  refine⟨?_,?_,?_⟩<;>intros<;>(first | unfold impl_CubeOfProblem.l0 | unfold impl_CubeOfProblem.j1 | unfold impl_CubeOfProblem.l1)<;>(repeat' first | (with_reducible first | exact ih0 _ _ _ _ _ _ | exact ih1 _ _ _ _ _ _ _ _ | exact ih2 _ _ _ _ _ _ _ _ _ _ | exact impl_IsCube.mono _ _ _ | exact impl_Problem_point.mono _ _ _ _ | exact slices_Contains_int64_int64.mono _ _ _ | exact LeO.refl _ | exact LeO.none _ | refine LeO.ite ?_ ?_ | refine LeO.bind ?_ (fun _=>?_)) | exact ih0 _ _ _ _ _ _ | exact ih1 _ _ _ _ _ _ _ _ | exact ih2 _ _ _ _ _ _ _ _ _ _ | exact impl_IsCube.mono _ _ _ | exact impl_Problem_point.mono _ _ _ _ | exact slices_Contains_int64_int64.mono _ _ _ | exact LeO.none _ | refine LeO.ite ?_ ?_ | refine LeO.bind ?_ (fun _=>?_))
theorem impl_CubeOfProblem.mono: ∀a0 a1 k,LeO (impl_CubeOfProblem.f k a0 a1) (impl_CubeOfProblem.f (k+1) a0 a1):=by
 intro a0 a1 k
 obtain⟨ih0,ih1,ih2⟩:=impl_CubeOfProblem.mono_l k
 unfold impl_CubeOfProblem.f
 repeat' first | (with_reducible first | exact ih0 _ _ _ _ _ _ | exact ih1 _ _ _ _ _ _ _ _ | exact ih2 _ _ _ _ _ _ _ _ _ _ | exact impl_IsCube.mono _ _ _ | exact impl_Problem_point.mono _ _ _ _ | exact slices_Contains_int64_int64.mono _ _ _ | exact LeO.refl _ | exact LeO.none _ | refine LeO.ite ?_ ?_ | refine LeO.bind ?_ (fun _=>?_)) | exact ih0 _ _ _ _ _ _ | exact ih1 _ _ _ _ _ _ _ _ | exact ih2 _ _ _ _ _ _ _ _ _ _ | exact impl_IsCube.mono _ _ _ | exact impl_Problem_point.mono _ _ _ _ | exact slices_Contains_int64_int64.mono _ _ _ | exact LeO.none _ | refine LeO.ite ?_ ?_ | refine LeO.bind ?_ (fun _=>?_)
theorem impl_CubeOfProblem.calls (k:Nat) (aG:Option Addr) (aH:Nat) (aj:List (List Int)) (aI:Option Addr) (aJ:Nat) (aa:List Int) (r1:Int) (r2:List Int) (r3:Int) (w:World) (bT:Kd.C (Kd.slice 2 (Kd.int .i64)) w aG aj.length aj) (bU:aj.length≤aH) (bV:Kd.C (Kd.int .i64) w aI aa.length aa) (bW:aa.length≤aJ) (h:impl_CubeOfProblem.f k aj aa=some (r1,r2,r3)):
  Calls Tryz.prog 11 #[.agg #[.slice aG aj.length aH, .slice aI aa.length aJ]] w fun e w'=> ∃v1_:Value,e= .returned (.tuple #[.agg #[.int .i64 r1,v1_], .int .i64 r3])∧Kd.R (Kd.int .i64) 2 w' w.heap.size (fun _=>True) v1_ r2∧Below w.heap.size w w':=by
 have hu34:=Tryz.underlying34;have hu26:=Tryz.underlying26;have HR0_0:=q_ bT;have HC0_0:=q_ bU;clear bT bU;have HR0_1:=q_ bV;have HC0_1:=q_ bW;clear bV bW;have HB:=q_ (Below.refl w.heap.size w);have H:((impl_IsProblem.f aj aa).bind fun bL=>(if bL=true then((impl_Problem_all.f aj aa).bind fun aA=>(impl_CubeOfProblem.l0 k aA 0 aj aa (aa.length:Int) ([]:List Int))) else(some (0,([]:List Int),1))))=some (r1,r2,r3):=h;clear h;replace H:=Option.bind_eq_some_iff.mp H;obtain⟨bL,A20,H⟩:=H;replace H:(if bL=true then((impl_Problem_all.f aj aa).bind fun aA=>(impl_CubeOfProblem.l0 k aA 0 aj aa (aa.length:Int) ([]:List Int))) else(some (0,([]:List Int),1)))=some (r1,r2,r3):=H;have A2:=q_ A20;clear A20
 by_cases c3:bL=true
 ·subst c3;have H1:((impl_Problem_all.f aj aa).bind fun aA=>(impl_CubeOfProblem.l0 k aA 0 aj aa (aa.length:Int) ([]:List Int)))=some (r1,r2,r3):=by rw [if_pos rfl] at H;exact H
  clear H;have H:=H1;clear H1;replace H:=Option.bind_eq_some_iff.mp H;obtain⟨aA,A40,H⟩:=H;replace H:(impl_CubeOfProblem.l0 k aA 0 aj aa (aa.length:Int) ([]:List Int))=some (r1,r2,r3):=H;have A4:=q_ A40;clear A40;have H':=q_ H;clear H
  go_enter Tryz.func11,Tryz.ntmps11
  go_wp2_with (first | ((with_reducible refine gate_dst (N:=1) rfl ?_);refine be_ 1 #[.slice aG aj.length aH, .slice aI aa.length aJ] 34 ?_;intro au hg w5 hbox hb;have ae:=q_ (hbox);have cF:=q_ ((by rw [hg];exact bz_:w.heap.size≤au));have cG:=q_ ((by rw [hg];exact bz_:w.heap.size≤au));replace HB:=q_ (bs_ hb);clear hb hbox hg) | ((with_reducible refine gate_dst (N:=2) rfl ?_);refine be_ 2 #[.int .i64 0, .slice none 0 0] 26 ?_;intro aq hg w6 hbox hb;have ah:=q_ (hbox);have cH:=q_ ((by rw [hg];exact bz_:w.heap.size≤aq));have cI:=q_ ((by rw [hg];exact bz_:w.heap.size≤aq));have aK:=q_ ((by rw [hg];exact lt_ ae.out:au≠aq));have aM:=q_ ((by rw [hg];exact gt_ ae.out:aq≠au));replace ae:=q_ (bb_ ae.out hb);replace HB:=q_ (bs_ hb);clear hb hbox hg;have fq:=aK.out;have fu:=aM.out;have bD:=cz_ ae 0;have bE:=cz_ ae 1;have bF:=blk_frozen ae.out 0;have bG:=blk_frozen ae.out 1) | ((with_reducible refine gate_callee (f:=48) rfl ?_);refine gL_ 13 Tryz.func48 #[.agg #[.slice aG aj.length aH, .slice aI aa.length aJ]] ?_;(with_reducible refine(impl_IsProblem.calls _ _ aj _ _ aa true _ ?aN ?aQ ?aV ?aW A2.out).mono ?_);(case aN=>exact cb_ HR0_0.out HB.out);(case aQ=>exact HC0_0.out);(case aV=>exact cb_ HR0_1.out HB.out);(case aW=>exact HC0_1.out);rintro e w9 ⟨rfl,hb⟩;refine⟨_,rfl,?_⟩;replace ae:=q_ (bb_ ae.out hb);replace ah:=q_ (bb_ ah.out hb);replace HB:=q_ (bs_ hb);(try clear hb);(try clear hk);have bf:=cz_ ae 0;have bg:=cz_ ae 1;have bh:=blk_frozen ae.out 0;have bi:=blk_frozen ae.out 1) | ((with_reducible refine gate_dst (N:=4) rfl ?_);refine be_ 4 #[.int .i64 0, .slice none 0 0] 26 ?_;intro aw hg w11 hbox hb;have ai:=q_ (hbox);have ed:=q_ ((by rw [hg];exact bz_:w.heap.size≤aw));have ek:=q_ ((by rw [hg];exact bz_:w.heap.size≤aw));have aC:=q_ ((by rw [hg];exact lt_ ae.out:au≠aw));have aT:=q_ ((by rw [hg];exact gt_ ae.out:aw≠au));have aD:=q_ ((by rw [hg];exact lt_ ah.out:aq≠aw));have aU:=q_ ((by rw [hg];exact gt_ ah.out:aw≠aq));replace ae:=q_ (bb_ ae.out hb);replace ah:=q_ (bb_ ah.out hb);replace HB:=q_ (bs_ hb);clear hb hbox hg;have ep:=aT.out;have eu:=aC.out;have ez:=aU.out;have eB:=aD.out;have bk:=cz_ ai 0;have bq:=cz_ ai 1;have bu:=blk_frozen ai.out 0;have bv:=blk_frozen ai.out 1;have bw:=cz_ ae 0;have bz:=cz_ ae 1;have bA:=blk_frozen ae.out 0;have bC:=blk_frozen ae.out 1) | ((with_reducible refine gate_callee (f:=49) rfl ?_);refine gL_ 21 Tryz.func49 #[.agg #[.slice aG aj.length aH, .slice aI aa.length aJ]] ?_;(with_reducible refine(impl_Problem_all.calls _ _ aj _ _ aa aA _ ?aN ?aQ ?aV ?aW A4.out).mono ?_);(case aN=>exact Kd.C_below HR0_0.out hb_);(case aQ=>exact HC0_0.out);(case aV=>exact Kd.C_below HR0_1.out hb_);(case aW=>exact HC0_1.out);rintro e w16 ⟨rfl,hb⟩;refine⟨_,rfl,?_⟩;replace ae:=q_ (blk_below (g:=au) (o:= .cells #[.slice aG aj.length aH, .slice aI aa.length aJ] 34 (0,0)) (by(with_reducible repeat (first | refine blk_drewN ?_ _ | refine blk_drew ?_ | refine blk_alloc ?_ _));refine blk_far ?_ aC.out _;(with_reducible repeat (first | refine blk_drewN ?_ _ | refine blk_drew ?_ | refine blk_alloc ?_ _));refine blk_far ?_ aC.out _;(with_reducible repeat (first | refine blk_drewN ?_ _ | refine blk_drew ?_ | refine blk_alloc ?_ _));exact ae.out) hb);replace ah:=q_ (blk_below (g:=aq) (o:= .cells #[.int .i64 0, .slice none 0 0] 26 (0,0)) (by(with_reducible repeat (first | refine blk_drewN ?_ _ | refine blk_drew ?_ | refine blk_alloc ?_ _));refine blk_far ?_ aD.out _;(with_reducible repeat (first | refine blk_drewN ?_ _ | refine blk_drew ?_ | refine blk_alloc ?_ _));refine blk_far ?_ aD.out _;(with_reducible repeat (first | refine blk_drewN ?_ _ | refine blk_drew ?_ | refine blk_alloc ?_ _));exact ah.out) hb);replace ai:=q_ (blk_below (g:=aw) (o:= .cells #[.int .i64 (aa.length:Int), .slice none 0 0] 26 (0,0)) (by(with_reducible repeat (first | refine blk_drewN ?_ _ | refine blk_drew ?_ | refine blk_alloc ?_ _));refine blk_put (cs:= #[.int .i64 (aa.length:Int), .slice none 0 0]) ?_ 1 _ rfl;(with_reducible repeat (first | refine blk_drewN ?_ _ | refine blk_drew ?_ | refine blk_alloc ?_ _));refine blk_put (cs:= #[.int .i64 0, .slice none 0 0]) ?_ 0 _ rfl;(with_reducible repeat (first | refine blk_drewN ?_ _ | refine blk_drew ?_ | refine blk_alloc ?_ _));exact ai.out) hb);replace HB:=q_ (bs_ hb);(try clear hb);(try clear hk)))
  go_loopg [22] k (fun kq v22 w'=> ∃(az:Int) (ay:Int) (af:List Int) (ax:Value),v22= .int .i64 az∧Aside0 (impl_CubeOfProblem.l0 kq aA az aj aa (aa.length:Int) af=some (r1,r2,r3))∧Aside0 (kq≤k)∧Aside0 (Kd.R (Kd.int .i64) 2 w' w.heap.size (fun _=>True) ax af)∧Aside0 (w'.heap[au]?=some (.cells #[(.slice aG aj.length aH),(.slice aI aa.length aJ)] 34 (0,0)))∧Aside0 (w'.heap[aq]?=some (.cells #[.int .i64 ay,(.slice none 0 0)] 26 (0,0)))∧Aside0 (w'.heap[aw]?=some (.cells #[.int .i64 (aa.length:Int),ax] 26 (0,0)))∧Aside0 (Below w.heap.size w w'))
  case atStart=>exact⟨(0),(0),(([]:List Int)),(.slice none 0 0),rs_,H',⟨Nat.le_refl _⟩,⟨by first | exact Kd.R_nil _ _ _ _ _ | exact Kd.N_nil _ _ _ _ _ | exact Kd.V_nil _ _ _ _ _ | exact Kd.Q_nil _ _ _ _ _ | exact Kd.S_nil _ _ _ _ _⟩,⟨bk_⟩,⟨bk_⟩,⟨bk_⟩,⟨hb_⟩⟩
  case round=>
   clear H';(try clear c3);(try clear bf);(try clear bg);(try clear bk);(try clear bq);(try clear bw);(try clear bz);(try clear bD);(try clear bE);(try clear bh);(try clear bi);(try clear bu);(try clear bv);(try clear bA);(try clear bC);(try clear bF);(try clear bG);obtain⟨az,ay,af,ax,rfl,HA,HK1,ag,ae,ah,ai,HB⟩:=hrel;cases gk with
   | zero=>exact absurd HA.out (by simp [impl_CubeOfProblem.l0])
   | succ k1=>
    have H:=HA.out;clear HA;simp only [impl_CubeOfProblem.l0] at H
    by_cases c17:az < aA
    ·rw [if_pos c17] at H;have c17b0:=decide_eq_true c17;clear c17;replace H:=Option.bind_eq_some_iff.mp H;obtain⟨⟨av,cN,bP⟩,A180,H⟩:=H;replace H:(if bP=true then((slices_Contains_int64_int64.f k1 av 0).bind fun aZ=>(impl_CubeOfProblem.j1 k1 av aA az aZ aj aa (aa.length:Int) af)) else(impl_CubeOfProblem.j1 k1 av aA az true aj aa (aa.length:Int) af))=some (r1,r2,r3):=H;have A18:=q_ A180;clear A180;have HC19:=q_ H;clear H;have eC:=aK.out;have eD:=aM.out;have eF:=aC.out;have eG:=aT.out;have bH:=cz_ ae 0;have bI:=cz_ ae 1;have bJ:=blk_frozen ae.out 0;have bK:=blk_frozen ae.out 1
     go_upto_region 8 with (first | ((with_reducible refine gate_callee (f:=50) rfl ?_);refine gL_ 28 Tryz.func50 #[.agg #[.slice aG aj.length aH, .slice aI aa.length aJ], .int .i64 az] ?_;(with_reducible refine(impl_Problem_point.calls k1 _ _ aj _ _ aa az av cN bP _ ?aN ?aQ ?aV ?aW A18.out).mono ?_);(case aN=>exact cb_ HR0_0.out HB.out);(case aQ=>exact HC0_0.out);(case aV=>exact cb_ HR0_1.out HB.out);(case aW=>exact HC0_1.out);rintro e w23 ⟨cA,rfl,ho0,hb⟩;refine⟨_,rfl,?_⟩;have a9:=q_ (Kd.R_lower (Kd.R_new' ho0 (Kd.R_lt (ro_ ag.out))) bz_);replace ae:=q_ (bb_ ae.out hb);replace ah:=q_ (bb_ ah.out hb);replace ai:=q_ (bb_ ai.out hb);replace ag:=q_ (Kd.R_elder' (ro_ ag.out) (Kd.R_base ho0) hb);replace HB:=q_ (bs_ hb);(try clear hb);(try clear hk);(try clear ho0)))
     (try simp only [Act.put,List.setIfInBounds_toArray,List.set_cons_zero,List.set_cons_succ])
     go_cut [37] (fun v37 wc=> ∃(kq:Nat) (ba:Bool),v37= .bool ba∧Aside0 (impl_CubeOfProblem.j1 kq av aA az ba aj aa (aa.length:Int) af=some (r1,r2,r3))∧Aside0 (kq≤k1)∧Aside0 (Kd.R (Kd.int .i64) 2 wc w.heap.size (fun k_=>some k_≠(ax:Value).ownBlock) cA av)∧Aside0 (Kd.R (Kd.int .i64) 2 wc w.heap.size (fun k_=>some k_≠(cA:Value).ownBlock) ax af)∧Aside0 (wc.heap[au]?=some (.cells #[(.slice aG aj.length aH),(.slice aI aa.length aJ)] 34 (0,0)))∧Aside0 (wc.heap[aq]?=some (.cells #[.int .i64 ay,(.slice none 0 0)] 26 (0,0)))∧Aside0 (wc.heap[aw]?=some (.cells #[.int .i64 (aa.length:Int),ax] 26 (0,0)))∧Aside0 (Below w.heap.size w wc))
     case first=>
      have H:=HC19.out;clear HC19
      by_cases c24:bP=true
      ·subst c24;have H1:((slices_Contains_int64_int64.f k1 av 0).bind fun aZ=>(impl_CubeOfProblem.j1 k1 av aA az aZ aj aa (aa.length:Int) af))=some (r1,r2,r3):=by rw [if_pos rfl] at H;exact H
       clear H;have H:=H1;clear H1;replace H:=Option.bind_eq_some_iff.mp H;obtain⟨aZ,A250,H⟩:=H;replace H:(impl_CubeOfProblem.j1 k1 av aA az aZ aj aa (aa.length:Int) af)=some (r1,r2,r3):=H;have A25:=q_ A250;clear A250;have H':=q_ H;clear H;obtain⟨fw,fA,cO⟩:=Kd.R_slice a9.out;subst cO
       go_wp2_with (first | (go_at_call 41;(with_reducible refine(slices_Contains_int64_int64.calls k1 _ _ av 0 aZ _ ?aN ?aQ A25.out).mono ?_);(case aN=>repeat (first | exact(Kd.R_reads' a9.out).2.2 | (with_reducible refine Kd.C_alloc ?_ _) | (with_reducible refine Kd.C_drewN ?_ _) | (with_reducible refine Kd.C_drew ?_)));(case aQ=>exact(Kd.R_reads' a9.out).2.1);rintro e w' ⟨rfl,⟨nd,rfl⟩⟩))
       go_meet
       case rel=>exact⟨_,(aZ),rs_,H',⟨by have:=HK1.out;first | omega | exact Nat.le_refl _⟩,⟨by(with_reducible repeat (first | apply Kd.R_alloc | apply Kd.R_drewN | apply Kd.R_drew));exact Kd.R_mono a9.out (fun _ hk=>hk.2)⟩,⟨by(with_reducible repeat (first | apply Kd.R_alloc | apply Kd.R_drewN | apply Kd.R_drew));exact Kd.R_mono ag.out (fun _ hk=>hk.2)⟩,⟨bk_⟩,⟨bk_⟩,⟨bk_⟩,⟨hb_⟩⟩
      ·replace c24:=Bool.eq_false_iff.mpr c24;subst c24;have H1:(impl_CubeOfProblem.j1 k1 av aA az true aj aa (aa.length:Int) af)=some (r1,r2,r3):=by rw [if_neg (show ¬ (false=true) by decide)] at H;exact H
       clear H;have H:=H1;clear H1;have H':=q_ H;clear H;go_wp2
       go_meet
       case rel=>exact⟨_,(true),rs_,H',⟨by have:=HK1.out;first | omega | exact Nat.le_refl _⟩,⟨by(with_reducible repeat (first | apply Kd.R_alloc | apply Kd.R_drewN | apply Kd.R_drew));exact Kd.R_mono a9.out (fun _ hk=>hk.2)⟩,⟨by(with_reducible repeat (first | apply Kd.R_alloc | apply Kd.R_drewN | apply Kd.R_drew));exact Kd.R_mono ag.out (fun _ hk=>hk.2)⟩,⟨bk_⟩,⟨bk_⟩,⟨bk_⟩,⟨hb_⟩⟩
     case rest=>
      clear HC19;(try clear c3);(try clear c17b0);(try clear c24);(try clear bf);(try clear bg);(try clear bk);(try clear bq);(try clear bw);(try clear bz);(try clear bH);(try clear bI);(try clear bD);(try clear bE);(try clear bh);(try clear bi);(try clear bu);(try clear bv);(try clear bA);(try clear bC);(try clear bJ);(try clear bK);(try clear bF);(try clear bG);obtain⟨kq,ba,rfl,HA,HJ18,cB,ag,ae,ah,ai,HB⟩:=hcut;cases kq with
      | zero=>exact absurd HA.out (by simp [impl_CubeOfProblem.j1])
      | succ kj18=>
       have H:=HA.out;clear HA;simp only [impl_CubeOfProblem.j1] at H
       by_cases c27:ba=true
       ·subst c27;have H1:(some (0,([]:List Int),5))=some (r1,r2,r3):=by rw [if_pos rfl] at H;exact H
        clear H;have H:=H1;clear H1;simp only [Option.some.injEq,Prod.mk.injEq] at H;obtain⟨rfl,rfl,rfl⟩:=H;have eH:=aM.out;have eI:=aK.out;have eJ:=aD.out;have eK:=aU.out;have bY:=cz_ ah 0;have bZ:=cz_ ah 1;have cf:=blk_frozen ah.out 0;have cu:=blk_frozen ah.out 1;go_wp2
        refine bodyPost_ret (results_ct rfl _ _ aq 26 #[.int .i64 0, .slice none 0 0] (0,0) _ rfl (by(with_reducible repeat (first | refine blk_drewN ?_ _ | refine blk_drew ?_ | refine blk_alloc ?_ _));refine blk_put (cs:= #[.int .i64 0, .slice none 0 0]) ?_ 1 _ rfl;(with_reducible repeat (first | refine blk_drewN ?_ _ | refine blk_drew ?_ | refine blk_alloc ?_ _));refine blk_put (cs:= #[.int .i64 ay, .slice none 0 0]) ?_ 0 _ rfl;(with_reducible repeat (first | refine blk_drewN ?_ _ | refine blk_drew ?_ | refine blk_alloc ?_ _));exact ah.out) Tryz.underlying26 rfl (by kernel_rfl)) rfl ?_
        exact⟨_,by first | rfl | (simp [errW_none,errW_some] <;> rfl) | (simp [*,errW_none,errW_some] <;> rfl),by first | exact Kd.R_nil _ _ _ _ _ | exact Kd.N_nil _ _ _ _ _ | exact Kd.V_nil _ _ _ _ _ | exact Kd.Q_nil _ _ _ _ _ | exact Kd.S_nil _ _ _ _ _,hb_⟩
       ·replace c27:=Bool.eq_false_iff.mpr c27;subst c27;have H1:(impl_CubeOfProblem.l1 kj18 0 aA az av (av.length:Int) 0 aj aa (aa.length:Int) af)=some (r1,r2,r3):=by rw [if_neg (show ¬ (false=true) by decide)] at H;exact H
        clear H;have H:=H1;clear H1;have H':=q_ H;clear H;obtain⟨bQ,bS,cP⟩:=Kd.R_slice cB.out;subst cP;go_wp2
        go_loopg [9,41] kj18 (fun kq v9 v41 w'=> ∃(aX:Int) (ak:Int),v9= .int .i64 aX∧v41= .int .i64 ak∧Aside0 (impl_CubeOfProblem.l1 kq aX aA az av (av.length:Int) ak aj aa (aa.length:Int) af=some (r1,r2,r3))∧Aside0 (kq≤kj18)∧Aside0 (Kd.R (Kd.int .i64) 2 w' w.heap.size (fun k_=>some k_≠(ax:Value).ownBlock) (.slice bQ av.length bS) av)∧Aside0 (Kd.R (Kd.int .i64) 2 w' w.heap.size (fun k_=>some k_≠((.slice bQ av.length bS):Value).ownBlock) ax af)∧Aside0 (w'.heap[au]?=some (.cells #[(.slice aG aj.length aH),(.slice aI aa.length aJ)] 34 (0,0)))∧Aside0 (w'.heap[aq]?=some (.cells #[.int .i64 ay,(.slice none 0 0)] 26 (0,0)))∧Aside0 (w'.heap[aw]?=some (.cells #[.int .i64 (aa.length:Int),ax] 26 (0,0)))∧Aside0 (Below w.heap.size w w'))
        case atStart=>exact⟨(0),(0),rs_,rs_,H',⟨Nat.le_refl _⟩,⟨ro_ cB.out⟩,⟨ro_ ag.out⟩,⟨bk_⟩,⟨bk_⟩,⟨bk_⟩,⟨hb_⟩⟩
        case round=>
         clear H';(try clear c3);(try clear c17b0);(try clear c24);(try clear c27);(try clear bf);(try clear bg);(try clear bk);(try clear bq);(try clear bw);(try clear bz);(try clear bH);(try clear bI);(try clear bY);(try clear bZ);(try clear bD);(try clear bE);(try clear bh);(try clear bi);(try clear bu);(try clear bv);(try clear bA);(try clear bC);(try clear bJ);(try clear bK);(try clear cf);(try clear cu);(try clear bF);(try clear bG);obtain⟨aX,ak,rfl,rfl,HA,HK3,aY,ag,ae,ah,ai,HB⟩:=hrel;cases gk with
         | zero=>exact absurd HA.out (by simp [impl_CubeOfProblem.l1])
         | succ k3=>
          have H:=HA.out;clear HA;simp only [impl_CubeOfProblem.l1] at H
          by_cases c32:ak < (av.length:Int)
          ·rw [if_pos c32] at H;have c32b0:=decide_eq_true c32;clear c32
           by_cases c33:0≤ak
           ·rw [if_pos c33] at H;have c33b0:=decide_eq_true c33;clear c33
            by_cases c34:ak < (av.length:Int)
            ·rw [if_pos c34] at H;have c34b0:=decide_eq_true c34;clear c34
             by_cases c35:(rd av ak) < 0
             ·rw [if_pos c35] at H;have c35b0:=decide_eq_true c35;clear c35;have c36b0:=eq_true (od_:0≤ak);obtain⟨ji37,hji37⟩: ∃j_:Int,(shl .i64 1 ak)=j_:=⟨_,rfl⟩
              replace H:(impl_CubeOfProblem.l1 k3 (Go.bits .or .i64 aX (ji37)) aA az av (av.length:Int) (wrap64 (ak+1)) aj aa (aa.length:Int) af)=some (r1,r2,r3):=by first | (rw [hji37] at H;exact H) | (simp only [hji37] at H ⊢;exact H)
              have hji37_:(IntKind.i64.wrap (1*2 ^ min ak.toNat 64))=ji37:=hji37;have hji37z:ak≤64→(IntKind.i64.wrap (1*2 ^ ak.toNat))=ji37:=shl_small hji37;have hji37u:(IntKind.i64.wrap (2 ^ min ak.toNat 64))=ji37:=by have h_:=hji37_;rw [Int.one_mul] at h_;exact h_
              have hji37v:ak≤64→(IntKind.i64.wrap (2 ^ ak.toNat))=ji37:=fun hle_=>by have h_:=hji37z hle_;rw [Int.one_mul] at h_;exact h_
              have hji37y:(wrap64 (1*2 ^ min ak.toNat 64))=ji37:=(i64_w _).symm.trans hji37_;have hji37x:ak≤64→(wrap64 (1*2 ^ ak.toNat))=ji37:=fun h_=>(i64_w _).symm.trans (hji37z h_)
              have H':=q_ H;clear H;have p417:0≤(ak:Int):=od_;have q417:ak < (av.length:Int):=od_;obtain⟨cJ,e417,hx417_0⟩:=Kd.at_int (Kd.R_reads' aY.out).2.2 ak p417 q417;cases e417
              replace p417:=eq_true p417;replace q417:=eq_true q417;go_wp2
              go_roundg k3
              case measure=>have:=HK1.out;have:=HJ18.out;have:=HK3.out;omega
              case rel=>exact⟨(Go.bits .or .i64 aX (ji37)),(wrap64 (ak+1)),(by first | rfl | (simp;done) | (simp only [← hji37] <;> (first | rfl | simp)) | (simp [*];done)),rs_,H',⟨by have:=HK1.out;have:=HJ18.out;have:=HK3.out;omega⟩,⟨ro_ aY.out⟩,⟨ro_ ag.out⟩,⟨bk_⟩,⟨bk_⟩,⟨bk_⟩,⟨hb_⟩⟩
             ·rw [if_neg c35] at H;have c35b0:=decide_eq_false c35;clear c35;have H':=q_ H;clear H;have p417:0≤(ak:Int):=od_;have q417:ak < (av.length:Int):=od_;obtain⟨cJ,e417,hx417_0⟩:=Kd.at_int (Kd.R_reads' aY.out).2.2 ak p417 q417;cases e417
              replace p417:=eq_true p417;replace q417:=eq_true q417;go_wp2
              go_roundg k3
              case measure=>have:=HK1.out;have:=HJ18.out;have:=HK3.out;omega
              case rel=>exact⟨(aX),(wrap64 (ak+1)),rs_,rs_,H',⟨by have:=HK1.out;have:=HJ18.out;have:=HK3.out;omega⟩,⟨ro_ aY.out⟩,⟨ro_ ag.out⟩,⟨bk_⟩,⟨bk_⟩,⟨bk_⟩,⟨hb_⟩⟩
            ·rw [if_neg c34] at H;exact absurd H (by simp)
           ·rw [if_neg c33] at H;exact absurd H (by simp)
          ·rw [if_neg c32] at H;have c32b0:=decide_eq_false c32;clear c32
           by_cases c38:af.length < 17592186044416
           ·rw [if_pos c38] at H;have cK:=q_ c38;clear c38;obtain⟨bM,hy⟩: ∃y_:List Int,y_=(af++ [aX]):=⟨_,rfl⟩
            replace H:(impl_CubeOfProblem.l0 k3 aA (wrap64 (az+1)) aj aa (aa.length:Int) bM)=some (r1,r2,r3):=hh_;have cL:=q_ hy;clear hy;have H':=q_ H;clear H;have eL:=aT.out;have eM:=aC.out;have eO:=aU.out;have eP:=aD.out;have cV:=cz_ ai 0;have cW:=cz_ ai 1;have cZ:=blk_frozen ai.out 0;have df:=blk_frozen ai.out 1
            go_wp2_with (first | ((with_reducible refine gate_builtin (b:= .append) (xs:= #[.tmp 54, .tmp 56]) rfl ?_);at_builtin;refine Kd.R_append (Kd.int .i64) (w0:=w) w.heap.size rfl (.tmp 54) (.tmp 56) 24 2 (.int .i64 0) 8 rfl Tryz.underlying24 info2 rfl (by decide) (by omega) ax af aX [.int .i64 aX] (fun k_=>some k_≠(.slice bQ av.length bS:Value).ownBlock) (fun _=>False) rfl rfl ?aP (fun _ hk=>hk.elim) ?aF ?aO ?aB ?aS ?aL ?_;(case aP=>exact rfl);(case aB=>exact hb_);(case aF=>exact(fun k_ hk=>Kd.fresh' (Kd.R_lt (ro_ aY.out)) k_ hk));(case aO=>exact(ro_ ag.out));(case aS=>exact bz_);(case aL=>have:=cK.out;omega);intro fB w42 ho hb hg hat;rw [← cL.out] at ho;replace aY:=q_ (Kd.R_after (ok:=(fun _=>True)) (by(with_reducible repeat (first | apply Kd.R_alloc | apply Kd.R_drewN | apply Kd.R_drew));exact Kd.R_mono aY.out (fun _ hk=>⟨trivial,hk⟩)) hg hat);replace ae:=q_ (bg_ ae.out hg (Kd.R_ne ag.out ae.out (by decide)));replace ah:=q_ (bg_ ah.out hg (Kd.R_ne ag.out ah.out (by decide)));replace ai:=q_ (bg_ ai.out hg (Kd.R_ne ag.out ai.out (by decide)));replace HB:=q_ (hb);have bX:=q_ (ho);clear ag ho hb hg hat;obtain⟨cC,cD,cQ⟩:=Kd.R_slice bX.out;subst cQ;have dh:=cz_ ai 0;have di:=cz_ ai 1;have dl:=blk_frozen ai.out 0;have dr:=blk_frozen ai.out 1))
            go_roundg k3
            case measure=>have:=HK1.out;have:=HJ18.out;have:=HK3.out;omega
            case rel=>exact⟨(wrap64 (az+1)),(ay),(bM),(.slice cC bM.length cD),rs_,H',⟨by have:=HK1.out;have:=HJ18.out;have:=HK3.out;omega⟩,⟨by(with_reducible repeat (first | apply Kd.R_alloc | apply Kd.R_drewN | apply Kd.R_drew));exact Kd.R_mono (Kd.R_far (p:=⟨aw,1,none⟩) (Kd.R_types bX.out ai.out (by decide)) (fun _ hk=>hk.2) (.slice cC bM.length cD)) (fun _ hk=>trivial)⟩,⟨by(with_reducible repeat (first | refine blk_drewN ?_ _ | refine blk_drew ?_ | refine blk_alloc ?_ _));refine blk_far ?_ aC.out _;(with_reducible repeat (first | refine blk_drewN ?_ _ | refine blk_drew ?_ | refine blk_alloc ?_ _));exact ae.out⟩,⟨by(with_reducible repeat (first | refine blk_drewN ?_ _ | refine blk_drew ?_ | refine blk_alloc ?_ _));refine blk_far ?_ aD.out _;(with_reducible repeat (first | refine blk_drewN ?_ _ | refine blk_drew ?_ | refine blk_alloc ?_ _));exact ah.out⟩,⟨by(with_reducible repeat (first | refine blk_drewN ?_ _ | refine blk_drew ?_ | refine blk_alloc ?_ _));refine blk_put (cs:= #[.int .i64 (aa.length:Int),ax]) ?_ 1 _ rfl;(with_reducible repeat (first | refine blk_drewN ?_ _ | refine blk_drew ?_ | refine blk_alloc ?_ _));exact ai.out⟩,⟨hb_⟩⟩
           ·rw [if_neg c38] at H;exact absurd H (by simp)
    ·rw [if_neg c17] at H;have c17b0:=decide_eq_false c17;clear c17;replace H:=Option.bind_eq_some_iff.mp H;obtain⟨cE,A450,H⟩:=H;replace H:(if cE=true then(some ((aa.length:Int),af,0)) else(some (0,([]:List Int),5)))=some (r1,r2,r3):=H;have A45:=q_ A450;clear A450
     by_cases c46:cE=true
     ·subst c46;have H1:(some ((aa.length:Int),af,0))=some (r1,r2,r3):=by rw [if_pos rfl] at H;exact H
      clear H;have H:=H1;clear H1;simp only [Option.some.injEq,Prod.mk.injEq] at H;obtain⟨rfl,rfl,rfl⟩:=H;have eQ:=aT.out;have eU:=aC.out;have eV:=aU.out;have eW:=aD.out;have du:=cz_ ai 0;have dw:=cz_ ai 1;have dx:=blk_frozen ai.out 0;have dz:=blk_frozen ai.out 1;obtain⟨bN,bO,cR⟩:=Kd.R_slice ag.out;subst cR
      go_wp2_with (first | ((with_reducible refine gate_callee (f:=37) rfl ?_);refine gL_ 61 Tryz.func37 #[.agg #[.int .i64 (aa.length:Int), .slice bN af.length bO]] ?_;(with_reducible refine(impl_IsCube.calls k1 (aa.length:Int) _ _ af true _ ?aN ?aQ A45.out).mono ?_);(case aN=>repeat (first | exact(Kd.R_reads' ag.out).2.2 | (with_reducible refine Kd.C_alloc ?_ _) | (with_reducible refine Kd.C_drewN ?_ _) | (with_reducible refine Kd.C_drew ?_)));(case aQ=>exact(Kd.R_reads' ag.out).2.1);rintro e w51 ⟨rfl,hb⟩;refine⟨_,rfl,?_⟩;replace ag:=q_ (rb_ ag.out hb);replace ae:=q_ (bb_ ae.out hb);replace ah:=q_ (bb_ ah.out hb);replace ai:=q_ (bb_ ai.out hb);replace HB:=q_ (bs_ hb);(try clear hb);(try clear hk);have dA:=cz_ ai 0;have dB:=cz_ ai 1;have dC:=blk_frozen ai.out 0;have dD:=blk_frozen ai.out 1;have eX:=aM.out;have eY:=aK.out;have dE:=cz_ ah 0;have dF:=cz_ ah 1;have dG:=blk_frozen ah.out 0;have dH:=blk_frozen ah.out 1))
      refine bodyPost_ret (results_ct rfl _ _ aq 26 #[.int .i64 (aa.length:Int), .slice bN af.length bO] (0,0) _ rfl (by(with_reducible repeat (first | refine blk_drewN ?_ _ | refine blk_drew ?_ | refine blk_alloc ?_ _));refine blk_put (cs:= #[.int .i64 (aa.length:Int), .slice none 0 0]) ?_ 1 _ rfl;(with_reducible repeat (first | refine blk_drewN ?_ _ | refine blk_drew ?_ | refine blk_alloc ?_ _));refine blk_put (cs:= #[.int .i64 ay, .slice none 0 0]) ?_ 0 _ rfl;(with_reducible repeat (first | refine blk_drewN ?_ _ | refine blk_drew ?_ | refine blk_alloc ?_ _));exact ah.out) Tryz.underlying26 rfl (by kernel_rfl)) rfl ?_
      exact⟨_,by first | rfl | (simp [errW_none,errW_some] <;> rfl) | (simp [*,errW_none,errW_some] <;> rfl),by(with_reducible repeat (first | apply Kd.R_alloc | apply Kd.R_drewN | apply Kd.R_drew));exact Kd.R_mono (Kd.R_far (p:=⟨aq,1,none⟩) (Kd.R_far (p:=⟨aq,0,none⟩) (Kd.R_types ag.out ah.out (by decide)) (fun _ hk=>hk.2) (.int .i64 (aa.length:Int))) (fun _ hk=>hk.2) (.slice bN af.length bO)) (fun _ hk=>trivial),hb_⟩
     ·replace c46:=Bool.eq_false_iff.mpr c46;subst c46;have H1:(some (0,([]:List Int),5))=some (r1,r2,r3):=by rw [if_neg (show ¬ (false=true) by decide)] at H;exact H
      clear H;have H:=H1;clear H1;simp only [Option.some.injEq,Prod.mk.injEq] at H;obtain⟨rfl,rfl,rfl⟩:=H;have eZ:=aT.out;have fa:=aC.out;have fc:=aU.out;have fg:=aD.out;have dI:=cz_ ai 0;have dJ:=cz_ ai 1;have dK:=blk_frozen ai.out 0;have dL:=blk_frozen ai.out 1;obtain⟨cS,cT,cU⟩:=Kd.R_slice ag.out;subst cU
      go_wp2_with (first | ((with_reducible refine gate_callee (f:=37) rfl ?_);refine gL_ 61 Tryz.func37 #[.agg #[.int .i64 (aa.length:Int), .slice cS af.length cT]] ?_;(with_reducible refine(impl_IsCube.calls k1 (aa.length:Int) _ _ af false _ ?aN ?aQ A45.out).mono ?_);(case aN=>repeat (first | exact(Kd.R_reads' ag.out).2.2 | (with_reducible refine Kd.C_alloc ?_ _) | (with_reducible refine Kd.C_drewN ?_ _) | (with_reducible refine Kd.C_drew ?_)));(case aQ=>exact(Kd.R_reads' ag.out).2.1);rintro e w59 ⟨rfl,hb⟩;refine⟨_,rfl,?_⟩;replace ag:=q_ (rb_ ag.out hb);replace ae:=q_ (bb_ ae.out hb);replace ah:=q_ (bb_ ah.out hb);replace ai:=q_ (bb_ ai.out hb);replace HB:=q_ (bs_ hb);(try clear hb);(try clear hk);have fj:=aM.out;have fk:=aK.out;have dM:=cz_ ah 0;have dN:=cz_ ah 1;have dP:=blk_frozen ah.out 0;have dQ:=blk_frozen ah.out 1))
      refine bodyPost_ret (results_ct rfl _ _ aq 26 #[.int .i64 0, .slice none 0 0] (0,0) _ rfl (by(with_reducible repeat (first | refine blk_drewN ?_ _ | refine blk_drew ?_ | refine blk_alloc ?_ _));refine blk_put (cs:= #[.int .i64 0, .slice none 0 0]) ?_ 1 _ rfl;(with_reducible repeat (first | refine blk_drewN ?_ _ | refine blk_drew ?_ | refine blk_alloc ?_ _));refine blk_put (cs:= #[.int .i64 ay, .slice none 0 0]) ?_ 0 _ rfl;(with_reducible repeat (first | refine blk_drewN ?_ _ | refine blk_drew ?_ | refine blk_alloc ?_ _));exact ah.out) Tryz.underlying26 rfl (by kernel_rfl)) rfl ?_
      exact⟨_,by first | rfl | (simp [errW_none,errW_some] <;> rfl) | (simp [*,errW_none,errW_some] <;> rfl),by first | exact Kd.R_nil _ _ _ _ _ | exact Kd.N_nil _ _ _ _ _ | exact Kd.V_nil _ _ _ _ _ | exact Kd.Q_nil _ _ _ _ _ | exact Kd.S_nil _ _ _ _ _,hb_⟩
 ·replace c3:=Bool.eq_false_iff.mpr c3;subst c3;have H1:(some (0,([]:List Int),1))=some (r1,r2,r3):=by rw [if_neg (show ¬ (false=true) by decide)] at H;exact H
  clear H;have H:=H1;clear H1;simp only [Option.some.injEq,Prod.mk.injEq] at H;obtain⟨rfl,rfl,rfl⟩:=H
  go_enter Tryz.func11,Tryz.ntmps11
  go_wp2_with (first | ((with_reducible refine gate_dst (N:=1) rfl ?_);refine be_ 1 #[.slice aG aj.length aH, .slice aI aa.length aJ] 34 ?_;intro au hg w62 hbox hb;have ae:=q_ (hbox);have cF:=q_ ((by rw [hg];exact bz_:w.heap.size≤au));have cG:=q_ ((by rw [hg];exact bz_:w.heap.size≤au));replace HB:=q_ (bs_ hb);clear hb hbox hg) | ((with_reducible refine gate_dst (N:=2) rfl ?_);refine be_ 2 #[.int .i64 0, .slice none 0 0] 26 ?_;intro aq hg w63 hbox hb;have ah:=q_ (hbox);have cH:=q_ ((by rw [hg];exact bz_:w.heap.size≤aq));have cI:=q_ ((by rw [hg];exact bz_:w.heap.size≤aq));have aK:=q_ ((by rw [hg];exact lt_ ae.out:au≠aq));have aM:=q_ ((by rw [hg];exact gt_ ae.out:aq≠au));replace ae:=q_ (bb_ ae.out hb);replace HB:=q_ (bs_ hb);clear hb hbox hg;have fo:=aK.out;have fp:=aM.out;have dR:=cz_ ae 0;have dU:=cz_ ae 1;have dV:=blk_frozen ae.out 0;have dW:=blk_frozen ae.out 1) | ((with_reducible refine gate_callee (f:=48) rfl ?_);refine gL_ 13 Tryz.func48 #[.agg #[.slice aG aj.length aH, .slice aI aa.length aJ]] ?_;(with_reducible refine(impl_IsProblem.calls _ _ aj _ _ aa false _ ?aN ?aQ ?aV ?aW A2.out).mono ?_);(case aN=>exact cb_ HR0_0.out HB.out);(case aQ=>exact HC0_0.out);(case aV=>exact cb_ HR0_1.out HB.out);(case aW=>exact HC0_1.out);rintro e w66 ⟨rfl,hb⟩;refine⟨_,rfl,?_⟩;replace ae:=q_ (bb_ ae.out hb);replace ah:=q_ (bb_ ah.out hb);replace HB:=q_ (bs_ hb);(try clear hb);(try clear hk);have dX:=cz_ ah 0;have dY:=cz_ ah 1;have dZ:=blk_frozen ah.out 0;have d9:=blk_frozen ah.out 1))
  refine bodyPost_ret (results_ct rfl _ _ aq 26 #[.int .i64 0, .slice none 0 0] (0,0) _ rfl (by(with_reducible repeat (first | refine blk_drewN ?_ _ | refine blk_drew ?_ | refine blk_alloc ?_ _));refine blk_put (cs:= #[.int .i64 0, .slice none 0 0]) ?_ 1 _ rfl;(with_reducible repeat (first | refine blk_drewN ?_ _ | refine blk_drew ?_ | refine blk_alloc ?_ _));refine blk_put (cs:= #[.int .i64 0, .slice none 0 0]) ?_ 0 _ rfl;(with_reducible repeat (first | refine blk_drewN ?_ _ | refine blk_drew ?_ | refine blk_alloc ?_ _));exact ah.out) Tryz.underlying26 rfl (by kernel_rfl)) rfl ?_
  exact⟨_,by first | rfl | (simp [errW_none,errW_some] <;> rfl) | (simp [*,errW_none,errW_some] <;> rfl),by first | exact Kd.R_nil _ _ _ _ _ | exact Kd.N_nil _ _ _ _ _ | exact Kd.V_nil _ _ _ _ _ | exact Kd.Q_nil _ _ _ _ _ | exact Kd.S_nil _ _ _ _ _,hb_⟩
end Go.Proofs.YthmfdplckdijdaaGreat.Pr
end
