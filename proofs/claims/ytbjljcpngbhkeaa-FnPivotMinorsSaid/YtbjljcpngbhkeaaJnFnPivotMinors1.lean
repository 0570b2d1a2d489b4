/- Texts of one claim (the words of the kit's print that the claim uses, printed functions, and this session's own texts), joined in the order of their imports by this session's own program (merge.py). -/
import Derived.WalkLawsBesides
import Derived.Test.YtbjljcpngbhkeaaJnFnPivotMinors0
set_option linter.unusedVariables false
set_option linter.unusedSimpArgs false
set_option maxHeartbeats 8000000
set_option maxRecDepth 100000
section
namespace Go.Proofs.Ytbjljcpngbhkeaa.Pr
open Go.RowKit Wz.PrintWords Wz.PrintLast Wz.PrintMore
attribute [local go_sem] max2_int min2_int max_two min_two max_three min_three max_four min_four
def spec_l01From.l0:Nat→List Int→Int→List Int→Int→Int→Option (List Int × Int × Int)
 | 0,_,_,_,_,_=>none
 | k+1,x0,x4,aa,ae,af=>if x4 < (x0.length:Int) then(if x4 < 4096 then(if 0≤x4 then(spec_l01From.l0 k x0 (wrap64 (x4+1)) aa ae (IntKind.u64.wrap ((IntKind.u64.wrap ((IntKind.u64.wrap (af*1099511628211))+(IntKind.u64.wrap (rd x0 x4))))+167))) else(none)) else(some (aa,ae,af))) else(some (aa,ae,af))
def spec_l01From.f (k:Nat) (l0:List Int):Option (List Int × Int × Int):=spec_l01From.l0 k l0 0 l0 0 (IntKind.u64.wrap (13431+(IntKind.u64.wrap ((l0.length:Int)))))
def spec_l01From.T5:Bool × List (List Nat × List Nat):=(true, [([], []),([], []),([1], [1]),([2], [2]),([3], [3]),([4], [4]),([], []),([], []),([6,7], [6,7]),([8], [8]),([9], [9]),([5,10], [5,10]),([11], [11]),([0,0,1,2,3,4,5,6,7,8,9,10,11,12], [0]),([13,0,1,2,3,4,5,6,7,8,9,10,11,12], [13]),([14,12,0,1,2,3,4,5,6,7,8,9,10,11,12], [12,14])])
def spec_l01From.B5:List Nat:= [0,0,2,6,14,30,0,0,192,448,960,2046,4094,8191,16383,32767]
theorem spec_l01From.tab5:rtab .any (opsOf Try.f38 5)=spec_l01From.T5:=by kernel_rfl
theorem spec_l01From.bits5:waitsOk spec_l01From.T5.2 spec_l01From.B5=true:=by kernel_rfl
theorem spec_l01From.calls (k:Nat) (A0:Option Addr) (c0:Nat) (l0:List Int) (r1:List Int) (r2:Int) (r3:Int) (w0 w:World) (hB:Below w0.heap.size w0 w) (hr0:Kd.C (Kd.int .u8) w0 A0 l0.length l0) (hc0:l0.length≤c0) (h:spec_l01From.f k l0=some (r1,r2,r3)):
  Calls Try.prog 38 #[.slice A0 l0.length c0] w fun e w'=> ∃g_:Nat,e= .returned (.pointer (some ⟨g_,0,none⟩))∧IsS89 w0 w' g_ r1 r2 r3∧Below w0.heap.size w0 w'∧Below w.heap.size w w':=by
 have hu89:=Try.underlying89;have HR0:=q_ hr0;have HC0:=q_ hc0;clear hr0 hc0;have HBW:=q_ (Below.refl w.heap.size w);have HW0:=q_ hB.size;have HB:=q_ hB;clear hB;have H:(spec_l01From.l0 k l0 0 l0 0 (IntKind.u64.wrap (13431+(IntKind.u64.wrap ((l0.length:Int))))))=some (r1,r2,r3):=h;clear h;have H':=q_ H;clear H
 go_enter Try.func38,Try.ntmps38
 go_wp2_with (first | ((with_reducible refine gate_dst (N:=11) rfl ?_);refine be_ 11 #[.slice A0 l0.length c0, .int .i64 0, .int .u64 (IntKind.u64.wrap (13431+(IntKind.u64.wrap ((l0.length:Int)))))] 89 ?_;intro ag hg w2 hbox hb;replace HB:=Bs_ hb;have af:=q_ (hbox);have ak:=q_ ((by rw [hg];exact(below_size (by repeat (first | (with_reducible first | exact HBW.out | apply below_alloc | apply pw_below_drewN | apply below_drew1) | exact HBW.out))):w.heap.size≤ag));have ah:=q_ ((Nat.le_trans HW0.out (by rw [hg];exact(below_size (by repeat (first | (with_reducible first | exact HBW.out | apply below_alloc | apply pw_below_drewN | apply below_drew1) | exact HBW.out))):w.heap.size≤ag):w0.heap.size≤ag));replace HBW:=q_ (below_step HBW.out hb);clear hb hbox hg))
 go_loopg [4] k (fun kq v4 w'=> ∃(ae:Int) (aa:Int),v4= .int .i64 ae∧Aside0 (spec_l01From.l0 kq l0 ae l0 0 aa=some (r1,r2,r3))∧Aside0 (kq≤k)∧Aside0 (w'.heap[ag]?=some (.cells #[(.slice A0 l0.length c0), .int .i64 0, .int .u64 aa] 89 (0,0)))∧Aside0 (Below w0.heap.size w0 w')∧Aside0 (Below w.heap.size w w'))
 case atStart=>exact⟨(0),(IntKind.u64.wrap (13431+(IntKind.u64.wrap ((l0.length:Int))))),rs_,H',⟨Nat.le_refl _⟩,⟨bk_⟩,⟨hb_⟩,HBW⟩
 case round=>
  clear H';obtain⟨ae,aa,rfl,HA,HK1,af,HB,HBW⟩:=hrel;cases gk with
  | zero=>exact absurd HA.out (by simp [spec_l01From.l0])
  | succ k1=>
   have H:=HA.out;clear HA;simp only [spec_l01From.l0] at H
   by_cases c3:ae < (l0.length:Int)
   ·rw [if_pos c3] at H;have c3b0:=decide_eq_true c3;clear c3
    by_cases c4:ae < 4096
    ·rw [if_pos c4] at H;have c4b0:=decide_eq_true c4;clear c4
     by_cases c5:0≤ae
     ·rw [if_pos c5] at H;have c5b0:=decide_eq_true c5;clear c5;have H':=q_ H;clear H
      try go_wp2
      have n0_:=q_ (blk_drew af.out);have n9_:=q_ (below_drew1 HBW.out);clear HBW;have HBW:=n9_;clear n9_;have n1_:=q_ (below_drew1 HB.out);clear af HB;have af:=n0_;have HB:=n1_;clear n0_ n1_;have p109:0≤(ae:Int):=od_;have q109:ae < (l0.length:Int):=od_;obtain⟨aj,e109,hx109_0⟩:=Kd.at_int HR0.out ae p109 q109;have ai:=hx109_0;cases e109
      replace hx109_0:=pw_cell_below HB.out hx109_0;replace p109:=eq_true p109;replace q109:=eq_true q109;refine st_ (n:=16) (S:=fun w'=>w'.cell? ⟨ag,0,none⟩=some (.slice (some aj) l0.length c0)∧w'.cell? ⟨ag,1,none⟩=some (.int .i64 0)∧w'.cell? ⟨ag,2,none⟩=some (.int .u64 aa)∧w'.cell? (aj.add (ae).toNat)=some (.int .u8 (rd l0 ae))) (ds:= [15]) ⟨(blk_cell af.out 0).trans rfl,(blk_cell af.out 1).trans rfl,(blk_cell af.out 2).trans rfl,((bc_ HB.out ai:))⟩ (fun hHeld=>?_);refine with_tabW spec_l01From.tab5 spec_l01From.bits5 (fun HT_ HW_=>?_)
      generalize wr.drew=w6 at af HB HBW hx109_0 hHeld ⊢
      refine p4_ 0 22 1 23 2 24 3 25 ?_;refine p3_ 6 28 7 29 8 30 ?_;refine tk_ 4 26 ?_;refine pu_ 5 27 ?_;refine tk_ 9 31 ?_;refine p4_ 10 32 11 33 12 34 13 35 ?_;refine pu_ 14 36 ?_
      refine la_ 15 none (fun K hK=>?_)
      have hs7:=cz_ af 2;have hfs7:=blk_frozen af.out 2;refine skip_ (w1:=?_) (by rfl) rfl ?_ ?_
      rotate_left
      ·go_simp
       rfl
      refine hK.out _ _ ?_
      clear hK K;refine done_ (done_of HT_.out (by kernel_rfl)) ?_
      try go_wp2
      go_roundg k1
      case measure=>have:=HK1.out;omega
      case rel=>exact⟨(wrap64 (ae+1)),(IntKind.u64.wrap ((IntKind.u64.wrap ((IntKind.u64.wrap (aa*1099511628211))+(IntKind.u64.wrap (rd l0 ae))))+167)),rs_,H',⟨by have:=HK1.out;omega⟩,⟨bw_⟩,⟨hb_⟩,⟨by repeat (first | (with_reducible first | exact HBW.out | apply below_alloc | apply pw_below_drewN | apply below_drew1 | refine below_set ?_ (Aside0.out (by assumption))) | exact HBW.out)⟩⟩
     ·rw [if_neg c5] at H;exact absurd H (by simp)
    ·rw [if_neg c4] at H;have c4b0:=decide_eq_false c4;clear c4;simp only [Option.some.injEq,Prod.mk.injEq] at H;obtain⟨rfl,rfl,rfl⟩:=H;go_wp2
     go_ret
     exact⟨_,rfl,(show IsS89 w0 _ ag l0 0 aa from ⟨_,_,by(with_reducible repeat (first | refine blk_drewN ?_ _ | refine blk_drew ?_ | refine blk_alloc ?_ _));exact af.out,ah.out,HR0.out⟩),hb_,by repeat (first | (with_reducible first | exact HBW.out | apply below_alloc | apply pw_below_drewN | apply below_drew1 | refine below_set ?_ ak.out) | exact HBW.out)⟩
   ·rw [if_neg c3] at H;have c3b0:=decide_eq_false c3;clear c3;simp only [Option.some.injEq,Prod.mk.injEq] at H;obtain⟨rfl,rfl,rfl⟩:=H;go_wp2
    go_ret
    exact⟨_,rfl,(show IsS89 w0 _ ag l0 0 aa from ⟨_,_,by(with_reducible repeat (first | refine blk_drewN ?_ _ | refine blk_drew ?_ | refine blk_alloc ?_ _));exact af.out,ah.out,HR0.out⟩),hb_,by repeat (first | (with_reducible first | exact HBW.out | apply below_alloc | apply pw_below_drewN | apply below_drew1 | refine below_set ?_ ak.out) | exact HBW.out)⟩
def spec_l01Pick.f (s0_0:List Int) (s0_1:Int) (s0_2:Int) (l1:List Int):Option (Int × Int × Int):=(spec_l01Next.f s0_0 s0_1 s0_2 (l1.length:Int)).bind fun aa=>(if 0≤aa.1 then(if aa.1 < (l1.length:Int) then(some (rd l1 aa.1,aa.2.1,aa.2.2)) else(none)) else(none))
theorem spec_l01Pick.calls (g:Nat) (s0_0:List Int) (s0_1:Int) (s0_2:Int) (A1:Option Addr) (c1:Nat) (l1:List Int) (r1:Int) (r2:Int) (r3:Int) (w0 w:World) (hI:IsS89 w0 w g s0_0 s0_1 s0_2) (hB:Below w0.heap.size w0 w) (hr1:Kd.C (Kd.int .i64) w A1 l1.length l1) (hc1:l1.length≤c1) (hf1: ∀ad,A1=some ad→0 < l1.length→ad.block≠g) (h:spec_l01Pick.f s0_0 s0_1 s0_2 l1=some (r1,r2,r3)):
  Calls Try.prog 51 #[.pointer (some ⟨g,0,none⟩), .slice A1 l1.length c1] w fun e w'=>e= .returned (.int .i64 r1)∧IsS89 w0 w' g s0_0 r2 r3∧Below w0.heap.size w0 w'∧KeepBut w w' g none:=by
 have HR1:=q_ hr1;have HC1:=q_ hc1;clear hr1 hc1;have HI0:=q_ hI;have HK:=q_ (KeepBut.refl w g none);have HL:=q_ hB.size;clear hI;have HW0:=q_ hB.size;have HB:=q_ hB;clear hB;have H:((spec_l01Next.f s0_0 s0_1 s0_2 (l1.length:Int)).bind fun ae=>(if 0≤ae.1 then(if ae.1 < (l1.length:Int) then(some (rd l1 ae.1,ae.2.1,ae.2.2)) else(none)) else(none)))=some (r1,r2,r3):=h;clear h;replace H:=Option.bind_eq_some_iff.mp H;obtain⟨⟨aa,af,ag⟩,A30,H⟩:=H;replace H:(if 0≤aa then(if aa < (l1.length:Int) then(some (rd l1 aa,af,ag)) else(none)) else(none))=some (r1,r2,r3):=H;have A3:=q_ A30;clear A30
 by_cases c4:0≤aa
 ·rw [if_pos c4] at H;have c4b0:=decide_eq_true c4;clear c4
  by_cases c5:aa < (l1.length:Int)
  ·rw [if_pos c5] at H;have c5b0:=decide_eq_true c5;clear c5;simp only [Option.some.injEq,Prod.mk.injEq] at H;obtain⟨rfl,rfl,rfl⟩:=H
   go_enter Try.func51,Try.ntmps51
   go_wp2_with (first | ((with_reducible refine gate_callee (f:=37) rfl ?_);refine gL_ 9 Try.func37 #[.pointer (some ⟨g,0,none⟩), .int .i64 (l1.length:Int)] ?_;(with_reducible refine(spec_l01Next.calls g s0_0 s0_1 s0_2 (l1.length:Int) aa af ag w0 _ ?ah ?ai A3.out).mono ?_);(case ah=>exact hi_);(case ai=>exact hj_);rintro e w6 ⟨rfl,hi,hb,hk⟩;refine⟨_,rfl,?_⟩;replace HK:=q_ (KeepBut.trans hk_ hk (.inl rfl));replace HB:=q_ (hb);replace HI0:=q_ (hi);(try clear hb);(try clear hk);(try clear hi);have p113:0≤(aa:Int):=od_;have q113:aa < (l1.length:Int):=od_;obtain⟨aj,e113,hx113_0⟩:=Kd.at_int HR1.out aa p113 q113;cases e113;replace hx113_0:=keep_cell HK.out hx113_0 (by first | (rw [add_block];exact hf1 _ rfl (by omega)) | exact hf1 _ rfl (by omega) | exact hf1 aj rfl (by omega));replace p113:=eq_true p113;replace q113:=eq_true q113))
   go_ret
   exact⟨ew_,hi_,hj_,hk_⟩
  ·rw [if_neg c5] at H;exact absurd H (by simp)
 ·rw [if_neg c4] at H;exact absurd H (by simp)
def spec_l01In.f (a0:Int) (a1:Int) (a2:Int):Option (Bool):=if a0 ≥ a1 then(some (decide (a0≤a2))) else(some false)
theorem spec_l01In.calls (a0:Int) (a1:Int) (a2:Int) (r:Bool) (w:World) (h:spec_l01In.f a0 a1 a2=some r):
  Calls Try.prog 56 #[.int .i64 a0, .int .i64 a1, .int .i64 a2] w fun e w'=>e= .returned (.bool r)∧Drawn0 w w':=by
 have H:(if a0 ≥ a1 then(some (decide (a0≤a2))) else(some false))=some r:=h;clear h
 by_cases c4:a0 ≥ a1
 ·rw [if_pos c4] at H;have c4b0:=decide_eq_true c4;clear c4;obtain rfl:=Option.some.inj H
  go_enter Try.func56,Try.ntmps56
  go_wp2
  go_ret
  exact⟨by first | rfl | (simp;done) | (simp [*];done),by repeat (first | exact Drawn0.refl _ | apply Drawn0.step)⟩
 ·rw [if_neg c4] at H;have c4b0:=decide_eq_false c4;clear c4;obtain rfl:=Option.some.inj H
  go_enter Try.func56,Try.ntmps56
  go_wp2
  go_ret
  exact⟨by first | rfl | (simp;done) | (simp [*];done),by repeat (first | exact Drawn0.refl _ | apply Drawn0.step)⟩
mutual
def spec_l01Matrix.j0:Nat→List (List Int)→Int→Bool→Option (Bool)
 | 0,_,_,_=>none
 | k+1,x0,x3,x13=>if x13=true then(some false) else(spec_l01Matrix.l0 k x0 x3 0)
def spec_l01Matrix.l0:Nat→List (List Int)→Int→Int→Option (Bool)
 | 0,_,_,_=>none
 | k+1,x0,x3,x4=>if x4 < x3 then(if 0≤x4 then(if x4 < (x0.length:Int) then(if((rd_L2 x0 x4).length:Int)=x3 then(spec_l01Matrix.l1 k x0 x3 x4 0) else(some false)) else(none)) else(none)) else(some true)
def spec_l01Matrix.l1:Nat→List (List Int)→Int→Int→Int→Option (Bool)
 | 0,_,_,_,_=>none
 | k+1,x0,x3,x4,x5=>if x5 < x3 then(if 0≤x4 then(if x4 < (x0.length:Int) then(if 0≤x5 then(if x5 < ((rd_L2 x0 x4).length:Int) then((spec_l01In.f (rd (rd_L2 x0 x4) x5) (-20) 20).bind fun aa=>(if aa=true then(spec_l01Matrix.l1 k x0 x3 x4 (wrap64 (x5+1))) else(some false))) else(none)) else(none)) else(none)) else(none)) else(spec_l01Matrix.l0 k x0 x3 (wrap64 (x4+1)))
end
def spec_l01Matrix.f (k:Nat) (l0:List (List Int)):Option (Bool):=if(l0.length:Int) < 1 then(spec_l01Matrix.j0 k l0 (l0.length:Int) true) else(spec_l01Matrix.j0 k l0 (l0.length:Int) (decide ((l0.length:Int) > 5)))
theorem spec_l01Matrix.calls (k:Nat) (A0:Option Addr) (c0:Nat) (l0:List (List Int)) (r:Bool) (w:World) (hr0:Kd.C (Kd.slice 2 (Kd.int .i64)) w A0 l0.length l0) (hc0:l0.length≤c0) (h:spec_l01Matrix.f k l0=some r):
  Calls Try.prog 78 #[.slice A0 l0.length c0] w fun e w'=>e= .returned (.bool r)∧Drawn0 w w':=by
 have HR0:=q_ hr0;have HC0:=q_ hc0;clear hr0 hc0;have H:(if(l0.length:Int) < 1 then(spec_l01Matrix.j0 k l0 (l0.length:Int) true) else(spec_l01Matrix.j0 k l0 (l0.length:Int) (decide ((l0.length:Int) > 5))))=some r:=h;clear h;have HC2:=q_ H;clear H
 go_enter Try.func78,Try.ntmps78
 go_upto_region 2 with (fail)
 go_cut [13] (fun v13 wc=> ∃(kq:Nat) (af:Bool),v13= .bool af∧Aside0 (spec_l01Matrix.j0 kq l0 (l0.length:Int) af=some r)∧Aside0 (kq≤k)∧Drawn0 w wc)
 case first=>
  have H:=HC2.out;clear HC2
  by_cases c3:(l0.length:Int) < 1
  ·rw [if_pos c3] at H;have c3b0:=decide_eq_true c3;have c3b1:decide (l0.length < 1)=true:=decide_eq_true (by omega);clear c3
   (first | rw [c3b0] | (simp only [i64_w,i32_w];rw [c3b0]) | skip)
   have H':=q_ H;clear H;go_wp2
   go_meet
   case rel=>exact⟨_,(true),rs_,H',⟨by first | omega | exact Nat.le_refl _⟩,by repeat (first | exact Drawn0.refl _ | apply Drawn0.step)⟩
  ·rw [if_neg c3] at H;have c3b0:=decide_eq_false c3;have c3b1:decide (l0.length < 1)=false:=decide_eq_false (by omega);clear c3
   (first | rw [c3b0] | (simp only [i64_w,i32_w];rw [c3b0]) | skip)
   have H':=q_ H;clear H;go_wp2
   go_meet
   case rel=>exact⟨_,(decide ((l0.length:Int) > 5)),rs_,H',⟨by first | omega | exact Nat.le_refl _⟩,by repeat (first | exact Drawn0.refl _ | apply Drawn0.step)⟩
 case rest=>
  clear HC2;(try clear c3b0);(try clear c3b1);obtain⟨kq,af,rfl,HA,HJ1,⟨mc1,rfl⟩⟩:=hcut;cases kq with
  | zero=>exact absurd HA.out (by simp [spec_l01Matrix.j0])
  | succ kj1=>
   have H:=HA.out;clear HA;simp only [spec_l01Matrix.j0] at H
   by_cases c4:af=true
   ·subst c4;have H1:(some false)=some r:=by rw [if_pos rfl] at H;exact H
    clear H;have H:=H1;clear H1;obtain rfl:=Option.some.inj H;go_wp2
    go_ret
    exact⟨by first | rfl | (simp;done) | (simp [*];done),by repeat (first | exact Drawn0.refl _ | apply Drawn0.step)⟩
   ·replace c4:=Bool.eq_false_iff.mpr c4;subst c4;have H1:(spec_l01Matrix.l0 kj1 l0 (l0.length:Int) 0)=some r:=by rw [if_neg (show ¬ (false=true) by decide)] at H;exact H
    clear H;have H:=H1;clear H1;have H':=q_ H;clear H;go_wp2
    go_loopg [4] kj1 (fun kq v4 w'=> ∃(aa:Int),v4= .int .i64 aa∧Aside0 (spec_l01Matrix.l0 kq l0 (l0.length:Int) aa=some r)∧Aside0 (kq≤kj1)∧Drawn0 w w')
    case atStart=>exact⟨(0),rs_,H',⟨Nat.le_refl _⟩,by repeat (first | exact Drawn0.refl _ | apply Drawn0.step)⟩
    case round=>
     clear H';(try clear c3b0);(try clear c3b1);(try clear c4);obtain⟨aa,rfl,HA,HK2,⟨m2,rfl⟩⟩:=hrel;cases gk with
     | zero=>exact absurd HA.out (by simp [spec_l01Matrix.l0])
     | succ k2=>
      have H:=HA.out;clear HA;simp only [spec_l01Matrix.l0] at H
      by_cases c5:aa < (l0.length:Int)
      ·rw [if_pos c5] at H;have c5b0:=decide_eq_true c5;clear c5
       by_cases c6:0≤aa
       ·rw [if_pos c6] at H;have c6b0:=decide_eq_true c6;clear c6
        by_cases c7:aa < (l0.length:Int)
        ·rw [if_pos c7] at H;have c7b0:=decide_eq_true c7;clear c7
         by_cases c8:((rd_L2 l0 aa).length:Int)=(l0.length:Int)
         ·rw [if_pos c8] at H;have c8b0:=e1_ c8;have c8b1:=e2_ c8;have c8b2:((rd_L2 l0 aa).length==l0.length)=true:=by first | simpa using c8 | (simp at c8 ⊢;omega)
          clear c8;have H':=q_ H;clear H;have p114:0≤(aa:Int):=od_;have q114:aa < (l0.length:Int):=od_;obtain⟨ag,ai,aj,e114,hx114_0,hl114_0,hi114_0⟩:=at_L2 HR0.out aa p114 q114;cases e114
          have HR114_0:=q_ hi114_0;have HC114_0:=q_ hl114_0;clear hi114_0 hl114_0;replace p114:=eq_true p114;replace q114:=eq_true q114;go_wp2
          go_loopg [5] k2 (fun kq v5 w'=> ∃(ae:Int),v5= .int .i64 ae∧Aside0 (spec_l01Matrix.l1 kq l0 (l0.length:Int) aa ae=some r)∧Aside0 (kq≤k2)∧Drawn0 w w')
          case atStart=>exact⟨(0),rs_,H',⟨Nat.le_refl _⟩,by repeat (first | exact Drawn0.refl _ | apply Drawn0.step)⟩
          case round=>
           clear H';(try clear c3b0);(try clear c3b1);(try clear c4);(try clear c5b0);(try clear c6);(try clear c6b0);(try clear c7);(try clear c7b0);(try clear c8);(try clear c8b0);(try clear c8b1);(try clear c8b2);(try clear hx114_0);(try clear p114);(try clear q114);obtain⟨ae,rfl,HA,HK3,⟨m3,rfl⟩⟩:=hrel;cases gk with
           | zero=>exact absurd HA.out (by simp [spec_l01Matrix.l1])
           | succ k3=>
            have H:=HA.out;clear HA;simp only [spec_l01Matrix.l1] at H
            by_cases c9:ae < (l0.length:Int)
            ·rw [if_pos c9] at H;have c9b0:=decide_eq_true c9;clear c9
             by_cases c10:0≤aa
             ·rw [if_pos c10] at H;have c10b0:=decide_eq_true c10;clear c10
              by_cases c11:aa < (l0.length:Int)
              ·rw [if_pos c11] at H;have c11b0:=decide_eq_true c11;clear c11
               by_cases c12:0≤ae
               ·rw [if_pos c12] at H;have c12b0:=decide_eq_true c12;clear c12
                by_cases c13:ae < ((rd_L2 l0 aa).length:Int)
                ·rw [if_pos c13] at H;have c13b0:=decide_eq_true c13;clear c13;replace H:=Option.bind_eq_some_iff.mp H;obtain⟨ak,A140,H⟩:=H;replace H:(if ak=true then(spec_l01Matrix.l1 k3 l0 (l0.length:Int) aa (wrap64 (ae+1))) else(some false))=some r:=H;have A14:=q_ A140;clear A140
                 by_cases c15:ak=true
                 ·subst c15;have H1:(spec_l01Matrix.l1 k3 l0 (l0.length:Int) aa (wrap64 (ae+1)))=some r:=by rw [if_pos rfl] at H;exact H
                  clear H;have H:=H1;clear H1;have H':=q_ H;clear H;have p115:0≤(aa:Int):=od_;have q115:aa < (l0.length:Int):=od_;obtain⟨ah,aq,au,e115,hx115_0,hl115_0,hi115_0⟩:=at_L2 HR0.out aa p115 q115;obtain rfl:ag=ah:=(by injection e115)
                  have HR115_0:=q_ hi115_0;have HC115_0:=q_ hl115_0;clear hi115_0 hl115_0;replace p115:=eq_true p115;replace q115:=eq_true q115;have p116:0≤(ae:Int):=od_;have q116:ae < ((rd_L2 l0 aa).length:Int):=od_;obtain⟨av,e116,hx116_0⟩:=Kd.at_int HR115_0.out ae p116 q116;cases e116
                  replace p116:=eq_true p116;replace q116:=eq_true q116
                  go_wp2_with (first | ((with_reducible refine gate_callee (f:=56) rfl ?_);refine gL_ 38 Try.func56 #[.int .i64 (rd (rd_L2 l0 aa) ae), .int .i64 (-20), .int .i64 20] ?_;(with_reducible refine(spec_l01In.calls (rd (rd_L2 l0 aa) ae) (-20) 20 true _ A14.out).mono ?_);rintro e w' ⟨rfl,⟨nd,rfl⟩⟩;refine⟨_,rfl,?_⟩))
                  go_roundg k3
                  case measure=>have:=HJ1.out;have:=HK2.out;have:=HK3.out;omega
                  case rel=>exact⟨(wrap64 (ae+1)),rs_,H',⟨by have:=HJ1.out;have:=HK2.out;have:=HK3.out;omega⟩,by repeat (first | exact Drawn0.refl _ | apply Drawn0.step)⟩
                 ·replace c15:=Bool.eq_false_iff.mpr c15;subst c15;have H1:(some false)=some r:=by rw [if_neg (show ¬ (false=true) by decide)] at H;exact H
                  clear H;have H:=H1;clear H1;obtain rfl:=Option.some.inj H;have p115:0≤(aa:Int):=od_;have q115:aa < (l0.length:Int):=od_;obtain⟨ah,aq,au,e115,hx115_0,hl115_0,hi115_0⟩:=at_L2 HR0.out aa p115 q115;obtain rfl:ag=ah:=(by injection e115)
                  have HR115_0:=q_ hi115_0;have HC115_0:=q_ hl115_0;clear hi115_0 hl115_0;replace p115:=eq_true p115;replace q115:=eq_true q115;have p116:0≤(ae:Int):=od_;have q116:ae < ((rd_L2 l0 aa).length:Int):=od_;obtain⟨av,e116,hx116_0⟩:=Kd.at_int HR115_0.out ae p116 q116;cases e116
                  replace p116:=eq_true p116;replace q116:=eq_true q116
                  go_wp2_with (first | ((with_reducible refine gate_callee (f:=56) rfl ?_);refine gL_ 38 Try.func56 #[.int .i64 (rd (rd_L2 l0 aa) ae), .int .i64 (-20), .int .i64 20] ?_;(with_reducible refine(spec_l01In.calls (rd (rd_L2 l0 aa) ae) (-20) 20 false _ A14.out).mono ?_);rintro e w' ⟨rfl,⟨nd,rfl⟩⟩;refine⟨_,rfl,?_⟩))
                  go_ret
                  exact⟨by first | rfl | (simp;done) | (simp [*];done),by repeat (first | exact Drawn0.refl _ | apply Drawn0.step)⟩
                ·rw [if_neg c13] at H;exact absurd H (by simp)
               ·rw [if_neg c12] at H;exact absurd H (by simp)
              ·rw [if_neg c11] at H;exact absurd H (by simp)
             ·rw [if_neg c10] at H;exact absurd H (by simp)
            ·rw [if_neg c9] at H;have c9b0:=decide_eq_false c9;clear c9;have H':=q_ H;clear H;go_wp2
             go_roundg k3
             case measure=>have:=HJ1.out;have:=HK2.out;have:=HK3.out;omega
             case rel=>exact⟨(wrap64 (aa+1)),rs_,H',⟨by have:=HJ1.out;have:=HK2.out;have:=HK3.out;omega⟩,by repeat (first | exact Drawn0.refl _ | apply Drawn0.step)⟩
         ·rw [if_neg c8] at H;have c8b0:=e3_ c8;have c8b1:=e4_ c8;have c8b2:((rd_L2 l0 aa).length==l0.length)=false:=by first | simpa using c8 | (simp at c8 ⊢;omega)
          obtain rfl:=Option.some.inj H;have p114:0≤(aa:Int):=od_;have q114:aa < (l0.length:Int):=od_;obtain⟨ag,ai,aj,e114,hx114_0,hl114_0,hi114_0⟩:=at_L2 HR0.out aa p114 q114;cases e114
          have HR114_0:=q_ hi114_0;have HC114_0:=q_ hl114_0;clear hi114_0 hl114_0;replace p114:=eq_true p114;replace q114:=eq_true q114;go_wp2
          go_ret
          exact⟨by first | rfl | (simp;done) | (simp [*];done),by repeat (first | exact Drawn0.refl _ | apply Drawn0.step)⟩
        ·rw [if_neg c7] at H;exact absurd H (by simp)
       ·rw [if_neg c6] at H;exact absurd H (by simp)
      ·rw [if_neg c5] at H;have c5b0:=decide_eq_false c5;clear c5;obtain rfl:=Option.some.inj H;go_wp2
       go_ret
       exact⟨by first | rfl | (simp;done) | (simp [*];done),by repeat (first | exact Drawn0.refl _ | apply Drawn0.step)⟩
mutual
def spec_l01Is.j0:Nat→Bool→List (List Int)→List Int→Option (Bool)
 | 0,_,_,_=>none
 | k+1,x16,ae,aa=>if x16=true then(some false) else(spec_l01Is.l0 k 0 ae aa)
def spec_l01Is.l0:Nat→Int→List (List Int)→List Int→Option (Bool)
 | 0,_,_,_=>none
 | k+1,x3,ae,aa=>if x3 < (aa.length:Int) then(if 0≤x3 then((spec_l01In.f (rd aa x3) (-100) 100).bind fun af=>(if af=true then(spec_l01Is.l0 k (wrap64 (x3+1)) ae aa) else(some false))) else(none)) else(some true)
end
def spec_l01Is.f (k:Nat) (aa:List (List Int)) (ae:List Int):Option (Bool):=(spec_l01Matrix.f k aa).bind fun af=>(if af=true then(spec_l01Is.j0 k ((ae.length:Int) !=(aa.length:Int)) aa ae) else(spec_l01Is.j0 k true aa ae))
theorem spec_l01Is.calls (k:Nat) (ai:Option Addr) (aj:Nat) (ae:List (List Int)) (ak:Option Addr) (aq:Nat) (aa:List Int) (r:Bool) (w:World) (aJ:Kd.C (Kd.slice 2 (Kd.int .i64)) w ai ae.length ae) (aK:ae.length≤aj) (aM:Kd.C (Kd.int .i64) w ak aa.length aa) (aN:aa.length≤aq) (h:spec_l01Is.f k ae aa=some r):
  Calls Try.prog 55 #[.agg #[.slice ai ae.length aj, .slice ak aa.length aq]] w fun e w'=>e= .returned (.bool r)∧Below w.heap.size w w':=by
 have hu27:=Try.underlying27;have HR0_0:=q_ aJ;have HC0_0:=q_ aK;clear aJ aK;have HR0_1:=q_ aM;have HC0_1:=q_ aN;clear aM aN;have HB:=q_ (Below.refl w.heap.size w);have H:((spec_l01Matrix.f k ae).bind fun av=>(if av=true then(spec_l01Is.j0 k ((aa.length:Int) !=(ae.length:Int)) ae aa) else(spec_l01Is.j0 k true ae aa)))=some r:=h;clear h;have HC2:=q_ H;clear H
 go_enter Try.func55,Try.ntmps55
 go_upto_region 1 with (first | ((with_reducible refine gate_dst (N:=1) rfl ?_);(try (refine gate_guard (by rfl) ?_;dsimp only));refine be_ 1 #[.slice ai ae.length aj, .slice ak aa.length aq] 27 ?_;intro ah hg w3 hbox hb;have af:=q_ (hbox);have bq:=gz_ w hg;have bu:=gz_ w hg;replace HB:=Bs_ hb;clear hb hbox hg))
 (try simp only [Act.put,List.setIfInBounds_toArray,List.set_cons_zero,List.set_cons_succ])
 go_cut [16] (fun v16 wc=> ∃(kq:Nat) (au:Bool),v16= .bool au∧Aside0 (spec_l01Is.j0 kq au ae aa=some r)∧Aside0 (kq≤k)∧Aside0 (wc.heap[ah]?=some (.cells #[(.slice ai ae.length aj),(.slice ak aa.length aq)] 27 (0,0)))∧Aside0 (Below w.heap.size w wc))
 case first=>
  have H:=HC2.out;clear HC2;replace H:=Option.bind_eq_some_iff.mp H;obtain⟨av,A40,H⟩:=H;replace H:(if av=true then(spec_l01Is.j0 k ((aa.length:Int) !=(ae.length:Int)) ae aa) else(spec_l01Is.j0 k true ae aa))=some r:=H;have A4:=q_ A40;clear A40
  by_cases c5:av=true
  ·subst c5;have H1:(spec_l01Is.j0 k ((aa.length:Int) !=(ae.length:Int)) ae aa)=some r:=by rw [if_pos rfl] at H;exact H
   clear H;have H:=H1;clear H1;have H':=q_ H;clear H;obtain⟨ay,az,aA,aC⟩:=c2_ af
   go_wp2_with (first | ((with_reducible refine gate_callee (f:=78) rfl ?_);refine gL_ 6 Try.func78 #[.slice ai ae.length aj] ?_;(with_reducible refine(spec_l01Matrix.calls k _ _ ae true _ ?aw ?ax A4.out).mono ?_);(case aw=>exact cb_ HR0_0.out HB.out);(case ax=>exact HC0_0.out);rintro e w' ⟨rfl,⟨nd,rfl⟩⟩;refine⟨_,rfl,?_⟩))
   go_meet
   case rel=>exact⟨_,(((aa.length:Int) !=(ae.length:Int))),rs_,H',⟨by first | omega | exact Nat.le_refl _⟩,⟨bk_⟩,⟨hb_⟩⟩
  ·replace c5:=Bool.eq_false_iff.mpr c5;subst c5;have H1:(spec_l01Is.j0 k true ae aa)=some r:=by rw [if_neg (show ¬ (false=true) by decide)] at H;exact H
   clear H;have H:=H1;clear H1;have H':=q_ H;clear H;obtain⟨aD,aG,aH,aI⟩:=c2_ af
   go_wp2_with (first | ((with_reducible refine gate_callee (f:=78) rfl ?_);refine gL_ 6 Try.func78 #[.slice ai ae.length aj] ?_;(with_reducible refine(spec_l01Matrix.calls k _ _ ae false _ ?aw ?ax A4.out).mono ?_);(case aw=>exact cb_ HR0_0.out HB.out);(case ax=>exact HC0_0.out);rintro e w' ⟨rfl,⟨nd,rfl⟩⟩;refine⟨_,rfl,?_⟩))
   go_meet
   case rel=>exact⟨_,(true),rs_,H',⟨by first | omega | exact Nat.le_refl _⟩,⟨bk_⟩,⟨hb_⟩⟩
 case rest=>
  clear HC2;(try clear c5);(try clear ay);(try clear az);(try clear aD);(try clear aG);(try clear aA);(try clear aC);(try clear aH);(try clear aI);obtain⟨kq,au,rfl,HA,HJ1,af,HB⟩:=hcut;cases kq with
  | zero=>exact absurd HA.out (by simp [spec_l01Is.j0])
  | succ kj1=>
   have H:=HA.out;clear HA;simp only [spec_l01Is.j0] at H
   by_cases c8:au=true
   ·subst c8;have H1:(some false)=some r:=by rw [if_pos rfl] at H;exact H
    clear H;have H:=H1;clear H1;obtain rfl:=Option.some.inj H;go_wp2
    go_ret
    exact⟨ew_,hb_⟩
   ·replace c8:=Bool.eq_false_iff.mpr c8;subst c8;have H1:(spec_l01Is.l0 kj1 0 ae aa)=some r:=by rw [if_neg (show ¬ (false=true) by decide)] at H;exact H
    clear H;have H:=H1;clear H1;have H':=q_ H;clear H;go_wp2
    go_loopg [3] kj1 (fun kq v3 w'=> ∃(ag:Int),v3= .int .i64 ag∧Aside0 (spec_l01Is.l0 kq ag ae aa=some r)∧Aside0 (kq≤kj1)∧Aside0 (w'.heap[ah]?=some (.cells #[(.slice ai ae.length aj),(.slice ak aa.length aq)] 27 (0,0)))∧Aside0 (Below w.heap.size w w'))
    case atStart=>exact⟨(0),rs_,H',⟨Nat.le_refl _⟩,⟨bk_⟩,⟨hb_⟩⟩
    case round=>
     clear H';(try clear c5);(try clear c8);(try clear ay);(try clear az);(try clear aD);(try clear aG);(try clear aA);(try clear aC);(try clear aH);(try clear aI);obtain⟨ag,rfl,HA,HK2,af,HB⟩:=hrel;cases gk with
     | zero=>exact absurd HA.out (by simp [spec_l01Is.l0])
     | succ k2=>
      have H:=HA.out;clear HA;simp only [spec_l01Is.l0] at H
      by_cases c9:ag < (aa.length:Int)
      ·rw [if_pos c9] at H;have c9b0:=decide_eq_true c9;clear c9
       by_cases c10:0≤ag
       ·rw [if_pos c10] at H;have c10b0:=decide_eq_true c10;clear c10;replace H:=Option.bind_eq_some_iff.mp H;obtain⟨aQ,A110,H⟩:=H;replace H:(if aQ=true then(spec_l01Is.l0 k2 (wrap64 (ag+1)) ae aa) else(some false))=some r:=H;have A11:=q_ A110;clear A110
        by_cases c12:aQ=true
        ·subst c12;have H1:(spec_l01Is.l0 k2 (wrap64 (ag+1)) ae aa)=some r:=by rw [if_pos rfl] at H;exact H
         clear H;have H:=H1;clear H1;have H':=q_ H;clear H;obtain⟨aU,aV,aW,aX⟩:=c2_ af;have p120:0≤(ag:Int):=od_;have q120:ag < (aa.length:Int):=od_;obtain⟨aT,e120,hx120_0⟩:=Kd.at_int HR0_1.out ag p120 q120;cases e120
         replace hx120_0:=bc_ HB.out hx120_0;replace p120:=eq_true p120;replace q120:=eq_true q120
         go_wp2_with (first | ((with_reducible refine gate_callee (f:=56) rfl ?_);refine gL_ 29 Try.func56 #[.int .i64 (rd aa ag), .int .i64 (-100), .int .i64 100] ?_;(with_reducible refine(spec_l01In.calls (rd aa ag) (-100) 100 true _ A11.out).mono ?_);rintro e w' ⟨rfl,⟨nd,rfl⟩⟩;refine⟨_,rfl,?_⟩))
         go_roundg k2
         case measure=>have:=HJ1.out;have:=HK2.out;omega
         case rel=>exact⟨(wrap64 (ag+1)),rs_,H',⟨by have:=HJ1.out;have:=HK2.out;omega⟩,⟨bk_⟩,⟨hb_⟩⟩
        ·replace c12:=Bool.eq_false_iff.mpr c12;subst c12;have H1:(some false)=some r:=by rw [if_neg (show ¬ (false=true) by decide)] at H;exact H
         clear H;have H:=H1;clear H1;obtain rfl:=Option.some.inj H;obtain⟨aY,aZ,a9,ba⟩:=c2_ af;have p120:0≤(ag:Int):=od_;have q120:ag < (aa.length:Int):=od_;obtain⟨aT,e120,hx120_0⟩:=Kd.at_int HR0_1.out ag p120 q120;cases e120
         replace hx120_0:=bc_ HB.out hx120_0;replace p120:=eq_true p120;replace q120:=eq_true q120
         go_wp2_with (first | ((with_reducible refine gate_callee (f:=56) rfl ?_);refine gL_ 29 Try.func56 #[.int .i64 (rd aa ag), .int .i64 (-100), .int .i64 100] ?_;(with_reducible refine(spec_l01In.calls (rd aa ag) (-100) 100 false _ A11.out).mono ?_);rintro e w' ⟨rfl,⟨nd,rfl⟩⟩;refine⟨_,rfl,?_⟩))
         go_ret
         exact⟨ew_,hb_⟩
       ·rw [if_neg c10] at H;exact absurd H (by simp)
      ·rw [if_neg c9] at H;have c9b0:=decide_eq_false c9;clear c9;obtain rfl:=Option.some.inj H;obtain⟨bf,bg,bh,bk⟩:=c2_ af;go_wp2
       go_ret
       exact⟨ew_,hb_⟩
mutual
def impl_part.l0:Nat→Int→Int→List (List Int)→List (List Int)→Int→Int→Option ((List (List Int)))
 | 0,_,_,_,_,_,_=>none
 | k+1,x1,x2,x7,x13,x14,x15=>if x15 < x14 then(if 0≤x15 then(if x15 < (x13.length:Int) then((impl_has.f x1 x15).bind fun aa=>(if aa=true then(impl_part.l1 k x1 x2 x7 ([]:List Int) x13 x14 x15 (rd_L2 x13 x15) ((rd_L2 x13 x15).length:Int) 0) else(impl_part.l0 k x1 x2 x7 x13 x14 (wrap64 (x15+1))))) else(none)) else(none)) else(some x7)
def impl_part.l1:Nat→Int→Int→List (List Int)→List Int→List (List Int)→Int→Int→List Int→Int→Int→Option ((List (List Int)))
 | 0,_,_,_,_,_,_,_,_,_,_=>none
 | k+1,x1,x2,x7,x10,x13,x14,x15,x24,x25,x26=>if x26 < x25 then(if 0≤x26 then(if x26 < (x24.length:Int) then((impl_has.f x2 x26).bind fun ae=>(if ae=true then(if x10.length < 17592186044416 then(impl_part.l1 k x1 x2 x7 (x10++ [rd x24 x26]) x13 x14 x15 x24 x25 (wrap64 (x26+1))) else(none)) else(impl_part.l1 k x1 x2 x7 x10 x13 x14 x15 x24 x25 (wrap64 (x26+1))))) else(none)) else(none)) else(if x7.length < 5864062014805 then(impl_part.l0 k x1 x2 (x7++ [x10]) x13 x14 (wrap64 (x15+1))) else(none))
end
def impl_part.f (k:Nat) (l0:List (List Int)) (a1:Int) (a2:Int):Option ((List (List Int))):=impl_part.l0 k a1 a2 ([]:List (List Int)) l0 (l0.length:Int) 0
theorem impl_part.calls (k:Nat) (A0:Option Addr) (c0:Nat) (l0:List (List Int)) (a1:Int) (a2:Int) (r:List (List Int)) (w:World) (hr0:Kd.C (Kd.slice 2 (Kd.int .i64)) w A0 l0.length l0) (hc0:l0.length≤c0) (h:impl_part.f k l0 a1 a2=some r):
  Calls Try.prog 48 #[.slice A0 l0.length c0, .int .i64 a1, .int .i64 a2] w fun e w'=> ∃v0_:Value,e= .returned (v0_)∧Kd.S (Kd.slice 2 (Kd.int .i64)) 25 w' w.heap.size (fun _=>True) v0_ r∧Below w.heap.size w w':=by
 have HR0:=q_ hr0;have HC0:=q_ hc0;clear hr0 hc0;have HB:=q_ (Below.refl w.heap.size w);have H:(impl_part.l0 k a1 a2 ([]:List (List Int)) l0 (l0.length:Int) 0)=some r:=h;clear h;have H':=q_ H;clear H
 go_enter Try.func48,Try.ntmps48
 go_wp2
 go_loopg [7,15] k (fun kq v7 v15 w'=> ∃(ag:List (List Int)) (aa:Int),v15= .int .i64 aa∧Aside0 (impl_part.l0 kq a1 a2 ag l0 (l0.length:Int) aa=some r)∧Aside0 (kq≤k)∧Aside0 (Kd.S (Kd.slice 2 (Kd.int .i64)) 25 w' w.heap.size (fun _=>True) v7 ag)∧Aside0 (Below w.heap.size w w'))
 case atStart=>exact⟨(([]:List (List Int))),(0),rs_,H',⟨Nat.le_refl _⟩,⟨by first | exact Kd.S_nil _ _ _ _ _ | exact Kd.N_nil _ _ _ _ _ | exact Kd.V_nil _ _ _ _ _ | exact Kd.Q_nil _ _ _ _ _ | exact Kd.R_nil _ _ _ _ _⟩,⟨hb_⟩⟩
 case round=>
  clear H';obtain⟨ag,aa,rfl,HA,HK1,ah,HB⟩:=hrel;cases gk with
  | zero=>exact absurd HA.out (by simp [impl_part.l0])
  | succ k1=>
   have H:=HA.out;clear HA;simp only [impl_part.l0] at H
   by_cases c4:aa < (l0.length:Int)
   ·rw [if_pos c4] at H;have c4b0:=decide_eq_true c4;clear c4
    by_cases c5:0≤aa
    ·rw [if_pos c5] at H;have c5b0:=decide_eq_true c5;clear c5
     by_cases c6:aa < (l0.length:Int)
     ·rw [if_pos c6] at H;have c6b0:=decide_eq_true c6;clear c6;replace H:=Option.bind_eq_some_iff.mp H;obtain⟨aj,A70,H⟩:=H;replace H:(if aj=true then(impl_part.l1 k1 a1 a2 ag ([]:List Int) l0 (l0.length:Int) aa (rd_L2 l0 aa) ((rd_L2 l0 aa).length:Int) 0) else(impl_part.l0 k1 a1 a2 ag l0 (l0.length:Int) (wrap64 (aa+1))))=some r:=H;have A7:=q_ A70;clear A70
      by_cases c8:aj=true
      ·subst c8;have H1:(impl_part.l1 k1 a1 a2 ag ([]:List Int) l0 (l0.length:Int) aa (rd_L2 l0 aa) ((rd_L2 l0 aa).length:Int) 0)=some r:=by rw [if_pos rfl] at H;exact H
       clear H;have H:=H1;clear H1;have H':=q_ H;clear H;have p214:0≤(aa:Int):=od_;have q214:aa < (l0.length:Int):=od_;obtain⟨az,ak,aq,e214,hx214_0,hl214_0,hi214_0⟩:=at_L2 HR0.out aa p214 q214;cases e214
       replace hx214_0:=bc_ HB.out hx214_0;have HR214_0:=q_ hi214_0;have HC214_0:=q_ hl214_0;clear hi214_0 hl214_0;replace p214:=eq_true p214;replace q214:=eq_true q214
       go_wp2_with (first | ((with_reducible refine gate_callee (f:=73) rfl ?_);refine gL_ 22 Try.func73 #[.int .i64 a1, .int .i64 aa] ?_;(with_reducible refine(impl_has.calls a1 aa true _ A7.out).mono ?_);rintro e w' ⟨rfl,⟨nd,rfl⟩⟩;refine⟨_,rfl,?_⟩))
       go_loopg [10,26] k1 (fun kq v10 v26 w'=> ∃(af:List Int) (ae:Int),v26= .int .i64 ae∧Aside0 (impl_part.l1 kq a1 a2 ag af l0 (l0.length:Int) aa (rd_L2 l0 aa) ((rd_L2 l0 aa).length:Int) ae=some r)∧Aside0 (kq≤k1)∧Aside0 (Kd.S (Kd.slice 2 (Kd.int .i64)) 25 w' w.heap.size (fun k_=>some k_≠(v10:Value).ownBlock) u7 ag)∧Aside0 (Kd.R (Kd.int .i64) 2 w' w.heap.size (fun _=>True) v10 af)∧Aside0 (Below w.heap.size w w'))
       case atStart=>exact⟨(([]:List Int)),(0),rs_,H',⟨Nat.le_refl _⟩,⟨kS_ ah.out (fun _ hk=>(by simp [Value.ownBlock]))⟩,⟨by first | exact Kd.R_nil _ _ _ _ _ | exact Kd.N_nil _ _ _ _ _ | exact Kd.V_nil _ _ _ _ _ | exact Kd.Q_nil _ _ _ _ _ | exact Kd.S_nil _ _ _ _ _⟩,⟨hb_⟩⟩
       case round=>
        clear H';(try clear c4b0);(try clear c5);(try clear c5b0);(try clear c6);(try clear c6b0);(try clear c8);(try clear hx214_0);(try clear p214);(try clear q214);obtain⟨af,ae,rfl,HA,HK2,ah,ai,HB⟩:=hrel;cases gk with
        | zero=>exact absurd HA.out (by simp [impl_part.l1])
        | succ k2=>
         have H:=HA.out;clear HA;simp only [impl_part.l1] at H
         by_cases c9:ae < ((rd_L2 l0 aa).length:Int)
         ·rw [if_pos c9] at H;have c9b0:=decide_eq_true c9;clear c9
          by_cases c10:0≤ae
          ·rw [if_pos c10] at H;have c10b0:=decide_eq_true c10;clear c10
           by_cases c11:ae < ((rd_L2 l0 aa).length:Int)
           ·rw [if_pos c11] at H;have c11b0:=decide_eq_true c11;clear c11;replace H:=Option.bind_eq_some_iff.mp H;obtain⟨au,A120,H⟩:=H;replace H:(if au=true then(if af.length < 17592186044416 then(impl_part.l1 k2 a1 a2 ag (af++ [rd (rd_L2 l0 aa) ae]) l0 (l0.length:Int) aa (rd_L2 l0 aa) ((rd_L2 l0 aa).length:Int) (wrap64 (ae+1))) else(none)) else(impl_part.l1 k2 a1 a2 ag af l0 (l0.length:Int) aa (rd_L2 l0 aa) ((rd_L2 l0 aa).length:Int) (wrap64 (ae+1))))=some r:=H;have A12:=q_ A120;clear A120
            by_cases c13:au=true
            ·subst c13;have H1:(if af.length < 17592186044416 then(impl_part.l1 k2 a1 a2 ag (af++ [rd (rd_L2 l0 aa) ae]) l0 (l0.length:Int) aa (rd_L2 l0 aa) ((rd_L2 l0 aa).length:Int) (wrap64 (ae+1))) else(none))=some r:=by rw [if_pos rfl] at H;exact H
             clear H;have H:=H1;clear H1
             by_cases c14:af.length < 17592186044416
             ·rw [if_pos c14] at H;have aA:=q_ c14;clear c14;obtain⟨av,hy⟩: ∃y_:List Int,y_=(af++ [rd (rd_L2 l0 aa) ae]):=⟨_,rfl⟩
              replace H:(impl_part.l1 k2 a1 a2 ag av l0 (l0.length:Int) aa (rd_L2 l0 aa) ((rd_L2 l0 aa).length:Int) (wrap64 (ae+1)))=some r:=hh_;have aC:=q_ hy;clear hy;have H':=q_ H;clear H;have p216:0≤(ae:Int):=od_;have q216:ae < ((rd_L2 l0 aa).length:Int):=od_;obtain⟨aD,e216,hx216_0⟩:=Kd.at_int HR214_0.out ae p216 q216;cases e216
              replace hx216_0:=bc_ HB.out hx216_0;replace p216:=eq_true p216;replace q216:=eq_true q216
              go_wp2_with (first | ((with_reducible refine gate_callee (f:=73) rfl ?_);refine gL_ 33 Try.func73 #[.int .i64 a2, .int .i64 ae] ?_;(with_reducible refine(impl_has.calls a2 ae true _ A12.out).mono ?_);rintro e w' ⟨rfl,⟨nd,rfl⟩⟩;refine⟨_,rfl,?_⟩) | ((with_reducible refine gate_builtin (b:= .append) (xs:= #[.tmp 34, .tmp 36]) rfl ?_);at_builtin;refine Kd.R_append (Kd.int .i64) (w0:=w) w.heap.size rfl (.tmp 34) (.tmp 36) 25 2 (.int .i64 0) 8 rfl Try.underlying25 info2 rfl (by decide) (by omega) u10 af (rd (rd_L2 l0 aa) ae) [.int .i64 (rd (rd_L2 l0 aa) ae)] (fun _=>True) (fun _=>False) rfl rfl ?aP (fun _ hk=>hk.elim) ?aF ?aO ?aB ?aS ?aL ?_;(case aP=>exact rfl);(case aB=>exact hb_);(case aF=>exact(fun _ _=>trivial));(case aO=>exact(ro_ ai.out));(case aS=>exact bz_);(case aL=>have:=aA.out;omega);intro aM w15 ho hb hg hat;rw [← aC.out] at ho;replace ah:=q_ (Kd.S_after (ok:=(fun _=>True)) (kS_ ah.out (fun _ hk=>⟨trivial,hk⟩)) hg hat);replace HB:=q_ (hb);have aG:=q_ (ho);clear ai ho hb hg hat))
              go_roundg k2
              case measure=>have:=HK1.out;have:=HK2.out;omega
              case rel=>exact⟨(av),(wrap64 (ae+1)),rs_,H',⟨by have:=HK1.out;have:=HK2.out;omega⟩,⟨kS_ ah.out (fun _ hk=>hk.2)⟩,⟨ro_ aG.out⟩,⟨hb_⟩⟩
             ·rw [if_neg c14] at H;exact absurd H (by simp)
            ·replace c13:=Bool.eq_false_iff.mpr c13;subst c13;have H1:(impl_part.l1 k2 a1 a2 ag af l0 (l0.length:Int) aa (rd_L2 l0 aa) ((rd_L2 l0 aa).length:Int) (wrap64 (ae+1)))=some r:=by rw [if_neg (show ¬ (false=true) by decide)] at H;exact H
             clear H;have H:=H1;clear H1;have H':=q_ H;clear H;have p216:0≤(ae:Int):=od_;have q216:ae < ((rd_L2 l0 aa).length:Int):=od_;obtain⟨aD,e216,hx216_0⟩:=Kd.at_int HR214_0.out ae p216 q216;cases e216
             replace hx216_0:=bc_ HB.out hx216_0;replace p216:=eq_true p216;replace q216:=eq_true q216
             go_wp2_with (first | ((with_reducible refine gate_callee (f:=73) rfl ?_);refine gL_ 33 Try.func73 #[.int .i64 a2, .int .i64 ae] ?_;(with_reducible refine(impl_has.calls a2 ae false _ A12.out).mono ?_);rintro e w' ⟨rfl,⟨nd,rfl⟩⟩;refine⟨_,rfl,?_⟩))
             go_roundg k2
             case measure=>have:=HK1.out;have:=HK2.out;omega
             case rel=>exact⟨(af),(wrap64 (ae+1)),rs_,H',⟨by have:=HK1.out;have:=HK2.out;omega⟩,⟨so_ ah.out⟩,⟨ro_ ai.out⟩,⟨hb_⟩⟩
           ·rw [if_neg c11] at H;exact absurd H (by simp)
          ·rw [if_neg c10] at H;exact absurd H (by simp)
         ·rw [if_neg c9] at H;have c9b0:=decide_eq_false c9;clear c9
          by_cases c16:ag.length < 5864062014805
          ·rw [if_pos c16] at H;have aH:=q_ c16;clear c16;obtain⟨aw,hy⟩: ∃y_:List (List Int),y_=(ag++ [af]):=⟨_,rfl⟩
           replace H:(impl_part.l0 k2 a1 a2 aw l0 (l0.length:Int) (wrap64 (aa+1)))=some r:=hh_;have aI:=q_ hy;clear hy;have H':=q_ H;clear H;obtain⟨ax,ay,aK⟩:=Kd.R_slice ai.out;subst aK
           go_wp2_with (first | ((with_reducible refine gate_builtin (b:= .append) (xs:= #[.tmp 39, .tmp 41]) rfl ?_);at_builtin;refine Kd.S_append (Kd.slice 2 (Kd.int .i64)) (w0:=w) w.heap.size rfl (.tmp 39) (.tmp 41) 24 25 (.slice none 0 0) 24 rfl Try.underlying24 info25 rfl (by decide) (by omega) u7 ag af [.slice ax af.length ay] (fun _=>True) (fun k_=>some k_=(.slice ax af.length ay:Value).ownBlock) rfl rfl ?aP (fun k_ hk_=>((Kd.R_mono (ok':=fun k_=>((fun _=>True)) k_∧some k_≠(u7:Value).ownBlock) (Kd.R_apart' (ai.out) (Kd.S_typed ah.out) (by decide)) (fun k_ hk=>⟨trivial,hk.2⟩))).1 k_ hk_.symm) ?aF ?aO ?aB ?aS ?aL ?_;(case aP=>exact Kd.M_row (Kd.R_mono (Kd.R_tight rfl (Kd.R_mono (ok':=fun k_=>((fun _=>True)) k_∧some k_≠(u7:Value).ownBlock) (Kd.R_apart' (ai.out) (Kd.S_typed ah.out) (by decide)) (fun k_ hk=>⟨trivial,hk.2⟩))) (fun _ h_=>h_)));(case aB=>exact hb_);(case aF=>exact(fun _ _=>trivial));(case aO=>exact(kS_ ah.out (fun k_ hk=>⟨trivial,fun e_=>hk e_⟩)));(case aS=>exact bz_);(case aL=>have:=aH.out;omega);intro aN w17 ho hb hg hat;rw [← aI.out] at ho;replace HB:=q_ (hb);have aJ:=q_ (ho);clear ah ai ho hb hg hat))
           go_roundg k2
           case measure=>have:=HK1.out;have:=HK2.out;omega
           case rel=>exact⟨(aw),(wrap64 (aa+1)),rs_,H',⟨by have:=HK1.out;have:=HK2.out;omega⟩,⟨so_ aJ.out⟩,⟨hb_⟩⟩
          ·rw [if_neg c16] at H;exact absurd H (by simp)
      ·replace c8:=Bool.eq_false_iff.mpr c8;subst c8;have H1:(impl_part.l0 k1 a1 a2 ag l0 (l0.length:Int) (wrap64 (aa+1)))=some r:=by rw [if_neg (show ¬ (false=true) by decide)] at H;exact H
       clear H;have H:=H1;clear H1;have H':=q_ H;clear H;have p214:0≤(aa:Int):=od_;have q214:aa < (l0.length:Int):=od_;obtain⟨az,ak,aq,e214,hx214_0,hl214_0,hi214_0⟩:=at_L2 HR0.out aa p214 q214;cases e214
       replace hx214_0:=bc_ HB.out hx214_0;have HR214_0:=q_ hi214_0;have HC214_0:=q_ hl214_0;clear hi214_0 hl214_0;replace p214:=eq_true p214;replace q214:=eq_true q214
       go_wp2_with (first | ((with_reducible refine gate_callee (f:=73) rfl ?_);refine gL_ 22 Try.func73 #[.int .i64 a1, .int .i64 aa] ?_;(with_reducible refine(impl_has.calls a1 aa false _ A7.out).mono ?_);rintro e w' ⟨rfl,⟨nd,rfl⟩⟩;refine⟨_,rfl,?_⟩))
       go_roundg k1
       case measure=>have:=HK1.out;omega
       case rel=>exact⟨(ag),(wrap64 (aa+1)),rs_,H',⟨by have:=HK1.out;omega⟩,⟨so_ ah.out⟩,⟨hb_⟩⟩
     ·rw [if_neg c6] at H;exact absurd H (by simp)
    ·rw [if_neg c5] at H;exact absurd H (by simp)
   ·rw [if_neg c4] at H;have c4b0:=decide_eq_false c4;clear c4;obtain rfl:=Option.some.inj H;go_wp2
    go_ret
    exact⟨_,ew_,so_ ah.out,hb_⟩
end Go.Proofs.Ytbjljcpngbhkeaa.Pr
end
section
namespace Go.Proofs.Ytbjljcpngbhkeaa.La
end Go.Proofs.Ytbjljcpngbhkeaa.La
namespace Go.Proofs.Ytbjljcpngbhkeaa.Hm
open Go.RowKit Wz.PrintWords Wz.PrintLast Wz.PrintMore Pr
abbrev SS (w0 w:World) (ok:Nat→Prop) (v:Value) (l:List (List Int)):Prop:=Kd.S (Kd.slice 2 (Kd.int .i64)) 25 w w0.heap.size ok v l
end Go.Proofs.Ytbjljcpngbhkeaa.Hm
end
section
namespace Go.Proofs.Ytbjljcpngbhkeaa.Dt
abbrev Mat:=Nat→Nat→Int
def sm:Nat→(Nat→Int)→Int
 | 0,_=>0
 | n+1,f=>sm n f+f n
theorem sm_congr {n:Nat} {f g:Nat→Int} (h: ∀i,i < n→f i=g i):sm n f=sm n g:=by
 induction n with
 | zero=>rfl
 | succ n ih=>simp only [sm];rw [ih (fun i hi=>h i (by omega)),h n (by omega)]
theorem sm_add (n:Nat) (f g:Nat→Int):sm n (fun i=>f i+g i)=sm n f+sm n g:=by
 induction n with
 | zero=>rfl
 | succ n ih=>simp only [sm];rw [ih];omega
theorem sm_mul (n:Nat) (c:Int) (f:Nat→Int):sm n (fun i=>c*f i)=c*sm n f:=by
 induction n with
 | zero=>simp [sm]
 | succ n ih=>simp only [sm];rw [ih,Int.mul_add]
theorem sm_mulr (n:Nat) (c:Int) (f:Nat→Int):sm n (fun i=>f i*c)=sm n f*c:=by
 rw [Int.mul_comm, ← sm_mul];exact sm_congr (fun i _=>Int.mul_comm _ _)
theorem sm_zero (n:Nat):sm n (fun _=>0)=0:=by
 induction n with
 | zero=>rfl
 | succ n ih=>simp only [sm];rw [ih];rfl
theorem sm_none {n:Nat} {f:Nat→Int} (h: ∀i,i < n→f i=0):sm n f=0:=by rw [sm_congr h,sm_zero]
theorem sm_one {n:Nat} {f:Nat→Int} {k:Nat} (hk:k < n) (h: ∀i,i < n→i≠k→f i=0):sm n f=f k:=by
 induction n with
 | zero=>omega
 | succ n ih=>
  simp only [sm]
  by_cases c:k=n
  ·subst c
   rw [sm_none (fun i hi=>h i (by omega) (by omega))];omega
  ·rw [ih (by omega) (fun i hi=>h i (by omega)),h n (by omega) (by omega)];omega
theorem sm_two {n:Nat} {f:Nat→Int} {k l:Nat} (hk:k < n) (hl:l < n) (hkl:k≠l) (h: ∀i,i < n→i≠k→i≠l→f i=0):sm n f=f k+f l:=by
 have e:sm n f=sm n (fun i=>(if i=k then f i else 0)+(if i=k then 0 else f i)):=sm_congr (fun i _=>by split <;> omega)
 rw [e,sm_add,sm_one hk (fun i _ hi=>by simp [hi]),sm_one hl]
 ·simp [Ne.symm hkl]
 ·intro i hi hil
  by_cases c:i=k
  ·simp [c]
  ·simp [c,h i hi c hil]
theorem sm_cut {n m:Nat} {f:Nat→Int} (h: ∀i,n≤i→i < n+m→f i=0):sm (n+m) f=sm n f:=by
 induction m with
 | zero=>rfl
 | succ m ih=>
  rw [← Nat.add_assoc];simp only [sm]
  rw [ih (fun i h1 h2=>h i h1 (by omega)),h (n+m) (by omega) (by omega)];omega
theorem sm_split (n m:Nat) (f:Nat→Int):sm (n+m) f=sm n f+sm m (fun i=>f (n+i)):=by
 induction m with
 | zero=>simp [sm]
 | succ m ih=>rw [← Nat.add_assoc];simp only [sm];rw [ih];omega
theorem sm_first (n:Nat) (f:Nat→Int):sm (n+1) f=f 0+sm n (fun i=>f (i+1)):=by
 rw [Nat.add_comm,sm_split]
 simp only [sm]
 rw [sm_congr (f:=fun i=>f (1+i)) (g:=fun i=>f (i+1)) (fun i _=>by rw [Nat.add_comm])]
 omega
def up (k j:Nat):Nat:=if j < k then j else j+1
def dn (k j:Nat):Nat:=if j < k then j else j - 1
theorem up_ne (k j:Nat):up k j≠k:=by unfold up;split <;> omega
theorem up_dn {k j:Nat} (h:j≠k):up k (dn k j)=j:=by unfold up dn;grind
theorem dn_up (k j:Nat):dn k (up k j)=j:=by unfold up dn;grind
theorem up_lt {k j n:Nat} (h:j < n):up k j < n+1:=by unfold up;split <;> omega
theorem dn_lt {k j n:Nat} (h:j < n+1) (hk:k < n+1) (hj:j≠k):dn k j < n:=by unfold dn;split <;> omega
def mnr (k:Nat) (A:Mat):Mat:=fun i j=>A (i+1) (up k j)
def sg (k:Nat):Int:=if k % 2=1 then -1 else 1
theorem sg_succ (k:Nat):sg (k+1)= - sg k:=by unfold sg;split <;> split <;> omega
theorem sg_sq (k:Nat):sg k*sg k=1:=by unfold sg;split <;> rfl
def det:Nat→Mat→Int
 | 0,_=>1
 | n+1,A=>sm (n+1) (fun k=>sg k*(A 0 k*det n (mnr k A)))
theorem det_succ (n:Nat) (A:Mat):det (n+1) A=sm (n+1) (fun k=>sg k*(A 0 k*det n (mnr k A))):=rfl
theorem det_congr {n:Nat}: ∀ {A B:Mat},(∀i j,i < n→j < n→A i j=B i j)→det n A=det n B:=by
 induction n with
 | zero=>intro A B _;rfl
 | succ n ih=>
  intro A B h
  unfold det
  refine sm_congr (fun k hk=>?_)
  rw [h 0 k (by omega) hk,ih (A:=mnr k A) (B:=mnr k B) (fun i j hi hj=>h _ _ (by omega) (up_lt hj))]
theorem det_col_lin {n:Nat}: ∀ {A B C:Mat} {c:Nat} {s t:Int},c < n→(∀i,i < n→A i c=s*B i c+t*C i c)→(∀i j,i < n→j < n→j≠c→A i j=B i j∧A i j=C i j)→det n A=s*det n B+t*det n C:=by
 induction n with
 | zero=>intro A B C c s t hc;omega
 | succ n ih=>
  intro A B C c s t hc h ho
  unfold det
  rw [← sm_mul, ← sm_mul, ← sm_add]
  refine sm_congr (fun k hk=>?_)
  by_cases e:k=c
  ·subst e
   have e1:det n (mnr k A)=det n (mnr k B):=det_congr (fun i j hi hj=>(ho _ _ (by omega) (up_lt hj) (up_ne k j)).1)
   have e2:det n (mnr k A)=det n (mnr k C):=det_congr (fun i j hi hj=>(ho _ _ (by omega) (up_lt hj) (up_ne k j)).2)
   rw [h 0 (by omega), ← e1, ← e2]
   grind
  ·have key:=ih (A:=mnr k A) (B:=mnr k B) (C:=mnr k C) (c:=dn k c) (s:=s) (t:=t) (dn_lt hc hk (Ne.symm e)) (fun i hi=>by unfold mnr;rw [up_dn (Ne.symm e)];exact h _ (by omega)) (fun i j hi hj hjc=>ho _ _ (by omega) (up_lt hj) (fun hh=>hjc (by rw [← hh,dn_up])))
   have o:=ho 0 k (by omega) hk e
   rw [key, ← o.1, ← o.2]
   grind
def cset (c:Nat) (v:Nat→Int) (A:Mat):Mat:=fun i j=>if j=c then v i else A i j
def rset (r:Nat) (v:Nat→Int) (A:Mat):Mat:=fun i j=>if i=r then v j else A i j
def tr (A:Mat):Mat:=fun i j=>A j i
def one:Mat:=fun i j=>if i=j then 1 else 0
def mul (n:Nat) (A B:Mat):Mat:=fun i j=>sm n (fun k=>A i k*B k j)
theorem det_adj_eq {n:Nat}: ∀ {A:Mat} {c:Nat},c+1 < n→(∀i,i < n→A i c=A i (c+1))→det n A=0:=by
 induction n with
 | zero=>intro A c hc;omega
 | succ n ih=>
  intro A c hc h
  unfold det
  rw [sm_two (k:=c) (l:=c+1) (by omega) (by omega) (by omega)]
  ·have e:det n (mnr c A)=det n (mnr (c+1) A):=det_congr (fun i j hi hj=>by
    unfold mnr up
    by_cases e:j=c
    ·subst e
     simp only [Nat.lt_irrefl,if_false,Nat.lt_succ_self,if_true]
     exact(h _ (by omega)).symm
    ·by_cases e2:j < c
     ·rw [if_pos e2,if_pos (by omega)]
     ·rw [if_neg e2,if_neg (by omega)])
   rw [sg_succ, ← e, ← h 0 (by omega)]
   grind
  ·intro k hk h1 h2
   rw [ih (A:=mnr k A) (c:=dn k c) (by unfold dn;split <;> omega) (fun i hi=>?_)]
   ·simp
   ·unfold mnr
    rw [up_dn (Ne.symm h1),show dn k c+1=dn k (c+1) from by unfold dn;split <;> split <;> omega,up_dn (Ne.symm h2)]
    exact h _ (by omega)
theorem det_cadd {n c:Nat} (hc:c < n) (u v:Nat→Int) (A:Mat) (s t:Int):det n (cset c (fun i=>s*u i+t*v i) A)=s*det n (cset c u A)+t*det n (cset c v A):=
 det_col_lin hc (fun i _=>by simp [cset]) (fun i j _ _ h=>by simp [cset,h])
theorem det_adj_swap {n c:Nat} (hc:c+1 < n) {A B:Mat} (h: ∀i,i < n→B i c=A i (c+1)∧B i (c+1)=A i c) (ho: ∀i j,i < n→j < n→j≠c→j≠c+1→B i j=A i j):det n B= - det n A:=by
 let W (u v:Nat→Int):Mat:=cset c u (cset (c+1) v A)
 let x:Nat→Int:=fun i=>A i c
 let y:Nat→Int:=fun i=>A i (c+1)
 have z (u v:Nat→Int) (e: ∀i,u i=v i):det n (W u v)=0:=det_adj_eq hc (fun i hi=>by simp [W,cset,e])
 have l1 (u v w:Nat→Int):det n (W (fun i=>1*u i+1*v i) w)=1*det n (W u w)+1*det n (W v w):=det_cadd (by omega) u v _ 1 1
 have l2 (u v w:Nat→Int):det n (W w (fun i=>1*u i+1*v i))=1*det n (W w u)+1*det n (W w v):=
  det_col_lin (c:=c+1) hc (fun i _=>by simp [W,cset]) (fun i j _ _ h=>by by_cases e:j=c <;> simp [W,cset,h,e])
 have a:=z (fun i=>1*x i+1*y i) (fun i=>1*x i+1*y i) (fun _=>rfl)
 rw [l1,l2,l2,z x x (fun _=>rfl),z y y (fun _=>rfl)] at a
 have ea:det n (W x y)=det n A:=det_congr (fun i j _ _=>by by_cases e:j=c <;> by_cases e2:j=c+1 <;> simp [W,cset,x,y,e,e2])
 have eb:det n (W y x)=det n B:=det_congr (fun i j hi hj=>by
  by_cases e:j=c
  ·subst e;simp [W,cset,y,(h i hi).1]
  ·by_cases e2:j=c+1
   ·subst e2;simp [W,cset,x,(h i hi).2]
   ·simp [W,cset,e,e2,ho i j hi hj e e2])
 rw [ea,eb] at a
 omega
theorem det_col_eq {n:Nat}: ∀(q:Nat) {A:Mat} {c d:Nat},d=c+1+q→d < n→(∀i,i < n→A i c=A i d)→det n A=0:=by
 intro q
 induction q with
 | zero=>intro A c d e hd h;subst e;exact det_adj_eq hd h
 | succ q ih=>
  intro A c d e hd h
  have k:=ih (A:=fun i j=>if j=c+1+q then A i (c+1+q+1) else if j=c+1+q+1 then A i (c+1+q) else A i j) (c:=c) (d:=c+1+q) rfl (by omega) (fun i hi=>by
   simp only [if_neg (show ¬ c=c+1+q by omega),if_neg (show ¬ c=c+1+q+1 by omega),if_true]
   rw [h i hi,e];rfl)
  have s:=det_adj_swap (n:=n) (c:=c+1+q) (by omega) (A:=A) (B:=fun i j=>if j=c+1+q then A i (c+1+q+1) else if j=c+1+q+1 then A i (c+1+q) else A i j) (fun i hi=>⟨by simp,by simp⟩) (fun i j _ _ h1 h2=>by simp [h1,h2])
  omega
theorem det_col_alt {n c d:Nat} {A:Mat} (hc:c < n) (hd:d < n) (hcd:c≠d) (h: ∀i,i < n→A i c=A i d):det n A=0:=by
 by_cases e:c < d
 ·exact det_col_eq (d - c - 1) (by omega) hd h
 ·exact det_col_eq (c - d - 1) (by omega) hc (fun i hi=>(h i hi).symm)
structure Form (n:Nat) (f:Mat→Int):Prop where
 cong: ∀A B:Mat,(∀i j,i < n→j < n→A i j=B i j)→f A=f B
 lin: ∀(A:Mat) (r:Nat) (u v:Nat→Int) (s t:Int),r < n→f (rset r (fun j=>s*u j+t*v j) A)=s*f (rset r u A)+t*f (rset r v A)
 alt: ∀(A:Mat) (r q:Nat),r < n→q < n→r≠q→(∀j,j < n→A r j=A q j)→f A=0
theorem rset_self (r:Nat) (A:Mat):rset r (A r) A=A:=by funext i j;unfold rset;split <;> simp_all
theorem Form.sums {n:Nat} {f:Mat→Int} (F:Form n f) {r:Nat} (hr:r < n) (A:Mat) (m:Nat) (c:Nat→Int) (v:Nat→Nat→Int):f (rset r (fun j=>sm m (fun k=>c k*v k j)) A)=sm m (fun k=>c k*f (rset r (v k) A)):=by
 induction m with
 | zero=>
  have:=F.lin A r (fun _=>0) (fun _=>0) 0 0 hr
  simp only [sm] at*
  simpa using this
 | succ m ih=>
  simp only [sm]
  have:=F.lin A r (fun j=>sm m (fun k=>c k*v k j)) (v m) 1 (c m) hr
  simp only [Int.one_mul] at this
  rw [this,ih]
theorem Form.swap {n:Nat} {f:Mat→Int} (F:Form n f) {r q:Nat} (hr:r < n) (hq:q < n) (hrq:r≠q) {A B:Mat} (h: ∀j,j < n→B r j=A q j∧B q j=A r j) (ho: ∀i j,i < n→j < n→i≠r→i≠q→B i j=A i j):f B= - f A:=by
 let W (u v:Nat→Int):Mat:=rset r u (rset q v A)
 have z (u v:Nat→Int) (e: ∀i,u i=v i):f (W u v)=0:=F.alt _ r q hr hq hrq (fun j _=>by simp [W,rset,e,Ne.symm hrq])
 have l1 (u v w:Nat→Int):f (W (fun i=>1*u i+1*v i) w)=1*f (W u w)+1*f (W v w):=F.lin _ r u v 1 1 hr
 have c (u v:Nat→Int):W u v=rset q v (rset r u A):=by
  funext i j;simp only [W,rset]
  by_cases e:i=r
  ·subst e;simp [hrq]
  ·simp [e]
 have l2 (u v w:Nat→Int):f (W w (fun i=>1*u i+1*v i))=1*f (W w u)+1*f (W w v):=by
  rw [c,c,c];exact F.lin _ q u v 1 1 hq
 have a:=z (fun i=>1*A r i+1*A q i) (fun i=>1*A r i+1*A q i) (fun _=>rfl)
 rw [l1,l2,l2,z (A r) (A r) (fun _=>rfl),z (A q) (A q) (fun _=>rfl)] at a
 have ea:f (W (A r) (A q))=f A:=F.cong _ _ (fun i j _ _=>by simp only [W,rset];grind)
 have eb:f (W (A q) (A r))=f B:=F.cong _ _ (fun i j hi hj=>by
  by_cases e:i=r
  ·subst e;simp [W,rset,(h j hj).1]
  ·by_cases e2:i=q
   ·subst e2;simp [W,rset,(h j hj).2,e]
   ·simp [W,rset,e,e2,ho i j hi hj e e2])
 rw [ea,eb] at a
 omega
theorem Form.addrow {n:Nat} {f:Mat→Int} (F:Form n f) {r q:Nat} (hr:r < n) (hq:q < n) (hrq:r≠q) (A:Mat) (t:Int):f (rset r (fun j=>A r j+t*A q j) A)=f A:=by
 have l:=F.lin A r (A r) (A q) 1 t hr
 simp only [Int.one_mul] at l
 rw [l,rset_self,F.alt (rset r (A q) A) r q hr hq hrq (fun j _=>by simp [rset,Ne.symm hrq])]
 omega
def emb (k:Nat) (B:Mat):Mat
 | 0,j=>if j=k then 1 else 0
 | i+1,j=>if j=k then 0 else B i (dn k j)
theorem Form.clean {n:Nat} {f:Mat→Int} (F:Form (n+1) f) {k:Nat} (hk:k < n+1) (A:Mat): ∀m,m≤n→f (rset 0 (fun j=>if j=k then 1 else 0) A)=f (fun i j=>if i=0 then(if j=k then 1 else 0) else if i≤m∧j=k then 0 else A i j):=by
 intro m
 induction m with
 | zero=>intro _;exact F.cong _ _ (fun i j _ _=>by by_cases e:i=0 <;> simp [rset,e])
 | succ m ih=>
  intro hm
  rw [ih (by omega)]
  rw [← F.addrow (r:=m+1) (q:=0) (by omega) (by omega) (by omega) _ (- A (m+1) k)]
  refine F.cong _ _ (fun i j hi hj=>?_)
  by_cases e:i=m+1
  ·subst e
   by_cases e2:j=k
   ·subst e2;simp [rset];omega
   ·simp [rset,e2]
  ·by_cases e0:i=0
   ·simp [rset,e0]
   ·have:(i≤m∧j=k)↔(i≤m+1∧j=k):=by constructor <;> intro h <;> omega
    simp [rset,e,e0,this]
theorem Form.emb_sg {n:Nat} {f:Mat→Int} (F:Form (n+1) f): ∀k,k < n+1→f (emb k one)=sg k*f one:=by
 intro k
 induction k with
 | zero=>
  intro _
  rw [show sg 0=1 from rfl,Int.one_mul]
  refine F.cong _ _ (fun i j _ _=>?_)
  cases i with
  | zero=>unfold emb one;by_cases e:j=0 <;> simp [e,eq_comm]
  | succ i=>unfold emb one dn;cases j with
   | zero=>simp
   | succ j=>simp
 | succ k ih=>
  intro hk
  rw [F.swap (r:=0) (q:=k+1) (A:=emb k one) (by omega) (by omega) (by omega),ih (by omega),sg_succ]
  ·grind
  ·intro j hj
   refine⟨?_,?_⟩
   ·simp only [emb,one,dn];grind
   ·simp only [emb,one,dn];grind
  ·intro i j hi hj h0 h1
   cases i with
   | zero=>exact absurd rfl h0
   | succ i=>simp only [emb,one,dn];grind
theorem Form.uniq {n:Nat}: ∀ {f:Mat→Int},Form n f→ ∀A,f A=det n A*f one:=by
 induction n with
 | zero=>intro f F A;rw [show det 0 A=1 from rfl,Int.one_mul];exact F.cong _ _ (fun i j hi _=>absurd hi (Nat.not_lt_zero _))
 | succ n ih=>
  intro f F A
  have e0:f A=f (rset 0 (fun j=>sm (n+1) (fun k=>A 0 k*(if j=k then 1 else 0))) A):=F.cong _ _ (fun i j hi hj=>by
   by_cases e:i=0
   ·subst e
    simp only [rset,if_true]
    rw [sm_one hj (fun i _ h=>by simp [Ne.symm h])];simp
   ·simp [rset,e])
  rw [e0,F.sums (by omega) A (n+1) (A 0) (fun k j=>if j=k then 1 else 0)]
  unfold det
  rw [← sm_mulr]
  refine sm_congr (fun k hk=>?_)
  have G:Form n (fun B=>f (emb k B)):=by
   have er (B:Mat) (r:Nat) (v:Nat→Int):emb k (rset r v B)=rset (r+1) (fun j=>if j=k then 0 else v (dn k j)) (emb k B):=by
    funext i j
    cases i with
    | zero=>simp [emb,rset]
    | succ i=>by_cases e:i=r <;> simp [emb,rset,e]
   refine⟨fun B C h=>F.cong _ _ (fun i j hi hj=>?_),fun B r u v s t hr=>?_,fun B r q hr hq hrq h=>?_⟩
   ·cases i with
    | zero=>rfl
    | succ i=>
     unfold emb
     by_cases e:j=k
     ·simp [e]
     ·simp only [if_neg e];exact h _ _ (by omega) (dn_lt hj hk e)
   ·simp only [er]
    rw [← F.lin _ _ _ _ s t (by omega)]
    congr 2
    funext j
    by_cases e:j=k <;> simp [e]
   ·refine F.alt _ (r+1) (q+1) (by omega) (by omega) (by omega) (fun j hj=>?_)
    unfold emb
    by_cases e:j=k
    ·simp [e]
    ·simp only [if_neg e];exact h _ (dn_lt hj hk e)
  have e1:f (rset 0 (fun j=>if j=k then 1 else 0) A)=f (emb k (mnr k A)):=by
   rw [F.clean hk A n (Nat.le_refl _)]
   refine F.cong _ _ (fun i j hi hj=>?_)
   cases i with
   | zero=>simp [emb]
   | succ i=>
    unfold emb mnr
    by_cases e:j=k
    ·simp [e];omega
    ·simp [e,up_dn e]
  have e2:=ih G (mnr k A)
  rw [e1,e2,F.emb_sg k hk]
  grind
theorem det_one (n:Nat):det n one=1:=by
 induction n with
 | zero=>rfl
 | succ n ih=>
  unfold det
  rw [sm_one (k:=0) (by omega) (fun i _ h=>by simp [one,Ne.symm h])]
  rw [det_congr (A:=mnr 0 one) (B:=one) (fun i j _ _=>by simp [mnr,one,up]),ih]
  rfl
theorem tr_form (n:Nat):Form n (fun A=>det n (tr A)):=by
 refine⟨fun A B h=>det_congr (fun i j hi hj=>h j i hj hi),fun A r u v s t hr=>?_,fun A r q hr hq hrq h=>det_col_alt hr hq hrq h⟩
 exact det_col_lin (c:=r) hr (fun i _=>by simp [tr,rset]) (fun i j _ _ h=>by simp [tr,rset,h])
theorem det_tr (n:Nat) (A:Mat):det n (tr A)=det n A:=by
 have h:det n (tr A)=det n A*det n (tr one):=(tr_form n).uniq A
 rw [h,det_congr (A:=tr one) (B:=one) (fun i j _ _=>by simp [tr,one,eq_comm]),det_one,Int.mul_one]
theorem det_form (n:Nat):Form n (det n):=by
 have e:det n=fun A=>det n (tr A):=by funext A;exact(det_tr n A).symm
 rw [e];exact tr_form n
theorem mul_form (n:Nat) (B:Mat):Form n (fun A=>det n (mul n A B)):=by
 have er (A:Mat) (r:Nat) (v:Nat→Int):mul n (rset r v A) B=rset r (fun j=>sm n (fun k=>v k*B k j)) (mul n A B):=by
  funext i j;by_cases e:i=r <;> simp [mul,rset,e]
 refine⟨fun A C h=>det_congr (fun i j hi hj=>sm_congr (fun k hk=>by rw [h i k hi hk])),fun A r u v s t hr=>?_,fun A r q hr hq hrq h=>?_⟩
 ·simp only [er]
  rw [← (det_form n).lin _ _ _ _ s t hr]
  congr 2
  funext j
  rw [← sm_mul, ← sm_mul, ← sm_add]
  exact sm_congr (fun k _=>by grind)
 ·exact(det_form n).alt _ r q hr hq hrq (fun j hj=>sm_congr (fun k hk=>by rw [h k hk]))
theorem det_mul (n:Nat) (A B:Mat):det n (mul n A B)=det n A*det n B:=by
 have h:det n (mul n A B)=det n A*det n (mul n one B):=(mul_form n B).uniq A
 rw [h,det_congr (A:=mul n one B) (B:=B) (fun i j hi _=>?_)]
 unfold mul
 rw [sm_one (k:=i) hi (fun k _ h=>by simp [one,Ne.symm h])]
 simp [one]
def sh (l:Nat) (A:Mat):Mat:=fun i j=>A (l+i) (l+j)
theorem det_block (d:Nat): ∀(l:Nat) (A:Mat),(∀i j,i < l→l≤j→j < l+d→A i j=0)→det (l+d) A=det l A*det d (sh l A):=by
 intro l
 induction l with
 | zero=>intro A _;rw [Nat.zero_add,show det 0 A=1 from rfl,Int.one_mul];exact det_congr (fun i j _ _=>by simp [sh])
 | succ l ih=>
  intro A h
  rw [show l+1+d=(l+d)+1 from by omega,det_succ,det_succ]
  rw [show l+d+1=(l+1)+d from by omega,sm_cut (fun i h1 h2=>by rw [h 0 i (by omega) h1 h2];simp), ← sm_mulr]
  refine sm_congr (fun k hk=>?_)
  rw [ih (mnr k A) (fun i j hi h1 h2=>by
   unfold mnr up
   rw [if_neg (by omega)]
   exact h _ _ (by omega) (by omega) (by omega))]
  rw [det_congr (A:=sh l (mnr k A)) (B:=sh (l+1) A) (fun i j _ _=>by
   unfold sh mnr up
   rw [if_neg (by omega),show l+i+1=l+1+i from by omega,show l+j+1=l+1+j from by omega])]
  grind
theorem det_block' (d l:Nat) (A:Mat) (h: ∀i j,l≤i→i < l+d→j < l→A i j=0):det (l+d) A=det l A*det d (sh l A):=by
 rw [← det_tr (l+d) A,det_block d l (tr A) (fun i j h1 h2 h3=>h j i h2 h3 h1),det_tr l A, ← det_tr d (sh l A)]
 rfl
def mv (s t:Nat) (b:Nat→Int) (A:Mat):Mat:=fun i j=>if i < s then A (up t i) j else if i=s then b j else A (up t (i - 1)) j
theorem mv_sg {n:Nat} (t:Nat) (b:Nat→Int) (A:Mat): ∀s,s < n→det n (mv s t b A)=sg s*det n (mv 0 t b A):=by
 intro s
 induction s with
 | zero=>intro _;simp [sg]
 | succ s ih=>
  intro hs
  rw [(det_form n).swap (r:=s) (q:=s+1) (A:=mv s t b A) (by omega) (by omega) (by omega),ih (by omega),sg_succ]
  ·grind
  ·intro j _;refine⟨?_,?_⟩
   ·simp [mv];intro h;omega
   ·simp [mv]
  ·intro i j _ _ h1 h2
   unfold mv
   by_cases e:i < s
   ·rw [if_pos e,if_pos (by omega)]
   ·rw [if_neg e,if_neg (by omega),if_neg h1,if_neg h2]
theorem adj_row {n:Nat} (B:Mat) (b:Nat→Int) {j:Nat} (hj:j < n):sm n (fun t=>det n (rset t b B)*B t j)=det n B*b j:=by
 let X:Mat:=fun i c=>if i=0 then(if c=0 then b j else b (c - 1)) else(if c=0 then B (i - 1) j else B (i - 1) (c - 1))
 have z:det (n+1) X=0:=det_col_alt (c:=0) (d:=j+1) (by omega) (by omega) (by omega) (fun i _=>by simp [X])
 have e:=det_tr (n+1) X
 rw [z] at e
 unfold det at e
 rw [sm_first] at e
 have m0:det n (mnr 0 (tr X))=det n B:=by
  rw [← det_tr n B];exact det_congr (fun p q _ _=>by simp [mnr,tr,X,up])
 have mt (t:Nat) (ht:t < n):det n (mnr (t+1) (tr X))=sg t*det n (rset t b B):=by
  rw [← det_tr n (mnr (t+1) (tr X))]
  have e1:det n (tr (mnr (t+1) (tr X)))=det n (mv 0 t b B):=det_congr (fun p q _ _=>by
   cases p with
   | zero=>simp [mnr,tr,X,up,mv]
   | succ p=>
    simp only [mnr,tr,X,up,mv,Nat.not_lt_zero,if_false]
    by_cases c:p < t
    ·simp [c,Nat.succ_lt_succ c]
    ·simp [c,show ¬ p+1 < t+1 from by omega])
  have e2:det n (mv t t b B)=det n (rset t b B):=det_congr (fun p q _ _=>by
   unfold mv rset up
   by_cases c:p < t
   ·simp [c,show p≠t from by omega]
   ·by_cases c2:p=t
    ·simp [c2]
    ·rw [if_neg c,if_neg c2,if_neg c2,if_neg (by omega),show p - 1+1=p from by omega])
  rw [e1, ← e2,mv_sg t b B t ht]
  have:=sg_sq t
  grind
 have e3:sm n (fun i=>sg (i+1)*(tr X 0 (i+1)*det n (mnr (i+1) (tr X))))= - sm n (fun t=>det n (rset t b B)*B t j):=by
  rw [← Int.neg_one_mul, ← sm_mul]
  refine sm_congr (fun t ht=>?_)
  rw [mt t ht,sg_succ]
  have:=sg_sq t
  simp only [tr,X]
  simp
  grind
 rw [e3,m0] at e
 simp [tr,X,sg] at e
 grind
theorem adj_col {n:Nat} (B:Mat) (b:Nat→Int) {j:Nat} (hj:j < n):sm n (fun t=>B j t*det n (cset t b B))=det n B*b j:=by
 rw [← det_tr n B, ← adj_row (tr B) b hj]
 refine sm_congr (fun t _=>?_)
 rw [Int.mul_comm, ← det_tr n (cset t b B)]
 rfl
end Go.Proofs.Ytbjljcpngbhkeaa.Dt
end
section
namespace Go.Proofs.Ytbjljcpngbhkeaa.Hd
open Go.RowKit Wz.PrintWords Wz.PrintLast Wz.PrintMore Pr La Ma Hm Dt
structure Own (w0 w:World) (g n:Nat) (b cp:Nat→Nat) (M:Mat):Prop where
 below:Below w0.heap.size w0 w
 gb:w0.heap.size≤g
 bb: ∀j,j < n→w0.heap.size≤b j
 inj: ∀i j,i < n→j < n→b i=b j→i=j
 ne: ∀j,j < n→b j≠g
 cap: ∀j,j < n→n≤cp j
 og: ∀j,j < n→w.cell? ⟨g,j,none⟩=some (.slice (some ⟨b j,0,none⟩) n (cp j))∧w.frozen? ⟨g,j,none⟩=false
 ob: ∀j c,j < n→c < n→w.cell? ⟨b j,c,none⟩=some (.int .i64 (M j c))∧w.frozen? ⟨b j,c,none⟩=false
theorem frozen_below {w w':World} (h:Below w.heap.size w w') {p:Addr} (hp:p.block < w.heap.size):w'.frozen? p=w.frozen? p:=by
 unfold World.frozen?
 rw [h.block _ hp]
theorem lt_of_cell {w:World} {p:Addr} {v:Value} (h:w.cell? p=some v):p.block < w.heap.size:=World.block_lt_of_cell? w _ h
theorem cset_same {w:World} {p:Addr} {u v:Value} (h:w.cell? p=some u):(w.setCell p v).cell? p=some v:=World.cell?_setCell_same w p v h
theorem cset_other {w:World} {p q:Addr} {v:Value} (h:p≠q):(w.setCell p v).cell? q=w.cell? q:=World.cell?_setCell_other w p q v h
theorem fset {w:World} {p q:Addr} {v:Value}:(w.setCell p v).frozen? q=w.frozen? q:=World.frozen?_setCell w p q v
theorem add_off (g i j:Nat):(⟨g,i,none⟩:Addr).add j=⟨g,i+j,none⟩:=by unfold Addr.add;split <;> simp_all
section
variable {w0 w w':World} {g n:Nat} {b cp:Nat→Nat} {M:Mat}
theorem Own.step (h:Own w0 w g n b cp M) (hb:Below w.heap.size w w'):Own w0 w' g n b cp M:=
  ⟨Below.trans h.below (hb.mono h.below.size),h.gb,h.bb,h.inj,h.ne,h.cap,
   fun j hj=>by have:=lt_of_cell (h.og j hj).1;exact⟨(hb.cell (p:=⟨g,j,none⟩) this).trans (h.og j hj).1,(frozen_below hb this).trans (h.og j hj).2⟩,
   fun j c hj hc=>by have:=lt_of_cell (h.ob j c hj hc).1;exact⟨(hb.cell (p:=⟨b j,c,none⟩) this).trans (h.ob j c hj hc).1,(frozen_below hb this).trans (h.ob j c hj hc).2⟩⟩
theorem Own.congr {M':Mat} (h:Own w0 w g n b cp M) (e: ∀i j,i < n→j < n→M i j=M' i j):Own w0 w g n b cp M':=
 ⟨h.below,h.gb,h.bb,h.inj,h.ne,h.cap,h.og,fun j c hj hc=>by rw [← e j c hj hc];exact h.ob j c hj hc⟩
def mset (M:Mat) (r c:Nat) (x:Int):Mat:=fun i j=>if i=r∧j=c then x else M i j
theorem Own.put (h:Own w0 w g n b cp M) {r c:Nat} (hr:r < n) (hc:c < n) (x:Int):Own w0 (w.setCell ⟨b r,c,none⟩ (.int .i64 x)) g n b cp (mset M r c x):=by
 refine⟨h.below.setCell (h.bb r hr) _,h.gb,h.bb,h.inj,h.ne,h.cap,fun j hj=>⟨?_,?_⟩,fun j d hj hd=>⟨?_,?_⟩⟩
 ·rw [cset_other (by intro e;have:=congrArg Addr.block e;exact h.ne r hr this)]
  exact(h.og j hj).1
 ·rw [fset];exact(h.og j hj).2
 ·unfold mset
  by_cases e:j=r∧d=c
  ·obtain⟨rfl,rfl⟩:=e
   rw [if_pos ⟨rfl,rfl⟩]
   exact cset_same (h.ob j d hj hd).1
  ·rw [if_neg e,cset_other (by
    intro q
    have q1:=congrArg Addr.block q
    have q2:=congrArg Addr.off q
    exact e ⟨(h.inj r j hr hj q1).symm,q2.symm⟩)]
   exact(h.ob j d hj hd).1
 ·rw [fset];exact(h.ob j d hj hd).2
def sw (r q j:Nat):Nat:=if j=r then q else if j=q then r else j
theorem sw_lt {r q j:Nat} (hr:r < n) (hq:q < n) (hj:j < n):sw r q j < n:=by unfold sw;grind
theorem sw_sw (r q j:Nat):sw r q (sw r q j)=j:=by unfold sw;grind
theorem sw_inj {r q i j:Nat} (h:sw r q i=sw r q j):i=j:=by rw [← sw_sw r q i,h,sw_sw]
theorem Own.swap (h:Own w0 w g n b cp M) {r q:Nat} (hr:r < n) (hq:q < n):
  Own w0 ((w.setCell ⟨g,r,none⟩ (.slice (some ⟨b q,0,none⟩) n (cp q))).setCell ⟨g,q,none⟩ (.slice (some ⟨b r,0,none⟩) n (cp r))) g n (fun j=>b (sw r q j)) (fun j=>cp (sw r q j)) (fun j=>M (sw r q j)):=by
 refine⟨(h.below.setCell h.gb _).setCell h.gb _,h.gb,fun j hj=>h.bb _ (sw_lt hr hq hj),fun i j hi hj e=>sw_inj (h.inj _ _ (sw_lt hr hq hi) (sw_lt hr hq hj) e),fun j hj=>h.ne _ (sw_lt hr hq hj),fun j hj=>h.cap _ (sw_lt hr hq hj),fun j hj=>⟨?_,?_⟩,fun j d hj hd=>⟨?_,?_⟩⟩
 ·by_cases e:j=q
  ·subst e
   have:sw r j j=r:=by unfold sw;split <;> simp_all
   rw [this]
   by_cases e2:r=j
   ·subst e2;exact cset_same (cset_same (h.og r hr).1)
   ·exact cset_same (u:= .slice (some ⟨b j,0,none⟩) n (cp j)) (by rw [cset_other (by intro q1;exact e2 (congrArg Addr.off q1))];exact(h.og j hj).1)
  ·rw [cset_other (by intro q1;exact e (congrArg Addr.off q1).symm)]
   by_cases e2:j=r
   ·subst e2
    rw [show sw j q j=q from by simp [sw]]
    exact cset_same (h.og j hj).1
   ·rw [cset_other (by intro q1;exact e2 (congrArg Addr.off q1).symm),show sw r q j=j from by simp [sw,e,e2]]
    exact(h.og j hj).1
 ·rw [fset,fset];exact(h.og j hj).2
 ·have hl:=sw_lt hr hq hj
  rw [cset_other (by intro q1;exact h.ne _ hl (congrArg Addr.block q1).symm),cset_other (by intro q1;exact h.ne _ hl (congrArg Addr.block q1).symm)]
  exact(h.ob _ d hl hd).1
 ·rw [fset,fset];exact(h.ob _ d (sw_lt hr hq hj) hd).2
def rowsFrom (M:Mat) (n i:Nat):List (List Int):=(List.range (n - i)).map fun r=>(List.range n).map fun c=>M (i+r) c
theorem rowsFrom_len (M:Mat) (n i:Nat):(rowsFrom M n i).length=n - i:=by simp [rowsFrom]
theorem Own.C (h:Own w0 w g n b cp M) (i:Nat) (hn:n≤1099511627776):Kd.C (Kd.slice 2 (Kd.int .i64)) w (some ⟨g,i,none⟩) (rowsFrom M n i).length (rowsFrom M n i):=by
 have hl:=rowsFrom_len M n i
 refine⟨rfl,by omega,fun _=>⟨_,rfl,fun j p hp=>?_⟩⟩
 have hj:j < n - i:=by have:=(List.getElem?_eq_some_iff.1 hp).1;omega
 have hpe:p=(List.range n).map fun c=>M (i+j) c:=by
  rw [rowsFrom,List.getElem?_map,List.getElem?_range hj] at hp
  exact(Option.some.inj hp).symm
 subst hpe
 have hc:=(h.og (i+j) (by omega)).1
 refine⟨[.slice (some ⟨b (i+j),0,none⟩) n (cp (i+j))],rfl,⟨some ⟨b (i+j),0,none⟩,cp (i+j),by simp,by simp;exact h.cap _ (by omega),?_⟩,fun u v hv=>?_⟩
 ·refine⟨rfl,by simp;omega,fun _=>⟨_,rfl,fun c p hp=>?_⟩⟩
  have hcn:c < n:=by have:=(List.getElem?_eq_some_iff.1 hp).1;simpa using this
  rw [List.getElem?_map,List.getElem?_range hcn] at hp
  have hp:=Option.some.inj hp
  refine⟨[.int .i64 p],rfl,rfl,fun u v hv=>?_⟩
  have hu:u=0:=by cases u with
   | zero=>rfl
   | succ u=>simp at hv
  subst hu
  have hv:Value.int .i64 p=v:=by simpa using hv
  rw [← hv, ← hp]
  have:=(h.ob (i+j) c (by omega) hcn).1
  have e:(⟨b (i+j),0,none⟩:Addr).add (c*(Kd.int .i64).sz+0)=⟨b (i+j),c,none⟩:=by
   show (⟨b (i+j),0,none⟩:Addr).add (c*1+0)=_
   rw [Nat.mul_one,Nat.add_zero,add_off];try rw [Nat.zero_add]
  rw [e];exact this
 ·have hu:u=0:=by cases u with
   | zero=>rfl
   | succ u=>simp at hv
  subst hu
  have hv:Value.slice (some ⟨b (i+j),0,none⟩) n (cp (i+j))=v:=by simpa using hv
  rw [← hv]
  have e:(⟨g,i,none⟩:Addr).add (j*(Kd.slice 2 (Kd.int .i64)).sz+0)=⟨g,i+j,none⟩:=by
   show (⟨g,i,none⟩:Addr).add (j*1+0)=_
   rw [Nat.mul_one,Nat.add_zero,add_off];try rw [Nat.zero_add]
  rw [e];exact hc
end
def en (l:List (List Int)):Mat:=fun i j=>(l.getD i []).getD j 0
theorem own_of_S {w0 W:World} {ok:Nat→Prop} {v:Value} {l:List (List Int)} (h:SS w0 W ok v l) (hB:Below w0.heap.size w0 W) (hp:0 < l.length) (hr: ∀x ∈ l,x.length=l.length): ∃(g cap:Nat) (b cp:Nat→Nat),v= .slice (some ⟨g,0,none⟩) l.length cap∧l.length≤cap∧Own w0 W g l.length b cp (en l):=by
 obtain⟨g,cap,rfl,hg0,hg1,cells,hgc⟩:=Kd.S_form h hp
 have hrd:=Kd.S_reads' h
 obtain⟨f,h0,hO⟩:=h
 obtain⟨A,c,hv,hc,_,_,hread⟩:=hO.reads
 injection hv with hA _ _
 subst hA
 rw [List.length_zipIdx] at hread
 obtain⟨ad,had,hj⟩:=hread hp
 injection had with had
 subst had
 have key: ∀j, ∃p:Nat × Nat,j < l.length→W.cell? ⟨g,j,none⟩=some (.slice (some ⟨p.1,0,none⟩) l.length p.2)∧l.length≤p.2∧w0.heap.size≤p.1∧f p.1=j∧p.1≠g∧ ∀d,d < l.length→W.cell? ⟨p.1,d,none⟩=some (.int .i64 (en l j d))∧W.frozen? ⟨p.1,d,none⟩=false:=by
  intro j
  by_cases hjl:j < l.length
  ·obtain⟨cs,hcs,hM,hcell⟩:=hj j (l[j],j) (Kd.zip_at (List.getElem?_eq_getElem hjl))
   obtain⟨u,rfl,hR⟩:=(show ∃u,cs= [u]∧Kd.R (Kd.int .i64) 2 W w0.heap.size (fun k=>(ok k∧some k≠(Value.slice (some ⟨g,0,none⟩) l.length cap).ownBlock)∧f k=j) u l[j] from hM)
   have hlen:=hr l[j] (List.getElem_mem hjl)
   obtain⟨bj,cj,rfl,hb1,hb2,cells2,hbc⟩:=Kd.R_form hR (by omega)
   have hcj:=(Kd.R_reads' hR).2.1
   have hown:=hR.1 bj (by simp [Value.ownBlock])
   refine⟨(bj,cj),fun _=>⟨?_,by simpa [hlen] using hcj,hb1,hown.2,?_,fun d hd=>?_⟩⟩
   ·have:=hcell 0 _ rfl
    have e:(⟨g,0,none⟩:Addr).add (j*(Kd.tag f (Kd.slice 2 (Kd.int .i64))).sz+0)=⟨g,j,none⟩:=by
     show (⟨g,0,none⟩:Addr).add (j*1+0)=_
     rw [Nat.mul_one,Nat.add_zero,add_off];try rw [Nat.zero_add]
    rw [e,hlen] at this
    exact this
   ·intro e
    have e:bj=g:=e
    subst e
    exact hown.1.2 (by simp [Value.ownBlock])
   ·have hat:=Kd.R_celln 0 hR (d:Int) (by omega) (by omega)
    rw [Int.toNat_natCast] at hat
    have e2:en l j d=l[j].getD d 0:=by unfold en;rw [List.getD_eq_getElem?_getD (l:=l),List.getElem?_eq_getElem hjl];rfl
    rw [e2]
    exact⟨by simpa [rdOf] using hat.1,hat.2⟩
  ·exact⟨(0,0),fun hh=>absurd hh hjl⟩
 obtain⟨p,hp2⟩:=Classical.skolem.1 key
 refine⟨g,cap,fun j=>(p j).1,fun j=>(p j).2,rfl,hrd.2.1,⟨hB,hg0,fun j hj=>(hp2 j hj).2.2.1,fun i j hi hj e=>?_,fun j hj=>(hp2 j hj).2.2.2.2.1,fun j hj=>(hp2 j hj).2.1,fun j hj=>⟨(hp2 j hj).1,blk_frozen hgc j⟩,fun j d hj hd=>(hp2 j hj).2.2.2.2.2 d hd⟩⟩
 have h1:=(hp2 i hi).2.2.2.1
 have h2:=(hp2 j hj).2.2.2.1
 rw [← h1, ← h2]
 exact congrArg f e
end Go.Proofs.Ytbjljcpngbhkeaa.Hd
end
section
namespace Go.Proofs.Ytbjljcpngbhkeaa.Bd
open Go.RowKit Wz.PrintWords Wz.PrintMore Ma Dt
def ev (M:Mat) (i:Nat) (last:Int) (r c:Nat):Int:=wrap64 (Int.tdiv (wrap64 (wrap64 (M r c*M i i) - wrap64 (M r i*M i c))) last)
def mid (M:Mat) (i:Nat) (last:Int) (r c:Nat):Mat:=fun a b=>if i≤b∧i < a∧(a < r∨a=r∧b < c) then ev M i last a b else M a b
def el (M:Mat) (i:Nat) (last:Int):Mat:=fun a b=>if i≤b∧i < a then ev M i last a b else M a b
def fnd (M:Mat) (i:Nat):Nat→Nat→Option Nat
 | 0,_=>none
 | q+1,k=>if M (i+k) i≠0 then some k else fnd M i q (k+1)
def swp (M:Mat) (r q:Nat):Mat:=fun j=>M (if j=r then q else if j=q then r else j)
def dgo (n:Nat):Nat→Nat→Mat→Int→Int→Int
 | 0,_,_,last,turn=>wrap64 (turn*last)
 | q+1,i,M,last,turn=>match fnd M i (n - i) 0 with
  | none=>0
  | some 0=>dgo n q (i+1) (el M i last) (M i i) turn
  | some (k+1)=>dgo n q (i+1) (el (swp M i (i+(k+1))) i last) (swp M i (i+(k+1)) i i) (wrap64 (-turn))
theorem fnd_some {M:Mat} {i:Nat}: ∀ {q k j:Nat},fnd M i q k=some j→k≤j∧j < k+q∧M (i+j) i≠0∧ ∀t,k≤t→t < j→M (i+t) i=0
 | 0,_,_,h=>by cases h
 | q+1,k,j,h=>by
  unfold fnd at h
  by_cases c:M (i+k) i≠0
  ·rw [if_pos c] at h
   cases h
   exact⟨Nat.le_refl _,by omega,c,fun t h1 h2=>by omega⟩
  ·rw [if_neg c] at h
   obtain⟨h1,h2,h3,h4⟩:=fnd_some h
   refine⟨by omega,by omega,h3,fun t h5 h6=>?_⟩
   by_cases e:t=k
   ·subst e;exact Decidable.not_not.1 c
   ·exact h4 t (by omega) h6
theorem fnd_none {M:Mat} {i:Nat}: ∀ {q k:Nat},fnd M i q k=none→ ∀t,k≤t→t < k+q→M (i+t) i=0
 | 0,_,_,t,h1,h2=>by omega
 | q+1,k,h,t,h1,h2=>by
  unfold fnd at h
  by_cases c:M (i+k) i≠0
  ·rw [if_pos c] at h;cases h
  ·rw [if_neg c] at h
   by_cases e:t=k
   ·subst e;exact Decidable.not_not.1 c
   ·exact fnd_none h t (by omega) (by omega)
theorem mid_start (M:Mat) (i:Nat) (last:Int) (a b:Nat):mid M i last (i+1) i a b=M a b:=by unfold mid;rw [if_neg (by omega)]
theorem mid_row (M:Mat) (i:Nat) (last:Int) {n:Nat} (r a b:Nat) (hb:b < n):mid M i last r n a b=mid M i last (r+1) i a b:=by
 unfold mid
 by_cases c:i≤b∧i < a∧(a < r∨a=r∧b < n)
 ·rw [if_pos c,if_pos (by omega)]
 ·rw [if_neg c,if_neg (by omega)]
theorem mid_end (M:Mat) (i:Nat) (last:Int) {n:Nat} (a b:Nat) (ha:a < n):mid M i last n i a b=el M i last a b:=by
 unfold mid el
 by_cases c:i≤b∧i < a
 ·rw [if_pos c,if_pos (by omega)]
 ·rw [if_neg c,if_neg (by omega)]
theorem mid_next (M:Mat) (i:Nat) (last:Int) (r c:Nat) (hr:i < r) (hc:i≤c) (a b:Nat):(if a=r∧b=c then ev M i last r c else mid M i last r c a b)=mid M i last r (c+1) a b:=by
 unfold mid
 by_cases e:a=r∧b=c
 ·obtain⟨rfl,rfl⟩:=e
  rw [if_pos ⟨rfl,rfl⟩,if_pos (by omega)]
 ·rw [if_neg e]
  by_cases q:i≤b∧i < a∧(a < r∨a=r∧b < c)
  ·rw [if_pos q,if_pos (by omega)]
  ·rw [if_neg q,if_neg (by omega)]
theorem mid_head (M:Mat) (i:Nat) (last:Int) (r c b:Nat):mid M i last r c i b=M i b:=by unfold mid;rw [if_neg (by omega)]
theorem mid_at (M:Mat) (i:Nat) (last:Int) (r c b:Nat) (h:c≤b):mid M i last r c r b=M r b:=by unfold mid;rw [if_neg (by omega)]
end Go.Proofs.Ytbjljcpngbhkeaa.Bd
end
section
namespace Go.Proofs.Ytbjljcpngbhkeaa.Pr
open Go Go.RowKit Wz.PrintWords Wz.PrintLast Wz.PrintMore
theorem run_eql_slice_nil {P:Program} (w:World) (t e:TypeId) (a:Option Addr) (l c:Nat) (h:P.underlying t=some (.slice e)):(binOp .eql t (.slice a l c) (.slice none 0 0)).run P w= .ok (.bool a.isNone) w:=by
 simp only [binOp]
 simp [run_equal_slice_nil w t e a l c h]
def slices_Clone.f (l0:List Int):Option (List Int):=if l0.length≤1099511627776 then some l0 else none
theorem slices_Clone.calls (A0:Option Addr) (c0:Nat) (l0:List Int) (r:List Int) (w:World) (hr0:Kd.C (Kd.int .i64) w A0 l0.length l0) (hc0:l0.length≤c0) (h:slices_Clone.f l0=some r):
  Calls Try.prog 97 #[.slice A0 l0.length c0] w fun e w'=> ∃v0_:Value,e= .returned (v0_)∧Kd.R (Kd.int .i64) 2 w' w.heap.size (fun _=>True) v0_ r∧Below w.heap.size w w':=by
 unfold slices_Clone.f at h
 split at h
 case isFalse=>cases h
 rename_i hl
 cases h
 have hu:=Try.underlying25;have HR:=q_ hr0;have HL:=q_ hl;clear hc0 hl;cases A0 with
 | none=>
  have h0:l0= []:=by
   cases l0 with
   | nil=>rfl
   | cons a t=>obtain⟨ad,e,_⟩:=Kd.at_int hr0 0 (by simp) (by simp);cases e
  subst h0;clear hr0 HR;have he:=run_eql_slice_nil (P:=Try.prog) w 25 2 none 0 c0 hu
  go_enter Try.func97,Try.ntmps97
  go_wp2
  go_ret
  exact⟨_,rfl,Kd.R_nil _ _ _ _ _,Below.refl _ _⟩
 | some ad=>
  clear hr0;have he:=run_eql_slice_nil (P:=Try.prog) w 25 2 (some ad) l0.length c0 hu
  go_enter Try.func97,Try.ntmps97
  go_wp2_with (first | ((with_reducible refine gate_dst (N:=5) rfl ?_);refine Kd.R_lit (Kd.int .i64) _ 2 ?hg (N:=5) ?hd (xs:=([]:List Int)) (inner:= []) (ok:=fun _=>True) (okp:=fun _=>True) ?hr ?hp (fun _ hk=>hk) trivial (Below.refl _ _) (Nat.le_refl _) (by simp) ?_;(case hd=>rfl);(case hg=>rfl);(case hr=>first | (go_simp;done) | (go_simp;rfl));(case hp=>exact(Reps.none _ _));intro v1 w1 ho hb hg_ hat_;clear hg_ hat_;have HO:=q_ ho;have HB:=q_ hb;clear ho hb) | ((with_reducible refine gate_dst (N:=7) rfl ?_);(refine Kd.R_append_row (Value.int .i64) 0 (w0:=w) w.heap.size rfl (.tmp 5) (.tmp 6) 25 2 (.int .i64 0) 8 rfl Try.underlying25 info2 rfl (by decide) v1 [] l0 (some ad) l0.length c0 (fun _=>True) (by rfl) (by rfl) (fun _ _=>trivial) HO.out (Kd.C_below HR.out HB.out) HB.out HB.out.size (by have:=HL.out;simp;omega) ?_;intro v2 w2 ho hb hg_ hat_;clear hg_ hat_;have aa:=q_ ho;have HB2:=q_ hb;clear ho hb)))
  go_ret
  exact⟨_,rfl,aa.out,HB2.out⟩
end Go.Proofs.Ytbjljcpngbhkeaa.Pr
end
section
namespace Go.Proofs.Ytbjljcpngbhkeaa.Pr
open Go.RowKit Wz.PrintWords Wz.PrintLast Wz.PrintMore
attribute [local go_sem] max2_int min2_int max_two min_two max_three min_three max_four min_four
def impl_copyRows.l0:Nat→List (List Int)→List (List Int)→Int→Int→Option ((List (List Int)))
 | 0,_,_,_,_=>none
 | k+1,x3,x6,x7,x8=>if x8 < x7 then(if 0≤x8 then(if x8 < (x6.length:Int) then((slices_Clone.f (rd_L2 x6 x8)).bind fun aa=>(if x3.length < 5864062014805 then(impl_copyRows.l0 k (x3++ [aa]) x6 x7 (wrap64 (x8+1))) else(none))) else(none)) else(none)) else(some x3)
def impl_copyRows.f (k:Nat) (l0:List (List Int)):Option ((List (List Int))):=impl_copyRows.l0 k ([]:List (List Int)) l0 (l0.length:Int) 0
theorem impl_copyRows.calls (k:Nat) (A0:Option Addr) (c0:Nat) (l0:List (List Int)) (r:List (List Int)) (w:World) (hr0:Kd.C (Kd.slice 2 (Kd.int .i64)) w A0 l0.length l0) (hc0:l0.length≤c0) (h:impl_copyRows.f k l0=some r):
  Calls Try.prog 83 #[.slice A0 l0.length c0] w fun e w'=> ∃v0_:Value,e= .returned (v0_)∧Kd.S (Kd.slice 2 (Kd.int .i64)) 25 w' w.heap.size (fun _=>True) v0_ r∧Below w.heap.size w w':=by
 have HR0:=q_ hr0;have HC0:=q_ hc0;clear hr0 hc0;have HB:=q_ (Below.refl w.heap.size w);have H:(impl_copyRows.l0 k ([]:List (List Int)) l0 (l0.length:Int) 0)=some r:=h;clear h;have H':=q_ H;clear H
 go_enter Try.func83,Try.ntmps83
 go_wp2
 go_loopg [3,8] k (fun kq v3 v8 w'=> ∃(ae:List (List Int)) (aa:Int),v8= .int .i64 aa∧Aside0 (impl_copyRows.l0 kq ae l0 (l0.length:Int) aa=some r)∧Aside0 (kq≤k)∧Aside0 (Kd.S (Kd.slice 2 (Kd.int .i64)) 25 w' w.heap.size (fun _=>True) v3 ae)∧Aside0 (Below w.heap.size w w'))
 case atStart=>exact⟨(([]:List (List Int))),(0),rs_,H',⟨Nat.le_refl _⟩,⟨by first | exact Kd.S_nil _ _ _ _ _ | exact Kd.N_nil _ _ _ _ _ | exact Kd.V_nil _ _ _ _ _ | exact Kd.Q_nil _ _ _ _ _ | exact Kd.R_nil _ _ _ _ _⟩,⟨hb_⟩⟩
 case round=>
  clear H';obtain⟨ae,aa,rfl,HA,HK1,af,HB⟩:=hrel;cases gk with
  | zero=>exact absurd HA.out (by simp [impl_copyRows.l0])
  | succ k1=>
   have H:=HA.out;clear HA;simp only [impl_copyRows.l0] at H
   by_cases c2:aa < (l0.length:Int)
   ·rw [if_pos c2] at H;have c2b0:=decide_eq_true c2;clear c2
    by_cases c3:0≤aa
    ·rw [if_pos c3] at H;have c3b0:=decide_eq_true c3;clear c3
     by_cases c4:aa < (l0.length:Int)
     ·rw [if_pos c4] at H;have c4b0:=decide_eq_true c4;clear c4;replace H:=Option.bind_eq_some_iff.mp H;obtain⟨ag,A50,H⟩:=H;replace H:(if ae.length < 5864062014805 then(impl_copyRows.l0 k1 (ae++ [ag]) l0 (l0.length:Int) (wrap64 (aa+1))) else(none))=some r:=H;have A5:=q_ A50;clear A50
      by_cases c6:ae.length < 5864062014805
      ·rw [if_pos c6] at H;have az:=q_ c6;clear c6;obtain⟨ai,hy⟩: ∃y_:List (List Int),y_=(ae++ [ag]):=⟨_,rfl⟩
       replace H:(impl_copyRows.l0 k1 ai l0 (l0.length:Int) (wrap64 (aa+1)))=some r:=hh_;have aq:=q_ hy;clear hy;have H':=q_ H;clear H;have p224:0≤(aa:Int):=od_;have q224:aa < (l0.length:Int):=od_;obtain⟨aC,aj,ak,e224,hx224_0,hl224_0,hi224_0⟩:=at_L2 HR0.out aa p224 q224;cases e224
       replace hx224_0:=bc_ HB.out hx224_0;have HR224_0:=q_ hi224_0;have HC224_0:=q_ hl224_0;clear hi224_0 hl224_0;replace p224:=eq_true p224;replace q224:=eq_true q224
       go_wp2_with (first | ((with_reducible refine gate_callee (f:=97) rfl ?_);refine gL_ 14 Try.func97 #[.slice aj (rd_L2 l0 aa).length ak] ?_;(with_reducible refine(slices_Clone.calls _ _ (rd_L2 l0 aa) ag _ ?au ?av A5.out).mono ?_);(case au=>exact cb_ HR224_0.out HB.out);(case av=>exact HC224_0.out);rintro e w7 ⟨aD,rfl,ho0,hb⟩;refine⟨_,rfl,?_⟩;replace af:=q_ (Kd.S_elder' (so_ af.out) (Kd.R_base ho0) hb);have ah:=q_ (Kd.R_lower ho0 bz_);replace HB:=Bs_ hb;(try clear hb);(try clear hk);(try clear ho0);obtain⟨ax,ay,aA⟩:=Kd.R_slice ah.out;subst aA) | ((with_reducible refine gate_builtin (b:= .append) (xs:= #[.tmp 12, .tmp 15]) rfl ?_);at_builtin;refine Kd.S_append (Kd.slice 2 (Kd.int .i64)) (w0:=w) w.heap.size rfl (.tmp 12) (.tmp 15) 24 25 (.slice none 0 0) 24 rfl Try.underlying24 info25 rfl (by decide) (by omega) u3 ae ag [.slice ax ag.length ay] (fun _=>True) (fun k_=>some k_=(.slice ax ag.length ay:Value).ownBlock) rfl rfl ?aP (fun k_ hk_=>((Kd.R_mono (ok':=fun k_=>((fun _=>True)) k_∧some k_≠(u3:Value).ownBlock) (Kd.R_apart' (ah.out) (Kd.S_typed af.out) (by decide)) (fun k_ hk=>⟨trivial,hk.2⟩))).1 k_ hk_.symm) ?aF ?aO ?aB ?aS ?aL ?_;(case aP=>exact Kd.M_row (Kd.R_mono (Kd.R_tight rfl (Kd.R_mono (ok':=fun k_=>((fun _=>True)) k_∧some k_≠(u3:Value).ownBlock) (Kd.R_apart' (ah.out) (Kd.S_typed af.out) (by decide)) (fun k_ hk=>⟨trivial,hk.2⟩))) (fun _ h_=>h_)));(case aB=>exact hb_);(case aF=>exact(fun _ _=>trivial));(case aO=>exact(kS_ af.out (fun k_ hk=>⟨trivial,fun e_=>hk.2 e_⟩)));(case aS=>exact bz_);(case aL=>have:=az.out;omega);intro aG w8 ho hb hg hat;rw [← aq.out] at ho;replace HB:=q_ (hb);have aw:=q_ (ho);clear af ah ho hb hg hat))
       go_roundg k1
       case measure=>have:=HK1.out;omega
       case rel=>exact⟨(ai),(wrap64 (aa+1)),rs_,H',⟨by have:=HK1.out;omega⟩,⟨so_ aw.out⟩,⟨hb_⟩⟩
      ·rw [if_neg c6] at H;exact absurd H (by simp)
     ·rw [if_neg c4] at H;exact absurd H (by simp)
    ·rw [if_neg c3] at H;exact absurd H (by simp)
   ·rw [if_neg c2] at H;have c2b0:=decide_eq_false c2;clear c2;obtain rfl:=Option.some.inj H;go_wp2
    go_ret
    exact⟨_,ew_,so_ af.out,hb_⟩
end Go.Proofs.Ytbjljcpngbhkeaa.Pr
end
section
namespace Go.Proofs.Ytbjljcpngbhkeaa.Cp
open Go.RowKit Wz.PrintWords Wz.PrintMore Ma Pr
theorem copy_eq (l:List (List Int)) (hl:l.length≤1000) (hr: ∀x ∈ l,x.length≤1099511627776):Ev (fun k=>impl_copyRows.f k l) l:=by
 have key: ∀q i,i+q=l.length→Ev (fun k=>impl_copyRows.l0 k (l.take i) l (l.length:Int) i) l:=by
  intro q
  induction q with
  | zero=>
   intro i hi
   rw [List.take_of_length_le (by omega)]
   exact evstep (fun k=>by rw [impl_copyRows.l0]) (evneg (by omega) (evc rfl))
  | succ q ih=>
   intro i hi
   have hlt:i < l.length:=by omega
   have e:rd_L2 l (i:Int)=l[i]:=by simp [rd_L2,hlt]
   have hri:=hr l[i] (List.getElem_mem hlt)
   have h:=ih (i+1) (by omega)
   rw [List.take_succ_eq_append_getElem hlt] at h
   refine evstep (fun k=>by rw [impl_copyRows.l0]) (evpos (by omega) (evpos (by omega) (evpos (by omega) ?_)))
   rw [e]
   refine evsome (a:=l[i]) (by unfold slices_Clone.f;rw [if_pos hri]) (evpos (by rw [List.length_take];omega) ?_)
   rw [w64 (x:=(i:Int)+1) (by omega) (by omega)]
   exact h
 exact key l.length 0 (by omega)
end Go.Proofs.Ytbjljcpngbhkeaa.Cp
end
section
namespace Go.Proofs.Ytbjljcpngbhkeaa.Pr
open Go.RowKit Wz.PrintWords Wz.PrintLast Wz.PrintMore La Ma Hm Dt Hd Bd Cp
def nz (i:Nat) (row:List Int):Bool:=row.getD i 0 !=0
theorem det1 (gb i:Nat) (A:Option Addr) (c:Nat) (x:List Int) (w:World) (hb:w.cell? ⟨gb,0,none⟩=some (.int .i64 (i:Int))) (hC:Kd.C (Kd.int .i64) w A x.length x) (hi:i < x.length):
  Calls Try.prog 85 (#[.slice A x.length c]++ #[.pointer (some ⟨gb,0,none⟩)]) w fun e w'=>e= .returned (.bool (nz i x))∧Below w.heap.size w w':=by
 unfold nz
 show Calls Try.prog 85 #[.slice A x.length c, .pointer (some ⟨gb,0,none⟩)] w _
 obtain⟨ad,rfl,hcell⟩:=Kd.at_int hC (i:Int) (by omega) (by omega);rw [Int.toNat_natCast,rd_nat] at hcell;have hiz:(i:Int) < (x.length:Int):=by omega
 have h0z:(0:Int)≤(i:Int):=by omega
 generalize x.getD i 0=y at hcell ⊢
 generalize x.length=n at hiz hC ⊢
 clear hC hi
 by_cases e:y=0
 ·have h1:(y !=0)=false:=by simp [e]
  have h2:(y==0)=true:=by simp [e]
  clear e
  go_enter Try.func85,Try.ntmps85
  go_wp2
  go_ret
  exact⟨by rw [h1];rfl,Below.refl _ _⟩
 ·have h1:(y !=0)=true:=by simp [e]
  have h2:(y==0)=false:=by simp [e]
  clear e
  go_enter Try.func85,Try.ntmps85
  go_wp2
  go_ret
  exact⟨by rw [h1];rfl,Below.refl _ _⟩
theorem det1_enters: ∀args w,(callFunc 85 args).run Try.prog w= .ok (.enter 85 args) w:=enters_fn Try.func85 (by kernel_rfl) rfl
theorem idxP_fnd (M:Mat) (n i:Nat) (hi:i < n):idxP (nz i) (rowsFrom M n i) 0=match fnd M i (n - i) 0 with | none=> -1 | some k=>(k:Int):=by
 have hat: ∀r (h:r < (rowsFrom M n i).length),nz i (rowsFrom M n i)[r]=(M (i+r) i !=0):=by
  intro r h
  simp [rowsFrom,nz,hi]
 have hl:=rowsFrom_len M n i
 cases h:fnd M i (n - i) 0 with
 | none=>exact idxP_miss _ _ (fun r hr=>by rw [hat r hr,fnd_none h r (Nat.zero_le _) (by omega)];rfl)
 | some k=>
  obtain⟨_,h2,h3,h4⟩:=fnd_some h
  exact idxP_hit _ _ k (by omega) (fun r hr hrk=>by rw [hat r hr,h4 r (Nat.zero_le _) hrk];rfl) (by rw [hat k (by omega)];simpa using h3)
theorem det_calls (n:Nat) (R:Int) (A:Option Addr) (c:Nat) (l:List (List Int)) (w:World) (hr:Kd.C (Kd.slice 2 (Kd.int .i64)) w A l.length l) (hc:l.length≤c) (hln:l.length=n) (hp:0 < n) (hn:n≤1000) (hsq: ∀x ∈ l,x.length=l.length) (hR:dgo n n 0 (en l) 1 1=R):
  Calls Try.prog 67 #[.slice A n c] w fun e w'=>e= .returned (.int .i64 R)∧Below w.heap.size w w':=by
 obtain⟨k,hk⟩:=evk (copy_eq l (by omega) (fun x hx=>by rw [hsq x hx];omega));have hcopy:=fun W (hW:Below w.heap.size w W)=>impl_copyRows.calls k A c l l W (Kd.C_below hr hW) hc hk
 rw [hln] at hcopy;have HCOPY:=q_ hcopy;have HLN:=q_ hln;have HP:=q_ hp;have HN:=q_ hn;have HSQ:=q_ hsq;have HR:=q_ hR;clear hcopy hk hr hc hln hp hn hsq hR
 go_enter Try.func67,Try.ntmps67
 go_wp2_with fail
 refine(HCOPY.out _ (Below.refl _ _)).mono ?_
 rintro e w1 ⟨v0,rfl,hS,hB⟩;obtain⟨g,cap,b,cp,rfl,hcap,hO⟩:=own_of_S (w0:=w) hS hB (by rw [HLN.out];exact HP.out) HSQ.out;rw [HLN.out] at hcap hO;rw [HLN.out];have HO:=q_ hO;have HCAP:=q_ hcap;clear HCOPY hS hB hO hcap HSQ;go_wp2
 go_loopg [4,5,16] n (fun gg v4 v5 v16 wr=> ∃(i:Nat) (M:Mat) (b cp:Nat→Nat) (last turn:Int),i≤n∧n - i≤gg∧v4= .int .i64 last∧v5= .int .i64 turn∧v16= .int .i64 (i:Int)∧Aside0 (Own w wr g n b cp M)∧Aside0 (last≠0)∧Aside0 (dgo n (n - i) i M last turn=R))
 case atStart=>exact⟨0,en l,b,cp,1,1,Nat.zero_le _,by omega,rfl,rfl,rfl,HO,⟨by decide⟩,HR⟩
 case round=>
  clear HO HR b cp;obtain⟨i,M,b,cp,last,turn,hi,hg,rfl,rfl,rfl,HO,HL,HR⟩:=hrel
  by_cases hlt:i < n
  ·have hltz:(i:Int) < (n:Int):=by omega
   have HLT:=q_ hlt;have HI:=q_ hi;have HG:=q_ hg;clear hlt hi hg;have hne: ¬ cap=i:=by have:=HCAP.out;have:=HLT.out;omega
   have hle:(i:Int)≤(n:Int):=by omega
   have h0i:(0:Int)≤(i:Int):=by omega
   have HA:Below wr.heap.size wr (wr.alloc (Obj.cells #[.int .i64 (i:Int)] 3)):=(Below.refl _ _).alloc (Nat.le_refl _) _;have ah:=q_ (HO.out.step HA);have HPC:Aside0 ((wr.alloc (Obj.cells #[.int .i64 (i:Int)] 3)).cell? ⟨wr.heap.size,0,none⟩=some (.int .i64 (i:Int))):=⟨by simp⟩
   have hcall:=indexFuncRows (nz i) 85 #[.pointer (some ⟨wr.heap.size,0,none⟩)] det1_enters (some ⟨g,i,none⟩) (cap - i) (rowsFrom M n i) _ (ah.out.C i (by have:=HN.out;omega))
    (fun W' A' c' x hx hb hxc hC=>det1 wr.heap.size i A' c' x W' ((hb.cell (p:=⟨wr.heap.size,0,none⟩) (by simp)).trans HPC.out) hC (by
     have:=HLT.out;obtain⟨r,_,rfl⟩:=List.mem_map.1 hx
     simpa using this))
   rw [rowsFrom_len,idxP_fnd M n i HLT.out] at hcall;have HCALL:=q_ hcall;clear hcall;have HNB:Aside0 (∀j,j < n→b j≠wr.heap.size):=⟨fun j hj e=>by have:=lt_of_cell (HO.out.ob j i hj HLT.out).1;rw [e] at this;exact Nat.lt_irrefl _ this⟩
   have HNG:Aside0 (g≠wr.heap.size):=⟨fun e=>by have:=lt_of_cell (HO.out.og i HLT.out).1;rw [e] at this;exact Nat.lt_irrefl _ this⟩
   obtain⟨q,hq⟩: ∃q,n - i=q+1:=⟨n - i - 1,by have:=HLT.out;omega⟩
   have HQ:=q_ hq;have hR2:=HR.out;rw [hq] at hR2;unfold dgo at hR2;clear hq HA;cases hf:fnd M i (n - i) 0 with
   | none=>
    rw [hf] at hR2;simp only [hf] at HCALL;have HR2:=q_ hR2;clear hR2 hf
    go_wp2_with fail
    refine HCALL.out.mono ?_
    rintro e w2 ⟨rfl,hb2⟩;have HB2:=q_ hb2;clear hb2 HCALL;go_wp2
    go_ret
    exact⟨by rw [← HR2.out];rfl,Below.trans ah.out.below (HB2.out.mono ah.out.below.size)⟩
   | some kk=>
    have HF:=q_ hf;rw [hf] at hR2;simp only [hf] at HCALL;cases kk with
    | zero=>
     have HR2:=q_ hR2;clear hR2 hf
     go_wp2_with fail
     refine HCALL.out.mono ?_
     rintro e w2 ⟨rfl,hb2⟩;have ag:=q_ (ah.out.step hb2);have HPV:Aside0 (w2.cell? ⟨wr.heap.size,0,none⟩=some (.int .i64 (i:Int))):=⟨(hb2.cell (p:=⟨wr.heap.size,0,none⟩) (by simp)).trans HPC.out⟩
     generalize wr.heap.size=pv at*
     clear hb2 HCALL HO ah HR HPC;have hgi1:IntKind.i64.wrap ((i:Int)+1)=((i+1:Nat):Int):=by rw [IntWalk.i64_in _ (by have:=HN.out;have:=HLT.out;omega)];rfl
     have HGI1:=q_ hgi1;have hi1z:((i+1:Nat):Int)≤(n:Int):=by have:=HLT.out;omega
     have h0z1:(0:Int)≤((i+1:Nat):Int):=by omega
     by_cases hcc:cap=i+1
     ·have hp0:=HPV.out;have hn1:n=i+1:=by have:=HCAP.out;have:=HLT.out;omega
      have h00: ¬ (0:Int) < ((n - (i+1):Nat):Int):=by omega
      have HN1:=q_ hn1;have hcct:=eq_true hcc;clear hn1 hcc;go_wp2
      go_loopg [53] 1 (fun gg v53 w3=>v53= .int .i64 0∧Aside0 (Own w w3 g n b cp M)∧Aside0 (w3.cell? ⟨pv,0,none⟩=some (.int .i64 (i:Int))))
      case atStart=>exact⟨rfl,ag,HPV⟩
      case round=>
       clear ag HPV hp0;obtain⟨rfl,aa,HPV3⟩:=hrel;have ae:=q_ (aa.out.step (below_drew (Below.refl wr.heap.size wr)));have HPV4:Aside0 (wr.drew.cell? ⟨pv,0,none⟩=some (.int .i64 (i:Int))):=⟨HPV3.out⟩
       have hp3:=HPV4.out;have hog:=(ae.out.og i HLT.out).1;have hii:=(ae.out.ob i i HLT.out HLT.out).1;go_wp2
       refine st_ (n:=8) (S:=fun w'=>w'.cell? ⟨pv,0,none⟩=some (.int .i64 (i:Int))∧w'.cell? ⟨g,i,none⟩=some (.slice (some ⟨b i,0,none⟩) n (cp i))∧w'.cell? ⟨b i,i,none⟩=some (.int .i64 ((M) i i))) (ds:= []) ⟨hp3,hog,hii⟩ (fun hHeld=>?_)
       generalize wr.drew=w5 at ae HPV4 hp3 hog hii hHeld ⊢
       refine pu_ 0 96 ?_;refine tk_ 1 97 ?_;refine pu_ 2 98 ?_;refine tk_ 3 99 ?_;refine tk_ 4 100 ?_;refine pu_ 5 101 ?_;refine tk_ 6 102 ?_;refine pu_ 7 4 ?_
       refine done_ (by kernel_rfl) ?_
       go_wp2
       go_roundg (n - (i+1))
       case measure=>have:=HG.out;have:=HLT.out;omega
       case rel=>exact⟨i+1,el (M) i last,b,cp,(M) i i,turn,by have:=HLT.out;omega,by omega,rfl,rfl,by first | rfl | (rw [HGI1.out]),⟨ae.out.congr (fun a b ha _=>by unfold el;rw [if_neg (by have:=HN1.out;omega)])⟩,⟨(fnd_some HF.out).2.2.1⟩,⟨by rw [show n - (i+1)=q from by have:=HQ.out;omega];exact HR2.out⟩⟩
     ·have hp0:=HPV.out;go_wp2
      go_loopg [53] n (fun gg v53 w3=> ∃t:Nat,i+1+t≤n∧n - (i+1+t)≤gg∧v53= .int .i64 (t:Int)∧Aside0 (Own w w3 g n b cp (mid M i last (i+1+t) i))∧Aside0 (w3.cell? ⟨pv,0,none⟩=some (.int .i64 (i:Int))))
      case atStart=>exact⟨0,by have:=HLT.out;omega,by omega,by simp,⟨ag.out.congr (fun a b _ _=>(mid_start _ i last a b).symm)⟩,HPV⟩
      case round=>
       clear ag HPV hp0;obtain⟨t,ht,hg2,rfl,aa,HPV3⟩:=hrel;have HT:=q_ ht;have HG2:=q_ hg2
       by_cases htn:i+1+t < n
       ·have htz:(t:Int) < ((n - (i+1):Nat):Int):=by omega
        have h0t:(0:Int)≤(t:Int):=by omega
        have HTN:=q_ htn;have hog:=(aa.out.og (i+1+t) htn).1;have hf0:=(aa.out.ob (i+1+t) i htn HLT.out).1;rw [mid_at _ i last (i+1+t) i i (Nat.le_refl _)] at hf0;have hp3:=HPV3.out;have ht1:IntKind.i64.wrap ((t:Int)+1)=((t+1:Nat):Int):=by rw [IntWalk.i64_in _ (by have:=HN.out;omega)];rfl
        have HT1:=q_ ht1
        generalize hr:i+1+t=r at*
        have HRE:=q_ hr;have htr:i+1+t=r:=hr;clear hr;go_wp2
        go_loopg [11] n (fun gg v11 w4=> ∃c':Nat,i≤c'∧c'≤n∧n - c'≤gg∧v11= .int .i64 (c':Int)∧Aside0 (Own w w4 g n b cp (mid M i last r c'))∧Aside0 (w4.cell? ⟨pv,0,none⟩=some (.int .i64 (i:Int))))
        case atStart=>exact⟨i,Nat.le_refl _,HI.out,by omega,rfl,aa,HPV3⟩
        case round=>
         clear aa HPV3 hp3 hog hf0;obtain⟨c',hc1,hc2,hg3,rfl,ae,HPV4⟩:=hrel;have HC1:=q_ hc1;have HC2:=q_ hc2;have HG3:=q_ hg3
         by_cases hcn:c' < n
         ·have hcz:(c':Int) < (n:Int):=by omega
          have h0c:(0:Int)≤(c':Int):=by omega
          have HCN:=q_ hcn;have af:=q_ (ae.out.step (below_drew (Below.refl wr.heap.size wr)));have HPV5:Aside0 (wr.drew.cell? ⟨pv,0,none⟩=some (.int .i64 (i:Int))):=⟨HPV4.out⟩
          have h1:=(af.out.ob r c' HTN.out hcn).1;have h1f:=(af.out.ob r c' HTN.out hcn).2;have h2:=(af.out.og i HLT.out).1;have h3:=(af.out.ob i i HLT.out HLT.out).1;have h4:=(af.out.ob i c' HLT.out hcn).1;rw [mid_at _ i last r c' c' (Nat.le_refl _)] at h1;rw [mid_head] at h3 h4;have hp4:=HPV5.out;have hl0:(last==0)=false:=by have:=HL.out;simpa using this
          have hl1: ¬ last=0:=HL.out;have hc11:IntKind.i64.wrap ((c':Int)+1)=((c'+1:Nat):Int):=by rw [IntWalk.i64_in _ (by have:=HN.out;omega)];rfl
          have HC11:=q_ hc11;clear hc1 hc2 hg3 hcn;go_wp2
          refine st_ (n:=28) (S:=fun w'=>w'.cell? ⟨b r,c',none⟩=some (.int .i64 ((M) r c'))∧w'.cell? ⟨pv,0,none⟩=some (.int .i64 (i:Int))∧w'.cell? ⟨g,i,none⟩=some (.slice (some ⟨b i,0,none⟩) n (cp i))∧w'.cell? ⟨b i,i,none⟩=some (.int .i64 ((M) i i))∧w'.cell? ⟨b i,c',none⟩=some (.int .i64 ((M) i c'))) (ds:= [27]) ⟨h1,hp4,h2,h3,h4⟩ (fun hHeld=>?_)
          generalize wr.drew=w5 at af HPV5 h1 hp4 h2 h3 h4 h1f hHeld ⊢
          refine p4_ 0 68 1 69 2 70 3 71 ?_;refine pu_ 4 72 ?_;refine tk_ 5 73 ?_;refine pu_ 6 74 ?_;refine tk_ 7 75 ?_;refine pu_ 8 76 ?_;refine tk_ 9 77 ?_;refine tk_ 10 78 ?_;refine pu_ 11 79 ?_;refine tk_ 12 80 ?_;refine p3_ 13 81 14 82 15 83 ?_;refine tk_ 16 84 ?_;refine pu_ 17 85 ?_;refine tk_ 18 86 ?_;refine p2_ 19 87 20 88 ?_;refine tk_ 21 89 ?_;refine p4_ 22 90 23 91 24 92 25 93 ?_;refine pu_ 26 94 ?_
          refine la_ 27 none (fun K hK=>?_)
          refine skip_ (w1:=?_) (by rfl) rfl ?_ ?_
          rotate_left
          ·go_simp
           rfl
          refine hK.out _ _ ?_
          clear hK K;refine done_ (by kernel_rfl) ?_
          go_wp2
          go_roundg (n - (c'+1))
          case measure=>have:=HG3.out;have:=HCN.out;omega
          case rel=>
           have hput:=(af.out.put HTN.out HCN.out (ev M i last r c')).congr (M':=mid M i last r (c'+1)) (fun a b _ _=>mid_next _ i last r c' (by have:=HRE.out;omega) HC1.out a b);refine⟨c'+1,by have:=HC1.out;omega,HCN.out,by omega,by first | rfl | (rw [HC11.out]) | (simp [HC11.out]),⟨hput⟩,⟨?_⟩⟩
           rw [cset_other (by intro e;exact HNB.out r HTN.out (congrArg Addr.block e))];exact HPV5.out
         ·have hcz: ¬ (c':Int) < (n:Int):=by omega
          obtain rfl:c'=n:=by have:=HC2.out;omega
          clear hcn hc1 hc2 hg3;go_wp2
          go_roundg (c' - (r+1))
          case measure=>have:=HG2.out;have:=HTN.out;omega
          case rel=>exact⟨t+1,by have:=HTN.out;have:=HRE.out;omega,by have:=HRE.out;omega,by first | rfl | (rw [HT1.out]) | (simp [HT1.out]),⟨ae.out.congr (fun a b _ hb=>by rw [mid_row _ i last r a b hb,show i+1+(t+1)=r+1 from by have:=HRE.out;omega])⟩,HPV4⟩
       ·have htz: ¬ (t:Int) < ((n - (i+1):Nat):Int):=by omega
        have hn1:i+1+t=n:=by omega
        rw [hn1] at aa;have ae:=q_ (aa.out.step (below_drew (Below.refl wr.heap.size wr)));have HPV4:Aside0 (wr.drew.cell? ⟨pv,0,none⟩=some (.int .i64 (i:Int))):=⟨HPV3.out⟩
        have hp3:=HPV4.out;have hog:=(ae.out.og i HLT.out).1;have hii:=(ae.out.ob i i HLT.out HLT.out).1;rw [mid_head] at hii;clear hn1 htn ht hg2;go_wp2
        refine st_ (n:=8) (S:=fun w'=>w'.cell? ⟨pv,0,none⟩=some (.int .i64 (i:Int))∧w'.cell? ⟨g,i,none⟩=some (.slice (some ⟨b i,0,none⟩) n (cp i))∧w'.cell? ⟨b i,i,none⟩=some (.int .i64 ((M) i i))) (ds:= []) ⟨hp3,hog,hii⟩ (fun hHeld=>?_)
        generalize wr.drew=w5 at ae HPV4 hp3 hog hii hHeld ⊢
        refine pu_ 0 96 ?_;refine tk_ 1 97 ?_;refine pu_ 2 98 ?_;refine tk_ 3 99 ?_;refine tk_ 4 100 ?_;refine pu_ 5 101 ?_;refine tk_ 6 102 ?_;refine pu_ 7 4 ?_
        refine done_ (by kernel_rfl) ?_
        go_wp2
        go_roundg (n - (i+1))
        case measure=>have:=HG.out;have:=HLT.out;omega
        case rel=>exact⟨i+1,el (M) i last,b,cp,(M) i i,turn,by have:=HLT.out;omega,by omega,rfl,rfl,by first | rfl | (rw [HGI1.out]),⟨ae.out.congr (fun a b ha _=>mid_end _ i last a b ha)⟩,⟨(fnd_some HF.out).2.2.1⟩,⟨by rw [show n - (i+1)=q from by have:=HQ.out;omega];exact HR2.out⟩⟩
    | succ kk=>
     obtain⟨kp,hkp⟩: ∃kp,kp=kk+1:=⟨_,rfl⟩
     simp only [← hkp] at hf hR2 HCALL;obtain⟨s,hs⟩: ∃s,s=i+kp:=⟨_,rfl⟩
     have hfs:=fnd_some hf;have hsn:s < n:=by have:=HLT.out;omega
     have hsi: ¬ s=i:=by omega
     have hik:IntKind.i64.wrap ((i:Int)+(kp:Int))=(s:Int):=by rw [IntWalk.i64_in _ (by have:=HN.out;omega),hs];rfl
     have hnz:M s i≠0:=by rw [hs];exact hfs.2.2.1
     rw [← hs] at hR2;have HNZ:=q_ hnz;have HSN:=q_ hsn;have HSI:=q_ hsi;have HR2:=q_ hR2;have hkz:(0:Int) < (kp:Int):=by omega
     have hkz': ¬ (kp:Int) < 0:=by omega
     clear hR2 hf HF hfs hnz hs hkp kk
     go_wp2_with fail
     refine HCALL.out.mono ?_
     rintro e w2 ⟨rfl,hb2⟩;have ag:=q_ (ah.out.step hb2);have HPV:Aside0 (w2.cell? ⟨wr.heap.size,0,none⟩=some (.int .i64 (i:Int))):=⟨(hb2.cell (p:=⟨wr.heap.size,0,none⟩) (by simp)).trans HPC.out⟩
     generalize wr.heap.size=pv at*
     clear hb2 HCALL HO ah HR HPC;have aa:=q_ (ag.out.step (below_drew (Below.refl w2.heap.size w2)));have HPV3:Aside0 (w2.drew.cell? ⟨pv,0,none⟩=some (.int .i64 (i:Int))):=⟨HPV.out⟩
     have HSW:=q_ (aa.out.swap HLT.out HSN.out);have hp0:=HPV3.out;have hgs:=(aa.out.og s HSN.out).1;have hgsf:=(aa.out.og s HSN.out).2;have hgi:=(aa.out.og i HLT.out).1;have hgif:=(aa.out.og i HLT.out).2;have hst:(w2.drew.setCell ⟨g,i,none⟩ (.slice (some ⟨b s,0,none⟩) n (cp s))).cell? ⟨g,s,none⟩=some (.slice (some ⟨b s,0,none⟩) n (cp s)):=by rw [cset_other (by intro e;exact HSI.out (congrArg Addr.off e).symm)];exact hgs
     have hstf:(w2.drew.setCell ⟨g,i,none⟩ (.slice (some ⟨b s,0,none⟩) n (cp s))).frozen? ⟨g,s,none⟩=false:=by rw [fset];exact hgsf
     have hsz:(s:Int) < (n:Int):=by omega
     have h0s:(0:Int)≤(s:Int):=by omega
     clear ag HPV hsn hsi;go_wp2
     refine st_ (n:=20) (S:=fun w'=>w'.cell? ⟨pv,0,none⟩=some (.int .i64 (i:Int))∧w'.cell? ⟨g,s,none⟩=some (.slice (some ⟨b s,0,none⟩) n (cp s))) (ds:= [19]) ⟨hp0,hgs⟩ (fun hHeld=>?_)
     generalize w2.drew=w5 at aa HPV3 HSW hp0 hgs hgi hgsf hgif hst hstf hHeld ⊢
     refine pu_ 0 28 ?_;refine tk_ 1 29 ?_;refine pu_ 2 30 ?_;refine tk_ 3 31 ?_;refine p3_ 4 32 5 33 6 34 ?_;refine tk_ 7 35 ?_;refine p3_ 8 36 9 37 10 38 ?_;refine tk_ 11 39 ?_;refine pu_ 12 40 ?_;refine tk_ 13 41 ?_;refine pu_ 14 42 ?_
     refine on_ 15 (some 43) (fun K hK=>?_)
     refine value_ (w1:=w5) (v:= .slice (some ⟨b i,0,none⟩) n (cp i)) (by rfl) rfl (by go_simp) ?_
     refine hK.out _ _ hHeld (fun hHeld=>?_)
     clear hK K;refine norm_ (a':=?_) ?_ ?_
     rotate_left
     ·show Act.put _ (some 43) _=_
      simp only [Act.put,List.setIfInBounds_toArray,List.set_cons_zero,List.set_cons_succ,i64_w,i32_w]
      rfl
     refine pu_ 16 44 ?_
     refine on_ 17 none (fun K hK=>?_)
     refine skip_ (w1:=?_) (by rfl) rfl ?_ ?_
     rotate_left
     ·go_simp
      rfl
     refine hK.out _ _ ⟨(cset_other (by intro e;exact HNG.out (congrArg Addr.block e))).trans hp0,hst⟩ (fun hHeld=>?_)
     clear hK K;refine pu_ 18 45 ?_
     refine la_ 19 none (fun K hK=>?_)
     refine skip_ (w1:=?_) (by rfl) rfl ?_ ?_
     rotate_left
     ·go_simp
      rfl
     refine hK.out _ _ ?_
     clear hK K;refine done_ (by kernel_rfl) ?_
     have HPV:Aside0 (((w5.setCell ⟨g,i,none⟩ (.slice (some ⟨b s,0,none⟩) n (cp s))).setCell ⟨g,s,none⟩ (.slice (some ⟨b i,0,none⟩) n (cp i))).cell? ⟨pv,0,none⟩=some (.int .i64 (i:Int))):=⟨by
      rw [cset_other (by intro e;exact HNG.out (congrArg Addr.block e)),cset_other (by intro e;exact HNG.out (congrArg Addr.block e))];exact HPV3.out⟩
     have HNB2:Aside0 (∀j,j < n→b (sw i s j)≠pv):=⟨fun j hj=>HNB.out _ (sw_lt HLT.out HSN.out hj)⟩
     have HNZ2:Aside0 ((fun j=>M (sw i s j)) i i≠0):=⟨by show M (sw i s i) i≠0;rw [show sw i s i=s from by simp [sw]];exact HNZ.out⟩
     have HR3:Aside0 (dgo n q (i+1) (el (fun j=>M (sw i s j)) i last) ((fun j=>M (sw i s j)) i i) (wrap64 (-turn))=R):=HR2;clear HR2 HNB HNZ aa HPV3 hp0 hgs hgi hgsf hgif hst hstf hHeld;have ag:=HSW;clear HSW
     generalize (w5.setCell ⟨g,i,none⟩ (.slice (some ⟨b s,0,none⟩) n (cp s))).setCell ⟨g,s,none⟩ (.slice (some ⟨b i,0,none⟩) n (cp i))=w6 at ag HPV ⊢
     generalize Value.bool (decide ((kp:Int) < 0))=uu1
     generalize Value.bool (decide (0 < kp))=uu2
     have ⟨b2,hb2⟩: ∃b2:Nat→Nat,b2=fun j=>b (sw i s j):=⟨_,rfl⟩
     have ⟨cp2,hcp2⟩: ∃cp2:Nat→Nat,cp2=fun j=>cp (sw i s j):=⟨_,rfl⟩
     have ⟨M2,hM2⟩: ∃M2:Mat,M2=fun j=>M (sw i s j):=⟨_,rfl⟩
     have HNB:Aside0 (∀j,j < n→b2 j≠pv):=⟨fun j hj=>by rw [hb2];exact HNB2.out j hj⟩
     rw [← hb2, ← hcp2, ← hM2] at ag;rw [← hM2] at HNZ2 HR3;have HR2:=HR3;clear HR3 HNB2 hb2 hcp2 hM2;have HF:=HNZ2;clear HNZ2;have hgi1:IntKind.i64.wrap ((i:Int)+1)=((i+1:Nat):Int):=by rw [IntWalk.i64_in _ (by have:=HN.out;have:=HLT.out;omega)];rfl
     have HGI1:=q_ hgi1;have hi1z:((i+1:Nat):Int)≤(n:Int):=by have:=HLT.out;omega
     have h0z1:(0:Int)≤((i+1:Nat):Int):=by omega
     by_cases hcc:cap=i+1
     ·have hp0:=HPV.out;have hn1:n=i+1:=by have:=HCAP.out;have:=HLT.out;omega
      have h00: ¬ (0:Int) < ((n - (i+1):Nat):Int):=by omega
      have HN1:=q_ hn1;have hcct:=eq_true hcc;clear hn1 hcc;go_wp2
      go_loopg [53] 1 (fun gg v53 w3=>v53= .int .i64 0∧Aside0 (Own w w3 g n b2 cp2 M2)∧Aside0 (w3.cell? ⟨pv,0,none⟩=some (.int .i64 (i:Int))))
      case atStart=>exact⟨rfl,ag,HPV⟩
      case round=>
       clear ag HPV hp0;obtain⟨rfl,aa,HPV3⟩:=hrel;have ae:=q_ (aa.out.step (below_drew (Below.refl wr.heap.size wr)));have HPV4:Aside0 (wr.drew.cell? ⟨pv,0,none⟩=some (.int .i64 (i:Int))):=⟨HPV3.out⟩
       have hp3:=HPV4.out;have hog:=(ae.out.og i HLT.out).1;have hii:=(ae.out.ob i i HLT.out HLT.out).1;go_wp2
       refine st_ (n:=8) (S:=fun w'=>w'.cell? ⟨pv,0,none⟩=some (.int .i64 (i:Int))∧w'.cell? ⟨g,i,none⟩=some (.slice (some ⟨b2 i,0,none⟩) n (cp2 i))∧w'.cell? ⟨b2 i,i,none⟩=some (.int .i64 ((M2) i i))) (ds:= []) ⟨hp3,hog,hii⟩ (fun hHeld=>?_)
       generalize wr.drew=w5 at ae HPV4 hp3 hog hii hHeld ⊢
       refine pu_ 0 96 ?_;refine tk_ 1 97 ?_;refine pu_ 2 98 ?_;refine tk_ 3 99 ?_;refine tk_ 4 100 ?_;refine pu_ 5 101 ?_;refine tk_ 6 102 ?_;refine pu_ 7 4 ?_
       refine done_ (by kernel_rfl) ?_
       go_wp2
       go_roundg (n - (i+1))
       case measure=>have:=HG.out;have:=HLT.out;omega
       case rel=>exact⟨i+1,el (M2) i last,b2,cp2,(M2) i i,wrap64 (-turn),by have:=HLT.out;omega,by omega,rfl,rfl,by first | rfl | (rw [HGI1.out]),⟨ae.out.congr (fun a b ha _=>by unfold el;rw [if_neg (by have:=HN1.out;omega)])⟩,HF,⟨by rw [show n - (i+1)=q from by have:=HQ.out;omega];exact HR2.out⟩⟩
     ·have hp0:=HPV.out;go_wp2
      go_loopg [53] n (fun gg v53 w3=> ∃t:Nat,i+1+t≤n∧n - (i+1+t)≤gg∧v53= .int .i64 (t:Int)∧Aside0 (Own w w3 g n b2 cp2 (mid M2 i last (i+1+t) i))∧Aside0 (w3.cell? ⟨pv,0,none⟩=some (.int .i64 (i:Int))))
      case atStart=>exact⟨0,by have:=HLT.out;omega,by omega,by simp,⟨ag.out.congr (fun a b _ _=>(mid_start _ i last a b).symm)⟩,HPV⟩
      case round=>
       clear ag HPV hp0;obtain⟨t,ht,hg2,rfl,aa,HPV3⟩:=hrel;have HT:=q_ ht;have HG2:=q_ hg2
       by_cases htn:i+1+t < n
       ·have htz:(t:Int) < ((n - (i+1):Nat):Int):=by omega
        have h0t:(0:Int)≤(t:Int):=by omega
        have HTN:=q_ htn;have hog:=(aa.out.og (i+1+t) htn).1;have hf0:=(aa.out.ob (i+1+t) i htn HLT.out).1;rw [mid_at _ i last (i+1+t) i i (Nat.le_refl _)] at hf0;have hp3:=HPV3.out;have ht1:IntKind.i64.wrap ((t:Int)+1)=((t+1:Nat):Int):=by rw [IntWalk.i64_in _ (by have:=HN.out;omega)];rfl
        have HT1:=q_ ht1
        generalize hr:i+1+t=r at*
        have HRE:=q_ hr;have htr:i+1+t=r:=hr;clear hr;go_wp2
        go_loopg [11] n (fun gg v11 w4=> ∃c':Nat,i≤c'∧c'≤n∧n - c'≤gg∧v11= .int .i64 (c':Int)∧Aside0 (Own w w4 g n b2 cp2 (mid M2 i last r c'))∧Aside0 (w4.cell? ⟨pv,0,none⟩=some (.int .i64 (i:Int))))
        case atStart=>exact⟨i,Nat.le_refl _,HI.out,by omega,rfl,aa,HPV3⟩
        case round=>
         clear aa HPV3 hp3 hog hf0;obtain⟨c',hc1,hc2,hg3,rfl,ae,HPV4⟩:=hrel;have HC1:=q_ hc1;have HC2:=q_ hc2;have HG3:=q_ hg3
         by_cases hcn:c' < n
         ·have hcz:(c':Int) < (n:Int):=by omega
          have h0c:(0:Int)≤(c':Int):=by omega
          have HCN:=q_ hcn;have af:=q_ (ae.out.step (below_drew (Below.refl wr.heap.size wr)));have HPV5:Aside0 (wr.drew.cell? ⟨pv,0,none⟩=some (.int .i64 (i:Int))):=⟨HPV4.out⟩
          have h1:=(af.out.ob r c' HTN.out hcn).1;have h1f:=(af.out.ob r c' HTN.out hcn).2;have h2:=(af.out.og i HLT.out).1;have h3:=(af.out.ob i i HLT.out HLT.out).1;have h4:=(af.out.ob i c' HLT.out hcn).1;rw [mid_at _ i last r c' c' (Nat.le_refl _)] at h1;rw [mid_head] at h3 h4;have hp4:=HPV5.out;have hl0:(last==0)=false:=by have:=HL.out;simpa using this
          have hl1: ¬ last=0:=HL.out;have hc11:IntKind.i64.wrap ((c':Int)+1)=((c'+1:Nat):Int):=by rw [IntWalk.i64_in _ (by have:=HN.out;omega)];rfl
          have HC11:=q_ hc11;clear hc1 hc2 hg3 hcn;go_wp2
          refine st_ (n:=28) (S:=fun w'=>w'.cell? ⟨b2 r,c',none⟩=some (.int .i64 ((M2) r c'))∧w'.cell? ⟨pv,0,none⟩=some (.int .i64 (i:Int))∧w'.cell? ⟨g,i,none⟩=some (.slice (some ⟨b2 i,0,none⟩) n (cp2 i))∧w'.cell? ⟨b2 i,i,none⟩=some (.int .i64 ((M2) i i))∧w'.cell? ⟨b2 i,c',none⟩=some (.int .i64 ((M2) i c'))) (ds:= [27]) ⟨h1,hp4,h2,h3,h4⟩ (fun hHeld=>?_)
          generalize wr.drew=w5 at af HPV5 h1 hp4 h2 h3 h4 h1f hHeld ⊢
          refine p4_ 0 68 1 69 2 70 3 71 ?_;refine pu_ 4 72 ?_;refine tk_ 5 73 ?_;refine pu_ 6 74 ?_;refine tk_ 7 75 ?_;refine pu_ 8 76 ?_;refine tk_ 9 77 ?_;refine tk_ 10 78 ?_;refine pu_ 11 79 ?_;refine tk_ 12 80 ?_;refine p3_ 13 81 14 82 15 83 ?_;refine tk_ 16 84 ?_;refine pu_ 17 85 ?_;refine tk_ 18 86 ?_;refine p2_ 19 87 20 88 ?_;refine tk_ 21 89 ?_;refine p4_ 22 90 23 91 24 92 25 93 ?_;refine pu_ 26 94 ?_
          refine la_ 27 none (fun K hK=>?_)
          refine skip_ (w1:=?_) (by rfl) rfl ?_ ?_
          rotate_left
          ·go_simp
           rfl
          refine hK.out _ _ ?_
          clear hK K;refine done_ (by kernel_rfl) ?_
          go_wp2
          go_roundg (n - (c'+1))
          case measure=>have:=HG3.out;have:=HCN.out;omega
          case rel=>
           have hput:=(af.out.put HTN.out HCN.out (ev M2 i last r c')).congr (M':=mid M2 i last r (c'+1)) (fun a b _ _=>mid_next _ i last r c' (by have:=HRE.out;omega) HC1.out a b);refine⟨c'+1,by have:=HC1.out;omega,HCN.out,by omega,by first | rfl | (rw [HC11.out]) | (simp [HC11.out]),⟨hput⟩,⟨?_⟩⟩
           rw [cset_other (by intro e;exact HNB.out r HTN.out (congrArg Addr.block e))];exact HPV5.out
         ·have hcz: ¬ (c':Int) < (n:Int):=by omega
          obtain rfl:c'=n:=by have:=HC2.out;omega
          clear hcn hc1 hc2 hg3;go_wp2
          go_roundg (c' - (r+1))
          case measure=>have:=HG2.out;have:=HTN.out;omega
          case rel=>exact⟨t+1,by have:=HTN.out;have:=HRE.out;omega,by have:=HRE.out;omega,by first | rfl | (rw [HT1.out]) | (simp [HT1.out]),⟨ae.out.congr (fun a b _ hb=>by rw [mid_row _ i last r a b hb,show i+1+(t+1)=r+1 from by have:=HRE.out;omega])⟩,HPV4⟩
       ·have htz: ¬ (t:Int) < ((n - (i+1):Nat):Int):=by omega
        have hn1:i+1+t=n:=by omega
        rw [hn1] at aa;have ae:=q_ (aa.out.step (below_drew (Below.refl wr.heap.size wr)));have HPV4:Aside0 (wr.drew.cell? ⟨pv,0,none⟩=some (.int .i64 (i:Int))):=⟨HPV3.out⟩
        have hp3:=HPV4.out;have hog:=(ae.out.og i HLT.out).1;have hii:=(ae.out.ob i i HLT.out HLT.out).1;rw [mid_head] at hii;clear hn1 htn ht hg2;go_wp2
        refine st_ (n:=8) (S:=fun w'=>w'.cell? ⟨pv,0,none⟩=some (.int .i64 (i:Int))∧w'.cell? ⟨g,i,none⟩=some (.slice (some ⟨b2 i,0,none⟩) n (cp2 i))∧w'.cell? ⟨b2 i,i,none⟩=some (.int .i64 ((M2) i i))) (ds:= []) ⟨hp3,hog,hii⟩ (fun hHeld=>?_)
        generalize wr.drew=w5 at ae HPV4 hp3 hog hii hHeld ⊢
        refine pu_ 0 96 ?_;refine tk_ 1 97 ?_;refine pu_ 2 98 ?_;refine tk_ 3 99 ?_;refine tk_ 4 100 ?_;refine pu_ 5 101 ?_;refine tk_ 6 102 ?_;refine pu_ 7 4 ?_
        refine done_ (by kernel_rfl) ?_
        go_wp2
        go_roundg (n - (i+1))
        case measure=>have:=HG.out;have:=HLT.out;omega
        case rel=>exact⟨i+1,el (M2) i last,b2,cp2,(M2) i i,wrap64 (-turn),by have:=HLT.out;omega,by omega,rfl,rfl,by first | rfl | (rw [HGI1.out]),⟨ae.out.congr (fun a b ha _=>mid_end _ i last a b ha)⟩,HF,⟨by rw [show n - (i+1)=q from by have:=HQ.out;omega];exact HR2.out⟩⟩
  ·obtain rfl:i=n:=by omega
   have hltz: ¬ (i:Int) < (i:Int):=by omega
   rw [Nat.sub_self] at HR;go_wp2
   go_ret
   exact⟨by rw [← HR.out];rfl,HO.out.below⟩
def impl_determinant.f (l0:List (List Int)):Option Int:=if l0.length≤1000∧ ∀x ∈ l0,x.length=l0.length then some (dgo l0.length l0.length 0 (en l0) 1 1) else none
theorem det_none (A:Option Addr) (c:Nat) (w:World) (hr:Kd.C (Kd.slice 2 (Kd.int .i64)) w A 0 []):
  Calls Try.prog 67 #[.slice A 0 c] w fun e w'=>e= .returned (.int .i64 1)∧Below w.heap.size w w':=by
 obtain⟨k,hk⟩:=evk (copy_eq [] (by decide) (fun x hx=>by cases hx));have hcopy:=fun W (hW:Below w.heap.size w W)=>impl_copyRows.calls k A c [] [] W (Kd.C_below hr hW) (Nat.zero_le _) hk
 have HCOPY:=q_ hcopy;clear hcopy hk hr
 go_enter Try.func67,Try.ntmps67
 go_wp2_with fail
 refine(HCOPY.out _ (Below.refl _ _)).mono ?_
 rintro e w1 ⟨v0,rfl,hS,hB⟩;obtain⟨A1,c1,rfl⟩:=Kd.S_slice hS;have HB:=q_ hB;clear HCOPY hS hB;go_wp2
 go_loopg [4,5,16] 1 (fun gg v4 v5 v16 wr=>v4= .int .i64 1∧v5= .int .i64 1∧v16= .int .i64 0∧Aside0 (Below w.heap.size w wr))
 case atStart=>exact⟨rfl,rfl,rfl,HB⟩
 case round=>
  obtain⟨rfl,rfl,rfl,HB2⟩:=hrel;go_wp2
  go_ret
  exact⟨by rfl,HB2.out⟩
theorem impl_determinant.calls (A0:Option Addr) (c0:Nat) (l0:List (List Int)) (r:Int) (w:World) (hr0:Kd.C (Kd.slice 2 (Kd.int .i64)) w A0 l0.length l0) (hc0:l0.length≤c0) (h:impl_determinant.f l0=some r):
  Calls Try.prog 67 #[.slice A0 l0.length c0] w fun e w'=>e= .returned (.int .i64 r)∧Below w.heap.size w w':=by
 unfold impl_determinant.f at h
 split at h
 case isFalse=>cases h
 rename_i hc
 have h:=Option.some.inj h
 by_cases hp:0 < l0.length
 ·exact det_calls l0.length r A0 c0 l0 w hr0 hc0 rfl hp hc.1 hc.2 h
 ·have e:l0= []:=List.eq_nil_of_length_eq_zero (by omega);subst e;have e1:r=1:=by rw [← h];show wrap64 (1*1)=1;exact w64 (by omega) (by omega)
  subst e1;exact det_none A0 c0 w hr0
end Go.Proofs.Ytbjljcpngbhkeaa.Pr
end
section
namespace Go.Proofs.Ytbjljcpngbhkeaa.Pr
open Go.RowKit Wz.PrintWords Wz.PrintLast Wz.PrintMore
attribute [local go_sem] max2_int min2_int max_two min_two max_three min_three max_four min_four
def impl_minor.f (k:Nat) (l0:List (List Int)) (a1:Int):Option (Int):=(impl_part.f k l0 a1 a1).bind fun aa=>((impl_determinant.f aa).bind fun ae=>(some ae))
theorem impl_minor.calls (k:Nat) (A0:Option Addr) (c0:Nat) (l0:List (List Int)) (a1:Int) (r:Int) (w:World) (hr0:Kd.C (Kd.slice 2 (Kd.int .i64)) w A0 l0.length l0) (hc0:l0.length≤c0) (h:impl_minor.f k l0 a1=some r):
  Calls Try.prog 41 #[.slice A0 l0.length c0, .int .i64 a1] w fun e w'=>e= .returned (.int .i64 r)∧Below w.heap.size w w':=by
 have HR0:=q_ hr0;have HC0:=q_ hc0;clear hr0 hc0;have HB:=q_ (Below.refl w.heap.size w);have H:((impl_part.f k l0 a1 a1).bind fun ae=>((impl_determinant.f ae).bind fun af=>(some af)))=some r:=h;clear h;replace H:=Option.bind_eq_some_iff.mp H;obtain⟨ae,A30,H⟩:=H;replace H:((impl_determinant.f ae).bind fun af=>(some af))=some r:=H;have A3:=q_ A30;clear A30;replace H:=Option.bind_eq_some_iff.mp H;obtain⟨af,A40,H⟩:=H;replace H:(some af)=some r:=H;have A4:=q_ A40;clear A40;obtain rfl:=Option.some.inj H
 go_enter Try.func41,Try.ntmps41
 go_wp2_with (first | ((with_reducible refine gate_callee (f:=48) rfl ?_);refine gL_ 8 Try.func48 #[.slice A0 l0.length c0, .int .i64 a1, .int .i64 a1] ?_;(with_reducible refine(impl_part.calls k _ _ l0 a1 a1 ae _ ?ag ?ah A3.out).mono ?_);(case ag=>repeat (first | exact HR0.out | (with_reducible refine Kd.C_alloc ?_ _) | (with_reducible refine Kd.C_drewN ?_ _) | (with_reducible refine Kd.C_drew ?_)));(case ah=>exact HC0.out);rintro e w5 ⟨aq,rfl,ho0,hb⟩;refine⟨_,rfl,?_⟩;have aa:=q_ (Kd.S_lower ho0 bz_);replace HB:=Bs_ hb;(try clear hb);(try clear ho0);obtain⟨ai,aj,ak⟩:=Kd.S_slice aa.out;subst ak) | ((with_reducible refine gate_callee (f:=67) rfl ?_);refine gL_ 9 Try.func67 #[.slice ai ae.length aj] ?_;(with_reducible refine(impl_determinant.calls _ _ ae af _ ?ag ?ah A4.out).mono ?_);(case ag=>exact cS_);(case ah=>exact(Kd.S_reads' aa.out).2.1);rintro e w7 ⟨rfl,hb⟩;refine⟨_,rfl,?_⟩;replace aa:=q_ (Kd.S_below (so_ aa.out) hb);replace HB:=Bs_ hb;(try clear hb)))
 go_ret
 exact⟨ew_,hb_⟩
def impl_PivotMinor.f (k:Nat) (aa:List (List Int)) (ae:List Int) (a1:Int) (a2:Int):Option (Int × Int × Int):=(impl_IsProblem.f aa ae).bind fun ag=>(if ag=true then((impl_isSet.f a1 (ae.length:Int)).bind fun ah=>(if ah=true then((impl_isSet.f a2 (ae.length:Int)).bind fun ai=>(if ai=true then((impl_minor.f k aa a1).bind fun af=>(if af=0 then(some (0,0,5)) else((impl_minor.f k aa (Go.bits .xor .i64 a1 a2)).bind fun aj=>(some (aj,af,0))))) else(some (0,0,2)))) else(some (0,0,2)))) else(some (0,0,1)))
theorem impl_PivotMinor.calls (k:Nat) (ai:Option Addr) (aj:Nat) (ae:List (List Int)) (ak:Option Addr) (aq:Nat) (af:List Int) (a1:Int) (a2:Int) (r1:Int) (r2:Int) (r3:Int) (w:World) (aH:Kd.C (Kd.slice 2 (Kd.int .i64)) w ai ae.length ae) (aI:ae.length≤aj) (aJ:Kd.C (Kd.int .i64) w ak af.length af) (aK:af.length≤aq) (h:impl_PivotMinor.f k ae af a1 a2=some (r1,r2,r3)):
  Calls Try.prog 7 #[.agg #[.slice ai ae.length aj, .slice ak af.length aq], .int .i64 a1, .int .i64 a2] w fun e w'=>e= .returned (.tuple #[.int .i64 r1, .int .i64 r2, .int .i64 r3])∧Below w.heap.size w w':=by
 have hu27:=Try.underlying27;have HR0_0:=q_ aH;have HC0_0:=q_ aI;clear aH aI;have HR0_1:=q_ aJ;have HC0_1:=q_ aK;clear aJ aK;have HB:=q_ (Below.refl w.heap.size w);have H:((impl_IsProblem.f ae af).bind fun aG=>(if aG=true then((impl_isSet.f a1 (af.length:Int)).bind fun aA=>(if aA=true then((impl_isSet.f a2 (af.length:Int)).bind fun ax=>(if ax=true then((impl_minor.f k ae a1).bind fun ah=>(if ah=0 then(some (0,0,5)) else((impl_minor.f k ae (Go.bits .xor .i64 a1 a2)).bind fun aw=>(some (aw,ah,0))))) else(some (0,0,2)))) else(some (0,0,2)))) else(some (0,0,1))))=some (r1,r2,r3):=h;clear h;replace H:=Option.bind_eq_some_iff.mp H;obtain⟨aG,A40,H⟩:=H;replace H:(if aG=true then((impl_isSet.f a1 (af.length:Int)).bind fun aA=>(if aA=true then((impl_isSet.f a2 (af.length:Int)).bind fun ax=>(if ax=true then((impl_minor.f k ae a1).bind fun ah=>(if ah=0 then(some (0,0,5)) else((impl_minor.f k ae (Go.bits .xor .i64 a1 a2)).bind fun aw=>(some (aw,ah,0))))) else(some (0,0,2)))) else(some (0,0,2)))) else(some (0,0,1)))=some (r1,r2,r3):=H;have A4:=q_ A40;clear A40
 by_cases c5:aG=true
 ·subst c5;have H1:((impl_isSet.f a1 (af.length:Int)).bind fun aA=>(if aA=true then((impl_isSet.f a2 (af.length:Int)).bind fun ax=>(if ax=true then((impl_minor.f k ae a1).bind fun ah=>(if ah=0 then(some (0,0,5)) else((impl_minor.f k ae (Go.bits .xor .i64 a1 a2)).bind fun aw=>(some (aw,ah,0))))) else(some (0,0,2)))) else(some (0,0,2))))=some (r1,r2,r3):=by rw [if_pos rfl] at H;exact H
  clear H;have H:=H1;clear H1;replace H:=Option.bind_eq_some_iff.mp H;obtain⟨aA,A60,H⟩:=H;replace H:(if aA=true then((impl_isSet.f a2 (af.length:Int)).bind fun ax=>(if ax=true then((impl_minor.f k ae a1).bind fun ah=>(if ah=0 then(some (0,0,5)) else((impl_minor.f k ae (Go.bits .xor .i64 a1 a2)).bind fun aw=>(some (aw,ah,0))))) else(some (0,0,2)))) else(some (0,0,2)))=some (r1,r2,r3):=H;have A6:=q_ A60;clear A60
  by_cases c7:aA=true
  ·subst c7;have H1:((impl_isSet.f a2 (af.length:Int)).bind fun ax=>(if ax=true then((impl_minor.f k ae a1).bind fun ah=>(if ah=0 then(some (0,0,5)) else((impl_minor.f k ae (Go.bits .xor .i64 a1 a2)).bind fun aw=>(some (aw,ah,0))))) else(some (0,0,2))))=some (r1,r2,r3):=by rw [if_pos rfl] at H;exact H
   clear H;have H:=H1;clear H1;replace H:=Option.bind_eq_some_iff.mp H;obtain⟨ax,A80,H⟩:=H;replace H:(if ax=true then((impl_minor.f k ae a1).bind fun ah=>(if ah=0 then(some (0,0,5)) else((impl_minor.f k ae (Go.bits .xor .i64 a1 a2)).bind fun aw=>(some (aw,ah,0))))) else(some (0,0,2)))=some (r1,r2,r3):=H;have A8:=q_ A80;clear A80
   by_cases c9:ax=true
   ·subst c9;have H1:((impl_minor.f k ae a1).bind fun ah=>(if ah=0 then(some (0,0,5)) else((impl_minor.f k ae (Go.bits .xor .i64 a1 a2)).bind fun aw=>(some (aw,ah,0)))))=some (r1,r2,r3):=by rw [if_pos rfl] at H;exact H
    clear H;have H:=H1;clear H1;replace H:=Option.bind_eq_some_iff.mp H;obtain⟨ah,A100,H⟩:=H;replace H:(if ah=0 then(some (0,0,5)) else((impl_minor.f k ae (Go.bits .xor .i64 a1 a2)).bind fun aw=>(some (aw,ah,0))))=some (r1,r2,r3):=H;have A10:=q_ A100;clear A100
    by_cases c11:ah=0
    ·rw [if_pos c11] at H;have c11b0:=e1_ c11;have c11b1:=e2_ c11;clear c11;simp only [Option.some.injEq,Prod.mk.injEq] at H;obtain⟨rfl,rfl,rfl⟩:=H
     go_enter Try.func7,Try.ntmps7
     go_wp2_with (first | ((with_reducible refine gate_dst (N:=3) rfl ?_);(try (refine gate_guard (by rfl) ?_;dsimp only));refine be_ 3 #[.slice ai ae.length aj, .slice ak af.length aq] 27 ?_;intro ag hg w12 hbox hb;have aa:=q_ (hbox);have aC:=gz_ w hg;have aD:=gz_ w hg;replace HB:=Bs_ hb;clear hb hbox hg;obtain⟨aM,aN,aQ,aT⟩:=c2_ aa) | ((with_reducible refine gate_callee (f:=39) rfl ?_);refine gL_ 12 Try.func39 #[.agg #[.slice ai ae.length aj, .slice ak af.length aq]] ?_;(with_reducible refine(impl_IsProblem.calls _ _ ae _ _ af true _ ?au ?av ?ay ?az A4.out).mono ?_);(case au=>exact cb_ HR0_0.out HB.out);(case av=>exact HC0_0.out);(case ay=>exact cb_ HR0_1.out HB.out);(case az=>exact HC0_1.out);rintro e w14 ⟨rfl,hb⟩;refine⟨_,rfl,?_⟩;replace aa:=Bb_ aa hb;replace HB:=Bs_ hb;(try clear hb);obtain⟨aU,aV,aW,aX⟩:=c2_ aa) | ((with_reducible refine gate_callee (f:=40) rfl ?_);refine gL_ 19 Try.func40 #[.int .i64 a1, .int .i64 (af.length:Int)] ?_;(with_reducible refine(impl_isSet.calls a1 (af.length:Int) true _ A6.out).mono ?_);rintro e w' ⟨rfl,⟨nd,rfl⟩⟩;refine⟨_,rfl,?_⟩) | (go_at_call 40;(with_reducible refine(impl_isSet.calls a2 (af.length:Int) true _ A8.out).mono ?_);rintro e w' ⟨rfl,⟨nd,rfl⟩⟩) | ((with_reducible refine gate_callee (f:=41) rfl ?_);refine gL_ 32 Try.func41 #[.slice ai ae.length aj, .int .i64 a1] ?_;(with_reducible refine(impl_minor.calls k _ _ ae a1 ah _ ?au ?av A10.out).mono ?_);(case au=>repeat (first | exact(Kd.C_below HR0_0.out hb_) | (with_reducible refine Kd.C_alloc ?_ _) | (with_reducible refine Kd.C_drewN ?_ _) | (with_reducible refine Kd.C_drew ?_)));(case av=>exact HC0_0.out);rintro e w16 ⟨rfl,hb⟩;refine⟨_,rfl,?_⟩;replace aa:=Bb_ aa hb;replace HB:=Bs_ hb;(try clear hb)))
     go_ret3
     exact⟨ew_,hb_⟩
    ·rw [if_neg c11] at H;have c11b0:=e3_ c11;have c11b1:=e4_ c11;replace H:=Option.bind_eq_some_iff.mp H;obtain⟨aw,A170,H⟩:=H;replace H:(some (aw,ah,0))=some (r1,r2,r3):=H;have A17:=q_ A170;clear A170;simp only [Option.some.injEq,Prod.mk.injEq] at H;obtain⟨rfl,rfl,rfl⟩:=H
     go_enter Try.func7,Try.ntmps7
     go_wp2_with (first | ((with_reducible refine gate_dst (N:=3) rfl ?_);(try (refine gate_guard (by rfl) ?_;dsimp only));refine be_ 3 #[.slice ai ae.length aj, .slice ak af.length aq] 27 ?_;intro ag hg w18 hbox hb;have aa:=q_ (hbox);have aC:=gz_ w hg;have aD:=gz_ w hg;replace HB:=Bs_ hb;clear hb hbox hg;obtain⟨aY,aZ,a9,ba⟩:=c2_ aa) | ((with_reducible refine gate_callee (f:=39) rfl ?_);refine gL_ 12 Try.func39 #[.agg #[.slice ai ae.length aj, .slice ak af.length aq]] ?_;(with_reducible refine(impl_IsProblem.calls _ _ ae _ _ af true _ ?au ?av ?ay ?az A4.out).mono ?_);(case au=>exact cb_ HR0_0.out HB.out);(case av=>exact HC0_0.out);(case ay=>exact cb_ HR0_1.out HB.out);(case az=>exact HC0_1.out);rintro e w20 ⟨rfl,hb⟩;refine⟨_,rfl,?_⟩;replace aa:=Bb_ aa hb;replace HB:=Bs_ hb;(try clear hb);obtain⟨bf,bg,bh,bk⟩:=c2_ aa) | ((with_reducible refine gate_callee (f:=40) rfl ?_);refine gL_ 19 Try.func40 #[.int .i64 a1, .int .i64 (af.length:Int)] ?_;(with_reducible refine(impl_isSet.calls a1 (af.length:Int) true _ A6.out).mono ?_);rintro e w' ⟨rfl,⟨nd,rfl⟩⟩;refine⟨_,rfl,?_⟩) | (go_at_call 40;(with_reducible refine(impl_isSet.calls a2 (af.length:Int) true _ A8.out).mono ?_);rintro e w' ⟨rfl,⟨nd,rfl⟩⟩) | ((with_reducible refine gate_callee (f:=41) rfl ?_);refine gL_ 32 Try.func41 #[.slice ai ae.length aj, .int .i64 a1] ?_;(with_reducible refine(impl_minor.calls k _ _ ae a1 ah _ ?au ?av A10.out).mono ?_);(case au=>repeat (first | exact(Kd.C_below HR0_0.out hb_) | (with_reducible refine Kd.C_alloc ?_ _) | (with_reducible refine Kd.C_drewN ?_ _) | (with_reducible refine Kd.C_drew ?_)));(case av=>exact HC0_0.out);rintro e w22 ⟨rfl,hb⟩;refine⟨_,rfl,?_⟩;replace aa:=Bb_ aa hb;replace HB:=Bs_ hb;(try clear hb);obtain⟨bq,bu,bv,bw⟩:=c2_ aa) | ((with_reducible refine gate_callee (f:=41) rfl ?_);refine gL_ 40 Try.func41 #[.slice ai ae.length aj, .int .i64 (Go.bits .xor .i64 a1 a2)] ?_;(with_reducible refine(impl_minor.calls k _ _ ae (Go.bits .xor .i64 a1 a2) aw _ ?au ?av A17.out).mono ?_);(case au=>exact cb_ HR0_0.out HB.out);(case av=>exact HC0_0.out);rintro e w24 ⟨rfl,hb⟩;refine⟨_,rfl,?_⟩;replace aa:=Bb_ aa hb;replace HB:=Bs_ hb;(try clear hb)))
     go_ret3
     exact⟨ew_,hb_⟩
   ·replace c9:=Bool.eq_false_iff.mpr c9;subst c9;have H1:(some (0,0,2))=some (r1,r2,r3):=by rw [if_neg (show ¬ (false=true) by decide)] at H;exact H
    clear H;have H:=H1;clear H1;simp only [Option.some.injEq,Prod.mk.injEq] at H;obtain⟨rfl,rfl,rfl⟩:=H
    go_enter Try.func7,Try.ntmps7
    go_wp2_with (first | ((with_reducible refine gate_dst (N:=3) rfl ?_);(try (refine gate_guard (by rfl) ?_;dsimp only));refine be_ 3 #[.slice ai ae.length aj, .slice ak af.length aq] 27 ?_;intro ag hg w25 hbox hb;have aa:=q_ (hbox);have aC:=gz_ w hg;have aD:=gz_ w hg;replace HB:=Bs_ hb;clear hb hbox hg;obtain⟨bz,bA,bC,bD⟩:=c2_ aa) | ((with_reducible refine gate_callee (f:=39) rfl ?_);refine gL_ 12 Try.func39 #[.agg #[.slice ai ae.length aj, .slice ak af.length aq]] ?_;(with_reducible refine(impl_IsProblem.calls _ _ ae _ _ af true _ ?au ?av ?ay ?az A4.out).mono ?_);(case au=>exact cb_ HR0_0.out HB.out);(case av=>exact HC0_0.out);(case ay=>exact cb_ HR0_1.out HB.out);(case az=>exact HC0_1.out);rintro e w27 ⟨rfl,hb⟩;refine⟨_,rfl,?_⟩;replace aa:=Bb_ aa hb;replace HB:=Bs_ hb;(try clear hb);obtain⟨bE,bF,bG,bH⟩:=c2_ aa) | ((with_reducible refine gate_callee (f:=40) rfl ?_);refine gL_ 19 Try.func40 #[.int .i64 a1, .int .i64 (af.length:Int)] ?_;(with_reducible refine(impl_isSet.calls a1 (af.length:Int) true _ A6.out).mono ?_);rintro e w' ⟨rfl,⟨nd,rfl⟩⟩;refine⟨_,rfl,?_⟩) | (go_at_call 40;(with_reducible refine(impl_isSet.calls a2 (af.length:Int) false _ A8.out).mono ?_);rintro e w' ⟨rfl,⟨nd,rfl⟩⟩))
    go_ret3
    exact⟨ew_,hb_⟩
  ·replace c7:=Bool.eq_false_iff.mpr c7;subst c7;have H1:(some (0,0,2))=some (r1,r2,r3):=by rw [if_neg (show ¬ (false=true) by decide)] at H;exact H
   clear H;have H:=H1;clear H1;simp only [Option.some.injEq,Prod.mk.injEq] at H;obtain⟨rfl,rfl,rfl⟩:=H
   go_enter Try.func7,Try.ntmps7
   go_wp2_with (first | ((with_reducible refine gate_dst (N:=3) rfl ?_);(try (refine gate_guard (by rfl) ?_;dsimp only));refine be_ 3 #[.slice ai ae.length aj, .slice ak af.length aq] 27 ?_;intro ag hg w29 hbox hb;have aa:=q_ (hbox);have aC:=gz_ w hg;have aD:=gz_ w hg;replace HB:=Bs_ hb;clear hb hbox hg;obtain⟨bI,bJ,bK,bL⟩:=c2_ aa) | ((with_reducible refine gate_callee (f:=39) rfl ?_);refine gL_ 12 Try.func39 #[.agg #[.slice ai ae.length aj, .slice ak af.length aq]] ?_;(with_reducible refine(impl_IsProblem.calls _ _ ae _ _ af true _ ?au ?av ?ay ?az A4.out).mono ?_);(case au=>exact cb_ HR0_0.out HB.out);(case av=>exact HC0_0.out);(case ay=>exact cb_ HR0_1.out HB.out);(case az=>exact HC0_1.out);rintro e w31 ⟨rfl,hb⟩;refine⟨_,rfl,?_⟩;replace aa:=Bb_ aa hb;replace HB:=Bs_ hb;(try clear hb);obtain⟨bM,bN,bO,bP⟩:=c2_ aa) | ((with_reducible refine gate_callee (f:=40) rfl ?_);refine gL_ 19 Try.func40 #[.int .i64 a1, .int .i64 (af.length:Int)] ?_;(with_reducible refine(impl_isSet.calls a1 (af.length:Int) false _ A6.out).mono ?_);rintro e w' ⟨rfl,⟨nd,rfl⟩⟩;refine⟨_,rfl,?_⟩))
   go_ret3
   exact⟨ew_,hb_⟩
 ·replace c5:=Bool.eq_false_iff.mpr c5;subst c5;have H1:(some (0,0,1))=some (r1,r2,r3):=by rw [if_neg (show ¬ (false=true) by decide)] at H;exact H
  clear H;have H:=H1;clear H1;simp only [Option.some.injEq,Prod.mk.injEq] at H;obtain⟨rfl,rfl,rfl⟩:=H
  go_enter Try.func7,Try.ntmps7
  go_wp2_with (first | ((with_reducible refine gate_dst (N:=3) rfl ?_);(try (refine gate_guard (by rfl) ?_;dsimp only));refine be_ 3 #[.slice ai ae.length aj, .slice ak af.length aq] 27 ?_;intro ag hg w33 hbox hb;have aa:=q_ (hbox);have aC:=gz_ w hg;have aD:=gz_ w hg;replace HB:=Bs_ hb;clear hb hbox hg;obtain⟨bQ,bR,bS,bT⟩:=c2_ aa) | ((with_reducible refine gate_callee (f:=39) rfl ?_);refine gL_ 12 Try.func39 #[.agg #[.slice ai ae.length aj, .slice ak af.length aq]] ?_;(with_reducible refine(impl_IsProblem.calls _ _ ae _ _ af false _ ?au ?av ?ay ?az A4.out).mono ?_);(case au=>exact cb_ HR0_0.out HB.out);(case av=>exact HC0_0.out);(case ay=>exact cb_ HR0_1.out HB.out);(case az=>exact HC0_1.out);rintro e w35 ⟨rfl,hb⟩;refine⟨_,rfl,?_⟩;replace aa:=Bb_ aa hb;replace HB:=Bs_ hb;(try clear hb)))
  go_ret3
  exact⟨ew_,hb_⟩
def spec_l02Code.f (k:Nat) (ae:List (List Int)) (aa:List Int) (a1:Int):Option (Int):=(spec_l01Is.f k ae aa).bind fun af=>(if af=true then(if 0≤(IntKind.u64.wrap ((aa.length:Int))) then((spec_l01In.f a1 0 (wrap64 ((shl .i64 1 (IntKind.u64.wrap ((aa.length:Int)))) - 1))).bind fun ag=>(if ag=true then(some 0) else(some 2))) else(none)) else(some 1))
theorem spec_l02Code.calls (k:Nat) (ah:Option Addr) (ai:Nat) (ag:List (List Int)) (aj:Option Addr) (ak:Nat) (ae:List Int) (a1:Int) (r:Int) (w:World) (az:Kd.C (Kd.slice 2 (Kd.int .i64)) w ah ag.length ag) (aA:ag.length≤ai) (aC:Kd.C (Kd.int .i64) w aj ae.length ae) (aD:ae.length≤ak) (h:spec_l02Code.f k ag ae a1=some r):
  Calls Try.prog 42 #[.agg #[.slice ah ag.length ai, .slice aj ae.length ak], .int .i64 a1] w fun e w'=>e= .returned (.int .i64 r)∧Below w.heap.size w w':=by
 have hu27:=Try.underlying27;have HR0_0:=q_ az;have HC0_0:=q_ aA;clear az aA;have HR0_1:=q_ aC;have HC0_1:=q_ aD;clear aC aD;have HB:=q_ (Below.refl w.heap.size w);have H:((spec_l01Is.f k ag ae).bind fun ay=>(if ay=true then(if 0≤(IntKind.u64.wrap ((ae.length:Int))) then((spec_l01In.f a1 0 (wrap64 ((shl .i64 1 (IntKind.u64.wrap ((ae.length:Int)))) - 1))).bind fun aq=>(if aq=true then(some 0) else(some 2))) else(none)) else(some 1)))=some r:=h;clear h;replace H:=Option.bind_eq_some_iff.mp H;obtain⟨ay,A30,H⟩:=H;replace H:(if ay=true then(if 0≤(IntKind.u64.wrap ((ae.length:Int))) then((spec_l01In.f a1 0 (wrap64 ((shl .i64 1 (IntKind.u64.wrap ((ae.length:Int)))) - 1))).bind fun aq=>(if aq=true then(some 0) else(some 2))) else(none)) else(some 1))=some r:=H;have A3:=q_ A30;clear A30
 by_cases c4:ay=true
 ·subst c4;have H1:(if 0≤(IntKind.u64.wrap ((ae.length:Int))) then((spec_l01In.f a1 0 (wrap64 ((shl .i64 1 (IntKind.u64.wrap ((ae.length:Int)))) - 1))).bind fun aq=>(if aq=true then(some 0) else(some 2))) else(none))=some r:=by rw [if_pos rfl] at H;exact H
  clear H;have H:=H1;clear H1;obtain⟨ji5,hji5⟩: ∃j_:Int,(IntKind.u64.wrap ((ae.length:Int)))=j_:=⟨_,rfl⟩
  replace H:(if 0≤(ji5) then((spec_l01In.f a1 0 (wrap64 ((shl .i64 1 (ji5)) - 1))).bind fun aq=>(if aq=true then(some 0) else(some 2))) else(none))=some r:=by first | (rw [hji5] at H;exact H) | (simp only [hji5] at H ⊢;exact H)
  (try rw [hji5] at A3)
  by_cases c6:0≤(ji5)
  ·rw [if_pos c6] at H;have c6b0:=eq_true c6;have c6b1:=decide_eq_true c6;clear c6;obtain⟨ji7,hji7⟩: ∃j_:Int,(shl .i64 1 (ji5))=j_:=⟨_,rfl⟩
   replace H:((spec_l01In.f a1 0 (wrap64 ((ji7) - 1))).bind fun aq=>(if aq=true then(some 0) else(some 2)))=some r:=by first | (rw [hji7] at H;exact H) | (simp only [hji7] at H ⊢;exact H)
   (try rw [hji7] at A3)
   have hji7_:=s1_ hji7;have hji7z:=s2_ hji7;have hji7u:=s3_ hji7;have hji7v:=s4_ hji7;have hji7y:=s5_ hji7;have hji7x:=s6_ hji7;replace H:=Option.bind_eq_some_iff.mp H;obtain⟨aq,A80,H⟩:=H;replace H:(if aq=true then(some 0) else(some 2))=some r:=H;have A8:=q_ A80;clear A80
   by_cases c9:aq=true
   ·subst c9;have H1:(some 0)=some r:=by rw [if_pos rfl] at H;exact H
    clear H;have H:=H1;clear H1;obtain rfl:=Option.some.inj H
    go_enter Try.func42,Try.ntmps42
    go_wp2_with (first | ((with_reducible refine gate_dst (N:=2) rfl ?_);refine be_ 2 #[.slice ah ag.length ai, .slice aj ae.length ak] 27 ?_;intro af hg w10 hbox hb;have aa:=q_ (hbox);have aG:=gz_ w hg;have aH:=gz_ w hg;replace HB:=Bs_ hb;clear hb hbox hg;obtain⟨aI,aJ,aK,aM⟩:=c2_ aa) | ((with_reducible refine gate_callee (f:=55) rfl ?_);refine gL_ 7 Try.func55 #[.agg #[.slice ah ag.length ai, .slice aj ae.length ak]] ?_;(with_reducible refine(spec_l01Is.calls k _ _ ag _ _ ae true _ ?au ?av ?aw ?ax A3.out).mono ?_);(case au=>exact cb_ HR0_0.out HB.out);(case av=>exact HC0_0.out);(case aw=>exact cb_ HR0_1.out HB.out);(case ax=>exact HC0_1.out);rintro e w12 ⟨rfl,hb⟩;refine⟨_,rfl,?_⟩;replace aa:=Bb_ aa hb;replace HB:=Bs_ hb;(try clear hb);obtain⟨aN,aQ,aT,aU⟩:=c2_ aa) | ((with_reducible refine gate_callee (f:=56) rfl ?_);refine goesL_ (some 17) rfl rfl Try.func56 (by kernel_rfl) rfl #[.int .i64 a1, .int .i64 0, .int .i64 (wrap64 ((ji7) - 1))] rfl (by(try simp only [List.map_toArray,List.map_cons,List.map_nil]);first | done | (simp only [hji7];rfl) | rfl | (simp only [List.length_drop,List.length_take];rfl)) ?_;(with_reducible refine(spec_l01In.calls a1 0 (wrap64 ((ji7) - 1)) true _ A8.out).mono ?_);rintro e w' ⟨rfl,⟨nd,rfl⟩⟩;refine⟨_,rfl,?_⟩))
    go_ret
    exact⟨by first | rfl | (simp [errW_none,errW_some] <;> rfl) | (simp only [← hji5, ← hji7];first | rfl | (simp [errW_none,errW_some] <;> rfl)) | (simp [*,errW_none,errW_some] <;> rfl),hb_⟩
   ·replace c9:=Bool.eq_false_iff.mpr c9;subst c9;have H1:(some 2)=some r:=by rw [if_neg (show ¬ (false=true) by decide)] at H;exact H
    clear H;have H:=H1;clear H1;obtain rfl:=Option.some.inj H
    go_enter Try.func42,Try.ntmps42
    go_wp2_with (first | ((with_reducible refine gate_dst (N:=2) rfl ?_);refine be_ 2 #[.slice ah ag.length ai, .slice aj ae.length ak] 27 ?_;intro af hg w14 hbox hb;have aa:=q_ (hbox);have aG:=gz_ w hg;have aH:=gz_ w hg;replace HB:=Bs_ hb;clear hb hbox hg;obtain⟨aV,aW,aX,aY⟩:=c2_ aa) | ((with_reducible refine gate_callee (f:=55) rfl ?_);refine gL_ 7 Try.func55 #[.agg #[.slice ah ag.length ai, .slice aj ae.length ak]] ?_;(with_reducible refine(spec_l01Is.calls k _ _ ag _ _ ae true _ ?au ?av ?aw ?ax A3.out).mono ?_);(case au=>exact cb_ HR0_0.out HB.out);(case av=>exact HC0_0.out);(case aw=>exact cb_ HR0_1.out HB.out);(case ax=>exact HC0_1.out);rintro e w16 ⟨rfl,hb⟩;refine⟨_,rfl,?_⟩;replace aa:=Bb_ aa hb;replace HB:=Bs_ hb;(try clear hb);obtain⟨aZ,a9,ba,bf⟩:=c2_ aa) | ((with_reducible refine gate_callee (f:=56) rfl ?_);refine goesL_ (some 17) rfl rfl Try.func56 (by kernel_rfl) rfl #[.int .i64 a1, .int .i64 0, .int .i64 (wrap64 ((ji7) - 1))] rfl (by(try simp only [List.map_toArray,List.map_cons,List.map_nil]);first | done | (simp only [hji7];rfl) | rfl | (simp only [List.length_drop,List.length_take];rfl)) ?_;(with_reducible refine(spec_l01In.calls a1 0 (wrap64 ((ji7) - 1)) false _ A8.out).mono ?_);rintro e w' ⟨rfl,⟨nd,rfl⟩⟩;refine⟨_,rfl,?_⟩))
    go_ret
    exact⟨by first | rfl | (simp [errW_none,errW_some] <;> rfl) | (simp only [← hji5, ← hji7];first | rfl | (simp [errW_none,errW_some] <;> rfl)) | (simp [*,errW_none,errW_some] <;> rfl),hb_⟩
  ·rw [if_neg c6] at H;exact absurd H (by simp)
 ·replace c4:=Bool.eq_false_iff.mpr c4;subst c4;have H1:(some 1)=some r:=by rw [if_neg (show ¬ (false=true) by decide)] at H;exact H
  clear H;have H:=H1;clear H1;obtain rfl:=Option.some.inj H
  go_enter Try.func42,Try.ntmps42
  go_wp2_with (first | ((with_reducible refine gate_dst (N:=2) rfl ?_);refine be_ 2 #[.slice ah ag.length ai, .slice aj ae.length ak] 27 ?_;intro af hg w18 hbox hb;have aa:=q_ (hbox);have aG:=gz_ w hg;have aH:=gz_ w hg;replace HB:=Bs_ hb;clear hb hbox hg;obtain⟨bg,bh,bk,bq⟩:=c2_ aa) | ((with_reducible refine gate_callee (f:=55) rfl ?_);refine gL_ 7 Try.func55 #[.agg #[.slice ah ag.length ai, .slice aj ae.length ak]] ?_;(with_reducible refine(spec_l01Is.calls k _ _ ag _ _ ae false _ ?au ?av ?aw ?ax A3.out).mono ?_);(case au=>exact cb_ HR0_0.out HB.out);(case av=>exact HC0_0.out);(case aw=>exact cb_ HR0_1.out HB.out);(case ax=>exact HC0_1.out);rintro e w20 ⟨rfl,hb⟩;refine⟨_,rfl,?_⟩;replace aa:=Bb_ aa hb;replace HB:=Bs_ hb;(try clear hb)))
  go_ret
  exact⟨ew_,hb_⟩
mutual
def spec_l01Det.l0:Nat→List (List Int)→Int→Int→Option (Int)
 | 0,_,_,_=>none
 | k+1,x0,x3,x4=>if x4 < (x0.length:Int) then(if 0 < (x0.length:Int) then(if 0≤x4 then(if x4 < ((rd_L2 x0 0).length:Int) then(if(rd (rd_L2 x0 0) x4)=0 then(spec_l01Det.l0 k x0 x3 (wrap64 (x4+1))) else(spec_l01Det.l1 k x0 x3 x4 (([]:List (List Int))) 1)) else(none)) else(none)) else(none)) else(some x3)
def spec_l01Det.l1:Nat→List (List Int)→Int→Int→List (List Int)→Int→Option (Int)
 | 0,_,_,_,_,_=>none
 | k+1,x0,x3,x4,x5,x6=>if x6 < (x0.length:Int) then(if 0≤x6 then(if 0≤x4 then(if x4≤((rd_L2 x0 x6).length:Int) then((spec_l01Own.f ((rd_L2 x0 x6).take (x4:Int).toNat)).bind fun aa=>(if 0≤(wrap64 (x4+1)) then(if(wrap64 (x4+1))≤((rd_L2 x0 x6).length:Int) then(if aa.length+((rd_L2 x0 x6).drop ((wrap64 (x4+1)):Int).toNat).length < 17592186044416 then(if x5.length < 5864062014805 then(spec_l01Det.l1 k x0 x3 x4 (x5++ [(aa++((rd_L2 x0 x6).drop ((wrap64 (x4+1)):Int).toNat))]) (wrap64 (x6+1))) else(none)) else(none)) else(none)) else(none))) else(none)) else(none)) else(none)) else(if 0 < (x0.length:Int) then(if 0≤x4 then(if x4 < ((rd_L2 x0 0).length:Int) then((spec_l01Det.f k x5).bind fun ae=>(if(Int.tmod x4 2)=1 then(spec_l01Det.l0 k x0 (wrap64 (x3+(wrap64 (-(wrap64 ((rd (rd_L2 x0 0) x4)*ae)))))) (wrap64 (x4+1))) else(spec_l01Det.l0 k x0 (wrap64 (x3+(wrap64 ((rd (rd_L2 x0 0) x4)*ae)))) (wrap64 (x4+1))))) else(none)) else(none)) else(none))
def spec_l01Det.f:Nat→List (List Int)→Option (Int)
 | 0,_=>none
 | k+1,l0=>if(l0.length:Int)=0 then(some 1) else(spec_l01Det.l0 k l0 0 0)
end
def spec_l01Det.T12:Bool × List (List Nat × List Nat):=(true, [([], []),([], []),([], []),([1,2], [1,2]),([3], [3]),([], []),([4,5], [4,5]),([6], [6]),([], []),([], []),([8,9], [8,9]),([10], [10]),([], []),([12], [12]),([11,13], [11,13]),([7,14,7], [7,14]),([15], [15]),([0,16,15], [0,16]),([17,17,0,1,2,3,4,5,6,7,8,9,10,11,12,13,14,15,16,17], [0,17])])
def spec_l01Det.B12:List Nat:= [0,0,0,6,14,0,62,126,0,0,768,1792,0,4096,16128,32766,65534,131071,262143]
theorem spec_l01Det.tab12:rtab .any (opsOf Try.f43 12)=spec_l01Det.T12:=by kernel_rfl
theorem spec_l01Det.bits12:waitsOk spec_l01Det.T12.2 spec_l01Det.B12=true:=by kernel_rfl
def spec_l01Det.T13:Bool × List (List Nat × List Nat):=(true, [([], []),([0], [0]),([1], [1]),([], []),([2,3], [2,3]),([4], [4]),([], []),([6], [6]),([5,7], [5,7]),([8,7,0,1,2,3,4,5,6,7,8], [8])])
def spec_l01Det.B13:List Nat:= [0,1,3,0,15,31,0,64,255,511]
theorem spec_l01Det.tab13:rtab .any (opsOf Try.f43 13)=spec_l01Det.T13:=by kernel_rfl
theorem spec_l01Det.bits13:waitsOk spec_l01Det.T13.2 spec_l01Det.B13=true:=by kernel_rfl
theorem spec_l01Det.calls (k:Nat): ∀(A0:Option Addr) (c0:Nat) (l0:List (List Int)) (r:Int) (w:World) (hr0:Kd.C (Kd.slice 2 (Kd.int .i64)) w A0 l0.length l0) (hc0:l0.length≤c0) (h:spec_l01Det.f k l0=some r),
  Calls Try.prog 43 #[.slice A0 l0.length c0] w fun e w'=>e= .returned (.int .i64 r)∧Below w.heap.size w w':=by
 induction k using Nat.strongRecOn with
 | _ k ih=>
 intro A0 c0 l0 r w hr0 hc0 h;cases k with
 | zero=>exact absurd h (by simp [spec_l01Det.f])
 | succ k=>
 simp only [spec_l01Det.f] at h;have HR0:=q_ hr0;have HC0:=q_ hc0;clear hr0 hc0;have HB:=q_ (Below.refl w.heap.size w);have H:(if(l0.length:Int)=0 then(some 1) else(spec_l01Det.l0 k l0 0 0))=some r:=h;clear h
 by_cases c2:(l0.length:Int)=0
 ·rw [if_pos c2] at H;have c2b0:=e1_ c2;have c2b1:=e2_ c2;clear c2;obtain rfl:=Option.some.inj H
  go_enter Try.func43,Try.ntmps43
  go_wp2
  go_ret
  exact⟨ew_,hb_⟩
 ·rw [if_neg c2] at H;have c2b0:=e3_ c2;have c2b1:=e4_ c2;have c2b2: ¬ (l0= []):=fun h_=>c2 (by rw [h_];rfl)
  have H':=q_ H;clear H
  go_enter Try.func43,Try.ntmps43
  go_wp2
  go_loopg [3,4] k (fun kq v3 v4 w'=> ∃(aq:Int) (aa:Int),v3= .int .i64 aq∧v4= .int .i64 aa∧Aside0 (spec_l01Det.l0 kq l0 aq aa=some r)∧Aside0 (kq≤k)∧Aside0 (Below w.heap.size w w'))
  case atStart=>exact⟨(0),(0),rs_,rs_,H',⟨Nat.le_refl _⟩,⟨hb_⟩⟩
  case round=>
   clear H';(try clear c2);(try clear c2b0);(try clear c2b1);(try clear c2b2);obtain⟨aq,aa,rfl,rfl,HA,HK1,HB⟩:=hrel;cases gk with
   | zero=>exact absurd HA.out (by simp [spec_l01Det.l0])
   | succ k1=>
    have H:=HA.out;clear HA;simp only [spec_l01Det.l0] at H
    by_cases c3:aa < (l0.length:Int)
    ·rw [if_pos c3] at H;have c3b0:=decide_eq_true c3;clear c3
     by_cases c4:0 < (l0.length:Int)
     ·rw [if_pos c4] at H;have c4b0:=decide_eq_true c4;have c4b1:decide (0 < l0.length)=true:=decide_eq_true (by omega);clear c4
      by_cases c5:0≤aa
      ·rw [if_pos c5] at H;have c5b0:=decide_eq_true c5;clear c5
       by_cases c6:aa < ((rd_L2 l0 0).length:Int)
       ·rw [if_pos c6] at H;have c6b0:=decide_eq_true c6;clear c6
        by_cases c7:(rd (rd_L2 l0 0) aa)=0
        ·rw [if_pos c7] at H;have c7b0:=e1_ c7;have c7b1:=e2_ c7;clear c7;have H':=q_ H;clear H;have p244:0≤(0:Int):=(by omega)
         have q244:0 < (l0.length:Int):=od_;obtain⟨au,aM,aN,e244,hx244_0,hl244_0,hi244_0⟩:=at_L2 HR0.out 0 p244 q244;cases e244
         have qi244:(0 < l0.length)=True:=eq_true (by omega)
         (try rw [show ((0:Int)).toNat=0 from rfl] at hx244_0)
         (try rw [Addr.add_zero'] at hx244_0)
         replace hx244_0:=bc_ HB.out hx244_0;have HR244_0:=q_ hi244_0;have HC244_0:=q_ hl244_0;clear hi244_0 hl244_0;replace p244:=eq_true p244;replace q244:=eq_true q244;have p245:0≤(aa:Int):=od_;have q245:aa < ((rd_L2 l0 0).length:Int):=od_;obtain⟨a9,e245,hx245_0⟩:=Kd.at_int HR244_0.out aa p245 q245;cases e245
         replace hx245_0:=bc_ HB.out hx245_0;replace p245:=eq_true p245;replace q245:=eq_true q245;go_wp2
         go_roundg k1
         case measure=>have:=HK1.out;omega
         case rel=>exact⟨(aq),(wrap64 (aa+1)),rs_,rs_,H',⟨by have:=HK1.out;omega⟩,⟨hb_⟩⟩
        ·rw [if_neg c7] at H;have c7b0:=e3_ c7;have c7b1:=e4_ c7;obtain⟨aQ,hy⟩: ∃y_:List (List Int),y_=(([]:List (List Int))):=⟨_,rfl⟩
         replace H:(spec_l01Det.l1 k1 l0 aq aa aQ 1)=some r:=hh_;have aJ:=q_ hy;clear hy;have H':=q_ H;clear H;have p244:0≤(0:Int):=(by omega)
         have q244:0 < (l0.length:Int):=od_;obtain⟨au,aM,aN,e244,hx244_0,hl244_0,hi244_0⟩:=at_L2 HR0.out 0 p244 q244;cases e244
         have qi244:(0 < l0.length)=True:=eq_true (by omega)
         (try rw [show ((0:Int)).toNat=0 from rfl] at hx244_0)
         (try rw [Addr.add_zero'] at hx244_0)
         replace hx244_0:=bc_ HB.out hx244_0;have HR244_0:=q_ hi244_0;have HC244_0:=q_ hl244_0;clear hi244_0 hl244_0;replace p244:=eq_true p244;replace q244:=eq_true q244;have p245:0≤(aa:Int):=od_;have q245:aa < ((rd_L2 l0 0).length:Int):=od_;obtain⟨a9,e245,hx245_0⟩:=Kd.at_int HR244_0.out aa p245 q245;cases e245
         replace hx245_0:=bc_ HB.out hx245_0;replace p245:=eq_true p245;replace q245:=eq_true q245
         go_wp2_with (first | ((with_reducible refine gate_dst (N:=24) rfl ?_);refine Kd.S_lit (Kd.slice 2 (Kd.int .i64)) _ 25 ?hg (N:=24) ?hd (xs:=([]:List (List Int))) (inner:= []) (ok:=fun _=>True) (okp:=fun _=>True) ?hr ?hp (fun _ hk=>hk) trivial (Below.refl _ _) (Nat.le_refl _) (by simp) ?_;(case hd=>rfl);(case hg=>rfl);(case hr=>first | (go_simp;done) | (go_simp;rfl));(case hp=>exact(Reps.none _ _));intro bG w8 ho9 hb hg_ hnew_;clear hg_ hnew_;(first | rw [← aJ.out] at ho9 | (simp only [Int.reduceToNat] at ho9;rw [← aJ.out] at ho9));have ba:=q_ (Kd.S_lower ho9 bz_);replace HB:=Bs_ hb;clear hb ho9))
         go_loopg [5,6] k1 (fun kq v5 v6 w'=> ∃(ak:List (List Int)) (ae:Int),v6= .int .i64 ae∧Aside0 (spec_l01Det.l1 kq l0 aq aa ak ae=some r)∧Aside0 (kq≤k1)∧Aside0 (Kd.S (Kd.slice 2 (Kd.int .i64)) 25 w' w.heap.size (fun _=>True) v5 ak)∧Aside0 (Below w.heap.size w w'))
         case atStart=>exact⟨(aQ),(1),rs_,H',⟨Nat.le_refl _⟩,⟨so_ ba.out⟩,⟨hb_⟩⟩
         case round=>
          clear H';(try clear c2);(try clear c2b0);(try clear c2b1);(try clear c2b2);(try clear c3b0);(try clear c4);(try clear c4b0);(try clear c4b1);(try clear c5);(try clear c5b0);(try clear c6);(try clear c6b0);(try clear c7);(try clear c7b0);(try clear c7b1);(try clear hx244_0);(try clear hx245_0);(try clear p244);(try clear p245);(try clear q244);(try clear q245);obtain⟨ak,ae,rfl,HA,HK2,af,HB⟩:=hrel;cases gk with
          | zero=>exact absurd HA.out (by simp [spec_l01Det.l1])
          | succ k2=>
           have H:=HA.out;clear HA;simp only [spec_l01Det.l1] at H
           by_cases c10:ae < (l0.length:Int)
           ·rw [if_pos c10] at H;have c10b0:=decide_eq_true c10;clear c10
            by_cases c11:0≤ae
            ·rw [if_pos c11] at H;have c11b0:=decide_eq_true c11;clear c11
             by_cases c12:0≤aa
             ·rw [if_pos c12] at H;have c12b0:=eq_true c12;have c12b1:=decide_eq_true c12;clear c12
              by_cases c13:aa≤((rd_L2 l0 ae).length:Int)
              ·rw [if_pos c13] at H;have c13b0:=eq_true c13;have c13b1:=decide_eq_true c13;clear c13;replace H:=Option.bind_eq_some_iff.mp H;obtain⟨av,A140,H⟩:=H;replace H:(if 0≤(wrap64 (aa+1)) then(if(wrap64 (aa+1))≤((rd_L2 l0 ae).length:Int) then(if av.length+((rd_L2 l0 ae).drop ((wrap64 (aa+1)):Int).toNat).length < 17592186044416 then(if ak.length < 5864062014805 then(spec_l01Det.l1 k2 l0 aq aa (ak++ [(av++((rd_L2 l0 ae).drop ((wrap64 (aa+1)):Int).toNat))]) (wrap64 (ae+1))) else(none)) else(none)) else(none)) else(none))=some r:=H;have A14:=q_ A140;clear A140;obtain⟨ji15,hji15⟩: ∃j_:Int,(wrap64 (aa+1))=j_:=⟨_,rfl⟩
               replace H:(if 0≤(ji15) then(if(ji15)≤((rd_L2 l0 ae).length:Int) then(if av.length+((rd_L2 l0 ae).drop ((ji15):Int).toNat).length < 17592186044416 then(if ak.length < 5864062014805 then(spec_l01Det.l1 k2 l0 aq aa (ak++ [(av++((rd_L2 l0 ae).drop ((ji15):Int).toNat))]) (wrap64 (ae+1))) else(none)) else(none)) else(none)) else(none))=some r:=by first | (rw [hji15] at H;exact H) | (simp only [hji15] at H ⊢;exact H)
               (try rw [hji15] at A14)
               have hji15w:(IntKind.i64.wrap (aa+1))=ji15:=(i64_w _).trans hji15
               by_cases c16:0≤(ji15)
               ·rw [if_pos c16] at H;have c16b0:=eq_true c16;have c16b1:=decide_eq_true c16;clear c16
                by_cases c17:(ji15)≤((rd_L2 l0 ae).length:Int)
                ·rw [if_pos c17] at H;have c17b0:=eq_true c17;have c17b1:=decide_eq_true c17;clear c17
                 by_cases c18:av.length+((rd_L2 l0 ae).drop ((ji15):Int).toNat).length < 17592186044416
                 ·rw [if_pos c18] at H;have bf:=q_ c18;clear c18;obtain⟨aG,hy⟩: ∃y_:List Int,y_=(av++((rd_L2 l0 ae).drop ((ji15):Int).toNat)):=⟨_,rfl⟩
                  replace H:(if ak.length < 5864062014805 then(spec_l01Det.l1 k2 l0 aq aa (ak++ [aG]) (wrap64 (ae+1))) else(none))=some r:=hh_;have bg:=q_ hy;clear hy
                  by_cases c19:ak.length < 5864062014805
                  ·rw [if_pos c19] at H;have bh:=q_ c19;clear c19;obtain⟨aT,hy⟩: ∃y_:List (List Int),y_=(ak++ [aG]):=⟨_,rfl⟩
                   replace H:(spec_l01Det.l1 k2 l0 aq aa aT (wrap64 (ae+1)))=some r:=hh_;have bk:=q_ hy;clear hy;have H':=q_ H;clear H
                   try go_wp2
                   replace af:=q_ (Kd.S_drew af.out);replace HB:=q_ (below_drew1 HB.out);have p249:0≤(ae:Int):=od_;have q249:ae < (l0.length:Int):=od_;obtain⟨bq,aw,ax,e249,hx249_0,hl249_0,hi249_0⟩:=at_L2 HR0.out ae p249 q249;have ah:=hx249_0;obtain rfl:au=bq:=(by injection e249)
                   replace hx249_0:=bc_ HB.out hx249_0;have HR249_0:=q_ hi249_0;have HC249_0:=q_ hl249_0;clear hi249_0 hl249_0;replace p249:=eq_true p249;replace q249:=eq_true q249;obtain⟨i021,hi021,_,hsz21,_⟩:=info_parts info2;obtain⟨hcut21,hA21,hC21⟩:=print_take_of (P:=Try.prog) (Value.int .i64) 0 25 2 .i64 Try.underlying25 hi021 hsz21 aw ax (rd_L2 l0 ae) aa od_ od_ HC249_0.out;have HR250:=q_ (Kd.C_of_reads (h1:=fun _=>rfl) (hA21 _ (Kd.reads_of_C HR249_0.out)));have HC250:=q_ hC21;clear hA21 hC21 hi021 hsz21;have p254:0≤(ae:Int):=od_;have q254:ae < (l0.length:Int):=od_;obtain⟨bu,bE,bF,e254,hx254_0,hl254_0,hi254_0⟩:=at_L2 HR0.out ae p254 q254;have ai:=hx254_0;obtain rfl:au=bu:=(by injection e254)
                   replace hx254_0:=bc_ HB.out hx254_0;have HR254_0:=q_ hi254_0;have HC254_0:=q_ hl254_0;clear hi254_0 hl254_0;replace p254:=eq_true p254;replace q254:=eq_true q254;have ea_:=Option.some.inj (hx249_0.symm.trans hx254_0);injection ea_ with ea_ en_ ec_
                   subst ea_;subst ec_;clear en_;obtain⟨i022,hi022,_,hsz22,_⟩:=info_parts info2;obtain⟨A22,hcut22,hA22,hC22⟩:=print_drop_of (P:=Try.prog) (Value.int .i64) 0 25 2 .i64 Try.underlying25 hi022 hsz22 aw ax (rd_L2 l0 ae) (ji15) od_ od_ HC254_0.out;have HR255:=q_ (Kd.C_of_reads (h1:=fun _=>rfl) (hA22 _ (Kd.reads_of_C HR254_0.out)));have HC255:=q_ hC22;clear hA22 hC22 hi022 hsz22;refine st_ (n:=19) (S:=fun w'=>w'.cell? (au.add (ae).toNat)=some (.slice aw (rd_L2 l0 ae).length ax)∧w'.cell? (au.add (ae).toNat)=some (.slice aw (rd_L2 l0 ae).length ax)) (ds:= []) ⟨((bc_ HB.out ah:)),((bc_ HB.out ai:))⟩ (fun hHeld=>?_);refine with_tabW spec_l01Det.tab12 spec_l01Det.bits12 (fun HT_ HW_=>?_)
                   generalize wr.drew=w20 at af HB HR249_0 HR250 HR254_0 HR255 hx249_0 hx254_0 hHeld ⊢
                   refine p4_ 0 31 1 32 2 33 3 34 ?_;refine p4_ 5 36 8 39 9 40 10 41 ?_;refine p2_ 12 43 13 44 ?_;refine tk_ 4 35 ?_;refine pu_ 6 37 ?_;refine tk_ 11 42 ?_;refine pu_ 14 45 ?_
                   refine on_ 7 (some 38) (fun K hK=>?_)
                   refine goes_ Try.func71 (by kernel_rfl) rfl #[.slice aw ((rd_L2 l0 ae).take (aa:Int).toNat).length ax] (by rfl) rfl rfl (by(try simp only [List.map_toArray,List.map_cons,List.map_nil]);first | done | (rw [show ((rd_L2 l0 ae).take (aa:Int).toNat).length=aa.toNat from (by rw [List.length_take];have h_:(aa:Int)≤((rd_L2 l0 ae).length:Int):=od_;omega)] <;> rfl) | rfl | (simp only [List.length_drop,List.length_take];rfl)) ?_
                   with_reducible refine(spec_l01Own.calls _ _ ((rd_L2 l0 ae).take (aa:Int).toNat) av _ ?ay ?az A14.out).mono ?_
                   (case ay=>exact cb_ HR250.out HB.out)
                   (case az=>exact HC250.out)
                   rintro e w23 ⟨bw,rfl,ho0,hb⟩;refine⟨_,rfl,?_⟩
                   replace af:=q_ (Kd.S_elder' (so_ af.out) (Kd.R_base ho0) hb);have aK:=q_ (Kd.R_lower ho0 bz_);replace HB:=Bs_ hb;(try clear hb)
                   
                   (try clear hk)
                   
                   (try clear ho0);refine hK.out _ _ ⟨((bc_ HB.out ah:)),((bc_ HB.out ai:))⟩ (fun hHeld=>?_)
                   clear hK K;refine norm_ (a':=?_) ?_ ?_
                   rotate_left
                   ·show Act.put _ (some 38) _=_
                    simp only [Act.put,List.setIfInBounds_toArray,List.set_cons_zero,List.set_cons_succ,i64_w,i32_w]
                    rfl
                   refine on_ 15 (some 46) (fun K hK=>?_)
                   refine Kd.R_append_rows_step (Kd.int .i64) (w0:=w) w.heap.size (by rfl) (.tmp 38) (.tmp 45) 25 2 (.int .i64 0) 8 rfl Try.underlying25 info2 rfl (by decide) (by omega) bw av ((rd_L2 l0 ae).drop ((ji15):Int).toNat) _ _ _ (fun _=>True) (fun _=>False) rfl rfl ?aO ?aR (fun _ _ h=>h) (fun _ h=>h.elim) ?aF ?aB ?aS ?aL ?_
                   (case aR=>first | (rw [← show ((rd_L2 l0 ae).drop ((ji15):Int).toNat).length=((rd_L2 l0 ae).length - (ji15).toNat) from List.length_drop];exact cb_ HR255.out HB.out) | (exact cb_ HR255.out HB.out))
                   (case aB=>exact hb_)
                   (case aF=>exact(fun _ _=>trivial))
                   (case aO=>exact(ro_ aK.out))
                   (case aS=>exact bz_)
                   (case aL=>have:=bf.out;have hlx_:=(show ((rd_L2 l0 ae).drop ((ji15):Int).toNat).length=((rd_L2 l0 ae).length - (ji15).toNat) from List.length_drop);omega)
                   intro bH w24 ho hb hg hat;rw [← bg.out] at ho;replace af:=q_ (Kd.S_after (ok:=(fun _=>True)) (so_ af.out) hg hat);replace HB:=q_ (hb);have aD:=q_ (ho);clear aK ho hb hg hat;obtain⟨aU,aV,aW⟩:=Kd.R_slice aD.out
                   (first | subst aW | (injection aW with f1_ f2_ f3_;have f4_:=f1_.symm;have f5_:=f3_.symm;clear f1_ f2_ f3_;subst f4_;subst f5_))
                   refine hK.out _ _ ⟨((bc_ HB.out ah:)),((bc_ HB.out ai:))⟩ (fun hHeld=>?_)
                   clear hK K;refine norm_ (a':=?_) ?_ ?_
                   rotate_left
                   ·show Act.put _ (some 46) _=_
                    simp only [Act.put,List.setIfInBounds_toArray,List.set_cons_zero,List.set_cons_succ,i64_w,i32_w]
                    rfl
                   refine on_ 16 (some 47) (fun K hK=>?_)
                   refine value_ (w1:=?_) (v:=?_) (by rfl) rfl ?_ ?_
                   rotate_left 2
                   ·go_simp
                    constructor
                    ·rfl
                    ·rfl
                   refine hK.out _ _ ⟨(World.cell?_alloc_lt _ _ _ (World.block_lt_of_cell? _ _ (((bc_ HB.out ah:))))).trans (((bc_ HB.out ah:))),(World.cell?_alloc_lt _ _ _ (World.block_lt_of_cell? _ _ (((bc_ HB.out ai:))))).trans (((bc_ HB.out ai:)))⟩ (fun hHeld=>?_)
                   clear hK K;refine norm_ (a':=?_) ?_ ?_
                   rotate_left
                   ·show Act.put _ (some 47) _=_
                    simp only [Act.put,List.setIfInBounds_toArray,List.set_cons_zero,List.set_cons_succ,i64_w,i32_w]
                    rfl
                   refine on_ 17 (some 48) (fun K hK=>?_)
                   refine Kd.S_append_step (Kd.slice 2 (Kd.int .i64)) (w0:=w) w.heap.size (by rfl) (.tmp 31) (.tmp 47) 24 25 (.slice none 0 0) 24 rfl Try.underlying24 info25 rfl (by decide) (by omega) u5 ak aG [.slice aU aG.length aV] (fun _=>True) (fun k_=>some k_=(.slice aU aG.length aV:Value).ownBlock) rfl rfl ?aP (fun k_ hk_=>((Kd.R_mono (ok':=fun k_=>((fun _=>True)) k_∧some k_≠(u5:Value).ownBlock) (Kd.R_apart' (aD.out) (Kd.S_typed af.out) (by decide)) (fun k_ hk=>⟨trivial,hk.2⟩))).1 k_ hk_.symm) ?aF ?aO ?aB ?aS ?aL ?_
                   (case aP=>exact Kd.M_row (Kd.R_mono (Kd.R_tight rfl (Kd.R_mono (ok':=fun k_=>((fun _=>True)) k_∧some k_≠(u5:Value).ownBlock) (Kd.R_apart' (aD.out) (Kd.S_typed af.out) (by decide)) (fun k_ hk=>⟨trivial,hk.2⟩))) (fun _ h_=>h_)))
                   (case aB=>exact hb_)
                   (case aF=>exact(fun _ _=>trivial))
                   (case aO=>exact(kS_ af.out (fun k_ hk=>⟨trivial,fun e_=>hk.2 e_⟩)))
                   (case aS=>exact bz_)
                   (case aL=>have:=bh.out;omega)
                   intro bI w25 ho hb hg hat;rw [← bk.out] at ho;replace HB:=q_ (hb);have bv:=q_ (ho);clear af aD ho hb hg hat;refine hK.out _ _ ⟨((bc_ HB.out ah:)),((bc_ HB.out ai:))⟩ (fun hHeld=>?_)
                   clear hK K;refine norm_ (a':=?_) ?_ ?_
                   rotate_left
                   ·show Act.put _ (some 48) _=_
                    simp only [Act.put,List.setIfInBounds_toArray,List.set_cons_zero,List.set_cons_succ,i64_w,i32_w]
                    rfl
                   refine pu_ 18 5 ?_
                   refine done_ (done_of HT_.out (by kernel_rfl)) ?_
                   try go_wp2
                   go_roundg k2
                   case measure=>have:=HK1.out;have:=HK2.out;omega
                   case rel=>exact⟨(aT),(wrap64 (ae+1)),rs_,H',⟨by have:=HK1.out;have:=HK2.out;omega⟩,⟨so_ bv.out⟩,⟨hb_⟩⟩
                  ·rw [if_neg c19] at H;exact absurd H (by simp)
                 ·rw [if_neg c18] at H;exact absurd H (by simp)
                ·rw [if_neg c17] at H;exact absurd H (by simp)
               ·rw [if_neg c16] at H;exact absurd H (by simp)
              ·rw [if_neg c13] at H;exact absurd H (by simp)
             ·rw [if_neg c12] at H;exact absurd H (by simp)
            ·rw [if_neg c11] at H;exact absurd H (by simp)
           ·rw [if_neg c10] at H;have c10b0:=decide_eq_false c10;clear c10
            by_cases c27:0 < (l0.length:Int)
            ·rw [if_pos c27] at H;have c27b0:=decide_eq_true c27;have c27b1:decide (0 < l0.length)=true:=decide_eq_true (by omega);clear c27
             by_cases c28:0≤aa
             ·rw [if_pos c28] at H;have c28b0:=decide_eq_true c28;clear c28
              by_cases c29:aa < ((rd_L2 l0 0).length:Int)
              ·rw [if_pos c29] at H;have c29b0:=decide_eq_true c29;clear c29;replace H:=Option.bind_eq_some_iff.mp H;obtain⟨aC,A300,H⟩:=H;replace H:(if(Int.tmod aa 2)=1 then(spec_l01Det.l0 k2 l0 (wrap64 (aq+(wrap64 (-(wrap64 ((rd (rd_L2 l0 0) aa)*aC)))))) (wrap64 (aa+1))) else(spec_l01Det.l0 k2 l0 (wrap64 (aq+(wrap64 ((rd (rd_L2 l0 0) aa)*aC)))) (wrap64 (aa+1))))=some r:=H;have A30:=q_ A300;clear A300
               by_cases c31:(Int.tmod aa 2)=1
               ·rw [if_pos c31] at H;have c31b0:=e1_ c31;have c31b1:=e2_ c31;clear c31;have H':=q_ H;clear H
                try go_wp2
                replace af:=q_ (Kd.S_drew af.out);replace HB:=q_ (below_drew1 HB.out);have p262:0≤(0:Int):=(by omega)
                have q262:0 < (l0.length:Int):=od_;obtain⟨aI,aX,aH,e262,hx262_0,hl262_0,hi262_0⟩:=at_L2 HR0.out 0 p262 q262;have ag:=hx262_0
                (try rw [show ((0:Int)).toNat=0 from rfl] at ag)
                (try rw [show 0*1=0 from rfl] at ag)
                (try rw [Addr.add_zero'] at ag)
                obtain rfl:au=aI:=(by injection e262)
                have qi262:(0 < l0.length)=True:=eq_true (by omega)
                (try rw [show ((0:Int)).toNat=0 from rfl] at hx262_0)
                (try rw [Addr.add_zero'] at hx262_0)
                replace hx262_0:=bc_ HB.out hx262_0;have HR262_0:=q_ hi262_0;have HC262_0:=q_ hl262_0;clear hi262_0 hl262_0;replace p262:=eq_true p262;replace q262:=eq_true q262;have p263:0≤(aa:Int):=od_;have q263:aa < ((rd_L2 l0 0).length:Int):=od_;obtain⟨aA,e263,hx263_0⟩:=Kd.at_int HR262_0.out aa p263 q263;have aj:=hx263_0;cases e263
                replace hx263_0:=bc_ HB.out hx263_0;replace p263:=eq_true p263;replace q263:=eq_true q263;obtain⟨bz,bA,aY⟩:=Kd.S_slice af.out
                (first | subst aY | (injection aY with f1_ f2_ f3_;have f4_:=f1_.symm;have f5_:=f3_.symm;clear f1_ f2_ f3_;subst f4_;subst f5_))
                refine st_ (n:=10) (S:=fun w'=>w'.cell? au=some (.slice (some aA) (rd_L2 l0 0).length aH)∧w'.cell? (aA.add (aa).toNat)=some (.int .i64 (rd (rd_L2 l0 0) aa))) (ds:= []) ⟨((bc_ HB.out ag:)),((bc_ HB.out aj:))⟩ (fun hHeld=>?_);refine with_tabW spec_l01Det.tab13 spec_l01Det.bits13 (fun HT_ HW_=>?_)
                generalize wr.drew=w32 at af HB HR262_0 hx262_0 hx263_0 hHeld ⊢
                refine p4_ 0 49 1 50 3 52 6 55 ?_;refine tk_ 2 51 ?_;refine pu_ 4 53 ?_;refine tk_ 5 54 ?_
                refine on_ 7 (some 56) (fun K hK=>?_)
                refine goes_ Try.func43 (by kernel_rfl) rfl #[.slice bz ak.length bA] (by rfl) rfl rfl (by(try simp only [List.map_toArray,List.map_cons,List.map_nil]);first | done | rfl | (simp only [List.length_drop,List.length_take];rfl)) ?_
                with_reducible refine(ih k2 (by have:=HK1.out;have:=HK2.out;omega) _ _ ak aC _ ?ay ?az A30.out).mono ?_
                (case ay=>exact cS_)
                (case az=>exact(Kd.S_reads' af.out).2.1)
                rintro e w34 ⟨rfl,hb⟩;refine⟨_,rfl,?_⟩
                replace af:=q_ (Kd.S_below (so_ af.out) hb);replace HB:=Bs_ hb;(try clear hb)
                
                (try clear hk)
                
                refine hK.out _ _ ⟨((bc_ HB.out ag:)),((bc_ HB.out aj:))⟩ (fun hHeld=>?_)
                clear hK K;refine norm_ (a':=?_) ?_ ?_
                rotate_left
                ·show Act.put _ (some 56) _=_
                 simp only [Act.put,List.setIfInBounds_toArray,List.set_cons_zero,List.set_cons_succ,i64_w,i32_w]
                 rfl
                refine p2_ 8 57 9 7 ?_
                refine done_ (done_of HT_.out (by kernel_rfl)) ?_
                try go_wp2
                go_roundg k2
                case measure=>have:=HK1.out;have:=HK2.out;omega
                case rel=>exact⟨(wrap64 (aq+(wrap64 (-(wrap64 ((rd (rd_L2 l0 0) aa)*aC)))))),(wrap64 (aa+1)),rs_,rs_,H',⟨by have:=HK1.out;have:=HK2.out;omega⟩,⟨hb_⟩⟩
               ·rw [if_neg c31] at H;have c31b0:=e3_ c31;have c31b1:=e4_ c31;have H':=q_ H;clear H
                try go_wp2
                replace af:=q_ (Kd.S_drew af.out);replace HB:=q_ (below_drew1 HB.out);have p262:0≤(0:Int):=(by omega)
                have q262:0 < (l0.length:Int):=od_;obtain⟨aI,aX,aH,e262,hx262_0,hl262_0,hi262_0⟩:=at_L2 HR0.out 0 p262 q262;have ag:=hx262_0
                (try rw [show ((0:Int)).toNat=0 from rfl] at ag)
                (try rw [show 0*1=0 from rfl] at ag)
                (try rw [Addr.add_zero'] at ag)
                obtain rfl:au=aI:=(by injection e262)
                have qi262:(0 < l0.length)=True:=eq_true (by omega)
                (try rw [show ((0:Int)).toNat=0 from rfl] at hx262_0)
                (try rw [Addr.add_zero'] at hx262_0)
                replace hx262_0:=bc_ HB.out hx262_0;have HR262_0:=q_ hi262_0;have HC262_0:=q_ hl262_0;clear hi262_0 hl262_0;replace p262:=eq_true p262;replace q262:=eq_true q262;have p263:0≤(aa:Int):=od_;have q263:aa < ((rd_L2 l0 0).length:Int):=od_;obtain⟨aA,e263,hx263_0⟩:=Kd.at_int HR262_0.out aa p263 q263;have aj:=hx263_0;cases e263
                replace hx263_0:=bc_ HB.out hx263_0;replace p263:=eq_true p263;replace q263:=eq_true q263;obtain⟨bC,bD,aZ⟩:=Kd.S_slice af.out
                (first | subst aZ | (injection aZ with f1_ f2_ f3_;have f4_:=f1_.symm;have f5_:=f3_.symm;clear f1_ f2_ f3_;subst f4_;subst f5_))
                refine st_ (n:=10) (S:=fun w'=>w'.cell? au=some (.slice (some aA) (rd_L2 l0 0).length aH)∧w'.cell? (aA.add (aa).toNat)=some (.int .i64 (rd (rd_L2 l0 0) aa))) (ds:= []) ⟨((bc_ HB.out ag:)),((bc_ HB.out aj:))⟩ (fun hHeld=>?_);refine with_tabW spec_l01Det.tab13 spec_l01Det.bits13 (fun HT_ HW_=>?_)
                generalize wr.drew=w35 at af HB HR262_0 hx262_0 hx263_0 hHeld ⊢
                refine p4_ 0 49 1 50 3 52 6 55 ?_;refine tk_ 2 51 ?_;refine pu_ 4 53 ?_;refine tk_ 5 54 ?_
                refine on_ 7 (some 56) (fun K hK=>?_)
                refine goes_ Try.func43 (by kernel_rfl) rfl #[.slice bC ak.length bD] (by rfl) rfl rfl (by(try simp only [List.map_toArray,List.map_cons,List.map_nil]);first | done | rfl | (simp only [List.length_drop,List.length_take];rfl)) ?_
                with_reducible refine(ih k2 (by have:=HK1.out;have:=HK2.out;omega) _ _ ak aC _ ?ay ?az A30.out).mono ?_
                (case ay=>exact cS_)
                (case az=>exact(Kd.S_reads' af.out).2.1)
                rintro e w37 ⟨rfl,hb⟩;refine⟨_,rfl,?_⟩
                replace af:=q_ (Kd.S_below (so_ af.out) hb);replace HB:=Bs_ hb;(try clear hb)
                
                (try clear hk)
                
                refine hK.out _ _ ⟨((bc_ HB.out ag:)),((bc_ HB.out aj:))⟩ (fun hHeld=>?_)
                clear hK K;refine norm_ (a':=?_) ?_ ?_
                rotate_left
                ·show Act.put _ (some 56) _=_
                 simp only [Act.put,List.setIfInBounds_toArray,List.set_cons_zero,List.set_cons_succ,i64_w,i32_w]
                 rfl
                refine p2_ 8 57 9 7 ?_
                refine done_ (done_of HT_.out (by kernel_rfl)) ?_
                try go_wp2
                go_roundg k2
                case measure=>have:=HK1.out;have:=HK2.out;omega
                case rel=>exact⟨(wrap64 (aq+(wrap64 ((rd (rd_L2 l0 0) aa)*aC)))),(wrap64 (aa+1)),rs_,rs_,H',⟨by have:=HK1.out;have:=HK2.out;omega⟩,⟨hb_⟩⟩
              ·rw [if_neg c29] at H;exact absurd H (by simp)
             ·rw [if_neg c28] at H;exact absurd H (by simp)
            ·rw [if_neg c27] at H;exact absurd H (by simp)
       ·rw [if_neg c6] at H;exact absurd H (by simp)
      ·rw [if_neg c5] at H;exact absurd H (by simp)
     ·rw [if_neg c4] at H;exact absurd H (by simp)
    ·rw [if_neg c3] at H;have c3b0:=decide_eq_false c3;clear c3;obtain rfl:=Option.some.inj H;go_wp2
     go_ret
     exact⟨ew_,hb_⟩
mutual
def spec_l01Part.l0:Nat→List (List Int)→Int→List (List Int)→Int→Option ((List (List Int)))
 | 0,_,_,_,_=>none
 | k+1,x0,x1,x5,x6=>if x6 < (x0.length:Int) then(if 0≤(IntKind.u64.wrap (x6)) then(if(Go.bits .and .i64 (shr .i64 x1 (IntKind.u64.wrap (x6))) 1)=0 then(spec_l01Part.l0 k x0 x1 x5 (wrap64 (x6+1))) else(spec_l01Part.l1 k x0 x1 x5 x6 (([]:List Int)) 0)) else(none)) else(some x5)
def spec_l01Part.l1:Nat→List (List Int)→Int→List (List Int)→Int→List Int→Int→Option ((List (List Int)))
 | 0,_,_,_,_,_,_=>none
 | k+1,x0,x1,x5,x6,x7,x8=>if x8 < (x0.length:Int) then(if 0≤(IntKind.u64.wrap (x8)) then(if(Go.bits .and .i64 (shr .i64 x1 (IntKind.u64.wrap (x8))) 1)=1 then(if 0≤x6 then(if x6 < (x0.length:Int) then(if 0≤x8 then(if x8 < ((rd_L2 x0 x6).length:Int) then(if x7.length < 17592186044416 then(spec_l01Part.l1 k x0 x1 x5 x6 (x7++ [rd (rd_L2 x0 x6) x8]) (wrap64 (x8+1))) else(none)) else(none)) else(none)) else(none)) else(none)) else(spec_l01Part.l1 k x0 x1 x5 x6 x7 (wrap64 (x8+1)))) else(none)) else(if x5.length < 5864062014805 then(spec_l01Part.l0 k x0 x1 (x5++ [x7]) (wrap64 (x6+1))) else(none))
end
def spec_l01Part.f (k:Nat) (l0:List (List Int)) (a1:Int):Option ((List (List Int))):=spec_l01Part.l0 k l0 a1 (([]:List (List Int))) 0
theorem spec_l01Part.calls (k:Nat) (A0:Option Addr) (c0:Nat) (l0:List (List Int)) (a1:Int) (r:List (List Int)) (w:World) (hr0:Kd.C (Kd.slice 2 (Kd.int .i64)) w A0 l0.length l0) (hc0:l0.length≤c0) (h:spec_l01Part.f k l0 a1=some r):
  Calls Try.prog 44 #[.slice A0 l0.length c0, .int .i64 a1] w fun e w'=> ∃v0_:Value,e= .returned (v0_)∧Kd.S (Kd.slice 2 (Kd.int .i64)) 25 w' w.heap.size (fun _=>True) v0_ r∧Below w.heap.size w w':=by
 have HR0:=q_ hr0;have HC0:=q_ hc0;clear hr0 hc0;have HB:=q_ (Below.refl w.heap.size w);have H:(spec_l01Part.l0 k l0 a1 (([]:List (List Int))) 0)=some r:=h;clear h;obtain⟨au,hy⟩: ∃y_:List (List Int),y_=(([]:List (List Int))):=⟨_,rfl⟩
 replace H:(spec_l01Part.l0 k l0 a1 au 0)=some r:=hh_;have ak:=q_ hy;clear hy;have H':=q_ H;clear H
 go_enter Try.func44,Try.ntmps44
 go_wp2_with (first | ((with_reducible refine gate_dst (N:=9) rfl ?_);refine Kd.S_lit (Kd.slice 2 (Kd.int .i64)) _ 25 ?hg (N:=9) ?hd (xs:=([]:List (List Int))) (inner:= []) (ok:=fun _=>True) (okp:=fun _=>True) ?hr ?hp (fun _ hk=>hk) trivial (Below.refl _ _) (Nat.le_refl _) (by simp) ?_;(case hd=>rfl);(case hg=>rfl);(case hr=>first | (go_simp;done) | (go_simp;rfl));(case hp=>exact(Reps.none _ _));intro aV w3 ho4 hb hg_ hnew_;clear hg_ hnew_;(first | rw [← ak.out] at ho4 | (simp only [Int.reduceToNat] at ho4;rw [← ak.out] at ho4));have aA:=q_ (Kd.S_lower ho4 bz_);replace HB:=Bs_ hb;clear hb ho4))
 go_loopg [5,6] k (fun kq v5 v6 w'=> ∃(af:List (List Int)) (aa:Int),v6= .int .i64 aa∧Aside0 (spec_l01Part.l0 kq l0 a1 af aa=some r)∧Aside0 (kq≤k)∧Aside0 (Kd.S (Kd.slice 2 (Kd.int .i64)) 25 w' w.heap.size (fun _=>True) v5 af)∧Aside0 (Below w.heap.size w w'))
 case atStart=>exact⟨(au),(0),rs_,H',⟨Nat.le_refl _⟩,⟨so_ aA.out⟩,⟨hb_⟩⟩
 case round=>
  clear H';obtain⟨af,aa,rfl,HA,HK1,ah,HB⟩:=hrel;cases gk with
  | zero=>exact absurd HA.out (by simp [spec_l01Part.l0])
  | succ k1=>
   have H:=HA.out;clear HA;simp only [spec_l01Part.l0] at H
   by_cases c5:aa < (l0.length:Int)
   ·rw [if_pos c5] at H;have c5b0:=decide_eq_true c5;clear c5;obtain⟨ji6,hji6⟩: ∃j_:Int,(IntKind.u64.wrap (aa))=j_:=⟨_,rfl⟩
    replace H:(if 0≤(ji6) then(if(Go.bits .and .i64 (shr .i64 a1 (ji6)) 1)=0 then(spec_l01Part.l0 k1 l0 a1 af (wrap64 (aa+1))) else(spec_l01Part.l1 k1 l0 a1 af aa (([]:List Int)) 0)) else(none))=some r:=by first | (rw [hji6] at H;exact H) | (simp only [hji6] at H ⊢;exact H)
    by_cases c7:0≤(ji6)
    ·rw [if_pos c7] at H;have c7b0:=eq_true c7;have c7b1:=decide_eq_true c7;clear c7;obtain⟨ji8,hji8⟩: ∃j_:Int,(shr .i64 a1 (ji6))=j_:=⟨_,rfl⟩
     replace H:(if(Go.bits .and .i64 (ji8) 1)=0 then(spec_l01Part.l0 k1 l0 a1 af (wrap64 (aa+1))) else(spec_l01Part.l1 k1 l0 a1 af aa (([]:List Int)) 0))=some r:=by first | (rw [hji8] at H;exact H) | (simp only [hji8] at H ⊢;exact H)
     have hji8_:(a1 / 2 ^ min (ji6).toNat 64)=ji8:=hji8;have hji8z:(ji6)≤64→(a1 / 2 ^ (ji6).toNat)=ji8:=shr_small hji8
     by_cases c9:(Go.bits .and .i64 (ji8) 1)=0
     ·rw [if_pos c9] at H;have c9b0:=e1_ c9;have c9b1:=e2_ c9;clear c9;have H':=q_ H;clear H;go_wp2
      go_roundg k1
      case measure=>have:=HK1.out;omega
      case rel=>exact⟨(af),(wrap64 (aa+1)),rs_,H',⟨by have:=HK1.out;omega⟩,⟨so_ ah.out⟩,⟨hb_⟩⟩
     ·rw [if_neg c9] at H;have c9b0:=e3_ c9;have c9b1:=e4_ c9;obtain⟨av,hy⟩: ∃y_:List Int,y_=(([]:List Int)):=⟨_,rfl⟩
      replace H:(spec_l01Part.l1 k1 l0 a1 af aa av 0)=some r:=hh_;have aq:=q_ hy;clear hy;have H':=q_ H;clear H
      go_wp2_with (first | ((with_reducible refine gate_dst (N:=22) rfl ?_);refine Kd.R_lit (Kd.int .i64) _ 2 ?hg (N:=22) ?hd (xs:=([]:List Int)) (inner:= []) (ok:=fun _=>True) (okp:=fun _=>True) ?hr ?hp (fun _ hk=>hk) trivial (Below.refl _ _) (Nat.le_refl _) (by simp) ?_;(case hd=>rfl);(case hg=>rfl);(case hr=>first | (go_simp;done) | (go_simp;rfl));(case hp=>exact(Reps.none _ _));intro aW w10 aj hb hg_ hnew_;clear hg_ hnew_;(first | rw [← aq.out] at aj | (simp only [Int.reduceToNat] at aj;rw [← aq.out] at aj));replace ah:=q_ (Kd.S_elder' (so_ ah.out) (Kd.R_base aj) hb);have aC:=q_ (Kd.R_lower aj bz_);replace HB:=Bs_ hb;clear hb aj))
      go_loopg [7,8] k1 (fun kq v7 v8 w'=> ∃(ag:List Int) (ae:Int),v8= .int .i64 ae∧Aside0 (spec_l01Part.l1 kq l0 a1 af aa ag ae=some r)∧Aside0 (kq≤k1)∧Aside0 (Kd.S (Kd.slice 2 (Kd.int .i64)) 25 w' w.heap.size (fun k_=>some k_≠(v7:Value).ownBlock) u5 af)∧Aside0 (Kd.R (Kd.int .i64) 2 w' w.heap.size (fun _=>True) v7 ag)∧Aside0 (Below w.heap.size w w'))
      case atStart=>exact⟨(av),(0),rs_,H',⟨Nat.le_refl _⟩,⟨kS_ ah.out (fun _ hk=>hk.2)⟩,⟨ro_ aC.out⟩,⟨hb_⟩⟩
      case round=>
       clear H';(try clear c5b0);(try clear c7);(try clear c7b0);(try clear c7b1);(try clear c9);(try clear c9b0);(try clear c9b1);obtain⟨ag,ae,rfl,HA,HK2,ah,ai,HB⟩:=hrel;cases gk with
       | zero=>exact absurd HA.out (by simp [spec_l01Part.l1])
       | succ k2=>
        have H:=HA.out;clear HA;simp only [spec_l01Part.l1] at H
        by_cases c12:ae < (l0.length:Int)
        ·rw [if_pos c12] at H;have c12b0:=decide_eq_true c12;clear c12;obtain⟨ji13,hji13⟩: ∃j_:Int,(IntKind.u64.wrap (ae))=j_:=⟨_,rfl⟩
         replace H:(if 0≤(ji13) then(if(Go.bits .and .i64 (shr .i64 a1 (ji13)) 1)=1 then(if 0≤aa then(if aa < (l0.length:Int) then(if 0≤ae then(if ae < ((rd_L2 l0 aa).length:Int) then(if ag.length < 17592186044416 then(spec_l01Part.l1 k2 l0 a1 af aa (ag++ [rd (rd_L2 l0 aa) ae]) (wrap64 (ae+1))) else(none)) else(none)) else(none)) else(none)) else(none)) else(spec_l01Part.l1 k2 l0 a1 af aa ag (wrap64 (ae+1)))) else(none))=some r:=by first | (rw [hji13] at H;exact H) | (simp only [hji13] at H ⊢;exact H)
         by_cases c14:0≤(ji13)
         ·rw [if_pos c14] at H;have c14b0:=eq_true c14;have c14b1:=decide_eq_true c14;clear c14;obtain⟨ji15,hji15⟩: ∃j_:Int,(shr .i64 a1 (ji13))=j_:=⟨_,rfl⟩
          replace H:(if(Go.bits .and .i64 (ji15) 1)=1 then(if 0≤aa then(if aa < (l0.length:Int) then(if 0≤ae then(if ae < ((rd_L2 l0 aa).length:Int) then(if ag.length < 17592186044416 then(spec_l01Part.l1 k2 l0 a1 af aa (ag++ [rd (rd_L2 l0 aa) ae]) (wrap64 (ae+1))) else(none)) else(none)) else(none)) else(none)) else(none)) else(spec_l01Part.l1 k2 l0 a1 af aa ag (wrap64 (ae+1))))=some r:=by first | (rw [hji15] at H;exact H) | (simp only [hji15] at H ⊢;exact H)
          have hji15_:(a1 / 2 ^ min (ji13).toNat 64)=ji15:=hji15;have hji15z:(ji13)≤64→(a1 / 2 ^ (ji13).toNat)=ji15:=shr_small hji15
          by_cases c16:(Go.bits .and .i64 (ji15) 1)=1
          ·rw [if_pos c16] at H;have c16b0:=e1_ c16;have c16b1:=e2_ c16;clear c16
           by_cases c17:0≤aa
           ·rw [if_pos c17] at H;have c17b0:=decide_eq_true c17;clear c17
            by_cases c18:aa < (l0.length:Int)
            ·rw [if_pos c18] at H;have c18b0:=decide_eq_true c18;clear c18
             by_cases c19:0≤ae
             ·rw [if_pos c19] at H;have c19b0:=decide_eq_true c19;clear c19
              by_cases c20:ae < ((rd_L2 l0 aa).length:Int)
              ·rw [if_pos c20] at H;have c20b0:=decide_eq_true c20;clear c20
               by_cases c21:ag.length < 17592186044416
               ·rw [if_pos c21] at H;have aD:=q_ c21;clear c21;obtain⟨aw,hy⟩: ∃y_:List Int,y_=(ag++ [rd (rd_L2 l0 aa) ae]):=⟨_,rfl⟩
                replace H:(spec_l01Part.l1 k2 l0 a1 af aa aw (wrap64 (ae+1)))=some r:=hh_;have aG:=q_ hy;clear hy;have H':=q_ H;clear H;have p271:0≤(aa:Int):=od_;have q271:aa < (l0.length:Int):=od_;obtain⟨aT,aN,aQ,e271,hx271_0,hl271_0,hi271_0⟩:=at_L2 HR0.out aa p271 q271;cases e271
                replace hx271_0:=bc_ HB.out hx271_0;have HR271_0:=q_ hi271_0;have HC271_0:=q_ hl271_0;clear hi271_0 hl271_0;replace p271:=eq_true p271;replace q271:=eq_true q271;have p272:0≤(ae:Int):=od_;have q272:ae < ((rd_L2 l0 aa).length:Int):=od_;obtain⟨aU,e272,hx272_0⟩:=Kd.at_int HR271_0.out ae p272 q272;cases e272
                replace hx272_0:=bc_ HB.out hx272_0;replace p272:=eq_true p272;replace q272:=eq_true q272
                go_wp2_with (first | ((with_reducible refine gate_builtin (b:= .append) (xs:= #[.tmp 35, .tmp 43]) rfl ?_);at_builtin;refine Kd.R_append (Kd.int .i64) (w0:=w) w.heap.size rfl (.tmp 35) (.tmp 43) 25 2 (.int .i64 0) 8 rfl Try.underlying25 info2 rfl (by decide) (by omega) u7 ag (rd (rd_L2 l0 aa) ae) [.int .i64 (rd (rd_L2 l0 aa) ae)] (fun _=>True) (fun _=>False) rfl rfl ?aP (fun _ hk=>hk.elim) ?aF ?aO ?aB ?aS ?aL ?_;(case aP=>exact rfl);(case aB=>exact hb_);(case aF=>exact(fun _ _=>trivial));(case aO=>exact(ro_ ai.out));(case aS=>exact bz_);(case aL=>have:=aD.out;omega);intro aX w22 ho hb hg hat;rw [← aG.out] at ho;replace ah:=q_ (Kd.S_after (ok:=(fun _=>True)) (kS_ ah.out (fun _ hk=>⟨trivial,hk⟩)) hg hat);replace HB:=q_ (hb);have aH:=q_ (ho);clear ai ho hb hg hat))
                go_roundg k2
                case measure=>have:=HK1.out;have:=HK2.out;omega
                case rel=>exact⟨(aw),(wrap64 (ae+1)),rs_,H',⟨by have:=HK1.out;have:=HK2.out;omega⟩,⟨kS_ ah.out (fun _ hk=>hk.2)⟩,⟨ro_ aH.out⟩,⟨hb_⟩⟩
               ·rw [if_neg c21] at H;exact absurd H (by simp)
              ·rw [if_neg c20] at H;exact absurd H (by simp)
             ·rw [if_neg c19] at H;exact absurd H (by simp)
            ·rw [if_neg c18] at H;exact absurd H (by simp)
           ·rw [if_neg c17] at H;exact absurd H (by simp)
          ·rw [if_neg c16] at H;have c16b0:=e3_ c16;have c16b1:=e4_ c16;have H':=q_ H;clear H;go_wp2
           go_roundg k2
           case measure=>have:=HK1.out;have:=HK2.out;omega
           case rel=>exact⟨(ag),(wrap64 (ae+1)),rs_,H',⟨by have:=HK1.out;have:=HK2.out;omega⟩,⟨so_ ah.out⟩,⟨ro_ ai.out⟩,⟨hb_⟩⟩
         ·rw [if_neg c14] at H;exact absurd H (by simp)
        ·rw [if_neg c12] at H;have c12b0:=decide_eq_false c12;clear c12
         by_cases c23:af.length < 5864062014805
         ·rw [if_pos c23] at H;have aI:=q_ c23;clear c23;obtain⟨ax,hy⟩: ∃y_:List (List Int),y_=(af++ [ag]):=⟨_,rfl⟩
          replace H:(spec_l01Part.l0 k2 l0 a1 ax (wrap64 (aa+1)))=some r:=hh_;have aJ:=q_ hy;clear hy;have H':=q_ H;clear H;obtain⟨ay,az,aM⟩:=Kd.R_slice ai.out;subst aM
          go_wp2_with (first | ((with_reducible refine gate_builtin (b:= .append) (xs:= #[.tmp 45, .tmp 47]) rfl ?_);at_builtin;refine Kd.S_append (Kd.slice 2 (Kd.int .i64)) (w0:=w) w.heap.size rfl (.tmp 45) (.tmp 47) 24 25 (.slice none 0 0) 24 rfl Try.underlying24 info25 rfl (by decide) (by omega) u5 af ag [.slice ay ag.length az] (fun _=>True) (fun k_=>some k_=(.slice ay ag.length az:Value).ownBlock) rfl rfl ?aP (fun k_ hk_=>((Kd.R_mono (ok':=fun k_=>((fun _=>True)) k_∧some k_≠(u5:Value).ownBlock) (Kd.R_apart' (ai.out) (Kd.S_typed ah.out) (by decide)) (fun k_ hk=>⟨trivial,hk.2⟩))).1 k_ hk_.symm) ?aF ?aO ?aB ?aS ?aL ?_;(case aP=>exact Kd.M_row (Kd.R_mono (Kd.R_tight rfl (Kd.R_mono (ok':=fun k_=>((fun _=>True)) k_∧some k_≠(u5:Value).ownBlock) (Kd.R_apart' (ai.out) (Kd.S_typed ah.out) (by decide)) (fun k_ hk=>⟨trivial,hk.2⟩))) (fun _ h_=>h_)));(case aB=>exact hb_);(case aF=>exact(fun _ _=>trivial));(case aO=>exact(kS_ ah.out (fun k_ hk=>⟨trivial,fun e_=>hk e_⟩)));(case aS=>exact bz_);(case aL=>have:=aI.out;omega);intro aY w24 ho hb hg hat;rw [← aJ.out] at ho;replace HB:=q_ (hb);have aK:=q_ (ho);clear ah ai ho hb hg hat))
          go_roundg k2
          case measure=>have:=HK1.out;have:=HK2.out;omega
          case rel=>exact⟨(ax),(wrap64 (aa+1)),rs_,H',⟨by have:=HK1.out;have:=HK2.out;omega⟩,⟨so_ aK.out⟩,⟨hb_⟩⟩
         ·rw [if_neg c23] at H;exact absurd H (by simp)
    ·rw [if_neg c7] at H;exact absurd H (by simp)
   ·rw [if_neg c5] at H;have c5b0:=decide_eq_false c5;clear c5;obtain rfl:=Option.some.inj H;go_wp2
    go_ret
    exact⟨_,ew_,so_ ah.out,hb_⟩
def spec_PivotMinor.j0:Nat→Int→Int→Int→List (List Int)→List Int→Option (Int × Int × Int)
 | 0,_,_,_,_,_=>none
 | k+1,x1,x2,x9,aa,ai=>if x9=0 then((spec_l01Part.f k aa x1).bind fun af=>((spec_l01Det.f k af).bind fun ae=>(if ae=0 then(some (0,0,5)) else((spec_l01Part.f k aa (Go.bits .xor .i64 x1 x2)).bind fun ag=>((spec_l01Det.f k ag).bind fun ah=>(some (ah,ae,0))))))) else(some (0,0,x9))
def spec_PivotMinor.f (k:Nat) (aa:List (List Int)) (ae:List Int) (a1:Int) (a2:Int):Option (Int × Int × Int):=(spec_l02Code.f k aa ae a1).bind fun af=>(if af=0 then((spec_l02Code.f k aa ae a2).bind fun ag=>(spec_PivotMinor.j0 k a1 a2 ag aa ae)) else(spec_PivotMinor.j0 k a1 a2 af aa ae))
theorem spec_PivotMinor.calls (k:Nat) (ak:Option Addr) (aq:Nat) (ae:List (List Int)) (aw:Option Addr) (ax:Nat) (af:List Int) (a1:Int) (a2:Int) (r1:Int) (r2:Int) (r3:Int) (w:World) (aJ:Kd.C (Kd.slice 2 (Kd.int .i64)) w ak ae.length ae) (aK:ae.length≤aq) (aM:Kd.C (Kd.int .i64) w aw af.length af) (aN:af.length≤ax) (h:spec_PivotMinor.f k ae af a1 a2=some (r1,r2,r3)):
  Calls Try.prog 8 #[.agg #[.slice ak ae.length aq, .slice aw af.length ax], .int .i64 a1, .int .i64 a2] w fun e w'=>e= .returned (.tuple #[.int .i64 r1, .int .i64 r2, .int .i64 r3])∧Below w.heap.size w w':=by
 have hu27:=Try.underlying27;have HR0_0:=q_ aJ;have HC0_0:=q_ aK;clear aJ aK;have HR0_1:=q_ aM;have HC0_1:=q_ aN;clear aM aN;have HB:=q_ (Below.refl w.heap.size w);have H:((spec_l02Code.f k ae af a1).bind fun av=>(if av=0 then((spec_l02Code.f k ae af a2).bind fun aC=>(spec_PivotMinor.j0 k a1 a2 aC ae af)) else(spec_PivotMinor.j0 k a1 a2 av ae af)))=some (r1,r2,r3):=h;clear h;replace H:=Option.bind_eq_some_iff.mp H;obtain⟨av,A40,H⟩:=H;replace H:(if av=0 then((spec_l02Code.f k ae af a2).bind fun aC=>(spec_PivotMinor.j0 k a1 a2 aC ae af)) else(spec_PivotMinor.j0 k a1 a2 av ae af))=some (r1,r2,r3):=H;have A4:=q_ A40;clear A40;have HC5:=q_ H;clear H
 go_enter Try.func8,Try.ntmps8
 go_upto_if 15 with (first | ((with_reducible refine gate_dst (N:=3) rfl ?_);refine be_ 3 #[.slice ak ae.length aq, .slice aw af.length ax] 27 ?_;intro aj hg w6 hbox hb;have aa:=q_ (hbox);have bM:=gz_ w hg;have bN:=gz_ w hg;replace HB:=Bs_ hb;clear hb hbox hg;obtain⟨aW,aX,aY,aZ⟩:=c2_ aa) | ((with_reducible refine gate_callee (f:=42) rfl ?_);refine gL_ 13 Try.func42 #[.agg #[.slice ak ae.length aq, .slice aw af.length ax], .int .i64 a1] ?_;(with_reducible refine(spec_l02Code.calls k _ _ ae _ _ af a1 av _ ?ah ?ai ?aH ?aI A4.out).mono ?_);(case ah=>exact cb_ HR0_0.out HB.out);(case ai=>exact HC0_0.out);(case aH=>exact cb_ HR0_1.out HB.out);(case aI=>exact HC0_1.out);rintro e w8 ⟨rfl,hb⟩;refine⟨_,rfl,?_⟩;replace aa:=Bb_ aa hb;replace HB:=Bs_ hb;(try clear hb)))
 (try simp only [Act.put,List.setIfInBounds_toArray,List.set_cons_zero,List.set_cons_succ])
 go_cut [9] (fun v9 wc=> ∃(kq:Nat) (ay:Int),v9= .int .i64 ay∧Aside0 (spec_PivotMinor.j0 kq a1 a2 ay ae af=some (r1,r2,r3))∧Aside0 (kq≤k)∧Aside0 (wc.heap[aj]?=some (.cells #[(.slice ak ae.length aq),(.slice aw af.length ax)] 27 (0,0)))∧Aside0 (Below w.heap.size w wc))
 case first=>
  have H:=HC5.out;clear HC5
  by_cases c9:av=0
  ·rw [if_pos c9] at H;have c9b0:=e1_ c9;have c9b1:=e2_ c9;clear c9
   (first | rw [c9b0] | (simp only [i64_w,i32_w];rw [c9b0]) | skip)
   replace H:=Option.bind_eq_some_iff.mp H;obtain⟨aC,A100,H⟩:=H;replace H:(spec_PivotMinor.j0 k a1 a2 aC ae af)=some (r1,r2,r3):=H;have A10:=q_ A100;clear A100;have H':=q_ H;clear H;obtain⟨aQ,aT,aU,aV⟩:=c2_ aa
   go_wp2_with (first | ((with_reducible refine gate_callee (f:=42) rfl ?_);refine gL_ 18 Try.func42 #[.agg #[.slice ak ae.length aq, .slice aw af.length ax], .int .i64 a2] ?_;(with_reducible refine(spec_l02Code.calls k _ _ ae _ _ af a2 aC _ ?ah ?ai ?aH ?aI A10.out).mono ?_);(case ah=>exact cb_ HR0_0.out HB.out);(case ai=>exact HC0_0.out);(case aH=>exact cb_ HR0_1.out HB.out);(case aI=>exact HC0_1.out);rintro e w12 ⟨rfl,hb⟩;refine⟨_,rfl,?_⟩;replace aa:=Bb_ aa hb;replace HB:=Bs_ hb;(try clear hb)))
   go_meet
   case rel=>exact⟨_,(aC),rs_,H',⟨by first | omega | exact Nat.le_refl _⟩,⟨bk_⟩,⟨hb_⟩⟩
  ·rw [if_neg c9] at H;have c9b0:=e3_ c9;have c9b1:=e4_ c9
   (first | rw [c9b0] | (simp only [i64_w,i32_w];rw [c9b0]) | skip)
   have H':=q_ H;clear H;go_wp2
   go_meet
   case rel=>exact⟨_,(av),rs_,H',⟨by first | omega | exact Nat.le_refl _⟩,⟨bk_⟩,⟨hb_⟩⟩
 case rest=>
  clear HC5;(try clear c9);(try clear c9b0);(try clear c9b1);(try clear aQ);(try clear aT);(try clear aW);(try clear aX);(try clear aU);(try clear aV);(try clear aY);(try clear aZ);obtain⟨kq,ay,rfl,HA,HJ4,aa,HB⟩:=hcut;cases kq with
  | zero=>exact absurd HA.out (by simp [spec_PivotMinor.j0])
  | succ kj4=>
   have H:=HA.out;clear HA;simp only [spec_PivotMinor.j0] at H
   by_cases c13:ay=0
   ·rw [if_pos c13] at H;have c13b0:=e1_ c13;have c13b1:=e2_ c13;clear c13;replace H:=Option.bind_eq_some_iff.mp H;obtain⟨aD,A140,H⟩:=H;replace H:((spec_l01Det.f kj4 aD).bind fun au=>(if au=0 then(some (0,0,5)) else((spec_l01Part.f kj4 ae (Go.bits .xor .i64 a1 a2)).bind fun az=>((spec_l01Det.f kj4 az).bind fun aA=>(some (aA,au,0))))))=some (r1,r2,r3):=H;have A14:=q_ A140;clear A140;replace H:=Option.bind_eq_some_iff.mp H;obtain⟨au,A150,H⟩:=H;replace H:(if au=0 then(some (0,0,5)) else((spec_l01Part.f kj4 ae (Go.bits .xor .i64 a1 a2)).bind fun az=>((spec_l01Det.f kj4 az).bind fun aA=>(some (aA,au,0)))))=some (r1,r2,r3):=H;have A15:=q_ A150;clear A150
    by_cases c16:au=0
    ·rw [if_pos c16] at H;have c16b0:=e1_ c16;have c16b1:=e2_ c16;clear c16;simp only [Option.some.injEq,Prod.mk.injEq] at H;obtain⟨rfl,rfl,rfl⟩:=H;obtain⟨bz,bA,bC,bD⟩:=c2_ aa
     go_wp2_with (first | ((with_reducible refine gate_callee (f:=44) rfl ?_);refine gL_ 25 Try.func44 #[.slice ak ae.length aq, .int .i64 a1] ?_;(with_reducible refine(spec_l01Part.calls kj4 _ _ ae a1 aD _ ?ah ?ai A14.out).mono ?_);(case ah=>exact cb_ HR0_0.out HB.out);(case ai=>exact HC0_0.out);rintro e w18 ⟨a9,rfl,ho0,hb⟩;refine⟨_,rfl,?_⟩;have ag:=q_ (Kd.S_lower ho0 bz_);replace aa:=Bb_ aa hb;replace HB:=Bs_ hb;(try clear hb);(try clear ho0);obtain⟨ba,bf,bg⟩:=Kd.S_slice ag.out;subst bg) | ((with_reducible refine gate_callee (f:=43) rfl ?_);refine gL_ 26 Try.func43 #[.slice ba aD.length bf] ?_;(with_reducible refine(spec_l01Det.calls kj4 _ _ aD au _ ?ah ?ai A15.out).mono ?_);(case ah=>exact cS_);(case ai=>exact(Kd.S_reads' ag.out).2.1);rintro e w20 ⟨rfl,hb⟩;refine⟨_,rfl,?_⟩;replace ag:=q_ (Kd.S_below (so_ ag.out) hb);replace aa:=Bb_ aa hb;replace HB:=Bs_ hb;(try clear hb)))
     go_ret3
     exact⟨ew_,hb_⟩
    ·rw [if_neg c16] at H;have c16b0:=e3_ c16;have c16b1:=e4_ c16;replace H:=Option.bind_eq_some_iff.mp H;obtain⟨az,A210,H⟩:=H;replace H:((spec_l01Det.f kj4 az).bind fun aA=>(some (aA,au,0)))=some (r1,r2,r3):=H;have A21:=q_ A210;clear A210;replace H:=Option.bind_eq_some_iff.mp H;obtain⟨aA,A220,H⟩:=H;replace H:(some (aA,au,0))=some (r1,r2,r3):=H;have A22:=q_ A220;clear A220;simp only [Option.some.injEq,Prod.mk.injEq] at H;obtain⟨rfl,rfl,rfl⟩:=H;obtain⟨bE,bF,bG,bH⟩:=c2_ aa
     go_wp2_with (first | ((with_reducible refine gate_callee (f:=44) rfl ?_);refine gL_ 25 Try.func44 #[.slice ak ae.length aq, .int .i64 a1] ?_;(with_reducible refine(spec_l01Part.calls kj4 _ _ ae a1 aD _ ?ah ?ai A14.out).mono ?_);(case ah=>exact cb_ HR0_0.out HB.out);(case ai=>exact HC0_0.out);rintro e w24 ⟨a9,rfl,ho0,hb⟩;refine⟨_,rfl,?_⟩;have ag:=q_ (Kd.S_lower ho0 bz_);replace aa:=Bb_ aa hb;replace HB:=Bs_ hb;(try clear hb);(try clear ho0);obtain⟨bh,bk,bq⟩:=Kd.S_slice ag.out;subst bq) | ((with_reducible refine gate_callee (f:=43) rfl ?_);refine gL_ 26 Try.func43 #[.slice bh aD.length bk] ?_;(with_reducible refine(spec_l01Det.calls kj4 _ _ aD au _ ?ah ?ai A15.out).mono ?_);(case ah=>exact cS_);(case ai=>exact(Kd.S_reads' ag.out).2.1);rintro e w26 ⟨rfl,hb⟩;refine⟨_,rfl,?_⟩;replace ag:=q_ (Kd.S_below (so_ ag.out) hb);replace aa:=Bb_ aa hb;replace HB:=Bs_ hb;(try clear hb);obtain⟨bI,bJ,bK,bL⟩:=c2_ aa) | ((with_reducible refine gate_callee (f:=44) rfl ?_);refine gL_ 34 Try.func44 #[.slice ak ae.length aq, .int .i64 (Go.bits .xor .i64 a1 a2)] ?_;(with_reducible refine(spec_l01Part.calls kj4 _ _ ae (Go.bits .xor .i64 a1 a2) az _ ?ah ?ai A21.out).mono ?_);(case ah=>exact cb_ HR0_0.out HB.out);(case ai=>exact HC0_0.out);rintro e w28 ⟨bO,rfl,ho0,hb⟩;refine⟨_,rfl,?_⟩;have aG:=q_ (Kd.S_lower (Kd.S_new' ho0 (Kd.S_lt (so_ ag.out))) bz_);replace aa:=Bb_ aa hb;replace ag:=q_ (Kd.S_elder' (so_ ag.out) (Kd.S_base ho0) hb);replace HB:=Bs_ hb;(try clear hb);(try clear ho0);obtain⟨bu,bv,bw⟩:=Kd.S_slice aG.out;subst bw) | ((with_reducible refine gate_callee (f:=43) rfl ?_);refine gL_ 35 Try.func43 #[.slice bu az.length bv] ?_;(with_reducible refine(spec_l01Det.calls kj4 _ _ az aA _ ?ah ?ai A22.out).mono ?_);(case ah=>exact cS_);(case ai=>exact(Kd.S_reads' aG.out).2.1);rintro e w30 ⟨rfl,hb⟩;refine⟨_,rfl,?_⟩;replace ag:=q_ (Kd.S_below (so_ ag.out) hb);replace aG:=q_ (Kd.S_below (so_ aG.out) hb);replace aa:=Bb_ aa hb;replace HB:=Bs_ hb;(try clear hb)))
     go_ret3
     exact⟨ew_,hb_⟩
   ·rw [if_neg c13] at H;have c13b0:=e3_ c13;have c13b1:=e4_ c13;simp only [Option.some.injEq,Prod.mk.injEq] at H;obtain⟨rfl,rfl,rfl⟩:=H;go_wp2
    go_ret3
    exact⟨ew_,hb_⟩
def impl_setCode.f (ae:List (List Int)) (aa:List Int) (a1:Int):Option (Int):=(impl_IsProblem.f ae aa).bind fun af=>(if af=true then((impl_isSet.f a1 (aa.length:Int)).bind fun ag=>(if ag=true then(some 0) else(some 2))) else(some 1))
theorem impl_setCode.calls (ah:Option Addr) (ai:Nat) (ag:List (List Int)) (aj:Option Addr) (ak:Nat) (ae:List Int) (a1:Int) (r:Int) (w:World) (az:Kd.C (Kd.slice 2 (Kd.int .i64)) w ah ag.length ag) (aA:ag.length≤ai) (aC:Kd.C (Kd.int .i64) w aj ae.length ae) (aD:ae.length≤ak) (h:impl_setCode.f ag ae a1=some r):
  Calls Try.prog 45 #[.agg #[.slice ah ag.length ai, .slice aj ae.length ak], .int .i64 a1] w fun e w'=>e= .returned (.int .i64 r)∧Below w.heap.size w w':=by
 have hu27:=Try.underlying27;have HR0_0:=q_ az;have HC0_0:=q_ aA;clear az aA;have HR0_1:=q_ aC;have HC0_1:=q_ aD;clear aC aD;have HB:=q_ (Below.refl w.heap.size w);have H:((impl_IsProblem.f ag ae).bind fun ay=>(if ay=true then((impl_isSet.f a1 (ae.length:Int)).bind fun aq=>(if aq=true then(some 0) else(some 2))) else(some 1)))=some r:=h;clear h;replace H:=Option.bind_eq_some_iff.mp H;obtain⟨ay,A30,H⟩:=H;replace H:(if ay=true then((impl_isSet.f a1 (ae.length:Int)).bind fun aq=>(if aq=true then(some 0) else(some 2))) else(some 1))=some r:=H;have A3:=q_ A30;clear A30
 by_cases c4:ay=true
 ·subst c4;have H1:((impl_isSet.f a1 (ae.length:Int)).bind fun aq=>(if aq=true then(some 0) else(some 2)))=some r:=by rw [if_pos rfl] at H;exact H
  clear H;have H:=H1;clear H1;replace H:=Option.bind_eq_some_iff.mp H;obtain⟨aq,A50,H⟩:=H;replace H:(if aq=true then(some 0) else(some 2))=some r:=H;have A5:=q_ A50;clear A50
  by_cases c6:aq=true
  ·subst c6;have H1:(some 0)=some r:=by rw [if_pos rfl] at H;exact H
   clear H;have H:=H1;clear H1;obtain rfl:=Option.some.inj H
   go_enter Try.func45,Try.ntmps45
   go_wp2_with (first | ((with_reducible refine gate_dst (N:=2) rfl ?_);refine be_ 2 #[.slice ah ag.length ai, .slice aj ae.length ak] 27 ?_;intro af hg w7 hbox hb;have aa:=q_ (hbox);have aG:=gz_ w hg;have aH:=gz_ w hg;replace HB:=Bs_ hb;clear hb hbox hg;obtain⟨bg,bh,bk,bq⟩:=c2_ aa) | ((with_reducible refine gate_callee (f:=39) rfl ?_);refine gL_ 7 Try.func39 #[.agg #[.slice ah ag.length ai, .slice aj ae.length ak]] ?_;(with_reducible refine(impl_IsProblem.calls _ _ ag _ _ ae true _ ?au ?av ?aw ?ax A3.out).mono ?_);(case au=>exact cb_ HR0_0.out HB.out);(case av=>exact HC0_0.out);(case aw=>exact cb_ HR0_1.out HB.out);(case ax=>exact HC0_1.out);rintro e w9 ⟨rfl,hb⟩;refine⟨_,rfl,?_⟩;replace aa:=Bb_ aa hb;replace HB:=Bs_ hb;(try clear hb);obtain⟨aI,aJ,aK,aM⟩:=c2_ aa) | ((with_reducible refine gate_callee (f:=40) rfl ?_);refine gL_ 14 Try.func40 #[.int .i64 a1, .int .i64 (ae.length:Int)] ?_;(with_reducible refine(impl_isSet.calls a1 (ae.length:Int) true _ A5.out).mono ?_);rintro e w' ⟨rfl,⟨nd,rfl⟩⟩;refine⟨_,rfl,?_⟩))
   go_ret
   exact⟨ew_,hb_⟩
  ·replace c6:=Bool.eq_false_iff.mpr c6;subst c6;have H1:(some 2)=some r:=by rw [if_neg (show ¬ (false=true) by decide)] at H;exact H
   clear H;have H:=H1;clear H1;obtain rfl:=Option.some.inj H
   go_enter Try.func45,Try.ntmps45
   go_wp2_with (first | ((with_reducible refine gate_dst (N:=2) rfl ?_);refine be_ 2 #[.slice ah ag.length ai, .slice aj ae.length ak] 27 ?_;intro af hg w11 hbox hb;have aa:=q_ (hbox);have aG:=gz_ w hg;have aH:=gz_ w hg;replace HB:=Bs_ hb;clear hb hbox hg;obtain⟨aN,aQ,aT,aU⟩:=c2_ aa) | ((with_reducible refine gate_callee (f:=39) rfl ?_);refine gL_ 7 Try.func39 #[.agg #[.slice ah ag.length ai, .slice aj ae.length ak]] ?_;(with_reducible refine(impl_IsProblem.calls _ _ ag _ _ ae true _ ?au ?av ?aw ?ax A3.out).mono ?_);(case au=>exact cb_ HR0_0.out HB.out);(case av=>exact HC0_0.out);(case aw=>exact cb_ HR0_1.out HB.out);(case ax=>exact HC0_1.out);rintro e w13 ⟨rfl,hb⟩;refine⟨_,rfl,?_⟩;replace aa:=Bb_ aa hb;replace HB:=Bs_ hb;(try clear hb);obtain⟨aV,aW,aX,aY⟩:=c2_ aa) | ((with_reducible refine gate_callee (f:=40) rfl ?_);refine gL_ 14 Try.func40 #[.int .i64 a1, .int .i64 (ae.length:Int)] ?_;(with_reducible refine(impl_isSet.calls a1 (ae.length:Int) false _ A5.out).mono ?_);rintro e w' ⟨rfl,⟨nd,rfl⟩⟩;refine⟨_,rfl,?_⟩))
   go_ret
   exact⟨ew_,hb_⟩
 ·replace c4:=Bool.eq_false_iff.mpr c4;subst c4;have H1:(some 1)=some r:=by rw [if_neg (show ¬ (false=true) by decide)] at H;exact H
  clear H;have H:=H1;clear H1;obtain rfl:=Option.some.inj H
  go_enter Try.func45,Try.ntmps45
  go_wp2_with (first | ((with_reducible refine gate_dst (N:=2) rfl ?_);refine be_ 2 #[.slice ah ag.length ai, .slice aj ae.length ak] 27 ?_;intro af hg w15 hbox hb;have aa:=q_ (hbox);have aG:=gz_ w hg;have aH:=gz_ w hg;replace HB:=Bs_ hb;clear hb hbox hg;obtain⟨aZ,a9,ba,bf⟩:=c2_ aa) | ((with_reducible refine gate_callee (f:=39) rfl ?_);refine gL_ 7 Try.func39 #[.agg #[.slice ah ag.length ai, .slice aj ae.length ak]] ?_;(with_reducible refine(impl_IsProblem.calls _ _ ag _ _ ae false _ ?au ?av ?aw ?ax A3.out).mono ?_);(case au=>exact cb_ HR0_0.out HB.out);(case av=>exact HC0_0.out);(case aw=>exact cb_ HR0_1.out HB.out);(case ax=>exact HC0_1.out);rintro e w17 ⟨rfl,hb⟩;refine⟨_,rfl,?_⟩;replace aa:=Bb_ aa hb;replace HB:=Bs_ hb;(try clear hb)))
  go_ret
  exact⟨ew_,hb_⟩
def impl_Problem_all.f (ae:List (List Int)) (aa:List Int):Option (Int):=some (shl .i64 1 (aa.length:Int))
theorem impl_Problem_all.calls (ah:Option Addr) (ai:Nat) (ae:List (List Int)) (aj:Option Addr) (ak:Nat) (aa:List Int) (r:Int) (w:World) (aq:Kd.C (Kd.slice 2 (Kd.int .i64)) w ah ae.length ae) (au:ae.length≤ai) (av:Kd.C (Kd.int .i64) w aj aa.length aa) (aw:aa.length≤ak) (h:impl_Problem_all.f ae aa=some r):
  Calls Try.prog 46 #[.agg #[.slice ah ae.length ai, .slice aj aa.length ak]] w fun e w'=>e= .returned (.int .i64 r)∧Below w.heap.size w w':=by
 have hu27:=Try.underlying27;have HR0_0:=q_ aq;have HC0_0:=q_ au;clear aq au;have HR0_1:=q_ av;have HC0_1:=q_ aw;clear av aw;have HB:=q_ (Below.refl w.heap.size w);have H:(some (shl .i64 1 (aa.length:Int)))=some r:=h;clear h;obtain⟨ji2,hji2⟩: ∃j_:Int,(shl .i64 1 (aa.length:Int))=j_:=⟨_,rfl⟩
 replace H:(some ji2)=some r:=by first | (rw [hji2] at H;exact H) | (simp only [hji2] at H ⊢;exact H)
 have hji2_:(IntKind.i64.wrap (1*2 ^ min (aa.length:Int).toNat 64))=ji2:=hji2;have hji2z:(aa.length:Int)≤64→(IntKind.i64.wrap (1*2 ^ (aa.length:Int).toNat))=ji2:=shl_small hji2;have hji2p:(IntKind.i64.wrap (1*2 ^ min aa.length 64))=ji2:=hji2_;have hji2q:(aa.length:Int)≤64→(IntKind.i64.wrap (1*2 ^ aa.length))=ji2:=hji2z;have hji2r:(IntKind.i64.wrap (2 ^ min aa.length 64))=ji2:=by have h_:=hji2p;rw [Int.one_mul] at h_;exact h_
 have hji2s:(aa.length:Int)≤64→(IntKind.i64.wrap (2 ^ aa.length))=ji2:=fun hle_=>by have h_:=hji2q hle_;rw [Int.one_mul] at h_;exact h_
 have hji2u:(IntKind.i64.wrap (2 ^ min (aa.length:Int).toNat 64))=ji2:=by have h_:=hji2_;rw [Int.one_mul] at h_;exact h_
 have hji2v:(aa.length:Int)≤64→(IntKind.i64.wrap (2 ^ (aa.length:Int).toNat))=ji2:=fun hle_=>by have h_:=hji2z hle_;rw [Int.one_mul] at h_;exact h_
 have hji2y:(wrap64 (1*2 ^ min (aa.length:Int).toNat 64))=ji2:=(i64_w _).symm.trans hji2_;have hji2x:(aa.length:Int)≤64→(wrap64 (1*2 ^ (aa.length:Int).toNat))=ji2:=fun h_=>(i64_w _).symm.trans (hji2z h_)
 obtain rfl:=Option.some.inj H
 go_enter Try.func46,Try.ntmps46
 go_wp2_with (first | ((with_reducible refine gate_dst (N:=1) rfl ?_);refine be_ 1 #[.slice ah ae.length ai, .slice aj aa.length ak] 27 ?_;intro af hg w3 hbox hb;have ag:=q_ (hbox);have aC:=gz_ w hg;have aD:=gz_ w hg;replace HB:=Bs_ hb;clear hb hbox hg;obtain⟨ax,ay,az,aA⟩:=c2_ ag))
 go_ret
 exact⟨by first | rfl | (simp [errW_none,errW_some] <;> rfl) | (simp only [← hji2];first | rfl | (simp [errW_none,errW_some] <;> rfl)) | (simp [*,errW_none,errW_some] <;> rfl),hb_⟩
end Go.Proofs.Ytbjljcpngbhkeaa.Pr
end
section
namespace Go.Proofs.Ytbjljcpngbhkeaa.Hd
open Go.RowKit Wz.PrintWords Wz.PrintLast Wz.PrintMore Pr La Ma Hm Dt
def pcol (M:Mat) (i:Nat) (col:List Int) (r:Nat):Mat:=fun a d=>if d=i∧a < r then col.getD a 0 else M a d
theorem pcol_zero (M:Mat) (i:Nat) (col:List Int) (a d:Nat):pcol M i col 0 a d=M a d:=by unfold pcol;rw [if_neg (by omega)]
theorem pcol_next (M:Mat) (i:Nat) (col:List Int) (r a d:Nat):mset (pcol M i col r) r i (col.getD r 0) a d=pcol M i col (r+1) a d:=by
 unfold mset pcol
 by_cases e:a=r∧d=i
 ·obtain⟨rfl,rfl⟩:=e
  rw [if_pos ⟨rfl,rfl⟩,if_pos ⟨rfl,by omega⟩]
 ·rw [if_neg e]
  by_cases q:d=i∧a < r
  ·rw [if_pos q,if_pos (by omega)]
  ·rw [if_neg q,if_neg (by omega)]
def okB (n:Nat) (b:Nat→Nat) (k:Nat):Prop:= ∃j,j < n∧k=b j
theorem putO {w0 w:World} {g n:Nat} {b cp:Nat→Nat} {M:Mat} (i:Nat) (hi:i < n) (cap:Nat) (A:Option Addr) (c:Nat) (col:List Int) (hO:Own w0 w g n b cp M) (hn:n≤1000) (hc:n≤col.length)
  (hcol: ∀W,Kept w W (okB n b)→Below w0.heap.size w0 W→Kd.C (Kd.int .i64) W A col.length col):
  Calls Try.prog 86 #[.slice (some ⟨g,0,none⟩) n cap, .int .i64 (i:Int), .slice A col.length c] w fun e w'=>e= .returned (.tuple #[])∧Own w0 w' g n b cp (pcol M i col n)∧Kept w w' (okB n b):=by
 have HO:=q_ hO;have HI:=q_ hi;have HN:=q_ hn;have HC:=q_ hc;have HCOL:=q_ hcol;clear hO hi hn hc hcol
 go_enter Try.func86,Try.ntmps86
 go_wp2
 go_loopg [6,7,10] n (fun gg v6 v7 v10 wr=> ∃r:Nat,r≤n∧n - r≤gg∧v10= .int .i64 (r:Int)∧Aside0 (Own w0 wr g n b cp (pcol M i col r))∧Aside0 (Kept w wr (okB n b)))
 case atStart=>exact⟨0,Nat.zero_le _,by omega,rfl,⟨HO.out.congr (fun a d _ _=>(pcol_zero M i col a d).symm)⟩,⟨Kept.refl _ _⟩⟩
 case round=>
  clear HO;obtain⟨r,hr,hg,rfl,RO,RK⟩:=hrel
  by_cases hlt:r < n
  ·have hltz:(r:Int) < (n:Int):=by omega
   have h0z:(0:Int)≤(r:Int):=by omega
   have hiz:(i:Int) < (n:Int):=by have:=HI.out;omega
   have h0i:(0:Int)≤(i:Int):=by omega
   have hcell:=(RO.out.og r hlt).1;have hold:=(RO.out.ob r i hlt HI.out).1;have hfr:=(RO.out.ob r i hlt HI.out).2;have hcz:(r:Int) < (col.length:Int):=by have:=HC.out;omega
   obtain⟨adc,eA,hcc⟩:=Kd.at_int (HCOL.out wr RK.out RO.out.below) (r:Int) (by omega) (by omega);subst eA;rw [Int.toNat_natCast,rd_nat] at hcc;have hw:IntKind.i64.wrap ((r:Int)+1)=((r+1:Nat):Int):=by rw [IntWalk.i64_in _ (by have:=HN.out;omega)];rfl
   have HW:=q_ hw;have HLT:=q_ hlt;have HG:=q_ hg;clear hlt hr hg;go_wp2
   go_roundg (n - (r+1))
   case measure=>have:=HG.out;have:=HLT.out;omega
   case rel=>
    have hput:=(RO.out.put HLT.out HI.out (col.getD r 0)).congr (M':=pcol M i col (r+1)) (fun a d _ _=>pcol_next M i col r a d);exact⟨r+1,by have:=HLT.out;omega,by omega,by first | rfl | (rw [HW.out]) | (simp [HW.out]),⟨hput⟩,⟨RK.out.then_ ((Kept.refl _ _).setCell (.inl ⟨r,HLT.out,rfl⟩) _) (fun k hk=> .inl hk)⟩⟩
  ·have hltz: ¬ (r:Int) < (n:Int):=by omega
   obtain rfl:r=n:=by omega
   go_wp2
   go_end0
   exact⟨rfl,RO.out,RK.out⟩
end Go.Proofs.Ytbjljcpngbhkeaa.Hd
end
section
namespace Go.Proofs.Ytbjljcpngbhkeaa.Pr
open Go.RowKit Wz.PrintWords Wz.PrintLast Wz.PrintMore
attribute [local go_sem] max2_int min2_int max_two min_two max_three min_three max_four min_four
def impl_Problem_column.l0:Nat→Int→Bool→List Int→List (List Int)→Int→Int→Option (List Int)
 | 0,_,_,_,_,_,_=>none
 | k+1,x1,x2,x7,x15,x16,x17=>if x17 < x16 then(if 0≤x17 then(if x17 < (x15.length:Int) then(if x2=true then(if 0≤x1 then(if x1 < ((rd_L2 x15 x17).length:Int) then(if x17 < (x7.length:Int) then(impl_Problem_column.l0 k x1 x2 (x7.set (x17:Int).toNat (wrap64 (-(rd (rd_L2 x15 x17) x1)))) x15 x16 (wrap64 (x17+1))) else(none)) else(none)) else(none)) else(impl_Problem_column.l0 k x1 x2 x7 x15 x16 (wrap64 (x17+1)))) else(none)) else(none)) else(if x2=true then(some x7) else(if 0≤x1 then(if x1 < (x7.length:Int) then(some (x7.set (x1:Int).toNat 1)) else(none)) else(none)))
def impl_Problem_column.f (k:Nat) (ae:List (List Int)) (aa:List Int) (a1:Int) (a2:Bool):Option (List Int):=if 0≤(aa.length:Int) then(if((aa.length:Int):Int).toNat≤35184372088832 then(impl_Problem_column.l0 k a1 a2 (List.replicate ((aa.length:Int):Int).toNat 0) ae (ae.length:Int) 0) else(none)) else(none)
theorem impl_Problem_column.calls (k:Nat) (ak:Option Addr) (aq:Nat) (ae:List (List Int)) (au:Option Addr) (av:Nat) (ah:List Int) (a1:Int) (a2:Bool) (r:List Int) (w:World) (ax:Kd.C (Kd.slice 2 (Kd.int .i64)) w ak ae.length ae) (ay:ae.length≤aq) (az:Kd.C (Kd.int .i64) w au ah.length ah) (aA:ah.length≤av) (h:impl_Problem_column.f k ae ah a1 a2=some r):
  Calls Try.prog 87 #[.agg #[.slice ak ae.length aq, .slice au ah.length av], .int .i64 a1, .bool a2] w fun e w'=> ∃v0_:Value,e= .returned (v0_)∧Kd.R (Kd.int .i64) 2 w' w.heap.size (fun _=>True) v0_ r∧Below w.heap.size w w':=by
 have hu27:=Try.underlying27;have HR0_0:=q_ ax;have HC0_0:=q_ ay;clear ax ay;have HR0_1:=q_ az;have HC0_1:=q_ aA;clear az aA;have HB:=q_ (Below.refl w.heap.size w);have H:(if 0≤(ah.length:Int) then(if((ah.length:Int):Int).toNat≤35184372088832 then(impl_Problem_column.l0 k a1 a2 (List.replicate ((ah.length:Int):Int).toNat 0) ae (ae.length:Int) 0) else(none)) else(none))=some r:=h;clear h
 by_cases c4:0≤(ah.length:Int)
 ·rw [if_pos c4] at H;have c4b0:=eq_true c4;have c4b1:=decide_eq_true c4;clear c4
  by_cases c5:((ah.length:Int):Int).toNat≤35184372088832
  ·rw [if_pos c5] at H;have c5b0:=eq_true c5;have c5b1:=decide_eq_true c5;clear c5;obtain⟨aJ,hy⟩: ∃y_:List Int,y_=(List.replicate ((ah.length:Int):Int).toNat 0):=⟨_,rfl⟩
   replace H:(impl_Problem_column.l0 k a1 a2 aJ ae (ae.length:Int) 0)=some r:=hh_;have aC:=q_ hy;clear hy;have H':=q_ H;clear H
   go_enter Try.func87,Try.ntmps87
   go_wp2_with (first | ((with_reducible refine gate_dst (N:=3) rfl ?_);refine be_ 3 #[.slice ak ae.length aq, .slice au ah.length av] 27 ?_;intro aj hg w6 hbox hb;have af:=q_ (hbox);have bu:=gz_ w hg;have bv:=gz_ w hg;replace HB:=Bs_ hb;clear hb hbox hg;obtain⟨aK,aM,aN,aQ⟩:=c2_ af) | ((with_reducible refine gate_dst (N:=13) rfl ?_);refine Kd.R_make (Kd.int .i64) _ 2 rfl (N:=13) rfl 25 _ _ rfl (ah.length:Int) rfl rfl Try.underlying25 (.int .i64 0) 8 info2 rfl (by decide) (by omega) 0 (ok:=fun _=>True) (okp:=fun _=>True) rfl (fun _ hk=>hk) trivial od_ (Nat.le_trans (Nat.mul_le_mul_right _ (od_:(ah.length:Int).toNat≤35184372088832)) (by omega)) (Below.refl _ _) (Nat.le_refl _) ?_;intro bh w8 ho9 hb hg_ hnew_;clear hg_ hnew_;(first | rw [← aC.out] at ho9 | (simp only [Int.reduceToNat] at ho9;rw [← aC.out] at ho9));have a9:=q_ (Kd.R_lower ho9 bz_);replace af:=Bb_ af hb;replace HB:=Bs_ hb;clear hb ho9;obtain⟨aD,aG,aH,aI⟩:=c2_ af))
   go_loopg [17] k (fun kq v17 w'=> ∃(ag:List Int) (aa:Int),v17= .int .i64 aa∧Aside0 (impl_Problem_column.l0 kq a1 a2 ag ae (ae.length:Int) aa=some r)∧Aside0 (kq≤k)∧Aside0 (Kd.R (Kd.int .i64) 2 w' w.heap.size (fun _=>True) bh ag)∧Aside0 (w'.heap[aj]?=some (.cells #[(.slice ak ae.length aq),(.slice au ah.length av)] 27 (0,0)))∧Aside0 (Below w.heap.size w w'))
   case atStart=>exact⟨(aJ),(0),rs_,H',⟨Nat.le_refl _⟩,⟨ro_ a9.out⟩,⟨bk_⟩,⟨hb_⟩⟩
   case round=>
    clear H';(try clear c4);(try clear c4b0);(try clear c4b1);(try clear c5);(try clear c5b0);(try clear c5b1);(try clear aD);(try clear aG);(try clear aK);(try clear aM);(try clear aH);(try clear aI);(try clear aN);(try clear aQ);obtain⟨ag,aa,rfl,HA,HK1,ai,af,HB⟩:=hrel;cases gk with
    | zero=>exact absurd HA.out (by simp [impl_Problem_column.l0])
    | succ k1=>
     have H:=HA.out;clear HA;simp only [impl_Problem_column.l0] at H
     by_cases c11:aa < (ae.length:Int)
     ·rw [if_pos c11] at H;have c11b0:=decide_eq_true c11;clear c11
      by_cases c12:0≤aa
      ·rw [if_pos c12] at H;have c12b0:=decide_eq_true c12;clear c12
       by_cases c13:aa < (ae.length:Int)
       ·rw [if_pos c13] at H;have c13b0:=decide_eq_true c13;clear c13
        by_cases c14:a2=true
        ·subst c14;have H1:(if 0≤a1 then(if a1 < ((rd_L2 ae aa).length:Int) then(if aa < (ag.length:Int) then(impl_Problem_column.l0 k1 a1 true (ag.set (aa:Int).toNat (wrap64 (-(rd (rd_L2 ae aa) a1)))) ae (ae.length:Int) (wrap64 (aa+1))) else(none)) else(none)) else(none))=some r:=by rw [if_pos rfl] at H;exact H
         clear H;have H:=H1;clear H1
         by_cases c15:0≤a1
         ·rw [if_pos c15] at H;have c15b0:=decide_eq_true c15;clear c15
          by_cases c16:a1 < ((rd_L2 ae aa).length:Int)
          ·rw [if_pos c16] at H;have c16b0:=decide_eq_true c16;clear c16
           by_cases c17:aa < (ag.length:Int)
           ·rw [if_pos c17] at H;have c17b0:=decide_eq_true c17;clear c17;obtain⟨aw,hy⟩: ∃y_:List Int,y_=(ag.set (aa:Int).toNat (wrap64 (-(rd (rd_L2 ae aa) a1)))):=⟨_,rfl⟩
            replace H:(impl_Problem_column.l0 k1 a1 true aw ae (ae.length:Int) (wrap64 (aa+1)))=some r:=hh_;have ba:=q_ hy;clear hy;have H':=q_ H;clear H;have p301:0≤(aa:Int):=od_;have q301:aa < (ae.length:Int):=od_;obtain⟨bf,aT,aU,e301,hx301_0,hl301_0,hi301_0⟩:=at_L2 HR0_0.out aa p301 q301;cases e301
            replace hx301_0:=bc_ HB.out hx301_0;have HR301_0:=q_ hi301_0;have HC301_0:=q_ hl301_0;clear hi301_0 hl301_0;replace p301:=eq_true p301;replace q301:=eq_true q301;have p302:0≤(a1:Int):=od_;have q302:a1 < ((rd_L2 ae aa).length:Int):=od_;obtain⟨bw,e302,hx302_0⟩:=Kd.at_int HR301_0.out a1 p302 q302;cases e302
            replace hx302_0:=bc_ HB.out hx302_0;replace p302:=eq_true p302;replace q302:=eq_true q302;have p18:0≤(aa:Int):=od_;have q18:(aa:Int) < ((ag.length:Int):Int):=od_;obtain⟨go18,bk,aV,aW,gl18,cl18,HG18⟩:=Kd.R_form ai.out (by omega)
            (first | cases aV | (injection aV with ea_ en_ ec_;(first | subst ea_ | (injection ea_ with ea_;subst ea_));subst ec_;clear en_))
            have GB18:=q_ aW;have GG18:=q_ HG18;clear aW gl18 HG18;obtain⟨hx18_0,hf18_0⟩:=Kd.R_celln 0 ai.out (aa:Int) p18 q18;replace p18:=eq_true p18;replace q18:=eq_true q18;have HP19:=Kd.R_putg ai.out (aa:Int) (wrap64 (-(rd (rd_L2 ae aa) a1)))
            go_wp2_with (first | ((with_reducible refine gate_store (t:=2) (p:=30) rfl ?_);refine store_event (t:=2) (p:=30) (v:=?vo_w20) (w1:=(wr.setCell ⟨go18,(aa:Int).toNat,none⟩ (.int .i64 (wrap64 (-(rd (rd_L2 ae aa) a1)))))) ?hg ?ho ?hn ?hr ?_;(case ho=>rfl);(case hg=>rfl);(case hn=>rfl);(case hr=>first | (go_simp;done) | (go_simp;rfl));intro w20 hw;have hg:wr.grownBy w20 (some go18):=(by rw [hw];exact HP19.2);have hp_:Kd.R (Kd.int .i64) 2 w20 w.heap.size (fun _=>True) (.slice (some ⟨go18,0,none⟩) ag.length bk) aw:=(by rw [hw,ba.out];exact HP19.1);clear HP19;replace af:=q_ (bg_ af.out hg (Kd.R_ne ai.out af.out (by decide)));replace HB:=q_ ((by rw [hw];exact below_set (HB.out) GB18.out:Below w.heap.size w w20));replace ai:=q_ (hp_);clear hg hw hp_))
            go_roundg k1
            case measure=>have:=HK1.out;omega
            case rel=>exact⟨(aw),(wrap64 (aa+1)),rs_,H',⟨by have:=HK1.out;omega⟩,⟨ro_ ai.out⟩,⟨bk_⟩,⟨hb_⟩⟩
           ·rw [if_neg c17] at H;exact absurd H (by simp)
          ·rw [if_neg c16] at H;exact absurd H (by simp)
         ·rw [if_neg c15] at H;exact absurd H (by simp)
        ·replace c14:=Bool.eq_false_iff.mpr c14;subst c14;have H1:(impl_Problem_column.l0 k1 a1 false ag ae (ae.length:Int) (wrap64 (aa+1)))=some r:=by rw [if_neg (show ¬ (false=true) by decide)] at H;exact H
         clear H;have H:=H1;clear H1;have H':=q_ H;clear H;have p301:0≤(aa:Int):=od_;have q301:aa < (ae.length:Int):=od_;obtain⟨bf,aT,aU,e301,hx301_0,hl301_0,hi301_0⟩:=at_L2 HR0_0.out aa p301 q301;cases e301
         replace hx301_0:=bc_ HB.out hx301_0;have HR301_0:=q_ hi301_0;have HC301_0:=q_ hl301_0;clear hi301_0 hl301_0;replace p301:=eq_true p301;replace q301:=eq_true q301;go_wp2
         go_roundg k1
         case measure=>have:=HK1.out;omega
         case rel=>exact⟨(ag),(wrap64 (aa+1)),rs_,H',⟨by have:=HK1.out;omega⟩,⟨ro_ ai.out⟩,⟨bk_⟩,⟨hb_⟩⟩
       ·rw [if_neg c13] at H;exact absurd H (by simp)
      ·rw [if_neg c12] at H;exact absurd H (by simp)
     ·rw [if_neg c11] at H;have c11b0:=decide_eq_false c11;clear c11
      by_cases c21:a2=true
      ·subst c21;have H1:(some ag)=some r:=by rw [if_pos rfl] at H;exact H
       clear H;have H:=H1;clear H1;obtain rfl:=Option.some.inj H;go_wp2
       go_ret
       exact⟨_,ew_,ro_ ai.out,hb_⟩
      ·replace c21:=Bool.eq_false_iff.mpr c21;subst c21;have H1:(if 0≤a1 then(if a1 < (ag.length:Int) then(some (ag.set (a1:Int).toNat 1)) else(none)) else(none))=some r:=by rw [if_neg (show ¬ (false=true) by decide)] at H;exact H
       clear H;have H:=H1;clear H1
       by_cases c22:0≤a1
       ·rw [if_pos c22] at H;have c22b0:=decide_eq_true c22;clear c22
        by_cases c23:a1 < (ag.length:Int)
        ·rw [if_pos c23] at H;have c23b0:=decide_eq_true c23;clear c23;obtain⟨aX,hy⟩: ∃y_:List Int,y_=(ag.set (a1:Int).toNat 1):=⟨_,rfl⟩
         replace H:(some aX)=some r:=hh_;have bg:=q_ hy;clear hy;obtain rfl:=Option.some.inj H;have p24:0≤(a1:Int):=od_;have q24:(a1:Int) < ((ag.length:Int):Int):=od_;obtain⟨go24,bq,aY,aZ,gl24,cl24,HG24⟩:=Kd.R_form ai.out (by omega)
         (first | cases aY | (injection aY with ea_ en_ ec_;(first | subst ea_ | (injection ea_ with ea_;subst ea_));subst ec_;clear en_))
         have GB24:=q_ aZ;have GG24:=q_ HG24;clear aZ gl24 HG24;obtain⟨hx24_0,hf24_0⟩:=Kd.R_celln 0 ai.out (a1:Int) p24 q24;replace p24:=eq_true p24;replace q24:=eq_true q24;have HP25:=Kd.R_putg ai.out (a1:Int) 1
         go_wp2_with (first | ((with_reducible refine gate_store (t:=2) (p:=36) rfl ?_);refine se_ 2 36 ((wr.setCell ⟨go24,(a1:Int).toNat,none⟩ (.int .i64 1))) ?_;intro w26 hw;have hg:wr.grownBy w26 (some go24):=(by rw [hw];exact HP25.2);have hp_:Kd.R (Kd.int .i64) 2 w26 w.heap.size (fun _=>True) (.slice (some ⟨go24,0,none⟩) ag.length bq) aX:=(by rw [hw,bg.out];exact HP25.1);clear HP25;replace af:=q_ (bg_ af.out hg (Kd.R_ne ai.out af.out (by decide)));replace HB:=q_ ((by rw [hw];exact below_set (HB.out) GB24.out:Below w.heap.size w w26));replace ai:=q_ (hp_);clear hg hw hp_))
         go_ret
         exact⟨_,ew_,ro_ ai.out,hb_⟩
        ·rw [if_neg c23] at H;exact absurd H (by simp)
       ·rw [if_neg c22] at H;exact absurd H (by simp)
  ·rw [if_neg c5] at H;exact absurd H (by simp)
 ·rw [if_neg c4] at H;exact absurd H (by simp)
end Go.Proofs.Ytbjljcpngbhkeaa.Pr
end
section
namespace Go.Proofs.Ytbjljcpngbhkeaa.Hd
open Go.RowKit Wz.PrintWords Wz.PrintLast Wz.PrintMore Pr La Ma Hm Dt
structure Pre (w0 w:World) (g n r:Nat) (b cp:Nat→Nat):Prop where
 below:Below w0.heap.size w0 w
 gb:w0.heap.size≤g
 bb: ∀j,j < r→w0.heap.size≤b j
 inj: ∀i j,i < r→j < r→b i=b j→i=j
 ne: ∀j,j < r→b j≠g
 cap: ∀j,j < r→n≤cp j
 og: ∀j,j < r→w.cell? ⟨g,j,none⟩=some (.slice (some ⟨b j,0,none⟩) n (cp j))
 ob: ∀j c,j < r→c < n→w.cell? ⟨b j,c,none⟩=some (.int .i64 0)∧w.frozen? ⟨b j,c,none⟩=false
 rest: ∀j,j < n→(∃v,w.cell? ⟨g,j,none⟩=some v)∧w.frozen? ⟨g,j,none⟩=false
section
variable {w0 w w1:World} {g n r:Nat} {b cp:Nat→Nat}
theorem Pre.step (h:Pre w0 w g n r b cp) (hr:r≤n) (hb:Below w.heap.size w w1):Pre w0 w1 g n r b cp:=
  ⟨Below.trans h.below (hb.mono h.below.size),h.gb,h.bb,h.inj,h.ne,h.cap,
   fun j hj=>by have:=lt_of_cell (h.og j hj);exact(hb.cell (p:=⟨g,j,none⟩) this).trans (h.og j hj),
   fun j c hj hc=>by have:=lt_of_cell (h.ob j c hj hc).1;exact⟨(hb.cell (p:=⟨b j,c,none⟩) this).trans (h.ob j c hj hc).1,(frozen_below hb this).trans (h.ob j c hj hc).2⟩,
   fun j hj=>by obtain⟨⟨v,hv⟩,hf⟩:=h.rest j hj;have:=lt_of_cell hv;exact⟨⟨v,(hb.cell (p:=⟨g,j,none⟩) this).trans hv⟩,(frozen_below hb this).trans hf⟩⟩
theorem Pre.full (h:Pre w0 w g n n b cp):Own w0 w g n b cp (fun _ _=>0):=
 ⟨h.below,h.gb,h.bb,h.inj,h.ne,h.cap,fun j hj=>⟨h.og j hj,(h.rest j hj).2⟩,h.ob⟩
theorem Pre.add {bn cn:Nat} (h:Pre w0 w g n r b cp) (hr:r < n) (hb:Below w.heap.size w w1) (hR:Kd.R (Kd.int .i64) 2 w1 w.heap.size (fun _=>True) (.slice (some ⟨bn,0,none⟩) n cn) (List.replicate n 0)):
  Pre w0 (w1.setCell ⟨g,r,none⟩ (.slice (some ⟨bn,0,none⟩) n cn)) g n (r+1) (fun j=>if j=r then bn else b j) (fun j=>if j=r then cn else cp j):=by
 have h1:=h.step (Nat.le_of_lt hr) hb
 have hbn:w.heap.size≤bn:=Kd.R_base hR bn (by simp [Value.ownBlock])
 have hcn:=(Kd.R_reads' hR).2.1
 have hlt (j:Nat) (hj:j < r):b j < w.heap.size:=lt_of_cell (h.ob j 0 hj (by omega)).1
 have hg:g < w.heap.size:=by obtain⟨⟨v,hv⟩,_⟩:=h.rest r hr;exact lt_of_cell hv
 refine⟨h1.below.setCell h1.gb _,h1.gb,fun j hj=>?_,fun i j hi hj e=>?_,fun j hj=>?_,fun j hj=>?_,fun j hj=>?_,fun j c hj hc=>?_,fun j hj=>?_⟩
 ·show w0.heap.size≤if j=r then bn else b j
  split
  ·have:=h.below.size;omega
  ·exact h.bb j (by omega)
 ·by_cases ei:i=r <;> by_cases ej:j=r
  ·omega
  ·simp only [if_pos ei,if_neg ej] at e;have:=hlt j (by omega);omega
  ·simp only [if_neg ei,if_pos ej] at e;have:=hlt i (by omega);omega
  ·simp only [if_neg ei,if_neg ej] at e;exact h.inj i j (by omega) (by omega) e
 ·show (if j=r then bn else b j)≠g
  split
  ·omega
  ·exact h.ne j (by omega)
 ·show n≤if j=r then cn else cp j
  split
  ·exact hcn
  ·exact h.cap j (by omega)
 ·by_cases e:j=r
  ·subst e
   simp only [if_true]
   obtain⟨⟨v,hv⟩,_⟩:=h1.rest j hr
   exact cset_same hv
  ·simp only [if_neg e]
   rw [cset_other (by intro q;exact e (congrArg Addr.off q).symm)]
   exact h1.og j (by omega)
 ·rw [fset]
  by_cases e:j=r
  ·subst e
   simp only [if_true]
   have hat:=Kd.R_celln 0 hR (c:Int) (by omega) (by simp;omega)
   rw [Int.toNat_natCast] at hat
   rw [cset_other (by intro q;have:=congrArg Addr.block q;simp only at this;omega)]
   exact⟨by simpa [rdOf,hc] using hat.1,hat.2⟩
  ·simp only [if_neg e]
   rw [cset_other (by intro q;exact h.ne j (by omega) (congrArg Addr.block q).symm)]
   exact h1.ob j c (by omega) hc
 ·rw [fset]
  refine⟨?_,(h1.rest j hj).2⟩
  by_cases e:j=r
  ·subst e
   obtain⟨⟨v,hv⟩,_⟩:=h1.rest j hr
   exact⟨_,cset_same hv⟩
  ·rw [cset_other (by intro q;exact e (congrArg Addr.off q).symm)]
   exact(h1.rest j hj).1
theorem pre_of_S {ok:Nat→Prop} {v:Value} (h:SS w0 w ok v (List.replicate n [])) (hB:Below w0.heap.size w0 w) (hp:0 < n): ∃g cap,v= .slice (some ⟨g,0,none⟩) n cap∧n≤cap∧Pre w0 w g n 0 (fun _=>0) (fun _=>0):=by
 obtain⟨g,cap,rfl,hg0,hg1,cells,hgc⟩:=Kd.S_form h (by simpa using hp)
 have hrd:=Kd.S_reads' h
 rw [List.length_replicate] at hrd ⊢
 refine⟨g,cap,rfl,hrd.2.1,⟨hB,hg0,fun j hj=>by omega,fun i j hi=>by omega,fun j hj=>by omega,fun j hj=>by omega,fun j hj=>by omega,fun j c hj=>by omega,fun j hj=>⟨?_,blk_frozen hgc j⟩⟩⟩
 obtain⟨ad,A',c',e,hx,_⟩:=at_L2 hrd.2.2 (j:Int) (by omega) (by simp;omega)
 cases e
 rw [Int.toNat_natCast,add_off,Nat.zero_add] at hx
 exact⟨_,hx⟩
theorem R_keptC {ok:Nat→Prop} {A:Option Addr} {c base:Nat} {xs:List Int} {W:World} {m:Nat} (hR:Kd.R (Kd.int .i64) 2 w base ok (.slice A m c) xs) (hK:Kept w W (okB n b)) (hlt: ∀j,j < n→b j < base):Kd.C (Kd.int .i64) W A xs.length xs:=by
 have h2:=Kd.R_step (w1:=W) (Kd.R_bound hR) (fun k hk hlt2=>hK.2 k hlt2 (fun⟨j,hj,e⟩=>by have:=hlt j hj;have:=hk.2.1;omega))
 exact(Kd.R_reads' h2).2.2
end
def cM (cl:Nat→List Int) (i:Nat):Mat:=fun a d=>if d < i then(cl d).getD a 0 else 0
theorem cM_next (cl:Nat→List Int) (i n a d:Nat) (ha:a < n):pcol (cM cl i) i (cl i) n a d=cM cl (i+1) a d:=by
 unfold pcol cM
 by_cases e:d=i
 ·subst e;rw [if_pos ⟨rfl,ha⟩,if_pos (by omega)]
 ·rw [if_neg (by omega)]
  by_cases q:d < i
  ·rw [if_pos q,if_pos (by omega)]
  ·rw [if_neg q,if_neg (by omega)]
theorem columns_calls (k n:Nat) (s:Int) (cl:Nat→List Int) (A0:Option Addr) (c0:Nat) (M:List (List Int)) (A1:Option Addr) (c1:Nat) (Q:List Int) (w:World) (hr0:Kd.C (Kd.slice 2 (Kd.int .i64)) w A0 M.length M) (hc0:M.length≤c0) (hr1:Kd.C (Kd.int .i64) w A1 Q.length Q) (hc1:Q.length≤c1) (hQ:Q.length=n) (hp:0 < n) (hn:n≤1000)
  (hcl: ∀i,i < n→ ∃t,impl_has.f s (i:Int)=some t∧impl_Problem_column.f k M Q (i:Int) t=some (cl i)∧(cl i).length=n):
  Calls Try.prog 68 #[.agg #[.slice A0 M.length c0, .slice A1 Q.length c1], .int .i64 s] w fun e w'=> ∃(g cap:Nat) (b cp:Nat→Nat),e= .returned (.slice (some ⟨g,0,none⟩) n cap)∧n≤cap∧Own w w' g n b cp (cM cl n):=by
 have HR0:=q_ hr0;have HC0:=q_ hc0;have HR1:=q_ hr1;have HC1:=q_ hc1;have HQ:=q_ hQ;have HP:=q_ hp;have HN:=q_ hn;have HCL:=q_ hcl;have HB:=q_ (Below.refl w.heap.size w);clear hr0 hc0 hr1 hc1 hp hn hcl;rw [hQ];clear hQ;have hn0:(0:Int)≤(n:Int):=by omega
 go_enter Try.func68,Try.ntmps68
 go_wp2_with (first | ((with_reducible refine gate_dst (N:=2) rfl ?_);refine be_ 2 #[.slice A0 M.length c0, .slice A1 n c1] 27 ?_;intro gb hg w6 hbox hb;replace HB:=q_ (below_step HB.out hb);have BK:=q_ hbox;clear hb hbox hg;have hcz0:=cz_ BK 0;have hcz1:=cz_ BK 1) | ((with_reducible refine gate_dst (N:=13) rfl ?_);refine Kd.S_make (Kd.slice 2 (Kd.int .i64)) w.heap.size 25 rfl (N:=13) rfl 24 _ _ rfl (n:Int) rfl rfl Try.underlying24 (.slice none 0 0) 24 info25 rfl (by decide) (by omega) [] (ok:=fun _=>True) (okp:=fun _=>True) ⟨_,rfl,Kd.R_nil _ _ _ _ _⟩ (fun _ hk=>hk) trivial hn0 (by have:=HN.out;omega) HB.out HB.out.size ?_;intro v13 w7 ho hb hg hat;have n0_:=q_ ho;have n1_:=q_ (blk_grown BK.out hg (by simp));have aa:=BK;clear HB BK hcz0 hcz1;have HS:=n0_;have BK:=n1_;have HB:=q_ hb;have HGN:Aside0 (∀k,v13.ownBlock=some k→gb < k):=⟨fun k hk=>by obtain⟨b_,hb_,hl_⟩:=hat;rw [hb_] at hk;injection hk with hk;have:=blk_lt aa.out;omega⟩;clear aa n0_ n1_ ho hb hg hat))
 obtain⟨g,cap,rfl,hcap,hpre⟩:=pre_of_S (by simpa using HS.out) HB.out HP.out;have HPRE:=q_ hpre;have HCAP:=q_ hcap;have HGB:Aside0 (gb < g):=⟨by have:=HGN.out g (by simp [Value.ownBlock]);omega⟩
 clear HS hcap hpre HGN;go_wp2
 go_loopg [16] n (fun gg v16 wr=> ∃(r:Nat) (b cp:Nat→Nat),r≤n∧n - r≤gg∧v16= .int .i64 (r:Int)∧Aside0 (Pre w wr g n r b cp)∧Aside0 (∀j,j < r→gb < b j)∧Aside0 (wr.heap[gb]?=some (.cells #[.slice A0 M.length c0, .slice A1 n c1] 27 (0,0))))
 case atStart=>exact⟨0,_,_,Nat.zero_le _,by omega,rfl,HPRE,⟨fun j hj=>by omega⟩,BK⟩
 case round=>
  clear HPRE BK HB;obtain⟨r,b,cp,hr,hg,rfl,HPRE,HGJ,BK⟩:=hrel;have HR:=q_ hr;have HG:=q_ hg
  by_cases hlt:r < n
  ·have hltz:(r:Int) < (n:Int):=by omega
   have h0z:(0:Int)≤(r:Int):=by omega
   have HLT:=q_ hlt;have hr1:IntKind.i64.wrap ((r:Int)+1)=((r+1:Nat):Int):=by rw [IntWalk.i64_in _ (by have:=HN.out;omega)];rfl
   have HR1:=q_ hr1;clear hlt hr hg
   go_wp2_with (first | ((with_reducible refine gate_dst (N:=22) rfl ?_);refine Kd.R_make (w0:=wr) (Kd.int .i64) wr.heap.size 2 rfl (N:=22) rfl 25 _ _ rfl (n:Int) rfl rfl Try.underlying25 (.int .i64 0) 8 info2 rfl (by decide) (by decide) 0 (ok:=fun _=>True) (okp:=fun _=>True) rfl (fun _ hk=>hk) trivial hn0 (by have:=HN.out;omega) (Below.refl _ _) (Nat.le_refl _) ?_;intro v22 w8 ho hb hg2 hat;obtain⟨bn,cn,rfl,hbn1,hbn2,cells,hbc⟩:=Kd.R_form ho (by have:=HP.out;simp;omega);simp only [Int.toNat_natCast,List.length_replicate] at ho ⊢;have HADD:=q_ (HPRE.out.add HLT.out hb ho);have hcg:=(((HPRE.out.step (Nat.le_of_lt HLT.out) hb).rest r HLT.out).1);have hfr:=(((HPRE.out.step (Nat.le_of_lt HLT.out) hb).rest r HLT.out).2);obtain⟨vg,hcg⟩:=hcg;have HBN:Aside0 (wr.heap.size≤bn):=⟨hbn1⟩;have n1_:=q_ (blk_below BK.out hb);have HGBW:=q_ (blk_lt BK.out);clear BK HPRE;have BK:=n1_;clear n1_ ho hb hg2 hat hbn1 hbn2 hbc))
   go_roundg (n - (r+1))
   case measure=>have:=HG.out;have:=HLT.out;omega
   case rel=>
    refine⟨r+1,_,_,by have:=HLT.out;omega,by omega,by first | rfl | (rw [HR1.out]) | (simp [HR1.out]),HADD,⟨fun j hj=>?_⟩,⟨?_⟩⟩
    ·show gb < if j=r then bn else b j
     split
     ·have:=HBN.out;have:=HGBW.out;omega
     ·exact HGJ.out j (by omega)
    ·exact(Below.heap_setCell _ _ _ gb (by have:=HGB.out;simp;omega)).trans BK.out
  ·have hltz: ¬ (r:Int) < (n:Int):=by omega
   obtain rfl:r=n:=by omega
   have HO:=q_ (HPRE.out.full);have HO:=q_ (HO.out.congr (M':=cM cl 0) (fun a d _ _=>by simp [cM]));clear HPRE hr hg;go_wp2
   go_loopg [26] r (fun gg v26 w4=> ∃i:Nat,i≤r∧r - i≤gg∧v26= .int .i64 (i:Int)∧Aside0 (Own w w4 g r b cp (cM cl i))∧Aside0 (w4.heap[gb]?=some (.cells #[.slice A0 M.length c0, .slice A1 r c1] 27 (0,0))))
   case atStart=>exact⟨0,Nat.zero_le _,by omega,rfl,HO,BK⟩
   case round=>
    clear HO BK;obtain⟨i,hi,hg2,rfl,HO,BK⟩:=hrel;have HG2:=q_ hg2
    by_cases hin:i < r
    ·have hiz:(i:Int) < (r:Int):=by omega
     have h0i:(0:Int)≤(i:Int):=by omega
     have HIN:=q_ hin;have hi1:IntKind.i64.wrap ((i:Int)+1)=((i+1:Nat):Int):=by rw [IntWalk.i64_in _ (by have:=HN.out;omega)];rfl
     have HI1:=q_ hi1;obtain⟨th,hth,hcol,hclen⟩:=HCL.out i hin;have HTH:=q_ hth;have HCOLF:=q_ hcol;have HCLEN:=q_ hclen;replace HO:=q_ (HO.out.step (below_drew (Below.refl wr.heap.size wr)));replace BK:=q_ (blk_drew BK.out);have hcz0:wr.drew.cell? ⟨gb,0,none⟩=some (.slice A0 M.length c0):=(blk_cell BK.out 0).trans rfl;have hcz1:wr.drew.cell? ⟨gb,1,none⟩=some (.slice A1 r c1):=(blk_cell BK.out 1).trans rfl;go_wp2
     refine st_ (n:=9) (S:=fun w'=>w'.cell? ⟨gb,0,none⟩=some (.slice A0 M.length c0)∧w'.cell? ⟨gb,1,none⟩=some (.slice A1 r c1)) (ds:= []) ⟨hcz0,hcz1⟩ (fun hHeld=>?_)
     generalize wr.drew=w9 at HO BK hcz0 hcz1 hHeld ⊢
     refine p2_ 0 29 1 30 ?_;refine tk_ 2 31 ?_;refine p3_ 3 32 4 33 5 34 ?_
     refine on_ 6 (some 35) (fun K hK=>?_)
     refine goes_ Try.func73 (by kernel_rfl) rfl #[.int .i64 s, .int .i64 (i:Int)] (by rfl) rfl rfl (by(try simp only [List.map_toArray,List.map_cons,List.map_nil]);first | done | rfl) ?_
     refine(impl_has.calls s (i:Int) th _ HTH.out).mono ?_
     rintro e w5 ⟨rfl,hd5⟩;refine⟨_,rfl,?_⟩
     replace HO:=q_ (HO.out.step hd5.below);replace BK:=q_ (blk_below BK.out hd5.below);clear hd5 hHeld hcz0 hcz1;refine hK.out _ _ ⟨(blk_cell BK.out 0).trans rfl,(blk_cell BK.out 1).trans rfl⟩ (fun hHeld=>?_)
     clear hK K;refine norm_ (a':=?_) ?_ ?_
     rotate_left
     ·show Act.put _ (some 35) _=_
      simp only [Act.put,List.setIfInBounds_toArray,List.set_cons_zero,List.set_cons_succ,i64_w,i32_w]
      rfl
     refine on_ 7 (some 36) (fun K hK=>?_)
     refine goes_ Try.func87 (by kernel_rfl) rfl #[.agg #[.slice A0 M.length c0, .slice A1 r c1], .int .i64 (i:Int), .bool th] (by rfl) rfl rfl (by(try simp only [List.map_toArray,List.map_cons,List.map_nil]);first | done | rfl) ?_
     have hcc:=impl_Problem_column.calls k A0 c0 M A1 c1 Q (i:Int) th (cl i) w5 (Kd.C_below HR0.out HO.out.below) HC0.out (Kd.C_below HR1.out HO.out.below) HC1.out HCOLF.out;rw [HQ.out] at hcc;refine hcc.mono ?_
     clear hcc;rintro e w6' ⟨vc,rfl,hRc,hb6⟩;obtain⟨Ac,cc,rfl⟩:=Kd.R_slice hRc;refine⟨_,rfl,?_⟩
     have HRC:=q_ hRc;have HBL:Aside0 (∀j,j < r→b j < w5.heap.size):=⟨fun j hj=>lt_of_cell (HO.out.ob j i hj HIN.out).1⟩
     replace HO:=q_ (HO.out.step hb6);replace BK:=q_ (blk_below BK.out hb6);clear hb6 hHeld hRc;refine hK.out _ _ ⟨(blk_cell BK.out 0).trans rfl,(blk_cell BK.out 1).trans rfl⟩ (fun hHeld=>?_)
     clear hK K;refine norm_ (a':=?_) ?_ ?_
     rotate_left
     ·show Act.put _ (some 36) _=_
      simp only [Act.put,List.setIfInBounds_toArray,List.set_cons_zero,List.set_cons_succ,i64_w,i32_w]
      rfl
     refine on_ 8 (some 37) (fun K hK=>?_)
     refine goes_ Try.func86 (by kernel_rfl) rfl #[.slice (some ⟨g,0,none⟩) r cap, .int .i64 (i:Int), .slice Ac (cl i).length cc] (by rfl) rfl rfl (by(try simp only [List.map_toArray,List.map_cons,List.map_nil]);first | done | rfl) ?_
     refine(putO (w0:=w) i HIN.out cap Ac cc (cl i) HO.out HN.out (by rw [HCLEN.out];exact Nat.le_refl _) (fun W hK hB=>R_keptC HRC.out hK HBL.out)).mono ?_
     rintro e w7' ⟨rfl,hO7,hK7⟩;refine⟨_,rfl,?_⟩
     replace HO:=q_ (hO7.congr (M':=cM cl (i+1)) (fun a d ha _=>cM_next cl i r a d ha));replace BK:=q_ (blk_kept BK.out hK7 (fun⟨j,hj,e⟩=>by have:=HGJ.out j hj;omega));clear hK7 hO7 hHeld;refine hK.out _ _ ⟨(blk_cell BK.out 0).trans rfl,(blk_cell BK.out 1).trans rfl⟩ (fun hHeld=>?_)
     clear hK K;refine norm_ (a':=?_) ?_ ?_
     rotate_left
     ·show Act.put _ (some 37) _=_
      simp only [Act.put,List.setIfInBounds_toArray,List.set_cons_zero,List.set_cons_succ,i64_w,i32_w]
      rfl
     refine done_ (by kernel_rfl) ?_
     go_wp2
     go_roundg (r - (i+1))
     case measure=>have:=HG2.out;have:=HIN.out;omega
     case rel=>exact⟨i+1,by have:=HIN.out;omega,by omega,by first | rfl | (rw [HI1.out]) | (simp [HI1.out]),HO,BK⟩
    ·have hiz: ¬ (i:Int) < (r:Int):=by omega
     obtain rfl:i=r:=by omega
     go_wp2
     go_ret
     exact⟨g,cap,rfl,HCAP.out,b,cp,HO.out⟩
end Go.Proofs.Ytbjljcpngbhkeaa.Hd
end
section
namespace Go.Proofs.Ytbjljcpngbhkeaa.Hd
open Go.RowKit Wz.PrintWords Wz.PrintLast Wz.PrintMore Pr La Ma Hm Dt Bd Cp
def dO (n:Nat) (M:Mat):Int:=dgo n n 0 (en (rowsFrom M n 0)) 1 1
theorem rowsFrom_rows (M:Mat) (n i:Nat): ∀x ∈ rowsFrom M n i,x.length=n:=by
 intro x hx
 obtain⟨r,_,rfl⟩:=List.mem_map.1 hx
 simp
section
variable {w0 w w1:World} {g n cap:Nat} {b cp:Nat→Nat} {M:Mat}
theorem Own.low (h:Own w1 w g n b cp M) (hB:Below w0.heap.size w0 w1):Own w0 w g n b cp M:=
 ⟨Below.trans hB (h.below.mono hB.size),Nat.le_trans hB.size h.gb,fun j hj=>Nat.le_trans hB.size (h.bb j hj),h.inj,h.ne,h.cap,h.og,h.ob⟩
theorem Own.far (h:Own w0 w g n b cp M) {p:Addr} (hp:w0.heap.size≤p.block) (h1:p.block≠g) (h2: ∀j,j < n→b j≠p.block) (v:Value):Own w0 (w.setCell p v) g n b cp M:=
  ⟨h.below.setCell hp v,h.gb,h.bb,h.inj,h.ne,h.cap,
   fun j hj=>⟨by rw [cset_other (by intro e;exact h1 (congrArg Addr.block e))];exact(h.og j hj).1,by rw [fset];exact(h.og j hj).2⟩,
   fun j c hj hc=>⟨by rw [cset_other (by intro e;exact h2 j hj (congrArg Addr.block e).symm)];exact(h.ob j c hj hc).1,by rw [fset];exact(h.ob j c hj hc).2⟩⟩
theorem det_own (h:Own w0 w g n b cp M) (hcap:n≤cap) (hp:0 < n) (hn:n≤1000):
  Calls Try.prog 67 #[.slice (some ⟨g,0,none⟩) n cap] w fun e w'=>e= .returned (.int .i64 (dO n M))∧Below w.heap.size w w':=
 det_calls n (dO n M) (some ⟨g,0,none⟩) cap (rowsFrom M n 0) w (h.C 0 (by omega)) (by rw [rowsFrom_len];omega) (by rw [rowsFrom_len];omega) hp hn (fun x hx=>by rw [rowsFrom_rows M n 0 x hx,rowsFrom_len];omega) rfl
theorem copy_own (h:Own w0 w g n b cp M) (hcap:n≤cap) (hp:0 < n) (hn:n≤1000):
  Calls Try.prog 83 #[.slice (some ⟨g,0,none⟩) n cap] w fun e w'=> ∃(g2 cap2:Nat) (b2 cp2:Nat→Nat),e= .returned (.slice (some ⟨g2,0,none⟩) n cap2)∧n≤cap2∧Own w w' g2 n b2 cp2 (en (rowsFrom M n 0)):=by
 have hl:(rowsFrom M n 0).length=n:=by rw [rowsFrom_len];omega
 obtain⟨k,hk⟩:=evk (copy_eq (rowsFrom M n 0) (by omega) (fun x hx=>by rw [rowsFrom_rows M n 0 x hx];omega))
 have hc:=impl_copyRows.calls k (some ⟨g,0,none⟩) cap (rowsFrom M n 0) (rowsFrom M n 0) w (h.C 0 (by omega)) (by omega) hk
 rw [hl] at hc
 refine hc.mono ?_
 rintro e w' ⟨v,rfl,hS,hB⟩
 obtain⟨g2,cap2,b2,cp2,rfl,h1,h2⟩:=own_of_S (w0:=w) hS hB (by omega) (fun x hx=>by rw [rowsFrom_rows M n 0 x hx,hl])
 rw [hl] at h1 h2 ⊢
 exact⟨g2,cap2,b2,cp2,rfl,h1,h2⟩
end
def sl (n:Nat) (C:Mat) (right:List Int) (sg:Int) (i:Nat):Int:=wrap64 (sg*dO n (pcol (en (rowsFrom C n 0)) i right n))
def slL (n:Nat) (C:Mat) (right:List Int) (sg:Int) (i:Nat):List Int:=(List.range n).map fun u=>if u < i then sl n C right sg u else 0
theorem slL_zero (n:Nat) (C:Mat) (right:List Int) (sg:Int):List.replicate n (0:Int)=slL n C right sg 0:=by
 apply List.ext_getElem
 ·simp [slL]
 ·intro k h1 h2;simp [slL]
theorem slL_next (n:Nat) (C:Mat) (right:List Int) (sg:Int) (i:Nat) (h:i < n):(slL n C right sg i).set i (sl n C right sg i)=slL n C right sg (i+1):=by
 apply List.ext_getElem
 ·simp [slL]
 ·intro k h1 h2
  have hk:k < n:=by simpa [slL] using h2
  rw [List.getElem_set]
  simp only [slL,List.getElem_map,List.getElem_range]
  by_cases e:i=k
  ·subst e;rw [if_pos rfl,if_pos (by omega)]
  ·rw [if_neg e]
   by_cases c:k < i
   ·rw [if_pos c,if_pos (by omega)]
   ·rw [if_neg c,if_neg (by omega)]
theorem solve_calls (k n:Nat) (s D sg sz:Int) (cl:Nat→List Int) (A0:Option Addr) (c0:Nat) (M:List (List Int)) (A1:Option Addr) (c1:Nat) (Q:List Int) (A2:Option Addr) (c2:Nat) (right:List Int) (w:World) (hr0:Kd.C (Kd.slice 2 (Kd.int .i64)) w A0 M.length M) (hc0:M.length≤c0) (hr1:Kd.C (Kd.int .i64) w A1 Q.length Q) (hc1:Q.length≤c1) (hr2:Kd.C (Kd.int .i64) w A2 right.length right) (hc2:right.length≤c2) (hQ:Q.length=n) (hright:right.length=n) (hp:0 < n) (hn:n≤1000)
  (hcl: ∀i,i < n→ ∃t,impl_has.f s (i:Int)=some t∧impl_Problem_column.f k M Q (i:Int) t=some (cl i)∧(cl i).length=n)
  (hD:dO n (cM cl n)=D) (hsg:impl_sign.f D=some sg) (hsz:impl_size.f D=some sz):
  Calls Try.prog 93 #[.agg #[.slice A0 M.length c0, .slice A1 Q.length c1], .int .i64 s, .slice A2 right.length c2] w fun e w'=> ∃v0_:Value,e= .returned (if D=0 then .tuple #[v0_, .int .i64 0, .bool false] else .tuple #[v0_, .int .i64 sz, .bool true])∧Kd.R (Kd.int .i64) 2 w' w.heap.size (fun _=>True) v0_ (if D=0 then [] else slL n (cM cl n) right sg n)∧Below w.heap.size w w':=by
 have HR0:=q_ hr0;have HC0:=q_ hc0;have HR1:=q_ hr1;have HC1:=q_ hc1;have HR2:=q_ hr2;have HC2:=q_ hc2;have HQ:=q_ hQ;have HRI:=q_ hright;have HP:=q_ hp;have HN:=q_ hn;have HCL:=q_ hcl;have HD:=q_ hD;have HSG:=q_ hsg;have HSZ:=q_ hsz;have HB:=q_ (Below.refl w.heap.size w);clear hr0 hc0 hr1 hc1 hr2 hc2 hp hn hcl hD hsg hsz hQ;rw [hright];clear hright;have hn0:(0:Int)≤(n:Int):=by omega
 go_enter Try.func93,Try.ntmps93
 go_wp2_with (first | ((with_reducible refine gate_dst (N:=3) rfl ?_);refine be_ 3 #[.slice A0 M.length c0, .slice A1 Q.length c1] 27 ?_;intro gb hg w6 hbox hb;replace HB:=q_ (below_step HB.out hb);have BK:=q_ hbox;clear hb hbox hg;have hcz0:=cz_ BK 0;have hcz1:=cz_ BK 1))
 refine(columns_calls k n s cl A0 c0 M A1 c1 Q w6 (Kd.C_below HR0.out HB.out) HC0.out (Kd.C_below HR1.out HB.out) HC1.out HQ.out HP.out HN.out HCL.out).mono ?_
 rintro e w7 ⟨g,cap,b,cp,rfl,hcap,hO⟩;have n0_:=q_ (hO.low HB.out);have HCAP:=q_ hcap;clear hcz0 hcz1 BK HB hO hcap;have HO:=n0_;clear n0_
 go_wp2_with fail
 refine(det_own HO.out HCAP.out HP.out HN.out).mono ?_
 rintro e w8 ⟨rfl,hb⟩;rw [HD.out];replace HO:=q_ (HO.out.step hb);clear hb
 by_cases d0:D=0
 ·subst d0;go_wp2
  refine bodyPost_ret (results_list (rs:= [.tmp 6, .tmp 7, .tmp 8]) rfl (by simp) (.tmp (.tmp (.tmp .nil)))) rfl ?_
  exact⟨_,rfl,Kd.R_nil _ _ _ _ _,HO.out.below⟩
 ·have hd0:(D==0)=false:=by simpa using d0
  have D0:=q_ d0
  go_wp2_with (first | ((with_reducible refine gate_dst (N:=23) rfl ?_);refine Kd.R_make (w0:=w8) (Kd.int .i64) w8.heap.size 2 rfl (N:=23) rfl 25 _ _ rfl (n:Int) rfl rfl Try.underlying25 (.int .i64 0) 8 info2 rfl (by decide) (by decide) 0 (ok:=fun _=>True) (okp:=fun _=>True) rfl (fun _ hk=>hk) trivial hn0 (by have:=HN.out;omega) (Below.refl _ _) (Nat.le_refl _) ?_;intro v23 w9 ho hb hg2 hat;obtain⟨go,co,rfl,hgo1,hgo2,cells,hgoc⟩:=Kd.R_form ho (by have:=HP.out;simp;omega);simp only [Int.toNat_natCast,List.length_replicate] at ho ⊢;rw [slL_zero n (cM cl n) right sg] at ho;have HGO:Aside0 (w8.heap.size≤go):=⟨hgo1⟩;have HGL:=q_ (HO.out.og 0 HP.out).1;have HBL:=q_ (fun j (hj:j < n)=>(HO.out.ob j 0 hj HP.out).1);have n0_:=q_ (HO.out.step hb);have HRO:=q_ (Kd.R_lower ho HO.out.below.size);clear HO;have HO:=n0_;clear n0_ ho hb hg2 hat hgo1 hgo2 hgoc))
  have HSEP:Aside0 (w.heap.size≤go∧go≠g∧ ∀j,j < n→b j≠go):=⟨by
   have h1:=HGO.out;have h2:=lt_of_cell HGL.out;have h3:=HO.out.gb;refine⟨?_,?_,fun j hj=>?_⟩
   ·simp only at h2;omega
   ·simp only at h2;omega
   ·have h4:=lt_of_cell (HBL.out j hj);simp only at h4;omega⟩
  clear HGO HGL HBL
  go_loopg [26] n (fun gg v26 wr=> ∃i:Nat,i≤n∧n - i≤gg∧v26= .int .i64 (i:Int)∧Aside0 (Own w wr g n b cp (cM cl n))∧Aside0 (Kd.R (Kd.int .i64) 2 wr w.heap.size (fun _=>True) (.slice (some ⟨go,0,none⟩) n co) (slL n (cM cl n) right sg i)))
  case atStart=>exact⟨0,Nat.zero_le _,by omega,rfl,HO,HRO⟩
  case round=>
   clear HO HRO;obtain⟨i,hi,hg,rfl,HO,HRO⟩:=hrel;have HG:=q_ hg
   by_cases hlt:i < n
   ·have hltz:(i:Int) < (n:Int):=by omega
    have h0z:(0:Int)≤(i:Int):=by omega
    have HLT:=q_ hlt;have hi1:IntKind.i64.wrap ((i:Int)+1)=((i+1:Nat):Int):=by rw [IntWalk.i64_in _ (by have:=HN.out;omega)];rfl
    have HI1:=q_ hi1;clear hlt hi hg
    go_wp2_with fail
    refine(copy_own HO.out HCAP.out HP.out HN.out).mono ?_
    rintro e w10 ⟨g2,cap2,b2,cp2,rfl,hcap2,hO2⟩;have HCAP2:=q_ hcap2;have ae:=q_ hO2;clear hcap2 hO2
    go_wp2_with fail
    have hpc:=putO (w0:=wr) i HLT.out cap2 A2 c2 right ae.out HN.out (by rw [HRI.out];exact Nat.le_refl _) (fun W hK hB=>Kd.C_below HR2.out (Below.trans HO.out.below (hB.mono HO.out.below.size)));rw [HRI.out] at hpc;refine hpc.mono ?_
    clear hpc;rintro e w11 ⟨rfl,hO3,hK3⟩;have aa:=q_ hO3;clear hO3 hK3 ae
    go_wp2_with fail
    refine(impl_sign.calls D sg _ HSG.out).mono ?_
    rintro e w12 ⟨rfl,hd12⟩;replace aa:=q_ (aa.out.step hd12.below);clear hd12
    go_wp2_with fail
    refine(det_own aa.out HCAP2.out HP.out HN.out).mono ?_
    rintro e w13 ⟨rfl,hb13⟩;have hB13:Below wr.heap.size wr w13:=Below.trans aa.out.below (hb13.mono aa.out.below.size);replace HO:=q_ (HO.out.step hB13);replace HRO:=q_ (Kd.R_below HRO.out hB13);clear aa hb13 hB13;have hat:=Kd.R_celln 0 HRO.out (i:Int) (by omega) hltz;rw [Int.toNat_natCast] at hat;have hcg:=hat.1;have hfg:=hat.2;clear hat;have hput:=Kd.R_putg HRO.out (i:Int) (sl n (cM cl n) right sg i);rw [Int.toNat_natCast,slL_next _ _ _ _ _ HLT.out] at hput;have HPUT:=q_ hput.1;have HFAR:=q_ (HO.out.far (p:=⟨go,i,none⟩) HSEP.out.1 HSEP.out.2.1 HSEP.out.2.2 (.int .i64 (sl n (cM cl n) right sg i)));clear hput;go_wp2
    go_roundg (n - (i+1))
    case measure=>have:=HG.out;have:=HLT.out;omega
    case rel=>exact⟨i+1,by have:=HLT.out;omega,by omega,by first | rfl | (rw [HI1.out]) | (simp [HI1.out]),HFAR,HPUT⟩
   ·have hltz: ¬ (i:Int) < (n:Int):=by omega
    obtain rfl:i=n:=by omega
    go_wp2_with fail
    refine(impl_size.calls D sz _ HSZ.out).mono ?_
    rintro e w14 ⟨rfl,hb⟩;have n0_:=q_ (HO.out.step hb);have n1_:=q_ (Kd.R_below HRO.out hb);clear HO HRO hb;go_wp2
    refine bodyPost_ret (results_list (rs:= [.tmp 6, .tmp 7, .tmp 8]) rfl (by simp) (.tmp (.tmp (.tmp .nil)))) rfl ?_
    refine⟨.slice (some ⟨go,0,none⟩) i co,?_,?_,n0_.out.below⟩
    ·rfl
    ·exact n1_.out
end Go.Proofs.Ytbjljcpngbhkeaa.Hd
end
section
namespace Go.Proofs.Ytbjljcpngbhkeaa.Pr
open Go.RowKit Wz.PrintWords Wz.PrintLast Wz.PrintMore La Ma Hm Dt Hd
def colF (k:Nat) (M:List (List Int)) (Q:List Int) (s:Int) (i:Nat):Option (List Int):=(impl_has.f s (i:Int)).bind fun t=>impl_Problem_column.f k M Q (i:Int) t
def colOK (k:Nat) (M:List (List Int)) (Q:List Int) (s:Int) (n:Nat):Bool:=(List.range n).all fun i=>match colF k M Q s i with
 | some c=>c.length==n
 | none=>false
def colL (k:Nat) (M:List (List Int)) (Q:List Int) (s:Int) (i:Nat):List Int:=(colF k M Q s i).getD []
def impl_Problem_solve.f (k:Nat) (ae:List (List Int)) (aa:List Int) (a1:Int) (l2:List Int):Option (List Int × Int × Bool):=
 if 0 < aa.length∧aa.length≤1000∧l2.length=aa.length∧colOK k ae aa a1 aa.length=true then
  (impl_sign.f (dO aa.length (cM (colL k ae aa a1) aa.length))).bind fun sg=>(impl_size.f (dO aa.length (cM (colL k ae aa a1) aa.length))).bind fun sz=>
   some (if dO aa.length (cM (colL k ae aa a1) aa.length)=0 then([],0,false) else(slL aa.length (cM (colL k ae aa a1) aa.length) l2 sg aa.length,sz,true))
 else none
theorem impl_Problem_solve.calls (k:Nat) (af:Option Addr) (ag:Nat) (ae:List (List Int)) (ah:Option Addr) (ai:Nat) (aa:List Int) (a1:Int) (A2:Option Addr) (c2:Nat) (l2:List Int) (r1:List Int) (r2:Int) (r3:Bool) (w:World) (aj:Kd.C (Kd.slice 2 (Kd.int .i64)) w af ae.length ae) (ak:ae.length≤ag) (aq:Kd.C (Kd.int .i64) w ah aa.length aa) (au:aa.length≤ai) (hr2:Kd.C (Kd.int .i64) w A2 l2.length l2) (hc2:l2.length≤c2) (h:impl_Problem_solve.f k ae aa a1 l2=some (r1,r2,r3)):
  Calls Try.prog 93 #[.agg #[.slice af ae.length ag, .slice ah aa.length ai], .int .i64 a1, .slice A2 l2.length c2] w fun e w'=> ∃v0_:Value,e= .returned (.tuple #[v0_, .int .i64 r2, .bool r3])∧Kd.R (Kd.int .i64) 2 w' w.heap.size (fun _=>True) v0_ r1∧Below w.heap.size w w':=by
 unfold impl_Problem_solve.f at h
 split at h
 case isFalse=>cases h
 rename_i hc
 obtain⟨h1,h2,h3,h4⟩:=hc;obtain⟨sg,hsg,h⟩:=Option.bind_eq_some_iff.mp h;obtain⟨sz,hsz,h⟩:=Option.bind_eq_some_iff.mp h;have h:=Option.some.inj h;have hcl: ∀i,i < aa.length→ ∃t,impl_has.f a1 (i:Int)=some t∧impl_Problem_column.f k ae aa (i:Int) t=some (colL k ae aa a1 i)∧(colL k ae aa a1 i).length=aa.length:=by
  intro i hi;unfold colOK at h4;rw [List.all_eq_true] at h4;have:=h4 i (List.mem_range.2 hi);unfold colL;cases hcf:colF k ae aa a1 i with
  | none=>rw [hcf] at this;cases this
  | some c=>
   rw [hcf] at this;obtain⟨t,ht1,ht2⟩:=Option.bind_eq_some_iff.mp hcf;exact⟨t,ht1,ht2,by simpa using this⟩
 have hs:=solve_calls k aa.length a1 (dO aa.length (cM (colL k ae aa a1) aa.length)) sg sz (colL k ae aa a1) af ag ae ah ai aa A2 c2 l2 w aj ak aq au hr2 hc2 rfl h3 h1 h2 hcl rfl hsg hsz
 by_cases d:dO aa.length (cM (colL k ae aa a1) aa.length)=0
 ·rw [if_pos d] at h;simp only [if_pos d] at hs;cases h
  exact hs
 ·rw [if_neg d] at h;simp only [if_neg d] at hs;cases h
  exact hs
end Go.Proofs.Ytbjljcpngbhkeaa.Pr
end
section
namespace Go.Proofs.Ytbjljcpngbhkeaa.Pr
open Go.RowKit Wz.PrintWords Wz.PrintLast Wz.PrintMore
attribute [local go_sem] max2_int min2_int max_two min_two max_three min_three max_four min_four
def impl_Problem_point.f (k:Nat) (af:List (List Int)) (ae:List Int) (a1:Int):Option (List Int × Int × Bool):=(impl_Problem_solve.f k af ae a1 ae).bind fun aa=>(some (aa.1,aa.2.1,aa.2.2))
theorem impl_Problem_point.calls (k:Nat) (aj:Option Addr) (ak:Nat) (ae:List (List Int)) (ag:Option Addr) (ah:Nat) (aa:List Int) (a1:Int) (r1:List Int) (r2:Int) (r3:Bool) (w:World) (au:Kd.C (Kd.slice 2 (Kd.int .i64)) w aj ae.length ae) (av:ae.length≤ak) (aw:Kd.C (Kd.int .i64) w ag aa.length aa) (ax:aa.length≤ah) (h:impl_Problem_point.f k ae aa a1=some (r1,r2,r3)):
  Calls Try.prog 79 #[.agg #[.slice aj ae.length ak, .slice ag aa.length ah], .int .i64 a1] w fun e w'=> ∃v0_:Value,e= .returned (.tuple #[v0_, .int .i64 r2, .bool r3])∧Kd.R (Kd.int .i64) 2 w' w.heap.size (fun _=>True) v0_ r1∧Below w.heap.size w w':=by
 have hu27:=Try.underlying27;have HR0_0:=q_ au;have HC0_0:=q_ av;clear au av;have HR0_1:=q_ aw;have HC0_1:=q_ ax;clear aw ax;have HB:=q_ (Below.refl w.heap.size w);have H:((impl_Problem_solve.f k ae aa a1 aa).bind fun aq=>(some (aq.1,aq.2.1,aq.2.2)))=some (r1,r2,r3):=h;clear h;replace H:=Option.bind_eq_some_iff.mp H;obtain⟨⟨ay,az,aA⟩,A30,H⟩:=H;replace H:(some (ay,az,aA))=some (r1,r2,r3):=H;have A3:=q_ A30;clear A30;simp only [Option.some.injEq,Prod.mk.injEq] at H;obtain⟨rfl,rfl,rfl⟩:=H
 go_enter Try.func79,Try.ntmps79
 go_wp2_with (first | ((with_reducible refine gate_dst (N:=2) rfl ?_);refine be_ 2 #[.slice aj ae.length ak, .slice ag aa.length ah] 27 ?_;intro ai hg w4 hbox hb;have af:=q_ (hbox);have aU:=gz_ w hg;have aV:=gz_ w hg;replace HB:=Bs_ hb;clear hb hbox hg;obtain⟨aM,aN,aQ,aT⟩:=c2_ af) | ((with_reducible refine gate_callee (f:=93) rfl ?_);refine gL_ 11 Try.func93 #[.agg #[.slice aj ae.length ak, .slice ag aa.length ah], .int .i64 a1, .slice ag aa.length ah] ?_;(with_reducible refine(impl_Problem_solve.calls k _ _ ae _ _ aa a1 _ _ aa ay az aA _ ?aC ?aD ?aG ?aH ?aI ?aJ A3.out).mono ?_);(case aC=>exact cb_ HR0_0.out HB.out);(case aD=>exact HC0_0.out);(case aG=>exact cb_ HR0_1.out HB.out);(case aH=>exact HC0_1.out);(case aI=>exact cb_ HR0_1.out HB.out);(case aJ=>exact HC0_1.out);rintro e w6 ⟨aW,rfl,ho0,hb⟩;refine⟨_,rfl,?_⟩;have aK:=q_ (Kd.R_lower ho0 bz_);replace af:=Bb_ af hb;replace HB:=Bs_ hb;(try clear hb);(try clear ho0)))
 go_ret3
 exact⟨_,ew_,ro_ aK.out,hb_⟩
end Go.Proofs.Ytbjljcpngbhkeaa.Pr
end
section
namespace Go.Proofs.Ytbjljcpngbhkeaa.Pr
open Go.RowKit Wz.PrintWords Wz.PrintLast Wz.PrintMore Ma
theorem mcode1 (gb n:Nat) (A:Option Addr) (c:Nat) (s:Int) (b:Bool) (w:World) (hs:impl_isSet.f s (n:Int)=some b) (hb:w.cell? ⟨gb,0,none⟩=some (.slice A n c)):
  Calls Try.prog 80 (#[.int .i64 s]++ #[.pointer (some ⟨gb,0,none⟩)]) w fun e w'=>e= .returned (.bool (!b))∧Below w.heap.size w w':=by
 have HS:=q_ hs
 show Calls Try.prog 80 #[.int .i64 s, .pointer (some ⟨gb,0,none⟩)] w _
 clear hs
 go_enter Try.func80,Try.ntmps80
 go_wp2_with fail
 refine(impl_isSet.calls s (n:Int) b _ HS.out).mono ?_
 rintro e w' ⟨rfl,⟨nd,rfl⟩⟩;go_wp2
 go_ret
 refine⟨by simp,pw_below_drewN (Below.refl _ _) _⟩
theorem mcode1_enters: ∀args w,(callFunc 80 args).run Try.prog w= .ok (.enter 80 args) w:=enters_fn Try.func80 (by kernel_rfl) rfl
theorem mcode_calls (A0:Option Addr) (c0:Nat) (l0:List (List Int)) (A1:Option Addr) (c1:Nat) (s:Int) (w:World) (hr0:Kd.C (Kd.slice 2 (Kd.int .i64)) w A0 l0.length l0) (hc0:l0.length≤c0) (hr1:Kd.C (Kd.int .i64) w A1 1 [s]) (hc1:1≤c1) (hm:impl_IsMatrix.f l0=some true) (hs:impl_isSet.f s (l0.length:Int)=some true):
  Calls Try.prog 60 #[.slice A0 l0.length c0, .slice A1 1 c1] w fun e w'=>e= .returned (.int .i64 0)∧Below w.heap.size w w':=by
 have HR0:=q_ hr0;have HC0:=q_ hc0;have HR1:=q_ hr1;have HM:=q_ hm;have HS:=q_ hs;have HB:=q_ (Below.refl w.heap.size w);clear hr0 hc0 hr1 hc1 hm hs
 go_enter Try.func60,Try.ntmps60
 go_wp2_with (first | ((with_reducible refine gate_dst (N:=2) rfl ?_);refine be_ 2 #[.slice A0 l0.length c0] 24 ?_;intro gb hg w6 hbox hb;replace HB:=q_ (below_step HB.out hb);have BK:=q_ hbox;clear hb hbox hg;have hcz0:=cz_ BK 0))
 refine(impl_IsMatrix.calls A0 c0 l0 true w6 (Kd.C_below HR0.out HB.out) HC0.out HM.out).mono ?_
 rintro e w7 ⟨rfl,hb7⟩;replace HB:=q_ (below_step HB.out hb7);replace BK:=q_ (blk_below BK.out hb7);clear hcz0;have hcall:=fun W (hW:Below w7.heap.size w7 W)=>containsFuncInts (fun _=>false) 80 #[.pointer (some ⟨gb,0,none⟩)] mcode1_enters A1 c1 [s] W (Kd.C_below (Kd.C_below HR1.out HB.out) hW)
  (fun W' x hx hb=>by
   rw [List.mem_singleton] at hx;subst hx;exact mcode1 gb l0.length A0 c0 x true W' HS.out ((blk_cell (blk_below (blk_below BK.out hW) hb) 0).trans rfl))
 have HCALL:=q_ hcall;clear hcall
 go_wp2_with fail
 refine(HCALL.out _ (Below.refl _ _)).mono ?_
 rintro e w8 ⟨rfl,hb8⟩;replace HB:=q_ (below_step HB.out hb8);clear BK HCALL;have hany: [s].any (fun _=>false)=false:=rfl;rw [hany];go_wp2
 go_ret
 exact⟨rfl,HB.out⟩
theorem minorOf_c (k:Nat) (A0:Option Addr) (c0:Nat) (l0:List (List Int)) (s r:Int) (w:World) (hr0:Kd.C (Kd.slice 2 (Kd.int .i64)) w A0 l0.length l0) (hc0:l0.length≤c0) (hm:impl_IsMatrix.f l0=some true) (hs:impl_isSet.f s (l0.length:Int)=some true) (h:impl_minor.f k l0 s=some r):
  Calls Try.prog 19 #[.slice A0 l0.length c0, .int .i64 s] w fun e w'=>e= .returned (.tuple #[.int .i64 r, .int .i64 0])∧Below w.heap.size w w':=by
 have HR0:=q_ hr0;have HC0:=q_ hc0;have HM:=q_ hm;have HS:=q_ hs;have HH:=q_ h;have HB:=q_ (Below.refl w.heap.size w);clear hr0 hc0 hm hs h
 go_enter Try.func19,Try.ntmps19
 go_wp2_with (first | ((with_reducible refine gate_dst (N:=9) rfl ?_);refine Kd.R_lit (Kd.int .i64) _ 2 ?hg (N:=9) ?hd (xs:=([s]:List Int)) (inner:= [.int .i64 s]) (ok:=fun _=>True) (okp:=fun _=>True) ?hr ?hp (fun _ hk=>hk) trivial (Below.refl _ _) (Nat.le_refl _) (by simp) ?_;(case hd=>rfl);(case hg=>rfl);(case hr=>first | (go_simp;done) | (go_simp;rfl));(case hp=>exact(Reps.one (show Kd.M (Kd.int .i64) _ _ _ s [.int .i64 s] from rfl) (Reps.none _ _)));intro v9 w9 ho hb hg_ hnew_;clear hg_ hnew_;have HO:=q_ ho;replace HB:=q_ (below_step HB.out hb);clear hb ho))
 obtain⟨A9,c9,e9⟩:=Kd.R_slice HO.out;subst e9;refine(mcode_calls A0 c0 l0 A9 c9 s w9 (Kd.C_below HR0.out HB.out) HC0.out (Kd.R_reads' HO.out).2.2 (Kd.R_reads' HO.out).2.1 HM.out HS.out).mono ?_
 rintro e w10 ⟨rfl,hb⟩;replace HB:=q_ (below_step HB.out hb);clear HO hb
 go_wp2_with fail
 refine(impl_minor.calls k A0 c0 l0 s r w10 (Kd.C_below HR0.out HB.out) HC0.out HH.out).mono ?_
 rintro e w11 ⟨rfl,hb⟩;go_wp2
 refine bodyPost_ret (results_list (rs:= [.tmp 4, .tmp 5]) rfl (by simp) (.tmp (.tmp .nil))) rfl ?_
 exact⟨rfl,below_step HB.out hb⟩
def baL (ok:Nat→Bool):Nat→List Int
 | 0=> []
 | m+1=>if ok m=true then baL ok m++ [(m:Int)] else baL ok m
theorem baL_succ (ok:Nat→Bool) (m:Nat):baL ok (m+1)=if ok m=true then baL ok m++ [(m:Int)] else baL ok m:=rfl
theorem baL_len (ok:Nat→Bool): ∀m,(baL ok m).length≤m
 | 0=>by simp [baL]
 | m+1=>by
  have:=baL_len ok m
  unfold baL
  split
  ·simp;omega
  ·omega
theorem basic_enters: ∀args w,(callFunc 59 args).run Try.prog w= .ok (.enter 59 args) w:=enters_fn Try.func59 (by kernel_rfl) rfl
theorem basic1 (A:Option Addr) (c n:Nat) (w:World):
  Calls Try.prog 59 #[.slice A n c] w fun e w'=>e= .returned (.bool true)∧Below w.heap.size w w':=by
 go_enter Try.func59,Try.ntmps59
 go_wp2
 go_ret
 exact⟨rfl,Below.refl _ _⟩
theorem bsets_calls (m:Nat) (ok:Nat→Bool) (A0:Option Addr) (c0:Nat) (M:List (List Int)) (A1:Option Addr) (c1:Nat) (Q:List Int) (w:World) (hr0:Kd.C (Kd.slice 2 (Kd.int .i64)) w A0 M.length M) (hc0:M.length≤c0) (hr1:Kd.C (Kd.int .i64) w A1 Q.length Q) (hc1:Q.length≤c1) (hm:m≤1000) (hp:impl_IsProblem.f M Q=some true) (ha:impl_Problem_all.f M Q=some (m:Int)) (hpt: ∀s:Nat,s < m→ ∃(k:Nat) (pt:List Int) (den:Int),impl_Problem_point.f k M Q (s:Int)=some (pt,den,ok s)):
  Calls Try.prog 58 #[.agg #[.slice A0 M.length c0, .slice A1 Q.length c1], .func (.func 59) #[] #[]] w fun e w'=> ∃v0_:Value,e= .returned (.tuple #[v0_, .int .i64 0])∧Kd.R (Kd.int .i64) 2 w' w.heap.size (fun _=>True) v0_ (baL ok m)∧Below w.heap.size w w':=by
 have HM:=q_ hm;have HBX:Aside0 (∀W:World,W=w.alloc (Obj.cells #[Value.slice A0 M.length c0,Value.slice A1 Q.length c1] 27)→Aside0 (W.heap[w.heap.size]?=some (.cells #[.slice A0 M.length c0, .slice A1 Q.length c1] 27 (0,0)))∧Aside0 (Below w.heap.size w W)):=⟨by
  rintro W rfl;exact⟨⟨by show (w.heap.push _)[w.heap.size]?=_;simp⟩,⟨(Below.refl _ _).alloc (Nat.le_refl _) _⟩⟩⟩
 have HR:=q_ (fun(W:World) (hW:Below w.heap.size w W)=>(⟨Kd.C_below hr0 hW,Kd.C_below hr1 hW⟩:Kd.C (Kd.slice 2 (Kd.int .i64)) W A0 M.length M∧Kd.C (Kd.int .i64) W A1 Q.length Q));have HP1:=q_ (fun(W:World) (hW:Below w.heap.size w W)=>impl_IsProblem.calls A0 c0 M A1 c1 Q true W (Kd.C_below hr0 hW) hc0 (Kd.C_below hr1 hW) hc1 hp);have HAL:=q_ (fun(W:World) (hW:Below w.heap.size w W)=>impl_Problem_all.calls A0 c0 M A1 c1 Q (m:Int) W (Kd.C_below hr0 hW) hc0 (Kd.C_below hr1 hW) hc1 ha);have HPT:=q_ (fun(W:World) (hW:Below w.heap.size w W) (s:Nat) (hs:s < m)=>(by
  obtain⟨k,pt,den,h⟩:=hpt s hs;exact⟨pt,den,impl_Problem_point.calls k A0 c0 M A1 c1 Q (s:Int) pt den (ok s) W (Kd.C_below hr0 hW) hc0 (Kd.C_below hr1 hW) hc1 h⟩: ∃(pt:List Int) (den:Int),Calls Try.prog 79 #[.agg #[.slice A0 M.length c0, .slice A1 Q.length c1], .int .i64 (s:Int)] W fun e w'=> ∃v0_:Value,e= .returned (.tuple #[v0_, .int .i64 den, .bool (ok s)])∧Kd.R (Kd.int .i64) 2 w' W.heap.size (fun _=>True) v0_ pt∧Below W.heap.size W w'))
 clear hr0 hc0 hr1 hc1 hm hp ha hpt HR
 generalize M.length=ml at HBX HP1 HAL HPT ⊢
 generalize Q.length=ql at HBX HP1 HAL HPT ⊢
 go_enter Try.func58,Try.ntmps58
 go_wp2_with fail
 generalize hW1:w.alloc _=w1
 obtain⟨HC,HB⟩:=HBX.out w1 hW1.symm;clear hW1 HBX;refine(HP1.out w1 HB.out).mono ?_
 rintro e w2 ⟨rfl,hb⟩;replace HC:=Bb_ HC hb;replace HB:=q_ (below_step HB.out hb);have hx0:=cz_ HC 0;have hx1:=cz_ HC 1;clear hb HP1
 go_wp2_with fail
 refine(HAL.out w2 HB.out).mono ?_
 rintro e w3 ⟨rfl,hb⟩;replace HC:=Bb_ HC hb;replace HB:=q_ (below_step HB.out hb);clear hb hx0 hx1 HAL;have HRL:Aside0 (Kd.R (Kd.int .i64) 2 w3 w.heap.size (fun k=>k≠w.heap.size) (.slice none 0 0) (baL ok 0)):=⟨Kd.R_nil _ _ _ _ _⟩
 go_wp2
 go_loopg [6,16] m (fun gg v6 v16 wr=> ∃s:Nat,s≤m∧m - s≤gg∧v16= .int .i64 (s:Int)∧Aside0 (Kd.R (Kd.int .i64) 2 wr w.heap.size (fun k=>k≠w.heap.size) v6 (baL ok s))∧Aside0 (wr.heap[w.heap.size]?=some (.cells #[.slice A0 ml c0, .slice A1 ql c1] 27 (0,0)))∧Aside0 (Below w.heap.size w wr))
 case atStart=>exact⟨0,Nat.zero_le _,by omega,rfl,HRL,HC,HB⟩
 case round=>
  clear HRL HC HB;obtain⟨s,hs,hg,rfl,HRL,HC,HB⟩:=hrel;obtain⟨A6,c6,e6⟩:=Kd.R_slice HRL.out;subst e6
  by_cases hlt:s < m
  ·have hltz:(s:Int) < (m:Int):=by omega
   have hw:wrap64 ((s:Int)+1)=((s+1:Nat):Int):=by rw [w64 (by omega) (by have:=HM.out;omega)];rfl
   have hx0:=cz_ HC 0;have hx1:=cz_ HC 1;obtain⟨pt,den,hcall⟩:=HPT.out wr HB.out s hlt;have HG:=q_ hg;have HLT:=q_ hlt;have HW:=q_ hw;have HCALL:=q_ hcall;have ef:=basic_enters;clear hs hg hlt hw hcall
   go_wp2_with fail
   refine HCALL.out.mono ?_
   rintro e w5 ⟨v8,rfl,ho,hb⟩;obtain⟨A8,c8,e8⟩:=Kd.R_slice ho;subst e8;replace HC:=Bb_ HC hb;replace HB:=q_ (below_step HB.out hb);replace HRL:=q_ (Kd.R_below HRL.out hb);have HO:=q_ (Kd.R_reads' ho).2;clear ho hb hx0 hx1 HCALL
   by_cases hok:ok s=true
   ·rw [hok];have HOK:=q_ hok;clear hok
    go_wp2_with fail
    refine(basic1 A8 c8 pt.length w5).mono ?_
    rintro e w6 ⟨rfl,hb⟩;replace HC:=Bb_ HC hb;replace HB:=q_ (below_step HB.out hb);replace HRL:=q_ (Kd.R_below HRL.out hb);clear hb HO;have HFL:=q_ (baL_len ok s);obtain⟨L,hL⟩: ∃L,(baL ok s).length=L:=⟨_,rfl⟩
    rw [hL];have HL:=q_ hL;clear hL
    go_wp2_with (first | ((with_reducible refine gate_builtin (b:= .append) (xs:= #[.tmp 32, .tmp 34]) rfl ?_);at_builtin;refine Kd.R_append (Kd.int .i64) (w0:=w) w.heap.size rfl (.tmp 32) (.tmp 34) 25 2 (.int .i64 0) 8 rfl Try.underlying25 info2 rfl (by decide) (by omega) (.slice A6 L c6) (baL ok s) (s:Int) [.int .i64 (s:Int)] (fun k=>k≠w.heap.size) (fun _=>False) rfl rfl rfl (fun _ hk=>hk.elim) (fun k hk e=>(by have h1:=blk_lt HC.out;omega)) (by have h:=HRL.out;rw [HL.out] at h;exact h) HB.out HB.out.size ?aL ?_;(case aL=>have:=HFL.out;have:=HM.out;have:=HLT.out;omega);intro v35 w7 ho hb hg_ hat;have HC7:=q_ (blk_grown HC.out hg_ (fun e=>HRL.out.1 w.heap.size (show Value.ownBlock (.slice A6 (baL ok s).length c6)=some w.heap.size from (by rw [HL.out];exact e.symm)) rfl));replace HRL:=q_ ho;replace HB:=q_ hb;clear ho hb hg_ hat))
    go_roundg (m - (s+1))
    case measure=>have:=HG.out;have:=HLT.out;omega
    case rel=>exact⟨s+1,HLT.out,by omega,by first | rfl | exact congrArg (Value.int .i64) HW.out,⟨by rw [baL_succ,if_pos HOK.out];exact HRL.out⟩,HC7,HB⟩
   ·have hbf:ok s=false:=by simpa using hok
    rw [hbf];have HOK:=q_ hok;clear hok hbf HO;go_wp2
    go_roundg (m - (s+1))
    case measure=>have:=HG.out;have:=HLT.out;omega
    case rel=>exact⟨s+1,HLT.out,by omega,by first | rfl | exact congrArg (Value.int .i64) HW.out,⟨by rw [baL_succ,if_neg HOK.out];exact HRL.out⟩,HC,HB⟩
  ·have hltz: ¬ (s:Int) < (m:Int):=by omega
   obtain rfl:s=m:=by omega
   clear hs hg hlt;go_wp2
   go_ret2
   exact⟨_,rfl,Kd.R_mono HRL.out (fun _ _=>trivial),HB.out⟩
theorem basic_calls (m:Nat) (ok:Nat→Bool) (A0:Option Addr) (c0:Nat) (M:List (List Int)) (A1:Option Addr) (c1:Nat) (Q:List Int) (w:World) (hr0:Kd.C (Kd.slice 2 (Kd.int .i64)) w A0 M.length M) (hc0:M.length≤c0) (hr1:Kd.C (Kd.int .i64) w A1 Q.length Q) (hc1:Q.length≤c1) (hm:m≤1000) (hp:impl_IsProblem.f M Q=some true) (ha:impl_Problem_all.f M Q=some (m:Int)) (hpt: ∀s:Nat,s < m→ ∃(k:Nat) (pt:List Int) (den:Int),impl_Problem_point.f k M Q (s:Int)=some (pt,den,ok s)):
  Calls Try.prog 17 #[.agg #[.slice A0 M.length c0, .slice A1 Q.length c1]] w fun e w'=> ∃v0_:Value,e= .returned (.tuple #[v0_, .int .i64 0])∧Kd.R (Kd.int .i64) 2 w' w.heap.size (fun _=>True) v0_ (baL ok m)∧Below w.heap.size w w':=by
 have HS:=q_ (fun(W:World) (hW:Below w.heap.size w W)=>bsets_calls m ok A0 c0 M A1 c1 Q W (Kd.C_below hr0 hW) hc0 (Kd.C_below hr1 hW) hc1 hm hp ha hpt);clear hr0 hc0 hr1 hc1 hm hp ha hpt
 generalize M.length=ml at HS ⊢
 generalize Q.length=ql at HS ⊢
 go_enter Try.func17,Try.ntmps17
 go_wp2_with fail
 refine(HS.out _ ((Below.refl _ _).alloc (Nat.le_refl _) _)).mono ?_
 rintro e w2 ⟨v,rfl,ho,hb⟩;go_wp2
 go_ret2
 exact⟨_,rfl,Kd.R_lower ho (by simp),below_step ((Below.refl _ _).alloc (Nat.le_refl _) _) hb⟩
end Go.Proofs.Ytbjljcpngbhkeaa.Pr
end
section
namespace Go.Proofs.Ytbjljcpngbhkeaa.Hput
open Go.RowKit Wz.PrintWords Wz.PrintLast Wz.PrintMore Pr La Ma Hm
section
variable {w0:World} {ok:Nat→Prop}
theorem put_row {g cap:Nat} {w:World} {l:List (List Int)} (hB:Below w0.heap.size w0 w) (h:SS w0 w ok (.slice (some ⟨g,0,none⟩) l.length cap) l) (j:Nat) (hj:j < l.length) (i:Nat) (hi:i < l[j].length):
  ∃(b cj:Nat),w.cell? ⟨g,j,none⟩=some (.slice (some ⟨b,0,none⟩) l[j].length cj)∧w.cell? ⟨b,i,none⟩=some (.int .i64 (l[j].getD i 0))∧w.frozen? ⟨b,i,none⟩=false∧
   ∀x:Int,SS w0 (w.setCell ⟨b,i,none⟩ (.int .i64 x)) ok (.slice (some ⟨g,0,none⟩) l.length cap) (l.set j (l[j].set i x))∧Below w0.heap.size w0 (w.setCell ⟨b,i,none⟩ (.int .i64 x))∧Kept w (w.setCell ⟨b,i,none⟩ (.int .i64 x)) ok:=by
 obtain⟨oki,c,hcl,hM,hcc,hoki,hback⟩:=Kd.S_borrow h [] (j:Int) (by omega) (by omega)
 rw [Int.toNat_natCast,List.getD_eq_getElem?_getD,List.getElem?_eq_getElem hj] at hM
 obtain⟨u,rfl,hR⟩:=hM
 have hR2:Kd.R (Kd.int .i64) 2 w w0.heap.size oki u l[j]:=hR
 obtain⟨b,cj,rfl,hb1,hb2,cells,hbc⟩:=Kd.R_form hR2 (by omega)
 have e:(⟨g,0,none⟩:Addr).add ((j:Int).toNat*(Kd.slice 2 (Kd.int .i64)).sz+0)=⟨g,j,none⟩:=by
  show (⟨g,0,none⟩:Addr).add ((j:Int).toNat*1+0)=⟨g,j,none⟩
  rw [Int.toNat_natCast,Nat.mul_one,Nat.add_zero]
  unfold Addr.add;split <;> simp_all
 have hcellg:w.cell? ⟨g,j,none⟩=some (.slice (some ⟨b,0,none⟩) l[j].length cj):=by
  have:=hcc 0 _ rfl
  rwa [e] at this
 have hat:=Kd.R_celln 0 hR2 (i:Int) (by omega) (by omega)
 rw [Int.toNat_natCast] at hat
 have hown:oki b:=hR2.1 b (by simp [Value.ownBlock])
 refine⟨b,cj,hcellg,by simpa [rdOf] using hat.1,hat.2,fun x=>?_⟩
 have hput:=Kd.R_putg hR2 (i:Int) x
 rw [Int.toNat_natCast] at hput
 have hS:=hback hput.2 (fun k hk=>by injection hk with hk;subst hk;exact hown) (x':=l[j].set i x) ⟨_,rfl,(show Kd.R (Kd.int .i64) 2 _ _ _ _ _ from hput.1)⟩
 rw [Int.toNat_natCast] at hS
 refine⟨hS,hB.setCell hb1 _,?_⟩
 exact(Kept.refl w ok).setCell (.inl (hoki b hown).1) _
end
end Go.Proofs.Ytbjljcpngbhkeaa.Hput
end
section
namespace Go.Proofs.Ytbjljcpngbhkeaa.Lw
open Go.RowKit Wz.PrintWords Wz.PrintLast Wz.PrintMore Pr Ma
structure Frm (w w':World) (a b:Nat):Prop where
 size:w.heap.size≤w'.heap.size
 same: ∀k,k < w.heap.size→k < a∨b≤k→w'.heap[k]?=w.heap[k]?
theorem Frm.below {w w':World} (h:Below w.heap.size w w'):Frm w w' 0 0:=⟨h.size,fun k hk _=>h.block k hk⟩
theorem Frm.set (w:World) (g i:Nat) (u:Value):Frm w (w.setCell ⟨g,i,none⟩ u) g (g+1):=
 ⟨by simp,fun k _ hk=>Below.heap_setCell w ⟨g,i,none⟩ u k (by simp;omega)⟩
theorem Frm.trans {w w1 w2:World} {a b:Nat} (h:Frm w w1 a b) (k:Frm w1 w2 a b):Frm w w2 a b:=
 ⟨Nat.le_trans h.size k.size,fun i hi hn=>(k.same i (Nat.lt_of_lt_of_le hi h.size) hn).trans (h.same i hi hn)⟩
theorem Frm.kept {w w':World} {ok:Nat→Prop} {a b:Nat} (h:Kept w w' ok) (hok: ∀k,ok k→a≤k∧k < b):Frm w w' a b:=
 ⟨h.1,fun k hk hn=>h.2 k hk (fun ho=>by have:=hok k ho;omega)⟩
section
variable {α:Type} {d:Kd α} {e lo hi a b:Nat} {w0 w w':World} {v v1:Value} {xs:List α}
def UR (d:Kd α) (e:Nat) (w0 w:World) (lo hi:Nat) (v:Value) (xs:List α):Prop:=d.R e w w0.heap.size (fun k=>lo≤k∧k < hi) v xs
def US (d:Kd α) (e:Nat) (w0 w:World) (lo hi:Nat) (v:Value) (xs:List α):Prop:=d.S e w w0.heap.size (fun k=>lo≤k∧k < hi) v xs
theorem UR.mv (h:UR d e w0 w lo hi v xs) (F:Frm w w' a b) (hd:hi≤a∨b≤lo):UR d e w0 w' lo hi v xs:=Kd.R_step h (fun k hk hlt=>F.same k hlt (by omega))
theorem US.mv (h:US d e w0 w lo hi v xs) (F:Frm w w' a b) (hd:hi≤a∨b≤lo):US d e w0 w' lo hi v xs:=Kd.S_step h (fun k hk hlt=>F.same k hlt (by omega))
theorem UR.mvB (h:UR d e w0 w lo hi v xs) (F:Frm w w' 0 0):UR d e w0 w' lo hi v xs:=h.mv F (.inr (Nat.zero_le _))
theorem US.mvB (h:US d e w0 w lo hi v xs) (F:Frm w w' 0 0):US d e w0 w' lo hi v xs:=h.mv F (.inr (Nat.zero_le _))
theorem UR.of {ok:Nat→Prop} (h:d.R e w' w.heap.size ok v xs) (hb:w0.heap.size≤w.heap.size):UR d e w0 w' w.heap.size w'.heap.size v xs:=
 Kd.R_lower (Kd.R_mono (Kd.R_bound h) (fun k hk=>⟨hk.2.1,hk.2.2.1⟩)) hb
theorem US.of {ok:Nat→Prop} (h:d.S e w' w.heap.size ok v xs) (hb:w0.heap.size≤w.heap.size):US d e w0 w' w.heap.size w'.heap.size v xs:=
 Kd.S_lower (Kd.S_mono (Kd.S_bound h) (fun k hk=>⟨hk.2.1,hk.2.2.1⟩)) hb
theorem UR.C {A:Option Addr} {n c:Nat} (h:UR d e w0 w lo hi (.slice A n c) xs):d.C w A xs.length xs:=(Kd.R_reads' h).2.2
theorem UR.len {A:Option Addr} {n c:Nat} (h:UR d e w0 w lo hi (.slice A n c) xs):n=xs.length:=(Kd.R_reads' h).1
theorem UR.cap {A:Option Addr} {n c:Nat} (h:UR d e w0 w lo hi (.slice A n c) xs):xs.length≤c:=(Kd.R_reads' h).1 ▸ (Kd.R_reads' h).2.1
theorem US.C {A:Option Addr} {n c:Nat} (h:US d e w0 w lo hi (.slice A n c) xs):d.C w A xs.length xs:=(Kd.S_reads' h).2.2
theorem US.cap {A:Option Addr} {n c:Nat} (h:US d e w0 w lo hi (.slice A n c) xs):xs.length≤c:=(Kd.S_reads' h).1 ▸ (Kd.S_reads' h).2.1
end
structure UP (w0 w:World) (lo hi:Nat) (v0 v1:Value) (M:List (List Int)) (Q:List Int):Prop where
 m:Kd.S (Kd.slice 2 (Kd.int .i64)) 25 w w0.heap.size (fun k=>(lo≤k∧k < hi)∧some k≠v1.ownBlock) v0 M
 q:Kd.R (Kd.int .i64) 2 w w0.heap.size (fun k=>lo≤k∧k < hi) v1 Q
section
variable {lo hi a b:Nat} {w0 w w':World} {v0 v1:Value} {M:List (List Int)} {Q:List Int}
theorem UP.mv (h:UP w0 w lo hi v0 v1 M Q) (F:Frm w w' a b) (hd:hi≤a∨b≤lo):UP w0 w' lo hi v0 v1 M Q:=
 ⟨Kd.S_step h.m (fun k hk hlt=>F.same k hlt (by have:=hk.1;omega)),Kd.R_step h.q (fun k hk hlt=>F.same k hlt (by omega))⟩
theorem UP.mvB (h:UP w0 w lo hi v0 v1 M Q) (F:Frm w w' 0 0):UP w0 w' lo hi v0 v1 M Q:=h.mv F (.inr (Nat.zero_le _))
theorem UP.of {ok:Nat→Prop} (h:Kd.S (Kd.slice 2 (Kd.int .i64)) 25 w' w.heap.size (fun k=>some k≠v1.ownBlock) v0 M) (h':Kd.R (Kd.int .i64) 2 w' w.heap.size ok v1 Q) (hb:w0.heap.size≤w.heap.size):UP w0 w' w.heap.size w'.heap.size v0 v1 M Q:=
 ⟨Kd.S_lower (Kd.S_mono (Kd.S_bound h) (fun k hk=>⟨⟨hk.2.1,hk.2.2.1⟩,hk.1⟩)) hb,UR.of h' hb⟩
theorem UP.slices (h:UP w0 w lo hi v0 v1 M Q): ∃A0 c0 A1 c1,v0= .slice A0 M.length c0∧v1= .slice A1 Q.length c1:=by
 obtain⟨A0,c0,e0⟩:=Kd.S_slice h.m
 obtain⟨A1,c1,e1⟩:=Kd.R_slice h.q
 exact⟨A0,c0,A1,c1,e0,e1⟩
variable {A0 A1:Option Addr} {n0 c0 n1 c1:Nat}
theorem UP.C0 (h:UP w0 w lo hi (.slice A0 n0 c0) v1 M Q):Kd.C (Kd.slice 2 (Kd.int .i64)) w A0 M.length M:=(Kd.S_reads' h.m).2.2
theorem UP.C1 (h:UP w0 w lo hi v0 (.slice A1 n1 c1) M Q):Kd.C (Kd.int .i64) w A1 Q.length Q:=(Kd.R_reads' h.q).2.2
theorem UP.cap0 (h:UP w0 w lo hi (.slice A0 n0 c0) v1 M Q):M.length≤c0:=(Kd.S_reads' h.m).1 ▸ (Kd.S_reads' h.m).2.1
theorem UP.cap1 (h:UP w0 w lo hi v0 (.slice A1 n1 c1) M Q):Q.length≤c1:=(Kd.R_reads' h.q).1 ▸ (Kd.R_reads' h.q).2.1
end
end Go.Proofs.Ytbjljcpngbhkeaa.Lw
end
section
namespace Go.Proofs.Ytbjljcpngbhkeaa.Pv
open Go.RowKit Wz.PrintWords Wz.PrintLast Wz.PrintMore Pr Ma Lw Hput Dt
open Hd (en lt_of_cell)
def pE (l:List (List Int)) (cs:Nat→List Int) (k i r c:Nat):Int:=if c < k∨c=k∧r < i then wrap64 (-(cs c).getD r 0) else en l r c
def pR (l:List (List Int)) (cs:Nat→List Int) (n k i:Nat):List (List Int):=(List.range n).map fun r=>(List.range n).map (pE l cs k i r)
theorem pR_len (l:List (List Int)) (cs:Nat→List Int) (n k i:Nat):(pR l cs n k i).length=n:=by simp [pR]
theorem pR_row (l:List (List Int)) (cs:Nat→List Int) (n k i r:Nat) (h:r < (pR l cs n k i).length):(pR l cs n k i)[r]=(List.range n).map (pE l cs k i r):=by simp [pR]
theorem pR_set (l:List (List Int)) (cs:Nat→List Int) (n k i:Nat) (hi:i < n) (hk:k < n):(pR l cs n k i).set i (((List.range n).map (pE l cs k i i)).set k (wrap64 (-(cs k).getD i 0)))=pR l cs n k (i+1):=by
 apply List.ext_getElem
 ·simp [pR]
 ·intro r h1 h2
  have hr:r < n:=by simpa [pR] using h2
  rw [List.getElem_set]
  simp only [pR,List.getElem_map,List.getElem_range]
  by_cases e:i=r
  ·subst e
   rw [if_pos rfl]
   apply List.ext_getElem
   ·simp
   ·intro c h3 h4
    have hc:c < n:=by simpa using h4
    rw [List.getElem_set]
    simp only [List.getElem_map,List.getElem_range,pE]
    by_cases q:k=c
    ·subst q;rw [if_pos rfl,if_pos (by omega)]
    ·rw [if_neg q]
     by_cases z:c < k
     ·rw [if_pos (.inl z),if_pos (.inl z)]
     ·rw [if_neg (by omega),if_neg (by omega)]
  ·rw [if_neg e]
   refine List.map_congr_left (fun c _=>?_)
   unfold pE
   by_cases z:c < k∨c=k∧r < i
   ·rw [if_pos z,if_pos (by omega)]
   ·rw [if_neg z,if_neg (by omega)]
theorem pR_col (l:List (List Int)) (cs:Nat→List Int) (n k:Nat):pR l cs n k n=pR l cs n (k+1) 0:=by
 unfold pR
 refine List.map_congr_left (fun r hr=>List.map_congr_left (fun c _=>?_))
 have hr:=List.mem_range.1 hr
 unfold pE
 by_cases z:c < k∨c=k∧r < n
 ·rw [if_pos z,if_pos (by omega)]
 ·rw [if_neg z,if_neg (by omega)]
theorem pR_zero (l:List (List Int)) (cs:Nat→List Int) (n:Nat) (hl:l.length=n) (hr: ∀x ∈ l,x.length=n):pR l cs n 0 0=l:=by
 apply List.ext_getElem
 ·simp [pR,hl]
 ·intro r h1 h2
  have hrow:=hr l[r] (List.getElem_mem h2)
  simp only [pR,List.getElem_map,List.getElem_range]
  apply List.ext_getElem
  ·simp [hrow]
  ·intro c h3 h4
   simp only [List.getElem_map,List.getElem_range,pE]
   rw [if_neg (by omega)]
   unfold en
   simp [h2,h4]
theorem pivot_none (k:Nat) (s:Int) (side:List Int) (den:Int) (A0:Option Addr) (c0:Nat) (M:List (List Int)) (A1:Option Addr) (c1:Nat) (Q:List Int) (w:World) (hr0:Kd.C (Kd.slice 2 (Kd.int .i64)) w A0 M.length M) (hc0:M.length≤c0) (hr1:Kd.C (Kd.int .i64) w A1 Q.length Q) (hc1:Q.length≤c1) (hpt:impl_Problem_point.f k M Q s=some (side,den,false)):
  Calls Try.prog 72 #[.agg #[.slice A0 M.length c0, .slice A1 Q.length c1], .int .i64 s] w fun e w'=>e= .returned (.tuple #[.agg #[.int .i64 0, .slice none 0 0, .slice none 0 0], .bool false])∧Below w.heap.size w w':=by
 have HR0:=q_ hr0;have HC0:=q_ hc0;have HR1:=q_ hr1;have HC1:=q_ hc1;have HPT:=q_ hpt;have HB:=q_ (Below.refl w.heap.size w);clear hr0 hc0 hr1 hc1 hpt
 go_enter Try.func72,Try.ntmps72
 go_wp2_with (first | ((with_reducible refine gate_dst (N:=2) rfl ?_);refine be_ 2 #[.slice A0 M.length c0, .slice A1 Q.length c1] 27 ?_;intro gb hg w6 hbox hb;replace HB:=q_ (below_step HB.out hb);have BK:=q_ hbox;clear hb hbox hg) | ((with_reducible refine gate_dst (N:=4) rfl ?_);refine be_ 4 #[.int .i64 0, .slice none 0 0, .slice none 0 0] 49 ?_;intro g4 hg w7 hbox hb;have n0_:=q_ (below_step HB.out hb);have n1_:=q_ (blk_below BK.out hb);have n2_:=q_ hbox;have G4:Aside0 (w.heap.size≤g4):=⟨by have:=HB.out.size;omega⟩;clear HB BK;have HB:=n0_;have BK:=n1_;have B4:=n2_;clear n0_ n1_ n2_ hb hbox hg;have hcz0:=cz_ BK 0;have hcz1:=cz_ BK 1))
 refine(impl_Problem_point.calls k A0 c0 M A1 c1 Q s side den false _ (Kd.C_below HR0.out HB.out) HC0.out (Kd.C_below HR1.out HB.out) HC1.out HPT.out).mono ?_
 rintro e w8 ⟨v,rfl,hR,hb⟩;replace HB:=q_ (below_step HB.out hb);replace B4:=q_ (blk_below B4.out hb);clear BK hcz0 hcz1 hb hR;have hs0:=cz_ B4 0;have hsf0:=blk_frozen B4.out 0;have hs1:=cz_ B4 1;have hsf1:=blk_frozen B4.out 1;have hs2:=cz_ B4 2;have hsf2:=blk_frozen B4.out 2
 go_wp2_with (first | ((with_reducible refine gate_store (t:=49) (p:=4) rfl ?_);refine store_event (t:=49) (p:=4) (v:=?vo) (w1:=(((w8.setCell ⟨g4,0,none⟩ (.int .i64 0)).setCell ⟨g4,1,none⟩ (.slice none 0 0)).setCell ⟨g4,2,none⟩ (.slice none 0 0))) ?hg ?ho ?hn ?hr ?_;(case ho=>rfl);(case hg=>rfl);(case hn=>rfl);(case hr=>first | (go_simp;done) | (go_simp;rfl));intro w9 hw;have nb:=q_ (show w9.heap[g4]?=some (.cells #[.int .i64 0, .slice none 0 0, .slice none 0 0] 49 (0,0)) from (by rw [hw];exact(blk_put (blk_put (blk_put B4.out 0 _ rfl) 1 _ rfl) 2 _ rfl)));have nB:=q_ (show Below w.heap.size w w9 from (by rw [hw];exact below_set (below_set (below_set HB.out G4.out) G4.out) G4.out));clear hw HB B4;have HB:=nB;have B4:=nb;clear nB nb))
 refine bodyPost_ret (results_list (rs:= [.cell 4 49, .tmp 5]) rfl (by simp) (.cell g4 49 #[.int .i64 0, .slice none 0 0, .slice none 0 0] (0,0) _ rfl B4.out Try.underlying49 rfl (by kernel_rfl) (.tmp .nil))) rfl ?_
 exact⟨rfl,HB.out⟩
theorem pivot_calls (k n:Nat) (s:Int) (side:List Int) (den:Int) (ck cs:Nat→List Int) (d2:Nat→Int) (o2:Nat→Bool) (k2:Nat) (A0:Option Addr) (c0:Nat) (M:List (List Int)) (A1:Option Addr) (c1:Nat) (Q:List Int) (w:World) (hr0:Kd.C (Kd.slice 2 (Kd.int .i64)) w A0 M.length M) (hc0:M.length≤c0) (hr1:Kd.C (Kd.int .i64) w A1 Q.length Q) (hc1:Q.length≤c1) (hM:M.length=n) (hMr: ∀x ∈ M,x.length=n) (hQ:Q.length=n) (hp:0 < n) (hn:n≤1000) (hpt:impl_Problem_point.f k M Q s=some (side,den,true)) (hsl:side.length=n) (hcp:impl_copyRows.f k2 M=some M)
  (hcol: ∀j,j < n→ ∃t,impl_has.f s (j:Int)=some t∧impl_Problem_column.f k M Q (j:Int) (!t)=some (ck j)∧impl_Problem_solve.f k M Q s (ck j)=some (cs j,d2 j,o2 j)∧(cs j).length=n):
  Calls Try.prog 72 #[.agg #[.slice A0 M.length c0, .slice A1 Q.length c1], .int .i64 s] w fun e w'=> ∃v0_ v1_:Value,e= .returned (.tuple #[.agg #[.int .i64 den,v0_,v1_], .bool true])∧Kd.S (Kd.slice 2 (Kd.int .i64)) 25 w' w.heap.size (fun k_=>some k_≠(v1_:Value).ownBlock) v0_ (pR M cs n n 0)∧Kd.R (Kd.int .i64) 2 w' w.heap.size (fun _=>True) v1_ side∧Below w.heap.size w w':=by
 have HR0:=q_ hr0;have HC0:=q_ hc0;have HR1:=q_ hr1;have HC1:=q_ hc1;have HM0:=q_ hM;have HMR:=q_ hMr;have HQ:=q_ hQ;have HP:=q_ hp;have HN:=q_ hn;have HPT:=q_ hpt;have HSL:=q_ hsl;have HCP:=q_ hcp;have HCOL:=q_ hcol;have HB:=q_ (Below.refl w.heap.size w);have hqz:(Q.length:Int)=(n:Int):=by omega
 clear hr0 hc0 hr1 hc1 hpt hM hMr hQ hp hn hsl hcp hcol
 go_enter Try.func72,Try.ntmps72
 go_wp2_with (first | ((with_reducible refine gate_dst (N:=2) rfl ?_);refine be_ 2 #[.slice A0 M.length c0, .slice A1 Q.length c1] 27 ?_;intro gb hg w6 hbox hb;replace HB:=q_ (below_step HB.out hb);have BK:=q_ hbox;clear hb hbox hg) | ((with_reducible refine gate_dst (N:=4) rfl ?_);refine be_ 4 #[.int .i64 0, .slice none 0 0, .slice none 0 0] 49 ?_;intro g4 hg w7 hbox hb;have n0_:=q_ (below_step HB.out hb);have n1_:=q_ (blk_below BK.out hb);have n2_:=q_ hbox;have G4:Aside0 (w.heap.size≤g4):=⟨by have:=HB.out.size;omega⟩;clear HB BK;have HB:=n0_;have BK:=n1_;have B4:=n2_;clear n0_ n1_ n2_ hb hbox hg;have hcz0:=cz_ BK 0;have hcz1:=cz_ BK 1))
 have G4S:=q_ (blk_lt B4.out);refine(impl_Problem_point.calls k A0 c0 M A1 c1 Q s side den true _ (Kd.C_below HR0.out HB.out) HC0.out (Kd.C_below HR1.out HB.out) HC1.out HPT.out).mono ?_
 rintro e w8 ⟨v,rfl,hR,hb⟩;obtain⟨As,cS,rfl⟩:=Kd.R_slice hR;have HS:=q_ (UR.of hR HB.out.size)
 generalize hslo:w7.heap.size=slo at HS G4S
 have n0_:=q_ (below_step HB.out hb);have n1_:=q_ (blk_below B4.out hb);have n2_:=q_ (blk_below BK.out hb);have G4L:=q_ (blk_lt n1_.out);have GBL:=q_ (blk_lt n2_.out);clear HB B4 BK hcz0 hcz1 hb hR;have HB:=n0_;have B4:=n1_;have BK:=n2_;clear n0_ n1_ n2_;rw [HSL.out] at HS ⊢;have hcz0:=cz_ BK 0;have hcz1:=cz_ BK 1
 go_wp2_with fail
 refine(impl_copyRows.calls k2 A0 c0 M M w8 (Kd.C_below HR0.out HB.out) HC0.out HCP.out).mono ?_
 rintro e w9 ⟨v9,rfl,hS9,hb⟩;obtain⟨g,cap,rfl,hg1,hg2,cells9,hgc9⟩:=Kd.S_form hS9 (by rw [HM0.out];exact HP.out);have HM:=q_ (US.of hS9 HB.out.size);rw [HM0.out] at HM;rw [HM0.out];have HLH:=q_ hb.size;replace HB:=q_ (below_step HB.out hb);replace B4:=q_ (blk_below B4.out hb);replace BK:=q_ (blk_below BK.out hb);replace HS:=q_ (HS.out.mvB (Frm.below hb));clear hcz0 hcz1 hb hS9 hg1 hg2 hgc9;have HHI:=q_ (Nat.le_refl w9.heap.size)
 generalize hlo:w8.heap.size=lo at*
 generalize hhi:w9.heap.size=hi at HM HLH HHI
 have HHI2:Aside0 (hi=w9.heap.size):=⟨hhi.symm⟩
 clear hlo hhi HHI
 go_wp2_with (first | ((with_reducible refine gate_dst (N:=9) rfl ?_);refine be_ 9 #[.int .i64 0, .slice none 0 0, .slice none 0 0] 49 ?_;intro g9 hg w10 hbox hb;have n0_:=q_ (below_step HB.out hb);have n1_:=q_ (blk_below B4.out hb);have n2_:=q_ (blk_below BK.out hb);have n3_:=q_ (HS.out.mvB (Frm.below hb));have n4_:=q_ (HM.out.mvB (Frm.below hb));have B9:=q_ hbox;have hs0:=cz_ B9 0;have hsf0:=blk_frozen B9.out 0;have hs1:=cz_ B9 1;have hsf1:=blk_frozen B9.out 1;have hs2:=cz_ B9 2;have hsf2:=blk_frozen B9.out 2;have G9:Aside0 (w.heap.size≤g9):=⟨by have:=HB.out.size;omega⟩;have G9H:Aside0 (hi≤g9):=⟨by have:=HHI2.out;omega⟩;clear HB B4 BK HS HM;have HB:=n0_;have B4:=n1_;have BK:=n2_;have HS:=n3_;have HM:=n4_;clear n0_ n1_ n2_ n3_ n4_ hb hbox hg) | ((with_reducible refine gate_store (t:=49) (p:=9) rfl ?_);refine store_event (t:=49) (p:=9) (v:=?vo) (w1:=(((w10.setCell ⟨g9,0,none⟩ (.int .i64 den)).setCell ⟨g9,1,none⟩ (.slice (some ⟨g,0,none⟩) n cap)).setCell ⟨g9,2,none⟩ (.slice As n cS))) ?hg ?ho ?hn ?hr ?_;(case ho=>rfl);(case hg=>rfl);(case hn=>rfl);(case hr=>first | (go_simp;done) | (go_simp;rfl));intro w11 hw;have hF:Frm w10 w11 g9 (g9+1):=(by rw [hw];exact(Frm.set _ _ _ _).trans ((Frm.set _ _ _ _).trans (Frm.set _ _ _ _)));have nb:=q_ (show w11.heap[g9]?=some (.cells #[.int .i64 den, .slice (some ⟨g,0,none⟩) n cap, .slice As n cS] 49 (0,0)) from (by rw [hw];exact(blk_put (blk_put (blk_put B9.out 0 _ rfl) 1 _ rfl) 2 _ rfl)));have nB:=q_ (show Below w.heap.size w w11 from (by rw [hw];exact below_set (below_set (below_set HB.out G9.out) G9.out) G9.out));clear hs0 hsf0 hs1 hsf1 hs2 hsf2;have n1_:=q_ ((hF.same g4 (blk_lt B4.out) (.inl (by have:=G4L.out;have:=HLH.out;have:=G9H.out;omega))).trans B4.out);have n2_:=q_ ((hF.same gb (blk_lt BK.out) (.inl (by have:=GBL.out;have:=HLH.out;have:=G9H.out;omega))).trans BK.out);have n3_:=q_ (HS.out.mv hF (.inl (by have:=HLH.out;have:=G9H.out;omega)));have n4_:=q_ (HM.out.mv hF (.inl G9H.out));clear B4 BK HS HM;have B4:=n1_;have BK:=n2_;have HS:=n3_;have HM:=n4_;clear n1_ n2_ n3_ n4_;have hcz1:=cz_ BK 1;clear hw HB B9 hF;have HB:=nB;have B9:=nb;clear nB nb))
 go_loopg [35] n (fun gg v35 wr=> ∃j:Nat,j≤n∧n - j≤gg∧v35= .int .i64 (j:Int)∧Aside0 (Below w.heap.size w wr)∧Aside0 (wr.heap[g4]?=some (.cells #[.int .i64 0, .slice none 0 0, .slice none 0 0] 49 (0,0)))∧Aside0 (wr.heap[gb]?=some (.cells #[.slice A0 M.length c0, .slice A1 Q.length c1] 27 (0,0)))∧Aside0 (wr.heap[g9]?=some (.cells #[.int .i64 den, .slice (some ⟨g,0,none⟩) n cap, .slice As n cS] 49 (0,0)))∧Aside0 (UR (Kd.int .i64) 2 w wr slo lo (.slice As n cS) side)∧Aside0 (US (Kd.slice 2 (Kd.int .i64)) 25 w wr lo hi (.slice (some ⟨g,0,none⟩) n cap) (pR M cs n j 0)))
 case atStart=>exact⟨0,Nat.zero_le _,by omega,rfl,HB,B4,BK,B9,HS,⟨by rw [pR_zero M cs n HM0.out HMR.out];exact HM.out⟩⟩
 case round=>
  clear HB B4 BK B9 HS HM hcz1;obtain⟨j,hj,hgg,rfl,HB,B4,BK,B9,HS,HM⟩:=hrel;have HG:=q_ hgg
  by_cases hjn:j < n
  ·have hjz:(j:Int) < (Q.length:Int):=by omega
   have h0j:(0:Int)≤(j:Int):=by omega
   have HJ:=q_ hjn;have hj1:IntKind.i64.wrap ((j:Int)+1)=((j+1:Nat):Int):=by rw [IntWalk.i64_in _ (by have:=HN.out;omega)];rfl
   have HJ1:=q_ hj1;obtain⟨th,hth,hcolf,hsol,hcsl⟩:=HCOL.out j hjn;have HTH:=q_ hth;have HCOLF:=q_ hcolf;have HSOL:=q_ hsol;have HCSL:=q_ hcsl;have HSZ9:Aside0 (hi≤wr.heap.size):=⟨by have:=blk_lt B9.out;have:=G9H.out;omega⟩
   clear hth hcolf hsol hcsl hj hgg hjn;have HBW:=q_ (below_drew (Below.refl wr.heap.size wr));replace HB:=q_ (below_step HB.out HBW.out);replace BK:=q_ (blk_below BK.out HBW.out);replace B4:=q_ (blk_below B4.out HBW.out);replace B9:=q_ (blk_below B9.out HBW.out);replace HS:=q_ (HS.out.mvB (Frm.below HBW.out));replace HM:=q_ (HM.out.mvB (Frm.below HBW.out));clear HBW;have hcz0:wr.drew.cell? ⟨gb,0,none⟩=some (.slice A0 M.length c0):=(blk_cell BK.out 0).trans rfl;have hcz1:wr.drew.cell? ⟨gb,1,none⟩=some (.slice A1 Q.length c1):=(blk_cell BK.out 1).trans rfl;go_wp2
   refine st_ (n:=17) (S:=fun w'=>w'.cell? ⟨gb,0,none⟩=some (.slice A0 M.length c0)∧w'.cell? ⟨gb,1,none⟩=some (.slice A1 Q.length c1)) (ds:= []) ⟨hcz0,hcz1⟩ (fun hHeld=>?_)
   generalize wr.drew=w20 at HB BK B4 B9 HS HM hcz0 hcz1 hHeld ⊢
   refine tk_ 0 39 ?_;refine pu_ 1 40 ?_;refine tk_ 2 41 ?_;refine p3_ 3 42 4 43 5 44 ?_
   refine on_ 6 (some 45) (fun K hK=>?_)
   refine goes_ Try.func73 (by kernel_rfl) rfl #[.int .i64 s, .int .i64 (j:Int)] (by rfl) rfl rfl (by(try simp only [List.map_toArray,List.map_cons,List.map_nil]);first | done | rfl) ?_
   refine(impl_has.calls s (j:Int) th _ HTH.out).mono ?_
   rintro e w21 ⟨rfl,hd5⟩;refine⟨_,rfl,?_⟩
   have HBW:=q_ hd5.below;clear hd5 hHeld hcz0 hcz1;replace HB:=q_ (below_step HB.out HBW.out);replace BK:=q_ (blk_below BK.out HBW.out);replace B4:=q_ (blk_below B4.out HBW.out);replace B9:=q_ (blk_below B9.out HBW.out);replace HS:=q_ (HS.out.mvB (Frm.below HBW.out));replace HM:=q_ (HM.out.mvB (Frm.below HBW.out));clear HBW;refine hK.out _ _ ⟨(blk_cell BK.out 0).trans rfl,(blk_cell BK.out 1).trans rfl⟩ (fun hHeld=>?_)
   clear hK K;refine norm_ (a':=?_) ?_ ?_
   rotate_left
   ·show Act.put _ (some 45) _=_
    simp only [Act.put,List.setIfInBounds_toArray,List.set_cons_zero,List.set_cons_succ,i64_w,i32_w]
    rfl
   refine pu_ 7 46 ?_
   refine on_ 8 (some 47) (fun K hK=>?_)
   refine goes_ Try.func87 (by kernel_rfl) rfl #[.agg #[.slice A0 M.length c0, .slice A1 Q.length c1], .int .i64 (j:Int), .bool (!th)] (by rfl) rfl rfl (by(try simp only [List.map_toArray,List.map_cons,List.map_nil]);first | done | rfl) ?_
   refine(impl_Problem_column.calls k A0 c0 M A1 c1 Q (j:Int) (!th) (ck j) w21 (Kd.C_below HR0.out HB.out) HC0.out (Kd.C_below HR1.out HB.out) HC1.out HCOLF.out).mono ?_
   rintro e w22 ⟨vc,rfl,hRc,hb6⟩;obtain⟨Ac,cc,rfl⟩:=Kd.R_slice hRc;refine⟨_,rfl,?_⟩
   have HRC:=q_ (Kd.R_reads' hRc);have HBW:=q_ hb6;clear hb6 hHeld hRc;replace HB:=q_ (below_step HB.out HBW.out);replace BK:=q_ (blk_below BK.out HBW.out);replace B4:=q_ (blk_below B4.out HBW.out);replace B9:=q_ (blk_below B9.out HBW.out);replace HS:=q_ (HS.out.mvB (Frm.below HBW.out));replace HM:=q_ (HM.out.mvB (Frm.below HBW.out));clear HBW;refine hK.out _ _ ⟨(blk_cell BK.out 0).trans rfl,(blk_cell BK.out 1).trans rfl⟩ (fun hHeld=>?_)
   clear hK K;refine norm_ (a':=?_) ?_ ?_
   rotate_left
   ·show Act.put _ (some 47) _=_
    simp only [Act.put,List.setIfInBounds_toArray,List.set_cons_zero,List.set_cons_succ,i64_w,i32_w]
    rfl
   refine on_ 9 (some 48) (fun K hK=>?_)
   refine goes_ Try.func93 (by kernel_rfl) rfl #[.agg #[.slice A0 M.length c0, .slice A1 Q.length c1], .int .i64 s, .slice Ac (ck j).length cc] (by rfl) rfl rfl (by(try simp only [List.map_toArray,List.map_cons,List.map_nil]);first | done | rfl) ?_
   refine(impl_Problem_solve.calls k A0 c0 M A1 c1 Q s Ac cc (ck j) (cs j) (d2 j) (o2 j) w22 (Kd.C_below HR0.out HB.out) HC0.out (Kd.C_below HR1.out HB.out) HC1.out HRC.out.2.2 HRC.out.2.1 HSOL.out).mono ?_
   rintro e w23 ⟨vs,rfl,hRs,hb7⟩;obtain⟨Av,cv,rfl⟩:=Kd.R_slice hRs;rw [HCSL.out];refine⟨_,rfl,?_⟩
   have HRS:=q_ (UR.of hRs HB.out.size);have HW22:Aside0 (g9 < w22.heap.size):=⟨blk_lt B9.out⟩
   have HBW:=q_ hb7
   skip
   clear hb7 hHeld hRs HRC;replace HB:=q_ (below_step HB.out HBW.out);replace BK:=q_ (blk_below BK.out HBW.out);replace B4:=q_ (blk_below B4.out HBW.out);replace B9:=q_ (blk_below B9.out HBW.out);replace HS:=q_ (HS.out.mvB (Frm.below HBW.out));replace HM:=q_ (HM.out.mvB (Frm.below HBW.out));clear HBW;refine hK.out _ _ ⟨(blk_cell BK.out 0).trans rfl,(blk_cell BK.out 1).trans rfl⟩ (fun hHeld=>?_)
   clear hK K;refine norm_ (a':=?_) ?_ ?_
   rotate_left
   ·show Act.put _ (some 48) _=_
    simp only [Act.put,List.setIfInBounds_toArray,List.set_cons_zero,List.set_cons_succ,i64_w,i32_w]
    rfl
   refine p4_ 10 38 11 49 12 50 13 51 ?_;refine p3_ 14 11 15 12 16 13 ?_
   refine done_ (by kernel_rfl) ?_
   rw [HCSL.out] at HRS;have HSE:Aside0 (hi≤w22.heap.size):=⟨by have:=HW22.out;have:=G9H.out;omega⟩
   generalize hslo2:w22.heap.size=slo2 at HRS HSE
   generalize hshi2:w23.heap.size=shi2 at HRS
   clear hslo2 hshi2 HW22;go_wp2
   go_loopg [54] n (fun gg v54 w30=> ∃i:Nat,i≤n∧n - i≤gg∧v54= .int .i64 (i:Int)∧Aside0 (Below w.heap.size w w30)∧Aside0 (w30.heap[g4]?=some (.cells #[.int .i64 0, .slice none 0 0, .slice none 0 0] 49 (0,0)))∧Aside0 (w30.heap[gb]?=some (.cells #[.slice A0 M.length c0, .slice A1 Q.length c1] 27 (0,0)))∧Aside0 (w30.heap[g9]?=some (.cells #[.int .i64 den, .slice (some ⟨g,0,none⟩) n cap, .slice As n cS] 49 (0,0)))∧Aside0 (UR (Kd.int .i64) 2 w w30 slo lo (.slice As n cS) side)∧Aside0 (US (Kd.slice 2 (Kd.int .i64)) 25 w w30 lo hi (.slice (some ⟨g,0,none⟩) n cap) (pR M cs n j i))∧Aside0 (UR (Kd.int .i64) 2 w w30 slo2 shi2 (.slice Av n cv) (cs j)))
   case atStart=>exact⟨0,Nat.zero_le _,by omega,rfl,HB,B4,BK,B9,HS,HM,HRS⟩
   case round=>
    clear HB B4 BK B9 HS HM HRS;obtain⟨i,hi_,hgg,rfl,HB,B4,BK,B9,HS,HM,HRS⟩:=hrel;have HG2:=q_ hgg
    by_cases hin:i < n
    ·have hiz:(i:Int) < (n:Int):=by omega
     have h0i:(0:Int)≤(i:Int):=by omega
     have hjz2:(j:Int) < (n:Int):=by have:=HJ.out;omega
     have HIN:=q_ hin;have hi1:IntKind.i64.wrap ((i:Int)+1)=((i+1:Nat):Int):=by rw [IntWalk.i64_in _ (by have:=HN.out;omega)];rfl
     have HI1:=q_ hi1;obtain⟨adv,eA,hcv⟩:=Kd.at_int (UR.C HRS.out) (i:Int) (by omega) (by rw [HCSL.out];omega);subst eA;rw [Int.toNat_natCast,rd_nat] at hcv;have hc9:=cz_ B9 1;have hrow:=pR_row M cs n j i i (by rw [pR_len];exact hin);have hpr:=put_row (w0:=w) (g:=g) (cap:=cap) HB.out (l:=pR M cs n j i) (ok:=fun k=>lo≤k∧k < hi) (by rw [pR_len];exact HM.out) i (by rw [pR_len];exact hin) j (by rw [hrow];simpa using HJ.out);rw [hrow,pR_len] at hpr;obtain⟨b,cj,hcellg,hold,hfr,hset⟩:=hpr;have hset2:=hset (wrap64 (-(cs j).getD i 0));rw [pR_set M cs n j i hin HJ.out] at hset2;have HSET:=q_ hset2;have hcellg':wr.cell? ⟨g,i,none⟩=some (.slice (some ⟨b,0,none⟩) n cj):=by simpa using hcellg
     generalize (cs j).getD i 0=xv at hcv HSET
     clear hset hset2 hrow hcellg hin hi_ hgg;go_wp2
     go_roundg (n - (i+1))
     case measure=>have:=HG2.out;have:=HIN.out;omega
     case rel=>
      have hF:=Frm.kept HSET.out.2.2 (fun k hk=>hk);exact⟨i+1,by have:=HIN.out;omega,by omega,by first | rfl | (rw [HI1.out]) | (simp [HI1.out]),⟨HSET.out.2.1⟩,⟨(hF.same g4 (blk_lt B4.out) (.inl (by have:=G4L.out;omega))).trans B4.out⟩,⟨(hF.same gb (blk_lt BK.out) (.inl (by have:=GBL.out;omega))).trans BK.out⟩,⟨(hF.same g9 (blk_lt B9.out) (.inr (by have:=G9H.out;omega))).trans B9.out⟩,⟨HS.out.mv hF (.inl (Nat.le_refl _))⟩,⟨HSET.out.1⟩,⟨HRS.out.mv hF (.inr HSE.out)⟩⟩
    ·have hiz: ¬ (i:Int) < (n:Int):=by omega
     obtain rfl:i=n:=by omega
     go_wp2
     go_roundg (i - (j+1))
     case measure=>have:=HG.out;have:=HJ.out;omega
     case rel=>exact⟨j+1,by have:=HJ.out;omega,by omega,by first | rfl | (rw [HJ1.out]) | (simp [HJ1.out]),HB,B4,BK,B9,HS,⟨by rw [← pR_col];exact HM.out⟩⟩
  ·have hjz: ¬ (j:Int) < (Q.length:Int):=by omega
   obtain rfl:j=n:=by omega
   have hq0:=cz_ B9 0;have hq1:=cz_ B9 1;have hq2:=cz_ B9 2;have hs0:=cz_ B4 0;have hsf0:=blk_frozen B4.out 0;have hs1:=cz_ B4 1;have hsf1:=blk_frozen B4.out 1;have hs2:=cz_ B4 2;have hsf2:=blk_frozen B4.out 2;have G4H:=G4L.out;have G4S':=G4S.out;go_wp2
   have hF:Frm wr (((wr.setCell ⟨g4,0,none⟩ (.int .i64 den)).setCell ⟨g4,1,none⟩ (.slice (some ⟨g,0,none⟩) j cap)).setCell ⟨g4,2,none⟩ (.slice As j cS)) g4 (g4+1):=(Frm.set _ _ _ _).trans ((Frm.set _ _ _ _).trans (Frm.set _ _ _ _));refine bodyPost_ret (results_list (rs:= [.cell 4 49, .tmp 5]) rfl (by simp) (.cell g4 49 #[.int .i64 den, .slice (some ⟨g,0,none⟩) j cap, .slice As j cS] (0,0) _ rfl (blk_put (blk_put (blk_put B4.out 0 _ rfl) 1 _ rfl) 2 _ rfl) Try.underlying49 rfl (by kernel_rfl) (.tmp .nil))) rfl ?_
   refine⟨_,_,rfl,?_,Kd.R_mono (HS.out.mv hF (.inr (by omega))) (fun _ _=>trivial),below_set (below_set (below_set HB.out G4.out) G4.out) G4.out⟩
   exact Kd.S_mono (HM.out.mv hF (.inr (by omega))) (fun k hk e=>by have:=HS.out.1 k e.symm;omega)
end Go.Proofs.Ytbjljcpngbhkeaa.Pv
end
