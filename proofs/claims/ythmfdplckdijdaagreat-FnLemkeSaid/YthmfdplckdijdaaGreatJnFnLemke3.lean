/- Texts of one claim (the words of the kit's print that the claim uses, printed functions, and this session's own texts), joined in the order of their imports by this session's own program (merge.py). -/
import Derived.Test.YthmfdplckdijdaaGreatJnFnLemke0
import Derived.Test.YthmfdplckdijdaaGreatJnFnLemke1
import Derived.Test.YthmfdplckdijdaaGreatJnFnLemke2
set_option linter.unusedVariables false
set_option linter.unusedSimpArgs false
set_option maxHeartbeats 8000000
set_option maxRecDepth 100000
section
namespace Go.Proofs.YthmfdplckdijdaaGreat.Pr
open Go.RowKit Wz.cw Wz.fX Wz.cX
attribute [local go_sem] nV nT oF oD nC nB nU nS
def mZ.l0:Nat→Int→Int→Int→List (List Int)→Int→List Int→Option (Int)
 | 0,_,_,_,_,_,_=>none
 | k+1,x1,x5,x6,aa,ae,af=>if x6 < (aa.length:Int) then(if 0≤x6 then(if 0≤x1 then(if x1 < ((d5 aa x6).length:Int) then(if(rd (d5 aa x6) x1) > 0 then(if x5 < 0 then(mZ.l0 k x1 x6 (wrap64 (x6+1)) aa ae af) else(if 0≤x5 then(if x5 < (aa.length:Int) then(if x1 < ((d5 aa x5).length:Int) then((ou.f k aa ae af x6 x5 (rd (d5 aa x6) x1) (rd (d5 aa x5) x1)).bind fun ag=>(if ag=true then(mZ.l0 k x1 x6 (wrap64 (x6+1)) aa ae af) else(mZ.l0 k x1 x5 (wrap64 (x6+1)) aa ae af))) else(none)) else(none)) else(none))) else(mZ.l0 k x1 x5 (wrap64 (x6+1)) aa ae af)) else(none)) else(none)) else(none)) else(some x5)
def mZ.f (k:Nat) (aa:List (List Int)) (lW:Int) (ae:List Int) (a1:Int):Option (Int):=mZ.l0 k a1 (-1) 0 aa lW ae
def mZ.T5:Bool × List (List Nat × List Nat):=(true, [([], []),([0], [0]),([], []),([1,2], [1,2]),([3], [3]),([], []),([4,5], [4,5]),([6], [6]),([7], [7]),([8], [8]),([9], [9]),([10,9], [9,10]),([11,9,9], [9,11]),([12], [12]),([12], [12]),([12], [12]),([12], [12]),([16,12], [12,16]),([12], [12]),([17,18,12], [12,17,18]),([19,12], [12,19]),([12], [12]),([20,21,12], [12,20,21]),([22,12], [12,22]),([12], [12]),([24,12], [12,24]),([12], [12]),([25,26,12], [12,25,26]),([27,12], [12,27]),([12], [12]),([28,29,12], [12,28,29]),([30,12], [12,30]),([13,14,15,23,31,12,12], [12,13,14,15,23,31]),([12,32,9], [9,12,32]),([9,33], [9,33])])
def mZ.B5:List Nat:= [0,1,0,7,15,0,63,127,255,511,1023,2047,4095,8191,8191,8191,8191,73727,8191,466943,991231,8191,4136959,8331263,8191,16785407,8191,117448703,251666431,8191,1056972799,2130714623,4294967295,8589934591,17179869183]
theorem mZ.xO:sy .any (opsOf Tryz.f109 5)=mZ.T5:=by kernel_rfl
theorem mZ.vo:tD mZ.T5.2 mZ.B5=true:=by kernel_rfl
theorem mZ.calls (k:Nat) (aG:Option Addr) (az:Nat) (ae:List (List Int)) (lW:Int) (aA:Option Addr) (aC:Nat) (aq:List Int) (a1:Int) (r:Int) (w:World) (aW:Kd.C (Kd.slice 2 (Kd.int .i64)) w aG ae.length ae) (aX:ae.length≤az) (aY:Kd.C (Kd.int .i64) w aA aq.length aq) (aZ:aq.length≤aC) (h:mZ.f k ae lW aq a1=some r):
  Calls Tryz.prog 109 #[.agg #[.slice aG ae.length az, .int .i64 lW, .slice aA aq.length aC], .int .i64 a1] w fun e w'=>e= .returned (.int .i64 r)∧Below w.heap.size w w':=by
 have Dp:=Tryz.underlying107;have mR:=q_ aW;have oh:=q_ aX;clear aW aX;have Dy:=q_ aY;have Hf:=q_ aZ;clear aY aZ;have HB:=q_ (Below.refl w.heap.size w);have H:(mZ.l0 k a1 (-1) 0 ae lW aq)=some r:=h;clear h;have H':=q_ H;clear H
 go_enter Tryz.func109,Tryz.ntmps109
 go_wp2_with (first | ((with_reducible refine dg (N:=2) rfl ?_);refine nR 2 #[.slice aG ae.length az, .int .i64 lW, .slice aA aq.length aC] 107 ?_;intro ah hg w3 cM hb;have aa:=q_ (cM);have cn:=mq w hg;have ct:=mq w hg;replace HB:=lT hb;clear hb cM hg))
 go_loopg [5,6] k (fun kq v5 v6 w'=> ∃(ag:Int) (af:Int),v5= .int .i64 ag∧v6= .int .i64 af∧aE (mZ.l0 kq a1 ag af ae lW aq=some r)∧aE (kq≤k)∧aE (w'.heap[ah]?=some (.cells #[(.slice aG ae.length az), .int .i64 lW,(.slice aA aq.length aC)] 107 (0,0)))∧aE (Below w.heap.size w w'))
 case atStart=>exact⟨((-1)),(0),nM,nM,H',⟨Nat.le_refl _⟩,⟨nj⟩,⟨hb_⟩⟩
 case round=>
  clear H';obtain⟨ag,af,rfl,rfl,HA,nA,aa,HB⟩:=hrel;cases gk with
  | zero=>exact absurd HA.out (by simp [mZ.l0])
  | succ k1=>
   have H:=HA.out;clear HA;simp only [mZ.l0] at H
   by_cases c4:af < (ae.length:Int)
   ·rw [if_pos c4] at H;have qv:=decide_eq_true c4;clear c4
    by_cases c5:0≤af
    ·rw [if_pos c5] at H;have uP:=decide_eq_true c5;clear c5
     by_cases c6:0≤a1
     ·rw [if_pos c6] at H;have uj:=decide_eq_true c6;clear c6
      by_cases c7:a1 < ((d5 ae af).length:Int)
      ·rw [if_pos c7] at H;have za:=decide_eq_true c7;clear c7
       by_cases c8:(rd (d5 ae af) a1) > 0
       ·rw [if_pos c8] at H;have IG:=decide_eq_true c8;clear c8
        by_cases c9:ag < 0
        ·rw [if_pos c9] at H;have Ab:=decide_eq_true c9;clear c9;have H':=q_ H;clear H;obtain⟨bn,bq,bu,bv,bw,bz⟩:=qI aa
         try go_wp2
         replace aa:=q_ (mI aa.out);replace HB:=q_ (mS HB.out);have z6:0≤(af:Int):=l7;have zY:af < (ae.length:Int):=l7;obtain⟨ak,aI,aD,K1,qz,wY,wZ⟩:=pI mR.out af z6 zY;have ai:=qz;cases K1
         replace qz:=bc_ HB.out qz;have xC:=q_ wZ;have Ra:=q_ wY;clear wZ wY;replace z6:=eq_true z6;replace zY:=eq_true zY;have z5:0≤(a1:Int):=l7;have zX:a1 < ((d5 ae af).length:Int):=l7;obtain⟨au,K0,qO⟩:=Kd.mA xC.out a1 z5 zX;have aj:=qO;cases K0
         replace qO:=bc_ HB.out qO;replace z5:=eq_true z5;replace zX:=eq_true zX;refine qx (n:=35) (S:=fun w'=>w'.cell? ⟨ah,0,none⟩=some (.slice (some ak) ae.length az)∧w'.cell? ⟨ah,1,none⟩=some (.int .i64 lW)∧w'.cell? ⟨ah,2,none⟩=some (.slice aA aq.length aC)∧w'.cell? (ak.add (af).toNat)=some (.slice (some au) (d5 ae af).length aD)∧w'.cell? (au.add (a1).toNat)=some (.int .i64 (rd (d5 ae af) a1))) (ds:= []) ⟨(bp aa.out 0).trans rfl,(bp aa.out 1).trans rfl,(bp aa.out 2).trans rfl,((bc_ HB.out ai:)),((bc_ HB.out aj:))⟩ (fun hHeld=>?_);refine o9 mZ.xO mZ.vo (fun pL xA=>?_)
         generalize wr.drew=rB at aa HB xC qz qO hHeld ⊢
         refine rm 0 14 2 16 5 19 ?_;refine mg 1 15 ?_;refine lX 3 17 ?_;refine mg 4 18 ?_;refine lX 6 20 ?_;refine mg 7 21 ?_;refine sB 8 22 9 23 10 24 11 25 ?_;refine lX 12 26 ?_;refine oB 13 27 ?_;refine oB 14 28 ?_;refine oB 15 29 ?_;refine oB 16 30 ?_;refine oB 17 31 ?_;refine oB 18 32 ?_;refine oB 19 33 ?_;refine oB 20 34 ?_;refine oB 21 35 ?_;refine oB 22 36 ?_;refine oB 23 37 ?_;refine oB 24 38 ?_;refine oB 25 39 ?_;refine oB 26 40 ?_;refine oB 27 41 ?_;refine oB 28 42 ?_;refine oB 29 43 ?_;refine oB 30 44 ?_;refine oB 31 45 ?_;refine oB 32 46 ?_;refine sU 33 47 34 48 ?_
         refine oA (qj pL.out (by kernel_rfl)) ?_
         try go_wp2
         go_roundg k1
         case measure=>have:=nA.out;omega
         case rel=>exact⟨(af),(wrap64 (af+1)),nM,nM,H',⟨by have:=nA.out;omega⟩,⟨nj⟩,⟨hb_⟩⟩
        ·rw [if_neg c9] at H;have Ab:=decide_eq_false c9;clear c9
         by_cases qQ:0≤ag
         ·rw [if_pos qQ] at H;have GZ:=decide_eq_true qQ;clear qQ
          by_cases rz:ag < (ae.length:Int)
          ·rw [if_pos rz] at H;have GY:=decide_eq_true rz;clear rz
           by_cases tI:a1 < ((d5 ae ag).length:Int)
           ·rw [if_pos tI] at H;have GX:=decide_eq_true tI;clear tI;replace H:=Option.bind_eq_some_iff.mp H;obtain⟨a9,akG,H⟩:=H;replace H:(if a9=true then(mZ.l0 k1 a1 af (wrap64 (af+1)) ae lW aq) else(mZ.l0 k1 a1 ag (wrap64 (af+1)) ae lW aq))=some r:=H;have CF:=q_ akG;clear akG
            by_cases sL:a9=true
            ·subst sL;have H1:(mZ.l0 k1 a1 af (wrap64 (af+1)) ae lW aq)=some r:=by rw [if_pos rfl] at H;exact H
             clear H;have H:=H1;clear H1;have H':=q_ H;clear H;obtain⟨bA,bC,bD,bE,bF,bG⟩:=qI aa
             try go_wp2
             replace aa:=q_ (mI aa.out);replace HB:=q_ (mS HB.out);have z6:0≤(af:Int):=l7;have zY:af < (ae.length:Int):=l7;obtain⟨ak,aI,aD,K1,qz,wY,wZ⟩:=pI mR.out af z6 zY;have ai:=qz;cases K1
             replace qz:=bc_ HB.out qz;have xC:=q_ wZ;have Ra:=q_ wY;clear wZ wY;replace z6:=eq_true z6;replace zY:=eq_true zY;have z5:0≤(a1:Int):=l7;have zX:a1 < ((d5 ae af).length:Int):=l7;obtain⟨au,K0,qO⟩:=Kd.mA xC.out a1 z5 zX;have aj:=qO;cases K0
             replace qO:=bc_ HB.out qO;replace z5:=eq_true z5;replace zX:=eq_true zX;have KE:0≤(af:Int):=l7;have Ka:af < (ae.length:Int):=l7;obtain⟨aK,ba,bg,aeM,vI,FN,FY⟩:=pI mR.out af KE Ka;have av:=vI;obtain rfl:ak=aK:=(by injection aeM)
             replace vI:=bc_ HB.out vI;have Gk:=q_ FY;have ah5:=q_ FN;clear FY FN;replace KE:=eq_true KE;replace Ka:=eq_true Ka;have vC:=Option.some.inj (qz.symm.trans vI);injection vC with vC D3 D4
             subst vC;subst D4;clear D3;have KD:0≤(a1:Int):=l7;have J9:a1 < ((d5 ae af).length:Int):=l7;obtain⟨bi,aeL,wX⟩:=Kd.mA Gk.out a1 KD J9;have aw:=wX;cases aeL
             replace wX:=bc_ HB.out wX;replace KD:=eq_true KD;replace J9:=eq_true J9;have KC:0≤(ag:Int):=l7;have J8:ag < (ae.length:Int):=l7;obtain⟨aM,bh,aJ,aeK,wW,FM,FX⟩:=pI mR.out ag KC J8;have ax:=wW;obtain rfl:ak=aM:=(by injection aeK)
             replace wW:=bc_ HB.out wW;have Gj:=q_ FX;have ah4:=q_ FM;clear FX FM;replace KC:=eq_true KC;replace J8:=eq_true J8;have KA:0≤(a1:Int):=l7;have J7:a1 < ((d5 ae ag).length:Int):=l7;obtain⟨aH,aeJ,wV⟩:=Kd.mA Gj.out a1 KA J7;have ay:=wV;cases aeJ
             replace wV:=bc_ HB.out wV;replace KA:=eq_true KA;replace J7:=eq_true J7;refine qx (n:=35) (S:=fun w'=>w'.cell? ⟨ah,0,none⟩=some (.slice (some ak) ae.length az)∧w'.cell? ⟨ah,1,none⟩=some (.int .i64 lW)∧w'.cell? ⟨ah,2,none⟩=some (.slice aA aq.length aC)∧w'.cell? (ak.add (af).toNat)=some (.slice (some au) (d5 ae af).length aD)∧w'.cell? (au.add (a1).toNat)=some (.int .i64 (rd (d5 ae af) a1))∧w'.cell? (ak.add (af).toNat)=some (.slice (some au) (d5 ae af).length aD)∧w'.cell? (au.add (a1).toNat)=some (.int .i64 (rd (d5 ae af) a1))∧w'.cell? (ak.add (ag).toNat)=some (.slice (some aH) (d5 ae ag).length aJ)∧w'.cell? (aH.add (a1).toNat)=some (.int .i64 (rd (d5 ae ag) a1))) (ds:= []) ⟨(bp aa.out 0).trans rfl,(bp aa.out 1).trans rfl,(bp aa.out 2).trans rfl,((bc_ HB.out ai:)),((bc_ HB.out aj:)),((bc_ HB.out av:)),((bc_ HB.out aw:)),((bc_ HB.out ax:)),((bc_ HB.out ay:))⟩ (fun hHeld=>?_);refine o9 mZ.xO mZ.vo (fun pL xA=>?_)
             generalize wr.drew=Rg at aa HB xC Gk Gj qz qO vI wX wW wV hHeld ⊢
             refine rm 0 14 2 16 5 19 ?_;refine mg 1 15 ?_;refine lX 3 17 ?_;refine mg 4 18 ?_;refine lX 6 20 ?_;refine mg 7 21 ?_;refine sB 8 22 9 23 10 24 11 25 ?_;refine sB 12 26 14 28 15 29 16 30 ?_;refine sB 18 32 21 35 24 38 26 40 ?_;refine lX 29 43 ?_;refine mg 13 27 ?_;refine mg 17 31 ?_;refine lX 19 33 ?_;refine mg 20 34 ?_;refine lX 22 36 ?_;refine mg 23 37 ?_;refine mg 25 39 ?_;refine lX 27 41 ?_;refine mg 28 42 ?_;refine lX 30 44 ?_;refine mg 31 45 ?_
             refine pz 32 (some 46) (fun K hK=>?_)
             refine sH Tryz.func108 (by kernel_rfl) rfl #[.agg #[.slice (some ak) ae.length az, .int .i64 lW, .slice aA aq.length aC], .int .i64 af, .int .i64 ag, .int .i64 (rd (d5 ae af) a1), .int .i64 (rd (d5 ae ag) a1)] (by rfl) rfl rfl (by(try simp only [List.map_toArray,List.map_cons,List.map_nil]);first | done | rfl | (simp only [List.length_drop,List.length_take];rfl)) ?_
             with_reducible refine(ou.calls k1 _ _ ae lW _ _ aq af ag (rd (d5 ae af) a1) (rd (d5 ae ag) a1) true _ ?aN ?aT ?aU ?aV CF.out).mono ?_
             (case aN=>exact ni mR.out HB.out)
             (case aT=>exact oh.out)
             (case aU=>exact ni Dy.out HB.out)
             (case aV=>exact Hf.out)
             rintro e ER ⟨rfl,hb⟩;refine⟨_,rfl,?_⟩
             replace aa:=lZ aa hb;replace HB:=lT hb;(try clear hb)
             
             
             
             refine hK.out _ _ ⟨(bp aa.out 0).trans rfl,(bp aa.out 1).trans rfl,(bp aa.out 2).trans rfl,((bc_ HB.out ai:)),((bc_ HB.out aj:)),((bc_ HB.out av:)),((bc_ HB.out aw:)),((bc_ HB.out ax:)),((bc_ HB.out ay:))⟩ (fun hHeld=>?_)
             clear hK K;refine mP (a':=?_) ?_ ?_
             rotate_left
             ·show Act.put _ (some 46) _=_
              simp only [Act.put,List.setIfInBounds_toArray,List.set_cons_zero,List.set_cons_succ,mT,nr]
              rfl
             refine sU 33 47 34 48 ?_
             refine oA (qj pL.out (by kernel_rfl)) ?_
             try go_wp2
             go_roundg k1
             case measure=>have:=nA.out;omega
             case rel=>exact⟨(af),(wrap64 (af+1)),nM,nM,H',⟨by have:=nA.out;omega⟩,⟨nj⟩,⟨hb_⟩⟩
            ·replace sL:=Bool.eq_false_iff.mpr sL;subst sL;have H1:(mZ.l0 k1 a1 ag (wrap64 (af+1)) ae lW aq)=some r:=by rw [if_neg (show ¬ (false=true) by decide)] at H;exact H
             clear H;have H:=H1;clear H1;have H':=q_ H;clear H;obtain⟨bH,bI,bJ,bK,bL,bM⟩:=qI aa
             try go_wp2
             replace aa:=q_ (mI aa.out);replace HB:=q_ (mS HB.out);have z6:0≤(af:Int):=l7;have zY:af < (ae.length:Int):=l7;obtain⟨ak,aI,aD,K1,qz,wY,wZ⟩:=pI mR.out af z6 zY;have ai:=qz;cases K1
             replace qz:=bc_ HB.out qz;have xC:=q_ wZ;have Ra:=q_ wY;clear wZ wY;replace z6:=eq_true z6;replace zY:=eq_true zY;have z5:0≤(a1:Int):=l7;have zX:a1 < ((d5 ae af).length:Int):=l7;obtain⟨au,K0,qO⟩:=Kd.mA xC.out a1 z5 zX;have aj:=qO;cases K0
             replace qO:=bc_ HB.out qO;replace z5:=eq_true z5;replace zX:=eq_true zX;have KE:0≤(af:Int):=l7;have Ka:af < (ae.length:Int):=l7;obtain⟨aK,ba,bg,aeM,vI,FN,FY⟩:=pI mR.out af KE Ka;have av:=vI;obtain rfl:ak=aK:=(by injection aeM)
             replace vI:=bc_ HB.out vI;have Gk:=q_ FY;have ah5:=q_ FN;clear FY FN;replace KE:=eq_true KE;replace Ka:=eq_true Ka;have vC:=Option.some.inj (qz.symm.trans vI);injection vC with vC D3 D4
             subst vC;subst D4;clear D3;have KD:0≤(a1:Int):=l7;have J9:a1 < ((d5 ae af).length:Int):=l7;obtain⟨bi,aeL,wX⟩:=Kd.mA Gk.out a1 KD J9;have aw:=wX;cases aeL
             replace wX:=bc_ HB.out wX;replace KD:=eq_true KD;replace J9:=eq_true J9;have KC:0≤(ag:Int):=l7;have J8:ag < (ae.length:Int):=l7;obtain⟨aM,bh,aJ,aeK,wW,FM,FX⟩:=pI mR.out ag KC J8;have ax:=wW;obtain rfl:ak=aM:=(by injection aeK)
             replace wW:=bc_ HB.out wW;have Gj:=q_ FX;have ah4:=q_ FM;clear FX FM;replace KC:=eq_true KC;replace J8:=eq_true J8;have KA:0≤(a1:Int):=l7;have J7:a1 < ((d5 ae ag).length:Int):=l7;obtain⟨aH,aeJ,wV⟩:=Kd.mA Gj.out a1 KA J7;have ay:=wV;cases aeJ
             replace wV:=bc_ HB.out wV;replace KA:=eq_true KA;replace J7:=eq_true J7;refine qx (n:=35) (S:=fun w'=>w'.cell? ⟨ah,0,none⟩=some (.slice (some ak) ae.length az)∧w'.cell? ⟨ah,1,none⟩=some (.int .i64 lW)∧w'.cell? ⟨ah,2,none⟩=some (.slice aA aq.length aC)∧w'.cell? (ak.add (af).toNat)=some (.slice (some au) (d5 ae af).length aD)∧w'.cell? (au.add (a1).toNat)=some (.int .i64 (rd (d5 ae af) a1))∧w'.cell? (ak.add (af).toNat)=some (.slice (some au) (d5 ae af).length aD)∧w'.cell? (au.add (a1).toNat)=some (.int .i64 (rd (d5 ae af) a1))∧w'.cell? (ak.add (ag).toNat)=some (.slice (some aH) (d5 ae ag).length aJ)∧w'.cell? (aH.add (a1).toNat)=some (.int .i64 (rd (d5 ae ag) a1))) (ds:= []) ⟨(bp aa.out 0).trans rfl,(bp aa.out 1).trans rfl,(bp aa.out 2).trans rfl,((bc_ HB.out ai:)),((bc_ HB.out aj:)),((bc_ HB.out av:)),((bc_ HB.out aw:)),((bc_ HB.out ax:)),((bc_ HB.out ay:))⟩ (fun hHeld=>?_);refine o9 mZ.xO mZ.vo (fun pL xA=>?_)
             generalize wr.drew=w21 at aa HB xC Gk Gj qz qO vI wX wW wV hHeld ⊢
             refine rm 0 14 2 16 5 19 ?_;refine mg 1 15 ?_;refine lX 3 17 ?_;refine mg 4 18 ?_;refine lX 6 20 ?_;refine mg 7 21 ?_;refine sB 8 22 9 23 10 24 11 25 ?_;refine sB 12 26 14 28 15 29 16 30 ?_;refine sB 18 32 21 35 24 38 26 40 ?_;refine lX 29 43 ?_;refine mg 13 27 ?_;refine mg 17 31 ?_;refine lX 19 33 ?_;refine mg 20 34 ?_;refine lX 22 36 ?_;refine mg 23 37 ?_;refine mg 25 39 ?_;refine lX 27 41 ?_;refine mg 28 42 ?_;refine lX 30 44 ?_;refine mg 31 45 ?_
             refine pz 32 (some 46) (fun K hK=>?_)
             refine sH Tryz.func108 (by kernel_rfl) rfl #[.agg #[.slice (some ak) ae.length az, .int .i64 lW, .slice aA aq.length aC], .int .i64 af, .int .i64 ag, .int .i64 (rd (d5 ae af) a1), .int .i64 (rd (d5 ae ag) a1)] (by rfl) rfl rfl (by(try simp only [List.map_toArray,List.map_cons,List.map_nil]);first | done | rfl | (simp only [List.length_drop,List.length_take];rfl)) ?_
             with_reducible refine(ou.calls k1 _ _ ae lW _ _ aq af ag (rd (d5 ae af) a1) (rd (d5 ae ag) a1) false _ ?aN ?aT ?aU ?aV CF.out).mono ?_
             (case aN=>exact ni mR.out HB.out)
             (case aT=>exact oh.out)
             (case aU=>exact ni Dy.out HB.out)
             (case aV=>exact Hf.out)
             rintro e w22 ⟨rfl,hb⟩;refine⟨_,rfl,?_⟩
             replace aa:=lZ aa hb;replace HB:=lT hb;(try clear hb)
             
             
             
             refine hK.out _ _ ⟨(bp aa.out 0).trans rfl,(bp aa.out 1).trans rfl,(bp aa.out 2).trans rfl,((bc_ HB.out ai:)),((bc_ HB.out aj:)),((bc_ HB.out av:)),((bc_ HB.out aw:)),((bc_ HB.out ax:)),((bc_ HB.out ay:))⟩ (fun hHeld=>?_)
             clear hK K;refine mP (a':=?_) ?_ ?_
             rotate_left
             ·show Act.put _ (some 46) _=_
              simp only [Act.put,List.setIfInBounds_toArray,List.set_cons_zero,List.set_cons_succ,mT,nr]
              rfl
             refine sU 33 47 34 48 ?_
             refine oA (qj pL.out (by kernel_rfl)) ?_
             try go_wp2
             go_roundg k1
             case measure=>have:=nA.out;omega
             case rel=>exact⟨(ag),(wrap64 (af+1)),nM,nM,H',⟨by have:=nA.out;omega⟩,⟨nj⟩,⟨hb_⟩⟩
           ·rw [if_neg tI] at H;exact absurd H (by simp)
          ·rw [if_neg rz] at H;exact absurd H (by simp)
         ·rw [if_neg qQ] at H;exact absurd H (by simp)
       ·rw [if_neg c8] at H;have IG:=decide_eq_false c8;clear c8;have H':=q_ H;clear H;obtain⟨bN,bO,bP,bQ,bS,bT⟩:=qI aa
        try go_wp2
        replace aa:=q_ (mI aa.out);replace HB:=q_ (mS HB.out);have z6:0≤(af:Int):=l7;have zY:af < (ae.length:Int):=l7;obtain⟨ak,aI,aD,K1,qz,wY,wZ⟩:=pI mR.out af z6 zY;have ai:=qz;cases K1
        replace qz:=bc_ HB.out qz;have xC:=q_ wZ;have Ra:=q_ wY;clear wZ wY;replace z6:=eq_true z6;replace zY:=eq_true zY;have z5:0≤(a1:Int):=l7;have zX:a1 < ((d5 ae af).length:Int):=l7;obtain⟨au,K0,qO⟩:=Kd.mA xC.out a1 z5 zX;have aj:=qO;cases K0
        replace qO:=bc_ HB.out qO;replace z5:=eq_true z5;replace zX:=eq_true zX;refine qx (n:=35) (S:=fun w'=>w'.cell? ⟨ah,0,none⟩=some (.slice (some ak) ae.length az)∧w'.cell? ⟨ah,1,none⟩=some (.int .i64 lW)∧w'.cell? ⟨ah,2,none⟩=some (.slice aA aq.length aC)∧w'.cell? (ak.add (af).toNat)=some (.slice (some au) (d5 ae af).length aD)∧w'.cell? (au.add (a1).toNat)=some (.int .i64 (rd (d5 ae af) a1))) (ds:= []) ⟨(bp aa.out 0).trans rfl,(bp aa.out 1).trans rfl,(bp aa.out 2).trans rfl,((bc_ HB.out ai:)),((bc_ HB.out aj:))⟩ (fun hHeld=>?_);refine o9 mZ.xO mZ.vo (fun pL xA=>?_)
        generalize wr.drew=w24 at aa HB xC qz qO hHeld ⊢
        refine rm 0 14 2 16 5 19 ?_;refine mg 1 15 ?_;refine lX 3 17 ?_;refine mg 4 18 ?_;refine lX 6 20 ?_;refine mg 7 21 ?_;refine sU 8 22 9 23 ?_;refine oB 10 24 ?_;refine oB 11 25 ?_;refine oB 12 26 ?_;refine oB 13 27 ?_;refine oB 14 28 ?_;refine oB 15 29 ?_;refine oB 16 30 ?_;refine oB 17 31 ?_;refine oB 18 32 ?_;refine oB 19 33 ?_;refine oB 20 34 ?_;refine oB 21 35 ?_;refine oB 22 36 ?_;refine oB 23 37 ?_;refine oB 24 38 ?_;refine oB 25 39 ?_;refine oB 26 40 ?_;refine oB 27 41 ?_;refine oB 28 42 ?_;refine oB 29 43 ?_;refine oB 30 44 ?_;refine oB 31 45 ?_;refine oB 32 46 ?_;refine oB 33 47 ?_;refine lX 34 48 ?_
        refine oA (qj pL.out (by kernel_rfl)) ?_
        try go_wp2
        go_roundg k1
        case measure=>have:=nA.out;omega
        case rel=>exact⟨(ag),(wrap64 (af+1)),nM,nM,H',⟨by have:=nA.out;omega⟩,⟨nj⟩,⟨hb_⟩⟩
      ·rw [if_neg c7] at H;exact absurd H (by simp)
     ·rw [if_neg c6] at H;exact absurd H (by simp)
    ·rw [if_neg c5] at H;exact absurd H (by simp)
   ·rw [if_neg c4] at H;have qv:=decide_eq_false c4;clear c4;obtain rfl:=Option.some.inj H;obtain⟨bU,bV,bW,bX,bY,bZ⟩:=qI aa;go_wp2
    go_ret
    exact⟨pH,hb_⟩
def rS.f (a0:Int) (a1:Int):Option (Int):=if a0 < a1 then(some (wrap64 (a0+a1))) else(some (wrap64 (a0 - a1)))
theorem rS.calls (a0:Int) (a1:Int) (r:Int) (w:World) (h:rS.f a0 a1=some r):
  Calls Tryz.prog 111 #[.int .i64 a0, .int .i64 a1] w fun e w'=>e= .returned (.int .i64 r)∧lP w w':=by
 have H:(if a0 < a1 then(some (wrap64 (a0+a1))) else(some (wrap64 (a0 - a1))))=some r:=h;clear h
 by_cases c3:a0 < a1
 ·rw [if_pos c3] at H;have qP:=decide_eq_true c3;clear c3;obtain rfl:=Option.some.inj H
  go_enter Tryz.func111,Tryz.ntmps111
  go_wp2
  go_ret
  exact⟨by first | rfl | (simp;done) | (simp [*];done),by repeat (first | exact lP.refl _ | apply lP.step)⟩
 ·rw [if_neg c3] at H;have qP:=decide_eq_false c3;clear c3;obtain rfl:=Option.some.inj H
  go_enter Tryz.func111,Tryz.ntmps111
  go_wp2
  go_ret
  exact⟨by first | rfl | (simp;done) | (simp [*];done),by repeat (first | exact lP.refl _ | apply lP.step)⟩
end Go.Proofs.YthmfdplckdijdaaGreat.Pr
end
section
namespace Go.Proofs.YthmfdplckdijdaaGreat.uF
open Go.RowKit Wz.cw Wz.cX Ma Pr Dt Lk Lt Lq Lp
theorem rd1 (l:List (List Int)) (i:Nat):d5 l (i:Int)=l.getD i []:=by simp [d5]
section
variable {n m:Nat} {T:lE}
theorem zB {i:Nat} (hi:i < n):d5 (nP n m T) (i:Int)=qU T i m:=by rw [rd1,yU hi]
theorem Cy {i j:Nat} (hj:j < m):rd (qU T i m) (j:Int)=T i j:=by rw [rT,Ql hj]
theorem wB {x y:Int} (hx:uN x) (hy:uN y):wrap64 (x*y)=x*y:=by
 have:=ZR hx hy
 exact nH (by omega) (by omega)
theorem Yu {i k:Nat} {x y:Int} (c:Nat) (l:List Nat):kl T i k x y (c::l)=if T i c*y=T k c*x then kl T i k x y l else decide (T i c*y < T k c*x):=by
 rw [show kl T i k x y (c::l)=(if T i c*y < T k c*x then true else if T k c*x < T i c*y then false else kl T i k x y l) from rfl]
 by_cases e:T i c*y=T k c*x
 ·rw [if_pos e,if_neg (by omega),if_neg (by omega)]
 ·rw [if_neg e]
  by_cases f:T i c*y < T k c*x
  ·rw [if_pos f];simp [f]
  ·rw [if_neg f,if_pos (by omega)];simp [f]
variable (hT: ∀a c,a < n→c < m→uN (T a c)) (hm:n < m) (hn:n≤1000) (hm2:m≤1000)
include hT hm hn hm2
theorem key_eq {i k:Nat} (hi:i < n) (hk:k < n) {a b:Int} (ha:uN a) (hb:uN b) (den:Int) (bs:List Int):Ev (fun q=>ou.f q (nP n m T) den bs (i:Int) (k:Int) a b) (kl T i k a b (qL n m)):=by
 have loop: ∀q j,j+q=n→ ∀x y:Int,Ev (fun f=>ou.l0 f (i:Int) (k:Int) a b (n:Int) x y (j:Int) (nP n m T) den bs) (if x=y then kl T i k a b (List.range' j q) else decide (x < y)):=by
  intro q
  induction q with
  | zero=>
   intro j hj x y
   refine mC (fun f=>by rw [ou.l0]) (lV (by omega) (oK ?_))
   by_cases e:x=y
   ·rw [if_pos e];subst e;simp [List.range',kl]
   ·rw [if_neg e]
  | succ q ih=>
   intro j hj x y
   refine mC (fun f=>by rw [ou.l0]) (cY (by omega) ?_)
   by_cases e:x=y
   ·rw [zB hi,zB hk,qh,qh,sA]
    refine cY e (cY (by omega) (cY (by omega) (cY (by omega) (cY (by omega) (cY (by omega) (cY (by omega) (cY (by omega) ?_)))))))
    rw [Cy (by omega),Cy (by omega),wB (hT i j hi (by omega)) hb,wB (hT k j hk (by omega)) ha,nH (x:=(j:Int)+1) (by omega) (by omega),if_pos e,List.range'_succ,Yu]
    exact ih (j+1) (by omega) _ _
   ·rw [if_neg e]
    exact lV e (oK rfl)
 unfold ou.f
 rw [zB hi,zB hk,qh,qh,sA,nH (x:=(m:Int) - 1) (by omega) (by omega),show (m:Int) - 1=((m - 1:Nat):Int) from by omega]
 refine cY (by omega) (cY (by omega) (cY (by omega) (cY (by omega) (cY (by omega) (cY (by omega) (cY (by omega) ?_))))))
 rw [Cy (by omega),Cy (by omega),wB (hT i _ hi (by omega)) hb,wB (hT k _ hk (by omega)) ha]
 have e:qL n m=(m - 1)::List.range' 0 n:=by unfold qL;rw [List.range_eq_range']
 rw [e,Yu]
 exact loop n 0 (by omega) _ _
def aac:Option Nat→Int
 | none=> -1
 | some r=>(r:Int)
theorem aiD (s:TS) (hs:s.T=T) {v:Nat} (hv:v < m) (den:Int) (bs:List Int):Ev (fun q=>mZ.f q (nP n m T) den bs (v:Int)) (aac (qC n m s (fun i=>T i v))):=by
 have loop: ∀q j,j+q=n→ ∀o:Option Nat,(∀r,o=some r→r < n∧0 < T r v)→Ev (fun f=>mZ.l0 f (v:Int) (aac o) (j:Int) (nP n m T) den bs) (aac (xH (fun i=>T i v) (fun i j=>kl T i j (T i v) (T j v) (qL n m)) (List.range' j q) o)):=by
  intro q
  induction q with
  | zero=>
   intro j hj o ho
   exact mC (fun f=>by rw [mZ.l0]) (by rw [sA];exact lV (by omega) (oK rfl))
  | succ q ih=>
   intro j hj o ho
   refine mC (fun f=>by rw [mZ.l0]) ?_
   rw [zB (show j < n by omega),qh,sA,Cy hv]
   refine cY (by omega) (cY (by omega) (cY (by omega) (cY (by omega) ?_)))
   rw [nH (x:=(j:Int)+1) (by omega) (by omega),List.range'_succ]
   show Ev _ (aac (xH _ _ (List.range' (j+1) q) (if 0 < T j v∧Hq _ j o=true then some j else o)))
   by_cases c:0 < T j v
   ·refine cY (by omega) ?_
    cases o with
    | none=>
     rw [if_pos ⟨c,rfl⟩]
     exact cY (by decide) (ih (j+1) (by omega) (some j) (fun r hr=>by cases hr;exact⟨by omega,c⟩))
    | some r=>
     obtain⟨hr,hr2⟩:=ho r rfl
     refine lV (by show ¬ (r:Int) < 0;omega) (cY (by show 0≤(r:Int);omega) (cY (by show (r:Int) < _;omega) ?_))
     show Ev (fun f=>if(v:Int) < ((d5 (nP n m T) (r:Int)).length:Int) then((ou.f f (nP n m T) den bs (j:Int) (r:Int) (T j v) (rd (d5 (nP n m T) (r:Int)) (v:Int))).bind fun aa=>if aa=true then _ else _) else _) _
     rw [zB hr,qh,Cy hv]
     refine cY (by omega) (oH (key_eq hT hm hn hm2 (show j < n by omega) hr (hT j v (by omega) hv) (hT r v hr hv) den bs) ?_)
     by_cases d:kl T j r (T j v) (T r v) (qL n m)=true
     ·rw [if_pos ⟨c,d⟩]
      exact cY d (ih (j+1) (by omega) (some j) (fun r hr=>by cases hr;exact⟨by omega,c⟩))
     ·rw [if_neg (fun h=>d h.2)]
      exact lV d (ih (j+1) (by omega) (some r) ho)
   ·rw [if_neg (fun h=>c h.1)]
    exact lV (by omega) (ih (j+1) (by omega) o ho)
 unfold mZ.f
 have h:=loop n 0 (by omega) none (fun r hr=>by cases hr)
 unfold qC
 rw [List.range_eq_range',hs]
 exact h
end
theorem VK {n m:Nat} {T:lE} {i j:Nat} (hi:i < n) (hj:j < m):m9 (nP n m T) i j=T i j:=by
 unfold m9
 rw [yU hi,Ql hj]
theorem aaT {T T':lE} {n m r v:Nat} (h: ∀i j,i < n→j < m→T i j=T' i j) (hr:r < n) (hv:v < m) (den:Int) {i j:Nat} (hi:i < n) (hj:j < m):AJ T den r v i j=AJ T' den r v i j:=by
 unfold AJ Fq VI
 rw [h r v hr hv,h r j hr hj,h i j hi hj,h i v hi hv]
theorem U1 {n m:Nat} {s:TS} {r v:Nat} (hr:r < n) (hv:v < m) (hl:s.bs.length=n) (hn:n≤1000) (hm2:m≤1000) (hd:s.den≠0):sE.f (nP n m s.T) s.den s.bs (r:Int) (v:Int)=some (nP n m (s.step r v).T,(s.step r v).den,(s.step r v).bs):=by
 have h0:((nP n m s.T).headD []).length=m:=by
  rw [show (nP n m s.T).headD []=(nP n m s.T).getD 0 [] from by cases nP n m s.T <;> rfl,yU (by omega),qh]
 unfold sE.f
 rw [h0,sA,if_pos ⟨by omega,by omega,by omega,by omega,by omega,by
  rw [List.all_eq_true]
  intro x hx
  unfold nP at hx
  obtain⟨a,_,rfl⟩:=List.mem_map.1 hx
  simp [qh],hn,hm2,by omega,hd⟩]
 rw [Int.toNat_natCast,Int.toNat_natCast,yH (Z:=AJ s.T s.den r v) (fun i j hi hj=>aaT (fun i j hi hj=>VK hi hj) hr hv s.den hi hj)]
 have e:Ch (m9 (nP n m s.T)) r v=Ch s.T r v:=by unfold Ch;rw [VK hr hv]
 rw [e];rfl
theorem ae3 {n:Nat} {M:List (List Int)} {cv Q:List Int} (hM:M.length=n) (hQ:Q.length=n) (hr: ∀x ∈ M,x.length=n) (hcv:cv.length=n) (hn:0 < n) (hn2:n≤5) (hMb: ∀i k,i < n→k < n→((m9 M) i k).natAbs≤20) (hcb: ∀i,i < n→0 < cv.getD i 0∧cv.getD i 0≤20):
  Ev (fun k=>iu.f k M Q cv) (nP n (2*n+2) (nD n (m9 M) (fun i=>cv.getD i 0) (fun i=>Q.getD i 0)),1,pE n):=by
 obtain⟨T,hT⟩: ∃T,nD n (m9 M) (fun i=>cv.getD i 0) (fun i=>Q.getD i 0)=T:=⟨_,rfl⟩
 rw [hT]
 have hid: ∀i,(pE i).length=i:=fun i=>by simp [pE]
 have ans: ∀i,pE (i+1)=pE i++ [(i:Int)]:=fun i=>by unfold pE;rw [List.range_succ,List.map_append];rfl
 have loop: ∀q i,i+q=n→Ev (fun k=>iu.l0 k cv (n:Int) (i:Int) M Q (nP i (2*n+2) T) 1 (pE i)) (nP n (2*n+2) T,1,pE n):=by
  intro q
  induction q with
  | zero=>
   intro i hi
   obtain rfl:i=n:=by omega
   exact mC (fun k=>by rw [iu.l0]) (lV (by omega) (oK rfl))
  | succ q ih=>
   intro i hi
   refine mC (fun k=>by rw [iu.l0]) (cY (by omega) ?_)
   have RA:(M.getD i []).length=n:=hr _ (by rw [List.getD_eq_getElem?_getD,List.getElem?_eq_getElem (by omega)];exact List.getElem_mem _)
   have akW: ∀p j,j+p=n→Ev (fun k=>iu.l2 k cv (n:Int) (i:Int) (qU T i (n+j)) (j:Int) M Q (nP i (2*n+2) T) 1 (pE i)) (nP n (2*n+2) T,1,pE n):=by
    intro p
    induction p with
    | zero=>
     intro j hj
     obtain rfl:j=n:=by omega
     refine mC (fun k=>by rw [iu.l2]) ?_
     rw [qh,sA,hid]
     refine lV (by omega) (cY (by omega) (cY (by omega) (cY (by omega) (cY (by omega) (qW rfl ?_)))))
     refine cY (by omega) (cY (by rw [List.length_append,qh];show j+j+1 < _;omega) (cY (by omega) (cY (by omega) ?_)))
     have hc:=hcb i (by omega)
     have e1:T i (j+j)= - cv.getD i 0:=by rw [← hT];unfold nD;rw [if_neg (by omega),if_neg (by omega),if_pos (by omega)]
     have e2:T i (j+j+1)=Q.getD i 0:=by rw [← hT];unfold nD;rw [if_neg (by omega),if_neg (by omega),if_neg (by omega)]
     rw [rT,rT,nH (x:= -(cv.getD i 0)) (by omega) (by omega), ← e1, ← yV, ← e2, ← yV,nH (x:=(i:Int)+1) (by omega) (by omega), ← ans,show j+j+1+1=2*j+2 from by omega, ← OY]
     exact ih (i+1) (by omega)
    | succ p Bq=>
     intro j hj
     have hb:=hMb i j (by omega) (by omega)
     have e1:T i (n+j)= - (M.getD i []).getD j 0:=by rw [← hT];unfold nD;rw [if_neg (by omega),if_pos (by omega),show n+j - n=j from by omega];rfl
     have hb2:((M.getD i []).getD j 0).natAbs≤20:=hb
     refine mC (fun k=>by rw [iu.l2]) ?_
     rw [rd1,RA,qh]
     refine cY (by omega) (cY (by omega) (cY (by omega) (cY (by omega) (cY (by omega) (cY (by omega) ?_)))))
     rw [rT,nH (x:= -((M.getD i []).getD j 0)) (by omega) (by omega), ← e1, ← yV,nH (x:=(j:Int)+1) (by omega) (by omega)]
     exact Bq (j+1) (by omega)
   have akX: ∀p j,j+p=n→Ev (fun k=>iu.l1 k cv (n:Int) (i:Int) (qU T i j) (j:Int) M Q (nP i (2*n+2) T) 1 (pE i)) (nP n (2*n+2) T,1,pE n):=by
    intro p
    induction p with
    | zero=>
     intro j hj
     obtain rfl:j=n:=by omega
     refine mC (fun k=>by rw [iu.l1]) (lV (by omega) ?_)
     exact akW j 0 (by omega)
    | succ p Bq=>
     intro j hj
     have e1:T i j=if j=i then 1 else 0:=by rw [← hT];unfold nD;rw [if_pos (by omega)]
     refine mC (fun k=>by rw [iu.l1]) (cY (by omega) ?_)
     rw [qh,nH (x:=(j:Int)+1) (by omega) (by omega)]
     by_cases c:j=i
     ·rw [if_pos c] at e1
      refine cY (by omega) (cY (by omega) ?_)
      rw [show qU T i j++ [1]=qU T i (j+1) from by rw [yV,e1]]
      exact Bq (j+1) (by omega)
     ·rw [if_neg c] at e1
      refine lV (by omega) (cY (by omega) ?_)
      rw [show qU T i j++ [0]=qU T i (j+1) from by rw [yV,e1]]
      exact Bq (j+1) (by omega)
   exact akX n 0 (by omega)
 unfold iu.f
 rw [hQ]
 exact loop n 0 (by omega)
end Go.Proofs.YthmfdplckdijdaaGreat.uF
end
section
namespace Go.Proofs.YthmfdplckdijdaaGreat.Pr
open Go.RowKit Wz.cw Wz.fX Wz.cX
attribute [local go_sem] nV nT oF oD nC nB nU nS
mutual
def d7.l0:Nat→List Int→Int→Int→List (List Int)→Bool→Int→Int→List (List Int)→List Int→List (List Int)→Int→List Int→Option ((List (List Int)) × Int × List Int × (List (List Int)) × Int × Bool)
 | 0,_,_,_,_,_,_,_,_,_,_,_,_=>none
 | k+1,x1,x2,sS,tC,wP,rQ,tB,ah,ag,ae,af,aa=>if tB < (ag.length:Int) then(if wP=true then(if 0≤tB then(if tB < (x1.length:Int) then(if 0≤rQ then(if rQ < (x1.length:Int) then((ou.f k ae af aa tB rQ (rd x1 tB) (rd x1 rQ)).bind fun aq=>(if aq=true then(d7.l0 k x1 x2 sS tC true tB (wrap64 (tB+1)) ah ag ae af aa) else(d7.l0 k x1 x2 sS tC true rQ (wrap64 (tB+1)) ah ag ae af aa))) else(none)) else(none)) else(none)) else(none)) else(if 0≤tB then(if tB < (x1.length:Int) then(if 0≤rQ then(if rQ < (x1.length:Int) then((ou.f k ae af aa tB rQ (rd x1 tB) (rd x1 rQ)).bind fun au=>(if au=true then(d7.l0 k x1 x2 sS tC (decide ((rd ag tB) < 0)) tB (wrap64 (tB+1)) ah ag ae af aa) else(d7.l0 k x1 x2 sS tC (decide ((rd ag tB) < 0)) rQ (wrap64 (tB+1)) ah ag ae af aa))) else(none)) else(none)) else(none)) else(none))) else(if wP=true then(d7.l1 k x2 sS tC rQ (wrap64 (2*sS)) ae af aa) else(some (ae,af,aa,tC,(-1),true)))
def d7.l1:Nat→Int→Int→List (List Int)→Int→Int→List (List Int)→Int→List Int→Option ((List (List Int)) × Int × List Int × (List (List Int)) × Int × Bool)
 | 0,_,_,_,_,_,_,_,_=>none
 | k+1,x2,sS,tC,rQ,wO,ae,af,aa=>if(tC.length:Int) < x2 then(if wO < (wrap64 (2*sS)) then((mZ.f k ae af aa wO).bind fun aj=>(if aj < 0 then(some (ae,af,aa,tC,wO,false)) else(d7.j2 k x2 sS tC aj wO ae af aa))) else(d7.j2 k x2 sS tC rQ wO ae af aa)) else(some (ae,af,aa,tC,wO,false))
def d7.j2:Nat→Int→Int→List (List Int)→Int→Int→List (List Int)→Int→List Int→Option ((List (List Int)) × Int × List Int × (List (List Int)) × Int × Bool)
 | 0,_,_,_,_,_,_,_,_=>none
 | k+1,x2,sS,tC,rQ,wO,ae,af,aa=>if 0≤rQ then(if rQ < (aa.length:Int) then(if tC.length < 5864062014805 then((some (tC++ [(([wO,rd aa rQ]:List Int))]:List (List Int))).bind fun ak=>((sE.f ae af aa rQ wO).bind fun ai=>(if(rd aa rQ)=(wrap64 (2*sS)) then(some (ai.1,ai.2.1,ai.2.2,ak,(-1),true)) else((rS.f (rd aa rQ) sS).bind fun av=>(d7.l1 k x2 sS ak rQ av ai.1 ai.2.1 ai.2.2))))) else(none)) else(none)) else(none)
end
def d7.f (k:Nat) (af:List (List Int)) (ae:List Int) (l1:List Int) (a2:Int):Option ((List (List Int)) × Int × List Int × (List (List Int)) × Int × Bool):=(iu.f k af ae l1).bind fun aa=>(d7.l0 k l1 a2 (ae.length:Int) (([]:List (List Int))) false 0 0 af ae aa.1 aa.2.1 aa.2.2)
def d7.T1:Bool × List (List Nat × List Nat):=(true, [([], []),([], []),([0,1], [0,1]),([], []),([3], [3]),([4], [4]),([], []),([], []),([7,2,2,0,1,2,7], [2,7]),([5,8,0,1,2,3,4,5,7,8], [5]),([6,9,0,1,2,3,4,5,6,7,8,9], [6])])
def d7.B1:List Nat:= [0,0,3,0,8,24,0,0,135,447,1023]
theorem d7.amT:sy .any (opsOf Tryz.f65 1)=d7.T1:=by kernel_rfl
theorem d7.alw:tD d7.T1.2 d7.B1=true:=by kernel_rfl
def d7.T7:Bool × List (List Nat × List Nat):=(true, [([], []),([], []),([], []),([], []),([], []),([3,4], [3,4]),([5], [5]),([], []),([], []),([7,8], [7,8]),([9], [9]),([0,1,2,6,10], [0,1,2,6,10])])
def d7.B7:List Nat:= [0,0,0,0,0,24,56,0,0,384,896,2047]
theorem d7.Zx:sy .any (opsOf Tryz.f65 7)=d7.T7:=by kernel_rfl
theorem d7.Sy:tD d7.T7.2 d7.B7=true:=by kernel_rfl
theorem d7.calls (k:Nat) (aN:Option Addr) (aT:Nat) (aC:List (List Int)) (aU:Option Addr) (aV:Nat) (aq:List Int) (A1:Option Addr) (c1:Nat) (l1:List Int) (a2:Int) (r1:List (List Int)) (r2:Int) (r3:List Int) (r4:List (List Int)) (r5:Int) (r6:Bool) (w:World) (eL:Kd.C (Kd.slice 2 (Kd.int .i64)) w aN aC.length aC) (eM:aC.length≤aT) (eO:Kd.C (Kd.int .i64) w aU aq.length aq) (eP:aq.length≤aV) (hr1:Kd.C (Kd.int .i64) w A1 l1.length l1) (hc1:l1.length≤c1) (h:d7.f k aC aq l1 a2=some (r1,r2,r3,r4,r5,r6)):
  Calls Tryz.prog 65 #[.agg #[.slice aN aC.length aT, .slice aU aq.length aV], .slice A1 l1.length c1, .int .i64 a2] w fun e w'=> ∃qg Hi v3_:Value,e= .returned (.tuple #[.agg #[qg, .int .i64 r2,Hi],v3_, .int .i64 r5, .bool r6])∧Kd.S (Kd.slice 2 (Kd.int .i64)) 24 w' w.heap.size (fun k_=>some k_≠(Hi:Value).ownBlock∧some k_≠(v3_:Value).ownBlock) qg r1∧Kd.R (Kd.int .i64) 2 w' w.heap.size (fun _=>True) Hi r3∧Kd.S (Kd.slice 2 (Kd.int .i64)) 24 w' w.heap.size (fun k_=>some k_≠(qg:Value).ownBlock∧some k_≠(Hi:Value).ownBlock) v3_ r4∧Below w.heap.size w w':=by
 have CY:=Tryz.underlying34;have Dp:=Tryz.underlying107;have mR:=q_ eL;have oh:=q_ eM;clear eL eM;have ox:=q_ eO;have oR:=q_ eP;clear eO eP;have pR:=q_ hr1;have qy:=q_ hc1;clear hr1 hc1;have HB:=q_ (Below.refl w.heap.size w);have H:((iu.f k aC aq l1).bind fun dX=>(d7.l0 k l1 a2 (aq.length:Int) (([]:List (List Int))) false 0 0 aC aq dX.1 dX.2.1 dX.2.2))=some (r1,r2,r3,r4,r5,r6):=h;clear h;replace H:=Option.bind_eq_some_iff.mp H;obtain⟨⟨aJ,aK,aM⟩,Bo,H⟩:=H;replace H:(d7.l0 k l1 a2 (aq.length:Int) (([]:List (List Int))) false 0 0 aC aq aJ aK aM)=some (r1,r2,r3,r4,r5,r6):=H;have A4:=q_ Bo;clear Bo;obtain⟨bw,hy⟩: ∃y_:List (List Int),y_=(([]:List (List Int))):=⟨_,rfl⟩
 replace H:(d7.l0 k l1 a2 (aq.length:Int) bw false 0 0 aC aq aJ aK aM)=some (r1,r2,r3,r4,r5,r6):=hh_;have bQ:=q_ hy;clear hy;have H':=q_ H;clear H
 go_enter Tryz.func65,Tryz.ntmps65
 try go_wp2_with (first | ((with_reducible refine dg (N:=3) rfl ?_);refine nR 3 #[.slice aN aC.length aT, .slice aU aq.length aV] 34 ?_;intro au hg w5 cM hb;have af:=q_ (cM);have kH:=mq w hg;have kI:=mq w hg;replace HB:=lT hb;clear hb cM hg) | ((with_reducible refine dg (N:=6) rfl ?_);refine nR 6 #[.slice none 0 0, .int .i64 0, .slice none 0 0] 107 ?_;intro ak hg w6 cM hb;have ai:=q_ (cM);have kJ:=mq w hg;have kK:=mq w hg;have bF:=r7 hg af;have bG:=rY hg af;replace af:=lZ af hb;replace HB:=lT hb;clear hb cM hg))
 replace af:=q_ (mI af.out);replace ai:=q_ (mI ai.out);replace HB:=q_ (mS HB.out);refine qx (n:=11) (S:=fun w'=>w'.cell? ⟨au,0,none⟩=some (.slice aN aC.length aT)∧w'.cell? ⟨au,1,none⟩=some (.slice aU aq.length aV)) (ds:= []) ⟨(bp af.out 0).trans rfl,(bp af.out 1).trans rfl⟩ (fun hHeld=>?_);refine o9 d7.amT d7.alw (fun pL xA=>?_)
 generalize w6.drew=w7 at af ai HB hHeld ⊢
 refine sU 1 19 3 21 ?_;refine mg 0 18 ?_;refine mg 4 22 ?_;refine lX 5 23 ?_
 refine zR (σ:=Value × Value × Value × Nat) 1 (fm 11 1023) (fun s_=> [(20, .agg #[s_.1, .int .i64 aK,s_.2.1]),(24,s_.2.2.1),(10, .pointer (some ⟨s_.2.2.2,0,none⟩)),(11, .int .i64 (aq.length:Int))]) (fun s_ w'=>(w'.cell? ⟨au,0,none⟩=some (.slice aN aC.length aT)∧w'.cell? ⟨au,1,none⟩=some (.slice aU aq.length aV))∧(Kd.S (Kd.slice 2 (Kd.int .i64)) 24 w' w.heap.size (fun k_=>some k_≠(s_.2.1:Value).ownBlock∧some k_≠(s_.2.2.1:Value).ownBlock) s_.1 aJ)∧(Kd.R (Kd.int .i64) 2 w' w.heap.size (fun _=>True) s_.2.1 aM)∧(Kd.S (Kd.slice 2 (Kd.int .i64)) 24 w' w.heap.size (fun k_=>some k_≠(s_.1:Value).ownBlock∧some k_≠(s_.2.1:Value).ownBlock) s_.2.2.1 bw)∧(w'.heap[au]?=some (.cells #[.slice aN aC.length aT, .slice aU aq.length aV] 34 (0,0)))∧(w'.heap[ak]?=some (.cells #[.slice none 0 0, .int .i64 0, .slice none 0 0] 107 (0,0)))∧(w'.heap[s_.2.2.2]?=some (.cells #[s_.1, .int .i64 aK,s_.2.1] 107 (0,0)))∧(w.heap.size≤s_.2.2.2)∧(w.heap.size≤s_.2.2.2)∧(au≠s_.2.2.2)∧(s_.2.2.2≠au)∧(ak≠s_.2.2.2)∧(s_.2.2.2≠ak)∧(Below w.heap.size w w')) ?_ ?_
 rotate_left
 ·intro dw;refine zR (σ:=Value × Value × Value × Nat) 3 (fm 11 255) (fun s_=> [(20, .agg #[s_.1, .int .i64 aK,s_.2.1]),(24,s_.2.2.1),(10, .pointer (some ⟨s_.2.2.2,0,none⟩))]) (fun s_ w'=>(w'.cell? ⟨au,0,none⟩=some (.slice aN aC.length aT)∧w'.cell? ⟨au,1,none⟩=some (.slice aU aq.length aV))∧(Kd.S (Kd.slice 2 (Kd.int .i64)) 24 w' w.heap.size (fun k_=>some k_≠(s_.2.1:Value).ownBlock∧some k_≠(s_.2.2.1:Value).ownBlock) s_.1 aJ)∧(Kd.R (Kd.int .i64) 2 w' w.heap.size (fun _=>True) s_.2.1 aM)∧(Kd.S (Kd.slice 2 (Kd.int .i64)) 24 w' w.heap.size (fun k_=>some k_≠(s_.1:Value).ownBlock∧some k_≠(s_.2.1:Value).ownBlock) s_.2.2.1 bw)∧(w'.heap[au]?=some (.cells #[.slice aN aC.length aT, .slice aU aq.length aV] 34 (0,0)))∧(w'.heap[ak]?=some (.cells #[.slice none 0 0, .int .i64 0, .slice none 0 0] 107 (0,0)))∧(w'.heap[s_.2.2.2]?=some (.cells #[.slice none 0 0, .int .i64 0, .slice none 0 0] 107 (0,0)))∧(w.heap.size≤s_.2.2.2)∧(w.heap.size≤s_.2.2.2)∧(au≠s_.2.2.2)∧(s_.2.2.2≠au)∧(ak≠s_.2.2.2)∧(s_.2.2.2≠ak)∧(Below w.heap.size w w')) ?_ ?_
  rotate_left
  ·intro db;refine zR (σ:=Value × Value × Nat) 2 (fm 11 959) (fun s_=> [(20, .agg #[s_.1, .int .i64 aK,s_.2.1]),(10, .pointer (some ⟨s_.2.2,0,none⟩)),(11, .int .i64 (aq.length:Int))]) (fun s_ w'=>(w'.cell? ⟨au,0,none⟩=some (.slice aN aC.length aT)∧w'.cell? ⟨au,1,none⟩=some (.slice aU aq.length aV))∧(Kd.S (Kd.slice 2 (Kd.int .i64)) 24 w' w.heap.size (fun k_=>some k_≠(s_.2.1:Value).ownBlock) s_.1 aJ)∧(Kd.R (Kd.int .i64) 2 w' w.heap.size (fun _=>True) s_.2.1 aM)∧(w'.heap[au]?=some (.cells #[.slice aN aC.length aT, .slice aU aq.length aV] 34 (0,0)))∧(w'.heap[ak]?=some (.cells #[.slice none 0 0, .int .i64 0, .slice none 0 0] 107 (0,0)))∧(w'.heap[s_.2.2]?=some (.cells #[s_.1, .int .i64 aK,s_.2.1] 107 (0,0)))∧(w.heap.size≤s_.2.2)∧(w.heap.size≤s_.2.2)∧(au≠s_.2.2)∧(s_.2.2≠au)∧(ak≠s_.2.2)∧(s_.2.2≠ak)∧(Below w.heap.size w w')) ?_ ?_
   rotate_left
   ·intro eW;refine zR (σ:=Value × Value × Value) 4 (fm 11 127) (fun s_=> [(20, .agg #[s_.1, .int .i64 aK,s_.2.1]),(24,s_.2.2)]) (fun s_ w'=>(w'.cell? ⟨au,0,none⟩=some (.slice aN aC.length aT)∧w'.cell? ⟨au,1,none⟩=some (.slice aU aq.length aV))∧(Kd.S (Kd.slice 2 (Kd.int .i64)) 24 w' w.heap.size (fun k_=>some k_≠(s_.2.1:Value).ownBlock∧some k_≠(s_.2.2:Value).ownBlock) s_.1 aJ)∧(Kd.R (Kd.int .i64) 2 w' w.heap.size (fun _=>True) s_.2.1 aM)∧(Kd.S (Kd.slice 2 (Kd.int .i64)) 24 w' w.heap.size (fun k_=>some k_≠(s_.1:Value).ownBlock∧some k_≠(s_.2.1:Value).ownBlock) s_.2.2 bw)∧(w'.heap[au]?=some (.cells #[.slice aN aC.length aT, .slice aU aq.length aV] 34 (0,0)))∧(w'.heap[ak]?=some (.cells #[.slice none 0 0, .int .i64 0, .slice none 0 0] 107 (0,0)))∧(Below w.heap.size w w')) ?_ ?_
    rotate_left
    ·intro eQ;refine zR (σ:=Value × Value × Nat) 4 (fm 11 191) (fun s_=> [(20, .agg #[s_.1, .int .i64 aK,s_.2.1]),(10, .pointer (some ⟨s_.2.2,0,none⟩))]) (fun s_ w'=>(w'.cell? ⟨au,0,none⟩=some (.slice aN aC.length aT)∧w'.cell? ⟨au,1,none⟩=some (.slice aU aq.length aV))∧(Kd.S (Kd.slice 2 (Kd.int .i64)) 24 w' w.heap.size (fun k_=>some k_≠(s_.2.1:Value).ownBlock) s_.1 aJ)∧(Kd.R (Kd.int .i64) 2 w' w.heap.size (fun _=>True) s_.2.1 aM)∧(w'.heap[au]?=some (.cells #[.slice aN aC.length aT, .slice aU aq.length aV] 34 (0,0)))∧(w'.heap[ak]?=some (.cells #[.slice none 0 0, .int .i64 0, .slice none 0 0] 107 (0,0)))∧(w'.heap[s_.2.2]?=some (.cells #[.slice none 0 0, .int .i64 0, .slice none 0 0] 107 (0,0)))∧(w.heap.size≤s_.2.2)∧(w.heap.size≤s_.2.2)∧(au≠s_.2.2)∧(s_.2.2≠au)∧(ak≠s_.2.2)∧(s_.2.2≠ak)∧(Below w.heap.size w w')) ?_ ?_
     rotate_left
     ·intro eS;refine zR (σ:=Value × Nat) 4 (fm 11 251) (fun s_=> [(24,s_.1),(10, .pointer (some ⟨s_.2,0,none⟩))]) (fun s_ w'=>(w'.cell? ⟨au,0,none⟩=some (.slice aN aC.length aT)∧w'.cell? ⟨au,1,none⟩=some (.slice aU aq.length aV))∧(Kd.S (Kd.slice 2 (Kd.int .i64)) 24 w' w.heap.size (fun _=>True) s_.1 bw)∧(w'.heap[au]?=some (.cells #[.slice aN aC.length aT, .slice aU aq.length aV] 34 (0,0)))∧(w'.heap[ak]?=some (.cells #[.slice none 0 0, .int .i64 0, .slice none 0 0] 107 (0,0)))∧(w'.heap[s_.2]?=some (.cells #[.slice none 0 0, .int .i64 0, .slice none 0 0] 107 (0,0)))∧(w.heap.size≤s_.2)∧(w.heap.size≤s_.2)∧(au≠s_.2)∧(s_.2≠au)∧(ak≠s_.2)∧(s_.2≠ak)∧(Below w.heap.size w w')) ?_ ?_
      rotate_left
      ·intro eT;refine zR (σ:=Value × Value) 5 (fm 11 63) (fun s_=> [(20, .agg #[s_.1, .int .i64 aK,s_.2])]) (fun s_ w'=>(w'.cell? ⟨au,0,none⟩=some (.slice aN aC.length aT)∧w'.cell? ⟨au,1,none⟩=some (.slice aU aq.length aV))∧(Kd.S (Kd.slice 2 (Kd.int .i64)) 24 w' w.heap.size (fun k_=>some k_≠(s_.2:Value).ownBlock) s_.1 aJ)∧(Kd.R (Kd.int .i64) 2 w' w.heap.size (fun _=>True) s_.2 aM)∧(w'.heap[au]?=some (.cells #[.slice aN aC.length aT, .slice aU aq.length aV] 34 (0,0)))∧(w'.heap[ak]?=some (.cells #[.slice none 0 0, .int .i64 0, .slice none 0 0] 107 (0,0)))∧(Below w.heap.size w w')) ?_ ?_
       rotate_left
       ·intro jZ;refine zR (σ:=Value) 5 (fm 11 123) (fun s_=> [(24,s_)]) (fun s_ w'=>(w'.cell? ⟨au,0,none⟩=some (.slice aN aC.length aT)∧w'.cell? ⟨au,1,none⟩=some (.slice aU aq.length aV))∧(Kd.S (Kd.slice 2 (Kd.int .i64)) 24 w' w.heap.size (fun _=>True) s_ bw)∧(w'.heap[au]?=some (.cells #[.slice aN aC.length aT, .slice aU aq.length aV] 34 (0,0)))∧(w'.heap[ak]?=some (.cells #[.slice none 0 0, .int .i64 0, .slice none 0 0] 107 (0,0)))∧(Below w.heap.size w w')) ?_ ?_
        rotate_left
        ·intro j3;refine zR (σ:=Nat) 5 (fm 11 187) (fun s_=> [(10, .pointer (some ⟨s_,0,none⟩))]) (fun s_ w'=>(w'.cell? ⟨au,0,none⟩=some (.slice aN aC.length aT)∧w'.cell? ⟨au,1,none⟩=some (.slice aU aq.length aV))∧(w'.heap[au]?=some (.cells #[.slice aN aC.length aT, .slice aU aq.length aV] 34 (0,0)))∧(w'.heap[ak]?=some (.cells #[.slice none 0 0, .int .i64 0, .slice none 0 0] 107 (0,0)))∧(w'.heap[s_]?=some (.cells #[.slice none 0 0, .int .i64 0, .slice none 0 0] 107 (0,0)))∧(w.heap.size≤s_)∧(w.heap.size≤s_)∧(au≠s_)∧(s_≠au)∧(ak≠s_)∧(s_≠ak)∧(Below w.heap.size w w')) ?_ ?_
         rotate_left
         ·intro j4;refine aiv (i:=2) (j:=6) (k:=7) (Ni:=some 20) (Nj:=some 24) (Nk:=some 10) (fm 11 63) (fm 11 123) (fm 11 187) rfl rfl rfl rfl rfl rfl (acL pL.out (by kernel_rfl)) (by decide) (by decide) (by decide) (fun K hK=>?_) (fun K hK=>?_) (fun K hK=>?_)
          ·skip
           refine sH Tryz.func107 (by kernel_rfl) rfl #[.agg #[.slice aN aC.length aT, .slice aU aq.length aV], .slice A1 l1.length c1] (by rfl) rfl rfl (by(try simp only [List.map_toArray,List.map_cons,List.map_nil]);first | done | rfl | (simp only [List.length_drop,List.length_take];rfl)) ?_
           with_reducible refine(iu.calls k _ _ aC _ _ aq _ _ l1 aJ aK aM _ ?bi ?bn ?bq ?bu ?cn ?ct A4.out).mono ?_
           (case bi=>exact ni mR.out HB.out)
           (case bn=>exact oh.out)
           (case bq=>exact ni ox.out HB.out)
           (case bu=>exact oR.out)
           (case cn=>exact ni pR.out HB.out)
           (case ct=>exact qy.out)
           rintro e w8 ⟨bg,aY,rfl,ho0,ho1,hb⟩;refine⟨_,rfl,?_⟩
           have aW:=q_ (Kd.oP ho0 oI);have aX:=q_ (Kd.ng ho1 oI);replace af:=lZ af hb;replace ai:=lZ ai hb;replace HB:=lT hb;(try clear hb)
           
           (try clear hk)
           
           (try clear ho0);(try clear ho1);refine hK.out _ _ ⟨(bp af.out 0).trans rfl,(bp af.out 1).trans rfl⟩ (fun hHeld=>?_)
           clear hK K;refine mP (a':=?_) ?_ ?_
           rotate_left
           ·show Act.put _ (some 20) _=_
            simp only [Act.put,List.setIfInBounds_toArray,List.set_cons_zero,List.set_cons_succ,mT,nr]
            rfl
           exact nm_ (jZ (bg,aY) _ ⟨hHeld,(nw aW.out),(m5 aX.out),nj,nj,hb_⟩)
          ·skip
           refine Kd.Bf (Kd.slice 2 (Kd.int .i64)) _ 24 ?hg (N:=24) ?hd (xs:=([]:List (List Int))) (inner:= []) (ok:=fun _=>True) (oC:=fun _=>True) ?hr ?hp (fun _ hk=>hk) trivial (Below.refl _ _) (Nat.le_refl _) (by simp) ?_;(case hd=>rfl);(case hg=>rfl);(case hr=>first | (go_simp;done) | (go_simp;rfl));(case hp=>exact(mV.none _ _))
           intro bv w8 ho9 hb hg_ om;clear hg_ om
           (first | rw [← bQ.out] at ho9 | (simp only [Int.reduceToNat] at ho9;rw [← bQ.out] at ho9))
           have aZ:=q_ (Kd.oP ho9 oI);replace af:=lZ af hb;replace ai:=lZ ai hb;replace HB:=lT hb;clear hb ho9;refine hK.out _ _ ⟨(bp af.out 0).trans rfl,(bp af.out 1).trans rfl⟩ (fun hHeld=>?_)
           clear hK K;refine mP (a':=?_) ?_ ?_
           rotate_left
           ·show Act.put _ (some 24) _=_
            simp only [Act.put,List.setIfInBounds_toArray,List.set_cons_zero,List.set_cons_succ,mT,nr]
            rfl
           exact nm_ (j3 (bv) _ ⟨hHeld,(nw aZ.out),nj,nj,hb_⟩)
          ·skip
           refine rP ?hg (N:=10) ?hd (cs:= #[.slice none 0 0, .int .i64 0, .slice none 0 0]) (t:=107) ?hr ?_;(case hd=>rfl);(case hg=>rfl);(case hr=>first | (go_simp;done) | (go_simp;rfl))
           intro aa hg w8 cM hb;have ae:=q_ (cM);have bz:=mq w hg;have bA:=mq w hg;have av:=r7 hg af;have az:=rY hg af;have ax:=r7 hg ai;have aG:=rY hg ai;replace af:=lZ af hb;replace ai:=lZ ai hb;replace HB:=lT hb;clear hb cM hg;refine hK.out _ _ ⟨(bp af.out 0).trans rfl,(bp af.out 1).trans rfl⟩ (fun hHeld=>?_)
           clear hK K;refine mP (a':=?_) ?_ ?_
           rotate_left
           ·show Act.put _ (some 10) _=_
            simp only [Act.put,List.setIfInBounds_toArray,List.set_cons_zero,List.set_cons_succ,mT,nr]
            rfl
           exact nm_ (j4 (aa) _ ⟨hHeld,nj,nj,nj,bz.out,bA.out,av.out,az.out,ax.out,aG.out,hb_⟩)
         ·skip
          rintro aa w9 ⟨hS_,h0_,h1_,h2_,h3_,h4_,h5_,h6_,h7_,h8_,h9_⟩;have rE:aE (w9.heap[au]?=some (.cells #[.slice aN aC.length aT, .slice aU aq.length aV] 34 (0,0))):=⟨h0_⟩
          have rD:aE (w9.heap[ak]?=some (.cells #[.slice none 0 0, .int .i64 0, .slice none 0 0] 107 (0,0))):=⟨h1_⟩
          have tN:aE (w9.heap[aa]?=some (.cells #[.slice none 0 0, .int .i64 0, .slice none 0 0] 107 (0,0))):=⟨h2_⟩
          have vv:aE (w.heap.size≤aa):=⟨h3_⟩
          have wk:aE (w.heap.size≤aa):=⟨h4_⟩
          have xG:aE (au≠aa):=⟨h5_⟩
          have y5:aE (aa≠au):=⟨h6_⟩
          have y4:aE (ak≠aa):=⟨h7_⟩
          have Co:aE (aa≠ak):=⟨h8_⟩
          have Ak:aE (Below w.heap.size w w9):=⟨h9_⟩
          clear af ai HB h0_ h1_ h2_ h3_ h4_ h5_ h6_ h7_ h8_ h9_;have af:=rE;have ai:=rD;have ae:=tN;have bz:=vv;have bA:=wk;have av:=xG;have az:=y5;have ax:=y4;have aG:=Co;have HB:=Ak;clear rE rD tN vv wk xG y5 y4 Co Ak;have hHeld:w9.cell? ⟨au,0,none⟩=some (.slice aN aC.length aT)∧w9.cell? ⟨au,1,none⟩=some (.slice aU aq.length aV):=hS_;refine mP (a':=?_) ?_ ?_
          rotate_left
          ·simp only [nY,Act.put,List.setIfInBounds_toArray,List.set_cons_zero,List.set_cons_succ]
           rfl
          refine Gq (i:=2) (j:=6) (Ni:=some 20) (Nj:=some 24) (fm 11 191) (fm 11 251) rfl rfl rfl rfl (yS pL.out (by kernel_rfl)) (by decide) (by decide) (fun K hK=>?_) (fun K hK=>?_)
          ·skip
           refine sH Tryz.func107 (by kernel_rfl) rfl #[.agg #[.slice aN aC.length aT, .slice aU aq.length aV], .slice A1 l1.length c1] (by rfl) rfl rfl (by(try simp only [List.map_toArray,List.map_cons,List.map_nil]);first | done | rfl | (simp only [List.length_drop,List.length_take];rfl)) ?_
           with_reducible refine(iu.calls k _ _ aC _ _ aq _ _ l1 aJ aK aM _ ?bi ?bn ?bq ?bu ?cn ?ct A4.out).mono ?_
           (case bi=>exact ni mR.out HB.out)
           (case bn=>exact oh.out)
           (case bq=>exact ni ox.out HB.out)
           (case bu=>exact oR.out)
           (case cn=>exact ni pR.out HB.out)
           (case ct=>exact qy.out)
           rintro e tE ⟨bg,aY,rfl,ho0,ho1,hb⟩;refine⟨_,rfl,?_⟩
           have aW:=q_ (Kd.oP ho0 oI);have aX:=q_ (Kd.ng ho1 oI);replace af:=lZ af hb;replace ai:=lZ ai hb;replace ae:=lZ ae hb;replace HB:=lT hb;(try clear hb)
           
           (try clear hk)
           
           (try clear ho0);(try clear ho1);refine hK.out _ _ ⟨(bp af.out 0).trans rfl,(bp af.out 1).trans rfl⟩ (fun hHeld=>?_)
           clear hK K;refine mP (a':=?_) ?_ ?_
           rotate_left
           ·show Act.put _ (some 20) _=_
            simp only [Act.put,List.setIfInBounds_toArray,List.set_cons_zero,List.set_cons_succ,mT,nr]
            rfl
           exact nm_ (eS (bg,aY,aa) _ ⟨hHeld,(nw aW.out),(m5 aX.out),nj,nj,nj,bz.out,bA.out,av.out,az.out,ax.out,aG.out,hb_⟩)
          ·skip
           refine Kd.Bf (Kd.slice 2 (Kd.int .i64)) _ 24 ?hg (N:=24) ?hd (xs:=([]:List (List Int))) (inner:= []) (ok:=fun _=>True) (oC:=fun _=>True) ?hr ?hp (fun _ hk=>hk) trivial (Below.refl _ _) (Nat.le_refl _) (by simp) ?_;(case hd=>rfl);(case hg=>rfl);(case hr=>first | (go_simp;done) | (go_simp;rfl));(case hp=>exact(mV.none _ _))
           intro bv tE bT hb hg_ om;clear hg_ om
           (first | rw [← bQ.out] at bT | (simp only [Int.reduceToNat] at bT;rw [← bQ.out] at bT))
           have aZ:=q_ (Kd.oP bT oI);replace af:=lZ af hb;replace ai:=lZ ai hb;replace ae:=lZ ae hb;replace HB:=lT hb;clear hb bT;refine hK.out _ _ ⟨(bp af.out 0).trans rfl,(bp af.out 1).trans rfl⟩ (fun hHeld=>?_)
           clear hK K;refine mP (a':=?_) ?_ ?_
           rotate_left
           ·show Act.put _ (some 24) _=_
            simp only [Act.put,List.setIfInBounds_toArray,List.set_cons_zero,List.set_cons_succ,mT,nr]
            rfl
           exact nm_ (eT (bv,aa) _ ⟨hHeld,(nw aZ.out),nj,nj,nj,bz.out,bA.out,av.out,az.out,ax.out,aG.out,hb_⟩)
        ·skip
         rintro bv tE ⟨hS_,h0_,h1_,h2_,h3_⟩;have rE:aE (Kd.S (Kd.slice 2 (Kd.int .i64)) 24 tE w.heap.size (fun _=>True) bv bw):=⟨h0_⟩
         have rD:aE (tE.heap[au]?=some (.cells #[.slice aN aC.length aT, .slice aU aq.length aV] 34 (0,0))):=⟨h1_⟩
         have tN:aE (tE.heap[ak]?=some (.cells #[.slice none 0 0, .int .i64 0, .slice none 0 0] 107 (0,0))):=⟨h2_⟩
         have vv:aE (Below w.heap.size w tE):=⟨h3_⟩
         clear af ai HB h0_ h1_ h2_ h3_;have aZ:=rE;have af:=rD;have ai:=tN;have HB:=vv;clear rE rD tN vv;have hHeld:tE.cell? ⟨au,0,none⟩=some (.slice aN aC.length aT)∧tE.cell? ⟨au,1,none⟩=some (.slice aU aq.length aV):=hS_;refine mP (a':=?_) ?_ ?_
         rotate_left
         ·simp only [nY,Act.put,List.setIfInBounds_toArray,List.set_cons_zero,List.set_cons_succ]
          rfl
         refine Gq (i:=2) (j:=7) (Ni:=some 20) (Nj:=some 10) (fm 11 127) (fm 11 251) rfl rfl rfl rfl (yS pL.out (by kernel_rfl)) (by decide) (by decide) (fun K hK=>?_) (fun K hK=>?_)
         ·skip
          refine sH Tryz.func107 (by kernel_rfl) rfl #[.agg #[.slice aN aC.length aT, .slice aU aq.length aV], .slice A1 l1.length c1] (by rfl) rfl rfl (by(try simp only [List.map_toArray,List.map_cons,List.map_nil]);first | done | rfl | (simp only [List.length_drop,List.length_take];rfl)) ?_
          with_reducible refine(iu.calls k _ _ aC _ _ aq _ _ l1 aJ aK aM _ ?bi ?bn ?bq ?bu ?cn ?ct A4.out).mono ?_
          (case bi=>exact ni mR.out HB.out)
          (case bn=>exact oh.out)
          (case bq=>exact ni ox.out HB.out)
          (case bu=>exact oR.out)
          (case cn=>exact ni pR.out HB.out)
          (case ct=>exact qy.out)
          rintro e rB ⟨bg,aY,rfl,ho0,ho1,hb⟩;refine⟨_,rfl,?_⟩
          have aW:=q_ (Kd.oP (Kd.tK ho0 (Kd.Es (nw aZ.out))) oI);have aX:=q_ (Kd.ng ho1 oI);replace af:=lZ af hb;replace ai:=lZ ai hb;replace aZ:=q_ (Kd.mB (Kd.yC (Kd.yC (Kd.Jt (nw aZ.out) hb) (Kd.Bg ho0)) (Kd.o8 ho1)) (fun _ h_=>h_.1));replace HB:=lT hb;(try clear hb)
          
          (try clear hk)
          
          (try clear ho0);(try clear ho1);refine hK.out _ _ ⟨(bp af.out 0).trans rfl,(bp af.out 1).trans rfl⟩ (fun hHeld=>?_)
          clear hK K;refine mP (a':=?_) ?_ ?_
          rotate_left
          ·show Act.put _ (some 20) _=_
           simp only [Act.put,List.setIfInBounds_toArray,List.set_cons_zero,List.set_cons_succ,mT,nr]
           rfl
          exact nm_ (eQ (bg,aY,bv) _ ⟨hHeld,(nw aW.out),(m5 aX.out),(kS_ aZ.out (fun _ hk=>⟨hk.1.2,hk.2⟩)),nj,nj,hb_⟩)
         ·skip
          refine rP ?hg (N:=10) ?hd (cs:= #[.slice none 0 0, .int .i64 0, .slice none 0 0]) (t:=107) ?hr ?_;(case hd=>rfl);(case hg=>rfl);(case hr=>first | (go_simp;done) | (go_simp;rfl))
          intro aa hg rB cM hb;replace aZ:=q_ (Kd.mQ (nw aZ.out) hb);have ae:=q_ (cM);have bz:=mq w hg;have bA:=mq w hg;have av:=r7 hg af;have az:=rY hg af;have ax:=r7 hg ai;have aG:=rY hg ai;replace af:=lZ af hb;replace ai:=lZ ai hb;replace HB:=lT hb;clear hb cM hg;refine hK.out _ _ ⟨(bp af.out 0).trans rfl,(bp af.out 1).trans rfl⟩ (fun hHeld=>?_)
          clear hK K;refine mP (a':=?_) ?_ ?_
          rotate_left
          ·show Act.put _ (some 10) _=_
           simp only [Act.put,List.setIfInBounds_toArray,List.set_cons_zero,List.set_cons_succ,mT,nr]
           rfl
          exact nm_ (eT (bv,aa) _ ⟨hHeld,(nw aZ.out),nj,nj,nj,bz.out,bA.out,av.out,az.out,ax.out,aG.out,hb_⟩)
       ·skip
        rintro ⟨bg,aY⟩ w9 ⟨hS_,h0_,h1_,h2_,h3_,h4_⟩;have rE:aE (Kd.S (Kd.slice 2 (Kd.int .i64)) 24 w9 w.heap.size (fun k_=>some k_≠(aY:Value).ownBlock) bg aJ):=⟨h0_⟩
        have rD:aE (Kd.R (Kd.int .i64) 2 w9 w.heap.size (fun _=>True) aY aM):=⟨h1_⟩
        have tN:aE (w9.heap[au]?=some (.cells #[.slice aN aC.length aT, .slice aU aq.length aV] 34 (0,0))):=⟨h2_⟩
        have vv:aE (w9.heap[ak]?=some (.cells #[.slice none 0 0, .int .i64 0, .slice none 0 0] 107 (0,0))):=⟨h3_⟩
        have wk:aE (Below w.heap.size w w9):=⟨h4_⟩
        clear af ai HB h0_ h1_ h2_ h3_ h4_;have aW:=rE;have aX:=rD;have af:=tN;have ai:=vv;have HB:=wk;clear rE rD tN vv wk;have hHeld:w9.cell? ⟨au,0,none⟩=some (.slice aN aC.length aT)∧w9.cell? ⟨au,1,none⟩=some (.slice aU aq.length aV):=hS_;refine mP (a':=?_) ?_ ?_
        rotate_left
        ·simp only [nY,Act.put,List.setIfInBounds_toArray,List.set_cons_zero,List.set_cons_succ]
         rfl
        refine Gq (i:=6) (j:=7) (Ni:=some 24) (Nj:=some 10) (fm 11 127) (fm 11 191) rfl rfl rfl rfl (yS pL.out (by kernel_rfl)) (by decide) (by decide) (fun K hK=>?_) (fun K hK=>?_)
        ·skip
         refine Kd.Bf (Kd.slice 2 (Kd.int .i64)) _ 24 ?hg (N:=24) ?hd (xs:=([]:List (List Int))) (inner:= []) (ok:=fun _=>True) (oC:=fun _=>True) ?hr ?hp (fun _ hk=>hk) trivial (Below.refl _ _) (Nat.le_refl _) (by simp) ?_;(case hd=>rfl);(case hg=>rfl);(case hr=>first | (go_simp;done) | (go_simp;rfl));(case hp=>exact(mV.none _ _))
         intro bv tE bT hb hg_ om;clear hg_ om
         (first | rw [← bQ.out] at bT | (simp only [Int.reduceToNat] at bT;rw [← bQ.out] at bT))
         have aZ:=q_ (Kd.oP (Kd.tK (Kd.tK bT (Kd.Es (nw aW.out))) (Kd.qw (m5 aX.out))) oI);replace af:=lZ af hb;replace ai:=lZ ai hb;replace aW:=q_ (Kd.tA (nw aW.out) (Kd.Bg bT) hb);replace aX:=rK aX hb;replace HB:=lT hb;clear hb bT;refine hK.out _ _ ⟨(bp af.out 0).trans rfl,(bp af.out 1).trans rfl⟩ (fun hHeld=>?_)
         clear hK K;refine mP (a':=?_) ?_ ?_
         rotate_left
         ·show Act.put _ (some 24) _=_
          simp only [Act.put,List.setIfInBounds_toArray,List.set_cons_zero,List.set_cons_succ,mT,nr]
          rfl
         exact nm_ (eQ (bg,aY,bv) _ ⟨hHeld,(nw aW.out),(m5 aX.out),(kS_ aZ.out (fun _ hk=>⟨hk.1.2,hk.2⟩)),nj,nj,hb_⟩)
        ·skip
         refine rP ?hg (N:=10) ?hd (cs:= #[.slice none 0 0, .int .i64 0, .slice none 0 0]) (t:=107) ?hr ?_;(case hd=>rfl);(case hg=>rfl);(case hr=>first | (go_simp;done) | (go_simp;rfl))
         intro aa hg tE cM hb;replace aW:=q_ (Kd.mQ (nw aW.out) hb);replace aX:=rK aX hb;have ae:=q_ (cM);have bz:=mq w hg;have bA:=mq w hg;have av:=r7 hg af;have az:=rY hg af;have ax:=r7 hg ai;have aG:=rY hg ai;replace af:=lZ af hb;replace ai:=lZ ai hb;replace HB:=lT hb;clear hb cM hg;refine hK.out _ _ ⟨(bp af.out 0).trans rfl,(bp af.out 1).trans rfl⟩ (fun hHeld=>?_)
         clear hK K;refine mP (a':=?_) ?_ ?_
         rotate_left
         ·show Act.put _ (some 10) _=_
          simp only [Act.put,List.setIfInBounds_toArray,List.set_cons_zero,List.set_cons_succ,mT,nr]
          rfl
         exact nm_ (eS (bg,aY,aa) _ ⟨hHeld,(nw aW.out),(m5 aX.out),nj,nj,nj,bz.out,bA.out,av.out,az.out,ax.out,aG.out,hb_⟩)
      ·skip
       rintro ⟨bv,aa⟩ rB ⟨hS_,h0_,h1_,h2_,h3_,h4_,h5_,h6_,h7_,h8_,h9_,AY⟩;have rE:aE (Kd.S (Kd.slice 2 (Kd.int .i64)) 24 rB w.heap.size (fun _=>True) bv bw):=⟨h0_⟩
       have rD:aE (rB.heap[au]?=some (.cells #[.slice aN aC.length aT, .slice aU aq.length aV] 34 (0,0))):=⟨h1_⟩
       have tN:aE (rB.heap[ak]?=some (.cells #[.slice none 0 0, .int .i64 0, .slice none 0 0] 107 (0,0))):=⟨h2_⟩
       have vv:aE (rB.heap[aa]?=some (.cells #[.slice none 0 0, .int .i64 0, .slice none 0 0] 107 (0,0))):=⟨h3_⟩
       have wk:aE (w.heap.size≤aa):=⟨h4_⟩
       have xG:aE (w.heap.size≤aa):=⟨h5_⟩
       have y5:aE (au≠aa):=⟨h6_⟩
       have y4:aE (aa≠au):=⟨h7_⟩
       have Co:aE (ak≠aa):=⟨h8_⟩
       have Ak:aE (aa≠ak):=⟨h9_⟩
       have AV:aE (Below w.heap.size w rB):=⟨AY⟩
       clear af ai HB h0_ h1_ h2_ h3_ h4_ h5_ h6_ h7_ h8_ h9_ AY;have aZ:=rE;have af:=rD;have ai:=tN;have ae:=vv;have bz:=wk;have bA:=xG;have av:=y5;have az:=y4;have ax:=Co;have aG:=Ak;have HB:=AV;clear rE rD tN vv wk xG y5 y4 Co Ak AV;have hHeld:rB.cell? ⟨au,0,none⟩=some (.slice aN aC.length aT)∧rB.cell? ⟨au,1,none⟩=some (.slice aU aq.length aV):=hS_;refine mP (a':=?_) ?_ ?_
       rotate_left
       ·simp only [nY,Act.put,List.setIfInBounds_toArray,List.set_cons_zero,List.set_cons_succ]
        rfl
       refine pz 2 (some 20) (fun K hK=>?_)
       refine sH Tryz.func107 (by kernel_rfl) rfl #[.agg #[.slice aN aC.length aT, .slice aU aq.length aV], .slice A1 l1.length c1] (by rfl) rfl rfl (by(try simp only [List.map_toArray,List.map_cons,List.map_nil]);first | done | rfl | (simp only [List.length_drop,List.length_take];rfl)) ?_
       with_reducible refine(iu.calls k _ _ aC _ _ aq _ _ l1 aJ aK aM _ ?bi ?bn ?bq ?bu ?cn ?ct A4.out).mono ?_
       (case bi=>exact ni mR.out HB.out)
       (case bn=>exact oh.out)
       (case bq=>exact ni ox.out HB.out)
       (case bu=>exact oR.out)
       (case cn=>exact ni pR.out HB.out)
       (case ct=>exact qy.out)
       rintro e tX ⟨bg,aY,rfl,ho0,ho1,hb⟩;refine⟨_,rfl,?_⟩
       have aW:=q_ (Kd.oP (Kd.tK ho0 (Kd.Es (nw aZ.out))) oI);have aX:=q_ (Kd.ng ho1 oI);replace af:=lZ af hb;replace ai:=lZ ai hb;replace ae:=lZ ae hb;replace aZ:=q_ (Kd.mB (Kd.yC (Kd.yC (Kd.Jt (nw aZ.out) hb) (Kd.Bg ho0)) (Kd.o8 ho1)) (fun _ h_=>h_.1));replace HB:=lT hb;(try clear hb)
       
       (try clear hk)
       
       (try clear ho0);(try clear ho1);refine hK.out _ _ ⟨(bp af.out 0).trans rfl,(bp af.out 1).trans rfl⟩ (fun hHeld=>?_)
       clear hK K;refine mP (a':=?_) ?_ ?_
       rotate_left
       ·show Act.put _ (some 20) _=_
        simp only [Act.put,List.setIfInBounds_toArray,List.set_cons_zero,List.set_cons_succ,mT,nr]
        rfl
       exact nm_ (db (bg,aY,bv,aa) _ ⟨hHeld,(nw aW.out),(m5 aX.out),(kS_ aZ.out (fun _ hk=>⟨hk.1.2,hk.2⟩)),nj,nj,nj,bz.out,bA.out,av.out,az.out,ax.out,aG.out,hb_⟩)
     ·skip
      rintro ⟨bg,aY,aa⟩ tE ⟨hS_,h0_,h1_,h2_,h3_,h4_,h5_,h6_,h7_,h8_,h9_,AY,DX⟩;have rE:aE (Kd.S (Kd.slice 2 (Kd.int .i64)) 24 tE w.heap.size (fun k_=>some k_≠(aY:Value).ownBlock) bg aJ):=⟨h0_⟩
      have rD:aE (Kd.R (Kd.int .i64) 2 tE w.heap.size (fun _=>True) aY aM):=⟨h1_⟩
      have tN:aE (tE.heap[au]?=some (.cells #[.slice aN aC.length aT, .slice aU aq.length aV] 34 (0,0))):=⟨h2_⟩
      have vv:aE (tE.heap[ak]?=some (.cells #[.slice none 0 0, .int .i64 0, .slice none 0 0] 107 (0,0))):=⟨h3_⟩
      have wk:aE (tE.heap[aa]?=some (.cells #[.slice none 0 0, .int .i64 0, .slice none 0 0] 107 (0,0))):=⟨h4_⟩
      have xG:aE (w.heap.size≤aa):=⟨h5_⟩
      have y5:aE (w.heap.size≤aa):=⟨h6_⟩
      have y4:aE (au≠aa):=⟨h7_⟩
      have Co:aE (aa≠au):=⟨h8_⟩
      have Ak:aE (ak≠aa):=⟨h9_⟩
      have AV:aE (aa≠ak):=⟨AY⟩
      have DT:aE (Below w.heap.size w tE):=⟨DX⟩
      clear af ai HB h0_ h1_ h2_ h3_ h4_ h5_ h6_ h7_ h8_ h9_ AY DX;have aW:=rE;have aX:=rD;have af:=tN;have ai:=vv;have ae:=wk;have bz:=xG;have bA:=y5;have av:=y4;have az:=Co;have ax:=Ak;have aG:=AV;have HB:=DT;clear rE rD tN vv wk xG y5 y4 Co Ak AV DT;have hHeld:tE.cell? ⟨au,0,none⟩=some (.slice aN aC.length aT)∧tE.cell? ⟨au,1,none⟩=some (.slice aU aq.length aV):=hS_;refine mP (a':=?_) ?_ ?_
      rotate_left
      ·simp only [nY,Act.put,List.setIfInBounds_toArray,List.set_cons_zero,List.set_cons_succ]
       rfl
      refine Gq (i:=6) (j:=8) (Ni:=some 24) (Nj:=none) (fm 11 255) (fm 11 447) rfl rfl rfl rfl (yS pL.out (by kernel_rfl)) (by decide) (by decide) (fun K hK=>?_) (fun K hK=>?_)
      ·skip
       refine Kd.Bf (Kd.slice 2 (Kd.int .i64)) _ 24 ?hg (N:=24) ?hd (xs:=([]:List (List Int))) (inner:= []) (ok:=fun _=>True) (oC:=fun _=>True) ?hr ?hp (fun _ hk=>hk) trivial (Below.refl _ _) (Nat.le_refl _) (by simp) ?_;(case hd=>rfl);(case hg=>rfl);(case hr=>first | (go_simp;done) | (go_simp;rfl));(case hp=>exact(mV.none _ _))
       intro bv rB df hb hg_ om;clear hg_ om
       (first | rw [← bQ.out] at df | (simp only [Int.reduceToNat] at df;rw [← bQ.out] at df))
       have aZ:=q_ (Kd.oP (Kd.tK (Kd.tK df (Kd.Es (nw aW.out))) (Kd.qw (m5 aX.out))) oI);replace af:=lZ af hb;replace ai:=lZ ai hb;replace ae:=lZ ae hb;replace aW:=q_ (Kd.tA (nw aW.out) (Kd.Bg df) hb);replace aX:=rK aX hb;replace HB:=lT hb;clear hb df;refine hK.out _ _ ⟨(bp af.out 0).trans rfl,(bp af.out 1).trans rfl⟩ (fun hHeld=>?_)
       clear hK K;refine mP (a':=?_) ?_ ?_
       rotate_left
       ·show Act.put _ (some 24) _=_
        simp only [Act.put,List.setIfInBounds_toArray,List.set_cons_zero,List.set_cons_succ,mT,nr]
        rfl
       exact nm_ (db (bg,aY,bv,aa) _ ⟨hHeld,(nw aW.out),(m5 aX.out),(kS_ aZ.out (fun _ hk=>⟨hk.1.2,hk.2⟩)),nj,nj,nj,bz.out,bA.out,av.out,az.out,ax.out,aG.out,hb_⟩)
      ·skip
       have anb:=lS ae 0;have ak7:=gE ae.out 0;have ahq:=av.out;have apa:=ax.out;have ahu:=az.out;have apC:=aG.out;have ana:=lS ae 1;have ak6:=gE ae.out 1;have ahp:=av.out;have ao9:=ax.out;have aht:=az.out;have apB:=aG.out;have am9:=lS ae 2;have ak5:=gE ae.out 2;have aho:=av.out;have ahn:=ax.out;have ahs:=az.out;have ahr:=aG.out;obtain⟨dG,dH,eo_⟩:=Kd.nk aW.out;subst eo_;obtain⟨eH,eI,eo_⟩:=Kd.mE aX.out;subst eo_;refine rL (w1:=?_) (by rfl) rfl ?_ ?_
       rotate_left
       ·go_simp
        rfl
       refine hK.out _ _ ⟨((cell_far (p:=⟨aa,_,none⟩) av.out _).trans (((cell_far (p:=⟨aa,_,none⟩) av.out _).trans (((cell_far (p:=⟨aa,_,none⟩) av.out _).trans (hHeld.1)))))),((cell_far (p:=⟨aa,_,none⟩) av.out _).trans (((cell_far (p:=⟨aa,_,none⟩) av.out _).trans (((cell_far (p:=⟨aa,_,none⟩) av.out _).trans (hHeld.2))))))⟩ (fun hHeld=>?_)
       clear hK K;refine lX 9 11 ?_
       exact nm_ (eW (.slice dG aJ.length dH, .slice eH aM.length eI,aa) _ ⟨hHeld,(kS_ (wR aW.out ae.out) (fun _ hk=>hk.1)),(kR_ (DN aX.out ae.out) (fun _ hk=>trivial)),(oX),(oX),(oX),bz.out,bA.out,av.out,az.out,ax.out,aG.out,hb_⟩)
    ·skip
     rintro ⟨bg,aY,bv⟩ rB ⟨hS_,h0_,h1_,h2_,h3_,h4_,h5_⟩;have rE:aE (Kd.S (Kd.slice 2 (Kd.int .i64)) 24 rB w.heap.size (fun k_=>some k_≠(aY:Value).ownBlock∧some k_≠(bv:Value).ownBlock) bg aJ):=⟨h0_⟩
     have rD:aE (Kd.R (Kd.int .i64) 2 rB w.heap.size (fun _=>True) aY aM):=⟨h1_⟩
     have tN:aE (Kd.S (Kd.slice 2 (Kd.int .i64)) 24 rB w.heap.size (fun k_=>some k_≠(bg:Value).ownBlock∧some k_≠(aY:Value).ownBlock) bv bw):=⟨h2_⟩
     have vv:aE (rB.heap[au]?=some (.cells #[.slice aN aC.length aT, .slice aU aq.length aV] 34 (0,0))):=⟨h3_⟩
     have wk:aE (rB.heap[ak]?=some (.cells #[.slice none 0 0, .int .i64 0, .slice none 0 0] 107 (0,0))):=⟨h4_⟩
     have xG:aE (Below w.heap.size w rB):=⟨h5_⟩
     clear af ai HB h0_ h1_ h2_ h3_ h4_ h5_;have aW:=rE;have aX:=rD;have aZ:=tN;have af:=vv;have ai:=wk;have HB:=xG;clear rE rD tN vv wk xG;have hHeld:rB.cell? ⟨au,0,none⟩=some (.slice aN aC.length aT)∧rB.cell? ⟨au,1,none⟩=some (.slice aU aq.length aV):=hS_;refine mP (a':=?_) ?_ ?_
     rotate_left
     ·simp only [nY,Act.put,List.setIfInBounds_toArray,List.set_cons_zero,List.set_cons_succ]
      rfl
     refine pz 7 (some 10) (fun K hK=>?_)
     refine rP ?hg (N:=10) ?hd (cs:= #[.slice none 0 0, .int .i64 0, .slice none 0 0]) (t:=107) ?hr ?_;(case hd=>rfl);(case hg=>rfl);(case hr=>first | (go_simp;done) | (go_simp;rfl))
     intro aa hg tX cM hb;replace aW:=q_ (Kd.mQ (nw aW.out) hb);replace aX:=rK aX hb;replace aZ:=q_ (Kd.mQ (nw aZ.out) hb);have ae:=q_ (cM);have bz:=mq w hg;have bA:=mq w hg;have av:=r7 hg af;have az:=rY hg af;have ax:=r7 hg ai;have aG:=rY hg ai;replace af:=lZ af hb;replace ai:=lZ ai hb;replace HB:=lT hb;clear hb cM hg;refine hK.out _ _ ⟨(bp af.out 0).trans rfl,(bp af.out 1).trans rfl⟩ (fun hHeld=>?_)
     clear hK K;refine mP (a':=?_) ?_ ?_
     rotate_left
     ·show Act.put _ (some 10) _=_
      simp only [Act.put,List.setIfInBounds_toArray,List.set_cons_zero,List.set_cons_succ,mT,nr]
      rfl
     exact nm_ (db (bg,aY,bv,aa) _ ⟨hHeld,(nw aW.out),(m5 aX.out),(nw aZ.out),nj,nj,nj,bz.out,bA.out,av.out,az.out,ax.out,aG.out,hb_⟩)
   ·skip
    rintro ⟨bg,aY,aa⟩ vu ⟨hS_,h0_,h1_,h2_,h3_,h4_,h5_,h6_,h7_,h8_,h9_,AY,DX⟩;have rE:aE (Kd.S (Kd.slice 2 (Kd.int .i64)) 24 vu w.heap.size (fun k_=>some k_≠(aY:Value).ownBlock) bg aJ):=⟨h0_⟩
    have rD:aE (Kd.R (Kd.int .i64) 2 vu w.heap.size (fun _=>True) aY aM):=⟨h1_⟩
    have tN:aE (vu.heap[au]?=some (.cells #[.slice aN aC.length aT, .slice aU aq.length aV] 34 (0,0))):=⟨h2_⟩
    have vv:aE (vu.heap[ak]?=some (.cells #[.slice none 0 0, .int .i64 0, .slice none 0 0] 107 (0,0))):=⟨h3_⟩
    have wk:aE (vu.heap[aa]?=some (.cells #[bg, .int .i64 aK,aY] 107 (0,0))):=⟨h4_⟩
    have xG:aE (w.heap.size≤aa):=⟨h5_⟩
    have y5:aE (w.heap.size≤aa):=⟨h6_⟩
    have y4:aE (au≠aa):=⟨h7_⟩
    have Co:aE (aa≠au):=⟨h8_⟩
    have Ak:aE (ak≠aa):=⟨h9_⟩
    have AV:aE (aa≠ak):=⟨AY⟩
    have DT:aE (Below w.heap.size w vu):=⟨DX⟩
    clear af ai HB h0_ h1_ h2_ h3_ h4_ h5_ h6_ h7_ h8_ h9_ AY DX;have aW:=rE;have aX:=rD;have af:=tN;have ai:=vv;have ae:=wk;have bz:=xG;have bA:=y5;have av:=y4;have az:=Co;have ax:=Ak;have aG:=AV;have HB:=DT;clear rE rD tN vv wk xG y5 y4 Co Ak AV DT;have hHeld:vu.cell? ⟨au,0,none⟩=some (.slice aN aC.length aT)∧vu.cell? ⟨au,1,none⟩=some (.slice aU aq.length aV):=hS_;refine mP (a':=?_) ?_ ?_
    rotate_left
    ·simp only [nY,Act.put,List.setIfInBounds_toArray,List.set_cons_zero,List.set_cons_succ]
     rfl
    refine pz 6 (some 24) (fun K hK=>?_)
    refine Kd.Bf (Kd.slice 2 (Kd.int .i64)) _ 24 ?hg (N:=24) ?hd (xs:=([]:List (List Int))) (inner:= []) (ok:=fun _=>True) (oC:=fun _=>True) ?hr ?hp (fun _ hk=>hk) trivial (Below.refl _ _) (Nat.le_refl _) (by simp) ?_;(case hd=>rfl);(case hg=>rfl);(case hr=>first | (go_simp;done) | (go_simp;rfl));(case hp=>exact(mV.none _ _))
    intro bv Jx dh hb hg_ om;clear hg_ om
    (first | rw [← bQ.out] at dh | (simp only [Int.reduceToNat] at dh;rw [← bQ.out] at dh))
    have aZ:=q_ (Kd.oP (Kd.tK (Kd.tK dh (Kd.Es (nw aW.out))) (Kd.qw (m5 aX.out))) oI);replace af:=lZ af hb;replace ai:=lZ ai hb;replace ae:=lZ ae hb;replace aW:=q_ (Kd.tA (nw aW.out) (Kd.Bg dh) hb);replace aX:=rK aX hb;replace HB:=lT hb;clear hb dh;refine hK.out _ _ ⟨(bp af.out 0).trans rfl,(bp af.out 1).trans rfl⟩ (fun hHeld=>?_)
    clear hK K;refine mP (a':=?_) ?_ ?_
    rotate_left
    ·show Act.put _ (some 24) _=_
     simp only [Act.put,List.setIfInBounds_toArray,List.set_cons_zero,List.set_cons_succ,mT,nr]
     rfl
    exact nm_ (dw (bg,aY,bv,aa) _ ⟨hHeld,(nw aW.out),(m5 aX.out),(kS_ aZ.out (fun _ hk=>⟨hk.1.2,hk.2⟩)),nj,nj,nj,bz.out,bA.out,av.out,az.out,ax.out,aG.out,hb_⟩)
  ·skip
   rintro ⟨bg,aY,bv,aa⟩ tX ⟨hS_,h0_,h1_,h2_,h3_,h4_,h5_,h6_,h7_,h8_,h9_,AY,DX,VE⟩;have rE:aE (Kd.S (Kd.slice 2 (Kd.int .i64)) 24 tX w.heap.size (fun k_=>some k_≠(aY:Value).ownBlock∧some k_≠(bv:Value).ownBlock) bg aJ):=⟨h0_⟩
   have rD:aE (Kd.R (Kd.int .i64) 2 tX w.heap.size (fun _=>True) aY aM):=⟨h1_⟩
   have tN:aE (Kd.S (Kd.slice 2 (Kd.int .i64)) 24 tX w.heap.size (fun k_=>some k_≠(bg:Value).ownBlock∧some k_≠(aY:Value).ownBlock) bv bw):=⟨h2_⟩
   have vv:aE (tX.heap[au]?=some (.cells #[.slice aN aC.length aT, .slice aU aq.length aV] 34 (0,0))):=⟨h3_⟩
   have wk:aE (tX.heap[ak]?=some (.cells #[.slice none 0 0, .int .i64 0, .slice none 0 0] 107 (0,0))):=⟨h4_⟩
   have xG:aE (tX.heap[aa]?=some (.cells #[.slice none 0 0, .int .i64 0, .slice none 0 0] 107 (0,0))):=⟨h5_⟩
   have y5:aE (w.heap.size≤aa):=⟨h6_⟩
   have y4:aE (w.heap.size≤aa):=⟨h7_⟩
   have Co:aE (au≠aa):=⟨h8_⟩
   have Ak:aE (aa≠au):=⟨h9_⟩
   have AV:aE (ak≠aa):=⟨AY⟩
   have DT:aE (aa≠ak):=⟨DX⟩
   have Va:aE (Below w.heap.size w tX):=⟨VE⟩
   clear af ai HB h0_ h1_ h2_ h3_ h4_ h5_ h6_ h7_ h8_ h9_ AY DX VE;have aW:=rE;have aX:=rD;have aZ:=tN;have af:=vv;have ai:=wk;have ae:=xG;have bz:=y5;have bA:=y4;have av:=Co;have az:=Ak;have ax:=AV;have aG:=DT;have HB:=Va;clear rE rD tN vv wk xG y5 y4 Co Ak AV DT Va;have hHeld:tX.cell? ⟨au,0,none⟩=some (.slice aN aC.length aT)∧tX.cell? ⟨au,1,none⟩=some (.slice aU aq.length aV):=hS_;obtain⟨di,dl,fK⟩:=Kd.nk aW.out
   (first | subst fK | (injection fK with sD vP sC;have vO:=sD.symm;have vN:=sC.symm;clear sD vP sC;subst vO;subst vN))
   obtain⟨dY,dZ,fL⟩:=Kd.mE aX.out
   (first | subst fL | (injection fL with sD vP sC;have vO:=sD.symm;have vN:=sC.symm;clear sD vP sC;subst vO;subst vN))
   refine mP (a':=?_) ?_ ?_
   rotate_left
   ·simp only [nY,Act.put,List.setIfInBounds_toArray,List.set_cons_zero,List.set_cons_succ]
    rfl
   refine pz 8 none (fun K hK=>?_)
   have asP:=lS ae 0;have ar9:=gE ae.out 0;have ao8:=av.out;have ao7:=ax.out;have apA:=az.out;have apz:=aG.out;have am9:=lS ae 1;have ak5:=gE ae.out 1;have aho:=av.out;have ahn:=ax.out;have ahs:=az.out;have ahr:=aG.out;have am8:=lS ae 2;have ak4:=gE ae.out 2;have ao6:=av.out;have ao5:=ax.out;have apy:=az.out;have apx:=aG.out;refine rL (w1:=?_) (by rfl) rfl ?_ ?_
   rotate_left
   ·go_simp
    rfl
   refine hK.out _ _ ⟨((cell_far (p:=⟨aa,_,none⟩) av.out _).trans (((cell_far (p:=⟨aa,_,none⟩) av.out _).trans (((cell_far (p:=⟨aa,_,none⟩) av.out _).trans (hHeld.1)))))),((cell_far (p:=⟨aa,_,none⟩) av.out _).trans (((cell_far (p:=⟨aa,_,none⟩) av.out _).trans (((cell_far (p:=⟨aa,_,none⟩) av.out _).trans (hHeld.2))))))⟩ (fun hHeld=>?_)
   clear hK K;refine lX 9 11 ?_
   exact nm_ (dw (.slice di aJ.length dl, .slice dY aM.length dZ,bv,aa) _ ⟨hHeld,(kS_ (wR aW.out ae.out) (fun _ hk=>⟨hk.1.1,hk.1.2⟩)),(kR_ (DN aX.out ae.out) (fun _ hk=>trivial)),(kS_ (wR aZ.out ae.out) (fun _ hk=>⟨hk.1.1,hk.1.2⟩)),(oX),(oX),(oX),bz.out,bA.out,av.out,az.out,ax.out,aG.out,hb_⟩)
 rintro ⟨bg,aY,bv,aa⟩ Bp ⟨hS_,h0_,h1_,h2_,h3_,h4_,h5_,h6_,h7_,h8_,h9_,AY,DX,VE⟩;have rE:aE (Kd.S (Kd.slice 2 (Kd.int .i64)) 24 Bp w.heap.size (fun k_=>some k_≠(aY:Value).ownBlock∧some k_≠(bv:Value).ownBlock) bg aJ):=⟨h0_⟩
 have rD:aE (Kd.R (Kd.int .i64) 2 Bp w.heap.size (fun _=>True) aY aM):=⟨h1_⟩
 have tN:aE (Kd.S (Kd.slice 2 (Kd.int .i64)) 24 Bp w.heap.size (fun k_=>some k_≠(bg:Value).ownBlock∧some k_≠(aY:Value).ownBlock) bv bw):=⟨h2_⟩
 have vv:aE (Bp.heap[au]?=some (.cells #[.slice aN aC.length aT, .slice aU aq.length aV] 34 (0,0))):=⟨h3_⟩
 have wk:aE (Bp.heap[ak]?=some (.cells #[.slice none 0 0, .int .i64 0, .slice none 0 0] 107 (0,0))):=⟨h4_⟩
 have xG:aE (Bp.heap[aa]?=some (.cells #[bg, .int .i64 aK,aY] 107 (0,0))):=⟨h5_⟩
 have y5:aE (w.heap.size≤aa):=⟨h6_⟩
 have y4:aE (w.heap.size≤aa):=⟨h7_⟩
 have Co:aE (au≠aa):=⟨h8_⟩
 have Ak:aE (aa≠au):=⟨h9_⟩
 have AV:aE (ak≠aa):=⟨AY⟩
 have DT:aE (aa≠ak):=⟨DX⟩
 have Va:aE (Below w.heap.size w Bp):=⟨VE⟩
 clear af ai HB h0_ h1_ h2_ h3_ h4_ h5_ h6_ h7_ h8_ h9_ AY DX VE;have aW:=rE;have aX:=rD;have aZ:=tN;have af:=vv;have ai:=wk;have ae:=xG;have bz:=y5;have bA:=y4;have av:=Co;have az:=Ak;have ax:=AV;have aG:=DT;have HB:=Va;clear rE rD tN vv wk xG y5 y4 Co Ak AV DT Va;have hHeld:Bp.cell? ⟨au,0,none⟩=some (.slice aN aC.length aT)∧Bp.cell? ⟨au,1,none⟩=some (.slice aU aq.length aV):=hS_;refine mP (a':=?_) ?_ ?_
 rotate_left
 ·simp only [nY,Act.put,List.setIfInBounds_toArray,List.set_cons_zero,List.set_cons_succ]
  rfl
 refine lX 10 12 ?_
 refine oA (qj pL.out (by kernel_rfl)) ?_
 try go_wp2
 go_loopg [13,14,15] k (fun kq Fp DH Jy w'=> ∃(cW:Bool) (aA:Int) (aw:Int),Fp= .bool cW∧DH= .int .i64 aA∧Jy= .int .i64 aw∧aE (d7.l0 kq l1 a2 (aq.length:Int) bw cW aA aw aC aq aJ aK aM=some (r1,r2,r3,r4,r5,r6))∧aE (kq≤k)∧aE (Kd.S (Kd.slice 2 (Kd.int .i64)) 24 w' w.heap.size (fun k_=>some k_≠(bg:Value).ownBlock∧some k_≠(aY:Value).ownBlock) bv bw)∧aE (Kd.S (Kd.slice 2 (Kd.int .i64)) 24 w' w.heap.size (fun k_=>some k_≠(bv:Value).ownBlock∧some k_≠(aY:Value).ownBlock) bg aJ)∧aE (Kd.R (Kd.int .i64) 2 w' w.heap.size (fun _=>True) aY aM)∧aE (w'.heap[au]?=some (.cells #[(.slice aN aC.length aT),(.slice aU aq.length aV)] 34 (0,0)))∧aE (w'.heap[ak]?=some (.cells #[(.slice none 0 0), .int .i64 0,(.slice none 0 0)] 107 (0,0)))∧aE (w'.heap[aa]?=some (.cells #[bg, .int .i64 aK,aY] 107 (0,0)))∧aE (Below w.heap.size w w'))
 case atStart=>exact⟨(false),(0),(0),nM,nM,nM,H',⟨Nat.le_refl _⟩,⟨nw aZ.out⟩,⟨kS_ aW.out (fun _ hk=>⟨hk.2,hk.1⟩)⟩,⟨m5 aX.out⟩,⟨nj⟩,⟨nj⟩,⟨nj⟩,⟨hb_⟩⟩
 case round=>
  clear H';(try clear c1);obtain⟨cW,aA,aw,rfl,rfl,rfl,HA,nA,aH,ah,ag,af,ai,ae,HB⟩:=hrel;cases gk with
  | zero=>exact absurd HA.out (by simp [d7.l0])
  | succ k1=>
   have H:=HA.out;clear HA;simp only [d7.l0] at H
   by_cases uZ:aw < (aq.length:Int)
   ·rw [if_pos uZ] at H;have PK:=decide_eq_true uZ;clear uZ
    by_cases ru:cW=true
    ·subst ru;have H1:(if 0≤aw then(if aw < (l1.length:Int) then(if 0≤aA then(if aA < (l1.length:Int) then((ou.f k1 aJ aK aM aw aA (rd l1 aw) (rd l1 aA)).bind fun d9=>(if d9=true then(d7.l0 k1 l1 a2 (aq.length:Int) bw true aw (wrap64 (aw+1)) aC aq aJ aK aM) else(d7.l0 k1 l1 a2 (aq.length:Int) bw true aA (wrap64 (aw+1)) aC aq aJ aK aM))) else(none)) else(none)) else(none)) else(none))=some (r1,r2,r3,r4,r5,r6):=by rw [if_pos rfl] at H;exact H
     clear H;have H:=H1;clear H1
     by_cases wL:0≤aw
     ·rw [if_pos wL] at H;have PJ:=decide_eq_true wL;clear wL
      by_cases wK:aw < (l1.length:Int)
      ·rw [if_pos wK] at H;have PI:=decide_eq_true wK;clear wK
       by_cases uz:0≤aA
       ·rw [if_pos uz] at H;have GW:=decide_eq_true uz;clear uz
        by_cases uY:aA < (l1.length:Int)
        ·rw [if_pos uY] at H;have Jr:=decide_eq_true uY;clear uY;replace H:=Option.bind_eq_some_iff.mp H;obtain⟨d9,Xf,H⟩:=H;replace H:(if d9=true then(d7.l0 k1 l1 a2 (aq.length:Int) bw true aw (wrap64 (aw+1)) aC aq aJ aK aM) else(d7.l0 k1 l1 a2 (aq.length:Int) bw true aA (wrap64 (aw+1)) aC aq aJ aK aM))=some (r1,r2,r3,r4,r5,r6):=H;have A24:=q_ Xf;clear Xf
         by_cases PG:d9=true
         ·subst PG;have H1:(d7.l0 k1 l1 a2 (aq.length:Int) bw true aw (wrap64 (aw+1)) aC aq aJ aK aM)=some (r1,r2,r3,r4,r5,r6):=by rw [if_pos rfl] at H;exact H
          clear H;have H:=H1;clear H1;have H':=q_ H;clear H;have kL:=bF.out;have kM:=bG.out;have kN:=av.out;have kO:=az.out;obtain⟨jF,jG,jH,jI⟩:=nF af
          try go_wp2
          replace aH:=q_ (Kd.mM aH.out);replace ah:=q_ (Kd.mM ah.out);replace ag:=q_ (Kd.mF ag.out);replace af:=q_ (mI af.out);replace ai:=q_ (mI ai.out);replace ae:=q_ (mI ae.out);replace HB:=q_ (mS HB.out);have Kz:0≤(aw:Int):=l7;have J6:aw < (l1.length:Int):=l7;obtain⟨cz,aeI,wU⟩:=Kd.mA pR.out aw Kz J6;have bK:=wU;cases aeI
          replace wU:=bc_ HB.out wU;replace Kz:=eq_true Kz;replace J6:=eq_true J6;have Ky:0≤(aA:Int):=l7;have J5:aA < (l1.length:Int):=l7;obtain⟨ep,aeH,wT⟩:=Kd.mA pR.out aA Ky J5;have bL:=wT;obtain rfl:cz=ep:=(by injection aeH)
          replace wT:=bc_ HB.out wT;replace Ky:=eq_true Ky;replace J5:=eq_true J5;obtain⟨fM,fN,fO⟩:=Kd.nk ah.out
          (first | subst fO | (injection fO with sD vP sC;have vO:=sD.symm;have vN:=sC.symm;clear sD vP sC;subst vO;subst vN))
          obtain⟨fP,fQ,fR⟩:=Kd.mE ag.out
          (first | subst fR | (injection fR with sD vP sC;have vO:=sD.symm;have vN:=sC.symm;clear sD vP sC;subst vO;subst vN))
          refine qx (n:=12) (S:=fun w'=>w'.cell? ⟨aa,0,none⟩=some (.slice fM aJ.length fN)∧w'.cell? ⟨aa,1,none⟩=some (.int .i64 aK)∧w'.cell? ⟨aa,2,none⟩=some (.slice fP aM.length fQ)∧w'.cell? (cz.add (aw).toNat)=some (.int .i64 (rd l1 aw))∧w'.cell? (cz.add (aA).toNat)=some (.int .i64 (rd l1 aA))) (ds:= []) ⟨(bp ae.out 0).trans rfl,(bp ae.out 1).trans rfl,(bp ae.out 2).trans rfl,((bc_ HB.out bK:)),((bc_ HB.out bL:))⟩ (fun hHeld=>?_);refine o9 d7.Zx d7.Sy (fun pL xA=>?_)
          generalize wr.drew=UJ at aH ah ag af ai ae HB wU wT hHeld ⊢
          refine sB 1 42 2 43 3 44 4 45 ?_;refine sB 5 46 7 48 8 49 9 50 ?_;refine mg 0 41 ?_;refine mg 6 47 ?_;refine mg 10 51 ?_
          refine pz 11 (some 52) (fun K hK=>?_)
          refine sH Tryz.func108 (by kernel_rfl) rfl #[.agg #[.slice fM aJ.length fN, .int .i64 aK, .slice fP aM.length fQ], .int .i64 aw, .int .i64 aA, .int .i64 (rd l1 aw), .int .i64 (rd l1 aA)] (by rfl) rfl rfl (by(try simp only [List.map_toArray,List.map_cons,List.map_nil]);first | done | rfl | (simp only [List.length_drop,List.length_take];rfl)) ?_
          with_reducible refine(ou.calls k1 _ _ aJ aK _ _ aM aw aA (rd l1 aw) (rd l1 aA) true _ ?bi ?bn ?bq ?bu A24.out).mono ?_
          (case bi=>exact PB)
          (case bn=>exact(Kd.qH ah.out).2.1)
          (case bq=>exact F9)
          (case bu=>exact(Kd.lU ag.out).2.1)
          rintro e Rc ⟨rfl,hb⟩;refine⟨_,rfl,?_⟩
          replace aH:=q_ (Kd.mQ (nw aH.out) hb);replace ah:=q_ (Kd.mQ (nw ah.out) hb);replace ag:=rK ag hb;replace af:=lZ af hb;replace ai:=lZ ai hb;replace ae:=lZ ae hb;replace HB:=lT hb;(try clear hb)
          
          (try clear hk)
          
          refine hK.out _ _ ⟨(bp ae.out 0).trans rfl,(bp ae.out 1).trans rfl,(bp ae.out 2).trans rfl,((bc_ HB.out bK:)),((bc_ HB.out bL:))⟩ (fun hHeld=>?_)
          clear hK K;refine mP (a':=?_) ?_ ?_
          rotate_left
          ·show Act.put _ (some 52) _=_
           simp only [Act.put,List.setIfInBounds_toArray,List.set_cons_zero,List.set_cons_succ,mT,nr]
           rfl
          refine oA (qj pL.out (by kernel_rfl)) ?_
          try go_wp2
          go_roundg k1
          case measure=>have:=nA.out;omega
          case rel=>exact⟨(true),(aw),(wrap64 (aw+1)),nM,nM,nM,H',⟨by have:=nA.out;omega⟩,⟨nw aH.out⟩,⟨nw ah.out⟩,⟨m5 ag.out⟩,⟨nj⟩,⟨nj⟩,⟨nj⟩,⟨hb_⟩⟩
         ·replace PG:=Bool.eq_false_iff.mpr PG;subst PG;have H1:(d7.l0 k1 l1 a2 (aq.length:Int) bw true aA (wrap64 (aw+1)) aC aq aJ aK aM)=some (r1,r2,r3,r4,r5,r6):=by rw [if_neg (show ¬ (false=true) by decide)] at H;exact H
          clear H;have H:=H1;clear H1;have H':=q_ H;clear H;have kP:=bF.out;have kQ:=bG.out;have kR:=av.out;have kS:=az.out;obtain⟨jJ,jK,jL,jM⟩:=nF af
          try go_wp2
          replace aH:=q_ (Kd.mM aH.out);replace ah:=q_ (Kd.mM ah.out);replace ag:=q_ (Kd.mF ag.out);replace af:=q_ (mI af.out);replace ai:=q_ (mI ai.out);replace ae:=q_ (mI ae.out);replace HB:=q_ (mS HB.out);have Kz:0≤(aw:Int):=l7;have J6:aw < (l1.length:Int):=l7;obtain⟨cz,aeI,wU⟩:=Kd.mA pR.out aw Kz J6;have bK:=wU;cases aeI
          replace wU:=bc_ HB.out wU;replace Kz:=eq_true Kz;replace J6:=eq_true J6;have Ky:0≤(aA:Int):=l7;have J5:aA < (l1.length:Int):=l7;obtain⟨ep,aeH,wT⟩:=Kd.mA pR.out aA Ky J5;have bL:=wT;obtain rfl:cz=ep:=(by injection aeH)
          replace wT:=bc_ HB.out wT;replace Ky:=eq_true Ky;replace J5:=eq_true J5;obtain⟨fS,fT,fU⟩:=Kd.nk ah.out
          (first | subst fU | (injection fU with sD vP sC;have vO:=sD.symm;have vN:=sC.symm;clear sD vP sC;subst vO;subst vN))
          obtain⟨fW,fZ,f7⟩:=Kd.mE ag.out
          (first | subst f7 | (injection f7 with sD vP sC;have vO:=sD.symm;have vN:=sC.symm;clear sD vP sC;subst vO;subst vN))
          refine qx (n:=12) (S:=fun w'=>w'.cell? ⟨aa,0,none⟩=some (.slice fS aJ.length fT)∧w'.cell? ⟨aa,1,none⟩=some (.int .i64 aK)∧w'.cell? ⟨aa,2,none⟩=some (.slice fW aM.length fZ)∧w'.cell? (cz.add (aw).toNat)=some (.int .i64 (rd l1 aw))∧w'.cell? (cz.add (aA).toNat)=some (.int .i64 (rd l1 aA))) (ds:= []) ⟨(bp ae.out 0).trans rfl,(bp ae.out 1).trans rfl,(bp ae.out 2).trans rfl,((bc_ HB.out bK:)),((bc_ HB.out bL:))⟩ (fun hHeld=>?_);refine o9 d7.Zx d7.Sy (fun pL xA=>?_)
          generalize wr.drew=w36 at aH ah ag af ai ae HB wU wT hHeld ⊢
          refine sB 1 42 2 43 3 44 4 45 ?_;refine sB 5 46 7 48 8 49 9 50 ?_;refine mg 0 41 ?_;refine mg 6 47 ?_;refine mg 10 51 ?_
          refine pz 11 (some 52) (fun K hK=>?_)
          refine sH Tryz.func108 (by kernel_rfl) rfl #[.agg #[.slice fS aJ.length fT, .int .i64 aK, .slice fW aM.length fZ], .int .i64 aw, .int .i64 aA, .int .i64 (rd l1 aw), .int .i64 (rd l1 aA)] (by rfl) rfl rfl (by(try simp only [List.map_toArray,List.map_cons,List.map_nil]);first | done | rfl | (simp only [List.length_drop,List.length_take];rfl)) ?_
          with_reducible refine(ou.calls k1 _ _ aJ aK _ _ aM aw aA (rd l1 aw) (rd l1 aA) false _ ?bi ?bn ?bq ?bu A24.out).mono ?_
          (case bi=>exact PB)
          (case bn=>exact(Kd.qH ah.out).2.1)
          (case bq=>exact F9)
          (case bu=>exact(Kd.lU ag.out).2.1)
          rintro e w39 ⟨rfl,hb⟩;refine⟨_,rfl,?_⟩
          replace aH:=q_ (Kd.mQ (nw aH.out) hb);replace ah:=q_ (Kd.mQ (nw ah.out) hb);replace ag:=rK ag hb;replace af:=lZ af hb;replace ai:=lZ ai hb;replace ae:=lZ ae hb;replace HB:=lT hb;(try clear hb)
          
          (try clear hk)
          
          refine hK.out _ _ ⟨(bp ae.out 0).trans rfl,(bp ae.out 1).trans rfl,(bp ae.out 2).trans rfl,((bc_ HB.out bK:)),((bc_ HB.out bL:))⟩ (fun hHeld=>?_)
          clear hK K;refine mP (a':=?_) ?_ ?_
          rotate_left
          ·show Act.put _ (some 52) _=_
           simp only [Act.put,List.setIfInBounds_toArray,List.set_cons_zero,List.set_cons_succ,mT,nr]
           rfl
          refine oA (qj pL.out (by kernel_rfl)) ?_
          try go_wp2
          go_roundg k1
          case measure=>have:=nA.out;omega
          case rel=>exact⟨(true),(aA),(wrap64 (aw+1)),nM,nM,nM,H',⟨by have:=nA.out;omega⟩,⟨nw aH.out⟩,⟨nw ah.out⟩,⟨m5 ag.out⟩,⟨nj⟩,⟨nj⟩,⟨nj⟩,⟨hb_⟩⟩
        ·rw [if_neg uY] at H;exact absurd H (by simp)
       ·rw [if_neg uz] at H;exact absurd H (by simp)
      ·rw [if_neg wK] at H;exact absurd H (by simp)
     ·rw [if_neg wL] at H;exact absurd H (by simp)
    ·replace ru:=Bool.eq_false_iff.mpr ru;subst ru;have H1:(if 0≤aw then(if aw < (l1.length:Int) then(if 0≤aA then(if aA < (l1.length:Int) then((ou.f k1 aJ aK aM aw aA (rd l1 aw) (rd l1 aA)).bind fun eu=>(if eu=true then(d7.l0 k1 l1 a2 (aq.length:Int) bw (decide ((rd aq aw) < 0)) aw (wrap64 (aw+1)) aC aq aJ aK aM) else(d7.l0 k1 l1 a2 (aq.length:Int) bw (decide ((rd aq aw) < 0)) aA (wrap64 (aw+1)) aC aq aJ aK aM))) else(none)) else(none)) else(none)) else(none))=some (r1,r2,r3,r4,r5,r6):=by rw [if_neg (show ¬ (false=true) by decide)] at H;exact H
     clear H;have H:=H1;clear H1
     by_cases PE:0≤aw
     ·rw [if_pos PE] at H;have af7:=decide_eq_true PE;clear PE
      by_cases Y5:aw < (l1.length:Int)
      ·rw [if_pos Y5] at H;have af6:=decide_eq_true Y5;clear Y5
       by_cases Y4:0≤aA
       ·rw [if_pos Y4] at H;have af5:=decide_eq_true Y4;clear Y4
        by_cases Ga:aA < (l1.length:Int)
        ·rw [if_pos Ga] at H;have Jq:=decide_eq_true Ga;clear Ga;replace H:=Option.bind_eq_some_iff.mp H;obtain⟨eu,akA,H⟩:=H;replace H:(if eu=true then(d7.l0 k1 l1 a2 (aq.length:Int) bw (decide ((rd aq aw) < 0)) aw (wrap64 (aw+1)) aC aq aJ aK aM) else(d7.l0 k1 l1 a2 (aq.length:Int) bw (decide ((rd aq aw) < 0)) aA (wrap64 (aw+1)) aC aq aJ aK aM))=some (r1,r2,r3,r4,r5,r6):=H;have A44:=q_ akA;clear akA
         by_cases Y3:eu=true
         ·subst Y3;have H1:(d7.l0 k1 l1 a2 (aq.length:Int) bw (decide ((rd aq aw) < 0)) aw (wrap64 (aw+1)) aC aq aJ aK aM)=some (r1,r2,r3,r4,r5,r6):=by rw [if_pos rfl] at H;exact H
          clear H;have H:=H1;clear H1;have H':=q_ H;clear H;have kT:=bF.out;have kU:=bG.out;have kV:=av.out;have kW:=az.out;obtain⟨dJ,dK,dL,dM⟩:=nF af;have Gw:0≤(aw:Int):=l7;have Gt:aw < (aq.length:Int):=l7;obtain⟨gG,aeG,zw⟩:=Kd.mA ox.out aw Gw Gt;cases aeG
          replace zw:=bc_ HB.out zw;replace Gw:=eq_true Gw;replace Gt:=eq_true Gt
          try go_wp2
          replace aH:=q_ (Kd.mM aH.out);replace ah:=q_ (Kd.mM ah.out);replace ag:=q_ (Kd.mF ag.out);replace af:=q_ (mI af.out);replace ai:=q_ (mI ai.out);replace ae:=q_ (mI ae.out);replace HB:=q_ (mS HB.out);have Gv:0≤(aw:Int):=l7;have Gs:aw < (l1.length:Int):=l7;obtain⟨cA,aeF,vH⟩:=Kd.mA pR.out aw Gv Gs;have bM:=vH;cases aeF
          replace vH:=bc_ HB.out vH;replace Gv:=eq_true Gv;replace Gs:=eq_true Gs;have Gu:0≤(aA:Int):=l7;have Gr:aA < (l1.length:Int):=l7;obtain⟨eB,aeE,vG⟩:=Kd.mA pR.out aA Gu Gr;have bN:=vG;obtain rfl:cA=eB:=(by injection aeE)
          replace vG:=bc_ HB.out vG;replace Gu:=eq_true Gu;replace Gr:=eq_true Gr;obtain⟨f8,f9,ga⟩:=Kd.nk ah.out
          (first | subst ga | (injection ga with sD vP sC;have vO:=sD.symm;have vN:=sC.symm;clear sD vP sC;subst vO;subst vN))
          obtain⟨gh,gi,gj⟩:=Kd.mE ag.out
          (first | subst gj | (injection gj with sD vP sC;have vO:=sD.symm;have vN:=sC.symm;clear sD vP sC;subst vO;subst vN))
          refine qx (n:=12) (S:=fun w'=>w'.cell? ⟨aa,0,none⟩=some (.slice f8 aJ.length f9)∧w'.cell? ⟨aa,1,none⟩=some (.int .i64 aK)∧w'.cell? ⟨aa,2,none⟩=some (.slice gh aM.length gi)∧w'.cell? (cA.add (aw).toNat)=some (.int .i64 (rd l1 aw))∧w'.cell? (cA.add (aA).toNat)=some (.int .i64 (rd l1 aA))) (ds:= []) ⟨(bp ae.out 0).trans rfl,(bp ae.out 1).trans rfl,(bp ae.out 2).trans rfl,((bc_ HB.out bM:)),((bc_ HB.out bN:))⟩ (fun hHeld=>?_);refine o9 d7.Zx d7.Sy (fun pL xA=>?_)
          generalize wr.drew=w49 at aH ah ag af ai ae HB vH vG hHeld ⊢
          refine sB 1 42 2 43 3 44 4 45 ?_;refine sB 5 46 7 48 8 49 9 50 ?_;refine mg 0 41 ?_;refine mg 6 47 ?_;refine mg 10 51 ?_
          refine pz 11 (some 52) (fun K hK=>?_)
          refine sH Tryz.func108 (by kernel_rfl) rfl #[.agg #[.slice f8 aJ.length f9, .int .i64 aK, .slice gh aM.length gi], .int .i64 aw, .int .i64 aA, .int .i64 (rd l1 aw), .int .i64 (rd l1 aA)] (by rfl) rfl rfl (by(try simp only [List.map_toArray,List.map_cons,List.map_nil]);first | done | rfl | (simp only [List.length_drop,List.length_take];rfl)) ?_
          with_reducible refine(ou.calls k1 _ _ aJ aK _ _ aM aw aA (rd l1 aw) (rd l1 aA) true _ ?bi ?bn ?bq ?bu A44.out).mono ?_
          (case bi=>exact PB)
          (case bn=>exact(Kd.qH ah.out).2.1)
          (case bq=>exact F9)
          (case bu=>exact(Kd.lU ag.out).2.1)
          rintro e w52 ⟨rfl,hb⟩;refine⟨_,rfl,?_⟩
          replace aH:=q_ (Kd.mQ (nw aH.out) hb);replace ah:=q_ (Kd.mQ (nw ah.out) hb);replace ag:=rK ag hb;replace af:=lZ af hb;replace ai:=lZ ai hb;replace ae:=lZ ae hb;replace HB:=lT hb;(try clear hb)
          
          (try clear hk)
          
          refine hK.out _ _ ⟨(bp ae.out 0).trans rfl,(bp ae.out 1).trans rfl,(bp ae.out 2).trans rfl,((bc_ HB.out bM:)),((bc_ HB.out bN:))⟩ (fun hHeld=>?_)
          clear hK K;refine mP (a':=?_) ?_ ?_
          rotate_left
          ·show Act.put _ (some 52) _=_
           simp only [Act.put,List.setIfInBounds_toArray,List.set_cons_zero,List.set_cons_succ,mT,nr]
           rfl
          refine oA (qj pL.out (by kernel_rfl)) ?_
          try go_wp2
          go_roundg k1
          case measure=>have:=nA.out;omega
          case rel=>exact⟨(decide ((rd aq aw) < 0)),(aw),(wrap64 (aw+1)),nM,nM,nM,H',⟨by have:=nA.out;omega⟩,⟨nw aH.out⟩,⟨nw ah.out⟩,⟨m5 ag.out⟩,⟨nj⟩,⟨nj⟩,⟨nj⟩,⟨hb_⟩⟩
         ·replace Y3:=Bool.eq_false_iff.mpr Y3;subst Y3;have H1:(d7.l0 k1 l1 a2 (aq.length:Int) bw (decide ((rd aq aw) < 0)) aA (wrap64 (aw+1)) aC aq aJ aK aM)=some (r1,r2,r3,r4,r5,r6):=by rw [if_neg (show ¬ (false=true) by decide)] at H;exact H
          clear H;have H:=H1;clear H1;have H':=q_ H;clear H;have kX:=bF.out;have kY:=bG.out;have kZ:=av.out;have ld:=az.out;obtain⟨dN,dO,dP,dQ⟩:=nF af;have Gw:0≤(aw:Int):=l7;have Gt:aw < (aq.length:Int):=l7;obtain⟨gG,aeG,zw⟩:=Kd.mA ox.out aw Gw Gt;cases aeG
          replace zw:=bc_ HB.out zw;replace Gw:=eq_true Gw;replace Gt:=eq_true Gt
          try go_wp2
          replace aH:=q_ (Kd.mM aH.out);replace ah:=q_ (Kd.mM ah.out);replace ag:=q_ (Kd.mF ag.out);replace af:=q_ (mI af.out);replace ai:=q_ (mI ai.out);replace ae:=q_ (mI ae.out);replace HB:=q_ (mS HB.out);have Gv:0≤(aw:Int):=l7;have Gs:aw < (l1.length:Int):=l7;obtain⟨cA,aeF,vH⟩:=Kd.mA pR.out aw Gv Gs;have bM:=vH;cases aeF
          replace vH:=bc_ HB.out vH;replace Gv:=eq_true Gv;replace Gs:=eq_true Gs;have Gu:0≤(aA:Int):=l7;have Gr:aA < (l1.length:Int):=l7;obtain⟨eB,aeE,vG⟩:=Kd.mA pR.out aA Gu Gr;have bN:=vG;obtain rfl:cA=eB:=(by injection aeE)
          replace vG:=bc_ HB.out vG;replace Gu:=eq_true Gu;replace Gr:=eq_true Gr;obtain⟨gp,gx,gy⟩:=Kd.nk ah.out
          (first | subst gy | (injection gy with sD vP sC;have vO:=sD.symm;have vN:=sC.symm;clear sD vP sC;subst vO;subst vN))
          obtain⟨gz,gA,gB⟩:=Kd.mE ag.out
          (first | subst gB | (injection gB with sD vP sC;have vO:=sD.symm;have vN:=sC.symm;clear sD vP sC;subst vO;subst vN))
          refine qx (n:=12) (S:=fun w'=>w'.cell? ⟨aa,0,none⟩=some (.slice gp aJ.length gx)∧w'.cell? ⟨aa,1,none⟩=some (.int .i64 aK)∧w'.cell? ⟨aa,2,none⟩=some (.slice gz aM.length gA)∧w'.cell? (cA.add (aw).toNat)=some (.int .i64 (rd l1 aw))∧w'.cell? (cA.add (aA).toNat)=some (.int .i64 (rd l1 aA))) (ds:= []) ⟨(bp ae.out 0).trans rfl,(bp ae.out 1).trans rfl,(bp ae.out 2).trans rfl,((bc_ HB.out bM:)),((bc_ HB.out bN:))⟩ (fun hHeld=>?_);refine o9 d7.Zx d7.Sy (fun pL xA=>?_)
          generalize wr.drew=w56 at aH ah ag af ai ae HB vH vG hHeld ⊢
          refine sB 1 42 2 43 3 44 4 45 ?_;refine sB 5 46 7 48 8 49 9 50 ?_;refine mg 0 41 ?_;refine mg 6 47 ?_;refine mg 10 51 ?_
          refine pz 11 (some 52) (fun K hK=>?_)
          refine sH Tryz.func108 (by kernel_rfl) rfl #[.agg #[.slice gp aJ.length gx, .int .i64 aK, .slice gz aM.length gA], .int .i64 aw, .int .i64 aA, .int .i64 (rd l1 aw), .int .i64 (rd l1 aA)] (by rfl) rfl rfl (by(try simp only [List.map_toArray,List.map_cons,List.map_nil]);first | done | rfl | (simp only [List.length_drop,List.length_take];rfl)) ?_
          with_reducible refine(ou.calls k1 _ _ aJ aK _ _ aM aw aA (rd l1 aw) (rd l1 aA) false _ ?bi ?bn ?bq ?bu A44.out).mono ?_
          (case bi=>exact PB)
          (case bn=>exact(Kd.qH ah.out).2.1)
          (case bq=>exact F9)
          (case bu=>exact(Kd.lU ag.out).2.1)
          rintro e w59 ⟨rfl,hb⟩;refine⟨_,rfl,?_⟩
          replace aH:=q_ (Kd.mQ (nw aH.out) hb);replace ah:=q_ (Kd.mQ (nw ah.out) hb);replace ag:=rK ag hb;replace af:=lZ af hb;replace ai:=lZ ai hb;replace ae:=lZ ae hb;replace HB:=lT hb;(try clear hb)
          
          (try clear hk)
          
          refine hK.out _ _ ⟨(bp ae.out 0).trans rfl,(bp ae.out 1).trans rfl,(bp ae.out 2).trans rfl,((bc_ HB.out bM:)),((bc_ HB.out bN:))⟩ (fun hHeld=>?_)
          clear hK K;refine mP (a':=?_) ?_ ?_
          rotate_left
          ·show Act.put _ (some 52) _=_
           simp only [Act.put,List.setIfInBounds_toArray,List.set_cons_zero,List.set_cons_succ,mT,nr]
           rfl
          refine oA (qj pL.out (by kernel_rfl)) ?_
          try go_wp2
          go_roundg k1
          case measure=>have:=nA.out;omega
          case rel=>exact⟨(decide ((rd aq aw) < 0)),(aA),(wrap64 (aw+1)),nM,nM,nM,H',⟨by have:=nA.out;omega⟩,⟨nw aH.out⟩,⟨nw ah.out⟩,⟨m5 ag.out⟩,⟨nj⟩,⟨nj⟩,⟨nj⟩,⟨hb_⟩⟩
        ·rw [if_neg Ga] at H;exact absurd H (by simp)
       ·rw [if_neg Y4] at H;exact absurd H (by simp)
      ·rw [if_neg Y5] at H;exact absurd H (by simp)
     ·rw [if_neg PE] at H;exact absurd H (by simp)
   ·rw [if_neg uZ] at H;have PK:=decide_eq_false uZ;clear uZ
    by_cases II:cW=true
    ·subst II;have H1:(d7.l1 k1 a2 (aq.length:Int) bw aA (wrap64 (2*(aq.length:Int))) aJ aK aM)=some (r1,r2,r3,r4,r5,r6):=by rw [if_pos rfl] at H;exact H
     clear H;have H:=H1;clear H1;have H':=q_ H;clear H;have lf:=bF.out;have lg:=bG.out;have lh:=av.out;have ll:=az.out;obtain⟨dR,dU,dV,dW⟩:=nF af;go_wp2
     go_loopg [12,14,16] k1 (fun kq Di DH OU w'=> ∃(bh:List (List Int)) (dx:Int) (ba:Int) (bD:Int) (aD:List (List Int)) (ay:Int) (aj:List Int) (a9:Value) (bC:Value),DH= .int .i64 dx∧OU= .int .i64 ba∧aE (d7.l1 kq a2 (aq.length:Int) bh dx ba aD ay aj=some (r1,r2,r3,r4,r5,r6))∧aE (kq≤k1)∧aE (Kd.S (Kd.slice 2 (Kd.int .i64)) 24 w' w.heap.size (fun k_=>some k_≠(a9:Value).ownBlock∧some k_≠(bC:Value).ownBlock) Di bh)∧aE (Kd.S (Kd.slice 2 (Kd.int .i64)) 24 w' w.heap.size (fun k_=>some k_≠(Di:Value).ownBlock∧some k_≠(bC:Value).ownBlock) a9 aD)∧aE (Kd.R (Kd.int .i64) 2 w' w.heap.size (fun _=>True) bC aj)∧aE (w'.heap[au]?=some (.cells #[(.slice aN aC.length aT),(.slice aU aq.length aV)] 34 (0,0)))∧aE (w'.heap[ak]?=some (.cells #[(.slice none 0 0), .int .i64 bD,(.slice none 0 0)] 107 (0,0)))∧aE (w'.heap[aa]?=some (.cells #[a9, .int .i64 ay,bC] 107 (0,0)))∧aE (Below w.heap.size w w'))
     case atStart=>exact⟨(bw),(aA),(wrap64 (2*(aq.length:Int))),(0),(aJ),(aK),(aM),(bg),(aY),nM,nM,H',⟨Nat.le_refl _⟩,⟨nw aH.out⟩,⟨nw ah.out⟩,⟨m5 ag.out⟩,⟨nj⟩,⟨nj⟩,⟨nj⟩,⟨hb_⟩⟩
     case round=>
      clear H';(try clear c1);(try clear PK);(try clear ru);(try clear wL);(try clear wK);(try clear uz);(try clear uY);(try clear PE);(try clear af7);(try clear Y5);(try clear af6);(try clear Y4);(try clear af5);(try clear Ga);(try clear Jq);(try clear Y3);(try clear II);(try clear dJ);(try clear dK);(try clear dN);(try clear dO);(try clear dR);(try clear dU);(try clear dL);(try clear dM);(try clear dP);(try clear dQ);(try clear dV);(try clear dW);(try clear zw);(try clear vH);(try clear vG);(try clear Gw);(try clear Gv);(try clear Gu);(try clear Gt);(try clear Gs);(try clear Gr);obtain⟨bh,dx,ba,bD,aD,ay,aj,a9,bC,rfl,rfl,HA,rA,aH,ah,ag,af,ai,ae,HB⟩:=hrel;cases gk with
      | zero=>exact absurd HA.out (by simp [d7.l1])
      | succ k2=>
       have H:=HA.out;clear HA;simp only [d7.l1] at H
       by_cases Y0:(bh.length:Int) < a2
       ·rw [if_pos Y0] at H;have afX:=decide_eq_true Y0;clear Y0;have afh:=q_ H;clear H;obtain⟨cF,cG,gU⟩:=Kd.nk aH.out;subst gU
        go_upto_if 67 with (fail)
        go_cut [14] (fun DH wc=> ∃(kq:Nat) (aI:Int) (bO:Int),DH= .int .i64 aI∧aE (d7.j2 kq a2 (aq.length:Int) bh aI ba aD ay aj=some (r1,r2,r3,r4,r5,r6))∧aE (kq≤k2)∧aE (Kd.S (Kd.slice 2 (Kd.int .i64)) 24 wc w.heap.size (fun k_=>some k_≠(a9:Value).ownBlock∧some k_≠(bC:Value).ownBlock) (.slice cF bh.length cG) bh)∧aE (Kd.S (Kd.slice 2 (Kd.int .i64)) 24 wc w.heap.size (fun k_=>some k_≠((.slice cF bh.length cG):Value).ownBlock∧some k_≠(bC:Value).ownBlock) a9 aD)∧aE (Kd.R (Kd.int .i64) 2 wc w.heap.size (fun _=>True) bC aj)∧aE (wc.heap[au]?=some (.cells #[(.slice aN aC.length aT),(.slice aU aq.length aV)] 34 (0,0)))∧aE (wc.heap[ak]?=some (.cells #[(.slice none 0 0), .int .i64 bO,(.slice none 0 0)] 107 (0,0)))∧aE (wc.heap[aa]?=some (.cells #[a9, .int .i64 ay,bC] 107 (0,0)))∧aE (Below w.heap.size w wc))
        case first=>
         have H:=afh.out;clear afh
         by_cases YZ:ba < (wrap64 (2*(aq.length:Int)))
         ·rw [if_pos YZ] at H;have Jp:=decide_eq_true YZ;clear YZ
          (first | rw [Jp] | (simp only [mT,nr];rw [Jp]) | skip)
          replace H:=Option.bind_eq_some_iff.mp H;obtain⟨cH,aky,H⟩:=H;replace H:(if cH < 0 then(some (aD,ay,aj,bh,ba,false)) else(d7.j2 k2 a2 (aq.length:Int) bh cH ba aD ay aj))=some (r1,r2,r3,r4,r5,r6):=H;have A68:=q_ aky;clear aky
          by_cases YX:cH < 0
          ·rw [if_pos YX] at H;have afW:=decide_eq_true YX;clear YX;simp only [Option.some.injEq,Prod.mk.injEq] at H;obtain⟨rfl,rfl,rfl,rfl,rfl,rfl⟩:=H;have lm:=az.out;have lp:=av.out;have lq:=aG.out;have lu:=ax.out;obtain⟨eX,eY,eZ,fa,fc,fe⟩:=qI ae;obtain⟨cI,cJ,gV⟩:=Kd.nk ah.out;subst gV;obtain⟨dr,du,gW⟩:=Kd.mE ag.out;subst gW
           go_wp2_with (first | ((with_reducible refine d8 (f:=109) rfl ?_);refine oJ 70 Tryz.func109 #[.agg #[.slice cI aD.length cJ, .int .i64 ay, .slice dr aj.length du], .int .i64 ba] ?_;(with_reducible refine(mZ.calls k2 _ _ aD ay _ _ aj ba cH _ ?bi ?bn ?bq ?bu A68.out).mono ?_);(case bi=>exact PB);(case bn=>exact(Kd.qH ah.out).2.1);(case bq=>exact F9);(case bu=>exact(Kd.lU ag.out).2.1);rintro e w75 ⟨rfl,hb⟩;refine⟨_,rfl,?_⟩;replace aH:=q_ (Kd.mQ (nw aH.out) hb);replace ah:=q_ (Kd.mQ (nw ah.out) hb);replace ag:=rK ag hb;replace af:=lZ af hb;replace ai:=lZ ai hb;replace ae:=lZ ae hb;replace HB:=lT hb;(try clear hb);(try clear hk);obtain⟨fg,fj,fk,fo,fp,fq⟩:=qI ae;have lv:=bG.out;have lz:=bF.out;obtain⟨fu,fw,fA,fB,fC,fD⟩:=qI ai))
           refine bodyPost_ret (AO (rs:= [.cell 6 107, .tmp 7, .tmp 8, .tmp 9]) rfl (by simp) (.cell ak 107 #[.slice cI aD.length cJ, .int .i64 ay, .slice dr aj.length du] (0,0) _ rfl (oX) Tryz.underlying107 rfl (by kernel_rfl) (.tmp (.tmp (.tmp .nil))))) rfl ?_
           exact⟨_,_,_,pH,kS_ (wR ah.out ai.out) (fun _ hk=>⟨hk.1.2,hk.1.1⟩),kR_ (DN ag.out ai.out) (fun _ hk=>trivial),kS_ (wR aH.out ai.out) (fun _ hk=>⟨hk.1.1,hk.1.2⟩),hb_⟩
          ·rw [if_neg YX] at H;have afW:=decide_eq_false YX;clear YX;have H':=q_ H;clear H;have lA:=az.out;have lB:=av.out;have lC:=aG.out;have lD:=ax.out;obtain⟨fE,fF,fG,fH,fI,fJ⟩:=qI ae;obtain⟨gX,gY,gZ⟩:=Kd.nk ah.out;subst gZ;obtain⟨hU,ia,ib⟩:=Kd.mE ag.out;subst ib
           go_wp2_with (first | ((with_reducible refine d8 (f:=109) rfl ?_);refine oJ 70 Tryz.func109 #[.agg #[.slice gX aD.length gY, .int .i64 ay, .slice hU aj.length ia], .int .i64 ba] ?_;(with_reducible refine(mZ.calls k2 _ _ aD ay _ _ aj ba cH _ ?bi ?bn ?bq ?bu A68.out).mono ?_);(case bi=>exact PB);(case bn=>exact(Kd.qH ah.out).2.1);(case bq=>exact F9);(case bu=>exact(Kd.lU ag.out).2.1);rintro e w84 ⟨rfl,hb⟩;refine⟨_,rfl,?_⟩;replace aH:=q_ (Kd.mQ (nw aH.out) hb);replace ah:=q_ (Kd.mQ (nw ah.out) hb);replace ag:=rK ag hb;replace af:=lZ af hb;replace ai:=lZ ai hb;replace ae:=lZ ae hb;replace HB:=lT hb;(try clear hb);(try clear hk)))
           go_meet
           case rel=>exact⟨_,(cH),(bD),nM,H',⟨by have:=nA.out;have:=rA.out;first | omega | exact Nat.le_refl _⟩,⟨nw aH.out⟩,⟨nw ah.out⟩,⟨m5 ag.out⟩,⟨nj⟩,⟨nj⟩,⟨nj⟩,⟨hb_⟩⟩
         ·rw [if_neg YZ] at H;have Jp:=decide_eq_false YZ;clear YZ
          (first | rw [Jp] | (simp only [mT,nr];rw [Jp]) | skip)
          have H':=q_ H;clear H;go_wp2
          go_meet
          case rel=>exact⟨_,(dx),(bD),nM,H',⟨by have:=nA.out;have:=rA.out;first | omega | exact Nat.le_refl _⟩,⟨nw aH.out⟩,⟨nw ah.out⟩,⟨m5 ag.out⟩,⟨nj⟩,⟨nj⟩,⟨nj⟩,⟨hb_⟩⟩
        case rest=>
         clear afh;(try clear c1);(try clear PK);(try clear ru);(try clear wL);(try clear wK);(try clear uz);(try clear uY);(try clear PE);(try clear af7);(try clear Y5);(try clear af6);(try clear Y4);(try clear af5);(try clear Ga);(try clear Jq);(try clear Y3);(try clear II);(try clear afX);(try clear Jp);(try clear afW);(try clear dJ);(try clear dK);(try clear dN);(try clear dO);(try clear dR);(try clear dU);(try clear eX);(try clear eY);(try clear eZ);(try clear fg);(try clear fj);(try clear fk);(try clear fu);(try clear fw);(try clear fA);(try clear fE);(try clear fF);(try clear fG);(try clear dL);(try clear dM);(try clear dP);(try clear dQ);(try clear dV);(try clear dW);(try clear fa);(try clear fc);(try clear fe);(try clear fo);(try clear fp);(try clear fq);(try clear fB);(try clear fC);(try clear fD);(try clear fH);(try clear fI);(try clear fJ);(try clear zw);(try clear vH);(try clear vG);(try clear Gw);(try clear Gv);(try clear Gu);(try clear Gt);(try clear Gs);(try clear Gr);obtain⟨kq,aI,bO,rfl,HA,aki,aH,ah,ag,af,ai,ae,HB⟩:=hcut;cases kq with
         | zero=>exact absurd HA.out (by simp [d7.j2])
         | succ Vj=>
          have H:=HA.out;clear HA;simp only [d7.j2] at H
          by_cases c85:0≤aI
          ·rw [if_pos c85] at H;have asd:=decide_eq_true c85;clear c85
           by_cases c86:aI < (aj.length:Int)
           ·rw [if_pos c86] at H;have asc:=decide_eq_true c86;clear c86;obtain⟨bZ,hy⟩: ∃y_:List Int,y_=(([ba,rd aj aI]:List Int)):=⟨_,rfl⟩
            replace H:(if bh.length < 5864062014805 then((some (bh++ [bZ]:List (List Int))).bind fun cB=>((sE.f aD ay aj aI ba).bind fun bP=>(if(rd aj aI)=(wrap64 (2*(aq.length:Int))) then(some (bP.1,bP.2.1,bP.2.2,cB,(-1),true)) else((rS.f (rd aj aI) (aq.length:Int)).bind fun cC=>(d7.l1 Vj a2 (aq.length:Int) cB aI cC bP.1 bP.2.1 bP.2.2))))) else(none))=some (r1,r2,r3,r4,r5,r6):=hh_;have dz:=q_ hy;clear hy
            by_cases c87:bh.length < 5864062014805
            ·rw [if_pos c87] at H;have eU:=q_ c87;clear c87;obtain⟨cB,hy⟩: ∃y_:List (List Int),y_=(bh++ [bZ]):=⟨_,rfl⟩
             replace H:((sE.f aD ay aj aI ba).bind fun bP=>(if(rd aj aI)=(wrap64 (2*(aq.length:Int))) then(some (bP.1,bP.2.1,bP.2.2,cB,(-1),true)) else((rS.f (rd aj aI) (aq.length:Int)).bind fun cC=>(d7.l1 Vj a2 (aq.length:Int) cB aI cC bP.1 bP.2.1 bP.2.2))))=some (r1,r2,r3,r4,r5,r6):=hh_;have eV:=q_ hy;clear hy;replace H:=Option.bind_eq_some_iff.mp H;obtain⟨⟨bH,bI,bJ⟩,akw,H⟩:=H;replace H:(if(rd aj aI)=(wrap64 (2*(aq.length:Int))) then(some (bH,bI,bJ,cB,(-1),true)) else((rS.f (rd aj aI) (aq.length:Int)).bind fun cC=>(d7.l1 Vj a2 (aq.length:Int) cB aI cC bH bI bJ)))=some (r1,r2,r3,r4,r5,r6):=H;have A88:=q_ akw;clear akw
             by_cases V9:(rd aj aI)=(wrap64 (2*(aq.length:Int)))
             ·rw [if_pos V9] at H;have alh:=yh V9;have alg:=yg V9;clear V9;simp only [Option.some.injEq,Prod.mk.injEq] at H;obtain⟨rfl,rfl,rfl,rfl,rfl,rfl⟩:=H;have lF:=az.out;have lG:=av.out;have lH:=aG.out;have lI:=ax.out;obtain⟨jN,jO,jP,jQ,jR,jS⟩:=qI ae;obtain⟨lN,cV,ic⟩:=Kd.mE ag.out;subst ic;have Kx:0≤(aI:Int):=l7;have J4:aI < (aj.length:Int):=l7;obtain⟨bE,aeD,ahi⟩:=Kd.mA (Kd.lU ag.out).2.2 aI Kx J4;cases aeD
              replace Kx:=eq_true Kx;replace J4:=eq_true J4
              go_wp2_with (first | ((with_reducible refine dg (N:=84) rfl ?_);refine Kd.tu (Kd.int .i64) _ 2 ?hg (N:=84) ?hd (xs:=([ba,rd aj aI]:List Int)) (inner:= [.int .i64 ba, .int .i64 (rd aj aI)]) (ok:=fun _=>True) (oC:=fun _=>True) ?hr ?hp (fun _ hk=>hk) trivial (Below.refl _ _) (Nat.le_refl _) (by simp) ?_;(case hd=>rfl);(case hg=>rfl);(case hr=>first | (go_simp;done) | (go_simp;rfl));(case hp=>exact(mV.one (show Kd.M (Kd.int .i64) _ _ _ ba [.int .i64 ba] from rfl) (mV.one (show Kd.M (Kd.int .i64) _ _ _ (rd aj aI) [.int .i64 (rd aj aI)] from rfl) (mV.none _ _))));intro ig w94 cK hb hg_ om;clear hg_ om;(first | rw [← dz.out] at cK | (simp only [Int.reduceToNat] at cK;rw [← dz.out] at cK));replace aH:=q_ (Kd.tA (nw aH.out) (Kd.o8 cK) hb);replace ah:=q_ (Kd.tA (nw ah.out) (Kd.o8 cK) hb);have bU:=q_ (Kd.ng (Kd.wo cK (Kd.qw (m5 ag.out))) oI);replace af:=lZ af hb;replace ai:=lZ ai hb;replace ae:=lZ ae hb;replace ag:=q_ (Kd.tV (m5 ag.out) (Kd.o8 cK) hb);replace HB:=lT hb;clear hb cK;obtain⟨eJ,eK,ij⟩:=Kd.mE bU.out;subst ij) | ((with_reducible refine nL (b:= .append) (xs:= #[.tmp 81, .tmp 85]) rfl ?_);at_builtin;refine Kd.Af (Kd.slice 2 (Kd.int .i64)) (w0:=w) w.heap.size rfl (.tmp 81) (.tmp 85) 32 24 (.slice none 0 0) 24 rfl Tryz.underlying32 yc rfl (by decide) (by omega) (.slice cF bh.length cG) bh bZ [.slice eJ bZ.length eK] (fun k_=>some k_≠(a9:Value).ownBlock∧some k_≠(.slice (some bE) aj.length cV:Value).ownBlock) (fun k_=>some k_=(.slice eJ bZ.length eK:Value).ownBlock) rfl rfl ?aP (fun k_ hk_=>((Kd.fY (ok':=fun k_=>((fun k_=>some k_≠(a9:Value).ownBlock∧some k_≠(.slice (some bE) aj.length cV:Value).ownBlock)) k_∧some k_≠(.slice cF bh.length cG:Value).ownBlock) (Kd.qp (Kd.qp (bU.out) (Kd.pQ ah.out) (by decide)) (Kd.pQ aH.out) (by decide)) (fun k_ hk=>⟨⟨hk.1.2,hk.1.1.2⟩,hk.2⟩))).1 k_ hk_.symm) ?aF ?aO ?aB ?aS ?aL ?_;(case aP=>exact Kd.zT (Kd.fY (Kd.q5 rfl (Kd.fY (ok':=fun k_=>((fun k_=>some k_≠(a9:Value).ownBlock∧some k_≠(.slice (some bE) aj.length cV:Value).ownBlock)) k_∧some k_≠(.slice cF bh.length cG:Value).ownBlock) (Kd.qp (Kd.qp (bU.out) (Kd.pQ ah.out) (by decide)) (Kd.pQ aH.out) (by decide)) (fun k_ hk=>⟨⟨hk.1.2,hk.1.1.2⟩,hk.2⟩))) (fun _ h_=>h_)));(case aB=>exact hb_);(case aF=>exact(fun k_ hk=>⟨Kd.tZ (Kd.Es (nw ah.out)) k_ hk,Kd.tZ (Kd.qw (m5 ag.out)) k_ hk⟩));(case aO=>exact(kS_ aH.out (fun k_ hk=>⟨⟨hk.1.1,hk.1.2⟩,fun e_=>hk.2 e_⟩)));(case aS=>exact oI);(case aL=>have:=eU.out;omega);intro ik w96 ho hb hg hat;rw [← eV.out] at ho;replace ah:=q_ (Kd.uL (ok:=(fun k_=>some k_≠(.slice (some bE) aj.length cV:Value).ownBlock∧some k_≠(.slice eJ bZ.length eK:Value).ownBlock)) (kS_ ah.out (fun _ hk=>⟨⟨hk.1.2,hk.2⟩,hk.1.1⟩)) hg hat);replace ag:=q_ (Kd.wh (m5 ag.out) (Kd.pQ (nw aH.out)) (by decide) hg);replace af:=q_ (tU af.out hg (Kd.sP aH.out af.out (by decide)));replace ai:=q_ (tU ai.out hg (Kd.sP aH.out ai.out (by decide)));replace ae:=q_ (tU ae.out hg (Kd.sP aH.out ae.out (by decide)));replace HB:=q_ (hb);have bV:=q_ (ho);clear aH bU ho hb hg hat;obtain⟨jT,jU,jV,jW,jX,jY⟩:=qI ae;obtain⟨gC,gF,il⟩:=Kd.nk ah.out;subst il) | ((with_reducible refine d8 (f:=110) rfl ?_);refine oJ 90 Tryz.func110 #[.agg #[.slice gC aD.length gF, .int .i64 ay, .slice (some bE) aj.length cV], .int .i64 aI, .int .i64 ba] ?_;(with_reducible refine(sE.calls _ _ aD ay _ _ aj aI ba bH bI bJ _ ?bi ?bn ?bq ?bu A88.out).mono ?_);(case bi=>exact PB);(case bn=>exact(Kd.qH ah.out).2.1);(case bq=>exact F9);(case bu=>exact(Kd.lU ag.out).2.1);rintro e amR ⟨iq,iw,rfl,ho0,ho1,hb⟩;refine⟨_,rfl,?_⟩;have cZ:=q_ (Kd.oP (Kd.tK (Kd.tK (Kd.tK ho0 (Kd.Es (nw ah.out))) (Kd.qw (m5 ag.out))) (Kd.Es (nw bV.out))) oI);have da:=q_ (Kd.ng (Kd.wo ho1 (Kd.qw (m5 ag.out))) oI);replace af:=lZ af hb;replace ai:=lZ ai hb;replace ae:=lZ ae hb;replace ah:=q_ (Kd.mB (Kd.yC (Kd.yC (Kd.Jt (nw ah.out) hb) (Kd.Bg ho0)) (Kd.o8 ho1)) (fun _ h_=>h_.1));replace ag:=q_ (Kd.tV (m5 ag.out) (Kd.o8 ho1) hb);replace bV:=q_ (Kd.mB (Kd.yC (Kd.yC (Kd.Jt (nw bV.out) hb) (Kd.Bg ho0)) (Kd.o8 ho1)) (fun _ h_=>h_.1));replace HB:=lT hb;(try clear hb);(try clear hk);(try clear ho0);(try clear ho1);obtain⟨bW,bX,gH⟩:=Kd.nk cZ.out;subst gH;obtain⟨iy,iz,iA,iB,iC,iD⟩:=qI ae;obtain⟨cD,cE,gI⟩:=Kd.mE da.out;subst gI;have j5:=bG.out;have j6:=bF.out;obtain⟨iE,iF,iG,iH,iI,iJ⟩:=qI ai))
              refine bodyPost_ret (AO (rs:= [.cell 6 107, .tmp 7, .tmp 8, .tmp 9]) rfl (by simp) (.cell ak 107 #[.slice bW bH.length bX, .int .i64 bI, .slice cD bJ.length cE] (0,0) _ rfl (oX) Tryz.underlying107 rfl (by kernel_rfl) (.tmp (.tmp (.tmp .nil))))) rfl ?_
              exact⟨_,_,_,pH,kS_ (Kd.tM (p:=⟨ak,2,none⟩) (Kd.tM (p:=⟨ak,1,none⟩) (Kd.tM (p:=⟨ak,0,none⟩) (Kd.tM (p:=⟨aa,2,none⟩) (Kd.tM (p:=⟨aa,1,none⟩) (Kd.tM (p:=⟨aa,0,none⟩) (Kd.vZ (Kd.vZ cZ.out ae.out (by decide)) ai.out (by decide)) (fun _ hk=>hk.1.2) (.slice bW bH.length bX)) (fun _ hk=>hk.1.2) (.int .i64 bI)) (fun _ hk=>hk.1.2) (.slice cD bJ.length cE)) (fun _ hk=>hk.2) (.slice bW bH.length bX)) (fun _ hk=>hk.2) (.int .i64 bI)) (fun _ hk=>hk.2) (.slice cD bJ.length cE)) (fun _ hk=>⟨hk.1.1.1.1.1,hk.1.1.2⟩),kR_ (Kd.nN (p:=⟨ak,2,none⟩) (Kd.nN (p:=⟨ak,1,none⟩) (Kd.nN (p:=⟨ak,0,none⟩) (Kd.nN (p:=⟨aa,2,none⟩) (Kd.nN (p:=⟨aa,1,none⟩) (Kd.nN (p:=⟨aa,0,none⟩) (Kd.wg (Kd.wg da.out ae.out (by decide)) ai.out (by decide)) (fun _ hk=>hk.1.2) (.slice bW bH.length bX)) (fun _ hk=>hk.1.2) (.int .i64 bI)) (fun _ hk=>hk.1.2) (.slice cD bJ.length cE)) (fun _ hk=>hk.2) (.slice bW bH.length bX)) (fun _ hk=>hk.2) (.int .i64 bI)) (fun _ hk=>hk.2) (.slice cD bJ.length cE)) (fun _ hk=>trivial),kS_ (Kd.tM (p:=⟨ak,2,none⟩) (Kd.tM (p:=⟨ak,1,none⟩) (Kd.tM (p:=⟨ak,0,none⟩) (Kd.tM (p:=⟨aa,2,none⟩) (Kd.tM (p:=⟨aa,1,none⟩) (Kd.tM (p:=⟨aa,0,none⟩) (Kd.vZ (Kd.vZ bV.out ae.out (by decide)) ai.out (by decide)) (fun _ hk=>hk.1.2) (.slice bW bH.length bX)) (fun _ hk=>hk.1.2) (.int .i64 bI)) (fun _ hk=>hk.1.2) (.slice cD bJ.length cE)) (fun _ hk=>hk.2) (.slice bW bH.length bX)) (fun _ hk=>hk.2) (.int .i64 bI)) (fun _ hk=>hk.2) (.slice cD bJ.length cE)) (fun _ hk=>⟨hk.1.1.1.2,hk.1.1.2⟩),hb_⟩
             ·rw [if_neg V9] at H;have alh:=uJ V9;have alg:=uI V9;replace H:=Option.bind_eq_some_iff.mp H;obtain⟨cC,agE,H⟩:=H;replace H:(d7.l1 Vj a2 (aq.length:Int) cB aI cC bH bI bJ)=some (r1,r2,r3,r4,r5,r6):=H;have aoC:=q_ agE;clear agE;have H':=q_ H;clear H;have j7:=az.out;have j8:=av.out;have j9:=aG.out;have kg:=ax.out;obtain⟨iK,iL,iM,iN,iO,iP⟩:=qI ae;obtain⟨lJ,bS,gJ⟩:=Kd.mE ag.out;subst gJ;have Kx:0≤(aI:Int):=l7;have J4:aI < (aj.length:Int):=l7;obtain⟨bE,aeD,ahi⟩:=Kd.mA (Kd.lU ag.out).2.2 aI Kx J4;cases aeD
              replace Kx:=eq_true Kx;replace J4:=eq_true J4
              go_wp2_with (first | ((with_reducible refine dg (N:=84) rfl ?_);refine Kd.tu (Kd.int .i64) _ 2 ?hg (N:=84) ?hd (xs:=([ba,rd aj aI]:List Int)) (inner:= [.int .i64 ba, .int .i64 (rd aj aI)]) (ok:=fun _=>True) (oC:=fun _=>True) ?hr ?hp (fun _ hk=>hk) trivial (Below.refl _ _) (Nat.le_refl _) (by simp) ?_;(case hd=>rfl);(case hg=>rfl);(case hr=>first | (go_simp;done) | (go_simp;rfl));(case hp=>exact(mV.one (show Kd.M (Kd.int .i64) _ _ _ ba [.int .i64 ba] from rfl) (mV.one (show Kd.M (Kd.int .i64) _ _ _ (rd aj aI) [.int .i64 (rd aj aI)] from rfl) (mV.none _ _))));intro ig asv bY hb hg_ om;clear hg_ om;(first | rw [← dz.out] at bY | (simp only [Int.reduceToNat] at bY;rw [← dz.out] at bY));replace aH:=q_ (Kd.tA (nw aH.out) (Kd.o8 bY) hb);replace ah:=q_ (Kd.tA (nw ah.out) (Kd.o8 bY) hb);have bU:=q_ (Kd.ng (Kd.wo bY (Kd.qw (m5 ag.out))) oI);replace af:=lZ af hb;replace ai:=lZ ai hb;replace ae:=lZ ae hb;replace ag:=q_ (Kd.tV (m5 ag.out) (Kd.o8 bY) hb);replace HB:=lT hb;clear hb bY;obtain⟨eC,eD,gK⟩:=Kd.mE bU.out;subst gK) | ((with_reducible refine nL (b:= .append) (xs:= #[.tmp 81, .tmp 85]) rfl ?_);at_builtin;refine Kd.Af (Kd.slice 2 (Kd.int .i64)) (w0:=w) w.heap.size rfl (.tmp 81) (.tmp 85) 32 24 (.slice none 0 0) 24 rfl Tryz.underlying32 yc rfl (by decide) (by omega) (.slice cF bh.length cG) bh bZ [.slice eC bZ.length eD] (fun k_=>some k_≠(a9:Value).ownBlock∧some k_≠(.slice (some bE) aj.length bS:Value).ownBlock) (fun k_=>some k_=(.slice eC bZ.length eD:Value).ownBlock) rfl rfl ?aP (fun k_ hk_=>((Kd.fY (ok':=fun k_=>((fun k_=>some k_≠(a9:Value).ownBlock∧some k_≠(.slice (some bE) aj.length bS:Value).ownBlock)) k_∧some k_≠(.slice cF bh.length cG:Value).ownBlock) (Kd.qp (Kd.qp (bU.out) (Kd.pQ ah.out) (by decide)) (Kd.pQ aH.out) (by decide)) (fun k_ hk=>⟨⟨hk.1.2,hk.1.1.2⟩,hk.2⟩))).1 k_ hk_.symm) ?aF ?aO ?aB ?aS ?aL ?_;(case aP=>exact Kd.zT (Kd.fY (Kd.q5 rfl (Kd.fY (ok':=fun k_=>((fun k_=>some k_≠(a9:Value).ownBlock∧some k_≠(.slice (some bE) aj.length bS:Value).ownBlock)) k_∧some k_≠(.slice cF bh.length cG:Value).ownBlock) (Kd.qp (Kd.qp (bU.out) (Kd.pQ ah.out) (by decide)) (Kd.pQ aH.out) (by decide)) (fun k_ hk=>⟨⟨hk.1.2,hk.1.1.2⟩,hk.2⟩))) (fun _ h_=>h_)));(case aB=>exact hb_);(case aF=>exact(fun k_ hk=>⟨Kd.tZ (Kd.Es (nw ah.out)) k_ hk,Kd.tZ (Kd.qw (m5 ag.out)) k_ hk⟩));(case aO=>exact(kS_ aH.out (fun k_ hk=>⟨⟨hk.1.1,hk.1.2⟩,fun e_=>hk.2 e_⟩)));(case aS=>exact oI);(case aL=>have:=eU.out;omega);intro ik asu ho hb hg hat;rw [← eV.out] at ho;replace ah:=q_ (Kd.uL (ok:=(fun k_=>some k_≠(.slice (some bE) aj.length bS:Value).ownBlock∧some k_≠(.slice eC bZ.length eD:Value).ownBlock)) (kS_ ah.out (fun _ hk=>⟨⟨hk.1.2,hk.2⟩,hk.1.1⟩)) hg hat);replace ag:=q_ (Kd.wh (m5 ag.out) (Kd.pQ (nw aH.out)) (by decide) hg);replace af:=q_ (tU af.out hg (Kd.sP aH.out af.out (by decide)));replace ai:=q_ (tU ai.out hg (Kd.sP aH.out ai.out (by decide)));replace ae:=q_ (tU ae.out hg (Kd.sP aH.out ae.out (by decide)));replace HB:=q_ (hb);have bV:=q_ (ho);clear aH bU ho hb hg hat;obtain⟨iQ,iR,iS,iT,iU,iV⟩:=qI ae;obtain⟨eF,eG,gL⟩:=Kd.nk ah.out;subst gL) | ((with_reducible refine d8 (f:=110) rfl ?_);refine oJ 90 Tryz.func110 #[.agg #[.slice eF aD.length eG, .int .i64 ay, .slice (some bE) aj.length bS], .int .i64 aI, .int .i64 ba] ?_;(with_reducible refine(sE.calls _ _ aD ay _ _ aj aI ba bH bI bJ _ ?bi ?bn ?bq ?bu A88.out).mono ?_);(case bi=>exact PB);(case bn=>exact(Kd.qH ah.out).2.1);(case bq=>exact F9);(case bu=>exact(Kd.lU ag.out).2.1);rintro e asr ⟨iq,iw,rfl,ho0,ho1,hb⟩;refine⟨_,rfl,?_⟩;have cZ:=q_ (Kd.oP (Kd.tK (Kd.tK (Kd.tK ho0 (Kd.Es (nw ah.out))) (Kd.qw (m5 ag.out))) (Kd.Es (nw bV.out))) oI);have da:=q_ (Kd.ng (Kd.wo ho1 (Kd.qw (m5 ag.out))) oI);replace af:=lZ af hb;replace ai:=lZ ai hb;replace ae:=lZ ae hb;replace ah:=q_ (Kd.mB (Kd.yC (Kd.yC (Kd.Jt (nw ah.out) hb) (Kd.Bg ho0)) (Kd.o8 ho1)) (fun _ h_=>h_.1));replace ag:=q_ (Kd.tV (m5 ag.out) (Kd.o8 ho1) hb);replace bV:=q_ (Kd.mB (Kd.yC (Kd.yC (Kd.Jt (nw bV.out) hb) (Kd.Bg ho0)) (Kd.o8 ho1)) (fun _ h_=>h_.1));replace HB:=lT hb;(try clear hb);(try clear hk);(try clear ho0);(try clear ho1);obtain⟨cL,cN,gM⟩:=Kd.nk cZ.out;subst gM;obtain⟨iW,iX,iY,iZ,i9,ja⟩:=qI ae;obtain⟨dA,dB,gN⟩:=Kd.mE da.out;subst gN) | ((with_reducible refine d8 (f:=111) rfl ?_);refine oJ 99 Tryz.func111 #[.int .i64 (rd aj aI), .int .i64 (aq.length:Int)] ?_;(with_reducible refine(rS.calls (rd aj aI) (aq.length:Int) cC _ aoC.out).mono ?_);rintro e w' ⟨rfl,⟨nd,rfl⟩⟩;refine⟨_,rfl,?_⟩))
              go_roundg Vj
              case measure=>have:=nA.out;have:=rA.out;have:=aki.out;omega
              case rel=>exact⟨(cB),(aI),(cC),(bO),(bH),(bI),(bJ),(.slice cL bH.length cN),(.slice dA bJ.length dB),nM,nM,H',⟨by have:=nA.out;have:=rA.out;have:=aki.out;omega⟩,⟨kS_ (wR bV.out ae.out) (fun _ hk=>⟨hk.1.1.2,hk.1.2⟩)⟩,⟨kS_ (wR cZ.out ae.out) (fun _ hk=>⟨hk.1.2,hk.1.1.1.1⟩)⟩,⟨kR_ (DN da.out ae.out) (fun _ hk=>trivial)⟩,⟨oX⟩,⟨oX⟩,⟨oX⟩,⟨hb_⟩⟩
            ·rw [if_neg c87] at H;exact absurd H (by simp)
           ·rw [if_neg c86] at H;exact absurd H (by simp)
          ·rw [if_neg c85] at H;exact absurd H (by simp)
       ·rw [if_neg Y0] at H;have afX:=decide_eq_false Y0;clear Y0;simp only [Option.some.injEq,Prod.mk.injEq] at H;obtain⟨rfl,rfl,rfl,rfl,rfl,rfl⟩:=H;obtain⟨lK,lL,gO⟩:=Kd.nk aH.out;subst gO;have ko:=az.out;have kr:=av.out;have ku:=aG.out;have kw:=ax.out;obtain⟨jb,jc,jd,je,jf,jg⟩:=qI ae;obtain⟨cO,cQ,gP⟩:=Kd.nk ah.out;subst gP;have kx:=bG.out;have ky:=bF.out;obtain⟨jh,jk,jl,jm,jn,jo⟩:=qI ai;obtain⟨dC,dD,gQ⟩:=Kd.mE ag.out;subst gQ;go_wp2
        refine bodyPost_ret (AO (rs:= [.cell 6 107, .tmp 7, .tmp 8, .tmp 9]) rfl (by simp) (.cell ak 107 #[.slice cO aD.length cQ, .int .i64 ay, .slice dC aj.length dD] (0,0) _ rfl (oX) Tryz.underlying107 rfl (by kernel_rfl) (.tmp (.tmp (.tmp .nil))))) rfl ?_
        exact⟨_,_,_,pH,kS_ (wR ah.out ai.out) (fun _ hk=>⟨hk.1.2,hk.1.1⟩),kR_ (DN ag.out ai.out) (fun _ hk=>trivial),kS_ (wR aH.out ai.out) (fun _ hk=>⟨hk.1.1,hk.1.2⟩),hb_⟩
    ·replace II:=Bool.eq_false_iff.mpr II;subst II;have H1:(some (aJ,aK,aM,bw,(-1),true))=some (r1,r2,r3,r4,r5,r6):=by rw [if_neg (show ¬ (false=true) by decide)] at H;exact H
     clear H;have H:=H1;clear H1;simp only [Option.some.injEq,Prod.mk.injEq] at H;obtain⟨rfl,rfl,rfl,rfl,rfl,rfl⟩:=H;have kz:=bF.out;have kC:=bG.out;have kD:=av.out;have kE:=az.out;obtain⟨jp,jq,jr,js⟩:=nF af;have kF:=aG.out;have kG:=ax.out;obtain⟨jt,ju,jv,jw,jx,jy⟩:=qI ae;obtain⟨cT,cU,gS⟩:=Kd.nk ah.out;subst gS;obtain⟨jz,jA,jB,jC,jD,jE⟩:=qI ai;obtain⟨dE,dF,gT⟩:=Kd.mE ag.out;subst gT;go_wp2
     refine bodyPost_ret (AO (rs:= [.cell 6 107, .tmp 7, .tmp 8, .tmp 9]) rfl (by simp) (.cell ak 107 #[.slice cT aJ.length cU, .int .i64 aK, .slice dE aM.length dF] (0,0) _ rfl (oX) Tryz.underlying107 rfl (by kernel_rfl) (.tmp (.tmp (.tmp .nil))))) rfl ?_
     exact⟨_,_,_,pH,kS_ (wR ah.out ai.out) (fun _ hk=>⟨hk.1.2,hk.1.1⟩),kR_ (DN ag.out ai.out) (fun _ hk=>trivial),kS_ (wR aH.out ai.out) (fun _ hk=>⟨hk.1.1,hk.1.2⟩),hb_⟩
def oU.f (k:Nat) (a0:Int) (a1:Int):Option (Int × Int × Int):=(nK.f k a0 a1).bind fun aa=>(if a1 < 0 then(if(wrap64 (-aa))=0 then(none) else((qG.f k (wrap64 (Int.tdiv a0 (wrap64 (-aa)))) (wrap64 (Int.tdiv a1 (wrap64 (-aa))))).bind fun ae=>(if ae=true then(some (wrap64 (Int.tdiv a0 (wrap64 (-aa))),wrap64 (Int.tdiv a1 (wrap64 (-aa))),0)) else(some (0,0,3))))) else(if aa=0 then(none) else((qG.f k (wrap64 (Int.tdiv a0 aa)) (wrap64 (Int.tdiv a1 aa))).bind fun af=>(if af=true then(some (wrap64 (Int.tdiv a0 aa),wrap64 (Int.tdiv a1 aa),0)) else(some (0,0,3))))))
def oU.T4:Bool × List (List Nat × List Nat):=(true, [([], []),([], []),([0,1], [0,1]),([], []),([], []),([3,4], [3,4]),([2,5], [2,5]),([], []),([7,6,0,1,2,3,4,5,6,7], [6,7])])
def oU.B4:List Nat:= [0,0,3,0,0,24,63,0,255]
theorem oU.Zy:sy .any (opsOf Tryz.f105 4)=oU.T4:=by kernel_rfl
theorem oU.Sz:tD oU.T4.2 oU.B4=true:=by kernel_rfl
theorem oU.calls (k:Nat) (a0:Int) (a1:Int) (r1:Int) (r2:Int) (r3:Int) (w:World) (h:oU.f k a0 a1=some (r1,r2,r3)):
  Calls Tryz.prog 105 #[.int .i64 a0, .int .i64 a1] w fun e w'=>e= .returned (.tuple #[.agg #[.int .i64 r1, .int .i64 r2], .int .i64 r3])∧Below w.heap.size w w':=by
 have DV:=Tryz.underlying58;have HB:=q_ (Below.refl w.heap.size w);have H:((nK.f k a0 a1).bind fun ae=>(if a1 < 0 then(if(wrap64 (-ae))=0 then(none) else((qG.f k (wrap64 (Int.tdiv a0 (wrap64 (-ae)))) (wrap64 (Int.tdiv a1 (wrap64 (-ae))))).bind fun aw=>(if aw=true then(some (wrap64 (Int.tdiv a0 (wrap64 (-ae))),wrap64 (Int.tdiv a1 (wrap64 (-ae))),0)) else(some (0,0,3))))) else(if ae=0 then(none) else((qG.f k (wrap64 (Int.tdiv a0 ae)) (wrap64 (Int.tdiv a1 ae))).bind fun ax=>(if ax=true then(some (wrap64 (Int.tdiv a0 ae),wrap64 (Int.tdiv a1 ae),0)) else(some (0,0,3)))))))=some (r1,r2,r3):=h;clear h;replace H:=Option.bind_eq_some_iff.mp H;obtain⟨ae,sW,H⟩:=H;replace H:(if a1 < 0 then(if(wrap64 (-ae))=0 then(none) else((qG.f k (wrap64 (Int.tdiv a0 (wrap64 (-ae)))) (wrap64 (Int.tdiv a1 (wrap64 (-ae))))).bind fun aw=>(if aw=true then(some (wrap64 (Int.tdiv a0 (wrap64 (-ae))),wrap64 (Int.tdiv a1 (wrap64 (-ae))),0)) else(some (0,0,3))))) else(if ae=0 then(none) else((qG.f k (wrap64 (Int.tdiv a0 ae)) (wrap64 (Int.tdiv a1 ae))).bind fun ax=>(if ax=true then(some (wrap64 (Int.tdiv a0 ae),wrap64 (Int.tdiv a1 ae),0)) else(some (0,0,3))))))=some (r1,r2,r3):=H;have A3:=q_ sW;clear sW
 by_cases c4:a1 < 0
 ·rw [if_pos c4] at H;have qv:=decide_eq_true c4;clear c4
  by_cases c5:(wrap64 (-ae))=0
  ·rw [if_pos c5] at H;exact absurd H (by simp)
  ·rw [if_neg c5] at H;have uP:=uJ c5;have QS:=uI c5;replace H:=Option.bind_eq_some_iff.mp H;obtain⟨aw,RN,H⟩:=H;replace H:(if aw=true then(some (wrap64 (Int.tdiv a0 (wrap64 (-ae))),wrap64 (Int.tdiv a1 (wrap64 (-ae))),0)) else(some (0,0,3)))=some (r1,r2,r3):=H;have A6:=q_ RN;clear RN
   by_cases c7:aw=true
   ·subst c7;have H1:(some (wrap64 (Int.tdiv a0 (wrap64 (-ae))),wrap64 (Int.tdiv a1 (wrap64 (-ae))),0))=some (r1,r2,r3):=by rw [if_pos rfl] at H;exact H
    clear H;have H:=H1;clear H1;simp only [Option.some.injEq,Prod.mk.injEq] at H;obtain⟨rfl,rfl,rfl⟩:=H
    go_enter Tryz.func105,Tryz.ntmps105
    try go_wp2_with (first | ((with_reducible refine dg (N:=4) rfl ?_);refine nR 4 #[.int .i64 0, .int .i64 0] 58 ?_;intro af hg w8 cM hb;have aa:=q_ (cM);have ay:=mq w hg;have az:=mq w hg;replace HB:=lT hb;clear hb cM hg) | ((with_reducible refine d8 (f:=116) rfl ?_);refine oJ 10 Tryz.func116 #[.int .i64 a0, .int .i64 a1] ?_;(with_reducible refine(nK.calls k a0 a1 ae _ A3.out).mono ?_);rintro e w9 ⟨rfl,hb⟩;refine⟨_,rfl,?_⟩;replace aa:=lZ aa hb;replace HB:=lT hb;(try clear hb)))
    replace aa:=q_ (mI aa.out);replace HB:=q_ (mS HB.out);refine qx (n:=9) (S:=fun w'=>True) (ds:= []) trivial (fun hHeld=>?_);refine o9 oU.Zy oU.Sz (fun pL xA=>?_)
    generalize w9.drew=tE at aa HB hHeld ⊢
    refine sB 0 15 1 16 2 17 3 18 ?_;refine rm 4 19 5 20 6 21 ?_
    refine pz 7 (some 7) (fun K hK=>?_)
    refine rP ?hg (N:=7) ?hd (cs:= #[.int .i64 0, .int .i64 0]) (t:=58) ?hr ?_;(case hd=>rfl);(case hg=>rfl);(case hr=>first | (go_simp;done) | (go_simp;rfl))
    intro ai hg rB cM hb;have ag:=q_ (cM);have aA:=mq w hg;have aC:=mq w hg;have ak:=r7 hg aa;have au:=rY hg aa;replace aa:=lZ aa hb;replace HB:=lT hb;clear hb cM hg;refine hK.out _ _ trivial (fun hHeld=>?_)
    clear hK K;refine mP (a':=?_) ?_ ?_
    rotate_left
    ·show Act.put _ (some 7) _=_
     simp only [Act.put,List.setIfInBounds_toArray,List.set_cons_zero,List.set_cons_succ,mT,nr]
     rfl
    refine pz 8 none (fun K hK=>?_)
    have anb:=lS ag 0;have ak7:=gE ag.out 0;have ahq:=ak.out;have ahu:=au.out;have ana:=lS ag 1;have ak6:=gE ag.out 1;have ahp:=ak.out;have aht:=au.out;refine rL (w1:=?_) (by rfl) rfl ?_ ?_
    rotate_left
    ·go_simp
     rfl
    refine hK.out _ _ trivial (fun hHeld=>?_)
    clear hK K;refine oA (qj pL.out (by kernel_rfl)) ?_
    have bS:=au.out;have bT:=ak.out;obtain⟨aH,aI,aJ,aK⟩:=nF ag
    try go_wp2_with (first | ((with_reducible refine d8 (f:=151) rfl ?_);refine oJ 23 Tryz.func151 #[.agg #[.int .i64 (wrap64 (Int.tdiv a0 (wrap64 (-ae)))), .int .i64 (wrap64 (Int.tdiv a1 (wrap64 (-ae))))]] ?_;(with_reducible refine(qG.calls k (wrap64 (Int.tdiv a0 (wrap64 (-ae)))) (wrap64 (Int.tdiv a1 (wrap64 (-ae)))) true _ A6.out).mono ?_);rintro e Jx ⟨rfl,hb⟩;refine⟨_,rfl,?_⟩;replace aa:=q_ (ke (g:=af) (o:= .cells #[.int .i64 0, .int .i64 0] 58 (0,0)) (oX) hb);replace ag:=q_ (ke (g:=ai) (o:= .cells #[.int .i64 (wrap64 (Int.tdiv a0 (wrap64 (-ae)))), .int .i64 (wrap64 (Int.tdiv a1 (wrap64 (-ae))))] 58 (0,0)) (oX) hb);replace HB:=lT hb;(try clear hb);obtain⟨aM,aN,aT,aU⟩:=nF ag;obtain⟨aV,aW,aX,aY⟩:=nF aa))
    refine bodyPost_ret (tS rfl _ _ af 58 #[.int .i64 (wrap64 (Int.tdiv a0 (wrap64 (-ae)))), .int .i64 (wrap64 (Int.tdiv a1 (wrap64 (-ae))))] (0,0) _ rfl (oX) Tryz.underlying58 rfl (by kernel_rfl)) rfl ?_
    exact⟨pH,hb_⟩
   ·replace c7:=Bool.eq_false_iff.mpr c7;subst c7;have H1:(some (0,0,3))=some (r1,r2,r3):=by rw [if_neg (show ¬ (false=true) by decide)] at H;exact H
    clear H;have H:=H1;clear H1;simp only [Option.some.injEq,Prod.mk.injEq] at H;obtain⟨rfl,rfl,rfl⟩:=H
    go_enter Tryz.func105,Tryz.ntmps105
    try go_wp2_with (first | ((with_reducible refine dg (N:=4) rfl ?_);refine nR 4 #[.int .i64 0, .int .i64 0] 58 ?_;intro af hg ER cM hb;have aa:=q_ (cM);have ay:=mq w hg;have az:=mq w hg;replace HB:=lT hb;clear hb cM hg) | ((with_reducible refine d8 (f:=116) rfl ?_);refine oJ 10 Tryz.func116 #[.int .i64 a0, .int .i64 a1] ?_;(with_reducible refine(nK.calls k a0 a1 ae _ A3.out).mono ?_);rintro e X4 ⟨rfl,hb⟩;refine⟨_,rfl,?_⟩;replace aa:=lZ aa hb;replace HB:=lT hb;(try clear hb)))
    replace aa:=q_ (mI aa.out);replace HB:=q_ (mS HB.out);refine qx (n:=9) (S:=fun w'=>True) (ds:= []) trivial (fun hHeld=>?_);refine o9 oU.Zy oU.Sz (fun pL xA=>?_)
    generalize X4.drew=w21 at aa HB hHeld ⊢
    refine sB 0 15 1 16 2 17 3 18 ?_;refine rm 4 19 5 20 6 21 ?_
    refine pz 7 (some 7) (fun K hK=>?_)
    refine rP ?hg (N:=7) ?hd (cs:= #[.int .i64 0, .int .i64 0]) (t:=58) ?hr ?_;(case hd=>rfl);(case hg=>rfl);(case hr=>first | (go_simp;done) | (go_simp;rfl))
    intro ai hg w22 cM hb;have ag:=q_ (cM);have aA:=mq w hg;have aC:=mq w hg;have ak:=r7 hg aa;have au:=rY hg aa;replace aa:=lZ aa hb;replace HB:=lT hb;clear hb cM hg;refine hK.out _ _ trivial (fun hHeld=>?_)
    clear hK K;refine mP (a':=?_) ?_ ?_
    rotate_left
    ·show Act.put _ (some 7) _=_
     simp only [Act.put,List.setIfInBounds_toArray,List.set_cons_zero,List.set_cons_succ,mT,nr]
     rfl
    refine pz 8 none (fun K hK=>?_)
    have asL:=lS ag 0;have ar5:=gE ag.out 0;have ao2:=ak.out;have apu:=au.out;have asK:=lS ag 1;have ar4:=gE ag.out 1;have ao1:=ak.out;have apt:=au.out;refine rL (w1:=?_) (by rfl) rfl ?_ ?_
    rotate_left
    ·go_simp
     rfl
    refine hK.out _ _ trivial (fun hHeld=>?_)
    clear hK K;refine oA (qj pL.out (by kernel_rfl)) ?_
    have bU:=au.out;have bV:=ak.out;obtain⟨aZ,a9,ba,bg⟩:=nF ag
    try go_wp2_with (first | ((with_reducible refine d8 (f:=151) rfl ?_);refine oJ 23 Tryz.func151 #[.agg #[.int .i64 (wrap64 (Int.tdiv a0 (wrap64 (-ae)))), .int .i64 (wrap64 (Int.tdiv a1 (wrap64 (-ae))))]] ?_;(with_reducible refine(qG.calls k (wrap64 (Int.tdiv a0 (wrap64 (-ae)))) (wrap64 (Int.tdiv a1 (wrap64 (-ae)))) false _ A6.out).mono ?_);rintro e Rf ⟨rfl,hb⟩;refine⟨_,rfl,?_⟩;replace aa:=q_ (ke (g:=af) (o:= .cells #[.int .i64 0, .int .i64 0] 58 (0,0)) (oX) hb);replace ag:=q_ (ke (g:=ai) (o:= .cells #[.int .i64 (wrap64 (Int.tdiv a0 (wrap64 (-ae)))), .int .i64 (wrap64 (Int.tdiv a1 (wrap64 (-ae))))] 58 (0,0)) (oX) hb);replace HB:=lT hb;(try clear hb);obtain⟨bh,bi,bn,bq⟩:=nF aa))
    refine bodyPost_ret (tS rfl _ _ af 58 #[.int .i64 0, .int .i64 0] (0,0) _ rfl (oX) Tryz.underlying58 rfl (by kernel_rfl)) rfl ?_
    exact⟨pH,hb_⟩
 ·rw [if_neg c4] at H;have qv:=decide_eq_false c4;clear c4
  by_cases Gb:ae=0
  ·rw [if_pos Gb] at H;exact absurd H (by simp)
  ·rw [if_neg Gb] at H;have agh:=uJ Gb;have agf:=uI Gb;replace H:=Option.bind_eq_some_iff.mp H;obtain⟨ax,akC,H⟩:=H;replace H:(if ax=true then(some (wrap64 (Int.tdiv a0 ae),wrap64 (Int.tdiv a1 ae),0)) else(some (0,0,3)))=some (r1,r2,r3):=H;have sW:=q_ akC;clear akC
   by_cases PF:ax=true
   ·subst PF;have H1:(some (wrap64 (Int.tdiv a0 ae),wrap64 (Int.tdiv a1 ae),0))=some (r1,r2,r3):=by rw [if_pos rfl] at H;exact H
    clear H;have H:=H1;clear H1;simp only [Option.some.injEq,Prod.mk.injEq] at H;obtain⟨rfl,rfl,rfl⟩:=H
    go_enter Tryz.func105,Tryz.ntmps105
    try go_wp2_with (first | ((with_reducible refine dg (N:=4) rfl ?_);refine nR 4 #[.int .i64 0, .int .i64 0] 58 ?_;intro af hg Rc cM hb;have aa:=q_ (cM);have ay:=mq w hg;have az:=mq w hg;replace HB:=lT hb;clear hb cM hg) | ((with_reducible refine d8 (f:=116) rfl ?_);refine oJ 10 Tryz.func116 #[.int .i64 a0, .int .i64 a1] ?_;(with_reducible refine(nK.calls k a0 a1 ae _ A3.out).mono ?_);rintro e w33 ⟨rfl,hb⟩;refine⟨_,rfl,?_⟩;replace aa:=lZ aa hb;replace HB:=lT hb;(try clear hb)))
    replace aa:=q_ (mI aa.out);replace HB:=q_ (mS HB.out);refine qx (n:=9) (S:=fun w'=>True) (ds:= []) trivial (fun hHeld=>?_);refine o9 oU.Zy oU.Sz (fun pL xA=>?_)
    generalize w33.drew=w34 at aa HB hHeld ⊢
    refine sB 0 15 1 16 2 17 3 18 ?_;refine rm 4 19 5 20 6 21 ?_
    refine pz 7 (some 7) (fun K hK=>?_)
    refine rP ?hg (N:=7) ?hd (cs:= #[.int .i64 0, .int .i64 0]) (t:=58) ?hr ?_;(case hd=>rfl);(case hg=>rfl);(case hr=>first | (go_simp;done) | (go_simp;rfl))
    intro aj hg w35 cM hb;have ah:=q_ (cM);have aD:=mq w hg;have aG:=mq w hg;have aq:=r7 hg aa;have av:=rY hg aa;replace aa:=lZ aa hb;replace HB:=lT hb;clear hb cM hg;refine hK.out _ _ trivial (fun hHeld=>?_)
    clear hK K;refine mP (a':=?_) ?_ ?_
    rotate_left
    ·show Act.put _ (some 7) _=_
     simp only [Act.put,List.setIfInBounds_toArray,List.set_cons_zero,List.set_cons_succ,mT,nr]
     rfl
    refine pz 8 none (fun K hK=>?_)
    have asG:=lS ah 0;have ar0:=gE ah.out 0;have aoW:=aq.out;have apn:=av.out;have asF:=lS ah 1;have arZ:=gE ah.out 1;have aoV:=aq.out;have apm:=av.out;refine rL (w1:=?_) (by rfl) rfl ?_ ?_
    rotate_left
    ·go_simp
     rfl
    refine hK.out _ _ trivial (fun hHeld=>?_)
    clear hK K;refine oA (qj pL.out (by kernel_rfl)) ?_
    have bW:=av.out;have bX:=aq.out;obtain⟨bu,bv,bw,bz⟩:=nF ah
    try go_wp2_with (first | ((with_reducible refine d8 (f:=151) rfl ?_);refine oJ 23 Tryz.func151 #[.agg #[.int .i64 (wrap64 (Int.tdiv a0 ae)), .int .i64 (wrap64 (Int.tdiv a1 ae))]] ?_;(with_reducible refine(qG.calls k (wrap64 (Int.tdiv a0 ae)) (wrap64 (Int.tdiv a1 ae)) true _ sW.out).mono ?_);rintro e w40 ⟨rfl,hb⟩;refine⟨_,rfl,?_⟩;replace aa:=q_ (ke (g:=af) (o:= .cells #[.int .i64 0, .int .i64 0] 58 (0,0)) (oX) hb);replace ah:=q_ (ke (g:=aj) (o:= .cells #[.int .i64 (wrap64 (Int.tdiv a0 ae)), .int .i64 (wrap64 (Int.tdiv a1 ae))] 58 (0,0)) (oX) hb);replace HB:=lT hb;(try clear hb);obtain⟨bA,bC,bD,bE⟩:=nF ah;obtain⟨bF,bG,bH,bI⟩:=nF aa))
    refine bodyPost_ret (tS rfl _ _ af 58 #[.int .i64 (wrap64 (Int.tdiv a0 ae)), .int .i64 (wrap64 (Int.tdiv a1 ae))] (0,0) _ rfl (oX) Tryz.underlying58 rfl (by kernel_rfl)) rfl ?_
    exact⟨pH,hb_⟩
   ·replace PF:=Bool.eq_false_iff.mpr PF;subst PF;have H1:(some (0,0,3))=some (r1,r2,r3):=by rw [if_neg (show ¬ (false=true) by decide)] at H;exact H
    clear H;have H:=H1;clear H1;simp only [Option.some.injEq,Prod.mk.injEq] at H;obtain⟨rfl,rfl,rfl⟩:=H
    go_enter Tryz.func105,Tryz.ntmps105
    try go_wp2_with (first | ((with_reducible refine dg (N:=4) rfl ?_);refine nR 4 #[.int .i64 0, .int .i64 0] 58 ?_;intro af hg w43 cM hb;have aa:=q_ (cM);have ay:=mq w hg;have az:=mq w hg;replace HB:=lT hb;clear hb cM hg) | ((with_reducible refine d8 (f:=116) rfl ?_);refine oJ 10 Tryz.func116 #[.int .i64 a0, .int .i64 a1] ?_;(with_reducible refine(nK.calls k a0 a1 ae _ A3.out).mono ?_);rintro e w44 ⟨rfl,hb⟩;refine⟨_,rfl,?_⟩;replace aa:=lZ aa hb;replace HB:=lT hb;(try clear hb)))
    replace aa:=q_ (mI aa.out);replace HB:=q_ (mS HB.out);refine qx (n:=9) (S:=fun w'=>True) (ds:= []) trivial (fun hHeld=>?_);refine o9 oU.Zy oU.Sz (fun pL xA=>?_)
    generalize w44.drew=w45 at aa HB hHeld ⊢
    refine sB 0 15 1 16 2 17 3 18 ?_;refine rm 4 19 5 20 6 21 ?_
    refine pz 7 (some 7) (fun K hK=>?_)
    refine rP ?hg (N:=7) ?hd (cs:= #[.int .i64 0, .int .i64 0]) (t:=58) ?hr ?_;(case hd=>rfl);(case hg=>rfl);(case hr=>first | (go_simp;done) | (go_simp;rfl))
    intro aj hg w46 cM hb;have ah:=q_ (cM);have aD:=mq w hg;have aG:=mq w hg;have aq:=r7 hg aa;have av:=rY hg aa;replace aa:=lZ aa hb;replace HB:=lT hb;clear hb cM hg;refine hK.out _ _ trivial (fun hHeld=>?_)
    clear hK K;refine mP (a':=?_) ?_ ?_
    rotate_left
    ·show Act.put _ (some 7) _=_
     simp only [Act.put,List.setIfInBounds_toArray,List.set_cons_zero,List.set_cons_succ,mT,nr]
     rfl
    refine pz 8 none (fun K hK=>?_)
    have asC:=lS ah 0;have arX:=gE ah.out 0;have aoS:=aq.out;have apj:=av.out;have asB:=lS ah 1;have arW:=gE ah.out 1;have aoR:=aq.out;have aph:=av.out;refine rL (w1:=?_) (by rfl) rfl ?_ ?_
    rotate_left
    ·go_simp
     rfl
    refine hK.out _ _ trivial (fun hHeld=>?_)
    clear hK K;refine oA (qj pL.out (by kernel_rfl)) ?_
    have bY:=av.out;have bZ:=aq.out;obtain⟨bJ,bK,bL,bM⟩:=nF ah
    try go_wp2_with (first | ((with_reducible refine d8 (f:=151) rfl ?_);refine oJ 23 Tryz.func151 #[.agg #[.int .i64 (wrap64 (Int.tdiv a0 ae)), .int .i64 (wrap64 (Int.tdiv a1 ae))]] ?_;(with_reducible refine(qG.calls k (wrap64 (Int.tdiv a0 ae)) (wrap64 (Int.tdiv a1 ae)) false _ sW.out).mono ?_);rintro e w51 ⟨rfl,hb⟩;refine⟨_,rfl,?_⟩;replace aa:=q_ (ke (g:=af) (o:= .cells #[.int .i64 0, .int .i64 0] 58 (0,0)) (oX) hb);replace ah:=q_ (ke (g:=aj) (o:= .cells #[.int .i64 (wrap64 (Int.tdiv a0 ae)), .int .i64 (wrap64 (Int.tdiv a1 ae))] 58 (0,0)) (oX) hb);replace HB:=lT hb;(try clear hb);obtain⟨bN,bO,bP,bQ⟩:=nF aa))
    refine bodyPost_ret (tS rfl _ _ af 58 #[.int .i64 0, .int .i64 0] (0,0) _ rfl (oX) Tryz.underlying58 rfl (by kernel_rfl)) rfl ?_
    exact⟨pH,hb_⟩
def ow.l0:Nat→Int→List (mh)→List Int→Int→Int→Option ((List (mh)) × Int)
 | 0,_,_,_,_,_=>none
 | k+1,x1,x6,sS,tC,wP=>if wP < tC then(if 0≤wP then(if wP < (sS.length:Int) then((oU.f k (rd sS wP) x1).bind fun aa=>(if aa.2.2=0 then(if x6.length < 8796093022208 then(ow.l0 k x1 (x6++ [(⟨aa.1,aa.2.1⟩:mh)]) sS tC (wrap64 (wP+1))) else(none)) else(some (([]:List (mh)),aa.2.2)))) else(none)) else(none)) else(some (x6,0))
def ow.f (k:Nat) (l0:List Int) (a1:Int):Option ((List (mh)) × Int):=ow.l0 k a1 ([]:List (mh)) l0 (l0.length:Int) 0
theorem ow.calls (k:Nat) (A0:Option Addr) (c0:Nat) (l0:List Int) (a1:Int) (r1:List (mh)) (r2:Int) (w:World) (hr0:Kd.C (Kd.int .i64) w A0 l0.length l0) (hc0:l0.length≤c0) (h:ow.f k l0 a1=some (r1,r2)):
  Calls Tryz.prog 62 #[.slice A0 l0.length c0, .int .i64 a1] w fun e w'=> ∃qg:Value,e= .returned (.tuple #[qg, .int .i64 r2])∧Kd.R rU 58 w' w.heap.size (fun _=>True) qg r1∧Below w.heap.size w w':=by
 have DV:=Tryz.underlying58;have qE:=q_ hr0;have uG:=q_ hc0;clear hr0 hc0;have HB:=q_ (Below.refl w.heap.size w);have H:(ow.l0 k a1 ([]:List (mh)) l0 (l0.length:Int) 0)=some (r1,r2):=h;clear h;have H':=q_ H;clear H
 go_enter Tryz.func62,Tryz.ntmps62
 go_wp2
 go_loopg [6,13] k (fun kq v6 Fp w'=> ∃(ak:List (mh)) (aa:Int),Fp= .int .i64 aa∧aE (ow.l0 kq a1 ak l0 (l0.length:Int) aa=some (r1,r2))∧aE (kq≤k)∧aE (Kd.R rU 58 w' w.heap.size (fun _=>True) v6 ak)∧aE (Below w.heap.size w w'))
 case atStart=>exact⟨(([]:List (mh))),(0),nM,H',⟨Nat.le_refl _⟩,⟨by first | exact Kd.qT _ _ _ _ _ | exact Kd.uy _ _ _ _ _ | exact Kd.uw _ _ _ _ _ | exact Kd.ux _ _ _ _ _ | exact Kd.sJ _ _ _ _ _⟩,⟨hb_⟩⟩
 case round=>
  clear H';obtain⟨ak,aa,rfl,HA,nA,ag,HB⟩:=hrel;cases gk with
  | zero=>exact absurd HA.out (by simp [ow.l0])
  | succ k1=>
   have H:=HA.out;clear HA;simp only [ow.l0] at H
   by_cases c3:aa < (l0.length:Int)
   ·rw [if_pos c3] at H;have qP:=decide_eq_true c3;clear c3
    by_cases c4:0≤aa
    ·rw [if_pos c4] at H;have qv:=decide_eq_true c4;clear c4
     by_cases c5:aa < (l0.length:Int)
     ·rw [if_pos c5] at H;have uP:=decide_eq_true c5;clear c5;replace H:=Option.bind_eq_some_iff.mp H;obtain⟨⟨ah,ai,aj⟩,RN,H⟩:=H;replace H:(if aj=0 then(if ak.length < 8796093022208 then(ow.l0 k1 a1 (ak++ [(⟨ah,ai⟩:mh)]) l0 (l0.length:Int) (wrap64 (aa+1))) else(none)) else(some (([]:List (mh)),aj)))=some (r1,r2):=H;have A6:=q_ RN;clear RN
      by_cases c7:aj=0
      ·rw [if_pos c7] at H;have za:=yh c7;have Fh:=yg c7;clear c7
       by_cases c8:ak.length < 8796093022208
       ·rw [if_pos c8] at H;have az:=q_ c8;clear c8;obtain⟨aq,hy⟩: ∃y_:List (mh),y_=(ak++ [(⟨ah,ai⟩:mh)]):=⟨_,rfl⟩
        replace H:(ow.l0 k1 a1 aq l0 (l0.length:Int) (wrap64 (aa+1)))=some (r1,r2):=hh_;have au:=q_ hy;clear hy;have H':=q_ H;clear H;have KG:0≤(aa:Int):=l7;have Kf:aa < (l0.length:Int):=l7;obtain⟨av,aeO,BJ⟩:=Kd.mA qE.out aa KG Kf;cases aeO
        replace BJ:=bc_ HB.out BJ;replace KG:=eq_true KG;replace Kf:=eq_true Kf
        go_wp2_with (first | ((with_reducible refine d8 (f:=105) rfl ?_);refine oJ 20 Tryz.func105 #[.int .i64 (rd l0 aa), .int .i64 a1] ?_;(with_reducible refine(oU.calls k1 (rd l0 aa) a1 ah ai aj _ A6.out).mono ?_);rintro e w9 ⟨rfl,hb⟩;refine⟨_,rfl,?_⟩;replace ag:=rK ag hb;replace HB:=lT hb;(try clear hb);(try clear hk)) | ((with_reducible refine dg (N:=9) rfl ?_);refine nR 9 #[.int .i64 0, .int .i64 0] 58 ?_;intro ae hg tE cM hb;replace ag:=q_ (Kd.oQ (Kd.um (m5 ag.out) ae (Nat.le_of_eq hg.symm)) hb);have af:=q_ (cM);have aw:=mq w hg;have ax:=mq w hg;replace HB:=lT hb;clear hb cM hg;obtain⟨aA,aC,aD,aG⟩:=nF af) | ((with_reducible refine nL (b:= .append) (xs:= #[.tmp 26, .tmp 28]) rfl ?_);at_builtin;refine Kd.qo rU (w0:=w) w.heap.size rfl (.tmp 26) (.tmp 28) 49 58 (.agg #[(.int .i64 0),(.int .i64 0)]) 16 rfl Tryz.underlying49 Ip rfl (by decide) (by omega) u6 ak (⟨ah,ai⟩:mh) [.int .i64 ah, .int .i64 ai] (fun k_=>k_≠ae) (fun _=>False) rfl (by first | (go_simp;done) | (go_simp;rfl)) ?aP (fun _ hk=>hk.elim) ?aF ?aO ?aB ?aS ?aL ?_;(case aP=>exact Fz _ _ _ (⟨ah,ai⟩:mh));(case aB=>exact hb_);(case aF=>exact(fun k_ hk=>Kd.F6 (g:=ae) (o:= .cells #[.int .i64 ah, .int .i64 ai] 58 (0,0)) (oX) k_ hk));(case aO=>exact(kR_ (Kd.nN (p:=⟨ae,1,none⟩) (Kd.nN (p:=⟨ae,0,none⟩) (Kd.fY ag.out (fun k_ hk=>(⟨hk,hk.2⟩:_∧k_≠ae))) (fun _ hk=>hk.2) (.int .i64 ah)) (fun _ hk=>hk.2) (.int .i64 ai)) (fun _ hk=>hk.1.2)));(case aS=>exact oI);(case aL=>have:=az.out;omega);intro aM tX ho hb hg hat;rw [← au.out] at ho;replace af:=q_ (m8 (g:=ae) (o:= .cells #[.int .i64 ah, .int .i64 ai] 58 (0,0)) (oX) hg (Kd.I0 ag.out (fun _ hk=>hk.2)));replace HB:=q_ (hb);have ay:=q_ (ho);clear ag ho hb hg hat))
        go_roundg k1
        case measure=>have:=nA.out;omega
        case rel=>exact⟨(aq),(wrap64 (aa+1)),nM,H',⟨by have:=nA.out;omega⟩,⟨kR_ ay.out (fun _ hk=>trivial)⟩,⟨hb_⟩⟩
       ·rw [if_neg c8] at H;exact absurd H (by simp)
      ·rw [if_neg c7] at H;have za:=uJ c7;have Fh:=uI c7;simp only [Option.some.injEq,Prod.mk.injEq] at H;obtain⟨rfl,rfl⟩:=H;have KG:0≤(aa:Int):=l7;have Kf:aa < (l0.length:Int):=l7;obtain⟨av,aeO,BJ⟩:=Kd.mA qE.out aa KG Kf;cases aeO
       replace BJ:=bc_ HB.out BJ;replace KG:=eq_true KG;replace Kf:=eq_true Kf
       go_wp2_with (first | ((with_reducible refine d8 (f:=105) rfl ?_);refine oJ 20 Tryz.func105 #[.int .i64 (rd l0 aa), .int .i64 a1] ?_;(with_reducible refine(oU.calls k1 (rd l0 aa) a1 ah ai aj _ A6.out).mono ?_);rintro e Ah ⟨rfl,hb⟩;refine⟨_,rfl,?_⟩;replace ag:=rK ag hb;replace HB:=lT hb;(try clear hb);(try clear hk)) | ((with_reducible refine dg (N:=9) rfl ?_);refine nR 9 #[.int .i64 0, .int .i64 0] 58 ?_;intro ae hg Cg cM hb;replace ag:=q_ (Kd.oQ (Kd.um (m5 ag.out) ae (Nat.le_of_eq hg.symm)) hb);have af:=q_ (cM);have aw:=mq w hg;have ax:=mq w hg;replace HB:=lT hb;clear hb cM hg;obtain⟨aH,aI,aJ,aK⟩:=nF af))
       go_ret2
       exact⟨_,pH,by first | exact Kd.qT _ _ _ _ _ | exact Kd.uy _ _ _ _ _ | exact Kd.uw _ _ _ _ _ | exact Kd.ux _ _ _ _ _ | exact Kd.sJ _ _ _ _ _,hb_⟩
     ·rw [if_neg c5] at H;exact absurd H (by simp)
    ·rw [if_neg c4] at H;exact absurd H (by simp)
   ·rw [if_neg c3] at H;have qP:=decide_eq_false c3;clear c3;simp only [Option.some.injEq,Prod.mk.injEq] at H;obtain⟨rfl,rfl⟩:=H;go_wp2
    go_ret2
    exact⟨_,pH,m5 ag.out,hb_⟩
def mU.l0:Nat→List Int→Int→Option (Int)
 | 0,_,_=>none
 | k+1,x1,x5=>if x5 < (x1.length:Int) then(if 0≤x5 then((nX.f (rd x1 x5) 1 20).bind fun aa=>(if aa=true then(mU.l0 k x1 (wrap64 (x5+1))) else(some 2))) else(none)) else(some 0)
def mU.f (k:Nat) (ae:List (List Int)) (aa:List Int) (l1:List Int):Option (Int):=(m6.f k ae aa).bind fun af=>(if af=true then(if(l1.length:Int)=(aa.length:Int) then(mU.l0 k l1 0) else(some 2)) else(some 1))
theorem mU.calls (k:Nat) (ai:Option Addr) (aj:Nat) (ag:List (List Int)) (ak:Option Addr) (aq:Nat) (ae:List Int) (A1:Option Addr) (c1:Nat) (l1:List Int) (r:Int) (w:World) (az:Kd.C (Kd.slice 2 (Kd.int .i64)) w ai ag.length ag) (aA:ag.length≤aj) (aC:Kd.C (Kd.int .i64) w ak ae.length ae) (aD:ae.length≤aq) (hr1:Kd.C (Kd.int .i64) w A1 l1.length l1) (hc1:l1.length≤c1) (h:mU.f k ag ae l1=some r):
  Calls Tryz.prog 64 #[.agg #[.slice ai ag.length aj, .slice ak ae.length aq], .slice A1 l1.length c1] w fun e w'=>e= .returned (.int .i64 r)∧Below w.heap.size w w':=by
 have CY:=Tryz.underlying34;have mR:=q_ az;have oh:=q_ aA;clear az aA;have ox:=q_ aC;have oR:=q_ aD;clear aC aD;have pR:=q_ hr1;have qy:=q_ hc1;clear hr1 hc1;have HB:=q_ (Below.refl w.heap.size w);have H:((m6.f k ag ae).bind fun ay=>(if ay=true then(if(l1.length:Int)=(ae.length:Int) then(mU.l0 k l1 0) else(some 2)) else(some 1)))=some r:=h;clear h;replace H:=Option.bind_eq_some_iff.mp H;obtain⟨ay,sW,H⟩:=H;replace H:(if ay=true then(if(l1.length:Int)=(ae.length:Int) then(mU.l0 k l1 0) else(some 2)) else(some 1))=some r:=H;have A3:=q_ sW;clear sW
 by_cases c4:ay=true
 ·subst c4;have H1:(if(l1.length:Int)=(ae.length:Int) then(mU.l0 k l1 0) else(some 2))=some r:=by rw [if_pos rfl] at H;exact H
  clear H;have H:=H1;clear H1
  by_cases c5:(l1.length:Int)=(ae.length:Int)
  ·rw [if_pos c5] at H;have uP:=yh c5;have QS:=yg c5;have ajz:(l1.length==ae.length)=true:=by first | simpa using c5 | (simp at c5 ⊢;omega)
   clear c5;have H':=q_ H;clear H
   go_enter Tryz.func64,Tryz.ntmps64
   go_wp2_with (first | ((with_reducible refine dg (N:=2) rfl ?_);refine nR 2 #[.slice ai ag.length aj, .slice ak ae.length aq] 34 ?_;intro af hg w6 cM hb;have aa:=q_ (cM);have aG:=mq w hg;have aH:=mq w hg;replace HB:=lT hb;clear hb cM hg;obtain⟨aI,aJ,aK,aM⟩:=nF aa) | ((with_reducible refine d8 (f:=46) rfl ?_);refine oJ 7 Tryz.func46 #[.agg #[.slice ai ag.length aj, .slice ak ae.length aq]] ?_;(with_reducible refine(m6.calls k _ _ ag _ _ ae true _ ?au ?av ?aw ?ax A3.out).mono ?_);(case au=>exact ni mR.out HB.out);(case av=>exact oh.out);(case aw=>exact ni ox.out HB.out);(case ax=>exact oR.out);rintro e w8 ⟨rfl,hb⟩;refine⟨_,rfl,?_⟩;replace aa:=lZ aa hb;replace HB:=lT hb;(try clear hb);obtain⟨aN,aT,aU,aV⟩:=nF aa))
   go_loopg [5] k (fun kq v5 w'=> ∃(ah:Int),v5= .int .i64 ah∧aE (mU.l0 kq l1 ah=some r)∧aE (kq≤k)∧aE (w'.heap[af]?=some (.cells #[(.slice ai ag.length aj),(.slice ak ae.length aq)] 34 (0,0)))∧aE (Below w.heap.size w w'))
   case atStart=>exact⟨(0),nM,H',⟨Nat.le_refl _⟩,⟨nj⟩,⟨hb_⟩⟩
   case round=>
    clear H';(try clear c1);(try clear c4);(try clear c5);(try clear uP);(try clear QS);(try clear ajz);(try clear aI);(try clear aJ);(try clear aN);(try clear aT);(try clear aK);(try clear aM);(try clear aU);(try clear aV);obtain⟨ah,rfl,HA,nA,aa,HB⟩:=hrel;cases gk with
    | zero=>exact absurd HA.out (by simp [mU.l0])
    | succ k1=>
     have H:=HA.out;clear HA;simp only [mU.l0] at H
     by_cases qF:ah < (l1.length:Int)
     ·rw [if_pos qF] at H;have xU:=decide_eq_true qF;clear qF
      by_cases yp:0≤ah
      ·rw [if_pos yp] at H;have PS:=decide_eq_true yp;clear yp;replace H:=Option.bind_eq_some_iff.mp H;obtain⟨aW,Xh,H⟩:=H;replace H:(if aW=true then(mU.l0 k1 l1 (wrap64 (ah+1))) else(some 2))=some r:=H;have Ey:=q_ Xh;clear Xh
       by_cases rz:aW=true
       ·subst rz;have H1:(mU.l0 k1 l1 (wrap64 (ah+1)))=some r:=by rw [if_pos rfl] at H;exact H
        clear H;have H:=H1;clear H1;have H':=q_ H;clear H;have KF:0≤(ah:Int):=l7;have Ke:ah < (l1.length:Int):=l7;obtain⟨aX,aeN,BI⟩:=Kd.mA pR.out ah KF Ke;cases aeN
        replace BI:=bc_ HB.out BI;replace KF:=eq_true KF;replace Ke:=eq_true Ke
        go_wp2_with (first | ((with_reducible refine d8 (f:=43) rfl ?_);refine oJ 25 Tryz.func43 #[.int .i64 (rd l1 ah), .int .i64 1, .int .i64 20] ?_;(with_reducible refine(nX.calls (rd l1 ah) 1 20 true _ Ey.out).mono ?_);rintro e w' ⟨rfl,⟨nd,rfl⟩⟩;refine⟨_,rfl,?_⟩))
        go_roundg k1
        case measure=>have:=nA.out;omega
        case rel=>exact⟨(wrap64 (ah+1)),nM,H',⟨by have:=nA.out;omega⟩,⟨nj⟩,⟨hb_⟩⟩
       ·replace rz:=Bool.eq_false_iff.mpr rz;subst rz;have H1:(some 2)=some r:=by rw [if_neg (show ¬ (false=true) by decide)] at H;exact H
        clear H;have H:=H1;clear H1;obtain rfl:=Option.some.inj H;have KF:0≤(ah:Int):=l7;have Ke:ah < (l1.length:Int):=l7;obtain⟨aX,aeN,BI⟩:=Kd.mA pR.out ah KF Ke;cases aeN
        replace BI:=bc_ HB.out BI;replace KF:=eq_true KF;replace Ke:=eq_true Ke
        go_wp2_with (first | ((with_reducible refine d8 (f:=43) rfl ?_);refine oJ 25 Tryz.func43 #[.int .i64 (rd l1 ah), .int .i64 1, .int .i64 20] ?_;(with_reducible refine(nX.calls (rd l1 ah) 1 20 false _ Ey.out).mono ?_);rintro e w' ⟨rfl,⟨nd,rfl⟩⟩;refine⟨_,rfl,?_⟩))
        go_ret
        exact⟨pH,hb_⟩
      ·rw [if_neg yp] at H;exact absurd H (by simp)
     ·rw [if_neg qF] at H;have xU:=decide_eq_false qF;clear qF;obtain rfl:=Option.some.inj H;go_wp2
      go_ret
      exact⟨pH,hb_⟩
  ·rw [if_neg c5] at H;have uP:=uJ c5;have QS:=uI c5;have ajz:(l1.length==ae.length)=false:=by first | simpa using c5 | (simp at c5 ⊢;omega)
   obtain rfl:=Option.some.inj H
   go_enter Tryz.func64,Tryz.ntmps64
   go_wp2_with (first | ((with_reducible refine dg (N:=2) rfl ?_);refine nR 2 #[.slice ai ag.length aj, .slice ak ae.length aq] 34 ?_;intro af hg Cg cM hb;have aa:=q_ (cM);have aG:=mq w hg;have aH:=mq w hg;replace HB:=lT hb;clear hb cM hg;obtain⟨aY,aZ,a9,ba⟩:=nF aa) | ((with_reducible refine d8 (f:=46) rfl ?_);refine oJ 7 Tryz.func46 #[.agg #[.slice ai ag.length aj, .slice ak ae.length aq]] ?_;(with_reducible refine(m6.calls k _ _ ag _ _ ae true _ ?au ?av ?aw ?ax A3.out).mono ?_);(case au=>exact ni mR.out HB.out);(case av=>exact oh.out);(case aw=>exact ni ox.out HB.out);(case ax=>exact oR.out);rintro e Jx ⟨rfl,hb⟩;refine⟨_,rfl,?_⟩;replace aa:=lZ aa hb;replace HB:=lT hb;(try clear hb);obtain⟨bg,bh,bi,bn⟩:=nF aa))
   go_ret
   exact⟨pH,hb_⟩
 ·replace c4:=Bool.eq_false_iff.mpr c4;subst c4;have H1:(some 1)=some r:=by rw [if_neg (show ¬ (false=true) by decide)] at H;exact H
  clear H;have H:=H1;clear H1;obtain rfl:=Option.some.inj H
  go_enter Tryz.func64,Tryz.ntmps64
  go_wp2_with (first | ((with_reducible refine dg (N:=2) rfl ?_);refine nR 2 #[.slice ai ag.length aj, .slice ak ae.length aq] 34 ?_;intro af hg Rg cM hb;have aa:=q_ (cM);have aG:=mq w hg;have aH:=mq w hg;replace HB:=lT hb;clear hb cM hg;obtain⟨bq,bu,bv,bw⟩:=nF aa) | ((with_reducible refine d8 (f:=46) rfl ?_);refine oJ 7 Tryz.func46 #[.agg #[.slice ai ag.length aj, .slice ak ae.length aq]] ?_;(with_reducible refine(m6.calls k _ _ ag _ _ ae false _ ?au ?av ?aw ?ax A3.out).mono ?_);(case au=>exact ni mR.out HB.out);(case av=>exact oh.out);(case aw=>exact ni ox.out HB.out);(case ax=>exact oR.out);rintro e X4 ⟨rfl,hb⟩;refine⟨_,rfl,?_⟩;replace aa:=lZ aa hb;replace HB:=lT hb;(try clear hb)))
  go_ret
  exact⟨pH,hb_⟩
end Go.Proofs.YthmfdplckdijdaaGreat.Pr
end
section
namespace Go.Proofs.YthmfdplckdijdaaGreat.uF
open Go.RowKit Wz.cw Wz.cX Ma Pr Dt Lk Lt Lq Lp
def E0 (n m:Nat):Nat→TS→Nat→Nat→List (List Int)→TS × List (List Int) × Int × Bool
 | 0,s,v,r,st=>(s,st,(v:Int),false)
 | q+1,s,v,r,st=>
  if s.bs.getD r 0=2*(n:Int) then(s.step r v,st++ [[(v:Int),s.bs.getD r 0]], -1,true)
  else match qC n m (s.step r v) (fun i=>(s.step r v).T i (partner n (s.bs.getD r 0).toNat)) with
   | none=>(s.step r v,st++ [[(v:Int),s.bs.getD r 0]],(partner n (s.bs.getD r 0).toNat:Nat),false)
   | some r'=>E0 n m q (s.step r v) (partner n (s.bs.getD r 0).toNat) r' (st++ [[(v:Int),s.bs.getD r 0]])
def ZJ (n:Nat) (M:lE) (cv q:Nat→Int) (most:Nat):TS × List (List Int) × Int × Bool:=
 if yJ n q=true then(first n M cv q, [], -1,true)
 else match qC n (2*n+2) (first n M cv q) cv with
  | none=>(first n M cv q, [], -1,false)
  | some r=>E0 n (2*n+2) most (first n M cv q) (2*n) r []
def QJ (n m:Nat) (R:TS × List (List Int) × Int × Bool):(List (List Int)) × Int × List Int × (List (List Int)) × Int × Bool:=(nP n m R.1.T,R.1.den,R.1.bs,R.2.1,R.2.2.1,R.2.2.2)
theorem O4 {n l:Nat} (h:l < 2*n):partner n l < 2*n:=by unfold partner;split <;> omega
theorem UQ {n l:Nat} (hn:n≤1000) (h:l < 2*n):rS.f (l:Int) (n:Int)=some ((partner n l:Nat):Int):=by
 unfold rS.f partner
 by_cases c:l < n
 ·rw [if_pos (by omega),if_pos c,nH (by omega) (by omega)];rfl
 ·rw [if_neg (by omega),if_neg c,nH (by omega) (by omega),show (l:Int) - (n:Int)=((l - n:Nat):Int) from by omega]
section
variable {n m:Nat} {A:lE} (hn:n≤5) (hn0:0 < n) (hm:m=2*n+2) (hA:Small n m A) (most:Nat) (Jh:most≤100000)
include hn hn0 hm hA Jh
theorem ak0: ∀(q:Nat) (s:TS) (v r:Nat) (st:List (List Int)),Ok n m A s→st.length+(q+1)=most→r < n→v < m - 1→s.T r v≠0→
  Ev (fun k=>d7.j2 k (most:Int) (n:Int) st (r:Int) (v:Int) (nP n m s.T) s.den s.bs) (QJ n m (E0 n m (q+1) s v r st)):=by
 intro q
 induction q with
 | zero=>
  intro s v r st hs hq hr hv hp
  obtain⟨l,hl⟩: ∃l:Nat,s.bs.getD r 0=(l:Int):=⟨(s.bs.getD r 0).toNat,by have:=hs.nn r hr;omega⟩
  have hlt:l < m - 1:=by have:=hs.lt r hr;rw [hl] at this;simp only [Int.toNat_natCast] at this;omega
  refine mC (fun k=>by rw [d7.j2]) ?_
  rw [rT,hl]
  refine cY (by omega) (cY (by rw [hs.len];omega) (cY (by omega) (qW rfl (qW (U1 hr (by omega) hs.len (by omega) (by omega) (by have:=hs.tab.pos;omega)) ?_))))
  rw [nH (x:=2*(n:Int)) (by omega) (by omega)]
  unfold E0
  rw [hl]
  by_cases c:(l:Int)=2*(n:Int)
  ·rw [if_pos c]
   exact cY c (oK rfl)
  ·rw [if_neg c]
   have hp2:=O4 (n:=n) (l:=l) (by omega)
   refine lV c (qW (UQ (by omega) (by omega)) (mC (fun k=>by rw [d7.l1]) (lV (by rw [List.length_append];simp only [List.length_singleton];omega) (oK ?_))))
   rw [Int.toNat_natCast]
   generalize qC n m _ _=o
   cases o <;> rfl
 | succ q ih=>
  intro s v r st hs hq hr hv hp
  obtain⟨l,hl⟩: ∃l:Nat,s.bs.getD r 0=(l:Int):=⟨(s.bs.getD r 0).toNat,by have:=hs.nn r hr;omega⟩
  have hlt:l < m - 1:=by have:=hs.lt r hr;rw [hl] at this;simp only [Int.toNat_natCast] at this;omega
  have hs2:=hs.step hn hA hr (v:=v) (by omega) hp
  refine mC (fun k=>by rw [d7.j2]) ?_
  rw [rT,hl]
  refine cY (by omega) (cY (by rw [hs.len];omega) (cY (by omega) (qW rfl (qW (U1 hr (by omega) hs.len (by omega) (by omega) (by have:=hs.tab.pos;omega)) ?_))))
  rw [nH (x:=2*(n:Int)) (by omega) (by omega)]
  unfold E0
  rw [hl]
  by_cases c:(l:Int)=2*(n:Int)
  ·rw [if_pos c]
   exact cY c (oK rfl)
  ·rw [if_neg c]
   have hp2:=O4 (n:=n) (l:=l) (by omega)
   refine lV c (qW (UQ (by omega) (by omega)) (mC (fun k=>by rw [d7.l1]) (cY (by rw [List.length_append];simp only [List.length_singleton];omega) ?_)))
   rw [nH (x:=2*(n:Int)) (by omega) (by omega),Int.toNat_natCast]
   obtain⟨v2,hv2⟩: ∃v2,partner n l=v2:=⟨_,rfl⟩
   rw [hv2] at hp2 ⊢
   refine cY (by omega) (oH (aiD (T:=(s.step r v).T) (fun a c ha hc=>hs2.abs hn hA ha hc) (by omega) (by omega) (by omega) (s.step r v) rfl (by omega) (s.step r v).den (s.step r v).bs) ?_)
   obtain⟨o,ho⟩: ∃o,qC n m (s.step r v) (fun i=>(s.step r v).T i v2)=o:=⟨_,rfl⟩
   rw [ho]
   cases o with
   | none=>exact cY (by decide) (oK rfl)
   | some r2=>
    have h2:=tY ho
    refine lV (by show ¬ (r2:Int) < 0;omega) ?_
    exact ih (s.step r v) v2 r2 _ hs2 (by rw [List.length_append];simp only [List.length_singleton];omega) h2.1 (by omega) (by have:=h2.2;omega)
end
theorem ad6 (bf:Nat→Int) (less:Nat→Nat→Bool) (l l':List Nat) (o:Option Nat):xH bf less (l++l') o=xH bf less l' (xH bf less l o):=by
 induction l generalizing o with
 | nil=>rfl
 | cons x l ih=>simp only [List.cons_append,xH];exact ih _
theorem run_eq {M:List (List Int)} {Q cv:List Int} {n:Nat} (h:PC M Q cv n) (most:Nat) (Jh:most≤100000):
  Ev (fun k=>d7.f k M Q cv (most:Int)) (QJ n (2*n+2) (ZJ n (m9 M) (fun i=>cv.getD i 0) (fun i=>Q.getD i 0) most)):=by
 have hA:=pY (n:=n) (M:=m9 M) (cv:=fun i=>cv.getD i 0) (q:=fun i=>Q.getD i 0) h.Mb (fun i hi=>by have:=h.cb i hi;omega) h.qb
 have hok:=wF (n:=n) (M:=m9 M) (cv:=fun i=>cv.getD i 0) (q:=fun i=>Q.getD i 0)
 have hn:=h.le
 have hn0:=h.pos
 have hcl:=h.lcv
 obtain⟨s,hs⟩: ∃s,first n (m9 M) (fun i=>cv.getD i 0) (fun i=>Q.getD i 0)=s:=⟨_,rfl⟩
 have hT:nD n (m9 M) (fun i=>cv.getD i 0) (fun i=>Q.getD i 0)=s.T:=by rw [← hs];rfl
 have hT2: ∀a c,a < n→c < 2*n+2→uN (s.T a c):=fun a c ha hc=>by rw [← hs];exact hok.abs hn hA ha hc
 have hcb: ∀i,i < n→uN (cv.getD i 0):=fun i hi=>by have:=h.cb i hi;exact⟨by omega,by omega⟩
 unfold d7.f
 refine oH (ae3 h.lM h.lQ h.rows h.lcv h.pos h.le h.Mb h.cb) ?_
 rw [hT,h.lQ]
 have e1:(1:Int)=s.den:=by rw [← hs];rfl
 have e2:pE n=s.bs:=by rw [← hs];rfl
 have ed:((nP n (2*n+2) s.T,(1:Int),pE n):List (List Int) × Int × List Int)=(nP n (2*n+2) s.T,s.den,s.bs):=by rw [← e1, ← e2]
 rw [ed]
 unfold ZJ
 rw [hs]
 have loop: ∀q i,i+q=n→ ∀(f:Bool) (r:Nat),f=(List.range i).any (fun j=>decide (Q.getD j 0 < 0))→r < n→(i=0→r=0)→(0 < i→xH (fun i=>cv.getD i 0) (fun i j=>kl s.T i j (cv.getD i 0) (cv.getD j 0) (qL n (2*n+2))) (List.range i) none=some r)→
   Ev (fun k=>d7.l0 k cv (most:Int) (n:Int) [] f (r:Int) (i:Int) M Q (nP n (2*n+2) s.T) s.den s.bs) (QJ n (2*n+2) (if yJ n (fun i=>Q.getD i 0)=true then(s, [], -1,true) else match qC n (2*n+2) s (fun i=>cv.getD i 0) with
    | none=>(s, [], -1,false)
    | some r=>E0 n (2*n+2) most s (2*n) r [])):=by
  intro q
  induction q with
  | zero=>
   intro i hi f r hf hr h0 h1
   obtain rfl:i=n:=by omega
   refine mC (fun k=>by rw [d7.l0]) (lV (by rw [h.lQ];omega) ?_)
   have hrow:qC i (2*i+2) s (fun i=>cv.getD i 0)=some r:=h1 hn0
   have hfe:yJ i (fun i=>Q.getD i 0)=!f:=by
    rw [hf];unfold yJ
    rw [List.not_any_eq_all_not]
    refine List.all_congr rfl (fun j=>?_)
    by_cases c:Q.getD j 0 < 0
    ·rw [decide_eq_true c,decide_eq_false (by show ¬ 0≤Q.getD j 0;omega)];rfl
    ·rw [decide_eq_false c,decide_eq_true (by show 0≤Q.getD j 0;omega)];rfl
   rw [hfe,hrow]
   cases f with
   | false=>
    rw [if_pos (show (!false)=true from rfl)]
    exact lV (by decide) (oK rfl)
   | true=>
    rw [if_neg (by decide)]
    show Ev _ (QJ i (2*i+2) (E0 i (2*i+2) most s (2*i) r []))
    refine cY rfl ?_
    rw [nH (x:=2*(i:Int)) (by omega) (by omega),show (2*(i:Int))=((2*i:Nat):Int) from by omega]
    cases most with
    | zero=>
     refine mC (fun k=>by rw [d7.l1]) ?_
     exact(lV (by show ¬ ((0:Nat):Int) < ((0:Nat):Int);omega) (oK rfl))
    | succ mm=>
     refine mC (fun k=>by rw [d7.l1]) (cY (by show ((0:Nat):Int) < ((mm+1:Nat):Int);omega) (lV (by rw [nH (by omega) (by omega)];omega) ?_))
     refine ak0 hn hn0 rfl hA (mm+1) Jh mm s (2*i) r [] (by rw [← hs];exact hok) (by simp) hr (by omega) ?_
     rw [← hT];unfold nD
     rw [if_neg (by omega),if_neg (by omega),if_pos rfl]
     have:=(h.cb r hr).1
     show - cv.getD r 0≠0
     omega
  | succ q ih=>
   intro i hi f r hf hr h0 h1
   have hl:=h.lQ
   have key:=key_eq (T:=s.T) hT2 (by omega) (by omega) (by omega) (show i < n by omega) hr (hcb i (by omega)) (hcb r hr) s.den s.bs
   obtain⟨z,hz⟩: ∃z,kl s.T i r (cv.getD i 0) (cv.getD r 0) (qL n (2*n+2))=z:=⟨_,rfl⟩
   rw [hz] at key
   have hnext:xH (fun i=>cv.getD i 0) (fun i j=>kl s.T i j (cv.getD i 0) (cv.getD j 0) (qL n (2*n+2))) (List.range (i+1)) none=some (if z=true then i else r):=by
    rw [List.range_succ,ad6]
    by_cases c:i=0
    ·subst c
     have:=h0 rfl
     subst this
     simp only [List.range_zero,xH,Hq]
     rw [if_pos ⟨(h.cb 0 hn0).1,trivial⟩]
     simp
    ·rw [h1 (by omega)]
     by_cases d:z=true
     ·rw [if_pos d]
      exact(if_pos ⟨(h.cb i (by omega)).1,hz.trans d⟩:(if 0 < cv.getD i 0∧kl s.T i r (cv.getD i 0) (cv.getD r 0) (qL n (2*n+2))=true then some i else some r)=some i)
     ·rw [if_neg d]
      exact(if_neg (fun q=>d (hz.symm.trans q.2)):(if 0 < cv.getD i 0∧kl s.T i r (cv.getD i 0) (cv.getD r 0) (qL n (2*n+2))=true then some i else some r)=some r)
   refine mC (fun k=>by rw [d7.l0]) (cY (by rw [hl];omega) ?_)
   have hw:wrap64 ((i:Int)+1)=((i+1:Nat):Int):=by rw [nH (by omega) (by omega)];rfl
   have hfn: ∀g:Bool,g=(f || decide (Q.getD i 0 < 0))→g=(List.range (i+1)).any (fun j=>decide (Q.getD j 0 < 0)):=fun g hg=>by rw [hg,List.range_succ,List.any_append,hf];simp
   have step: ∀g:Bool,g=(f || decide (Q.getD i 0 < 0))→Ev (fun k=>(ou.f k (nP n (2*n+2) s.T) s.den s.bs (i:Int) (r:Int) (rd cv (i:Int)) (rd cv (r:Int))).bind fun t=>if t=true then d7.l0 k cv (most:Int) (n:Int) [] g (i:Int) (wrap64 ((i:Int)+1)) M Q (nP n (2*n+2) s.T) s.den s.bs else d7.l0 k cv (most:Int) (n:Int) [] g (r:Int) (wrap64 ((i:Int)+1)) M Q (nP n (2*n+2) s.T) s.den s.bs) (QJ n (2*n+2) (if yJ n (fun i=>Q.getD i 0)=true then(s, [], -1,true) else match qC n (2*n+2) s (fun i=>cv.getD i 0) with
    | none=>(s, [], -1,false)
    | some r=>E0 n (2*n+2) most s (2*n) r [])):=by
    intro g hg
    rw [rT,rT,hw]
    refine oH key ?_
    by_cases d:z=true
    ·rw [if_pos d] at hnext
     exact cY d (ih (i+1) (by omega) g i (hfn g hg) (by omega) (fun e=>by omega) (fun _=>hnext))
    ·rw [if_neg d] at hnext
     exact lV d (ih (i+1) (by omega) g r (hfn g hg) hr (fun e=>by omega) (fun _=>hnext))
   by_cases cf:f=true
   ·refine cY cf (cY (by omega) (cY (by omega) (cY (by omega) (cY (by omega) ?_))))
    exact step true (by rw [cf];rfl)
   ·refine lV cf (cY (by omega) (cY (by omega) (cY (by omega) (cY (by omega) ?_))))
    have e:decide (rd Q (i:Int) < 0)=(f || decide (Q.getD i 0 < 0)):=by rw [rT];cases f with | false=>rfl | true=>exact absurd rfl cf
    exact step _ e
 exact loop n 0 (by omega) false 0 rfl hn0 (fun _=>rfl) (fun e=>by omega)
end Go.Proofs.YthmfdplckdijdaaGreat.uF
end
section
namespace Go.Proofs.YthmfdplckdijdaaGreat.uF
open Go.RowKit Wz.cw Wz.cX Ma Pr Dt Lk Lt Lq Lp
theorem ahw (n m:Nat): ∀(q:Nat) (s:TS) (v r:Nat) (st:List (List Int)),st.length≤(E0 n m q s v r st).2.1.length∧(0 < q→st.length < (E0 n m q s v r st).2.1.length):=by
 intro q
 induction q with
 | zero=>intro s v r st;exact⟨Nat.le_refl _,fun h=>absurd h (by omega)⟩
 | succ q ih=>
  intro s v r st
  suffices h:st.length < (E0 n m (q+1) s v r st).2.1.length from ⟨by omega,fun _=>h⟩
  unfold E0
  split
  ·simp
  ·generalize qC n m _ _=o
   cases o with
   | none=>simp
   | some r'=>have:=(ih (s.step r v) (partner n (s.bs.getD r 0).toNat) r' (st++ [[(v:Int),s.bs.getD r 0]])).1;simp at this ⊢;omega
def Rel (most:Nat) (R:TS × List (List Int) × Bool × Int × Int) (S:TS × List (List Int) × Int × Bool):Prop:=
 (R.2.2.2.2=3∧200 < S.2.1.length)∨(R.2.2.2.2=0∧S.2.1.length≤200∧S.1=R.1∧S.2.1=R.2.1∧S.2.2.2=R.2.2.1∧(most=201→R.2.2.1=false→S.2.2.1=R.2.2.2.1))
theorem ajk (n m most:Nat): ∀(q:Nat) (s:TS) (v r:Nat) (st:List (List Int)),st.length+q=most→st.length≤200→Rel most (goI n m q s v r st) (E0 n m q s v r st):=by
 intro q
 induction q with
 | zero=>intro s v r st h1 h2;exact .inr ⟨rfl,h2,rfl,rfl,rfl,fun e=>by omega⟩
 | succ q ih=>
  intro s v r st h1 h2
  by_cases c:st.length=200
  ·have:=(ahw n m (q+1) s v r st).2 (by omega)
   refine .inl ⟨?_,by omega⟩
   unfold goI
   rw [if_pos c]
  ·unfold goI E0
   rw [if_neg c]
   split
   ·exact .inr ⟨rfl,by simp;omega,rfl,rfl,rfl,fun _ e=>by cases e⟩
   ·generalize qC n m _ _=o
    cases o with
    | none=>exact .inr ⟨rfl,by simp;omega,rfl,rfl,rfl,fun _ _=>rfl⟩
    | some r'=>exact ih _ _ _ _ (by simp;omega) (by simp;omega)
theorem aji (n m:Nat): ∀(q:Nat) (s:TS) (v r:Nat) (st:List (List Int)),(∀x ∈ st,x.length=2)→ ∀x ∈ (goI n m q s v r st).2.1,x.length=2:=by
 intro q
 induction q with
 | zero=>intro s v r st h;exact h
 | succ q ih=>
  intro s v r st h
  have h2: ∀x ∈ st++ [[(v:Int),s.bs.getD r 0]],x.length=2:=fun x hx=>by
   rcases List.mem_append.1 hx with h3 | h3
   ·exact h x h3
   ·simp at h3;rw [h3];rfl
  unfold goI
  split
  ·exact h
  ·split
   ·exact h2
   ·generalize qC n m _ _=o
    cases o with
    | none=>exact h2
    | some r'=>exact ih _ _ _ _ h2
section
variable {M:List (List Int)} {Q cv:List Int} {n:Nat} (h:PC M Q cv n)
include h
theorem aiE: ∃r,qC n (2*n+2) (first n (m9 M) (fun i=>cv.getD i 0) (fun i=>Q.getD i 0)) (fun i=>cv.getD i 0)=some r:=by
 cases e:qC n (2*n+2) (first n (m9 M) (fun i=>cv.getD i 0) (fun i=>Q.getD i 0)) (fun i=>cv.getD i 0) with
 | none=>
  have h1:=yX e 0 h.pos
  have h2:=(h.cb 0 h.pos).1
  exact absurd h1 (by show ¬ cv.getD 0 0≤0;omega)
 | some r=>exact⟨r,rfl⟩
theorem agQ {most:Nat}:Rel most (zU n (m9 M) (fun i=>cv.getD i 0) (fun i=>Q.getD i 0) most) (ZJ n (m9 M) (fun i=>cv.getD i 0) (fun i=>Q.getD i 0) most):=by
 obtain⟨r,hr⟩:=aiE h
 unfold zU ZJ
 split
 ·exact .inr ⟨rfl,by simp,rfl,rfl,rfl,fun _ e=>by cases e⟩
 ·rw [hr]
  exact ajk n _ most most _ _ _ [] (by simp) (by simp)
theorem agP {most:Nat}: ∀x ∈ (zU n (m9 M) (fun i=>cv.getD i 0) (fun i=>Q.getD i 0) most).2.1,x.length=2:=by
 obtain⟨r,hr⟩:=aiE h
 unfold zU
 split
 ·intro x hx;cases hx
 ·rw [hr]
  exact aji n _ most _ _ _ [] (fun x hx=>by cases hx)
end
theorem zy (M:List (List Int)) (Q cv:List Int) (hQ:Q.length≤1048576) (hcv:cv.length≤1048576):Ev (fun k=>mU.f k M Q cv) (pV M Q cv):=by
 classical
 have loop: ∀q i,i+q=cv.length→Ev (fun k=>mU.l0 k cv (i:Int)) (if(cv.drop i).any Ad=true then 2 else 0):=by
  intro q
  induction q with
  | zero=>
   intro i hi
   refine mC (fun k=>by rw [mU.l0]) (lV (by omega) (oK ?_))
   rw [List.drop_of_length_le (by omega)];rfl
  | succ q ih=>
   intro i hi
   refine mC (fun k=>by rw [mU.l0]) (cY (by omega) (cY (by omega) (qW (Pb.Ft _ _ _) ?_)))
   rw [rT,nH (x:=(i:Int)+1) (by omega) (by omega),List.drop_eq_getElem_cons (show i < cv.length by omega),List.any_cons]
   have e:cv.getD i 0=cv[i]:=by rw [List.getD_eq_getElem?_getD,List.getElem?_eq_getElem (by omega)];rfl
   rw [e]
   unfold Ad
   by_cases c:1≤cv[i]∧cv[i]≤20
   ·have d:(!(decide (1≤cv[i]) && decide (cv[i]≤20)))=false:=by simp [c]
    rw [d,Bool.false_or]
    exact cY (decide_eq_true c) (ih (i+1) (by omega))
   ·have d:(!(decide (1≤cv[i]) && decide (cv[i]≤20)))=true:=by
     rw [Bool.not_eq_true',Bool.and_eq_false_iff]
     by_cases c1:1≤cv[i]
     ·right;exact decide_eq_false (fun c2=>c ⟨c1,c2⟩)
     ·left;exact decide_eq_false c1
    rw [d,Bool.true_or,if_pos rfl]
    exact lV (by simpa using c) (oK rfl)
 unfold mU.f pV
 refine oH (Pb.Yc M Q hQ (decide (Pb.Eu M Q)) (by simp)) ?_
 rw [Pb.DC M Q (decide (Pb.Eu M Q)) (by simp)]
 by_cases p:Pb.Eu M Q
 ·rw [decide_eq_true p,if_pos rfl]
  refine cY rfl ?_
  unfold zN
  by_cases c:(cv.length:Int)=(Q.length:Int)
  ·refine cY c ?_
   have:=loop cv.length 0 (by omega)
   rw [List.drop_zero] at this
   rw [decide_eq_true c,Bool.true_and]
   cases hb:cv.any Ad with
   | true=>rw [hb] at this;exact this
   | false=>rw [hb] at this;exact this
  ·refine lV c (oK ?_)
   rw [decide_eq_false c];rfl
 ·rw [decide_eq_false p,if_neg (by simp)]
  exact lV (by decide) (oK rfl)
theorem Bs {M:List (List Int)} {Q cv:List Int} (h:pV M Q cv=0) (most:Nat) (hm:most≤100000): ∃S:TS × List (List Int) × Int × Bool,Ev (fun k=>d7.f k M Q cv (most:Int)) (QJ Q.length (2*Q.length+2) S)∧Rel most (nI M Q cv most) S:=⟨_,run_eq (rM h) most hm,agQ (rM h)⟩
end Go.Proofs.YthmfdplckdijdaaGreat.uF
end
section
namespace Go.Proofs.YthmfdplckdijdaaGreat.Pr
open Go.RowKit Wz.cw Wz.fX Wz.cX
attribute [local go_sem] nV nT oF oD nC nB nU nS
def oz.l0:Nat→Int→Int→Option (Int)
 | 0,_,_=>none
 | k+1,x0,x1=>if x1=0 then(some (mx x0 (wrap64 (-x0)))) else(oz.l0 k x1 (Int.tmod x0 x1))
def oz.f (k:Nat) (a0:Int) (a1:Int):Option (Int):=oz.l0 k a0 a1
theorem oz.calls (k:Nat) (a0:Int) (a1:Int) (r:Int) (w:World) (h:oz.f k a0 a1=some r):
  Calls Tryz.prog 113 #[.int .i64 a0, .int .i64 a1] w fun e w'=>e= .returned (.int .i64 r)∧Below w.heap.size w w':=by
 have HB:=q_ (Below.refl w.heap.size w);have H:(oz.l0 k a0 a1)=some r:=h;clear h;have H':=q_ H;clear H
 go_enter Tryz.func113,Tryz.ntmps113
 go_wp2
 go_loopg [0,1] k (fun kq v0 v1 w'=> ∃(aa:Int) (ae:Int),v0= .int .i64 aa∧v1= .int .i64 ae∧aE (oz.l0 kq aa ae=some r)∧aE (kq≤k)∧aE (Below w.heap.size w w'))
 case atStart=>exact⟨(a0),(a1),nM,nM,H',⟨Nat.le_refl _⟩,⟨hb_⟩⟩
 case round=>
  clear H';obtain⟨aa,ae,rfl,rfl,HA,nA,HB⟩:=hrel;cases gk with
  | zero=>exact absurd HA.out (by simp [oz.l0])
  | succ k1=>
   have H:=HA.out;clear HA;simp only [oz.l0] at H
   by_cases c3:ae=0
   ·rw [if_pos c3] at H;have qP:=yh c3;have vV:=yg c3;clear c3;obtain⟨Yv,Fe⟩: ∃j_:Int,(mx aa (wrap64 (-aa)))=j_:=⟨_,rfl⟩
    replace H:(some Yv)=some r:=by first | (rw [Fe] at H;exact H) | (simp only [Fe] at H ⊢;exact H)
    have ak3:(if aa < (wrap64 (-aa)) then(wrap64 (-aa)) else aa)=Yv:=Fe;obtain rfl:=Option.some.inj H;go_wp2
    go_ret
    exact⟨by first | rfl | (simp [qY,qX] <;> rfl) | (simp only [← Fe];first | rfl | (simp [qY,qX] <;> rfl)) | (simp [*,qY,qX] <;> rfl),hb_⟩
   ·rw [if_neg c3] at H;have qP:=uJ c3;have vV:=uI c3;have H':=q_ H;clear H;go_wp2
    go_roundg k1
    case measure=>have:=nA.out;omega
    case rel=>exact⟨(ae),(Int.tmod aa ae),nM,nM,H',⟨by have:=nA.out;omega⟩,⟨hb_⟩⟩
def oM.f (k:Nat) (a0:Int) (a1:Int):Option (Int × Int):=if a1 < 0 then((oz.f k (wrap64 (-a0)) (wrap64 (-a1))).bind fun aa=>(if aa=0 then(none) else(some (wrap64 (Int.tdiv (wrap64 (-a0)) aa),wrap64 (Int.tdiv (wrap64 (-a1)) aa))))) else((oz.f k a0 a1).bind fun ae=>(if ae=0 then(none) else(some (wrap64 (Int.tdiv a0 ae),wrap64 (Int.tdiv a1 ae)))))
def oM.T5:Bool × List (List Nat × List Nat):=(true, [([], []),([], []),([0,1], [0,1]),([], []),([], []),([3,4], [3,4]),([2,5], [2,5]),([6,0,1,2,3,4,5,6], [6])])
def oM.B5:List Nat:= [0,0,3,0,0,24,63,127]
theorem oM.xO:sy .any (opsOf Tryz.f67 5)=oM.T5:=by kernel_rfl
theorem oM.vo:tD oM.T5.2 oM.B5=true:=by kernel_rfl
theorem oM.calls (k:Nat) (a0:Int) (a1:Int) (r1:Int) (r2:Int) (w:World) (h:oM.f k a0 a1=some (r1,r2)):
  Calls Tryz.prog 67 #[.int .i64 a0, .int .i64 a1] w fun e w'=>e= .returned (.agg #[.int .i64 r1, .int .i64 r2])∧Below w.heap.size w w':=by
 have DV:=Tryz.underlying58;have HB:=q_ (Below.refl w.heap.size w);have H:(if a1 < 0 then((oz.f k (wrap64 (-a0)) (wrap64 (-a1))).bind fun ae=>(if ae=0 then(none) else(some (wrap64 (Int.tdiv (wrap64 (-a0)) ae),wrap64 (Int.tdiv (wrap64 (-a1)) ae))))) else((oz.f k a0 a1).bind fun af=>(if af=0 then(none) else(some (wrap64 (Int.tdiv a0 af),wrap64 (Int.tdiv a1 af))))))=some (r1,r2):=h;clear h
 by_cases c3:a1 < 0
 ·rw [if_pos c3] at H;have qP:=decide_eq_true c3;clear c3;replace H:=Option.bind_eq_some_iff.mp H;obtain⟨ae,Bo,H⟩:=H;replace H:(if ae=0 then(none) else(some (wrap64 (Int.tdiv (wrap64 (-a0)) ae),wrap64 (Int.tdiv (wrap64 (-a1)) ae))))=some (r1,r2):=H;have A4:=q_ Bo;clear Bo
  by_cases c5:ae=0
  ·rw [if_pos c5] at H;exact absurd H (by simp)
  ·rw [if_neg c5] at H;have uP:=uJ c5;have QS:=uI c5;simp only [Option.some.injEq,Prod.mk.injEq] at H;obtain⟨rfl,rfl⟩:=H
   go_enter Tryz.func67,Tryz.ntmps67
   try go_wp2_with (first | ((with_reducible refine dg (N:=4) rfl ?_);refine nR 4 #[.int .i64 0, .int .i64 0] 58 ?_;intro ag hg w6 cM hb;have aa:=q_ (cM);have ah:=mq w hg;have ai:=mq w hg;replace HB:=lT hb;clear hb cM hg) | ((with_reducible refine d8 (f:=113) rfl ?_);refine oJ 14 Tryz.func113 #[.int .i64 (wrap64 (-a0)), .int .i64 (wrap64 (-a1))] ?_;(with_reducible refine(oz.calls k (wrap64 (-a0)) (wrap64 (-a1)) ae _ A4.out).mono ?_);rintro e w7 ⟨rfl,hb⟩;refine⟨_,rfl,?_⟩;replace aa:=lZ aa hb;replace HB:=lT hb;(try clear hb)))
   replace aa:=q_ (mI aa.out);replace HB:=q_ (mS HB.out);refine qx (n:=8) (S:=fun w'=>True) (ds:= []) trivial (fun hHeld=>?_);refine o9 oM.xO oM.vo (fun pL xA=>?_)
   generalize w7.drew=w8 at aa HB hHeld ⊢
   refine sB 0 15 1 16 2 17 3 18 ?_;refine rm 4 19 5 20 6 21 ?_
   refine pz 7 none (fun K hK=>?_)
   have hs9:=lS aa 0;have anz:=gE aa.out 0;have asQ:=lS aa 1;have asa:=gE aa.out 1;refine rL (w1:=?_) (by rfl) rfl ?_ ?_
   rotate_left
   ·go_simp
    rfl
   refine hK.out _ _ trivial (fun hHeld=>?_)
   clear hK K;refine oA (qj pL.out (by kernel_rfl)) ?_
   try go_wp2
   refine bodyPost_ret (results_cell_row rfl _ _ ag 58 #[.int .i64 (wrap64 (Int.tdiv (wrap64 (-a0)) ae)), .int .i64 (wrap64 (Int.tdiv (wrap64 (-a1)) ae))] (0,0) _ rfl (oX) Tryz.underlying58 rfl (by kernel_rfl)) rfl ?_
   exact⟨pH,hb_⟩
 ·rw [if_neg c3] at H;have qP:=decide_eq_false c3;clear c3;replace H:=Option.bind_eq_some_iff.mp H;obtain⟨af,Ez,H⟩:=H;replace H:(if af=0 then(none) else(some (wrap64 (Int.tdiv a0 af),wrap64 (Int.tdiv a1 af))))=some (r1,r2):=H;have Gp:=q_ Ez;clear Ez
  by_cases qQ:af=0
  ·rw [if_pos qQ] at H;exact absurd H (by simp)
  ·rw [if_neg qQ] at H;have GZ:=uJ qQ;have agj:=uI qQ;simp only [Option.some.injEq,Prod.mk.injEq] at H;obtain⟨rfl,rfl⟩:=H
   go_enter Tryz.func67,Tryz.ntmps67
   try go_wp2_with (first | ((with_reducible refine dg (N:=4) rfl ?_);refine nR 4 #[.int .i64 0, .int .i64 0] 58 ?_;intro ag hg Ah cM hb;have aa:=q_ (cM);have ah:=mq w hg;have ai:=mq w hg;replace HB:=lT hb;clear hb cM hg) | ((with_reducible refine d8 (f:=113) rfl ?_);refine oJ 14 Tryz.func113 #[.int .i64 a0, .int .i64 a1] ?_;(with_reducible refine(oz.calls k a0 a1 af _ Gp.out).mono ?_);rintro e Cg ⟨rfl,hb⟩;refine⟨_,rfl,?_⟩;replace aa:=lZ aa hb;replace HB:=lT hb;(try clear hb)))
   replace aa:=q_ (mI aa.out);replace HB:=q_ (mS HB.out);refine qx (n:=8) (S:=fun w'=>True) (ds:= []) trivial (fun hHeld=>?_);refine o9 oM.xO oM.vo (fun pL xA=>?_)
   generalize Cg.drew=vu at aa HB hHeld ⊢
   refine sB 0 15 1 16 2 17 3 18 ?_;refine rm 4 19 5 20 6 21 ?_
   refine pz 7 none (fun K hK=>?_)
   have asO:=lS aa 0;have ar8:=gE aa.out 0;have am8:=lS aa 1;have ak4:=gE aa.out 1;refine rL (w1:=?_) (by rfl) rfl ?_ ?_
   rotate_left
   ·go_simp
    rfl
   refine hK.out _ _ trivial (fun hHeld=>?_)
   clear hK K;refine oA (qj pL.out (by kernel_rfl)) ?_
   try go_wp2
   refine bodyPost_ret (results_cell_row rfl _ _ ag 58 #[.int .i64 (wrap64 (Int.tdiv a0 af)), .int .i64 (wrap64 (Int.tdiv a1 af))] (0,0) _ rfl (oX) Tryz.underlying58 rfl (by kernel_rfl)) rfl ?_
   exact⟨pH,hb_⟩
end Go.Proofs.YthmfdplckdijdaaGreat.Pr
end
section
namespace Go.Proofs.YthmfdplckdijdaaGreat.Fr
open Go.RowKit Wz.cw Wz.cX Ma Pr
def gc (a b:Int):Int:=(Int.gcd a b:Int)
def xK (x:Int):Prop:= -4611686018427387904≤x∧x≤4611686018427387904
theorem Jl (a:Int):gc a 0=if 0≤a then a else -a:=by
 unfold gc
 rw [Int.gcd_zero_right]
 split <;> omega
theorem YO (a b:Int):gc a b=gc b (Int.tmod a b):=by
 unfold gc Int.gcd
 rw [Int.natAbs_tmod,Nat.gcd_comm,Nat.gcd_rec,Nat.gcd_comm]
theorem Ya {a b:Int} (h:b≠0):(Int.tmod a b).natAbs < b.natAbs:=by
 rw [Int.natAbs_tmod]
 exact Nat.mod_lt _ (by omega)
theorem abs_eq {a:Int} (h:xK a):mx a (wrap64 (-a))=if 0≤a then a else -a:=by
 unfold xK at h
 rw [nH (by omega) (by omega)]
 unfold mx
 split <;> split <;> omega
theorem aaW: ∀(n:Nat) (a b:Int),b.natAbs≤n→xK a→xK b→Ev (fun k=>oz.l0 k a b) (gc a b):=by
 intro n
 induction n with
 | zero=>
  intro a b hn ha hb
  obtain rfl:b=0:=by omega
  refine mC (fun k=>by rw [oz.l0]) (cY rfl (oK ?_))
  rw [abs_eq ha,Jl]
 | succ n ih=>
  intro a b hn ha hb
  by_cases e:b=0
  ·subst e
   refine mC (fun k=>by rw [oz.l0]) (cY rfl (oK ?_))
   rw [abs_eq ha,Jl]
  ·refine mC (fun k=>by rw [oz.l0]) (lV e ?_)
   have h:=Ya (a:=a) e
   rw [YO]
   exact ih b (Int.tmod a b) (by omega) hb (by unfold xK at*;omega)
theorem UO (a b:Int) (ha:xK a) (hb:xK b):Ev (fun k=>oz.f k a b) (gc a b):=aaW b.natAbs a b (Nat.le_refl _) ha hb
end Go.Proofs.YthmfdplckdijdaaGreat.Fr
end
section
namespace Go.Proofs.YthmfdplckdijdaaGreat.Pr
open Go.RowKit Wz.cw Wz.fX Wz.cX
attribute [local go_sem] nV nT oF oD nC nB nU nS
def tF.f (k:Nat) (pO:Int) (lW:Int) (a1:Int):Option (Bool):=(nX.f lW 1 a1).bind fun aa=>(if aa=true then((nX.f pO (wrap64 (-a1)) a1).bind fun ae=>(if ae=true then((oz.f k pO lW).bind fun af=>(some (af==1))) else(some false))) else(some false))
theorem tF.calls (k:Nat) (pO:Int) (lW:Int) (a1:Int) (r:Bool) (w:World) (h:tF.f k pO lW a1=some r):
  Calls Tryz.prog 114 #[.agg #[.int .i64 pO, .int .i64 lW], .int .i64 a1] w fun e w'=>e= .returned (.bool r)∧Below w.heap.size w w':=by
 have DV:=Tryz.underlying58;have HB:=q_ (Below.refl w.heap.size w);have H:((nX.f lW 1 a1).bind fun ah=>(if ah=true then((nX.f pO (wrap64 (-a1)) a1).bind fun ag=>(if ag=true then((oz.f k pO lW).bind fun af=>(some (af==1))) else(some false))) else(some false)))=some r:=h;clear h;replace H:=Option.bind_eq_some_iff.mp H;obtain⟨ah,sW,H⟩:=H;replace H:(if ah=true then((nX.f pO (wrap64 (-a1)) a1).bind fun ag=>(if ag=true then((oz.f k pO lW).bind fun af=>(some (af==1))) else(some false))) else(some false))=some r:=H;have A3:=q_ sW;clear sW
 by_cases c4:ah=true
 ·subst c4;have H1:((nX.f pO (wrap64 (-a1)) a1).bind fun ag=>(if ag=true then((oz.f k pO lW).bind fun af=>(some (af==1))) else(some false)))=some r:=by rw [if_pos rfl] at H;exact H
  clear H;have H:=H1;clear H1;replace H:=Option.bind_eq_some_iff.mp H;obtain⟨ag,xL,H⟩:=H;replace H:(if ag=true then((oz.f k pO lW).bind fun af=>(some (af==1))) else(some false))=some r:=H;have A5:=q_ xL;clear xL
  by_cases c6:ag=true
  ·subst c6;have H1:((oz.f k pO lW).bind fun af=>(some (af==1)))=some r:=by rw [if_pos rfl] at H;exact H
   clear H;have H:=H1;clear H1;replace H:=Option.bind_eq_some_iff.mp H;obtain⟨af,CD,H⟩:=H;replace H:(some (af==1))=some r:=H;have A7:=q_ CD;clear CD;obtain rfl:=Option.some.inj H
   go_enter Tryz.func114,Tryz.ntmps114
   go_wp2_with (first | ((with_reducible refine dg (N:=2) rfl ?_);refine nR 2 #[.int .i64 pO, .int .i64 lW] 58 ?_;intro ae hg w8 cM hb;have aa:=q_ (cM);have ai:=mq w hg;have aj:=mq w hg;replace HB:=lT hb;clear hb cM hg;obtain⟨aA,aC,aD,aG⟩:=nF aa) | ((with_reducible refine d8 (f:=43) rfl ?_);refine oJ 8 Tryz.func43 #[.int .i64 lW, .int .i64 1, .int .i64 a1] ?_;(with_reducible refine(nX.calls lW 1 a1 true _ A3.out).mono ?_);rintro e w' ⟨rfl,⟨nd,rfl⟩⟩;refine⟨_,rfl,?_⟩) | (go_at_call 43;(with_reducible refine(nX.calls pO (wrap64 (-a1)) a1 true _ A5.out).mono ?_);rintro e w' ⟨rfl,⟨nd,rfl⟩⟩) | (go_at_call 113;(with_reducible refine(oz.calls k pO lW af _ A7.out).mono ?_);rintro e tE ⟨rfl,hb⟩;replace aa:=lZ aa hb;replace HB:=lT hb;(try clear hb)))
   go_ret
   exact⟨pH,hb_⟩
  ·replace c6:=Bool.eq_false_iff.mpr c6;subst c6;have H1:(some false)=some r:=by rw [if_neg (show ¬ (false=true) by decide)] at H;exact H
   clear H;have H:=H1;clear H1;obtain rfl:=Option.some.inj H
   go_enter Tryz.func114,Tryz.ntmps114
   go_wp2_with (first | ((with_reducible refine dg (N:=2) rfl ?_);refine nR 2 #[.int .i64 pO, .int .i64 lW] 58 ?_;intro ae hg rB cM hb;have aa:=q_ (cM);have ai:=mq w hg;have aj:=mq w hg;replace HB:=lT hb;clear hb cM hg;obtain⟨ak,aq,au,av⟩:=nF aa) | ((with_reducible refine d8 (f:=43) rfl ?_);refine oJ 8 Tryz.func43 #[.int .i64 lW, .int .i64 1, .int .i64 a1] ?_;(with_reducible refine(nX.calls lW 1 a1 true _ A3.out).mono ?_);rintro e w' ⟨rfl,⟨nd,rfl⟩⟩;refine⟨_,rfl,?_⟩) | (go_at_call 43;(with_reducible refine(nX.calls pO (wrap64 (-a1)) a1 false _ A5.out).mono ?_);rintro e w' ⟨rfl,⟨nd,rfl⟩⟩))
   go_ret
   exact⟨pH,hb_⟩
 ·replace c4:=Bool.eq_false_iff.mpr c4;subst c4;have H1:(some false)=some r:=by rw [if_neg (show ¬ (false=true) by decide)] at H;exact H
  clear H;have H:=H1;clear H1;obtain rfl:=Option.some.inj H
  go_enter Tryz.func114,Tryz.ntmps114
  go_wp2_with (first | ((with_reducible refine dg (N:=2) rfl ?_);refine nR 2 #[.int .i64 pO, .int .i64 lW] 58 ?_;intro ae hg Ah cM hb;have aa:=q_ (cM);have ai:=mq w hg;have aj:=mq w hg;replace HB:=lT hb;clear hb cM hg;obtain⟨aw,ax,ay,az⟩:=nF aa) | ((with_reducible refine d8 (f:=43) rfl ?_);refine oJ 8 Tryz.func43 #[.int .i64 lW, .int .i64 1, .int .i64 a1] ?_;(with_reducible refine(nX.calls lW 1 a1 false _ A3.out).mono ?_);rintro e w' ⟨rfl,⟨nd,rfl⟩⟩;refine⟨_,rfl,?_⟩))
  go_ret
  exact⟨pH,hb_⟩
def pS.f (k:Nat) (pO:Int) (lW:Int):Option (Int × Int × Int):=(tF.f k pO lW 1000000000).bind fun aa=>(if aa=true then(some (pO,lW,0)) else(some (0,0,3)))
theorem pS.calls (k:Nat) (pO:Int) (lW:Int) (r1:Int) (r2:Int) (r3:Int) (w:World) (h:pS.f k pO lW=some (r1,r2,r3)):
  Calls Tryz.prog 68 #[.agg #[.int .i64 pO, .int .i64 lW]] w fun e w'=>e= .returned (.tuple #[.agg #[.int .i64 r1, .int .i64 r2], .int .i64 r3])∧Below w.heap.size w w':=by
 have DV:=Tryz.underlying58;have HB:=q_ (Below.refl w.heap.size w);have H:((tF.f k pO lW 1000000000).bind fun aj=>(if aj=true then(some (pO,lW,0)) else(some (0,0,3))))=some (r1,r2,r3):=h;clear h;replace H:=Option.bind_eq_some_iff.mp H;obtain⟨aj,E9,H⟩:=H;replace H:(if aj=true then(some (pO,lW,0)) else(some (0,0,3)))=some (r1,r2,r3):=H;have A2:=q_ E9;clear E9
 by_cases c3:aj=true
 ·subst c3;have H1:(some (pO,lW,0))=some (r1,r2,r3):=by rw [if_pos rfl] at H;exact H
  clear H;have H:=H1;clear H1;simp only [Option.some.injEq,Prod.mk.injEq] at H;obtain⟨rfl,rfl,rfl⟩:=H
  go_enter Tryz.func68,Tryz.ntmps68
  go_wp2_with (first | ((with_reducible refine dg (N:=1) rfl ?_);refine nR 1 #[.int .i64 pO, .int .i64 lW] 58 ?_;intro ae hg w4 cM hb;have aa:=q_ (cM);have ak:=mq w hg;have aq:=mq w hg;replace HB:=lT hb;clear hb cM hg) | ((with_reducible refine dg (N:=2) rfl ?_);refine nR 2 #[.int .i64 0, .int .i64 0] 58 ?_;intro af hg w5 cM hb;have ag:=q_ (cM);have au:=mq w hg;have av:=mq w hg;have ah:=r7 hg aa;have ai:=rY hg aa;replace aa:=lZ aa hb;replace HB:=lT hb;clear hb cM hg;have ba:=ah.out;have bg:=ai.out;obtain⟨aM,aN,aT,aU⟩:=nF aa) | ((with_reducible refine d8 (f:=114) rfl ?_);refine oJ 5 Tryz.func114 #[.agg #[.int .i64 pO, .int .i64 lW], .int .i64 1000000000] ?_;(with_reducible refine(tF.calls k pO lW 1000000000 true _ A2.out).mono ?_);rintro e w8 ⟨rfl,hb⟩;refine⟨_,rfl,?_⟩;replace aa:=lZ aa hb;replace ag:=lZ ag hb;replace HB:=lT hb;(try clear hb);obtain⟨aV,aW,aX,aY⟩:=nF aa;obtain⟨aw,ax,ay,az⟩:=nF ag))
  refine bodyPost_ret (tS rfl _ _ af 58 #[.int .i64 pO, .int .i64 lW] (0,0) _ rfl (oX) Tryz.underlying58 rfl (by kernel_rfl)) rfl ?_
  exact⟨pH,hb_⟩
 ·replace c3:=Bool.eq_false_iff.mpr c3;subst c3;have H1:(some (0,0,3))=some (r1,r2,r3):=by rw [if_neg (show ¬ (false=true) by decide)] at H;exact H
  clear H;have H:=H1;clear H1;simp only [Option.some.injEq,Prod.mk.injEq] at H;obtain⟨rfl,rfl,rfl⟩:=H
  go_enter Tryz.func68,Tryz.ntmps68
  go_wp2_with (first | ((with_reducible refine dg (N:=1) rfl ?_);refine nR 1 #[.int .i64 pO, .int .i64 lW] 58 ?_;intro ae hg rB cM hb;have aa:=q_ (cM);have ak:=mq w hg;have aq:=mq w hg;replace HB:=lT hb;clear hb cM hg) | ((with_reducible refine dg (N:=2) rfl ?_);refine nR 2 #[.int .i64 0, .int .i64 0] 58 ?_;intro af hg tX cM hb;have ag:=q_ (cM);have au:=mq w hg;have av:=mq w hg;have ah:=r7 hg aa;have ai:=rY hg aa;replace aa:=lZ aa hb;replace HB:=lT hb;clear hb cM hg;have aZ:=ah.out;have a9:=ai.out;obtain⟨aA,aC,aD,aG⟩:=nF aa) | ((with_reducible refine d8 (f:=114) rfl ?_);refine oJ 5 Tryz.func114 #[.agg #[.int .i64 pO, .int .i64 lW], .int .i64 1000000000] ?_;(with_reducible refine(tF.calls k pO lW 1000000000 false _ A2.out).mono ?_);rintro e vu ⟨rfl,hb⟩;refine⟨_,rfl,?_⟩;replace aa:=lZ aa hb;replace ag:=lZ ag hb;replace HB:=lT hb;(try clear hb);obtain⟨aH,aI,aJ,aK⟩:=nF ag))
  refine bodyPost_ret (tS rfl _ _ af 58 #[.int .i64 0, .int .i64 0] (0,0) _ rfl (oX) Tryz.underlying58 rfl (by kernel_rfl)) rfl ?_
  exact⟨pH,hb_⟩
end Go.Proofs.YthmfdplckdijdaaGreat.Pr
end
section
namespace Go.Proofs.YthmfdplckdijdaaGreat.Fr
open Go.RowKit Wz.cw Wz.cX Ma Pr
theorem abB: ∀(n:Nat) (a b:Int),b.natAbs≤n→0≤a→0≤b→Ev (fun k=>nK.l0 k a b) (gc a b):=by
 intro n
 induction n with
 | zero=>
  intro a b hn ha hb
  obtain rfl:b=0:=by omega
  refine mC (fun k=>by rw [nK.l0]) (cY rfl (oK ?_))
  rw [Jl,if_pos ha]
 | succ n ih=>
  intro a b hn ha hb
  by_cases e:b=0
  ·subst e
   refine mC (fun k=>by rw [nK.l0]) (cY rfl (oK ?_))
   rw [Jl,if_pos ha]
  ·refine mC (fun k=>by rw [nK.l0]) (lV e ?_)
   have h:=Ya (a:=a) e
   rw [YO]
   exact ih b (Int.tmod a b) (by omega) hb (Int.tmod_nonneg _ ha)
theorem ajn (a b:Int):gc (if 0≤a then a else -a) (if 0≤b then b else -b)=gc a b:=by
 unfold gc
 split <;> split <;> simp
theorem KQ (a b:Int) (ha:xK a) (hb:xK b):Ev (fun k=>nK.f k a b) (gc a b):=by
 unfold nK.f qV.f
 refine qW rfl (qW rfl ?_)
 rw [abs_eq ha,abs_eq hb, ← ajn]
 exact abB _ _ _ (Nat.le_refl _) (by split <;> omega) (by split <;> omega)
def AW (m a b:Int):Bool:=(decide (1≤b) && decide (b≤m)) && ((decide (-m≤a) && decide (a≤m)) && (gc a b==1))
theorem afv (n a b:Int):nX.f n a b=some (decide (a≤n) && decide (n≤b)):=by
 unfold nX.f
 by_cases h:a≤n
 ·rw [if_pos (by omega)];simp [h]
 ·rw [if_neg (by omega)];simp [h]
theorem Z2 (n a b:Int):oZ.f n a b=some (decide (a≤n) && decide (n≤b)):=by
 unfold oZ.f
 by_cases h:a≤n
 ·rw [if_pos (by omega)];simp [h]
 ·rw [if_neg (by omega)];simp [h]
theorem acT (m a b:Int) (h0:0≤m) (h1:m≤4611686018427387904):Ev (fun k=>tF.f k a b m) (AW m a b):=by
 unfold tF.f AW
 refine qW (afv _ _ _) ?_
 cases c1:(decide (1≤b) && decide (b≤m)) with
 | false=>exact lV (by simp) (oK (by simp))
 | true=>
  refine cY rfl (qW (afv _ _ _) ?_)
  rw [nH (by omega) (by omega)]
  cases c2:(decide (-m≤a) && decide (a≤m)) with
  | false=>exact lV (by simp) (oK (by simp))
  | true=>
   simp only [Bool.and_eq_true,decide_eq_true_eq] at c1 c2
   refine cY rfl (oH (UO a b (by unfold xK;omega) (by unfold xK;omega)) (oK ?_))
   simp
theorem Vr (a b:Int):Ev (fun k=>qG.f k a b) (AW 1000000000 a b):=by
 unfold qG.f AW
 refine qW (Z2 _ _ _) ?_
 cases c1:(decide (1≤b) && decide (b≤1000000000)) with
 | false=>exact lV (by simp) (oK (by simp))
 | true=>
  refine cY rfl ?_
  unfold rN.f
  rw [nH (by omega) (by omega),Z2]
  refine qW rfl ?_
  cases c2:(decide (-1000000000≤a) && decide (a≤1000000000)) with
  | false=>exact lV (by simp) (oK (by simp))
  | true=>
   simp only [Bool.and_eq_true,decide_eq_true_eq] at c1 c2
   refine cY rfl (oH (KQ a b (by unfold xK;omega) (by unfold xK;omega)) (oK ?_))
   simp
end Go.Proofs.YthmfdplckdijdaaGreat.Fr
end
section
namespace Go.Proofs.YthmfdplckdijdaaGreat.Fr
open Go.RowKit Wz.cw Wz.cX Ma Pr
def fV (a d:Int):Int × Int:=(wrap64 (Int.tdiv a (gc a d)),wrap64 (Int.tdiv d (gc a d)))
def xM (x:Int × Int):Int × Int × Int:=if AW 1000000000 x.1 x.2=true then(x.1,x.2,0) else(0,0,3)
def pP (a d:Int):Int × Int × Int:=xM (fV a d)
theorem Cu {a d:Int} (hd:0 < d):0 < gc a d:=by
 unfold gc
 have:Int.gcd a d≠0:=by rw [Ne,Int.gcd_eq_zero_iff];intro h;omega
 omega
theorem aiF (a d:Int) (ha:xK a) (hb:xK d) (hd:0 < d):Ev (fun k=>oU.f k a d) (pP a d):=by
 have hg:=Cu (a:=a) hd
 unfold oU.f pP xM fV
 refine oH (KQ a d ha hb) (lV (by omega) (lV (by omega) (oH (Vr _ _) ?_)))
 by_cases c:AW 1000000000 (wrap64 (Int.tdiv a (gc a d))) (wrap64 (Int.tdiv d (gc a d)))=true
 ·exact cY c (oK (congrArg some (if_pos c).symm))
 ·exact lV c (oK (congrArg some (if_neg c).symm))
theorem UR (a d:Int) (ha:xK a) (hb:xK d) (hd:0 < d):Ev (fun k=>oM.f k a d) (fV a d):=by
 have hg:=Cu (a:=a) hd
 unfold oM.f fV
 exact lV (by omega) (oH (UO a d ha hb) (lV (by omega) (oK rfl)))
theorem X8 (x y:Int):Ev (fun k=>pS.f k x y) (xM (x,y)):=by
 unfold pS.f xM
 refine oH (acT 1000000000 x y (by decide) (by decide)) ?_
 by_cases c:AW 1000000000 x y=true
 ·exact cY c (oK (congrArg some (if_pos c).symm))
 ·exact lV c (oK (congrArg some (if_neg c).symm))
theorem H8 {d:Int} (hd:0 < d) (h1:d≤4611686018427387904):pP 0 d=(0,1,0):=by
 have e:gc 0 d=d:=by unfold gc;rw [Int.gcd_zero_left];omega
 unfold pP fV
 rw [e,Int.zero_tdiv,Int.tdiv_self (by omega),nH (x:=0) (by omega) (by omega),nH (x:=1) (by omega) (by omega)]
 unfold xM
 exact if_pos (by decide)
theorem ac1 {d:Int} (hd:0 < d) (h1:d≤4611686018427387904):pP d d=(1,1,0):=by
 have e:gc d d=d:=by unfold gc;rw [Int.gcd_self];omega
 unfold pP fV
 rw [e,Int.tdiv_self (by omega),nH (x:=1) (by omega) (by omega)]
 unfold xM
 exact if_pos (by decide)
theorem aaP:xM (0,1)=(0,1,0):=if_pos (by decide)
theorem acK:xM (1,1)=(1,1,0):=if_pos (by decide)
end Go.Proofs.YthmfdplckdijdaaGreat.Fr
end
section
namespace Go.Proofs.YthmfdplckdijdaaGreat.uF
open Go.RowKit Wz.cw Wz.cX Ma Pr Dt Lk Lt Lq Lp Fr
def uO (f:Nat→Int × Int × Int):Nat→Nat→List mh→List mh × Int
 | 0,_,acc=>(acc,0)
 | q+1,x,acc=>if(f x).2.2=0 then uO f q (x+1) (acc++ [⟨(f x).1,(f x).2.1⟩]) else([],(f x).2.2)
theorem U4 (f:Nat→Int × Int × Int): ∀q x acc,(uO f q x acc).1.length≤q+acc.length
 | 0,x,acc=>by simp [uO]
 | q+1,x,acc=>by
  unfold uO
  split
  ·have:=U4 f q (x+1) (acc++ [⟨(f x).1,(f x).2.1⟩])
   simp at this ⊢;omega
  ·simp
theorem QV (l:List Int) (d:Int) (hl:l.length≤1000) (hd:0 < d) (hb:xK d) (hx: ∀i,i < l.length→xK (l.getD i 0)):Ev (fun k=>ow.f k l d) (uO (fun x=>pP (l.getD x 0) d) l.length 0 []):=by
 have loop: ∀q x acc,x+q=l.length→acc.length≤x→Ev (fun k=>ow.l0 k d acc l (l.length:Int) (x:Int)) (uO (fun x=>pP (l.getD x 0) d) q x acc):=by
  intro q
  induction q with
  | zero=>
   intro x acc h1 h2
   refine mC (fun k=>by rw [ow.l0]) ?_
   exact lV (by omega) (oK rfl)
  | succ q ih=>
   intro x acc h1 h2
   refine mC (fun k=>by rw [ow.l0]) (cY (by omega) (cY (by omega) (cY (by omega) ?_)))
   rw [rT,nH (x:=(x:Int)+1) (by omega) (by omega)]
   refine oH (aiF _ _ (hx x (by omega)) hb hd) ?_
   unfold uO
   by_cases c:(pP (l.getD x 0) d).2.2=0
   ·rw [if_pos c]
    exact cY c (cY (by omega) (ih (x+1) _ (by omega) (by simp;omega)))
   ·rw [if_neg c]
    exact lV c (oK rfl)
 exact loop l.length 0 [] (by omega) (Nat.le_refl _)
end Go.Proofs.YthmfdplckdijdaaGreat.uF
end
section
namespace Go.Proofs.YthmfdplckdijdaaGreat.JL
open Dt
def hi (n:Nat) (w:Nat→Int):Nat→Int:=fun j=>w (2 ^ n+j)
def nx (v:Nat→Int):Nat→Int:=fun j=>v (j+1)
def r8:Nat→(Nat→Int)→(Nat→Int)→Nat→Int
 | 0,_,_=>fun _=>0
 | n+1,v,w=>fun i=>if i < 2 ^ n then r8 n (nx v) w i else v 0*w (i - 2 ^ n) - r8 n (nx v) (hi n w) (i - 2 ^ n)
def vA:Nat→(Nat→Int)→(Nat→Int)→Nat→Int
 | 0,_,_=>fun _=>0
 | n+1,v,w=>fun i=>if i < 2 ^ n then vA n (nx v) w i+v 0*w (2 ^ n+i) else - vA n (nx v) (hi n w) (i - 2 ^ n)
def ip (n:Nat) (w z:Nat→Int):Int:=sm (2 ^ n) (fun i=>w i*z i)
def qq (n:Nat) (v:Nat→Int):Int:=sm n (fun i=>v i*v i)
theorem DZ {n i:Nat} (v w:Nat→Int) (h:i < 2 ^ n):r8 (n+1) v w i=r8 n (nx v) w i:=if_pos h
theorem D1 (n i:Nat) (v w:Nat→Int):r8 (n+1) v w (2 ^ n+i)=v 0*w i - r8 n (nx v) (hi n w) i:=by
 show (if _ then _ else _)=_
 rw [if_neg (by omega),Nat.add_sub_cancel_left]
theorem abx {n i:Nat} (v w:Nat→Int) (h:i < 2 ^ n):vA (n+1) v w i=vA n (nx v) w i+v 0*w (2 ^ n+i):=if_pos h
theorem aby (n i:Nat) (v w:Nat→Int):vA (n+1) v w (2 ^ n+i)= - vA n (nx v) (hi n w) i:=by
 show (if _ then _ else _)=_
 rw [if_neg (by omega),Nat.add_sub_cancel_left]
theorem Vn (n:Nat) (w z:Nat→Int):ip (n+1) w z=ip n w z+ip n (hi n w) (hi n z):=by
 unfold ip;rw [Nat.pow_succ,Nat.mul_two,DJ];rfl
theorem y6 {n:Nat} {w w' z z':Nat→Int} (h: ∀i,i < 2 ^ n→w i=w' i∧z i=z' i):ip n w z=ip n w' z':=nE (fun i hi=>by rw [(h i hi).1,(h i hi).2])
theorem DB (n:Nat) (w z:Nat→Int):ip n w z=ip n z w:=nE (fun _ _=>Int.mul_comm _ _)
theorem FA (n:Nat) (c d:Int) (a b z:Nat→Int):ip n (fun i=>c*a i+d*b i) z=c*ip n a z+d*ip n b z:=by
 unfold ip
 rw [← sZ, ← sZ, ← Ci]
 exact nE (fun i _=>by grind)
theorem abw (n:Nat) (v w z:Nat→Int):ip (n+1) (r8 (n+1) v w) z=ip n (r8 n (nx v) w) z+(v 0*ip n w (hi n z) - ip n (r8 n (nx v) (hi n w)) (hi n z)):=by
 rw [Vn,y6 (w:=r8 (n+1) v w) (w':=r8 n (nx v) w) (z:=z) (z':=z) (fun i hi=>⟨DZ v w hi,rfl⟩),
  y6 (w:=hi n (r8 (n+1) v w)) (w':=fun i=>v 0*w i+ -1*r8 n (nx v) (hi n w) i) (z:=hi n z) (z':=hi n z) (fun i _=>⟨by show r8 (n+1) v w (2 ^ n+i)=_;rw [D1];omega,rfl⟩),FA]
 omega
theorem abv (n:Nat) (v w z:Nat→Int):ip (n+1) (vA (n+1) v w) z=ip n (vA n (nx v) w) z+v 0*ip n (hi n w) z - ip n (vA n (nx v) (hi n w)) (hi n z):=by
 rw [Vn,y6 (w:=vA (n+1) v w) (w':=fun i=>1*vA n (nx v) w i+v 0*hi n w i) (z:=z) (z':=z) (fun i hi=>⟨by rw [abx v w hi,Int.one_mul];rfl,rfl⟩),
  y6 (w:=hi n (vA (n+1) v w)) (w':=fun i=>0*w i+ -1*vA n (nx v) (hi n w) i) (z:=hi n z) (z':=hi n z) (fun i _=>⟨by show vA (n+1) v w (2 ^ n+i)=_;rw [aby];omega,rfl⟩),FA,FA]
 omega
theorem adj (n:Nat): ∀(v w z:Nat→Int),ip n (r8 n v w) z=ip n (vA n v z) w:=by
 induction n with
 | zero=>intro v w z;simp [ip,r8,vA,sm]
 | succ n ih=>
  intro v w z
  rw [abw,abv,ih (nx v) w z,ih (nx v) (hi n w) (hi n z),DB n w (hi n z)]
  omega
theorem akV (n:Nat): ∀(v w:Nat→Int),ip n (r8 n v w) (r8 n v w)+ip n (vA n v w) (vA n v w)=qq n v*ip n w w:=by
 induction n with
 | zero=>intro v w;simp [ip,r8,vA,sm,qq]
 | succ n ih=>
  intro v w
  have q1:qq (n+1) v=v 0*v 0+qq n (nx v):=by unfold qq;rw [Bu];rfl
  have h1:=ih (nx v) w
  have h2:=ih (nx v) (hi n w)
  have e1:ip n (r8 n (nx v) w) (r8 (n+1) v w)=ip n (r8 n (nx v) w) (r8 n (nx v) w):=y6 (fun _ hi=>⟨rfl,DZ v w hi⟩)
  have e2: ∀z,ip n z (hi n (r8 (n+1) v w))=v 0*ip n w z - ip n (r8 n (nx v) (hi n w)) z:=fun z=>by
   rw [DB,y6 (w:=hi n (r8 (n+1) v w)) (w':=fun i=>v 0*w i+ -1*r8 n (nx v) (hi n w) i) (z:=z) (z':=z) (fun i _=>⟨by show r8 (n+1) v w (2 ^ n+i)=_;rw [D1];omega,rfl⟩),FA]
   omega
  have f1: ∀z,ip n z (vA (n+1) v w)=ip n (vA n (nx v) w) z+v 0*ip n (hi n w) z:=fun z=>by
   rw [DB,y6 (w:=vA (n+1) v w) (w':=fun i=>1*vA n (nx v) w i+v 0*hi n w i) (z:=z) (z':=z) (fun i hi=>⟨by rw [abx v w hi,Int.one_mul];rfl,rfl⟩),FA]
   omega
  have f2: ∀z,ip n z (hi n (vA (n+1) v w))= - ip n (vA n (nx v) (hi n w)) z:=fun z=>by
   rw [DB,y6 (w:=hi n (vA (n+1) v w)) (w':=fun i=>0*w i+ -1*vA n (nx v) (hi n w) i) (z:=z) (z':=z) (fun i _=>⟨by show vA (n+1) v w (2 ^ n+i)=_;rw [aby];omega,rfl⟩),FA]
   omega
  have a1:ip n (r8 n (nx v) (hi n w)) w=ip n (vA n (nx v) w) (hi n w):=adj n _ _ _
  rw [abw,abv,e1,e2,e2,f1,f1,f2,Vn,q1]
  have c1:=DB n w (r8 n (nx v) (hi n w))
  have c2:=DB n (hi n w) (vA n (nx v) w)
  grind
theorem Ja (x:Int):0≤x*x:=by
 rcases Int.le_total 0 x with h | h
 ·exact Int.mul_nonneg h h
 ·exact Int.mul_nonneg_of_nonpos_of_nonpos h h
theorem OX {m:Nat} {f:Nat→Int} (h: ∀i,0≤f i):0≤sm m f∧ ∀i,i < m→f i≤sm m f:=by
 induction m with
 | zero=>exact⟨Int.le_refl _,fun i hi=>absurd hi (by omega)⟩
 | succ m ih=>
  have e:sm (m+1) f=sm m f+f m:=rfl
  have h2:=h m
  refine⟨by omega,fun i hi=>?_⟩
  by_cases c:i=m
  ·subst c;omega
  ·have:=ih.2 i (by omega)
   omega
def wd (n:Nat):Nat→(Nat→Nat→Int)→Nat→Int
 | 0,_=>fun i=>if i=0 then 1 else 0
 | m+1,C=>r8 n (C 0) (wd n m (fun j=>C (j+1)))
def pr (f:Nat→Int):Nat→Int
 | 0=>1
 | m+1=>f 0*pr (fun j=>f (j+1)) m
theorem Rz {n:Nat}: ∀ {v w w':Nat→Int},(∀i,i < 2 ^ n→w i=w' i)→ ∀i,i < 2 ^ n→r8 n v w i=r8 n v w' i:=by
 induction n with
 | zero=>intro v w w' _ i _;rfl
 | succ n ih=>
  intro v w w' h i hi
  rw [Nat.pow_succ,Nat.mul_two] at hi h
  by_cases c:i < 2 ^ n
  ·rw [DZ v w c,DZ v w' c]
   exact ih (fun j hj=>h j (by omega)) i c
  ·obtain⟨j,rfl⟩: ∃j,i=2 ^ n+j:=⟨i - 2 ^ n,by omega⟩
   rw [D1,D1,h j (by omega),ih (w:=JL.hi n w) (w':=JL.hi n w') (fun k hk=>h (2 ^ n+k) (by omega)) j (by omega)]
theorem ahD {n m:Nat} (c:Nat→Int): ∀(v:Nat→Int) (w:Nat→Nat→Int) (i:Nat),r8 n v (fun i=>sm m (fun k=>c k*w k i)) i=sm m (fun k=>c k*r8 n v (w k) i):=by
 induction n with
 | zero=>intro v w i;exact(Dz (fun k _=>Int.mul_zero _)).symm
 | succ n ih=>
  intro v w i
  by_cases d:i < 2 ^ n
  ·rw [DZ _ _ d,ih]
   exact nE (fun k _=>by rw [DZ _ _ d])
  ·obtain⟨j,rfl⟩: ∃j,i=2 ^ n+j:=⟨i - 2 ^ n,by omega⟩
   rw [D1]
   have e:=ih (nx v) (fun k=>hi n (w k)) j
   have e2:r8 n (nx v) (hi n (fun i=>sm m (fun k=>c k*w k i))) j=sm m (fun k=>c k*r8 n (nx v) (hi n (w k)) j):=e
   rw [e2,nE (f:=fun k=>c k*r8 (n+1) v (w k) (2 ^ n+j)) (g:=fun k=>v 0*(c k*w k j)+ -1*(c k*r8 n (nx v) (hi n (w k)) j)) (fun k _=>by rw [D1];grind),Ci,sZ,sZ]
   omega
theorem akH {n m:Nat}: ∀ {C:Nat→Nat→Int} {i:Nat},i < 2 ^ n→wd (n+1) m C i=wd n m (fun j=>nx (C j)) i:=by
 induction m with
 | zero=>intro C i _;rfl
 | succ m ih=>
  intro C i h
  show r8 (n+1) (C 0) (wd (n+1) m (fun j=>C (j+1))) i=r8 n (nx (C 0)) (wd n m (fun j=>nx (C (j+1)))) i
  rw [DZ _ _ h]
  exact Rz (fun j hj=>ih hj) i h
theorem akI {n m:Nat}: ∀ {C:Nat→Nat→Int} {i:Nat},i < 2 ^ n→wd (n+1) m C (2 ^ n+i)=sm m (fun k=>(sg k*C k 0)*wd n (m - 1) (fun j=>nx (C (up k j))) i):=by
 induction m with
 | zero=>
  intro C i h
  show (if 2 ^ n+i=0 then(1:Int) else 0)=0
  rw [if_neg (by omega)]
 | succ m ih=>
  intro C i h
  show r8 (n+1) (C 0) (wd (n+1) m (fun j=>C (j+1))) (2 ^ n+i)=_
  rw [D1,akH h,Bu]
  rw [Rz (w:=hi n (wd (n+1) m (fun j=>C (j+1)))) (w':=fun i=>sm m (fun k=>(sg k*C (k+1) 0)*wd n (m - 1) (fun j=>nx (C (up k j+1))) i)) (fun j hj=>ih hj) i h,ahD]
  have e0:(fun j=>nx (C (up 0 j)))=fun j=>nx (C (j+1)):=by
   funext j;unfold up;rw [if_neg (by omega)]
  have es:sm m (fun k=>sg (k+1)*C (k+1) 0*wd n (m+1 - 1) (fun j=>nx (C (up (k+1) j))) i)=sm m (fun k=> -1*(sg k*C (k+1) 0*r8 n (nx (C 0)) (wd n (m - 1) (fun j=>nx (C (up k j+1)))) i)):=by
   refine nE (fun k hk=>?_)
   obtain⟨p,rfl⟩: ∃p,m=p+1:=⟨m - 1,by omega⟩
   have e1:wd n (p+1+1 - 1) (fun j=>nx (C (up (k+1) j)))=r8 n (nx (C 0)) (wd n (p+1 - 1) (fun j=>nx (C (up k j+1)))):=by
    show r8 n (nx (C (up (k+1) 0))) (wd n p (fun j=>nx (C (up (k+1) (j+1)))))=r8 n (nx (C 0)) (wd n p (fun j=>nx (C (up k j+1))))
    have:up (k+1) 0=0:=by unfold up;rw [if_pos (by omega)]
    have h2: ∀j,up (k+1) (j+1)=up k j+1:=fun j=>by unfold up;split <;> split <;> omega
    rw [this]
    simp only [h2]
   rw [e1,Fu]
   grind
  rw [es,sZ,e0]
  have:sg 0=1:=rfl
  rw [this]
  show C 0 0*wd n m (fun j=>nx (C (j+1))) i - _=1*C 0 0*wd n m (fun j=>nx (C (j+1))) i+_
  rw [Int.one_mul]
  omega
theorem agI: ∀(n:Nat) (C:Nat→Nat→Int),wd n n C (2 ^ n - 1)=lY n (fun i j=>C j i):=by
 intro n
 induction n with
 | zero=>intro C;rfl
 | succ n ih=>
  intro C
  have h:=Nat.pow_pos (n:=n) (show 0 < 2 by omega)
  have e:2 ^ (n+1) - 1=2 ^ n+(2 ^ n - 1):=by rw [Nat.pow_succ];omega
  rw [e,akI (by omega),z9]
  refine nE (fun k _=>?_)
  rw [show n+1 - 1=n from rfl,ih,Int.mul_assoc]
  rfl
theorem akS {f:Nat→Int} (h: ∀i,0≤f i): ∀m,0≤pr f m:=by
 intro m
 induction m generalizing f with
 | zero=>exact(by decide:(0:Int)≤1)
 | succ m ih=>exact Int.mul_nonneg (h 0) (ih (fun i=>h (i+1)))
theorem agF (n:Nat): ∀(m:Nat) (C:Nat→Nat→Int),ip n (wd n m C) (wd n m C)≤pr (fun j=>qq n (C j)) m:=by
 intro m
 induction m with
 | zero=>
  intro C
  have h:=Nat.pow_pos (n:=n) (show 0 < 2 by omega)
  show sm (2 ^ n) (fun i=>(if i=0 then(1:Int) else 0)*(if i=0 then 1 else 0))≤1
  rw [tG (k:=0) h (fun i _ hi=>by rw [if_neg hi];rfl)]
  decide
 | succ m ih=>
  intro C
  have h1:=akV n (C 0) (wd n m (fun j=>C (j+1)))
  have h2:0≤ip n (vA n (C 0) (wd n m (fun j=>C (j+1)))) (vA n (C 0) (wd n m (fun j=>C (j+1)))):=(OX (fun i=>Ja _)).1
  have h3:0≤qq n (C 0):=(OX (fun i=>Ja _)).1
  have h4:=Int.mul_le_mul_of_nonneg_left (ih (fun j=>C (j+1))) h3
  show ip n (r8 n (C 0) (wd n m (fun j=>C (j+1)))) (r8 n (C 0) (wd n m (fun j=>C (j+1))))≤qq n (C 0)*pr (fun j=>qq n (C (j+1))) m
  omega
theorem VD (n:Nat) (A:lE):lY n A*lY n A≤pr (fun j=>qq n (fun i=>A i j)) n:=by
 have h:=Nat.pow_pos (n:=n) (show 0 < 2 by omega)
 have e:=agI n (fun j i=>A i j)
 have h1:wd n n (fun j i=>A i j) (2 ^ n - 1)*wd n n (fun j i=>A i j) (2 ^ n - 1)≤ip n (wd n n (fun j i=>A i j)) (wd n n (fun j i=>A i j)):=(OX (f:=fun i=>wd n n (fun j i=>A i j) i*wd n n (fun j i=>A i j) i) (fun i=>Ja _)).2 _ (by omega)
 rw [e] at h1
 exact Int.le_trans h1 (agF n n _)
end Go.Proofs.YthmfdplckdijdaaGreat.JL
end
section
namespace Go.Proofs.YthmfdplckdijdaaGreat.JL
open Go.RowKit Wz.cw Ma Pr Dt Lk Lt Fr
theorem ZT: ∀ {m:Nat} {f g:Nat→Int},(∀j,0≤f j)→(∀j,j < m→f j≤g j)→pr f m≤pr g m:=by
 intro m
 induction m with
 | zero=>intro f g _ _;exact Int.le_refl _
 | succ m ih=>
  intro f g h0 h
  have h1:=h 0 (by omega)
  exact Int.mul_le_mul h1 (ih (fun j=>h0 (j+1)) (fun j hj=>h (j+1) (by omega))) (akS (fun j=>h0 (j+1)) m) (Int.le_trans (h0 0) h1)
theorem aa7 (n i:Nat) (hn:n≤5):pr (fun j=>if j=i then 50000 else 2000) n≤800000000000000000:=by
 have h: ∀n,n < 6→ ∀i,i < 6→pr (fun j=>if j=i then 50000 else 2000) n≤800000000000000000:=by decide
 by_cases c:i < 6
 ·exact h n (by omega) i c
 ·refine Int.le_trans (ZT (g:=fun j=>if j=5 then 50000 else 2000) (fun j=>by split <;> decide) (fun j hj=>?_)) (h n (by omega) 5 (by omega))
  show (if j=i then(50000:Int) else 2000)≤if j=5 then 50000 else 2000
  rw [if_neg (by omega)]
  split <;> decide
theorem ZN {n k:Nat} (hn:n≤5) {v:Nat→Int} (h: ∀i,i < n→(v i).natAbs≤k):qq n v≤5*((k:Int)*k):=by
 have sqk: ∀i,i < n→v i*v i≤(k:Int)*k:=fun i hi=>by
  have h1:=h i hi
  have h2:(v i).natAbs*(v i).natAbs≤k*k:=Nat.mul_le_mul h1 h1
  have h3:v i*v i=(((v i).natAbs*(v i).natAbs:Nat):Int):=Int.natAbs_mul_self.symm
  rw [h3]
  exact_mod_cast h2
 have hk:0≤(k:Int)*k:=Ja _
 have: ∀m,m≤n→qq m v≤(m:Int)*((k:Int)*k):=by
  intro m
  induction m with
  | zero=>intro _;show (0:Int)≤_;rw [Int.natCast_zero,Int.zero_mul];exact Int.le_refl _
  | succ m ih=>
   intro hm
   have h1:=ih (by omega)
   have h2:=sqk m (by omega)
   have e:qq (m+1) v=qq m v+v m*v m:=rfl
   rw [e,Int.natCast_succ,Int.add_mul,Int.one_mul]
   omega
 have h1:=this n (Nat.le_refl _)
 exact Int.le_trans h1 (Int.mul_le_mul_of_nonneg_right (by omega) hk)
theorem root {x:Int} (h:x*x≤800000000000000000): -894427191≤x∧x≤894427191:=by
 constructor
 ·apply Classical.byContradiction
  intro c
  have h2:894427192*894427192≤(-x)*(-x):=Int.mul_le_mul (by omega) (by omega) (by omega) (by omega)
  rw [Int.neg_mul_neg] at h2
  omega
 ·apply Classical.byContradiction
  intro c
  have h2:894427192*894427192≤x*x:=Int.mul_le_mul (by omega) (by omega) (by omega) (by omega)
  omega
theorem ahL {n m:Nat} (hn:n≤5) {A:lE} (hA:Small n m A) {bs:Nat→Nat} (hb: ∀j,j < n→bs j+1 < m) {i c:Nat} (hc:c < m): -894427191≤cd n A bs i c∧cd n A bs i c≤894427191:=by
 apply root
 refine Int.le_trans (VD n _) (Int.le_trans (ZT (g:=fun j=>if j=i then 50000 else 2000) (fun j=>(OX (fun _=>Ja _)).1) (fun j hj=>?_)) (aa7 n i hn))
 show qq n (fun k=>ot i (fun k=>A k c) (yq A bs) k j)≤if j=i then 50000 else 2000
 by_cases e:j=i
 ·rw [if_pos e]
  refine ZN (k:=100) hn (fun a ha=>?_)
  show (ot i (fun k=>A k c) (yq A bs) a j).natAbs≤100
  unfold ot
  rw [if_pos e]
  show (A a c).natAbs≤100
  have:=hA a c ha hc
  split at this <;> omega
 ·rw [if_neg e]
  refine ZN (k:=20) hn (fun a ha=>?_)
  show (ot i (fun k=>A k c) (yq A bs) a j).natAbs≤20
  unfold ot
  rw [if_neg e]
  have:=hA a (bs j) ha (by have:=hb j hj;omega)
  rw [if_neg (by have:=hb j hj;omega)] at this
  exact this
section
variable {n m:Nat} (hn:n≤5) {A:lE} (hA:Small n m A) {s:TS} (h:Ok n m A s)
include hn hA h
theorem ag2 {i c:Nat} (hi:i < n) (hc:c < m): -894427191≤s.T i c∧s.T i c≤894427191:=by
 obtain⟨q,hq,_,hT⟩:=h.tab.num
 have:=ahL hn hA h.lt (i:=i) hc
 rw [hT i c hi hc]
 rcases hq with rfl | rfl <;> omega
theorem abh:0 < s.den∧s.den≤894427191:=by
 obtain⟨q,hq,hd,_⟩:=h.tab.num
 refine⟨h.tab.pos,?_⟩
 have: -894427191≤lY n (yq A (fun j=>(s.bs.getD j 0).toNat))∧lY n (yq A (fun j=>(s.bs.getD j 0).toNat))≤894427191:=by
  apply root
  refine Int.le_trans (VD n _) (Int.le_trans (ZT (g:=fun j=>if j=n then 50000 else 2000) (fun j=>(OX (fun _=>Ja _)).1) (fun j hj=>?_)) (aa7 n n hn))
  show qq n (fun k=>A k (s.bs.getD j 0).toNat)≤if j=n then 50000 else 2000
  rw [if_neg (by omega)]
  refine ZN (k:=20) hn (fun a ha=>?_)
  have:=hA a (s.bs.getD j 0).toNat ha (by have:=h.lt j hj;omega)
  rw [if_neg (by have:=h.lt j hj;omega)] at this
  exact this
 rcases hq with rfl | rfl <;> omega
end
theorem Yh {a d:Int} (ha: -894427191≤a∧a≤894427191) (hd:0 < d∧d≤894427191):(pP a d).2.2=0:=by
 have hg:=Cu (a:=a) hd.1
 have e1:gc a d ∣ a:=by unfold gc;exact Int.gcd_dvd_left ..
 have e2:gc a d ∣ d:=by unfold gc;exact Int.gcd_dvd_right ..
 obtain⟨x,hx⟩:=e1
 obtain⟨y,hy⟩:=e2
 have hgd:gc a d=(Int.gcd a d:Int):=rfl
 have big: ∀g z:Int,0 < g→(z≤g*z∧0≤z)∨(g*z≤z∧z < 0):=fun g z h=>by
  rcases Int.lt_or_le z 0 with c | c
  ·have:=Int.mul_le_mul_of_nonpos_right (show 1≤g by omega) (show z≤0 by omega)
   rw [Int.one_mul] at this
   exact .inr ⟨this,c⟩
  ·have:=Int.mul_le_mul_of_nonneg_right (show 1≤g by omega) c
   rw [Int.one_mul] at this
   exact .inl ⟨this,c⟩
 unfold pP fV
 generalize gc a d=g at hg hx hy hgd
 have t1:Int.tdiv a g=x:=by rw [hx,Int.mul_tdiv_cancel_left _ (by omega)]
 have t2:Int.tdiv d g=y:=by rw [hy,Int.mul_tdiv_cancel_left _ (by omega)]
 have hy0:0 < y:=by
  apply Classical.byContradiction
  intro c
  have:=Int.mul_nonpos_of_nonneg_of_nonpos (show 0≤g by omega) (show y≤0 by omega)
  omega
 have by1:=big g y hg
 have bx:=big g x hg
 have hc:gc x y=1:=by
  rw [hx,hy,Int.gcd_mul_left,Int.natCast_mul,Int.natAbs_of_nonneg (by omega)] at hgd
  have h2:g*((Int.gcd x y:Int))=g*1:=by omega
  exact Int.eq_of_mul_eq_mul_left (by omega) h2
 rw [t1,t2,nH (x:=x) (by omega) (by omega),nH (x:=y) (by omega) (by omega)]
 unfold xM
 have:AW 1000000000 (x,y).1 (x,y).2=true:=by
  unfold AW
  simp only [Bool.and_eq_true,decide_eq_true_eq,beq_iff_eq]
  exact⟨⟨by omega,by omega⟩,⟨by omega,by omega⟩,hc⟩
 rw [if_pos this]
end Go.Proofs.YthmfdplckdijdaaGreat.JL
end
section
namespace Go.Proofs.YthmfdplckdijdaaGreat.uF
open Go.RowKit Wz.cw Wz.cX Ma Pr Dt Lk Lt Lq Fr
theorem Yk {f:Nat→Int × Int × Int}: ∀(q x:Nat) (acc:List mh),(∀y,x≤y→y < x+q→(f y).2.2=0)→uO f q x acc=(acc++(List.range' x q).map (fun y=>⟨(f y).1,(f y).2.1⟩),0):=by
 intro q
 induction q with
 | zero=>intro x acc _;simp [uO]
 | succ q ih=>
  intro x acc h
  unfold uO
  rw [if_pos (h x (Nat.le_refl _) (by omega)),ih (x+1) _ (fun y h1 h2=>h y (by omega) (by omega)),List.range'_succ,List.map_cons,List.append_assoc]
  rfl
def Rk (s:TS) (n:Nat):List mh:=(List.range' 0 n).map (fun i=>⟨(pP (s.T i (2*n+1)) s.den).1,(pP (s.T i (2*n+1)) s.den).2.1⟩)
theorem agR (s:TS) (n:Nat):(Rk s n).length=n:=by simp [Rk]
section
variable {M:List (List Int)} {Q cv:List Int} (h:PC M Q cv Q.length)
include h
theorem UY (k:Nat) {i:Nat} (hi:i < Q.length) {c:Nat} (hc:c < 2*Q.length+2):(pP ((nI M Q cv k).1.T i c) (nI M Q cv k).1.den).2.2=0:=by
 have hA:=pY (n:=Q.length) (M:=m9 M) (cv:=fun i=>cv.getD i 0) (q:=fun i=>Q.getD i 0) h.Mb (fun i hi=>by have:=h.cb i hi;omega) h.qb
 have hok:=(xY h k).1
 exact JL.Yh (JL.ag2 h.le hA hok hi hc) (JL.abh h.le hA hok)
theorem ZK (k:Nat):uO (fun i=>pP ((nI M Q cv k).1.T i (2*Q.length+1)) (nI M Q cv k).1.den) Q.length 0 []=(Rk (nI M Q cv k).1 Q.length,0):=
 Yk Q.length 0 [] (fun y _ hy=>UY h k (by omega) (by omega))
end
theorem agW {a d:Int} (ha:0≤a) (ha2:a≤4611686018427387904) (hd:0 < d):0≤(pP a d).1:=by
 have hg:=Cu (a:=a) hd
 have h2:=Int.tdiv_nonneg ha (Int.le_of_lt hg)
 have h3:Int.tdiv a (gc a d)≤a:=Int.tdiv_le_self _ ha
 unfold pP xM fV
 split
 ·show 0≤wrap64 (Int.tdiv a (gc a d))
  rw [nH (by omega) (by omega)]
  exact h2
 ·exact Int.le_refl _
end Go.Proofs.YthmfdplckdijdaaGreat.uF
end
section
namespace Go.Proofs.YthmfdplckdijdaaGreat.uF
open Go.RowKit Wz.cw Wz.fX Wz.cX Ma Dt Lk Lt Lq
def wz (s:TS) (n:Nat):Nat→List Int
 | 0=>List.replicate (2*n) 0
 | i+1=>if s.bs.getD i 0 < 2*(n:Int) then(wz s n i).set (s.bs.getD i 0).toNat (s.T i (2*n+1)) else wz s n i
theorem vL (s:TS) (n:Nat): ∀i,(wz s n i).length=2*n
 | 0=>by simp [wz]
 | i+1=>by unfold wz;split <;> simp [vL s n i]
end Go.Proofs.YthmfdplckdijdaaGreat.uF
namespace Go.Proofs.YthmfdplckdijdaaGreat.Pr
open Go.RowKit Wz.cw Wz.fX Wz.cX Ma Dt Lk Lt Lq uF
theorem UK {w:World} {lo hi t g gb n cg cb:Nat} {b cp:Nat→Nat} {s:TS} (h:Tm w lo hi t g gb n (2*n+2) cg cb b cp s) (hn:n≤5) (hn0:0 < n) (hnn: ∀i,i < n→0≤s.bs.getD i 0):
  Calls Tryz.prog 63 #[.pointer (some ⟨t,0,none⟩)] w fun e w'=> ∃g8 c8,e= .returned (.slice (some ⟨g8,0,none⟩) (2*n) c8)∧Kd.R (Kd.int .i64) 2 w' w.heap.size (fun _=>True) (.slice (some ⟨g8,0,none⟩) (2*n) c8) (wz s n n)∧Below w.heap.size w w':=by
 have HT:=q_ h;have HN:=q_ hn;have uq:=q_ hn0;have HNN:=q_ hnn;have hq3:=h.h3;have hw:wrap64 (2*(n:Int))=((2*n:Nat):Int):=by rw [nH (by omega) (by omega)];omega
 have HW:=q_ hw;have HB:=q_ (Below.refl w.heap.size w);have Bj:=q_ (Nat.le_refl w.heap.size);clear h hn hn0 hnn hw
 go_enter Tryz.func63,Tryz.ntmps63
 go_wp2_with (first | ((with_reducible refine dg (N:=11) rfl ?_);refine Kd.Ge (Kd.int .i64) (w0:=w) w.heap.size 2 rfl (N:=11) rfl 24 _ _ rfl (wrap64 (2*(n:Int))) rfl rfl Tryz.underlying24 (.int .i64 0) 8 q6 rfl (by decide) (by omega) 0 (ok:=fun _=>True) (oC:=fun _=>True) rfl (fun _ hk=>hk) trivial (by rw [HW.out];omega) (by have:=HN.out;rw [HW.out];omega) (Below.refl _ _) (Nat.le_refl _) ?_;intro v8 w4 ho hb hg_ om;rw [HW.out,Int.toNat_natCast] at ho;have HR:=q_ ho;replace HB:=q_ hb;replace Bj:=q_ hb.size;clear ho hb hg_ om hq3;obtain⟨g8,c8,hv8,hb8,hl8,abV,hc8⟩:=Kd.rX HR.out (by simp;exact uq.out);rw [List.length_replicate] at hv8;subst hv8;have HG8:=q_ hb8;have hq2:=(HT.out.tT HB.out).h2;clear hb8 hl8 hc8))
 clear hq2;have qE:aE (Kd.R (Kd.int .i64) 2 w4 w.heap.size (fun _=>True) (.slice (some ⟨g8,0,none⟩) (2*n) c8) (wz s n 0)):=HR;clear HR
 go_loopg [17] n (fun gg v17 wr=> ∃(i:Nat),i≤n∧n - i≤gg∧v17= .int .i64 (i:Int)∧aE (Kd.R (Kd.int .i64) 2 wr w.heap.size (fun _=>True) (.slice (some ⟨g8,0,none⟩) (2*n) c8) (wz s n i))∧aE (Below w.heap.size w wr)∧aE (w.heap.size≤wr.heap.size))
 case atStart=>exact⟨0,Nat.zero_le _,by omega,rfl,qE,HB,Bj⟩
 case round=>
  clear qE HB Bj;obtain⟨i,hi',hg,rfl,HR,HB,Bj⟩:=hrel;have HG:=q_ hg
  by_cases hlt:i < n
  ·have pZ:(i:Int) < (n:Int):=by omega
   have h0z:(0:Int)≤(i:Int):=by omega
   have hwi:IntKind.i64.wrap ((i:Int)+1)=((i+1:Nat):Int):=by rw [IntWalk.i64_in _ (by have:=HN.out;omega)];rfl
   have Bh:=q_ hwi;have mG:=q_ hlt;obtain⟨l,hl⟩: ∃l:Nat,s.bs.getD i 0=(l:Int):=⟨(s.bs.getD i 0).toNat,by have:=HNN.out i hlt;omega⟩
   have HLL:=q_ hl;have u5:=q_ (HT.out.tT HB.out);have hcb:=(u5.out.oq i hlt).1;rw [hl] at hcb;have hcn:=u5.out.h3;have hw2:IntKind.i64.wrap (2*(n:Int))=((2*n:Nat):Int):=by rw [IntWalk.i64_in _ (by have:=HN.out;omega)];omega
   clear hi' hg hlt hl u5
   by_cases hc:l < 2*n
   ·have hcz:(l:Int) < ((2*n:Nat):Int):=by omega
    have xg:(l:Int) < 2*(n:Int):=by omega
    have h0l:(0:Int)≤(l:Int):=by omega
    have HC:=q_ hc;clear hc
    go_wp2_with fail
    refine(JA (HT.out.tT HB.out) i mG.out (by omega) (by have:=HN.out;omega)).mono ?_
    rintro e w7 ⟨rfl,hb⟩;replace HR:=q_ (Kd.oQ HR.out hb);replace HB:=q_ (eE HB.out hb);replace Bj:=q_ (Nat.le_trans Bj.out hb.size);obtain⟨x,hx⟩: ∃x,s.T i (2*n+2 - 1)=x:=⟨_,rfl⟩
    rw [hx];have HX:=q_ hx;have hat:=Kd.tW 0 HR.out (l:Int) (by omega) (by have:=HC.out;omega);rw [Int.toNat_natCast] at hat;have hcell:=hat.1;have hfr:=hat.2;clear hb hx hat hcb hcn;go_wp2
    have hput:=Kd.zl HR.out (l:Int) x;rw [Int.toNat_natCast] at hput
    go_roundg (n - (i+1))
    case measure=>have:=HG.out;have:=mG.out;omega
    case rel=>
     refine⟨i+1,mG.out,by omega,by first | rfl | (rw [Bh.out]) | (simp [Bh.out]),?_,⟨HB.out.setCell HG8.out _⟩,⟨(HB.out.setCell (p:=⟨g8,l,none⟩) HG8.out (.int .i64 x)).size⟩⟩
     show aE (Kd.R _ _ _ _ _ _ (if s.bs.getD i 0 < 2*(n:Int) then(wz s n i).set (s.bs.getD i 0).toNat (s.T i (2*n+1)) else wz s n i))
     rw [if_pos (by rw [HLL.out];have:=HC.out;omega),HLL.out,Int.toNat_natCast,show s.T i (2*n+1)=x from HX.out];exact⟨hput.1⟩
   ·have hcz: ¬ (l:Int) < ((2*n:Nat):Int):=by omega
    have xg: ¬ (l:Int) < 2*(n:Int):=by omega
    have HC:=q_ hc;clear hc;go_wp2
    go_roundg (n - (i+1))
    case measure=>have:=HG.out;have:=mG.out;omega
    case rel=>
     refine⟨i+1,mG.out,by omega,by first | rfl | (rw [Bh.out]) | (simp [Bh.out]),?_,HB,Bj⟩
     show aE (Kd.R _ _ _ _ _ _ (if s.bs.getD i 0 < 2*(n:Int) then _ else _))
     rw [if_neg (by rw [HLL.out];have:=HC.out;omega)];exact HR
  ·have pZ: ¬ (i:Int) < (n:Int):=by omega
   obtain rfl:n=i:=by omega
   clear hi' hg hlt;go_wp2
   go_ret
   exact⟨_,_,rfl,HR.out,HB.out⟩
def Rq (k:Nat) (R:TS × List (List Int) × Bool × Int × Int) (n:Nat) (c:Int):Option (List mh × Int):=if c=0 then(if R.2.2.2.2=0 then(if R.2.2.1=true then ow.f k ((wz R.1 n n).drop n) R.1.den else some ([],4)) else some ([],R.2.2.2.2)) else some ([],c)
def pW.f (k:Nat) (ae:List (List Int)) (aa l1:List Int):Option (List mh × Int):=Rq k (nI ae aa l1 201) aa.length (pV ae aa l1)
theorem pW.calls (k:Nat) (af:Option Addr) (ag:Nat) (ae:List (List Int)) (ah:Option Addr) (ai:Nat) (aa:List Int) (A1:Option Addr) (c1:Nat) (l1:List Int) (r1:List (mh)) (r2:Int) (w:World) (aj:Kd.C (Kd.slice 2 (Kd.int .i64)) w af ae.length ae) (ak:ae.length≤ag) (aq:Kd.C (Kd.int .i64) w ah aa.length aa) (au:aa.length≤ai) (hr1:Kd.C (Kd.int .i64) w A1 l1.length l1) (hc1:l1.length≤c1) (h:pW.f k ae aa l1=some (r1,r2)):
  Calls Tryz.prog 22 #[.agg #[.slice af ae.length ag, .slice ah aa.length ai], .slice A1 l1.length c1] w fun e w'=> ∃qg:Value,e= .returned (.tuple #[qg, .int .i64 r2])∧Kd.R rU 58 w' w.heap.size (fun _=>True) qg r1∧Below w.heap.size w w':=by
 unfold pW.f at h;have HB:=q_ (Below.refl w.heap.size w);have hcall:=fun W (hb:Below w.heap.size w W)=>Fa af ag ae ah ai aa A1 c1 l1 W (Kd.nW aj hb) ak (Kd.nW aq hb) au (Kd.nW hr1 hb) hc1
 have HL:=q_ hcall;have hok:pV ae aa l1=0→(aa.length≤5∧0 < aa.length)∧_:=fun h0=>⟨⟨(rM h0).le,(rM h0).pos⟩,xY (rM h0) 201⟩
 have xD:=q_ hok;clear hcall hok aj ak aq au hr1 hc1
 generalize nD aa.length (m9 ae) (fun i=>l1.getD i 0) (fun i=>aa.getD i 0)=A at xD
 obtain⟨R,hR⟩: ∃R,nI ae aa l1 201=R:=⟨_,rfl⟩
 rw [hR] at h HL xD;clear hR;obtain⟨c,hc⟩: ∃c,pV ae aa l1=c:=⟨_,rfl⟩
 rw [hc] at h HL xD;clear hc
 generalize ae.length=m0 at HL ⊢
 obtain⟨n,hn⟩: ∃n,aa.length=n:=⟨_,rfl⟩
 rw [hn] at HL xD h ⊢;clear hn;have H:=q_ h;clear h
 generalize l1.length=m2 at HL ⊢
 obtain⟨s,st,sv,pU,cR⟩:=R
 go_enter Tryz.func22,Tryz.ntmps22
 go_wp2_with (first | ((with_reducible refine dg (N:=2) rfl ?_);refine nR 2 #[.slice af m0 ag, .slice ah n ai] 34 ?_;intro g2 hg w2 cM hb;replace HB:=q_ (eE HB.out hb);have B2:=q_ cM;have hz0:=lS B2 0;have hz1:=lS B2 1;clear hb cM hg))
 refine(HL.out w2 HB.out).mono ?_
 rintro e w3 ⟨hor,hb⟩;have HBS:=q_ HB.out.size;replace HB:=q_ (eE HB.out hb);clear hb hz0 hz1 HL B2;rcases hor with ⟨hc,rfl⟩ | ⟨rfl,p,rfl,hP⟩
 ·have hcb:(c==0)=false:=by simpa using hc
  have e:=H.out;unfold Rq at e;rw [if_neg hc] at e;injection e with e
  injection e with e1 e2
  subst e1 e2;clear H xD;go_wp2
  go_ret2
  exact⟨_,rfl,Kd.qT _ _ _ _ _,HB.out⟩
 ·have HP:=q_ (hP.base HBS.out);have e:=H.out;unfold Rq at e;rw [if_pos rfl] at e;have H2:=q_ e;obtain⟨⟨hn5,hn0⟩,hOK,hr0,hr1⟩:=xD.out (by first | exact rfl | trivial)
  try simp only at hOK hr0 hr1
  have HN:=q_ hn5;have uq:=q_ hn0;have HO:=q_ hOK;obtain⟨rn,rfl⟩:=Int.eq_ofNat_of_zero_le hr0;have Qa:aE (rn < 2*n+1):=⟨by omega⟩
  clear hP H e xD hOK hr0 hr1 hn5 hn0
  try simp only at HP
  by_cases hc0:cR=0
  ·subst hc0;have e:=H2.out;rw [if_pos rfl] at e;have H3:=q_ e;clear H2 e;have hq:w3.cell? ⟨p,2,none⟩=some (.bool sv)∧ ∃t,w3.cell? ⟨p,0,none⟩=some (.pointer (some ⟨t,0,none⟩))∧w3.cell? ⟨t,3,none⟩=some (.int .i64 n):=by
    obtain⟨lo,hi,t,u1,h1,h2,h3,⟨g,gb,cg,cb,b,cp,hT⟩,hB,hS⟩:=HP.out;exact⟨lS ⟨hB⟩ 2,t,lS ⟨hB⟩ 0,hT.h3⟩
   obtain⟨hq2,t0,hq0,hq3⟩:=hq;cases sv with
   | false=>
    have e:=H3.out;rw [if_neg (by show ¬ (false=true);decide)] at e;injection e with e
    injection e with e1 e2
    subst e1 e2;clear H3 HP;go_wp2
    go_ret2
    exact⟨_,rfl,Kd.qT _ _ _ _ _,HB.out⟩
   | true=>
    have e:=H3.out;rw [if_pos rfl] at e;have H4:=q_ e;clear H3 e hq0 hq3;go_wp2
    clear hq2;have q4:=q_ (mH (Below.refl w3.heap.size w3));obtain⟨lo,hi,t,u1,h1,h2,h3,⟨g,gb,cg,cb,b,cp,hT⟩,hBp,hS⟩:=HP.out;have HT:=q_ hT;have BP:=q_ hBp;have zJ:=q_ (ke BP.out q4.out);have u5:=q_ (HT.out.tT q4.out);have h0n:(0:Int)≤(n:Int):=by omega
    have hn2:(n:Int)≤2*(n:Int):=by omega
    clear h1 h2 h3 hT hBp hS;refine qx (n:=25) (S:=fun w'=>w'.cell? ⟨p,0,none⟩=some (.pointer (some ⟨t,0,none⟩))∧w'.cell? ⟨t,3,none⟩=some (.int .i64 n)∧w'.cell? ⟨t,1,none⟩=some (.int .i64 s.den)) (ds:= []) ⟨lS zJ 0,u5.out.h3,u5.out.h1.1⟩ (fun hHeld=>?_)
    generalize w3.drew=w5 at q4 zJ u5 hHeld ⊢
    refine rm 0 22 1 23 2 24 ?_;refine mg 3 25 ?_;refine rm 5 27 6 28 7 29 ?_;refine mg 8 30 ?_;refine sU 9 31 10 32 ?_;refine mg 11 33 ?_;refine rm 13 35 14 36 15 37 ?_;refine mg 16 38 ?_;refine sU 17 39 18 40 ?_;refine mg 19 41 ?_
    refine pz 4 (some 26) (fun K hK=>?_)
    refine IE Tryz.func63 #[.pointer (some ⟨t,0,none⟩)] ?_
    refine(UK u5.out HN.out uq.out HO.out.nn).mono ?_
    rintro e w6 ⟨g8,c8,rfl,hR,hb⟩;refine⟨_,rfl,?_⟩
    have HR:=q_ hR;have Bj:=q_ q4.out.size;replace q4:=q_ (eE q4.out hb);replace zJ:=q_ (ke BP.out q4.out);replace u5:=q_ (HT.out.tT q4.out);have hc8:((2*n:Nat):Int)≤(c8:Int):=by have:=(Kd.lU hR).2.1;omega
    have HC8:=q_ hc8;have anG: ¬ c8=n:=by have:=uq.out;omega
    clear hR hb hHeld;refine hK.out _ _ ⟨lS zJ 0,u5.out.h3,u5.out.h1.1⟩ (fun hHeld=>?_)
    clear hK K;refine AU ?_
    refine lX 12 34 ?_
    have hD:=Kd.akt (m:=n) (c:=c8) (Kd.lU HR.out).2.2 (by rw [vL];omega) (by rw [vL];omega);have hadd:Option.map (fun x:Addr=>x.add (n*(Kd.int IntKind.i64).sz)) (some (⟨g8,0,none⟩:Addr))=some ⟨g8,n,none⟩:=by
     show some ((⟨g8,0,none⟩:Addr).add (n*1))=_
     rw [Nat.mul_one,uK,Nat.zero_add]
    have hdl:((wz s n n).drop n).length=2*n - n:=by rw [List.length_drop,vL]
    rw [if_neg anG,hadd,hdl] at hD;have hcall:=ow.calls k (some ⟨g8,n,none⟩) (c8 - n) ((wz s n n).drop n) s.den r1 r2 w6 (by rw [hdl];exact hD) (by rw [hdl];omega) H4.out;rw [hdl] at hcall;have vU:=q_ hcall;clear hcall hD hadd hdl;refine pz 20 (some 42) (fun K hK=>?_)
    refine IE Tryz.func62 #[.slice (some ⟨g8,n,none⟩) (2*n - n) (c8 - n), .int .i64 s.den] ?_
    refine vU.out.mono ?_
    rintro e w8 ⟨v9,rfl,hR9,hb⟩;refine⟨_,rfl,?_⟩
    have Zf:=q_ (Kd.ng hR9 (Nat.le_trans HB.out.size q4.out.size));replace q4:=q_ (eE q4.out hb);replace zJ:=q_ (ke BP.out q4.out);replace u5:=q_ (HT.out.tT q4.out);clear hR9 hb hHeld vU;refine hK.out _ _ ⟨lS zJ 0,u5.out.h3,u5.out.h1.1⟩ (fun hHeld=>?_)
    clear hK K;refine AU ?_
    refine sB 21 43 22 44 23 4 24 5 ?_
    refine oA (by kernel_rfl) ?_
    go_wp2
    go_ret2
    exact⟨_,rfl,Zf.out,(Out.hi q4.out).toBelow HB.out HB.out.size⟩
  ·have hcb:(cR==0)=false:=by simpa using hc0
   have e:=H2.out;rw [if_neg hc0] at e;injection e with e
   injection e with e1 e2
   subst e1 e2;clear H2 HP;go_wp2
   go_ret2
   exact⟨_,rfl,Kd.qT _ _ _ _ _,HB.out⟩
end Go.Proofs.YthmfdplckdijdaaGreat.Pr
end
section
namespace Go.Proofs.YthmfdplckdijdaaGreat.uF
open Go.RowKit Wz.cw Wz.cX Ma Pr Dt Lk Lt Lq Fr
def sG (s:TS) (x:Nat):Nat→Option Nat
 | 0=>none
 | i+1=>if s.bs.getD i 0=(x:Int) then some i else sG s x i
theorem xR {s:TS} {x k:Nat}: ∀ {i:Nat},sG s x i=some k→k < i∧s.bs.getD k 0=(x:Int)
 | 0,h=>by cases h
 | i+1,h=>by
  unfold sG at h
  split at h
  ·injection h with h;subst h;exact⟨by omega, ‹_›⟩
  ·have:=xR h;exact⟨by omega,this.2⟩
def num (s:TS) (n:Nat):Option Nat→Int
 | some k=>s.T k (2*n+1)
 | none=>0
theorem I8 (s:TS) (n x:Nat) (hx:x < 2*n) (hnn: ∀i,i < n→0≤s.bs.getD i 0): ∀i,i≤n→(wz s n i).getD x 0=num s n (sG s x i)
 | 0,_=>by
  unfold wz sG
  rw [List.getD_eq_getElem?_getD,List.getElem?_replicate,if_pos hx];rfl
 | i+1,hi=>by
  have ih:=I8 s n x hx hnn i (by omega)
  have h0:=hnn i (by omega)
  unfold wz sG
  by_cases c:s.bs.getD i 0 < 2*(n:Int)
  ·rw [if_pos c]
   by_cases d:s.bs.getD i 0=(x:Int)
   ·rw [if_pos d,d,Int.toNat_natCast,List.getD_eq_getElem?_getD,List.getElem?_set_self (by rw [vL];exact hx)];rfl
   ·rw [if_neg d, ← ih,List.getD_eq_getElem?_getD,List.getElem?_set_ne (by omega), ← List.getD_eq_getElem?_getD]
  ·rw [if_neg c,if_neg (by omega)];exact ih
def Fg (x:Int × Int × Int):mh:=⟨x.1,x.2.1⟩
def Fl (s:TS) (n:Nat):List mh:=(List.range' 0 n).map (fun j=>Fg (pP (num s n (sG s (n+j) n)) s.den))
theorem X0 (s:TS) (n:Nat):(Fl s n).length=n:=by simp [Fl]
section
variable {M:List (List Int)} {Q cv:List Int} (h:PC M Q cv Q.length)
include h
theorem aic (k j:Nat):(pP (num (nI M Q cv k).1 Q.length (sG (nI M Q cv k).1 j Q.length)) (nI M Q cv k).1.den).2.2=0:=by
 have hA:=pY (n:=Q.length) (M:=m9 M) (cv:=fun i=>cv.getD i 0) (q:=fun i=>Q.getD i 0) h.Mb (fun i hi=>by have:=h.cb i hi;omega) h.qb
 have hok:=(xY h k).1
 cases e:sG (nI M Q cv k).1 j Q.length with
 | some r=>exact UY h k (xR e).1 (by omega)
 | none=>exact JL.Yh (a:=0) ⟨by decide,by decide⟩ (JL.abh h.le hA hok)
theorem aaw (k:Nat):uO (fun j=>pP (((wz (nI M Q cv k).1 Q.length Q.length).drop Q.length).getD j 0) (nI M Q cv k).1.den) Q.length 0 []=(Fl (nI M Q cv k).1 Q.length,0):=by
 have hok:=(xY h k).1
 have e: ∀j,j < Q.length→((wz (nI M Q cv k).1 Q.length Q.length).drop Q.length).getD j 0=num (nI M Q cv k).1 Q.length (sG (nI M Q cv k).1 (Q.length+j) Q.length):=fun j hj=>by
  rw [List.getD_eq_getElem?_getD,List.getElem?_drop, ← List.getD_eq_getElem?_getD]
  exact I8 _ _ _ (by omega) hok.nn _ (Nat.le_refl _)
 rw [Yk Q.length 0 [] (fun y _ hy=>by show (pP (((wz (nI M Q cv k).1 Q.length Q.length).drop Q.length).getD y 0) _).2.2=0;rw [e y (by omega)];exact aic h k _)]
 unfold Fl
 rw [List.nil_append]
 refine congrArg (fun l=>(l,(0:Int))) (List.map_congr_left (fun j hj=>?_))
 have:=(List.mem_range'_1.1 hj).2
 rw [e j (by omega)]
 rfl
end
theorem XE {M:List (List Int)} {Q cv:List Int} {k:Nat} (h1:(nI M Q cv k).2.2.1=true) (h2:(nI M Q cv k).2.1= []):(nI M Q cv k).1.bs=pE Q.length∧(nI M Q cv k).1.den=1:=by
 revert h1 h2
 unfold nI zU
 split
 ·intro _ _;exact⟨rfl,rfl⟩
 ·split
  ·intro h;cases h
  ·intro h1 h2
   exfalso
   revert h1 h2
   generalize ‹Nat› =r
   have all: ∀(q:Nat) (s:TS) (v r:Nat),(goI Q.length (2*Q.length+2) q s v r []).2.2.1=true→(goI Q.length (2*Q.length+2) q s v r []).2.1= []→False:=by
    intro q s v r
    cases q with
    | zero=>intro h;cases h
    | succ q=>
     unfold goI
     split
     ·intro h;cases h
     ·split
      ·intro _ h;cases h
      ·split
       ·intro h;cases h
       ·intro _ h
        obtain⟨e,he⟩:=zm.YN (n:=Q.length) (m:=2*Q.length+2) q (s.step r v) (partner Q.length (s.bs.getD r 0).toNat) ‹_› ([]++ [[(v:Int),s.bs.getD r 0]])
        rw [he] at h
        simp at h
   exact all _ _ _ _
theorem acC {s:TS} {n:Nat} (h:s.bs=pE n) (hd:s.den=1):Fl s n=List.replicate n ⟨0,1⟩:=by
 unfold Fl
 rw [List.eq_replicate_iff]
 refine⟨by simp,fun x hx=>?_⟩
 obtain⟨j,hj,rfl⟩:=List.mem_map.1 hx
 have none_: ∀i,i≤n→sG s (n+j) i=none:=fun i=>by
  induction i with
  | zero=>intro _;rfl
  | succ i ih=>
   intro hi
   unfold sG
   rw [if_neg,ih (by omega)]
   rw [h]
   have:(pE n).getD i 0=(i:Int):=by simp [pE,show i < n by omega]
   rw [this];omega
 rw [none_ n (Nat.le_refl _),hd]
 show Fg (pP 0 1)=_
 rw [H8 (by decide) (by decide)]
 rfl
end Go.Proofs.YthmfdplckdijdaaGreat.uF
end
section
namespace Go.Proofs.YthmfdplckdijdaaGreat.zm
open Go.RowKit Wz.cw Wz.cX Ma Dt Bz Lk Lt Pr Lq uF
structure Done (n:Nat) (s:TS):Prop where
 nn: ∀i,i < n→0≤s.T i (2*n+1)
 nz: ∀i,i < n→s.bs.getD i 0≠2*(n:Int)
 cm: ∀x,x < n→rV n s.bs x→ ¬ rV n s.bs (n+x)
theorem step_done {n r v:Nat} {s:TS} (hn0:0 < n) (hl:s.bs.length=n) (hr:r < n) (hb:s.bs.getD r 0=2*(n:Int)) (inj: ∀i j,i < n→j < n→s.bs.getD i 0=s.bs.getD j 0→i=j) (hc:Bn n s.bs v) (hnn: ∀i,i < n→0≤(s.step r v).T i (2*n+1)):Done n (s.step r v):=by
 have hv:=hc.lt
 have g: ∀i,(s.step r v).bs.getD i 0=if i=r then(v:Int) else s.bs.getD i 0:=fun i=>z8 (by omega)
 refine⟨hnn,fun i hi=>?_,fun x hx=>?_⟩
 ·rw [g]
  split
  ·omega
  ·rename_i h;intro e;exact h (inj i r hi hr (by rw [e,hb]))
 ·rintro ⟨i,hi,e⟩ ⟨j,hj,f⟩
  rw [g] at e f
  have hp:partner n x=n+x:=by unfold partner;rw [if_pos hx];omega
  have hq:partner n (n+x)=x:=by unfold partner;rw [if_neg (by omega)];omega
  by_cases ei:i=r
  ·rw [if_pos ei] at e
   by_cases ej:j=r
   ·rw [if_pos ej] at f;omega
   ·rw [if_neg ej] at f
    exact hc.CX ⟨j,hj,by rw [show v=x by omega,hp];exact f⟩
  ·rw [if_neg ei] at e
   by_cases ej:j=r
   ·rw [if_pos ej] at f
    exact hc.CX ⟨i,hi,by rw [show v=n+x by omega,hq];exact e⟩
   ·rw [if_neg ej] at f
    by_cases e1:x=v
    ·exact hc.out ⟨i,hi,by rw [← e1];exact e⟩
    ·by_cases e2:x=partner n v
     ·exact hc.CX ⟨i,hi,by rw [← e2];exact e⟩
     ·exact(hc.one x (by omega) e1 e2).1 ⟨i,hi,e⟩ ⟨j,hj,by rw [hp];exact f⟩
section
variable {n m:Nat} {A:lE} (hn:n≤5) (hn0:0 < n) (hm:m=2*n+2) (hA:Small n m A) (hI: ∀i j,i < n→j < n→A i j=if i=j then 1 else 0)
include hn hn0 hm hA hI
theorem aem: ∀(q:Nat) (s:TS) (v r:Nat) (st:List (List Int)),J n m A s v r→(goI n m q s v r st).2.2.1=true→Done n (goI n m q s v r st).1:=by
 intro q
 induction q with
 | zero=>intro s v r st h h2;cases h2
 | succ q ih=>
  intro s v r st h
  have hstep:uM n m (s.step r v):=JQ hn (by omega) hA h.ok (by have:=h.comp.lt;omega) h.lex h.least
  unfold goI
  by_cases c:st.length=200
  ·rw [if_pos c];intro h2;cases h2
  ·rw [if_neg c]
   by_cases d:s.bs.getD r 0=2*(n:Int)
   ·rw [if_pos d]
    intro _
    refine step_done hn0 h.ok.len h.least.1 d (fun i j hi hj e=>Fy h.ok i j hi hj e) h.comp (fun i hi=>?_)
    have:=aiO hstep hi
    rw [hm] at this
    exact this
   ·rw [if_neg d]
    cases e:qC n m (s.step r v) (fun i=>(s.step r v).T i (partner n (s.bs.getD r 0).toNat)) with
    | none=>intro h2;cases h2
    | some r'=>
     have hx:nx n m s v r=some (s.step r v,partner n (s.bs.getD r 0).toNat,r'):=by
      unfold nx;rw [if_neg d,e]
     exact ih _ _ _ _ (ZX hn hn0 hm hA hI h hx).1
end
theorem XH {M:List (List Int)} {Q cv:List Int} (h:PC M Q cv Q.length) (hs:(nI M Q cv 201).2.2.1=true):Done Q.length (nI M Q cv 201).1:=by
 have hn0:=h.pos
 have hA:=pY (n:=Q.length) (M:=m9 M) (cv:=fun i=>cv.getD i 0) (q:=fun i=>Q.getD i 0) h.Mb (fun i hi=>by have:=h.cb i hi;omega) h.qb
 have hI: ∀i j,i < Q.length→j < Q.length→nD Q.length (m9 M) (fun i=>cv.getD i 0) (fun i=>Q.getD i 0) i j=if i=j then 1 else 0:=fun i j hi hj=>wj hi hj
 revert hs
 unfold nI zU
 by_cases hf:yJ Q.length (fun i=>Q.getD i 0)=true
 ·rw [if_pos hf]
  intro _
  have hb: ∀i,i < Q.length→(pE Q.length).getD i 0=(i:Int):=fun i hi=>by simp [pE,hi]
  refine⟨fun i hi=>?_,fun i hi=>?_,fun x hx=>?_⟩
  ·show 0≤nD Q.length (m9 M) (fun i=>cv.getD i 0) (fun i=>Q.getD i 0) i (2*Q.length+1)
   unfold yJ at hf
   have:=List.all_eq_true.1 hf i (List.mem_range.2 hi)
   unfold nD
   rw [if_neg (by omega),if_neg (by omega),if_neg (by omega)]
   exact of_decide_eq_true this
  ·show (pE Q.length).getD i 0≠_
   rw [hb i hi];omega
  ·rintro _ ⟨j,hj,f⟩
   have f2:(pE Q.length).getD j 0=_:=f
   rw [hb j hj] at f2;omega
 ·rw [if_neg hf]
  cases hrow:qC Q.length (2*Q.length+2) (first Q.length (m9 M) (fun i=>cv.getD i 0) (fun i=>Q.getD i 0)) (fun i=>cv.getD i 0) with
  | none=>intro h2;cases h2
  | some r=>
   obtain⟨h1,h2⟩:=YR h hf hrow
   have hr:=(tY hrow).1
   have hbr:(first Q.length (m9 M) (fun i=>cv.getD i 0) (fun i=>Q.getD i 0)).bs.getD r 0=(r:Int):=by simp [first,pE,hr]
   show (goI Q.length (2*Q.length+2) (200+1) (first Q.length (m9 M) (fun i=>cv.getD i 0) (fun i=>Q.getD i 0)) (2*Q.length) r []).2.2.1=true→Done Q.length (goI Q.length (2*Q.length+2) (200+1) (first Q.length (m9 M) (fun i=>cv.getD i 0) (fun i=>Q.getD i 0)) (2*Q.length) r []).1
   unfold goI
   rw [if_neg (by simp),hbr,if_neg (by omega),Int.toNat_natCast]
   cases yO:qC Q.length (2*Q.length+2) ((first Q.length (m9 M) (fun i=>cv.getD i 0) (fun i=>Q.getD i 0)).step r (2*Q.length)) (fun i=>((first Q.length (m9 M) (fun i=>cv.getD i 0) (fun i=>Q.getD i 0)).step r (2*Q.length)).T i (partner Q.length r)) with
   | none=>intro h3;cases h3
   | some r1=>exact aem h.le hn0 rfl hA hI 200 _ _ _ _ (h2 r1 yO)
def vl (s:TS) (n x:Nat):Int:=num s n (sG s x n)
theorem aaN {s:TS} {n:Nat} (inj: ∀i j,i < n→j < n→s.bs.getD i 0=s.bs.getD j 0→i=j) (x:Nat): ∀k,k≤n→num s n (sG s x k)=sm k (fun i=>if s.bs.getD i 0=(x:Int) then s.T i (2*n+1) else 0)
 | 0,_=>rfl
 | k+1,hk=>by
  have ih:=aaN inj x k (by omega)
  unfold sG
  show _=sm k (fun i=>if s.bs.getD i 0=(x:Int) then s.T i (2*n+1) else 0)+(if s.bs.getD k 0=(x:Int) then s.T k (2*n+1) else 0)
  by_cases c:s.bs.getD k 0=(x:Int)
  ·rw [if_pos c,if_pos c,Dz (fun i hi=>if_neg (fun e=>by have:=inj i k (by omega) (by omega) (by rw [e,c]);omega))]
   show s.T k _=_
   omega
  ·rw [if_neg c,if_neg c,ih];omega
theorem akJ {n:Nat} {s:TS} (D:Done n s) (x:Nat):0≤vl s n x:=by
 unfold vl
 cases e:sG s x n with
 | none=>exact Int.le_refl _
 | some r=>exact D.nn r (xR e).1
theorem afm {n:Nat} {s:TS} {x:Nat} (h:vl s n x≠0):rV n s.bs x:=by
 unfold vl at h
 cases e:sG s x n with
 | none=>rw [e] at h;exact absurd rfl h
 | some r=>exact⟨r,xR e⟩
theorem agG {n:Nat} {s:TS} (D:Done n s) {x:Nat} (hx:x < n):vl s n x=0∨vl s n (n+x)=0:=by
 by_cases c:vl s n x=0
 ·exact .inl c
 ·by_cases d:vl s n (n+x)=0
  ·exact .inr d
  ·exact absurd (afm d) (D.cm x hx (afm c))
theorem akK {n:Nat} {M:lE} {cv q:Nat→Int} {s:TS} (ok:Ok n (2*n+2) (nD n M cv q) s) (D:Done n s) (hn0:0 < n) {k:Nat} (hk:k < n):vl s n k=sm n (fun j=>M k j*vl s n (n+j))+s.den*q k:=by
 have inj: ∀i j,i < n→j < n→s.bs.getD i 0=s.bs.getD j 0→i=j:=fun i j hi hj e=>Fy ok i j hi hj e
 have hc:=ok.tab.V3 (k:=k) (c:=2*n+1) hk (by omega)
 have hq:nD n M cv q k (2*n+1)=q k:=by unfold nD;rw [if_neg (by omega),if_neg (by omega),if_neg (by omega)]
 rw [hq] at hc
 have e1:sm n (fun i=>nD n M cv q k (s.bs.getD i 0).toNat*s.T i (2*n+1))=sm n (fun i=>sm (n+n) (fun x=>if s.bs.getD i 0=(x:Int) then nD n M cv q k x*s.T i (2*n+1) else 0)):=by
  refine nE (fun i hi=>?_)
  have h0:=ok.nn i hi
  have h1:=ok.lt i hi
  have h2:=D.nz i hi
  rw [tG (k:=(s.bs.getD i 0).toNat) (by omega) (fun x hx hne=>if_neg (by omega)),if_pos (by omega)]
 have e2: ∀x:Nat,sm n (fun i=>if s.bs.getD i 0=(x:Int) then nD n M cv q k x*s.T i (2*n+1) else 0)=nD n M cv q k x*vl s n x:=fun x=>by
  unfold vl
  rw [aaN inj x n (Nat.le_refl _), ← sZ]
  exact nE (fun i hi=>by split <;> simp)
 rw [e1,Jb,nE (fun x _=>e2 x),DJ] at hc
 rw [tG (k:=k) hk (fun x hx hne=>by unfold nD;rw [if_pos hx,if_neg hne,Int.zero_mul])] at hc
 have e3:nD n M cv q k k=1:=by unfold nD;rw [if_pos hk,if_pos rfl]
 have e4:sm n (fun j=>nD n M cv q k (n+j)*vl s n (n+j))= - sm n (fun j=>M k j*vl s n (n+j)):=by
  have: - sm n (fun j=>M k j*vl s n (n+j))=(-1)*sm n (fun j=>M k j*vl s n (n+j)):=by omega
  rw [this, ← sZ]
  refine nE (fun j hj=>?_)
  unfold nD
  rw [if_neg (by omega),if_pos (by omega),show n+j - n=j by omega,Int.neg_mul, ← Int.neg_one_mul]
 rw [e3,e4,Int.one_mul] at hc
 omega
end Go.Proofs.YthmfdplckdijdaaGreat.zm
end
section
namespace Go.Proofs.YthmfdplckdijdaaGreat.Pr
open Go.RowKit Wz.cw Wz.fX Wz.cX Ma Dt Lk Lt Lq
def ud (s:TS) (n pU:Nat):Nat→List Int
 | 0=>(List.replicate (2*n+1) 0).set pU s.den
 | i+1=>(ud s n pU i).set (s.bs.getD i 0).toNat (wrap64 (-(s.T i pU)))
theorem zV (s:TS) (n pU:Nat): ∀i,(ud s n pU i).length=2*n+1
 | 0=>by simp [ud]
 | i+1=>by simp [ud,zV s n pU i]
def O8 (k:Nat) (R:TS × List (List Int) × Bool × Int × Int) (n:Nat) (c:Int):Option (List mh × Int):=if c=0 then(if R.2.2.2.2=0 then(if R.2.2.1=true then some ([],4) else ow.f k (ud R.1 n R.2.2.2.1.toNat n) R.1.den) else some ([],R.2.2.2.2)) else some ([],c)
def qN.f (k:Nat) (ae:List (List Int)) (aa l1:List Int):Option (List mh × Int):=O8 k (nI ae aa l1 201) aa.length (pV ae aa l1)
theorem qN.calls (k:Nat) (af:Option Addr) (ag:Nat) (ae:List (List Int)) (ah:Option Addr) (ai:Nat) (aa:List Int) (A1:Option Addr) (c1:Nat) (l1:List Int) (r1:List (mh)) (r2:Int) (w:World) (aj:Kd.C (Kd.slice 2 (Kd.int .i64)) w af ae.length ae) (ak:ae.length≤ag) (aq:Kd.C (Kd.int .i64) w ah aa.length aa) (au:aa.length≤ai) (hr1:Kd.C (Kd.int .i64) w A1 l1.length l1) (hc1:l1.length≤c1) (h:qN.f k ae aa l1=some (r1,r2)):
  Calls Tryz.prog 26 #[.agg #[.slice af ae.length ag, .slice ah aa.length ai], .slice A1 l1.length c1] w fun e w'=> ∃qg:Value,e= .returned (.tuple #[qg, .int .i64 r2])∧Kd.R rU 58 w' w.heap.size (fun _=>True) qg r1∧Below w.heap.size w w':=by
 unfold qN.f at h;have HB:=q_ (Below.refl w.heap.size w);have hcall:=fun W (hb:Below w.heap.size w W)=>Fa af ag ae ah ai aa A1 c1 l1 W (Kd.nW aj hb) ak (Kd.nW aq hb) au (Kd.nW hr1 hb) hc1
 have HL:=q_ hcall;have hok:pV ae aa l1=0→(aa.length≤5∧0 < aa.length)∧_:=fun h0=>⟨⟨(rM h0).le,(rM h0).pos⟩,xY (rM h0) 201⟩
 have xD:=q_ hok;clear hcall hok aj ak aq au hr1 hc1
 generalize nD aa.length (m9 ae) (fun i=>l1.getD i 0) (fun i=>aa.getD i 0)=A at xD
 obtain⟨R,hR⟩: ∃R,nI ae aa l1 201=R:=⟨_,rfl⟩
 rw [hR] at h HL xD;clear hR;obtain⟨c,hc⟩: ∃c,pV ae aa l1=c:=⟨_,rfl⟩
 rw [hc] at h HL xD;clear hc
 generalize ae.length=m0 at HL ⊢
 obtain⟨n,hn⟩: ∃n,aa.length=n:=⟨_,rfl⟩
 rw [hn] at HL xD h ⊢;clear hn;have H:=q_ h;clear h
 generalize l1.length=m2 at HL ⊢
 obtain⟨s,st,sv,pU,cR⟩:=R
 go_enter Tryz.func26,Tryz.ntmps26
 go_wp2_with (first | ((with_reducible refine dg (N:=2) rfl ?_);refine nR 2 #[.slice af m0 ag, .slice ah n ai] 34 ?_;intro g2 hg w2 cM hb;replace HB:=q_ (eE HB.out hb);have B2:=q_ cM;have hz0:=lS B2 0;have hz1:=lS B2 1;clear hb cM hg))
 refine(HL.out w2 HB.out).mono ?_
 rintro e w3 ⟨hor,hb⟩;have HBS:=q_ HB.out.size;replace HB:=q_ (eE HB.out hb);clear hb hz0 hz1 HL B2;rcases hor with ⟨hc,rfl⟩ | ⟨rfl,p,rfl,hP⟩
 ·have hcb:(c==0)=false:=by simpa using hc
  have e:=H.out;unfold O8 at e;rw [if_neg hc] at e;injection e with e
  injection e with e1 e2
  subst e1 e2;clear H xD;go_wp2
  go_ret2
  exact⟨_,rfl,Kd.qT _ _ _ _ _,HB.out⟩
 ·have HP:=q_ (hP.base HBS.out);have e:=H.out;unfold O8 at e;rw [if_pos rfl] at e;have H2:=q_ e;obtain⟨⟨hn5,hn0⟩,hOK,hr0,hr1⟩:=xD.out (by first | exact rfl | trivial)
  try simp only at hOK hr0 hr1
  have HN:=q_ hn5;have uq:=q_ hn0;have HO:=q_ hOK;obtain⟨rn,rfl⟩:=Int.eq_ofNat_of_zero_le hr0;have Qa:aE (rn < 2*n+1):=⟨by omega⟩
  clear hP H e xD hOK hr0 hr1 hn5 hn0
  try simp only at HP
  by_cases hc0:cR=0
  ·subst hc0;have e:=H2.out;rw [if_pos rfl] at e;have H3:=q_ e;clear H2 e;have hq:w3.cell? ⟨p,2,none⟩=some (.bool sv)∧ ∃t,w3.cell? ⟨p,0,none⟩=some (.pointer (some ⟨t,0,none⟩))∧w3.cell? ⟨t,3,none⟩=some (.int .i64 n):=by
    obtain⟨lo,hi,t,u1,h1,h2,h3,⟨g,gb,cg,cb,b,cp,hT⟩,hB,hS⟩:=HP.out;exact⟨lS ⟨hB⟩ 2,t,lS ⟨hB⟩ 0,hT.h3⟩
   obtain⟨hq2,t0,hq0,hq3⟩:=hq;cases sv with
   | true=>
    have e:=H3.out;rw [if_pos rfl] at e;injection e with e
    injection e with e1 e2
    subst e1 e2;clear H3 HP;go_wp2
    go_ret2
    exact⟨_,rfl,Kd.qT _ _ _ _ _,HB.out⟩
   | false=>
    have e:=H3.out;rw [if_neg (by show ¬ (false=true);decide)] at e;have H4:=q_ e;clear H3 e;have hw:wrap64 (wrap64 (2*(n:Int))+1)=((2*n+1:Nat):Int):=by have:=HN.out;rw [nH (x:=2*(n:Int)) (by omega) (by omega),nH (by omega) (by omega)];omega
    have HW:=q_ hw;clear hw;have q4:=q_ (Below.refl w3.heap.size w3);have Bj:=q_ (Nat.le_refl w3.heap.size)
    go_wp2_with (first | ((with_reducible refine dg (N:=33) rfl ?_);refine Kd.Ge (Kd.int .i64) (w0:=w3) w3.heap.size 2 rfl (N:=33) rfl 24 _ _ rfl (wrap64 (wrap64 (2*(n:Int))+1)) rfl rfl Tryz.underlying24 (.int .i64 0) 8 q6 rfl (by decide) (by omega) 0 (ok:=fun _=>True) (oC:=fun _=>True) rfl (fun _ hk=>hk) trivial (by rw [HW.out];omega) (by have:=HN.out;rw [HW.out];omega) (Below.refl _ _) (Nat.le_refl _) ?_;intro v8 w4 ho hb hg_ om;rw [HW.out,Int.toNat_natCast] at ho;have HR:=q_ ho;replace q4:=q_ hb;replace Bj:=q_ hb.size;clear ho hb hg_ om hq0 hq2 hq3))
    obtain⟨g8,c8,hv8,hb8,hl8,abV,hc8⟩:=Kd.rX HR.out (by simp);rw [List.length_replicate] at hv8;subst hv8;have HG8:=q_ hb8;replace HR:=q_ (Kd.oQ HR.out (mH (Below.refl w4.heap.size w4)));replace q4:=q_ (eE q4.out (mH (Below.refl w4.heap.size w4)));replace Bj:=q_ (Nat.le_trans Bj.out (mH (Below.refl w4.heap.size w4)).size);obtain⟨lo,hi,t,u1,h1,h2,h3,⟨g,gb,cg,cb,b,cp,hT⟩,hBp,hS⟩:=HP.out;have HT:=q_ hT;have BP:=q_ hBp;have hat:=Kd.tW 0 HR.out (rn:Int) (by omega) (by have:=Qa.out;omega);rw [Int.toNat_natCast] at hat;have hcell:=hat.1;have hfr:=hat.2;have hrz:(rn:Int) < 2*(n:Int)+1:=by have:=Qa.out;omega
    have h0r:(0:Int)≤(rn:Int):=by omega
    have zJ:=q_ (ke BP.out q4.out);have u5:=q_ (HT.out.tT q4.out);clear h1 h2 h3 hT hBp hS hb8 hl8 hc8 hat;refine qx (n:=14) (S:=fun w'=>w'.cell? ⟨p,3,none⟩=some (.int .i64 rn)∧w'.cell? ⟨p,0,none⟩=some (.pointer (some ⟨t,0,none⟩))∧w'.cell? ⟨t,1,none⟩=some (.int .i64 s.den)) (ds:= [13]) ⟨lS zJ 3,lS zJ 0,u5.out.h1.1⟩ (fun hHeld=>?_)
    generalize w4.drew=w5 at q4 Bj HR zJ u5 hcell hfr hHeld ⊢
    refine sB 0 34 1 35 2 36 3 37 ?_;refine mg 4 38 ?_;refine rm 5 39 6 40 7 41 ?_;refine mg 8 42 ?_;refine sU 9 43 10 44 ?_;refine mg 11 45 ?_;refine lX 12 46 ?_
    refine DU 13 none (fun K hK=>?_)
    refine rL (w1:=?_) (by rfl) rfl ?_ ?_
    rotate_left
    ·go_simp
     rfl
    refine hK.out _ _ ?_
    clear hK K hHeld hcell hfr hrz h0r zJ u5;refine oA (by kernel_rfl) ?_
    have hput:=Kd.zl HR.out (rn:Int) s.den;rw [Int.toNat_natCast] at hput;have pR:aE (Kd.R (Kd.int .i64) 2 (w5.setCell ⟨g8,rn,none⟩ (.int .i64 s.den)) w3.heap.size (fun _=>True) (.slice (some ⟨g8,0,none⟩) (2*n+1) c8) (ud s n rn 0)):=⟨hput.1⟩
    replace q4:=q_ (q4.out.setCell (p:=⟨g8,rn,none⟩) HG8.out (.int .i64 s.den));replace Bj:aE (w3.heap.size≤(w5.setCell ⟨g8,rn,none⟩ (.int .i64 s.den)).heap.size):=⟨q4.out.size⟩
    clear HR hput
    generalize w5.setCell ⟨g8,rn,none⟩ (.int .i64 s.den)=w6 at pR q4 Bj ⊢
    have zJ:=q_ (ke BP.out q4.out);have u5:=q_ (HT.out.tT q4.out);have hz0:=lS zJ 0;have hz2:=u5.out.h2;clear zJ u5;go_wp2
    clear hz0 hz2
    go_loopg [55] n (fun gg v55 wr=> ∃(i:Nat),i≤n∧n - i≤gg∧v55= .int .i64 (i:Int)∧aE (Kd.R (Kd.int .i64) 2 wr w3.heap.size (fun _=>True) (.slice (some ⟨g8,0,none⟩) (2*n+1) c8) (ud s n rn i))∧aE (Below w3.heap.size w3 wr)∧aE (w3.heap.size≤wr.heap.size))
    case atStart=>exact⟨0,Nat.zero_le _,by omega,rfl,pR,q4,Bj⟩
    case round=>
     clear pR q4 Bj;obtain⟨i,hi',hg,rfl,HR,q4,Bj⟩:=hrel;have HG:=q_ hg
     by_cases hlt:i < n
     ·have pZ:(i:Int) < (n:Int):=by omega
      have h0z:(0:Int)≤(i:Int):=by omega
      have hw:IntKind.i64.wrap ((i:Int)+1)=((i+1:Nat):Int):=by rw [IntWalk.i64_in _ (by have:=HN.out;omega)];rfl
      have Bh:=q_ hw;have mG:=q_ hlt;obtain⟨l,hl⟩: ∃l:Nat,s.bs.getD i 0=(l:Int):=⟨(s.bs.getD i 0).toNat,by have:=HO.out.nn i hlt;omega⟩
      have HLL:=q_ hl;have hl2:l < 2*n+1:=by have:=HO.out.lt i hlt;rw [hl] at this;simp only [Int.toNat_natCast] at this;omega
      have u5:=q_ (HT.out.tT q4.out);have hcb:=(u5.out.oq i hlt).1;rw [hl] at hcb;have hlz:(l:Int) < 2*(n:Int)+1:=by omega
      have h0l:(0:Int)≤(l:Int):=by omega
      have hrz:(rn:Int) < 2*(n:Int)+2:=by have:=Qa.out;omega
      have h0r:(0:Int)≤(rn:Int):=by omega
      have Zk:=q_ hl2;clear hi' hg hlt hl hl2 u5;go_wp2
      clear hcb;replace HR:=q_ (Kd.oQ HR.out (mH (Below.refl wr.heap.size wr)));replace q4:=q_ (eE q4.out (mH (Below.refl wr.heap.size wr)));have hat:=Kd.tW 0 HR.out (l:Int) (by omega) (by have:=Zk.out;omega);rw [Int.toNat_natCast] at hat;have hcell:=hat.1;have hfr:=hat.2;have zJ:=q_ (ke BP.out q4.out);have u5:=q_ (HT.out.tT q4.out);clear hat;refine qx (n:=21) (S:=fun w'=>w'.cell? ⟨p,0,none⟩=some (.pointer (some ⟨t,0,none⟩))∧w'.cell? ⟨t,0,none⟩=some (.slice (some ⟨g,0,none⟩) n cg)∧w'.cell? ⟨g,i,none⟩=some (.slice (some ⟨b i,0,none⟩) (2*n+2) (cp i))∧w'.cell? ⟨p,3,none⟩=some (.int .i64 rn)∧w'.cell? ⟨b i,rn,none⟩=some (.int .i64 (s.T i rn))) (ds:= [20]) ⟨lS zJ 0,u5.out.h0,u5.out.og i mG.out,lS zJ 3,(u5.out.ob i rn mG.out (by have:=Qa.out;omega)).1⟩ (fun hHeld=>?_)
      generalize wr.drew=w7 at HR q4 zJ u5 hcell hfr hHeld ⊢
      refine sB 0 60 1 61 2 62 3 63 ?_;refine lX 4 64 ?_;refine mg 5 65 ?_;refine sU 6 66 7 67 ?_;refine mg 8 68 ?_;refine sU 9 69 10 70 ?_;refine mg 11 71 ?_;refine rm 12 72 13 73 14 74 ?_;refine mg 15 75 ?_;refine lX 16 76 ?_;refine mg 17 77 ?_;refine sU 18 78 19 79 ?_
      refine DU 20 none (fun K hK=>?_)
      refine rL (w1:=?_) (by rfl) rfl ?_ ?_
      rotate_left
      ·go_simp
       rfl
      refine hK.out _ _ ?_
      clear hK K hHeld hcell hfr hlz h0l hrz h0r zJ u5;refine oA (by kernel_rfl) ?_
      have hput:=Kd.zl HR.out (l:Int) (wrap64 (-(s.T i rn)));rw [Int.toNat_natCast] at hput;have pR:aE (Kd.R (Kd.int .i64) 2 (w7.setCell ⟨g8,l,none⟩ (.int .i64 (wrap64 (-(s.T i rn))))) w3.heap.size (fun _=>True) (.slice (some ⟨g8,0,none⟩) (2*n+1) c8) (ud s n rn (i+1))):=⟨by
       show Kd.R _ _ _ _ _ _ ((ud s n rn i).set (s.bs.getD i 0).toNat (wrap64 (-(s.T i rn))))
       rw [HLL.out,Int.toNat_natCast];exact hput.1⟩
      replace q4:=q_ (q4.out.setCell (p:=⟨g8,l,none⟩) HG8.out (.int .i64 (wrap64 (-(s.T i rn)))));have aos:aE (w3.heap.size≤(w7.setCell ⟨g8,l,none⟩ (.int .i64 (wrap64 (-(s.T i rn))))).heap.size):=⟨q4.out.size⟩
      clear hput;go_wp2
      go_roundg (n - (i+1))
      case measure=>have:=HG.out;have:=mG.out;omega
      case rel=>exact⟨i+1,mG.out,by omega,by first | rfl | (rw [Bh.out]) | (simp [Bh.out]),pR,q4,aos⟩
     ·have pZ: ¬ (i:Int) < (n:Int):=by omega
      obtain rfl:n=i:=by omega
      have zJ:=q_ (ke BP.out q4.out);have u5:=q_ (HT.out.tT q4.out);have hz0:=lS zJ 0;have hz1:=u5.out.h1.1;have hcall:=ow.calls k (some ⟨g8,0,none⟩) c8 (ud s n rn n) s.den r1 r2 wr (Kd.lU HR.out).2.2 (by have:=(Kd.lU HR.out).2.1;rw [zV];exact this) (by have h:=H4.out;rw [Int.toNat_natCast] at h;exact h);rw [zV] at hcall;have vU:=q_ hcall;clear hi' hg hlt hcall zJ u5
      go_wp2_with fail
      refine vU.out.mono ?_
      rintro e w8 ⟨v9,rfl,hR9,hb⟩;have Zf:=q_ (Kd.ng hR9 (Nat.le_trans HB.out.size Bj.out));replace q4:=q_ (eE q4.out hb);clear hR9 hb hz0 hz1 vU;go_wp2
      go_ret2
      exact⟨_,rfl,Zf.out,(Out.hi q4.out).toBelow HB.out HB.out.size⟩
  ·have hcb:(cR==0)=false:=by simpa using hc0
   have e:=H2.out;rw [if_neg hc0] at e;injection e with e
   injection e with e1 e2
   subst e1 e2;clear H2 HP;go_wp2
   go_ret2
   exact⟨_,rfl,Kd.qT _ _ _ _ _,HB.out⟩
end Go.Proofs.YthmfdplckdijdaaGreat.Pr
end
section
namespace Go.Proofs.YthmfdplckdijdaaGreat.Pr
open Go.RowKit Wz.cw Wz.fX Wz.cX
attribute [local go_sem] nV nT oF oD nC nB nU nS
mutual
def lO.l0:Nat→Int→List (mh)→Int→List (List Int)→List Int→List (List Int)→Int→List Int→Option ((List (mh)) × Int)
 | 0,_,_,_,_,_,_,_,_=>none
 | k+1,x9,sS,tC,ah,af,aa,ag,ae=>if tC≤(wrap64 (2*(af.length:Int))) then(if tC=x9 then(lO.j1 k x9 sS tC ah af aa ag ae 1 1) else(lO.j1 k x9 sS tC ah af aa ag ae 0 1)) else(some (sS,0))
def lO.j1:Nat→Int→List (mh)→Int→List (List Int)→List Int→List (List Int)→Int→List Int→Int→Int→Option ((List (mh)) × Int)
 | 0,_,_,_,_,_,_,_,_,_,_=>none
 | k+1,x9,sS,tC,ah,af,aa,ag,ae,ai,aj=>lO.l1 k x9 sS tC 0 ah af aa ag ae ai aj
def lO.l1:Nat→Int→List (mh)→Int→Int→List (List Int)→List Int→List (List Int)→Int→List Int→Int→Int→Option ((List (mh)) × Int)
 | 0,_,_,_,_,_,_,_,_,_,_,_=>none
 | k+1,x9,sS,tC,rQ,ah,af,aa,ag,ae,ai,aj=>if rQ < (ae.length:Int) then(if 0≤rQ then(if(rd ae rQ)=tC then(if rQ < (aa.length:Int) then(if 0≤x9 then(if x9 < ((d5 aa rQ).length:Int) then((oM.f k (wrap64 (-(rd (d5 aa rQ) x9))) ag).bind fun aq=>(lO.l1 k x9 sS tC (wrap64 (rQ+1)) ah af aa ag ae aq.1 aq.2)) else(none)) else(none)) else(none)) else(lO.l1 k x9 sS tC (wrap64 (rQ+1)) ah af aa ag ae ai aj)) else(none)) else((pS.f k ai aj).bind fun ak=>(if ak.2.2=0 then(if sS.length < 8796093022208 then(lO.l0 k x9 (sS++ [(⟨ak.1,ak.2.1⟩:mh)]) (wrap64 (tC+1)) ah af aa ag ae) else(none)) else(some (([]:List (mh)),ak.2.2))))
end
def lO.f (k:Nat) (ae:List (List Int)) (af:List Int) (l1:List Int):Option ((List (mh)) × Int):=(mU.f k ae af l1).bind fun ag=>(if ag=0 then((d7.f k ae af l1 201).bind fun aa=>(if(aa.2.2.2.1.length:Int) > 200 then(some (([]:List (mh)),3)) else(if aa.2.2.2.2.2=true then(some (([]:List (mh)),4)) else(lO.l0 k aa.2.2.2.2.1 (([]:List (mh))) 0 ae af aa.1 aa.2.1 aa.2.2.1)))) else(some (([]:List (mh)),ag)))
def lO.T20:Bool × List (List Nat × List Nat):=(true, [([], []),([0], [0]),([], []),([1,2], [1,2]),([3], [3]),([], []),([4,5], [4,5]),([6], [6]),([7], [7]),([], []),([9], [9]),([8,10], [8,10]),([11,11,0,1,2,3,4,5,6,7,8,9,10,11], [11])])
def lO.B20:List Nat:= [0,1,0,7,15,0,63,127,255,0,512,2047,4095]
theorem lO.akM:sy .any (opsOf Tryz.f27 20)=lO.T20:=by kernel_rfl
theorem lO.ajA:tD lO.T20.2 lO.B20=true:=by kernel_rfl
theorem lO.calls (k:Nat) (aM:Option Addr) (aN:Nat) (au:List (List Int)) (aT:Option Addr) (aU:Nat) (aq:List Int) (A1:Option Addr) (c1:Nat) (l1:List Int) (r1:List (mh)) (r2:Int) (w:World) (dV:Kd.C (Kd.slice 2 (Kd.int .i64)) w aM au.length au) (dW:au.length≤aN) (dX:Kd.C (Kd.int .i64) w aT aq.length aq) (dY:aq.length≤aU) (hr1:Kd.C (Kd.int .i64) w A1 l1.length l1) (hc1:l1.length≤c1) (h:lO.f k au aq l1=some (r1,r2)):
  Calls Tryz.prog 27 #[.agg #[.slice aM au.length aN, .slice aT aq.length aU], .slice A1 l1.length c1] w fun e w'=> ∃qg:Value,e= .returned (.tuple #[qg, .int .i64 r2])∧Kd.R rU 58 w' w.heap.size (fun _=>True) qg r1∧Below w.heap.size w w':=by
 have CY:=Tryz.underlying34;have Dp:=Tryz.underlying107;have DV:=Tryz.underlying58;have mR:=q_ dV;have oh:=q_ dW;clear dV dW;have ox:=q_ dX;have oR:=q_ dY;clear dX dY;have pR:=q_ hr1;have qy:=q_ hc1;clear hr1 hc1;have HB:=q_ (Below.refl w.heap.size w);have H:((mU.f k au aq l1).bind fun bG=>(if bG=0 then((d7.f k au aq l1 201).bind fun bn=>(if(bn.2.2.2.1.length:Int) > 200 then(some (([]:List (mh)),3)) else(if bn.2.2.2.2.2=true then(some (([]:List (mh)),4)) else(lO.l0 k bn.2.2.2.2.1 (([]:List (mh))) 0 au aq bn.1 bn.2.1 bn.2.2.1)))) else(some (([]:List (mh)),bG))))=some (r1,r2):=h;clear h;replace H:=Option.bind_eq_some_iff.mp H;obtain⟨bG,sW,H⟩:=H;replace H:(if bG=0 then((d7.f k au aq l1 201).bind fun bn=>(if(bn.2.2.2.1.length:Int) > 200 then(some (([]:List (mh)),3)) else(if bn.2.2.2.2.2=true then(some (([]:List (mh)),4)) else(lO.l0 k bn.2.2.2.2.1 (([]:List (mh))) 0 au aq bn.1 bn.2.1 bn.2.2.1)))) else(some (([]:List (mh)),bG)))=some (r1,r2):=H;have A3:=q_ sW;clear sW
 by_cases c4:bG=0
 ·rw [if_pos c4] at H;have qv:=yh c4;have zK:=yg c4;clear c4;replace H:=Option.bind_eq_some_iff.mp H;obtain⟨⟨ay,aI,az,bM,aJ,dU⟩,xL,H⟩:=H;replace H:(if(bM.length:Int) > 200 then(some (([]:List (mh)),3)) else(if dU=true then(some (([]:List (mh)),4)) else(lO.l0 k aJ (([]:List (mh))) 0 au aq ay aI az)))=some (r1,r2):=H;have A5:=q_ xL;clear xL
  by_cases c6:(bM.length:Int) > 200
  ·rw [if_pos c6] at H;have uj:=decide_eq_true c6;have Fj:decide (200 < bM.length)=true:=decide_eq_true (by omega);clear c6;simp only [Option.some.injEq,Prod.mk.injEq] at H;obtain⟨rfl,rfl⟩:=H
   go_enter Tryz.func27,Tryz.ntmps27
   go_wp2_with (first | ((with_reducible refine dg (N:=2) rfl ?_);refine nR 2 #[.slice aM au.length aN, .slice aT aq.length aU] 34 ?_;intro ak hg w7 cM hb;have aa:=q_ (cM);have dQ:=mq w hg;have dR:=mq w hg;replace HB:=lT hb;clear hb cM hg;obtain⟨dx,dz,dA,dB⟩:=nF aa) | ((with_reducible refine d8 (f:=64) rfl ?_);refine oJ 19 Tryz.func64 #[.agg #[.slice aM au.length aN, .slice aT aq.length aU], .slice A1 l1.length c1] ?_;(with_reducible refine(mU.calls k _ _ au _ _ aq _ _ l1 bG _ ?bq ?bu ?bv ?bw ?bz ?bA A3.out).mono ?_);(case bq=>exact ni mR.out HB.out);(case bu=>exact oh.out);(case bv=>exact ni ox.out HB.out);(case bw=>exact oR.out);(case bz=>exact ni pR.out HB.out);(case bA=>exact qy.out);rintro e w9 ⟨rfl,hb⟩;refine⟨_,rfl,?_⟩;replace aa:=lZ aa hb;replace HB:=lT hb;(try clear hb);(try clear hk);obtain⟨bT,bU,bV,bW⟩:=nF aa) | ((with_reducible refine d8 (f:=65) rfl ?_);refine oJ 26 Tryz.func65 #[.agg #[.slice aM au.length aN, .slice aT aq.length aU], .slice A1 l1.length c1, .int .i64 201] ?_;(with_reducible refine(d7.calls k _ _ au _ _ aq _ _ l1 201 ay aI az bM aJ dU _ ?bq ?bu ?bv ?bw ?bz ?bA A5.out).mono ?_);(case bq=>exact ni mR.out HB.out);(case bu=>exact oh.out);(case bv=>exact ni ox.out HB.out);(case bw=>exact oR.out);(case bz=>exact ni pR.out HB.out);(case bA=>exact qy.out);rintro e rB ⟨eD,eF,eG,rfl,ho0,ho1,ho2,hb⟩;refine⟨_,rfl,?_⟩;have a9:=q_ (Kd.oP ho0 oI);have ba:=q_ (Kd.ng ho1 oI);have bC:=q_ (Kd.oP ho2 oI);replace aa:=lZ aa hb;replace HB:=lT hb;(try clear hb);(try clear hk);(try clear ho0);(try clear ho1);(try clear ho2)) | ((with_reducible refine dg (N:=7) rfl ?_);refine nR 7 #[.slice none 0 0, .int .i64 0, .slice none 0 0] 107 ?_;intro ai hg tX cM hb;replace a9:=q_ (Kd.mQ (nw a9.out) hb);replace ba:=rK ba hb;replace bC:=q_ (Kd.mQ (nw bC.out) hb);have ae:=q_ (cM);have dZ:=mq w hg;have d9:=mq w hg;have aD:=r7 hg aa;have aV:=rY hg aa;replace aa:=lZ aa hb;replace HB:=lT hb;clear hb cM hg;obtain⟨iW,iX,eS⟩:=Kd.nk a9.out;subst eS;have gH:=aV.out;have gI:=aD.out;obtain⟨bX,bY,bZ,cn,ct,cz⟩:=qI ae;obtain⟨iY,iZ,eT⟩:=Kd.mE ba.out;subst eT;obtain⟨i9,ja,eU⟩:=Kd.nk bC.out;subst eU))
   go_ret2
   exact⟨_,pH,by first | exact Kd.qT _ _ _ _ _ | exact Kd.uy _ _ _ _ _ | exact Kd.uw _ _ _ _ _ | exact Kd.ux _ _ _ _ _ | exact Kd.sJ _ _ _ _ _,hb_⟩
  ·rw [if_neg c6] at H;have uj:=decide_eq_false c6;have Fj:decide (200 < bM.length)=false:=decide_eq_false (by omega);clear c6
   by_cases uZ:dU=true
   ·subst uZ;have H1:(some (([]:List (mh)),4))=some (r1,r2):=by rw [if_pos rfl] at H;exact H
    clear H;have H:=H1;clear H1;simp only [Option.some.injEq,Prod.mk.injEq] at H;obtain⟨rfl,rfl⟩:=H
    go_enter Tryz.func27,Tryz.ntmps27
    go_wp2_with (first | ((with_reducible refine dg (N:=2) rfl ?_);refine nR 2 #[.slice aM au.length aN, .slice aT aq.length aU] 34 ?_;intro ak hg ER cM hb;have aa:=q_ (cM);have dQ:=mq w hg;have dR:=mq w hg;replace HB:=lT hb;clear hb cM hg;obtain⟨cA,cB,cC,cD⟩:=nF aa) | ((with_reducible refine d8 (f:=64) rfl ?_);refine oJ 19 Tryz.func64 #[.agg #[.slice aM au.length aN, .slice aT aq.length aU], .slice A1 l1.length c1] ?_;(with_reducible refine(mU.calls k _ _ au _ _ aq _ _ l1 bG _ ?bq ?bu ?bv ?bw ?bz ?bA A3.out).mono ?_);(case bq=>exact ni mR.out HB.out);(case bu=>exact oh.out);(case bv=>exact ni ox.out HB.out);(case bw=>exact oR.out);(case bz=>exact ni pR.out HB.out);(case bA=>exact qy.out);rintro e w21 ⟨rfl,hb⟩;refine⟨_,rfl,?_⟩;replace aa:=lZ aa hb;replace HB:=lT hb;(try clear hb);(try clear hk);obtain⟨cE,cF,cG,cH⟩:=nF aa) | ((with_reducible refine d8 (f:=65) rfl ?_);refine oJ 26 Tryz.func65 #[.agg #[.slice aM au.length aN, .slice aT aq.length aU], .slice A1 l1.length c1, .int .i64 201] ?_;(with_reducible refine(d7.calls k _ _ au _ _ aq _ _ l1 201 ay aI az bM aJ true _ ?bq ?bu ?bv ?bw ?bz ?bA A5.out).mono ?_);(case bq=>exact ni mR.out HB.out);(case bu=>exact oh.out);(case bv=>exact ni ox.out HB.out);(case bw=>exact oR.out);(case bz=>exact ni pR.out HB.out);(case bA=>exact qy.out);rintro e w23 ⟨eD,eF,eG,rfl,ho0,ho1,ho2,hb⟩;refine⟨_,rfl,?_⟩;have a9:=q_ (Kd.oP ho0 oI);have ba:=q_ (Kd.ng ho1 oI);have bC:=q_ (Kd.oP ho2 oI);replace aa:=lZ aa hb;replace HB:=lT hb;(try clear hb);(try clear hk);(try clear ho0);(try clear ho1);(try clear ho2)) | ((with_reducible refine dg (N:=7) rfl ?_);refine nR 7 #[.slice none 0 0, .int .i64 0, .slice none 0 0] 107 ?_;intro ai hg w24 cM hb;replace a9:=q_ (Kd.mQ (nw a9.out) hb);replace ba:=rK ba hb;replace bC:=q_ (Kd.mQ (nw bC.out) hb);have ae:=q_ (cM);have dZ:=mq w hg;have d9:=mq w hg;have aD:=r7 hg aa;have aV:=rY hg aa;replace aa:=lZ aa hb;replace HB:=lT hb;clear hb cM hg;obtain⟨jb,jc,eV⟩:=Kd.nk a9.out;subst eV;have gJ:=aV.out;have gK:=aD.out;obtain⟨cI,cJ,cK,cL,cN,cO⟩:=qI ae;obtain⟨jd,je,eW⟩:=Kd.mE ba.out;subst eW;obtain⟨jf,jg,eX⟩:=Kd.nk bC.out;subst eX))
    go_ret2
    exact⟨_,pH,by first | exact Kd.qT _ _ _ _ _ | exact Kd.uy _ _ _ _ _ | exact Kd.uw _ _ _ _ _ | exact Kd.ux _ _ _ _ _ | exact Kd.sJ _ _ _ _ _,hb_⟩
   ·replace uZ:=Bool.eq_false_iff.mpr uZ;subst uZ;have H1:(lO.l0 k aJ (([]:List (mh))) 0 au aq ay aI az)=some (r1,r2):=by rw [if_neg (show ¬ (false=true) by decide)] at H;exact H
    clear H;have H:=H1;clear H1;obtain⟨eH,hy⟩: ∃y_:List (mh),y_=(([]:List (mh))):=⟨_,rfl⟩
    replace H:(lO.l0 k aJ eH 0 au aq ay aI az)=some (r1,r2):=hh_;have ep:=q_ hy;clear hy;have H':=q_ H;clear H
    go_enter Tryz.func27,Tryz.ntmps27
    go_wp2_with (first | ((with_reducible refine dg (N:=2) rfl ?_);refine nR 2 #[.slice aM au.length aN, .slice aT aq.length aU] 34 ?_;intro ak hg Fo cM hb;have aa:=q_ (cM);have dQ:=mq w hg;have dR:=mq w hg;replace HB:=lT hb;clear hb cM hg;obtain⟨cQ,cT,cU,cV⟩:=nF aa) | ((with_reducible refine d8 (f:=64) rfl ?_);refine oJ 19 Tryz.func64 #[.agg #[.slice aM au.length aN, .slice aT aq.length aU], .slice A1 l1.length c1] ?_;(with_reducible refine(mU.calls k _ _ au _ _ aq _ _ l1 bG _ ?bq ?bu ?bv ?bw ?bz ?bA A3.out).mono ?_);(case bq=>exact ni mR.out HB.out);(case bu=>exact oh.out);(case bv=>exact ni ox.out HB.out);(case bw=>exact oR.out);(case bz=>exact ni pR.out HB.out);(case bA=>exact qy.out);rintro e Rc ⟨rfl,hb⟩;refine⟨_,rfl,?_⟩;replace aa:=lZ aa hb;replace HB:=lT hb;(try clear hb);(try clear hk);obtain⟨cW,cZ,da,db⟩:=nF aa) | ((with_reducible refine d8 (f:=65) rfl ?_);refine oJ 26 Tryz.func65 #[.agg #[.slice aM au.length aN, .slice aT aq.length aU], .slice A1 l1.length c1, .int .i64 201] ?_;(with_reducible refine(d7.calls k _ _ au _ _ aq _ _ l1 201 ay aI az bM aJ false _ ?bq ?bu ?bv ?bw ?bz ?bA A5.out).mono ?_);(case bq=>exact ni mR.out HB.out);(case bu=>exact oh.out);(case bv=>exact ni ox.out HB.out);(case bw=>exact oR.out);(case bz=>exact ni pR.out HB.out);(case bA=>exact qy.out);rintro e w34 ⟨eD,eF,eG,rfl,ho0,ho1,ho2,hb⟩;refine⟨_,rfl,?_⟩;have a9:=q_ (Kd.oP ho0 oI);have ba:=q_ (Kd.ng ho1 oI);have bC:=q_ (Kd.oP ho2 oI);replace aa:=lZ aa hb;replace HB:=lT hb;(try clear hb);(try clear hk);(try clear ho0);(try clear ho1);(try clear ho2)) | ((with_reducible refine dg (N:=7) rfl ?_);refine nR 7 #[.slice none 0 0, .int .i64 0, .slice none 0 0] 107 ?_;intro ai hg w35 cM hb;replace a9:=q_ (Kd.mQ (nw a9.out) hb);replace ba:=rK ba hb;replace bC:=q_ (Kd.mQ (nw bC.out) hb);have ae:=q_ (cM);have dZ:=mq w hg;have d9:=mq w hg;have aD:=r7 hg aa;have aV:=rY hg aa;replace aa:=lZ aa hb;replace HB:=lT hb;clear hb cM hg;obtain⟨bh,aY,eY⟩:=Kd.nk a9.out;subst eY;have gL:=aV.out;have gM:=aD.out;obtain⟨df,dh,di,dl,dr,du⟩:=qI ae;obtain⟨aZ,aX,eZ⟩:=Kd.mE ba.out;subst eZ;obtain⟨jh,jk,fa⟩:=Kd.nk bC.out;subst fa) | ((with_reducible refine dg (N:=35) rfl ?_);refine Kd.tu rU _ 58 ?hg (N:=35) ?hd (xs:=([]:List (mh))) (inner:= []) (ok:=fun _=>True) (oC:=fun _=>True) ?hr ?hp (fun _ hk=>hk) trivial (Below.refl _ _) (Nat.le_refl _) (by simp) ?_;(case hd=>rfl);(case hg=>rfl);(case hr=>first | (go_simp;done) | (go_simp;rfl));(case hp=>exact(mV.none _ _));intro jl w41 dC hb hg_ om;clear hg_ om;(first | rw [← ep.out] at dC | (simp only [Int.reduceToNat] at dC;rw [← ep.out] at dC));replace a9:=q_ (Kd.mQ ((kS_ (wR a9.out ae.out) (fun _ h_=>h_.1))) hb);replace ba:=q_ (Kd.oQ ((kR_ (DN ba.out ae.out) (fun _ h_=>h_.1))) hb);replace bC:=q_ (Kd.mQ ((kS_ (wR bC.out ae.out) (fun _ h_=>h_.1))) hb);have eK:=q_ (Kd.ng dC oI);replace aa:=q_ (ke (g:=ak) (o:= .cells #[.slice aM au.length aN, .slice aT aq.length aU] 34 (0,0)) (oX) hb);replace ae:=q_ (ke (g:=ai) (o:= .cells #[.slice bh ay.length aY, .int .i64 aI, .slice aZ az.length aX] 107 (0,0)) (oX) hb);replace HB:=lT hb;clear hb dC))
    go_loopg [11,12] k (fun kq v11 Di w'=> ∃(bD:List (mh)) (aK:Int),Di= .int .i64 aK∧aE (lO.l0 kq aJ bD aK au aq ay aI az=some (r1,r2))∧aE (kq≤k)∧aE (Kd.R rU 58 w' w.heap.size (fun _=>True) v11 bD)∧aE (Kd.S (Kd.slice 2 (Kd.int .i64)) 24 w' w.heap.size (fun k_=>some k_≠((.slice aZ az.length aX):Value).ownBlock) (.slice bh ay.length aY) ay)∧aE (Kd.R (Kd.int .i64) 2 w' w.heap.size (fun _=>True) (.slice aZ az.length aX) az)∧aE (w'.heap[ak]?=some (.cells #[(.slice aM au.length aN),(.slice aT aq.length aU)] 34 (0,0)))∧aE (w'.heap[ai]?=some (.cells #[(.slice bh ay.length aY), .int .i64 aI,(.slice aZ az.length aX)] 107 (0,0)))∧aE (Below w.heap.size w w'))
    case atStart=>exact⟨(eH),(0),nM,H',⟨Nat.le_refl _⟩,⟨m5 eK.out⟩,⟨kS_ a9.out (fun _ hk=>hk.1)⟩,⟨m5 ba.out⟩,⟨nj⟩,⟨nj⟩,⟨hb_⟩⟩
    case round=>
     clear H';(try clear c1);(try clear c4);(try clear qv);(try clear zK);(try clear uj);(try clear Fj);(try clear uZ);(try clear bT);(try clear bU);(try clear bX);(try clear bY);(try clear bZ);(try clear cA);(try clear cB);(try clear cE);(try clear cF);(try clear cI);(try clear cJ);(try clear cK);(try clear cQ);(try clear cT);(try clear cW);(try clear cZ);(try clear df);(try clear dh);(try clear di);(try clear dx);(try clear dz);(try clear bV);(try clear bW);(try clear cn);(try clear ct);(try clear cz);(try clear cC);(try clear cD);(try clear cG);(try clear cH);(try clear cL);(try clear cN);(try clear cO);(try clear cU);(try clear cV);(try clear da);(try clear db);(try clear dl);(try clear dr);(try clear du);(try clear dA);(try clear dB);obtain⟨bD,aK,rfl,HA,nA,aA,ag,aj,aa,ae,HB⟩:=hrel;cases gk with
     | zero=>exact absurd HA.out (by simp [lO.l0])
     | succ k1=>
      have H:=HA.out;clear HA;simp only [lO.l0] at H
      by_cases Ga:aK≤(wrap64 (2*(aq.length:Int)))
      ·rw [if_pos Ga] at H;have Jq:=decide_eq_true Ga;clear Ga;have afi:=q_ H;clear H;have gN:=aD.out;have gO:=aV.out;obtain⟨dD,dE,dF,dG⟩:=nF aa
       go_upto_if 47 with (first | ((with_reducible refine dg (N:=13) rfl ?_);refine nR 13 #[.int .i64 0, .int .i64 0] 58 ?_;intro ah hg w47 cM hb;replace aA:=q_ (Kd.oQ (Kd.um (m5 aA.out) ah (Nat.le_of_eq hg.symm)) hb);replace ag:=q_ (Kd.mQ (nw ag.out) hb);replace aj:=rK aj hb;have af:=q_ (cM);have gP:=mq w hg;have gQ:=mq w hg;have aG:=r7 hg aa;have bF:=rY hg aa;have av:=r7 hg ae;have aW:=rY hg ae;replace aa:=lZ aa hb;replace ae:=lZ ae hb;replace HB:=lT hb;clear hb cM hg;have gS:=bF.out;have gT:=aG.out;have gU:=aW.out;have gV:=av.out;obtain⟨dH,dJ,dK,dL⟩:=nF af))
       (try simp only [Act.put,List.setIfInBounds_toArray,List.set_cons_zero,List.set_cons_succ])
       go_cut [] (fun wc=> ∃(kq:Nat) (bK:Int) (bL:Int),aE (lO.j1 kq aJ bD aK au aq ay aI az bK bL=some (r1,r2))∧aE (kq≤k1)∧aE (Kd.R rU 58 wc w.heap.size (fun k_=>k_≠ah) u11 bD)∧aE (Kd.S (Kd.slice 2 (Kd.int .i64)) 24 wc w.heap.size (fun k_=>some k_≠((.slice aZ az.length aX):Value).ownBlock) (.slice bh ay.length aY) ay)∧aE (Kd.R (Kd.int .i64) 2 wc w.heap.size (fun _=>True) (.slice aZ az.length aX) az)∧aE (wc.heap[ak]?=some (.cells #[(.slice aM au.length aN),(.slice aT aq.length aU)] 34 (0,0)))∧aE (wc.heap[ai]?=some (.cells #[(.slice bh ay.length aY), .int .i64 aI,(.slice aZ az.length aX)] 107 (0,0)))∧aE (wc.heap[ah]?=some (.cells #[.int .i64 bK, .int .i64 bL] 58 (0,0)))∧aE (Below w.heap.size w wc))
       case first=>
        have H:=afi.out;clear afi
        by_cases E3:aK=aJ
        ·rw [if_pos E3] at H;have E2:=yh E3;have aam:=yg E3;clear E3
         (first | rw [E2] | (simp only [mT,nr];rw [E2]) | skip)
         have H':=q_ H;clear H;have gW:=bF.out;have gX:=aG.out;have gY:=aW.out;have gZ:=av.out;obtain⟨dM,dN,dO,dP⟩:=nF af;go_wp2
         go_meet
         case rel=>exact⟨_,(1),(1),H',⟨by have:=nA.out;first | omega | exact Nat.le_refl _⟩,⟨kR_ (Kd.nN (p:=⟨ah,1,none⟩) (Kd.nN (p:=⟨ah,0,none⟩) (Kd.nN (p:=⟨ah,1,none⟩) (Kd.nN (p:=⟨ah,0,none⟩) (Kd.fY aA.out (fun k_ hk=>(⟨hk,hk.2⟩:_∧k_≠ah))) (fun _ hk=>hk.2) (.int .i64 0)) (fun _ hk=>hk.2) (.int .i64 1)) (fun _ hk=>hk.2) (.int .i64 1)) (fun _ hk=>hk.2) (.int .i64 1)) (fun _ hk=>hk.1.2)⟩,⟨kS_ (Kd.tM (p:=⟨ah,1,none⟩) (Kd.tM (p:=⟨ah,0,none⟩) (Qk ag.out af.out) (fun _ hk=>hk.2) (.int .i64 1)) (fun _ hk=>hk.2) (.int .i64 1)) (fun _ hk=>hk.1)⟩,⟨kR_ (Kd.nN (p:=⟨ah,1,none⟩) (Kd.nN (p:=⟨ah,0,none⟩) (H7 aj.out af.out) (fun _ hk=>hk.2) (.int .i64 1)) (fun _ hk=>hk.2) (.int .i64 1)) (fun _ hk=>trivial)⟩,⟨oX⟩,⟨oX⟩,⟨oX⟩,⟨hb_⟩⟩
        ·rw [if_neg E3] at H;have E2:=uJ E3;have aam:=uI E3
         (first | rw [E2] | (simp only [mT,nr];rw [E2]) | skip)
         have H':=q_ H;clear H;go_wp2
         go_meet
         case rel=>exact⟨_,(0),(1),H',⟨by have:=nA.out;first | omega | exact Nat.le_refl _⟩,⟨kR_ (Kd.nN (p:=⟨ah,1,none⟩) (Kd.nN (p:=⟨ah,0,none⟩) (Kd.fY aA.out (fun k_ hk=>(⟨hk,hk.2⟩:_∧k_≠ah))) (fun _ hk=>hk.2) (.int .i64 0)) (fun _ hk=>hk.2) (.int .i64 1)) (fun _ hk=>hk.1.2)⟩,⟨kS_ (Qk ag.out af.out) (fun _ hk=>hk.1)⟩,⟨kR_ (H7 aj.out af.out) (fun _ hk=>trivial)⟩,⟨oX⟩,⟨oX⟩,⟨oX⟩,⟨hb_⟩⟩
       case rest=>
        clear afi;(try clear c1);(try clear c4);(try clear qv);(try clear zK);(try clear uj);(try clear Fj);(try clear uZ);(try clear Jq);(try clear E3);(try clear E2);(try clear aam);(try clear bT);(try clear bU);(try clear bX);(try clear bY);(try clear bZ);(try clear cA);(try clear cB);(try clear cE);(try clear cF);(try clear cI);(try clear cJ);(try clear cK);(try clear cQ);(try clear cT);(try clear cW);(try clear cZ);(try clear df);(try clear dh);(try clear di);(try clear dD);(try clear dE);(try clear dH);(try clear dJ);(try clear dM);(try clear dN);(try clear dx);(try clear dz);(try clear bV);(try clear bW);(try clear cn);(try clear ct);(try clear cz);(try clear cC);(try clear cD);(try clear cG);(try clear cH);(try clear cL);(try clear cN);(try clear cO);(try clear cU);(try clear cV);(try clear da);(try clear db);(try clear dl);(try clear dr);(try clear du);(try clear dF);(try clear dG);(try clear dK);(try clear dL);(try clear dO);(try clear dP);(try clear dA);(try clear dB);obtain⟨kq,bK,bL,HA,Q7,aA,ag,aj,aa,ae,af,HB⟩:=hcut;cases kq with
        | zero=>exact absurd HA.out (by simp [lO.j1])
        | succ aiP=>
         have H:=HA.out;clear HA;simp only [lO.j1] at H;have H':=q_ H;clear H;go_wp2
         go_loopg [14] aiP (fun kq DH w'=> ∃(ax:Int) (aH:Int) (aC:Int),DH= .int .i64 ax∧aE (lO.l1 kq aJ bD aK ax au aq ay aI az aH aC=some (r1,r2))∧aE (kq≤aiP)∧aE (Kd.R rU 58 w' w.heap.size (fun k_=>k_≠ah) u11 bD)∧aE (Kd.S (Kd.slice 2 (Kd.int .i64)) 24 w' w.heap.size (fun k_=>some k_≠((.slice aZ az.length aX):Value).ownBlock) (.slice bh ay.length aY) ay)∧aE (Kd.R (Kd.int .i64) 2 w' w.heap.size (fun _=>True) (.slice aZ az.length aX) az)∧aE (w'.heap[ak]?=some (.cells #[(.slice aM au.length aN),(.slice aT aq.length aU)] 34 (0,0)))∧aE (w'.heap[ai]?=some (.cells #[(.slice bh ay.length aY), .int .i64 aI,(.slice aZ az.length aX)] 107 (0,0)))∧aE (w'.heap[ah]?=some (.cells #[.int .i64 aH, .int .i64 aC] 58 (0,0)))∧aE (Below w.heap.size w w'))
         case atStart=>exact⟨(0),(bK),(bL),nM,H',⟨Nat.le_refl _⟩,⟨m5 aA.out⟩,⟨nw ag.out⟩,⟨m5 aj.out⟩,⟨nj⟩,⟨nj⟩,⟨nj⟩,⟨hb_⟩⟩
         case round=>
          clear H';(try clear c1);(try clear c4);(try clear qv);(try clear zK);(try clear uj);(try clear Fj);(try clear uZ);(try clear Jq);(try clear E3);(try clear E2);(try clear aam);(try clear bT);(try clear bU);(try clear bX);(try clear bY);(try clear bZ);(try clear cA);(try clear cB);(try clear cE);(try clear cF);(try clear cI);(try clear cJ);(try clear cK);(try clear cQ);(try clear cT);(try clear cW);(try clear cZ);(try clear df);(try clear dh);(try clear di);(try clear dD);(try clear dE);(try clear dH);(try clear dJ);(try clear dM);(try clear dN);(try clear dx);(try clear dz);(try clear bV);(try clear bW);(try clear cn);(try clear ct);(try clear cz);(try clear cC);(try clear cD);(try clear cG);(try clear cH);(try clear cL);(try clear cN);(try clear cO);(try clear cU);(try clear cV);(try clear da);(try clear db);(try clear dl);(try clear dr);(try clear du);(try clear dF);(try clear dG);(try clear dK);(try clear dL);(try clear dO);(try clear dP);(try clear dA);(try clear dB);obtain⟨ax,aH,aC,rfl,HA,yE,aA,ag,aj,aa,ae,af,HB⟩:=hrel;cases gk with
          | zero=>exact absurd HA.out (by simp [lO.l1])
          | succ k3=>
           have H:=HA.out;clear HA;simp only [lO.l1] at H
           by_cases Y2:ax < (az.length:Int)
           ·rw [if_pos Y2] at H;have aln:=decide_eq_true Y2;clear Y2
            by_cases Y1:0≤ax
            ·rw [if_pos Y1] at H;have ash:=decide_eq_true Y1;clear Y1
             by_cases Wb:(rd az ax)=aK
             ·rw [if_pos Wb] at H;have alm:=yh Wb;have alk:=yg Wb;clear Wb
              by_cases c58:ax < (ay.length:Int)
              ·rw [if_pos c58] at H;have asg:=decide_eq_true c58;clear c58
               by_cases c59:0≤aJ
               ·rw [if_pos c59] at H;have asf:=decide_eq_true c59;clear c59
                by_cases II:aJ < ((d5 ay ax).length:Int)
                ·rw [if_pos II] at H;have ase:=decide_eq_true II;clear II;replace H:=Option.bind_eq_some_iff.mp H;obtain⟨⟨bS,dw⟩,akz,H⟩:=H;replace H:(lO.l1 k3 aJ bD aK (wrap64 (ax+1)) au aq ay aI az bS dw)=some (r1,r2):=H;have A61:=q_ akz;clear akz;have H':=q_ H;clear H;have hU:=aV.out;have ia:=aD.out;have ib:=av.out;have ic:=aW.out;obtain⟨fk,fo,fp,fq,fu,fw⟩:=qI ae;have Ks:0≤(ax:Int):=l7;have JZ:ax < (az.length:Int):=l7;obtain⟨eu,aey,ahh⟩:=Kd.mA (Kd.lU aj.out).2.2 ax Ks JZ;cases aey
                 replace Ks:=eq_true Ks;replace JZ:=eq_true JZ
                 try go_wp2
                 replace aA:=q_ (Kd.mF aA.out);replace ag:=q_ (Kd.mM ag.out);replace aj:=q_ (Kd.mF aj.out);replace aa:=q_ (mI aa.out);replace ae:=q_ (mI ae.out);replace af:=q_ (mI af.out);replace HB:=q_ (mS HB.out);have ZU:0≤(ax:Int):=l7;have ZO:ax < (ay.length:Int):=l7;obtain⟨eB,gG,eI,anV,Qt,YA,YH⟩:=pI (Kd.qH ag.out).2.2 ax ZU ZO;cases anV
                 obtain⟨asb,aja,ajh,abD⟩:=Kd.alB ag.out [] ax ZU (by first | exact ZO | exact l7 | (have e_:=(Kd.qH ag.out).1;omega));obtain⟨aoD,rfl,QI⟩:=ajh;have FG:=abD 0 _ rfl;rw [Nat.add_zero,show ((Kd.slice 2 (Kd.int .i64))).sz=1 from rfl,Nat.mul_one] at FG;replace FG:=Option.some.inj (FG.symm.trans Qt);rw [FG] at QI;have xE:=q_ (show Kd.R (Kd.int .i64) 2 _ _ _ _ (d5 ay ax) from QI);clear FG QI abD aja;have DF:=q_ YH;have apD:=q_ YA;clear YH YA;replace ZU:=eq_true ZU;replace ZO:=eq_true ZO;have adA:0≤(aJ:Int):=l7;have ac8:aJ < ((d5 ay ax).length:Int):=l7;obtain⟨eC,anU,Yw⟩:=Kd.mA (by repeat (first | (with_reducible exact DF.out) | (with_reducible refine Kd.sY ?_ _) | (with_reducible refine Kd.sX ?_ _) | (with_reducible refine Kd.uc ?_) | exact DF.out)) aJ adA ac8;cases anU
                 replace adA:=eq_true adA;replace ac8:=eq_true ac8;refine qx (n:=13) (S:=fun w'=>w'.cell? ⟨ai,0,none⟩=some (.slice (some eB) ay.length aY)∧w'.cell? ⟨ai,1,none⟩=some (.int .i64 aI)∧w'.cell? ⟨ai,2,none⟩=some (.slice (some eu) az.length aX)∧w'.cell? (eB.add (ax).toNat)=some (.slice (some eC) (d5 ay ax).length eI)∧w'.cell? (eC.add (aJ).toNat)=some (.int .i64 (rd (d5 ay ax) aJ))) (ds:= []) ⟨(bp ae.out 0).trans rfl,(bp ae.out 1).trans rfl,(bp ae.out 2).trans rfl,Qt,Yw⟩ (fun hHeld=>?_);refine o9 lO.akM lO.ajA (fun pL xA=>?_)
                 generalize wr.drew=w65 at aA ag aj aa ae af HB xE DF Qt Yw hHeld ⊢
                 refine sB 0 63 2 65 5 68 9 72 ?_;refine mg 1 64 ?_;refine lX 3 66 ?_;refine mg 4 67 ?_;refine lX 6 69 ?_;refine mg 7 70 ?_;refine lX 8 71 ?_;refine mg 10 73 ?_
                 refine pz 11 (some 74) (fun K hK=>?_)
                 refine sH Tryz.func67 (by kernel_rfl) rfl #[.int .i64 (wrap64 (-(rd (d5 ay ax) aJ))), .int .i64 aI] (by rfl) rfl rfl (by(try simp only [List.map_toArray,List.map_cons,List.map_nil]);first | done | rfl | (simp only [List.length_drop,List.length_take];rfl)) ?_
                 with_reducible refine(oM.calls k3 (wrap64 (-(rd (d5 ay ax) aJ))) aI bS dw _ A61.out).mono ?_
                 rintro e w66 ⟨rfl,hb⟩;have aov:=(hb.cell (World.block_lt_of_cell? _ _ (hHeld.2.2.2.1))).trans (hHeld.2.2.2.1);have aou:=(hb.cell (World.block_lt_of_cell? _ _ (hHeld.2.2.2.2))).trans (hHeld.2.2.2.2);refine⟨_,rfl,?_⟩
                 replace aA:=rK aA hb;replace ag:=q_ (Kd.mQ (nw ag.out) hb);replace aj:=rK aj hb;replace xE:=rK xE hb;replace aa:=lZ aa hb;replace ae:=lZ ae hb;replace af:=lZ af hb;replace DF:=q_ (Kd.nW (by repeat (first | (with_reducible exact DF.out) | (with_reducible refine Kd.sY ?_ _) | (with_reducible refine Kd.sX ?_ _) | (with_reducible refine Kd.uc ?_) | exact DF.out)) hb);replace HB:=lT hb;(try clear hb)
                 
                 (try clear hk)
                 
                 refine hK.out _ _ ⟨(bp ae.out 0).trans rfl,(bp ae.out 1).trans rfl,(bp ae.out 2).trans rfl,aov,aou⟩ (fun hHeld=>?_)
                 clear hK K;refine mP (a':=?_) ?_ ?_
                 rotate_left
                 ·show Act.put _ (some 74) _=_
                  simp only [Act.put,List.setIfInBounds_toArray,List.set_cons_zero,List.set_cons_succ,mT,nr]
                  rfl
                 refine pz 12 none (fun K hK=>?_)
                 have asy:=lS af 0;have arU:=gE af.out 0;have aoO:=aG.out;have aoN:=av.out;have ape:=bF.out;have apd:=aW.out;have asx:=lS af 1;have arT:=gE af.out 1;have aoM:=aG.out;have aoL:=av.out;have apc:=bF.out;have apb:=aW.out;refine rL (w1:=?_) (by rfl) rfl ?_ ?_
                 rotate_left
                 ·go_simp
                  rfl
                 refine hK.out _ _ ⟨((cell_far (p:=⟨ah,_,none⟩) av.out _).trans (((cell_far (p:=⟨ah,_,none⟩) av.out _).trans (hHeld.1)))),((cell_far (p:=⟨ah,_,none⟩) av.out _).trans (((cell_far (p:=⟨ah,_,none⟩) av.out _).trans (hHeld.2.1)))),((cell_far (p:=⟨ah,_,none⟩) av.out _).trans (((cell_far (p:=⟨ah,_,none⟩) av.out _).trans (hHeld.2.2.1)))),((cell_far (p:=⟨ah,_,none⟩) (by first | exact Kd.tH (Kd.sP ag.out af.out (by decide)) | (rw [kf];exact Kd.tH (Kd.sP ag.out af.out (by decide))) | (show (Addr.add _ _).block≠_;rw [kf];exact Kd.tH (Kd.sP ag.out af.out (by decide))) | (dsimp only;exact Kd.tH (Kd.sP ag.out af.out (by decide)))) _).trans (((cell_far (p:=⟨ah,_,none⟩) (by first | exact Kd.tH (Kd.sP ag.out af.out (by decide)) | (rw [kf];exact Kd.tH (Kd.sP ag.out af.out (by decide))) | (show (Addr.add _ _).block≠_;rw [kf];exact Kd.tH (Kd.sP ag.out af.out (by decide))) | (dsimp only;exact Kd.tH (Kd.sP ag.out af.out (by decide)))) _).trans (hHeld.2.2.2.1)))),((cell_far (p:=⟨ah,_,none⟩) (by first | exact Kd.tH (Kd.pJ xE.out af.out (by decide)) | (rw [kf];exact Kd.tH (Kd.pJ xE.out af.out (by decide))) | (show (Addr.add _ _).block≠_;rw [kf];exact Kd.tH (Kd.pJ xE.out af.out (by decide))) | (dsimp only;exact Kd.tH (Kd.pJ xE.out af.out (by decide)))) _).trans (((cell_far (p:=⟨ah,_,none⟩) (by first | exact Kd.tH (Kd.pJ xE.out af.out (by decide)) | (rw [kf];exact Kd.tH (Kd.pJ xE.out af.out (by decide))) | (show (Addr.add _ _).block≠_;rw [kf];exact Kd.tH (Kd.pJ xE.out af.out (by decide))) | (dsimp only;exact Kd.tH (Kd.pJ xE.out af.out (by decide)))) _).trans (hHeld.2.2.2.2))))⟩ (fun hHeld=>?_)
                 clear hK K;refine oA (qj pL.out (by kernel_rfl)) ?_
                 try go_wp2
                 go_roundg k3
                 case measure=>have:=nA.out;have:=Q7.out;have:=yE.out;omega
                 case rel=>exact⟨(wrap64 (ax+1)),(bS),(dw),nM,H',⟨by have:=nA.out;have:=Q7.out;have:=yE.out;omega⟩,⟨kR_ (Kd.nN (p:=⟨ah,1,none⟩) (Kd.nN (p:=⟨ah,0,none⟩) (Kd.fY aA.out (fun k_ hk=>(⟨hk,hk⟩:_∧k_≠ah))) (fun _ hk=>hk.2) (.int .i64 bS)) (fun _ hk=>hk.2) (.int .i64 dw)) (fun _ hk=>hk.1)⟩,⟨kS_ (Qk ag.out af.out) (fun _ hk=>hk.1)⟩,⟨kR_ (H7 aj.out af.out) (fun _ hk=>trivial)⟩,⟨oX⟩,⟨oX⟩,⟨oX⟩,⟨hb_⟩⟩
                ·rw [if_neg II] at H;exact absurd H (by simp)
               ·rw [if_neg c59] at H;exact absurd H (by simp)
              ·rw [if_neg c58] at H;exact absurd H (by simp)
             ·rw [if_neg Wb] at H;have alm:=uJ Wb;have alk:=uI Wb;have H':=q_ H;clear H;have ig:=aV.out;have ij:=aD.out;have ik:=av.out;have il:=aW.out;obtain⟨fA,fB,fC,fD,fE,fF⟩:=qI ae;have Ks:0≤(ax:Int):=l7;have JZ:ax < (az.length:Int):=l7;obtain⟨eu,aey,ahh⟩:=Kd.mA (Kd.lU aj.out).2.2 ax Ks JZ;cases aey
              replace Ks:=eq_true Ks;replace JZ:=eq_true JZ;go_wp2
              go_roundg k3
              case measure=>have:=nA.out;have:=Q7.out;have:=yE.out;omega
              case rel=>exact⟨(wrap64 (ax+1)),(aH),(aC),nM,H',⟨by have:=nA.out;have:=Q7.out;have:=yE.out;omega⟩,⟨m5 aA.out⟩,⟨nw ag.out⟩,⟨m5 aj.out⟩,⟨nj⟩,⟨nj⟩,⟨nj⟩,⟨hb_⟩⟩
            ·rw [if_neg Y1] at H;exact absurd H (by simp)
           ·rw [if_neg Y2] at H;have aln:=decide_eq_false Y2;clear Y2;replace H:=Option.bind_eq_some_iff.mp H;obtain⟨⟨bE,bH,bN⟩,akx,H⟩:=H;replace H:(if bN=0 then(if bD.length < 8796093022208 then(lO.l0 k3 aJ (bD++ [(⟨bE,bH⟩:mh)]) (wrap64 (aK+1)) au aq ay aI az) else(none)) else(some (([]:List (mh)),bN)))=some (r1,r2):=H;have A72:=q_ akx;clear akx
            by_cases Wa:bN=0
            ·rw [if_pos Wa] at H;have alj:=yh Wa;have ali:=yg Wa;clear Wa
             by_cases c74:bD.length < 8796093022208
             ·rw [if_pos c74] at H;have eL:=q_ c74;clear c74;obtain⟨eJ,hy⟩: ∃y_:List (mh),y_=(bD++ [(⟨bE,bH⟩:mh)]):=⟨_,rfl⟩
              replace H:(lO.l0 k3 aJ eJ (wrap64 (aK+1)) au aq ay aI az)=some (r1,r2):=hh_;have eM:=q_ hy;clear hy;have H':=q_ H;clear H;have iq:=aV.out;have iw:=aD.out;have iy:=av.out;have iz:=aW.out;obtain⟨fG,fH,fI,fJ,fK,fL⟩:=qI ae;have iA:=bF.out;have iB:=aG.out;obtain⟨fM,fN,fO,fP⟩:=nF af
              go_wp2_with (first | ((with_reducible refine d8 (f:=68) rfl ?_);refine oJ 77 Tryz.func68 #[.agg #[.int .i64 aH, .int .i64 aC]] ?_;(with_reducible refine(pS.calls k3 aH aC bE bH bN _ A72.out).mono ?_);rintro e w80 ⟨rfl,hb⟩;refine⟨_,rfl,?_⟩;replace aA:=rK aA hb;replace ag:=q_ (Kd.mQ (nw ag.out) hb);replace aj:=rK aj hb;replace aa:=lZ aa hb;replace ae:=lZ ae hb;replace af:=lZ af hb;replace HB:=lT hb;(try clear hb);(try clear hk)) | ((with_reducible refine dg (N:=15) rfl ?_);refine nR 15 #[.int .i64 0, .int .i64 0] 58 ?_;intro aw hg w81 cM hb;replace aA:=q_ (Kd.oQ (Kd.um (m5 aA.out) aw (Nat.le_of_eq hg.symm)) hb);replace ag:=q_ (Kd.mQ (nw ag.out) hb);replace aj:=rK aj hb;have bg:=q_ (cM);have eO:=mq w hg;have eP:=mq w hg;have bI:=r7 hg aa;have bO:=rY hg aa;have bJ:=r7 hg ae;have bP:=rY hg ae;have bi:=r7 hg af;have bQ:=rY hg af;replace aa:=lZ aa hb;replace ae:=lZ ae hb;replace af:=lZ af hb;replace HB:=lT hb;clear hb cM hg;have iC:=bO.out;have iD:=bI.out;have iE:=bP.out;have iF:=bJ.out;have iG:=bQ.out;have iH:=bi.out;obtain⟨fQ,fR,fS,fT⟩:=nF bg) | ((with_reducible refine nL (b:= .append) (xs:= #[.tmp 83, .tmp 85]) rfl ?_);at_builtin;refine Kd.qo rU (w0:=w) w.heap.size rfl (.tmp 83) (.tmp 85) 49 58 (.agg #[(.int .i64 0),(.int .i64 0)]) 16 rfl Tryz.underlying49 Ip rfl (by decide) (by omega) u11 bD (⟨bE,bH⟩:mh) [.int .i64 bE, .int .i64 bH] (fun k_=>k_≠ah∧k_≠aw) (fun _=>False) rfl (by first | (go_simp;done) | (go_simp;rfl)) ?aP (fun _ hk=>hk.elim) ?aF ?aO ?aB ?aS ?aL ?_;(case aP=>exact Fz _ _ _ (⟨bE,bH⟩:mh));(case aB=>exact hb_);(case aF=>exact(fun k_ hk=>⟨Kd.F6 (g:=ah) (o:= .cells #[.int .i64 aH, .int .i64 aC] 58 (0,0)) (oX) k_ hk,Kd.F6 (g:=aw) (o:= .cells #[.int .i64 bE, .int .i64 bH] 58 (0,0)) (oX) k_ hk⟩));(case aO=>exact(kR_ (Kd.nN (p:=⟨aw,1,none⟩) (Kd.nN (p:=⟨aw,0,none⟩) (Kd.fY aA.out (fun k_ hk=>(⟨hk,hk.2⟩:_∧k_≠aw))) (fun _ hk=>hk.2) (.int .i64 bE)) (fun _ hk=>hk.2) (.int .i64 bH)) (fun _ hk=>⟨hk.1.1,hk.1.2⟩)));(case aS=>exact oI);(case aL=>have:=eL.out;omega);intro jm w86 ho hb hg hat;rw [← eM.out] at ho;replace ag:=q_ (Kd.Gc ((kS_ (Qk ag.out bg.out) (fun _ h_=>h_.1))) (Kd.AB ((kR_ (Kd.nN (p:=⟨aw,1,none⟩) (Kd.nN (p:=⟨aw,0,none⟩) (Kd.fY aA.out (fun k_ hk=>(⟨hk,hk.2⟩:_∧k_≠aw))) (fun _ hk=>hk.2) (.int .i64 bE)) (fun _ hk=>hk.2) (.int .i64 bH)) (fun _ h_=>h_.1)))) (by decide) hg);replace aj:=q_ (Kd.wh ((kR_ (H7 aj.out bg.out) (fun _ h_=>h_.1))) (Kd.AB ((kR_ (Kd.nN (p:=⟨aw,1,none⟩) (Kd.nN (p:=⟨aw,0,none⟩) (Kd.fY aA.out (fun k_ hk=>(⟨hk,hk.2⟩:_∧k_≠aw))) (fun _ hk=>hk.2) (.int .i64 bE)) (fun _ hk=>hk.2) (.int .i64 bH)) (fun _ h_=>h_.1)))) (by decide) hg);replace aa:=q_ (m8 (g:=ak) (o:= .cells #[.slice aM au.length aN, .slice aT aq.length aU] 34 (0,0)) (oX) hg (Kd.pJ aA.out aa.out (by decide)));replace ae:=q_ (m8 (g:=ai) (o:= .cells #[.slice bh ay.length aY, .int .i64 aI, .slice aZ az.length aX] 107 (0,0)) (oX) hg (Kd.pJ aA.out ae.out (by decide)));replace af:=q_ (m8 (g:=ah) (o:= .cells #[.int .i64 aH, .int .i64 aC] 58 (0,0)) (oX) hg (Kd.I0 aA.out (fun _ hk=>hk.1)));replace HB:=q_ (hb);have eQ:=q_ (ho);replace bg:=q_ (m8 (g:=aw) (o:= .cells #[.int .i64 bE, .int .i64 bH] 58 (0,0)) (oX) hg (Kd.I0 aA.out (fun _ hk=>hk.2)));clear aA ho hb hg hat))
              go_roundg k3
              case measure=>have:=nA.out;have:=Q7.out;have:=yE.out;omega
              case rel=>exact⟨(eJ),(wrap64 (aK+1)),nM,H',⟨by have:=nA.out;have:=Q7.out;have:=yE.out;omega⟩,⟨kR_ eQ.out (fun _ hk=>trivial)⟩,⟨nw ag.out⟩,⟨m5 aj.out⟩,⟨nj⟩,⟨nj⟩,⟨hb_⟩⟩
             ·rw [if_neg c74] at H;exact absurd H (by simp)
            ·rw [if_neg Wa] at H;have alj:=uJ Wa;have ali:=uI Wa;simp only [Option.some.injEq,Prod.mk.injEq] at H;obtain⟨rfl,rfl⟩:=H;have iI:=aV.out;have iJ:=aD.out;have iK:=av.out;have iL:=aW.out;obtain⟨fU,fW,fZ,f7,f8,f9⟩:=qI ae;have iM:=bF.out;have iN:=aG.out;obtain⟨ga,gh,gi,gj⟩:=nF af
             go_wp2_with (first | ((with_reducible refine d8 (f:=68) rfl ?_);refine oJ 77 Tryz.func68 #[.agg #[.int .i64 aH, .int .i64 aC]] ?_;(with_reducible refine(pS.calls k3 aH aC bE bH bN _ A72.out).mono ?_);rintro e w92 ⟨rfl,hb⟩;refine⟨_,rfl,?_⟩;replace aA:=rK aA hb;replace ag:=q_ (Kd.mQ (nw ag.out) hb);replace aj:=rK aj hb;replace aa:=lZ aa hb;replace ae:=lZ ae hb;replace af:=lZ af hb;replace HB:=lT hb;(try clear hb);(try clear hk)) | ((with_reducible refine dg (N:=15) rfl ?_);refine nR 15 #[.int .i64 0, .int .i64 0] 58 ?_;intro aw hg w93 cM hb;replace aA:=q_ (Kd.oQ (Kd.um (m5 aA.out) aw (Nat.le_of_eq hg.symm)) hb);replace ag:=q_ (Kd.mQ (nw ag.out) hb);replace aj:=rK aj hb;have bg:=q_ (cM);have eO:=mq w hg;have eP:=mq w hg;have bI:=r7 hg aa;have bO:=rY hg aa;have bJ:=r7 hg ae;have bP:=rY hg ae;have bi:=r7 hg af;have bQ:=rY hg af;replace aa:=lZ aa hb;replace ae:=lZ ae hb;replace af:=lZ af hb;replace HB:=lT hb;clear hb cM hg;have iO:=bO.out;have iP:=bI.out;have iQ:=bP.out;have iR:=bJ.out;have iS:=bQ.out;have iT:=bi.out;obtain⟨gp,gx,gy,gz⟩:=nF bg))
             go_ret2
             exact⟨_,pH,by first | exact Kd.qT _ _ _ _ _ | exact Kd.uy _ _ _ _ _ | exact Kd.uw _ _ _ _ _ | exact Kd.ux _ _ _ _ _ | exact Kd.sJ _ _ _ _ _,hb_⟩
      ·rw [if_neg Ga] at H;have Jq:=decide_eq_false Ga;clear Ga;simp only [Option.some.injEq,Prod.mk.injEq] at H;obtain⟨rfl,rfl⟩:=H;have iU:=aD.out;have iV:=aV.out;obtain⟨gA,gB,gC,gF⟩:=nF aa;go_wp2
       go_ret2
       exact⟨_,pH,m5 aA.out,hb_⟩
 ·rw [if_neg c4] at H;have qv:=uJ c4;have zK:=uI c4;simp only [Option.some.injEq,Prod.mk.injEq] at H;obtain⟨rfl,rfl⟩:=H
  go_enter Tryz.func27,Tryz.ntmps27
  go_wp2_with (first | ((with_reducible refine dg (N:=2) rfl ?_);refine nR 2 #[.slice aM au.length aN, .slice aT aq.length aU] 34 ?_;intro ak hg amR cM hb;have aa:=q_ (cM);have dQ:=mq w hg;have dR:=mq w hg;replace HB:=lT hb;clear hb cM hg;obtain⟨fc,fe,fg,fj⟩:=nF aa) | ((with_reducible refine d8 (f:=64) rfl ?_);refine oJ 19 Tryz.func64 #[.agg #[.slice aM au.length aN, .slice aT aq.length aU], .slice A1 l1.length c1] ?_;(with_reducible refine(mU.calls k _ _ au _ _ aq _ _ l1 bG _ ?bq ?bu ?bv ?bw ?bz ?bA A3.out).mono ?_);(case bq=>exact ni mR.out HB.out);(case bu=>exact oh.out);(case bv=>exact ni ox.out HB.out);(case bw=>exact oR.out);(case bz=>exact ni pR.out HB.out);(case bA=>exact qy.out);rintro e asw ⟨rfl,hb⟩;refine⟨_,rfl,?_⟩;replace aa:=lZ aa hb;replace HB:=lT hb;(try clear hb);(try clear hk)))
  go_ret2
  exact⟨_,pH,by first | exact Kd.qT _ _ _ _ _ | exact Kd.uy _ _ _ _ _ | exact Kd.uw _ _ _ _ _ | exact Kd.ux _ _ _ _ _ | exact Kd.sJ _ _ _ _ _,hb_⟩
end Go.Proofs.YthmfdplckdijdaaGreat.Pr
end
