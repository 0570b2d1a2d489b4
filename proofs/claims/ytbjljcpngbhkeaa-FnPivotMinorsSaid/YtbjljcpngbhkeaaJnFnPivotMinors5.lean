/- Texts of one claim (the words of the kit's print that the claim uses, printed functions, and this session's own texts), joined in the order of their imports by this session's own program (merge.py). -/
import Derived.SizedLaws
import Derived.ChangeSlices
import Derived.Deep.Slices
import Derived.Deep.Fields
import Derived.Lib.SmallJoins
import Derived.Test.YtbjljcpngbhkeaaRows
import Derived.WalkKit
import Derived.ProofKit
import Derived.OpenShut
import Derived.ShutString
import Derived.ChangeOld
import Derived.Below
import Derived.Test.YtbjljcpngbhkeaaJnFnPivotMinors0
import Derived.Test.YtbjljcpngbhkeaaJnFnPivotMinors1
import Derived.Test.YtbjljcpngbhkeaaJnFnPivotMinors2
import Derived.Test.YtbjljcpngbhkeaaJnFnPivotMinors4
set_option linter.unusedVariables false
set_option linter.unusedSimpArgs false
set_option maxHeartbeats 8000000
set_option maxRecDepth 100000
section
namespace Go.Proofs.Ytbjljcpngbhkeaa.Dr
open Go.RowKit Wz.PrintWords Wz.PrintLast Wz.PrintMore Ma Pr Lq Al
theorem PbOut.begin_ {w0 wE w1 w:World} {g lo n:Nat} {v:Value} (h:PbOut w0 w1 g lo n v w) (hS:Stp w0 wE g w1):PbOut w0 wE g lo n v w:=⟨h.1,hS.trans h.2⟩
theorem draw4_c {w0 w:World} {g:Nat} (h:Srm w0 w g) (hB:Below w0.heap.size w0 w):Calls Try.prog 50 #[.pointer (some ⟨g,0,none⟩)] w fun e w'=> ∃n v,0 < n∧n≤5∧e= .returned v∧PbOut w0 w g w.heap.size n v w':=by
 have ST:=q_ (Stp.refl h hB);have HG:=q_ h.lt;have HE:=q_ hB.size;clear h hB
 go_enter Try.func50,Try.ntmps50
 go_wp2_with (first | ((with_reducible refine gate_dst (N:=2) rfl ?_);refine be_ 2 #[.slice none 0 0, .slice none 0 0] 27 ?_;intro g2 hg w2 hbox hb;have G2:=q_ (show w.heap.size≤g2 by rw [hg];exact Nat.le_refl _);have B2:=q_ hbox;replace ST:=q_ (ST.out.trans (Stp.of_below ST.out.src ST.out.below hb));clear hg hbox hb))
 have LB:=q_ (blk_lt B2.out);have LE:=q_ (ST.out.keep.1);refine(spoil_c ST.out.src ST.out.below).mono ?_
 rintro e w3 ⟨n,v,hn0,hn5,rfl,hO⟩;obtain⟨hO1,hS⟩:=hO;have HN:=q_ hn5;have HN0:=q_ hn0;replace B2:=q_ (hS.keep.blk B2.out (by have:=G2.out;have:=HG.out;omega) (by simp));have L23:=q_ hS.keep.1;replace ST:=q_ (ST.out.trans hS);clear hS hn0 hn5;rcases hO1 with rfl | ⟨gm,c,b,cp,A,c1,Q,rfl,hPb⟩
 ·skip
  go_wp2_with (first | ((with_reducible refine gate_dst (N:=3) rfl ?_);refine be_ 3 #[.slice none 0 0, .slice none 0 0] 27 ?_;intro g3 hg w4 hbox hb;have G3:=q_ (show w3.heap.size≤g3 by rw [hg];exact Nat.le_refl _);have B3:=q_ hbox;have HB4:=q_ hb;have hx0:=cz_ B3 0;have hx1:=cz_ B3 1;have fx0:=blk_frozen hbox 0;have fx1:=blk_frozen hbox 1;clear hg hbox hb) | ((with_reducible refine gate_store (t:=27) (p:=3) rfl ?_);refine se_ 27 3 ((w4.setCell ⟨g3,0,none⟩ (.slice none 0 0)).setCell ⟨g3,1,none⟩ (.slice none 0 0)) ?_;intro w5 hw;have hs_:Stp w0 w3 g w5:=Stp.of_below ST.out.src ST.out.below (by rw [hw];exact below_set (below_set HB4.out G3.out) G3.out);have E3:=q_ (show w2.heap.size≤g3∧g3≠g by have:=G3.out;have:=ST.out.src.lt;have:=L23.out;exact⟨by omega,by omega⟩);replace B2:=q_ (hs_.keep.blk B2.out (by have:=G2.out;have:=HG.out;omega) (by simp));replace B3:=q_ (show w5.heap[g3]?=some (.cells #[.slice none 0 0, .slice none 0 0] 27 (0,0)) by rw [hw];exact blk_put (blk_put B3.out 0 _ rfl) 1 _ rfl);replace ST:=q_ (ST.out.trans hs_);clear hs_ hw hx0 hx1 fx0 fx1 HB4;have hx0:=cz_ B3 0;have hx1:=cz_ B3 1))
  obtain⟨ki,hki⟩: ∃k,spec_l01Is.f k [] []=some false:=by
   classical
   obtain⟨k,hk⟩:=Pb.spec_is [] [] (by simp) false (by simp;intro h;have:=h.mat.n1;simp at this);exact⟨k,hk k (Nat.le_refl _)⟩
  refine(spec_l01Is.calls ki none 0 [] none 0 [] false _ (Kd.C_nil _ _) (Nat.le_refl _) (Kd.C_nil _ _) (Nat.le_refl _) hki).mono ?_
  rintro e w6 ⟨rfl,hb⟩;have hs_:=Stp.of_below ST.out.src ST.out.below hb;replace B2:=q_ (hs_.keep.blk B2.out (by have:=G2.out;have:=HG.out;omega) (by simp));replace B3:=q_ (hs_.keep.blk B3.out E3.out.2 (by simp));replace ST:=q_ (ST.out.trans hs_);clear hs_ hb hx0 hx1;obtain⟨x0,x1,f0,f1⟩:=c2_ B2;have hx0:=cz_ B3 0;have hx1:=cz_ B3 1;go_wp2
  refine bodyPost_ret (results_cell_row rfl _ _ g2 27 #[.slice none 0 0, .slice none 0 0] (0,0) _ rfl (blk_put (blk_put B2.out 0 _ rfl) 1 _ rfl) Try.underlying27 rfl (by kernel_rfl)) rfl ?_
  have g2a:=G2.out;have hgg:=HG.out;have lb:=LB.out;have le:=LE.out;exact⟨n,_,HN0.out,HN.out,rfl,⟨.inl rfl,(ST.out.set HE.out g2 0 _ g2a (by omega)).set HE.out g2 1 _ g2a (by omega)⟩⟩
 ·have P:=q_ hPb;have FRB0:Aside0 (∀j,j < n→b j < w3.heap.size):=⟨fun j hj=>(hPb.dm.rr j hj).2.1⟩
  clear hPb
  go_wp2_with (first | ((with_reducible refine gate_dst (N:=3) rfl ?_);refine be_ 3 #[.slice none 0 0, .slice none 0 0] 27 ?_;intro g3 hg w4 hbox hb;have G3:=q_ (show w3.heap.size≤g3 by rw [hg];exact Nat.le_refl _);have B3:=q_ hbox;have HB4:=q_ hb;have hx0:=cz_ B3 0;have hx1:=cz_ B3 1;have fx0:=blk_frozen hbox 0;have fx1:=blk_frozen hbox 1;clear hg hbox hb) | ((with_reducible refine gate_store (t:=27) (p:=3) rfl ?_);refine se_ 27 3 ((w4.setCell ⟨g3,0,none⟩ (.slice (some ⟨gm,0,none⟩) n c)).setCell ⟨g3,1,none⟩ (.slice A Q.length c1)) ?_;intro w5 hw;have hs_:Stp w0 w3 g w5:=Stp.of_below ST.out.src ST.out.below (by rw [hw];exact below_set (below_set HB4.out G3.out) G3.out);have E3:=q_ (show w2.heap.size≤g3∧g3≠g by have:=G3.out;have:=ST.out.src.lt;have:=L23.out;exact⟨by omega,by omega⟩);replace B2:=q_ (hs_.keep.blk B2.out (by have:=G2.out;have:=HG.out;omega) (by simp));replace B3:=q_ (show w5.heap[g3]?=some (.cells #[.slice (some ⟨gm,0,none⟩) n c, .slice A Q.length c1] 27 (0,0)) by rw [hw];exact blk_put (blk_put B3.out 0 _ rfl) 1 _ rfl);replace P:=q_ (P.out.mv hs_ (Nat.lt_of_lt_of_le HG.out LE.out));replace ST:=q_ (ST.out.trans hs_);clear hs_ hw hx0 hx1 fx0 fx1 HB4;have hx0:=cz_ B3 0;have hx1:=cz_ B3 1))
  have FRB:Aside0 (∀j,j < n→b j≠g3):=⟨fun j hj=>by have:=FRB0.out j hj;have:=G3.out;omega⟩
  clear FRB0;obtain⟨M,hML,hMr,hMC⟩:=P.out.dm.C (by have:=HN.out;omega);obtain⟨hq1,hq2,hq3⟩:=Kd.R_reads' P.out.rq;obtain⟨bi,ki,hki,hbi⟩: ∃(bi:Bool) (k:Nat),spec_l01Is.f k M Q=some bi∧(bi=true→Q.length=n):=by
   classical
   obtain⟨k,hk⟩:=Pb.spec_is M Q (by have:=P.out.ql;have:=HN.out;omega) (decide (Pb.POK M Q)) (by simp);exact⟨_,k,hk k (Nat.le_refl _),fun h=>by have:=(of_decide_eq_true h).len;omega⟩
  have hcall:=spec_l01Is.calls ki (some ⟨gm,0,none⟩) c M A c1 Q bi _ hMC (by rw [hML];exact P.out.dm.cap) hq3 hq2 hki;rw [hML] at hcall;refine hcall.mono ?_
  clear hcall;rintro e w6 ⟨rfl,hb⟩;have hs_:=Stp.of_below ST.out.src ST.out.below hb;replace B2:=q_ (hs_.keep.blk B2.out (by have:=G2.out;have:=HG.out;omega) (by simp));replace B3:=q_ (hs_.keep.blk B3.out E3.out.2 (by simp));replace ST:=q_ (ST.out.trans hs_);replace P:=q_ (P.out.mv hs_ (Nat.lt_of_lt_of_le HG.out LE.out));have HBI:=q_ hbi;clear hs_ hb hx0 hx1 hbi hki hMC hML hMr hq1 hq2 hq3;cases bi with
  | false=>
   obtain⟨x0,x1,f0,f1⟩:=c2_ B2;have hx0:=cz_ B3 0;have hx1:=cz_ B3 1;go_wp2
   refine bodyPost_ret (results_cell_row rfl _ _ g2 27 #[.slice (some ⟨gm,0,none⟩) n c, .slice A Q.length c1] (0,0) _ rfl (blk_put (blk_put B2.out 0 _ rfl) 1 _ rfl) Try.underlying27 rfl (by kernel_rfl)) rfl ?_
   have g2a:=G2.out;have hgg:=HG.out;have lb:=LB.out;have le:=LE.out;exact⟨n,_,HN0.out,HN.out,rfl,⟨.inr ⟨gm,c,b,cp,A,c1,Q,rfl,((P.out.far lb 0 _).far lb 1 _).down le⟩,(ST.out.set HE.out g2 0 _ g2a (by omega)).set HE.out g2 1 _ g2a (by omega)⟩⟩
  | true=>
   have hqn:=HBI.out rfl;subst hqn;clear HBI
   go_wp2_with fail
   refine(next_c ST.out.src ST.out.below 2).mono ?_
   rintro e w7 ⟨y,rfl,_,hS⟩;replace B2:=q_ (hS.keep.blk B2.out (by have:=G2.out;have:=HG.out;omega) (by simp));replace B3:=q_ (hS.keep.blk B3.out E3.out.2 (by simp));replace ST:=q_ (ST.out.trans hS);replace P:=q_ (P.out.mv hS (Nat.lt_of_lt_of_le HG.out LE.out));clear hS
   by_cases y0:y=0
   ·have y0b:(y==0)=true:=by simpa using y0
    clear y0;obtain⟨x0,x1,f0,f1⟩:=c2_ B2;have hx0:=cz_ B3 0;have hx1:=cz_ B3 1;go_wp2
    refine bodyPost_ret (results_cell_row rfl _ _ g2 27 #[.slice (some ⟨gm,0,none⟩) Q.length c, .slice A Q.length c1] (0,0) _ rfl (blk_put (blk_put B2.out 0 _ rfl) 1 _ rfl) Try.underlying27 rfl (by kernel_rfl)) rfl ?_
    have g2a:=G2.out;have hgg:=HG.out;have lb:=LB.out;have le:=LE.out;exact⟨Q.length,_,HN0.out,HN.out,rfl,⟨.inr ⟨gm,c,b,cp,A,c1,Q,rfl,((P.out.far lb 0 _).far lb 1 _).down le⟩,(ST.out.set HE.out g2 0 _ g2a (by omega)).set HE.out g2 1 _ g2a (by omega)⟩⟩
   ·have y0b:(y==0)=false:=by simpa using y0
    clear y0;have N23:Aside0 (∀j,j < Q.length→g3≠b j∧g2≠b j):=⟨fun j hj=>⟨fun q=>FRB.out j hj q.symm,fun q=>by have:=(P.out.dm.rr j hj).1;have:=LB.out;omega⟩⟩
    have hx0:=cz_ B3 0;have hx1:=cz_ B3 1;go_wp2
    clear hx0 hx1 y0b
    go_loopg [5,6,7] Q.length (fun gg v5 v6 v7 wr=> ∃i:Nat,i≤Q.length∧Q.length - i≤gg∧v5= .int .i64 (i:Int)∧Aside0 (Stp w0 w g wr)∧Aside0 (wr.heap[g2]?=some (.cells #[.slice none 0 0, .slice none 0 0] 27 (0,0)))∧Aside0 (wr.heap[g3]?=some (.cells #[.slice (some ⟨gm,0,none⟩) Q.length c, .slice A Q.length c1] 27 (0,0)))∧Aside0 (Pb wr g w2.heap.size Q.length gm c b cp A c1 Q))
    case atStart=>exact⟨0,Nat.zero_le _,by omega,rfl,ST,B2,B3,P⟩
    case round=>
     clear ST B2 B3 P;obtain⟨i,hi',hg,rfl,ST,B2,B3,P⟩:=hrel;have HGG:=q_ hg;have hx0:=cz_ B3 0;have hx1:=cz_ B3 1
     by_cases hlt:i < Q.length
     ·have hltz:(i:Int) < (Q.length:Int):=by omega
      have h0z:(0:Int)≤(i:Int):=by omega
      have hwi:IntKind.i64.wrap ((i:Int)+1)=((i+1:Nat):Int):=by rw [IntWalk.i64_in _ (by have:=HN.out;omega)];rfl
      have HWI:=q_ hwi;have HLT:=q_ hlt;have hrow:=P.out.dm.row i hlt;clear hi' hg hlt hwi;go_wp2
      clear hrow hx0 hx1
      go_loopg [7] Q.length (fun gg v7 wr=> ∃k:Nat,k≤Q.length∧Q.length - k≤gg∧v7= .int .i64 (k:Int)∧Aside0 (Stp w0 w g wr)∧Aside0 (wr.heap[g2]?=some (.cells #[.slice none 0 0, .slice none 0 0] 27 (0,0)))∧Aside0 (wr.heap[g3]?=some (.cells #[.slice (some ⟨gm,0,none⟩) Q.length c, .slice A Q.length c1] 27 (0,0)))∧Aside0 (Pb wr g w2.heap.size Q.length gm c b cp A c1 Q))
      case atStart=>exact⟨0,Nat.zero_le _,by omega,rfl,ST,B2,B3,P⟩
      case round=>
       clear ST B2 B3 P;obtain⟨k,hk',hg2,rfl,ST,B2,B3,P⟩:=hrel;have HG2:=q_ hg2
       by_cases hkn:k < Q.length
       ·have hknz:(k:Int) < (Q.length:Int):=by omega
        have h0k:(0:Int)≤(k:Int):=by omega
        have hwk:IntKind.i64.wrap ((k:Int)+1)=((k+1:Nat):Int):=by rw [IntWalk.i64_in _ (by have:=HN.out;omega)];rfl
        have HWK:=q_ hwk;have HKN:=q_ hkn;clear hk' hg2 hkn hwk
        by_cases eik:i=k
        ·have ck:((i:Int)==(k:Int))=true:=by simp [eik]
         clear eik
         go_wp2_with (first | ((with_reducible refine gate_dst (N:=49) rfl ?_);refine Kd.R_lit (Kd.int .i64) _ 2 ?hg (N:=49) ?hd (xs:=([1,1, -1]:List Int)) (inner:= [.int .i64 1, .int .i64 1, .int .i64 (-1)]) (ok:=fun _=>True) (okp:=fun _=>True) ?hr ?hp (fun _ hk=>hk) trivial (Below.refl _ _) (Nat.le_refl _) (by simp) ?_;(case hd=>rfl);(case hg=>rfl);(case hr=>first | (go_simp;done) | (go_simp;rfl));(case hp=>exact lit_reps [1,1, -1]);intro v49 w10 ho hb hg_ hnew_;obtain⟨g49,c49,rfl,hb49,hl49,_⟩:=Kd.R_form ho (by simp);have G49:=q_ (Nat.lt_of_lt_of_le ST.out.src.lt hb49);have hs_:=Stp.of_below ST.out.src ST.out.below hb;replace B2:=q_ (hs_.keep.blk B2.out (by have:=G2.out;have:=HG.out;omega) (by simp));replace B3:=q_ (hs_.keep.blk B3.out E3.out.2 (by simp));replace P:=q_ (P.out.mv hs_ (Nat.lt_of_lt_of_le HG.out LE.out));replace ST:=q_ (ST.out.trans hs_);have R49:=q_ ho;clear hs_ hb49 hl49 hg_ hnew_ ho hb))
         refine(pick_c ST.out.src ST.out.below _ c49 [1,1, -1] (Kd.R_reads' R49.out).2.2 (Kd.R_reads' R49.out).2.1 (fun ad e _=>by injection e with e;subst e;show g49≠g;have:=G49.out;omega) (by decide)).mono ?_
         rintro e w11 ⟨x,rfl,_,hS⟩;replace B2:=q_ (hS.keep.blk B2.out (by have:=G2.out;have:=HG.out;omega) (by simp));replace B3:=q_ (hS.keep.blk B3.out E3.out.2 (by simp));replace P:=q_ (P.out.mv hS (Nat.lt_of_lt_of_le HG.out LE.out));replace ST:=q_ (ST.out.trans hS);clear hS R49 G49;obtain⟨⟨z,hz⟩,fz⟩:=P.out.dm.ints i k HLT.out HKN.out;go_wp2
         go_roundg (Q.length - (k+1))
         case measure=>have:=HG2.out;have:=HKN.out;omega
         case rel=>
          have hr:=P.out.dm.rr i HLT.out;have hE:=HE.out;have le:=LE.out;have hgg:=HG.out;have n23:=N23.out i HLT.out;exact⟨k+1,HKN.out,by omega,by first | rfl | (have h_:=HWK.out;rw [i64_w] at h_;rw [h_]) | (rw [HWK.out]),⟨ST.out.set HE.out (b i) k _ (by omega) (by omega)⟩,⟨(Below.heap_setCell _ ⟨b i,k,none⟩ _ g2 n23.2).trans B2.out⟩,⟨(Below.heap_setCell _ ⟨b i,k,none⟩ _ g3 n23.1).trans B3.out⟩,⟨⟨P.out.dm.put HLT.out HKN.out _,Kd.R_far P.out.rq (p:=⟨b i,k,none⟩) (fun q hq=>hq.2.2 i HLT.out) _,P.out.ql⟩⟩⟩
        ·have ck:((i:Int)==(k:Int))=false:=by simpa using (show ¬ (i:Int)=(k:Int) by omega)
         by_cases lki:k < i
         ·have ck2:decide ((k:Int) < (i:Int))=true:=decide_eq_true (by omega);have ck3:k < i:=lki;obtain⟨⟨z,hz⟩,fz⟩:=P.out.dm.ints i k HLT.out HKN.out;go_wp2
          go_roundg (Q.length - (k+1))
          case measure=>have:=HG2.out;have:=HKN.out;omega
          case rel=>
           have hr:=P.out.dm.rr i HLT.out;have hE:=HE.out;have le:=LE.out;have hgg:=HG.out;have n23:=N23.out i HLT.out;exact⟨k+1,HKN.out,by omega,by first | rfl | (have h_:=HWK.out;rw [i64_w] at h_;rw [h_]) | (rw [HWK.out]),⟨ST.out.set HE.out (b i) k _ (by omega) (by omega)⟩,⟨(Below.heap_setCell _ ⟨b i,k,none⟩ _ g2 n23.2).trans B2.out⟩,⟨(Below.heap_setCell _ ⟨b i,k,none⟩ _ g3 n23.1).trans B3.out⟩,⟨⟨P.out.dm.put HLT.out HKN.out _,Kd.R_far P.out.rq (p:=⟨b i,k,none⟩) (fun q hq=>hq.2.2 i HLT.out) _,P.out.ql⟩⟩⟩
         ·have ck2:decide ((k:Int) < (i:Int))=false:=decide_eq_false (by omega);have ck3: ¬ k < i:=lki
          go_wp2_with fail
          refine(part_c ST.out.src ST.out.below 2).mono ?_
          rintro e w11 ⟨x,rfl,hS⟩;replace B2:=q_ (hS.keep.blk B2.out (by have:=G2.out;have:=HG.out;omega) (by simp));replace B3:=q_ (hS.keep.blk B3.out E3.out.2 (by simp));replace P:=q_ (P.out.mv hS (Nat.lt_of_lt_of_le HG.out LE.out));replace ST:=q_ (ST.out.trans hS);clear hS;obtain⟨⟨z,hz⟩,fz⟩:=P.out.dm.ints i k HLT.out HKN.out;go_wp2
          go_roundg (Q.length - (k+1))
          case measure=>have:=HG2.out;have:=HKN.out;omega
          case rel=>
           have hr:=P.out.dm.rr i HLT.out;have hE:=HE.out;have le:=LE.out;have hgg:=HG.out;have n23:=N23.out i HLT.out;exact⟨k+1,HKN.out,by omega,by first | rfl | (have h_:=HWK.out;rw [i64_w] at h_;rw [h_]) | (rw [HWK.out]),⟨ST.out.set HE.out (b i) k _ (by omega) (by omega)⟩,⟨(Below.heap_setCell _ ⟨b i,k,none⟩ _ g2 n23.2).trans B2.out⟩,⟨(Below.heap_setCell _ ⟨b i,k,none⟩ _ g3 n23.1).trans B3.out⟩,⟨⟨P.out.dm.put HLT.out HKN.out _,Kd.R_far P.out.rq (p:=⟨b i,k,none⟩) (fun q hq=>hq.2.2 i HLT.out) _,P.out.ql⟩⟩⟩
       ·have hknz: ¬ (k:Int) < (Q.length:Int):=by omega
        clear hk' hg2 hkn;go_wp2
        go_roundg (Q.length - (i+1))
        case measure=>have:=HGG.out;have:=HLT.out;omega
        case rel=>exact⟨i+1,HLT.out,by omega,by first | rfl | (have h_:=HWI.out;rw [i64_w] at h_;rw [h_]) | (rw [HWI.out]),ST,B2,B3,P⟩
     ·have hltz: ¬ (i:Int) < (Q.length:Int):=by omega
      clear hi' hg hlt hx0 hx1;obtain⟨x0,x1,f0,f1⟩:=c2_ B2;have hx0:=cz_ B3 0;have hx1:=cz_ B3 1;go_wp2
      refine bodyPost_ret (results_cell_row rfl _ _ g2 27 #[.slice (some ⟨gm,0,none⟩) Q.length c, .slice A Q.length c1] (0,0) _ rfl (blk_put (blk_put B2.out 0 _ rfl) 1 _ rfl) Try.underlying27 rfl (by kernel_rfl)) rfl ?_
      have g2a:=G2.out;have hgg:=HG.out;have lb:=LB.out;have le:=LE.out;exact⟨Q.length,HN0.out,HN.out,_,rfl,⟨.inr ⟨gm,c,b,cp,A,c1,Q,rfl,((P.out.far lb 0 _).far lb 1 _).down le⟩,(ST.out.set HE.out g2 0 _ g2a (by omega)).set HE.out g2 1 _ g2a (by omega)⟩⟩
theorem with4_c {w:World} {A0:Option Addr} {c0:Nat} {l0:List Int} (hr0:Kd.C (Kd.int .u8) w A0 l0.length l0) (hc0:l0.length≤c0) (hb: ∀i:Nat,0≤l0.getD i 0∧l0.getD i 0≤255) (hl:l0.length≤4096):Calls Try.prog 36 #[.slice A0 l0.length c0] w fun e w'=> ∃n v k,e= .returned (.tuple #[v, .int .i64 k])∧n≤5∧PbD w.heap.size n v w'∧0≤k∧k≤33∧Below w.heap.size w w':=by
 obtain⟨⟨rb,ra,rh⟩,⟨kk,hf⟩,hrb,hs⟩:=from_ex hb hl
 change rb=l0 at hrb
 subst hrb;have HF:=q_ (hf kk (Nat.le_refl _));have HS:=q_ hs;have HR:=q_ hr0;have HC:=q_ hc0;have HB:=q_ (Below.refl w.heap.size w);clear hf hs hr0 hc0 hb hl
 go_enter Try.func36,Try.ntmps36
 go_wp2_with (first | ((with_reducible refine gate_dst (N:=2) rfl ?_);refine be_ 2 #[.slice none 0 0, .slice none 0 0] 27 ?_;intro g2 hg w2 hbox hb;have G2:=q_ (show w.heap.size≤g2 by rw [hg];exact Nat.le_refl _);have B2:=q_ hbox;replace HB:=q_ (HB.out.trans hb);clear hg hbox hb))
 refine(spec_l01From.calls kk A0 c0 _ _ _ _ w _ HB.out HR.out HC.out HF.out).mono ?_
 rintro e w3 ⟨g,rfl,hi,hb,hb2⟩;have NE:=q_ (Ne.symm (IsS89.ne_blk hi (bb_ B2.out hb2) (by decide)));replace B2:=Bb_ B2 hb2;have SD:=q_ (Stp.refl (show Srm w w3 g from ⟨_,_,_,hi,HS.out⟩) hb);have GD:=q_ SD.out.src.lt;have ED:=q_ hb.size;have LO:=q_ (blk_lt B2.out);clear hi hb hb2 HB
 go_wp2_with fail
 refine(draw4_c SD.out.src SD.out.below).mono ?_
 rintro e w4 ⟨n,v,hn0,hn5,rfl,hO⟩;obtain⟨pA,pB,pa,pb,pc,pd,rfl⟩:=hO.two;have PO:=q_ (PbOut.begin_ hO SD.out);replace B2:=q_ (hO.2.keep.blk B2.out NE.out (by simp));replace SD:=q_ PO.out.2;have HN:=q_ hn5;have L4:=q_ SD.out.keep.1;have LC:Aside0 (pc≤6):=⟨by
  rcases hO.1 with h1 | ⟨gm,c,b,cp,A,c1,Q,h1,h3⟩
  ·injection h1 with h1;injection h1 with h1;injection h1 with h1 h2;injection h2 with h2 _;injection h2 with e4 e5 e6;omega
  ·injection h1 with h1;injection h1 with h1;injection h1 with h1 h2;injection h2 with h2 _;injection h2 with e4 e5 e6;have:=h3.ql;omega⟩
 clear hO hn0 hn5
 go_wp2_with (first | ((with_reducible refine gate_dst (N:=5) rfl ?_);refine be_ 5 #[.slice none 0 0, .slice none 0 0] 27 ?_;intro g5 hg w6 hbox hb;have B5:=q_ hbox;have G5:=q_ (show w4.heap.size≤g5 by rw [hg];exact Nat.le_refl _);have HB5:=q_ hb;have hx0:=cz_ B5 0;have hx1:=cz_ B5 1;have fx0:=blk_frozen hbox 0;have fx1:=blk_frozen hbox 1;clear hg hbox hb) | ((with_reducible refine gate_store (t:=27) (p:=5) rfl ?_);refine se_ 27 5 ((w6.setCell ⟨g5,0,none⟩ (.slice pA pa pb)).setCell ⟨g5,1,none⟩ (.slice pB pc pd)) ?_;intro w7 hw;have hs_:Stp w w4 g w7:=Stp.of_below SD.out.src SD.out.below (by rw [hw];exact below_set (below_set HB5.out G5.out) G5.out);have N5:=q_ (show g5≠g by have:=G5.out;have:=SD.out.src.lt;omega);have N52:=q_ (show g5≠g2 by have:=G5.out;have:=LO.out;have:=L4.out;omega);replace B2:=q_ (hs_.keep.blk B2.out NE.out (by simp));replace B5:=q_ (show w7.heap[g5]?=some (.cells #[.slice pA pa pb, .slice pB pc pd] 27 (0,0)) by rw [hw];exact blk_put (blk_put B5.out 0 _ rfl) 1 _ rfl);replace PO:=q_ (PO.out.mv hs_ GD.out);replace SD:=q_ (SD.out.trans hs_);clear hs_ hw hx0 hx1 fx0 fx1 HB5))
 have hs_:=Stp.drew (Stp.refl SD.out.src SD.out.below);replace PO:=q_ (PO.out.mv hs_ GD.out);replace SD:=q_ (SD.out.trans hs_);replace B2:=q_ (hs_.keep.blk B2.out NE.out (by simp));replace B5:=q_ (hs_.keep.blk B5.out N5.out (by simp));clear hs_;refine st_ (n:=15) (S:=fun w'=>w'.cell? ⟨g5,0,none⟩=some (.slice pA pa pb)∧w'.cell? ⟨g5,1,none⟩=some (.slice pB pc pd)) (ds:= []) ⟨(blk_cell B5.out 0).trans rfl,(blk_cell B5.out 1).trans rfl⟩ (fun hHeld=>?_)
 generalize w7.drew=w8 at B2 B5 PO SD hHeld ⊢
 refine p3_ 1 11 2 12 8 18 ?_;refine tk_ 0 10 ?_;refine tk_ 3 13 ?_;refine p4_ 4 14 5 15 6 16 7 17 ?_
 obtain⟨x,hx,hx1,hx2⟩: ∃x:Int,wrap64 (2 ^ min (IntKind.u64.wrap (if 5 < (pc:Int) then 5 else(pc:Int))).toNat 64)=x∧1≤x∧x≤32:=⟨_,rfl,by
  have h6:=LC.out;have hq:pc=0∨pc=1∨pc=2∨pc=3∨pc=4∨pc=5∨pc=6:=by omega
  rcases hq with rfl | rfl | rfl | rfl | rfl | rfl | rfl <;> decide+kernel⟩
 rw [hx];have HX:=q_ (And.intro hx1 hx2);clear hx hx1 hx2
 generalize (if 5 < (pc:Int) then 5 else(pc:Int))=mn_
 refine on_ 9 (some 19) (fun K hK=>?_)
 refine ca_ Try.func37 #[.pointer (some ⟨g,0,none⟩), .int .i64 24] ?_
 refine(next_c SD.out.src SD.out.below 24).mono ?_
 rintro e w9 ⟨y,rfl,hy,hS⟩;refine⟨_,rfl,?_⟩
 have HY:=q_ (hy (by decide));clear hy;replace PO:=q_ (PO.out.mv hS GD.out);replace SD:=q_ (SD.out.trans hS);replace B2:=q_ (hS.keep.blk B2.out NE.out (by simp));replace B5:=q_ (hS.keep.blk B5.out N5.out (by simp));clear hS hHeld;refine hK.out _ _ ⟨(blk_cell B5.out 0).trans rfl,(blk_cell B5.out 1).trans rfl⟩ (fun hHeld=>?_)
 clear hK K;refine no_ ?_
 refine p2_ 10 20 11 21 ?_
 obtain⟨z,hz,hz1,hz2⟩: ∃z:Int,wrap64 (x+wrap64 (Int.tdiv y 23))=z∧1≤z∧z≤33:=by
  have h1:=HX.out;have h2:=HY.out;have h3:0≤Int.tdiv y 23:=Int.tdiv_nonneg h2.1 (by decide);have h4:Int.tdiv y 23≤1:=by rw [Int.tdiv_eq_ediv_of_nonneg h2.1];omega
  have h5:wrap64 (Int.tdiv y 23)=Int.tdiv y 23:=w64 (by omega) (by omega);exact⟨_,rfl,by rw [h5,w64 (by omega) (by omega)];omega,by rw [h5,w64 (by omega) (by omega)];omega⟩
 rw [hz];have HZ:=q_ (And.intro hz1 hz2);clear hz hz1 hz2 HX HY;refine on_ 12 (some 22) (fun K hK=>?_)
 refine ca_ Try.func37 #[.pointer (some ⟨g,0,none⟩), .int .i64 z] ?_
 refine(next_c SD.out.src SD.out.below z).mono ?_
 rintro e w10 ⟨kz,rfl,hk,hS⟩;refine⟨_,rfl,?_⟩
 have HKZ:Aside0 (0≤kz∧kz≤33):=⟨by have h1:=HZ.out;have h2:=hk h1.1;omega⟩;clear hk HZ;replace PO:=q_ (PO.out.mv hS GD.out);replace SD:=q_ (SD.out.trans hS);replace B2:=q_ (hS.keep.blk B2.out NE.out (by simp));replace B5:=q_ (hS.keep.blk B5.out N5.out (by simp));clear hS hHeld;refine hK.out _ _ ⟨(blk_cell B5.out 0).trans rfl,(blk_cell B5.out 1).trans rfl⟩ (fun hHeld=>?_)
 clear hK K;refine no_ ?_
 refine on_ 13 none (fun K hK=>?_)
 obtain⟨y0,y1,k0,k1⟩:=c2_ B2;refine skip_ (w1:=(w10.setCell ⟨g2,0,none⟩ (.slice pA pa pb)).setCell ⟨g2,1,none⟩ (.slice pB pc pd)) (by rfl) rfl ?_ ?_
 ·first | (go_simp;done) | (go_simp;rfl)
 clear k0 k1 y0 y1;refine hK.out _ _ ⟨(cell_far (p:=⟨g2,_,none⟩) N52.out _).trans ((cell_far (p:=⟨g2,_,none⟩) N52.out _).trans hHeld.1),(cell_far (p:=⟨g2,_,none⟩) N52.out _).trans ((cell_far (p:=⟨g2,_,none⟩) N52.out _).trans hHeld.2)⟩ (fun hHeld=>?_)
 clear hK K;refine pu_ 14 3 ?_
 refine done_ (by kernel_rfl) ?_
 try go_wp2
 refine bodyPost_ret (results_ct rfl _ _ g2 27 #[.slice pA pa pb, .slice pB pc pd] (0,0) _ rfl (blk_put (blk_put B2.out 0 _ rfl) 1 _ rfl) Try.underlying27 rfl (by kernel_rfl)) rfl ?_
 have lo:=LO.out;have g2a:=G2.out;exact⟨n,_,kz,rfl,HN.out,((PO.out.d.far lo 0 (.slice pA pa pb)).far lo 1 (.slice pB pc pd)).down ED.out,HKZ.out.1,HKZ.out.2,below_set (below_set SD.out.below g2a) g2a⟩
end Go.Proofs.Ytbjljcpngbhkeaa.Dr
end
section
namespace Go.Proofs.Ytbjljcpngbhkeaa.Dr
open Go.RowKit Wz.PrintWords Wz.PrintLast Wz.PrintMore Ma Pr Lq Al
theorem dco_c {w:World} {A0:Option Addr} {c0:Nat} {l0:List Int} (hr0:Kd.C (Kd.int .u8) w A0 l0.length l0) (hc0:l0.length≤c0) (hb: ∀i:Nat,0≤l0.getD i 0∧l0.getD i 0≤255) (hl:l0.length≤4096):Calls Try.prog 9 #[.slice A0 l0.length c0] w fun e w'=> ∃v M Q k,e= .returned (.tuple #[v, .int .i64 k])∧Rd w' v M Q∧M.length≤5∧Q.length≤6∧0≤k∧k≤33∧Below w.heap.size w w':=by
 have HR:=q_ hr0;have HC:=q_ hc0;have HB0:=q_ hb;have HL0:=q_ hl;have HB:=q_ (Below.refl w.heap.size w);clear hr0 hc0 hb hl
 go_enter Try.func9,Try.ntmps9
 go_wp2_with (first | ((with_reducible refine gate_dst (N:=2) rfl ?_);refine be_ 2 #[.slice none 0 0, .slice none 0 0] 27 ?_;intro g2 hg w2 hbox hb;have G2:=q_ (show w.heap.size≤g2 by rw [hg];exact Nat.le_refl _);have B2:=q_ hbox;replace HB:=q_ (HB.out.trans hb);replace HR:=q_ (Kd.C_below HR.out hb);clear hg hbox hb))
 refine(with4_c HR.out HC.out HB0.out HL0.out).mono ?_
 rintro e w3 ⟨n,v,k,rfl,hn,hP,hk0,hk1,hb⟩;have LO:=q_ (blk_lt B2.out);replace B2:=Bb_ B2 hb;replace HB:=q_ (below_then HB.out HB.out.size hb);obtain⟨pA,pB,pa,pb,pc,pd,rfl⟩:=hP.pair;have PD:=q_ hP;have HN:=q_ hn;have HK:=q_ (And.intro hk0 hk1);have L3:=q_ hb.size;replace HR:=q_ (Kd.C_below HR.out hb);clear hP hn hk0 hk1 hb HR;obtain⟨y0,y1,k0,k1⟩:=c2_ B2
 go_wp2_with (first | ((with_reducible refine gate_store (t:=27) (p:=2) rfl ?_);refine se_ 27 2 ((w3.setCell ⟨g2,0,none⟩ (.slice pA pa pb)).setCell ⟨g2,1,none⟩ (.slice pB pc pd)) ?_;intro w4 hw;subst hw;clear k0 k1 y0 y1))
 refine bodyPost_ret (results_ct rfl _ _ g2 27 #[.slice pA pa pb, .slice pB pc pd] (0,0) _ rfl (blk_put (blk_put B2.out 0 _ rfl) 1 _ rfl) Try.underlying27 rfl (by kernel_rfl)) rfl ?_
 have lo:=LO.out;have g2a:=G2.out;obtain⟨M,Q,m1,m2,m3⟩:=((PD.out.far lo 0 (.slice pA pa pb)).far lo 1 (.slice pB pc pd)).rd HN.out;exact⟨_,M,Q,k,rfl,m1,m2,m3,HK.out.1,HK.out.2,below_set (below_set HB.out g2a) g2a⟩
theorem dpm_c {w:World} {A0:Option Addr} {c0:Nat} {l0:List Int} (hr0:Kd.C (Kd.int .u8) w A0 l0.length l0) (hc0:l0.length≤c0) (hb: ∀i:Nat,0≤l0.getD i 0∧l0.getD i 0≤255) (hl:l0.length≤4096):Calls Try.prog 6 #[.slice A0 l0.length c0] w fun e w'=> ∃v M Q k t,e= .returned (.tuple #[v, .int .i64 k, .int .i64 t])∧Rd w' v M Q∧M.length≤5∧Q.length≤6∧0≤k∧k≤33∧0≤t∧t≤33∧Below w.heap.size w w':=by
 obtain⟨⟨rb,ra,rh⟩,⟨kk,hf⟩,hrb,hs⟩:=from_ex hb hl
 change rb=l0 at hrb
 subst hrb;have HF:=q_ (hf kk (Nat.le_refl _));have HS:=q_ hs;clear hf hs;have HR:=q_ hr0;have HC:=q_ hc0;have HB0:=q_ hb;have HL0:=q_ hl;have HB:=q_ (Below.refl w.heap.size w);clear hr0 hc0 hb hl
 go_enter Try.func6,Try.ntmps6
 go_wp2_with (first | ((with_reducible refine gate_dst (N:=2) rfl ?_);refine be_ 2 #[.slice none 0 0, .slice none 0 0] 27 ?_;intro g2 hg w2 hbox hb;have G2:=q_ (show w.heap.size≤g2 by rw [hg];exact Nat.le_refl _);have B2:=q_ hbox;replace HB:=q_ (HB.out.trans hb);replace HR:=q_ (Kd.C_below HR.out hb);clear hg hbox hb))
 refine(with4_c HR.out HC.out HB0.out HL0.out).mono ?_
 rintro e w3 ⟨n,v,k,rfl,hn,hP,hk0,hk1,hb⟩;have LO:=q_ (blk_lt B2.out);replace B2:=Bb_ B2 hb;replace HB:=q_ (below_then HB.out HB.out.size hb);obtain⟨pA,pB,pa,pb,pc,pd,rfl⟩:=hP.pair;have PD:=q_ hP;have HN:=q_ hn;have HK:=q_ (And.intro hk0 hk1);have L3:=q_ hb.size;replace HR:=q_ (Kd.C_below HR.out hb);clear hP hn hk0 hk1 hb;have LC:Aside0 (pc≤6):=⟨by
  rcases PD.out with h1 | ⟨gm,c,b,cp,A,c1,Q,h1,h2,h3,h4⟩
  ·injection h1 with h1;injection h1 with h1;injection h1 with h1 h2;injection h2 with h2 _;injection h2 with e4 e5 e6;omega
  ·injection h1 with h1;injection h1 with h1;injection h1 with h1 h2;injection h2 with h2 _;injection h2 with e4 e5 e6;have:=HN.out;omega⟩
 go_wp2_with (first | ((with_reducible refine gate_dst (N:=5) rfl ?_);refine be_ 5 #[.slice none 0 0, .slice none 0 0] 27 ?_;intro g5 hg w4 hbox hb;have B5:=q_ hbox;have G5:=q_ (show w3.heap.size≤g5 by rw [hg];exact Nat.le_refl _);have HB5:=q_ hb;have hx0:=cz_ B5 0;have hx1:=cz_ B5 1;have fx0:=blk_frozen hbox 0;have fx1:=blk_frozen hbox 1;clear hg hbox hb) | ((with_reducible refine gate_store (t:=27) (p:=5) rfl ?_);refine se_ 27 5 ((w4.setCell ⟨g5,0,none⟩ (.slice pA pa pb)).setCell ⟨g5,1,none⟩ (.slice pB pc pd)) ?_;intro w5 hw;have hs_:Below w3.heap.size w3 w5:=(by rw [hw];exact below_set (below_set HB5.out G5.out) G5.out);have N52:=q_ (show g5≠g2 by have:=G5.out;have:=LO.out;have:=L3.out;omega);replace B2:=q_ ((hs_.block g2 (blk_lt B2.out)).trans B2.out);replace B5:=q_ (show w5.heap[g5]?=some (.cells #[.slice pA pa pb, .slice pB pc pd] 27 (0,0)) by rw [hw];exact blk_put (blk_put B5.out 0 _ rfl) 1 _ rfl);replace PD:=q_ (PD.out.below hs_);replace HB:=q_ (below_then HB.out HB.out.size hs_);replace HR:=q_ (Kd.C_below HR.out hs_);clear hs_ hw hx0 hx1 fx0 fx1 HB5))
 have hs_:Below w5.heap.size w5 w5.drew:=below_drew (Below.refl _ _);replace PD:=q_ (PD.out.below hs_);replace B2:=q_ (blk_below B2.out hs_);replace B5:=q_ (blk_below B5.out hs_);replace HB:=q_ (below_then HB.out HB.out.size hs_);replace HR:=q_ (Kd.C_below HR.out hs_);clear hs_;refine st_ (n:=14) (S:=fun w'=>w'.cell? ⟨g5,0,none⟩=some (.slice pA pa pb)∧w'.cell? ⟨g5,1,none⟩=some (.slice pB pc pd)) (ds:= []) ⟨(blk_cell B5.out 0).trans rfl,(blk_cell B5.out 1).trans rfl⟩ (fun hHeld=>?_)
 generalize w5.drew=w6 at B2 B5 PD HB HR hHeld ⊢
 refine p3_ 1 13 2 14 4 16 ?_;refine tk_ 0 12 ?_;refine tk_ 5 17 ?_;refine p4_ 6 18 7 19 8 20 9 21 ?_
 obtain⟨x,hx,hx1,hx2⟩: ∃x:Int,wrap64 (2 ^ min (IntKind.u64.wrap (if 5 < (pc:Int) then 5 else(pc:Int))).toNat 64)=x∧1≤x∧x≤32:=⟨_,rfl,by
  have h6:=LC.out;have hq:pc=0∨pc=1∨pc=2∨pc=3∨pc=4∨pc=5∨pc=6:=by omega
  rcases hq with rfl | rfl | rfl | rfl | rfl | rfl | rfl <;> decide+kernel⟩
 rw [hx];have HX:=q_ (And.intro hx1 hx2);clear hx hx1 hx2
 generalize (if 5 < (pc:Int) then 5 else(pc:Int))=mn_
 refine on_ 3 (some 15) (fun K hK=>?_)
 refine ca_ Try.func38 #[.slice A0 rb.length c0] ?_
 refine(spec_l01From.calls kk A0 c0 _ _ _ _ w6 _ (Below.refl _ _) HR.out HC.out HF.out).mono ?_
 rintro e w7 ⟨g,rfl,hi,hb,hb2⟩;refine⟨_,rfl,?_⟩
 have SD:=q_ (Stp.refl (show Srm w6 w7 g from ⟨_,_,_,hi,HS.out⟩) hb);have HB6:=q_ hb;have C50:=q_ (blk_below B5.out hb);clear hi hb hb2 hHeld;refine hK.out _ _ ⟨(blk_cell C50.out 0).trans rfl,(blk_cell C50.out 1).trans rfl⟩ (fun hHeld=>?_)
 clear hK K C50;refine no_ ?_
 refine on_ 10 (some 22) (fun K hK=>?_)
 refine ca_ Try.func37 #[.pointer (some ⟨g,0,none⟩), .int .i64 x] ?_
 refine(next_c SD.out.src SD.out.below x).mono ?_
 rintro e w8 ⟨tz,rfl,ht,hS⟩;refine⟨_,rfl,?_⟩
 have HT:Aside0 (0≤tz∧tz≤33):=⟨by have h1:=HX.out;have h2:=ht h1.1;omega⟩;clear ht;have hs_:=(SD.out.trans hS).below;replace PD:=q_ (PD.out.below hs_);replace B2:=q_ (blk_below B2.out hs_);replace B5:=q_ (blk_below B5.out hs_);replace HB:=q_ (below_then HB.out HB.out.size hs_);clear hs_ hS hHeld SD HB6;refine hK.out _ _ ⟨(blk_cell B5.out 0).trans rfl,(blk_cell B5.out 1).trans rfl⟩ (fun hHeld=>?_)
 clear hK K;refine no_ ?_
 refine on_ 11 none (fun K hK=>?_)
 obtain⟨y0,y1,k0,k1⟩:=c2_ B2;refine skip_ (w1:=(w8.setCell ⟨g2,0,none⟩ (.slice pA pa pb)).setCell ⟨g2,1,none⟩ (.slice pB pc pd)) (by rfl) rfl ?_ ?_
 ·first | (go_simp;done) | (go_simp;rfl)
 clear k0 k1 y0 y1;refine hK.out _ _ ⟨(cell_far (p:=⟨g2,_,none⟩) N52.out _).trans ((cell_far (p:=⟨g2,_,none⟩) N52.out _).trans hHeld.1),(cell_far (p:=⟨g2,_,none⟩) N52.out _).trans ((cell_far (p:=⟨g2,_,none⟩) N52.out _).trans hHeld.2)⟩ (fun hHeld=>?_)
 clear hK K;refine p2_ 12 3 13 4 ?_
 refine done_ (by kernel_rfl) ?_
 try go_wp2
 refine bodyPost_ret (results_ctt rfl _ _ g2 27 #[.slice pA pa pb, .slice pB pc pd] (0,0) _ rfl (blk_put (blk_put B2.out 0 _ rfl) 1 _ rfl) Try.underlying27 rfl (by kernel_rfl)) rfl ?_
 have lo:=LO.out;have g2a:=G2.out;obtain⟨M,Q,m1,m2,m3⟩:=((PD.out.far lo 0 (.slice pA pa pb)).far lo 1 (.slice pB pc pd)).rd HN.out;exact⟨_,M,Q,k,tz,rfl,m1,m2,m3,HK.out.1,HK.out.2,HT.out.1,HT.out.2,below_set (below_set HB.out g2a) g2a⟩
end Go.Proofs.Ytbjljcpngbhkeaa.Dr
end
section
namespace Go.Proofs.Ytbjljcpngbhkeaa.Dr
open Go.RowKit Wz.PrintWords Wz.PrintLast Wz.PrintMore Ma Pr Lq Al
abbrev RV (w:World) (W g4:Nat) (v:Value) (l:List Int):Prop:=Kd.R (Kd.int .i64) 2 w W (fun k=>W≤k∧k≠g4) v l
theorem RV.mv {w0 w w1:World} {W g g4:Nat} {v:Value} {l:List Int} (h:RV w W g4 v l) (hS:Stp w0 w g w1) (hg:g < W):RV w1 W g4 v l:=Kd.R_keep h hS.keep (fun k hk=>by have:=hk.1;omega)
theorem quo_k {x y:Int} (hx:0≤x∧x < 6) (hy:0≤y∧y < 40): ∃K:Nat,wrap64 (x+wrap64 (wrap64 (Int.tdiv y 39)*20))=(K:Int)∧K≤25:=by
 have e:Int.tdiv y 39=0∨Int.tdiv y 39=1:=by
  rw [Int.tdiv_eq_ediv_of_nonneg hy.1]
  omega
 rcases e with e | e <;> rw [e]
 ·refine⟨x.toNat,?_,by omega⟩
  rw [w64 (x:=0) (by omega) (by omega),w64 (x:=0*20) (by omega) (by omega),w64 (by omega) (by omega)]
  omega
 ·refine⟨x.toNat+20,?_,by omega⟩
  rw [w64 (x:=1) (by omega) (by omega),w64 (x:=1*20) (by omega) (by omega),w64 (by omega) (by omega)]
  omega
theorem drc_c {w:World} {A0:Option Addr} {c0:Nat} {l0:List Int} (hr0:Kd.C (Kd.int .u8) w A0 l0.length l0) (hc0:l0.length≤c0) (hb: ∀i:Nat,0≤l0.getD i 0∧l0.getD i 0≤255) (hl:l0.length≤4096):Calls Try.prog 13 #[.slice A0 l0.length c0] w fun e w'=> ∃v M Q L A c,e= .returned (.tuple #[v, .slice A (List.length L) c])∧Rd w' v M Q∧M.length≤5∧Q.length≤6∧Kd.C (Kd.int .i64) w' A L.length L∧L.length≤c∧L.length≤26∧Below w.heap.size w w':=by
 obtain⟨⟨rb,ra,rh⟩,⟨kk,hf⟩,hrb,hs⟩:=from_ex hb hl
 change rb=l0 at hrb
 subst hrb;have HF:=q_ (hf kk (Nat.le_refl _));have HS:=q_ hs;have HR:=q_ hr0;have HC:=q_ hc0;have HB:=q_ (Below.refl w.heap.size w);clear hf hs hr0 hc0 hb hl
 go_enter Try.func13,Try.ntmps13
 go_wp2_with (first | ((with_reducible refine gate_dst (N:=2) rfl ?_);refine be_ 2 #[.slice none 0 0, .slice none 0 0] 27 ?_;intro g2 hg w2 hbox hb;have G2:=q_ (show w.heap.size≤g2 by rw [hg];exact Nat.le_refl _);have B2:=q_ hbox;replace HB:=q_ (HB.out.trans hb);clear hg hbox hb))
 refine(spec_l01From.calls kk A0 c0 _ _ _ _ w _ HB.out HR.out HC.out HF.out).mono ?_
 rintro e w3 ⟨g,rfl,hi,hb,hb2⟩;have NE:=q_ (Ne.symm (IsS89.ne_blk hi (bb_ B2.out hb2) (by decide)));replace B2:=Bb_ B2 hb2;have SD:=q_ (Stp.refl (show Srm w w3 g from ⟨_,_,_,hi,HS.out⟩) hb);have GD0:=q_ SD.out.src.lt;have LO:=q_ (blk_lt B2.out);clear hi hb hb2 HB
 go_wp2_with fail
 refine(draw4_c SD.out.src SD.out.below).mono ?_
 rintro e w4 ⟨n,v,hn0,hn5,rfl,hO⟩;obtain⟨pA,pB,pa,pb,pc,pd,rfl⟩:=hO.two;have PO:=q_ (PbOut.begin_ hO SD.out);replace B2:=q_ (hO.2.keep.blk B2.out NE.out (by simp));have HN:=q_ hn5;have LW:=q_ (show w3.heap.size≤w4.heap.size from hO.2.keep.1);replace SD:=q_ (Stp.refl hO.2.src hO.2.below);have GD:=q_ SD.out.src.lt;have ED:=q_ SD.out.below.size;have N2:=NE;clear hO hn0 hn5 NE
 go_wp2_with (first | ((with_reducible refine gate_dst (N:=12) rfl ?_);refine Kd.R_lit (Kd.int .i64) _ 2 ?hg (N:=12) ?hd (xs:=([]:List Int)) (inner:= []) (ok:=fun _=>True) (okp:=fun _=>True) ?hr ?hp (fun _ hk=>hk) trivial (Below.refl _ _) (Nat.le_refl _) (by simp) ?_;(case hd=>rfl);(case hg=>rfl);(case hr=>first | (go_simp;done) | (go_simp;rfl));(case hp=>exact lit_reps []);intro v12 w5 ho hb hg_ hnew_;have hs_:=Stp.of_below SD.out.src SD.out.below hb;have RV0:Aside0 (Kd.R (Kd.int .i64) 2 w5 w4.heap.size (fun _=>True) v12 []):=⟨ho⟩;replace SD:=q_ (SD.out.trans hs_);clear hs_ hg_ hnew_ ho hb) | ((with_reducible refine gate_dst (N:=5) rfl ?_);refine be_ 5 #[.slice none 0 0, .slice none 0 0] 27 ?_;intro g5 hg w7 hbox hb;have B5:=q_ hbox;have G5:=q_ (show w4.heap.size≤g5 by rw [hg];exact SD.out.keep.1);have hs_:=Stp.of_below SD.out.src SD.out.below hb;have RV1:Aside0 (RV w7 w4.heap.size g5 v12 []):=⟨Kd.R_below (Kd.R_mono (Kd.R_tight rfl RV0.out) (fun k hk=>⟨Kd.R_base RV0.out k hk.symm,by rw [hg];have:=Kd.R_lt RV0.out k hk.symm;omega⟩)) hb⟩;replace SD:=q_ (SD.out.trans hs_);have hx0:=cz_ B5 0;have hx1:=cz_ B5 1;have fx0:=blk_frozen hbox 0;have fx1:=blk_frozen hbox 1;clear hs_ RV0 hg hbox hb) | ((with_reducible refine gate_store (t:=27) (p:=5) rfl ?_);refine se_ 27 5 ((w7.setCell ⟨g5,0,none⟩ (.slice pA pa pb)).setCell ⟨g5,1,none⟩ (.slice pB pc pd)) ?_;intro w8 hw;replace SD:=q_ (show Stp w w4 g w8 by rw [hw];exact(SD.out.set ED.out g5 0 _ G5.out (by have:=G5.out;have:=GD.out;omega)).set ED.out g5 1 _ G5.out (by have:=G5.out;have:=GD.out;omega));replace B5:=q_ (show w8.heap[g5]?=some (.cells #[.slice pA pa pb, .slice pB pc pd] 27 (0,0)) by rw [hw];exact blk_put (blk_put B5.out 0 _ rfl) 1 _ rfl);replace RV1:=q_ (show RV w8 w4.heap.size g5 v12 [] by rw [hw];exact Kd.R_far (Kd.R_far RV1.out (p:=⟨g5,0,none⟩) (fun k hk=>hk.2) _) (p:=⟨g5,1,none⟩) (fun k hk=>hk.2) _);clear hw hx0 hx1 fx0 fx1))
 refine(next_c SD.out.src SD.out.below 6).mono ?_
 rintro e w9 ⟨x,rfl,hx,hS⟩;replace SD:=q_ (SD.out.trans hS);replace RV1:=q_ (RV.mv RV1.out hS GD.out);replace B5:=q_ (hS.keep.blk B5.out (by have:=G5.out;have:=GD.out;omega) (by simp));have HX:=q_ (hx (by decide));clear hS hx
 go_wp2_with fail
 refine(next_c SD.out.src SD.out.below 40).mono ?_
 rintro e w10 ⟨y,rfl,hy,hS⟩;replace SD:=q_ (SD.out.trans hS);replace RV1:=q_ (RV.mv RV1.out hS GD.out);replace B5:=q_ (hS.keep.blk B5.out (by have:=G5.out;have:=GD.out;omega) (by simp));obtain⟨K,hK,hK25⟩:=quo_k HX.out (hy (by decide));have HK:=q_ hK25;clear hS hy HX hK25;go_wp2
 rw [hK];clear hK;obtain⟨A10,c10,e10⟩:=Kd.R_slice RV1.out;subst e10
 go_loopg [6,7] K (fun gg v6 v7 wr=> ∃(m:Nat) (Ac:Option Addr) (cc:Nat) (CV:List Int),m≤gg∧v6= .slice Ac CV.length cc∧v7= .int .i64 (m:Int)∧CV.length+m=K∧Aside0 (RV wr w4.heap.size g5 (.slice Ac CV.length cc) CV)∧Aside0 (wr.heap[g5]?=some (.cells #[.slice pA pa pb, .slice pB pc pd] 27 (0,0)))∧Aside0 (Stp w w4 g wr))
 case atStart=>exact⟨K,_,_, [],by omega,rfl,rfl,by simp,RV1,B5,SD⟩
 case round=>
  clear RV1 B5 SD;obtain⟨m,Ac,cc,CV,hg,rfl,rfl,hl,RV1,B5,SD⟩:=hrel;have HGG:=q_ hg;have HL:=q_ hl;have hx1:=cz_ B5 1
  by_cases hlt:0 < m
  ·have hltz:(m:Int) > 0:=by omega
   obtain⟨q,rfl⟩: ∃q,m=q+1:=⟨m - 1,by omega⟩
   have hwi:IntKind.i64.wrap (((q+1:Nat):Int) - 1)=(q:Int):=by rw [IntWalk.i64_in _ (by have:=HL.out;have:=HK.out;omega)];omega
   have HWI:=q_ hwi;clear hg hlt hl hwi
   go_wp2_with fail
   all_goals (
    refine(next_c SD.out.src SD.out.below _).mono ?_
    rintro e w11 ⟨x2,rfl,_,hS⟩;replace SD:=q_ (SD.out.trans hS);replace RV1:=q_ (RV.mv RV1.out hS GD.out);replace B5:=q_ (hS.keep.blk B5.out (by have:=G5.out;have:=GD.out;omega) (by simp));clear hS hx1;obtain⟨q0,hq0⟩: ∃q0,CV.length=q0:=⟨_,rfl⟩
    rw [hq0];have RVq:=q_ (show RV w11 w4.heap.size g5 (.slice Ac q0 cc) CV by rw [← hq0];exact RV1.out);have HQ0:=q_ hq0;clear hq0 RV1;have RV1:=RVq;clear RVq
    go_wp2_with (first | ((with_reducible refine gate_builtin (b:= .append) (xs:= #[.tmp 24, .tmp 32]) rfl ?_);at_builtin;refine Kd.R_append (Kd.int .i64) (w0:=w11) w4.heap.size rfl (.tmp 24) (.tmp 32) 25 2 (.int .i64 0) 8 rfl Try.underlying25 info2 rfl (by decide) (by omega) (.slice Ac q0 cc) CV x2 [.int .i64 x2] (fun k=>w4.heap.size≤k∧k≠g5) (fun _=>False) rfl rfl rfl (fun _ hk=>hk.elim) (fun k hk=>⟨Nat.le_trans SD.out.keep.1 hk,by have:=blk_lt B5.out;omega⟩) RV1.out (Below.refl _ _) SD.out.keep.1 ?aL ?_;(case aL=>have:=HL.out;have:=HK.out;omega);intro aa w521 ho hb hg hat;replace B5:=q_ (blk_grown B5.out hg (fun e_=>(RV1.out.1 g5 e_.symm).2 rfl));replace SD:=q_ (SD.out.lo ED.out GD.out hb);replace RV1:=q_ ho;clear ho hb hg hat))
    obtain⟨A9,c9,e9⟩:=Kd.R_slice RV1.out;subst e9
    go_roundg q
    case measure=>have:=HGG.out;omega
    case rel=>exact⟨q,A9,c9,CV++ [x2],Nat.le_refl _,rfl,by first | rfl | (rw [HWI.out]) | (rw [w64 (by omega) (by have:=HL.out;have:=HK.out;omega)]),by have:=HL.out;simp;omega,RV1,B5,SD⟩)
  ·have hltz: ¬ (m:Int) > 0:=by omega
   obtain rfl:m=0:=by omega
   clear hg hlt hl
   go_wp2_with fail
   refine(next_c SD.out.src SD.out.below 24).mono ?_
   rintro e w12 ⟨z,rfl,_,hS⟩;replace SD:=q_ (SD.out.trans hS);replace RV1:=q_ (RV.mv RV1.out hS GD.out);replace B5:=q_ (hS.keep.blk B5.out (by have:=G5.out;have:=GD.out;omega) (by simp));clear hS hx1
   by_cases z0:z=0
   ·have z0b:(z==0)=true:=by simpa using z0
    clear z0;obtain⟨q0,hq0⟩: ∃q0,CV.length=q0:=⟨_,rfl⟩
    rw [hq0];have RVq:=q_ (show RV w12 w4.heap.size g5 (.slice Ac q0 cc) CV by rw [← hq0];exact RV1.out);have HQ0:=q_ hq0;clear hq0 RV1;have RV1:=RVq;clear RVq
    go_wp2_with (first | ((with_reducible refine gate_dst (N:=39) rfl ?_);refine Kd.R_lit (Kd.int .i64) _ 2 ?hg (N:=39) ?hd (xs:=([-1,5]:List Int)) (inner:= [.int .i64 (-1), .int .i64 5]) (ok:=fun _=>True) (okp:=fun _=>True) ?hr ?hp (fun _ hk=>hk) trivial (Below.refl _ _) (Nat.le_refl _) (by simp) ?_;(case hd=>rfl);(case hg=>rfl);(case hr=>first | (go_simp;done) | (go_simp;rfl));(case hp=>exact lit_reps [-1,5]);intro v39 w13 ho hb hg_ hnew_;obtain⟨g39,c39,rfl,hb39,hl39,_⟩:=Kd.R_form ho (by simp);have G39:=q_ (Nat.lt_of_lt_of_le SD.out.src.lt hb39);have hS:=Stp.of_below SD.out.src SD.out.below hb;replace SD:=q_ (SD.out.trans hS);replace RV1:=q_ (RV.mv RV1.out hS GD.out);replace B5:=q_ (hS.keep.blk B5.out (by have:=G5.out;have:=GD.out;omega) (by simp));have R39:=q_ ho;clear hS hb39 hl39 hg_ hnew_ ho hb))
    refine(pick_c SD.out.src SD.out.below _ c39 [-1,5] (Kd.R_reads' R39.out).2.2 (Kd.R_reads' R39.out).2.1 (fun ad e _=>by injection e with e;subst e;show g39≠g;have:=G39.out;omega) (by decide)).mono ?_
    rintro e w14 ⟨x2,rfl,_,hS⟩;replace SD:=q_ (SD.out.trans hS);replace RV1:=q_ (RV.mv RV1.out hS GD.out);replace B5:=q_ (hS.keep.blk B5.out (by have:=G5.out;have:=GD.out;omega) (by simp));clear hS R39 G39
    go_wp2_with (first | ((with_reducible refine gate_builtin (b:= .append) (xs:= #[.tmp 37, .tmp 41]) rfl ?_);at_builtin;refine Kd.R_append (Kd.int .i64) (w0:=w14) w4.heap.size rfl (.tmp 37) (.tmp 41) 25 2 (.int .i64 0) 8 rfl Try.underlying25 info2 rfl (by decide) (by omega) (.slice Ac q0 cc) CV x2 [.int .i64 x2] (fun k=>w4.heap.size≤k∧k≠g5) (fun _=>False) rfl rfl rfl (fun _ hk=>hk.elim) (fun k hk=>⟨Nat.le_trans SD.out.keep.1 hk,by have:=blk_lt B5.out;omega⟩) RV1.out (Below.refl _ _) SD.out.keep.1 ?aL ?_;(case aL=>have:=HL.out;have:=HK.out;omega);intro aa w521 ho hb hg hat;replace B5:=q_ (blk_grown B5.out hg (fun e_=>(RV1.out.1 g5 e_.symm).2 rfl));replace SD:=q_ (SD.out.lo ED.out GD.out hb);replace RV1:=q_ ho;clear ho hb hg hat;obtain⟨A9,c9,e9⟩:=Kd.R_slice RV1.out;subst e9;have hx0:=cz_ B5 0;have hx1:=cz_ B5 1;replace B2:=q_ (SD.out.keep.blk B2.out N2.out (by simp));obtain⟨y0,y1,k0,k1⟩:=c2_ B2) | ((with_reducible refine gate_store (t:=27) (p:=2) rfl ?_);refine se_ 27 2 ((w521.setCell ⟨g2,0,none⟩ (.slice pA pa pb)).setCell ⟨g2,1,none⟩ (.slice pB pc pd)) ?_;intro w16 hw;subst hw;clear k0 k1 y0 y1 hx0 hx1))
    refine bodyPost_ret (results_ct rfl _ _ g2 27 #[.slice pA pa pb, .slice pB pc pd] (0,0) _ rfl (blk_put (blk_put B2.out 0 _ rfl) 1 _ rfl) Try.underlying27 rfl (by kernel_rfl)) rfl ?_
    have lo:=LO.out;have g2a:=G2.out;have lw:=LW.out;have gd0:=GD0.out;have po:=PO.out.mv SD.out gd0;obtain⟨M,Q,m1,m2,m3⟩:=((po.d.far lo 0 (.slice pA pa pb)).far lo 1 (.slice pB pc pd)).rd HN.out;have rv:=Kd.R_far (Kd.R_far RV1.out (p:=⟨g2,0,none⟩) (fun k hk=>by show k≠g2;have:=hk.1;omega) (.slice pA pa pb)) (p:=⟨g2,1,none⟩) (fun k hk=>by show k≠g2;have:=hk.1;omega) (.slice pB pc pd);have rr:=Kd.R_reads' rv;exact⟨_,M,Q,(CV++ [x2]),A9,c9,by first | rfl | (rw [List.length_append];rfl) | (simp;done),m1,m2,m3,rr.2.2,rr.2.1,by have:=HL.out;have:=HK.out;simp;omega,below_set (below_set SD.out.below g2a) g2a⟩
   ·have z0b:(z==0)=false:=by simpa using z0
    clear z0;have hx0:=cz_ B5 0;have hx1:=cz_ B5 1;replace B2:=q_ (SD.out.keep.blk B2.out N2.out (by simp));obtain⟨y0,y1,k0,k1⟩:=c2_ B2
    go_wp2_with (first | ((with_reducible refine gate_store (t:=27) (p:=2) rfl ?_);refine se_ 27 2 ((w12.setCell ⟨g2,0,none⟩ (.slice pA pa pb)).setCell ⟨g2,1,none⟩ (.slice pB pc pd)) ?_;intro w16 hw;subst hw;clear k0 k1 y0 y1 hx0 hx1))
    refine bodyPost_ret (results_ct rfl _ _ g2 27 #[.slice pA pa pb, .slice pB pc pd] (0,0) _ rfl (blk_put (blk_put B2.out 0 _ rfl) 1 _ rfl) Try.underlying27 rfl (by kernel_rfl)) rfl ?_
    have lo:=LO.out;have g2a:=G2.out;have lw:=LW.out;have gd0:=GD0.out;have po:=PO.out.mv SD.out gd0;obtain⟨M,Q,m1,m2,m3⟩:=((po.d.far lo 0 (.slice pA pa pb)).far lo 1 (.slice pB pc pd)).rd HN.out;have rv:=Kd.R_far (Kd.R_far RV1.out (p:=⟨g2,0,none⟩) (fun k hk=>by show k≠g2;have:=hk.1;omega) (.slice pA pa pb)) (p:=⟨g2,1,none⟩) (fun k hk=>by show k≠g2;have:=hk.1;omega) (.slice pB pc pd);have rr:=Kd.R_reads' rv;exact⟨_,M,Q,CV,Ac,cc,by first | rfl | (rw [List.length_append];rfl) | (simp;done),m1,m2,m3,rr.2.2,rr.2.1,by have:=HL.out;have:=HK.out;omega,below_set (below_set SD.out.below g2a) g2a⟩
end Go.Proofs.Ytbjljcpngbhkeaa.Dr
end
section
namespace Go.Proofs.Ytbjljcpngbhkeaa.Pr
open Go.RowKit Wz.PrintWords Wz.PrintLast Wz.PrintMore Al Dr Ma
theorem laws_FnPivotMinors.walk {A0:Option Addr} {c0:Nat} {l0:List Int} {w:World} (HR0:Aside0 (Kd.C (Kd.int .u8) w A0 l0.length l0)) (HC0:Aside0 (l0.length≤c0)) (HBY:Aside0 (∀i:Nat,0≤l0.getD i 0∧l0.getD i 0≤255)) (HLN:Aside0 (l0.length≤4096)):
  Calls Try.prog 3 #[.slice A0 l0.length c0] w fun e w'=>e= .returned (.bool true)∧Below w.heap.size w w':=by
 have HB:=q_ (Below.refl w.heap.size w);have AL:=q_ (Al.nil w)
 go_enter Try.func3,Try.ntmps3
 go_wp2_with fail
 refine(laws_big.calls A0 c0 l0 false _ (Kd.C_below HR0.out HB.out) HC0.out (by unfold laws_big.f;rw [decide_eq_false (show ¬ (l0.length:Int) > 4096 by have:=HLN.out;omega)])).mono ?_
 rintro e w1 ⟨rfl,hd⟩;have hb:=Al.drawn_below hd;replace AL:=q_ (AL.out.mv hb);replace HB:=q_ (below_step HB.out hb);clear hb hd
 go_wp2_with fail
 refine(dpm_c (Kd.C_below HR0.out HB.out) HC0.out HBY.out HLN.out).mono ?_
 rintro e w2 ⟨_,Mp,Qp,s,t,rfl,⟨Apm,cpm,Apq,cpq,rfl,hM,hMc,hQ,hQc⟩,hM5,hQ6,hk0,hk1,hk2,hk3,hb⟩;replace AL:=q_ (AL.out.mv hb);replace HB:=q_ (below_step HB.out hb);replace AL:=q_ ((AL.out.addC hM).addC hQ);have Cpm:=q_ hMc;have Cpq:=q_ hQc;have Zp:=q_ (show Qp.length≤1048576 by omega);clear hM hMc hQ hQc hM5 hQ6 hb hk0 hk1 hk2 hk3;obtain⟨k,above,below,one,M',Q',c,own,hp⟩:=Pp.all_minor Mp Qp s t Zp.out;have HP:=q_ hp;clear hp Zp
 go_wp2_with (first | ((with_reducible refine gate_dst (N:=3) rfl ?_);refine be_ 3 #[.slice none 0 0, .slice none 0 0] 27 ?_;intro g3 hg w3 hbox hb;have Bx:=q_ hbox;have HBx:=q_ hb;have Gx:Aside0 (w2.heap.size≤g3):=⟨by rw [hg];exact Nat.le_refl _⟩;have hx0:=cz_ Bx 0;have hx1:=cz_ Bx 1;have hfx0:=blk_frozen hbox 0;have hfx1:=blk_frozen hbox 1;clear hb hbox hg) | ((with_reducible refine gate_store (t:=27) (p:=3) rfl ?_);refine se_ 27 3 ((w3.setCell ⟨g3,0,none⟩ (.slice Apm Mp.length cpm)).setCell ⟨g3,1,none⟩ (.slice Apq Qp.length cpq)) ?_;intro w4 hw;have nb:=q_ (show w4.heap[g3]?=some (.cells #[.slice Apm Mp.length cpm, .slice Apq Qp.length cpq] 27 (0,0)) from (by rw [hw];exact blk_put (blk_put Bx.out 0 _ rfl) 1 _ rfl));have hb:Below w2.heap.size w2 w4:=(by rw [hw];exact(HBx.out.setCell Gx.out _).setCell Gx.out _);replace AL:=q_ ((AL.out.mv hb).addB nb.out);replace HB:=q_ (below_step HB.out hb);clear hw hb nb hx0 hx1 hfx0 hfx1 Bx HBx Gx;have hz3_0:=cz_ (q_ (AL.out.now.1)) 0;have hz3_1:=cz_ (q_ (AL.out.now.1)) 1))
 refine(impl_PivotMinor.calls k _ _ Mp _ _ Qp s t above below one _ (AL.out.now.2.2.1) Cpm.out (AL.out.now.2.1) Cpq.out HP.out.im).mono ?_
 rintro e w5 ⟨rfl,hb⟩;clear hz3_0 hz3_1;replace AL:=q_ (AL.out.mv hb);replace HB:=q_ (below_step HB.out hb);clear hb;have hz3_0:=cz_ (q_ (AL.out.now.1)) 0;have hz3_1:=cz_ (q_ (AL.out.now.1)) 1
 go_wp2_with fail
 refine(spec_PivotMinor.calls k _ _ Mp _ _ Qp s t above below one _ (AL.out.now.2.2.1) Cpm.out (AL.out.now.2.1) Cpq.out HP.out.sp).mono ?_
 rintro e w6 ⟨rfl,hb⟩;clear hz3_0 hz3_1;replace AL:=q_ (AL.out.mv hb);replace HB:=q_ (below_step HB.out hb);clear hb
 go_wp2_with fail
 refine(dco_c (Kd.C_below HR0.out HB.out) HC0.out HBY.out HLN.out).mono ?_
 rintro e w7 ⟨_,Mq,Qq,u,rfl,⟨Aqm,cqm,Aqq,cqq,rfl,hM,hMc,hQ,hQc⟩,hM5,hQ6,hk0,hk1,hb⟩;replace AL:=q_ (AL.out.mv hb);replace HB:=q_ (below_step HB.out hb);replace AL:=q_ ((AL.out.addC hM).addC hQ);have Cqm:=q_ hMc;have Cqq:=q_ hQc;have Zq:=q_ (show Qq.length≤1048576 by omega);clear hM hMc hQ hQc hM5 hQ6 hb hk0 hk1;obtain⟨kq,R,den,two,whole,own2,hq⟩:=Pp.all_comp Mq Qq u Zq.out;have HC:=q_ hq;clear hq Zq
 go_wp2_with (first | ((with_reducible refine gate_dst (N:=12) rfl ?_);refine be_ 12 #[.slice none 0 0, .slice none 0 0] 27 ?_;intro g12 hg w8 hbox hb;have Bx:=q_ hbox;have HBx:=q_ hb;have Gx:Aside0 (w7.heap.size≤g12):=⟨by rw [hg];exact Nat.le_refl _⟩;have hx0:=cz_ Bx 0;have hx1:=cz_ Bx 1;have hfx0:=blk_frozen hbox 0;have hfx1:=blk_frozen hbox 1;clear hb hbox hg) | ((with_reducible refine gate_store (t:=27) (p:=12) rfl ?_);refine se_ 27 12 ((w8.setCell ⟨g12,0,none⟩ (.slice Aqm Mq.length cqm)).setCell ⟨g12,1,none⟩ (.slice Aqq Qq.length cqq)) ?_;intro w9 hw;have nb:=q_ (show w9.heap[g12]?=some (.cells #[.slice Aqm Mq.length cqm, .slice Aqq Qq.length cqq] 27 (0,0)) from (by rw [hw];exact blk_put (blk_put Bx.out 0 _ rfl) 1 _ rfl));have hb:Below w7.heap.size w7 w9:=(by rw [hw];exact(HBx.out.setCell Gx.out _).setCell Gx.out _);replace AL:=q_ ((AL.out.mv hb).addB nb.out);replace HB:=q_ (below_step HB.out hb);clear hw hb nb hx0 hx1 hfx0 hfx1 Bx HBx Gx;have hz12_0:=cz_ (q_ (AL.out.now.1)) 0;have hz12_1:=cz_ (q_ (AL.out.now.1)) 1))
 refine(impl_ComplementOf.calls kq _ _ Mq _ _ Qq u R den two _ (AL.out.now.2.2.1) Cqm.out (AL.out.now.2.1) Cqq.out HC.out.im).mono ?_
 rintro e w10 ⟨v1,rfl,hS,hb⟩;clear hz12_0 hz12_1;replace AL:=q_ (AL.out.mv hb);replace HB:=q_ (below_step HB.out hb);obtain⟨A14,c14,rfl⟩:=Kd.S_slice hS;have C14:=q_ (Kd.S_reads' hS).2.1;replace AL:=q_ (AL.out.addC (Kd.S_reads' hS).2.2);clear hS hb;have hz12_0:=cz_ (q_ (AL.out.now.2.1)) 0;have hz12_1:=cz_ (q_ (AL.out.now.2.1)) 1
 go_wp2_with fail
 refine(spec_ComplementOf.calls kq _ _ Mq _ _ Qq u R den two _ (AL.out.now.2.2.2.1) Cqm.out (AL.out.now.2.2.1) Cqq.out HC.out.sp).mono ?_
 rintro e w11 ⟨v1,rfl,hS,hb⟩;clear hz12_0 hz12_1;replace AL:=q_ (AL.out.mv hb);replace HB:=q_ (below_step HB.out hb);obtain⟨A17,c17,rfl⟩:=Kd.S_slice hS;have C17:=q_ (Kd.S_reads' hS).2.1;replace AL:=q_ (AL.out.addC (Kd.S_reads' hS).2.2);clear hS hb
 go_wp2_with fail
 refine(laws_rows9.calls kq _ _ R _ _ R true _ (AL.out.now.2.1) C14.out (AL.out.now.1) C17.out HC.out.q).mono ?_
 rintro e w12 ⟨rfl,hd⟩;have hb:=Al.drawn_below hd;replace AL:=q_ (AL.out.mv hb);replace HB:=q_ (below_step HB.out hb);clear hb hd
 go_wp2_with fail
 refine(drc_c (Kd.C_below HR0.out HB.out) HC0.out HBY.out HLN.out).mono ?_
 rintro e w13 ⟨_,Mr,Qr,ch,Ach,cch,rfl,⟨Arm,crm,Arq,crq,rfl,hM,hMc,hQ,hQc⟩,hM5,hQ6,hl,hlc,hl26,hb⟩;replace AL:=q_ (AL.out.mv hb);replace HB:=q_ (below_step HB.out hb);replace AL:=q_ (((AL.out.addC hM).addC hQ).addC hl);have Crm:=q_ hMc;have Crq:=q_ hQc;have Cch:=q_ hlc;have Zr:=q_ (show Qr.length≤1048576 by omega);have Zl:=q_ hl26;clear hM hMc hQ hQc hM5 hQ6 hb hl hlc hl26;obtain⟨kr,S,three,m,ok,hr⟩:=Pp.all_chain Mr Qr ch Zr.out;have HR:=q_ hr;clear hr Zr
 go_wp2_with (first | ((with_reducible refine gate_dst (N:=20) rfl ?_);refine be_ 20 #[.slice none 0 0, .slice none 0 0] 27 ?_;intro g20 hg w14 hbox hb;have Bx:=q_ hbox;have HBx:=q_ hb;have Gx:Aside0 (w13.heap.size≤g20):=⟨by rw [hg];exact Nat.le_refl _⟩;have hx0:=cz_ Bx 0;have hx1:=cz_ Bx 1;have hfx0:=blk_frozen hbox 0;have hfx1:=blk_frozen hbox 1;clear hb hbox hg) | ((with_reducible refine gate_store (t:=27) (p:=20) rfl ?_);refine se_ 27 20 ((w14.setCell ⟨g20,0,none⟩ (.slice Arm Mr.length crm)).setCell ⟨g20,1,none⟩ (.slice Arq Qr.length crq)) ?_;intro w15 hw;have nb:=q_ (show w15.heap[g20]?=some (.cells #[.slice Arm Mr.length crm, .slice Arq Qr.length crq] 27 (0,0)) from (by rw [hw];exact blk_put (blk_put Bx.out 0 _ rfl) 1 _ rfl));have hb:Below w13.heap.size w13 w15:=(by rw [hw];exact(HBx.out.setCell Gx.out _).setCell Gx.out _);replace AL:=q_ ((AL.out.mv hb).addB nb.out);replace HB:=q_ (below_step HB.out hb);clear hw hb nb hx0 hx1 hfx0 hfx1 Bx HBx Gx;have hz20_0:=cz_ (q_ (AL.out.now.1)) 0;have hz20_1:=cz_ (q_ (AL.out.now.1)) 1))
 refine(impl_RunChain.calls kr _ _ Mr _ _ Qr _ _ ch S three _ (AL.out.now.2.2.2.1) Crm.out (AL.out.now.2.2.1) Crq.out (AL.out.now.2.1) Cch.out HR.out.im).mono ?_
 rintro e w16 ⟨v22,rfl,ho,hb⟩;clear hz20_0 hz20_1;replace AL:=q_ (AL.out.mv hb);replace HB:=q_ (below_step HB.out hb);obtain⟨A22,c22,rfl⟩:=Kd.R_slice ho;have C22:=q_ (Kd.R_reads' ho).2.1;replace AL:=q_ (AL.out.addC (Kd.R_reads' ho).2.2);clear hb ho;have hz20_0:=cz_ (q_ (AL.out.now.2.1)) 0;have hz20_1:=cz_ (q_ (AL.out.now.2.1)) 1
 go_wp2_with fail
 refine(spec_RunChain.calls kr _ _ Mr _ _ Qr _ _ ch S three _ (AL.out.now.2.2.2.2.1) Crm.out (AL.out.now.2.2.2.1) Crq.out (AL.out.now.2.2.1) Cch.out HR.out.sp).mono ?_
 rintro e w17 ⟨v24,rfl,ho,hb⟩;clear hz20_0 hz20_1;replace AL:=q_ (AL.out.mv hb);replace HB:=q_ (below_step HB.out hb);obtain⟨A24,c24,rfl⟩:=Kd.R_slice ho;have C24:=q_ (Kd.R_reads' ho).2.1;replace AL:=q_ (AL.out.addC (Kd.R_reads' ho).2.2);clear hb ho
 go_wp2_with fail
 refine(laws_likeInts.calls kr _ _ S _ _ S true _ (AL.out.now.2.1) C22.out (AL.out.now.1) C24.out HR.out.q).mono ?_
 rintro e w18 ⟨rfl,hd⟩;have hb:=Al.drawn_below hd;replace AL:=q_ (AL.out.mv hb);replace HB:=q_ (below_step HB.out hb);clear hb hd
 go_upto_if 138 with (fail)
 replace AL:=q_ (show Al (fun W_=>(Kd.C (Kd.int .i64) W_ A22 S.length S)∧(W_.heap[g20]?=some (.cells #[.slice Arm Mr.length crm, .slice Arq Qr.length crq] 27 (0,0)))∧(Kd.C (Kd.int .i64) W_ Ach ch.length ch)∧(Kd.C (Kd.int .i64) W_ Arq Qr.length Qr)∧(Kd.C (Kd.slice 2 (Kd.int .i64)) W_ Arm Mr.length Mr)∧(Kd.C (Kd.slice 2 (Kd.int .i64)) W_ A14 R.length R)∧(W_.heap[g12]?=some (.cells #[.slice Aqm Mq.length cqm, .slice Aqq Qq.length cqq] 27 (0,0)))∧(Kd.C (Kd.int .i64) W_ Aqq Qq.length Qq)∧(Kd.C (Kd.slice 2 (Kd.int .i64)) W_ Aqm Mq.length Mq)∧(W_.heap[g3]?=some (.cells #[.slice Apm Mp.length cpm, .slice Apq Qp.length cpq] 27 (0,0)))∧(Kd.C (Kd.int .i64) W_ Apq Qp.length Qp)∧(Kd.C (Kd.slice 2 (Kd.int .i64)) W_ Apm Mp.length Mp)∧True) _ from ⟨fun w2 h2=>⟨(AL.out.all w2 h2).2.1,(AL.out.all w2 h2).2.2.1,(AL.out.all w2 h2).2.2.2.1,(AL.out.all w2 h2).2.2.2.2.1,(AL.out.all w2 h2).2.2.2.2.2.1,(AL.out.all w2 h2).2.2.2.2.2.2.2.1,(AL.out.all w2 h2).2.2.2.2.2.2.2.2.1,(AL.out.all w2 h2).2.2.2.2.2.2.2.2.2.1,(AL.out.all w2 h2).2.2.2.2.2.2.2.2.2.2.1,(AL.out.all w2 h2).2.2.2.2.2.2.2.2.2.2.2.1,(AL.out.all w2 h2).2.2.2.2.2.2.2.2.2.2.2.2.1,(AL.out.all w2 h2).2.2.2.2.2.2.2.2.2.2.2.2.2.1,trivial⟩⟩)
 go_cut [26,27,28] from 137 to 173 (fun v26 v27 v28 wc=>Aside0 (Al (fun W_=>(W_.heap[g12]?=some (.cells #[.slice Aqm Mq.length cqm, .slice Aqq Qq.length cqq] 27 (0,0)))∧(Kd.C (Kd.slice 2 (Kd.int .i64)) W_ A14 R.length R)∧(Kd.C (Kd.int .i64) W_ Aqq Qq.length Qq)∧(Kd.C (Kd.slice 2 (Kd.int .i64)) W_ Aqm Mq.length Mq)∧(W_.heap[g3]?=some (.cells #[.slice Apm Mp.length cpm, .slice Apq Qp.length cpq] 27 (0,0)))∧(Kd.C (Kd.int .i64) W_ Apq Qp.length Qp)∧(Kd.C (Kd.slice 2 (Kd.int .i64)) W_ Apm Mp.length Mp)∧True) wc)∧Aside0 (Below w.heap.size w wc))
 case first=>
  by_cases c3:three=0
  ·subst c3;obtain⟨hG1_,hG2_,hG3_,hG4_,hG5_,hG6_,hG7_⟩:=HR.out.good rfl;have G1:=q_ hG1_;have G2:=q_ hG2_;have G3:=q_ hG3_;have G4:=q_ hG4_;have G5:=q_ hG5_;have G6:=q_ hG6_;have G7:=q_ hG7_;clear hG1_ hG2_ hG3_ hG4_ hG5_ hG6_ hG7_;have hz20_0:=cz_ (q_ (AL.out.now.2.1)) 0;have hz20_1:=cz_ (q_ (AL.out.now.2.1)) 1
   go_wp2_with fail
   refine(basic_calls m ok _ _ Mr _ _ Qr _ (AL.out.now.2.2.2.2.1) Crm.out (AL.out.now.2.2.2.1) Crq.out G1.out G2.out G3.out G4.out).mono ?_
   rintro e w19 ⟨v26,rfl,ho,hb⟩;clear hz20_0 hz20_1;replace AL:=q_ (AL.out.mv hb);replace HB:=q_ (below_step HB.out hb);obtain⟨A26,c26,rfl⟩:=Kd.R_slice ho;have C26:=q_ (Kd.R_reads' ho).2.1;replace AL:=q_ (AL.out.addC (Kd.R_reads' ho).2.2);clear hb ho;have hS0:(0:Int) < (S.length:Int):=by have:=G5.out;omega
   obtain⟨adS,eb,hxS⟩:=Kd.at_int (AL.out.now.2.1) (0:Int) (by decide) hS0;subst eb;rw [show (0:Int).toNat=0 from rfl,show adS.add 0=adS from rfl,show rd S (0:Int)=0 from (by have:=G6.out;simpa [rd] using this)] at hxS;have q1:IntKind.i64.wrap ((ch.length:Int)+1)=(S.length:Int):=by rw [IntWalk.i64_in _ (by have:=Zl.out;omega)];have:=G5.out;omega
   have q2:wrap64 ((ch.length:Int)+1)=(S.length:Int):=(i64_w _).symm.trans q1;go_wp2
   clear hxS q1 q2
   go_loopg [28] S.length (fun gg v28 wr=> ∃i:Nat,i≤S.length∧S.length - i≤gg∧v28= .int .i64 (i:Int)∧Aside0 (Al (fun W_=>(Kd.C (Kd.int .i64) W_ A26 (baL ok m).length (baL ok m))∧(Kd.C (Kd.int .i64) W_ (some adS) S.length S)∧(W_.heap[g20]?=some (.cells #[.slice Arm Mr.length crm, .slice Arq Qr.length crq] 27 (0,0)))∧(Kd.C (Kd.int .i64) W_ Ach ch.length ch)∧(Kd.C (Kd.int .i64) W_ Arq Qr.length Qr)∧(Kd.C (Kd.slice 2 (Kd.int .i64)) W_ Arm Mr.length Mr)∧(Kd.C (Kd.slice 2 (Kd.int .i64)) W_ A14 R.length R)∧(W_.heap[g12]?=some (.cells #[.slice Aqm Mq.length cqm, .slice Aqq Qq.length cqq] 27 (0,0)))∧(Kd.C (Kd.int .i64) W_ Aqq Qq.length Qq)∧(Kd.C (Kd.slice 2 (Kd.int .i64)) W_ Aqm Mq.length Mq)∧(W_.heap[g3]?=some (.cells #[.slice Apm Mp.length cpm, .slice Apq Qp.length cpq] 27 (0,0)))∧(Kd.C (Kd.int .i64) W_ Apq Qp.length Qp)∧(Kd.C (Kd.slice 2 (Kd.int .i64)) W_ Apm Mp.length Mp)∧True) wr)∧Aside0 (Below w.heap.size w wr))
   case atStart=>exact⟨0,Nat.zero_le _,by omega,rfl,AL,HB⟩
   case round=>
    clear AL HB;obtain⟨i,hi',hg1,rfl,AL,HB⟩:=hrel
    by_cases hlt:i < S.length
    ·have hltz:(i:Int) < (S.length:Int):=by omega
     have h0z:(0:Int)≤(i:Int):=by omega
     have hwi:IntKind.i64.wrap ((i:Int)+1)=((i+1:Nat):Int):=by rw [IntWalk.i64_in _ (by have:=HR.out.len;omega)];rfl
     obtain⟨adT,eb,hxT⟩:=Kd.at_int (AL.out.now.2.1) (i:Int) h0z hltz;injection eb with eb;subst eb
     rw [Int.toNat_natCast] at hxT;have ex:rd S (i:Int)=S.getD i 0:=by simp [rd]
     rw [ex] at hxT;have HI:=q_ (G7.out i hlt);have HWI:=q_ hwi;have HG1:=q_ hg1;have HLT:=q_ hlt;clear hi' hg1 hlt hwi ex
     go_wp2_with fail
     refine(laws_hasInt.calls kr _ _ (baL ok m) _ true _ (AL.out.now.1) C26.out HI.out).mono ?_
     rintro e w20 ⟨rfl,hd⟩;have hb:=Al.drawn_below hd;replace AL:=q_ (AL.out.mv hb);replace HB:=q_ (below_step HB.out hb);clear hb hd hxT;go_wp2
     go_roundg (S.length - (i+1))
     case measure=>have:=HG1.out;have:=HLT.out;omega
     case rel=>exact⟨i+1,HLT.out,by omega,by first | rfl | (have h_:=HWI.out;rw [i64_w] at h_;rw [h_]) | (rw [HWI.out]),AL,HB⟩
    ·have hltz: ¬ (i:Int) < (S.length:Int):=by omega
     clear hi' hg1 hlt;go_wp2
     go_meet
     case rel=>exact⟨⟨⟨fun w2 h2=>⟨(AL.out.all w2 h2).2.2.2.2.2.2.2.1,(AL.out.all w2 h2).2.2.2.2.2.2.1,(AL.out.all w2 h2).2.2.2.2.2.2.2.2.1,(AL.out.all w2 h2).2.2.2.2.2.2.2.2.2.1,(AL.out.all w2 h2).2.2.2.2.2.2.2.2.2.2.1,(AL.out.all w2 h2).2.2.2.2.2.2.2.2.2.2.2.1,(AL.out.all w2 h2).2.2.2.2.2.2.2.2.2.2.2.2.1,trivial⟩⟩⟩,HB⟩
  ·have c4:(three==0)=false:=by simpa using c3
   go_wp2
   go_meet
   case rel=>exact⟨⟨⟨fun w2 h2=>⟨(AL.out.all w2 h2).2.2.2.2.2.2.1,(AL.out.all w2 h2).2.2.2.2.2.1,(AL.out.all w2 h2).2.2.2.2.2.2.2.1,(AL.out.all w2 h2).2.2.2.2.2.2.2.2.1,(AL.out.all w2 h2).2.2.2.2.2.2.2.2.2.1,(AL.out.all w2 h2).2.2.2.2.2.2.2.2.2.2.1,(AL.out.all w2 h2).2.2.2.2.2.2.2.2.2.2.2.1,trivial⟩⟩⟩,HB⟩
 case rest=>clear AL HB;obtain⟨AL,HB⟩:=hcut;rename_i hk;exact hk _ _ (laws_FnPivotMinors.after138_walk HP Cpm Cpq HC Cqm Cqq C14 AL HB)
theorem laws_FnPivotMinors.small (A0:Option Addr) (c0:Nat) (l0:List Int) (w:World) (hr0:Kd.C (Kd.int .u8) w A0 l0.length l0) (hc0:l0.length≤c0) (h0:(l0.length:Int) > 4096):
  Calls Try.prog 3 #[.slice A0 l0.length c0] w fun e w'=>e= .returned (.bool true)∧Below w.heap.size w w':=by
 have HR0:=q_ hr0;have HC0:=q_ hc0;have H0:=q_ h0;clear hr0 hc0 h0
 go_enter Try.func3,Try.ntmps3
 go_wp2_with fail
 refine(laws_big.calls A0 c0 l0 true _ HR0.out HC0.out (by unfold laws_big.f;rw [decide_eq_true H0.out])).mono ?_
 rintro e w2 ⟨rfl,hd⟩;have hb:=q_ (Al.drawn_below hd);clear hd;go_wp2
 go_ret
 exact⟨rfl,hb.out⟩
open Classical in
noncomputable def laws_FnPivotMinors.f (k:Nat) (l0:List Int):Option Bool:=if(l0.length:Int) > 4096∨(∀i:Nat,0≤l0.getD i 0∧l0.getD i 0≤255) then some true else none
theorem laws_FnPivotMinors.calls (k:Nat) (A0:Option Addr) (c0:Nat) (l0:List Int) (r:Bool) (w:World) (hr0:Kd.C (Kd.int .u8) w A0 l0.length l0) (hc0:l0.length≤c0) (h:laws_FnPivotMinors.f k l0=some r):
  Calls Try.prog 3 #[.slice A0 l0.length c0] w fun e w'=>e= .returned (.bool r)∧Below w.heap.size w w':=by
 unfold laws_FnPivotMinors.f at h
 split at h
 case isFalse=>cases h
 rename_i hok
 cases h
 by_cases h1:(l0.length:Int) > 4096
 ·exact laws_FnPivotMinors.small A0 c0 l0 w hr0 hc0 h1
 ·exact laws_FnPivotMinors.walk ⟨hr0⟩ ⟨hc0⟩ ⟨hok.resolve_left h1⟩ ⟨by omega⟩
end Go.Proofs.Ytbjljcpngbhkeaa.Pr
end
section
namespace Go.Proofs.Wz.PrintWords
open Go.ChangeShapes Go.WideShapes
end Go.Proofs.Wz.PrintWords
end
section
namespace Go.Proofs.Ytbjljcpngbhkeaa.Op
open Go.ChangeShapes Go.WideShapes Go.ChangeAt Go.RowKit Go.Deep Go.Joins Wz.PrintWords
def Opens (P:Program) (t:TypeId) {α:Type} (d:Kd α) (G:α→Prop):Prop:=
 ∀(H:Type) (enc:TypeId × Value→H) (w:World) (base:Nat) (held:Bool) (fuel:Nat) (cs:List Value) (x:DataW H × List MemPlace),
  DataW.trod enc P w base (fun _=>true) held fuel t cs=some x→ ∃a,d.K w a cs∧G a
def GoodInt (k:IntKind) (n:Int):Prop:=(Lit.int k n).wf=true
def GoodList {α:Type} (G:α→Prop) (l:List α):Prop:=l.length≤maxLen∧ ∀x ∈ l,G x
theorem opens_int {P:Program} {t:TypeId} {k:IntKind} (ht:P.underlying t=some (.int k)):Opens P t (Kd.int k) (GoodInt k):=by
 intro H enc w base held fuel cs x h
 obtain⟨n,rfl,_,hw⟩:=DataW.trod_int ht h
 exact⟨n,rfl,hw⟩
theorem opens_slice {P:Program} {t e:TypeId} {α:Type} [Inhabited α] {d:Kd α} {G:α→Prop} (ht:P.underlying t=some (.slice e)) (hc:P.cellsOf e=d.sz) (he:Opens P e d G):
  Opens P t (Kd.slice e d) (GoodList G):=by
 intro H enc w base held fuel cs x h
 rcases open_slice ht h with ⟨rfl,_⟩ | ⟨a,len,cap,m,n,D,Pl,rfl,hb,hl,hm,hmm,_,hx⟩
 ·exact⟨[],⟨none,0,rfl,Nat.le_refl _,⟨rfl,Nat.zero_le _,fun hn=>absurd hn (Nat.lt_irrefl 0)⟩⟩,⟨Nat.zero_le _,fun x hx=>by cases hx⟩⟩
 ·simp only [if_true] at hmm
  subst hmm
  have each: ∀i,i < m→ ∃y:α,(∃c,c.length=d.sz∧d.K w y c∧ ∀j u,c[j]?=some u→w.cell? (a.add (i*d.sz+j))=some u)∧G y:=by
   intro i hi
   obtain⟨cs',h1,h2⟩:=hx i hi
   obtain⟨_,hlen,hcell⟩:=World.cells?_some h1
   obtain⟨y,hy,hg⟩:=he H enc w base held n cs' _ h2
   rw [hc] at hlen hcell
   refine⟨y,⟨cs',hlen,hy,fun j u hu=>?_⟩,hg⟩
   have hj:j < d.sz:=by rw [← hlen];exact(List.getElem?_eq_some_iff.1 hu).1
   rw [← hu, ← hcell j hj]
   congr 1
   unfold Addr.add
   by_cases h1:i*d.sz=0 <;> by_cases h2:j=0 <;> simp [h1,h2,Nat.add_assoc]
  obtain⟨Y,hY⟩:=choose_lt each
  have hmax:m≤9223372036854775807:=by unfold maxLen at hm;omega
  refine⟨(List.range len).map Y,⟨some a,m,by simp,by simpa using hl,?_⟩,by simp;omega,?_⟩
  ·refine⟨rfl,by simp;omega,fun _=>⟨a,rfl,fun j p hj=>?_⟩⟩
   have hjl:j < len:=by have:=(List.getElem?_eq_some_iff.1 hj).1;simpa using this
   have hp:p=Y j:=by
    rw [List.getElem?_map,List.getElem?_range hjl] at hj
    simpa using hj.symm
   subst hp
   exact(hY j (by omega)).1
  ·intro y hy
   obtain⟨j,hj,rfl⟩:=List.mem_map.1 hy
   exact(hY j (by have:=List.mem_range.1 hj;omega)).2
section
variable {P:Program} {W:World} {H:Type} {enc:TypeId × Value→H} {base:Nat} {held:Bool} {t:TypeId} {v:Value} {dd:DataW H} {ps:List MemPlace} {r:Reach} {b0:Nat}
theorem arg_slice {e:TypeId} {α:Type} [Inhabited α] {d:Kd α} {G:α→Prop} (ht:P.underlying t=some (.slice e)) (hc:P.cellsOf e=d.sz) (he:Opens P e d G) (hv:Value.okWide P W r b0 t v) (h:DataW.Trod enc P W base (fun _=>true) held t v dd ps):
  ∃A c l,v= .slice A l.length c∧l.length≤c∧d.C W A l.length l∧GoodList G l:=by
 obtain⟨A,len,cap,rfl⟩:=okWide_slice ht hv
 obtain⟨fuel,hf⟩:=h
 obtain⟨l,⟨A',c',hcs,hl,hr⟩,hg⟩:=opens_slice ht hc he H enc W base held fuel _ _ hf
 simp [Value.cells] at hcs
 obtain⟨rfl,rfl,rfl⟩:=hcs
 exact⟨_,_,l,rfl,hl,hr,hg⟩
theorem trod_blocks (h:DataW.Trod enc P W base (fun _=>true) held t v dd ps): ∀x ∈ ps,x.block < W.heap.size:=by
 obtain⟨m,hm⟩:=h
 exact DataW.trod_lt m _ _ _ hm
end
end Go.Proofs.Ytbjljcpngbhkeaa.Op
end
section
namespace Go.Proofs.Ytbjljcpngbhkeaa.Say
open Go.Proofs.Ytbjljcpngbhkeaa.Op Pr
def FnPivotMinors:Prop:= ∀(l0:List Int),GoodList (GoodInt .u8) l0→ ∃k,laws_FnPivotMinors.f k l0=some true
end Go.Proofs.Ytbjljcpngbhkeaa.Say
end
section
namespace Go.Proofs.Ytbjljcpngbhkeaa.Pure
open Go.RowKit Wz.PrintWords Wz.PrintMore Pr Go.Proofs.Ytbjljcpngbhkeaa.Op
theorem bytes_of {l:List Int} (h:GoodList (GoodInt .u8) l): ∀i:Nat,0≤l.getD i 0∧l.getD i 0≤255:=fun i=>by
 by_cases c:i < l.length
 ·have hm:=h.2 l[i] (List.getElem_mem c)
  replace hm:(decide (IntKind.u8.min≤l[i]) && decide (l[i]≤IntKind.u8.max))=true:=hm
  have h2:IntKind.u8.min=0∧IntKind.u8.max=255:=by decide
  rw [h2.1,h2.2,Bool.and_eq_true,decide_eq_true_eq,decide_eq_true_eq] at hm
  rw [List.getD_eq_getElem?_getD,List.getElem?_eq_getElem c]
  exact hm
 ·rw [List.getD_eq_getElem?_getD,List.getElem?_eq_none (by omega)]
  exact⟨by decide,by decide⟩
theorem FnPivotMinors:Say.FnPivotMinors:=fun l0 hg=>⟨0,by
 classical
 unfold laws_FnPivotMinors.f
 rw [if_pos (.inr (bytes_of hg))]⟩
end Go.Proofs.Ytbjljcpngbhkeaa.Pure
end
section
namespace Go.Proofs.Ytbjljcpngbhkeaa.fnPivotMinors
open Go.ChangeShapes Go.WideShapes Go.ChangeAt Go.RowKit Go.Proofs.Ytbjljcpngbhkeaa.Op Wz.PrintWords
theorem own:ownKnob Try.prog.godebug=none:=by kernel_rfl
theorem laidOut:laidOutB Try.prog=true:=by kernel_rfl
theorem lifted (os:Os) (started:os.Started) (H:Type) (enc:TypeId × Value→H):
  ReturnsInHanded {} Try.checked os 3 .any (Rows.fnPivotMinorsSpec.pre6 enc Try.prog Try.f3 Rows.fnPivotMinorsRow.domain false) (Rows.fnPivotMinorsSpec.post enc Try.prog Try.f3 false true false false):=by
 refine returnsInHanded_of_change_sized (C:=Try.checked) own started (by kernel_rfl) Try.func3
  (ChangeSpec.witness6 (enc:=enc) (C:=Try.checked) false ⟨#[], #[.slice none 0 0], []⟩ 8 (by kernel_rfl) (by kernel_rfl) (by kernel_rfl) (by kernel_rfl)) ?_
 intro W base args ds gs before hval0 hW hcnd hsz0 _
 have hval: ∀(j:Nat) t v,Try.f3.params[j]?=some t→args[j]?=some v→Value.okWide Try.prog W .any base t v:=hval0
 have hW':=hW
 obtain⟨p,q,hA0,hV,rfl,hfz,hnd⟩:=hW
 have hA:DataW.TrodAll enc Try.prog W 0 (fun _=>true) true Try.f3.params.toList args.toList ds p:=hA0
 rw [Try.params3] at hA hval
 obtain⟨v0,vs0,d0,ds0,p0,q0,hargs,rfl,rfl,h0,r0⟩:=trodAll_cons hA
 obtain⟨rfl,rfl,rfl⟩:=trodAll_nil r0
 obtain rfl:args= #[v0]:=by cases args;simp_all
 obtain⟨rfl,rfl⟩:=trodVars_none hV
 have k0:=h0
 have lt0:=trod_blocks k0
 obtain⟨A0,c0,l0,rfl,q0_0,r0_0,g0⟩:=arg_slice (d:=(Kd.int .u8)) Try.underlying22 (by kernel_rfl) (opens_int Try.underlying5) (hval 0 22 v0 rfl rfl) h0
 obtain⟨k,h⟩:=Pure.FnPivotMinors l0 g0
 clear hA0 hval0 hsz0
 refine(Pr.laws_FnPivotMinors.calls k A0 c0 l0 true W r0_0 q0_0 h).mono ?_
 rintro e W' ⟨rfl,bel0⟩
 have bel:Below W.heap.size W W':=by first | exact bel0 | exact bel0.below
 exact⟨_,rfl,_,_,_, [],_, [],hW',trodAll_mk1 (shut_bool Try.underlying4 _),(trodAll_cons_mk (Below.trod laidOut (by kernel_rfl) (of_decide_eq_true (by kernel_rfl)) k0 bel lt0) trodAll_mk0),rfl,bel.frame _,fun h=>by cases h⟩
theorem over:Rows.fnPivotMinorsRow.holds Try.pinned (OpenSpec.ofChange Rows.fnPivotMinorsSpec):=
 OpenClaim.holds_of_wide 3 Try.f3 rfl rfl rfl rfl rfl rfl rfl ⟨rfl,rfl,rfl,rfl,rfl⟩ rfl rfl rfl rfl rfl (by kernel_rfl) Try.func3 (by kernel_rfl)
  (of_decide_eq_true (by kernel_rfl)) (by unfold Func.isWrapper;first | (rw [if_pos (by decide+kernel)];kernel_rfl) | (rw [if_neg (by decide+kernel)];exact⟨rfl,rfl⟩))
  (fun os started H enc _=>lifted os started H enc)
theorem proved:Rows.FnPivotMinorsSaid:=over
#print axioms proved
end Go.Proofs.Ytbjljcpngbhkeaa.fnPivotMinors
namespace Go.Proofs.Ytbjljcpngbhkeaa
theorem fnPivotMinors_holds:Rows.FnPivotMinorsSaid:=fnPivotMinors.proved
end Go.Proofs.Ytbjljcpngbhkeaa
end
