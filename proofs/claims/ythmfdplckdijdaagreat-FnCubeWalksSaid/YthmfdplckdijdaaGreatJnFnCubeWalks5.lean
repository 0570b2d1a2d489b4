/- Texts of one claim (the words of the kit's print that the claim uses, printed functions, and this session's own texts), joined in the order of their imports by this session's own program (merge.py). -/
import Derived.SizedLaws
import Derived.ChangeSlices
import Derived.Deep.Slices
import Derived.Deep.Fields
import Derived.Lib.SmallJoins
import Derived.Test.YthmfdplckdijdaaGreatRows
import Derived.WalkKit
import Derived.ProofKit
import Derived.OpenShut
import Derived.ShutString
import Derived.ChangeOld
import Derived.Below
import Derived.Test.YthmfdplckdijdaaGreatJnFnCubeWalks0
import Derived.Test.YthmfdplckdijdaaGreatJnFnCubeWalks1
import Derived.Test.YthmfdplckdijdaaGreatJnFnCubeWalks2
import Derived.Test.YthmfdplckdijdaaGreatJnFnCubeWalks4
set_option linter.unusedVariables false
set_option linter.unusedSimpArgs false
set_option maxHeartbeats 8000000
set_option maxRecDepth 100000
section
namespace Go.Proofs.YthmfdplckdijdaaGreat.Dr
open Go.RowKit Go.Proofs.YthmfdplckdijdaaGreatW.PrintWords Go.Proofs.YthmfdplckdijdaaGreatW.PrintLast Go.Proofs.YthmfdplckdijdaaGreatW.PrintMore Go.Proofs.YthmfdplckdijdaaGreat.Ma Go.Proofs.YthmfdplckdijdaaGreat.Pr Go.Proofs.YthmfdplckdijdaaGreat.Lq
def Prb (w0 w:World) (g n:Nat) (e:Value) (w':World):Prop:= ∃gm c b cp A c1 Q,e= .agg #[.slice (some ⟨gm,0,none⟩) n c, .slice A n c1]∧Q.length=n∧Dm w' w.heap.size gm n c b cp∧Kd.R (Kd.int .i64) 2 w' w.heap.size (fun k=>k≠g∧k≠gm∧ ∀j,j < n→k≠b j) (.slice A n c1) Q∧Stp w0 w g w'
theorem drawOf_c {w0 w:World} {g:Nat} (h:Srm w0 w g) (hB:Below w0.heap.size w0 w) (n:Nat) (hn:n≤5) (hn0:0 < n):Calls Tryz.prog 120 #[.pointer (some ⟨g,0,none⟩), .int .i64 (n:Int)] w fun e w'=> ∃v,e= .returned v∧Prb w0 w g n v w':=by
 have ST:=q_ (Stp.refl h hB);have HG:=q_ h.lt;have HE:=q_ hB.size;have HN:=q_ hn;have HN0:=q_ hn0;clear h hB hn hn0
 go_enter Tryz.func120,Tryz.ntmps120
 go_wp2_with (first | ((with_reducible refine gate_dst (N:=4) rfl ?_);refine be_ 4 #[.slice none 0 0, .slice none 0 0] 34 ?_;intro g4 hg w2 hbox hb;have G4:=q_ (show w.heap.size≤g4 by rw [hg];exact Nat.le_refl _);have B4:=q_ hbox;replace ST:=q_ (ST.out.trans (Stp.of_below ST.out.src ST.out.below hb));clear hg hbox hb) | ((with_reducible refine gate_dst (N:=14) rfl ?_);refine Kd.R_lit (Kd.int .i64) _ 2 ?hg (N:=14) ?hd (xs:=([1,2,3,9,20]:List Int)) (inner:= [.int .i64 1, .int .i64 2, .int .i64 3, .int .i64 9, .int .i64 20]) (ok:=fun _=>True) (okp:=fun _=>True) ?hr ?hp (fun _ hk=>hk) trivial (Below.refl _ _) (Nat.le_refl _) (by simp) ?_;(case hd=>rfl);(case hg=>rfl);(case hr=>first | (go_simp;done) | (go_simp;rfl));(case hp=>exact lit_reps [1,2,3,9,20]);intro v14 w3 ho hb hg_ hnew_;obtain⟨g14,c14,rfl,hb14,hl14,_⟩:=Kd.R_form ho (by simp);have G14:=q_ (Nat.lt_of_lt_of_le ST.out.src.lt hb14);replace ST:=q_ (ST.out.trans (Stp.of_below ST.out.src ST.out.below hb));replace B4:=q_ (blk_below B4.out hb);have R14:=q_ ho;clear hg_ hnew_ ho hb hb14 hl14))
 refine(pick_c ST.out.src ST.out.below _ c14 [1,2,3,9,20] (Kd.R_reads' R14.out).2.2 (Kd.R_reads' R14.out).2.1 (fun ad e _=>by injection e with e;subst e;show g14≠g;have:=G14.out;omega) (by decide)).mono ?_
 rintro e w4 ⟨x,rfl,_,hS⟩;replace ST:=q_ (ST.out.trans hS);replace B4:=q_ (hS.keep.blk B4.out (by have:=G4.out;have:=HG.out;omega) (by simp));clear hS R14 G14
 go_wp2_with fail
 refine(drawM_c ST.out.src ST.out.below n HN.out HN0.out x).mono ?_
 rintro e w5 ⟨gm,c,b,cp,rfl,hD,hS⟩;have DM:=q_ hD;have S5:=q_ hS;clear hD hS
 go_wp2_with (first | ((with_reducible refine gate_dst (N:=17) rfl ?_);refine Kd.R_lit (Kd.int .i64) _ 2 ?hg (N:=17) ?hd (xs:=([]:List Int)) (inner:= []) (ok:=fun _=>True) (okp:=fun _=>True) ?hr ?hp (fun _ hk=>hk) trivial (Below.refl _ _) (Nat.le_refl _) (by simp) ?_;(case hd=>rfl);(case hg=>rfl);(case hr=>first | (go_simp;done) | (go_simp;rfl));(case hp=>exact lit_reps []);intro v17 w6 ho hb hg_ hnew_;have R17:=q_ ho;have B17:=q_ hb;obtain⟨A17,c17,rfl⟩:=Kd.R_slice ho;clear hg_ hnew_ ho hb) | ((with_reducible refine gate_dst (N:=5) rfl ?_);refine be_ 5 #[.slice none 0 0, .slice none 0 0] 34 ?_;intro g5 hg w7 hbox hb;have G5:=q_ (show w5.heap.size≤g5 by rw [hg];exact B17.out.size);have Q5:=q_ (fun k (hk:(Value.slice A17 ([]:List Int).length c17).ownBlock=some k)=>(show k≠g5 by rw [hg];have:=Kd.R_lt R17.out k hk;omega));have B5:=q_ hbox;have B57:=q_ (below_step B17.out hb);replace R17:=q_ (Kd.R_below R17.out hb);have hx0:=cz_ B5 0;have hx1:=cz_ B5 1;have hfx0:=blk_frozen hbox 0;have hfx1:=blk_frozen hbox 1;clear hg hbox hb) | ((with_reducible refine gate_store (t:=34) (p:=5) rfl ?_);refine store_event (t:=34) (p:=5) (v:=?vo5) (w1:=(w7.setCell ⟨g5,0,none⟩ (.slice (some ⟨gm,0,none⟩) n c)).setCell ⟨g5,1,none⟩ (.slice A17 ([]:List Int).length c17)) ?hg ?ho ?hn ?hr ?_;(case ho=>rfl);(case hg=>rfl);(case hn=>rfl);(case hr=>first | (go_simp;done) | (go_simp;rfl));intro w8 hw;have D:=q_ (DO.new HE.out HG.out G4.out (blk_lt B4.out) ST.out ST.out.keep.1 S5.out DM.out B4.out B57.out R17.out G5.out B5.out Q5.out);rw [← hw] at D;clear hw hx0 hx1 hfx0 hfx1))
 clear ST S5 DM B4 G4 R17 B17 G5 Q5 B5 B57;refine(next_c D.out.q.st.src D.out.q.st.below 4).mono ?_
 rintro e w9 ⟨y,rfl,_,hS⟩;replace D:=q_ (D.out.mv hS);have HL:=q_ D.out.q.gl;clear hS
 go_upto_block 0 with (fail)
 go_cut [5] (fun v5 wc=>v5= .pointer (some ⟨g5,0,none⟩)∧ ∃gm c b cp,Aside0 (DO w0 w wc g g4 g5 n gm c b cp (.slice A17 0 c17) []))
 case first=>
  by_cases y0:y=0
  ·have y0b:(y==0)=true:=by simpa using y0
   clear y0
   go_wp2_with fail
   refine(drawP_c D.out.q.st.src D.out.q.st.below n HN.out HN0.out).mono ?_
   rintro e w10 ⟨gm2,c2,b2,cp2,rfl,hD,hS⟩;have D2:=q_ (D.out.rows hS hD);have B5:=q_ (D.out.mv hS).q.b5;have hx0:=cz_ B5 0;have hfx0:=blk_frozen B5.out 0;clear hD hS D;go_wp2
   go_meet
   case rel=>exact⟨rfl,_,_,_,_,D2⟩
  ·have y0b:(y==0)=false:=by simpa using y0
   clear y0
   by_cases y1:y=1
   ·have y1b:(y==1)=true:=by simpa using y1
    clear y1;go_wp2
    go_loopg [6] n (fun gg v6 wr=> ∃(i:Nat),i≤n∧n - i≤gg∧v6= .int .i64 (i:Int)∧Aside0 (DO w0 w wr g g4 g5 n gm c b cp (.slice A17 0 c17) []))
    case atStart=>exact⟨0,Nat.zero_le _,by omega,rfl,D⟩
    case round=>
     clear D;obtain⟨i,hi',hg,rfl,D⟩:=hrel;have HGG:=q_ hg
     by_cases hlt:i < n
     ·have hltz:(i:Int) < (n:Int):=by omega
      have h0z:(0:Int)≤(i:Int):=by omega
      have hwi:IntKind.i64.wrap ((i:Int)+1)=((i+1:Nat):Int):=by rw [IntWalk.i64_in _ (by have:=HN.out;omega)];rfl
      have HWI:=q_ hwi;have HLT:=q_ hlt;have hx0:=cz_ (q_ D.out.q.b5) 0;have hrow:=D.out.q.dm.row i hlt;clear hi' hg hlt;go_wp2
      clear hx0 hrow
      go_loopg [8] i (fun gg v8 wr=> ∃(k:Nat),k≤i∧i - k≤gg∧v8= .int .i64 (k:Int)∧Aside0 (DO w0 w wr g g4 g5 n gm c b cp (.slice A17 0 c17) []))
      case atStart=>exact⟨0,Nat.zero_le _,by omega,rfl,D⟩
      case round=>
       clear D;obtain⟨k,hk',hg2,rfl,D⟩:=hrel;have HG2:=q_ hg2
       by_cases hki:k < i
       ·have hkiz:(k:Int) < (i:Int):=by omega
        have hknz:(k:Int) < (n:Int):=by omega
        have h0k:(0:Int)≤(k:Int):=by omega
        have hwk:IntKind.i64.wrap ((k:Int)+1)=((k+1:Nat):Int):=by rw [IntWalk.i64_in _ (by have:=HN.out;omega)];rfl
        have HWK:=q_ hwk;have HKI:=q_ hki;have hx0:=cz_ (q_ D.out.q.b5) 0;have hrow:=D.out.q.dm.row k (by have:=HLT.out;omega);obtain⟨⟨x1,hx1⟩,_⟩:=D.out.q.dm.ints k i (by have:=HLT.out;omega) HLT.out;obtain⟨⟨x2,hx2⟩,hfx2⟩:=D.out.q.dm.ints i k HLT.out (by have:=HLT.out;omega);clear hk' hg2 hki;go_wp2
        go_roundg (i - (k+1))
        case measure=>have:=HG2.out;have:=HKI.out;omega
        case rel=>exact⟨k+1,HKI.out,by omega,by first | rfl | (rw [HWK.out]) | (simp [HWK.out]),⟨D.out.put HLT.out (by have:=HLT.out;have:=HKI.out;omega) _⟩⟩
       ·have hkiz: ¬ (k:Int) < (i:Int):=by omega
        clear hk' hg2 hki;go_wp2
        go_roundg (n - (i+1))
        case measure=>have:=HGG.out;have:=HLT.out;omega
        case rel=>exact⟨i+1,HLT.out,by omega,by first | rfl | (rw [HWI.out]) | (simp [HWI.out]),D⟩
     ·have hltz: ¬ (i:Int) < (n:Int):=by omega
      clear hi' hg hlt;go_wp2
      go_meet
      case rel=>exact⟨rfl,_,_,_,_,D⟩
   ·have y1b:(y==1)=false:=by simpa using y1
    clear y1;go_wp2
    go_meet
    case rel=>exact⟨rfl,_,_,_,_,D⟩
 case rest=>
  clear D;obtain⟨rfl,gm,c,b,cp,D⟩:=hcut
  go_wp2_with (first | ((with_reducible refine gate_dst (N:=56) rfl ?_);refine Kd.R_lit (Kd.int .i64) _ 2 ?hg (N:=56) ?hd (xs:=([1,2,5,20,100]:List Int)) (inner:= [.int .i64 1, .int .i64 2, .int .i64 5, .int .i64 20, .int .i64 100]) (ok:=fun _=>True) (okp:=fun _=>True) ?hr ?hp (fun _ hk=>hk) trivial (Below.refl _ _) (Nat.le_refl _) (by simp) ?_;(case hd=>rfl);(case hg=>rfl);(case hr=>first | (go_simp;done) | (go_simp;rfl));(case hp=>exact lit_reps [1,2,5,20,100]);intro v56 w12 ho hb hg_ hnew_;obtain⟨g56,c56,rfl,hb56,hl56,_⟩:=Kd.R_form ho (by simp);have G56:=q_ (Nat.lt_of_lt_of_le D.out.q.st.src.lt hb56);replace D:=q_ (D.out.below hb);have R56:=q_ ho;clear hg_ hnew_ ho hb hb56 hl56))
  refine(pick_c D.out.q.st.src D.out.q.st.below _ c56 [1,2,5,20,100] (Kd.R_reads' R56.out).2.2 (Kd.R_reads' R56.out).2.1 (fun ad e _=>by injection e with e;subst e;show g56≠g;have:=G56.out;omega) (by decide)).mono ?_
  rintro e w13 ⟨mo,rfl,_,hS⟩;replace D:=q_ (D.out.mv hS);clear hS R56 G56;go_wp2
  go_loopg [10] n (fun gg v10 wr=> ∃(i:Nat) (A:Option Addr) (q:Nat) (Q:List Int),i≤n∧n - i≤gg∧v10= .int .i64 (i:Int)∧Q.length=i∧Aside0 (DO w0 w wr g g4 g5 n gm c b cp (.slice A i q) Q))
  case atStart=>exact⟨0,_,_, [],Nat.zero_le _,by omega,rfl,rfl,D⟩
  case round=>
   clear D;obtain⟨i,A,q,Q,hi',hg,rfl,hQl,D⟩:=hrel;have HGG:=q_ hg;have HQ:=q_ hQl
   by_cases hlt:i < n
   ·have hltz:(i:Int) < (n:Int):=by omega
    have hwi:IntKind.i64.wrap ((i:Int)+1)=((i+1:Nat):Int):=by rw [IntWalk.i64_in _ (by have:=HN.out;omega)];rfl
    have HWI:=q_ hwi;have HLT:=q_ hlt;clear hi' hg hlt hQl;go_wp2
    replace D:=q_ (D.out.below (below_drew (Below.refl wr.heap.size wr)));refine st_ (n:=9) (S:=fun w'=>w'.cell? ⟨g5,1,none⟩=some (.slice A i q)) (ds:= [8]) (cz_ (q_ D.out.q.b5) 1) (fun hHeld=>?_)
    generalize wr.drew=w14 at D hHeld ⊢
    refine pu_ 0 63 ?_;refine pu_ 2 65 ?_;refine pu_ 3 66 ?_;refine tk_ 1 64 ?_
    refine on_ 4 (some 67) (fun K hK=>?_)
    refine ca_ Tryz.func129 #[.pointer (some ⟨g,0,none⟩), .int .i64 mo] ?_
    refine(part_c D.out.q.st.src D.out.q.st.below mo).mono ?_
    rintro e w15 ⟨x,rfl,hS⟩;refine⟨_,rfl,?_⟩
    replace D:=q_ (D.out.mv hS);clear hS hHeld;refine hK.out _ _ (cz_ (q_ D.out.q.b5) 1) (fun hHeld=>?_)
    clear hK K;refine no_ ?_
    refine on_ 5 (some 68) (fun K hK=>?_)
    refine va_ ?_
    refine hK.out _ _ ((blk_cell (blk_alloc D.out.q.b5 _) 1).trans rfl) (fun hHeld=>?_)
    clear hK K;refine no_ ?_
    refine on_ 6 (some 69) (fun K hK=>?_)
    refine Kd.R_append_step (Kd.int .i64) (w0:=w15) w.heap.size (by rfl) (.tmp 64) (.tmp 68) 24 2 (.int .i64 0) 8 rfl Tryz.underlying24 info2 rfl (by decide) (by omega) (.slice A i q) Q x [.int .i64 x] (okQ g g4 g5 n gm b) (fun _=>False) rfl rfl rfl (fun _ hk=>hk.elim) D.out.fresh D.out.rq (Below.refl _ _) D.out.q.st.keep.1 ?aL ?_
    case aL=>have:=HN.out;have:=HLT.out;have:=HQ.out;omega
    intro v11 w16 ho hb hg hat;have DD:=q_ (D.out.grow hg hb);have RQ:=q_ ho;clear ho hb hg hat hHeld D;obtain⟨A9,c9,e9⟩:=Kd.R_slice RQ.out;have hl9:(Q++ [x]).length=i+1:=by have:=HQ.out;simp;omega
    rw [hl9] at e9;subst e9;have HL9:=q_ hl9;clear hl9;refine hK.out _ _ (cz_ (q_ DD.out.b5) 1) (fun hHeld=>?_)
    clear hK K;refine nd_ 69 ?_
    refine pu_ 7 70 ?_
    have hx1:=cz_ (q_ DD.out.b5) 1;have hfx1:=blk_frozen DD.out.b5 1;refine la_ 8 none (fun K hK=>?_)
    refine skip_ (w1:=?_) (by rfl) rfl ?_ ?_
    rotate_left
    ·go_simp
     rfl
    refine hK.out _ _ ?_
    clear hK K hHeld hx1 hfx1;refine done_ (by kernel_rfl) ?_
    have D2:=q_ (DD.out.store RQ.out);go_wp2
    go_roundg (n - (i+1))
    case measure=>have:=HGG.out;have:=HLT.out;omega
    case rel=>exact⟨i+1,_,_,_,HLT.out,by omega,by first | rfl | (rw [HWI.out]) | (simp [HWI.out]),HL9.out,D2⟩
   ·have hltz: ¬ (i:Int) < (n:Int):=by omega
    obtain rfl:n=i:=by omega
    have hx0:=cz_ (q_ D.out.q.b5) 0;have hx1:=cz_ (q_ D.out.q.b5) 1;have hy0:=cz_ (q_ D.out.q.b4) 0;have hy1:=cz_ (q_ D.out.q.b4) 1;have hfy0:=blk_frozen D.out.q.b4 0;have hfy1:=blk_frozen D.out.q.b4 1;clear hi' hg hlt;go_wp2
    refine bodyPost_ret (results_cell_row rfl _ _ g4 34 #[.slice (some ⟨gm,0,none⟩) n c, .slice A n q] (0,0) _ rfl (blk_put (blk_put D.out.q.b4 0 _ rfl) 1 _ rfl) Tryz.underlying34 rfl (by kernel_rfl)) rfl ?_
    have h4:=D.out.q.s4;have hg4:=D.out.q.gl;refine⟨_,rfl,gm,c,b,cp,A,q,Q,rfl,HQ.out,(D.out.q.dm.set h4.2.2.1 h4.2.2.2).set h4.2.2.1 h4.2.2.2,?_,(D.out.q.st.set HE.out g4 0 _ h4.1 (by omega)).set HE.out g4 1 _ h4.1 (by omega)⟩
    exact Kd.R_mono (Kd.R_far (Kd.R_far D.out.rq (p:=⟨g4,0,none⟩) (fun k hk=>hk.2.1) _) (p:=⟨g4,1,none⟩) (fun k hk=>hk.2.1) _) (fun k hk=>⟨hk.1,hk.2.2.2⟩)
end Go.Proofs.YthmfdplckdijdaaGreat.Dr
end
section
namespace Go.Proofs.YthmfdplckdijdaaGreat.Pr
open Go.RowKit Go.Proofs.YthmfdplckdijdaaGreatW.PrintWords Go.Proofs.YthmfdplckdijdaaGreatW.PrintLast Go.Proofs.YthmfdplckdijdaaGreatW.PrintMore
attribute [local go_sem] max2_int min2_int max_two min_two max_three min_three max_four min_four
def spec_l01Copy.l0:Nat→Int→List (List Int)→List Int→List (List Int)→List Int→Option ((List (List Int)) × List Int)
 | 0,_,_,_,_,_=>none
 | k+1,x4,aa,ag,ae,af=>if x4 < (aa.length:Int) then(if 0≤x4 then((spec_l01Own.f (rd_L3 aa x4)).bind fun ah=>(if ae.length < 5864062014805 then(spec_l01Copy.l0 k (wrap64 (x4+1)) aa ag (ae++ [ah]) af) else(none))) else(none)) else(some (ae,af))
def spec_l01Copy.f (k:Nat) (ae:List (List Int)) (aa:List Int):Option ((List (List Int)) × List Int):=(spec_l01Own.f aa).bind fun af=>(spec_l01Copy.l0 k 0 ae aa (([]:List (List Int))) af)
theorem spec_l01Copy.mono_l: ∀k,(∀y0 y1 y2 y3 y4,LeO (spec_l01Copy.l0 k y0 y1 y2 y3 y4) (spec_l01Copy.l0 (k+1) y0 y1 y2 y3 y4))
 | 0=>fun _ _ _ _ _ r h=>by simp [spec_l01Copy.l0] at h
 | k+1=>by
  have ih0:=spec_l01Copy.mono_l k
  intros;unfold spec_l01Copy.l0;repeat' first | (with_reducible first | exact ih0 _ _ _ _ _ | exact LeO.refl _ | exact LeO.none _ | refine LeO.ite ?_ ?_ | refine LeO.bind ?_ (fun _=>?_)) | exact ih0 _ _ _ _ _ | exact LeO.none _ | refine LeO.ite ?_ ?_ | refine LeO.bind ?_ (fun _=>?_)
theorem spec_l01Copy.mono: ∀a0 a1 k,LeO (spec_l01Copy.f k a0 a1) (spec_l01Copy.f (k+1) a0 a1):=by
 intro a0 a1 k
 have ih0:=spec_l01Copy.mono_l k
 unfold spec_l01Copy.f
 repeat' first | (with_reducible first | exact ih0 _ _ _ _ _ | exact LeO.refl _ | exact LeO.none _ | refine LeO.ite ?_ ?_ | refine LeO.bind ?_ (fun _=>?_)) | exact ih0 _ _ _ _ _ | exact LeO.none _ | refine LeO.ite ?_ ?_ | refine LeO.bind ?_ (fun _=>?_)
def spec_l01Copy.T5:Bool × List (List Nat × List Nat):=(true, [([], []),([0], [0]),([], []),([2], [2]),([], []),([3,4], [3,4]),([5], [5]),([6], [6]),([7], [7]),([1,8,7], [1,8]),([0,1,2,3,4,5,6,7,8,9], []),([10,9,9,0,1,2,3,4,5,6,7,8,9], [9,10])])
def spec_l01Copy.B5:List Nat:= [0,1,0,4,0,28,60,124,252,511,1023,2047]
theorem spec_l01Copy.tab5:rtab .any (opsOf Tryz.f119 5)=spec_l01Copy.T5:=by kernel_rfl
theorem spec_l01Copy.bits5:waitsOk spec_l01Copy.T5.2 spec_l01Copy.B5=true:=by kernel_rfl
theorem spec_l01Copy.calls (k:Nat) (aU:Option Addr) (aK:Nat) (ak:List (List Int)) (aI:Option Addr) (aJ:Nat) (au:List Int) (r1:List (List Int)) (r2:List Int) (w:World) (bw:Kd.C (Kd.slice 2 (Kd.int .i64)) w aU ak.length ak) (bz:ak.length≤aK) (bA:Kd.C (Kd.int .i64) w aI au.length au) (bC:au.length≤aJ) (h:spec_l01Copy.f k ak au=some (r1,r2)):
  Calls Tryz.prog 119 #[.agg #[.slice aU ak.length aK, .slice aI au.length aJ]] w fun e w'=> ∃v0_ v1_:Value,e= .returned (.agg #[v0_,v1_])∧Kd.S (Kd.slice 2 (Kd.int .i64)) 24 w' w.heap.size (fun k_=>some k_≠(v1_:Value).ownBlock) v0_ r1∧Kd.R (Kd.int .i64) 2 w' w.heap.size (fun _=>True) v1_ r2∧Below w.heap.size w w':=by
 have hu34:=Tryz.underlying34;have HR0_0:=q_ bw;have HC0_0:=q_ bz;clear bw bz;have HR0_1:=q_ bA;have HC0_1:=q_ bC;clear bA bC;have HB:=q_ (Below.refl w.heap.size w);have H:((spec_l01Own.f au).bind fun aq=>(spec_l01Copy.l0 k 0 ak au (([]:List (List Int))) aq))=some (r1,r2):=h;clear h;obtain⟨aV,hy⟩: ∃y_:List (List Int),y_=(([]:List (List Int))):=⟨_,rfl⟩
 replace H:((spec_l01Own.f au).bind fun aq=>(spec_l01Copy.l0 k 0 ak au aV aq))=some (r1,r2):=hh_;have bD:=q_ hy;clear hy;replace H:=Option.bind_eq_some_iff.mp H;obtain⟨aq,A20,H⟩:=H;replace H:(spec_l01Copy.l0 k 0 ak au aV aq)=some (r1,r2):=H;have A2:=q_ A20;clear A20;have H':=q_ H;clear H
 go_enter Tryz.func119,Tryz.ntmps119
 go_wp2_with (first | ((with_reducible refine gate_dst (N:=1) rfl ?_);refine be_ 1 #[.slice aU ak.length aK, .slice aI au.length aJ] 34 ?_;intro av hg w3 hbox hb;have aa:=q_ (hbox);have cN:=q_ ((by rw [hg];exact bz_:w.heap.size≤av));have cO:=q_ ((by rw [hg];exact bz_:w.heap.size≤av));replace HB:=q_ (bs_ hb);clear hb hbox hg) | ((with_reducible refine gate_dst (N:=2) rfl ?_);refine be_ 2 #[.slice none 0 0, .slice none 0 0] 34 ?_;intro az hg w4 hbox hb;have ag:=q_ (hbox);have cP:=q_ ((by rw [hg];exact bz_:w.heap.size≤az));have cQ:=q_ ((by rw [hg];exact bz_:w.heap.size≤az));have aM:=q_ ((by rw [hg];exact lt_ aa.out:av≠az));have aN:=q_ ((by rw [hg];exact gt_ aa.out:az≠av));replace aa:=q_ (bb_ aa.out hb);replace HB:=q_ (bs_ hb);clear hb hbox hg) | ((with_reducible refine gate_dst (N:=5) rfl ?_);refine Kd.S_lit (Kd.slice 2 (Kd.int .i64)) _ 24 ?hg (N:=5) ?hd (xs:=([]:List (List Int))) (inner:= []) (ok:=fun _=>True) (okp:=fun _=>True) ?hr ?hp (fun _ hk=>hk) trivial (Below.refl _ _) (Nat.le_refl _) (by simp) ?_;(case hd=>rfl);(case hg=>rfl);(case hr=>first | (go_simp;done) | (go_simp;rfl));(case hp=>exact(Reps.none _ _));intro dA w5 ho6 hb hg_ hnew_;clear hg_ hnew_;(first | rw [← bD.out] at ho6 | (simp only [Int.reduceToNat] at ho6;rw [← bD.out] at ho6));have aT:=q_ (Kd.S_lower ho6 bz_);replace aa:=q_ (bb_ aa.out hb);replace ag:=q_ (bb_ ag.out hb);replace HB:=q_ (bs_ hb);clear hb ho6;have dB:=aM.out;have dC:=aN.out;have bK:=cz_ aa 0;have bL:=cz_ aa 1;have bM:=blk_frozen aa.out 0;have bN:=blk_frozen aa.out 1) | ((with_reducible refine gate_callee (f:=137) rfl ?_);refine gL_ 8 Tryz.func137 #[.slice aI au.length aJ] ?_;(with_reducible refine(spec_l01Own.calls _ _ au aq _ ?a9 ?ba A2.out).mono ?_);(case a9=>exact cb_ HR0_1.out HB.out);(case ba=>exact HC0_1.out);rintro e w9 ⟨dD,rfl,ho0,hb⟩;refine⟨_,rfl,?_⟩;replace aT:=q_ (Kd.S_elder' (so_ aT.out) (Kd.R_base ho0) hb);have aX:=q_ (Kd.R_lower ho0 bz_);replace aa:=q_ (bb_ aa.out hb);replace ag:=q_ (bb_ ag.out hb);replace HB:=q_ (bs_ hb);(try clear hb);(try clear hk);(try clear ho0);obtain⟨aD,aG,bV⟩:=Kd.R_slice aX.out;subst bV;obtain⟨bf,bg,bW⟩:=Kd.S_slice aT.out;subst bW) | ((with_reducible refine gate_dst (N:=3) rfl ?_);refine be_ 3 #[.slice none 0 0, .slice none 0 0] 34 ?_;intro aj hg w12 hbox hb;replace aT:=q_ (Kd.S_below (so_ aT.out) hb);replace aX:=q_ (rb_ aX.out hb);have ae:=q_ (hbox);have cR:=q_ ((by rw [hg];exact bz_:w.heap.size≤aj));have cS:=q_ ((by rw [hg];exact bz_:w.heap.size≤aj));have aA:=q_ ((by rw [hg];exact lt_ aa.out:av≠aj));have aH:=q_ ((by rw [hg];exact gt_ aa.out:aj≠av));have aC:=q_ ((by rw [hg];exact lt_ ag.out:az≠aj));have aQ:=q_ ((by rw [hg];exact gt_ ag.out:aj≠az));replace aa:=q_ (bb_ aa.out hb);replace ag:=q_ (bb_ ag.out hb);replace HB:=q_ (bs_ hb);clear hb hbox hg;have cT:=aH.out;have cU:=aA.out;have cV:=aQ.out;have cW:=aC.out;have bG:=cz_ ae 0;have bH:=cz_ ae 1;have bI:=blk_frozen ae.out 0;have bJ:=blk_frozen ae.out 1))
 go_loopg [4] k (fun kq v4 w'=> ∃(ay:Int) (ah:List (List Int)) (aw:Value),v4= .int .i64 ay∧Aside0 (spec_l01Copy.l0 kq ay ak au ah aq=some (r1,r2))∧Aside0 (kq≤k)∧Aside0 (Kd.S (Kd.slice 2 (Kd.int .i64)) 24 w' w.heap.size (fun k_=>some k_≠((.slice aD aq.length aG):Value).ownBlock) aw ah)∧Aside0 (Kd.R (Kd.int .i64) 2 w' w.heap.size (fun _=>True) (.slice aD aq.length aG) aq)∧Aside0 (w'.heap[av]?=some (.cells #[(.slice aU ak.length aK),(.slice aI au.length aJ)] 34 (0,0)))∧Aside0 (w'.heap[az]?=some (.cells #[(.slice none 0 0),(.slice none 0 0)] 34 (0,0)))∧Aside0 (w'.heap[aj]?=some (.cells #[aw,(.slice aD aq.length aG)] 34 (0,0)))∧Aside0 (Below w.heap.size w w'))
 case atStart=>exact⟨(0),(aV),(.slice bf aV.length bg),rs_,H',⟨Nat.le_refl _⟩,⟨by(with_reducible repeat (first | apply Kd.S_alloc | apply Kd.S_drewN | apply Kd.S_drew));exact Kd.S_mono (Kd.S_far (p:=⟨aj,1,none⟩) (Kd.S_far (p:=⟨aj,0,none⟩) (Kd.S_types aT.out ae.out (by decide)) (fun _ hk=>hk.2) (.slice bf aV.length bg)) (fun _ hk=>hk.2) (.slice aD aq.length aG)) (fun _ hk=>hk.1.2)⟩,⟨by(with_reducible repeat (first | apply Kd.R_alloc | apply Kd.R_drewN | apply Kd.R_drew));exact Kd.R_mono (Kd.R_far (p:=⟨aj,1,none⟩) (Kd.R_far (p:=⟨aj,0,none⟩) (Kd.R_types aX.out ae.out (by decide)) (fun _ hk=>hk.2) (.slice bf aV.length bg)) (fun _ hk=>hk.2) (.slice aD aq.length aG)) (fun _ hk=>trivial)⟩,⟨by(with_reducible repeat (first | refine blk_drewN ?_ _ | refine blk_drew ?_ | refine blk_alloc ?_ _));refine blk_far ?_ aA.out _;(with_reducible repeat (first | refine blk_drewN ?_ _ | refine blk_drew ?_ | refine blk_alloc ?_ _));refine blk_far ?_ aA.out _;(with_reducible repeat (first | refine blk_drewN ?_ _ | refine blk_drew ?_ | refine blk_alloc ?_ _));exact aa.out⟩,⟨by(with_reducible repeat (first | refine blk_drewN ?_ _ | refine blk_drew ?_ | refine blk_alloc ?_ _));refine blk_far ?_ aC.out _;(with_reducible repeat (first | refine blk_drewN ?_ _ | refine blk_drew ?_ | refine blk_alloc ?_ _));refine blk_far ?_ aC.out _;(with_reducible repeat (first | refine blk_drewN ?_ _ | refine blk_drew ?_ | refine blk_alloc ?_ _));exact ag.out⟩,⟨by(with_reducible repeat (first | refine blk_drewN ?_ _ | refine blk_drew ?_ | refine blk_alloc ?_ _));refine blk_put (cs:= #[.slice bf aV.length bg, .slice none 0 0]) ?_ 1 _ rfl;(with_reducible repeat (first | refine blk_drewN ?_ _ | refine blk_drew ?_ | refine blk_alloc ?_ _));refine blk_put (cs:= #[.slice none 0 0, .slice none 0 0]) ?_ 0 _ rfl;(with_reducible repeat (first | refine blk_drewN ?_ _ | refine blk_drew ?_ | refine blk_alloc ?_ _));exact ae.out⟩,⟨hb_⟩⟩
 case round=>
  clear H';(try clear bG);(try clear bH);(try clear bK);(try clear bL);(try clear bI);(try clear bJ);(try clear bM);(try clear bN);obtain⟨ay,ah,aw,rfl,HA,HK1,af,ai,aa,ag,ae,HB⟩:=hrel;cases gk with
  | zero=>exact absurd HA.out (by simp [spec_l01Copy.l0])
  | succ k1=>
   have H:=HA.out;clear HA;simp only [spec_l01Copy.l0] at H
   by_cases c16:ay < (ak.length:Int)
   ·rw [if_pos c16] at H;have c16b0:=decide_eq_true c16;clear c16
    by_cases c17:0≤ay
    ·rw [if_pos c17] at H;have c17b0:=decide_eq_true c17;clear c17;replace H:=Option.bind_eq_some_iff.mp H;obtain⟨aW,A180,H⟩:=H;replace H:(if ah.length < 5864062014805 then(spec_l01Copy.l0 k1 (wrap64 (ay+1)) ak au (ah++ [aW]) aq) else(none))=some (r1,r2):=H;have A18:=q_ A180;clear A180
     by_cases c19:ah.length < 5864062014805
     ·rw [if_pos c19] at H;have bT:=q_ c19;clear c19;obtain⟨aZ,hy⟩: ∃y_:List (List Int),y_=(ah++ [aW]):=⟨_,rfl⟩
      replace H:(spec_l01Copy.l0 k1 (wrap64 (ay+1)) ak au aZ aq)=some (r1,r2):=hh_;have bU:=q_ hy;clear hy;have H':=q_ H;clear H;have cZ:=aM.out;have df:=aN.out;have dh:=aA.out;have di:=aH.out;have bY:=cz_ aa 0;have bZ:=cz_ aa 1;have cf:=blk_frozen aa.out 0;have cu:=blk_frozen aa.out 1
      try go_wp2
      replace af:=q_ (Kd.S_drew af.out);replace ai:=q_ (Kd.R_drew ai.out);replace aa:=q_ (blk_drew aa.out);replace ag:=q_ (blk_drew ag.out);replace ae:=q_ (blk_drew ae.out);replace HB:=q_ (below_drew1 HB.out);have p281:0≤(ay:Int):=od_;have q281:ay < (ak.length:Int):=od_;obtain⟨bE,bk,bq,e281,hx281_0,hl281_0,hi281_0⟩:=at_L3 HR0_0.out ay p281 q281;have ax:=hx281_0;cases e281
      replace hx281_0:=(HB.out.cell (World.block_lt_of_cell? w _ hx281_0)).trans hx281_0;have HR281_0:=q_ hi281_0;have HC281_0:=q_ hl281_0;clear hi281_0 hl281_0;replace p281:=eq_true p281;replace q281:=eq_true q281;refine st_ (n:=12) (S:=fun w'=>w'.cell? ⟨aj,0,none⟩=some (aw)∧w'.cell? ⟨aj,1,none⟩=some (.slice aD aq.length aG)∧w'.cell? ⟨av,0,none⟩=some (.slice (some bE) ak.length aK)∧w'.cell? ⟨av,1,none⟩=some (.slice aI au.length aJ)∧w'.cell? (bE.add (ay).toNat)=some (.slice bk (rd_L3 ak ay).length bq)) (ds:= [11]) ⟨(blk_cell ae.out 0).trans rfl,(blk_cell ae.out 1).trans rfl,(blk_cell aa.out 0).trans rfl,(blk_cell aa.out 1).trans rfl,((HB.out.cell (World.block_lt_of_cell? w _ ax)).trans ax)⟩ (fun hHeld=>?_);refine with_tabW spec_l01Copy.tab5 spec_l01Copy.bits5 (fun HT_ HW_=>?_)
      generalize wr.drew=w23 at af ai aa ag ae HB HR281_0 hx281_0 hHeld ⊢
      refine pu_ 0 17 ?_;refine pu_ 2 19 ?_;refine pu_ 4 21 ?_;refine tk_ 1 18 ?_;refine tk_ 3 20 ?_;refine pu_ 5 22 ?_;refine tk_ 6 23 ?_
      refine on_ 7 (some 24) (fun K hK=>?_)
      refine goes_ Tryz.func137 (by kernel_rfl) rfl #[.slice bk (rd_L3 ak ay).length bq] (by rfl) rfl rfl (by(try simp only [List.map_toArray,List.map_cons,List.map_nil]);first | done | rfl | (simp only [List.length_drop,List.length_take];rfl)) ?_
      with_reducible refine(spec_l01Own.calls _ _ (rd_L3 ak ay) aW _ ?a9 ?ba A18.out).mono ?_
      (case a9=>exact cb_ HR281_0.out HB.out)
      (case ba=>exact HC281_0.out)
      rintro e w24 ⟨dE,rfl,ho0,hb⟩;refine⟨_,rfl,?_⟩
      replace af:=q_ (Kd.S_elder' (so_ af.out) (Kd.R_base ho0) hb);have aY:=q_ (Kd.R_lower (Kd.R_new' ho0 (Kd.R_lt (ro_ ai.out))) bz_);replace aa:=q_ (bb_ aa.out hb);replace ag:=q_ (bb_ ag.out hb);replace ae:=q_ (bb_ ae.out hb);replace ai:=q_ (Kd.R_elder' (ro_ ai.out) (Kd.R_base ho0) hb);replace HB:=q_ (bs_ hb);(try clear hb)
      
      (try clear hk)
      
      (try clear ho0);obtain⟨bO,bP,bQ⟩:=Kd.R_slice aY.out
      (first | subst bQ | (injection bQ with f1_ f2_ f3_;have f4_:=f1_.symm;have f5_:=f3_.symm;clear f1_ f2_ f3_;subst f4_;subst f5_))
      refine hK.out _ _ ⟨(blk_cell ae.out 0).trans rfl,(blk_cell ae.out 1).trans rfl,(blk_cell aa.out 0).trans rfl,(blk_cell aa.out 1).trans rfl,((HB.out.cell (World.block_lt_of_cell? w _ ax)).trans ax)⟩ (fun hHeld=>?_)
      clear hK K;refine norm_ (a':=?_) ?_ ?_
      rotate_left
      ·show Act.put _ (some 24) _=_
       simp only [Act.put,List.setIfInBounds_toArray,List.set_cons_zero,List.set_cons_succ,i64_w,i32_w]
       rfl
      refine on_ 8 (some 25) (fun K hK=>?_)
      refine value_ (w1:=?_) (v:=?_) (by rfl) rfl ?_ ?_
      rotate_left 2
      ·go_simp
       constructor
       ·rfl
       ·rfl
      refine hK.out _ _ ⟨(blk_cell (blk_alloc ae.out _) 0).trans rfl,(blk_cell (blk_alloc ae.out _) 1).trans rfl,(blk_cell (blk_alloc aa.out _) 0).trans rfl,(blk_cell (blk_alloc aa.out _) 1).trans rfl,(World.cell?_alloc_lt _ _ _ (World.block_lt_of_cell? _ _ (((HB.out.cell (World.block_lt_of_cell? w _ ax)).trans ax)))).trans (((HB.out.cell (World.block_lt_of_cell? w _ ax)).trans ax))⟩ (fun hHeld=>?_)
      clear hK K;refine norm_ (a':=?_) ?_ ?_
      rotate_left
      ·show Act.put _ (some 25) _=_
       simp only [Act.put,List.setIfInBounds_toArray,List.set_cons_zero,List.set_cons_succ,i64_w,i32_w]
       rfl
      refine on_ 9 (some 26) (fun K hK=>?_)
      refine Kd.S_append_step (Kd.slice 2 (Kd.int .i64)) (w0:=w) w.heap.size (by rfl) (.tmp 18) (.tmp 25) 32 24 (.slice none 0 0) 24 rfl Tryz.underlying32 info24 rfl (by decide) (by omega) aw ah aW [.slice bO aW.length bP] (fun k_=>some k_≠(.slice aD aq.length aG:Value).ownBlock) (fun k_=>some k_=(.slice bO aW.length bP:Value).ownBlock) rfl rfl ?aP (fun k_ hk_=>((Kd.R_mono (ok':=fun k_=>((fun k_=>some k_≠(.slice aD aq.length aG:Value).ownBlock)) k_∧some k_≠(aw:Value).ownBlock) (Kd.R_apart' (aY.out) (Kd.S_typed af.out) (by decide)) (fun k_ hk=>⟨hk.1.2,hk.2⟩))).1 k_ hk_.symm) ?aF ?aO ?aB ?aS ?aL ?_
      (case aP=>exact Kd.M_row (Kd.R_mono (Kd.R_tight rfl (Kd.R_mono (ok':=fun k_=>((fun k_=>some k_≠(.slice aD aq.length aG:Value).ownBlock)) k_∧some k_≠(aw:Value).ownBlock) (Kd.R_apart' (aY.out) (Kd.S_typed af.out) (by decide)) (fun k_ hk=>⟨hk.1.2,hk.2⟩))) (fun _ h_=>h_)))
      (case aB=>exact hb_)
      (case aF=>exact(fun k_ hk=>Kd.fresh' (Kd.R_lt (ro_ ai.out)) k_ hk))
      (case aO=>exact(by(with_reducible repeat (first | apply Kd.S_alloc | apply Kd.S_drewN | apply Kd.S_drew));exact Kd.S_mono af.out (fun k_ hk=>⟨hk.1,fun e_=>hk.2 e_⟩)))
      (case aS=>exact bz_)
      (case aL=>have:=bT.out;omega)
      intro dF w25 ho hb hg hat;rw [← bU.out] at ho;replace ai:=q_ (Kd.R_over' (ro_ ai.out) (Kd.S_typed (so_ af.out)) (by decide) hg);replace aa:=q_ (bg_ aa.out hg (Kd.S_ne af.out aa.out (by decide)));replace ag:=q_ (bg_ ag.out hg (Kd.S_ne af.out ag.out (by decide)));replace ae:=q_ (bg_ ae.out hg (Kd.S_ne af.out ae.out (by decide)));replace HB:=q_ (hb);have bF:=q_ (ho);clear af aY ho hb hg hat;obtain⟨bu,bv,bS⟩:=Kd.S_slice bF.out
      (first | subst bS | (injection bS with f1_ f2_ f3_;have f4_:=f1_.symm;have f5_:=f3_.symm;clear f1_ f2_ f3_;subst f4_;subst f5_))
      refine hK.out _ _ ⟨(blk_cell ae.out 0).trans rfl,(blk_cell ae.out 1).trans rfl,(blk_cell aa.out 0).trans rfl,(blk_cell aa.out 1).trans rfl,((HB.out.cell (World.block_lt_of_cell? w _ ax)).trans ax)⟩ (fun hHeld=>?_)
      clear hK K;refine norm_ (a':=?_) ?_ ?_
      rotate_left
      ·show Act.put _ (some 26) _=_
       simp only [Act.put,List.setIfInBounds_toArray,List.set_cons_zero,List.set_cons_succ,i64_w,i32_w]
       rfl
      refine pu_ 10 27 ?_
      refine la_ 11 none (fun K hK=>?_)
      have hs28:=cz_ ae 0;have hfs28:=blk_frozen ae.out 0;have hns28_0:=aA.out;have hns28_1:=aC.out;have hms28_0:=aH.out;have hms28_1:=aQ.out;refine skip_ (w1:=?_) (by rfl) rfl ?_ ?_
      rotate_left
      ·go_simp
       rfl
      refine hK.out _ _ ?_
      clear hK K;refine done_ (done_of HT_.out (by kernel_rfl)) ?_
      try go_wp2
      go_roundg k1
      case measure=>have:=HK1.out;omega
      case rel=>exact⟨(wrap64 (ay+1)),(aZ),(.slice bu aZ.length bv),rs_,H',⟨by have:=HK1.out;omega⟩,⟨by(with_reducible repeat (first | apply Kd.S_alloc | apply Kd.S_drewN | apply Kd.S_drew));exact Kd.S_mono (Kd.S_far (p:=⟨aj,0,none⟩) (Kd.S_types bF.out ae.out (by decide)) (fun _ hk=>hk.2) (.slice bu aZ.length bv)) (fun _ hk=>hk.1)⟩,⟨by(with_reducible repeat (first | apply Kd.R_alloc | apply Kd.R_drewN | apply Kd.R_drew));exact Kd.R_mono (Kd.R_far (p:=⟨aj,0,none⟩) (Kd.R_types ai.out ae.out (by decide)) (fun _ hk=>hk.2) (.slice bu aZ.length bv)) (fun _ hk=>trivial)⟩,⟨by(with_reducible repeat (first | refine blk_drewN ?_ _ | refine blk_drew ?_ | refine blk_alloc ?_ _));refine blk_far ?_ aA.out _;(with_reducible repeat (first | refine blk_drewN ?_ _ | refine blk_drew ?_ | refine blk_alloc ?_ _));exact aa.out⟩,⟨by(with_reducible repeat (first | refine blk_drewN ?_ _ | refine blk_drew ?_ | refine blk_alloc ?_ _));refine blk_far ?_ aC.out _;(with_reducible repeat (first | refine blk_drewN ?_ _ | refine blk_drew ?_ | refine blk_alloc ?_ _));exact ag.out⟩,⟨by(with_reducible repeat (first | refine blk_drewN ?_ _ | refine blk_drew ?_ | refine blk_alloc ?_ _));refine blk_put (cs:= #[aw, .slice aD aq.length aG]) ?_ 0 _ rfl;(with_reducible repeat (first | refine blk_drewN ?_ _ | refine blk_drew ?_ | refine blk_alloc ?_ _));exact ae.out⟩,⟨hb_⟩⟩
     ·rw [if_neg c19] at H;exact absurd H (by simp)
    ·rw [if_neg c17] at H;exact absurd H (by simp)
   ·rw [if_neg c16] at H;have c16b0:=decide_eq_false c16;clear c16;simp only [Option.some.injEq,Prod.mk.injEq] at H;obtain⟨rfl,rfl⟩:=H;have dl:=aM.out;have dr:=aN.out;have du:=aA.out;have dw:=aH.out;have cA:=cz_ aa 0;have cB:=cz_ aa 1;have cC:=blk_frozen aa.out 0;have cD:=blk_frozen aa.out 1;have dx:=aQ.out;have dz:=aC.out;have cE:=cz_ ae 0;have cF:=cz_ ae 1;have cG:=blk_frozen ae.out 0;have cH:=blk_frozen ae.out 1;obtain⟨bh,bi,bX⟩:=Kd.S_slice af.out;subst bX;have cI:=cz_ ag 0;have cJ:=cz_ ag 1;have cK:=blk_frozen ag.out 0;have cL:=blk_frozen ag.out 1;go_wp2
    refine bodyPost_ret (results_cell_row rfl _ _ az 34 #[.slice bh ah.length bi, .slice aD aq.length aG] (0,0) _ rfl (by(with_reducible repeat (first | refine blk_drewN ?_ _ | refine blk_drew ?_ | refine blk_alloc ?_ _));refine blk_put (cs:= #[.slice bh ah.length bi, .slice none 0 0]) ?_ 1 _ rfl;(with_reducible repeat (first | refine blk_drewN ?_ _ | refine blk_drew ?_ | refine blk_alloc ?_ _));refine blk_put (cs:= #[.slice none 0 0, .slice none 0 0]) ?_ 0 _ rfl;(with_reducible repeat (first | refine blk_drewN ?_ _ | refine blk_drew ?_ | refine blk_alloc ?_ _));exact ag.out) Tryz.underlying34 rfl (by kernel_rfl)) rfl ?_
    exact⟨_,_,by first | rfl | (simp [errW_none,errW_some] <;> rfl) | (simp [*,errW_none,errW_some] <;> rfl),by(with_reducible repeat (first | apply Kd.S_alloc | apply Kd.S_drewN | apply Kd.S_drew));exact Kd.S_mono (Kd.S_far (p:=⟨az,1,none⟩) (Kd.S_far (p:=⟨az,0,none⟩) (Kd.S_types af.out ag.out (by decide)) (fun _ hk=>hk.2) (.slice bh ah.length bi)) (fun _ hk=>hk.2) (.slice aD aq.length aG)) (fun _ hk=>hk.1),by(with_reducible repeat (first | apply Kd.R_alloc | apply Kd.R_drewN | apply Kd.R_drew));exact Kd.R_mono (Kd.R_far (p:=⟨az,1,none⟩) (Kd.R_far (p:=⟨az,0,none⟩) (Kd.R_types ai.out ag.out (by decide)) (fun _ hk=>hk.2) (.slice bh ah.length bi)) (fun _ hk=>hk.2) (.slice aD aq.length aG)) (fun _ hk=>trivial),hb_⟩
end Go.Proofs.YthmfdplckdijdaaGreat.Pr
end
section
namespace Go.Proofs.YthmfdplckdijdaaGreat.Dr
open Go.RowKit Go.Proofs.YthmfdplckdijdaaGreatW.PrintWords Go.Proofs.YthmfdplckdijdaaGreatW.PrintLast Go.Proofs.YthmfdplckdijdaaGreatW.PrintMore Go.Proofs.YthmfdplckdijdaaGreat.Ma Go.Proofs.YthmfdplckdijdaaGreat.Pr Go.Proofs.YthmfdplckdijdaaGreat.Lq
theorem copy_ex {M:List (List Int)} {Q:List Int} {n:Nat} (hn:n≤5) (hM:M.length=n) (hr: ∀x ∈ M,x.length=n) (hQ:Q.length=n):Ex (fun k=>spec_l01Copy.f k M Q) (fun r=>r.1.length=n∧(∀x ∈ r.1,x.length=n)∧r.2.length=n):=by
 have own: ∀B:List Int,B.length≤1000→spec_l01Own.f B=some B:=fun B h=>by
  unfold spec_l01Own.f
  simp
  omega
 unfold spec_l01Copy.f
 refine exsome (own Q (by omega)) ?_
 have loop: ∀(q i:Nat) (acc:List (List Int)),i+q=n→acc.length=i→(∀x ∈ acc,x.length=n)→Ex (fun k=>spec_l01Copy.l0 k (i:Int) M Q acc Q) (fun r=>r.1.length=n∧(∀x ∈ r.1,x.length=n)∧r.2.length=n):=by
  intro q
  induction q with
  | zero=>
   intro i acc hi hl hx
   refine exstep (fun k=>by rw [spec_l01Copy.l0]) ?_
   exact exneg (by omega) (exc rfl ⟨by show acc.length=n;omega,hx,hQ⟩)
  | succ q ih=>
   intro i acc hi hl hx
   have hrow:(rd_L3 M (i:Int)).length=n:=by
    have e:rd_L3 M (i:Int)=M.getD i []:=by simp [rd_L3]
    rw [e,List.getD_eq_getElem?_getD,List.getElem?_eq_getElem (by omega)]
    exact hr _ (List.getElem_mem _)
   refine exstep (fun k=>by rw [spec_l01Copy.l0]) ?_
   rw [w64 (x:=(i:Int)+1) (by omega) (by omega)]
   refine expos (by omega) (expos (by omega) (exsome (own _ (by omega)) (expos (by omega) (ih (i+1) _ (by omega) (by simp;omega) (fun x hm=>?_)))))
   rcases List.mem_append.1 hm with m | m
   ·exact hx x m
   ·rw [List.mem_singleton.1 m];exact hrow
 exact loop n 0 [] (by omega) rfl (by simp)
structure Pb (w:World) (g lo n gm c:Nat) (b cp:Nat→Nat) (A:Option Addr) (c1:Nat) (Q:List Int):Prop where
 dm:Dm w lo gm n c b cp
 rq:Kd.R (Kd.int .i64) 2 w lo (fun k=>k≠g∧k≠gm∧ ∀j,j < n→k≠b j) (.slice A Q.length c1) Q
 ql:n≤Q.length∧Q.length≤n+1
theorem Pb.mv {w0 w w1:World} {g lo n gm c:Nat} {b cp:Nat→Nat} {A:Option Addr} {c1:Nat} {Q:List Int} (h:Pb w g lo n gm c b cp A c1 Q) (hS:Stp w0 w g w1) (hg:g < lo):Pb w1 g lo n gm c b cp A c1 Q:=
 ⟨h.dm.keep hS.keep hg,Kd.R_keep h.rq hS.keep (fun k hk=>hk.1),h.ql⟩
def PbOut (w0 wE:World) (g lo n:Nat) (v:Value) (w':World):Prop:=(v= .agg #[.slice none 0 0, .slice none 0 0]∨ ∃gm c b cp A c1 Q,v= .agg #[.slice (some ⟨gm,0,none⟩) n c, .slice A Q.length c1]∧Pb w' g lo n gm c b cp A c1 Q)∧Stp w0 wE g w'
theorem copy_c {w:World} {g lo n gm c:Nat} {b cp:Nat→Nat} {A:Option Addr} {c1:Nat} {Q:List Int} (h:Pb w g lo n gm c b cp A c1 Q) (hQ:Q.length=n) (hn:n≤5) (hn0:0 < n):Calls Tryz.prog 119 #[.agg #[.slice (some ⟨gm,0,none⟩) n c, .slice A n c1]] w fun e w'=> ∃gm2 c2 b2 cp2 A2 d2 Q2,e= .returned (.agg #[.slice (some ⟨gm2,0,none⟩) n c2, .slice A2 n d2])∧Q2.length=n∧Dm w' w.heap.size gm2 n c2 b2 cp2∧Kd.R (Kd.int .i64) 2 w' w.heap.size (fun k=>w.heap.size≤k∧k≠gm2∧ ∀j,j < n→k≠b2 j) (.slice A2 n d2) Q2∧Below w.heap.size w w':=by
 obtain⟨M,hM,hMr,hC⟩:=h.dm.C (by omega)
 obtain⟨r,⟨k,e⟩,p1,p2,p3⟩:=copy_ex hn hM hMr hQ
 have hR:=Kd.R_reads' h.rq
 have hcall:=spec_l01Copy.calls k (some ⟨gm,0,none⟩) c M A c1 Q r.1 r.2 w hC (by rw [hM];exact h.dm.cap) hR.2.2 hR.2.1 (e k (Nat.le_refl _))
 rw [hM,hQ] at hcall
 refine hcall.mono ?_
 rintro e w' ⟨v0,v1,rfl,hS,hR1,hb⟩
 obtain⟨gm2,c2,b2,cp2,rfl,hD,ok1,ok2⟩:=Dm.of hS p1 p2 hn0
 obtain⟨A2,d2,rfl⟩:=Kd.R_slice hR1
 have hR2:Kd.R (Kd.int .i64) 2 w' w.heap.size (fun k=>w.heap.size≤k∧k≠gm2∧ ∀j,j < n→k≠b2 j) (.slice A2 r.2.length d2) r.2:=Kd.R_mono (Kd.R_tight rfl hR1) (fun k hk=>⟨Kd.R_base hR1 k hk.symm,fun q=>ok1 (by rw [← q];exact hk),fun j hj q=>ok2 j hj (by rw [← q];exact hk)⟩)
 rw [p3] at hR2
 exact⟨gm2,c2,b2,cp2,A2,d2,r.2,by rw [p3],p3,hD,hR2,hb⟩
structure Cp (w0 w wr:World) (g W g4 gb n gm c:Nat) (b cp:Nat→Nat) (vq:Value):Prop where
 st:Stp w0 w g wr
 dm:Dm wr W gm n c b cp
 b4:wr.heap[g4]?=some (.cells #[.slice none 0 0, .slice none 0 0] 34 (0,0))
 bb:wr.heap[gb]?=some (.cells #[.slice (some ⟨gm,0,none⟩) n c,vq] 34 (0,0))
 s4:w.heap.size≤g4∧g4 < W
 sb:W≤gb∧gb≠gm∧ ∀j,j < n→gb≠b j
 el:w0.heap.size≤w.heap.size∧g < w.heap.size
def okC (W gb n gm:Nat) (b:Nat→Nat) (k:Nat):Prop:=W≤k∧k≠gb∧k≠gm∧ ∀j,j < n→k≠b j
abbrev RC (wr:World) (W gb n gm:Nat) (b:Nat→Nat) (vq:Value) (Q:List Int):Prop:=Kd.R (Kd.int .i64) 2 wr W (okC W gb n gm b) vq Q
section
variable {w0 w wr w1:World} {g W g4 gb n gm c:Nat} {b cp:Nat→Nat} {vq:Value} {Q:List Int}
theorem Cp.new {w5 w6:World} {A2:Option Addr} {d2:Nat} (hE:w0.heap.size≤w.heap.size) (hg:g < w.heap.size) (st:Stp w0 w g w5) (h4:w.heap.size≤g4∧g4 < W) (b4:w5.heap[g4]?=some (.cells #[.slice none 0 0, .slice none 0 0] 34 (0,0))) (dm:Dm w5 W gm n c b cp) (hW:W≤w5.heap.size) (rq:Kd.R (Kd.int .i64) 2 w5 W (fun k=>W≤k∧k≠gm∧ ∀j,j < n→k≠b j) (.slice A2 Q.length d2) Q) (hb:Below w5.heap.size w5 w6) (h5:w5.heap.size≤gb) (hbox:w6.heap[gb]?=some (.cells #[.slice none 0 0, .slice none 0 0] 34 (0,0))):
  Cp w0 w ((w6.setCell ⟨gb,0,none⟩ (.slice (some ⟨gm,0,none⟩) n c)).setCell ⟨gb,1,none⟩ (.slice A2 Q.length d2)) g W g4 gb n gm c b cp (.slice A2 Q.length d2)∧RC ((w6.setCell ⟨gb,0,none⟩ (.slice (some ⟨gm,0,none⟩) n c)).setCell ⟨gb,1,none⟩ (.slice A2 Q.length d2)) W gb n gm b (.slice A2 Q.length d2) Q:=by
 have lt:=fun k hk=>Kd.R_lt rq k hk
 have g0:=dm.g0
 have hs:=Stp.of_below st.src st.below hb
 have sg:=st.keep.1
 have e5:gb≠gm∧ ∀j,j < n→gb≠b j:=⟨by omega,fun j hj=>by have:=(dm.rr j hj).2.1;omega⟩
 have d6:=dm.keep hs.keep (by omega)
 have r6:Kd.R (Kd.int .i64) 2 w6 W (okC W gb n gm b) (.slice A2 Q.length d2) Q:=Kd.R_below (Kd.R_mono (Kd.R_tight rfl rq) (fun k hk=>⟨(rq.1 k hk.symm).1,by have:=lt k hk.symm;omega,(rq.1 k hk.symm).2⟩)) hb
 have s6:=st.trans hs
 refine⟨⟨(s6.set hE gb 0 _ (by omega) (by omega)).set hE gb 1 _ (by omega) (by omega),(d6.set e5.1 e5.2).set e5.1 e5.2,?_,blk_put (blk_put hbox 0 _ rfl) 1 _ rfl,h4,⟨by omega,e5⟩,hE,hg⟩,?_⟩
 ·exact(Below.heap_setCell _ ⟨gb,1,none⟩ _ g4 (by show g4≠gb;omega)).trans ((Below.heap_setCell w6 ⟨gb,0,none⟩ _ g4 (by show g4≠gb;omega)).trans (blk_below b4 hb))
 ·exact Kd.R_far (Kd.R_far r6 (p:=⟨gb,0,none⟩) (fun q hq=>hq.2.1) _) (p:=⟨gb,1,none⟩) (fun q hq=>hq.2.1) _
theorem Cp.mv (h:Cp w0 w wr g W g4 gb n gm c b cp vq) (hS:Stp w0 wr g w1):Cp w0 w w1 g W g4 gb n gm c b cp vq:=by
 have:=h.s4;have:=h.sb;have:=h.el
 exact⟨h.st.trans hS,h.dm.keep hS.keep (by omega),hS.keep.blk h.b4 (by omega) (by simp),hS.keep.blk h.bb (by omega) (by simp),h.s4,h.sb,h.el⟩
theorem RC.mv (h:Cp w0 w wr g W g4 gb n gm c b cp vq) (r:RC wr W gb n gm b vq Q) (hS:Stp w0 wr g w1):RC w1 W gb n gm b vq Q:=by
 have:=h.s4;have:=h.el
 exact Kd.R_keep r hS.keep (fun k hk=>by have:=hk.1;omega)
theorem Cp.put (h:Cp w0 w wr g W g4 gb n gm c b cp vq) (r:RC wr W gb n gm b vq Q) {j k:Nat} (hj:j < n) (hk:k < n) (x:Int):Cp w0 w (wr.setCell ⟨b j,k,none⟩ (.int .i64 x)) g W g4 gb n gm c b cp vq∧RC (wr.setCell ⟨b j,k,none⟩ (.int .i64 x)) W gb n gm b vq Q:=by
 have h4:=h.s4;have hb:=h.sb;have he:=h.el;have hr:=h.dm.rr j hj
 exact⟨⟨h.st.set he.1 (b j) k _ (by omega) (by omega),h.dm.put hj hk x,(Below.heap_setCell wr ⟨b j,k,none⟩ _ g4 (by show g4≠b j;omega)).trans h.b4,(Below.heap_setCell wr ⟨b j,k,none⟩ _ gb (hb.2.2 j hj)).trans h.bb,h4,hb,he⟩,Kd.R_far r (p:=⟨b j,k,none⟩) (fun q hq=>hq.2.2.2 j hj) _⟩
theorem Cp.putQ {gq c1:Nat} (h:Cp w0 w wr g W g4 gb n gm c b cp (.slice (some ⟨gq,0,none⟩) Q.length c1)) (r:RC wr W gb n gm b (.slice (some ⟨gq,0,none⟩) Q.length c1) Q) (hq:W≤gq∧gq≠gb∧gq≠gm∧ ∀j,j < n→gq≠b j) (i:Nat) (x:Int):Cp w0 w (wr.setCell ⟨gq,i,none⟩ (.int .i64 x)) g W g4 gb n gm c b cp (.slice (some ⟨gq,0,none⟩) Q.length c1)∧RC (wr.setCell ⟨gq,i,none⟩ (.int .i64 x)) W gb n gm b (.slice (some ⟨gq,0,none⟩) Q.length c1) (Q.set i x):=by
 have h4:=h.s4;have hb:=h.sb;have he:=h.el
 have hput:=Kd.R_putg r (i:Int) x
 rw [Int.toNat_natCast] at hput
 exact⟨⟨h.st.set he.1 gq i _ (by omega) (by omega),h.dm.set hq.2.2.1 hq.2.2.2,(Below.heap_setCell wr ⟨gq,i,none⟩ _ g4 (by show g4≠gq;omega)).trans h.b4,(Below.heap_setCell wr ⟨gq,i,none⟩ _ gb (Ne.symm hq.2.1)).trans h.bb,h4,hb,he⟩,hput.1⟩
theorem Cp.fresh (h:Cp w0 w wr g W g4 gb n gm c b cp vq):W≤wr.heap.size∧ ∀k,wr.heap.size≤k→okC W gb n gm b k:=by
 have lb:=blk_lt h.bb;have g0:=h.dm.g0
 exact⟨by omega,fun k hk=>⟨by omega,by omega,by omega,fun j hj=>by have:=(h.dm.rr j hj).2.1;omega⟩⟩
theorem Cp.grow (h:Cp w0 w wr g W g4 gb n gm c b cp vq) (r:RC wr W gb n gm b vq Q) (hg:wr.grownBy w1 vq.ownBlock) (hb:Below W wr w1):Cp w0 w w1 g W g4 gb n gm c b cp vq:=by
 have hn: ∀k, ¬ okC W gb n gm b k→some k≠vq.ownBlock:=fun k hk e=>hk (r.1 k e.symm)
 have h4:=h.s4;have he:=h.el
 refine⟨h.st.lo he.1 he.2 ⟨hb.os,hb.tape,hb.output,hb.size,fun i hi=>hb.block i (by omega)⟩,h.dm.grow hg ⟨hn _ (fun q=>q.2.2.1 rfl),fun j hj=>hn _ (fun q=>q.2.2.2 j hj rfl)⟩,blk_grown h.b4 hg (hn _ (fun q=>by have:=q.1;omega)),blk_grown h.bb hg (hn _ (fun q=>q.2.1 rfl)),h.s4,h.sb,h.el⟩
theorem Cp.store {v1:Value} (h:Cp w0 w w1 g W g4 gb n gm c b cp vq) (r:RC w1 W gb n gm b v1 Q):Cp w0 w (w1.setCell ⟨gb,1,none⟩ v1) g W g4 gb n gm c b cp v1∧RC (w1.setCell ⟨gb,1,none⟩ v1) W gb n gm b v1 Q:=by
 have h4:=h.s4;have hb:=h.sb;have he:=h.el
 exact⟨⟨h.st.set he.1 gb 1 _ (by omega) (by omega),h.dm.set hb.2.1 hb.2.2,(Below.heap_setCell w1 ⟨gb,1,none⟩ _ g4 (by show g4≠gb;omega)).trans h.b4,blk_put h.bb 1 v1 rfl,h4,hb,he⟩,Kd.R_far r (p:=⟨gb,1,none⟩) (fun q hq=>hq.2.1) _⟩
theorem Cp.out {lo c1:Nat} {A:Option Addr} (h:Cp w0 w wr g W g4 gb n gm c b cp (.slice A Q.length c1)) (r:RC wr W gb n gm b (.slice A Q.length c1) Q) (hg:g < lo) (hl:lo≤w.heap.size) (hq:n≤Q.length∧Q.length≤n+1):
  PbOut w0 w g lo n (.agg #[.slice (some ⟨gm,0,none⟩) n c, .slice A Q.length c1]) ((wr.setCell ⟨g4,0,none⟩ (.slice (some ⟨gm,0,none⟩) n c)).setCell ⟨g4,1,none⟩ (.slice A Q.length c1)):=by
 have h4:=h.s4;have hb:=h.sb;have he:=h.el;have g0:=h.dm.g0
 have q1:g4≠gm:=by omega
 have q2: ∀j,j < n→g4≠b j:=fun j hj=>by have:=(h.dm.rr j hj).1;omega
 refine⟨.inr ⟨gm,c,b,cp,A,c1,Q,rfl,⟨((h.dm.set q1 q2).set q1 q2).down (by omega),?_,hq⟩⟩,(h.st.set he.1 g4 0 _ h4.1 (by omega)).set he.1 g4 1 _ h4.1 (by omega)⟩
 have r2:=Kd.R_far (Kd.R_far r (p:=⟨g4,0,none⟩) (fun k hk=>by show k≠g4;have:=hk.1;omega) (.slice (some ⟨gm,0,none⟩) n c)) (p:=⟨g4,1,none⟩) (fun k hk=>by show k≠g4;have:=hk.1;omega) (.slice A Q.length c1)
 exact Kd.R_lower (Kd.R_mono r2 (fun k hk=>⟨by have:=hk.1;omega,hk.2.2⟩)) (by omega)
end
end Go.Proofs.YthmfdplckdijdaaGreat.Dr
end
section
namespace Go.Proofs.YthmfdplckdijdaaGreat.Dr
open Go.RowKit Go.Proofs.YthmfdplckdijdaaGreatW.PrintWords Go.Proofs.YthmfdplckdijdaaGreatW.PrintLast Go.Proofs.YthmfdplckdijdaaGreatW.PrintMore Go.Proofs.YthmfdplckdijdaaGreat.Ma Go.Proofs.YthmfdplckdijdaaGreat.Pr Go.Proofs.YthmfdplckdijdaaGreat.Lq
theorem bad_c {w0 w:World} {g lo n gm c:Nat} {b cp:Nat→Nat} {A:Option Addr} {c1:Nat} {Q:List Int} (h:Srm w0 w g) (hB:Below w0.heap.size w0 w) (hP:Pb w g lo n gm c b cp A c1 Q) (hQ:Q.length=n) (hn:n≤5) (hn0:0 < n) (hg:g < lo) (hl:lo≤w.heap.size):Calls Tryz.prog 72 #[.pointer (some ⟨g,0,none⟩), .agg #[.slice (some ⟨gm,0,none⟩) n c, .slice A n c1]] w fun e w'=> ∃v,e= .returned v∧PbOut w0 w g lo n v w':=by
 have ST:=q_ (Stp.refl h hB);have HE:=q_ hB.size;have P:=q_ hP;have PL:=q_ (show gm < w.heap.size∧ ∀j,j < n→b j < w.heap.size from ⟨hP.dm.g0.2,fun j hj=>(hP.dm.rr j hj).2.1⟩);have RP:Aside0 (Kd.R (Kd.int .i64) 2 w lo (fun k=>(k≠g∧k≠gm∧ ∀j,j < n→k≠b j)∧k < w.heap.size) (.slice A Q.length c1) Q):=⟨Kd.R_mono (Kd.R_tight rfl hP.rq) (fun k hk=>⟨hP.rq.1 k hk.symm,Kd.R_lt hP.rq k hk.symm⟩)⟩
 have HQ:=q_ hQ;have HN:=q_ hn;have HN0:=q_ hn0;have HG:=q_ hg;have HL:=q_ hl;clear h hB hP hQ hn hn0 hg hl
 go_enter Tryz.func72,Tryz.ntmps72
 go_wp2_with (first | ((with_reducible refine gate_dst (N:=3) rfl ?_);refine be_ 3 #[.slice (some ⟨gm,0,none⟩) n c, .slice A n c1] 34 ?_;intro g3 hg w2 hbox hb;have G3:=q_ (show w.heap.size≤g3 by rw [hg];exact Nat.le_refl _);have hs_:=Stp.of_below ST.out.src ST.out.below hb;replace ST:=q_ (ST.out.trans hs_);replace P:=q_ (P.out.mv hs_ HG.out);replace RP:=q_ (Kd.R_keep RP.out hs_.keep (fun k hk=>hk.1.1));have B3:=q_ hbox;clear hs_ hg hbox hb) | ((with_reducible refine gate_dst (N:=4) rfl ?_);refine be_ 4 #[.slice none 0 0, .slice none 0 0] 34 ?_;intro g4 hg w3 hbox hb;have G4:=q_ (show w.heap.size≤g4∧g3≠g4 by rw [hg];exact⟨ST.out.keep.1,Nat.ne_of_lt (blk_lt B3.out)⟩);have hs_:=Stp.of_below ST.out.src ST.out.below hb;replace ST:=q_ (ST.out.trans hs_);replace P:=q_ (P.out.mv hs_ HG.out);replace RP:=q_ (Kd.R_keep RP.out hs_.keep (fun k hk=>hk.1.1));replace B3:=q_ (blk_below B3.out hb);have B4:=q_ hbox;clear hs_ hg hbox hb))
 refine(next_c ST.out.src ST.out.below 50).mono ?_
 rintro e w4 ⟨y,rfl,_,hS⟩;replace ST:=q_ (ST.out.trans hS);replace P:=q_ (P.out.mv hS HG.out);replace RP:=q_ (Kd.R_keep RP.out hS.keep (fun k hk=>hk.1.1));replace B3:=q_ (hS.keep.blk B3.out (by have:=G3.out;have:=G4.out;have:=HG.out;have:=HL.out;omega) (by simp));replace B4:=q_ (hS.keep.blk B4.out (by have:=G3.out;have:=G4.out;have:=HG.out;have:=HL.out;omega) (by simp));clear hS
 by_cases y0:y=0
 ·have y0b:(y==0)=true:=by simpa using y0
  clear y0;have x40:=cz_ B4 0;have x41:=cz_ B4 1;have f40:=blk_frozen B4.out 0;have f41:=blk_frozen B4.out 1;go_wp2
  refine bodyPost_ret (results_cell_row rfl _ _ g4 34 #[.slice none 0 0, .slice none 0 0] (0,0) _ rfl (blk_put (blk_put B4.out 0 _ rfl) 1 _ rfl) Tryz.underlying34 rfl (by kernel_rfl)) rfl ?_
  have g4a:=G4.out;have hl:=HL.out;have hgg:=HG.out;have S4:=(ST.out.set HE.out g4 0 (.slice none 0 0) g4a.1 (by omega)).set HE.out g4 1 (.slice none 0 0) g4a.1 (by omega);exact⟨_,rfl, .inl rfl,S4⟩
 have y0b:(y==0)=false:=by simpa using y0
 clear y0
 by_cases y1:y=1
 ·have y1b:(y==1)=true:=by simpa using y1
  clear y1;have x30:=cz_ B3 0;have x31:=cz_ B3 1;have f30:=blk_frozen B3.out 0;have f31:=blk_frozen B3.out 1
  go_wp2_with fail
  refine(copy_c P.out HQ.out HN.out HN0.out).mono ?_
  rintro e w5 ⟨gm2,c2,b2,cp2,A2,d2,Q2,rfl,hQ2,hD,hR,hb⟩;clear x30 x31 f30 f31;have D2:=q_ hD;have R2:=q_ hR;have L2:=q_ hQ2;have HB5:=q_ hb;have GB4:=q_ (blk_lt B4.out);have GL:=q_ ST.out.src.lt;have hs_:=Stp.of_below ST.out.src ST.out.below hb;replace ST:=q_ (ST.out.trans hs_);replace P:=q_ (P.out.mv hs_ HG.out);replace RP:=q_ (Kd.R_keep RP.out hs_.keep (fun k hk=>hk.1.1));replace B3:=q_ (hs_.keep.blk B3.out (by have:=G3.out;have:=G4.out;have:=HG.out;have:=HL.out;omega) (by simp));replace B4:=q_ (hs_.keep.blk B4.out (by have:=G3.out;have:=G4.out;have:=HG.out;have:=HL.out;omega) (by simp));clear hD hR hQ2 hb hs_;obtain⟨gq,dq,eq_,hbq,hlq,_⟩:=Kd.R_form R2.out (by rw [L2.out];exact HN0.out);injection eq_ with e1 e2 e3
  subst e1;have GQ:=q_ hbq;clear e2 e3 hbq hlq
  go_wp2_with (first | ((with_reducible refine gate_dst (N:=5) rfl ?_);refine be_ 5 #[.slice none 0 0, .slice none 0 0] 34 ?_;intro g5 hg w6 hbox hb;have B5:=q_ hbox;have G5:=q_ (show w5.heap.size≤g5 by rw [hg];exact Nat.le_refl _);have HB6:=q_ hb;have hx0:=cz_ B5 0;have hx1:=cz_ B5 1;have fx0:=blk_frozen hbox 0;have fx1:=blk_frozen hbox 1;clear hg hbox hb) | ((with_reducible refine gate_store (t:=34) (p:=5) rfl ?_);refine store_event (t:=34) (p:=5) (v:=?vo5) (w1:=(w6.setCell ⟨g5,0,none⟩ (.slice (some ⟨gm2,0,none⟩) n c2)).setCell ⟨g5,1,none⟩ (.slice (some ⟨gq,0,none⟩) n d2)) ?hg ?ho ?hn ?hr ?_;(case ho=>rfl);(case hg=>rfl);(case hn=>rfl);(case hr=>first | (go_simp;done) | (go_simp;rfl));intro w7 hw;have cpr:=Cp.new (g4:=g4) (W:=w4.heap.size) HE.out (by have:=HG.out;have:=HL.out;omega) ST.out ⟨G4.out.1,GB4.out⟩ B4.out D2.out HB5.out.size (by rw [L2.out];exact R2.out) HB6.out G5.out B5.out;rw [L2.out, ← hw] at cpr;have CP:=q_ cpr.1;have RQ:=q_ cpr.2;clear cpr hw hx0 hx1 fx0 fx1;have hx0:=cz_ (q_ CP.out.bb) 0;have hx1:=cz_ (q_ CP.out.bb) 1))
  clear ST P RP D2 R2 B4 HB6 G5 B5 HB5 B3 hx0 hx1;have hs_:=Stp.of_below CP.out.st.src CP.out.st.below (below_drew (Below.refl w7.heap.size w7));replace RQ:=q_ (RC.mv CP.out RQ.out hs_);replace CP:=q_ (CP.out.mv hs_);clear hs_;refine st_ (n:=10) (S:=fun w'=>w'.cell? ⟨g5,0,none⟩=some (.slice (some ⟨gm2,0,none⟩) n c2)∧ ∀j,j < n→w'.cell? ⟨gm2,j,none⟩=some (.slice (some ⟨b2 j,0,none⟩) n (cp2 j))) (ds:= []) ⟨cz_ (q_ CP.out.bb) 0,CP.out.dm.row⟩ (fun hHeld=>?_)
  generalize w7.drew=w8 at CP RQ hHeld ⊢
  refine pu_ 0 18 ?_;refine pu_ 2 20 ?_;refine pu_ 3 21 ?_;refine tk_ 1 19 ?_;refine tk_ 4 22 ?_;refine pu_ 5 23 ?_
  refine on_ 6 (some 24) (fun K hK=>?_)
  refine ca_ Tryz.func36 #[.pointer (some ⟨g,0,none⟩), .int .i64 (n:Int)] ?_
  refine(next_c CP.out.st.src CP.out.st.below (n:Int)).mono ?_
  rintro e w9 ⟨x,rfl,hx,hS⟩;obtain⟨j,rfl⟩:=Int.eq_ofNat_of_zero_le (hx (by have:=HN0.out;omega)).1;have hjn:j < n:=by have:=(hx (by have:=HN0.out;omega)).2;omega
  have HJ:=q_ hjn;have hjz:(j:Int) < (n:Int):=by omega
  have h0j:(0:Int)≤(j:Int):=by omega
  refine⟨_,rfl,?_⟩
  replace RQ:=q_ (RC.mv CP.out RQ.out hS);replace CP:=q_ (CP.out.mv hS);clear hS hx hHeld;refine hK.out _ _ ⟨cz_ (q_ CP.out.bb) 0,CP.out.dm.row⟩ (fun hHeld=>?_)
  clear hK K;refine no_ ?_
  refine pu_ 7 25 ?_;refine tk_ 8 26 ?_;refine pu_ 9 6 ?_
  refine done_ (by kernel_rfl) ?_
  clear hHeld hjn hjz h0j
  go_wp2_with (first | ((with_reducible refine gate_dst (N:=29) rfl ?_);refine Kd.R_lit (Kd.int .i64) _ 2 ?hg (N:=29) ?hd (xs:=([21, -21,1099511627776]:List Int)) (inner:= [.int .i64 21, .int .i64 (-21), .int .i64 1099511627776]) (ok:=fun _=>True) (okp:=fun _=>True) ?hr ?hp (fun _ hk=>hk) trivial (Below.refl _ _) (Nat.le_refl _) (by simp) ?_;(case hd=>rfl);(case hg=>rfl);(case hr=>first | (go_simp;done) | (go_simp;rfl));(case hp=>exact lit_reps [21, -21,1099511627776]);intro v29 w10 ho hb hg_ hnew_;obtain⟨g29,c29,rfl,hb29,hl29,_⟩:=Kd.R_form ho (by simp);have G29:=q_ (Nat.lt_of_lt_of_le CP.out.st.src.lt hb29);have hs_:=Stp.of_below CP.out.st.src CP.out.st.below hb;replace RQ:=q_ (RC.mv CP.out RQ.out hs_);replace CP:=q_ (CP.out.mv hs_);have R29:=q_ ho;clear hs_ hb29 hl29 hg_ hnew_ ho hb))
  refine(pick_c CP.out.st.src CP.out.st.below _ c29 [21, -21,1099511627776] (Kd.R_reads' R29.out).2.2 (Kd.R_reads' R29.out).2.1 (fun ad e _=>by injection e with e;subst e;show g29≠g;have:=G29.out;omega) (by decide)).mono ?_
  rintro e w11 ⟨x,rfl,_,hS⟩;replace RQ:=q_ (RC.mv CP.out RQ.out hS);replace CP:=q_ (CP.out.mv hS);clear hS R29 G29;obtain⟨⟨z,hz⟩,fz⟩:=CP.out.dm.ints j 0 HJ.out HN0.out;have hn0z:(0:Int) < (n:Int):=by have:=HN0.out;omega
  go_wp2_with (first | ((with_reducible refine gate_store (t:=2) (p:=31) rfl ?_);refine store_event (t:=2) (p:=31) (v:=?vo31) (w1:=w11.setCell ⟨b2 j,0,none⟩ (.int .i64 x)) ?hg ?ho ?hn ?hr ?_;(case ho=>rfl);(case hg=>rfl);(case hn=>rfl);(case hr=>first | (go_simp;done) | (go_simp;rfl));intro w12 hw;have cpr:=CP.out.put RQ.out HJ.out HN0.out x;rw [← hw] at cpr;replace RQ:=q_ cpr.2;replace CP:=q_ cpr.1;clear hz fz cpr hw;have hx0:=cz_ (q_ CP.out.bb) 0;have hx1:=cz_ (q_ CP.out.bb) 1;have y40:=cz_ (q_ CP.out.b4) 0;have y41:=cz_ (q_ CP.out.b4) 1;have g40:=blk_frozen CP.out.b4 0;have g41:=blk_frozen CP.out.b4 1))
  go_wp2
  refine bodyPost_ret (results_cell_row rfl _ _ g4 34 #[.slice (some ⟨gm2,0,none⟩) n c2, .slice (some ⟨gq,0,none⟩) n d2] (0,0) _ rfl (blk_put (blk_put CP.out.b4 0 _ rfl) 1 _ rfl) Tryz.underlying34 rfl (by kernel_rfl)) rfl ?_
  have fin:=Cp.out (Q:=Q2) (by rw [L2.out];exact CP.out) (by rw [L2.out];exact RQ.out) HG.out HL.out (by rw [L2.out];omega);rw [L2.out] at fin;exact⟨_,rfl,fin⟩
 have y1b:(y==1)=false:=by simpa using y1
 clear y1
 by_cases y2:y=2
 ·have y2b:(y==2)=true:=by simpa using y2
  clear y2;have x30:=cz_ B3 0;have x31:=cz_ B3 1;have f30:=blk_frozen B3.out 0;have f31:=blk_frozen B3.out 1
  go_wp2_with fail
  refine(copy_c P.out HQ.out HN.out HN0.out).mono ?_
  rintro e w5 ⟨gm2,c2,b2,cp2,A2,d2,Q2,rfl,hQ2,hD,hR,hb⟩;clear x30 x31 f30 f31;have D2:=q_ hD;have R2:=q_ hR;have L2:=q_ hQ2;have HB5:=q_ hb;have GB4:=q_ (blk_lt B4.out);have GL:=q_ ST.out.src.lt;have hs_:=Stp.of_below ST.out.src ST.out.below hb;replace ST:=q_ (ST.out.trans hs_);replace P:=q_ (P.out.mv hs_ HG.out);replace RP:=q_ (Kd.R_keep RP.out hs_.keep (fun k hk=>hk.1.1));replace B3:=q_ (hs_.keep.blk B3.out (by have:=G3.out;have:=G4.out;have:=HG.out;have:=HL.out;omega) (by simp));replace B4:=q_ (hs_.keep.blk B4.out (by have:=G3.out;have:=G4.out;have:=HG.out;have:=HL.out;omega) (by simp));clear hD hR hQ2 hb hs_;obtain⟨gq,dq,eq_,hbq,hlq,_⟩:=Kd.R_form R2.out (by rw [L2.out];exact HN0.out);injection eq_ with e1 e2 e3
  subst e1;have GQ:=q_ hbq;clear e2 e3 hbq hlq
  go_wp2_with (first | ((with_reducible refine gate_dst (N:=7) rfl ?_);refine be_ 7 #[.slice none 0 0, .slice none 0 0] 34 ?_;intro g7 hg w6 hbox hb;have B7:=q_ hbox;have G7:=q_ (show w5.heap.size≤g7 by rw [hg];exact Nat.le_refl _);have HB6:=q_ hb;have hx0:=cz_ B7 0;have hx1:=cz_ B7 1;have fx0:=blk_frozen hbox 0;have fx1:=blk_frozen hbox 1;clear hg hbox hb) | ((with_reducible refine gate_store (t:=34) (p:=7) rfl ?_);refine store_event (t:=34) (p:=7) (v:=?vo7) (w1:=(w6.setCell ⟨g7,0,none⟩ (.slice (some ⟨gm2,0,none⟩) n c2)).setCell ⟨g7,1,none⟩ (.slice (some ⟨gq,0,none⟩) n d2)) ?hg ?ho ?hn ?hr ?_;(case ho=>rfl);(case hg=>rfl);(case hn=>rfl);(case hr=>first | (go_simp;done) | (go_simp;rfl));intro w7 hw;have cpr:=Cp.new (g4:=g4) (W:=w4.heap.size) HE.out (by have:=HG.out;have:=HL.out;omega) ST.out ⟨G4.out.1,GB4.out⟩ B4.out D2.out HB5.out.size (by rw [L2.out];exact R2.out) HB6.out G7.out B7.out;rw [L2.out, ← hw] at cpr;have CP:=q_ cpr.1;have RQ:=q_ cpr.2;clear cpr hw hx0 hx1 fx0 fx1;have hx0:=cz_ (q_ CP.out.bb) 0;have hx1:=cz_ (q_ CP.out.bb) 1))
  clear ST P RP D2 R2 B4 HB6 G7 B7 HB5 B3 hx0 hx1;have hs_:=Stp.of_below CP.out.st.src CP.out.st.below (below_drew (Below.refl w7.heap.size w7));replace RQ:=q_ (RC.mv CP.out RQ.out hs_);replace CP:=q_ (CP.out.mv hs_);clear hs_;refine st_ (n:=7) (S:=fun w'=>w'.cell? ⟨g7,1,none⟩=some (.slice (some ⟨gq,0,none⟩) n d2)) (ds:= [6]) (cz_ (q_ CP.out.bb) 1) (fun hHeld=>?_)
  generalize w7.drew=w8 at CP RQ hHeld ⊢
  refine pu_ 0 37 ?_;refine pu_ 2 39 ?_;refine tk_ 1 38 ?_
  refine on_ 3 (some 40) (fun K hK=>?_)
  refine Kd.R_lit_step (Kd.int .i64) _ 2 (by rfl) (N:=40) rfl (xs:=([101, -101]:List Int)) (inner:= [.int .i64 101, .int .i64 (-101)]) (ok:=fun _=>True) (okp:=fun _=>True) (by first | (go_simp;done) | (go_simp;rfl)) (lit_reps [101, -101]) (fun _ h=>h) trivial (Below.refl _ _) (Nat.le_refl _) (by simp) ?_
  intro v40 w9 ho hb hg_ hat_;obtain⟨g40,c40,rfl,hb40,hl40,_⟩:=Kd.R_form ho (by simp);have G40:=q_ (Nat.lt_of_lt_of_le CP.out.st.src.lt hb40);have hs_:=Stp.of_below CP.out.st.src CP.out.st.below hb;replace RQ:=q_ (RC.mv CP.out RQ.out hs_);replace CP:=q_ (CP.out.mv hs_);have R40:=q_ ho;clear hs_ hb40 hl40 ho hb hg_ hat_ hHeld;refine hK.out _ _ (cz_ (q_ CP.out.bb) 1) (fun hHeld=>?_)
  clear hK K;refine nd_ 40 ?_
  refine on_ 4 (some 41) (fun K hK=>?_)
  refine ca_ Tryz.func74 #[.pointer (some ⟨g,0,none⟩), .slice (some ⟨g40,0,none⟩) ([101, -101]:List Int).length c40] ?_
  refine(pick_c CP.out.st.src CP.out.st.below _ c40 [101, -101] (Kd.R_reads' R40.out).2.2 (Kd.R_reads' R40.out).2.1 (fun ad e _=>by injection e with e;subst e;show g40≠g;have:=G40.out;omega) (by decide)).mono ?_
  rintro e w11 ⟨x,rfl,_,hS⟩;refine⟨_,rfl,?_⟩
  replace RQ:=q_ (RC.mv CP.out RQ.out hS);replace CP:=q_ (CP.out.mv hS);clear hS R40 G40 hHeld;refine hK.out _ _ (cz_ (q_ CP.out.bb) 1) (fun hHeld=>?_)
  clear hK K;refine no_ ?_
  have hn0:=HN0.out;refine pu_ 5 42 ?_
  have hat:=Kd.R_celln 0 RQ.out 0 (by omega) (by omega);have hcell:=hat.1;have hfr:=hat.2;rw [show (0:Int).toNat=0 from rfl] at hcell hfr;have hown:=RQ.out.1 gq (by rw [← L2.out];have:=HN0.out;simp [Value.ownBlock]);clear hat;refine la_ 6 none (fun K hK=>?_)
  refine skip_ (w1:=?_) (by rfl) rfl ?_ ?_
  rotate_left
  ·go_simp
   rfl
  refine hK.out _ _ ?_
  clear hK K hHeld hcell hfr;refine done_ (by kernel_rfl) ?_
  have cp0:=Cp.putQ (Q:=Q2) (by rw [L2.out];exact CP.out) (by rw [L2.out];exact RQ.out) ⟨hown.1,hown.2.1,hown.2.2.1,hown.2.2.2⟩ 0 x;rw [L2.out] at cp0;have hl3:(Q2.set 0 x).length=n:=by rw [List.length_set];exact L2.out
  have HL3:=q_ hl3;replace CP:=q_ cp0.1;replace RQ:=q_ cp0.2;clear cp0 hown hl3
  generalize w11.setCell ⟨gq,0,none⟩ (.int .i64 x)=w12 at CP RQ ⊢
  have hx0:=cz_ (q_ CP.out.bb) 0;have hx1:=cz_ (q_ CP.out.bb) 1;have y40:=cz_ (q_ CP.out.b4) 0;have y41:=cz_ (q_ CP.out.b4) 1;have g40:=blk_frozen CP.out.b4 0;have g41:=blk_frozen CP.out.b4 1;go_wp2
  refine bodyPost_ret (results_cell_row rfl _ _ g4 34 #[.slice (some ⟨gm2,0,none⟩) n c2, .slice (some ⟨gq,0,none⟩) n d2] (0,0) _ rfl (blk_put (blk_put CP.out.b4 0 _ rfl) 1 _ rfl) Tryz.underlying34 rfl (by kernel_rfl)) rfl ?_
  have fin:=Cp.out (Q:=Q2.set 0 x) (by rw [HL3.out];exact CP.out) (by rw [HL3.out];exact RQ.out) HG.out HL.out (by rw [HL3.out];omega);rw [HL3.out] at fin;exact⟨_,rfl,fin⟩
 have y2b:(y==2)=false:=by simpa using y2
 clear y2
 by_cases y3:y=3
 ·have y3b:(y==3)=true:=by simpa using y3
  clear y3;have x30:=cz_ B3 0;have x31:=cz_ B3 1;have f30:=blk_frozen B3.out 0;have f31:=blk_frozen B3.out 1
  go_wp2_with fail
  refine(copy_c P.out HQ.out HN.out HN0.out).mono ?_
  rintro e w5 ⟨gm2,c2,b2,cp2,A2,d2,Q2,rfl,hQ2,hD,hR,hb⟩;clear x30 x31 f30 f31;have D2:=q_ hD;have R2:=q_ hR;have L2:=q_ hQ2;have HB5:=q_ hb;have GB4:=q_ (blk_lt B4.out);have GL:=q_ ST.out.src.lt;have hs_:=Stp.of_below ST.out.src ST.out.below hb;replace ST:=q_ (ST.out.trans hs_);replace P:=q_ (P.out.mv hs_ HG.out);replace RP:=q_ (Kd.R_keep RP.out hs_.keep (fun k hk=>hk.1.1));replace B3:=q_ (hs_.keep.blk B3.out (by have:=G3.out;have:=G4.out;have:=HG.out;have:=HL.out;omega) (by simp));replace B4:=q_ (hs_.keep.blk B4.out (by have:=G3.out;have:=G4.out;have:=HG.out;have:=HL.out;omega) (by simp));clear hD hR hQ2 hb hs_;obtain⟨gq,dq,eq_,hbq,hlq,_⟩:=Kd.R_form R2.out (by rw [L2.out];exact HN0.out);injection eq_ with e1 e2 e3
  subst e1;have GQ:=q_ hbq;clear e2 e3 hbq hlq
  go_wp2_with (first | ((with_reducible refine gate_dst (N:=8) rfl ?_);refine be_ 8 #[.slice none 0 0, .slice none 0 0] 34 ?_;intro g8 hg w6 hbox hb;have B8:=q_ hbox;have G8:=q_ (show w5.heap.size≤g8 by rw [hg];exact Nat.le_refl _);have HB6:=q_ hb;have hx0:=cz_ B8 0;have hx1:=cz_ B8 1;have fx0:=blk_frozen hbox 0;have fx1:=blk_frozen hbox 1;clear hg hbox hb) | ((with_reducible refine gate_store (t:=34) (p:=8) rfl ?_);refine store_event (t:=34) (p:=8) (v:=?vo8) (w1:=(w6.setCell ⟨g8,0,none⟩ (.slice (some ⟨gm2,0,none⟩) n c2)).setCell ⟨g8,1,none⟩ (.slice (some ⟨gq,0,none⟩) n d2)) ?hg ?ho ?hn ?hr ?_;(case ho=>rfl);(case hg=>rfl);(case hn=>rfl);(case hr=>first | (go_simp;done) | (go_simp;rfl));intro w7 hw;have cpr:=Cp.new (g4:=g4) (W:=w4.heap.size) HE.out (by have:=HG.out;have:=HL.out;omega) ST.out ⟨G4.out.1,GB4.out⟩ B4.out D2.out HB5.out.size (by rw [L2.out];exact R2.out) HB6.out G8.out B8.out;rw [L2.out, ← hw] at cpr;have CP:=q_ cpr.1;have RQ:=q_ cpr.2;clear cpr hw hx0 hx1 fx0 fx1;have hx0:=cz_ (q_ CP.out.bb) 0;have hx1:=cz_ (q_ CP.out.bb) 1) | ((with_reducible refine gate_builtin (b:= .append) (xs:= #[.tmp 49, .tmp 50]) rfl ?_);at_builtin;refine Kd.R_append (Kd.int .i64) (w0:=w7) w4.heap.size rfl (.tmp 49) (.tmp 50) 24 2 (.int .i64 0) 8 rfl Tryz.underlying24 info2 rfl (by decide) (by omega) (.slice (some ⟨gq,0,none⟩) n d2) Q2 0 [.int .i64 0] (okC w4.heap.size g8 n gm2 b2) (fun _=>False) rfl rfl rfl (fun _ hk=>hk.elim) CP.out.fresh.2 RQ.out (Below.refl _ _) CP.out.fresh.1 ?aL ?_;(case aL=>have:=HN.out;have:=L2.out;omega);intro v51 w8 ho hb hg hat;replace CP:=q_ (CP.out.grow RQ.out hg hb);replace RQ:=q_ ho;clear ho hb hg hat hx0 hx1;obtain⟨A9,c9,e9⟩:=Kd.R_slice RQ.out;have hl9:(Q2++ [0]).length=n+1:=(by have:=L2.out;simp;omega);rw [hl9] at e9;subst e9;have HL9:=q_ hl9;clear hl9;have hx1:=cz_ (q_ CP.out.bb) 1;have fx1:=blk_frozen CP.out.bb 1) | ((with_reducible refine gate_store (t:=24) (p:=52) rfl ?_);refine store_event (t:=24) (p:=52) (v:=?vo52) (w1:=w8.setCell ⟨g8,1,none⟩ (.slice A9 (n+1) c9)) ?hg ?ho ?hn ?hr ?_;(case ho=>rfl);(case hg=>rfl);(case hn=>rfl);(case hr=>first | (go_simp;done) | (go_simp;rfl));intro w9 hw;have cpr:=CP.out.store RQ.out;rw [← hw] at cpr;replace RQ:=q_ cpr.2;replace CP:=q_ cpr.1;clear cpr hw hx1 fx1;have hx0:=cz_ (q_ CP.out.bb) 0;have hx1:=cz_ (q_ CP.out.bb) 1;have y40:=cz_ (q_ CP.out.b4) 0;have y41:=cz_ (q_ CP.out.b4) 1;have g40:=blk_frozen CP.out.b4 0;have g41:=blk_frozen CP.out.b4 1))
  clear ST P RP D2 R2 B4 HB6 G8 B8 HB5 B3;refine bodyPost_ret (results_cell_row rfl _ _ g4 34 #[.slice (some ⟨gm2,0,none⟩) n c2, .slice A9 (n+1) c9] (0,0) _ rfl (blk_put (blk_put CP.out.b4 0 _ rfl) 1 _ rfl) Tryz.underlying34 rfl (by kernel_rfl)) rfl ?_
  have fin:=Cp.out (Q:=Q2++ [0]) (by rw [HL9.out];exact CP.out) (by rw [HL9.out];exact RQ.out) HG.out HL.out (by rw [HL9.out];omega);rw [HL9.out] at fin;exact⟨_,rfl,fin⟩
 have y3b:(y==3)=false:=by simpa using y3
 clear y3;have x30:=cz_ B3 0;have x31:=cz_ B3 1;have f30:=blk_frozen B3.out 0;have f31:=blk_frozen B3.out 1;have x40:=cz_ B4 0;have x41:=cz_ B4 1;have f40:=blk_frozen B4.out 0;have f41:=blk_frozen B4.out 1;go_wp2
 refine bodyPost_ret (results_cell_row rfl _ _ g4 34 #[.slice (some ⟨gm,0,none⟩) n c, .slice A n c1] (0,0) _ rfl (blk_put (blk_put B4.out 0 _ rfl) 1 _ rfl) Tryz.underlying34 rfl (by kernel_rfl)) rfl ?_
 have g4a:=G4.out;have hl:=HL.out;have hgg:=HG.out;have S4:=(ST.out.set HE.out g4 0 (.slice (some ⟨gm,0,none⟩) n c) g4a.1 (by omega)).set HE.out g4 1 (.slice A n c1) g4a.1 (by omega);have pl:=PL.out;have q1:g4≠gm:=by omega
 have q2: ∀j,j < n→g4≠b j:=fun j hj=>by have:=pl.2 j hj;omega
 exact⟨_,rfl, .inr ⟨gm,c,b,cp,A,c1,Q,by rw [HQ.out],⟨(P.out.dm.set q1 q2).set q1 q2,Kd.R_mono (Kd.R_far (Kd.R_far RP.out (p:=⟨g4,0,none⟩) (fun k hk=>by show k≠g4;have:=hk.2;omega) _) (p:=⟨g4,1,none⟩) (fun k hk=>by show k≠g4;have:=hk.2;omega) _) (fun k hk=>hk.1),P.out.ql⟩⟩,S4⟩
end Go.Proofs.YthmfdplckdijdaaGreat.Dr
end
section
namespace Go.Proofs.YthmfdplckdijdaaGreat.Dr
open Go.RowKit Go.Proofs.YthmfdplckdijdaaGreatW.PrintWords Go.Proofs.YthmfdplckdijdaaGreatW.PrintLast Go.Proofs.YthmfdplckdijdaaGreatW.PrintMore Go.Proofs.YthmfdplckdijdaaGreat.Ma Go.Proofs.YthmfdplckdijdaaGreat.Pr Go.Proofs.YthmfdplckdijdaaGreat.Lq
def PbIs (w0 wE:World) (g lo n:Nat) (v:Value) (w':World):Prop:=(∃gm c b cp A c1 Q,v= .agg #[.slice (some ⟨gm,0,none⟩) n c, .slice A n c1]∧Q.length=n∧Pb w' g lo n gm c b cp A c1 Q)∧Stp w0 wE g w'
theorem Prb.is {w0 w w':World} {g n:Nat} {v:Value} (h:Prb w0 w g n v w'):PbIs w0 w g w.heap.size n v w':=by
 obtain⟨gm,c,b,cp,A,c1,Q,rfl,hQ,hD,hR,hS⟩:=h
 exact⟨⟨gm,c,b,cp,A,c1,Q,rfl,hQ,hD,by rw [hQ];exact hR,by omega,by omega⟩,hS⟩
theorem Pb.far {w:World} {g lo n gm c:Nat} {b cp:Nat→Nat} {A:Option Addr} {c1:Nat} {Q:List Int} (h:Pb w g lo n gm c b cp A c1 Q) {p:Nat} (hp:p < lo) (i:Nat) (u:Value):Pb (w.setCell ⟨p,i,none⟩ u) g lo n gm c b cp A c1 Q:=by
 have g0:=h.dm.g0
 refine⟨h.dm.set (by omega) (fun j hj=>by have:=(h.dm.rr j hj).1;omega),?_,h.ql⟩
 have r2:=Kd.R_mono (ok':=fun k=>(k≠g∧k≠gm∧ ∀j,j < n→k≠b j)∧k≠p) (Kd.R_tight rfl h.rq) (fun k hk=>⟨h.rq.1 k hk.symm,by have:=Kd.R_base h.rq k hk.symm;omega⟩)
 exact Kd.R_mono (Kd.R_far r2 (p:=⟨p,i,none⟩) (fun k hk=>hk.2) u) (fun k hk=>hk.1)
theorem Pb.down {w:World} {g lo lo2 n gm c:Nat} {b cp:Nat→Nat} {A:Option Addr} {c1:Nat} {Q:List Int} (h:Pb w g lo n gm c b cp A c1 Q) (hl:lo2≤lo):Pb w g lo2 n gm c b cp A c1 Q:=⟨h.dm.down hl,Kd.R_lower h.rq hl,h.ql⟩
theorem draw_c {w0 w:World} {g:Nat} (h:Srm w0 w g) (hB:Below w0.heap.size w0 w):Calls Tryz.prog 80 #[.pointer (some ⟨g,0,none⟩)] w fun e w'=> ∃n v,0 < n∧n≤5∧e= .returned v∧PbIs w0 w g w.heap.size n v w':=by
 have ST:=q_ (Stp.refl h hB);have HG:=q_ h.lt;have HE:=q_ hB.size;clear h hB
 go_enter Tryz.func80,Tryz.ntmps80
 go_wp2_with (first | ((with_reducible refine gate_dst (N:=2) rfl ?_);refine be_ 2 #[.slice none 0 0, .slice none 0 0] 34 ?_;intro g2 hg w2 hbox hb;have G2:=q_ (show w.heap.size≤g2 by rw [hg];exact Nat.le_refl _);have B2:=q_ hbox;replace ST:=q_ (ST.out.trans (Stp.of_below ST.out.src ST.out.below hb));clear hg hbox hb) | ((with_reducible refine gate_dst (N:=5) rfl ?_);refine Kd.R_lit (Kd.int .i64) _ 2 ?hg (N:=5) ?hd (xs:=([1,2,2,3,3,3,4,5]:List Int)) (inner:= [.int .i64 1, .int .i64 2, .int .i64 2, .int .i64 3, .int .i64 3, .int .i64 3, .int .i64 4, .int .i64 5]) (ok:=fun _=>True) (okp:=fun _=>True) ?hr ?hp (fun _ hk=>hk) trivial (Below.refl _ _) (Nat.le_refl _) (by simp) ?_;(case hd=>rfl);(case hg=>rfl);(case hr=>first | (go_simp;done) | (go_simp;rfl));(case hp=>exact lit_reps [1,2,2,3,3,3,4,5]);intro v5 w3 ho hb hg_ hnew_;obtain⟨g5,c5,rfl,hb5,hl5,_⟩:=Kd.R_form ho (by simp);have G5:=q_ (Nat.lt_of_lt_of_le ST.out.src.lt hb5);replace ST:=q_ (ST.out.trans (Stp.of_below ST.out.src ST.out.below hb));replace B2:=q_ (blk_below B2.out hb);have R5:=q_ ho;clear hg_ hnew_ ho hb hb5 hl5))
 refine(pick_c ST.out.src ST.out.below _ c5 [1,2,2,3,3,3,4,5] (Kd.R_reads' R5.out).2.2 (Kd.R_reads' R5.out).2.1 (fun ad e _=>by injection e with e;subst e;show g5≠g;have:=G5.out;omega) (by decide)).mono ?_
 rintro e w4 ⟨x,rfl,hx,hS⟩;obtain⟨n,rfl,hn1,hn5⟩: ∃n:Nat,x=(n:Int)∧0 < n∧n≤5:=by
  simp only [List.mem_cons,List.not_mem_nil,or_false] at hx;exact⟨x.toNat,by omega,by omega,by omega⟩
 have HN1:=q_ hn1;have HN5:=q_ hn5;replace ST:=q_ (ST.out.trans hS);replace B2:=q_ (hS.keep.blk B2.out (by have:=G2.out;have:=HG.out;omega) (by simp));clear hx hn1 hn5 hS R5 G5
 go_wp2_with fail
 refine(drawOf_c ST.out.src ST.out.below n HN5.out HN1.out).mono ?_
 rintro e w5 ⟨v,rfl,hP⟩;obtain⟨⟨gm,c,b,cp,A,c1,Q,rfl,hQ,hPb⟩,hS⟩:=hP.is;have L4:=q_ (blk_lt B2.out);have W4:=q_ ST.out.keep.1;replace ST:=q_ (ST.out.trans hS);replace B2:=q_ (hS.keep.blk B2.out (by have:=G2.out;have:=HG.out;omega) (by simp));have HQ:=q_ hQ;have P:=q_ hPb;have x0:=cz_ B2 0;have x1:=cz_ B2 1;have f0:=blk_frozen B2.out 0;have f1:=blk_frozen B2.out 1;clear hP hQ hPb hS;go_wp2
 refine bodyPost_ret (results_cell_row rfl _ _ g2 34 #[.slice (some ⟨gm,0,none⟩) n c, .slice A n c1] (0,0) _ rfl (blk_put (blk_put B2.out 0 _ rfl) 1 _ rfl) Tryz.underlying34 rfl (by kernel_rfl)) rfl ?_
 have g2a:=G2.out;have hgg:=HG.out;exact⟨n,_,HN1.out,HN5.out,rfl,⟨gm,c,b,cp,A,c1,Q,rfl,HQ.out,((P.out.far L4.out 0 _).far L4.out 1 _).down W4.out⟩,(ST.out.set HE.out g2 0 _ g2a (by omega)).set HE.out g2 1 _ g2a (by omega)⟩
end Go.Proofs.YthmfdplckdijdaaGreat.Dr
end
section
namespace Go.Proofs.YthmfdplckdijdaaGreat.Dr
open Go.RowKit Go.Proofs.YthmfdplckdijdaaGreatW.PrintWords Go.Proofs.YthmfdplckdijdaaGreatW.PrintLast Go.Proofs.YthmfdplckdijdaaGreatW.PrintMore Go.Proofs.YthmfdplckdijdaaGreat.Ma Go.Proofs.YthmfdplckdijdaaGreat.Pr Go.Proofs.YthmfdplckdijdaaGreat.Lq
theorem PbOut.two {w0 wE w:World} {g lo n:Nat} {v:Value} (h:PbOut w0 wE g lo n v w): ∃(A1 A2:Option Addr) (a b a2 b2:Nat),v= .agg #[.slice A1 a b, .slice A2 a2 b2]:=by
 rcases h.1 with h1 | ⟨gm,c,b,cp,A,c1,Q,h1,h3⟩
 ·exact⟨_,_,_,_,_,_,h1⟩
 ·exact⟨_,_,_,_,_,_,h1⟩
theorem spoil_c {w0 w:World} {g:Nat} (h:Srm w0 w g) (hB:Below w0.heap.size w0 w):Calls Tryz.prog 45 #[.pointer (some ⟨g,0,none⟩)] w fun e w'=> ∃n v,0 < n∧n≤5∧e= .returned v∧PbOut w0 w g w.heap.size n v w':=by
 have ST:=q_ (Stp.refl h hB);have HG:=q_ h.lt;have HE:=q_ hB.size;clear h hB
 go_enter Tryz.func45,Tryz.ntmps45
 go_wp2_with (first | ((with_reducible refine gate_dst (N:=2) rfl ?_);refine be_ 2 #[.slice none 0 0, .slice none 0 0] 34 ?_;intro g2 hg w2 hbox hb;have G2:=q_ (show w.heap.size≤g2 by rw [hg];exact Nat.le_refl _);have B2:=q_ hbox;replace ST:=q_ (ST.out.trans (Stp.of_below ST.out.src ST.out.below hb));clear hg hbox hb))
 refine(draw_c ST.out.src ST.out.below).mono ?_
 rintro e w3 ⟨n,v,hn0,hn5,rfl,⟨gm,c,b,cp,A,c1,Q,rfl,hQ,hP⟩,hS⟩;have LO:=q_ (show g2 < w2.heap.size∧w.heap.size≤w2.heap.size from ⟨blk_lt B2.out,ST.out.keep.1⟩);have P:=q_ hP;have HQ:=q_ hQ;have HN:=q_ hn5;have HN0:=q_ hn0;have LW:=q_ hS.keep.1;have GD:=q_ ST.out.src.lt;replace B2:=q_ (hS.keep.blk B2.out (by have:=G2.out;have:=HG.out;omega) (by simp));replace ST:=q_ (ST.out.trans hS);clear hS hP hQ hn0 hn5
 go_wp2_with fail
 refine(bad_c ST.out.src ST.out.below P.out HQ.out HN.out HN0.out GD.out LW.out).mono ?_
 rintro e w4 ⟨v,rfl,hO⟩;obtain⟨pA,pB,pa,pb,pc,pd,rfl⟩:=hO.two;replace B2:=q_ (hO.2.keep.blk B2.out (by have:=G2.out;have:=HG.out;omega) (by simp));replace ST:=q_ (ST.out.trans hO.2);have PO:=q_ hO;have x0:=cz_ B2 0;have x1:=cz_ B2 1;have f0:=blk_frozen B2.out 0;have f1:=blk_frozen B2.out 1;clear hO P HQ;go_wp2
 refine bodyPost_ret (results_cell_row rfl _ _ g2 34 #[.slice pA pa pb, .slice pB pc pd] (0,0) _ rfl (blk_put (blk_put B2.out 0 _ rfl) 1 _ rfl) Tryz.underlying34 rfl (by kernel_rfl)) rfl ?_
 have g2a:=G2.out;have hgg:=HG.out;have lo:=LO.out.1;refine⟨n,_,HN0.out,HN.out,rfl,?_,(ST.out.set HE.out g2 0 _ g2a (by omega)).set HE.out g2 1 _ g2a (by omega)⟩
 rcases PO.out.1 with h1 | ⟨gm,c,b,cp,A,c1,Q,h1,h3⟩
 ·exact .inl h1
 ·exact .inr ⟨gm,c,b,cp,A,c1,Q,h1,((h3.far lo 0 _).far lo 1 _).down LO.out.2⟩
end Go.Proofs.YthmfdplckdijdaaGreat.Dr
end
section
namespace Go.Proofs.YthmfdplckdijdaaGreat.Dr
open Go.RowKit Go.Proofs.YthmfdplckdijdaaGreatW.PrintWords Go.Proofs.YthmfdplckdijdaaGreatW.PrintLast Go.Proofs.YthmfdplckdijdaaGreatW.PrintMore Go.Proofs.YthmfdplckdijdaaGreat.Ma Go.Proofs.YthmfdplckdijdaaGreat.Pr Go.Proofs.YthmfdplckdijdaaGreat.Lq
def Rd (w:World) (v:Value) (M:List (List Int)) (Q:List Int):Prop:= ∃A1 c1 A2 c2,v= .agg #[.slice A1 M.length c1, .slice A2 Q.length c2]∧Kd.C (Kd.slice 2 (Kd.int .i64)) w A1 M.length M∧M.length≤c1∧Kd.C (Kd.int .i64) w A2 Q.length Q∧Q.length≤c2
def PbD (lo n:Nat) (v:Value) (w:World):Prop:=v= .agg #[.slice none 0 0, .slice none 0 0]∨ ∃gm c b cp A c1 Q,v= .agg #[.slice (some ⟨gm,0,none⟩) n c, .slice A (List.length Q) c1]∧Dm w lo gm n c b cp∧Kd.R (Kd.int .i64) 2 w lo (fun k=>k≠gm∧ ∀j,j < n→k≠b j) (.slice A Q.length c1) Q∧n≤Q.length∧Q.length≤n+1
theorem PbOut.d {w0 wE w:World} {g lo n:Nat} {v:Value} (h:PbOut w0 wE g lo n v w):PbD lo n v w:=by
 rcases h.1 with h1 | ⟨gm,c,b,cp,A,c1,Q,h1,h3⟩
 ·exact .inl h1
 ·exact .inr ⟨gm,c,b,cp,A,c1,Q,h1,h3.dm,Kd.R_mono h3.rq (fun k hk=>hk.2),h3.ql⟩
theorem PbD.down {lo lo2 n:Nat} {v:Value} {w:World} (h:PbD lo n v w) (hl:lo2≤lo):PbD lo2 n v w:=by
 rcases h with h1 | ⟨gm,c,b,cp,A,c1,Q,h1,h2,h3,h4⟩
 ·exact .inl h1
 ·exact .inr ⟨gm,c,b,cp,A,c1,Q,h1,h2.down hl,Kd.R_lower h3 hl,h4⟩
theorem PbD.far {lo n:Nat} {v:Value} {w:World} (h:PbD lo n v w) {p:Nat} (hp:p < lo) (i:Nat) (u:Value):PbD lo n v (w.setCell ⟨p,i,none⟩ u):=by
 rcases h with h1 | ⟨gm,c,b,cp,A,c1,Q,h1,h2,h3,h4⟩
 ·exact .inl h1
 ·refine .inr ⟨gm,c,b,cp,A,c1,Q,h1,h2.set (by have:=h2.g0;omega) (fun j hj=>by have:=(h2.rr j hj).1;omega),?_,h4⟩
  exact Kd.R_mono (Kd.R_far (p:=⟨p,i,none⟩) (Kd.R_mono (Kd.R_tight rfl h3) (fun k hk=>(⟨Kd.R_base h3 k hk.symm,h3.1 k hk.symm⟩:lo≤k∧_))) (fun k hk=>by show k≠p;have:=hk.1;omega) u) (fun k hk=>hk.2)
theorem PbD.pair {lo n:Nat} {v:Value} {w:World} (h:PbD lo n v w): ∃(A1 A2:Option Addr) (a b a2 b2:Nat),v= .agg #[.slice A1 a b, .slice A2 a2 b2]:=by
 rcases h with h1 | ⟨gm,c,b,cp,A,c1,Q,h1,h3⟩
 ·exact⟨_,_,_,_,_,_,h1⟩
 ·exact⟨_,_,_,_,_,_,h1⟩
theorem PbD.rd {lo n:Nat} {v:Value} {w:World} (h:PbD lo n v w) (hn:n≤5): ∃M Q,Rd w v M Q∧M.length≤5∧Q.length≤6:=by
 rcases h with h1 | ⟨gm,c,b,cp,A,c1,Q,h1,h2,h3,h4⟩
 ·exact⟨[], [],⟨none,0,none,0,h1,Kd.C_nil _ _,Nat.le_refl _,Kd.C_nil _ _,Nat.le_refl _⟩,by simp,by simp⟩
 ·obtain⟨M,m1,m2,m3⟩:=h2.C (by omega)
  obtain⟨q1,q2,q3⟩:=Kd.R_reads' h3
  exact⟨M,Q,⟨_,c,A,c1,by rw [h1,m1],m3,by rw [m1];exact h2.cap,q3,q2⟩,by omega,by omega⟩
theorem PbOut.mv {w0 wE w w1:World} {g lo n:Nat} {v:Value} (h:PbOut w0 wE g lo n v w) (hS:Stp w0 w g w1) (hg:g < lo):PbOut w0 wE g lo n v w1:=by
 obtain⟨h1,h2⟩:=h
 rcases h1 with h1 | ⟨gm,c,b,cp,A,c1,Q,h1,h3⟩
 ·exact⟨.inl h1,h2.trans hS⟩
 ·exact⟨.inr ⟨gm,c,b,cp,A,c1,Q,h1,h3.mv hS hg⟩,h2.trans hS⟩
theorem Stp.drew {w0 w wE:World} {g:Nat} (h:Stp w0 wE g w):Stp w0 wE g w.drew:=h.trans (Stp.of_below h.src h.below (below_drew1 (Below.refl _ _)))
theorem Dm.below {w w':World} {lo gm n c:Nat} {b cp:Nat→Nat} (h:Dm w lo gm n c b cp) (hb:Below w.heap.size w w'):Dm w' lo gm n c b cp:=by
 have h0:=h.g0
 have hk:=KeepBut.of_below hb w.heap.size none
 refine⟨⟨h0.1,Nat.lt_of_lt_of_le h0.2 hk.1⟩,h.cap,fun j hj=>keep_cell hk (h.row j hj) (by show gm≠_;omega),fun j hj=>?_,fun j k hj hk'=>?_⟩
 ·have:=h.rr j hj
  exact⟨this.1,Nat.lt_of_lt_of_le this.2.1 hk.1,this.2.2⟩
 ·have hr:=h.rr j hj
  obtain⟨⟨x,hx⟩,hf⟩:=h.ints j k hj hk'
  exact⟨⟨x,keep_cell hk hx (by show b j≠_;omega)⟩,(keep_froz hk (by show b j < _;omega) (by show b j≠_;omega)).trans hf⟩
theorem PbD.below {lo n:Nat} {v:Value} {w w':World} (h:PbD lo n v w) (hb:Below w.heap.size w w'):PbD lo n v w':=by
 rcases h with h1 | ⟨gm,c,b,cp,A,c1,Q,h1,h2,h3,h4⟩
 ·exact .inl h1
 ·exact .inr ⟨gm,c,b,cp,A,c1,Q,h1,h2.below hb,Kd.R_below h3 hb,h4⟩
end Go.Proofs.YthmfdplckdijdaaGreat.Dr
end
section
namespace Go.Proofs.YthmfdplckdijdaaGreat.Dr
open Go.RowKit Go.Proofs.YthmfdplckdijdaaGreatW.PrintWords Go.Proofs.YthmfdplckdijdaaGreatW.PrintLast Go.Proofs.YthmfdplckdijdaaGreatW.PrintMore Go.Proofs.YthmfdplckdijdaaGreat.Ma Go.Proofs.YthmfdplckdijdaaGreat.Pr Go.Proofs.YthmfdplckdijdaaGreat.Lq
theorem PbOut.rdq {w0 wE w:World} {g lo n:Nat} {A1 A2:Option Addr} {a b a2 b2:Nat} (h:PbOut w0 wE g lo n (.agg #[.slice A1 a b, .slice A2 a2 b2]) w) (hn:n≤5): ∃M Q,Rd w (.agg #[.slice A1 a b, .slice A2 a2 b2]) M Q∧M.length≤5∧Q.length≤6∧(0 < Q.length→Kd.R (Kd.int .i64) 2 w lo (fun k=>k≠g∧k < w.heap.size) (.slice A2 a2 b2) Q):=by
 rcases h.1 with h1 | ⟨gm,c,bb,cp,A,c1,Q,h1,h3⟩
 ·exact⟨[], [],⟨none,0,none,0,h1,Kd.C_nil _ _,Nat.le_refl _,Kd.C_nil _ _,Nat.le_refl _⟩,by simp,by simp,fun h=>by simp at h⟩
 ·obtain⟨M,m1,m2,m3⟩:=h3.dm.C (by omega)
  obtain⟨q1,q2,q3⟩:=Kd.R_reads' h3.rq
  have hl:=h3.ql
  refine⟨M,Q,⟨_,c,A,c1,by rw [h1,m1],m3,by rw [m1];exact h3.dm.cap,q3,q2⟩,by omega,by omega,fun hp=>?_⟩
  simp only [Value.agg.injEq,Array.mk.injEq,List.cons.injEq,Value.slice.injEq,and_true] at h1
  obtain⟨_,rfl,rfl,rfl⟩:=h1
  obtain⟨g',cap,e,e1,e2,_⟩:=Kd.R_form h3.rq hp
  exact Kd.R_mono (Kd.R_tight2 rfl h3.rq) (fun k hk=>⟨hk.2.1,by
   have hk1:=hk.1
   rw [e] at hk1
   have hk3:some k=some g':=hk1
   injection hk3 with hk3
   omega⟩)
theorem PbOut.own {w0 wE w:World} {g lo n:Nat} {A1 A2:Option Addr} {a b a2 b2:Nat} (h:PbOut w0 wE g lo n (.agg #[.slice A1 a b, .slice A2 a2 b2]) w) (hn:0 < n): ∀k,(Value.slice A2 a2 b2).ownBlock=some k→k < w.heap.size:=by
 intro k hk
 rcases h.1 with h1 | ⟨gm,c,bb,cp,A,c1,Q,h1,h3⟩
 ·simp only [Value.agg.injEq,Array.mk.injEq,List.cons.injEq,Value.slice.injEq,and_true] at h1
  obtain⟨_,rfl,rfl,rfl⟩:=h1
  cases hk
 ·simp only [Value.agg.injEq,Array.mk.injEq,List.cons.injEq,Value.slice.injEq,and_true] at h1
  obtain⟨_,rfl,rfl,rfl⟩:=h1
  have hl:=h3.ql
  obtain⟨g',cap,e,e1,e2,_⟩:=Kd.R_form h3.rq (by omega)
  rw [e] at hk
  have hk3:some g'=some k:=hk
  injection hk3 with hk3
  omega
theorem dcp_c {w:World} {A0:Option Addr} {c0:Nat} {l0:List Int} (hr0:Kd.C (Kd.int .u8) w A0 l0.length l0) (hc0:l0.length≤c0) (hb: ∀i:Nat,0≤l0.getD i 0∧l0.getD i 0≤255) (hl:l0.length≤4096):Calls Tryz.prog 10 #[.slice A0 l0.length c0] w fun e w'=> ∃v M Q,e= .returned v∧Rd w' v M Q∧M.length≤5∧Q.length≤6∧Below w.heap.size w w':=by
 obtain⟨⟨rb,ra,rh⟩,⟨kk,hf⟩,hrb,hs⟩:=from_ex hb hl
 change rb=l0 at hrb
 subst hrb;have HF:=q_ (hf kk (Nat.le_refl _));have HS:=q_ hs;have HR:=q_ hr0;have HC:=q_ hc0;have HB:=q_ (Below.refl w.heap.size w);clear hf hs hr0 hc0 hb hl
 go_enter Tryz.func10,Tryz.ntmps10
 go_wp2_with (first | ((with_reducible refine gate_dst (N:=2) rfl ?_);refine be_ 2 #[.slice none 0 0, .slice none 0 0] 34 ?_;intro g2 hg w2 hbox hb;have G2:=q_ (show w.heap.size≤g2 by rw [hg];exact Nat.le_refl _);have B2:=q_ hbox;replace HB:=q_ (HB.out.trans hb);clear hg hbox hb))
 refine(spec_l01From.calls kk A0 c0 _ _ _ _ w _ HB.out HR.out HC.out HF.out).mono ?_
 rintro e w3 ⟨g,rfl,hi,hb,hb2⟩;have NE:=q_ (Ne.symm (IsS122.ne_blk hi (bb_ B2.out hb2) (by decide)));replace B2:=q_ (bb_ B2.out hb2);have SD:=q_ (Stp.refl (show Srm w w3 g from ⟨_,_,_,hi,HS.out⟩) hb);have GD:=q_ SD.out.src.lt;have ED:=q_ hb.size;have LO:=q_ (blk_lt B2.out);clear hi hb hb2 HB
 go_wp2_with fail
 refine(spoil_c SD.out.src SD.out.below).mono ?_
 rintro e w4 ⟨n,v,hn0,hn5,rfl,hP⟩;obtain⟨pA,pB,pa,pb,pc,pd,rfl⟩:=hP.two;replace B2:=q_ (hP.2.keep.blk B2.out NE.out (by simp));replace SD:=q_ hP.2;have PO:=q_ hP;have HN:=q_ hn5;have HN0:=q_ hn0;have L4:=q_ hP.2.keep.1;have HOW:=q_ (hP.own hn0);clear hP hn0 hn5
 go_wp2_with (first | ((with_reducible refine gate_dst (N:=4) rfl ?_);refine be_ 4 #[.slice none 0 0, .slice none 0 0] 34 ?_;intro g4 hg w5 hbox hb;have B4:=q_ hbox;have G4:=q_ (show w4.heap.size≤g4 by rw [hg];exact Nat.le_refl _);have HB5:=q_ hb;have hx0:=cz_ B4 0;have hx1:=cz_ B4 1;have fx0:=blk_frozen hbox 0;have fx1:=blk_frozen hbox 1;clear hg hbox hb) | ((with_reducible refine gate_store (t:=34) (p:=4) rfl ?_);refine store_event (t:=34) (p:=4) (v:=?vo4) (w1:=(w5.setCell ⟨g4,0,none⟩ (.slice pA pa pb)).setCell ⟨g4,1,none⟩ (.slice pB pc pd)) ?hg ?ho ?hn ?hr ?_;(case ho=>rfl);(case hg=>rfl);(case hn=>rfl);(case hr=>first | (go_simp;done) | (go_simp;rfl));intro w6 hw;have hs_:Stp w w4 g w6:=Stp.of_below SD.out.src SD.out.below (by rw [hw];exact below_set (below_set HB5.out G4.out) G4.out);replace B2:=q_ (hs_.keep.blk B2.out NE.out (by simp));replace B4:=q_ (show w6.heap[g4]?=some (.cells #[.slice pA pa pb, .slice pB pc pd] 34 (0,0)) by rw [hw];exact blk_put (blk_put B4.out 0 _ rfl) 1 _ rfl);replace PO:=q_ (PO.out.mv hs_ GD.out);replace SD:=q_ (SD.out.trans hs_);have HS46:=q_ hs_;have B46:=B4;clear hs_ hw hx0 hx1 fx0 fx1 HB5;have hx0:=cz_ B4 0;have hx1:=cz_ B4 1))
 have N4:=q_ (show g4≠g by have:=G4.out;have:=GD.out;have:=L4.out;omega);obtain⟨M,Q,⟨A1,c1,A2,c2,ev,hM,hMc,hQ,hQc⟩,hM5,hQ6,hR4⟩:=PbOut.rdq (w:=w6) ⟨PO.out.1,PO.out.2⟩ HN.out;simp only [Value.agg.injEq,Array.mk.injEq,List.cons.injEq,Value.slice.injEq,and_true] at ev;obtain⟨⟨rfl,rfl,rfl⟩,rfl,rfl,rfl⟩:=ev;obtain⟨kk,t,hkk,ht⟩: ∃kk t,spec_l01Is.f kk M Q=some t∧(t=true↔Pb.POK M Q):=by
  classical
  obtain⟨kk,h⟩:=Pb.spec_is M Q (by omega) (decide (Pb.POK M Q)) (by simp);exact⟨kk,_,h kk (Nat.le_refl _),by simp⟩
 have HKK:=q_ hkk;have HT:=q_ ht;have HMM:=q_ hM;have HQQ:=q_ hQ;have HMC:=q_ hMc;have HQC:=q_ hQc;have HM5:=q_ hM5;have HR4:=q_ hR4;clear hkk hM hQ hMc hQc hM5 hQ6 hR4 ht;refine(spec_l01Is.calls kk pA pb M pB pd Q t w6 HMM.out HMC.out HQQ.out HQC.out HKK.out).mono ?_
 rintro e w7 ⟨rfl,hb⟩;have hS:=Stp.of_below SD.out.src SD.out.below (by first | exact hb | exact Al.drawn_below hb);replace PO:=q_ (PO.out.mv hS GD.out);replace B2:=q_ (hS.keep.blk B2.out NE.out (by simp));replace B4:=q_ (hS.keep.blk B4.out N4.out (by simp));replace SD:=q_ (SD.out.trans hS);have HR7:=q_ (fun h=>Kd.R_keep (HR4.out h) hS.keep (fun k hk=>hk.1));have L67:=q_ hS.keep.1;clear hb hS HR4 HMM HQQ hx0 hx1;cases t with
 | false=>
  have PD:=q_ PO.out.d;have x0:=cz_ B2 0;have x1:=cz_ B2 1;have f0:=blk_frozen B2.out 0;have f1:=blk_frozen B2.out 1;have hx0:=cz_ B4 0;have hx1:=cz_ B4 1;have fx0:=blk_frozen B4.out 0;have fx1:=blk_frozen B4.out 1;go_wp2
  refine bodyPost_ret (results_cell_row rfl _ _ g2 34 #[.slice pA M.length pb, .slice pB Q.length pd] (0,0) _ rfl (blk_put (blk_put B2.out 0 _ rfl) 1 _ rfl) Tryz.underlying34 rfl (by kernel_rfl)) rfl ?_
  have lo:=LO.out;have g2a:=G2.out;obtain⟨M',Q',m1,m2,m3⟩:=((PD.out.far lo 0 (.slice pA M.length pb)).far lo 1 (.slice pB Q.length pd)).rd HN.out;exact⟨_,M',Q',rfl,m1,m2,m3,below_set (below_set SD.out.below g2a) g2a⟩
 | true=>
  have hp:=HT.out.1 rfl;have HP:=q_ hp;clear hp;have hx0:=cz_ B4 0;have hx1:=cz_ B4 1
  go_wp2_with fail
  refine(next_c SD.out.src SD.out.below 3).mono ?_
  rintro e w8 ⟨x,rfl,hx,hS⟩;have HX:=q_ (hx (by decide));replace PO:=q_ (PO.out.mv hS GD.out);replace B2:=q_ (hS.keep.blk B2.out NE.out (by simp));replace B4:=q_ (hS.keep.blk B4.out N4.out (by simp));replace SD:=q_ (SD.out.trans hS);have HR8:=q_ (fun h=>Kd.R_keep (HR7.out h) hS.keep (fun k hk=>hk.1));have L78:=q_ hS.keep.1;clear hS hx HR7 hx0 hx1
  by_cases hx3:x > 0
  ·have hxd:decide (x > 0)=true:=decide_eq_true hx3;clear hx3;have x0:=cz_ B2 0;have x1:=cz_ B2 1;have f0:=blk_frozen B2.out 0;have f1:=blk_frozen B2.out 1;have hx0:=cz_ B4 0;have hx1:=cz_ B4 1;have fx0:=blk_frozen B4.out 0;have fx1:=blk_frozen B4.out 1;have hQL:Q.length=M.length:=HP.out.len;have HQL:=q_ hQL;clear hQL
   go_wp2_with fail
   refine(drawP_c SD.out.src SD.out.below Q.length (by rw [HQL.out];exact HM5.out) (by rw [HQL.out];exact HP.out.mat.n1)).mono ?_
   rintro e w9 ⟨gm2,c2,b2,cp2,rfl,hD,hS⟩;replace B2:=q_ (hS.keep.blk B2.out NE.out (by simp));replace B4:=q_ (hS.keep.blk B4.out N4.out (by simp));replace SD:=q_ (SD.out.trans hS);have HR9:=q_ (Kd.R_keep (HR8.out (by rw [HQL.out];exact HP.out.mat.n1)) hS.keep (fun k hk=>hk.1));have HD:=q_ hD;have N24:=q_ (show g2≠g4 by have:=G4.out;have:=LO.out;have:=L4.out;omega);have L48:=q_ (show w3.heap.size≤w8.heap.size∧g4 < w8.heap.size by have:=HS46.out.keep.1;have:=L67.out;have:=L78.out;have:=L4.out;have:=blk_lt B46.out;omega);clear hD hS HR8 PO x0 x1 f0 f1 hx0 hx1 fx0 fx1;have x0:=cz_ B2 0;have x1:=cz_ B2 1;have f0:=blk_frozen B2.out 0;have f1:=blk_frozen B2.out 1;have hx0:=cz_ B4 0;have hx1:=cz_ B4 1;have fx0:=blk_frozen B4.out 0;have fx1:=blk_frozen B4.out 1;have n24:=N24.out;have n42:g4≠g2:=fun e=>n24 e.symm
   go_wp2
   have B2':(w9.setCell ⟨g4,0,none⟩ (.slice (some ⟨gm2,0,none⟩) Q.length c2)).heap[g2]?=_:=(Below.heap_setCell w9 ⟨g4,0,none⟩ _ g2 (by have:=N24.out;simpa using this)).trans B2.out;refine bodyPost_ret (results_cell_row rfl _ _ g2 34 #[.slice (some ⟨gm2,0,none⟩) Q.length c2, .slice pB Q.length pd] (0,0) _ rfl (blk_put (blk_put B2' 0 _ rfl) 1 _ rfl) Tryz.underlying34 rfl (by kernel_rfl)) rfl ?_
   have lo:=LO.out;have g2a:=G2.out;have l48:=L48.out;have g4a:=G4.out;have l4:=L4.out;have hQ0:0 < Q.length:=by rw [HQL.out];exact HP.out.mat.n1
   have g0:=HD.out.g0;have r1:=Kd.R_mono (ok':=fun k=>k < w4.heap.size) (Kd.R_tight2 rfl HR9.out) (fun k hk=>HOW.out k hk.1.symm);have r2:=Kd.R_far r1 (p:=⟨g4,0,none⟩) (fun k hk=>by show k≠g4;have:k < w4.heap.size:=hk;omega) (.slice (some ⟨gm2,0,none⟩) Q.length c2);have PD:PbD w3.heap.size Q.length (.agg #[.slice (some ⟨gm2,0,none⟩) Q.length c2, .slice pB Q.length pd]) (w9.setCell ⟨g4,0,none⟩ (.slice (some ⟨gm2,0,none⟩) Q.length c2)):= .inr ⟨gm2,c2,b2,cp2,pB,pd,Q,rfl,(HD.out.set (by omega) (fun j hj=>by have:=(HD.out.rr j hj).1;omega)).down (by omega),Kd.R_mono r2 (fun k hk=>⟨by have:k < w4.heap.size:=hk;omega,fun j hj=>by have:=(HD.out.rr j hj).1;have:k < w4.heap.size:=hk;omega⟩),Nat.le_refl _,by omega⟩;obtain⟨M',Q',m1,m2,m3⟩:=((PD.far lo 0 (.slice (some ⟨gm2,0,none⟩) Q.length c2)).far lo 1 (.slice pB Q.length pd)).rd (by rw [HQL.out];exact HM5.out);exact⟨_,M',Q',rfl,m1,m2,m3,below_set (below_set (below_set SD.out.below (by omega)) g2a) g2a⟩
  ·have hxd:decide (x > 0)=false:=decide_eq_false hx3;clear hx3;have PD:=q_ PO.out.d;have x0:=cz_ B2 0;have x1:=cz_ B2 1;have f0:=blk_frozen B2.out 0;have f1:=blk_frozen B2.out 1;have hx0:=cz_ B4 0;have hx1:=cz_ B4 1;have fx0:=blk_frozen B4.out 0;have fx1:=blk_frozen B4.out 1;go_wp2
   refine bodyPost_ret (results_cell_row rfl _ _ g2 34 #[.slice pA M.length pb, .slice pB Q.length pd] (0,0) _ rfl (blk_put (blk_put B2.out 0 _ rfl) 1 _ rfl) Tryz.underlying34 rfl (by kernel_rfl)) rfl ?_
   have lo:=LO.out;have g2a:=G2.out;obtain⟨M',Q',m1,m2,m3⟩:=((PD.out.far lo 0 (.slice pA M.length pb)).far lo 1 (.slice pB Q.length pd)).rd HN.out;exact⟨_,M',Q',rfl,m1,m2,m3,below_set (below_set SD.out.below g2a) g2a⟩
end Go.Proofs.YthmfdplckdijdaaGreat.Dr
end
section
namespace Go.Proofs.YthmfdplckdijdaaGreat.Pr
open Go.RowKit Go.Proofs.YthmfdplckdijdaaGreatW.PrintWords Go.Proofs.YthmfdplckdijdaaGreatW.PrintLast Go.Proofs.YthmfdplckdijdaaGreatW.PrintMore Go.Proofs.YthmfdplckdijdaaGreat.Al Go.Proofs.YthmfdplckdijdaaGreat.Dr Go.Proofs.YthmfdplckdijdaaGreat.Ma
theorem laws_FnCubeWalks.walk {A0:Option Addr} {c0:Nat} {l0:List Int} {w:World} (HR0:Aside0 (Kd.C (Kd.int .u8) w A0 l0.length l0)) (HC0:Aside0 (l0.length≤c0)) (HBY:Aside0 (∀i:Nat,0≤l0.getD i 0∧l0.getD i 0≤255)) (HLN:Aside0 (l0.length≤4096)):
  Calls Tryz.prog 3 #[.slice A0 l0.length c0] w fun e w'=>e= .returned (.bool true)∧Below w.heap.size w w':=by
 have HB:=q_ (Below.refl w.heap.size w);have AL:=q_ (Al.nil w);obtain⟨kw,d1,l1,v1,ru,wl,wc_,f1,f2,f3,f4,f5⟩:=Pc.all_walks HBY.out HLN.out;have F1:=q_ f1;have F2:=q_ f2;have F3:=q_ f3;have F4:=q_ f4;have HW:=q_ f5;clear f1 f2 f3 f4 f5;obtain⟨kn,an,nn,cn,f1,f2,f3,f4,f5⟩:=Pc.all_count HBY.out HLN.out;have N1:=q_ f1;have N2:=q_ f2;have N3:=q_ f3;have N4:=q_ f4;have N5:=q_ f5;clear f1 f2 f3 f4 f5
 go_enter Tryz.func3,Tryz.ntmps3
 go_wp2_with fail
 refine(laws_big.calls A0 c0 l0 false _ (Kd.C_below HR0.out HB.out) HC0.out (by unfold laws_big.f;rw [decide_eq_false (show ¬ (l0.length:Int) > 4096 by have:=HLN.out;omega)])).mono ?_
 rintro e w1 ⟨rfl,hd⟩;have hb:=Al.drawn_below hd;replace AL:=q_ (AL.out.mv hb);replace HB:=q_ (below_step HB.out hb);clear hb hd
 go_wp2_with fail
 refine(spec_DrawWalkByRule.calls kw A0 c0 l0 d1 l1 v1 ru _ (Kd.C_below HR0.out HB.out) HC0.out F1.out).mono ?_
 rintro e w2 ⟨v1,rfl,ho,hb⟩;replace AL:=q_ (AL.out.mv hb);replace HB:=q_ (below_step HB.out hb);obtain⟨A1,c1,rfl⟩:=Kd.R_slice ho;have C1:=q_ (Kd.R_reads' ho).2.1;replace AL:=q_ (AL.out.addC (Kd.R_reads' ho).2.2);clear hb ho
 go_wp2_with (first | ((with_reducible refine gate_dst (N:=3) rfl ?_);refine be_ 3 #[.int .i64 0, .slice none 0 0] 26 ?_;intro g3 hg w3 hbox hb;have Bx:=q_ hbox;have HBx:=q_ hb;have Gx:Aside0 (w2.heap.size≤g3):=⟨by rw [hg];exact Nat.le_refl _⟩;have hx0:=cz_ Bx 0;have hx1:=cz_ Bx 1;have hfx0:=blk_frozen hbox 0;have hfx1:=blk_frozen hbox 1;clear hb hbox hg) | ((with_reducible refine gate_store (t:=26) (p:=3) rfl ?_);refine store_event (t:=26) (p:=3) (v:=?vo3) (w1:=(w3.setCell ⟨g3,0,none⟩ (.int .i64 d1)).setCell ⟨g3,1,none⟩ (.slice A1 l1.length c1)) ?hg ?ho ?hn ?hr ?_;(case ho=>rfl);(case hg=>rfl);(case hn=>rfl);(case hr=>first | (go_simp;done) | (go_simp;rfl));intro w4 hw;have nb:=q_ (show w4.heap[g3]?=some (.cells #[.int .i64 d1, .slice A1 l1.length c1] 26 (0,0)) from (by rw [hw];exact blk_put (blk_put Bx.out 0 _ rfl) 1 _ rfl));have hb:Below w2.heap.size w2 w4:=(by rw [hw];exact(HBx.out.setCell Gx.out _).setCell Gx.out _);replace AL:=q_ ((AL.out.mv hb).addB nb.out);replace HB:=q_ (below_step HB.out hb);clear hw hb nb hx0 hx1 hfx0 hfx1 Bx HBx Gx;have hz3_0:=cz_ (q_ (AL.out.now.1)) 0;have hz3_1:=cz_ (q_ (AL.out.now.1)) 1))
 refine(impl_WalkByRule.calls kw d1 _ _ l1 v1 ru wl wc_ _ (AL.out.now.2.1) C1.out F2.out).mono ?_
 rintro e w5 ⟨v6,rfl,ho,hb⟩;clear hz3_0 hz3_1;replace AL:=q_ (AL.out.mv hb);replace HB:=q_ (below_step HB.out hb);obtain⟨A6,c6,rfl⟩:=Kd.R_slice ho;have C6:=q_ (Kd.R_reads' ho).2.1;replace AL:=q_ (AL.out.addC (Kd.R_reads' ho).2.2);clear hb ho;have hz3_0:=cz_ (q_ (AL.out.now.2.1)) 0;have hz3_1:=cz_ (q_ (AL.out.now.2.1)) 1
 go_wp2_with fail
 refine(spec_WalkByRule.calls kw d1 _ _ l1 v1 ru wl wc_ _ (AL.out.now.2.2.1) C1.out F3.out).mono ?_
 rintro e w6 ⟨v8,rfl,ho,hb⟩;clear hz3_0 hz3_1;replace AL:=q_ (AL.out.mv hb);replace HB:=q_ (below_step HB.out hb);obtain⟨A8,c8,rfl⟩:=Kd.R_slice ho;have C8:=q_ (Kd.R_reads' ho).2.1;replace AL:=q_ (AL.out.addC (Kd.R_reads' ho).2.2);clear hb ho
 go_wp2_with fail
 refine(laws_likeInts.calls kw _ _ wl _ _ wl true _ (AL.out.now.2.1) C6.out (AL.out.now.1) C8.out F4.out).mono ?_
 rintro e w7 ⟨rfl,hd⟩;have hb:=Al.drawn_below hd;replace AL:=q_ (AL.out.mv hb);replace HB:=q_ (below_step HB.out hb);clear hb hd
 go_wp2_with fail
 refine(dcp_c (Kd.C_below HR0.out HB.out) HC0.out HBY.out HLN.out).mono ?_
 rintro e w8 ⟨_,M,Q,rfl,⟨Am,cm,Aq,cq,rfl,hM,hMc,hQ,hQc⟩,hM5,hQ6,hb⟩;replace AL:=q_ (AL.out.mv hb);replace HB:=q_ (below_step HB.out hb);replace AL:=q_ ((AL.out.addC hM).addC hQ);obtain⟨kc,dc,lc,cc,f1,f2,f3,f4,f5⟩:=Pc.all_cube M Q (by omega);have G1:=q_ f1;have G2:=q_ f2;have G3:=q_ f3;have G4:=q_ f4;have G5:=q_ f5;have CM:=q_ hMc;have CQ:=q_ hQc;clear f1 f2 f3 f4 f5 hM hMc hQ hQc hM5 hQ6 hb
 go_wp2_with (first | ((with_reducible refine gate_dst (N:=10) rfl ?_);refine be_ 10 #[.slice none 0 0, .slice none 0 0] 34 ?_;intro g10 hg w9 hbox hb;have Bx:=q_ hbox;have HBx:=q_ hb;have Gx:Aside0 (w8.heap.size≤g10):=⟨by rw [hg];exact Nat.le_refl _⟩;have hx0:=cz_ Bx 0;have hx1:=cz_ Bx 1;have hfx0:=blk_frozen hbox 0;have hfx1:=blk_frozen hbox 1;clear hb hbox hg) | ((with_reducible refine gate_store (t:=34) (p:=10) rfl ?_);refine store_event (t:=34) (p:=10) (v:=?vo10) (w1:=(w9.setCell ⟨g10,0,none⟩ (.slice Am M.length cm)).setCell ⟨g10,1,none⟩ (.slice Aq Q.length cq)) ?hg ?ho ?hn ?hr ?_;(case ho=>rfl);(case hg=>rfl);(case hn=>rfl);(case hr=>first | (go_simp;done) | (go_simp;rfl));intro w10 hw;have nb:=q_ (show w10.heap[g10]?=some (.cells #[.slice Am M.length cm, .slice Aq Q.length cq] 34 (0,0)) from (by rw [hw];exact blk_put (blk_put Bx.out 0 _ rfl) 1 _ rfl));have hb:Below w8.heap.size w8 w10:=(by rw [hw];exact(HBx.out.setCell Gx.out _).setCell Gx.out _);replace AL:=q_ ((AL.out.mv hb).addB nb.out);replace HB:=q_ (below_step HB.out hb);clear hw hb nb hx0 hx1 hfx0 hfx1 Bx HBx Gx;have hz10_0:=cz_ (q_ (AL.out.now.1)) 0;have hz10_1:=cz_ (q_ (AL.out.now.1)) 1))
 refine(impl_CubeOfProblem.calls kc _ _ M _ _ Q dc lc cc _ (AL.out.now.2.2.1) CM.out (AL.out.now.2.1) CQ.out G2.out).mono ?_
 rintro e w11 ⟨v11,rfl,ho,hb⟩;clear hz10_0 hz10_1;replace AL:=q_ (AL.out.mv hb);replace HB:=q_ (below_step HB.out hb);obtain⟨A11,c11,rfl⟩:=Kd.R_slice ho;have C11:=q_ (Kd.R_reads' ho).2.1;replace AL:=q_ (AL.out.addC (Kd.R_reads' ho).2.2);clear hb ho
 go_wp2_with (first | ((with_reducible refine gate_dst (N:=11) rfl ?_);refine be_ 11 #[.int .i64 0, .slice none 0 0] 26 ?_;intro g11 hg w12 hbox hb;have Bx:=q_ hbox;have HBx:=q_ hb;have Gx:Aside0 (w11.heap.size≤g11):=⟨by rw [hg];exact Nat.le_refl _⟩;have hx0:=cz_ Bx 0;have hx1:=cz_ Bx 1;have hfx0:=blk_frozen hbox 0;have hfx1:=blk_frozen hbox 1;clear hb hbox hg) | ((with_reducible refine gate_store (t:=26) (p:=11) rfl ?_);refine store_event (t:=26) (p:=11) (v:=?vo11) (w1:=(w12.setCell ⟨g11,0,none⟩ (.int .i64 dc)).setCell ⟨g11,1,none⟩ (.slice A11 lc.length c11)) ?hg ?ho ?hn ?hr ?_;(case ho=>rfl);(case hg=>rfl);(case hn=>rfl);(case hr=>first | (go_simp;done) | (go_simp;rfl));intro w13 hw;have nb:=q_ (show w13.heap[g11]?=some (.cells #[.int .i64 dc, .slice A11 lc.length c11] 26 (0,0)) from (by rw [hw];exact blk_put (blk_put Bx.out 0 _ rfl) 1 _ rfl));have hb:Below w11.heap.size w11 w13:=(by rw [hw];exact(HBx.out.setCell Gx.out _).setCell Gx.out _);replace AL:=q_ ((AL.out.mv hb).addB nb.out);replace HB:=q_ (below_step HB.out hb);clear hw hb nb hx0 hx1 hfx0 hfx1 Bx HBx Gx;have hz10_0:=cz_ (q_ (AL.out.now.2.2.1)) 0;have hz10_1:=cz_ (q_ (AL.out.now.2.2.1)) 1))
 refine(spec_CubeOfProblem.calls kc _ _ M _ _ Q dc lc cc _ (AL.out.now.2.2.2.2.1) CM.out (AL.out.now.2.2.2.1) CQ.out G1.out).mono ?_
 rintro e w14 ⟨v13,rfl,ho,hb⟩;clear hz10_0 hz10_1;replace AL:=q_ (AL.out.mv hb);replace HB:=q_ (below_step HB.out hb);obtain⟨A13,c13,rfl⟩:=Kd.R_slice ho;have C13:=q_ (Kd.R_reads' ho).2.1;replace AL:=q_ (AL.out.addC (Kd.R_reads' ho).2.2);clear hb ho
 go_wp2_with (first | ((with_reducible refine gate_dst (N:=13) rfl ?_);refine be_ 13 #[.int .i64 0, .slice none 0 0] 26 ?_;intro g13 hg w15 hbox hb;have Bx:=q_ hbox;have HBx:=q_ hb;have Gx:Aside0 (w14.heap.size≤g13):=⟨by rw [hg];exact Nat.le_refl _⟩;have hx0:=cz_ Bx 0;have hx1:=cz_ Bx 1;have hfx0:=blk_frozen hbox 0;have hfx1:=blk_frozen hbox 1;clear hb hbox hg) | ((with_reducible refine gate_store (t:=26) (p:=13) rfl ?_);refine store_event (t:=26) (p:=13) (v:=?vo13) (w1:=(w15.setCell ⟨g13,0,none⟩ (.int .i64 dc)).setCell ⟨g13,1,none⟩ (.slice A13 lc.length c13)) ?hg ?ho ?hn ?hr ?_;(case ho=>rfl);(case hg=>rfl);(case hn=>rfl);(case hr=>first | (go_simp;done) | (go_simp;rfl));intro w16 hw;have nb:=q_ (show w16.heap[g13]?=some (.cells #[.int .i64 dc, .slice A13 lc.length c13] 26 (0,0)) from (by rw [hw];exact blk_put (blk_put Bx.out 0 _ rfl) 1 _ rfl));have hb:Below w14.heap.size w14 w16:=(by rw [hw];exact(HBx.out.setCell Gx.out _).setCell Gx.out _);replace AL:=q_ ((AL.out.mv hb).addB nb.out);replace HB:=q_ (below_step HB.out hb);clear hw hb nb hx0 hx1 hfx0 hfx1 Bx HBx Gx;have hz11_0:=cz_ (q_ (AL.out.now.2.2.1)) 0;have hz11_1:=cz_ (q_ (AL.out.now.2.2.1)) 1;have hz13_0:=cz_ (q_ (AL.out.now.1)) 0;have hz13_1:=cz_ (q_ (AL.out.now.1)) 1))
 refine(laws_cube9.calls kc dc _ _ lc dc _ _ lc true _ (AL.out.now.2.2.2.1) C11.out (AL.out.now.2.1) C13.out G3.out).mono ?_
 rintro e w17 ⟨rfl,hb⟩;clear hz11_0 hz11_1 hz13_0 hz13_1;replace AL:=q_ (AL.out.mv hb);replace HB:=q_ (below_step HB.out hb);clear hb
 go_wp2_with fail
 refine(spec_DrawCountUniqueSinks.calls kn A0 c0 l0 an _ (Kd.C_below HR0.out HB.out) HC0.out N1.out).mono ?_
 rintro e w18 ⟨rfl,hb⟩;replace AL:=q_ (AL.out.mv hb);replace HB:=q_ (below_step HB.out hb);clear hb
 go_wp2_with fail
 refine(impl_CountUniqueSinks.calls an nn cn _ N2.out).mono ?_
 rintro e w19 ⟨rfl,hb⟩;replace AL:=q_ (AL.out.mv hb);replace HB:=q_ (below_step HB.out hb);clear hb
 go_wp2_with fail
 refine(spec_CountUniqueSinks.calls kn an nn cn _ N3.out).mono ?_
 rintro e w20 ⟨rfl,hb⟩;replace AL:=q_ (AL.out.mv hb);replace HB:=q_ (below_step HB.out hb);clear hb
 by_cases cz:cn=0
 ·subst cz;have hr:=N4.out rfl;have hn0:=N5.out.1;have ht:Int.tmod nn 2=0:=by rw [Int.tmod_eq_emod_of_nonneg hn0];exact hr
  go_upto_if 109 with (fail)
  go_cut [2] from 103 to 109 (fun v2 wc=>Aside0 (Al (fun W_=>(W_.heap[g11]?=some (.cells #[.int .i64 dc, .slice A11 lc.length c11] 26 (0,0)))∧(Kd.C (Kd.int .i64) W_ A11 lc.length lc)∧(W_.heap[g10]?=some (.cells #[.slice Am M.length cm, .slice Aq Q.length cq] 34 (0,0)))∧(Kd.C (Kd.int .i64) W_ Aq Q.length Q)∧(Kd.C (Kd.slice 2 (Kd.int .i64)) W_ Am M.length M)∧(Kd.C (Kd.int .i64) W_ A6 wl.length wl)∧(W_.heap[g3]?=some (.cells #[.int .i64 d1, .slice A1 l1.length c1] 26 (0,0)))∧(Kd.C (Kd.int .i64) W_ A1 l1.length l1)∧True) wc)∧Aside0 (Below w.heap.size w wc))
  case first=>go_wp2;go_meet;case rel=>exact⟨⟨⟨fun w2 h2=>⟨(AL.out.all w2 h2).2.2.1,(AL.out.all w2 h2).2.2.2.1,(AL.out.all w2 h2).2.2.2.2.1,(AL.out.all w2 h2).2.2.2.2.2.1,(AL.out.all w2 h2).2.2.2.2.2.2.1,(AL.out.all w2 h2).2.2.2.2.2.2.2.2.1,(AL.out.all w2 h2).2.2.2.2.2.2.2.2.2.1,(AL.out.all w2 h2).2.2.2.2.2.2.2.2.2.2.1,trivial⟩⟩⟩,HB⟩
  case rest=>clear AL HB;obtain⟨AL,HB⟩:=hcut;rename_i hk;exact hk _ _ (laws_FnCubeWalks.after109_walk HW CM CQ C11 G5 AL HB)
 ·have cz1:(cn==0)=false:=by simpa using cz
  go_upto_if 109 with (fail)
  go_cut [2] from 103 to 109 (fun v2 wc=>Aside0 (Al (fun W_=>(W_.heap[g11]?=some (.cells #[.int .i64 dc, .slice A11 lc.length c11] 26 (0,0)))∧(Kd.C (Kd.int .i64) W_ A11 lc.length lc)∧(W_.heap[g10]?=some (.cells #[.slice Am M.length cm, .slice Aq Q.length cq] 34 (0,0)))∧(Kd.C (Kd.int .i64) W_ Aq Q.length Q)∧(Kd.C (Kd.slice 2 (Kd.int .i64)) W_ Am M.length M)∧(Kd.C (Kd.int .i64) W_ A6 wl.length wl)∧(W_.heap[g3]?=some (.cells #[.int .i64 d1, .slice A1 l1.length c1] 26 (0,0)))∧(Kd.C (Kd.int .i64) W_ A1 l1.length l1)∧True) wc)∧Aside0 (Below w.heap.size w wc))
  case first=>go_wp2;go_meet;case rel=>exact⟨⟨⟨fun w2 h2=>⟨(AL.out.all w2 h2).2.2.1,(AL.out.all w2 h2).2.2.2.1,(AL.out.all w2 h2).2.2.2.2.1,(AL.out.all w2 h2).2.2.2.2.2.1,(AL.out.all w2 h2).2.2.2.2.2.2.1,(AL.out.all w2 h2).2.2.2.2.2.2.2.2.1,(AL.out.all w2 h2).2.2.2.2.2.2.2.2.2.1,(AL.out.all w2 h2).2.2.2.2.2.2.2.2.2.2.1,trivial⟩⟩⟩,HB⟩
  case rest=>clear AL HB;obtain⟨AL,HB⟩:=hcut;rename_i hk;exact hk _ _ (laws_FnCubeWalks.after109_walk HW CM CQ C11 G5 AL HB)
theorem laws_FnCubeWalks.small (A0:Option Addr) (c0:Nat) (l0:List Int) (w:World) (hr0:Kd.C (Kd.int .u8) w A0 l0.length l0) (hc0:l0.length≤c0) (h0:(l0.length:Int) > 4096):
  Calls Tryz.prog 3 #[.slice A0 l0.length c0] w fun e w'=>e= .returned (.bool true)∧Below w.heap.size w w':=by
 have HR0:=q_ hr0;have HC0:=q_ hc0;have H0:=q_ h0;clear hr0 hc0 h0
 go_enter Tryz.func3,Tryz.ntmps3
 go_wp2_with fail
 refine(laws_big.calls A0 c0 l0 true _ HR0.out HC0.out (by unfold laws_big.f;rw [decide_eq_true H0.out])).mono ?_
 rintro e w2 ⟨rfl,hd⟩;have hb:=q_ (Al.drawn_below hd);clear hd;go_wp2
 go_ret
 exact⟨rfl,hb.out⟩
open Classical in
noncomputable def laws_FnCubeWalks.f (k:Nat) (l0:List Int):Option Bool:=if(l0.length:Int) > 4096∨(∀i:Nat,0≤l0.getD i 0∧l0.getD i 0≤255) then some true else none
theorem laws_FnCubeWalks.calls (k:Nat) (A0:Option Addr) (c0:Nat) (l0:List Int) (r:Bool) (w:World) (hr0:Kd.C (Kd.int .u8) w A0 l0.length l0) (hc0:l0.length≤c0) (h:laws_FnCubeWalks.f k l0=some r):
  Calls Tryz.prog 3 #[.slice A0 l0.length c0] w fun e w'=>e= .returned (.bool r)∧Below w.heap.size w w':=by
 unfold laws_FnCubeWalks.f at h
 split at h
 case isFalse=>cases h
 rename_i hok
 cases h
 by_cases h1:(l0.length:Int) > 4096
 ·exact laws_FnCubeWalks.small A0 c0 l0 w hr0 hc0 h1
 ·exact laws_FnCubeWalks.walk ⟨hr0⟩ ⟨hc0⟩ ⟨hok.resolve_left h1⟩ ⟨by omega⟩
end Go.Proofs.YthmfdplckdijdaaGreat.Pr
end
section
namespace Go.Proofs.YthmfdplckdijdaaGreatW.PrintWords
open Go.ChangeShapes Go.WideShapes
end Go.Proofs.YthmfdplckdijdaaGreatW.PrintWords
end
section
namespace Go.Proofs.YthmfdplckdijdaaGreat.Op
open Go.ChangeShapes Go.WideShapes Go.ChangeAt Go.RowKit Go.Deep Go.Joins Go.Proofs.YthmfdplckdijdaaGreatW.PrintWords
def Opens (P:Program) (t:TypeId) {α:Type} (d:Kd α) (G:α→Prop):Prop:=
 ∀(H:Type) (enc:TypeId × Value→H) (w:World) (base:Nat) (held:Bool) (fuel:Nat) (cs:List Value) (x:DataW H × List MemPlace),
  DataW.trod enc P w base (fun _=>true) held fuel t cs=some x→ ∃a,d.K w a cs∧G a
def GoodInt (k:IntKind) (n:Int):Prop:=(Lit.int k n).wf=true
def GoodList {α:Type} (G:α→Prop) (l:List α):Prop:=l.length≤maxLen∧ ∀x ∈ l,G x
theorem opens_int {P:Program} {t:TypeId} {k:IntKind} (ht:P.underlying t=some (.int k)):Opens P t (Kd.int k) (GoodInt k):=by
 intro H enc w base held fuel cs x h
 obtain⟨n,rfl,_,hw⟩:=DataW.trod_int ht h
 exact⟨n,rfl,hw⟩
theorem opens_slice {P:Program} {t e:TypeId} {α:Type} [Inhabited α] {d:Kd α} {G:α→Prop} (ht:P.underlying t=some (.slice e)) (hc:P.cellsOf e=d.sz) (he:Opens P e d G):
  Opens P t (Kd.slice e d) (GoodList G):=by
 intro H enc w base held fuel cs x h
 rcases open_slice ht h with ⟨rfl,_⟩ | ⟨a,len,cap,m,n,D,Pl,rfl,hb,hl,hm,hmm,_,hx⟩
 ·exact⟨[],⟨none,0,rfl,Nat.le_refl _,⟨rfl,Nat.zero_le _,fun hn=>absurd hn (Nat.lt_irrefl 0)⟩⟩,⟨Nat.zero_le _,fun x hx=>by cases hx⟩⟩
 ·simp only [if_true] at hmm
  subst hmm
  have each: ∀i,i < m→ ∃y:α,(∃c,c.length=d.sz∧d.K w y c∧ ∀j u,c[j]?=some u→w.cell? (a.add (i*d.sz+j))=some u)∧G y:=by
   intro i hi
   obtain⟨cs',h1,h2⟩:=hx i hi
   obtain⟨_,hlen,hcell⟩:=World.cells?_some h1
   obtain⟨y,hy,hg⟩:=he H enc w base held n cs' _ h2
   rw [hc] at hlen hcell
   refine⟨y,⟨cs',hlen,hy,fun j u hu=>?_⟩,hg⟩
   have hj:j < d.sz:=by rw [← hlen];exact(List.getElem?_eq_some_iff.1 hu).1
   rw [← hu, ← hcell j hj]
   congr 1
   unfold Addr.add
   by_cases h1:i*d.sz=0 <;> by_cases h2:j=0 <;> simp [h1,h2,Nat.add_assoc]
  obtain⟨Y,hY⟩:=choose_lt each
  have hmax:m≤9223372036854775807:=by unfold maxLen at hm;omega
  refine⟨(List.range len).map Y,⟨some a,m,by simp,by simpa using hl,?_⟩,by simp;omega,?_⟩
  ·refine⟨rfl,by simp;omega,fun _=>⟨a,rfl,fun j p hj=>?_⟩⟩
   have hjl:j < len:=by have:=(List.getElem?_eq_some_iff.1 hj).1;simpa using this
   have hp:p=Y j:=by
    rw [List.getElem?_map,List.getElem?_range hjl] at hj
    simpa using hj.symm
   subst hp
   exact(hY j (by omega)).1
  ·intro y hy
   obtain⟨j,hj,rfl⟩:=List.mem_map.1 hy
   exact(hY j (by have:=List.mem_range.1 hj;omega)).2
section
variable {P:Program} {W:World} {H:Type} {enc:TypeId × Value→H} {base:Nat} {held:Bool} {t:TypeId} {v:Value} {dd:DataW H} {ps:List MemPlace} {r:Reach} {b0:Nat}
theorem arg_slice {e:TypeId} {α:Type} [Inhabited α] {d:Kd α} {G:α→Prop} (ht:P.underlying t=some (.slice e)) (hc:P.cellsOf e=d.sz) (he:Opens P e d G) (hv:Value.okWide P W r b0 t v) (h:DataW.Trod enc P W base (fun _=>true) held t v dd ps):
  ∃A c l,v= .slice A l.length c∧l.length≤c∧d.C W A l.length l∧GoodList G l:=by
 obtain⟨A,len,cap,rfl⟩:=okWide_slice ht hv
 obtain⟨fuel,hf⟩:=h
 obtain⟨l,⟨A',c',hcs,hl,hr⟩,hg⟩:=opens_slice ht hc he H enc W base held fuel _ _ hf
 simp [Value.cells] at hcs
 obtain⟨rfl,rfl,rfl⟩:=hcs
 exact⟨_,_,l,rfl,hl,hr,hg⟩
theorem trod_blocks (h:DataW.Trod enc P W base (fun _=>true) held t v dd ps): ∀x ∈ ps,x.block < W.heap.size:=by
 obtain⟨m,hm⟩:=h
 exact DataW.trod_lt m _ _ _ hm
end
end Go.Proofs.YthmfdplckdijdaaGreat.Op
end
section
namespace Go.Proofs.YthmfdplckdijdaaGreat.Say
open Go.Proofs.YthmfdplckdijdaaGreat.Op Go.Proofs.YthmfdplckdijdaaGreat.Pr
def FnCubeWalks:Prop:= ∀(l0:List Int),GoodList (GoodInt .u8) l0→ ∃k,laws_FnCubeWalks.f k l0=some true
end Go.Proofs.YthmfdplckdijdaaGreat.Say
end
section
namespace Go.Proofs.YthmfdplckdijdaaGreat.Pure
open Go.RowKit Go.Proofs.YthmfdplckdijdaaGreatW.PrintWords Go.Proofs.YthmfdplckdijdaaGreatW.PrintMore Go.Proofs.YthmfdplckdijdaaGreat.Pr Go.Proofs.YthmfdplckdijdaaGreat.Op
theorem bytes_of {l:List Int} (h:GoodList (GoodInt .u8) l): ∀i:Nat,0≤l.getD i 0∧l.getD i 0≤255:=fun i=>by
 by_cases c:i < l.length
 ·have hm:=h.2 l[i] (List.getElem_mem c)
  replace hm:(decide (IntKind.u8.min≤l[i]) && decide (l[i]≤IntKind.u8.max))=true:=hm
  have h2:IntKind.u8.min=0∧IntKind.u8.max=255:=by decide
  rw [h2.1,h2.2,Bool.and_eq_true,decide_eq_true_eq,decide_eq_true_eq] at hm
  rw [List.getD_eq_getElem?_getD,List.getElem?_eq_getElem c]
  exact hm
 ·rw [List.getD_eq_getElem?_getD,List.getElem?_eq_none (by omega)]
  exact⟨by decide,by decide⟩
theorem FnCubeWalks:Say.FnCubeWalks:=fun l0 hg=>⟨0,by
 classical
 unfold laws_FnCubeWalks.f
 rw [if_pos (.inr (bytes_of hg))]⟩
end Go.Proofs.YthmfdplckdijdaaGreat.Pure
end
section
namespace Go.Proofs.YthmfdplckdijdaaGreat.fnCubeWalks
open Go.ChangeShapes Go.WideShapes Go.ChangeAt Go.RowKit Go.Proofs.YthmfdplckdijdaaGreat.Op Go.Proofs.YthmfdplckdijdaaGreatW.PrintWords
theorem own:ownKnob Tryz.prog.godebug=none:=by kernel_rfl
theorem laidOut:laidOutB Tryz.prog=true:=by kernel_rfl
theorem lifted (os:Os) (started:os.Started) (H:Type) (enc:TypeId × Value→H):
  ReturnsInHanded {} Tryz.checked os 3 .any (Rows.fnCubeWalksSpec.pre6 enc Tryz.prog Tryz.f3 Rows.fnCubeWalksRow.domain false) (Rows.fnCubeWalksSpec.post enc Tryz.prog Tryz.f3 false true false false):=by
 refine returnsInHanded_of_change_sized (C:=Tryz.checked) own started (by kernel_rfl) Tryz.func3
  (ChangeSpec.witness6 (enc:=enc) (C:=Tryz.checked) false ⟨#[], #[.slice none 0 0], []⟩ 8 (by kernel_rfl) (by kernel_rfl) (by kernel_rfl) (by kernel_rfl)) ?_
 intro W base args ds gs before hval0 hW hcnd hsz0 _
 have hval: ∀(j:Nat) t v,Tryz.f3.params[j]?=some t→args[j]?=some v→Value.okWide Tryz.prog W .any base t v:=hval0
 have hW':=hW
 obtain⟨p,q,hA0,hV,rfl,hfz,hnd⟩:=hW
 have hA:DataW.TrodAll enc Tryz.prog W 0 (fun _=>true) true Tryz.f3.params.toList args.toList ds p:=hA0
 rw [Tryz.params3] at hA hval
 obtain⟨v0,vs0,d0,ds0,p0,q0,hargs,rfl,rfl,h0,r0⟩:=trodAll_cons hA
 obtain⟨rfl,rfl,rfl⟩:=trodAll_nil r0
 obtain rfl:args= #[v0]:=by cases args;simp_all
 obtain⟨rfl,rfl⟩:=trodVars_none hV
 have k0:=h0
 have lt0:=trod_blocks k0
 obtain⟨A0,c0,l0,rfl,q0_0,r0_0,g0⟩:=arg_slice (d:=(Kd.int .u8)) Tryz.underlying22 (by kernel_rfl) (opens_int Tryz.underlying5) (hval 0 22 v0 rfl rfl) h0
 obtain⟨k,h⟩:=Pure.FnCubeWalks l0 g0
 clear hA0 hval0 hsz0
 refine(Pr.laws_FnCubeWalks.calls k A0 c0 l0 true W r0_0 q0_0 h).mono ?_
 rintro e W' ⟨rfl,bel0⟩
 have bel:Below W.heap.size W W':=by first | exact bel0 | exact bel0.below
 exact⟨_,rfl,_,_,_, [],_, [],hW',trodAll_mk1 (shut_bool Tryz.underlying4 _),(trodAll_cons_mk (Below.trod laidOut (by kernel_rfl) (of_decide_eq_true (by kernel_rfl)) k0 bel lt0) trodAll_mk0),rfl,bel.frame _,fun h=>by cases h⟩
theorem over:Rows.fnCubeWalksRow.holds Tryz.pinned (OpenSpec.ofChange Rows.fnCubeWalksSpec):=
 OpenClaim.holds_of_wide 3 Tryz.f3 rfl rfl rfl rfl rfl rfl rfl ⟨rfl,rfl,rfl,rfl,rfl⟩ rfl rfl rfl rfl rfl (by kernel_rfl) Tryz.func3 (by kernel_rfl)
  (of_decide_eq_true (by kernel_rfl)) (by unfold Func.isWrapper;first | (rw [if_pos (by decide+kernel)];kernel_rfl) | (rw [if_neg (by decide+kernel)];exact⟨rfl,rfl⟩))
  (fun os started H enc _=>lifted os started H enc)
theorem proved:Rows.FnCubeWalksSaid:=over
#print axioms proved
end Go.Proofs.YthmfdplckdijdaaGreat.fnCubeWalks
namespace Go.Proofs.YthmfdplckdijdaaGreat
theorem fnCubeWalks_holds:Rows.FnCubeWalksSaid:=fnCubeWalks.proved
end Go.Proofs.YthmfdplckdijdaaGreat
end
