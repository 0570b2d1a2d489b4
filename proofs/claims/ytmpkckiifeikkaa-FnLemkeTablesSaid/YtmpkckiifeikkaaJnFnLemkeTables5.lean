/- Texts of one claim (the words of the kit's print that the claim uses, printed functions, and this session's own texts), joined in the order of their imports by this session's own program (merge.py). -/
import Derived.Test.YtmpkckiifeikkaaRows
import Derived.WalkKit
import Derived.ProofKit
import Derived.OpenShut
import Derived.ShutString
import Derived.ChangeOld
import Derived.Below
import Derived.SizedLaws
import Derived.Test.YtmpkckiifeikkaaJnFnLemkeTables0
import Derived.Test.YtmpkckiifeikkaaJnFnLemkeTables1
import Derived.Test.YtmpkckiifeikkaaJnFnLemkeTables3
import Derived.Test.YtmpkckiifeikkaaJnFnLemkeTables4
set_option linter.unusedVariables false
set_option linter.unusedSimpArgs false
set_option maxHeartbeats 8000000
set_option maxRecDepth 100000
section
namespace Go.Proofs.Ytmpkckiifeikkaa.Lq
open Go.RowKit Go.Proofs.YtmpkckiifeikkaaW.PrintWords Go.Proofs.YtmpkckiifeikkaaW.PrintLast Go.Proofs.YtmpkckiifeikkaaW.PrintMore Go.Proofs.Ytmpkckiifeikkaa.Pr Go.Proofs.Ytmpkckiifeikkaa.Ma Go.Proofs.Ytmpkckiifeikkaa.Dt Go.Proofs.Ytmpkckiifeikkaa.Lk Go.Proofs.Ytmpkckiifeikkaa.Lt
theorem Tm.CB {w:World} {lo hi t g gb n m cg cb:Nat} {b cp:Nat→Nat} {s:TS} (h:Tm w lo hi t g gb n m cg cb b cp s) (hn:n≤1099511627776):Kd.C (Kd.int .i64) w (some ⟨gb,0,none⟩) s.bs.length s.bs:=by
 have hl:=h.len
 refine⟨rfl,by omega,fun _=>⟨_,rfl,fun c p hp=>?_⟩⟩
 obtain⟨hc,hp⟩:=List.getElem?_eq_some_iff.1 hp
 have hpe:p=s.bs.getD c 0:=by rw [List.getD_eq_getElem?_getD,List.getElem?_eq_getElem hc, ← hp];rfl
 subst hpe
 refine⟨[.int .i64 (s.bs.getD c 0)],rfl,rfl,fun u v hv=>?_⟩
 have hu:u=0:=by cases u with
  | zero=>rfl
  | succ u=>simp at hv
 subst hu
 have hv:Value.int .i64 (s.bs.getD c 0)=v:=by simpa using hv
 rw [← hv]
 have e:(⟨gb,0,none⟩:Addr).add (c*(Kd.int .i64).sz+0)=⟨gb,c,none⟩:=by
  show (⟨gb,0,none⟩:Addr).add (c*1+0)=_
  rw [Nat.mul_one,Nat.add_zero,add_off];try rw [Nat.zero_add]
 rw [e];exact(h.oq c (by omega)).1
end Go.Proofs.Ytmpkckiifeikkaa.Lq
namespace Go.Proofs.Ytmpkckiifeikkaa.Pr
open Go.RowKit Go.Proofs.YtmpkckiifeikkaaW.PrintWords Go.Proofs.YtmpkckiifeikkaaW.PrintLast Go.Proofs.YtmpkckiifeikkaaW.PrintMore Go.Proofs.Ytmpkckiifeikkaa.Ma Go.Proofs.Ytmpkckiifeikkaa.Dt Go.Proofs.Ytmpkckiifeikkaa.Lk Go.Proofs.Ytmpkckiifeikkaa.Lt Go.Proofs.Ytmpkckiifeikkaa.Lq
def caF (k:Nat) (s:TS) (n:Nat) (c:Int):Option (Int × Int × Int):=if c=0 then((slices_Index_int_int.f k s.bs (2*(n:Int))).bind fun i=>if i < 0 then some (0,1,0) else if i < (n:Int) then impl_reduced.f k (s.T i.toNat (2*n+1)) s.den else none) else some (0,0,c)
def impl_CoverAfter.f (k:Nat) (ae:List (List Int)) (aa l1:List Int) (a2:Int):Option (Int × Int × Int):=caF k (lkR ae aa l1 a2.toNat).1 aa.length (afC ae aa l1 a2)
theorem impl_CoverAfter.mono: ∀a0 a1 a2 a3 k,LeO (impl_CoverAfter.f k a0 a1 a2 a3) (impl_CoverAfter.f (k+1) a0 a1 a2 a3):=by
 intro a0 a1 a2 a3 k
 unfold impl_CoverAfter.f caF
 exact LeO.ite (LeO.bind (slices_Index_int_int.mono _ _ _) (fun i=>LeO.ite (LeO.refl _) (LeO.ite (impl_reduced.mono _ _ _) (LeO.refl _)))) (LeO.refl _)
theorem impl_CoverAfter.calls (k:Nat) (af:Option Addr) (ag:Nat) (ae:List (List Int)) (ah:Option Addr) (ai:Nat) (aa:List Int) (A1:Option Addr) (c1:Nat) (l1:List Int) (a2:Int) (r1:Int) (r2:Int) (r3:Int) (w:World) (aj:Kd.C (Kd.slice 2 (Kd.int .i64)) w af ae.length ae) (ak:ae.length≤ag) (aq:Kd.C (Kd.int .i64) w ah aa.length aa) (au:aa.length≤ai) (hr1:Kd.C (Kd.int .i64) w A1 l1.length l1) (hc1:l1.length≤c1) (h:impl_CoverAfter.f k ae aa l1 a2=some (r1,r2,r3)):
  Calls Try.prog 77 #[.agg #[.slice af ae.length ag, .slice ah aa.length ai], .slice A1 l1.length c1, .int .i64 a2] w fun e w'=>e= .returned (.tuple #[.agg #[.int .i64 r1, .int .i64 r2], .int .i64 r3])∧Below w.heap.size w w':=by
 unfold impl_CoverAfter.f at h
 have HB:=q_ (Below.refl w.heap.size w)
 have hcall:=fun W (hb:Below w.heap.size w W)=>after_calls af ag ae ah ai aa A1 c1 l1 a2 W (Kd.C_below aj hb) ak (Kd.C_below aq hb) au (Kd.C_below hr1 hb) hc1
 have HL:=q_ hcall
 clear hcall aj ak aq au hr1 hc1
 have hle:afC ae aa l1 a2=0→aa.length≤5∧0 < aa.length:=fun h0=>⟨(lkCode_pc (afC_lk h0).1).le,(lkCode_pc (afC_lk h0).1).pos⟩
 obtain⟨s,hs⟩: ∃s,(lkR ae aa l1 a2.toNat).1=s:=⟨_,rfl⟩
 rw [hs] at h HL
 clear hs
 obtain⟨c,hc⟩: ∃c,afC ae aa l1 a2=c:=⟨_,rfl⟩
 rw [hc] at h HL hle
 clear hc
 have HLE:=q_ hle
 clear hle
 generalize ae.length=m0 at HL ⊢
 obtain⟨n,hn⟩: ∃n,aa.length=n:=⟨_,rfl⟩
 rw [hn] at HL HLE h ⊢
 clear hn
 have H:=q_ h
 clear h
 generalize l1.length=m2 at HL ⊢
 go_enter Try.func77,Try.ntmps77
 go_wp2_with (first | ((with_reducible refine gate_dst (N:=3) rfl ?_);refine box_event ?hg (N:=3) ?hd (cs:= #[.slice af m0 ag, .slice ah n ai]) (t:=30) ?hr ?_;(case hd=>rfl);(case hg=>rfl);(case hr=>first | (go_simp;done) | (go_simp;rfl));intro g3 hg w2 hbox hb;replace HB:=q_ (below_step HB.out hb);have B3:=q_ hbox;clear hb hbox hg) | ((with_reducible refine gate_dst (N:=6) rfl ?_);refine box_event ?hg (N:=6) ?hd (cs:= #[.int .i64 0, .int .i64 0]) (t:=93) ?hr ?_;(case hd=>rfl);(case hg=>rfl);(case hr=>first | (go_simp;done) | (go_simp;rfl));intro g6 hg w2b hbox hb;have HG6:Aside0 (w.heap.size≤g6):=⟨by rw [hg];exact HB.out.size⟩;have HG6b:Aside0 (g6 < w2b.heap.size):=⟨blk_lt hbox⟩;replace HB:=q_ (below_step HB.out hb);replace B3:=q_ (blk_below B3.out hb);have B6:=q_ hbox;have hz0:=cz_ B3 0;have hz1:=cz_ B3 1;clear hb hbox hg))
 refine(HL.out w2b HB.out).mono ?_
 rintro e w3 ⟨hor,hb⟩
 have HBS:=q_ HB.out.size
 replace HB:=q_ (below_step HB.out hb)
 replace B6:=q_ (blk_below B6.out hb)
 clear hb hz0 hz1 HL B3
 rcases hor with ⟨hc,rfl⟩ | ⟨rfl,lo,hi,t,rfl,hlo,hT⟩
 ·have hcb:(c==0)=false:=by simpa using hc
  have e:=H.out
  unfold caF at e
  rw [if_neg hc] at e
  injection e with e
  injection e with e1 e
  injection e with e2 e3
  subst e1 e2 e3
  clear H
  have hq0:=cz_ B6 0
  have hq1:=cz_ B6 1
  have hf0:=blk_frozen B6.out 0
  have hf1:=blk_frozen B6.out 1
  go_wp2
  refine bodyPost_ret (results_ct rfl _ _ g6 93 #[.int .i64 0, .int .i64 0] (0,0) _ rfl (blk_put (blk_put B6.out 0 (.int .i64 0) rfl) 1 (.int .i64 0) rfl) Try.underlying93 rfl (by kernel_rfl)) rfl ?_
  exact⟨rfl,(HB.out.setCell HG6.out _).setCell HG6.out _⟩
 ·have e:=H.out
  unfold caF at e
  rw [if_pos rfl] at e
  obtain⟨ix,hix,e⟩:=Option.bind_eq_some_iff.mp e
  have HIX:=q_ hix
  have HE:=q_ e
  clear H e hix
  obtain⟨g,gb,cg,cb,b,cp,hT⟩:=hT
  have HN:=q_ (HLE.out rfl)
  have HNG:Aside0 (g6 < lo):=⟨Nat.lt_of_lt_of_le HG6b.out hlo⟩
  have hT':=hT.mv (Out.drew w3 0 0) (.inr (Nat.zero_le _))
  have HT:=q_ hT'
  have hq2:=hT'.h2
  have hq3:=hT'.h3
  have hw2:wrap64 (2*(n:Int))=2*(n:Int):=by have:=HN.out.1;exact w64 (by omega) (by omega)
  have HW2:=q_ hw2
  have hl:=hT'.len
  have HLN:=q_ hl
  clear hT hT' hlo hl HLE
  go_wp2
  replace HB:=q_ (below_step HB.out (below_drew (Below.refl w3.heap.size w3)))
  replace B6:=q_ (blk_below B6.out (below_drew (Below.refl w3.heap.size w3)))
  refine st_ (n:=11) (S:=fun w'=>w'.cell? ⟨t,2,none⟩=some (.slice (some ⟨gb,0,none⟩) n cb)∧w'.cell? ⟨t,3,none⟩=some (.int .i64 n)) (ds:= []) ⟨hq2,hq3⟩ (fun hHeld=>?_)
  generalize w3.drew=w4 at HB HT B6 hHeld ⊢
  clear hq2 hq3
  refine pu_ 0 22 ?_;refine pu_ 1 23 ?_;refine pu_ 2 24 ?_;refine tk_ 3 25 ?_;refine pu_ 4 26 ?_;refine pu_ 5 27 ?_;refine pu_ 6 28 ?_;refine tk_ 7 29 ?_;refine pu_ 8 30 ?_
  refine on_ 9 (some 31) (fun K hK=>?_)
  refine ca_ Try.func148 #[.slice (some ⟨gb,0,none⟩) n cb, .int .i64 (wrap64 (2*(n:Int)))] ?_
  have hix:=slices_Index_int_int.calls k (some ⟨gb,0,none⟩) cb s.bs (wrap64 (2*(n:Int))) ix w4 (HT.out.CB (by have:=HN.out.1;omega)) (by rw [HLN.out];exact HT.out.nc.2) (by rw [HW2.out];exact HIX.out)
  rw [HLN.out] at hix
  refine hix.mono ?_
  clear hix
  rintro e w5 ⟨rfl,hd⟩
  have hb:Below w4.heap.size w4 w5:=by
   obtain⟨nd,rfl⟩:=hd
   exact pw_below_drewN (Below.refl _ _) nd
  clear hd
  refine⟨_,rfl,?_⟩
  replace HB:=q_ (below_step HB.out hb)
  replace B6:=q_ (blk_below B6.out hb)
  replace HT:=q_ (HT.out.mvB hb)
  clear hb hHeld
  refine hK.out _ _ ⟨HT.out.h2,HT.out.h3⟩ (fun hHeld=>?_)
  clear hK K
  refine no_ ?_
  refine pu_ 10 10 ?_
  refine done_ (by kernel_rfl) ?_
  clear hHeld hw2
  by_cases hneg:ix < 0
  ·have e:=HE.out
   rw [if_pos hneg] at e
   injection e with e
   injection e with e1 e
   injection e with e2 e3
   subst e1 e2 e3
   clear HE HIX
   have hq0:=cz_ B6 0
   have hq1:=cz_ B6 1
   have hf0:=blk_frozen B6.out 0
   have hf1:=blk_frozen B6.out 1
   go_wp2
   refine bodyPost_ret (results_ct rfl _ _ g6 93 #[.int .i64 0, .int .i64 1] (0,0) _ rfl (blk_put (blk_put B6.out 0 (.int .i64 0) rfl) 1 (.int .i64 1) rfl) Try.underlying93 rfl (by kernel_rfl)) rfl ?_
   exact⟨rfl,(HB.out.setCell HG6.out _).setCell HG6.out _⟩
  ·have e:=HE.out
   rw [if_neg hneg] at e
   by_cases hin:ix < (n:Int)
   ·rw [if_pos hin] at e
    have HRD:=q_ e
    obtain⟨j,rfl⟩:=Int.eq_ofNat_of_zero_le (show 0≤ix by omega)
    have HJ:Aside0 (j < n):=⟨by omega⟩
    clear e HE HIX hin
    have hd1:=(HT.out.mv (Out.drew w5 0 0) (.inr (Nat.zero_le _))).h1.1
    have HT2:=q_ (HT.out.mv (Out.drew w5 0 0) (.inr (Nat.zero_le _)))
    go_wp2
    replace HB:=q_ (below_step HB.out (below_drew (Below.refl w5.heap.size w5)))
    replace B6:=q_ (blk_below B6.out (below_drew (Below.refl w5.heap.size w5)))
    refine st_ (n:=12) (S:=fun w'=>w'.cell? ⟨t,1,none⟩=some (.int .i64 s.den)) (ds:= []) hd1 (fun hHeld=>?_)
    generalize w5.drew=w6 at HB HT2 B6 hHeld ⊢
    clear hd1 HT
    refine pu_ 0 35 ?_;refine pu_ 1 36 ?_;refine pu_ 3 38 ?_;refine pu_ 4 39 ?_;refine pu_ 5 40 ?_;refine tk_ 6 41 ?_
    refine on_ 2 (some 37) (fun K hK=>?_)
    refine ca_ Try.func89 #[.pointer (some ⟨t,0,none⟩), .int .i64 (j:Int)] ?_
    refine(right_calls HT2.out j HJ.out (by omega) (by have:=HN.out.1;omega)).mono ?_
    rintro e w7 ⟨rfl,hb⟩
    refine⟨_,rfl,?_⟩
    replace HB:=q_ (below_step HB.out hb)
    replace B6:=q_ (blk_below B6.out hb)
    replace HT2:=q_ (HT2.out.mvB hb)
    clear hb hHeld
    refine hK.out _ _ HT2.out.h1.1 (fun hHeld=>?_)
    clear hK K
    refine no_ ?_
    refine on_ 7 (some 42) (fun K hK=>?_)
    refine ca_ Try.func149 #[.int .i64 (s.T j (2*n+2 - 1)), .int .i64 s.den] ?_
    refine(impl_reduced.calls k (s.T j (2*n+2 - 1)) s.den r1 r2 r3 w7 (by have h:=HRD.out;rw [Int.toNat_natCast] at h;rw [show 2*n+2 - 1=2*n+1 from by omega];exact h)).mono ?_
    rintro e w8 ⟨rfl,hb⟩
    refine⟨_,rfl,?_⟩
    replace HB:=q_ (below_step HB.out hb)
    replace B6:=q_ (blk_below B6.out hb)
    replace HT2:=q_ (HT2.out.mvB hb)
    clear hb hHeld HRD
    refine hK.out _ _ HT2.out.h1.1 (fun hHeld=>?_)
    clear hK K
    refine no_ ?_
    refine pu_ 8 43 ?_;refine pu_ 9 44 ?_
    have hq0:=cz_ B6 0
    have hq1:=cz_ B6 1
    have hf0:=blk_frozen B6.out 0
    have hf1:=blk_frozen B6.out 1
    refine on_ 10 none (fun K hK=>?_)
    refine skip_ (w1:=?_) (by rfl) rfl ?_ ?_
    rotate_left
    ·go_simp
     rfl
    have hne:t≠g6:=by have h1:=HT2.out.tR;have h2:=HNG.out;omega
    refine hK.out _ _ ((cell_far (p:=⟨g6,1,none⟩) hne _).trans ((cell_far (p:=⟨g6,0,none⟩) hne _).trans HT2.out.h1.1)) (fun hHeld=>?_)
    clear hK K hq0 hq1 hf0 hf1
    refine pu_ 11 7 ?_
    refine done_ (by kernel_rfl) ?_
    go_wp2
    refine bodyPost_ret (results_ct rfl _ _ g6 93 #[.int .i64 r1, .int .i64 r2] (0,0) _ rfl (blk_put (blk_put B6.out 0 (.int .i64 r1) rfl) 1 (.int .i64 r2) rfl) Try.underlying93 rfl (by kernel_rfl)) rfl ?_
    exact⟨rfl,(HB.out.setCell HG6.out _).setCell HG6.out _⟩
   ·rw [if_neg hin] at e
    cases e
end Go.Proofs.Ytmpkckiifeikkaa.Pr
end
section
namespace Go.Proofs.Ytmpkckiifeikkaa.Pr
open Go.RowKit Go.Proofs.YtmpkckiifeikkaaW.PrintWords Go.Proofs.YtmpkckiifeikkaaW.PrintLast Go.Proofs.YtmpkckiifeikkaaW.PrintMore
attribute [local go_sem] max2_int min2_int max_two min_two max_three min_three max_four min_four
def spec_CoverAfter.l0:Nat→Int→List (List Int)→List Int→List (List Int)→Int→List Int→Option (Int × Int × Int)
 | 0,_,_,_,_,_,_=>none
 | k+1,x10,aj,af,aa,ag,ae=>if x10 < (ae.length:Int) then(if 0≤x10 then(if(rd ae x10)=(wrap64 (2*(af.length:Int))) then(if x10 < (aa.length:Int) then(if 0≤(wrap64 (((rd_L1 aa x10).length:Int) - 1)) then(if(wrap64 (((rd_L1 aa x10).length:Int) - 1)) < ((rd_L1 aa x10).length:Int) then((spec_l01Frac.f k (rd (rd_L1 aa x10) (wrap64 (((rd_L1 aa x10).length:Int) - 1))) ag).bind fun ai=>((spec_l01Told.f k ai.1 ai.2).bind fun ah=>(some (ah.1,ah.2.1,ah.2.2)))) else(none)) else(none)) else(none)) else(spec_CoverAfter.l0 k (wrap64 (x10+1)) aj af aa ag ae)) else(none)) else(some (0,1,0))
def spec_CoverAfter.f (k:Nat) (ae:List (List Int)) (af:List Int) (l1:List Int) (a2:Int):Option (Int × Int × Int):=(spec_l05After.f k ae af l1 a2).bind fun aa=>(if aa.2.2.2=0 then(spec_CoverAfter.l0 k 0 ae af aa.1 aa.2.1 aa.2.2.1) else(some (0,0,aa.2.2.2)))
theorem spec_CoverAfter.mono_l: ∀k,(∀y0 y1 y2 y3 y4 y5,LeO (spec_CoverAfter.l0 k y0 y1 y2 y3 y4 y5) (spec_CoverAfter.l0 (k+1) y0 y1 y2 y3 y4 y5))
 | 0=>fun _ _ _ _ _ _ r h=>by simp [spec_CoverAfter.l0] at h
 | k+1=>by
  have ih0:=spec_CoverAfter.mono_l k
  ·intro y0 y1 y2 y3 y4 y5
   unfold spec_CoverAfter.l0
   repeat' first
   | (with_reducible exact ih0 _ _ _ _ _ _)
   | (with_reducible exact spec_l01Frac.mono _ _ _)
   | (with_reducible exact spec_l01Told.mono _ _ _)
   | (with_reducible exact spec_l05After.mono _ _ _ _ _)
   | (with_reducible exact LeO.refl _)
   | (with_reducible exact LeO.none _)
   | (with_reducible refine LeO.ite ?_ ?_)
   | (with_reducible refine LeO.bind ?_ (fun _=>?_))
   | exact ih0 _ _ _ _ _ _
   | exact spec_l01Frac.mono _ _ _
   | exact spec_l01Told.mono _ _ _
   | exact spec_l05After.mono _ _ _ _ _
   | exact LeO.none _
   | refine LeO.ite ?_ ?_
   | refine LeO.bind ?_ (fun _=>?_)
theorem spec_CoverAfter.mono: ∀a0 a1 a2 a3 k,LeO (spec_CoverAfter.f k a0 a1 a2 a3) (spec_CoverAfter.f (k+1) a0 a1 a2 a3):=by
 intro a0 a1 a2 a3 k
 have ih0:=spec_CoverAfter.mono_l k
 unfold spec_CoverAfter.f
 repeat' first
   | (with_reducible exact ih0 _ _ _ _ _ _)
   | (with_reducible exact spec_l01Frac.mono _ _ _)
   | (with_reducible exact spec_l01Told.mono _ _ _)
   | (with_reducible exact spec_l05After.mono _ _ _ _ _)
   | (with_reducible exact LeO.refl _)
   | (with_reducible exact LeO.none _)
   | (with_reducible refine LeO.ite ?_ ?_)
   | (with_reducible refine LeO.bind ?_ (fun _=>?_))
   | exact ih0 _ _ _ _ _ _
   | exact spec_l01Frac.mono _ _ _
   | exact spec_l01Told.mono _ _ _
   | exact spec_l05After.mono _ _ _ _ _
   | exact LeO.none _
   | refine LeO.ite ?_ ?_
   | refine LeO.bind ?_ (fun _=>?_)
def spec_CoverAfter.T7:Bool × List (List Nat × List Nat):=(true, [([], []),([0], [0]),([], []),([1,2], [1,2]),([3], [3]),([], []),([5], [5]),([6], [6]),([7], [7]),([4,8], [4,8])])
def spec_CoverAfter.B7:List Nat:= [0,1,0,7,15,0,32,96,224,511]
theorem spec_CoverAfter.tab7:rtab .any (opsOf Try.f82 7)=spec_CoverAfter.T7:=by kernel_rfl
theorem spec_CoverAfter.bits7:waitsOk spec_CoverAfter.T7.2 spec_CoverAfter.B7=true:=by kernel_rfl
def spec_CoverAfter.T8:Bool × List (List Nat × List Nat):=(true, [([], []),([0], [0]),([], []),([1,2], [1,2]),([3], [3]),([], []),([5], [5]),([], []),([6,7], [6,7]),([8], [8]),([9], [9]),([10], [10]),([4,11], [4,11]),([12], [12]),([], []),([14], [14]),([13,15], [13,15]),([16,16], [16]),([17], [17]),([18], [18]),([18], [18]),([], []),([21,19,17,0,1,2,3,4,5,6,7,8,9,10,11,12,13,14,15,16,17,18,19,21], [19,21]),([20,22,0,1,2,3,4,5,6,7,8,9,10,11,12,13,14,15,16,17,18,19,20,21,22], [20])])
def spec_CoverAfter.B8:List Nat:= [0,1,0,7,15,0,32,0,224,480,992,2016,4095,8191,0,16384,65535,131071,262143,524287,524287,0,3145727,8388607]
theorem spec_CoverAfter.tab8:rtab .any (opsOf Try.f82 8)=spec_CoverAfter.T8:=by kernel_rfl
theorem spec_CoverAfter.bits8:waitsOk spec_CoverAfter.T8.2 spec_CoverAfter.B8=true:=by kernel_rfl
theorem spec_CoverAfter.calls (k:Nat) (bi:Option Addr) (bk:Nat) (aW:List (List Int)) (bn:Option Addr) (bq:Nat) (aI:List Int) (A1:Option Addr) (c1:Nat) (l1:List Int) (a2:Int) (r1:Int) (r2:Int) (r3:Int) (w:World) (bS:Kd.C (Kd.slice 2 (Kd.int .i64)) w bi aW.length aW) (bT:aW.length≤bk) (bU:Kd.C (Kd.int .i64) w bn aI.length aI) (bV:aI.length≤bq) (hr1:Kd.C (Kd.int .i64) w A1 l1.length l1) (hc1:l1.length≤c1) (h:spec_CoverAfter.f k aW aI l1 a2=some (r1,r2,r3)):
  Calls Try.prog 82 #[.agg #[.slice bi aW.length bk, .slice bn aI.length bq], .slice A1 l1.length c1, .int .i64 a2] w fun e w'=>e= .returned (.tuple #[.agg #[.int .i64 r1, .int .i64 r2], .int .i64 r3])∧Below w.heap.size w w':=by
 have hu30:=Try.underlying30
 have hu93:=Try.underlying93
 have hu100:=Try.underlying100
 have HR0_0:=q_ bS
 have HC0_0:=q_ bT
 clear bS bT
 have HR0_1:=q_ bU
 have HC0_1:=q_ bV
 clear bU bV
 have HR1:=q_ hr1
 have HC1:=q_ hc1
 clear hr1 hc1
 have HB:=q_ (Below.refl w.heap.size w)
 have H:((spec_l05After.f k aW aI l1 a2).bind fun bI=>(if bI.2.2.2=0 then(spec_CoverAfter.l0 k 0 aW aI bI.1 bI.2.1 bI.2.2.1) else(some (0,0,bI.2.2.2))))=some (r1,r2,r3):=h
 clear h
 replace H:=Option.bind_eq_some_iff.mp H
 obtain⟨⟨aq,aC,aw,bA⟩,A40,H⟩:=H
 replace H:(if bA=0 then(spec_CoverAfter.l0 k 0 aW aI aq aC aw) else(some (0,0,bA)))=some (r1,r2,r3):=H
 have A4:=q_ A40
 clear A40
 by_cases c5:bA=0
 ·rw [if_pos c5] at H
  have c5b0:(bA==0)=true:=beq_iff_eq.mpr c5
  have c5b1:(bA !=0)=false:=bne_eq_false_iff_eq.mpr c5
  clear c5
  have H':=q_ H
  clear H
  go_enter Try.func82,Try.ntmps82
  go_wp2_with (first | ((with_reducible refine gate_dst (N:=3) rfl ?_);refine box_event ?hg (N:=3) ?hd (cs:= #[.slice bi aW.length bk, .slice bn aI.length bq]) (t:=30) ?hr ?_;(case hd=>rfl);(case hg=>rfl);(case hr=>first | (go_simp;done) | (go_simp;rfl));intro ax hg w6 hbox hb;have af:=q_ (hbox);have co:=q_ ((by rw [hg];exact bz_:w.heap.size≤ax));have cq:=q_ ((by rw [hg];exact bz_:w.heap.size≤ax));replace HB:=q_ (bs_ hb);clear hb hbox hg) | ((with_reducible refine gate_dst (N:=6) rfl ?_);refine box_event ?hg (N:=6) ?hd (cs:= #[.int .i64 0, .int .i64 0]) (t:=93) ?hr ?_;(case hd=>rfl);(case hg=>rfl);(case hr=>first | (go_simp;done) | (go_simp;rfl));intro av hg w7 hbox hb;have ag:=q_ (hbox);have ct:=q_ ((by rw [hg];exact bz_:w.heap.size≤av));have cz:=q_ ((by rw [hg];exact bz_:w.heap.size≤av));have bg:=q_ ((by rw [hg];exact lt_ af.out:ax≠av));have bh:=q_ ((by rw [hg];exact gt_ af.out:av≠ax));replace af:=q_ (bb_ af.out hb);replace HB:=q_ (bs_ hb);clear hb hbox hg;have fw:=bg.out;have fA:=bh.out;have cA:w7.cell? ⟨ax,0,none⟩=some (.slice bi aW.length bk):=(blk_cell af.out 0).trans rfl;have cB:w7.cell? ⟨ax,1,none⟩=some (.slice bn aI.length bq):=(blk_cell af.out 1).trans rfl;have cC:=blk_frozen af.out 0;have cD:=blk_frozen af.out 1) | ((with_reducible refine gate_callee (f:=85) rfl ?_);refine gL_ 17 Try.func85 #[.agg #[.slice bi aW.length bk, .slice bn aI.length bq], .slice A1 l1.length c1, .int .i64 a2] ?_;(with_reducible refine(spec_l05After.calls k _ _ aW _ _ aI _ _ l1 a2 aq aC aw bA _ ?bK ?bL ?bM ?bN ?bO ?bP A4.out).mono ?_);(case bK=>exact cb_ HR0_0.out HB.out);(case bL=>exact HC0_0.out);(case bM=>exact cb_ HR0_1.out HB.out);(case bN=>exact HC0_1.out);(case bO=>exact cb_ HR1.out HB.out);(case bP=>exact HC1.out);rintro e w10 ⟨cH,cI,rfl,ho0,ho1,hb⟩;refine⟨_,rfl,?_⟩;have bw:=q_ (Kd.S_lower ho0 bz_);have bz:=q_ (Kd.R_lower ho1 bz_);replace af:=q_ (bb_ af.out hb);replace ag:=q_ (bb_ ag.out hb);replace HB:=q_ (bs_ hb);(try clear hb);(try clear hb2);(try clear hk);(try clear hi);(try clear ho0);(try clear ho1)) | ((with_reducible refine gate_dst (N:=8) rfl ?_);refine box_event ?hg (N:=8) ?hd (cs:= #[.slice none 0 0, .int .i64 0, .slice none 0 0]) (t:=100) ?hr ?_;(case hd=>rfl);(case hg=>rfl);(case hr=>first | (go_simp;done) | (go_simp;rfl));intro ah hg w11 hbox hb;replace bw:=q_ (Kd.S_below (so_ bw.out) hb);replace bz:=q_ (rb_ bz.out hb);have aa:=q_ (hbox);have cE:=q_ ((by rw [hg];exact bz_:w.heap.size≤ah));have cF:=q_ ((by rw [hg];exact bz_:w.heap.size≤ah));have aJ:=q_ ((by rw [hg];exact lt_ af.out:ax≠ah));have aZ:=q_ ((by rw [hg];exact gt_ af.out:ah≠ax));have az:=q_ ((by rw [hg];exact lt_ ag.out:av≠ah));have a9:=q_ ((by rw [hg];exact gt_ ag.out:ah≠av));replace af:=q_ (bb_ af.out hb);replace ag:=q_ (bb_ ag.out hb);replace HB:=q_ (bs_ hb);clear hb hbox hg;obtain⟨bC,aX,cJ⟩:=Kd.S_slice bw.out;subst cJ;have eB:=aZ.out;have eC:=aJ.out;have eD:=a9.out;have eF:=az.out;have bW:w11.cell? ⟨ah,0,none⟩=some (.slice none 0 0):=(blk_cell aa.out 0).trans rfl;have bX:w11.cell? ⟨ah,1,none⟩=some (.int .i64 0):=(blk_cell aa.out 1).trans rfl;have bY:w11.cell? ⟨ah,2,none⟩=some (.slice none 0 0):=(blk_cell aa.out 2).trans rfl;have bZ:=blk_frozen aa.out 0;have cm:=blk_frozen aa.out 1;have cn:=blk_frozen aa.out 2;obtain⟨bJ,aV,cK⟩:=Kd.R_slice bz.out;subst cK))
  go_loopg [10] k (fun kq v10 w'=> ∃(ai:Int) (aU:Int) (aD:Int),v10= .int .i64 ai∧Aside0 (spec_CoverAfter.l0 kq ai aW aI aq aC aw=some (r1,r2,r3))∧Aside0 (kq≤k)∧Aside0 (Kd.S (Kd.slice 2 (Kd.int .i64)) 23 w' w.heap.size (fun k_=>some k_≠((.slice bJ aw.length aV):Value).ownBlock) (.slice bC aq.length aX) aq)∧Aside0 (Kd.R (Kd.int .i64) 2 w' w.heap.size (fun _=>True) (.slice bJ aw.length aV) aw)∧Aside0 (w'.heap[ax]?=some (.cells #[(.slice bi aW.length bk),(.slice bn aI.length bq)] 30 (0,0)))∧Aside0 (w'.heap[av]?=some (.cells #[.int .i64 aU, .int .i64 aD] 93 (0,0)))∧Aside0 (w'.heap[ah]?=some (.cells #[(.slice bC aq.length aX), .int .i64 aC,(.slice bJ aw.length aV)] 100 (0,0)))∧Aside0 (Below w.heap.size w w'))
  case atStart=>exact⟨(0),(0),(0),rs_,H',⟨Nat.le_refl _⟩,⟨by(with_reducible repeat (first | apply Kd.S_alloc | apply Kd.S_drewN | apply Kd.S_drew));exact Kd.S_mono (Kd.S_far (p:=⟨ah,2,none⟩) (Kd.S_far (p:=⟨ah,1,none⟩) (Kd.S_far (p:=⟨ah,0,none⟩) (Kd.S_types bw.out aa.out (by decide)) (fun _ hk=>hk.2) (.slice bC aq.length aX)) (fun _ hk=>hk.2) (.int .i64 aC)) (fun _ hk=>hk.2) (.slice bJ aw.length aV)) (fun _ hk=>hk.1)⟩,⟨by(with_reducible repeat (first | apply Kd.R_alloc | apply Kd.R_drewN | apply Kd.R_drew));exact Kd.R_mono (Kd.R_far (p:=⟨ah,2,none⟩) (Kd.R_far (p:=⟨ah,1,none⟩) (Kd.R_far (p:=⟨ah,0,none⟩) (Kd.R_types bz.out aa.out (by decide)) (fun _ hk=>hk.2) (.slice bC aq.length aX)) (fun _ hk=>hk.2) (.int .i64 aC)) (fun _ hk=>hk.2) (.slice bJ aw.length aV)) (fun _ hk=>trivial)⟩,⟨by(with_reducible repeat (first | refine blk_drewN ?_ _ | refine blk_drew ?_ | refine blk_alloc ?_ _));refine blk_far ?_ aJ.out _;(with_reducible repeat (first | refine blk_drewN ?_ _ | refine blk_drew ?_ | refine blk_alloc ?_ _));refine blk_far ?_ aJ.out _;(with_reducible repeat (first | refine blk_drewN ?_ _ | refine blk_drew ?_ | refine blk_alloc ?_ _));refine blk_far ?_ aJ.out _;(with_reducible repeat (first | refine blk_drewN ?_ _ | refine blk_drew ?_ | refine blk_alloc ?_ _));exact af.out⟩,⟨by(with_reducible repeat (first | refine blk_drewN ?_ _ | refine blk_drew ?_ | refine blk_alloc ?_ _));refine blk_far ?_ az.out _;(with_reducible repeat (first | refine blk_drewN ?_ _ | refine blk_drew ?_ | refine blk_alloc ?_ _));refine blk_far ?_ az.out _;(with_reducible repeat (first | refine blk_drewN ?_ _ | refine blk_drew ?_ | refine blk_alloc ?_ _));refine blk_far ?_ az.out _;(with_reducible repeat (first | refine blk_drewN ?_ _ | refine blk_drew ?_ | refine blk_alloc ?_ _));exact ag.out⟩,⟨by(with_reducible repeat (first | refine blk_drewN ?_ _ | refine blk_drew ?_ | refine blk_alloc ?_ _));refine blk_put (cs:= #[.slice bC aq.length aX, .int .i64 aC, .slice none 0 0]) ?_ 2 _ rfl;(with_reducible repeat (first | refine blk_drewN ?_ _ | refine blk_drew ?_ | refine blk_alloc ?_ _));refine blk_put (cs:= #[.slice bC aq.length aX, .int .i64 0, .slice none 0 0]) ?_ 1 _ rfl;(with_reducible repeat (first | refine blk_drewN ?_ _ | refine blk_drew ?_ | refine blk_alloc ?_ _));refine blk_put (cs:= #[.slice none 0 0, .int .i64 0, .slice none 0 0]) ?_ 0 _ rfl;(with_reducible repeat (first | refine blk_drewN ?_ _ | refine blk_drew ?_ | refine blk_alloc ?_ _));exact aa.out⟩,⟨hb_⟩⟩
  case round=>
   clear H'
   try clear c1
   try clear p2
   try clear c5
   try clear c5b0
   try clear c5b1
   try clear c8
   try clear c13
   try clear c14
   try clear bW
   try clear bX
   try clear bY
   try clear cA
   try clear cB
   try clear bZ
   try clear cm
   try clear cn
   try clear cC
   try clear cD
   obtain⟨ai,aU,aD,rfl,HA,HK1,ae,aj,af,ag,aa,HB⟩:=hrel
   cases gk with
   | zero=>exact absurd HA.out (by simp [spec_CoverAfter.l0])
   | succ k1=>
    have H:=HA.out
    clear HA
    simp only [spec_CoverAfter.l0] at H
    by_cases c17:ai < (aw.length:Int)
    ·rw [if_pos c17] at H
     have c17b0:decide (ai < (aw.length:Int))=true:=decide_eq_true c17
     clear c17
     by_cases c18:0≤ai
     ·rw [if_pos c18] at H
      have c18b0:decide (0≤ai)=true:=decide_eq_true c18
      clear c18
      by_cases c19:(rd aw ai)=(wrap64 (2*(aI.length:Int)))
      ·rw [if_pos c19] at H
       have c19b0:((rd aw ai)==(wrap64 (2*(aI.length:Int))))=true:=beq_iff_eq.mpr c19
       have c19b1:((rd aw ai) !=(wrap64 (2*(aI.length:Int))))=false:=bne_eq_false_iff_eq.mpr c19
       clear c19
       by_cases c20:ai < (aq.length:Int)
       ·rw [if_pos c20] at H
        have c20b0:decide (ai < (aq.length:Int))=true:=decide_eq_true c20
        clear c20
        obtain⟨ji21,hji21⟩: ∃j_:Int,(wrap64 (((rd_L1 aq ai).length:Int) - 1))=j_:=⟨_,rfl⟩
        replace H:(if 0≤(ji21) then(if(ji21) < ((rd_L1 aq ai).length:Int) then((spec_l01Frac.f k1 (rd (rd_L1 aq ai) (ji21)) aC).bind fun bQ=>((spec_l01Told.f k1 bQ.1 bQ.2).bind fun bD=>(some (bD.1,bD.2.1,bD.2.2)))) else(none)) else(none))=some (r1,r2,r3):=by first | (rw [hji21] at H;exact H) | (simp only [hji21] at H ⊢;exact H)
        have hji21w:(IntKind.i64.wrap (((rd_L1 aq ai).length:Int) - 1))=ji21:=(i64_w _).trans hji21
        by_cases c22:0≤(ji21)
        ·rw [if_pos c22] at H
         have c22b0:decide (0≤(ji21))=true:=decide_eq_true c22
         clear c22
         by_cases c23:(ji21) < ((rd_L1 aq ai).length:Int)
         ·rw [if_pos c23] at H
          have c23b0:decide ((ji21) < ((rd_L1 aq ai).length:Int))=true:=decide_eq_true c23
          clear c23
          replace H:=Option.bind_eq_some_iff.mp H
          obtain⟨⟨bu,bv⟩,A240,H⟩:=H
          replace H:((spec_l01Told.f k1 bu bv).bind fun bD=>(some (bD.1,bD.2.1,bD.2.2)))=some (r1,r2,r3):=H
          have A24:=q_ A240
          clear A240
          replace H:=Option.bind_eq_some_iff.mp H
          obtain⟨⟨bB,bE,bH⟩,A250,H⟩:=H
          replace H:(some (bB,bE,bH))=some (r1,r2,r3):=H
          have A25:=q_ A250
          clear A250
          simp only [Option.some.injEq,Prod.mk.injEq] at H
          obtain⟨rfl,rfl,rfl⟩:=H
          have eG:=aZ.out
          have eH:=aJ.out
          have eI:=a9.out
          have eJ:=az.out
          have cO:wr.cell? ⟨ah,0,none⟩=some (.slice bC aq.length aX):=(blk_cell aa.out 0).trans rfl
          have cP:wr.cell? ⟨ah,1,none⟩=some (.int .i64 aC):=(blk_cell aa.out 1).trans rfl
          have cQ:wr.cell? ⟨ah,2,none⟩=some (.slice bJ aw.length aV):=(blk_cell aa.out 2).trans rfl
          have cT:=blk_frozen aa.out 0
          have cU:=blk_frozen aa.out 1
          have cV:=blk_frozen aa.out 2
          try go_wp2
          replace ae:=q_ (Kd.S_drew ae.out)
          replace aj:=q_ (Kd.R_drew aj.out)
          replace af:=q_ (blk_drew af.out)
          replace ag:=q_ (blk_drew ag.out)
          replace aa:=q_ (blk_drew aa.out)
          replace HB:=q_ (below_drew1 HB.out)
          have p1446:0≤(ai:Int):=od_
          have q1446:ai < (aw.length:Int):=od_
          obtain⟨aG,e1446,hx1446_0⟩:=Kd.at_int (Kd.R_reads' aj.out).2.2 ai p1446 q1446
          cases e1446
          replace p1446:=eq_true p1446
          replace q1446:=eq_true q1446
          refine st_ (n:=10) (S:=fun w'=>w'.cell? ⟨ah,0,none⟩=some (.slice bC aq.length aX)∧w'.cell? ⟨ah,1,none⟩=some (.int .i64 aC)∧w'.cell? ⟨ah,2,none⟩=some (.slice (some aG) aw.length aV)∧w'.cell? ⟨ax,0,none⟩=some (.slice bi aW.length bk)∧w'.cell? ⟨ax,1,none⟩=some (.slice bn aI.length bq)∧w'.cell? (aG.add (ai).toNat)=some (.int .i64 (rd aw ai))) (ds:= []) ⟨(blk_cell aa.out 0).trans rfl,(blk_cell aa.out 1).trans rfl,(blk_cell aa.out 2).trans rfl,(blk_cell af.out 0).trans rfl,(blk_cell af.out 1).trans rfl,hx1446_0⟩ (fun hHeld=>?_);refine with_tabW spec_CoverAfter.tab7 spec_CoverAfter.bits7 (fun HT_ HW_=>?_)
          generalize wr.drew=w29 at ae aj af ag aa HB hx1446_0 hHeld ⊢
          refine pu_ 0 31 ?_;refine pu_ 2 33 ?_;refine pu_ 5 36 ?_;refine tk_ 1 32 ?_;refine pu_ 3 34 ?_;refine tk_ 4 35 ?_;refine tk_ 6 37 ?_;refine pu_ 7 38 ?_;refine pu_ 8 39 ?_;refine pu_ 9 40 ?_
          refine done_ (done_of HT_.out (by kernel_rfl)) ?_
          try go_wp2
          replace ae:=q_ (Kd.S_drew ae.out)
          replace aj:=q_ (Kd.R_drew aj.out)
          replace af:=q_ (blk_drew af.out)
          replace ag:=q_ (blk_drew ag.out)
          replace aa:=q_ (blk_drew aa.out)
          replace HB:=q_ (below_drew1 HB.out)
          have p1447:0≤(ai:Int):=od_
          have q1447:ai < (aq.length:Int):=od_
          obtain⟨aH,cW,ba,e1447,hx1447_0,hl1447_0,hi1447_0⟩:=at_L1 (Kd.S_reads' ae.out).2.2 ai p1447 q1447
          cases e1447
          obtain⟨ce1447,hce1447,hMe1447,hcc1447⟩:=Kd.S_get ae.out [] ai p1447 (by first | exact q1447 | exact od_ | (have e_:=(Kd.S_reads' ae.out).1;omega))
          obtain⟨ve1447_0,rfl,ge1447_0⟩:=hMe1447
          have hv1447_0:=hcc1447 0 _ rfl
          rw [Nat.add_zero,show ((Kd.slice 2 (Kd.int .i64))).sz=1 from rfl,Nat.mul_one] at hv1447_0
          replace hv1447_0:=Option.some.inj (hv1447_0.symm.trans hx1447_0)
          rw [hv1447_0] at ge1447_0
          have HL1447_0:=q_ (show Kd.R (Kd.int .i64) 2 _ _ _ _ (rd_L1 aq ai) from ge1447_0)
          clear hv1447_0 ge1447_0 hcc1447 hce1447
          have HR1447_0:=q_ hi1447_0
          have HC1447_0:=q_ hl1447_0
          clear hi1447_0 hl1447_0
          replace p1447:=eq_true p1447
          replace q1447:=eq_true q1447
          have p1448:0≤(ai:Int):=od_
          have q1448:ai < (aq.length:Int):=od_
          obtain⟨cG,cZ,da,e1448,hx1448_0,hl1448_0,hi1448_0⟩:=at_L1 (Kd.S_reads' ae.out).2.2 ai p1448 q1448
          obtain rfl:aH=cG:=(by injection e1448)
          obtain⟨ce1448,hce1448,hMe1448,hcc1448⟩:=Kd.S_get ae.out [] ai p1448 (by first | exact q1448 | exact od_ | (have e_:=(Kd.S_reads' ae.out).1;omega))
          obtain⟨ve1448_0,rfl,ge1448_0⟩:=hMe1448
          have hv1448_0:=hcc1448 0 _ rfl
          rw [Nat.add_zero,show ((Kd.slice 2 (Kd.int .i64))).sz=1 from rfl,Nat.mul_one] at hv1448_0
          replace hv1448_0:=Option.some.inj (hv1448_0.symm.trans hx1448_0)
          rw [hv1448_0] at ge1448_0
          have HL1448_0:=q_ (show Kd.R (Kd.int .i64) 2 _ _ _ _ (rd_L1 aq ai) from ge1448_0)
          clear hv1448_0 ge1448_0 hcc1448 hce1448
          have HR1448_0:=q_ hi1448_0
          have HC1448_0:=q_ hl1448_0
          clear hi1448_0 hl1448_0
          replace p1448:=eq_true p1448
          replace q1448:=eq_true q1448
          have ea_:=Option.some.inj (hx1447_0.symm.trans hx1448_0)
          injection ea_ with ea_ en_ ec_
          subst ea_
          subst ec_
          clear en_
          have p1449:0≤((ji21):Int):=od_
          have q1449:(ji21) < ((rd_L1 aq ai).length:Int):=od_
          obtain⟨aY,e1449,hx1449_0⟩:=Kd.at_int (by repeat (first | (with_reducible exact HR1447_0.out) | (with_reducible refine Kd.C_alloc ?_ _) | (with_reducible refine Kd.C_drewN ?_ _) | (with_reducible refine Kd.C_drew ?_) | exact HR1447_0.out)) (ji21) p1449 q1449
          cases e1449
          replace p1449:=eq_true p1449
          replace q1449:=eq_true q1449
          refine st_ (n:=24) (S:=fun w'=>w'.cell? ⟨ah,0,none⟩=some (.slice (some aH) aq.length aX)∧w'.cell? ⟨ah,1,none⟩=some (.int .i64 aC)∧w'.cell? ⟨ah,2,none⟩=some (.slice (some aG) aw.length aV)∧w'.cell? (aH.add (ai).toNat)=some (.slice (some aY) (rd_L1 aq ai).length ba)∧w'.cell? (aH.add (ai).toNat)=some (.slice (some aY) (rd_L1 aq ai).length ba)∧w'.cell? (aY.add ((ji21)).toNat)=some (.int .i64 (rd (rd_L1 aq ai) (ji21)))) (ds:= []) ⟨(blk_cell aa.out 0).trans rfl,(blk_cell aa.out 1).trans rfl,(blk_cell aa.out 2).trans rfl,hx1447_0,hx1448_0,hx1449_0⟩ (fun hHeld=>?_);refine with_tabW spec_CoverAfter.tab8 spec_CoverAfter.bits8 (fun HT_ HW_=>?_)
          generalize w29.drew=w30 at ae aj af ag aa HB HL1447_0 HL1448_0 HR1447_0 HR1448_0 hx1447_0 hx1448_0 hx1449_0 hHeld ⊢
          refine pu_ 0 42 ?_;refine pu_ 2 44 ?_;refine pu_ 5 47 ?_;refine pu_ 7 49 ?_;refine pu_ 14 56 ?_;refine tk_ 1 43 ?_;refine pu_ 3 45 ?_;refine tk_ 4 46 ?_;refine tk_ 6 48 ?_;refine pu_ 8 50 ?_;refine tk_ 9 51 ?_;refine pu_ 10 52 ?_;refine pu_ 11 53 ?_;refine pu_ 12 54 ?_;refine tk_ 13 55 ?_;refine tk_ 15 57 ?_
          refine join_ (σ:=Nat) 2 (fm 24 4194303) (fun s_=> [(58, .agg #[.int .i64 bu, .int .i64 bv]),(59, .tuple #[.agg #[.int .i64 bB, .int .i64 bE], .int .i64 bH]),(11, .pointer (some ⟨s_,0,none⟩)),(41, .tuple #[.agg #[.int .i64 bB, .int .i64 bE], .int .i64 bH]),(60, .agg #[.int .i64 bB, .int .i64 bE]),(61, .int .i64 bH)]) (fun s_ w'=>(w'.cell? ⟨ah,0,none⟩=some (.slice (some aH) aq.length aX)∧w'.cell? ⟨ah,1,none⟩=some (.int .i64 aC)∧w'.cell? ⟨ah,2,none⟩=some (.slice (some aG) aw.length aV)∧w'.cell? (aH.add (ai).toNat)=some (.slice (some aY) (rd_L1 aq ai).length ba)∧w'.cell? (aH.add (ai).toNat)=some (.slice (some aY) (rd_L1 aq ai).length ba)∧w'.cell? (aY.add ((ji21)).toNat)=some (.int .i64 (rd (rd_L1 aq ai) (ji21))))∧(Kd.R (Kd.int .i64) 2 w' w.heap.size (fun k_=>some k_≠(.slice (some aH) aq.length aX:Value).ownBlock∧some k_≠(.slice (some aG) aw.length aV:Value).ownBlock) (.slice (some aY) (rd_L1 aq ai).length ba) (rd_L1 aq ai))∧(Kd.R (Kd.int .i64) 2 w' w.heap.size (fun k_=>some k_≠(.slice (some aH) aq.length aX:Value).ownBlock∧some k_≠(.slice (some aG) aw.length aV:Value).ownBlock) (.slice (some aY) (rd_L1 aq ai).length ba) (rd_L1 aq ai))∧(Kd.S (Kd.slice 2 (Kd.int .i64)) 23 w' w.heap.size (fun k_=>some k_≠(.slice (some aG) aw.length aV:Value).ownBlock) (.slice (some aH) aq.length aX) aq)∧(Kd.R (Kd.int .i64) 2 w' w.heap.size (fun _=>True) (.slice (some aG) aw.length aV) aw)∧(w'.heap[ax]?=some (.cells #[.slice bi aW.length bk, .slice bn aI.length bq] 30 (0,0)))∧(w'.heap[av]?=some (.cells #[.int .i64 aU, .int .i64 aD] 93 (0,0)))∧(w'.heap[ah]?=some (.cells #[.slice (some aH) aq.length aX, .int .i64 aC, .slice (some aG) aw.length aV] 100 (0,0)))∧(w'.heap[s_]?=some (.cells #[.int .i64 0, .int .i64 0] 93 (0,0)))∧(w.heap.size≤s_)∧(w.heap.size≤s_)∧(ax≠s_)∧(s_≠ax)∧(av≠s_)∧(s_≠av)∧(ah≠s_)∧(s_≠ah)∧(Below w.heap.size w w')) ?_ ?_
          rotate_left
          ·intro hCont
           refine two_ (i:=16) (j:=21) (Ni:=some 58) (Nj:=some 11) (fm 24 131071) (fm 24 2162687) rfl rfl rfl rfl (two_of HT_.out (by kernel_rfl)) (by decide) (by decide) (fun K hK=>?_) (fun K hK=>?_)
           ·skip
            refine goes_ Try.func152 (by kernel_rfl) rfl #[.int .i64 (rd (rd_L1 aq ai) (ji21)), .int .i64 aC] (by rfl) rfl rfl (by(try simp only [List.map_toArray,List.map_cons,List.map_nil]);first | done | (simp only [hji21];rfl) | rfl | (simp only [List.length_drop,List.length_take];rfl)) ?_
            with_reducible refine(spec_l01Frac.calls k1 (rd (rd_L1 aq ai) (ji21)) aC bu bv _ A24.out).mono ?_
            rintro e w31 ⟨rfl,hb⟩
            have HS3_:=(hb.cell (World.block_lt_of_cell? _ _ (hHeld.2.2.2.1))).trans (hHeld.2.2.2.1)
            have HS4_:=(hb.cell (World.block_lt_of_cell? _ _ (hHeld.2.2.2.2.1))).trans (hHeld.2.2.2.2.1)
            have HS5_:=(hb.cell (World.block_lt_of_cell? _ _ (hHeld.2.2.2.2.2))).trans (hHeld.2.2.2.2.2)
            refine⟨_,rfl,?_⟩
            replace ae:=q_ (Kd.S_below (so_ ae.out) hb)
            replace aj:=q_ (rb_ aj.out hb)
            replace HL1447_0:=q_ (rb_ HL1447_0.out hb)
            replace HL1448_0:=q_ (rb_ HL1448_0.out hb)
            replace af:=q_ (bb_ af.out hb)
            replace ag:=q_ (bb_ ag.out hb)
            replace aa:=q_ (bb_ aa.out hb)
            replace HR1447_0:=q_ (Kd.C_below (by repeat (first | (with_reducible exact HR1447_0.out) | (with_reducible refine Kd.C_alloc ?_ _) | (with_reducible refine Kd.C_drewN ?_ _) | (with_reducible refine Kd.C_drew ?_) | exact HR1447_0.out)) hb)
            replace HR1448_0:=q_ (Kd.C_below (by repeat (first | (with_reducible exact HR1448_0.out) | (with_reducible refine Kd.C_alloc ?_ _) | (with_reducible refine Kd.C_drewN ?_ _) | (with_reducible refine Kd.C_drew ?_) | exact HR1448_0.out)) hb)
            replace HB:=q_ (bs_ hb)
            (try clear hb)
            (try clear hb2)
            (try clear hk)
            (try clear hi)
            refine hK.out _ _ ⟨(blk_cell aa.out 0).trans rfl,(blk_cell aa.out 1).trans rfl,(blk_cell aa.out 2).trans rfl,HS3_,HS4_,HS5_⟩ (fun hHeld=>?_)
            clear hK K
            refine norm_ (a':=?_) ?_ ?_
            rotate_left
            ·show Act.put _ (some 58) _=_
             simp only [Act.put,List.setIfInBounds_toArray,List.set_cons_zero,List.set_cons_succ,i64_w,i32_w]
             rfl
            refine two_ (i:=17) (j:=21) (Ni:=some 59) (Nj:=some 11) (fm 24 262143) (fm 24 2228223) rfl rfl rfl rfl (two_of HT_.out (by kernel_rfl)) (by decide) (by decide) (fun K hK=>?_) (fun K hK=>?_)
            ·skip
             refine goes_ Try.func151 (by kernel_rfl) rfl #[.agg #[.int .i64 bu, .int .i64 bv]] (by rfl) rfl rfl (by(try simp only [List.map_toArray,List.map_cons,List.map_nil]);first | done | rfl | (simp only [List.length_drop,List.length_take];rfl)) ?_
             with_reducible refine(spec_l01Told.calls k1 bu bv bB bE bH _ A25.out).mono ?_
             rintro e w32 ⟨rfl,hb⟩
             have HS3_:=(hb.cell (World.block_lt_of_cell? _ _ (hHeld.2.2.2.1))).trans (hHeld.2.2.2.1)
             have HS4_:=(hb.cell (World.block_lt_of_cell? _ _ (hHeld.2.2.2.2.1))).trans (hHeld.2.2.2.2.1)
             have HS5_:=(hb.cell (World.block_lt_of_cell? _ _ (hHeld.2.2.2.2.2))).trans (hHeld.2.2.2.2.2)
             refine⟨_,rfl,?_⟩
             replace ae:=q_ (Kd.S_below (so_ ae.out) hb)
             replace aj:=q_ (rb_ aj.out hb)
             replace HL1447_0:=q_ (rb_ HL1447_0.out hb)
             replace HL1448_0:=q_ (rb_ HL1448_0.out hb)
             replace af:=q_ (bb_ af.out hb)
             replace ag:=q_ (bb_ ag.out hb)
             replace aa:=q_ (bb_ aa.out hb)
             replace HR1447_0:=q_ (Kd.C_below (by repeat (first | (with_reducible exact HR1447_0.out) | (with_reducible refine Kd.C_alloc ?_ _) | (with_reducible refine Kd.C_drewN ?_ _) | (with_reducible refine Kd.C_drew ?_) | exact HR1447_0.out)) hb)
             replace HR1448_0:=q_ (Kd.C_below (by repeat (first | (with_reducible exact HR1448_0.out) | (with_reducible refine Kd.C_alloc ?_ _) | (with_reducible refine Kd.C_drewN ?_ _) | (with_reducible refine Kd.C_drew ?_) | exact HR1448_0.out)) hb)
             replace HB:=q_ (bs_ hb)
             (try clear hb)
             (try clear hb2)
             (try clear hk)
             (try clear hi)
             refine hK.out _ _ ⟨(blk_cell aa.out 0).trans rfl,(blk_cell aa.out 1).trans rfl,(blk_cell aa.out 2).trans rfl,HS3_,HS4_,HS5_⟩ (fun hHeld=>?_)
             clear hK K
             refine norm_ (a':=?_) ?_ ?_
             rotate_left
             ·show Act.put _ (some 59) _=_
              simp only [Act.put,List.setIfInBounds_toArray,List.set_cons_zero,List.set_cons_succ,i64_w,i32_w]
              rfl
             refine pu_ 18 41 ?_;refine pu_ 19 60 ?_;refine pu_ 20 61 ?_
             refine on_ 21 (some 11) (fun K hK=>?_)
             refine box_step ?hg (N:=11) ?hd (cs:= #[.int .i64 0, .int .i64 0]) (t:=93) ?hr ?_;(case hd=>rfl);(case hg=>rfl);(case hr=>first | (go_simp;done) | (go_simp;rfl))
             intro ak hg w33 hbox hb
             have HS3_:=(hb.cell (World.block_lt_of_cell? _ _ (hHeld.2.2.2.1))).trans (hHeld.2.2.2.1)
             have HS4_:=(hb.cell (World.block_lt_of_cell? _ _ (hHeld.2.2.2.2.1))).trans (hHeld.2.2.2.2.1)
             have HS5_:=(hb.cell (World.block_lt_of_cell? _ _ (hHeld.2.2.2.2.2))).trans (hHeld.2.2.2.2.2)
             replace ae:=q_ (Kd.S_below (so_ ae.out) hb)
             replace aj:=q_ (rb_ aj.out hb)
             replace HL1447_0:=q_ (rb_ HL1447_0.out hb)
             replace HL1448_0:=q_ (rb_ HL1448_0.out hb)
             replace HR1447_0:=q_ (Kd.C_below (by repeat (first | (with_reducible exact HR1447_0.out) | (with_reducible refine Kd.C_alloc ?_ _) | (with_reducible refine Kd.C_drewN ?_ _) | (with_reducible refine Kd.C_drew ?_) | exact HR1447_0.out)) hb)
             replace HR1448_0:=q_ (Kd.C_below (by repeat (first | (with_reducible exact HR1448_0.out) | (with_reducible refine Kd.C_alloc ?_ _) | (with_reducible refine Kd.C_drewN ?_ _) | (with_reducible refine Kd.C_drew ?_) | exact HR1448_0.out)) hb)
             have au:=q_ (hbox)
             have bF:=q_ ((by rw [hg];exact bz_:w.heap.size≤ak))
             have bG:=q_ ((by rw [hg];exact bz_:w.heap.size≤ak))
             have aK:=q_ ((by rw [hg];exact lt_ af.out:ax≠ak))
             have aM:=q_ ((by rw [hg];exact gt_ af.out:ak≠ax))
             have aA:=q_ ((by rw [hg];exact lt_ ag.out:av≠ak))
             have aN:=q_ ((by rw [hg];exact gt_ ag.out:ak≠av))
             have ay:=q_ ((by rw [hg];exact lt_ aa.out:ah≠ak))
             have aT:=q_ ((by rw [hg];exact gt_ aa.out:ak≠ah))
             replace af:=q_ (bb_ af.out hb)
             replace ag:=q_ (bb_ ag.out hb)
             replace aa:=q_ (bb_ aa.out hb)
             replace HB:=q_ (bs_ hb)
             clear hb hbox hg
             refine hK.out _ _ ⟨(blk_cell aa.out 0).trans rfl,(blk_cell aa.out 1).trans rfl,(blk_cell aa.out 2).trans rfl,HS3_,HS4_,HS5_⟩ (fun hHeld=>?_)
             clear hK K
             refine norm_ (a':=?_) ?_ ?_
             rotate_left
             ·show Act.put _ (some 11) _=_
              simp only [Act.put,List.setIfInBounds_toArray,List.set_cons_zero,List.set_cons_succ,i64_w,i32_w]
              rfl
             exact norm_ (by simp only [putAll,Act.put,List.setIfInBounds_toArray,List.set_cons_zero,List.set_cons_succ]) (hCont (ak) _ ⟨hHeld,(by(with_reducible repeat (first | apply Kd.R_alloc | apply Kd.R_drewN | apply Kd.R_drew));exact Kd.R_mono HL1447_0.out (fun _ hk=>⟨hk.2,hk.1⟩)),(by(with_reducible repeat (first | apply Kd.R_alloc | apply Kd.R_drewN | apply Kd.R_drew));exact Kd.R_mono HL1448_0.out (fun _ hk=>⟨hk.2,hk.1⟩)),(so_ ae.out),(ro_ aj.out),bk_,bk_,bk_,bk_,bF.out,bG.out,aK.out,aM.out,aA.out,aN.out,ay.out,aT.out,hb_⟩)
            ·skip
             refine box_step ?hg (N:=11) ?hd (cs:= #[.int .i64 0, .int .i64 0]) (t:=93) ?hr ?_;(case hd=>rfl);(case hg=>rfl);(case hr=>first | (go_simp;done) | (go_simp;rfl))
             intro ak hg w32 hbox hb
             have HS3_:=(hb.cell (World.block_lt_of_cell? _ _ (hHeld.2.2.2.1))).trans (hHeld.2.2.2.1)
             have HS4_:=(hb.cell (World.block_lt_of_cell? _ _ (hHeld.2.2.2.2.1))).trans (hHeld.2.2.2.2.1)
             have HS5_:=(hb.cell (World.block_lt_of_cell? _ _ (hHeld.2.2.2.2.2))).trans (hHeld.2.2.2.2.2)
             replace ae:=q_ (Kd.S_below (so_ ae.out) hb)
             replace aj:=q_ (rb_ aj.out hb)
             replace HL1447_0:=q_ (rb_ HL1447_0.out hb)
             replace HL1448_0:=q_ (rb_ HL1448_0.out hb)
             replace HR1447_0:=q_ (Kd.C_below (by repeat (first | (with_reducible exact HR1447_0.out) | (with_reducible refine Kd.C_alloc ?_ _) | (with_reducible refine Kd.C_drewN ?_ _) | (with_reducible refine Kd.C_drew ?_) | exact HR1447_0.out)) hb)
             replace HR1448_0:=q_ (Kd.C_below (by repeat (first | (with_reducible exact HR1448_0.out) | (with_reducible refine Kd.C_alloc ?_ _) | (with_reducible refine Kd.C_drewN ?_ _) | (with_reducible refine Kd.C_drew ?_) | exact HR1448_0.out)) hb)
             have au:=q_ (hbox)
             have bF:=q_ ((by rw [hg];exact bz_:w.heap.size≤ak))
             have bG:=q_ ((by rw [hg];exact bz_:w.heap.size≤ak))
             have aK:=q_ ((by rw [hg];exact lt_ af.out:ax≠ak))
             have aM:=q_ ((by rw [hg];exact gt_ af.out:ak≠ax))
             have aA:=q_ ((by rw [hg];exact lt_ ag.out:av≠ak))
             have aN:=q_ ((by rw [hg];exact gt_ ag.out:ak≠av))
             have ay:=q_ ((by rw [hg];exact lt_ aa.out:ah≠ak))
             have aT:=q_ ((by rw [hg];exact gt_ aa.out:ak≠ah))
             replace af:=q_ (bb_ af.out hb)
             replace ag:=q_ (bb_ ag.out hb)
             replace aa:=q_ (bb_ aa.out hb)
             replace HB:=q_ (bs_ hb)
             clear hb hbox hg
             refine hK.out _ _ ⟨(blk_cell aa.out 0).trans rfl,(blk_cell aa.out 1).trans rfl,(blk_cell aa.out 2).trans rfl,HS3_,HS4_,HS5_⟩ (fun hHeld=>?_)
             clear hK K
             refine norm_ (a':=?_) ?_ ?_
             rotate_left
             ·show Act.put _ (some 11) _=_
              simp only [Act.put,List.setIfInBounds_toArray,List.set_cons_zero,List.set_cons_succ,i64_w,i32_w]
              rfl
             refine on_ 17 (some 59) (fun K hK=>?_)
             refine goes_ Try.func151 (by kernel_rfl) rfl #[.agg #[.int .i64 bu, .int .i64 bv]] (by rfl) rfl rfl (by(try simp only [List.map_toArray,List.map_cons,List.map_nil]);first | done | rfl | (simp only [List.length_drop,List.length_take];rfl)) ?_
             with_reducible refine(spec_l01Told.calls k1 bu bv bB bE bH _ A25.out).mono ?_
             rintro e w33 ⟨rfl,hb⟩
             have HS3_:=(hb.cell (World.block_lt_of_cell? _ _ (hHeld.2.2.2.1))).trans (hHeld.2.2.2.1)
             have HS4_:=(hb.cell (World.block_lt_of_cell? _ _ (hHeld.2.2.2.2.1))).trans (hHeld.2.2.2.2.1)
             have HS5_:=(hb.cell (World.block_lt_of_cell? _ _ (hHeld.2.2.2.2.2))).trans (hHeld.2.2.2.2.2)
             refine⟨_,rfl,?_⟩
             replace ae:=q_ (Kd.S_below (so_ ae.out) hb)
             replace aj:=q_ (rb_ aj.out hb)
             replace HL1447_0:=q_ (rb_ HL1447_0.out hb)
             replace HL1448_0:=q_ (rb_ HL1448_0.out hb)
             replace af:=q_ (bb_ af.out hb)
             replace ag:=q_ (bb_ ag.out hb)
             replace aa:=q_ (bb_ aa.out hb)
             replace HR1447_0:=q_ (Kd.C_below (by repeat (first | (with_reducible exact HR1447_0.out) | (with_reducible refine Kd.C_alloc ?_ _) | (with_reducible refine Kd.C_drewN ?_ _) | (with_reducible refine Kd.C_drew ?_) | exact HR1447_0.out)) hb)
             replace HR1448_0:=q_ (Kd.C_below (by repeat (first | (with_reducible exact HR1448_0.out) | (with_reducible refine Kd.C_alloc ?_ _) | (with_reducible refine Kd.C_drewN ?_ _) | (with_reducible refine Kd.C_drew ?_) | exact HR1448_0.out)) hb)
             replace au:=q_ (bb_ au.out hb)
             replace HB:=q_ (bs_ hb)
             (try clear hb)
             (try clear hb2)
             (try clear hk)
             (try clear hi)
             refine hK.out _ _ ⟨(blk_cell aa.out 0).trans rfl,(blk_cell aa.out 1).trans rfl,(blk_cell aa.out 2).trans rfl,HS3_,HS4_,HS5_⟩ (fun hHeld=>?_)
             clear hK K
             refine norm_ (a':=?_) ?_ ?_
             rotate_left
             ·show Act.put _ (some 59) _=_
              simp only [Act.put,List.setIfInBounds_toArray,List.set_cons_zero,List.set_cons_succ,i64_w,i32_w]
              rfl
             refine pu_ 18 41 ?_;refine pu_ 19 60 ?_;refine pu_ 20 61 ?_
             exact norm_ (by simp only [putAll,Act.put,List.setIfInBounds_toArray,List.set_cons_zero,List.set_cons_succ]) (hCont (ak) _ ⟨hHeld,(by(with_reducible repeat (first | apply Kd.R_alloc | apply Kd.R_drewN | apply Kd.R_drew));exact Kd.R_mono HL1447_0.out (fun _ hk=>⟨hk.2,hk.1⟩)),(by(with_reducible repeat (first | apply Kd.R_alloc | apply Kd.R_drewN | apply Kd.R_drew));exact Kd.R_mono HL1448_0.out (fun _ hk=>⟨hk.2,hk.1⟩)),(so_ ae.out),(ro_ aj.out),bk_,bk_,bk_,bk_,bF.out,bG.out,aK.out,aM.out,aA.out,aN.out,ay.out,aT.out,hb_⟩)
           ·skip
            refine box_step ?hg (N:=11) ?hd (cs:= #[.int .i64 0, .int .i64 0]) (t:=93) ?hr ?_;(case hd=>rfl);(case hg=>rfl);(case hr=>first | (go_simp;done) | (go_simp;rfl))
            intro ak hg w31 hbox hb
            have HS3_:=(hb.cell (World.block_lt_of_cell? _ _ (hHeld.2.2.2.1))).trans (hHeld.2.2.2.1)
            have HS4_:=(hb.cell (World.block_lt_of_cell? _ _ (hHeld.2.2.2.2.1))).trans (hHeld.2.2.2.2.1)
            have HS5_:=(hb.cell (World.block_lt_of_cell? _ _ (hHeld.2.2.2.2.2))).trans (hHeld.2.2.2.2.2)
            replace ae:=q_ (Kd.S_below (so_ ae.out) hb)
            replace aj:=q_ (rb_ aj.out hb)
            replace HL1447_0:=q_ (rb_ HL1447_0.out hb)
            replace HL1448_0:=q_ (rb_ HL1448_0.out hb)
            replace HR1447_0:=q_ (Kd.C_below (by repeat (first | (with_reducible exact HR1447_0.out) | (with_reducible refine Kd.C_alloc ?_ _) | (with_reducible refine Kd.C_drewN ?_ _) | (with_reducible refine Kd.C_drew ?_) | exact HR1447_0.out)) hb)
            replace HR1448_0:=q_ (Kd.C_below (by repeat (first | (with_reducible exact HR1448_0.out) | (with_reducible refine Kd.C_alloc ?_ _) | (with_reducible refine Kd.C_drewN ?_ _) | (with_reducible refine Kd.C_drew ?_) | exact HR1448_0.out)) hb)
            have au:=q_ (hbox)
            have bF:=q_ ((by rw [hg];exact bz_:w.heap.size≤ak))
            have bG:=q_ ((by rw [hg];exact bz_:w.heap.size≤ak))
            have aK:=q_ ((by rw [hg];exact lt_ af.out:ax≠ak))
            have aM:=q_ ((by rw [hg];exact gt_ af.out:ak≠ax))
            have aA:=q_ ((by rw [hg];exact lt_ ag.out:av≠ak))
            have aN:=q_ ((by rw [hg];exact gt_ ag.out:ak≠av))
            have ay:=q_ ((by rw [hg];exact lt_ aa.out:ah≠ak))
            have aT:=q_ ((by rw [hg];exact gt_ aa.out:ak≠ah))
            replace af:=q_ (bb_ af.out hb)
            replace ag:=q_ (bb_ ag.out hb)
            replace aa:=q_ (bb_ aa.out hb)
            replace HB:=q_ (bs_ hb)
            clear hb hbox hg
            refine hK.out _ _ ⟨(blk_cell aa.out 0).trans rfl,(blk_cell aa.out 1).trans rfl,(blk_cell aa.out 2).trans rfl,HS3_,HS4_,HS5_⟩ (fun hHeld=>?_)
            clear hK K
            refine norm_ (a':=?_) ?_ ?_
            rotate_left
            ·show Act.put _ (some 11) _=_
             simp only [Act.put,List.setIfInBounds_toArray,List.set_cons_zero,List.set_cons_succ,i64_w,i32_w]
             rfl
            refine on_ 16 (some 58) (fun K hK=>?_)
            refine goes_ Try.func152 (by kernel_rfl) rfl #[.int .i64 (rd (rd_L1 aq ai) (ji21)), .int .i64 aC] (by rfl) rfl rfl (by(try simp only [List.map_toArray,List.map_cons,List.map_nil]);first | done | (simp only [hji21];rfl) | rfl | (simp only [List.length_drop,List.length_take];rfl)) ?_
            with_reducible refine(spec_l01Frac.calls k1 (rd (rd_L1 aq ai) (ji21)) aC bu bv _ A24.out).mono ?_
            rintro e w32 ⟨rfl,hb⟩
            have HS3_:=(hb.cell (World.block_lt_of_cell? _ _ (hHeld.2.2.2.1))).trans (hHeld.2.2.2.1)
            have HS4_:=(hb.cell (World.block_lt_of_cell? _ _ (hHeld.2.2.2.2.1))).trans (hHeld.2.2.2.2.1)
            have HS5_:=(hb.cell (World.block_lt_of_cell? _ _ (hHeld.2.2.2.2.2))).trans (hHeld.2.2.2.2.2)
            refine⟨_,rfl,?_⟩
            replace ae:=q_ (Kd.S_below (so_ ae.out) hb)
            replace aj:=q_ (rb_ aj.out hb)
            replace HL1447_0:=q_ (rb_ HL1447_0.out hb)
            replace HL1448_0:=q_ (rb_ HL1448_0.out hb)
            replace af:=q_ (bb_ af.out hb)
            replace ag:=q_ (bb_ ag.out hb)
            replace aa:=q_ (bb_ aa.out hb)
            replace HR1447_0:=q_ (Kd.C_below (by repeat (first | (with_reducible exact HR1447_0.out) | (with_reducible refine Kd.C_alloc ?_ _) | (with_reducible refine Kd.C_drewN ?_ _) | (with_reducible refine Kd.C_drew ?_) | exact HR1447_0.out)) hb)
            replace HR1448_0:=q_ (Kd.C_below (by repeat (first | (with_reducible exact HR1448_0.out) | (with_reducible refine Kd.C_alloc ?_ _) | (with_reducible refine Kd.C_drewN ?_ _) | (with_reducible refine Kd.C_drew ?_) | exact HR1448_0.out)) hb)
            replace au:=q_ (bb_ au.out hb)
            replace HB:=q_ (bs_ hb)
            (try clear hb)
            (try clear hb2)
            (try clear hk)
            (try clear hi)
            refine hK.out _ _ ⟨(blk_cell aa.out 0).trans rfl,(blk_cell aa.out 1).trans rfl,(blk_cell aa.out 2).trans rfl,HS3_,HS4_,HS5_⟩ (fun hHeld=>?_)
            clear hK K
            refine norm_ (a':=?_) ?_ ?_
            rotate_left
            ·show Act.put _ (some 58) _=_
             simp only [Act.put,List.setIfInBounds_toArray,List.set_cons_zero,List.set_cons_succ,i64_w,i32_w]
             rfl
            refine on_ 17 (some 59) (fun K hK=>?_)
            refine goes_ Try.func151 (by kernel_rfl) rfl #[.agg #[.int .i64 bu, .int .i64 bv]] (by rfl) rfl rfl (by(try simp only [List.map_toArray,List.map_cons,List.map_nil]);first | done | rfl | (simp only [List.length_drop,List.length_take];rfl)) ?_
            with_reducible refine(spec_l01Told.calls k1 bu bv bB bE bH _ A25.out).mono ?_
            rintro e w33 ⟨rfl,hb⟩
            have HS3_:=(hb.cell (World.block_lt_of_cell? _ _ (hHeld.2.2.2.1))).trans (hHeld.2.2.2.1)
            have HS4_:=(hb.cell (World.block_lt_of_cell? _ _ (hHeld.2.2.2.2.1))).trans (hHeld.2.2.2.2.1)
            have HS5_:=(hb.cell (World.block_lt_of_cell? _ _ (hHeld.2.2.2.2.2))).trans (hHeld.2.2.2.2.2)
            refine⟨_,rfl,?_⟩
            replace ae:=q_ (Kd.S_below (so_ ae.out) hb)
            replace aj:=q_ (rb_ aj.out hb)
            replace HL1447_0:=q_ (rb_ HL1447_0.out hb)
            replace HL1448_0:=q_ (rb_ HL1448_0.out hb)
            replace af:=q_ (bb_ af.out hb)
            replace ag:=q_ (bb_ ag.out hb)
            replace aa:=q_ (bb_ aa.out hb)
            replace HR1447_0:=q_ (Kd.C_below (by repeat (first | (with_reducible exact HR1447_0.out) | (with_reducible refine Kd.C_alloc ?_ _) | (with_reducible refine Kd.C_drewN ?_ _) | (with_reducible refine Kd.C_drew ?_) | exact HR1447_0.out)) hb)
            replace HR1448_0:=q_ (Kd.C_below (by repeat (first | (with_reducible exact HR1448_0.out) | (with_reducible refine Kd.C_alloc ?_ _) | (with_reducible refine Kd.C_drewN ?_ _) | (with_reducible refine Kd.C_drew ?_) | exact HR1448_0.out)) hb)
            replace au:=q_ (bb_ au.out hb)
            replace HB:=q_ (bs_ hb)
            (try clear hb)
            (try clear hb2)
            (try clear hk)
            (try clear hi)
            refine hK.out _ _ ⟨(blk_cell aa.out 0).trans rfl,(blk_cell aa.out 1).trans rfl,(blk_cell aa.out 2).trans rfl,HS3_,HS4_,HS5_⟩ (fun hHeld=>?_)
            clear hK K
            refine norm_ (a':=?_) ?_ ?_
            rotate_left
            ·show Act.put _ (some 59) _=_
             simp only [Act.put,List.setIfInBounds_toArray,List.set_cons_zero,List.set_cons_succ,i64_w,i32_w]
             rfl
            refine pu_ 18 41 ?_;refine pu_ 19 60 ?_;refine pu_ 20 61 ?_
            exact norm_ (by simp only [putAll,Act.put,List.setIfInBounds_toArray,List.set_cons_zero,List.set_cons_succ]) (hCont (ak) _ ⟨hHeld,(by(with_reducible repeat (first | apply Kd.R_alloc | apply Kd.R_drewN | apply Kd.R_drew));exact Kd.R_mono HL1447_0.out (fun _ hk=>⟨hk.2,hk.1⟩)),(by(with_reducible repeat (first | apply Kd.R_alloc | apply Kd.R_drewN | apply Kd.R_drew));exact Kd.R_mono HL1448_0.out (fun _ hk=>⟨hk.2,hk.1⟩)),(so_ ae.out),(ro_ aj.out),bk_,bk_,bk_,bk_,bF.out,bG.out,aK.out,aM.out,aA.out,aN.out,ay.out,aT.out,hb_⟩)
          rintro ak w34 ⟨hS_,h0_,h1_,h2_,h3_,h4_,h5_,h6_,h7_,h8_,h9_,h10_,h11_,h12_,h13_,h14_,h15_,h16_⟩
          have n0_:Aside0 (Kd.R (Kd.int .i64) 2 w34 w.heap.size (fun k_=>some k_≠(.slice (some aH) aq.length aX:Value).ownBlock∧some k_≠(.slice (some aG) aw.length aV:Value).ownBlock) (.slice (some aY) (rd_L1 aq ai).length ba) (rd_L1 aq ai)):=⟨h0_⟩
          have n1_:Aside0 (Kd.R (Kd.int .i64) 2 w34 w.heap.size (fun k_=>some k_≠(.slice (some aH) aq.length aX:Value).ownBlock∧some k_≠(.slice (some aG) aw.length aV:Value).ownBlock) (.slice (some aY) (rd_L1 aq ai).length ba) (rd_L1 aq ai)):=⟨h1_⟩
          have n2_:Aside0 (Kd.S (Kd.slice 2 (Kd.int .i64)) 23 w34 w.heap.size (fun k_=>some k_≠(.slice (some aG) aw.length aV:Value).ownBlock) (.slice (some aH) aq.length aX) aq):=⟨h2_⟩
          have n3_:Aside0 (Kd.R (Kd.int .i64) 2 w34 w.heap.size (fun _=>True) (.slice (some aG) aw.length aV) aw):=⟨h3_⟩
          have n4_:Aside0 (w34.heap[ax]?=some (.cells #[.slice bi aW.length bk, .slice bn aI.length bq] 30 (0,0))):=⟨h4_⟩
          have n5_:Aside0 (w34.heap[av]?=some (.cells #[.int .i64 aU, .int .i64 aD] 93 (0,0))):=⟨h5_⟩
          have n6_:Aside0 (w34.heap[ah]?=some (.cells #[.slice (some aH) aq.length aX, .int .i64 aC, .slice (some aG) aw.length aV] 100 (0,0))):=⟨h6_⟩
          have n7_:Aside0 (w34.heap[ak]?=some (.cells #[.int .i64 0, .int .i64 0] 93 (0,0))):=⟨h7_⟩
          have n8_:Aside0 (w.heap.size≤ak):=⟨h8_⟩
          have n9_:Aside0 (w.heap.size≤ak):=⟨h9_⟩
          have n10_:Aside0 (ax≠ak):=⟨h10_⟩
          have n11_:Aside0 (ak≠ax):=⟨h11_⟩
          have n12_:Aside0 (av≠ak):=⟨h12_⟩
          have n13_:Aside0 (ak≠av):=⟨h13_⟩
          have n14_:Aside0 (ah≠ak):=⟨h14_⟩
          have n15_:Aside0 (ak≠ah):=⟨h15_⟩
          have n16_:Aside0 (Below w.heap.size w w34):=⟨h16_⟩
          clear ae aj af ag aa HB h0_ h1_ h2_ h3_ h4_ h5_ h6_ h7_ h8_ h9_ h10_ h11_ h12_ h13_ h14_ h15_ h16_
          have HL1447_0:=n0_
          have HL1448_0:=n1_
          have ae:=n2_
          have aj:=n3_
          have af:=n4_
          have ag:=n5_
          have aa:=n6_
          have au:=n7_
          have bF:=n8_
          have bG:=n9_
          have aK:=n10_
          have aM:=n11_
          have aA:=n12_
          have aN:=n13_
          have ay:=n14_
          have aT:=n15_
          have HB:=n16_
          clear n0_ n1_ n2_ n3_ n4_ n5_ n6_ n7_ n8_ n9_ n10_ n11_ n12_ n13_ n14_ n15_ n16_
          have hHeld:w34.cell? ⟨ah,0,none⟩=some (.slice (some aH) aq.length aX)∧w34.cell? ⟨ah,1,none⟩=some (.int .i64 aC)∧w34.cell? ⟨ah,2,none⟩=some (.slice (some aG) aw.length aV)∧w34.cell? (aH.add (ai).toNat)=some (.slice (some aY) (rd_L1 aq ai).length ba)∧w34.cell? (aH.add (ai).toNat)=some (.slice (some aY) (rd_L1 aq ai).length ba)∧w34.cell? (aY.add ((ji21)).toNat)=some (.int .i64 (rd (rd_L1 aq ai) (ji21))):=hS_
          refine norm_ (a':=?_) ?_ ?_
          rotate_left
          ·simp only [putAll,Act.put,List.setIfInBounds_toArray,List.set_cons_zero,List.set_cons_succ]
           rfl
          refine on_ 22 none (fun K hK=>?_)
          have hs35:w34.cell? ⟨ak,0,none⟩=some (.int .i64 0):=(blk_cell au.out 0).trans rfl
          have hfs35:=blk_frozen au.out 0
          have hns35_0:=aK.out
          have hns35_1:=aA.out
          have hns35_2:=ay.out
          have hms35_0:=aM.out
          have hms35_1:=aN.out
          have hms35_2:=aT.out
          have hs36:w34.cell? ⟨ak,1,none⟩=some (.int .i64 0):=(blk_cell au.out 1).trans rfl
          have hfs36:=blk_frozen au.out 1
          have hns36_0:=aK.out
          have hns36_1:=aA.out
          have hns36_2:=ay.out
          have hms36_0:=aM.out
          have hms36_1:=aN.out
          have hms36_2:=aT.out
          refine skip_ (w1:=?_) (by rfl) rfl ?_ ?_
          rotate_left
          ·go_simp
           rfl
          refine hK.out _ _ ⟨((cell_far (p:=⟨ak,_,none⟩) ay.out _).trans (((cell_far (p:=⟨ak,_,none⟩) ay.out _).trans (hHeld.1)))),((cell_far (p:=⟨ak,_,none⟩) ay.out _).trans (((cell_far (p:=⟨ak,_,none⟩) ay.out _).trans (hHeld.2.1)))),((cell_far (p:=⟨ak,_,none⟩) ay.out _).trans (((cell_far (p:=⟨ak,_,none⟩) ay.out _).trans (hHeld.2.2.1)))),((cell_far (p:=⟨ak,_,none⟩) (by first | exact Kd.own_blk (Kd.S_ne ae.out au.out (by decide)) | (rw [add_block];exact Kd.own_blk (Kd.S_ne ae.out au.out (by decide))) | (show (Addr.add _ _).block≠_;rw [add_block];exact Kd.own_blk (Kd.S_ne ae.out au.out (by decide))) | (dsimp only;exact Kd.own_blk (Kd.S_ne ae.out au.out (by decide)))) _).trans (((cell_far (p:=⟨ak,_,none⟩) (by first | exact Kd.own_blk (Kd.S_ne ae.out au.out (by decide)) | (rw [add_block];exact Kd.own_blk (Kd.S_ne ae.out au.out (by decide))) | (show (Addr.add _ _).block≠_;rw [add_block];exact Kd.own_blk (Kd.S_ne ae.out au.out (by decide))) | (dsimp only;exact Kd.own_blk (Kd.S_ne ae.out au.out (by decide)))) _).trans (hHeld.2.2.2.1)))),((cell_far (p:=⟨ak,_,none⟩) (by first | exact Kd.own_blk (Kd.S_ne ae.out au.out (by decide)) | (rw [add_block];exact Kd.own_blk (Kd.S_ne ae.out au.out (by decide))) | (show (Addr.add _ _).block≠_;rw [add_block];exact Kd.own_blk (Kd.S_ne ae.out au.out (by decide))) | (dsimp only;exact Kd.own_blk (Kd.S_ne ae.out au.out (by decide)))) _).trans (((cell_far (p:=⟨ak,_,none⟩) (by first | exact Kd.own_blk (Kd.S_ne ae.out au.out (by decide)) | (rw [add_block];exact Kd.own_blk (Kd.S_ne ae.out au.out (by decide))) | (show (Addr.add _ _).block≠_;rw [add_block];exact Kd.own_blk (Kd.S_ne ae.out au.out (by decide))) | (dsimp only;exact Kd.own_blk (Kd.S_ne ae.out au.out (by decide)))) _).trans (hHeld.2.2.2.2.1)))),((cell_far (p:=⟨ak,_,none⟩) (by first | exact Kd.own_blk (Kd.R_ne HL1447_0.out au.out (by decide)) | (rw [add_block];exact Kd.own_blk (Kd.R_ne HL1447_0.out au.out (by decide))) | (show (Addr.add _ _).block≠_;rw [add_block];exact Kd.own_blk (Kd.R_ne HL1447_0.out au.out (by decide))) | (dsimp only;exact Kd.own_blk (Kd.R_ne HL1447_0.out au.out (by decide)))) _).trans (((cell_far (p:=⟨ak,_,none⟩) (by first | exact Kd.own_blk (Kd.R_ne HL1447_0.out au.out (by decide)) | (rw [add_block];exact Kd.own_blk (Kd.R_ne HL1447_0.out au.out (by decide))) | (show (Addr.add _ _).block≠_;rw [add_block];exact Kd.own_blk (Kd.R_ne HL1447_0.out au.out (by decide))) | (dsimp only;exact Kd.own_blk (Kd.R_ne HL1447_0.out au.out (by decide)))) _).trans (hHeld.2.2.2.2.2))))⟩ (fun hHeld=>?_)
          clear hK K
          refine pu_ 23 12 ?_
          refine done_ (done_of HT_.out (by kernel_rfl)) ?_
          have eK:=aM.out
          have eL:=aK.out
          have eM:=aN.out
          have eO:=aA.out
          have eP:=aT.out
          have eQ:=ay.out
          have db:w34.cell? ⟨ak,0,none⟩=some (.int .i64 0):=(blk_cell au.out 0).trans rfl
          have df:w34.cell? ⟨ak,1,none⟩=some (.int .i64 0):=(blk_cell au.out 1).trans rfl
          have dh:=blk_frozen au.out 0
          have di:=blk_frozen au.out 1
          have eS:=bh.out
          have eT:=bg.out
          have dl:w34.cell? ⟨av,0,none⟩=some (.int .i64 aU):=(blk_cell ag.out 0).trans rfl
          have dr:w34.cell? ⟨av,1,none⟩=some (.int .i64 aD):=(blk_cell ag.out 1).trans rfl
          have du:=blk_frozen ag.out 0
          have dw:=blk_frozen ag.out 1
          try go_wp2
          refine bodyPost_ret (results_ct rfl _ _ av 93 #[.int .i64 bB, .int .i64 bE] (0,0) _ rfl (by(with_reducible repeat (first | refine blk_drewN ?_ _ | refine blk_drew ?_ | refine blk_alloc ?_ _));refine blk_put (cs:= #[.int .i64 bB, .int .i64 aD]) ?_ 1 _ rfl;(with_reducible repeat (first | refine blk_drewN ?_ _ | refine blk_drew ?_ | refine blk_alloc ?_ _));refine blk_put (cs:= #[.int .i64 aU, .int .i64 aD]) ?_ 0 _ rfl;(with_reducible repeat (first | refine blk_drewN ?_ _ | refine blk_drew ?_ | refine blk_alloc ?_ _));refine blk_far ?_ aA.out _;(with_reducible repeat (first | refine blk_drewN ?_ _ | refine blk_drew ?_ | refine blk_alloc ?_ _));refine blk_far ?_ aA.out _;(with_reducible repeat (first | refine blk_drewN ?_ _ | refine blk_drew ?_ | refine blk_alloc ?_ _));exact ag.out) Try.underlying93 rfl (by kernel_rfl)) rfl ?_
          exact⟨by first | rfl | (simp [errW_none,errW_some] <;> rfl) | (simp only [← hji21];first | rfl | (simp [errW_none,errW_some] <;> rfl)) | (simp [*,errW_none,errW_some] <;> rfl),hb_⟩
         ·rw [if_neg c23] at H
          exact absurd H (by simp)
        ·rw [if_neg c22] at H
         exact absurd H (by simp)
       ·rw [if_neg c20] at H
        exact absurd H (by simp)
      ·rw [if_neg c19] at H
       have c19b0:((rd aw ai)==(wrap64 (2*(aI.length:Int))))=false:=beq_eq_false_iff_ne.mpr c19
       have c19b1:((rd aw ai) !=(wrap64 (2*(aI.length:Int))))=true:=bne_iff_ne.mpr c19
       have H':=q_ H
       clear H
       have eU:=aZ.out
       have eV:=aJ.out
       have eW:=a9.out
       have eX:=az.out
       have dx:wr.cell? ⟨ah,0,none⟩=some (.slice bC aq.length aX):=(blk_cell aa.out 0).trans rfl
       have dz:wr.cell? ⟨ah,1,none⟩=some (.int .i64 aC):=(blk_cell aa.out 1).trans rfl
       have dA:wr.cell? ⟨ah,2,none⟩=some (.slice bJ aw.length aV):=(blk_cell aa.out 2).trans rfl
       have dB:=blk_frozen aa.out 0
       have dC:=blk_frozen aa.out 1
       have dD:=blk_frozen aa.out 2
       try go_wp2
       replace ae:=q_ (Kd.S_drew ae.out)
       replace aj:=q_ (Kd.R_drew aj.out)
       replace af:=q_ (blk_drew af.out)
       replace ag:=q_ (blk_drew ag.out)
       replace aa:=q_ (blk_drew aa.out)
       replace HB:=q_ (below_drew1 HB.out)
       have p1446:0≤(ai:Int):=od_
       have q1446:ai < (aw.length:Int):=od_
       obtain⟨aG,e1446,hx1446_0⟩:=Kd.at_int (Kd.R_reads' aj.out).2.2 ai p1446 q1446
       cases e1446
       replace p1446:=eq_true p1446
       replace q1446:=eq_true q1446
       refine st_ (n:=10) (S:=fun w'=>w'.cell? ⟨ah,0,none⟩=some (.slice bC aq.length aX)∧w'.cell? ⟨ah,1,none⟩=some (.int .i64 aC)∧w'.cell? ⟨ah,2,none⟩=some (.slice (some aG) aw.length aV)∧w'.cell? ⟨ax,0,none⟩=some (.slice bi aW.length bk)∧w'.cell? ⟨ax,1,none⟩=some (.slice bn aI.length bq)∧w'.cell? (aG.add (ai).toNat)=some (.int .i64 (rd aw ai))) (ds:= []) ⟨(blk_cell aa.out 0).trans rfl,(blk_cell aa.out 1).trans rfl,(blk_cell aa.out 2).trans rfl,(blk_cell af.out 0).trans rfl,(blk_cell af.out 1).trans rfl,hx1446_0⟩ (fun hHeld=>?_);refine with_tabW spec_CoverAfter.tab7 spec_CoverAfter.bits7 (fun HT_ HW_=>?_)
       generalize wr.drew=w46 at ae aj af ag aa HB hx1446_0 hHeld ⊢
       refine pu_ 0 31 ?_;refine pu_ 2 33 ?_;refine pu_ 5 36 ?_;refine tk_ 1 32 ?_;refine pu_ 3 34 ?_;refine tk_ 4 35 ?_;refine tk_ 6 37 ?_;refine pu_ 7 38 ?_;refine pu_ 8 39 ?_;refine pu_ 9 40 ?_
       refine done_ (done_of HT_.out (by kernel_rfl)) ?_
       try go_wp2
       go_roundg k1
       case measure=>have:=HK1.out;omega
       case rel=>exact⟨(wrap64 (ai+1)),(aU),(aD),rs_,H',⟨by have:=HK1.out;omega⟩,⟨so_ ae.out⟩,⟨ro_ aj.out⟩,⟨bk_⟩,⟨bk_⟩,⟨bk_⟩,⟨hb_⟩⟩
     ·rw [if_neg c18] at H
      exact absurd H (by simp)
    ·rw [if_neg c17] at H
     have c17b0:decide (ai < (aw.length:Int))=false:=decide_eq_false c17
     clear c17
     simp only [Option.some.injEq,Prod.mk.injEq] at H
     obtain⟨rfl,rfl,rfl⟩:=H
     have eY:=aZ.out
     have eZ:=aJ.out
     have fa:=a9.out
     have fc:=az.out
     have dE:wr.cell? ⟨ah,0,none⟩=some (.slice bC aq.length aX):=(blk_cell aa.out 0).trans rfl
     have dF:wr.cell? ⟨ah,1,none⟩=some (.int .i64 aC):=(blk_cell aa.out 1).trans rfl
     have dG:wr.cell? ⟨ah,2,none⟩=some (.slice bJ aw.length aV):=(blk_cell aa.out 2).trans rfl
     have dH:=blk_frozen aa.out 0
     have dI:=blk_frozen aa.out 1
     have dJ:=blk_frozen aa.out 2
     have fe:=bh.out
     have fg:=bg.out
     have dK:wr.cell? ⟨av,0,none⟩=some (.int .i64 aU):=(blk_cell ag.out 0).trans rfl
     have dL:wr.cell? ⟨av,1,none⟩=some (.int .i64 aD):=(blk_cell ag.out 1).trans rfl
     have dM:=blk_frozen ag.out 0
     have dN:=blk_frozen ag.out 1
     go_wp2
     refine bodyPost_ret (results_ct rfl _ _ av 93 #[.int .i64 0, .int .i64 1] (0,0) _ rfl (by(with_reducible repeat (first | refine blk_drewN ?_ _ | refine blk_drew ?_ | refine blk_alloc ?_ _));refine blk_put (cs:= #[.int .i64 0, .int .i64 aD]) ?_ 1 _ rfl;(with_reducible repeat (first | refine blk_drewN ?_ _ | refine blk_drew ?_ | refine blk_alloc ?_ _));refine blk_put (cs:= #[.int .i64 aU, .int .i64 aD]) ?_ 0 _ rfl;(with_reducible repeat (first | refine blk_drewN ?_ _ | refine blk_drew ?_ | refine blk_alloc ?_ _));exact ag.out) Try.underlying93 rfl (by kernel_rfl)) rfl ?_
     exact⟨by first | rfl | (simp [errW_none,errW_some] <;> rfl) | (simp [*,errW_none,errW_some] <;> rfl),hb_⟩
 ·rw [if_neg c5] at H
  have c5b0:(bA==0)=false:=beq_eq_false_iff_ne.mpr c5
  have c5b1:(bA !=0)=true:=bne_iff_ne.mpr c5
  simp only [Option.some.injEq,Prod.mk.injEq] at H
  obtain⟨rfl,rfl,rfl⟩:=H
  go_enter Try.func82,Try.ntmps82
  go_wp2_with (first | ((with_reducible refine gate_dst (N:=3) rfl ?_);refine box_event ?hg (N:=3) ?hd (cs:= #[.slice bi aW.length bk, .slice bn aI.length bq]) (t:=30) ?hr ?_;(case hd=>rfl);(case hg=>rfl);(case hr=>first | (go_simp;done) | (go_simp;rfl));intro ax hg w52 hbox hb;have af:=q_ (hbox);have co:=q_ ((by rw [hg];exact bz_:w.heap.size≤ax));have cq:=q_ ((by rw [hg];exact bz_:w.heap.size≤ax));replace HB:=q_ (bs_ hb);clear hb hbox hg) | ((with_reducible refine gate_dst (N:=6) rfl ?_);refine box_event ?hg (N:=6) ?hd (cs:= #[.int .i64 0, .int .i64 0]) (t:=93) ?hr ?_;(case hd=>rfl);(case hg=>rfl);(case hr=>first | (go_simp;done) | (go_simp;rfl));intro av hg w53 hbox hb;have ag:=q_ (hbox);have ct:=q_ ((by rw [hg];exact bz_:w.heap.size≤av));have cz:=q_ ((by rw [hg];exact bz_:w.heap.size≤av));have bg:=q_ ((by rw [hg];exact lt_ af.out:ax≠av));have bh:=q_ ((by rw [hg];exact gt_ af.out:av≠ax));replace af:=q_ (bb_ af.out hb);replace HB:=q_ (bs_ hb);clear hb hbox hg;have fj:=bg.out;have fk:=bh.out;have dO:w53.cell? ⟨ax,0,none⟩=some (.slice bi aW.length bk):=(blk_cell af.out 0).trans rfl;have dP:w53.cell? ⟨ax,1,none⟩=some (.slice bn aI.length bq):=(blk_cell af.out 1).trans rfl;have dQ:=blk_frozen af.out 0;have dR:=blk_frozen af.out 1) | ((with_reducible refine gate_callee (f:=85) rfl ?_);refine gL_ 17 Try.func85 #[.agg #[.slice bi aW.length bk, .slice bn aI.length bq], .slice A1 l1.length c1, .int .i64 a2] ?_;(with_reducible refine(spec_l05After.calls k _ _ aW _ _ aI _ _ l1 a2 aq aC aw bA _ ?bK ?bL ?bM ?bN ?bO ?bP A4.out).mono ?_);(case bK=>exact cb_ HR0_0.out HB.out);(case bL=>exact HC0_0.out);(case bM=>exact cb_ HR0_1.out HB.out);(case bN=>exact HC0_1.out);(case bO=>exact cb_ HR1.out HB.out);(case bP=>exact HC1.out);rintro e w56 ⟨cH,cI,rfl,ho0,ho1,hb⟩;refine⟨_,rfl,?_⟩;have bw:=q_ (Kd.S_lower ho0 bz_);have bz:=q_ (Kd.R_lower ho1 bz_);replace af:=q_ (bb_ af.out hb);replace ag:=q_ (bb_ ag.out hb);replace HB:=q_ (bs_ hb);(try clear hb);(try clear hb2);(try clear hk);(try clear hi);(try clear ho0);(try clear ho1)) | ((with_reducible refine gate_dst (N:=8) rfl ?_);refine box_event ?hg (N:=8) ?hd (cs:= #[.slice none 0 0, .int .i64 0, .slice none 0 0]) (t:=100) ?hr ?_;(case hd=>rfl);(case hg=>rfl);(case hr=>first | (go_simp;done) | (go_simp;rfl));intro ah hg w57 hbox hb;replace bw:=q_ (Kd.S_below (so_ bw.out) hb);replace bz:=q_ (rb_ bz.out hb);have aa:=q_ (hbox);have cE:=q_ ((by rw [hg];exact bz_:w.heap.size≤ah));have cF:=q_ ((by rw [hg];exact bz_:w.heap.size≤ah));have aJ:=q_ ((by rw [hg];exact lt_ af.out:ax≠ah));have aZ:=q_ ((by rw [hg];exact gt_ af.out:ah≠ax));have az:=q_ ((by rw [hg];exact lt_ ag.out:av≠ah));have a9:=q_ ((by rw [hg];exact gt_ ag.out:ah≠av));replace af:=q_ (bb_ af.out hb);replace ag:=q_ (bb_ ag.out hb);replace HB:=q_ (bs_ hb);clear hb hbox hg;obtain⟨fB,fC,cL⟩:=Kd.S_slice bw.out;subst cL;have fo:=aZ.out;have fp:=aJ.out;have fq:=a9.out;have fu:=az.out;have dS:w57.cell? ⟨ah,0,none⟩=some (.slice none 0 0):=(blk_cell aa.out 0).trans rfl;have dU:w57.cell? ⟨ah,1,none⟩=some (.int .i64 0):=(blk_cell aa.out 1).trans rfl;have dV:w57.cell? ⟨ah,2,none⟩=some (.slice none 0 0):=(blk_cell aa.out 2).trans rfl;have dW:=blk_frozen aa.out 0;have dX:=blk_frozen aa.out 1;have dY:=blk_frozen aa.out 2;obtain⟨fD,fE,cN⟩:=Kd.R_slice bz.out;subst cN;have dZ:w57.cell? ⟨av,0,none⟩=some (.int .i64 0):=(blk_cell ag.out 0).trans rfl;have d9:w57.cell? ⟨av,1,none⟩=some (.int .i64 0):=(blk_cell ag.out 1).trans rfl;have ep:=blk_frozen ag.out 0;have ez:=blk_frozen ag.out 1))
  refine bodyPost_ret (results_ct rfl _ _ av 93 #[.int .i64 0, .int .i64 0] (0,0) _ rfl (by(with_reducible repeat (first | refine blk_drewN ?_ _ | refine blk_drew ?_ | refine blk_alloc ?_ _));refine blk_put (cs:= #[.int .i64 0, .int .i64 0]) ?_ 1 _ rfl;(with_reducible repeat (first | refine blk_drewN ?_ _ | refine blk_drew ?_ | refine blk_alloc ?_ _));refine blk_put (cs:= #[.int .i64 0, .int .i64 0]) ?_ 0 _ rfl;(with_reducible repeat (first | refine blk_drewN ?_ _ | refine blk_drew ?_ | refine blk_alloc ?_ _));refine blk_far ?_ az.out _;(with_reducible repeat (first | refine blk_drewN ?_ _ | refine blk_drew ?_ | refine blk_alloc ?_ _));refine blk_far ?_ az.out _;(with_reducible repeat (first | refine blk_drewN ?_ _ | refine blk_drew ?_ | refine blk_alloc ?_ _));refine blk_far ?_ az.out _;(with_reducible repeat (first | refine blk_drewN ?_ _ | refine blk_drew ?_ | refine blk_alloc ?_ _));exact ag.out) Try.underlying93 rfl (by kernel_rfl)) rfl ?_
  exact⟨by first | rfl | (simp [errW_none,errW_some] <;> rfl) | (simp [*,errW_none,errW_some] <;> rfl),hb_⟩
end Go.Proofs.Ytmpkckiifeikkaa.Pr
end
section
namespace Go.Proofs.Ytmpkckiifeikkaa.Lsa
open Go.RowKit Go.Proofs.YtmpkckiifeikkaaW.PrintWords Go.Proofs.YtmpkckiifeikkaaW.PrintMore Go.Proofs.Ytmpkckiifeikkaa.Ma Go.Proofs.Ytmpkckiifeikkaa.Pr Go.Proofs.Ytmpkckiifeikkaa.Dt Go.Proofs.Ytmpkckiifeikkaa.Lk Go.Proofs.Ytmpkckiifeikkaa.Lt Go.Proofs.Ytmpkckiifeikkaa.Lq Go.Proofs.Ytmpkckiifeikkaa.Lp Go.Proofs.Ytmpkckiifeikkaa.Fr
theorem cover_both (M:List (List Int)) (Q cv:List Int) (a:Int) (hQ:Q.length≤1048576) (hcv:cv.length≤1048576): ∃R:Int × Int × Int,Ev (fun k=>spec_CoverAfter.f k M Q cv a) R∧Ev (fun k=>impl_CoverAfter.f k M Q cv a) R∧(R=(0,0,R.2.2)∨ ∃x y:Int,R=toldV (x,y)):=by
 unfold spec_CoverAfter.f impl_CoverAfter.f caF
 by_cases c:afC M Q cv a=0
 ·have hpc:=lkCode_pc (afC_lk c).1
  have hok:=(lkR_ok hpc a.toNat).1
  have hA:=first_small (n:=Q.length) (M:=enL M) (cv:=fun i=>cv.getD i 0) (q:=fun i=>Q.getD i 0) hpc.Mb (fun i hi=>by have:=hpc.cb i hi;omega) hpc.qb
  have hT: ∀i j,i < Q.length→j < 2*Q.length+2→Bnd ((lkR M Q cv a.toNat).1.T i j):=fun i j hi hj=>hok.abs hpc.le hA hi hj
  have hden:=hok.den_le hpc.le hA
  have hl:=hok.len
  have h5:=hpc.le
  have e:afE M Q cv a=(rowsM Q.length (2*Q.length+2) (lkR M Q cv a.toNat).1.T,(lkR M Q cv a.toNat).1.den,(lkR M Q cv a.toNat).1.bs,0):=if_pos c
  generalize hs:(lkR M Q cv a.toNat).1=s at hT hden hl e
  have hbd:Big s.den:=⟨by omega,by omega⟩
  have big: ∀i,i < Q.length→Big (s.T i (2*Q.length+1)):=fun i hi=>by
   have:=hT i (2*Q.length+1) hi (by omega)
   unfold Bnd at this
   exact⟨by omega,by omega⟩
  have loop: ∀q i,i+q=Q.length→ ∃R:Int × Int × Int,Ev (fun k=>spec_CoverAfter.l0 k (i:Int) M Q (rowsM Q.length (2*Q.length+2) s.T) s.den s.bs) R∧Ev (fun k=>(slices_Index_int_int.l0 k s.bs (2*(Q.length:Int)) (s.bs.length:Int) (i:Int)).bind fun i=>if i < 0 then some (0,1,0) else if i < (Q.length:Int) then impl_reduced.f k (s.T i.toNat (2*Q.length+1)) s.den else none) R∧(R=(0,0,R.2.2)∨ ∃x y:Int,R=toldV (x,y)):=by
   intro q
   induction q with
   | zero=>
    intro i hi
    have hix:Ev (fun k=>slices_Index_int_int.l0 k s.bs (2*(Q.length:Int)) (s.bs.length:Int) (i:Int)) (-1):=evstep (fun k=>by rw [slices_Index_int_int.l0]) (evneg (by rw [hl];omega) (evc rfl))
    refine⟨(0,1,0),evstep (fun k=>by rw [spec_CoverAfter.l0]) (evneg (by rw [hl];omega) (evc rfl)),?_, .inr ⟨0,1,told_zero.symm⟩⟩
    exact evbind hix (evpos (by decide) (evc rfl))
   | succ q ih=>
    intro i hi
    by_cases d:s.bs.getD i 0=2*(Q.length:Int)
    ·have hix:Ev (fun k=>slices_Index_int_int.l0 k s.bs (2*(Q.length:Int)) (s.bs.length:Int) (i:Int)) (i:Int):=by
      refine evstep (fun k=>by rw [slices_Index_int_int.l0]) (evpos (by rw [hl];omega) (evpos (by omega) (evpos (by rw [hl];omega) ?_)))
      rw [rd_nat]
      exact evpos d.symm (evc rfl)
     refine⟨redV (s.T i (2*Q.length+1)) s.den,?_,?_, .inr ⟨_,_,rfl⟩⟩
     ·refine evstep (fun k=>by rw [spec_CoverAfter.l0]) (evpos (by rw [hl];omega) (evpos (by omega) ?_))
      rw [rd_nat,w64 (x:=2*(Q.length:Int)) (by omega) (by omega),at_rows (show i < Q.length by omega),rowN_len,w64 (x:=((2*Q.length+2:Nat):Int) - 1) (by omega) (by omega),show ((2*Q.length+2:Nat):Int) - 1=((2*Q.length+1:Nat):Int) from by omega,at_num (by omega)]
      exact evpos d (evpos (by rw [rowsM_len];omega) (evpos (by omega) (evpos (by omega) (evbind (sfrac_eq _ _ (big i (by omega)) hbd hden.1) (evbind (told_eq _ _) (evc rfl))))))
     ·refine evbind hix ?_
      exact evneg (by omega) (evpos (by omega) (red_eq _ _ (big i (by omega)) hbd hden.1))
    ·obtain⟨R,h1,⟨k2,h2⟩,h3⟩:=ih (i+1) (by omega)
     refine⟨R,?_,?_,h3⟩
     ·refine evstep (fun k=>by rw [spec_CoverAfter.l0]) (evpos (by rw [hl];omega) (evpos (by omega) ?_))
      rw [rd_nat,w64 (x:=2*(Q.length:Int)) (by omega) (by omega),w64 (x:=(i:Int)+1) (by omega) (by omega)]
      exact evneg d h1
     ·refine⟨k2+1,fun k hk=>?_⟩
      obtain⟨p,rfl⟩: ∃p,k=p+1:=⟨k - 1,by omega⟩
      have hp:=h2 p (by omega)
      show ((slices_Index_int_int.l0 (p+1) s.bs (2*(Q.length:Int)) (s.bs.length:Int) (i:Int)).bind fun i=>if i < 0 then some (0,1,0) else if i < (Q.length:Int) then impl_reduced.f (p+1) (s.T i.toNat (2*Q.length+1)) s.den else none)=some R
      rw [slices_Index_int_int.l0,if_pos (by rw [hl];omega),if_pos (by omega),if_pos (by rw [hl];omega),rd_nat,if_neg (fun q=>d q.symm),w64 (x:=(i:Int)+1) (by omega) (by omega)]
      obtain⟨z,hz,hz2⟩:=Option.bind_eq_some_iff.1 hp
      refine Option.bind_eq_some_iff.2 ⟨z,hz,?_⟩
      by_cases g:z < 0
      ·rw [if_pos g] at hz2 ⊢;exact hz2
      ·rw [if_neg g] at hz2 ⊢
       by_cases g2:z < (Q.length:Int)
       ·rw [if_pos g2] at hz2 ⊢;exact impl_reduced.mono _ _ _ _ hz2
       ·rw [if_neg g2] at hz2;cases hz2
  obtain⟨R,h1,h2,h3⟩:=loop Q.length 0 (by omega)
  refine⟨R,evbind (after_eq M Q cv a hQ hcv) ?_,evpos c h2,h3⟩
  rw [e]
  exact evpos rfl h1
 ·refine⟨(0,0,afC M Q cv a),evbind (after_eq M Q cv a hQ hcv) ?_,evneg c (evc rfl), .inl rfl⟩
  have e:afE M Q cv a=([],0, [],afC M Q cv a):=if_neg c
  rw [e]
  exact evneg c (evc rfl)
end Go.Proofs.Ytmpkckiifeikkaa.Lsa
end
section
namespace Go.Proofs.Ytmpkckiifeikkaa.Lsa
open Go.RowKit Go.Proofs.YtmpkckiifeikkaaW.PrintWords Go.Proofs.YtmpkckiifeikkaaW.PrintMore Go.Proofs.Ytmpkckiifeikkaa.Ma Go.Proofs.Ytmpkckiifeikkaa.Pr Go.Proofs.Ytmpkckiifeikkaa.Dt Go.Proofs.Ytmpkckiifeikkaa.Lk Go.Proofs.Ytmpkckiifeikkaa.Lt Go.Proofs.Ytmpkckiifeikkaa.Lq Go.Proofs.Ytmpkckiifeikkaa.Lp Go.Proofs.Ytmpkckiifeikkaa.Fr
theorem basis_at {M:List (List Int)} {Q cv:List Int} {a:Int} (c:afC M Q cv a=0):impl_BasisAfter.f M Q cv a=some ((lkR M Q cv a.toNat).1.bs,0):=by
 unfold impl_BasisAfter.f baF
 rw [if_pos c]
theorem steps_at {M:List (List Int)} {Q cv:List Int} {a:Int} (c:afC M Q cv a=0):impl_LemkeSteps.f M Q cv=some ((lkR M Q cv 201).2.1,(lkR M Q cv 201).2.2.1,0):=by
 unfold impl_LemkeSteps.f lsF
 rw [if_pos (afC_lk c).1,if_pos (afC_lk c).2.1]
theorem afC_pred {M:List (List Int)} {Q cv:List Int} {a:Int} (c:afC M Q cv a=0) (ha:0 < a):afC M Q cv (a - 1)=0:=by
 obtain⟨h1,h2,h3,h4⟩:=afC_lk c
 unfold afC afC'
 rw [if_pos h1,if_pos h2,if_pos ⟨by omega,by omega⟩]
theorem rights_no {M:List (List Int)} {Q cv:List Int} {a:Int} (c: ¬ afC M Q cv a=0) (k:Nat):impl_RightAfter.f k M Q cv a=some ([],afC M Q cv a):=by
 unfold impl_RightAfter.f raF
 rw [if_neg c]
theorem rights_at {M:List (List Int)} {Q cv:List Int} {a:Int} (hQ:Q.length≤1048576) (hcv:cv.length≤1048576) (c:afC M Q cv a=0):Ev (fun k=>spec_RightAfter.f k M Q cv a) (rtL (lkR M Q cv a.toNat).1 Q.length,0):=by
 have hpc:=lkCode_pc (afC_lk c).1
 have hok:=(lkR_ok hpc a.toNat).1
 have hA:=first_small (n:=Q.length) (M:=enL M) (cv:=fun i=>cv.getD i 0) (q:=fun i=>Q.getD i 0) hpc.Mb (fun i hi=>by have:=hpc.cb i hi;omega) hpc.qb
 have hT: ∀i j,i < Q.length→j < 2*Q.length+2→Bnd ((lkR M Q cv a.toNat).1.T i j):=fun i j hi hj=>hok.abs hpc.le hA hi hj
 have hden:=hok.den_le hpc.le hA
 have e:afE M Q cv a=(rowsM Q.length (2*Q.length+2) (lkR M Q cv a.toNat).1.T,(lkR M Q cv a.toNat).1.den,(lkR M Q cv a.toNat).1.bs,0):=if_pos c
 unfold spec_RightAfter.f
 refine evbind (after_eq M Q cv a hQ hcv) ?_
 rw [e]
 refine evpos rfl (evbind (spec_right rfl hpc.le hT hden.1 hden.2) (evc ?_))
 rw [right_list hpc]
theorem steps_le {M:List (List Int)} {Q cv:List Int} (h:PC M Q cv Q.length):(lkR M Q cv 201).2.2.2.2=0:=Lcy.no_limit h 201
theorem one_change {M:List (List Int)} {Q cv:List Int} {a:Int} (c:afC M Q cv a=0) (ha:0 < a) (h200:(lkR M Q cv 201).2.1.length≤200):
  ∃r v:Nat,r < Q.length∧(v:Int)≠(lkR M Q cv (a - 1).toNat).1.bs.getD r 0∧(lkR M Q cv a.toNat).1.bs=(lkR M Q cv (a - 1).toNat).1.bs.set r (v:Int)∧(lkR M Q cv 201).2.1.getD (a - 1).toNat []= [(v:Int),(lkR M Q cv (a - 1).toNat).1.bs.getD r 0]:=by
 obtain⟨h1,h2,h3,h4⟩:=afC_lk c
 obtain⟨m,rfl⟩: ∃m:Nat,a=(m:Int)+1:=⟨(a - 1).toNat,by omega⟩
 rw [show ((m:Int)+1 - 1).toNat=m by omega,show ((m:Int)+1).toNat=m+1 by omega]
 exact Lcy.basis_next (lkCode_pc h1) (by omega) h200
theorem rights_nn {M:List (List Int)} {Q cv:List Int} {a:Int} (c:afC M Q cv a=0) (ha:0 < a): ∀x ∈ rtL (lkR M Q cv a.toNat).1 Q.length,0≤x.f0:=by
 obtain⟨h1,h2,h3,h4⟩:=afC_lk c
 exact rtL_nn (lkCode_pc h1) (by omega) (by omega)
theorem bs_len {M:List (List Int)} {Q cv:List Int} {a:Int} (c:afC M Q cv a=0):(lkR M Q cv a.toNat).1.bs.length=Q.length:=(lkR_ok (lkCode_pc (afC_lk c).1) a.toNat).1.len
theorem index_ex (l:List Int) (y:Int) (n:Nat) (hl:l.length=n) (hn:n≤5): ∃i:Int,Ev (fun k=>slices_Index_int_int.f k l y) i∧(i= -1∨ ∃j:Nat,i=(j:Int)∧j < n∧l.getD j 0=y):=by
 have loop: ∀q i,i+q=n→ ∃r:Int,Ev (fun k=>slices_Index_int_int.l0 k l y (l.length:Int) (i:Int)) r∧(r= -1∨ ∃j:Nat,r=(j:Int)∧j < n∧l.getD j 0=y):=by
  intro q
  induction q with
  | zero=>
   intro i hi
   exact⟨-1,evstep (fun k=>by rw [slices_Index_int_int.l0]) (evneg (by rw [hl];omega) (evc rfl)), .inl rfl⟩
  | succ q ih=>
   intro i hi
   by_cases d:l.getD i 0=y
   ·refine⟨(i:Int),?_, .inr ⟨i,rfl,by omega,d⟩⟩
    refine evstep (fun k=>by rw [slices_Index_int_int.l0]) (evpos (by rw [hl];omega) (evpos (by omega) (evpos (by rw [hl];omega) ?_)))
    rw [rd_nat]
    exact evpos d.symm (evc rfl)
   ·obtain⟨r,h1,h2⟩:=ih (i+1) (by omega)
    refine⟨r,?_,h2⟩
    refine evstep (fun k=>by rw [slices_Index_int_int.l0]) (evpos (by rw [hl];omega) (evpos (by omega) (evpos (by rw [hl];omega) ?_)))
    rw [rd_nat,w64 (x:=(i:Int)+1) (by omega) (by omega)]
    exact evneg (fun e=>d e.symm) h1
 exact loop n 0 (by omega)
theorem cover_at {M:List (List Int)} {Q cv:List Int} {a:Int} (c:afC M Q cv a=0): ∃x y:Int,Ev (fun k=>impl_CoverAfter.f k M Q cv a) (x,y,0)∧0≤x:=by
 obtain⟨g1,g2,g3,g4⟩:=afC_lk c
 have hpc:=lkCode_pc g1
 have hok:=(lkR_ok hpc a.toNat).1
 have hA:=first_small (n:=Q.length) (M:=enL M) (cv:=fun i=>cv.getD i 0) (q:=fun i=>Q.getD i 0) hpc.Mb (fun i hi=>by have:=hpc.cb i hi;omega) hpc.qb
 have hden:=hok.den_le hpc.le hA
 unfold impl_CoverAfter.f caF
 obtain⟨i,h1,h2⟩:=index_ex _ (2*(Q.length:Int)) Q.length (bs_len c) hpc.le
 rcases h2 with rfl | ⟨j,rfl,hj,e⟩
 ·exact⟨0,1,evpos c (evbind h1 (evpos (by decide) (evc rfl))),Int.le_refl _⟩
 ·by_cases ha:0 < a
  ·have h0:=right_ok hpc a.toNat hj (c:=2*Q.length+1) (by omega)
   have nn:=Lcy.right_nn hpc (k:=a.toNat) (by omega) (by omega) hj
   have hb:=hok.abs hpc.le hA hj (c:=2*Q.length+1) (by omega)
   refine⟨(redV ((lkR M Q cv a.toNat).1.T j (2*Q.length+1)) (lkR M Q cv a.toNat).1.den).1,(redV ((lkR M Q cv a.toNat).1.T j (2*Q.length+1)) (lkR M Q cv a.toNat).1.den).2.1,evpos c (evbind h1 (evneg (by omega) (evpos (by omega) ?_))),redV_nn nn (by omega) hden.1⟩
   have:=red_eq ((lkR M Q cv a.toNat).1.T j (2*Q.length+1)) (lkR M Q cv a.toNat).1.den ⟨by omega,by omega⟩ ⟨by omega,by omega⟩ hden.1
   have ee:redV ((lkR M Q cv a.toNat).1.T j (2*Q.length+1)) (lkR M Q cv a.toNat).1.den=(_,_,0):=Prod.ext rfl (Prod.ext rfl h0)
   rw [← ee]
   exact this
  ·rw [show a.toNat=0 by omega,Lcy.zero_bs] at e
   unfold idl at e
   simp [List.getD_eq_getElem?_getD,hj] at e
   omega
end Go.Proofs.Ytmpkckiifeikkaa.Lsa
end
section
namespace Go.Proofs.Ytmpkckiifeikkaa.Pr
open Go.RowKit Go.Proofs.YtmpkckiifeikkaaW.PrintWords Go.Proofs.YtmpkckiifeikkaaW.PrintLast Go.Proofs.YtmpkckiifeikkaaW.PrintMore
attribute [local go_sem] max2_int min2_int max_two min_two max_three min_three max_four min_four
def laws_likeInts.l0:Nat→List Int→List Int→Int→Option (Bool)
 | 0,_,_,_=>none
 | k+1,x0,x1,x5=>if x5 < (x0.length:Int) then(if 0≤x5 then(if x5 < (x1.length:Int) then(if(rd x0 x5)=(rd x1 x5) then(laws_likeInts.l0 k x0 x1 (wrap64 (x5+1))) else(some false)) else(none)) else(none)) else(some true)
def laws_likeInts.f (k:Nat) (l0:List Int) (l1:List Int):Option (Bool):=if(l0.length:Int)=(l1.length:Int) then(laws_likeInts.l0 k l0 l1 0) else(some false)
theorem laws_likeInts.mono_l: ∀k,(∀y0 y1 y2,LeO (laws_likeInts.l0 k y0 y1 y2) (laws_likeInts.l0 (k+1) y0 y1 y2))
 | 0=>fun _ _ _ r h=>by simp [laws_likeInts.l0] at h
 | k+1=>by
  have ih0:=laws_likeInts.mono_l k
  ·intro y0 y1 y2
   unfold laws_likeInts.l0
   repeat' first
   | (with_reducible exact ih0 _ _ _)
   | (with_reducible exact LeO.refl _)
   | (with_reducible exact LeO.none _)
   | (with_reducible refine LeO.ite ?_ ?_)
   | (with_reducible refine LeO.bind ?_ (fun _=>?_))
   | exact ih0 _ _ _
   | exact LeO.none _
   | refine LeO.ite ?_ ?_
   | refine LeO.bind ?_ (fun _=>?_)
theorem laws_likeInts.mono: ∀a0 a1 k,LeO (laws_likeInts.f k a0 a1) (laws_likeInts.f (k+1) a0 a1):=by
 intro a0 a1 k
 have ih0:=laws_likeInts.mono_l k
 unfold laws_likeInts.f
 repeat' first
   | (with_reducible exact ih0 _ _ _)
   | (with_reducible exact LeO.refl _)
   | (with_reducible exact LeO.none _)
   | (with_reducible refine LeO.ite ?_ ?_)
   | (with_reducible refine LeO.bind ?_ (fun _=>?_))
   | exact ih0 _ _ _
   | exact LeO.none _
   | refine LeO.ite ?_ ?_
   | refine LeO.bind ?_ (fun _=>?_)
theorem laws_likeInts.calls (k:Nat) (A0:Option Addr) (c0:Nat) (l0:List Int) (A1:Option Addr) (c1:Nat) (l1:List Int) (r:Bool) (w:World) (hr0:Kd.C (Kd.int .i64) w A0 l0.length l0) (hc0:l0.length≤c0) (hr1:Kd.C (Kd.int .i64) w A1 l1.length l1) (hc1:l1.length≤c1) (h:laws_likeInts.f k l0 l1=some r):
  Calls Try.prog 34 #[.slice A0 l0.length c0, .slice A1 l1.length c1] w fun e w'=>e= .returned (.bool r)∧Drawn0 w w':=by
 have HR0:=q_ hr0
 have HC0:=q_ hc0
 clear hr0 hc0
 have HR1:=q_ hr1
 have HC1:=q_ hc1
 clear hr1 hc1
 have H:(if(l0.length:Int)=(l1.length:Int) then(laws_likeInts.l0 k l0 l1 0) else(some false))=some r:=h
 clear h
 by_cases c3:(l0.length:Int)=(l1.length:Int)
 ·rw [if_pos c3] at H
  have c3b0:((l0.length:Int)==(l1.length:Int))=true:=beq_iff_eq.mpr c3
  have c3b1:((l0.length:Int) !=(l1.length:Int))=false:=bne_eq_false_iff_eq.mpr c3
  have c3b2:(l0.length==l1.length)=true:=by first | simpa using c3 | (simp at c3 ⊢;omega)
  clear c3
  have H':=q_ H
  clear H
  go_enter Try.func34,Try.ntmps34
  go_wp2
  repeat (go_quiet (fail);try go_wp2)
  go_loopg [5] k (fun kq v5 w'=> ∃(aa:Int),v5= .int .i64 aa∧Aside0 (laws_likeInts.l0 kq l0 l1 aa=some r)∧Aside0 (kq≤k)∧Drawn0 w w')
  case atStart=>exact⟨(0),(by first | rfl | (simp;done) | (simp [*];done)),H',⟨Nat.le_refl _⟩,by repeat (first | exact Drawn0.refl _ | apply Drawn0.step)⟩
  case round=>
   clear H'
   try clear c1
   try clear p2
   try clear c3
   try clear c3b0
   try clear c3b1
   try clear c3b2
   obtain⟨aa,rfl,HA,HK1,⟨m1,rfl⟩⟩:=hrel
   cases gk with
   | zero=>exact absurd HA.out (by simp [laws_likeInts.l0])
   | succ k1=>
    have H:=HA.out
    clear HA
    simp only [laws_likeInts.l0] at H
    by_cases c4:aa < (l0.length:Int)
    ·rw [if_pos c4] at H
     have c4b0:decide (aa < (l0.length:Int))=true:=decide_eq_true c4
     clear c4
     by_cases c5:0≤aa
     ·rw [if_pos c5] at H
      have c5b0:decide (0≤aa)=true:=decide_eq_true c5
      clear c5
      by_cases c6:aa < (l1.length:Int)
      ·rw [if_pos c6] at H
       have c6b0:decide (aa < (l1.length:Int))=true:=decide_eq_true c6
       clear c6
       by_cases c7:(rd l0 aa)=(rd l1 aa)
       ·rw [if_pos c7] at H
        have c7b0:((rd l0 aa)==(rd l1 aa))=true:=beq_iff_eq.mpr c7
        have c7b1:((rd l0 aa) !=(rd l1 aa))=false:=bne_eq_false_iff_eq.mpr c7
        clear c7
        have H':=q_ H
        clear H
        have p796:0≤(aa:Int):=of_decide_eq_true (by first | (with_reducible assumption) | assumption)
        have q796:aa < (l0.length:Int):=of_decide_eq_true (by first | (with_reducible assumption) | assumption)
        obtain⟨ae,e796,hx796_0⟩:=Kd.at_int HR0.out aa p796 q796
        cases e796
        replace p796:=eq_true p796
        replace q796:=eq_true q796
        have p797:0≤(aa:Int):=of_decide_eq_true (by first | (with_reducible assumption) | assumption)
        have q797:aa < (l1.length:Int):=of_decide_eq_true (by first | (with_reducible assumption) | assumption)
        obtain⟨af,e797,hx797_0⟩:=Kd.at_int HR1.out aa p797 q797
        cases e797
        replace p797:=eq_true p797
        replace q797:=eq_true q797
        go_wp2
        repeat (go_quiet (fail);try go_wp2)
        go_roundg k1
        case measure=>have:=HK1.out;omega
        case rel=>exact⟨(wrap64 (aa+1)),(by first | rfl | (simp;done) | (simp [*];done)),H',⟨by have:=HK1.out;omega⟩,by repeat (first | exact Drawn0.refl _ | apply Drawn0.step)⟩
       ·rw [if_neg c7] at H
        have c7b0:((rd l0 aa)==(rd l1 aa))=false:=beq_eq_false_iff_ne.mpr c7
        have c7b1:((rd l0 aa) !=(rd l1 aa))=true:=bne_iff_ne.mpr c7
        obtain rfl:=Option.some.inj H
        have p796:0≤(aa:Int):=of_decide_eq_true (by first | (with_reducible assumption) | assumption)
        have q796:aa < (l0.length:Int):=of_decide_eq_true (by first | (with_reducible assumption) | assumption)
        obtain⟨ae,e796,hx796_0⟩:=Kd.at_int HR0.out aa p796 q796
        cases e796
        replace p796:=eq_true p796
        replace q796:=eq_true q796
        have p797:0≤(aa:Int):=of_decide_eq_true (by first | (with_reducible assumption) | assumption)
        have q797:aa < (l1.length:Int):=of_decide_eq_true (by first | (with_reducible assumption) | assumption)
        obtain⟨af,e797,hx797_0⟩:=Kd.at_int HR1.out aa p797 q797
        cases e797
        replace p797:=eq_true p797
        replace q797:=eq_true q797
        go_wp2
        repeat (go_quiet (fail);try go_wp2)
        go_ret
        exact⟨by first | rfl | (simp;done) | (simp [*];done),by repeat (first | exact Drawn0.refl _ | apply Drawn0.step)⟩
      ·rw [if_neg c6] at H
       exact absurd H (by simp)
     ·rw [if_neg c5] at H
      exact absurd H (by simp)
    ·rw [if_neg c4] at H
     have c4b0:decide (aa < (l0.length:Int))=false:=decide_eq_false c4
     clear c4
     obtain rfl:=Option.some.inj H
     go_wp2
     repeat (go_quiet (fail);try go_wp2)
     go_ret
     exact⟨by first | rfl | (simp;done) | (simp [*];done),by repeat (first | exact Drawn0.refl _ | apply Drawn0.step)⟩
 ·rw [if_neg c3] at H
  have c3b0:((l0.length:Int)==(l1.length:Int))=false:=beq_eq_false_iff_ne.mpr c3
  have c3b1:((l0.length:Int) !=(l1.length:Int))=true:=bne_iff_ne.mpr c3
  have c3b2:(l0.length==l1.length)=false:=by first | simpa using c3 | (simp at c3 ⊢;omega)
  obtain rfl:=Option.some.inj H
  go_enter Try.func34,Try.ntmps34
  go_wp2
  repeat (go_quiet (fail);try go_wp2)
  go_ret
  exact⟨by first | rfl | (simp;done) | (simp [*];done),by repeat (first | exact Drawn0.refl _ | apply Drawn0.step)⟩
end Go.Proofs.Ytmpkckiifeikkaa.Pr
end
section
namespace Go.Proofs.Ytmpkckiifeikkaa.Lsa
open Go.RowKit Go.Proofs.YtmpkckiifeikkaaW.PrintWords Go.Proofs.YtmpkckiifeikkaaW.PrintMore Go.Proofs.Ytmpkckiifeikkaa.Ma Go.Proofs.Ytmpkckiifeikkaa.Pr Go.Proofs.Ytmpkckiifeikkaa.Dt Go.Proofs.Ytmpkckiifeikkaa.Lk Go.Proofs.Ytmpkckiifeikkaa.Lt Go.Proofs.Ytmpkckiifeikkaa.Lq Go.Proofs.Ytmpkckiifeikkaa.Lp Go.Proofs.Ytmpkckiifeikkaa.Fr
theorem steps_ok {M:List (List Int)} {Q cv:List Int} (c:lkCode M Q cv=0):(lkR M Q cv 201).2.1.length≤200∧ ∀x ∈ (lkR M Q cv 201).2.1,x.length=2:=by
 have hpc:=lkCode_pc c
 refine⟨?_,run_two hpc⟩
 obtain⟨S,h1,h2⟩:=spec_run c 201 (by omega)
 rcases h2 with ⟨e1,e2⟩ | ⟨e1,e2,e3,e4,e5,_⟩
 ·have:=steps_le hpc
  rw [this] at e1
  exact absurd e1 (by decide)
 ·rw [← e4];exact e2
theorem like_same (l:List Int) (hl:l.length≤1048576):Ev (fun k=>laws_likeInts.f k l l) true:=by
 unfold laws_likeInts.f
 refine evpos rfl ?_
 have key: ∀m i,i+m=l.length→Ev (fun k=>laws_likeInts.l0 k l l (i:Int)) true:=by
  intro m
  induction m with
  | zero=>
   intro i hi
   refine evstep (fun k=>by rw [laws_likeInts.l0]) ?_
   exact evneg (by omega) (evc rfl)
  | succ m ih=>
   intro i hi
   refine evstep (fun k=>by rw [laws_likeInts.l0]) ?_
   refine evpos (by omega) (evpos (by omega) (evpos (by omega) (evpos rfl ?_)))
   rw [w64 (x:=(i:Int)+1) (by omega) (by omega)]
   exact ih (i+1) (by omega)
 exact key l.length 0 (by omega)
theorem fracs_same (l:List S93) (hl:l.length≤1048576):Ev (fun k=>laws_fracs5.f k l l) true:=by
 unfold laws_fracs5.f
 refine evpos rfl ?_
 have key: ∀m i,i+m=l.length→Ev (fun k=>laws_fracs5.l0 k l l (i:Int)) true:=by
  intro m
  induction m with
  | zero=>
   intro i hi
   refine evstep (fun k=>by rw [laws_fracs5.l0]) ?_
   exact evneg (by omega) (evc rfl)
  | succ m ih=>
   intro i hi
   refine evstep (fun k=>by rw [laws_fracs5.l0]) ?_
   refine evpos (by omega) (evpos (by omega) (evpos (by omega) (evneg (by simp) ?_)))
   rw [w64 (x:=(i:Int)+1) (by omega) (by omega)]
   exact ih (i+1) (by omega)
 exact key l.length 0 (by omega)
structure Told (k:Nat) (M:List (List Int)) (Q cv:List Int) (a:Int) (R:List S93):Prop where
 ok: ∃(B:List Int) (x y:Int) (st:List (List Int)) (sv:Bool),impl_BasisAfter.f M Q cv a=some (B,0)∧impl_CoverAfter.f k M Q cv a=some (x,y,0)∧0≤x∧impl_LemkeSteps.f M Q cv=some (st,sv,0)∧B.length=R.length∧0≤a∧a≤(st.length:Int)∧st.length≤200∧(0 < a→ ∀i:Nat,i < R.length→0≤(rd_T93 R (i:Int)).f0)∧(a=0→ ∀i,i < R.length→B.getD i 0=(i:Int))∧(0 < a→ ∃(B2:List Int) (r:Nat) (v:Int),impl_BasisAfter.f M Q cv (a - 1)=some (B2,0)∧B2.length=R.length∧r < R.length∧v≠B2.getD r 0∧B=B2.set r v∧st.getD (a - 1).toNat []= [v,B2.getD r 0])
theorem all_told (M:List (List Int)) (Q cv:List Int) (a:Int) (hQ:Q.length≤1048576) (hcv:cv.length≤1048576): ∃(k:Nat) (R:List S93) (c:Int),spec_RightAfter.f k M Q cv a=some (R,c)∧impl_RightAfter.f k M Q cv a=some (R,c)∧laws_fracs5.f k R R=some true∧R.length≤5∧(c=0→Told k M Q cv a R):=by
 obtain⟨⟨R,c⟩,⟨k1,h1⟩,⟨k2,h2⟩,h3⟩:=rights_both M Q cv a hQ hcv
 obtain⟨k3,h4⟩:=fracs_same R (by have:R.length≤5:=h3;omega)
 by_cases hc:afC M Q cv a=0
 ·obtain⟨x,y,⟨k4,h5⟩,hx⟩:=cover_at hc
  obtain⟨k6,h6⟩:=rights_at hQ hcv hc
  obtain⟨g1,g2,g3,g4⟩:=afC_lk hc
  obtain⟨s1,s2⟩:=steps_ok g1
  have eR:(R,c)=(rtL (lkR M Q cv a.toNat).1 Q.length,0):=Option.some.inj ((h1 (k1+k6) (by omega)).symm.trans (h6 (k1+k6) (by omega)))
  injection eR with eR ec
  subst ec
  have hl:R.length=Q.length:=by rw [eR,rtL_len]
  refine⟨k1+k2+k3+k4,R,0,h1 _ (by omega),h2 _ (by omega),h4 _ (by omega),h3,fun _=>⟨_,x,y,_,_,basis_at hc,h5 _ (by omega),hx,steps_at hc,?_,by omega,by omega,s1,?_,?_,?_⟩⟩
  ·rw [bs_len hc,hl]
  ·intro ha i hi
   have:=rights_nn hc ha
   rw [← eR] at this
   unfold rd_T93
   rw [Int.toNat_natCast,List.getD_eq_getElem?_getD,List.getElem?_eq_getElem hi]
   exact this _ (List.getElem_mem hi)
  ·intro ha i hi
   rw [show a.toNat=0 by omega,Lcy.zero_bs]
   unfold idl
   simp [List.getD_eq_getElem?_getD,show i < Q.length by omega]
  ·intro ha
   obtain⟨r,v,e1,e2,e3,e4⟩:=one_change hc ha s1
   refine⟨_,r,v,basis_at (afC_pred hc ha),by rw [bs_len (afC_pred hc ha),hl],by omega,e2,e3,e4⟩
 ·refine⟨k1+k2+k3,R,c,h1 _ (by omega),h2 _ (by omega),h4 _ (by omega),h3,fun e=>absurd ?_ hc⟩
  have:=(rights_no hc (k1+k2)).symm.trans (h2 _ (by omega))
  injection this with this
  injection this with e1 e2
  rw [← e2] at e
  exact e
end Go.Proofs.Ytmpkckiifeikkaa.Lsa
end
section
namespace Go.Proofs.Ytmpkckiifeikkaa.Lsa
open Go.RowKit Go.Proofs.YtmpkckiifeikkaaW.PrintWords Go.Proofs.YtmpkckiifeikkaaW.PrintMore Go.Proofs.Ytmpkckiifeikkaa.Ma Go.Proofs.Ytmpkckiifeikkaa.Pr Go.Proofs.Ytmpkckiifeikkaa.Dt Go.Proofs.Ytmpkckiifeikkaa.Lk Go.Proofs.Ytmpkckiifeikkaa.Lt Go.Proofs.Ytmpkckiifeikkaa.Lq Go.Proofs.Ytmpkckiifeikkaa.Lp
theorem basis_both (M:List (List Int)) (Q cv:List Int) (a:Int) (hQ:Q.length≤1048576) (hcv:cv.length≤1048576): ∃R:List Int × Int,Ev (fun k=>spec_BasisAfter.f k M Q cv a) R∧impl_BasisAfter.f M Q cv a=some R∧R.1.length≤5:=by
 unfold spec_BasisAfter.f impl_BasisAfter.f
 by_cases c:afC M Q cv a=0
 ·have hpc:=lkCode_pc (afC_lk c).1
  have hok:=(lkR_ok hpc a.toNat).1
  have hl:=hok.len
  have h5:=hpc.le
  refine⟨((lkR M Q cv a.toNat).1.bs,0),evbind (after_eq M Q cv a hQ hcv) ?_,by unfold baF;rw [if_pos c],by show (lkR M Q cv a.toNat).1.bs.length≤5;omega⟩
  have e:afE M Q cv a=(rowsM Q.length (2*Q.length+2) (lkR M Q cv a.toNat).1.T,(lkR M Q cv a.toNat).1.den,(lkR M Q cv a.toNat).1.bs,0):=if_pos c
  rw [e]
  have ho:=own_f (lkR M Q cv a.toNat).1.bs (by omega)
  exact evpos rfl (evbind (evc ho) (evc rfl))
 ·refine⟨([],afC M Q cv a),evbind (after_eq M Q cv a hQ hcv) ?_,by unfold baF;rw [if_neg c],by simp⟩
  have e:afE M Q cv a=([],0, [],afC M Q cv a):=if_neg c
  rw [e]
  exact evneg c (evc rfl)
end Go.Proofs.Ytmpkckiifeikkaa.Lsa
end
section
namespace Go.Proofs.Ytmpkckiifeikkaa.Pr
open Go.RowKit Go.Proofs.YtmpkckiifeikkaaW.PrintWords Go.Proofs.YtmpkckiifeikkaaW.PrintLast Go.Proofs.YtmpkckiifeikkaaW.PrintMore Go.Proofs.Ytmpkckiifeikkaa.Al Go.Proofs.Ytmpkckiifeikkaa.Dr Go.Proofs.Ytmpkckiifeikkaa.Ma
noncomputable def laws_FnLemkeTables.after68:Code:=((Try.f8.body.bind (tailAfter 68)).getD .skip)
theorem laws_FnLemkeTables.after68_walk {A0:Option Addr} {c0:Nat} {l0:List Int} {w wc:World} {z1_ z2_ z3_ z4_ z5_ z6_ z7_ z8_ z9_ z10_ z11_ z12_ z13_ z14_ z15_ z16_ z17_ z18_ z19_ z20_ z21_ z22_ z23_ z24_ z25_ z26_ z27_ z28_ z29_ z30_ z31_ z32_ z33_ z34_ z35_ z36_ z37_ z38_ z39_ z40_ z41_ z42_ z43_ z44_ z45_ z46_ z47_ z48_ z49_ z50_ z51_ z52_ z53_ z54_ z55_ z56_ z57_ z58_ z59_ z60_ z61_ z62_ z63_ z64_ z65_ z66_ z67_ z68_ z69_ z70_ z71_ z72_ z73_ z74_ z75_ z76_ z77_ z78_ z79_ z80_ z81_ z82_ z83_ z84_ z85_ z86_ z87_ z88_ z89_ z90_ z91_ z92_ z93_ z94_ z95_ z96_ z97_ z98_ z99_ z100_ z101_ z102_ z103_ z104_ z105_ z106_ z107_ z108_ z109_ z110_ z111_ z112_ z113_ z114_ z115_ z116_ z117_ z118_ z119_ z120_ z121_ z122_ z123_ z124_ z125_ z126_ z127_ z128_ z129_ z130_ z131_ z132_ z133_ z134_ z135_ z136_ z137_ z138_ z139_ z140_ z141_ z142_ z143_ z144_ z145_ z146_ z147_ z148_ z149_ z150_ z151_ z152_ z153_ z154_ z155_ z156_ z157_ z158_ z159_ z160_ z161_ z162_ z163_ z164_ z165_ z166_ z167_ z168_ z169_ z170_ z171_ z172_ z173_ z174_ z175_ z176_ z177_ z178_ z179_ z180_ z181_ z182_ z183_ z184_ z185_ z186_ z187_ z188_ z189_ z190_ z191_ z192_ z193_ z194_ z195_ z196_ z197_ z198_ z199_ z200_ z201_ z202_ z203_ z204_ z205_ z206_ z207_ z208_ z209_ z210_ z211_ z212_ z213_ z214_ z215_ z216_ z217_ z218_ z219_ z220_ z221_ z222_ z223_ z224_ z225_ z226_ z227_ z228_ z229_ z230_ z231_ z232_ z233_ z234_ z235_ z236_ z237_ z238_ z239_ z240_ z241_ z242_ z243_ z244_ z245_ z246_ z247_ z248_ z249_ z250_ z251_ z252_ z253_ z254_ z255_ z256_ z257_ z258_ z259_ z260_ z261_ z262_ z263_ z264_ z265_ z266_ z267_:Value} (HR0:Aside0 (Kd.C (Kd.int .u8) w A0 l0.length l0)) (HC0:Aside0 (l0.length≤c0)) (HBY:Aside0 (∀i:Nat,0≤l0.getD i 0∧l0.getD i 0≤255)) (HLN:Aside0 (l0.length≤4096)) (HB:Aside0 (Below w.heap.size w wc)):
  Code.wp Try.prog laws_FnLemkeTables.after68 (bodyPost Try.prog Try.f8 fun e w'=>e=Ending.returned (.bool true)∧Below w.heap.size w w') ⟨#[.slice A0 l0.length c0,z1_,z2_,z3_,z4_,z5_,z6_,z7_,z8_,z9_,z10_,z11_,z12_,z13_,z14_,z15_,z16_,z17_,z18_,z19_,z20_,z21_,z22_,z23_,z24_,z25_,z26_,z27_,z28_,z29_,z30_,z31_,z32_,z33_,z34_,z35_,z36_,z37_,z38_,z39_,z40_,z41_,z42_,z43_,z44_,z45_,z46_,z47_,z48_,z49_,z50_,z51_,z52_,z53_,z54_,z55_,z56_,z57_,z58_,z59_,z60_,z61_,z62_,z63_,z64_,z65_,z66_,z67_,z68_,z69_,z70_,z71_,z72_,z73_,z74_,z75_,z76_,z77_,z78_,z79_,z80_,z81_,z82_,z83_,z84_,z85_,z86_,z87_,z88_,z89_,z90_,z91_,z92_,z93_,z94_,z95_,z96_,z97_,z98_,z99_,z100_,z101_,z102_,z103_,z104_,z105_,z106_,z107_,z108_,z109_,z110_,z111_,z112_,z113_,z114_,z115_,z116_,z117_,z118_,z119_,z120_,z121_,z122_,z123_,z124_,z125_,z126_,z127_,z128_,z129_,z130_,z131_,z132_,z133_,z134_,z135_,z136_,z137_,z138_,z139_,z140_,z141_,z142_,z143_,z144_,z145_,z146_,z147_,z148_,z149_,z150_,z151_,z152_,z153_,z154_,z155_,z156_,z157_,z158_,z159_,z160_,z161_,z162_,z163_,z164_,z165_,z166_,z167_,z168_,z169_,z170_,z171_,z172_,z173_,z174_,z175_,z176_,z177_,z178_,z179_,z180_,z181_,z182_,z183_,z184_,z185_,z186_,z187_,z188_,z189_,z190_,z191_,z192_,z193_,z194_,z195_,z196_,z197_,z198_,z199_,z200_,z201_,z202_,z203_,z204_,z205_,z206_,z207_,z208_,z209_,z210_,z211_,z212_,z213_,z214_,z215_,z216_,z217_,z218_,z219_,z220_,z221_,z222_,z223_,z224_,z225_,z226_,z227_,z228_,z229_,z230_,z231_,z232_,z233_,z234_,z235_,z236_,z237_,z238_,z239_,z240_,z241_,z242_,z243_,z244_,z245_,z246_,z247_,z248_,z249_,z250_,z251_,z252_,z253_,z254_,z255_,z256_,z257_,z258_,z259_,z260_,z261_,z262_,z263_,z264_,z265_,z266_,z267_], []⟩ wc:=by
 have AL:=q_ (Al.nil wc)
 conv=>arg 2;whnf
 go_wp2_with fail
 refine(dba_c (Kd.C_below HR0.out HB.out) HC0.out HBY.out HLN.out).mono ?_
 rintro e w1 ⟨_,Mb,Qb,Abc,cbc,Vb,kb,rfl,⟨Abm,cbm,Abq,cbq,rfl,hM,hMc,hQ,hQc⟩,hM5,hQ6,hV,hVc,hV6,hk1,hk2,hb⟩
 replace AL:=q_ (AL.out.mv hb)
 replace HB:=q_ (below_step HB.out hb)
 replace AL:=q_ (((AL.out.mv (Below.refl _ _)).addC hM).addC hQ |>.addC hV)
 have Zb:Aside0 (Mb.length≤cbm∧Qb.length≤cbq∧Vb.length≤cbc∧Qb.length≤1048576∧Vb.length≤1048576∧ -1≤kb∧kb≤1099511627776):=⟨hMc,hQc,hVc,by omega,by omega,hk1,hk2⟩
 clear hM hMc hQ hQc hM5 hQ6 hV hVc hV6 hk1 hk2 hb
 obtain⟨⟨B,bc⟩,⟨ks,es⟩,ei,hB⟩:=Lsa.basis_both Mb Qb Vb kb Zb.out.2.2.2.1 Zb.out.2.2.2.2.1
 have ES:=q_ es;have EI:=q_ ei
 obtain⟨kl,el⟩:=Lsa.like_same B (by have:B.length≤5:=hB;omega)
 have EL:=q_ el
 clear es ei el hB
 go_wp2_with (first | ((with_reducible refine gate_dst (N:=22) rfl ?_);refine box_event ?hg (N:=22) ?hd (cs:= #[.slice none 0 0, .slice none 0 0]) (t:=30) ?hr ?_;(case hd=>rfl);(case hg=>rfl);(case hr=>first | (go_simp;done) | (go_simp;rfl));intro g22 hg w2 hbox hb;have Bx:=q_ hbox;have HBx:=q_ hb;have Gx:Aside0 (w1.heap.size≤g22):=⟨by rw [hg];exact Nat.le_refl _⟩;have hx0:=cz_ Bx 0;have hx1:=cz_ Bx 1;have hfx0:=blk_frozen hbox 0;have hfx1:=blk_frozen hbox 1;clear hb hbox hg) | ((with_reducible refine gate_store (t:=30) (p:=22) rfl ?_);refine store_event (t:=30) (p:=22) (v:=?vo22) (w1:=(w2.setCell ⟨g22,0,none⟩ (.slice Abm Mb.length cbm)).setCell ⟨g22,1,none⟩ (.slice Abq Qb.length cbq)) ?hg ?ho ?hn ?hr ?_;(case ho=>rfl);(case hg=>rfl);(case hn=>rfl);(case hr=>first | (go_simp;done) | (go_simp;rfl));intro w3 hw;have nb:=q_ (show w3.heap[g22]?=some (.cells #[.slice Abm Mb.length cbm, .slice Abq Qb.length cbq] 30 (0,0)) from (by rw [hw];exact blk_put (blk_put Bx.out 0 _ rfl) 1 _ rfl));have hb:Below w1.heap.size w1 w3:=(by rw [hw];exact(HBx.out.setCell Gx.out _).setCell Gx.out _);replace AL:=q_ ((AL.out.mv hb).addB nb.out);replace HB:=q_ (below_step HB.out hb);clear hw hb nb hx0 hx1 hfx0 hfx1 Bx HBx Gx;have hz22_0:=cz_ (q_ (AL.out.now.1)) 0;have hz22_1:=cz_ (q_ (AL.out.now.1)) 1))
 refine(impl_BasisAfter.calls _ _ Mb _ _ Qb _ _ Vb kb B bc _ (AL.out.now.2.2.2.1) Zb.out.1 (AL.out.now.2.2.1) Zb.out.2.1 (AL.out.now.2.1) Zb.out.2.2.1 EI.out).mono ?_
 rintro e w4 ⟨v25,rfl,ho,hb⟩
 clear hz22_0 hz22_1
 replace AL:=q_ (AL.out.mv hb)
 replace HB:=q_ (below_step HB.out hb)
 obtain⟨A25,c25,rfl⟩:=Kd.R_slice ho
 have C25:=q_ (Kd.R_reads' ho).2.1
 replace AL:=q_ (AL.out.addC (Kd.R_reads' ho).2.2)
 clear hb ho
 have hz22_0:=cz_ (q_ (AL.out.now.2.1)) 0
 have hz22_1:=cz_ (q_ (AL.out.now.2.1)) 1
 go_wp2_with fail
 refine(spec_BasisAfter.calls ks _ _ Mb _ _ Qb _ _ Vb kb B bc _ (AL.out.now.2.2.2.2.1) Zb.out.1 (AL.out.now.2.2.2.1) Zb.out.2.1 (AL.out.now.2.2.1) Zb.out.2.2.1 (ES.out _ (Nat.le_refl _))).mono ?_
 rintro e w5 ⟨v27,rfl,ho,hb⟩
 clear hz22_0 hz22_1
 replace AL:=q_ (AL.out.mv hb)
 replace HB:=q_ (below_step HB.out hb)
 obtain⟨A27,c27,rfl⟩:=Kd.R_slice ho
 have C27:=q_ (Kd.R_reads' ho).2.1
 replace AL:=q_ (AL.out.addC (Kd.R_reads' ho).2.2)
 clear hb ho
 go_wp2_with fail
 refine(dca_c (Kd.C_below HR0.out HB.out) HC0.out HBY.out HLN.out).mono ?_
 rintro e w6 ⟨_,Md,Qd,Adc,cdc,Vd,kd,rfl,⟨Adm,cdm,Adq,cdq,rfl,hM,hMc,hQ,hQc⟩,hM5,hQ6,hV,hVc,hV6,hk1,hk2,hb⟩
 replace AL:=q_ (AL.out.mv hb)
 replace HB:=q_ (below_step HB.out hb)
 replace AL:=q_ (((AL.out.mv (Below.refl _ _)).addC hM).addC hQ |>.addC hV)
 have Zd:Aside0 (Md.length≤cdm∧Qd.length≤cdq∧Vd.length≤cdc∧Qd.length≤1048576∧Vd.length≤1048576∧ -1≤kd∧kd≤1099511627776):=⟨hMc,hQc,hVc,by omega,by omega,hk1,hk2⟩
 clear hM hMc hQ hQc hM5 hQ6 hV hVc hV6 hk1 hk2 hb
 obtain⟨⟨x,y,dc⟩,⟨kt,et⟩,⟨ku,eu⟩,_⟩:=Lsa.cover_both Md Qd Vd kd Zd.out.2.2.2.1 Zd.out.2.2.2.2.1
 have ET:=q_ et;have EU:=q_ eu
 clear et eu
 go_wp2_with (first | ((with_reducible refine gate_dst (N:=29) rfl ?_);refine box_event ?hg (N:=29) ?hd (cs:= #[.slice none 0 0, .slice none 0 0]) (t:=30) ?hr ?_;(case hd=>rfl);(case hg=>rfl);(case hr=>first | (go_simp;done) | (go_simp;rfl));intro g29 hg w7 hbox hb;have Bx:=q_ hbox;have HBx:=q_ hb;have Gx:Aside0 (w6.heap.size≤g29):=⟨by rw [hg];exact Nat.le_refl _⟩;have hx0:=cz_ Bx 0;have hx1:=cz_ Bx 1;have hfx0:=blk_frozen hbox 0;have hfx1:=blk_frozen hbox 1;clear hb hbox hg) | ((with_reducible refine gate_store (t:=30) (p:=29) rfl ?_);refine store_event (t:=30) (p:=29) (v:=?vo29) (w1:=(w7.setCell ⟨g29,0,none⟩ (.slice Adm Md.length cdm)).setCell ⟨g29,1,none⟩ (.slice Adq Qd.length cdq)) ?hg ?ho ?hn ?hr ?_;(case ho=>rfl);(case hg=>rfl);(case hn=>rfl);(case hr=>first | (go_simp;done) | (go_simp;rfl));intro w8 hw;have nb:=q_ (show w8.heap[g29]?=some (.cells #[.slice Adm Md.length cdm, .slice Adq Qd.length cdq] 30 (0,0)) from (by rw [hw];exact blk_put (blk_put Bx.out 0 _ rfl) 1 _ rfl));have hb:Below w6.heap.size w6 w8:=(by rw [hw];exact(HBx.out.setCell Gx.out _).setCell Gx.out _);replace AL:=q_ ((AL.out.mv hb).addB nb.out);replace HB:=q_ (below_step HB.out hb);clear hw hb nb hx0 hx1 hfx0 hfx1 Bx HBx Gx;have hz29_0:=cz_ (q_ (AL.out.now.1)) 0;have hz29_1:=cz_ (q_ (AL.out.now.1)) 1))
 refine(impl_CoverAfter.calls ku _ _ Md _ _ Qd _ _ Vd kd x y dc _ (AL.out.now.2.2.2.1) Zd.out.1 (AL.out.now.2.2.1) Zd.out.2.1 (AL.out.now.2.1) Zd.out.2.2.1 (EU.out _ (Nat.le_refl _))).mono ?_
 rintro e w9 ⟨rfl,hb⟩
 clear hz29_0 hz29_1
 replace AL:=q_ (AL.out.mv hb)
 replace HB:=q_ (below_step HB.out hb)
 clear hb
 go_wp2_with (first | ((with_reducible refine gate_dst (N:=32) rfl ?_);refine box_event ?hg (N:=32) ?hd (cs:= #[.int .i64 0, .int .i64 0]) (t:=93) ?hr ?_;(case hd=>rfl);(case hg=>rfl);(case hr=>first | (go_simp;done) | (go_simp;rfl));intro g32 hg w10 hbox hb;have Bx:=q_ hbox;have HBx:=q_ hb;have Gx:Aside0 (w9.heap.size≤g32):=⟨by rw [hg];exact Nat.le_refl _⟩;have hx0:=cz_ Bx 0;have hx1:=cz_ Bx 1;have hfx0:=blk_frozen hbox 0;have hfx1:=blk_frozen hbox 1;clear hb hbox hg) | ((with_reducible refine gate_store (t:=93) (p:=32) rfl ?_);refine store_event (t:=93) (p:=32) (v:=?vo32) (w1:=(w10.setCell ⟨g32,0,none⟩ (.int .i64 x)).setCell ⟨g32,1,none⟩ (.int .i64 y)) ?hg ?ho ?hn ?hr ?_;(case ho=>rfl);(case hg=>rfl);(case hn=>rfl);(case hr=>first | (go_simp;done) | (go_simp;rfl));intro w11 hw;have nb:=q_ (show w11.heap[g32]?=some (.cells #[.int .i64 x, .int .i64 y] 93 (0,0)) from (by rw [hw];exact blk_put (blk_put Bx.out 0 _ rfl) 1 _ rfl));have hb:Below w9.heap.size w9 w11:=(by rw [hw];exact(HBx.out.setCell Gx.out _).setCell Gx.out _);replace AL:=q_ ((AL.out.mv hb).addB nb.out);replace HB:=q_ (below_step HB.out hb);clear hw hb nb hx0 hx1 hfx0 hfx1 Bx HBx Gx;have hz29_0:=cz_ (q_ (AL.out.now.2.1)) 0;have hz29_1:=cz_ (q_ (AL.out.now.2.1)) 1))
 refine(spec_CoverAfter.calls kt _ _ Md _ _ Qd _ _ Vd kd x y dc _ (AL.out.now.2.2.2.2.1) Zd.out.1 (AL.out.now.2.2.2.1) Zd.out.2.1 (AL.out.now.2.2.1) Zd.out.2.2.1 (ET.out _ (Nat.le_refl _))).mono ?_
 rintro e w12 ⟨rfl,hb⟩
 clear hz29_0 hz29_1
 replace AL:=q_ (AL.out.mv hb)
 replace HB:=q_ (below_step HB.out hb)
 clear hb
 go_wp2_with (first | ((with_reducible refine gate_dst (N:=34) rfl ?_);refine box_event ?hg (N:=34) ?hd (cs:= #[.int .i64 0, .int .i64 0]) (t:=93) ?hr ?_;(case hd=>rfl);(case hg=>rfl);(case hr=>first | (go_simp;done) | (go_simp;rfl));intro g34 hg w13 hbox hb;have Bx:=q_ hbox;have HBx:=q_ hb;have Gx:Aside0 (w12.heap.size≤g34):=⟨by rw [hg];exact Nat.le_refl _⟩;have hx0:=cz_ Bx 0;have hx1:=cz_ Bx 1;have hfx0:=blk_frozen hbox 0;have hfx1:=blk_frozen hbox 1;clear hb hbox hg) | ((with_reducible refine gate_store (t:=93) (p:=34) rfl ?_);refine store_event (t:=93) (p:=34) (v:=?vo34) (w1:=(w13.setCell ⟨g34,0,none⟩ (.int .i64 x)).setCell ⟨g34,1,none⟩ (.int .i64 y)) ?hg ?ho ?hn ?hr ?_;(case ho=>rfl);(case hg=>rfl);(case hn=>rfl);(case hr=>first | (go_simp;done) | (go_simp;rfl));intro w14 hw;have nb:=q_ (show w14.heap[g34]?=some (.cells #[.int .i64 x, .int .i64 y] 93 (0,0)) from (by rw [hw];exact blk_put (blk_put Bx.out 0 _ rfl) 1 _ rfl));have hb:Below w12.heap.size w12 w14:=(by rw [hw];exact(HBx.out.setCell Gx.out _).setCell Gx.out _);replace AL:=q_ ((AL.out.mv hb).addB nb.out);replace HB:=q_ (below_step HB.out hb);clear hw hb nb hx0 hx1 hfx0 hfx1 Bx HBx Gx))
 refine(laws_likeInts.calls kl _ _ B _ _ B true _ (AL.out.now.2.2.2.2.2.2.2.1) C25.out (AL.out.now.2.2.2.2.2.2.1) C27.out (EL.out _ (Nat.le_refl _))).mono ?_
 rintro e w15 ⟨rfl,hd⟩
 have hb:=Al.drawn_below hd
 replace AL:=q_ (AL.out.mv hb)
 replace HB:=q_ (below_step HB.out hb)
 clear hb hd
 have hz32_0:=cz_ (q_ (AL.out.now.2.1)) 0
 have hz32_1:=cz_ (q_ (AL.out.now.2.1)) 1
 have hz34_0:=cz_ (q_ (AL.out.now.1)) 0
 have hz34_1:=cz_ (q_ (AL.out.now.1)) 1
 go_wp2
 go_ret
 exact⟨rfl,HB.out⟩
end Go.Proofs.Ytmpkckiifeikkaa.Pr
end
section
namespace Go.Proofs.Ytmpkckiifeikkaa.Pr
open Go.RowKit Go.Proofs.YtmpkckiifeikkaaW.PrintWords Go.Proofs.YtmpkckiifeikkaaW.PrintLast Go.Proofs.YtmpkckiifeikkaaW.PrintMore
attribute [local go_sem] max2_int min2_int max_two min_two max_three min_three max_four min_four
def laws_big.f (l0:List Int):Option (Bool):=some (decide ((l0.length:Int) > 4096))
theorem laws_big.calls (A0:Option Addr) (c0:Nat) (l0:List Int) (r:Bool) (w:World) (hr0:Kd.C (Kd.int .u8) w A0 l0.length l0) (hc0:l0.length≤c0) (h:laws_big.f l0=some r):
  Calls Try.prog 23 #[.slice A0 l0.length c0] w fun e w'=>e= .returned (.bool r)∧Drawn0 w w':=by
 have HR0:=q_ hr0
 have HC0:=q_ hc0
 clear hr0 hc0
 have H:(some (decide ((l0.length:Int) > 4096)))=some r:=h
 clear h
 obtain rfl:=Option.some.inj H
 go_enter Try.func23,Try.ntmps23
 go_wp2
 go_ret
 exact⟨by first | rfl | (simp;done) | (simp [*];done),by repeat (first | exact Drawn0.refl _ | apply Drawn0.step)⟩
end Go.Proofs.Ytmpkckiifeikkaa.Pr
end
section
namespace Go.Proofs.Ytmpkckiifeikkaa.Pr
open Go.RowKit Go.Proofs.YtmpkckiifeikkaaW.PrintWords Go.Proofs.YtmpkckiifeikkaaW.PrintLast Go.Proofs.YtmpkckiifeikkaaW.PrintMore Go.Proofs.Ytmpkckiifeikkaa.Al Go.Proofs.Ytmpkckiifeikkaa.Dr Go.Proofs.Ytmpkckiifeikkaa.Ma
theorem laws_FnLemkeTables.walk {A0:Option Addr} {c0:Nat} {l0:List Int} {w:World} (HR0:Aside0 (Kd.C (Kd.int .u8) w A0 l0.length l0)) (HC0:Aside0 (l0.length≤c0)) (HBY:Aside0 (∀i:Nat,0≤l0.getD i 0∧l0.getD i 0≤255)) (HLN:Aside0 (l0.length≤4096)):
  Calls Try.prog 8 #[.slice A0 l0.length c0] w fun e w'=>e= .returned (.bool true)∧Below w.heap.size w w':=by
 have HB:=q_ (Below.refl w.heap.size w)
 have AL:=q_ (Al.nil w)
 go_enter Try.func8,Try.ntmps8
 go_wp2_with fail
 refine(laws_big.calls A0 c0 l0 false _ (Kd.C_below HR0.out HB.out) HC0.out (by unfold laws_big.f;rw [decide_eq_false (show ¬ (l0.length:Int) > 4096 by have:=HLN.out;omega)])).mono ?_
 rintro e w1 ⟨rfl,hd⟩
 have hb:=Al.drawn_below hd
 replace AL:=q_ (AL.out.mv hb)
 replace HB:=q_ (below_step HB.out hb)
 clear hb hd
 go_wp2_with fail
 refine(dra_c (Kd.C_below HR0.out HB.out) HC0.out HBY.out HLN.out).mono ?_
 rintro e w2 ⟨_,Ma,Qa,Aac,cac,Va,ka,rfl,⟨Aam,cam,Aaq,caq,rfl,hM,hMc,hQ,hQc⟩,hM5,hQ6,hV,hVc,hV6,hk1,hk2,hb⟩
 replace AL:=q_ (AL.out.mv hb)
 replace HB:=q_ (below_step HB.out hb)
 replace AL:=q_ (((AL.out.mv (Below.refl _ _)).addC hM).addC hQ |>.addC hV)
 have Za:Aside0 (Ma.length≤cam∧Qa.length≤caq∧Va.length≤cac∧Qa.length≤1048576∧Va.length≤1048576∧ -1≤ka∧ka≤1099511627776):=⟨hMc,hQc,hVc,by omega,by omega,hk1,hk2⟩
 clear hM hMc hQ hQc hM5 hQ6 hV hVc hV6 hk1 hk2 hb
 obtain⟨kf,R,c,h1,h2,h3,h4,h5⟩:=Lsa.all_told Ma Qa Va ka Za.out.2.2.2.1 Za.out.2.2.2.2.1
 have H1:=q_ h1;have H2:=q_ h2;have H3:=q_ h3;have H4:=q_ h4;have H5:=q_ h5;clear h1 h2 h3 h4 h5
 go_wp2_with (first | ((with_reducible refine gate_dst (N:=3) rfl ?_);refine box_event ?hg (N:=3) ?hd (cs:= #[.slice none 0 0, .slice none 0 0]) (t:=30) ?hr ?_;(case hd=>rfl);(case hg=>rfl);(case hr=>first | (go_simp;done) | (go_simp;rfl));intro g3 hg w3 hbox hb;have Bx:=q_ hbox;have HBx:=q_ hb;have Gx:Aside0 (w2.heap.size≤g3):=⟨by rw [hg];exact Nat.le_refl _⟩;have hx0:=cz_ Bx 0;have hx1:=cz_ Bx 1;have hfx0:=blk_frozen hbox 0;have hfx1:=blk_frozen hbox 1;clear hb hbox hg) | ((with_reducible refine gate_store (t:=30) (p:=3) rfl ?_);refine store_event (t:=30) (p:=3) (v:=?vo3) (w1:=(w3.setCell ⟨g3,0,none⟩ (.slice Aam Ma.length cam)).setCell ⟨g3,1,none⟩ (.slice Aaq Qa.length caq)) ?hg ?ho ?hn ?hr ?_;(case ho=>rfl);(case hg=>rfl);(case hn=>rfl);(case hr=>first | (go_simp;done) | (go_simp;rfl));intro w4 hw;have nb:=q_ (show w4.heap[g3]?=some (.cells #[.slice Aam Ma.length cam, .slice Aaq Qa.length caq] 30 (0,0)) from (by rw [hw];exact blk_put (blk_put Bx.out 0 _ rfl) 1 _ rfl));have hb:Below w2.heap.size w2 w4:=(by rw [hw];exact(HBx.out.setCell Gx.out _).setCell Gx.out _);replace AL:=q_ ((AL.out.mv hb).addB nb.out);replace HB:=q_ (below_step HB.out hb);clear hw hb nb hx0 hx1 hfx0 hfx1 Bx HBx Gx;have hz3_0:=cz_ (q_ (AL.out.now.1)) 0;have hz3_1:=cz_ (q_ (AL.out.now.1)) 1))
 refine(impl_RightAfter.calls kf _ _ Ma _ _ Qa _ _ Va ka R c _ (AL.out.now.2.2.2.1) Za.out.1 (AL.out.now.2.2.1) Za.out.2.1 (AL.out.now.2.1) Za.out.2.2.1 H2.out).mono ?_
 rintro e w5 ⟨v6,rfl,ho,hb⟩
 clear hz3_0 hz3_1
 replace AL:=q_ (AL.out.mv hb)
 replace HB:=q_ (below_step HB.out hb)
 obtain⟨A6,c6,rfl⟩:=Kd.R_slice ho
 have C6:=q_ (Kd.R_reads' ho).2.1
 replace AL:=q_ (AL.out.addC (Kd.R_reads' ho).2.2)
 clear hb ho
 have hz3_0:=cz_ (q_ (AL.out.now.2.1)) 0
 have hz3_1:=cz_ (q_ (AL.out.now.2.1)) 1
 go_wp2_with fail
 refine(spec_RightAfter.calls kf _ _ Ma _ _ Qa _ _ Va ka R c _ (AL.out.now.2.2.2.2.1) Za.out.1 (AL.out.now.2.2.2.1) Za.out.2.1 (AL.out.now.2.2.1) Za.out.2.2.1 H1.out).mono ?_
 rintro e w6 ⟨v8,rfl,ho,hb⟩
 clear hz3_0 hz3_1
 replace AL:=q_ (AL.out.mv hb)
 replace HB:=q_ (below_step HB.out hb)
 obtain⟨A8,c8,rfl⟩:=Kd.R_slice ho
 have C8:=q_ (Kd.R_reads' ho).2.1
 replace AL:=q_ (AL.out.addC (Kd.R_reads' ho).2.2)
 clear hb ho
 go_wp2_with fail
 refine(laws_fracs5.calls kf _ _ R _ _ R true _ (AL.out.now.2.1) C6.out (AL.out.now.1) C8.out H3.out).mono ?_
 rintro e w7 ⟨rfl,hd⟩
 have hb:=Al.drawn_below hd
 replace AL:=q_ (AL.out.mv hb)
 replace HB:=q_ (below_step HB.out hb)
 clear hb hd
 go_upto_if 68 with (fail)
 go_cut [10,11,12,13,14,15,16,17,18,19,20,21] from 67 to 209 (fun v10 v11 v12 v13 v14 v15 v16 v17 v18 v19 v20 v21 wc=>Aside0 (Al (fun W_=>True) wc)∧Aside0 (Below w.heap.size w wc))
 case first=>
  by_cases cc:c=0
  ·subst cc
   obtain⟨B,x,y,sl,sv,e1,e2,e3,e4,e5,e6,e7,e8,e9,e10,e11⟩:=(H5.out rfl).ok
   have E1:=q_ e1
   have E2:=q_ e2
   have E3:=q_ e3
   have E4:=q_ e4
   have E5:=q_ e5
   have E6:=q_ e6
   have E7:=q_ e7
   have E8:=q_ e8
   have E9:=q_ e9
   have E10:=q_ e10
   have E11:=q_ e11
   clear e1 e2 e3 e4 e5 e6 e7 e8 e9 e10 e11
   have hz3_0:=cz_ (q_ (AL.out.now.2.2.1)) 0
   have hz3_1:=cz_ (q_ (AL.out.now.2.2.1)) 1
   go_wp2_with fail
   refine(impl_BasisAfter.calls _ _ Ma _ _ Qa _ _ Va ka B 0 _ (AL.out.now.2.2.2.2.2.1) Za.out.1 (AL.out.now.2.2.2.2.1) Za.out.2.1 (AL.out.now.2.2.2.1) Za.out.2.2.1 E1.out).mono ?_
   rintro e w8 ⟨v10,rfl,ho,hb⟩
   clear hz3_0 hz3_1
   replace AL:=q_ (AL.out.mv hb)
   replace HB:=q_ (below_step HB.out hb)
   obtain⟨A10,c10,rfl⟩:=Kd.R_slice ho
   have C10:=q_ (Kd.R_reads' ho).2.1
   replace AL:=q_ (AL.out.addC (Kd.R_reads' ho).2.2)
   clear hb ho
   have hz3_0:=cz_ (q_ (AL.out.now.2.2.2.1)) 0
   have hz3_1:=cz_ (q_ (AL.out.now.2.2.2.1)) 1
   go_wp2_with fail
   refine(impl_CoverAfter.calls kf _ _ Ma _ _ Qa _ _ Va ka x y 0 _ (AL.out.now.2.2.2.2.2.2.1) Za.out.1 (AL.out.now.2.2.2.2.2.1) Za.out.2.1 (AL.out.now.2.2.2.2.1) Za.out.2.2.1 E2.out).mono ?_
   rintro e w9 ⟨rfl,hb⟩
   clear hz3_0 hz3_1
   replace AL:=q_ (AL.out.mv hb)
   replace HB:=q_ (below_step HB.out hb)
   clear hb
   go_wp2_with (first | ((with_reducible refine gate_dst (N:=12) rfl ?_);refine box_event ?hg (N:=12) ?hd (cs:= #[.int .i64 0, .int .i64 0]) (t:=93) ?hr ?_;(case hd=>rfl);(case hg=>rfl);(case hr=>first | (go_simp;done) | (go_simp;rfl));intro g12 hg w10 hbox hb;have Bx:=q_ hbox;have HBx:=q_ hb;have Gx:Aside0 (w9.heap.size≤g12):=⟨by rw [hg];exact Nat.le_refl _⟩;have hx0:=cz_ Bx 0;have hx1:=cz_ Bx 1;have hfx0:=blk_frozen hbox 0;have hfx1:=blk_frozen hbox 1;clear hb hbox hg) | ((with_reducible refine gate_store (t:=93) (p:=12) rfl ?_);refine store_event (t:=93) (p:=12) (v:=?vo12) (w1:=(w10.setCell ⟨g12,0,none⟩ (.int .i64 x)).setCell ⟨g12,1,none⟩ (.int .i64 y)) ?hg ?ho ?hn ?hr ?_;(case ho=>rfl);(case hg=>rfl);(case hn=>rfl);(case hr=>first | (go_simp;done) | (go_simp;rfl));intro w11 hw;have nb:=q_ (show w11.heap[g12]?=some (.cells #[.int .i64 x, .int .i64 y] 93 (0,0)) from (by rw [hw];exact blk_put (blk_put Bx.out 0 _ rfl) 1 _ rfl));have hb:Below w9.heap.size w9 w11:=(by rw [hw];exact(HBx.out.setCell Gx.out _).setCell Gx.out _);replace AL:=q_ ((AL.out.mv hb).addB nb.out);replace HB:=q_ (below_step HB.out hb);clear hw hb nb hx0 hx1 hfx0 hfx1 Bx HBx Gx;have hz3_0:=cz_ (q_ (AL.out.now.2.2.2.2.1)) 0;have hz3_1:=cz_ (q_ (AL.out.now.2.2.2.2.1)) 1;have hz12_0:=cz_ (q_ (AL.out.now.1)) 0;have hz12_1:=cz_ (q_ (AL.out.now.1)) 1))
   refine(impl_LemkeSteps.calls _ _ Ma _ _ Qa _ _ Va sl sv 0 _ (AL.out.now.2.2.2.2.2.2.2.1) Za.out.1 (AL.out.now.2.2.2.2.2.2.1) Za.out.2.1 (AL.out.now.2.2.2.2.2.1) Za.out.2.2.1 E4.out).mono ?_
   rintro e w12 ⟨v14,rfl,ho,hb⟩
   clear hz3_0 hz3_1 hz12_0 hz12_1
   replace AL:=q_ (AL.out.mv hb)
   replace HB:=q_ (below_step HB.out hb)
   obtain⟨A14,c14,rfl⟩:=Kd.S_slice ho
   have C14:=q_ (Kd.S_reads' ho).2.1
   replace AL:=q_ (AL.out.addC (Kd.S_reads' ho).2.2)
   clear hb ho
   have hz12_0:=cz_ (q_ (AL.out.now.2.1)) 0
   have hz12_1:=cz_ (q_ (AL.out.now.2.1)) 1
   have q1:decide (x < 0)=false:=decide_eq_false (by have:=E3.out;omega)
   have q2:((B.length:Int) !=(R.length:Int))=false:=by rw [E5.out];exact bne_self_eq_false _
   have q3:decide (ka > (sl.length:Int))=false:=decide_eq_false (by have:=E7.out;omega)
   go_wp2
   clear q1 q2 q3 hz12_0 hz12_1
   go_loopg [17] R.length (fun gg v17 wr=> ∃i:Nat,i≤R.length∧R.length - i≤gg∧v17= .int .i64 (i:Int)∧Aside0 (Al (fun W_=>(Kd.C (Kd.slice 2 (Kd.int .i64)) W_ A14 sl.length sl)∧(W_.heap[g12]?=some (.cells #[.int .i64 x, .int .i64 y] 93 (0,0)))∧(Kd.C (Kd.int .i64) W_ A10 B.length B)∧(Kd.C k93 W_ A8 R.length R)∧(Kd.C k93 W_ A6 R.length R)∧(W_.heap[g3]?=some (.cells #[.slice Aam Ma.length cam, .slice Aaq Qa.length caq] 30 (0,0)))∧(Kd.C (Kd.int .i64) W_ Aac Va.length Va)∧(Kd.C (Kd.int .i64) W_ Aaq Qa.length Qa)∧(Kd.C (Kd.slice 2 (Kd.int .i64)) W_ Aam Ma.length Ma)∧True) wr)∧Aside0 (Below w.heap.size w wr))
   case atStart=>exact⟨0,Nat.zero_le _,by omega,rfl,AL,HB⟩
   case round=>
    clear AL HB
    obtain⟨i,hi,hg,rfl,AL,HB⟩:=hrel
    by_cases hlt:i < R.length
    ·have hltz:(i:Int) < (R.length:Int):=by omega
     have h0z:(0:Int)≤(i:Int):=by omega
     have hltb:(i:Int) < (B.length:Int):=by rw [E5.out];exact hltz
     have hw:IntKind.i64.wrap ((i:Int)+1)=((i+1:Nat):Int):=by rw [IntWalk.i64_in _ (by have:=H4.out;omega)];rfl
     have HG:=q_ hg;have HLT:=q_ hlt;have HI:=q_ hi;clear hi hg hlt
     obtain⟨adR,ea,hxR,hyR⟩:=at_T93 (AL.out.now.2.2.2.2.1) (i:Int) h0z hltz
     have EA6:=q_ ea
     obtain⟨adB,eb,hxB⟩:=Kd.at_int (AL.out.now.2.2.1) (i:Int) h0z hltb
     have EB6:=q_ eb
     have HL5:=q_ (show (B.length:Int)=(R.length:Int) by rw [E5.out])
     subst ea;subst eb
     rw [Int.toNat_natCast] at hxR hyR hxB
     by_cases ck:0 < ka
     ·have ck1:decide (ka > 0)=true:=decide_eq_true ck
      have ck2:(ka==0)=false:=by simp;omega
      have q1:decide ((rd_T93 R (i:Int)).f0 < 0)=false:=decide_eq_false (by have:=E9.out ck i HLT.out;omega)
      clear ck
      go_wp2
      go_roundg (R.length - (i+1))
      case measure=>have:=HG.out;have:=HLT.out;omega
      case rel=>exact⟨i+1,HLT.out,by omega,by first | rfl | (rw [hw]) | (simp [hw]),AL,HB⟩
     ·have ck1:decide (ka > 0)=false:=decide_eq_false (by omega)
      have ck2:(ka==0)=true:=by have:=E6.out;simp;omega
      have q1:(rd B (i:Int) !=(i:Int))=false:=by have h:=E10.out (by have:=E6.out;omega) i HLT.out;unfold rd;rw [Int.toNat_natCast,h];exact bne_self_eq_false _
      clear ck
      go_wp2
      go_roundg (R.length - (i+1))
      case measure=>have:=HG.out;have:=HLT.out;omega
      case rel=>exact⟨i+1,HLT.out,by omega,by first | rfl | (rw [hw]) | (simp [hw]),AL,HB⟩
    ·have hltz: ¬ (i:Int) < (R.length:Int):=by omega
     clear hi hg hlt
     by_cases ck:0 < ka
     ·have ck1:decide (ka > 0)=true:=decide_eq_true ck
      obtain⟨B2,r,v,f1,f2,f3,f4,f5,f6⟩:=E11.out ck
      have F1:=q_ f1
      have F2:=q_ f2
      have F3:=q_ f3
      have F4:=q_ f4
      have F5:=q_ f5
      have F6:=q_ f6
      have CK:=q_ ck
      clear ck f1 f2 f3 f4 f5 f6
      have hwk:IntKind.i64.wrap (ka - 1)=ka - 1:=IntWalk.i64_in _ (by have:=E6.out;have:=Za.out.2.2.2.2.2.2;omega)
      have hz3_0:=cz_ (q_ (AL.out.now.2.2.2.2.2.1)) 0
      have hz3_1:=cz_ (q_ (AL.out.now.2.2.2.2.2.1)) 1
      go_wp2_with fail
      refine(impl_BasisAfter.calls _ _ Ma _ _ Qa _ _ Va (ka - 1) B2 0 _ (AL.out.now.2.2.2.2.2.2.2.2.1) Za.out.1 (AL.out.now.2.2.2.2.2.2.2.1) Za.out.2.1 (AL.out.now.2.2.2.2.2.2.1) Za.out.2.2.1 F1.out).mono ?_
      rintro e w13 ⟨v18,rfl,ho,hb⟩
      clear hz3_0 hz3_1
      replace AL:=q_ (AL.out.mv hb)
      replace HB:=q_ (below_step HB.out hb)
      obtain⟨A18,c18,rfl⟩:=Kd.R_slice ho
      have C18:=q_ (Kd.R_reads' ho).2.1
      replace AL:=q_ (AL.out.addC (Kd.R_reads' ho).2.2)
      clear hb ho
      have q2:((B2.length:Int) !=(B.length:Int))=false:=by rw [F2.out,E5.out];exact bne_self_eq_false _
      go_wp2
      clear q2
      go_loopg [20,21] R.length (fun gg v20 v21 wr2=> ∃(i:Nat) (x2:Int),i≤R.length∧R.length - i≤gg∧v21= .int .i64 (i:Int)∧v20= .int .i64 x2∧x2=(if r < i then 1 else 0)∧Aside0 (Al (fun W_=>(Kd.C (Kd.int .i64) W_ A18 B2.length B2)∧(Kd.C (Kd.slice 2 (Kd.int .i64)) W_ A14 sl.length sl)∧(W_.heap[g12]?=some (.cells #[.int .i64 x, .int .i64 y] 93 (0,0)))∧(Kd.C (Kd.int .i64) W_ A10 B.length B)∧(Kd.C k93 W_ A8 R.length R)∧(Kd.C k93 W_ A6 R.length R)∧(W_.heap[g3]?=some (.cells #[.slice Aam Ma.length cam, .slice Aaq Qa.length caq] 30 (0,0)))∧(Kd.C (Kd.int .i64) W_ Aac Va.length Va)∧(Kd.C (Kd.int .i64) W_ Aaq Qa.length Qa)∧(Kd.C (Kd.slice 2 (Kd.int .i64)) W_ Aam Ma.length Ma)∧True) wr2)∧Aside0 (Below w.heap.size w wr2))
      case atStart=>exact⟨0,0,Nat.zero_le _,by omega,rfl,rfl,rfl,AL,HB⟩
      case round=>
       clear AL HB
       obtain⟨i,x2,hi,hg,rfl,rfl,hx,AL,HB⟩:=hrel
       by_cases hlt:i < R.length
       ·have hltz:(i:Int) < (B.length:Int):=by rw [E5.out];omega
        have h0z:(0:Int)≤(i:Int):=by omega
        have hlt2:(i:Int) < (B2.length:Int):=by rw [F2.out];omega
        have hw:IntKind.i64.wrap ((i:Int)+1)=((i+1:Nat):Int):=by rw [IntWalk.i64_in _ (by have:=H4.out;omega)];rfl
        have HG:=q_ hg;have HLT:=q_ hlt;clear hi hg hlt
        have hxc:rd B2 (i:Int)=B2.getD i 0:=by unfold rd;rw [Int.toNat_natCast]
        by_cases eir:i=r
        ·subst eir
         have hxb:rd B (i:Int)=v:=by unfold rd;rw [Int.toNat_natCast,F5.out,List.getD_eq_getElem?_getD,List.getElem?_set_self (by have:=F2.out;have:=HLT.out;omega)];rfl
         have HXB:=q_ hxb;clear hxb
         have hsb:rd_L1 sl (ka - 1)= [v,B2.getD i 0]:=F6.out
         obtain⟨b,hbi⟩: ∃b,B2.getD i 0=b:=⟨_,rfl⟩
         rw [hbi] at hxc hsb
         have HXC:=q_ hxc;clear hxc
         have hka0:0≤ka - 1:=by have:=CK.out;omega
         have hka1:ka - 1 < (sl.length:Int):=by have:=E7.out;omega
         have hnv:(b==v)=false:=by have h:=F4.out;rw [hbi] at h;simp;exact fun e=>h e.symm
         have hka2:1≤ka:=by omega
         have HSB:=q_ hsb;have HX:=q_ hx;have hx0:x2=0:=by rw [hx,if_neg (by omega)]
         subst hx0
         clear hx hsb hbi
         have hw1:IntKind.i64.wrap (0+1)=1:=by decide
         go_wp2_with fail
         have hb:Below wr.heap.size wr wr.drew:=below_drew (Below.refl _ _)
         replace AL:=q_ (AL.out.mv hb)
         replace HB:=q_ (below_step HB.out hb)
         clear hb
         obtain⟨adB,eb,hxB⟩:=Kd.at_int (AL.out.now.2.2.2.1) (i:Int) h0z hltz
         subst eb
         obtain⟨adC,eb,hxC⟩:=Kd.at_int (AL.out.now.1) (i:Int) h0z hlt2
         subst eb
         rw [Int.toNat_natCast,HXB.out] at hxB
         rw [Int.toNat_natCast,HXC.out] at hxC
         refine st_ (n:=9) (S:=fun w'=>w'.cell? (adB.add i)=some (.int .i64 v)∧w'.cell? (adC.add i)=some (.int .i64 b)) (ds:= []) ⟨hxB,hxC⟩ (fun hHeld=>?_)
         clear hxB hxC
         generalize wr.drew=w81 at AL HB hHeld ⊢
         refine pu_ 0 171 ?_
         refine pu_ 1 172 ?_
         refine pu_ 2 173 ?_
         refine pu_ 4 175 ?_
         refine pu_ 5 176 ?_
         refine pu_ 6 177 ?_
         refine tk_ 3 174 ?_
         refine tk_ 7 178 ?_
         refine pu_ 8 179 ?_
         refine done_ (by kernel_rfl) ?_
         clear hHeld
         go_wp2_with fail
         have hb:Below w81.heap.size w81 w81.drew:=below_drew (Below.refl _ _)
         replace AL:=q_ (AL.out.mv hb)
         replace HB:=q_ (below_step HB.out hb)
         clear hb
         obtain⟨adB2,eb,hxB⟩:=Kd.at_int (AL.out.now.2.2.2.1) (i:Int) h0z hltz
         injection eb with eb;subst eb
         obtain⟨adC2,eb,hxC⟩:=Kd.at_int (AL.out.now.1) (i:Int) h0z hlt2
         injection eb with eb;subst eb
         rw [Int.toNat_natCast,HXB.out] at hxB
         rw [Int.toNat_natCast,HXC.out] at hxC
         obtain⟨adS,AS,cS,eb,hxS,hlS,hiS⟩:=at_L1 (AL.out.now.2.1) (ka - 1) hka0 hka1
         subst eb
         rw [HSB.out] at hxS hlS hiS
         rw [show (ka - 1).toNat=ka.toNat - 1 by omega] at hxS
         have hl2:([v,b]:List Int).length=2:=rfl
         rw [hl2] at hxS hlS hiS
         obtain⟨adT,eb,hxT⟩:=Kd.at_int hiS 0 (by omega) (by omega)
         subst eb
         obtain⟨adT2,eb,hxU⟩:=Kd.at_int hiS 1 (by omega) (by omega)
         injection eb with eb;subst eb
         replace hxT:w81.drew.cell? adT=some (.int .i64 v):=hxT
         replace hxU:w81.drew.cell? ⟨adT.block,adT.off+1,none⟩=some (.int .i64 b):=hxU
         clear hiS hlS hl2
         refine st_ (n:=26) (S:=fun w'=>w'.cell? (adB.add i)=some (.int .i64 v)∧w'.cell? (adC.add i)=some (.int .i64 b)∧w'.cell? (adS.add (ka.toNat - 1))=some (.slice (some adT) 2 cS)∧w'.cell? adT=some (.int .i64 v)∧w'.cell? ⟨adT.block,adT.off+1,none⟩=some (.int .i64 b)) (ds:= []) ⟨hxB,hxC,hxS,hxT,hxU⟩ (fun hHeld=>?_)
         clear hxB hxC hxS hxT hxU
         generalize w81.drew=w82 at AL HB hHeld ⊢
         refine pu_ 0 182 ?_
         refine pu_ 1 183 ?_
         refine pu_ 2 184 ?_
         refine pu_ 4 186 ?_
         refine pu_ 5 187 ?_
         refine pu_ 6 188 ?_
         refine pu_ 7 189 ?_
         refine tk_ 3 185 ?_
         refine tk_ 8 190 ?_
         refine pu_ 9 191 ?_
         refine tk_ 10 192 ?_
         refine pu_ 11 193 ?_
         refine pu_ 12 194 ?_
         refine pu_ 13 195 ?_
         refine pu_ 14 196 ?_
         refine pu_ 15 197 ?_
         refine pu_ 17 199 ?_
         refine pu_ 18 200 ?_
         refine pu_ 19 201 ?_
         refine pu_ 20 202 ?_
         refine tk_ 16 198 ?_
         refine tk_ 21 203 ?_
         refine pu_ 22 204 ?_
         refine tk_ 23 205 ?_
         refine pu_ 24 206 ?_
         refine pu_ 25 207 ?_
         refine done_ (by kernel_rfl) ?_
         clear hHeld
         go_wp2
         go_roundg (R.length - (i+1))
         case measure=>have:=HG.out;have:=HLT.out;omega
         case rel=>exact⟨i+1,_,HLT.out,by omega,by first | rfl | (rw [hw]) | (simp [hw]),by first | rfl | simp,by rw [if_pos (by omega)],AL,HB⟩
        ·have hxb:rd B (i:Int)=B2.getD i 0:=by unfold rd;rw [Int.toNat_natCast,F5.out,List.getD_eq_getElem?_getD,List.getElem?_set_ne (fun h=>eir h.symm),List.getD_eq_getElem?_getD]
         obtain⟨b,hbi⟩: ∃b,B2.getD i 0=b:=⟨_,rfl⟩
         rw [hbi] at hxc hxb
         have HXC:=q_ hxc;clear hxc
         have HXB:=q_ hxb;have EIR:=q_ eir;have HX:=q_ hx;clear eir hx hxb hbi
         go_wp2_with fail
         have hb:Below wr.heap.size wr wr.drew:=below_drew (Below.refl _ _)
         replace AL:=q_ (AL.out.mv hb)
         replace HB:=q_ (below_step HB.out hb)
         clear hb
         obtain⟨adB,eb,hxB⟩:=Kd.at_int (AL.out.now.2.2.2.1) (i:Int) h0z hltz
         subst eb
         obtain⟨adC,eb,hxC⟩:=Kd.at_int (AL.out.now.1) (i:Int) h0z hlt2
         subst eb
         rw [Int.toNat_natCast,HXB.out] at hxB
         rw [Int.toNat_natCast,HXC.out] at hxC
         refine st_ (n:=9) (S:=fun w'=>w'.cell? (adB.add i)=some (.int .i64 b)∧w'.cell? (adC.add i)=some (.int .i64 b)) (ds:= []) ⟨hxB,hxC⟩ (fun hHeld=>?_)
         clear hxB hxC
         generalize wr.drew=w81 at AL HB hHeld ⊢
         refine pu_ 0 171 ?_
         refine pu_ 1 172 ?_
         refine pu_ 2 173 ?_
         refine pu_ 4 175 ?_
         refine pu_ 5 176 ?_
         refine pu_ 6 177 ?_
         refine tk_ 3 174 ?_
         refine tk_ 7 178 ?_
         refine pu_ 8 179 ?_
         refine done_ (by kernel_rfl) ?_
         clear hHeld
         go_wp2
         go_roundg (R.length - (i+1))
         case measure=>have:=HG.out;have:=HLT.out;omega
         case rel=>exact⟨i+1,_,HLT.out,by omega,by first | rfl | (rw [hw]) | (simp [hw]),rfl,by rw [HX.out];have:=EIR.out;by_cases q:r < i;(rw [if_pos q,if_pos (by omega)]);(rw [if_neg q,if_neg (by omega)]),AL,HB⟩
       ·have hltz: ¬ (i:Int) < (B.length:Int):=by rw [E5.out];omega
        have hx1:x2=1:=by rw [hx,if_pos (by have:=F3.out;omega)]
        subst hx1
        clear hx hi hg hlt
        go_wp2
        go_meet
        case rel=>exact⟨⟨⟨fun _ _=>trivial⟩⟩,HB⟩
     ·have ck1:decide (ka > 0)=false:=decide_eq_false (by omega)
      go_wp2
      go_meet
      case rel=>exact⟨⟨⟨fun _ _=>trivial⟩⟩,HB⟩
  ·have c5b:(c==0)=false:=by simpa using cc
   go_wp2
   go_meet
   case rel=>exact⟨⟨⟨fun _ _=>trivial⟩⟩,HB⟩
 case rest=>
  clear AL HB
  obtain⟨AL,HB⟩:=hcut
  rename_i hk
  exact hk _ _ (laws_FnLemkeTables.after68_walk HR0 HC0 HBY HLN HB)
theorem laws_FnLemkeTables.small (A0:Option Addr) (c0:Nat) (l0:List Int) (w:World) (hr0:Kd.C (Kd.int .u8) w A0 l0.length l0) (hc0:l0.length≤c0) (h0:(l0.length:Int) > 4096):
  Calls Try.prog 8 #[.slice A0 l0.length c0] w fun e w'=>e= .returned (.bool true)∧Below w.heap.size w w':=by
 have HR0:=q_ hr0
 have HC0:=q_ hc0
 have H0:=q_ h0
 clear hr0 hc0 h0
 go_enter Try.func8,Try.ntmps8
 go_wp2_with fail
 refine(laws_big.calls A0 c0 l0 true _ HR0.out HC0.out (by unfold laws_big.f;rw [decide_eq_true H0.out])).mono ?_
 rintro e w2 ⟨rfl,hd⟩
 have hb:=q_ (Al.drawn_below hd)
 clear hd
 go_wp2
 go_ret
 exact⟨rfl,hb.out⟩
open Classical in
noncomputable def laws_FnLemkeTables.f (k:Nat) (l0:List Int):Option Bool:=if(l0.length:Int) > 4096∨(∀i:Nat,0≤l0.getD i 0∧l0.getD i 0≤255) then some true else none
theorem laws_FnLemkeTables.calls (k:Nat) (A0:Option Addr) (c0:Nat) (l0:List Int) (r:Bool) (w:World) (hr0:Kd.C (Kd.int .u8) w A0 l0.length l0) (hc0:l0.length≤c0) (h:laws_FnLemkeTables.f k l0=some r):
  Calls Try.prog 8 #[.slice A0 l0.length c0] w fun e w'=>e= .returned (.bool r)∧Below w.heap.size w w':=by
 unfold laws_FnLemkeTables.f at h
 split at h
 case isFalse=>cases h
 rename_i hok
 cases h
 by_cases h1:(l0.length:Int) > 4096
 ·exact laws_FnLemkeTables.small A0 c0 l0 w hr0 hc0 h1
 ·exact laws_FnLemkeTables.walk ⟨hr0⟩ ⟨hc0⟩ ⟨hok.resolve_left h1⟩ ⟨by omega⟩
end Go.Proofs.Ytmpkckiifeikkaa.Pr
end
section
namespace Go.Proofs.Ytmpkckiifeikkaa.Say
open Go.Proofs.Ytmpkckiifeikkaa.Op Go.Proofs.Ytmpkckiifeikkaa.Pr
def FnLemkeTables:Prop:= ∀(l0:List Int),GoodList (GoodInt .u8) l0→ ∃k,laws_FnLemkeTables.f k l0=some true
end Go.Proofs.Ytmpkckiifeikkaa.Say
end
section
namespace Go.Proofs.Ytmpkckiifeikkaa.Pure
open Go.RowKit Go.Proofs.YtmpkckiifeikkaaW.PrintWords Go.Proofs.YtmpkckiifeikkaaW.PrintMore Go.Proofs.Ytmpkckiifeikkaa.Pr Go.Proofs.Ytmpkckiifeikkaa.Op
theorem bytes_of {l:List Int} (h:GoodList (GoodInt .u8) l): ∀i:Nat,0≤l.getD i 0∧l.getD i 0≤255:=fun i=>by
 by_cases c:i < l.length
 ·have hm:=h.2 l[i] (List.getElem_mem c)
  replace hm:(decide (IntKind.u8.min≤l[i]) && decide (l[i]≤IntKind.u8.max))=true:=hm
  have h2:IntKind.u8.min=0∧IntKind.u8.max=255:=by decide
  rw [h2.1,h2.2,Bool.and_eq_true,decide_eq_true_eq,decide_eq_true_eq] at hm
  rw [List.getD_eq_getElem?_getD,List.getElem?_eq_getElem c]
  exact hm
 ·rw [List.getD_eq_getElem?_getD,List.getElem?_eq_none (by omega)]
  exact⟨by decide,by decide⟩
theorem FnLemkeTables:Say.FnLemkeTables:=fun l0 hg=>⟨0,by
 classical
 unfold laws_FnLemkeTables.f
 rw [if_pos (.inr (bytes_of hg))]⟩
end Go.Proofs.Ytmpkckiifeikkaa.Pure
end
section
namespace Go.Proofs.Ytmpkckiifeikkaa.fnLemkeTables
open Go.ChangeShapes Go.WideShapes Go.ChangeAt Go.RowKit Go.Proofs.Ytmpkckiifeikkaa.Op Go.Proofs.YtmpkckiifeikkaaW.PrintWords
theorem own:ownKnob Try.prog.godebug=none:=by kernel_rfl
theorem laidOut:laidOutB Try.prog=true:=by kernel_rfl
theorem lifted (os:Os) (started:os.Started) (H:Type) (enc:TypeId × Value→H):
  ReturnsInHanded {} Try.checked os 8 .any (Rows.fnLemkeTablesSpec.pre6 enc Try.prog Try.f8 Rows.fnLemkeTablesRow.domain false) (Rows.fnLemkeTablesSpec.post enc Try.prog Try.f8 false true false false):=by
 refine returnsInHanded_of_change_sized (C:=Try.checked) own started (by kernel_rfl) Try.func8
  (ChangeSpec.witness6 (enc:=enc) (C:=Try.checked) false ⟨#[], #[.slice none 0 0], []⟩ 8 (by kernel_rfl) (by kernel_rfl) (by kernel_rfl) (by kernel_rfl)) ?_
 intro W base args ds gs before hval0 hW hcnd hsz0 _
 have hval: ∀(j:Nat) t v,Try.f8.params[j]?=some t→args[j]?=some v→Value.okWide Try.prog W .any base t v:=hval0
 have hW':=hW
 obtain⟨p,q,hA0,hV,rfl,hfz,hnd⟩:=hW
 have hA:DataW.TrodAll enc Try.prog W 0 (fun _=>true) true Try.f8.params.toList args.toList ds p:=hA0
 rw [Try.params8] at hA hval
 obtain⟨v0,vs0,d0,ds0,p0,q0,hargs,rfl,rfl,h0,r0⟩:=trodAll_cons hA
 obtain⟨rfl,rfl,rfl⟩:=trodAll_nil r0
 obtain rfl:args= #[v0]:=by cases args;simp_all
 obtain⟨rfl,rfl⟩:=trodVars_none hV
 have k0:=h0
 have lt0:=trod_blocks k0
 obtain⟨A0,c0,l0,rfl,q0_0,r0_0,g0⟩:=arg_slice (d:=(Kd.int .u8)) Try.underlying42 (by kernel_rfl) (opens_int Try.underlying5) (hval 0 42 v0 rfl rfl) h0
 obtain⟨k,h⟩:=Pure.FnLemkeTables l0 g0
 clear hA0 hval0 hsz0
 refine(Pr.laws_FnLemkeTables.calls k A0 c0 l0 true W r0_0 q0_0 h).mono ?_
 rintro e W' ⟨rfl,bel0⟩
 have bel:Below W.heap.size W W':=by first | exact bel0 | exact bel0.below
 exact⟨_,rfl,_,_,_, [],_, [],hW',trodAll_mk1 (shut_bool Try.underlying4 _),(trodAll_cons_mk (Below.trod laidOut (by kernel_rfl) (of_decide_eq_true (by kernel_rfl)) k0 bel lt0) trodAll_mk0),rfl,bel.frame _,fun h=>by cases h⟩
theorem over:Rows.fnLemkeTablesRow.holds Try.pinned (OpenSpec.ofChange Rows.fnLemkeTablesSpec):=
 OpenClaim.holds_of_wide 8 Try.f8 rfl rfl rfl rfl rfl rfl rfl ⟨rfl,rfl,rfl,rfl,rfl⟩ rfl rfl rfl rfl rfl (by kernel_rfl) Try.func8 (by kernel_rfl)
  (of_decide_eq_true (by kernel_rfl)) (by unfold Func.isWrapper;first | (rw [if_pos (by decide+kernel)];kernel_rfl) | (rw [if_neg (by decide+kernel)];exact⟨rfl,rfl⟩))
  (fun os started H enc _=>lifted os started H enc)
theorem proved:Rows.FnLemkeTablesSaid:=over
#print axioms proved
end Go.Proofs.Ytmpkckiifeikkaa.fnLemkeTables
namespace Go.Proofs.Ytmpkckiifeikkaa
theorem fnLemkeTables_holds:Rows.FnLemkeTablesSaid:=fnLemkeTables.proved
end Go.Proofs.Ytmpkckiifeikkaa
end
