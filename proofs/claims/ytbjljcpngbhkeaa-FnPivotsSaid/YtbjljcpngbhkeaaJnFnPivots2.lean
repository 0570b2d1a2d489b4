/- Texts of one claim (the words of the kit's print that the claim uses, printed functions, and this session's own texts), joined in the order of their imports by this session's own program (merge.py). -/
import Derived.Test.YtbjljcpngbhkeaaJnFnPivots0
import Derived.Test.YtbjljcpngbhkeaaJnFnPivots1
set_option linter.unusedVariables false
set_option linter.unusedSimpArgs false
set_option maxHeartbeats 8000000
set_option maxRecDepth 100000
section
namespace Go.Proofs.Ytbjljcpngbhkeaa.Pv
open Go.RowKit Go.Proofs.YtbjljcpngbhkeaaW.PrintWords Go.Proofs.YtbjljcpngbhkeaaW.PrintLast Go.Proofs.YtbjljcpngbhkeaaW.PrintMore Go.Proofs.Ytbjljcpngbhkeaa.Pr Go.Proofs.Ytbjljcpngbhkeaa.Ma Go.Proofs.Ytbjljcpngbhkeaa.Lw Go.Proofs.Ytbjljcpngbhkeaa.Hput Go.Proofs.Ytbjljcpngbhkeaa.Dt
open Go.Proofs.Ytbjljcpngbhkeaa.Hd (en lt_of_cell)
def pE (l:List (List Int)) (cs:Nat→List Int) (k i r c:Nat):Int:=if c < k∨c=k∧r < i then wrap64 (-(cs c).getD r 0) else en l r c
def pR (l:List (List Int)) (cs:Nat→List Int) (n k i:Nat):List (List Int):=(List.range n).map fun r=>(List.range n).map (pE l cs k i r)
theorem pR_len (l:List (List Int)) (cs:Nat→List Int) (n k i:Nat):(pR l cs n k i).length=n:=by simp [pR]
theorem pR_row (l:List (List Int)) (cs:Nat→List Int) (n k i r:Nat) (h:r < (pR l cs n k i).length):(pR l cs n k i)[r]=(List.range n).map (pE l cs k i r):=by simp [pR]
theorem pR_set (l:List (List Int)) (cs:Nat→List Int) (n k i:Nat) (hi:i < n) (hk:k < n):(pR l cs n k i).set i (((List.range n).map (pE l cs k i i)).set k (wrap64 (-(cs k).getD i 0)))=pR l cs n k (i+1):=by
 apply List.ext_getElem
 ·simp [pR]
 ·intro r h1 h2
  have hr:r < n:=by simpa [pR] using h2
  rw [List.getElem_set]
  simp only [pR,List.getElem_map,List.getElem_range]
  by_cases e:i=r
  ·subst e
   rw [if_pos rfl]
   apply List.ext_getElem
   ·simp
   ·intro c h3 h4
    have hc:c < n:=by simpa using h4
    rw [List.getElem_set]
    simp only [List.getElem_map,List.getElem_range,pE]
    by_cases q:k=c
    ·subst q;rw [if_pos rfl,if_pos (by omega)]
    ·rw [if_neg q]
     by_cases z:c < k
     ·rw [if_pos (.inl z),if_pos (.inl z)]
     ·rw [if_neg (by omega),if_neg (by omega)]
  ·rw [if_neg e]
   refine List.map_congr_left (fun c _=>?_)
   unfold pE
   by_cases z:c < k∨c=k∧r < i
   ·rw [if_pos z,if_pos (by omega)]
   ·rw [if_neg z,if_neg (by omega)]
theorem pR_col (l:List (List Int)) (cs:Nat→List Int) (n k:Nat):pR l cs n k n=pR l cs n (k+1) 0:=by
 unfold pR
 refine List.map_congr_left (fun r hr=>List.map_congr_left (fun c _=>?_))
 have hr:=List.mem_range.1 hr
 unfold pE
 by_cases z:c < k∨c=k∧r < n
 ·rw [if_pos z,if_pos (by omega)]
 ·rw [if_neg z,if_neg (by omega)]
theorem pR_zero (l:List (List Int)) (cs:Nat→List Int) (n:Nat) (hl:l.length=n) (hr: ∀x ∈ l,x.length=n):pR l cs n 0 0=l:=by
 apply List.ext_getElem
 ·simp [pR,hl]
 ·intro r h1 h2
  have hrow:=hr l[r] (List.getElem_mem h2)
  simp only [pR,List.getElem_map,List.getElem_range]
  apply List.ext_getElem
  ·simp [hrow]
  ·intro c h3 h4
   simp only [List.getElem_map,List.getElem_range,pE]
   rw [if_neg (by omega)]
   unfold en
   simp [h2,h4]
theorem pivot_none (k:Nat) (s:Int) (side:List Int) (den:Int) (A0:Option Addr) (c0:Nat) (M:List (List Int)) (A1:Option Addr) (c1:Nat) (Q:List Int) (w:World) (hr0:Kd.C (Kd.slice 2 (Kd.int .i64)) w A0 M.length M) (hc0:M.length≤c0) (hr1:Kd.C (Kd.int .i64) w A1 Q.length Q) (hc1:Q.length≤c1) (hpt:impl_Problem_point.f k M Q s=some (side,den,false)):
  Calls Try.prog 72 #[.agg #[.slice A0 M.length c0, .slice A1 Q.length c1], .int .i64 s] w fun e w'=>e= .returned (.tuple #[.agg #[.int .i64 0, .slice none 0 0, .slice none 0 0], .bool false])∧Below w.heap.size w w':=by
 have HR0:=q_ hr0;have HC0:=q_ hc0;have HR1:=q_ hr1;have HC1:=q_ hc1;have HPT:=q_ hpt;have HB:=q_ (Below.refl w.heap.size w);clear hr0 hc0 hr1 hc1 hpt
 go_enter Try.func72,Try.ntmps72
 go_wp2_with (first | ((with_reducible refine gate_dst (N:=2) rfl ?_);refine be_ 2 #[.slice A0 M.length c0, .slice A1 Q.length c1] 27 ?_;intro gb hg w6 hbox hb;replace HB:=q_ (below_step HB.out hb);have BK:=q_ hbox;clear hb hbox hg) | ((with_reducible refine gate_dst (N:=4) rfl ?_);refine be_ 4 #[.int .i64 0, .slice none 0 0, .slice none 0 0] 49 ?_;intro g4 hg w7 hbox hb;have n0_:=q_ (below_step HB.out hb);have n1_:=q_ (blk_below BK.out hb);have n2_:=q_ hbox;have G4:Aside0 (w.heap.size≤g4):=⟨by have:=HB.out.size;omega⟩;clear HB BK;have HB:=n0_;have BK:=n1_;have B4:=n2_;clear n0_ n1_ n2_ hb hbox hg;have hcz0:=cz_ BK 0;have hcz1:=cz_ BK 1))
 refine(impl_Problem_point.calls k A0 c0 M A1 c1 Q s side den false _ (Kd.C_below HR0.out HB.out) HC0.out (Kd.C_below HR1.out HB.out) HC1.out HPT.out).mono ?_
 rintro e w8 ⟨v,rfl,hR,hb⟩;replace HB:=q_ (below_step HB.out hb);replace B4:=q_ (blk_below B4.out hb);clear BK hcz0 hcz1 hb hR;have hs0:=cz_ B4 0;have hsf0:=blk_frozen B4.out 0;have hs1:=cz_ B4 1;have hsf1:=blk_frozen B4.out 1;have hs2:=cz_ B4 2;have hsf2:=blk_frozen B4.out 2
 go_wp2_with (first | ((with_reducible refine gate_store (t:=49) (p:=4) rfl ?_);refine store_event (t:=49) (p:=4) (v:=?vo) (w1:=(((w8.setCell ⟨g4,0,none⟩ (.int .i64 0)).setCell ⟨g4,1,none⟩ (.slice none 0 0)).setCell ⟨g4,2,none⟩ (.slice none 0 0))) ?hg ?ho ?hn ?hr ?_;(case ho=>rfl);(case hg=>rfl);(case hn=>rfl);(case hr=>first | (go_simp;done) | (go_simp;rfl));intro w9 hw;have nb:=q_ (show w9.heap[g4]?=some (.cells #[.int .i64 0, .slice none 0 0, .slice none 0 0] 49 (0,0)) from (by rw [hw];exact(blk_put (blk_put (blk_put B4.out 0 _ rfl) 1 _ rfl) 2 _ rfl)));have nB:=q_ (show Below w.heap.size w w9 from (by rw [hw];exact below_set (below_set (below_set HB.out G4.out) G4.out) G4.out));clear hw HB B4;have HB:=nB;have B4:=nb;clear nB nb))
 refine bodyPost_ret (results_list (rs:= [.cell 4 49, .tmp 5]) rfl (by simp) (.cell g4 49 #[.int .i64 0, .slice none 0 0, .slice none 0 0] (0,0) _ rfl B4.out Try.underlying49 rfl (by kernel_rfl) (.tmp .nil))) rfl ?_
 exact⟨rfl,HB.out⟩
theorem pivot_calls (k n:Nat) (s:Int) (side:List Int) (den:Int) (ck cs:Nat→List Int) (d2:Nat→Int) (o2:Nat→Bool) (k2:Nat) (A0:Option Addr) (c0:Nat) (M:List (List Int)) (A1:Option Addr) (c1:Nat) (Q:List Int) (w:World) (hr0:Kd.C (Kd.slice 2 (Kd.int .i64)) w A0 M.length M) (hc0:M.length≤c0) (hr1:Kd.C (Kd.int .i64) w A1 Q.length Q) (hc1:Q.length≤c1) (hM:M.length=n) (hMr: ∀x ∈ M,x.length=n) (hQ:Q.length=n) (hp:0 < n) (hn:n≤1000) (hpt:impl_Problem_point.f k M Q s=some (side,den,true)) (hsl:side.length=n) (hcp:impl_copyRows.f k2 M=some M)
  (hcol: ∀j,j < n→ ∃t,impl_has.f s (j:Int)=some t∧impl_Problem_column.f k M Q (j:Int) (!t)=some (ck j)∧impl_Problem_solve.f k M Q s (ck j)=some (cs j,d2 j,o2 j)∧(cs j).length=n):
  Calls Try.prog 72 #[.agg #[.slice A0 M.length c0, .slice A1 Q.length c1], .int .i64 s] w fun e w'=> ∃v0_ v1_:Value,e= .returned (.tuple #[.agg #[.int .i64 den,v0_,v1_], .bool true])∧Kd.S (Kd.slice 2 (Kd.int .i64)) 25 w' w.heap.size (fun k_=>some k_≠(v1_:Value).ownBlock) v0_ (pR M cs n n 0)∧Kd.R (Kd.int .i64) 2 w' w.heap.size (fun _=>True) v1_ side∧Below w.heap.size w w':=by
 have HR0:=q_ hr0;have HC0:=q_ hc0;have HR1:=q_ hr1;have HC1:=q_ hc1;have HM0:=q_ hM;have HMR:=q_ hMr;have HQ:=q_ hQ;have HP:=q_ hp;have HN:=q_ hn;have HPT:=q_ hpt;have HSL:=q_ hsl;have HCP:=q_ hcp;have HCOL:=q_ hcol;have HB:=q_ (Below.refl w.heap.size w);have hqz:(Q.length:Int)=(n:Int):=by omega
 clear hr0 hc0 hr1 hc1 hpt hM hMr hQ hp hn hsl hcp hcol
 go_enter Try.func72,Try.ntmps72
 go_wp2_with (first | ((with_reducible refine gate_dst (N:=2) rfl ?_);refine be_ 2 #[.slice A0 M.length c0, .slice A1 Q.length c1] 27 ?_;intro gb hg w6 hbox hb;replace HB:=q_ (below_step HB.out hb);have BK:=q_ hbox;clear hb hbox hg) | ((with_reducible refine gate_dst (N:=4) rfl ?_);refine be_ 4 #[.int .i64 0, .slice none 0 0, .slice none 0 0] 49 ?_;intro g4 hg w7 hbox hb;have n0_:=q_ (below_step HB.out hb);have n1_:=q_ (blk_below BK.out hb);have n2_:=q_ hbox;have G4:Aside0 (w.heap.size≤g4):=⟨by have:=HB.out.size;omega⟩;clear HB BK;have HB:=n0_;have BK:=n1_;have B4:=n2_;clear n0_ n1_ n2_ hb hbox hg;have hcz0:=cz_ BK 0;have hcz1:=cz_ BK 1))
 have G4S:=q_ (blk_lt B4.out);refine(impl_Problem_point.calls k A0 c0 M A1 c1 Q s side den true _ (Kd.C_below HR0.out HB.out) HC0.out (Kd.C_below HR1.out HB.out) HC1.out HPT.out).mono ?_
 rintro e w8 ⟨v,rfl,hR,hb⟩;obtain⟨As,cS,rfl⟩:=Kd.R_slice hR;have HS:=q_ (UR.of hR HB.out.size)
 generalize hslo:w7.heap.size=slo at HS G4S
 have n0_:=q_ (below_step HB.out hb);have n1_:=q_ (blk_below B4.out hb);have n2_:=q_ (blk_below BK.out hb);have G4L:=q_ (blk_lt n1_.out);have GBL:=q_ (blk_lt n2_.out);clear HB B4 BK hcz0 hcz1 hb hR;have HB:=n0_;have B4:=n1_;have BK:=n2_;clear n0_ n1_ n2_;rw [HSL.out] at HS ⊢;have hcz0:=cz_ BK 0;have hcz1:=cz_ BK 1
 go_wp2_with fail
 refine(impl_copyRows.calls k2 A0 c0 M M w8 (Kd.C_below HR0.out HB.out) HC0.out HCP.out).mono ?_
 rintro e w9 ⟨v9,rfl,hS9,hb⟩;obtain⟨g,cap,rfl,hg1,hg2,cells9,hgc9⟩:=Kd.S_form hS9 (by rw [HM0.out];exact HP.out);have HM:=q_ (US.of hS9 HB.out.size);rw [HM0.out] at HM;rw [HM0.out];have HLH:=q_ hb.size;replace HB:=q_ (below_step HB.out hb);replace B4:=q_ (blk_below B4.out hb);replace BK:=q_ (blk_below BK.out hb);replace HS:=q_ (HS.out.mvB (Frm.below hb));clear hcz0 hcz1 hb hS9 hg1 hg2 hgc9;have HHI:=q_ (Nat.le_refl w9.heap.size)
 generalize hlo:w8.heap.size=lo at*
 generalize hhi:w9.heap.size=hi at HM HLH HHI
 have HHI2:Aside0 (hi=w9.heap.size):=⟨hhi.symm⟩
 clear hlo hhi HHI
 go_wp2_with (first | ((with_reducible refine gate_dst (N:=9) rfl ?_);refine be_ 9 #[.int .i64 0, .slice none 0 0, .slice none 0 0] 49 ?_;intro g9 hg w10 hbox hb;have n0_:=q_ (below_step HB.out hb);have n1_:=q_ (blk_below B4.out hb);have n2_:=q_ (blk_below BK.out hb);have n3_:=q_ (HS.out.mvB (Frm.below hb));have n4_:=q_ (HM.out.mvB (Frm.below hb));have B9:=q_ hbox;have hs0:=cz_ B9 0;have hsf0:=blk_frozen B9.out 0;have hs1:=cz_ B9 1;have hsf1:=blk_frozen B9.out 1;have hs2:=cz_ B9 2;have hsf2:=blk_frozen B9.out 2;have G9:Aside0 (w.heap.size≤g9):=⟨by have:=HB.out.size;omega⟩;have G9H:Aside0 (hi≤g9):=⟨by have:=HHI2.out;omega⟩;clear HB B4 BK HS HM;have HB:=n0_;have B4:=n1_;have BK:=n2_;have HS:=n3_;have HM:=n4_;clear n0_ n1_ n2_ n3_ n4_ hb hbox hg) | ((with_reducible refine gate_store (t:=49) (p:=9) rfl ?_);refine store_event (t:=49) (p:=9) (v:=?vo) (w1:=(((w10.setCell ⟨g9,0,none⟩ (.int .i64 den)).setCell ⟨g9,1,none⟩ (.slice (some ⟨g,0,none⟩) n cap)).setCell ⟨g9,2,none⟩ (.slice As n cS))) ?hg ?ho ?hn ?hr ?_;(case ho=>rfl);(case hg=>rfl);(case hn=>rfl);(case hr=>first | (go_simp;done) | (go_simp;rfl));intro w11 hw;have hF:Frm w10 w11 g9 (g9+1):=(by rw [hw];exact(Frm.set _ _ _ _).trans ((Frm.set _ _ _ _).trans (Frm.set _ _ _ _)));have nb:=q_ (show w11.heap[g9]?=some (.cells #[.int .i64 den, .slice (some ⟨g,0,none⟩) n cap, .slice As n cS] 49 (0,0)) from (by rw [hw];exact(blk_put (blk_put (blk_put B9.out 0 _ rfl) 1 _ rfl) 2 _ rfl)));have nB:=q_ (show Below w.heap.size w w11 from (by rw [hw];exact below_set (below_set (below_set HB.out G9.out) G9.out) G9.out));clear hs0 hsf0 hs1 hsf1 hs2 hsf2;have n1_:=q_ ((hF.same g4 (blk_lt B4.out) (.inl (by have:=G4L.out;have:=HLH.out;have:=G9H.out;omega))).trans B4.out);have n2_:=q_ ((hF.same gb (blk_lt BK.out) (.inl (by have:=GBL.out;have:=HLH.out;have:=G9H.out;omega))).trans BK.out);have n3_:=q_ (HS.out.mv hF (.inl (by have:=HLH.out;have:=G9H.out;omega)));have n4_:=q_ (HM.out.mv hF (.inl G9H.out));clear B4 BK HS HM;have B4:=n1_;have BK:=n2_;have HS:=n3_;have HM:=n4_;clear n1_ n2_ n3_ n4_;have hcz1:=cz_ BK 1;clear hw HB B9 hF;have HB:=nB;have B9:=nb;clear nB nb))
 go_loopg [35] n (fun gg v35 wr=> ∃j:Nat,j≤n∧n - j≤gg∧v35= .int .i64 (j:Int)∧Aside0 (Below w.heap.size w wr)∧Aside0 (wr.heap[g4]?=some (.cells #[.int .i64 0, .slice none 0 0, .slice none 0 0] 49 (0,0)))∧Aside0 (wr.heap[gb]?=some (.cells #[.slice A0 M.length c0, .slice A1 Q.length c1] 27 (0,0)))∧Aside0 (wr.heap[g9]?=some (.cells #[.int .i64 den, .slice (some ⟨g,0,none⟩) n cap, .slice As n cS] 49 (0,0)))∧Aside0 (UR (Kd.int .i64) 2 w wr slo lo (.slice As n cS) side)∧Aside0 (US (Kd.slice 2 (Kd.int .i64)) 25 w wr lo hi (.slice (some ⟨g,0,none⟩) n cap) (pR M cs n j 0)))
 case atStart=>exact⟨0,Nat.zero_le _,by omega,rfl,HB,B4,BK,B9,HS,⟨by rw [pR_zero M cs n HM0.out HMR.out];exact HM.out⟩⟩
 case round=>
  clear HB B4 BK B9 HS HM hcz1;obtain⟨j,hj,hgg,rfl,HB,B4,BK,B9,HS,HM⟩:=hrel;have HG:=q_ hgg
  by_cases hjn:j < n
  ·have hjz:(j:Int) < (Q.length:Int):=by omega
   have h0j:(0:Int)≤(j:Int):=by omega
   have HJ:=q_ hjn;have hj1:IntKind.i64.wrap ((j:Int)+1)=((j+1:Nat):Int):=by rw [IntWalk.i64_in _ (by have:=HN.out;omega)];rfl
   have HJ1:=q_ hj1;obtain⟨th,hth,hcolf,hsol,hcsl⟩:=HCOL.out j hjn;have HTH:=q_ hth;have HCOLF:=q_ hcolf;have HSOL:=q_ hsol;have HCSL:=q_ hcsl;have HSZ9:Aside0 (hi≤wr.heap.size):=⟨by have:=blk_lt B9.out;have:=G9H.out;omega⟩
   clear hth hcolf hsol hcsl hj hgg hjn;have HBW:=q_ (below_drew (Below.refl wr.heap.size wr));replace HB:=q_ (below_step HB.out HBW.out);replace BK:=q_ (blk_below BK.out HBW.out);replace B4:=q_ (blk_below B4.out HBW.out);replace B9:=q_ (blk_below B9.out HBW.out);replace HS:=q_ (HS.out.mvB (Frm.below HBW.out));replace HM:=q_ (HM.out.mvB (Frm.below HBW.out));clear HBW;have hcz0:wr.drew.cell? ⟨gb,0,none⟩=some (.slice A0 M.length c0):=(blk_cell BK.out 0).trans rfl;have hcz1:wr.drew.cell? ⟨gb,1,none⟩=some (.slice A1 Q.length c1):=(blk_cell BK.out 1).trans rfl;go_wp2
   refine st_ (n:=17) (S:=fun w'=>w'.cell? ⟨gb,0,none⟩=some (.slice A0 M.length c0)∧w'.cell? ⟨gb,1,none⟩=some (.slice A1 Q.length c1)) (ds:= []) ⟨hcz0,hcz1⟩ (fun hHeld=>?_)
   generalize wr.drew=w20 at HB BK B4 B9 HS HM hcz0 hcz1 hHeld ⊢
   refine tk_ 0 39 ?_;refine pu_ 1 40 ?_;refine tk_ 2 41 ?_;refine pu_ 3 42 ?_;refine pu_ 4 43 ?_;refine pu_ 5 44 ?_
   refine on_ 6 (some 45) (fun K hK=>?_)
   refine goes_ Try.func73 (by kernel_rfl) rfl #[.int .i64 s, .int .i64 (j:Int)] (by rfl) rfl rfl (by(try simp only [List.map_toArray,List.map_cons,List.map_nil]);first | done | rfl) ?_
   refine(impl_has.calls s (j:Int) th _ HTH.out).mono ?_
   rintro e w21 ⟨rfl,hd5⟩;refine⟨_,rfl,?_⟩
   have HBW:=q_ hd5.below;clear hd5 hHeld hcz0 hcz1;replace HB:=q_ (below_step HB.out HBW.out);replace BK:=q_ (blk_below BK.out HBW.out);replace B4:=q_ (blk_below B4.out HBW.out);replace B9:=q_ (blk_below B9.out HBW.out);replace HS:=q_ (HS.out.mvB (Frm.below HBW.out));replace HM:=q_ (HM.out.mvB (Frm.below HBW.out));clear HBW;refine hK.out _ _ ⟨(blk_cell BK.out 0).trans rfl,(blk_cell BK.out 1).trans rfl⟩ (fun hHeld=>?_)
   clear hK K;refine norm_ (a':=?_) ?_ ?_
   rotate_left
   ·show Act.put _ (some 45) _=_
    simp only [Act.put,List.setIfInBounds_toArray,List.set_cons_zero,List.set_cons_succ,i64_w,i32_w]
    rfl
   refine pu_ 7 46 ?_
   refine on_ 8 (some 47) (fun K hK=>?_)
   refine goes_ Try.func87 (by kernel_rfl) rfl #[.agg #[.slice A0 M.length c0, .slice A1 Q.length c1], .int .i64 (j:Int), .bool (!th)] (by rfl) rfl rfl (by(try simp only [List.map_toArray,List.map_cons,List.map_nil]);first | done | rfl) ?_
   refine(impl_Problem_column.calls k A0 c0 M A1 c1 Q (j:Int) (!th) (ck j) w21 (Kd.C_below HR0.out HB.out) HC0.out (Kd.C_below HR1.out HB.out) HC1.out HCOLF.out).mono ?_
   rintro e w22 ⟨vc,rfl,hRc,hb6⟩;obtain⟨Ac,cc,rfl⟩:=Kd.R_slice hRc;refine⟨_,rfl,?_⟩
   have HRC:=q_ (Kd.R_reads' hRc);have HBW:=q_ hb6;clear hb6 hHeld hRc;replace HB:=q_ (below_step HB.out HBW.out);replace BK:=q_ (blk_below BK.out HBW.out);replace B4:=q_ (blk_below B4.out HBW.out);replace B9:=q_ (blk_below B9.out HBW.out);replace HS:=q_ (HS.out.mvB (Frm.below HBW.out));replace HM:=q_ (HM.out.mvB (Frm.below HBW.out));clear HBW;refine hK.out _ _ ⟨(blk_cell BK.out 0).trans rfl,(blk_cell BK.out 1).trans rfl⟩ (fun hHeld=>?_)
   clear hK K;refine norm_ (a':=?_) ?_ ?_
   rotate_left
   ·show Act.put _ (some 47) _=_
    simp only [Act.put,List.setIfInBounds_toArray,List.set_cons_zero,List.set_cons_succ,i64_w,i32_w]
    rfl
   refine on_ 9 (some 48) (fun K hK=>?_)
   refine goes_ Try.func93 (by kernel_rfl) rfl #[.agg #[.slice A0 M.length c0, .slice A1 Q.length c1], .int .i64 s, .slice Ac (ck j).length cc] (by rfl) rfl rfl (by(try simp only [List.map_toArray,List.map_cons,List.map_nil]);first | done | rfl) ?_
   refine(impl_Problem_solve.calls k A0 c0 M A1 c1 Q s Ac cc (ck j) (cs j) (d2 j) (o2 j) w22 (Kd.C_below HR0.out HB.out) HC0.out (Kd.C_below HR1.out HB.out) HC1.out HRC.out.2.2 HRC.out.2.1 HSOL.out).mono ?_
   rintro e w23 ⟨vs,rfl,hRs,hb7⟩;obtain⟨Av,cv,rfl⟩:=Kd.R_slice hRs;rw [HCSL.out];refine⟨_,rfl,?_⟩
   have HRS:=q_ (UR.of hRs HB.out.size);have HW22:Aside0 (g9 < w22.heap.size):=⟨blk_lt B9.out⟩
   have HBW:=q_ hb7
   skip
   clear hb7 hHeld hRs HRC;replace HB:=q_ (below_step HB.out HBW.out);replace BK:=q_ (blk_below BK.out HBW.out);replace B4:=q_ (blk_below B4.out HBW.out);replace B9:=q_ (blk_below B9.out HBW.out);replace HS:=q_ (HS.out.mvB (Frm.below HBW.out));replace HM:=q_ (HM.out.mvB (Frm.below HBW.out));clear HBW;refine hK.out _ _ ⟨(blk_cell BK.out 0).trans rfl,(blk_cell BK.out 1).trans rfl⟩ (fun hHeld=>?_)
   clear hK K;refine norm_ (a':=?_) ?_ ?_
   rotate_left
   ·show Act.put _ (some 48) _=_
    simp only [Act.put,List.setIfInBounds_toArray,List.set_cons_zero,List.set_cons_succ,i64_w,i32_w]
    rfl
   refine pu_ 10 38 ?_;refine pu_ 11 49 ?_;refine pu_ 12 50 ?_;refine pu_ 13 51 ?_;refine pu_ 14 11 ?_;refine pu_ 15 12 ?_;refine pu_ 16 13 ?_
   refine done_ (by kernel_rfl) ?_
   rw [HCSL.out] at HRS;have HSE:Aside0 (hi≤w22.heap.size):=⟨by have:=HW22.out;have:=G9H.out;omega⟩
   generalize hslo2:w22.heap.size=slo2 at HRS HSE
   generalize hshi2:w23.heap.size=shi2 at HRS
   clear hslo2 hshi2 HW22;go_wp2
   go_loopg [54] n (fun gg v54 w30=> ∃i:Nat,i≤n∧n - i≤gg∧v54= .int .i64 (i:Int)∧Aside0 (Below w.heap.size w w30)∧Aside0 (w30.heap[g4]?=some (.cells #[.int .i64 0, .slice none 0 0, .slice none 0 0] 49 (0,0)))∧Aside0 (w30.heap[gb]?=some (.cells #[.slice A0 M.length c0, .slice A1 Q.length c1] 27 (0,0)))∧Aside0 (w30.heap[g9]?=some (.cells #[.int .i64 den, .slice (some ⟨g,0,none⟩) n cap, .slice As n cS] 49 (0,0)))∧Aside0 (UR (Kd.int .i64) 2 w w30 slo lo (.slice As n cS) side)∧Aside0 (US (Kd.slice 2 (Kd.int .i64)) 25 w w30 lo hi (.slice (some ⟨g,0,none⟩) n cap) (pR M cs n j i))∧Aside0 (UR (Kd.int .i64) 2 w w30 slo2 shi2 (.slice Av n cv) (cs j)))
   case atStart=>exact⟨0,Nat.zero_le _,by omega,rfl,HB,B4,BK,B9,HS,HM,HRS⟩
   case round=>
    clear HB B4 BK B9 HS HM HRS;obtain⟨i,hi_,hgg,rfl,HB,B4,BK,B9,HS,HM,HRS⟩:=hrel;have HG2:=q_ hgg
    by_cases hin:i < n
    ·have hiz:(i:Int) < (n:Int):=by omega
     have h0i:(0:Int)≤(i:Int):=by omega
     have hjz2:(j:Int) < (n:Int):=by have:=HJ.out;omega
     have HIN:=q_ hin;have hi1:IntKind.i64.wrap ((i:Int)+1)=((i+1:Nat):Int):=by rw [IntWalk.i64_in _ (by have:=HN.out;omega)];rfl
     have HI1:=q_ hi1;obtain⟨adv,eA,hcv⟩:=Kd.at_int (UR.C HRS.out) (i:Int) (by omega) (by rw [HCSL.out];omega);subst eA;rw [Int.toNat_natCast,rd_nat] at hcv;have hc9:=cz_ B9 1;have hrow:=pR_row M cs n j i i (by rw [pR_len];exact hin);have hpr:=put_row (w0:=w) (g:=g) (cap:=cap) HB.out (l:=pR M cs n j i) (ok:=fun k=>lo≤k∧k < hi) (by rw [pR_len];exact HM.out) i (by rw [pR_len];exact hin) j (by rw [hrow];simpa using HJ.out);rw [hrow,pR_len] at hpr;obtain⟨b,cj,hcellg,hold,hfr,hset⟩:=hpr;have hset2:=hset (wrap64 (-(cs j).getD i 0));rw [pR_set M cs n j i hin HJ.out] at hset2;have HSET:=q_ hset2;have hcellg':wr.cell? ⟨g,i,none⟩=some (.slice (some ⟨b,0,none⟩) n cj):=by simpa using hcellg
     generalize (cs j).getD i 0=xv at hcv HSET
     clear hset hset2 hrow hcellg hin hi_ hgg;go_wp2
     go_roundg (n - (i+1))
     case measure=>have:=HG2.out;have:=HIN.out;omega
     case rel=>
      have hF:=Frm.kept HSET.out.2.2 (fun k hk=>hk);exact⟨i+1,by have:=HIN.out;omega,by omega,by first | rfl | (rw [HI1.out]) | (simp [HI1.out]),⟨HSET.out.2.1⟩,⟨(hF.same g4 (blk_lt B4.out) (.inl (by have:=G4L.out;omega))).trans B4.out⟩,⟨(hF.same gb (blk_lt BK.out) (.inl (by have:=GBL.out;omega))).trans BK.out⟩,⟨(hF.same g9 (blk_lt B9.out) (.inr (by have:=G9H.out;omega))).trans B9.out⟩,⟨HS.out.mv hF (.inl (Nat.le_refl _))⟩,⟨HSET.out.1⟩,⟨HRS.out.mv hF (.inr HSE.out)⟩⟩
    ·have hiz: ¬ (i:Int) < (n:Int):=by omega
     obtain rfl:i=n:=by omega
     go_wp2
     go_roundg (i - (j+1))
     case measure=>have:=HG.out;have:=HJ.out;omega
     case rel=>exact⟨j+1,by have:=HJ.out;omega,by omega,by first | rfl | (rw [HJ1.out]) | (simp [HJ1.out]),HB,B4,BK,B9,HS,⟨by rw [← pR_col];exact HM.out⟩⟩
  ·have hjz: ¬ (j:Int) < (Q.length:Int):=by omega
   obtain rfl:j=n:=by omega
   have hq0:=cz_ B9 0;have hq1:=cz_ B9 1;have hq2:=cz_ B9 2;have hs0:=cz_ B4 0;have hsf0:=blk_frozen B4.out 0;have hs1:=cz_ B4 1;have hsf1:=blk_frozen B4.out 1;have hs2:=cz_ B4 2;have hsf2:=blk_frozen B4.out 2;have G4H:=G4L.out;have G4S':=G4S.out;go_wp2
   have hF:Frm wr (((wr.setCell ⟨g4,0,none⟩ (.int .i64 den)).setCell ⟨g4,1,none⟩ (.slice (some ⟨g,0,none⟩) j cap)).setCell ⟨g4,2,none⟩ (.slice As j cS)) g4 (g4+1):=(Frm.set _ _ _ _).trans ((Frm.set _ _ _ _).trans (Frm.set _ _ _ _));refine bodyPost_ret (results_list (rs:= [.cell 4 49, .tmp 5]) rfl (by simp) (.cell g4 49 #[.int .i64 den, .slice (some ⟨g,0,none⟩) j cap, .slice As j cS] (0,0) _ rfl (blk_put (blk_put (blk_put B4.out 0 _ rfl) 1 _ rfl) 2 _ rfl) Try.underlying49 rfl (by kernel_rfl) (.tmp .nil))) rfl ?_
   refine⟨_,_,rfl,?_,Kd.R_mono (HS.out.mv hF (.inr (by omega))) (fun _ _=>trivial),below_set (below_set (below_set HB.out G4.out) G4.out) G4.out⟩
   exact Kd.S_mono (HM.out.mv hF (.inr (by omega))) (fun k hk e=>by have:=HS.out.1 k e.symm;omega)
end Go.Proofs.Ytbjljcpngbhkeaa.Pv
end
section
namespace Go.Proofs.Ytbjljcpngbhkeaa.Pr
open Go.RowKit Go.Proofs.YtbjljcpngbhkeaaW.PrintWords Go.Proofs.YtbjljcpngbhkeaaW.PrintLast Go.Proofs.YtbjljcpngbhkeaaW.PrintMore Go.Proofs.Ytbjljcpngbhkeaa.La Go.Proofs.Ytbjljcpngbhkeaa.Ma Go.Proofs.Ytbjljcpngbhkeaa.Hm Go.Proofs.Ytbjljcpngbhkeaa.Dt Go.Proofs.Ytbjljcpngbhkeaa.Hd Go.Proofs.Ytbjljcpngbhkeaa.Pv
def pvC (k:Nat) (M:List (List Int)) (Q:List Int) (s:Int) (j:Nat):Option (List Int):=(impl_has.f s (j:Int)).bind fun t=>(impl_Problem_column.f k M Q (j:Int) (!t)).bind fun c=>(impl_Problem_solve.f k M Q s c).bind fun r=>some r.1
def pvOK (k:Nat) (M:List (List Int)) (Q:List Int) (s:Int) (n:Nat):Bool:=(List.range n).all fun j=>match pvC k M Q s j with
 | some c=>c.length==n
 | none=>false
def pvL (k:Nat) (M:List (List Int)) (Q:List Int) (s:Int) (j:Nat):List Int:=(pvC k M Q s j).getD []
def impl_Problem_pivot.f (k:Nat) (ae:List (List Int)) (aa:List Int) (a1:Int):Option (Int × List (List Int) × List Int × Bool):=
 (impl_Problem_point.f k ae aa a1).bind fun p=>if p.2.2=true then
  (if 0 < aa.length∧aa.length≤1000∧ae.length=aa.length∧(ae.all fun x=>x.length==aa.length)=true∧p.1.length=aa.length∧impl_copyRows.f k ae=some ae∧pvOK k ae aa a1 aa.length=true then
   some (p.2.1,pR ae (pvL k ae aa a1) aa.length aa.length 0,p.1,true)
  else none)
 else some (0, [], [],false)
theorem pvC_mono (k:Nat) (M:List (List Int)) (Q:List Int) (s:Int) (i:Nat):LeO (pvC k M Q s i) (pvC (k+1) M Q s i):=by
 unfold pvC
 exact LeO.bind (LeO.refl _) (fun t=>LeO.bind (impl_Problem_column.mono _ _ _ _ _) (fun c=>LeO.bind (impl_Problem_solve.mono _ _ _ _ _) (fun _=>LeO.refl _)))
theorem pvOK_mono {k:Nat} {M:List (List Int)} {Q:List Int} {s:Int} {n:Nat} (h:pvOK k M Q s n=true):pvOK (k+1) M Q s n=true∧ ∀i,i < n→pvL (k+1) M Q s i=pvL k M Q s i:=by
 unfold pvOK at h ⊢
 rw [List.all_eq_true] at h ⊢
 have key: ∀i,i < n→pvC (k+1) M Q s i=pvC k M Q s i:=by
  intro i hi
  have:=h i (List.mem_range.2 hi)
  cases hc:pvC k M Q s i with
  | none=>rw [hc] at this;cases this
  | some c=>exact pvC_mono k M Q s i c hc
 refine⟨fun i hi=>?_,fun i hi=>?_⟩
 ·rw [key i (List.mem_range.1 hi)];exact h i hi
 ·unfold pvL;rw [key i hi]
theorem pR_congr (l:List (List Int)) (cs cs':Nat→List Int) (n:Nat) (h: ∀c,c < n→cs c=cs' c):pR l cs n n 0=pR l cs' n n 0:=by
 unfold pR
 refine List.map_congr_left (fun r _=>List.map_congr_left (fun c hc=>?_))
 unfold pE
 rw [h c (List.mem_range.1 hc)]
theorem impl_Problem_pivot.mono: ∀a0 a1 a2 k,LeO (impl_Problem_pivot.f k a0 a1 a2) (impl_Problem_pivot.f (k+1) a0 a1 a2):=by
 intro a0 a1 a2 k
 unfold impl_Problem_pivot.f
 refine LeO.bind (impl_Problem_point.mono _ _ _ _) (fun p=>?_)
 by_cases z:p.2.2=true
 ·rw [if_pos z,if_pos z]
  intro r h
  split at h
  case isFalse=>cases h
  rename_i hc
  obtain⟨h1,h2,h3,h4,h5,h6,h7⟩:=hc
  obtain⟨h8,hl⟩:=pvOK_mono h7
  rw [if_pos ⟨h1,h2,h3,h4,h5,impl_copyRows.mono _ _ _ h6,h8⟩,pR_congr _ _ _ _ hl]
  exact h
 ·rw [if_neg z,if_neg z]
  exact LeO.refl _
theorem impl_Problem_pivot.calls (k:Nat) (af:Option Addr) (ag:Nat) (ae:List (List Int)) (ah:Option Addr) (ai:Nat) (aa:List Int) (a1:Int) (r1:Int) (r2:List (List Int)) (r3:List Int) (r4:Bool) (w:World) (aj:Kd.C (Kd.slice 2 (Kd.int .i64)) w af ae.length ae) (ak:ae.length≤ag) (aq:Kd.C (Kd.int .i64) w ah aa.length aa) (au:aa.length≤ai) (h:impl_Problem_pivot.f k ae aa a1=some (r1,r2,r3,r4)):
  Calls Try.prog 72 #[.agg #[.slice af ae.length ag, .slice ah aa.length ai], .int .i64 a1] w fun e w'=> ∃v0_ v1_:Value,e= .returned (.tuple #[.agg #[.int .i64 r1,v0_,v1_], .bool r4])∧Kd.S (Kd.slice 2 (Kd.int .i64)) 25 w' w.heap.size (fun k_=>some k_≠(v1_:Value).ownBlock) v0_ r2∧Kd.R (Kd.int .i64) 2 w' w.heap.size (fun _=>True) v1_ r3∧Below w.heap.size w w':=by
 unfold impl_Problem_pivot.f at h;obtain⟨⟨side,den,ok⟩,hp,h⟩:=Option.bind_eq_some_iff.mp h;cases ok with
 | false=>
  rw [if_neg (by simp)] at h;cases h
  refine(pivot_none k a1 side den af ag ae ah ai aa w aj ak aq au hp).mono ?_
  rintro e w' ⟨rfl,hb⟩;refine⟨.slice none 0 0, .slice none 0 0,rfl,?_,?_,hb⟩
  ·exact Kd.S_nil _ _ _ _ _
  ·exact Kd.R_nil _ _ _ _ _
 | true=>
  rw [if_pos rfl] at h
  split at h
  case isFalse=>cases h
  rename_i hc
  obtain⟨h1,h2,h3,h4,h5,h6,h7⟩:=hc;cases h
  have hcl: ∀j,j < aa.length→ ∃t c d o,impl_has.f a1 (j:Int)=some t∧impl_Problem_column.f k ae aa (j:Int) (!t)=some c∧impl_Problem_solve.f k ae aa a1 c=some (pvL k ae aa a1 j,d,o)∧(pvL k ae aa a1 j).length=aa.length:=by
   intro i hi;unfold pvOK at h7;rw [List.all_eq_true] at h7;have:=h7 i (List.mem_range.2 hi);unfold pvL;cases hcf:pvC k ae aa a1 i with
   | none=>rw [hcf] at this;cases this
   | some c=>
    rw [hcf] at this;obtain⟨t,ht1,ht2⟩:=Option.bind_eq_some_iff.mp hcf;obtain⟨c2,ht3,ht4⟩:=Option.bind_eq_some_iff.mp ht2;obtain⟨⟨r,d,o⟩,ht5,ht6⟩:=Option.bind_eq_some_iff.mp ht4;cases ht6
    exact⟨t,c2,d,o,ht1,ht3,ht5,by simpa using this⟩
  have hcl2: ∀j, ∃x:Bool × List Int × Int × Bool,j < aa.length→impl_has.f a1 (j:Int)=some x.1∧impl_Problem_column.f k ae aa (j:Int) (!x.1)=some x.2.1∧impl_Problem_solve.f k ae aa a1 x.2.1=some (pvL k ae aa a1 j,x.2.2.1,x.2.2.2)∧(pvL k ae aa a1 j).length=aa.length:=by
   intro j
   by_cases hj:j < aa.length
   ·obtain⟨t,c,d,o,h⟩:=hcl j hj;exact⟨(t,c,d,o),fun _=>h⟩
   ·exact⟨default,fun h=>absurd h hj⟩
  obtain⟨g,hg⟩:=Classical.axiomOfChoice hcl2;exact pivot_calls k aa.length a1 side den (fun j=>(g j).2.1) (pvL k ae aa a1) (fun j=>(g j).2.2.1) (fun j=>(g j).2.2.2) k af ag ae ah ai aa w aj ak aq au h3 (fun x hx=>by rw [List.all_eq_true] at h4;simpa using h4 x hx) rfl h1 h2 hp h5 h6 (fun j hj=>⟨(g j).1,hg j hj⟩)
end Go.Proofs.Ytbjljcpngbhkeaa.Pr
end
section
namespace Go.Proofs.Ytbjljcpngbhkeaa.Pr
open Go.RowKit Go.Proofs.YtbjljcpngbhkeaaW.PrintWords Go.Proofs.YtbjljcpngbhkeaaW.PrintLast Go.Proofs.YtbjljcpngbhkeaaW.PrintMore
attribute [local go_sem] max2_int min2_int max_two min_two max_three min_three max_four min_four
mutual
def spec_l04Pivot.j0:Nat→Int→Int→List (List Int)→List Int→Int→Int→List (List Int)→List Int→Option (Int × (List (List Int)) × List Int × Bool)
 | 0,_,_,_,_,_,_,_,_=>none
 | k+1,x1,x6,x7,x8,x9,x10,aa,af=>spec_l04Pivot.l0 k x1 x6 x7 x8 x10 0 aa af (wrap64 (x10*x9)) (([]:List (List Int))) (([]:List Int))
def spec_l04Pivot.l0:Nat→Int→Int→List (List Int)→List Int→Int→Int→List (List Int)→List Int→Int→List (List Int)→List Int→Option (Int × (List (List Int)) × List Int × Bool)
 | 0,_,_,_,_,_,_,_,_,_,_,_=>none
 | k+1,x1,x6,x7,x8,x10,x12,aa,af,ah,ae,ag=>if x12 < x6 then(if 0≤x6 then(if(x6:Int).toNat≤35184372088832 then(if ae.length < 5864062014805 then(if 0≤x12 then(if x12 < (x8.length:Int) then(if ag.length < 17592186044416 then(spec_l04Pivot.l0 k x1 x6 x7 x8 x10 (wrap64 (x12+1)) aa af ah (ae++ [(List.replicate (x6:Int).toNat 0)]) (ag++ [wrap64 (x10*(rd x8 x12))])) else(none)) else(none)) else(none)) else(none)) else(none)) else(none)) else(spec_l04Pivot.l1 k x1 x6 x7 x10 0 aa af ah ae ag)
def spec_l04Pivot.l1:Nat→Int→Int→List (List Int)→Int→Int→List (List Int)→List Int→Int→List (List Int)→List Int→Option (Int × (List (List Int)) × List Int × Bool)
 | 0,_,_,_,_,_,_,_,_,_,_=>none
 | k+1,x1,x6,x7,x10,x13,aa,af,ah,ae,ag=>if x13 < x6 then(if 0≤x6 then(if(x6:Int).toNat≤35184372088832 then(spec_l04Pivot.l2 k x1 x6 x7 x10 x13 (List.replicate (x6:Int).toNat 0) 0 aa af ah ae ag) else(none)) else(none)) else(some (ah,ae,ag,true))
def spec_l04Pivot.l2:Nat→Int→Int→List (List Int)→Int→Int→List Int→Int→List (List Int)→List Int→Int→List (List Int)→List Int→Option (Int × (List (List Int)) × List Int × Bool)
 | 0,_,_,_,_,_,_,_,_,_,_,_,_=>none
 | k+1,x1,x6,x7,x10,x13,x14,x15,aa,af,ah,ae,ag=>if x15 < x6 then(if 0≤(IntKind.u64.wrap (x13)) then(if(Go.bits .and .i64 (shr .i64 x1 (IntKind.u64.wrap (x13))) 1)=0 then(if 0≤x15 then(if x15 < (aa.length:Int) then(if 0≤x13 then(if x13 < ((rd_L2 aa x15).length:Int) then(if x15 < (x14.length:Int) then(spec_l04Pivot.l2 k x1 x6 x7 x10 x13 (x14.set (x15:Int).toNat (rd (rd_L2 aa x15) x13)) (wrap64 (x15+1)) aa af ah ae ag) else(none)) else(none)) else(none)) else(none)) else(none)) else(spec_l04Pivot.l2 k x1 x6 x7 x10 x13 x14 (wrap64 (x15+1)) aa af ah ae ag)) else(none)) else(if 0≤(IntKind.u64.wrap (x13)) then(if(Go.bits .and .i64 (shr .i64 x1 (IntKind.u64.wrap (x13))) 1)=1 then(if 0≤x13 then(if x13 < (x14.length:Int) then(spec_l04Pivot.j4 k x1 x6 x7 x10 x13 (x14.set (x13:Int).toNat (-1)) aa af ah ae ag) else(none)) else(none)) else(spec_l04Pivot.j4 k x1 x6 x7 x10 x13 x14 aa af ah ae ag)) else(none))
def spec_l04Pivot.j4:Nat→Int→Int→List (List Int)→Int→Int→List Int→List (List Int)→List Int→Int→List (List Int)→List Int→Option (Int × (List (List Int)) × List Int × Bool)
 | 0,_,_,_,_,_,_,_,_,_,_,_=>none
 | k+1,x1,x6,x7,x10,x13,x14,aa,af,ah,ae,ag=>(spec_l01Solve.f k x7 x14).bind fun ai=>(spec_l04Pivot.l3 k x1 x6 x7 x10 x13 ai.1 0 aa af ah ae ag)
def spec_l04Pivot.l3:Nat→Int→Int→List (List Int)→Int→Int→List Int→Int→List (List Int)→List Int→Int→List (List Int)→List Int→Option (Int × (List (List Int)) × List Int × Bool)
 | 0,_,_,_,_,_,_,_,_,_,_,_,_=>none
 | k+1,x1,x6,x7,x10,x13,x16,x18,aa,af,ah,ae,ag=>if x18 < x6 then(if 0≤x18 then(if x18 < (ae.length:Int) then(if x18 < (x16.length:Int) then(if 0≤x13 then(if x13 < ((rd_L2 ae x18).length:Int) then(spec_l04Pivot.l3 k x1 x6 x7 x10 x13 x16 (wrap64 (x18+1)) aa af ah (ae.set (x18:Int).toNat ((rd_L2 ae x18).set (x13:Int).toNat (wrap64 (x10*(rd x16 x18))))) ag) else(none)) else(none)) else(none)) else(none)) else(none)) else(spec_l04Pivot.l1 k x1 x6 x7 x10 (wrap64 (x13+1)) aa af ah ae ag)
end
def spec_l04Pivot.f (k:Nat) (af:List (List Int)) (ae:List Int) (a1:Int):Option (Int × (List (List Int)) × List Int × Bool):=(spec_l01Columns.f k af a1).bind fun l9=>((spec_l01Solve.f k l9 ae).bind fun aa=>(if aa.2=0 then(some (0,([]:List (List Int)),([]:List Int),false)) else(if aa.2 < 0 then(spec_l04Pivot.j0 k a1 (ae.length:Int) l9 aa.1 aa.2 (-1) af ae) else(spec_l04Pivot.j0 k a1 (ae.length:Int) l9 aa.1 aa.2 1 af ae))))
theorem spec_l04Pivot.mono_l: ∀k,(∀y0 y1 y2 y3 y4 y5 y6 y7,LeO (spec_l04Pivot.j0 k y0 y1 y2 y3 y4 y5 y6 y7) (spec_l04Pivot.j0 (k+1) y0 y1 y2 y3 y4 y5 y6 y7))∧(∀y0 y1 y2 y3 y4 y5 y6 y7 y8 y9 y10,LeO (spec_l04Pivot.l0 k y0 y1 y2 y3 y4 y5 y6 y7 y8 y9 y10) (spec_l04Pivot.l0 (k+1) y0 y1 y2 y3 y4 y5 y6 y7 y8 y9 y10))∧(∀y0 y1 y2 y3 y4 y5 y6 y7 y8 y9,LeO (spec_l04Pivot.l1 k y0 y1 y2 y3 y4 y5 y6 y7 y8 y9) (spec_l04Pivot.l1 (k+1) y0 y1 y2 y3 y4 y5 y6 y7 y8 y9))∧(∀y0 y1 y2 y3 y4 y5 y6 y7 y8 y9 y10 y11,LeO (spec_l04Pivot.l2 k y0 y1 y2 y3 y4 y5 y6 y7 y8 y9 y10 y11) (spec_l04Pivot.l2 (k+1) y0 y1 y2 y3 y4 y5 y6 y7 y8 y9 y10 y11))∧(∀y0 y1 y2 y3 y4 y5 y6 y7 y8 y9 y10,LeO (spec_l04Pivot.j4 k y0 y1 y2 y3 y4 y5 y6 y7 y8 y9 y10) (spec_l04Pivot.j4 (k+1) y0 y1 y2 y3 y4 y5 y6 y7 y8 y9 y10))∧(∀y0 y1 y2 y3 y4 y5 y6 y7 y8 y9 y10 y11,LeO (spec_l04Pivot.l3 k y0 y1 y2 y3 y4 y5 y6 y7 y8 y9 y10 y11) (spec_l04Pivot.l3 (k+1) y0 y1 y2 y3 y4 y5 y6 y7 y8 y9 y10 y11))
 | 0=>⟨fun _ _ _ _ _ _ _ _ r h=>by simp [spec_l04Pivot.j0] at h,fun _ _ _ _ _ _ _ _ _ _ _ r h=>by simp [spec_l04Pivot.l0] at h,fun _ _ _ _ _ _ _ _ _ _ r h=>by simp [spec_l04Pivot.l1] at h,fun _ _ _ _ _ _ _ _ _ _ _ _ r h=>by simp [spec_l04Pivot.l2] at h,fun _ _ _ _ _ _ _ _ _ _ _ r h=>by simp [spec_l04Pivot.j4] at h,fun _ _ _ _ _ _ _ _ _ _ _ _ r h=>by simp [spec_l04Pivot.l3] at h⟩
 | k+1=>by
  obtain⟨ih0,ih1,ih2,ih3,ih4,ih5⟩:=spec_l04Pivot.mono_l k
  refine⟨?_,?_,?_,?_,?_,?_⟩<;>intros<;>(first | unfold spec_l04Pivot.j0 | unfold spec_l04Pivot.l0 | unfold spec_l04Pivot.l1 | unfold spec_l04Pivot.l2 | unfold spec_l04Pivot.j4 | unfold spec_l04Pivot.l3)<;>(repeat' first | (with_reducible first | exact ih0 _ _ _ _ _ _ _ _ | exact ih1 _ _ _ _ _ _ _ _ _ _ _ | exact ih2 _ _ _ _ _ _ _ _ _ _ | exact ih3 _ _ _ _ _ _ _ _ _ _ _ _ | exact ih4 _ _ _ _ _ _ _ _ _ _ _ | exact ih5 _ _ _ _ _ _ _ _ _ _ _ _ | exact spec_l01Columns.mono _ _ _ | exact spec_l01Solve.mono _ _ _ | exact LeO.refl _ | exact LeO.none _ | refine LeO.ite ?_ ?_ | refine LeO.bind ?_ (fun _=>?_)) | exact ih0 _ _ _ _ _ _ _ _ | exact ih1 _ _ _ _ _ _ _ _ _ _ _ | exact ih2 _ _ _ _ _ _ _ _ _ _ | exact ih3 _ _ _ _ _ _ _ _ _ _ _ _ | exact ih4 _ _ _ _ _ _ _ _ _ _ _ | exact ih5 _ _ _ _ _ _ _ _ _ _ _ _ | exact spec_l01Columns.mono _ _ _ | exact spec_l01Solve.mono _ _ _ | exact LeO.none _ | refine LeO.ite ?_ ?_ | refine LeO.bind ?_ (fun _=>?_))
theorem spec_l04Pivot.mono: ∀a0 a1 a2 k,LeO (spec_l04Pivot.f k a0 a1 a2) (spec_l04Pivot.f (k+1) a0 a1 a2):=by
 intro a0 a1 a2 k
 obtain⟨ih0,ih1,ih2,ih3,ih4,ih5⟩:=spec_l04Pivot.mono_l k
 unfold spec_l04Pivot.f
 repeat' first | (with_reducible first | exact ih0 _ _ _ _ _ _ _ _ | exact ih1 _ _ _ _ _ _ _ _ _ _ _ | exact ih2 _ _ _ _ _ _ _ _ _ _ | exact ih3 _ _ _ _ _ _ _ _ _ _ _ _ | exact ih4 _ _ _ _ _ _ _ _ _ _ _ | exact ih5 _ _ _ _ _ _ _ _ _ _ _ _ | exact spec_l01Columns.mono _ _ _ | exact spec_l01Solve.mono _ _ _ | exact LeO.refl _ | exact LeO.none _ | refine LeO.ite ?_ ?_ | refine LeO.bind ?_ (fun _=>?_)) | exact ih0 _ _ _ _ _ _ _ _ | exact ih1 _ _ _ _ _ _ _ _ _ _ _ | exact ih2 _ _ _ _ _ _ _ _ _ _ | exact ih3 _ _ _ _ _ _ _ _ _ _ _ _ | exact ih4 _ _ _ _ _ _ _ _ _ _ _ | exact ih5 _ _ _ _ _ _ _ _ _ _ _ _ | exact spec_l01Columns.mono _ _ _ | exact spec_l01Solve.mono _ _ _ | exact LeO.none _ | refine LeO.ite ?_ ?_ | refine LeO.bind ?_ (fun _=>?_)
def spec_l04Pivot.T1:Bool × List (List Nat × List Nat):=(true, [([], []),([0], [0]),([1], [1]),([], []),([3], [3]),([], []),([4,5], [4,5]),([2,6,0,1,2], [2]),([6,7,0,1,2,3,4,5,6,7], [6])])
def spec_l04Pivot.B1:List Nat:= [0,1,3,0,8,0,56,127,255]
theorem spec_l04Pivot.tab1:rtab .any (opsOf Try.f49 1)=spec_l04Pivot.T1:=by kernel_rfl
theorem spec_l04Pivot.bits1:waitsOk spec_l04Pivot.T1.2 spec_l04Pivot.B1=true:=by kernel_rfl
def spec_l04Pivot.T12:Bool × List (List Nat × List Nat):=(true, [([], []),([0], [0]),([], []),([2,2], [2]),([3], [3]),([1,4], [1,4]),([0,1,2,3,4,5], []),([6,5,5,0,1,2,3,4,5], [5,6])])
def spec_l04Pivot.B12:List Nat:= [0,1,0,4,12,31,63,127]
theorem spec_l04Pivot.tab12:rtab .any (opsOf Try.f49 12)=spec_l04Pivot.T12:=by kernel_rfl
theorem spec_l04Pivot.bits12:waitsOk spec_l04Pivot.T12.2 spec_l04Pivot.B12=true:=by kernel_rfl
def spec_l04Pivot.T13:Bool × List (List Nat × List Nat):=(true, [([], []),([0], [0]),([], []),([], []),([], []),([3,4], [3,4]),([5], [5]),([2,6], [2,6]),([7], [7]),([1,8], [1,8]),([0,1,2,3,4,5,6,7,8,9], []),([10,9,9,0,1,2,3,4,5,6,7,8,9], [9,10])])
def spec_l04Pivot.B13:List Nat:= [0,1,0,0,0,24,56,124,252,511,1023,2047]
theorem spec_l04Pivot.tab13:rtab .any (opsOf Try.f49 13)=spec_l04Pivot.T13:=by kernel_rfl
theorem spec_l04Pivot.bits13:waitsOk spec_l04Pivot.T13.2 spec_l04Pivot.B13=true:=by kernel_rfl
theorem spec_l04Pivot.calls (k:Nat) (aW:Option Addr) (aZ:Nat) (au:List (List Int)) (aX:Option Addr) (a9:Nat) (ae:List Int) (a1:Int) (r1:Int) (r2:List (List Int)) (r3:List Int) (r4:Bool) (w:World) (dC:Kd.C (Kd.slice 2 (Kd.int .i64)) w aW au.length au) (dD:au.length≤aZ) (dE:Kd.C (Kd.int .i64) w aX ae.length ae) (dF:ae.length≤a9) (h:spec_l04Pivot.f k au ae a1=some (r1,r2,r3,r4)):
  Calls Try.prog 49 #[.agg #[.slice aW au.length aZ, .slice aX ae.length a9], .int .i64 a1] w fun e w'=> ∃v1_ v2_:Value,e= .returned (.tuple #[.agg #[.int .i64 r1,v1_,v2_], .bool r4])∧Kd.S (Kd.slice 2 (Kd.int .i64)) 25 w' w.heap.size (fun k_=>some k_≠(v2_:Value).ownBlock) v1_ r2∧Kd.R (Kd.int .i64) 2 w' w.heap.size (fun _=>True) v2_ r3∧Below w.heap.size w w':=by
 have hu27:=Try.underlying27;have hu49:=Try.underlying49;have HR0_0:=q_ dC;have HC0_0:=q_ dD;clear dC dD;have HR0_1:=q_ dE;have HC0_1:=q_ dF;clear dE dF;have HB:=q_ (Below.refl w.heap.size w);have H:((spec_l01Columns.f k au a1).bind fun l9=>((spec_l01Solve.f k l9 ae).bind fun bf=>(if bf.2=0 then(some (0,([]:List (List Int)),([]:List Int),false)) else(if bf.2 < 0 then(spec_l04Pivot.j0 k a1 (ae.length:Int) l9 bf.1 bf.2 (-1) au ae) else(spec_l04Pivot.j0 k a1 (ae.length:Int) l9 bf.1 bf.2 1 au ae)))))=some (r1,r2,r3,r4):=h;clear h;replace H:=Option.bind_eq_some_iff.mp H;obtain⟨l9,A30,H⟩:=H;replace H:((spec_l01Solve.f k l9 ae).bind fun bf=>(if bf.2=0 then(some (0,([]:List (List Int)),([]:List Int),false)) else(if bf.2 < 0 then(spec_l04Pivot.j0 k a1 (ae.length:Int) l9 bf.1 bf.2 (-1) au ae) else(spec_l04Pivot.j0 k a1 (ae.length:Int) l9 bf.1 bf.2 1 au ae))))=some (r1,r2,r3,r4):=H;have A3:=q_ A30;clear A30;replace H:=Option.bind_eq_some_iff.mp H;obtain⟨⟨aQ,aw⟩,A40,H⟩:=H;replace H:(if aw=0 then(some (0,([]:List (List Int)),([]:List Int),false)) else(if aw < 0 then(spec_l04Pivot.j0 k a1 (ae.length:Int) l9 aQ aw (-1) au ae) else(spec_l04Pivot.j0 k a1 (ae.length:Int) l9 aQ aw 1 au ae)))=some (r1,r2,r3,r4):=H;have A4:=q_ A40;clear A40
 by_cases c5:aw=0
 ·rw [if_pos c5] at H;have c5b0:=e1_ c5;have c5b1:=e2_ c5;clear c5;simp only [Option.some.injEq,Prod.mk.injEq] at H;obtain⟨rfl,rfl,rfl,rfl⟩:=H
  go_enter Try.func49,Try.ntmps49
  try go_wp2_with (first | ((with_reducible refine gate_dst (N:=2) rfl ?_);refine be_ 2 #[.slice aW au.length aZ, .slice aX ae.length a9] 27 ?_;intro aI hg w6 hbox hb;have af:=q_ (hbox);have eB:=q_ ((by rw [hg];exact bz_:w.heap.size≤aI));have eC:=q_ ((by rw [hg];exact bz_:w.heap.size≤aI));replace HB:=q_ (bs_ hb);clear hb hbox hg) | ((with_reducible refine gate_dst (N:=4) rfl ?_);refine be_ 4 #[.int .i64 0, .slice none 0 0, .slice none 0 0] 49 ?_;intro aH hg w7 hbox hb;have aj:=q_ (hbox);have eD:=q_ ((by rw [hg];exact bz_:w.heap.size≤aH));have eF:=q_ ((by rw [hg];exact bz_:w.heap.size≤aH));have bv:=q_ ((by rw [hg];exact lt_ af.out:aI≠aH));have bw:=q_ ((by rw [hg];exact gt_ af.out:aH≠aI));replace af:=q_ (bb_ af.out hb);replace HB:=q_ (bs_ hb);clear hb hbox hg))
  replace af:=q_ (blk_drew af.out);replace aj:=q_ (blk_drew aj.out);replace HB:=q_ (below_drew1 HB.out);refine st_ (n:=9) (S:=fun w'=>w'.cell? ⟨aI,0,none⟩=some (.slice aW au.length aZ)∧w'.cell? ⟨aI,1,none⟩=some (.slice aX ae.length a9)) (ds:= []) ⟨(blk_cell af.out 0).trans rfl,(blk_cell af.out 1).trans rfl⟩ (fun hHeld=>?_);refine with_tabW spec_l04Pivot.tab1 spec_l04Pivot.bits1 (fun HT_ HW_=>?_)
  generalize w7.drew=w8 at af aj HB hHeld ⊢
  refine pu_ 0 20 ?_;refine pu_ 3 23 ?_;refine pu_ 5 25 ?_;refine tk_ 1 21 ?_;refine pu_ 2 22 ?_;refine tk_ 4 24 ?_
  refine on_ 6 (some 26) (fun K hK=>?_)
  refine goes_ Try.func57 (by kernel_rfl) rfl #[.slice aW au.length aZ, .int .i64 a1] (by rfl) rfl rfl (by(try simp only [List.map_toArray,List.map_cons,List.map_nil]);first | done | rfl | (simp only [List.length_drop,List.length_take];rfl)) ?_
  with_reducible refine(spec_l01Columns.calls k _ _ au a1 l9 _ ?bA ?bC A3.out).mono ?_
  (case bA=>exact cb_ HR0_0.out HB.out)
  (case bC=>exact HC0_0.out)
  rintro e w9 ⟨v9_,rfl,ho0,hb⟩;obtain⟨A9,c9,e9_⟩:=Kd.S_slice ho0;subst e9_;refine⟨_,rfl,?_⟩
  have HR9:=q_ (Kd.S_lower ho0 bz_);replace af:=q_ (bb_ af.out hb);replace aj:=q_ (bb_ aj.out hb);replace HB:=q_ (bs_ hb);(try clear hb)
  
  (try clear hk)
  
  (try clear ho0);refine hK.out _ _ ⟨(blk_cell af.out 0).trans rfl,(blk_cell af.out 1).trans rfl⟩ (fun hHeld=>?_)
  clear hK K;refine norm_ (a':=?_) ?_ ?_
  rotate_left
  ·show Act.put _ (some 26) _=_
   simp only [Act.put,List.setIfInBounds_toArray,List.set_cons_zero,List.set_cons_succ,i64_w,i32_w]
   rfl
  refine pu_ 7 6 ?_;refine pu_ 8 7 ?_
  refine done_ (done_of HT_.out (by kernel_rfl)) ?_
  have HBo0:=HB;have HS9:=HR9;have HR00:=HR0_0;have HR01:=HR0_1;clear HB HR9 HR0_0 HR0_1;obtain⟨wO,hwO⟩: ∃x:World,x=w:=⟨_,rfl⟩
  subst hwO;obtain⟨w,hw⟩: ∃x:World,x=w9:=⟨_,rfl⟩
  have HB:Aside0 (Below w.heap.size w w9):=⟨by rw [hw];exact Below.refl _ _⟩
  have HBo:Aside0 (Below wO.heap.size wO w):=⟨by rw [hw];exact HBo0.out⟩
  have HR9:Aside0 (Kd.C (Kd.slice 2 (Kd.int .i64)) w A9 l9.length l9):=⟨by rw [hw];exact(Kd.S_reads' HS9.out).2.2⟩
  have HC9:Aside0 (l9.length≤c9):=⟨(Kd.S_reads' HS9.out).2.1⟩
  have HR0_0:Aside0 (Kd.C (Kd.slice 2 (Kd.int .i64)) w aW au.length au):=⟨by rw [hw];exact Kd.C_below HR00.out HBo0.out⟩
  have HR0_1:Aside0 (Kd.C (Kd.int .i64) w aX ae.length ae):=⟨by rw [hw];exact Kd.C_below HR01.out HBo0.out⟩
  clear HBo0 HS9 HR00 HR01 hw;have f7:=bv.out;have f8:=bw.out;have bD:=cz_ af 0;have bE:=cz_ af 1;have bF:=blk_frozen af.out 0;have bG:=blk_frozen af.out 1
  try go_wp2_with (first | ((with_reducible refine gate_callee (f:=74) rfl ?_);refine gL_ 31 Try.func74 #[.slice A9 l9.length c9, .slice aX ae.length a9] ?_;(with_reducible refine(spec_l01Solve.calls k _ _ l9 _ _ ae aQ aw _ ?bA ?bC ?cz ?cA A4.out).mono ?_);(case bA=>exact cb_ HR9.out HB.out);(case bC=>exact HC9.out);(case cz=>exact cb_ HR0_1.out HB.out);(case cA=>exact HC0_1.out);rintro e w12 ⟨bR,rfl,ho0,hb⟩;refine⟨_,rfl,?_⟩;have cV:=q_ (Kd.R_lower ho0 bz_);replace af:=q_ (bb_ af.out hb);replace aj:=q_ (bb_ aj.out hb);replace HB:=q_ (bs_ hb);(try clear hb);(try clear hk);(try clear ho0);have bH:=cz_ aj 0;have bI:=cz_ aj 1;have bJ:=cz_ aj 2;have bK:=blk_frozen aj.out 0;have bL:=blk_frozen aj.out 1;have bM:=blk_frozen aj.out 2))
  have HB:=q_ (below_step HBo.out HB.out);refine bodyPost_ret (results_ct rfl _ _ aH 49 #[.int .i64 0, .slice none 0 0, .slice none 0 0] (0,0) _ rfl (by(with_reducible repeat (first | refine blk_drewN ?_ _ | refine blk_drew ?_ | refine blk_alloc ?_ _));refine blk_put (cs:= #[.int .i64 0, .slice none 0 0, .slice none 0 0]) ?_ 2 _ rfl;(with_reducible repeat (first | refine blk_drewN ?_ _ | refine blk_drew ?_ | refine blk_alloc ?_ _));refine blk_put (cs:= #[.int .i64 0, .slice none 0 0, .slice none 0 0]) ?_ 1 _ rfl;(with_reducible repeat (first | refine blk_drewN ?_ _ | refine blk_drew ?_ | refine blk_alloc ?_ _));refine blk_put (cs:= #[.int .i64 0, .slice none 0 0, .slice none 0 0]) ?_ 0 _ rfl;(with_reducible repeat (first | refine blk_drewN ?_ _ | refine blk_drew ?_ | refine blk_alloc ?_ _));exact aj.out) Try.underlying49 rfl (by kernel_rfl)) rfl ?_
  exact⟨_,_,by first | rfl | (simp [errW_none,errW_some] <;> rfl) | (simp [*,errW_none,errW_some] <;> rfl),by first | exact Kd.S_nil _ _ _ _ _ | exact Kd.N_nil _ _ _ _ _ | exact Kd.V_nil _ _ _ _ _ | exact Kd.Q_nil _ _ _ _ _ | exact Kd.R_nil _ _ _ _ _,by first | exact Kd.R_nil _ _ _ _ _ | exact Kd.N_nil _ _ _ _ _ | exact Kd.V_nil _ _ _ _ _ | exact Kd.Q_nil _ _ _ _ _ | exact Kd.S_nil _ _ _ _ _,hb_⟩
 ·rw [if_neg c5] at H;have c5b0:=e3_ c5;have c5b1:=e4_ c5;have HC14:=q_ H;clear H
  go_enter Try.func49,Try.ntmps49
  try go_wp2_with (first | ((with_reducible refine gate_dst (N:=2) rfl ?_);refine be_ 2 #[.slice aW au.length aZ, .slice aX ae.length a9] 27 ?_;intro aI hg w15 hbox hb;have af:=q_ (hbox);have eB:=q_ ((by rw [hg];exact bz_:w.heap.size≤aI));have eC:=q_ ((by rw [hg];exact bz_:w.heap.size≤aI));replace HB:=q_ (bs_ hb);clear hb hbox hg) | ((with_reducible refine gate_dst (N:=4) rfl ?_);refine be_ 4 #[.int .i64 0, .slice none 0 0, .slice none 0 0] 49 ?_;intro aH hg w16 hbox hb;have aj:=q_ (hbox);have eD:=q_ ((by rw [hg];exact bz_:w.heap.size≤aH));have eF:=q_ ((by rw [hg];exact bz_:w.heap.size≤aH));have bv:=q_ ((by rw [hg];exact lt_ af.out:aI≠aH));have bw:=q_ ((by rw [hg];exact gt_ af.out:aH≠aI));replace af:=q_ (bb_ af.out hb);replace HB:=q_ (bs_ hb);clear hb hbox hg))
  replace af:=q_ (blk_drew af.out);replace aj:=q_ (blk_drew aj.out);replace HB:=q_ (below_drew1 HB.out);refine st_ (n:=9) (S:=fun w'=>w'.cell? ⟨aI,0,none⟩=some (.slice aW au.length aZ)∧w'.cell? ⟨aI,1,none⟩=some (.slice aX ae.length a9)) (ds:= []) ⟨(blk_cell af.out 0).trans rfl,(blk_cell af.out 1).trans rfl⟩ (fun hHeld=>?_);refine with_tabW spec_l04Pivot.tab1 spec_l04Pivot.bits1 (fun HT_ HW_=>?_)
  generalize w16.drew=w17 at af aj HB hHeld ⊢
  refine pu_ 0 20 ?_;refine pu_ 3 23 ?_;refine pu_ 5 25 ?_;refine tk_ 1 21 ?_;refine pu_ 2 22 ?_;refine tk_ 4 24 ?_
  refine on_ 6 (some 26) (fun K hK=>?_)
  refine goes_ Try.func57 (by kernel_rfl) rfl #[.slice aW au.length aZ, .int .i64 a1] (by rfl) rfl rfl (by(try simp only [List.map_toArray,List.map_cons,List.map_nil]);first | done | rfl | (simp only [List.length_drop,List.length_take];rfl)) ?_
  with_reducible refine(spec_l01Columns.calls k _ _ au a1 l9 _ ?bA ?bC A3.out).mono ?_
  (case bA=>exact cb_ HR0_0.out HB.out)
  (case bC=>exact HC0_0.out)
  rintro e w18 ⟨v9_,rfl,ho0,hb⟩;obtain⟨A9,c9,e9_⟩:=Kd.S_slice ho0;subst e9_;refine⟨_,rfl,?_⟩
  have HR9:=q_ (Kd.S_lower ho0 bz_);replace af:=q_ (bb_ af.out hb);replace aj:=q_ (bb_ aj.out hb);replace HB:=q_ (bs_ hb);(try clear hb)
  
  (try clear hk)
  
  (try clear ho0);refine hK.out _ _ ⟨(blk_cell af.out 0).trans rfl,(blk_cell af.out 1).trans rfl⟩ (fun hHeld=>?_)
  clear hK K;refine norm_ (a':=?_) ?_ ?_
  rotate_left
  ·show Act.put _ (some 26) _=_
   simp only [Act.put,List.setIfInBounds_toArray,List.set_cons_zero,List.set_cons_succ,i64_w,i32_w]
   rfl
  refine pu_ 7 6 ?_;refine pu_ 8 7 ?_
  refine done_ (done_of HT_.out (by kernel_rfl)) ?_
  have HBo0:=HB;have HS9:=HR9;have HR00:=HR0_0;have HR01:=HR0_1;clear HB HR9 HR0_0 HR0_1;obtain⟨wO,hwO⟩: ∃x:World,x=w:=⟨_,rfl⟩
  subst hwO;obtain⟨w,hw⟩: ∃x:World,x=w18:=⟨_,rfl⟩
  have HB:Aside0 (Below w.heap.size w w18):=⟨by rw [hw];exact Below.refl _ _⟩
  have HBo:Aside0 (Below wO.heap.size wO w):=⟨by rw [hw];exact HBo0.out⟩
  have HR9:Aside0 (Kd.C (Kd.slice 2 (Kd.int .i64)) w A9 l9.length l9):=⟨by rw [hw];exact(Kd.S_reads' HS9.out).2.2⟩
  have HC9:Aside0 (l9.length≤c9):=⟨(Kd.S_reads' HS9.out).2.1⟩
  have HR0_0:Aside0 (Kd.C (Kd.slice 2 (Kd.int .i64)) w aW au.length au):=⟨by rw [hw];exact Kd.C_below HR00.out HBo0.out⟩
  have HR0_1:Aside0 (Kd.C (Kd.int .i64) w aX ae.length ae):=⟨by rw [hw];exact Kd.C_below HR01.out HBo0.out⟩
  clear HBo0 HS9 HR00 HR01 hw;have f9:=bv.out;have ga:=bw.out;have bN:=cz_ af 0;have bO:=cz_ af 1;have bP:=blk_frozen af.out 0;have bQ:=blk_frozen af.out 1
  go_upto_if 38 with (first | ((with_reducible refine gate_callee (f:=74) rfl ?_);refine gL_ 31 Try.func74 #[.slice A9 l9.length c9, .slice aX ae.length a9] ?_;(with_reducible refine(spec_l01Solve.calls k _ _ l9 _ _ ae aQ aw _ ?bA ?bC ?cz ?cA A4.out).mono ?_);(case bA=>exact cb_ HR9.out HB.out);(case bC=>exact HC9.out);(case cz=>exact cb_ HR0_1.out HB.out);(case cA=>exact HC0_1.out);rintro e w21 ⟨bR,rfl,ho0,hb⟩;refine⟨_,rfl,?_⟩;have cV:=q_ (Kd.R_lower ho0 bz_);replace af:=q_ (bb_ af.out hb);replace aj:=q_ (bb_ aj.out hb);replace HB:=q_ (bs_ hb);(try clear hb);(try clear hk);(try clear ho0)))
  (try simp only [Act.put,List.setIfInBounds_toArray,List.set_cons_zero,List.set_cons_succ])
  go_cut [10] (fun v10 wc=> ∃(kq:Nat) (aa:Int),v10= .int .i64 aa∧Aside0 (spec_l04Pivot.j0 kq a1 (ae.length:Int) l9 aQ aw aa au ae=some (r1,r2,r3,r4))∧Aside0 (kq≤k)∧Aside0 (Kd.R (Kd.int .i64) 2 wc w.heap.size (fun _=>True) bR aQ)∧Aside0 (wc.heap[aI]?=some (.cells #[(.slice aW au.length aZ),(.slice aX ae.length a9)] 27 (0,0)))∧Aside0 (wc.heap[aH]?=some (.cells #[.int .i64 0,(.slice none 0 0),(.slice none 0 0)] 49 (0,0)))∧Aside0 (Below w.heap.size w wc))
  case first=>
   have H:=HC14.out;clear HC14
   by_cases c22:aw < 0
   ·rw [if_pos c22] at H;have c22b0:=decide_eq_true c22;clear c22
    (first | rw [c22b0] | (simp only [i64_w,i32_w];rw [c22b0]) | skip)
    have H':=q_ H;clear H;go_wp2
    go_meet
    case rel=>exact⟨_,((-1)),rs_,H',⟨by first | omega | exact Nat.le_refl _⟩,⟨ro_ cV.out⟩,⟨bk_⟩,⟨bk_⟩,⟨hb_⟩⟩
   ·rw [if_neg c22] at H;have c22b0:=decide_eq_false c22;clear c22
    (first | rw [c22b0] | (simp only [i64_w,i32_w];rw [c22b0]) | skip)
    have H':=q_ H;clear H;go_wp2
    go_meet
    case rel=>exact⟨_,(1),rs_,H',⟨by first | omega | exact Nat.le_refl _⟩,⟨ro_ cV.out⟩,⟨bk_⟩,⟨bk_⟩,⟨hb_⟩⟩
  case rest=>
   clear HC14;(try clear c5);(try clear c5b0);(try clear c5b1);(try clear c9);(try clear c22b0);(try clear bD);(try clear bE);(try clear bH);(try clear bI);(try clear bJ);(try clear bN);(try clear bO);(try clear bF);(try clear bG);(try clear bK);(try clear bL);(try clear bM);(try clear bP);(try clear bQ);obtain⟨kq,aa,rfl,HA,HJ13,aM,af,aj,HB⟩:=hcut;cases kq with
   | zero=>exact absurd HA.out (by simp [spec_l04Pivot.j0])
   | succ kj13=>
    have H:=HA.out;clear HA;simp only [spec_l04Pivot.j0] at H;obtain⟨bY,hy⟩: ∃y_:List (List Int),y_=(([]:List (List Int))):=⟨_,rfl⟩
    replace H:(spec_l04Pivot.l0 kj13 a1 (ae.length:Int) l9 aQ aa 0 au ae (wrap64 (aa*aw)) bY (([]:List Int)))=some (r1,r2,r3,r4):=hh_;have dG:=q_ hy;clear hy;obtain⟨cC,hy⟩: ∃y_:List Int,y_=(([]:List Int)):=⟨_,rfl⟩
    replace H:(spec_l04Pivot.l0 kj13 a1 (ae.length:Int) l9 aQ aa 0 au ae (wrap64 (aa*aw)) bY cC)=some (r1,r2,r3,r4):=hh_;have dH:=q_ hy;clear hy;have H':=q_ H;clear H
    go_wp2_with (first | ((with_reducible refine gate_dst (N:=42) rfl ?_);refine Kd.S_lit (Kd.slice 2 (Kd.int .i64)) _ 25 ?hg (N:=42) ?hd (xs:=([]:List (List Int))) (inner:= []) (ok:=fun _=>True) (okp:=fun _=>True) ?hr ?hp (fun _ hk=>hk) trivial (Below.refl _ _) (Nat.le_refl _) (by simp) ?_;(case hd=>rfl);(case hg=>rfl);(case hr=>first | (go_simp;done) | (go_simp;rfl));(case hp=>exact(Reps.none _ _));intro gK w23 cJ hb hg_ hnew_;clear hg_ hnew_;(first | rw [← dG.out] at cJ | (simp only [Int.reduceToNat] at cJ;rw [← dG.out] at cJ));have cg:=q_ (Kd.S_lower (Kd.S_new' cJ (Kd.R_lt (ro_ aM.out))) bz_);replace af:=q_ (bb_ af.out hb);replace aj:=q_ (bb_ aj.out hb);replace aM:=q_ (rb_ aM.out hb);replace HB:=q_ (bs_ hb);clear hb cJ) | ((with_reducible refine gate_dst (N:=43) rfl ?_);refine Kd.R_lit (Kd.int .i64) _ 2 ?hg (N:=43) ?hd (xs:=([]:List Int)) (inner:= []) (ok:=fun _=>True) (okp:=fun _=>True) ?hr ?hp (fun _ hk=>hk) trivial (Below.refl _ _) (Nat.le_refl _) (by simp) ?_;(case hd=>rfl);(case hg=>rfl);(case hr=>first | (go_simp;done) | (go_simp;rfl));(case hp=>exact(Reps.none _ _));intro gL w25 cm hb hg_ hnew_;clear hg_ hnew_;(first | rw [← dH.out] at cm | (simp only [Int.reduceToNat] at cm;rw [← dH.out] at cm));replace cg:=q_ (Kd.S_elder' (so_ cg.out) (Kd.R_base cm) hb);have cF:=q_ (Kd.R_lower (Kd.R_new' cm (Kd.R_lt (ro_ aM.out))) bz_);replace af:=q_ (bb_ af.out hb);replace aj:=q_ (bb_ aj.out hb);replace aM:=q_ (Kd.R_elder' (ro_ aM.out) (Kd.R_base cm) hb);replace HB:=q_ (bs_ hb);clear hb cm;obtain⟨cZ,da,eW⟩:=Kd.R_slice cF.out;subst eW;obtain⟨cK,cL,eX⟩:=Kd.S_slice cg.out;subst eX) | ((with_reducible refine gate_dst (N:=11) rfl ?_);refine be_ 11 #[.int .i64 0, .slice none 0 0, .slice none 0 0] 49 ?_;intro av hg w29 hbox hb;replace aM:=q_ (rb_ aM.out hb);replace cg:=q_ (Kd.S_below (so_ cg.out) hb);replace cF:=q_ (rb_ cF.out hb);have ah:=q_ (hbox);have gh:=q_ ((by rw [hg];exact bz_:w.heap.size≤av));have gi:=q_ ((by rw [hg];exact bz_:w.heap.size≤av));have aT:=q_ ((by rw [hg];exact lt_ af.out:aI≠av));have bq:=q_ ((by rw [hg];exact gt_ af.out:av≠aI));have aU:=q_ ((by rw [hg];exact lt_ aj.out:aH≠av));have bz:=q_ ((by rw [hg];exact gt_ aj.out:av≠aH));replace af:=q_ (bb_ af.out hb);replace aj:=q_ (bb_ aj.out hb);replace HB:=q_ (bs_ hb);clear hb hbox hg;have gj:=bq.out;have gp:=aT.out;have gu:=bz.out;have gx:=aU.out;have bS:=cz_ ah 0;have bT:=cz_ ah 1;have bU:=cz_ ah 2;have bV:=blk_frozen ah.out 0;have bW:=blk_frozen ah.out 1;have bX:=blk_frozen ah.out 2))
    go_loopg [12] kj13 (fun kq v12 w'=> ∃(aJ:Int) (aV:List (List Int)) (aN:List Int) (aC:Value) (aq:Value),v12= .int .i64 aJ∧Aside0 (spec_l04Pivot.l0 kq a1 (ae.length:Int) l9 aQ aa aJ au ae (wrap64 (aa*aw)) aV aN=some (r1,r2,r3,r4))∧Aside0 (kq≤kj13)∧Aside0 (Kd.R (Kd.int .i64) 2 w' w.heap.size (fun k_=>some k_≠(aq:Value).ownBlock) bR aQ)∧Aside0 (Kd.S (Kd.slice 2 (Kd.int .i64)) 25 w' w.heap.size (fun k_=>some k_≠(bR:Value).ownBlock∧some k_≠(aq:Value).ownBlock) aC aV)∧Aside0 (Kd.R (Kd.int .i64) 2 w' w.heap.size (fun k_=>some k_≠(bR:Value).ownBlock) aq aN)∧Aside0 (w'.heap[aI]?=some (.cells #[(.slice aW au.length aZ),(.slice aX ae.length a9)] 27 (0,0)))∧Aside0 (w'.heap[aH]?=some (.cells #[.int .i64 0,(.slice none 0 0),(.slice none 0 0)] 49 (0,0)))∧Aside0 (w'.heap[av]?=some (.cells #[.int .i64 (wrap64 (aa*aw)),aC,aq] 49 (0,0)))∧Aside0 (Below w.heap.size w w'))
    case atStart=>exact⟨(0),(bY),(cC),(.slice cK bY.length cL),(.slice cZ cC.length da),rs_,H',⟨Nat.le_refl _⟩,⟨by(with_reducible repeat (first | apply Kd.R_alloc | apply Kd.R_drewN | apply Kd.R_drew));exact Kd.R_mono (Kd.R_far (p:=⟨av,2,none⟩) (Kd.R_far (p:=⟨av,1,none⟩) (Kd.R_far (p:=⟨av,0,none⟩) (Kd.R_types aM.out ah.out (by decide)) (fun _ hk=>hk.2) (.int .i64 (wrap64 (aa*aw)))) (fun _ hk=>hk.2) (.slice cK bY.length cL)) (fun _ hk=>hk.2) (.slice cZ cC.length da)) (fun _ hk=>hk.1.2)⟩,⟨by(with_reducible repeat (first | apply Kd.S_alloc | apply Kd.S_drewN | apply Kd.S_drew));exact Kd.S_mono (Kd.S_far (p:=⟨av,2,none⟩) (Kd.S_far (p:=⟨av,1,none⟩) (Kd.S_far (p:=⟨av,0,none⟩) (Kd.S_types cg.out ah.out (by decide)) (fun _ hk=>hk.2) (.int .i64 (wrap64 (aa*aw)))) (fun _ hk=>hk.2) (.slice cK bY.length cL)) (fun _ hk=>hk.2) (.slice cZ cC.length da)) (fun _ hk=>⟨hk.1.1.2,hk.1.2⟩)⟩,⟨by(with_reducible repeat (first | apply Kd.R_alloc | apply Kd.R_drewN | apply Kd.R_drew));exact Kd.R_mono (Kd.R_far (p:=⟨av,2,none⟩) (Kd.R_far (p:=⟨av,1,none⟩) (Kd.R_far (p:=⟨av,0,none⟩) (Kd.R_types cF.out ah.out (by decide)) (fun _ hk=>hk.2) (.int .i64 (wrap64 (aa*aw)))) (fun _ hk=>hk.2) (.slice cK bY.length cL)) (fun _ hk=>hk.2) (.slice cZ cC.length da)) (fun _ hk=>hk.1.2)⟩,⟨by(with_reducible repeat (first | refine blk_drewN ?_ _ | refine blk_drew ?_ | refine blk_alloc ?_ _));refine blk_far ?_ aT.out _;(with_reducible repeat (first | refine blk_drewN ?_ _ | refine blk_drew ?_ | refine blk_alloc ?_ _));refine blk_far ?_ aT.out _;(with_reducible repeat (first | refine blk_drewN ?_ _ | refine blk_drew ?_ | refine blk_alloc ?_ _));refine blk_far ?_ aT.out _;(with_reducible repeat (first | refine blk_drewN ?_ _ | refine blk_drew ?_ | refine blk_alloc ?_ _));exact af.out⟩,⟨by(with_reducible repeat (first | refine blk_drewN ?_ _ | refine blk_drew ?_ | refine blk_alloc ?_ _));refine blk_far ?_ aU.out _;(with_reducible repeat (first | refine blk_drewN ?_ _ | refine blk_drew ?_ | refine blk_alloc ?_ _));refine blk_far ?_ aU.out _;(with_reducible repeat (first | refine blk_drewN ?_ _ | refine blk_drew ?_ | refine blk_alloc ?_ _));refine blk_far ?_ aU.out _;(with_reducible repeat (first | refine blk_drewN ?_ _ | refine blk_drew ?_ | refine blk_alloc ?_ _));exact aj.out⟩,⟨by(with_reducible repeat (first | refine blk_drewN ?_ _ | refine blk_drew ?_ | refine blk_alloc ?_ _));refine blk_put (cs:= #[.int .i64 (wrap64 (aa*aw)), .slice cK bY.length cL, .slice none 0 0]) ?_ 2 _ rfl;(with_reducible repeat (first | refine blk_drewN ?_ _ | refine blk_drew ?_ | refine blk_alloc ?_ _));refine blk_put (cs:= #[.int .i64 (wrap64 (aa*aw)), .slice none 0 0, .slice none 0 0]) ?_ 1 _ rfl;(with_reducible repeat (first | refine blk_drewN ?_ _ | refine blk_drew ?_ | refine blk_alloc ?_ _));refine blk_put (cs:= #[.int .i64 0, .slice none 0 0, .slice none 0 0]) ?_ 0 _ rfl;(with_reducible repeat (first | refine blk_drewN ?_ _ | refine blk_drew ?_ | refine blk_alloc ?_ _));exact ah.out⟩,⟨hb_⟩⟩
    case round=>
     clear H';(try clear c5);(try clear c5b0);(try clear c5b1);(try clear c9);(try clear c22b0);(try clear bD);(try clear bE);(try clear bH);(try clear bI);(try clear bJ);(try clear bN);(try clear bO);(try clear bS);(try clear bT);(try clear bU);(try clear bF);(try clear bG);(try clear bK);(try clear bL);(try clear bM);(try clear bP);(try clear bQ);(try clear bV);(try clear bW);(try clear bX);obtain⟨aJ,aV,aN,aC,aq,rfl,HA,HK2,aM,ai,ag,af,aj,ah,HB⟩:=hrel;cases gk with
     | zero=>exact absurd HA.out (by simp [spec_l04Pivot.l0])
     | succ k2=>
      have H:=HA.out;clear HA;simp only [spec_l04Pivot.l0] at H
      by_cases c33:aJ < (ae.length:Int)
      ·rw [if_pos c33] at H;have c33b0:=decide_eq_true c33;clear c33
       by_cases c34:0≤(ae.length:Int)
       ·rw [if_pos c34] at H;have c34b0:=eq_true c34;have c34b1:=decide_eq_true c34;clear c34
        by_cases c35:((ae.length:Int):Int).toNat≤35184372088832
        ·rw [if_pos c35] at H;have c35b0:=eq_true c35;have c35b1:=decide_eq_true c35;clear c35;obtain⟨cN,hy⟩: ∃y_:List Int,y_=(List.replicate ((ae.length:Int):Int).toNat 0):=⟨_,rfl⟩
         replace H:(if aV.length < 5864062014805 then(if 0≤aJ then(if aJ < (aQ.length:Int) then(if aN.length < 17592186044416 then(spec_l04Pivot.l0 k2 a1 (ae.length:Int) l9 aQ aa (wrap64 (aJ+1)) au ae (wrap64 (aa*aw)) (aV++ [cN]) (aN++ [wrap64 (aa*(rd aQ aJ))])) else(none)) else(none)) else(none)) else(none))=some (r1,r2,r3,r4):=hh_;have dI:=q_ hy;clear hy
         by_cases c36:aV.length < 5864062014805
         ·rw [if_pos c36] at H;have eG:=q_ c36;clear c36;obtain⟨aY,hy⟩: ∃y_:List (List Int),y_=(aV++ [cN]):=⟨_,rfl⟩
          replace H:(if 0≤aJ then(if aJ < (aQ.length:Int) then(if aN.length < 17592186044416 then(spec_l04Pivot.l0 k2 a1 (ae.length:Int) l9 aQ aa (wrap64 (aJ+1)) au ae (wrap64 (aa*aw)) aY (aN++ [wrap64 (aa*(rd aQ aJ))])) else(none)) else(none)) else(none))=some (r1,r2,r3,r4):=hh_;have eH:=q_ hy;clear hy
          by_cases c37:0≤aJ
          ·rw [if_pos c37] at H;have c37b0:=decide_eq_true c37;clear c37
           by_cases c38:aJ < (aQ.length:Int)
           ·rw [if_pos c38] at H;have c38b0:=decide_eq_true c38;clear c38
            by_cases c39:aN.length < 17592186044416
            ·rw [if_pos c39] at H;have eI:=q_ c39;clear c39;obtain⟨cD,hy⟩: ∃y_:List Int,y_=(aN++ [wrap64 (aa*(rd aQ aJ))]):=⟨_,rfl⟩
             replace H:(spec_l04Pivot.l0 k2 a1 (ae.length:Int) l9 aQ aa (wrap64 (aJ+1)) au ae (wrap64 (aa*aw)) aY cD)=some (r1,r2,r3,r4):=hh_;have eJ:=q_ hy;clear hy;have H':=q_ H;clear H
             try go_wp2
             replace aM:=q_ (Kd.R_drew aM.out);replace ai:=q_ (Kd.S_drew ai.out);replace ag:=q_ (Kd.R_drew ag.out);replace af:=q_ (blk_drew af.out);replace aj:=q_ (blk_drew aj.out);replace ah:=q_ (blk_drew ah.out);replace HB:=q_ (below_drew1 HB.out);refine st_ (n:=8) (S:=fun w'=>w'.cell? ⟨av,0,none⟩=some (.int .i64 (wrap64 (aa*aw)))∧w'.cell? ⟨av,1,none⟩=some (aC)∧w'.cell? ⟨av,2,none⟩=some (aq)) (ds:= [7]) ⟨(blk_cell ah.out 0).trans rfl,(blk_cell ah.out 1).trans rfl,(blk_cell ah.out 2).trans rfl⟩ (fun hHeld=>?_);refine with_tabW spec_l04Pivot.tab12 spec_l04Pivot.bits12 (fun HT_ HW_=>?_)
             generalize wr.drew=w40 at aM ai ag af aj ah HB hHeld ⊢
             refine pu_ 0 50 ?_;refine pu_ 2 52 ?_;refine tk_ 1 51 ?_
             refine on_ 3 (some 53) (fun K hK=>?_)
             refine Kd.R_make_step (Kd.int .i64) _ 2 (by rfl) (N:=53) rfl 25 _ _ rfl (ae.length:Int) rfl rfl Try.underlying25 (.int .i64 0) 8 info2 rfl (by decide) (by omega) 0 (ok:=fun _=>True) (okp:=fun _=>True) rfl (fun _ hk=>hk) trivial od_ (Nat.le_trans (Nat.mul_le_mul_right _ (od_:(ae.length:Int).toNat≤35184372088832)) (by omega)) (Below.refl _ _) (Nat.le_refl _) ?_
             intro gM w41 bZ hb hg_ hnew_;clear hg_ hnew_
             (first | rw [← dI.out] at bZ | (simp only [Int.reduceToNat] at bZ;rw [← dI.out] at bZ))
             replace ai:=q_ (Kd.S_elder' (so_ ai.out) (Kd.R_base bZ) hb);have cG:=q_ (Kd.R_lower (Kd.R_new' (Kd.R_new' bZ (Kd.R_lt (ro_ aM.out))) (Kd.R_lt (ro_ ag.out))) bz_);replace af:=q_ (bb_ af.out hb);replace aj:=q_ (bb_ aj.out hb);replace ah:=q_ (bb_ ah.out hb);replace aM:=q_ (Kd.R_elder' (ro_ aM.out) (Kd.R_base bZ) hb);replace ag:=q_ (Kd.R_elder' (ro_ ag.out) (Kd.R_base bZ) hb);replace HB:=q_ (bs_ hb);clear hb bZ;obtain⟨dM,dN,dP⟩:=Kd.R_slice cG.out
             (first | subst dP | (injection dP with f1_ f2_ f3_;have f4_:=f1_.symm;have f5_:=f3_.symm;clear f1_ f2_ f3_;subst f4_;subst f5_))
             refine hK.out _ _ ⟨(blk_cell ah.out 0).trans rfl,(blk_cell ah.out 1).trans rfl,(blk_cell ah.out 2).trans rfl⟩ (fun hHeld=>?_)
             clear hK K;refine norm_ (a':=?_) ?_ ?_
             rotate_left
             ·show Act.put _ (some 53) _=_
              simp only [Act.put,List.setIfInBounds_toArray,List.set_cons_zero,List.set_cons_succ,i64_w,i32_w]
              rfl
             refine on_ 4 (some 54) (fun K hK=>?_)
             refine value_ (w1:=?_) (v:=?_) (by rfl) rfl ?_ ?_
             rotate_left 2
             ·go_simp
              constructor
              ·rfl
              ·rfl
             refine hK.out _ _ ⟨(blk_cell (blk_alloc ah.out _) 0).trans rfl,(blk_cell (blk_alloc ah.out _) 1).trans rfl,(blk_cell (blk_alloc ah.out _) 2).trans rfl⟩ (fun hHeld=>?_)
             clear hK K;refine norm_ (a':=?_) ?_ ?_
             rotate_left
             ·show Act.put _ (some 54) _=_
              simp only [Act.put,List.setIfInBounds_toArray,List.set_cons_zero,List.set_cons_succ,i64_w,i32_w]
              rfl
             refine on_ 5 (some 55) (fun K hK=>?_)
             refine Kd.S_append_step (Kd.slice 2 (Kd.int .i64)) (w0:=w) w.heap.size (by rfl) (.tmp 51) (.tmp 54) 24 25 (.slice none 0 0) 24 rfl Try.underlying24 info25 rfl (by decide) (by omega) aC aV cN [.slice dM cN.length dN] (fun k_=>some k_≠(bR:Value).ownBlock∧some k_≠(aq:Value).ownBlock) (fun k_=>some k_=(.slice dM cN.length dN:Value).ownBlock) rfl rfl ?aP (fun k_ hk_=>((Kd.R_mono (ok':=fun k_=>((fun k_=>some k_≠(bR:Value).ownBlock∧some k_≠(aq:Value).ownBlock)) k_∧some k_≠(aC:Value).ownBlock) (Kd.R_apart' (cG.out) (Kd.S_typed ai.out) (by decide)) (fun k_ hk=>⟨⟨hk.1.1.2,hk.1.2⟩,hk.2⟩))).1 k_ hk_.symm) ?aF ?aO ?aB ?aS ?aL ?_
             (case aP=>exact Kd.M_row (Kd.R_mono (Kd.R_tight rfl (Kd.R_mono (ok':=fun k_=>((fun k_=>some k_≠(bR:Value).ownBlock∧some k_≠(aq:Value).ownBlock)) k_∧some k_≠(aC:Value).ownBlock) (Kd.R_apart' (cG.out) (Kd.S_typed ai.out) (by decide)) (fun k_ hk=>⟨⟨hk.1.1.2,hk.1.2⟩,hk.2⟩))) (fun _ h_=>h_)))
             (case aB=>exact hb_)
             (case aF=>exact(fun k_ hk=>⟨Kd.fresh' (Kd.R_lt (ro_ aM.out)) k_ hk,Kd.fresh' (Kd.R_lt (ro_ ag.out)) k_ hk⟩))
             (case aO=>exact(by(with_reducible repeat (first | apply Kd.S_alloc | apply Kd.S_drewN | apply Kd.S_drew));exact Kd.S_mono ai.out (fun k_ hk=>⟨⟨hk.1.1,hk.1.2⟩,fun e_=>hk.2 e_⟩)))
             (case aS=>exact bz_)
             (case aL=>have:=eG.out;omega)
             intro gN w43 ho hb hg hat;rw [← eH.out] at ho;replace aM:=q_ (Kd.R_over' (ro_ aM.out) (Kd.S_typed (so_ ai.out)) (by decide) hg);replace ag:=q_ (Kd.R_over' (ro_ ag.out) (Kd.S_typed (so_ ai.out)) (by decide) hg);replace af:=q_ (bg_ af.out hg (Kd.S_ne ai.out af.out (by decide)));replace aj:=q_ (bg_ aj.out hg (Kd.S_ne ai.out aj.out (by decide)));replace ah:=q_ (bg_ ah.out hg (Kd.S_ne ai.out ah.out (by decide)));replace HB:=q_ (hb);have bu:=q_ (ho);clear ai cG ho hb hg hat;obtain⟨bh,bk,dQ⟩:=Kd.S_slice bu.out
             (first | subst dQ | (injection dQ with f1_ f2_ f3_;have f4_:=f1_.symm;have f5_:=f3_.symm;clear f1_ f2_ f3_;subst f4_;subst f5_))
             refine hK.out _ _ ⟨(blk_cell ah.out 0).trans rfl,(blk_cell ah.out 1).trans rfl,(blk_cell ah.out 2).trans rfl⟩ (fun hHeld=>?_)
             clear hK K;refine norm_ (a':=?_) ?_ ?_
             rotate_left
             ·show Act.put _ (some 55) _=_
              simp only [Act.put,List.setIfInBounds_toArray,List.set_cons_zero,List.set_cons_succ,i64_w,i32_w]
              rfl
             refine pu_ 6 56 ?_
             refine la_ 7 none (fun K hK=>?_)
             have hs46:=cz_ ah 1;have hfs46:=blk_frozen ah.out 1;have hns46_0:=aT.out;have hns46_1:=aU.out;have hms46_0:=bq.out;have hms46_1:=bz.out;refine skip_ (w1:=?_) (by rfl) rfl ?_ ?_
             rotate_left
             ·go_simp
              rfl
             refine hK.out _ _ ?_
             clear hK K;refine done_ (done_of HT_.out (by kernel_rfl)) ?_
             try go_wp2
             have n0_:Aside0 (Kd.R (Kd.int .i64) 2 (w43.setCell ⟨av,1,none⟩ (.slice bh aY.length bk)) w.heap.size (fun k_=>some k_≠(aq:Value).ownBlock) bR aQ):=⟨by(with_reducible repeat (first | apply Kd.R_alloc | apply Kd.R_drewN | apply Kd.R_drew));exact Kd.R_mono (Kd.R_far (p:=⟨av,1,none⟩) (Kd.R_types aM.out ah.out (by decide)) (fun _ hk=>hk.2) (.slice bh aY.length bk)) (fun _ hk=>hk.1.1)⟩
             have n1_:Aside0 (Kd.R (Kd.int .i64) 2 (w43.setCell ⟨av,1,none⟩ (.slice bh aY.length bk)) w.heap.size (fun k_=>some k_≠(bR:Value).ownBlock) aq aN):=⟨by(with_reducible repeat (first | apply Kd.R_alloc | apply Kd.R_drewN | apply Kd.R_drew));exact Kd.R_mono (Kd.R_far (p:=⟨av,1,none⟩) (Kd.R_types ag.out ah.out (by decide)) (fun _ hk=>hk.2) (.slice bh aY.length bk)) (fun _ hk=>hk.1.1)⟩
             have n2_:Aside0 (Kd.S (Kd.slice 2 (Kd.int .i64)) 25 (w43.setCell ⟨av,1,none⟩ (.slice bh aY.length bk)) w.heap.size (fun k_=>some k_≠(bR:Value).ownBlock∧some k_≠(aq:Value).ownBlock) (.slice bh aY.length bk) aY):=⟨by(with_reducible repeat (first | apply Kd.S_alloc | apply Kd.S_drewN | apply Kd.S_drew));exact Kd.S_mono (Kd.S_far (p:=⟨av,1,none⟩) (Kd.S_types bu.out ah.out (by decide)) (fun _ hk=>hk.2) (.slice bh aY.length bk)) (fun _ hk=>⟨hk.1.1,hk.1.2⟩)⟩
             have n3_:Aside0 ((w43.setCell ⟨av,1,none⟩ (.slice bh aY.length bk)).heap[aI]?=some (.cells #[.slice aW au.length aZ, .slice aX ae.length a9] 27 (0,0))):=⟨by(with_reducible repeat (first | refine blk_drewN ?_ _ | refine blk_drew ?_ | refine blk_alloc ?_ _));refine blk_far ?_ aT.out _;(with_reducible repeat (first | refine blk_drewN ?_ _ | refine blk_drew ?_ | refine blk_alloc ?_ _));exact af.out⟩
             have n4_:Aside0 ((w43.setCell ⟨av,1,none⟩ (.slice bh aY.length bk)).heap[aH]?=some (.cells #[.int .i64 0, .slice none 0 0, .slice none 0 0] 49 (0,0))):=⟨by(with_reducible repeat (first | refine blk_drewN ?_ _ | refine blk_drew ?_ | refine blk_alloc ?_ _));refine blk_far ?_ aU.out _;(with_reducible repeat (first | refine blk_drewN ?_ _ | refine blk_drew ?_ | refine blk_alloc ?_ _));exact aj.out⟩
             have n5_:Aside0 ((w43.setCell ⟨av,1,none⟩ (.slice bh aY.length bk)).heap[av]?=some (.cells #[.int .i64 (wrap64 (aa*aw)), .slice bh aY.length bk,aq] 49 (0,0))):=⟨by(with_reducible repeat (first | refine blk_drewN ?_ _ | refine blk_drew ?_ | refine blk_alloc ?_ _));refine blk_put (cs:= #[.int .i64 (wrap64 (aa*aw)),aC,aq]) ?_ 1 _ rfl;(with_reducible repeat (first | refine blk_drewN ?_ _ | refine blk_drew ?_ | refine blk_alloc ?_ _));exact ah.out⟩
             have n6_:Aside0 (Below w.heap.size w (w43.setCell ⟨av,1,none⟩ (.slice bh aY.length bk))):=⟨hb_⟩
             (try clear aM);(try clear ag);(try clear bu);(try clear af);(try clear aj);(try clear ah);(try clear HB)
             generalize (w43.setCell ⟨av,1,none⟩ (.slice bh aY.length bk))=w47 at n0_ n1_ n2_ n3_ n4_ n5_ n6_ ⊢
             have aM:=n0_;have ag:=n1_;have bu:=n2_;have af:=n3_;have aj:=n4_;have ah:=n5_;have HB:=n6_;clear n0_ n1_ n2_ n3_ n4_ n5_ n6_;replace aM:=q_ (Kd.R_drew aM.out);replace ag:=q_ (Kd.R_drew ag.out);replace bu:=q_ (Kd.S_drew bu.out);replace af:=q_ (blk_drew af.out);replace aj:=q_ (blk_drew aj.out);replace ah:=q_ (blk_drew ah.out);replace HB:=q_ (below_drew1 HB.out);obtain⟨gO,dU,dV⟩:=Kd.R_slice aM.out
             (first | subst dV | (injection dV with f1_ f2_ f3_;have f4_:=f1_.symm;have f5_:=f3_.symm;clear f1_ f2_ f3_;subst f4_;subst f5_))
             have p410:0≤(aJ:Int):=od_;have q410:aJ < (aQ.length:Int):=od_;obtain⟨df,e410,hx410_0⟩:=Kd.at_int (Kd.R_reads' aM.out).2.2 aJ p410 q410;cases e410
             replace p410:=eq_true p410;replace q410:=eq_true q410;refine st_ (n:=12) (S:=fun w'=>w'.cell? ⟨av,0,none⟩=some (.int .i64 (wrap64 (aa*aw)))∧w'.cell? ⟨av,1,none⟩=some (.slice bh aY.length bk)∧w'.cell? ⟨av,2,none⟩=some (aq)∧w'.cell? (df.add (aJ).toNat)=some (.int .i64 (rd aQ aJ))) (ds:= [9,11]) ⟨(blk_cell ah.out 0).trans rfl,(blk_cell ah.out 1).trans rfl,(blk_cell ah.out 2).trans rfl,hx410_0⟩ (fun hHeld=>?_);refine with_tabW spec_l04Pivot.tab13 spec_l04Pivot.bits13 (fun HT_ HW_=>?_)
             generalize w47.drew=w48 at aM ag bu af aj ah HB hx410_0 hHeld ⊢
             refine pu_ 0 57 ?_;refine pu_ 2 59 ?_;refine pu_ 3 60 ?_;refine pu_ 4 61 ?_;refine pu_ 5 62 ?_;refine tk_ 1 58 ?_;refine tk_ 6 63 ?_;refine pu_ 7 64 ?_
             refine on_ 8 (some 65) (fun K hK=>?_)
             refine value_ (w1:=?_) (v:=?_) (by rfl) rfl ?_ ?_
             rotate_left 2
             ·go_simp
              constructor
              ·rfl
              ·rfl
             refine hK.out _ _ ⟨(blk_cell (blk_alloc ah.out _) 0).trans rfl,(blk_cell (blk_alloc ah.out _) 1).trans rfl,(blk_cell (blk_alloc ah.out _) 2).trans rfl,(World.cell?_alloc_lt _ _ _ (World.block_lt_of_cell? _ _ (hHeld.2.2.2))).trans (hHeld.2.2.2)⟩ (fun hHeld=>?_)
             clear hK K;refine norm_ (a':=?_) ?_ ?_
             rotate_left
             ·show Act.put _ (some 65) _=_
              simp only [Act.put,List.setIfInBounds_toArray,List.set_cons_zero,List.set_cons_succ,i64_w,i32_w]
              rfl
             refine la_ 9 (some 66) (fun K hK=>?_)
             refine Kd.R_append_step (Kd.int .i64) (w0:=w) w.heap.size (by rfl) (.tmp 58) (.tmp 65) 25 2 (.int .i64 0) 8 rfl Try.underlying25 info2 rfl (by decide) (by omega) aq aN (wrap64 (aa*(rd aQ aJ))) [.int .i64 (wrap64 (aa*(rd aQ aJ)))] (fun k_=>some k_≠(.slice (some df) aQ.length dU:Value).ownBlock) (fun _=>False) rfl rfl ?aP (fun _ hk=>hk.elim) ?aF ?aO ?aB ?aS ?aL ?_
             (case aP=>exact rfl)
             (case aB=>exact hb_)
             (case aF=>exact(fun k_ hk=>Kd.fresh' (Kd.R_lt (ro_ aM.out)) k_ hk))
             (case aO=>exact(ro_ ag.out))
             (case aS=>exact bz_)
             (case aL=>have:=eI.out;omega)
             intro gP w50 ho hb hg hat;rw [← eJ.out] at ho;replace aM:=q_ (Kd.R_after (ok:=(fun _=>True)) (by(with_reducible repeat (first | apply Kd.R_alloc | apply Kd.R_drewN | apply Kd.R_drew));exact Kd.R_mono aM.out (fun _ hk=>⟨trivial,hk⟩)) hg hat);replace af:=q_ (bg_ af.out hg (Kd.R_ne ag.out af.out (by decide)));replace aj:=q_ (bg_ aj.out hg (Kd.R_ne ag.out aj.out (by decide)));replace ah:=q_ (bg_ ah.out hg (Kd.R_ne ag.out ah.out (by decide)));replace bu:=q_ (Kd.S_after (ok:=(fun k_=>some k_≠(.slice (some df) aQ.length dU:Value).ownBlock)) (so_ bu.out) hg hat);replace HB:=q_ (hb);have dJ:=q_ (ho);clear ag ho hb hg hat;obtain⟨dh,di,dW⟩:=Kd.R_slice dJ.out
             (first | subst dW | (injection dW with f1_ f2_ f3_;have f4_:=f1_.symm;have f5_:=f3_.symm;clear f1_ f2_ f3_;subst f4_;subst f5_))
             refine hK.out _ _ ?_
             clear hK K;refine norm_ (a':=?_) ?_ ?_
             rotate_left
             ·show Act.put _ (some 66) _=_
              simp only [Act.put,List.setIfInBounds_toArray,List.set_cons_zero,List.set_cons_succ,i64_w,i32_w]
              rfl
             refine pu_ 10 67 ?_
             refine la_ 11 none (fun K hK=>?_)
             have hs52:=cz_ ah 2;have hfs52:=blk_frozen ah.out 2;have hns52_0:=aT.out;have hns52_1:=aU.out;have hms52_0:=bq.out;have hms52_1:=bz.out;refine skip_ (w1:=?_) (by rfl) rfl ?_ ?_
             rotate_left
             ·go_simp
              rfl
             refine hK.out _ _ ?_
             clear hK K;refine done_ (done_of HT_.out (by kernel_rfl)) ?_
             try go_wp2
             go_roundg k2
             case measure=>have:=HJ13.out;have:=HK2.out;omega
             case rel=>exact⟨(wrap64 (aJ+1)),(aY),(cD),(.slice bh aY.length bk),(.slice dh cD.length di),rs_,H',⟨by have:=HJ13.out;have:=HK2.out;omega⟩,⟨by(with_reducible repeat (first | apply Kd.R_alloc | apply Kd.R_drewN | apply Kd.R_drew));exact Kd.R_mono (Kd.R_far (p:=⟨av,2,none⟩) (Kd.R_types aM.out ah.out (by decide)) (fun _ hk=>hk.2) (.slice dh cD.length di)) (fun _ hk=>hk.1.2)⟩,⟨by(with_reducible repeat (first | apply Kd.S_alloc | apply Kd.S_drewN | apply Kd.S_drew));exact Kd.S_mono (Kd.S_far (p:=⟨av,2,none⟩) (Kd.S_types bu.out ah.out (by decide)) (fun _ hk=>hk.2) (.slice dh cD.length di)) (fun _ hk=>⟨hk.1.1,hk.1.2⟩)⟩,⟨by(with_reducible repeat (first | apply Kd.R_alloc | apply Kd.R_drewN | apply Kd.R_drew));exact Kd.R_mono (Kd.R_far (p:=⟨av,2,none⟩) (Kd.R_types dJ.out ah.out (by decide)) (fun _ hk=>hk.2) (.slice dh cD.length di)) (fun _ hk=>hk.1)⟩,⟨by(with_reducible repeat (first | refine blk_drewN ?_ _ | refine blk_drew ?_ | refine blk_alloc ?_ _));refine blk_far ?_ aT.out _;(with_reducible repeat (first | refine blk_drewN ?_ _ | refine blk_drew ?_ | refine blk_alloc ?_ _));exact af.out⟩,⟨by(with_reducible repeat (first | refine blk_drewN ?_ _ | refine blk_drew ?_ | refine blk_alloc ?_ _));refine blk_far ?_ aU.out _;(with_reducible repeat (first | refine blk_drewN ?_ _ | refine blk_drew ?_ | refine blk_alloc ?_ _));exact aj.out⟩,⟨by(with_reducible repeat (first | refine blk_drewN ?_ _ | refine blk_drew ?_ | refine blk_alloc ?_ _));refine blk_put (cs:= #[.int .i64 (wrap64 (aa*aw)), .slice bh aY.length bk,aq]) ?_ 2 _ rfl;(with_reducible repeat (first | refine blk_drewN ?_ _ | refine blk_drew ?_ | refine blk_alloc ?_ _));exact ah.out⟩,⟨hb_⟩⟩
            ·rw [if_neg c39] at H;exact absurd H (by simp)
           ·rw [if_neg c38] at H;exact absurd H (by simp)
          ·rw [if_neg c37] at H;exact absurd H (by simp)
         ·rw [if_neg c36] at H;exact absurd H (by simp)
        ·rw [if_neg c35] at H;exact absurd H (by simp)
       ·rw [if_neg c34] at H;exact absurd H (by simp)
      ·rw [if_neg c33] at H;have c33b0:=decide_eq_false c33;clear c33;have H':=q_ H;clear H;go_wp2
       go_loopg [13] k2 (fun kq v13 w'=> ∃(ak:Int) (ay:List (List Int)) (az:List Int) (aC:Value) (aq:Value),v13= .int .i64 ak∧Aside0 (spec_l04Pivot.l1 kq a1 (ae.length:Int) l9 aa ak au ae (wrap64 (aa*aw)) ay az=some (r1,r2,r3,r4))∧Aside0 (kq≤k2)∧Aside0 (Kd.S (Kd.slice 2 (Kd.int .i64)) 25 w' w.heap.size (fun k_=>some k_≠(aq:Value).ownBlock) aC ay)∧Aside0 (Kd.R (Kd.int .i64) 2 w' w.heap.size (fun _=>True) aq az)∧Aside0 (w'.heap[aI]?=some (.cells #[(.slice aW au.length aZ),(.slice aX ae.length a9)] 27 (0,0)))∧Aside0 (w'.heap[aH]?=some (.cells #[.int .i64 0,(.slice none 0 0),(.slice none 0 0)] 49 (0,0)))∧Aside0 (w'.heap[av]?=some (.cells #[.int .i64 (wrap64 (aa*aw)),aC,aq] 49 (0,0)))∧Aside0 (Below w.heap.size w w'))
       case atStart=>exact⟨(0),(aV),(aN),(aC),(aq),rs_,H',⟨Nat.le_refl _⟩,⟨by(with_reducible repeat (first | apply Kd.S_alloc | apply Kd.S_drewN | apply Kd.S_drew));exact Kd.S_mono ai.out (fun _ hk=>hk.2)⟩,⟨by(with_reducible repeat (first | apply Kd.R_alloc | apply Kd.R_drewN | apply Kd.R_drew));exact Kd.R_mono ag.out (fun _ hk=>trivial)⟩,⟨bk_⟩,⟨bk_⟩,⟨bk_⟩,⟨hb_⟩⟩
       case round=>
        clear H';(try clear c5);(try clear c5b0);(try clear c5b1);(try clear c9);(try clear c22b0);(try clear c33b0);(try clear c34);(try clear c34b0);(try clear c34b1);(try clear c35);(try clear c35b0);(try clear c35b1);(try clear c36);(try clear c37);(try clear c37b0);(try clear c38);(try clear c38b0);(try clear c39);(try clear bD);(try clear bE);(try clear bH);(try clear bI);(try clear bJ);(try clear bN);(try clear bO);(try clear bS);(try clear bT);(try clear bU);(try clear bF);(try clear bG);(try clear bK);(try clear bL);(try clear bM);(try clear bP);(try clear bQ);(try clear bV);(try clear bW);(try clear bX);(try clear hx410_0);(try clear p410);(try clear q410);obtain⟨ak,ay,az,aC,aq,rfl,HA,HK3,ai,ag,af,aj,ah,HB⟩:=hrel;cases gk with
        | zero=>exact absurd HA.out (by simp [spec_l04Pivot.l1])
        | succ k3=>
         have H:=HA.out;clear HA;simp only [spec_l04Pivot.l1] at H
         by_cases c53:ak < (ae.length:Int)
         ·rw [if_pos c53] at H;have c53b0:=decide_eq_true c53;clear c53
          by_cases c54:0≤(ae.length:Int)
          ·rw [if_pos c54] at H;have c54b0:=eq_true c54;have c54b1:=decide_eq_true c54;clear c54
           by_cases c55:((ae.length:Int):Int).toNat≤35184372088832
           ·rw [if_pos c55] at H;have c55b0:=eq_true c55;have c55b1:=decide_eq_true c55;clear c55;obtain⟨dX,hy⟩: ∃y_:List Int,y_=(List.replicate ((ae.length:Int):Int).toNat 0):=⟨_,rfl⟩
            replace H:(spec_l04Pivot.l2 k3 a1 (ae.length:Int) l9 aa ak dX 0 au ae (wrap64 (aa*aw)) ay az)=some (r1,r2,r3,r4):=hh_;have dK:=q_ hy;clear hy;have H':=q_ H;clear H
            go_wp2_with (first | ((with_reducible refine gate_dst (N:=74) rfl ?_);refine Kd.R_make (Kd.int .i64) _ 2 rfl (N:=74) rfl 25 _ _ rfl (ae.length:Int) rfl rfl Try.underlying25 (.int .i64 0) 8 info2 rfl (by decide) (by omega) 0 (ok:=fun _=>True) (okp:=fun _=>True) rfl (fun _ hk=>hk) trivial od_ (Nat.le_trans (Nat.mul_le_mul_right _ (od_:(ae.length:Int).toNat≤35184372088832)) (by omega)) (Below.refl _ _) (Nat.le_refl _) ?_;intro cE w56 cu hb hg_ hnew_;clear hg_ hnew_;(first | rw [← dK.out] at cu | (simp only [Int.reduceToNat] at cu;rw [← dK.out] at cu));replace ai:=q_ (Kd.S_elder' (so_ ai.out) (Kd.R_base cu) hb);have eK:=q_ (Kd.R_lower (Kd.R_new' cu (Kd.R_lt (ro_ ag.out))) bz_);replace af:=q_ (bb_ af.out hb);replace aj:=q_ (bb_ aj.out hb);replace ah:=q_ (bb_ ah.out hb);replace ag:=q_ (Kd.R_elder' (ro_ ag.out) (Kd.R_base cu) hb);replace HB:=q_ (bs_ hb);clear hb cu))
            go_loopg [15] k3 (fun kq v15 w'=> ∃(aG:List Int) (ax:Int),v15= .int .i64 ax∧Aside0 (spec_l04Pivot.l2 kq a1 (ae.length:Int) l9 aa ak aG ax au ae (wrap64 (aa*aw)) ay az=some (r1,r2,r3,r4))∧Aside0 (kq≤k3)∧Aside0 (Kd.R (Kd.int .i64) 2 w' w.heap.size (fun k_=>some k_≠(aq:Value).ownBlock) cE aG)∧Aside0 (Kd.S (Kd.slice 2 (Kd.int .i64)) 25 w' w.heap.size (fun k_=>some k_≠(cE:Value).ownBlock∧some k_≠(aq:Value).ownBlock) aC ay)∧Aside0 (Kd.R (Kd.int .i64) 2 w' w.heap.size (fun k_=>some k_≠(cE:Value).ownBlock) aq az)∧Aside0 (w'.heap[aI]?=some (.cells #[(.slice aW au.length aZ),(.slice aX ae.length a9)] 27 (0,0)))∧Aside0 (w'.heap[aH]?=some (.cells #[.int .i64 0,(.slice none 0 0),(.slice none 0 0)] 49 (0,0)))∧Aside0 (w'.heap[av]?=some (.cells #[.int .i64 (wrap64 (aa*aw)),aC,aq] 49 (0,0)))∧Aside0 (Below w.heap.size w w'))
            case atStart=>exact⟨(dX),(0),rs_,H',⟨Nat.le_refl _⟩,⟨by(with_reducible repeat (first | apply Kd.R_alloc | apply Kd.R_drewN | apply Kd.R_drew));exact Kd.R_mono eK.out (fun _ hk=>hk.2)⟩,⟨by(with_reducible repeat (first | apply Kd.S_alloc | apply Kd.S_drewN | apply Kd.S_drew));exact Kd.S_mono ai.out (fun _ hk=>⟨hk.2,hk.1⟩)⟩,⟨by(with_reducible repeat (first | apply Kd.R_alloc | apply Kd.R_drewN | apply Kd.R_drew));exact Kd.R_mono ag.out (fun _ hk=>hk.2)⟩,⟨bk_⟩,⟨bk_⟩,⟨bk_⟩,⟨hb_⟩⟩
            case round=>
             clear H';(try clear c5);(try clear c5b0);(try clear c5b1);(try clear c9);(try clear c22b0);(try clear c33b0);(try clear c34);(try clear c34b0);(try clear c34b1);(try clear c35);(try clear c35b0);(try clear c35b1);(try clear c36);(try clear c37);(try clear c37b0);(try clear c38);(try clear c38b0);(try clear c39);(try clear c53b0);(try clear c54);(try clear c54b0);(try clear c54b1);(try clear c55);(try clear c55b0);(try clear c55b1);(try clear bD);(try clear bE);(try clear bH);(try clear bI);(try clear bJ);(try clear bN);(try clear bO);(try clear bS);(try clear bT);(try clear bU);(try clear bF);(try clear bG);(try clear bK);(try clear bL);(try clear bM);(try clear bP);(try clear bQ);(try clear bV);(try clear bW);(try clear bX);(try clear hx410_0);(try clear p410);(try clear q410);obtain⟨aG,ax,rfl,HA,HK4,aK,ai,ag,af,aj,ah,HB⟩:=hrel;cases gk with
             | zero=>exact absurd HA.out (by simp [spec_l04Pivot.l2])
             | succ k4=>
              have H:=HA.out;clear HA;simp only [spec_l04Pivot.l2] at H
              by_cases c58:ax < (ae.length:Int)
              ·rw [if_pos c58] at H;have c58b0:=decide_eq_true c58;clear c58;obtain⟨ji59,hji59⟩: ∃j_:Int,(IntKind.u64.wrap (ak))=j_:=⟨_,rfl⟩
               replace H:(if 0≤(ji59) then(if(Go.bits .and .i64 (shr .i64 a1 (ji59)) 1)=0 then(if 0≤ax then(if ax < (au.length:Int) then(if 0≤ak then(if ak < ((rd_L2 au ax).length:Int) then(if ax < (aG.length:Int) then(spec_l04Pivot.l2 k4 a1 (ae.length:Int) l9 aa ak (aG.set (ax:Int).toNat (rd (rd_L2 au ax) ak)) (wrap64 (ax+1)) au ae (wrap64 (aa*aw)) ay az) else(none)) else(none)) else(none)) else(none)) else(none)) else(spec_l04Pivot.l2 k4 a1 (ae.length:Int) l9 aa ak aG (wrap64 (ax+1)) au ae (wrap64 (aa*aw)) ay az)) else(none))=some (r1,r2,r3,r4):=by first | (rw [hji59] at H;exact H) | (simp only [hji59] at H ⊢;exact H)
               by_cases c60:0≤(ji59)
               ·rw [if_pos c60] at H;have c60b0:=eq_true c60;have c60b1:=decide_eq_true c60;clear c60;obtain⟨ji61,hji61⟩: ∃j_:Int,(shr .i64 a1 (ji59))=j_:=⟨_,rfl⟩
                replace H:(if(Go.bits .and .i64 (ji61) 1)=0 then(if 0≤ax then(if ax < (au.length:Int) then(if 0≤ak then(if ak < ((rd_L2 au ax).length:Int) then(if ax < (aG.length:Int) then(spec_l04Pivot.l2 k4 a1 (ae.length:Int) l9 aa ak (aG.set (ax:Int).toNat (rd (rd_L2 au ax) ak)) (wrap64 (ax+1)) au ae (wrap64 (aa*aw)) ay az) else(none)) else(none)) else(none)) else(none)) else(none)) else(spec_l04Pivot.l2 k4 a1 (ae.length:Int) l9 aa ak aG (wrap64 (ax+1)) au ae (wrap64 (aa*aw)) ay az))=some (r1,r2,r3,r4):=by first | (rw [hji61] at H;exact H) | (simp only [hji61] at H ⊢;exact H)
                have hji61_:(a1 / 2 ^ min (ji59).toNat 64)=ji61:=hji61;have hji61z:(ji59)≤64→(a1 / 2 ^ (ji59).toNat)=ji61:=shr_small hji61
                by_cases c62:(Go.bits .and .i64 (ji61) 1)=0
                ·rw [if_pos c62] at H;have c62b0:=e1_ c62;have c62b1:=e2_ c62;clear c62
                 by_cases c63:0≤ax
                 ·rw [if_pos c63] at H;have c63b0:=decide_eq_true c63;clear c63
                  by_cases c64:ax < (au.length:Int)
                  ·rw [if_pos c64] at H;have c64b0:=decide_eq_true c64;clear c64
                   by_cases c65:0≤ak
                   ·rw [if_pos c65] at H;have c65b0:=decide_eq_true c65;clear c65
                    by_cases c66:ak < ((rd_L2 au ax).length:Int)
                    ·rw [if_pos c66] at H;have c66b0:=decide_eq_true c66;clear c66
                     by_cases c67:ax < (aG.length:Int)
                     ·rw [if_pos c67] at H;have c67b0:=decide_eq_true c67;clear c67;obtain⟨du,hy⟩: ∃y_:List Int,y_=(aG.set (ax:Int).toNat (rd (rd_L2 au ax) ak)):=⟨_,rfl⟩
                      replace H:(spec_l04Pivot.l2 k4 a1 (ae.length:Int) l9 aa ak du (wrap64 (ax+1)) au ae (wrap64 (aa*aw)) ay az)=some (r1,r2,r3,r4):=hh_;have eL:=q_ hy;clear hy;have H':=q_ H;clear H;have gy:=bv.out;have gz:=bw.out;have gA:=aT.out;have gB:=bq.out;have cQ:=cz_ af 0;have cR:=cz_ af 1;have cT:=blk_frozen af.out 0;have cU:=blk_frozen af.out 1;have p417:0≤(ax:Int):=od_;have q417:ax < (au.length:Int):=od_;obtain⟨gC,fN,fO,e417,hx417_0,hl417_0,hi417_0⟩:=at_L2 HR0_0.out ax p417 q417;cases e417
                      replace hx417_0:=(HB.out.cell (World.block_lt_of_cell? w _ hx417_0)).trans hx417_0;have HR417_0:=q_ hi417_0;have HC417_0:=q_ hl417_0;clear hi417_0 hl417_0;replace p417:=eq_true p417;replace q417:=eq_true q417;have p418:0≤(ak:Int):=od_;have q418:ak < ((rd_L2 au ax).length:Int):=od_;obtain⟨gF,e418,hx418_0⟩:=Kd.at_int HR417_0.out ak p418 q418;cases e418
                      replace hx418_0:=(HB.out.cell (World.block_lt_of_cell? w _ hx418_0)).trans hx418_0;replace p418:=eq_true p418;replace q418:=eq_true q418;have p68:0≤(ax:Int):=od_;have q68:(ax:Int) < ((aG.length:Int):Int):=od_;obtain⟨go68,cO,dY,dZ,gl68,cl68,HG68⟩:=Kd.R_form aK.out (by omega)
                      (first | cases dY | (injection dY with ea_ en_ ec_;(first | subst ea_ | (injection ea_ with ea_;subst ea_));subst ec_;clear en_))
                      have GB68:=q_ dZ;have GG68:=q_ HG68;clear dZ gl68 HG68;obtain⟨hx68_0,hf68_0⟩:=Kd.R_celln 0 aK.out (ax:Int) p68 q68;replace p68:=eq_true p68;replace q68:=eq_true q68;have HP72:=Kd.R_putg aK.out (ax:Int) (rd (rd_L2 au ax) ak)
                      go_wp2_with (first | ((with_reducible refine gate_store (t:=2) (p:=96) rfl ?_);refine store_event (t:=2) (p:=96) (v:=?vo_w73) (w1:=(wr.setCell ⟨go68,(ax:Int).toNat,none⟩ (.int .i64 (rd (rd_L2 au ax) ak)))) ?hg ?ho ?hn ?hr ?_;(case ho=>rfl);(case hg=>rfl);(case hn=>rfl);(case hr=>first | (go_simp;done) | (go_simp;rfl));intro w73 hw;have hg:wr.grownBy w73 (some go68):=(by rw [hw];exact HP72.2);have hp_:Kd.R (Kd.int .i64) 2 w73 w.heap.size (fun k_=>some k_≠(aq:Value).ownBlock) (.slice (some ⟨go68,0,none⟩) aG.length cO) du:=(by rw [hw,eL.out];exact HP72.1);clear HP72;replace ai:=q_ (Kd.S_after (v:=(.slice (some ⟨go68,0,none⟩) aG.length cO)) (v1:=(.slice (some ⟨go68,0,none⟩) aG.length cO)) (ok:=(fun k_=>some k_≠(aq:Value).ownBlock)) (by(with_reducible repeat (first | apply Kd.S_alloc | apply Kd.S_drewN | apply Kd.S_drew));exact Kd.S_mono ai.out (fun _ hk=>⟨hk.2,hk.1⟩)) hg (.inl rfl));replace ag:=q_ (Kd.R_after (v:=(.slice (some ⟨go68,0,none⟩) aG.length cO)) (v1:=(.slice (some ⟨go68,0,none⟩) aG.length cO)) (ok:=(fun _=>True)) (by(with_reducible repeat (first | apply Kd.R_alloc | apply Kd.R_drewN | apply Kd.R_drew));exact Kd.R_mono ag.out (fun _ hk=>⟨trivial,hk⟩)) hg (.inl rfl));replace af:=q_ (bg_ af.out hg (Kd.R_ne aK.out af.out (by decide)));replace aj:=q_ (bg_ aj.out hg (Kd.R_ne aK.out aj.out (by decide)));replace ah:=q_ (bg_ ah.out hg (Kd.R_ne aK.out ah.out (by decide)));replace HB:=q_ ((by rw [hw];exact below_set (HB.out) GB68.out:Below w.heap.size w w73));replace aK:=q_ (hp_);clear hg hw hp_))
                      go_roundg k4
                      case measure=>have:=HJ13.out;have:=HK2.out;have:=HK3.out;have:=HK4.out;omega
                      case rel=>exact⟨(du),(wrap64 (ax+1)),rs_,H',⟨by have:=HJ13.out;have:=HK2.out;have:=HK3.out;have:=HK4.out;omega⟩,⟨ro_ aK.out⟩,⟨by(with_reducible repeat (first | apply Kd.S_alloc | apply Kd.S_drewN | apply Kd.S_drew));exact Kd.S_mono ai.out (fun _ hk=>⟨hk.2,hk.1⟩)⟩,⟨by(with_reducible repeat (first | apply Kd.R_alloc | apply Kd.R_drewN | apply Kd.R_drew));exact Kd.R_mono ag.out (fun _ hk=>hk.2)⟩,⟨bk_⟩,⟨bk_⟩,⟨bk_⟩,⟨hb_⟩⟩
                     ·rw [if_neg c67] at H;exact absurd H (by simp)
                    ·rw [if_neg c66] at H;exact absurd H (by simp)
                   ·rw [if_neg c65] at H;exact absurd H (by simp)
                  ·rw [if_neg c64] at H;exact absurd H (by simp)
                 ·rw [if_neg c63] at H;exact absurd H (by simp)
                ·rw [if_neg c62] at H;have c62b0:=e3_ c62;have c62b1:=e4_ c62;have H':=q_ H;clear H;go_wp2
                 go_roundg k4
                 case measure=>have:=HJ13.out;have:=HK2.out;have:=HK3.out;have:=HK4.out;omega
                 case rel=>exact⟨(aG),(wrap64 (ax+1)),rs_,H',⟨by have:=HJ13.out;have:=HK2.out;have:=HK3.out;have:=HK4.out;omega⟩,⟨ro_ aK.out⟩,⟨so_ ai.out⟩,⟨ro_ ag.out⟩,⟨bk_⟩,⟨bk_⟩,⟨bk_⟩,⟨hb_⟩⟩
               ·rw [if_neg c60] at H;exact absurd H (by simp)
              ·rw [if_neg c58] at H;have c58b0:=decide_eq_false c58;clear c58;(try clear hji59);obtain⟨ji74,hji74⟩: ∃j_:Int,(IntKind.u64.wrap (ak))=j_:=⟨_,rfl⟩
               replace H:(if 0≤(ji74) then(if(Go.bits .and .i64 (shr .i64 a1 (ji74)) 1)=1 then(if 0≤ak then(if ak < (aG.length:Int) then(spec_l04Pivot.j4 k4 a1 (ae.length:Int) l9 aa ak (aG.set (ak:Int).toNat (-1)) au ae (wrap64 (aa*aw)) ay az) else(none)) else(none)) else(spec_l04Pivot.j4 k4 a1 (ae.length:Int) l9 aa ak aG au ae (wrap64 (aa*aw)) ay az)) else(none))=some (r1,r2,r3,r4):=by first | (rw [hji74] at H;exact H) | (simp only [hji74] at H ⊢;exact H)
               by_cases c75:0≤(ji74)
               ·rw [if_pos c75] at H;have c75b0:=eq_true c75;have c75b1:=decide_eq_true c75;clear c75;obtain⟨ji76,hji76⟩: ∃j_:Int,(shr .i64 a1 (ji74))=j_:=⟨_,rfl⟩
                replace H:(if(Go.bits .and .i64 (ji76) 1)=1 then(if 0≤ak then(if ak < (aG.length:Int) then(spec_l04Pivot.j4 k4 a1 (ae.length:Int) l9 aa ak (aG.set (ak:Int).toNat (-1)) au ae (wrap64 (aa*aw)) ay az) else(none)) else(none)) else(spec_l04Pivot.j4 k4 a1 (ae.length:Int) l9 aa ak aG au ae (wrap64 (aa*aw)) ay az))=some (r1,r2,r3,r4):=by first | (rw [hji76] at H;exact H) | (simp only [hji76] at H ⊢;exact H)
                have hji76_:(a1 / 2 ^ min (ji74).toNat 64)=ji76:=hji76;have hji76z:(ji74)≤64→(a1 / 2 ^ (ji74).toNat)=ji76:=shr_small hji76;have HC77:=q_ H;clear H
                go_upto_if 102 with (fail)
                go_cut [] (fun wc=> ∃(kq:Nat) (cf:List Int),Aside0 (spec_l04Pivot.j4 kq a1 (ae.length:Int) l9 aa ak cf au ae (wrap64 (aa*aw)) ay az=some (r1,r2,r3,r4))∧Aside0 (kq≤k4)∧Aside0 (Kd.R (Kd.int .i64) 2 wc w.heap.size (fun k_=>some k_≠(aq:Value).ownBlock) cE cf)∧Aside0 (Kd.S (Kd.slice 2 (Kd.int .i64)) 25 wc w.heap.size (fun k_=>some k_≠(cE:Value).ownBlock∧some k_≠(aq:Value).ownBlock) aC ay)∧Aside0 (Kd.R (Kd.int .i64) 2 wc w.heap.size (fun k_=>some k_≠(cE:Value).ownBlock) aq az)∧Aside0 (wc.heap[aI]?=some (.cells #[(.slice aW au.length aZ),(.slice aX ae.length a9)] 27 (0,0)))∧Aside0 (wc.heap[aH]?=some (.cells #[.int .i64 0,(.slice none 0 0),(.slice none 0 0)] 49 (0,0)))∧Aside0 (wc.heap[av]?=some (.cells #[.int .i64 (wrap64 (aa*aw)),aC,aq] 49 (0,0)))∧Aside0 (Below w.heap.size w wc))
                case first=>
                 have H:=HC77.out;clear HC77
                 by_cases c78:(Go.bits .and .i64 (ji76) 1)=1
                 ·rw [if_pos c78] at H;have c78b0:=e1_ c78;have c78b1:=e2_ c78;clear c78
                  (first | rw [c78b0] | (simp only [i64_w,i32_w];rw [c78b0]) | skip)
                  by_cases c79:0≤ak
                  ·rw [if_pos c79] at H;have c79b0:=decide_eq_true c79;clear c79
                   by_cases c80:ak < (aG.length:Int)
                   ·rw [if_pos c80] at H;have c80b0:=decide_eq_true c80;clear c80;obtain⟨dw,hy⟩: ∃y_:List Int,y_=(aG.set (ak:Int).toNat (-1)):=⟨_,rfl⟩
                    replace H:(spec_l04Pivot.j4 k4 a1 (ae.length:Int) l9 aa ak dw au ae (wrap64 (aa*aw)) ay az)=some (r1,r2,r3,r4):=hh_;have eM:=q_ hy;clear hy;have H':=q_ H;clear H;have p81:0≤(ak:Int):=od_;have q81:(ak:Int) < ((aG.length:Int):Int):=od_;obtain⟨go81,cP,d9,ed,gl81,cl81,HG81⟩:=Kd.R_form aK.out (by omega)
                    (first | cases d9 | (injection d9 with ea_ en_ ec_;(first | subst ea_ | (injection ea_ with ea_;subst ea_));subst ec_;clear en_))
                    have GB81:=q_ ed;have GG81:=q_ HG81;clear ed gl81 HG81;obtain⟨hx81_0,hf81_0⟩:=Kd.R_celln 0 aK.out (ak:Int) p81 q81;replace p81:=eq_true p81;replace q81:=eq_true q81;have HP82:=Kd.R_putg aK.out (ak:Int) (-1)
                    go_wp2_with (first | ((with_reducible refine gate_store (t:=2) (p:=105) rfl ?_);refine store_event (t:=2) (p:=105) (v:=?vo_w83) (w1:=(wr.setCell ⟨go81,(ak:Int).toNat,none⟩ (.int .i64 (-1)))) ?hg ?ho ?hn ?hr ?_;(case ho=>rfl);(case hg=>rfl);(case hn=>rfl);(case hr=>first | (go_simp;done) | (go_simp;rfl));intro w83 hw;have hg:wr.grownBy w83 (some go81):=(by rw [hw];exact HP82.2);have hp_:Kd.R (Kd.int .i64) 2 w83 w.heap.size (fun k_=>some k_≠(aq:Value).ownBlock) (.slice (some ⟨go81,0,none⟩) aG.length cP) dw:=(by rw [hw,eM.out];exact HP82.1);clear HP82;replace ai:=q_ (Kd.S_after (v:=(.slice (some ⟨go81,0,none⟩) aG.length cP)) (v1:=(.slice (some ⟨go81,0,none⟩) aG.length cP)) (ok:=(fun k_=>some k_≠(aq:Value).ownBlock)) (by(with_reducible repeat (first | apply Kd.S_alloc | apply Kd.S_drewN | apply Kd.S_drew));exact Kd.S_mono ai.out (fun _ hk=>⟨hk.2,hk.1⟩)) hg (.inl rfl));replace ag:=q_ (Kd.R_after (v:=(.slice (some ⟨go81,0,none⟩) aG.length cP)) (v1:=(.slice (some ⟨go81,0,none⟩) aG.length cP)) (ok:=(fun _=>True)) (by(with_reducible repeat (first | apply Kd.R_alloc | apply Kd.R_drewN | apply Kd.R_drew));exact Kd.R_mono ag.out (fun _ hk=>⟨trivial,hk⟩)) hg (.inl rfl));replace af:=q_ (bg_ af.out hg (Kd.R_ne aK.out af.out (by decide)));replace aj:=q_ (bg_ aj.out hg (Kd.R_ne aK.out aj.out (by decide)));replace ah:=q_ (bg_ ah.out hg (Kd.R_ne aK.out ah.out (by decide)));replace HB:=q_ ((by rw [hw];exact below_set (HB.out) GB81.out:Below w.heap.size w w83));replace aK:=q_ (hp_);clear hg hw hp_))
                    go_meet
                    case rel=>exact⟨_,(dw),H',⟨by have:=HJ13.out;have:=HK2.out;have:=HK3.out;have:=HK4.out;first | omega | exact Nat.le_refl _⟩,⟨ro_ aK.out⟩,⟨by(with_reducible repeat (first | apply Kd.S_alloc | apply Kd.S_drewN | apply Kd.S_drew));exact Kd.S_mono ai.out (fun _ hk=>⟨hk.2,hk.1⟩)⟩,⟨by(with_reducible repeat (first | apply Kd.R_alloc | apply Kd.R_drewN | apply Kd.R_drew));exact Kd.R_mono ag.out (fun _ hk=>hk.2)⟩,⟨bk_⟩,⟨bk_⟩,⟨bk_⟩,⟨hb_⟩⟩
                   ·rw [if_neg c80] at H;exact absurd H (by simp)
                  ·rw [if_neg c79] at H;exact absurd H (by simp)
                 ·rw [if_neg c78] at H;have c78b0:=e3_ c78;have c78b1:=e4_ c78
                  (first | rw [c78b0] | (simp only [i64_w,i32_w];rw [c78b0]) | skip)
                  have H':=q_ H;clear H;go_wp2
                  go_meet
                  case rel=>exact⟨_,(aG),H',⟨by have:=HJ13.out;have:=HK2.out;have:=HK3.out;have:=HK4.out;first | omega | exact Nat.le_refl _⟩,⟨ro_ aK.out⟩,⟨so_ ai.out⟩,⟨ro_ ag.out⟩,⟨bk_⟩,⟨bk_⟩,⟨bk_⟩,⟨hb_⟩⟩
                case rest=>
                 clear HC77;(try clear c5);(try clear c5b0);(try clear c5b1);(try clear c9);(try clear c22b0);(try clear c33b0);(try clear c34);(try clear c34b0);(try clear c34b1);(try clear c35);(try clear c35b0);(try clear c35b1);(try clear c36);(try clear c37);(try clear c37b0);(try clear c38);(try clear c38b0);(try clear c39);(try clear c53b0);(try clear c54);(try clear c54b0);(try clear c54b1);(try clear c55);(try clear c55b0);(try clear c55b1);(try clear c58b0);(try clear c60);(try clear c60b0);(try clear c60b1);(try clear c62);(try clear c62b0);(try clear c62b1);(try clear c63);(try clear c63b0);(try clear c64);(try clear c64b0);(try clear c65);(try clear c65b0);(try clear c66);(try clear c66b0);(try clear c67);(try clear c67b0);(try clear p68);(try clear q68);(try clear c75);(try clear c75b0);(try clear c75b1);(try clear c78);(try clear c78b0);(try clear c78b1);(try clear c79);(try clear c79b0);(try clear c80);(try clear c80b0);(try clear p81);(try clear q81);(try clear bD);(try clear bE);(try clear bH);(try clear bI);(try clear bJ);(try clear bN);(try clear bO);(try clear bS);(try clear bT);(try clear bU);(try clear cQ);(try clear cR);(try clear bF);(try clear bG);(try clear bK);(try clear bL);(try clear bM);(try clear bP);(try clear bQ);(try clear bV);(try clear bW);(try clear bX);(try clear cT);(try clear cU);(try clear hx410_0);(try clear hx417_0);(try clear hx418_0);(try clear hx68_0);(try clear hx81_0);(try clear p410);(try clear p417);(try clear p418);(try clear p68);(try clear p81);(try clear q410);(try clear q417);(try clear q418);(try clear q68);(try clear q81);obtain⟨kq,cf,HA,HJ76,aK,ai,ag,af,aj,ah,HB⟩:=hcut;cases kq with
                 | zero=>exact absurd HA.out (by simp [spec_l04Pivot.j4])
                 | succ kj76=>
                  have H:=HA.out;clear HA;simp only [spec_l04Pivot.j4] at H;replace H:=Option.bind_eq_some_iff.mp H;obtain⟨⟨dx,eY⟩,A840,H⟩:=H;replace H:(spec_l04Pivot.l3 kj76 a1 (ae.length:Int) l9 aa ak dx 0 au ae (wrap64 (aa*aw)) ay az)=some (r1,r2,r3,r4):=H;have A84:=q_ A840;clear A840;have H':=q_ H;clear H;obtain⟨eZ,fa,fc⟩:=Kd.R_slice aK.out;subst fc
                  go_wp2_with (first | ((with_reducible refine gate_callee (f:=74) rfl ?_);refine gL_ 109 Try.func74 #[.slice A9 l9.length c9, .slice eZ cf.length fa] ?_;(with_reducible refine(spec_l01Solve.calls kj76 _ _ l9 _ _ cf dx eY _ ?bA ?bC ?cz ?cA A84.out).mono ?_);(case bA=>exact cb_ HR9.out HB.out);(case bC=>exact HC9.out);(case cz=>repeat (first | exact(Kd.R_reads' aK.out).2.2 | (with_reducible refine Kd.C_alloc ?_ _) | (with_reducible refine Kd.C_drewN ?_ _) | (with_reducible refine Kd.C_drew ?_)));(case cA=>exact(Kd.R_reads' aK.out).2.1);rintro e w86 ⟨dz,rfl,ho0,hb⟩;refine⟨_,rfl,?_⟩;replace ai:=q_ (Kd.S_elder' (so_ ai.out) (Kd.R_base ho0) hb);have eO:=q_ (Kd.R_lower (Kd.R_new' (Kd.R_new' ho0 (Kd.R_lt (ro_ aK.out))) (Kd.R_lt (ro_ ag.out))) bz_);replace af:=q_ (bb_ af.out hb);replace aj:=q_ (bb_ aj.out hb);replace ah:=q_ (bb_ ah.out hb);replace aK:=q_ (Kd.R_elder' (ro_ aK.out) (Kd.R_base ho0) hb);replace ag:=q_ (Kd.R_elder' (ro_ ag.out) (Kd.R_base ho0) hb);replace HB:=q_ (bs_ hb);(try clear hb);(try clear hk);(try clear ho0)))
                  go_loopg [18] kj76 (fun kq v18 w'=> ∃(bg:List Int) (aA:Int) (aD:List (List Int)) (ba:List Int) (aC:Value) (aq:Value),v18= .int .i64 aA∧Aside0 (spec_l04Pivot.l3 kq a1 (ae.length:Int) l9 aa ak bg aA au ae (wrap64 (aa*aw)) aD ba=some (r1,r2,r3,r4))∧Aside0 (kq≤kj76)∧Aside0 (Kd.R (Kd.int .i64) 2 w' w.heap.size (fun k_=>some k_≠(aq:Value).ownBlock) dz bg)∧Aside0 (Kd.S (Kd.slice 2 (Kd.int .i64)) 25 w' w.heap.size (fun k_=>some k_≠(dz:Value).ownBlock∧some k_≠(aq:Value).ownBlock) aC aD)∧Aside0 (Kd.R (Kd.int .i64) 2 w' w.heap.size (fun k_=>some k_≠(dz:Value).ownBlock) aq ba)∧Aside0 (w'.heap[aI]?=some (.cells #[(.slice aW au.length aZ),(.slice aX ae.length a9)] 27 (0,0)))∧Aside0 (w'.heap[aH]?=some (.cells #[.int .i64 0,(.slice none 0 0),(.slice none 0 0)] 49 (0,0)))∧Aside0 (w'.heap[av]?=some (.cells #[.int .i64 (wrap64 (aa*aw)),aC,aq] 49 (0,0)))∧Aside0 (Below w.heap.size w w'))
                  case atStart=>exact⟨(dx),(0),(ay),(az),(aC),(aq),rs_,H',⟨Nat.le_refl _⟩,⟨by(with_reducible repeat (first | apply Kd.R_alloc | apply Kd.R_drewN | apply Kd.R_drew));exact Kd.R_mono eO.out (fun _ hk=>hk.2)⟩,⟨by(with_reducible repeat (first | apply Kd.S_alloc | apply Kd.S_drewN | apply Kd.S_drew));exact Kd.S_mono ai.out (fun _ hk=>⟨hk.2,hk.1.2⟩)⟩,⟨by(with_reducible repeat (first | apply Kd.R_alloc | apply Kd.R_drewN | apply Kd.R_drew));exact Kd.R_mono ag.out (fun _ hk=>hk.2)⟩,⟨bk_⟩,⟨bk_⟩,⟨bk_⟩,⟨hb_⟩⟩
                  case round=>
                   clear H';(try clear c5);(try clear c5b0);(try clear c5b1);(try clear c9);(try clear c22b0);(try clear c33b0);(try clear c34);(try clear c34b0);(try clear c34b1);(try clear c35);(try clear c35b0);(try clear c35b1);(try clear c36);(try clear c37);(try clear c37b0);(try clear c38);(try clear c38b0);(try clear c39);(try clear c53b0);(try clear c54);(try clear c54b0);(try clear c54b1);(try clear c55);(try clear c55b0);(try clear c55b1);(try clear c58b0);(try clear c60);(try clear c60b0);(try clear c60b1);(try clear c62);(try clear c62b0);(try clear c62b1);(try clear c63);(try clear c63b0);(try clear c64);(try clear c64b0);(try clear c65);(try clear c65b0);(try clear c66);(try clear c66b0);(try clear c67);(try clear c67b0);(try clear p68);(try clear q68);(try clear c75);(try clear c75b0);(try clear c75b1);(try clear c78);(try clear c78b0);(try clear c78b1);(try clear c79);(try clear c79b0);(try clear c80);(try clear c80b0);(try clear p81);(try clear q81);(try clear bD);(try clear bE);(try clear bH);(try clear bI);(try clear bJ);(try clear bN);(try clear bO);(try clear bS);(try clear bT);(try clear bU);(try clear cQ);(try clear cR);(try clear bF);(try clear bG);(try clear bK);(try clear bL);(try clear bM);(try clear bP);(try clear bQ);(try clear bV);(try clear bW);(try clear bX);(try clear cT);(try clear cU);(try clear hx410_0);(try clear hx417_0);(try clear hx418_0);(try clear hx68_0);(try clear hx81_0);(try clear p410);(try clear p417);(try clear p418);(try clear p68);(try clear p81);(try clear q410);(try clear q417);(try clear q418);(try clear q68);(try clear q81);obtain⟨bg,aA,aD,ba,aC,aq,rfl,HA,HK6,cB,ai,ag,af,aj,ah,HB⟩:=hrel;cases gk with
                   | zero=>exact absurd HA.out (by simp [spec_l04Pivot.l3])
                   | succ k6=>
                    have H:=HA.out;clear HA;simp only [spec_l04Pivot.l3] at H
                    by_cases c87:aA < (ae.length:Int)
                    ·rw [if_pos c87] at H;have c87b0:=decide_eq_true c87;clear c87
                     by_cases c88:0≤aA
                     ·rw [if_pos c88] at H;have c88b0:=decide_eq_true c88;clear c88
                      by_cases c89:aA < (aD.length:Int)
                      ·rw [if_pos c89] at H;have c89b0:=decide_eq_true c89;clear c89
                       by_cases c90:aA < (bg.length:Int)
                       ·rw [if_pos c90] at H;have c90b0:=decide_eq_true c90;clear c90
                        by_cases c91:0≤ak
                        ·rw [if_pos c91] at H;have c91b0:=decide_eq_true c91;clear c91
                         by_cases c92:ak < ((rd_L2 aD aA).length:Int)
                         ·rw [if_pos c92] at H;have c92b0:=decide_eq_true c92;clear c92;obtain⟨dA,hy⟩: ∃y_:List Int,y_=((rd_L2 aD aA).set (ak:Int).toNat (wrap64 (aa*(rd bg aA)))):=⟨_,rfl⟩
                          replace H:(spec_l04Pivot.l3 k6 a1 (ae.length:Int) l9 aa ak bg (wrap64 (aA+1)) au ae (wrap64 (aa*aw)) (aD.set (aA:Int).toNat dA) ba)=some (r1,r2,r3,r4):=hh_;have eP:=q_ hy;clear hy;obtain⟨dB,hy⟩: ∃y_:List (List Int),y_=(aD.set (aA:Int).toNat dA):=⟨_,rfl⟩
                          replace H:(spec_l04Pivot.l3 k6 a1 (ae.length:Int) l9 aa ak bg (wrap64 (aA+1)) au ae (wrap64 (aa*aw)) dB ba)=some (r1,r2,r3,r4):=hh_;have eQ:=q_ hy;clear hy;have H':=q_ H;clear H;have gG:=bq.out;have gH:=aT.out;have gI:=bz.out;have gJ:=aU.out;have fH:=cz_ ah 0;have fI:=cz_ ah 1;have fJ:=cz_ ah 2;have fK:=blk_frozen ah.out 0;have fL:=blk_frozen ah.out 1;have fM:=blk_frozen ah.out 2;obtain⟨gQ,ek,fg⟩:=Kd.S_slice ai.out;subst fg;have p425:0≤(aA:Int):=od_;have q425:aA < (aD.length:Int):=od_;obtain⟨dL,fP,ep,e425,hx425_0,hl425_0,hi425_0⟩:=at_L2 (Kd.S_reads' ai.out).2.2 aA p425 q425;cases e425
                          obtain⟨ce425,hce425,hMe425,hcc425⟩:=Kd.S_get ai.out [] aA p425 (by first | exact q425 | exact od_ | (have e_:=(Kd.S_reads' ai.out).1;omega));obtain⟨ve425_0,rfl,ge425_0⟩:=hMe425;have hv425_0:=hcc425 0 _ rfl;rw [Nat.add_zero,show ((Kd.slice 2 (Kd.int .i64))).sz=1 from rfl,Nat.mul_one] at hv425_0;replace hv425_0:=Option.some.inj (hv425_0.symm.trans hx425_0);rw [hv425_0] at ge425_0;have HL425_0:=q_ (show Kd.R (Kd.int .i64) 2 _ _ _ _ (rd_L2 aD aA) from ge425_0);clear hv425_0 ge425_0;have HX425_0:=q_ hx425_0;clear hcc425 hce425;have HR425_0:=q_ hi425_0;have HC425_0:=q_ hl425_0;clear hi425_0 hl425_0;replace p425:=eq_true p425;replace q425:=eq_true q425;obtain⟨gR,fj,fk⟩:=Kd.R_slice cB.out;subst fk;have p426:0≤(aA:Int):=od_;have q426:aA < (bg.length:Int):=od_;obtain⟨eS,e426,hx426_0⟩:=Kd.at_int (Kd.R_reads' cB.out).2.2 aA p426 q426;cases e426
                          replace p426:=eq_true p426;replace q426:=eq_true q426;have p93:0≤(ak:Int):=od_;have q93:(ak:Int) < (((rd_L2 aD aA).length:Int):Int):=od_;obtain⟨go93,gS,eu,ez,gl93,cl93,HG93⟩:=Kd.R_form HL425_0.out (by omega)
                          (first | cases eu | (injection eu with ea_ en_ ec_;(first | subst ea_ | (injection ea_ with ea_;subst ea_));subst ec_;clear en_))
                          have GB93:=q_ ez;have GG93:=q_ HG93;clear ez gl93 HG93;obtain⟨hx93_0,hf93_0⟩:=Kd.R_celln 0 HL425_0.out (ak:Int) p93 q93;replace p93:=eq_true p93;replace q93:=eq_true q93;have hq99:(aA:Int) < (aD.length:Int):=(by have h_:(aA:Int) < ((aD.length:Int):Int):=od_;first | exact h_ | (have e_:=(Kd.S_reads' ai.out).1;omega) | simpa only [List.length_set,List.length_set] using h_)
                          obtain⟨oki99,ce99,hcl99,hM99,hcc99,hok99,hbk99⟩:=Kd.S_borrow ai.out [] (aA:Int) od_ hq99;obtain⟨ve99_0,rfl,ge99_0⟩:=hM99;have hv99:=hcc99 0 _ rfl;rw [Nat.add_zero,show ((Kd.slice 2 (Kd.int .i64))).sz=1 from rfl,Nat.mul_one] at hv99;replace hv99:=Option.some.inj (hv99.symm.trans HX425_0.out);subst hv99;clear hcc99 hcl99;replace ge99_0:=(show Kd.R (Kd.int .i64) 2 _ _ _ _ (rd_L2 aD aA) from ge99_0)
                          have HP99:=Kd.R_putg ge99_0 (ak:Int) (wrap64 (aa*(rd bg aA)))
                          go_wp2_with (first | ((with_reducible refine gate_store (t:=2) (p:=130) rfl ?_);refine store_event (t:=2) (p:=130) (v:=?vo_w100) (w1:=(wr.setCell ⟨go93,(ak:Int).toNat,none⟩ (.int .i64 (wrap64 (aa*(rd bg aA)))))) ?hg ?ho ?hn ?hr ?_;(case ho=>rfl);(case hg=>rfl);(case hn=>rfl);(case hr=>first | (go_simp;done) | (go_simp;rfl));intro w100 hw;have hg:wr.grownBy w100 (some go93):=(by rw [hw];exact HP99.2);have hz_:Kd.R (Kd.int .i64) 2 w100 w.heap.size oki99 (.slice (some ⟨go93,0,none⟩) (rd_L2 aD aA).length ep) dA:=(by rw [hw,eP.out];exact HP99.1);have hp_:Kd.S (Kd.slice 2 (Kd.int .i64)) 25 w100 w.heap.size (fun k_=>some k_≠(.slice (some eS) bg.length fj:Value).ownBlock∧some k_≠(aq:Value).ownBlock) (.slice (some dL) aD.length ek) dB:=(by rw [eQ.out];exact hbk99 hg (fun k_ e_=>by injection e_ with e_;subst e_;exact ge99_0.1 _ rfl) (Kd.M_row hz_));have hm_:=Kd.R_mono hz_ hok99;clear HP99 hbk99;replace cB:=q_ (Kd.R_grown1 (ro_ cB.out) rfl hg ((HL425_0.out.1 _ rfl).1.1));replace ai:=q_ (hp_);replace ag:=q_ (Kd.R_grown1 (ro_ ag.out) rfl hg ((HL425_0.out.1 _ rfl).1.2));replace af:=q_ (bg_ af.out hg (Kd.R_ne HL425_0.out af.out (by decide)));replace aj:=q_ (bg_ aj.out hg (Kd.R_ne HL425_0.out aj.out (by decide)));replace ah:=q_ (bg_ ah.out hg (Kd.R_ne HL425_0.out ah.out (by decide)));replace HB:=q_ ((by rw [hw];exact below_set (HB.out) GB93.out:Below w.heap.size w w100));have HL430:=q_ (hm_);have HC428:=q_ ((Kd.R_reads' hm_).2.1);clear HL425_0 hg hw hp_ hz_ hm_ hok99))
                          go_roundg k6
                          case measure=>have:=HJ13.out;have:=HK2.out;have:=HK3.out;have:=HK4.out;have:=HJ76.out;have:=HK6.out;omega
                          case rel=>exact⟨(bg),(wrap64 (aA+1)),(dB),(ba),(.slice (some dL) aD.length ek),(aq),rs_,H',⟨by have:=HJ13.out;have:=HK2.out;have:=HK3.out;have:=HK4.out;have:=HJ76.out;have:=HK6.out;omega⟩,⟨ro_ cB.out⟩,⟨so_ ai.out⟩,⟨ro_ ag.out⟩,⟨bk_⟩,⟨bk_⟩,⟨bk_⟩,⟨hb_⟩⟩
                         ·rw [if_neg c92] at H;exact absurd H (by simp)
                        ·rw [if_neg c91] at H;exact absurd H (by simp)
                       ·rw [if_neg c90] at H;exact absurd H (by simp)
                      ·rw [if_neg c89] at H;exact absurd H (by simp)
                     ·rw [if_neg c88] at H;exact absurd H (by simp)
                    ·rw [if_neg c87] at H;have c87b0:=decide_eq_false c87;clear c87;have H':=q_ H;clear H;go_wp2
                     go_roundg k6
                     case measure=>have:=HJ13.out;have:=HK2.out;have:=HK3.out;have:=HK4.out;have:=HJ76.out;have:=HK6.out;omega
                     case rel=>exact⟨(wrap64 (ak+1)),(aD),(ba),(aC),(aq),rs_,H',⟨by have:=HJ13.out;have:=HK2.out;have:=HK3.out;have:=HK4.out;have:=HJ76.out;have:=HK6.out;omega⟩,⟨by(with_reducible repeat (first | apply Kd.S_alloc | apply Kd.S_drewN | apply Kd.S_drew));exact Kd.S_mono ai.out (fun _ hk=>hk.2)⟩,⟨by(with_reducible repeat (first | apply Kd.R_alloc | apply Kd.R_drewN | apply Kd.R_drew));exact Kd.R_mono ag.out (fun _ hk=>trivial)⟩,⟨bk_⟩,⟨bk_⟩,⟨bk_⟩,⟨hb_⟩⟩
               ·rw [if_neg c75] at H;exact absurd H (by simp)
           ·rw [if_neg c55] at H;exact absurd H (by simp)
          ·rw [if_neg c54] at H;exact absurd H (by simp)
         ·rw [if_neg c53] at H;have c53b0:=decide_eq_false c53;clear c53;simp only [Option.some.injEq,Prod.mk.injEq] at H;obtain⟨rfl,rfl,rfl,rfl⟩:=H;have fQ:=bq.out;have fT:=aT.out;have fU:=bz.out;have fV:=aU.out;have fo:=cz_ ah 0;have fp:=cz_ ah 1;have fq:=cz_ ah 2;have fu:=blk_frozen ah.out 0;have fw:=blk_frozen ah.out 1;have fA:=blk_frozen ah.out 2;have fW:=bw.out;have fZ:=bv.out;have fB:=cz_ aj 0;have fC:=cz_ aj 1;have fD:=cz_ aj 2;have fE:=blk_frozen aj.out 0;have fF:=blk_frozen aj.out 1;have fG:=blk_frozen aj.out 2;obtain⟨cH,cI,eU⟩:=Kd.S_slice ai.out;subst eU;obtain⟨dl,dr,eV⟩:=Kd.R_slice ag.out;subst eV;go_wp2
          have HB:=q_ (below_step HBo.out HB.out);have ag:=q_ (Kd.R_lower ag.out (below_size HBo.out));have ai:=q_ (Kd.S_lower ai.out (below_size HBo.out));refine bodyPost_ret (results_ct rfl _ _ aH 49 #[.int .i64 (wrap64 (aa*aw)), .slice cH ay.length cI, .slice dl az.length dr] (0,0) _ rfl (by(with_reducible repeat (first | refine blk_drewN ?_ _ | refine blk_drew ?_ | refine blk_alloc ?_ _));refine blk_put (cs:= #[.int .i64 (wrap64 (aa*aw)), .slice cH ay.length cI, .slice none 0 0]) ?_ 2 _ rfl;(with_reducible repeat (first | refine blk_drewN ?_ _ | refine blk_drew ?_ | refine blk_alloc ?_ _));refine blk_put (cs:= #[.int .i64 (wrap64 (aa*aw)), .slice none 0 0, .slice none 0 0]) ?_ 1 _ rfl;(with_reducible repeat (first | refine blk_drewN ?_ _ | refine blk_drew ?_ | refine blk_alloc ?_ _));refine blk_put (cs:= #[.int .i64 0, .slice none 0 0, .slice none 0 0]) ?_ 0 _ rfl;(with_reducible repeat (first | refine blk_drewN ?_ _ | refine blk_drew ?_ | refine blk_alloc ?_ _));exact aj.out) Try.underlying49 rfl (by kernel_rfl)) rfl ?_
          exact⟨_,_,by first | rfl | (simp [errW_none,errW_some] <;> rfl) | (simp [*,errW_none,errW_some] <;> rfl),by(with_reducible repeat (first | apply Kd.S_alloc | apply Kd.S_drewN | apply Kd.S_drew));exact Kd.S_mono (Kd.S_far (p:=⟨aH,2,none⟩) (Kd.S_far (p:=⟨aH,1,none⟩) (Kd.S_far (p:=⟨aH,0,none⟩) (Kd.S_types ai.out aj.out (by decide)) (fun _ hk=>hk.2) (.int .i64 (wrap64 (aa*aw)))) (fun _ hk=>hk.2) (.slice cH ay.length cI)) (fun _ hk=>hk.2) (.slice dl az.length dr)) (fun _ hk=>hk.1),by(with_reducible repeat (first | apply Kd.R_alloc | apply Kd.R_drewN | apply Kd.R_drew));exact Kd.R_mono (Kd.R_far (p:=⟨aH,2,none⟩) (Kd.R_far (p:=⟨aH,1,none⟩) (Kd.R_far (p:=⟨aH,0,none⟩) (Kd.R_types ag.out aj.out (by decide)) (fun _ hk=>hk.2) (.int .i64 (wrap64 (aa*aw)))) (fun _ hk=>hk.2) (.slice cH ay.length cI)) (fun _ hk=>hk.2) (.slice dl az.length dr)) (fun _ hk=>trivial),hb_⟩
end Go.Proofs.Ytbjljcpngbhkeaa.Pr
end
section
namespace Go.Proofs.Ytbjljcpngbhkeaa.Pp
open Go.RowKit Go.Proofs.YtbjljcpngbhkeaaW.PrintWords Go.Proofs.YtbjljcpngbhkeaaW.PrintMore Go.Proofs.Ytbjljcpngbhkeaa.Ma Go.Proofs.Ytbjljcpngbhkeaa.Pr Go.Proofs.Ytbjljcpngbhkeaa.Dt Go.Proofs.Ytbjljcpngbhkeaa.Bz Go.Proofs.Ytbjljcpngbhkeaa.Un Go.Proofs.Ytbjljcpngbhkeaa.Cz Go.Proofs.Ytbjljcpngbhkeaa.Pb Go.Proofs.Ytbjljcpngbhkeaa.Mn Go.Proofs.Ytbjljcpngbhkeaa.Sv Go.Proofs.Ytbjljcpngbhkeaa.Pv
def cW (s:Int) (M:Mat) (j:Nat) (i:Nat):Int:=if bB s j then(if i=j then 1 else 0) else - M i j
def Cm (s:Int) (l:List (List Int)):Mat:=colM (bB s) (en l)
def pvl (n:Nat) (l:List (List Int)) (s:Int) (j:Nat):List Int:=(List.range n).map fun i=>sgn (det n (Cm s l))*dc n (Cm s l) (rw1 n (cW s (en l) j)) i
def ab (d:Int):Int:=if d < 0 then - d else d
def pvS (n:Nat) (l:List (List Int)) (s:Int) (x:List Int):List Int:=(List.range n).map fun i=>sgn (det n (Cm s l))*dc n (Cm s l) x i
def Zr (n:Nat):List (List Int):=List.replicate n (List.replicate n 0)
def pvR (n:Nat) (l:List (List Int)) (s:Int):List (List Int):=pR (Zr n) (pvl n l s) n n 0
def pvA (n:Nat) (l:List (List Int)) (s:Int) (x:List Int):Int × List (List Int) × List Int × Bool:=if det n (Cm s l)=0 then(0, [], [],false) else(ab (det n (Cm s l)),pvR n l s,pvS n l s x,true)
theorem pR_full (l l':List (List Int)) (cs:Nat→List Int) (n:Nat):pR l cs n n 0=pR l' cs n n 0:=by
 unfold pR
 refine List.map_congr_left (fun r _=>List.map_congr_left (fun c hc=>?_))
 unfold pE
 rw [if_pos (.inl (List.mem_range.1 hc)),if_pos (.inl (List.mem_range.1 hc))]
theorem pR_getD (l:List (List Int)) (cs:Nat→List Int) (n k i r:Nat) (h:r < n):(pR l cs n k i).getD r []=(List.range n).map (pE l cs k i r):=by
 simp [pR,h]
theorem Zr_zero (n:Nat) (cs:Nat→List Int):pR (Zr n) cs n 0 0=Zr n:=pR_zero _ cs n (by simp [Zr]) (fun x hx=>by rw [(List.mem_replicate.1 hx).2];simp)
section
variable {n:Nat} {l:List (List Int)} (h:Sq n l) (hn:n≤5) (s:Int)
include h hn
theorem cW_b (j:Nat) (hj:j < n) (i:Nat) (hi:i < n):(cW s (en l) j i).natAbs≤20:=by
 have _h:=hn
 have:=h.num i j hi hj
 unfold cW
 split
 ·split <;> decide
 ·omega
theorem cW_x (j:Nat) (hj:j < n) (r:Nat) (hr:r < n):((rw1 n (cW s (en l) j)).getD r 0).natAbs≤100:=by
 have:=cW_b h hn s j hj r hr
 rw [show (rw1 n (cW s (en l) j)).getD r 0=cW s (en l) j r from by simp [rw1,hr]]
 omega
theorem cW_y (j:Nat) (hj:j < n) (r:Nat) (hr:r < n):((rw1 n (fun i=> - cW s (en l) j i)).getD r 0).natAbs≤100:=by
 have:=cW_b h hn s j hj r hr
 rw [show (rw1 n (fun i=> - cW s (en l) j i)).getD r 0= - cW s (en l) j r from by simp [rw1,hr]]
 omega
theorem col_eq (Q:List Int) (hQ:Q.length=n) (j:Nat) (hj:j < n):Ev (fun k=>impl_Problem_column.f k l Q (j:Int) (!bB s j)) (rw1 n (cW s (en l) j)):=by
 cases hb:bB s j with
 | true=>
  have:=col_f h hn Q hQ j hj
  have e:cW s (en l) j=fun r=>if r=j then 1 else 0:=by funext r;unfold cW;rw [if_pos hb]
  rw [e];exact this
 | false=>
  have:=col_t h hn Q hQ j hj
  have e:cW s (en l) j=fun r=> - en l r j:=by funext r;unfold cW;rw [if_neg (by simp [hb])]
  rw [e];exact this
theorem pvC_eq (Q:List Int) (hQ:Q.length=n) (hp:0 < n) (d:det n (Cm s l)≠0) (j:Nat) (hj:j < n):Ev (fun k=>pvC k l Q s j) (pvl n l s j):=by
 have si:=impl_solve h hn s (rw1 n (cW s (en l) j)) (cW_x h hn s j hj) Q hQ (rw1_len _ _) hp
 unfold solR at si
 rw [if_neg (show ¬ det n (colM (bB s) (en l))=0 from d)] at si
 unfold pvC
 exact evsome (has_eq h hn s j (by omega)) (evbind (col_eq h hn s Q hQ j hj) (evbind si (evc rfl)))
theorem pv_all (Q:List Int) (hQ:Q.length=n) (hp:0 < n) (d:det n (Cm s l)≠0): ∃K, ∀k,K≤k→ ∀i,i < n→pvC k l Q s i=some (pvl n l s i):=by
 have key: ∀m,m≤n→ ∃K, ∀k,K≤k→ ∀i,i < m→pvC k l Q s i=some (pvl n l s i):=by
  intro m
  induction m with
  | zero=>intro _;exact⟨0,fun k _ i hi=>by omega⟩
  | succ m ih=>
   intro hm
   obtain⟨K1,h1⟩:=ih (by omega)
   obtain⟨K2,h2⟩:=pvC_eq h hn s Q hQ hp d m (by omega)
   refine⟨K1+K2,fun k hk i hi=>?_⟩
   by_cases e:i=m
   ·subst e;exact h2 k (by omega)
   ·exact h1 k (by omega) i (by omega)
 exact key n (Nat.le_refl _)
theorem impl_pivot (Q:List Int) (hQ:Q.length=n) (hx: ∀r,r < n→(Q.getD r 0).natAbs≤100) (hp:0 < n) (hrows: ∀x ∈ l,x.length=n):Ev (fun k=>impl_Problem_pivot.f k l Q s) (pvA n l s Q):=by
 have si:=impl_solve h hn s Q hx Q hQ hQ hp
 unfold solR at si
 unfold impl_Problem_pivot.f impl_Problem_point.f pvA
 by_cases d:det n (Cm s l)=0
 ·rw [if_pos d]
  unfold Cm at d
  rw [if_pos d] at si
  exact evbind (evbind si (evc rfl)) (evneg (by simp) (evc rfl))
 ·rw [if_neg d]
  obtain⟨K1,k1⟩:=pv_all h hn s Q hQ hp d
  obtain⟨K2,k2⟩:=Cp.copy_eq l (by have:=h.len;omega) (fun x hx=>by have:=hrows x hx;omega)
  have d':=d
  unfold Cm at d'
  rw [if_neg d'] at si
  refine evbind (evbind si (evc rfl)) (evpos rfl ?_)
  refine⟨K1+K2,fun k hk=>?_⟩
  dsimp only
  have hc:=k1 k (by omega)
  have hL (i:Nat) (hi:i < n):pvL k l Q s i=pvl n l s i:=by unfold pvL;rw [hc i hi];rfl
  rw [hQ]
  rw [if_pos ⟨hp,by omega,h.len,by
   rw [List.all_eq_true]
   intro x hx
   simpa using hrows x hx,by simp,k2 k (by omega),by
   unfold pvOK
   rw [List.all_eq_true]
   intro i hi
   rw [hc i (List.mem_range.1 hi)]
   simp [pvl]⟩]
  rw [pR_congr _ _ _ _ hL,pR_full l (Zr n)]
  rfl
theorem dc_neg (j:Nat) (i:Nat) (hi:i < n):dc n (Cm s l) (rw1 n (fun i=> - cW s (en l) j i)) i= - dc n (Cm s l) (rw1 n (cW s (en l) j)) i:=by
 have _h:=h
 have _hn:=hn
 have e:=det_cadd hi (fun r=>(rw1 n (cW s (en l) j)).getD r 0) (fun _=>0) (Cm s l) (-1) 0
 unfold dc
 rw [show det n (cset i (fun r=>(rw1 n (fun i=> - cW s (en l) j i)).getD r 0) (Cm s l))=det n (cset i (fun r=> -1*(rw1 n (cW s (en l) j)).getD r 0+0*0) (Cm s l)) from det_congr (fun a b ha hb=>by
  unfold cset
  split
  ·simp [rw1,ha]
  ·rfl)]
 rw [e]
 omega
end
theorem sgn_ne {d:Int} (h:d≠0):sgn d=if d < 0 then -1 else 1:=by
 unfold sgn
 by_cases c:d < 0
 ·rw [if_pos c,if_pos c]
 ·rw [if_neg c,if_neg c,if_pos (by omega)]
section
variable {n:Nat} {l:List (List Int)} (h:Sq n l) (hn:n≤5) (s:Int) (Q:List Int) (hQ:Q.length=n)
include h hn hQ
theorem loop3 (sg:Int) (hsg:sg=sgn (det n (Cm s l))) (X:List (List Int)) (den:Int) (side:List Int) (j:Nat) (hj:j < n) (R:Int × List (List Int) × List Int × Bool) (nx1:Ev (fun k=>spec_l04Pivot.l1 k s (n:Int) X sg ((j+1:Nat):Int) l Q den (pR (Zr n) (pvl n l s) n (j+1) 0) side) R):
  ∀q i,i+q=n→Ev (fun k=>spec_l04Pivot.l3 k s (n:Int) X sg (j:Int) ((List.range n).map (dc n (Cm s l) (rw1 n (fun i=> - cW s (en l) j i)))) (i:Int) l Q den (pR (Zr n) (pvl n l s) n j i) side) R:=by
 intro q
 induction q with
 | zero=>
  intro i hi
  obtain rfl:i=n:=by omega
  refine evstep (fun k=>by rw [spec_l04Pivot.l3]) (evneg (by omega) ?_)
  rw [w64 (x:=(j:Int)+1) (by omega) (by omega),pR_col]
  exact nx1
 | succ q ih=>
  intro i hi
  have nx:=ih (i+1) (by omega)
  refine evstep (fun k=>by rw [spec_l04Pivot.l3]) ?_
  rw [rdL1,pR_getD _ _ _ _ _ _ (by omega)]
  refine evpos (by omega) (evpos (by omega) (evpos (by rw [pR_len];omega) (evpos (by simp;omega) (evpos (by omega) (evpos (by simp;omega) ?_)))))
  rw [rd_nat,show ((List.range n).map (dc n (Cm s l) (rw1 n (fun i=> - cW s (en l) j i)))).getD i 0=dc n (Cm s l) (rw1 n (fun i=> - cW s (en l) j i)) i from by simp [show i < n by omega]]
  rw [dc_neg h hn s j i (by omega),hsg,show sgn (det n (Cm s l))* - dc n (Cm s l) (rw1 n (cW s (en l) j)) i= -(pvl n l s j).getD i 0 from by
   rw [show (pvl n l s j).getD i 0=sgn (det n (Cm s l))*dc n (Cm s l) (rw1 n (cW s (en l) j)) i from by simp [pvl,show i < n by omega],Int.mul_neg]]
  rw [Int.toNat_natCast,Int.toNat_natCast,pR_set _ _ _ _ _ (by omega) hj,w64 (x:=(i:Int)+1) (by omega) (by omega), ← hsg]
  exact nx
theorem loop2 (sg:Int) (hsg:sg=sgn (det n (Cm s l))) (den:Int) (side:List Int) (j:Nat) (hj:j < n) (R:Int × List (List Int) × List Int × Bool) (nx1:Ev (fun k=>spec_l04Pivot.l1 k s (n:Int) (mk n n (Cm s l)) sg ((j+1:Nat):Int) l Q den (pR (Zr n) (pvl n l s) n (j+1) 0) side) R):
  ∀q i,i+q=n→Ev (fun k=>spec_l04Pivot.l2 k s (n:Int) (mk n n (Cm s l)) sg (j:Int) ((List.range n).map fun u=>if u < i then(if bB s j then 0 else en l u j) else 0) (i:Int) l Q den (pR (Zr n) (pvl n l s) n j 0) side) R:=by
 have hl:=h.len
 have ss:=spec_solve h hn s (rw1 n (fun i=> - cW s (en l) j i)) (cW_y h hn s j hj) (rw1_len _ _)
 have l3:=loop3 h hn s Q hQ sg hsg (mk n n (Cm s l)) den side j hj R nx1 n 0 (by omega)
 have j4:Ev (fun k=>spec_l04Pivot.j4 k s (n:Int) (mk n n (Cm s l)) sg (j:Int) (rw1 n (fun i=> - cW s (en l) j i)) l Q den (pR (Zr n) (pvl n l s) n j 0) side) R:=by
  refine evstep (fun k=>by rw [spec_l04Pivot.j4]) ?_
  exact evbind ss l3
 have hu:IntKind.u64.wrap (j:Int)=(j:Int):=u64w (by omega) (by omega)
 intro q
 induction q with
 | zero=>
  intro i hi
  obtain rfl:i=n:=by omega
  refine evstep (fun k=>by rw [spec_l04Pivot.l2]) (evneg (by omega) ?_)
  rw [hu,shr_and_one s (by omega)]
  refine evpos (by omega) ?_
  cases hb:bB s j with
  | true=>
   refine evpos rfl (evpos (by omega) (evpos (by simp;omega) ?_))
   rw [Int.toNat_natCast]
   rw [show ((List.range i).map fun u=>if u < i then(if true=true then(0:Int) else en l u j) else 0).set j (-1)=rw1 i (fun i=> - cW s (en l) j i) from by
    apply List.ext_getElem
    ·simp [rw1]
    ·intro k h1 h2
     rw [List.getElem_set]
     simp only [rw1,List.getElem_map,List.getElem_range,cW,hb]
     by_cases e:j=k
     ·subst e;simp
     ·simp [e,Ne.symm e]]
   exact j4
  | false=>
   refine evneg (by simp) ?_
   rw [show ((List.range i).map fun u=>if u < i then(if false=true then(0:Int) else en l u j) else 0)=rw1 i (fun i=> - cW s (en l) j i) from by
    unfold rw1
    refine List.map_congr_left (fun u hu=>?_)
    rw [if_pos (List.mem_range.1 hu)]
    simp [cW,hb]]
   exact j4
 | succ q ih=>
  intro i hi
  have nx:=ih (i+1) (by omega)
  have hrow:=h.row i (by omega)
  refine evstep (fun k=>by rw [spec_l04Pivot.l2]) (evpos (by omega) ?_)
  rw [hu,shr_and_one s (by omega),w64 (x:=(i:Int)+1) (by omega) (by omega),rdL1]
  refine evpos (by omega) ?_
  have at_:((List.range n).map fun u=>if u < i then(if bB s j then 0 else en l u j) else 0).set i (if bB s j then 0 else en l i j)=(List.range n).map fun u=>if u < i+1 then(if bB s j then 0 else en l u j) else 0:=by
   apply List.ext_getElem
   ·simp
   ·intro k h1 h2
    have hk:k < n:=by simpa using h2
    rw [List.getElem_set]
    simp only [List.getElem_map,List.getElem_range]
    by_cases e:i=k
    ·subst e;rw [if_pos rfl,if_pos (show i < i+1 by omega)]
    ·rw [if_neg e]
     by_cases c:k < i
     ·rw [if_pos c,if_pos (show k < i+1 by omega)]
     ·rw [if_neg c,if_neg (show ¬ k < i+1 by omega)]
  cases hb:bB s j with
  | true=>
   refine evneg (by simp) ?_
   rw [hb] at nx at_
   have:((List.range n).map fun u=>if u < i then(if true=true then(0:Int) else en l u j) else 0)=(List.range n).map fun u=>if u < i+1 then(if true=true then(0:Int) else en l u j) else 0:=by
    refine List.map_congr_left (fun u _=>?_)
    simp
   rw [this]
   exact nx
  | false=>
   rw [hb] at nx at_
   refine evpos (by simp) (evpos (by omega) (evpos (by omega) (evpos (by omega) (evpos (by omega) (evpos (by simp;omega) ?_)))))
   rw [rd_nat,show (l.getD i []).getD j 0=en l i j from rfl,Int.toNat_natCast]
   have e:(if false=true then(0:Int) else en l i j)=en l i j:=by simp
   rw [e] at at_
   rw [at_]
   exact nx
theorem loop1 (sg:Int) (hsg:sg=sgn (det n (Cm s l))) (den:Int) (side:List Int): ∀q j,j+q=n→Ev (fun k=>spec_l04Pivot.l1 k s (n:Int) (mk n n (Cm s l)) sg (j:Int) l Q den (pR (Zr n) (pvl n l s) n j 0) side) (den,pvR n l s,side,true):=by
 intro q
 induction q with
 | zero=>
  intro j hj
  obtain rfl:j=n:=by omega
  refine evstep (fun k=>by rw [spec_l04Pivot.l1]) ?_
  exact evneg (by omega) (evc rfl)
 | succ q ih=>
  intro j hj
  have nx:=ih (j+1) (by omega)
  have l2:=loop2 h hn s Q hQ sg hsg den side j (by omega) _ nx n 0 (by omega)
  refine evstep (fun k=>by rw [spec_l04Pivot.l1]) (evpos (by omega) (evpos (by omega) (evpos (by omega) ?_)))
  rw [show List.replicate ((n:Int)).toNat (0:Int)=(List.range n).map fun u=>if u < 0 then(if bB s j then 0 else en l u j) else 0 from by
   apply List.ext_getElem
   ·simp
   ·intro k h1 h2;simp]
  exact l2
theorem loop0 (hx: ∀r,r < n→(Q.getD r 0).natAbs≤100) (sg:Int) (hsg:sg=sgn (det n (Cm s l))) (den:Int): ∀q i,i+q=n→Ev (fun k=>spec_l04Pivot.l0 k s (n:Int) (mk n n (Cm s l)) ((List.range n).map (dc n (Cm s l) Q)) sg (i:Int) l Q den (List.replicate i (List.replicate n 0)) ((List.range i).map fun i=>sgn (det n (Cm s l))*dc n (Cm s l) Q i)) (den,pvR n l s,pvS n l s Q,true):=by
 intro q
 induction q with
 | zero=>
  intro i hi
  obtain rfl:i=n:=by omega
  have l1:=loop1 h hn s Q hQ sg hsg den (pvS i l s Q) i 0 (by omega)
  rw [Zr_zero] at l1
  refine evstep (fun k=>by rw [spec_l04Pivot.l0]) ?_
  exact evneg (by omega) l1
 | succ q ih=>
  intro i hi
  have nx:=ih (i+1) (by omega)
  rw [List.range_succ,List.map_append,List.replicate_succ'] at nx
  refine evstep (fun k=>by rw [spec_l04Pivot.l0]) (evpos (by omega) (evpos (by omega) (evpos (by omega) (evpos (by simp;omega) (evpos (by omega) (evpos (by simp;omega) (evpos (by simp;omega) ?_)))))))
  rw [rd_nat,show ((List.range n).map (dc n (Cm s l) Q)).getD i 0=dc n (Cm s l) Q i from by simp [show i < n by omega],hsg,show wrap64 (sgn (det n (Cm s l))*dc n (Cm s l) Q i)=sgn (det n (Cm s l))*dc n (Cm s l) Q i from sgn_mul _ _ (dc_b h hn s Q hx i),w64 (x:=(i:Int)+1) (by omega) (by omega),Int.toNat_natCast, ← hsg]
  rw [hsg] at nx ⊢
  exact nx
theorem spec_pivot (hx: ∀r,r < n→(Q.getD r 0).natAbs≤100):Ev (fun k=>spec_l04Pivot.f k l Q s) (pvA n l s Q):=by
 unfold spec_l04Pivot.f pvA
 have db: -1920000000≤det n (Cm s l)∧det n (Cm s l)≤1920000000:=D_b h hn s
 refine evbind (spec_cols h hn s) (evbind (spec_solve h hn s Q hx hQ) ?_)
 by_cases d:det n (Cm s l)=0
 ·rw [if_pos d]
  exact evpos d (evc rfl)
 ·rw [if_neg d,hQ]
  refine evneg d ?_
  have e0:=sgn_ne d
  by_cases c:det n (Cm s l) < 0
  ·rw [if_pos c] at e0
   refine evpos c (evstep (fun k=>by rw [spec_l04Pivot.j0]) ?_)
   have:=loop0 h hn s Q hQ hx (-1) e0.symm (ab (det n (Cm s l))) n 0 (by omega)
   show Ev (fun k=>spec_l04Pivot.l0 k s (n:Int) (mk n n (Cm s l)) ((List.range n).map (dc n (Cm s l) Q)) (-1) 0 l Q (wrap64 (-1*det n (Cm s l))) [] []) _
   rw [show wrap64 (-1*det n (Cm s l))=ab (det n (Cm s l)) from by unfold ab;rw [if_pos c,w64 (by omega) (by omega)];omega]
   exact this
  ·rw [if_neg c] at e0
   refine evneg c (evstep (fun k=>by rw [spec_l04Pivot.j0]) ?_)
   have:=loop0 h hn s Q hQ hx 1 e0.symm (ab (det n (Cm s l))) n 0 (by omega)
   show Ev (fun k=>spec_l04Pivot.l0 k s (n:Int) (mk n n (Cm s l)) ((List.range n).map (dc n (Cm s l) Q)) 1 0 l Q (wrap64 (1*det n (Cm s l))) [] []) _
   rw [show wrap64 (1*det n (Cm s l))=ab (det n (Cm s l)) from by unfold ab;rw [if_neg c,w64 (by omega) (by omega)];omega]
   exact this
end
end Go.Proofs.Ytbjljcpngbhkeaa.Pp
end
section
namespace Go.Proofs.Ytbjljcpngbhkeaa.Pr
open Go.RowKit Go.Proofs.YtbjljcpngbhkeaaW.PrintWords Go.Proofs.YtbjljcpngbhkeaaW.PrintLast Go.Proofs.YtbjljcpngbhkeaaW.PrintMore
attribute [local go_sem] max2_int min2_int max_two min_two max_three min_three max_four min_four
def spec_l02Code.f (k:Nat) (ae:List (List Int)) (aa:List Int) (a1:Int):Option (Int):=(spec_l01Is.f k ae aa).bind fun af=>(if af=true then(if 0≤(IntKind.u64.wrap ((aa.length:Int))) then((spec_l01In.f a1 0 (wrap64 ((shl .i64 1 (IntKind.u64.wrap ((aa.length:Int)))) - 1))).bind fun ag=>(if ag=true then(some 0) else(some 2))) else(none)) else(some 1))
theorem spec_l02Code.mono: ∀a0 a1 a2 k,LeO (spec_l02Code.f k a0 a1 a2) (spec_l02Code.f (k+1) a0 a1 a2):=by
 intro a0 a1 a2 k
 unfold spec_l02Code.f
 repeat' first | (with_reducible first | exact spec_l01Is.mono _ _ _ | exact LeO.refl _ | exact LeO.none _ | refine LeO.ite ?_ ?_ | refine LeO.bind ?_ (fun _=>?_)) | exact spec_l01Is.mono _ _ _ | exact LeO.none _ | refine LeO.ite ?_ ?_ | refine LeO.bind ?_ (fun _=>?_)
theorem spec_l02Code.calls (k:Nat) (ah:Option Addr) (ai:Nat) (ag:List (List Int)) (aj:Option Addr) (ak:Nat) (ae:List Int) (a1:Int) (r:Int) (w:World) (az:Kd.C (Kd.slice 2 (Kd.int .i64)) w ah ag.length ag) (aA:ag.length≤ai) (aC:Kd.C (Kd.int .i64) w aj ae.length ae) (aD:ae.length≤ak) (h:spec_l02Code.f k ag ae a1=some r):
  Calls Try.prog 42 #[.agg #[.slice ah ag.length ai, .slice aj ae.length ak], .int .i64 a1] w fun e w'=>e= .returned (.int .i64 r)∧Below w.heap.size w w':=by
 have hu27:=Try.underlying27;have HR0_0:=q_ az;have HC0_0:=q_ aA;clear az aA;have HR0_1:=q_ aC;have HC0_1:=q_ aD;clear aC aD;have HB:=q_ (Below.refl w.heap.size w);have H:((spec_l01Is.f k ag ae).bind fun ay=>(if ay=true then(if 0≤(IntKind.u64.wrap ((ae.length:Int))) then((spec_l01In.f a1 0 (wrap64 ((shl .i64 1 (IntKind.u64.wrap ((ae.length:Int)))) - 1))).bind fun aq=>(if aq=true then(some 0) else(some 2))) else(none)) else(some 1)))=some r:=h;clear h;replace H:=Option.bind_eq_some_iff.mp H;obtain⟨ay,A30,H⟩:=H;replace H:(if ay=true then(if 0≤(IntKind.u64.wrap ((ae.length:Int))) then((spec_l01In.f a1 0 (wrap64 ((shl .i64 1 (IntKind.u64.wrap ((ae.length:Int)))) - 1))).bind fun aq=>(if aq=true then(some 0) else(some 2))) else(none)) else(some 1))=some r:=H;have A3:=q_ A30;clear A30
 by_cases c4:ay=true
 ·subst c4;have H1:(if 0≤(IntKind.u64.wrap ((ae.length:Int))) then((spec_l01In.f a1 0 (wrap64 ((shl .i64 1 (IntKind.u64.wrap ((ae.length:Int)))) - 1))).bind fun aq=>(if aq=true then(some 0) else(some 2))) else(none))=some r:=by rw [if_pos rfl] at H;exact H
  clear H;have H:=H1;clear H1;obtain⟨ji5,hji5⟩: ∃j_:Int,(IntKind.u64.wrap ((ae.length:Int)))=j_:=⟨_,rfl⟩
  replace H:(if 0≤(ji5) then((spec_l01In.f a1 0 (wrap64 ((shl .i64 1 (ji5)) - 1))).bind fun aq=>(if aq=true then(some 0) else(some 2))) else(none))=some r:=by first | (rw [hji5] at H;exact H) | (simp only [hji5] at H ⊢;exact H)
  (try rw [hji5] at A3)
  by_cases c6:0≤(ji5)
  ·rw [if_pos c6] at H;have c6b0:=eq_true c6;have c6b1:=decide_eq_true c6;clear c6;obtain⟨ji7,hji7⟩: ∃j_:Int,(shl .i64 1 (ji5))=j_:=⟨_,rfl⟩
   replace H:((spec_l01In.f a1 0 (wrap64 ((ji7) - 1))).bind fun aq=>(if aq=true then(some 0) else(some 2)))=some r:=by first | (rw [hji7] at H;exact H) | (simp only [hji7] at H ⊢;exact H)
   (try rw [hji7] at A3)
   have hji7_:=s1_ hji7;have hji7z:=s2_ hji7;have hji7u:=s3_ hji7;have hji7v:=s4_ hji7;have hji7y:=s5_ hji7;have hji7x:=s6_ hji7;replace H:=Option.bind_eq_some_iff.mp H;obtain⟨aq,A80,H⟩:=H;replace H:(if aq=true then(some 0) else(some 2))=some r:=H;have A8:=q_ A80;clear A80
   by_cases c9:aq=true
   ·subst c9;have H1:(some 0)=some r:=by rw [if_pos rfl] at H;exact H
    clear H;have H:=H1;clear H1;obtain rfl:=Option.some.inj H
    go_enter Try.func42,Try.ntmps42
    go_wp2_with (first | ((with_reducible refine gate_dst (N:=2) rfl ?_);refine be_ 2 #[.slice ah ag.length ai, .slice aj ae.length ak] 27 ?_;intro af hg w10 hbox hb;have aa:=q_ (hbox);have aG:=q_ ((by rw [hg];exact bz_:w.heap.size≤af));have aH:=q_ ((by rw [hg];exact bz_:w.heap.size≤af));replace HB:=q_ (bs_ hb);clear hb hbox hg;have aI:=cz_ aa 0;have aJ:=cz_ aa 1;have aK:=blk_frozen aa.out 0;have aM:=blk_frozen aa.out 1) | ((with_reducible refine gate_callee (f:=55) rfl ?_);refine gL_ 7 Try.func55 #[.agg #[.slice ah ag.length ai, .slice aj ae.length ak]] ?_;(with_reducible refine(spec_l01Is.calls k _ _ ag _ _ ae true _ ?au ?av ?aw ?ax A3.out).mono ?_);(case au=>exact cb_ HR0_0.out HB.out);(case av=>exact HC0_0.out);(case aw=>exact cb_ HR0_1.out HB.out);(case ax=>exact HC0_1.out);rintro e w12 ⟨rfl,hb⟩;refine⟨_,rfl,?_⟩;replace aa:=q_ (bb_ aa.out hb);replace HB:=q_ (bs_ hb);(try clear hb);have aN:=cz_ aa 0;have aQ:=cz_ aa 1;have aT:=blk_frozen aa.out 0;have aU:=blk_frozen aa.out 1) | ((with_reducible refine gate_callee (f:=56) rfl ?_);refine goesL_ (some 17) rfl rfl Try.func56 (by kernel_rfl) rfl #[.int .i64 a1, .int .i64 0, .int .i64 (wrap64 ((ji7) - 1))] rfl (by(try simp only [List.map_toArray,List.map_cons,List.map_nil]);first | done | (simp only [hji7];rfl) | rfl | (simp only [List.length_drop,List.length_take];rfl)) ?_;(with_reducible refine(spec_l01In.calls a1 0 (wrap64 ((ji7) - 1)) true _ A8.out).mono ?_);rintro e w' ⟨rfl,⟨nd,rfl⟩⟩;refine⟨_,rfl,?_⟩))
    go_ret
    exact⟨by first | rfl | (simp [errW_none,errW_some] <;> rfl) | (simp only [← hji5, ← hji7];first | rfl | (simp [errW_none,errW_some] <;> rfl)) | (simp [*,errW_none,errW_some] <;> rfl),hb_⟩
   ·replace c9:=Bool.eq_false_iff.mpr c9;subst c9;have H1:(some 2)=some r:=by rw [if_neg (show ¬ (false=true) by decide)] at H;exact H
    clear H;have H:=H1;clear H1;obtain rfl:=Option.some.inj H
    go_enter Try.func42,Try.ntmps42
    go_wp2_with (first | ((with_reducible refine gate_dst (N:=2) rfl ?_);refine be_ 2 #[.slice ah ag.length ai, .slice aj ae.length ak] 27 ?_;intro af hg w14 hbox hb;have aa:=q_ (hbox);have aG:=q_ ((by rw [hg];exact bz_:w.heap.size≤af));have aH:=q_ ((by rw [hg];exact bz_:w.heap.size≤af));replace HB:=q_ (bs_ hb);clear hb hbox hg;have aV:=cz_ aa 0;have aW:=cz_ aa 1;have aX:=blk_frozen aa.out 0;have aY:=blk_frozen aa.out 1) | ((with_reducible refine gate_callee (f:=55) rfl ?_);refine gL_ 7 Try.func55 #[.agg #[.slice ah ag.length ai, .slice aj ae.length ak]] ?_;(with_reducible refine(spec_l01Is.calls k _ _ ag _ _ ae true _ ?au ?av ?aw ?ax A3.out).mono ?_);(case au=>exact cb_ HR0_0.out HB.out);(case av=>exact HC0_0.out);(case aw=>exact cb_ HR0_1.out HB.out);(case ax=>exact HC0_1.out);rintro e w16 ⟨rfl,hb⟩;refine⟨_,rfl,?_⟩;replace aa:=q_ (bb_ aa.out hb);replace HB:=q_ (bs_ hb);(try clear hb);have aZ:=cz_ aa 0;have a9:=cz_ aa 1;have ba:=blk_frozen aa.out 0;have bf:=blk_frozen aa.out 1) | ((with_reducible refine gate_callee (f:=56) rfl ?_);refine goesL_ (some 17) rfl rfl Try.func56 (by kernel_rfl) rfl #[.int .i64 a1, .int .i64 0, .int .i64 (wrap64 ((ji7) - 1))] rfl (by(try simp only [List.map_toArray,List.map_cons,List.map_nil]);first | done | (simp only [hji7];rfl) | rfl | (simp only [List.length_drop,List.length_take];rfl)) ?_;(with_reducible refine(spec_l01In.calls a1 0 (wrap64 ((ji7) - 1)) false _ A8.out).mono ?_);rintro e w' ⟨rfl,⟨nd,rfl⟩⟩;refine⟨_,rfl,?_⟩))
    go_ret
    exact⟨by first | rfl | (simp [errW_none,errW_some] <;> rfl) | (simp only [← hji5, ← hji7];first | rfl | (simp [errW_none,errW_some] <;> rfl)) | (simp [*,errW_none,errW_some] <;> rfl),hb_⟩
  ·rw [if_neg c6] at H;exact absurd H (by simp)
 ·replace c4:=Bool.eq_false_iff.mpr c4;subst c4;have H1:(some 1)=some r:=by rw [if_neg (show ¬ (false=true) by decide)] at H;exact H
  clear H;have H:=H1;clear H1;obtain rfl:=Option.some.inj H
  go_enter Try.func42,Try.ntmps42
  go_wp2_with (first | ((with_reducible refine gate_dst (N:=2) rfl ?_);refine be_ 2 #[.slice ah ag.length ai, .slice aj ae.length ak] 27 ?_;intro af hg w18 hbox hb;have aa:=q_ (hbox);have aG:=q_ ((by rw [hg];exact bz_:w.heap.size≤af));have aH:=q_ ((by rw [hg];exact bz_:w.heap.size≤af));replace HB:=q_ (bs_ hb);clear hb hbox hg;have bg:=cz_ aa 0;have bh:=cz_ aa 1;have bk:=blk_frozen aa.out 0;have bq:=blk_frozen aa.out 1) | ((with_reducible refine gate_callee (f:=55) rfl ?_);refine gL_ 7 Try.func55 #[.agg #[.slice ah ag.length ai, .slice aj ae.length ak]] ?_;(with_reducible refine(spec_l01Is.calls k _ _ ag _ _ ae false _ ?au ?av ?aw ?ax A3.out).mono ?_);(case au=>exact cb_ HR0_0.out HB.out);(case av=>exact HC0_0.out);(case aw=>exact cb_ HR0_1.out HB.out);(case ax=>exact HC0_1.out);rintro e w20 ⟨rfl,hb⟩;refine⟨_,rfl,?_⟩;replace aa:=q_ (bb_ aa.out hb);replace HB:=q_ (bs_ hb);(try clear hb)))
  go_ret
  exact⟨by first | rfl | (simp [errW_none,errW_some] <;> rfl) | (simp [*,errW_none,errW_some] <;> rfl),hb_⟩
def impl_setCode.f (ae:List (List Int)) (aa:List Int) (a1:Int):Option (Int):=(impl_IsProblem.f ae aa).bind fun af=>(if af=true then((impl_isSet.f a1 (aa.length:Int)).bind fun ag=>(if ag=true then(some 0) else(some 2))) else(some 1))
theorem impl_setCode.calls (ah:Option Addr) (ai:Nat) (ag:List (List Int)) (aj:Option Addr) (ak:Nat) (ae:List Int) (a1:Int) (r:Int) (w:World) (az:Kd.C (Kd.slice 2 (Kd.int .i64)) w ah ag.length ag) (aA:ag.length≤ai) (aC:Kd.C (Kd.int .i64) w aj ae.length ae) (aD:ae.length≤ak) (h:impl_setCode.f ag ae a1=some r):
  Calls Try.prog 45 #[.agg #[.slice ah ag.length ai, .slice aj ae.length ak], .int .i64 a1] w fun e w'=>e= .returned (.int .i64 r)∧Below w.heap.size w w':=by
 have hu27:=Try.underlying27;have HR0_0:=q_ az;have HC0_0:=q_ aA;clear az aA;have HR0_1:=q_ aC;have HC0_1:=q_ aD;clear aC aD;have HB:=q_ (Below.refl w.heap.size w);have H:((impl_IsProblem.f ag ae).bind fun ay=>(if ay=true then((impl_isSet.f a1 (ae.length:Int)).bind fun aq=>(if aq=true then(some 0) else(some 2))) else(some 1)))=some r:=h;clear h;replace H:=Option.bind_eq_some_iff.mp H;obtain⟨ay,A30,H⟩:=H;replace H:(if ay=true then((impl_isSet.f a1 (ae.length:Int)).bind fun aq=>(if aq=true then(some 0) else(some 2))) else(some 1))=some r:=H;have A3:=q_ A30;clear A30
 by_cases c4:ay=true
 ·subst c4;have H1:((impl_isSet.f a1 (ae.length:Int)).bind fun aq=>(if aq=true then(some 0) else(some 2)))=some r:=by rw [if_pos rfl] at H;exact H
  clear H;have H:=H1;clear H1;replace H:=Option.bind_eq_some_iff.mp H;obtain⟨aq,A50,H⟩:=H;replace H:(if aq=true then(some 0) else(some 2))=some r:=H;have A5:=q_ A50;clear A50
  by_cases c6:aq=true
  ·subst c6;have H1:(some 0)=some r:=by rw [if_pos rfl] at H;exact H
   clear H;have H:=H1;clear H1;obtain rfl:=Option.some.inj H
   go_enter Try.func45,Try.ntmps45
   go_wp2_with (first | ((with_reducible refine gate_dst (N:=2) rfl ?_);refine be_ 2 #[.slice ah ag.length ai, .slice aj ae.length ak] 27 ?_;intro af hg w7 hbox hb;have aa:=q_ (hbox);have aG:=q_ ((by rw [hg];exact bz_:w.heap.size≤af));have aH:=q_ ((by rw [hg];exact bz_:w.heap.size≤af));replace HB:=q_ (bs_ hb);clear hb hbox hg;have bg:=cz_ aa 0;have bh:=cz_ aa 1;have bk:=blk_frozen aa.out 0;have bq:=blk_frozen aa.out 1) | ((with_reducible refine gate_callee (f:=39) rfl ?_);refine gL_ 7 Try.func39 #[.agg #[.slice ah ag.length ai, .slice aj ae.length ak]] ?_;(with_reducible refine(impl_IsProblem.calls _ _ ag _ _ ae true _ ?au ?av ?aw ?ax A3.out).mono ?_);(case au=>exact cb_ HR0_0.out HB.out);(case av=>exact HC0_0.out);(case aw=>exact cb_ HR0_1.out HB.out);(case ax=>exact HC0_1.out);rintro e w9 ⟨rfl,hb⟩;refine⟨_,rfl,?_⟩;replace aa:=q_ (bb_ aa.out hb);replace HB:=q_ (bs_ hb);(try clear hb);have aI:=cz_ aa 0;have aJ:=cz_ aa 1;have aK:=blk_frozen aa.out 0;have aM:=blk_frozen aa.out 1) | ((with_reducible refine gate_callee (f:=40) rfl ?_);refine gL_ 14 Try.func40 #[.int .i64 a1, .int .i64 (ae.length:Int)] ?_;(with_reducible refine(impl_isSet.calls a1 (ae.length:Int) true _ A5.out).mono ?_);rintro e w' ⟨rfl,⟨nd,rfl⟩⟩;refine⟨_,rfl,?_⟩))
   go_ret
   exact⟨by first | rfl | (simp [errW_none,errW_some] <;> rfl) | (simp [*,errW_none,errW_some] <;> rfl),hb_⟩
  ·replace c6:=Bool.eq_false_iff.mpr c6;subst c6;have H1:(some 2)=some r:=by rw [if_neg (show ¬ (false=true) by decide)] at H;exact H
   clear H;have H:=H1;clear H1;obtain rfl:=Option.some.inj H
   go_enter Try.func45,Try.ntmps45
   go_wp2_with (first | ((with_reducible refine gate_dst (N:=2) rfl ?_);refine be_ 2 #[.slice ah ag.length ai, .slice aj ae.length ak] 27 ?_;intro af hg w11 hbox hb;have aa:=q_ (hbox);have aG:=q_ ((by rw [hg];exact bz_:w.heap.size≤af));have aH:=q_ ((by rw [hg];exact bz_:w.heap.size≤af));replace HB:=q_ (bs_ hb);clear hb hbox hg;have aN:=cz_ aa 0;have aQ:=cz_ aa 1;have aT:=blk_frozen aa.out 0;have aU:=blk_frozen aa.out 1) | ((with_reducible refine gate_callee (f:=39) rfl ?_);refine gL_ 7 Try.func39 #[.agg #[.slice ah ag.length ai, .slice aj ae.length ak]] ?_;(with_reducible refine(impl_IsProblem.calls _ _ ag _ _ ae true _ ?au ?av ?aw ?ax A3.out).mono ?_);(case au=>exact cb_ HR0_0.out HB.out);(case av=>exact HC0_0.out);(case aw=>exact cb_ HR0_1.out HB.out);(case ax=>exact HC0_1.out);rintro e w13 ⟨rfl,hb⟩;refine⟨_,rfl,?_⟩;replace aa:=q_ (bb_ aa.out hb);replace HB:=q_ (bs_ hb);(try clear hb);have aV:=cz_ aa 0;have aW:=cz_ aa 1;have aX:=blk_frozen aa.out 0;have aY:=blk_frozen aa.out 1) | ((with_reducible refine gate_callee (f:=40) rfl ?_);refine gL_ 14 Try.func40 #[.int .i64 a1, .int .i64 (ae.length:Int)] ?_;(with_reducible refine(impl_isSet.calls a1 (ae.length:Int) false _ A5.out).mono ?_);rintro e w' ⟨rfl,⟨nd,rfl⟩⟩;refine⟨_,rfl,?_⟩))
   go_ret
   exact⟨by first | rfl | (simp [errW_none,errW_some] <;> rfl) | (simp [*,errW_none,errW_some] <;> rfl),hb_⟩
 ·replace c4:=Bool.eq_false_iff.mpr c4;subst c4;have H1:(some 1)=some r:=by rw [if_neg (show ¬ (false=true) by decide)] at H;exact H
  clear H;have H:=H1;clear H1;obtain rfl:=Option.some.inj H
  go_enter Try.func45,Try.ntmps45
  go_wp2_with (first | ((with_reducible refine gate_dst (N:=2) rfl ?_);refine be_ 2 #[.slice ah ag.length ai, .slice aj ae.length ak] 27 ?_;intro af hg w15 hbox hb;have aa:=q_ (hbox);have aG:=q_ ((by rw [hg];exact bz_:w.heap.size≤af));have aH:=q_ ((by rw [hg];exact bz_:w.heap.size≤af));replace HB:=q_ (bs_ hb);clear hb hbox hg;have aZ:=cz_ aa 0;have a9:=cz_ aa 1;have ba:=blk_frozen aa.out 0;have bf:=blk_frozen aa.out 1) | ((with_reducible refine gate_callee (f:=39) rfl ?_);refine gL_ 7 Try.func39 #[.agg #[.slice ah ag.length ai, .slice aj ae.length ak]] ?_;(with_reducible refine(impl_IsProblem.calls _ _ ag _ _ ae false _ ?au ?av ?aw ?ax A3.out).mono ?_);(case au=>exact cb_ HR0_0.out HB.out);(case av=>exact HC0_0.out);(case aw=>exact cb_ HR0_1.out HB.out);(case ax=>exact HC0_1.out);rintro e w17 ⟨rfl,hb⟩;refine⟨_,rfl,?_⟩;replace aa:=q_ (bb_ aa.out hb);replace HB:=q_ (bs_ hb);(try clear hb)))
  go_ret
  exact⟨by first | rfl | (simp [errW_none,errW_some] <;> rfl) | (simp [*,errW_none,errW_some] <;> rfl),hb_⟩
def impl_Problem_all.f (ae:List (List Int)) (aa:List Int):Option (Int):=some (shl .i64 1 (aa.length:Int))
theorem impl_Problem_all.calls (ah:Option Addr) (ai:Nat) (ae:List (List Int)) (aj:Option Addr) (ak:Nat) (aa:List Int) (r:Int) (w:World) (aq:Kd.C (Kd.slice 2 (Kd.int .i64)) w ah ae.length ae) (au:ae.length≤ai) (av:Kd.C (Kd.int .i64) w aj aa.length aa) (aw:aa.length≤ak) (h:impl_Problem_all.f ae aa=some r):
  Calls Try.prog 46 #[.agg #[.slice ah ae.length ai, .slice aj aa.length ak]] w fun e w'=>e= .returned (.int .i64 r)∧Below w.heap.size w w':=by
 have hu27:=Try.underlying27;have HR0_0:=q_ aq;have HC0_0:=q_ au;clear aq au;have HR0_1:=q_ av;have HC0_1:=q_ aw;clear av aw;have HB:=q_ (Below.refl w.heap.size w);have H:(some (shl .i64 1 (aa.length:Int)))=some r:=h;clear h;obtain⟨ji2,hji2⟩: ∃j_:Int,(shl .i64 1 (aa.length:Int))=j_:=⟨_,rfl⟩
 replace H:(some ji2)=some r:=by first | (rw [hji2] at H;exact H) | (simp only [hji2] at H ⊢;exact H)
 have hji2_:(IntKind.i64.wrap (1*2 ^ min (aa.length:Int).toNat 64))=ji2:=hji2;have hji2z:(aa.length:Int)≤64→(IntKind.i64.wrap (1*2 ^ (aa.length:Int).toNat))=ji2:=shl_small hji2;have hji2p:(IntKind.i64.wrap (1*2 ^ min aa.length 64))=ji2:=hji2_;have hji2q:(aa.length:Int)≤64→(IntKind.i64.wrap (1*2 ^ aa.length))=ji2:=hji2z;have hji2r:(IntKind.i64.wrap (2 ^ min aa.length 64))=ji2:=by have h_:=hji2p;rw [Int.one_mul] at h_;exact h_
 have hji2s:(aa.length:Int)≤64→(IntKind.i64.wrap (2 ^ aa.length))=ji2:=fun hle_=>by have h_:=hji2q hle_;rw [Int.one_mul] at h_;exact h_
 have hji2u:(IntKind.i64.wrap (2 ^ min (aa.length:Int).toNat 64))=ji2:=by have h_:=hji2_;rw [Int.one_mul] at h_;exact h_
 have hji2v:(aa.length:Int)≤64→(IntKind.i64.wrap (2 ^ (aa.length:Int).toNat))=ji2:=fun hle_=>by have h_:=hji2z hle_;rw [Int.one_mul] at h_;exact h_
 have hji2y:(wrap64 (1*2 ^ min (aa.length:Int).toNat 64))=ji2:=(i64_w _).symm.trans hji2_;have hji2x:(aa.length:Int)≤64→(wrap64 (1*2 ^ (aa.length:Int).toNat))=ji2:=fun h_=>(i64_w _).symm.trans (hji2z h_)
 obtain rfl:=Option.some.inj H
 go_enter Try.func46,Try.ntmps46
 go_wp2_with (first | ((with_reducible refine gate_dst (N:=1) rfl ?_);refine be_ 1 #[.slice ah ae.length ai, .slice aj aa.length ak] 27 ?_;intro af hg w3 hbox hb;have ag:=q_ (hbox);have aC:=q_ ((by rw [hg];exact bz_:w.heap.size≤af));have aD:=q_ ((by rw [hg];exact bz_:w.heap.size≤af));replace HB:=q_ (bs_ hb);clear hb hbox hg;have ax:=cz_ ag 0;have ay:=cz_ ag 1;have az:=blk_frozen ag.out 0;have aA:=blk_frozen ag.out 1))
 go_ret
 exact⟨by first | rfl | (simp [errW_none,errW_some] <;> rfl) | (simp only [← hji2];first | rfl | (simp [errW_none,errW_some] <;> rfl)) | (simp [*,errW_none,errW_some] <;> rfl),hb_⟩
def impl_pivotOf.f (k:Nat) (ae:List (List Int)) (af:List Int) (a1:Int):Option (Int × (List (List Int)) × List Int × Int):=(impl_setCode.f ae af a1).bind fun ag=>(if ag=0 then((impl_Problem_pivot.f k ae af a1).bind fun aa=>(if aa.2.2.2=true then(some (aa.1,aa.2.1,aa.2.2.1,0)) else(some (0,([]:List (List Int)),([]:List Int),5)))) else(some (0,([]:List (List Int)),([]:List Int),ag)))
theorem impl_pivotOf.mono: ∀a0 a1 a2 k,LeO (impl_pivotOf.f k a0 a1 a2) (impl_pivotOf.f (k+1) a0 a1 a2):=by
 intro a0 a1 a2 k
 unfold impl_pivotOf.f
 repeat' first | (with_reducible first | exact impl_Problem_pivot.mono _ _ _ _ | exact LeO.refl _ | exact LeO.none _ | refine LeO.ite ?_ ?_ | refine LeO.bind ?_ (fun _=>?_)) | exact impl_Problem_pivot.mono _ _ _ _ | exact LeO.none _ | refine LeO.ite ?_ ?_ | refine LeO.bind ?_ (fun _=>?_)
theorem impl_pivotOf.calls (k:Nat) (au:Option Addr) (av:Nat) (ai:List (List Int)) (aw:Option Addr) (ax:Nat) (aj:List Int) (a1:Int) (r1:Int) (r2:List (List Int)) (r3:List Int) (r4:Int) (w:World) (a9:Kd.C (Kd.slice 2 (Kd.int .i64)) w au ai.length ai) (ba:ai.length≤av) (bf:Kd.C (Kd.int .i64) w aw aj.length aj) (bg:aj.length≤ax) (h:impl_pivotOf.f k ai aj a1=some (r1,r2,r3,r4)):
  Calls Try.prog 47 #[.agg #[.slice au ai.length av, .slice aw aj.length ax], .int .i64 a1] w fun e w'=> ∃v1_ v2_:Value,e= .returned (.tuple #[.agg #[.int .i64 r1,v1_,v2_], .int .i64 r4])∧Kd.S (Kd.slice 2 (Kd.int .i64)) 25 w' w.heap.size (fun k_=>some k_≠(v2_:Value).ownBlock) v1_ r2∧Kd.R (Kd.int .i64) 2 w' w.heap.size (fun _=>True) v2_ r3∧Below w.heap.size w w':=by
 have hu27:=Try.underlying27;have hu49:=Try.underlying49;have HR0_0:=q_ a9;have HC0_0:=q_ ba;clear a9 ba;have HR0_1:=q_ bf;have HC0_1:=q_ bg;clear bf bg;have HB:=q_ (Below.refl w.heap.size w);have H:((impl_setCode.f ai aj a1).bind fun ay=>(if ay=0 then((impl_Problem_pivot.f k ai aj a1).bind fun aC=>(if aC.2.2.2=true then(some (aC.1,aC.2.1,aC.2.2.1,0)) else(some (0,([]:List (List Int)),([]:List Int),5)))) else(some (0,([]:List (List Int)),([]:List Int),ay))))=some (r1,r2,r3,r4):=h;clear h;replace H:=Option.bind_eq_some_iff.mp H;obtain⟨ay,A30,H⟩:=H;replace H:(if ay=0 then((impl_Problem_pivot.f k ai aj a1).bind fun aC=>(if aC.2.2.2=true then(some (aC.1,aC.2.1,aC.2.2.1,0)) else(some (0,([]:List (List Int)),([]:List Int),5)))) else(some (0,([]:List (List Int)),([]:List Int),ay)))=some (r1,r2,r3,r4):=H;have A3:=q_ A30;clear A30
 by_cases c4:ay=0
 ·rw [if_pos c4] at H;have c4b0:=e1_ c4;have c4b1:=e2_ c4;clear c4;replace H:=Option.bind_eq_some_iff.mp H;obtain⟨⟨aJ,aN,aQ,bv⟩,A50,H⟩:=H;replace H:(if bv=true then(some (aJ,aN,aQ,0)) else(some (0,([]:List (List Int)),([]:List Int),5)))=some (r1,r2,r3,r4):=H;have A5:=q_ A50;clear A50
  by_cases c6:bv=true
  ·subst c6;have H1:(some (aJ,aN,aQ,0))=some (r1,r2,r3,r4):=by rw [if_pos rfl] at H;exact H
   clear H;have H:=H1;clear H1;simp only [Option.some.injEq,Prod.mk.injEq] at H;obtain⟨rfl,rfl,rfl,rfl⟩:=H
   go_enter Try.func47,Try.ntmps47
   go_wp2_with (first | ((with_reducible refine gate_dst (N:=2) rfl ?_);refine be_ 2 #[.slice au ai.length av, .slice aw aj.length ax] 27 ?_;intro ag hg w7 hbox hb;have aa:=q_ (hbox);have bh:=q_ ((by rw [hg];exact bz_:w.heap.size≤ag));have bk:=q_ ((by rw [hg];exact bz_:w.heap.size≤ag));replace HB:=q_ (bs_ hb);clear hb hbox hg) | ((with_reducible refine gate_dst (N:=4) rfl ?_);refine be_ 4 #[.int .i64 0, .slice none 0 0, .slice none 0 0] 49 ?_;intro af hg w8 hbox hb;have ae:=q_ (hbox);have bq:=q_ ((by rw [hg];exact bz_:w.heap.size≤af));have bu:=q_ ((by rw [hg];exact bz_:w.heap.size≤af));have az:=q_ ((by rw [hg];exact lt_ aa.out:ag≠af));have aA:=q_ ((by rw [hg];exact gt_ aa.out:af≠ag));replace aa:=q_ (bb_ aa.out hb);replace HB:=q_ (bs_ hb);clear hb hbox hg;have dH:=az.out;have dI:=aA.out;have bH:=cz_ aa 0;have bI:=cz_ aa 1;have bJ:=blk_frozen aa.out 0;have bK:=blk_frozen aa.out 1) | ((with_reducible refine gate_callee (f:=45) rfl ?_);refine gL_ 11 Try.func45 #[.agg #[.slice au ai.length av, .slice aw aj.length ax], .int .i64 a1] ?_;(with_reducible refine(impl_setCode.calls _ _ ai _ _ aj a1 ay _ ?aD ?aG ?aH ?aI A3.out).mono ?_);(case aD=>exact cb_ HR0_0.out HB.out);(case aG=>exact HC0_0.out);(case aH=>exact cb_ HR0_1.out HB.out);(case aI=>exact HC0_1.out);rintro e w11 ⟨rfl,hb⟩;refine⟨_,rfl,?_⟩;replace aa:=q_ (bb_ aa.out hb);replace ae:=q_ (bb_ ae.out hb);replace HB:=q_ (bs_ hb);(try clear hb);(try clear hk);have bL:=cz_ aa 0;have bM:=cz_ aa 1;have bN:=blk_frozen aa.out 0;have bO:=blk_frozen aa.out 1) | ((with_reducible refine gate_callee (f:=72) rfl ?_);refine gL_ 19 Try.func72 #[.agg #[.slice au ai.length av, .slice aw aj.length ax], .int .i64 a1] ?_;(with_reducible refine(impl_Problem_pivot.calls k _ _ ai _ _ aj a1 aJ aN aQ true _ ?aD ?aG ?aH ?aI A5.out).mono ?_);(case aD=>exact cb_ HR0_0.out HB.out);(case aG=>exact HC0_0.out);(case aH=>exact cb_ HR0_1.out HB.out);(case aI=>exact HC0_1.out);rintro e w13 ⟨bA,bC,rfl,ho0,ho1,hb⟩;refine⟨_,rfl,?_⟩;have aK:=q_ (Kd.S_lower ho0 bz_);have aM:=q_ (Kd.R_lower ho1 bz_);replace aa:=q_ (bb_ aa.out hb);replace ae:=q_ (bb_ ae.out hb);replace HB:=q_ (bs_ hb);(try clear hb);(try clear hk);(try clear ho0);(try clear ho1)) | ((with_reducible refine gate_dst (N:=7) rfl ?_);refine be_ 7 #[.int .i64 0, .slice none 0 0, .slice none 0 0] 49 ?_;intro ah hg w14 hbox hb;replace aK:=q_ (Kd.S_below (so_ aK.out) hb);replace aM:=q_ (rb_ aM.out hb);have aq:=q_ (hbox);have bw:=q_ ((by rw [hg];exact bz_:w.heap.size≤ah));have bz:=q_ ((by rw [hg];exact bz_:w.heap.size≤ah));have aT:=q_ ((by rw [hg];exact lt_ aa.out:ag≠ah));have aU:=q_ ((by rw [hg];exact gt_ aa.out:ah≠ag));have ak:=q_ ((by rw [hg];exact lt_ ae.out:af≠ah));have aV:=q_ ((by rw [hg];exact gt_ ae.out:ah≠af));replace aa:=q_ (bb_ aa.out hb);replace ae:=q_ (bb_ ae.out hb);replace HB:=q_ (bs_ hb);clear hb hbox hg;have dr:=aU.out;have du:=aT.out;have dw:=aV.out;have dx:=ak.out;have bP:=cz_ aq 0;have bQ:=cz_ aq 1;have bR:=cz_ aq 2;have bS:=blk_frozen aq.out 0;have bT:=blk_frozen aq.out 1;have bU:=blk_frozen aq.out 2;obtain⟨aW,aX,bD⟩:=Kd.S_slice aK.out;subst bD;obtain⟨aY,aZ,bE⟩:=Kd.R_slice aM.out;subst bE;have bV:=cz_ ae 0;have bW:=cz_ ae 1;have bX:=cz_ ae 2;have bY:=blk_frozen ae.out 0;have bZ:=blk_frozen ae.out 1;have cf:=blk_frozen ae.out 2))
   refine bodyPost_ret (results_ct rfl _ _ af 49 #[.int .i64 aJ, .slice aW aN.length aX, .slice aY aQ.length aZ] (0,0) _ rfl (by(with_reducible repeat (first | refine blk_drewN ?_ _ | refine blk_drew ?_ | refine blk_alloc ?_ _));refine blk_put (cs:= #[.int .i64 aJ, .slice aW aN.length aX, .slice none 0 0]) ?_ 2 _ rfl;(with_reducible repeat (first | refine blk_drewN ?_ _ | refine blk_drew ?_ | refine blk_alloc ?_ _));refine blk_put (cs:= #[.int .i64 aJ, .slice none 0 0, .slice none 0 0]) ?_ 1 _ rfl;(with_reducible repeat (first | refine blk_drewN ?_ _ | refine blk_drew ?_ | refine blk_alloc ?_ _));refine blk_put (cs:= #[.int .i64 0, .slice none 0 0, .slice none 0 0]) ?_ 0 _ rfl;(with_reducible repeat (first | refine blk_drewN ?_ _ | refine blk_drew ?_ | refine blk_alloc ?_ _));refine blk_far ?_ ak.out _;(with_reducible repeat (first | refine blk_drewN ?_ _ | refine blk_drew ?_ | refine blk_alloc ?_ _));refine blk_far ?_ ak.out _;(with_reducible repeat (first | refine blk_drewN ?_ _ | refine blk_drew ?_ | refine blk_alloc ?_ _));refine blk_far ?_ ak.out _;(with_reducible repeat (first | refine blk_drewN ?_ _ | refine blk_drew ?_ | refine blk_alloc ?_ _));exact ae.out) Try.underlying49 rfl (by kernel_rfl)) rfl ?_
   exact⟨_,_,by first | rfl | (simp [errW_none,errW_some] <;> rfl) | (simp [*,errW_none,errW_some] <;> rfl),by(with_reducible repeat (first | apply Kd.S_alloc | apply Kd.S_drewN | apply Kd.S_drew));exact Kd.S_mono (Kd.S_far (p:=⟨af,2,none⟩) (Kd.S_far (p:=⟨af,1,none⟩) (Kd.S_far (p:=⟨af,0,none⟩) (Kd.S_far (p:=⟨ah,2,none⟩) (Kd.S_far (p:=⟨ah,1,none⟩) (Kd.S_far (p:=⟨ah,0,none⟩) (Kd.S_types (Kd.S_types aK.out aq.out (by decide)) ae.out (by decide)) (fun _ hk=>hk.1.2) (.int .i64 aJ)) (fun _ hk=>hk.1.2) (.slice aW aN.length aX)) (fun _ hk=>hk.1.2) (.slice aY aQ.length aZ)) (fun _ hk=>hk.2) (.int .i64 aJ)) (fun _ hk=>hk.2) (.slice aW aN.length aX)) (fun _ hk=>hk.2) (.slice aY aQ.length aZ)) (fun _ hk=>hk.1.1),by(with_reducible repeat (first | apply Kd.R_alloc | apply Kd.R_drewN | apply Kd.R_drew));exact Kd.R_mono (Kd.R_far (p:=⟨af,2,none⟩) (Kd.R_far (p:=⟨af,1,none⟩) (Kd.R_far (p:=⟨af,0,none⟩) (Kd.R_far (p:=⟨ah,2,none⟩) (Kd.R_far (p:=⟨ah,1,none⟩) (Kd.R_far (p:=⟨ah,0,none⟩) (Kd.R_types (Kd.R_types aM.out aq.out (by decide)) ae.out (by decide)) (fun _ hk=>hk.1.2) (.int .i64 aJ)) (fun _ hk=>hk.1.2) (.slice aW aN.length aX)) (fun _ hk=>hk.1.2) (.slice aY aQ.length aZ)) (fun _ hk=>hk.2) (.int .i64 aJ)) (fun _ hk=>hk.2) (.slice aW aN.length aX)) (fun _ hk=>hk.2) (.slice aY aQ.length aZ)) (fun _ hk=>trivial),hb_⟩
  ·replace c6:=Bool.eq_false_iff.mpr c6;subst c6;have H1:(some (0,([]:List (List Int)),([]:List Int),5))=some (r1,r2,r3,r4):=by rw [if_neg (show ¬ (false=true) by decide)] at H;exact H
   clear H;have H:=H1;clear H1;simp only [Option.some.injEq,Prod.mk.injEq] at H;obtain⟨rfl,rfl,rfl,rfl⟩:=H
   go_enter Try.func47,Try.ntmps47
   go_wp2_with (first | ((with_reducible refine gate_dst (N:=2) rfl ?_);refine be_ 2 #[.slice au ai.length av, .slice aw aj.length ax] 27 ?_;intro ag hg w21 hbox hb;have aa:=q_ (hbox);have bh:=q_ ((by rw [hg];exact bz_:w.heap.size≤ag));have bk:=q_ ((by rw [hg];exact bz_:w.heap.size≤ag));replace HB:=q_ (bs_ hb);clear hb hbox hg) | ((with_reducible refine gate_dst (N:=4) rfl ?_);refine be_ 4 #[.int .i64 0, .slice none 0 0, .slice none 0 0] 49 ?_;intro af hg w22 hbox hb;have ae:=q_ (hbox);have bq:=q_ ((by rw [hg];exact bz_:w.heap.size≤af));have bu:=q_ ((by rw [hg];exact bz_:w.heap.size≤af));have az:=q_ ((by rw [hg];exact lt_ aa.out:ag≠af));have aA:=q_ ((by rw [hg];exact gt_ aa.out:af≠ag));replace aa:=q_ (bb_ aa.out hb);replace HB:=q_ (bs_ hb);clear hb hbox hg;have dz:=az.out;have dA:=aA.out;have cg:=cz_ aa 0;have cm:=cz_ aa 1;have cu:=blk_frozen aa.out 0;have cz:=blk_frozen aa.out 1) | ((with_reducible refine gate_callee (f:=45) rfl ?_);refine gL_ 11 Try.func45 #[.agg #[.slice au ai.length av, .slice aw aj.length ax], .int .i64 a1] ?_;(with_reducible refine(impl_setCode.calls _ _ ai _ _ aj a1 ay _ ?aD ?aG ?aH ?aI A3.out).mono ?_);(case aD=>exact cb_ HR0_0.out HB.out);(case aG=>exact HC0_0.out);(case aH=>exact cb_ HR0_1.out HB.out);(case aI=>exact HC0_1.out);rintro e w25 ⟨rfl,hb⟩;refine⟨_,rfl,?_⟩;replace aa:=q_ (bb_ aa.out hb);replace ae:=q_ (bb_ ae.out hb);replace HB:=q_ (bs_ hb);(try clear hb);(try clear hk);have cA:=cz_ aa 0;have cB:=cz_ aa 1;have cC:=blk_frozen aa.out 0;have cD:=blk_frozen aa.out 1) | ((with_reducible refine gate_callee (f:=72) rfl ?_);refine gL_ 19 Try.func72 #[.agg #[.slice au ai.length av, .slice aw aj.length ax], .int .i64 a1] ?_;(with_reducible refine(impl_Problem_pivot.calls k _ _ ai _ _ aj a1 aJ aN aQ false _ ?aD ?aG ?aH ?aI A5.out).mono ?_);(case aD=>exact cb_ HR0_0.out HB.out);(case aG=>exact HC0_0.out);(case aH=>exact cb_ HR0_1.out HB.out);(case aI=>exact HC0_1.out);rintro e w27 ⟨bA,bC,rfl,ho0,ho1,hb⟩;refine⟨_,rfl,?_⟩;have aK:=q_ (Kd.S_lower ho0 bz_);have aM:=q_ (Kd.R_lower ho1 bz_);replace aa:=q_ (bb_ aa.out hb);replace ae:=q_ (bb_ ae.out hb);replace HB:=q_ (bs_ hb);(try clear hb);(try clear hk);(try clear ho0);(try clear ho1)) | ((with_reducible refine gate_dst (N:=7) rfl ?_);refine be_ 7 #[.int .i64 0, .slice none 0 0, .slice none 0 0] 49 ?_;intro ah hg w28 hbox hb;replace aK:=q_ (Kd.S_below (so_ aK.out) hb);replace aM:=q_ (rb_ aM.out hb);have aq:=q_ (hbox);have bw:=q_ ((by rw [hg];exact bz_:w.heap.size≤ah));have bz:=q_ ((by rw [hg];exact bz_:w.heap.size≤ah));have aT:=q_ ((by rw [hg];exact lt_ aa.out:ag≠ah));have aU:=q_ ((by rw [hg];exact gt_ aa.out:ah≠ag));have ak:=q_ ((by rw [hg];exact lt_ ae.out:af≠ah));have aV:=q_ ((by rw [hg];exact gt_ ae.out:ah≠af));replace aa:=q_ (bb_ aa.out hb);replace ae:=q_ (bb_ ae.out hb);replace HB:=q_ (bs_ hb);clear hb hbox hg;have dB:=aU.out;have dC:=aT.out;have dD:=aV.out;have dE:=ak.out;have cE:=cz_ aq 0;have cF:=cz_ aq 1;have cG:=cz_ aq 2;have cH:=blk_frozen aq.out 0;have cI:=blk_frozen aq.out 1;have cJ:=blk_frozen aq.out 2;obtain⟨dJ,dK,bF⟩:=Kd.S_slice aK.out;subst bF;obtain⟨dL,dM,bG⟩:=Kd.R_slice aM.out;subst bG;have cK:=cz_ ae 0;have cL:=cz_ ae 1;have cN:=cz_ ae 2;have cO:=blk_frozen ae.out 0;have cP:=blk_frozen ae.out 1;have cQ:=blk_frozen ae.out 2))
   refine bodyPost_ret (results_ct rfl _ _ af 49 #[.int .i64 0, .slice none 0 0, .slice none 0 0] (0,0) _ rfl (by(with_reducible repeat (first | refine blk_drewN ?_ _ | refine blk_drew ?_ | refine blk_alloc ?_ _));refine blk_put (cs:= #[.int .i64 0, .slice none 0 0, .slice none 0 0]) ?_ 2 _ rfl;(with_reducible repeat (first | refine blk_drewN ?_ _ | refine blk_drew ?_ | refine blk_alloc ?_ _));refine blk_put (cs:= #[.int .i64 0, .slice none 0 0, .slice none 0 0]) ?_ 1 _ rfl;(with_reducible repeat (first | refine blk_drewN ?_ _ | refine blk_drew ?_ | refine blk_alloc ?_ _));refine blk_put (cs:= #[.int .i64 0, .slice none 0 0, .slice none 0 0]) ?_ 0 _ rfl;(with_reducible repeat (first | refine blk_drewN ?_ _ | refine blk_drew ?_ | refine blk_alloc ?_ _));refine blk_far ?_ ak.out _;(with_reducible repeat (first | refine blk_drewN ?_ _ | refine blk_drew ?_ | refine blk_alloc ?_ _));refine blk_far ?_ ak.out _;(with_reducible repeat (first | refine blk_drewN ?_ _ | refine blk_drew ?_ | refine blk_alloc ?_ _));refine blk_far ?_ ak.out _;(with_reducible repeat (first | refine blk_drewN ?_ _ | refine blk_drew ?_ | refine blk_alloc ?_ _));exact ae.out) Try.underlying49 rfl (by kernel_rfl)) rfl ?_
   exact⟨_,_,by first | rfl | (simp [errW_none,errW_some] <;> rfl) | (simp [*,errW_none,errW_some] <;> rfl),by first | exact Kd.S_nil _ _ _ _ _ | exact Kd.N_nil _ _ _ _ _ | exact Kd.V_nil _ _ _ _ _ | exact Kd.Q_nil _ _ _ _ _ | exact Kd.R_nil _ _ _ _ _,by first | exact Kd.R_nil _ _ _ _ _ | exact Kd.N_nil _ _ _ _ _ | exact Kd.V_nil _ _ _ _ _ | exact Kd.Q_nil _ _ _ _ _ | exact Kd.S_nil _ _ _ _ _,hb_⟩
 ·rw [if_neg c4] at H;have c4b0:=e3_ c4;have c4b1:=e4_ c4;simp only [Option.some.injEq,Prod.mk.injEq] at H;obtain⟨rfl,rfl,rfl,rfl⟩:=H
  go_enter Try.func47,Try.ntmps47
  go_wp2_with (first | ((with_reducible refine gate_dst (N:=2) rfl ?_);refine be_ 2 #[.slice au ai.length av, .slice aw aj.length ax] 27 ?_;intro ag hg w35 hbox hb;have aa:=q_ (hbox);have bh:=q_ ((by rw [hg];exact bz_:w.heap.size≤ag));have bk:=q_ ((by rw [hg];exact bz_:w.heap.size≤ag));replace HB:=q_ (bs_ hb);clear hb hbox hg) | ((with_reducible refine gate_dst (N:=4) rfl ?_);refine be_ 4 #[.int .i64 0, .slice none 0 0, .slice none 0 0] 49 ?_;intro af hg w36 hbox hb;have ae:=q_ (hbox);have bq:=q_ ((by rw [hg];exact bz_:w.heap.size≤af));have bu:=q_ ((by rw [hg];exact bz_:w.heap.size≤af));have az:=q_ ((by rw [hg];exact lt_ aa.out:ag≠af));have aA:=q_ ((by rw [hg];exact gt_ aa.out:af≠ag));replace aa:=q_ (bb_ aa.out hb);replace HB:=q_ (bs_ hb);clear hb hbox hg;have dF:=az.out;have dG:=aA.out;have cR:=cz_ aa 0;have cT:=cz_ aa 1;have cU:=blk_frozen aa.out 0;have cV:=blk_frozen aa.out 1) | ((with_reducible refine gate_callee (f:=45) rfl ?_);refine gL_ 11 Try.func45 #[.agg #[.slice au ai.length av, .slice aw aj.length ax], .int .i64 a1] ?_;(with_reducible refine(impl_setCode.calls _ _ ai _ _ aj a1 ay _ ?aD ?aG ?aH ?aI A3.out).mono ?_);(case aD=>exact cb_ HR0_0.out HB.out);(case aG=>exact HC0_0.out);(case aH=>exact cb_ HR0_1.out HB.out);(case aI=>exact HC0_1.out);rintro e w39 ⟨rfl,hb⟩;refine⟨_,rfl,?_⟩;replace aa:=q_ (bb_ aa.out hb);replace ae:=q_ (bb_ ae.out hb);replace HB:=q_ (bs_ hb);(try clear hb);(try clear hk);have cZ:=cz_ ae 0;have da:=cz_ ae 1;have df:=cz_ ae 2;have dh:=blk_frozen ae.out 0;have di:=blk_frozen ae.out 1;have dl:=blk_frozen ae.out 2))
  refine bodyPost_ret (results_ct rfl _ _ af 49 #[.int .i64 0, .slice none 0 0, .slice none 0 0] (0,0) _ rfl (by(with_reducible repeat (first | refine blk_drewN ?_ _ | refine blk_drew ?_ | refine blk_alloc ?_ _));refine blk_put (cs:= #[.int .i64 0, .slice none 0 0, .slice none 0 0]) ?_ 2 _ rfl;(with_reducible repeat (first | refine blk_drewN ?_ _ | refine blk_drew ?_ | refine blk_alloc ?_ _));refine blk_put (cs:= #[.int .i64 0, .slice none 0 0, .slice none 0 0]) ?_ 1 _ rfl;(with_reducible repeat (first | refine blk_drewN ?_ _ | refine blk_drew ?_ | refine blk_alloc ?_ _));refine blk_put (cs:= #[.int .i64 0, .slice none 0 0, .slice none 0 0]) ?_ 0 _ rfl;(with_reducible repeat (first | refine blk_drewN ?_ _ | refine blk_drew ?_ | refine blk_alloc ?_ _));exact ae.out) Try.underlying49 rfl (by kernel_rfl)) rfl ?_
  exact⟨_,_,by first | rfl | (simp [errW_none,errW_some] <;> rfl) | (simp [*,errW_none,errW_some] <;> rfl),by first | exact Kd.S_nil _ _ _ _ _ | exact Kd.N_nil _ _ _ _ _ | exact Kd.V_nil _ _ _ _ _ | exact Kd.Q_nil _ _ _ _ _ | exact Kd.R_nil _ _ _ _ _,by first | exact Kd.R_nil _ _ _ _ _ | exact Kd.N_nil _ _ _ _ _ | exact Kd.V_nil _ _ _ _ _ | exact Kd.Q_nil _ _ _ _ _ | exact Kd.S_nil _ _ _ _ _,hb_⟩
def laws_likeInts.l0:Nat→List Int→List Int→Int→Option (Bool)
 | 0,_,_,_=>none
 | k+1,x0,x1,x5=>if x5 < (x0.length:Int) then(if 0≤x5 then(if x5 < (x1.length:Int) then(if(rd x0 x5)=(rd x1 x5) then(laws_likeInts.l0 k x0 x1 (wrap64 (x5+1))) else(some false)) else(none)) else(none)) else(some true)
def laws_likeInts.f (k:Nat) (l0:List Int) (l1:List Int):Option (Bool):=if(l0.length:Int)=(l1.length:Int) then(laws_likeInts.l0 k l0 l1 0) else(some false)
theorem laws_likeInts.mono_l: ∀k,(∀y0 y1 y2,LeO (laws_likeInts.l0 k y0 y1 y2) (laws_likeInts.l0 (k+1) y0 y1 y2))
 | 0=>fun _ _ _ r h=>by simp [laws_likeInts.l0] at h
 | k+1=>by
  have ih0:=laws_likeInts.mono_l k
  intros;unfold laws_likeInts.l0;repeat' first | (with_reducible first | exact ih0 _ _ _ | exact LeO.refl _ | exact LeO.none _ | refine LeO.ite ?_ ?_ | refine LeO.bind ?_ (fun _=>?_)) | exact ih0 _ _ _ | exact LeO.none _ | refine LeO.ite ?_ ?_ | refine LeO.bind ?_ (fun _=>?_)
theorem laws_likeInts.mono: ∀a0 a1 k,LeO (laws_likeInts.f k a0 a1) (laws_likeInts.f (k+1) a0 a1):=by
 intro a0 a1 k
 have ih0:=laws_likeInts.mono_l k
 unfold laws_likeInts.f
 repeat' first | (with_reducible first | exact ih0 _ _ _ | exact LeO.refl _ | exact LeO.none _ | refine LeO.ite ?_ ?_ | refine LeO.bind ?_ (fun _=>?_)) | exact ih0 _ _ _ | exact LeO.none _ | refine LeO.ite ?_ ?_ | refine LeO.bind ?_ (fun _=>?_)
theorem laws_likeInts.calls (k:Nat) (A0:Option Addr) (c0:Nat) (l0:List Int) (A1:Option Addr) (c1:Nat) (l1:List Int) (r:Bool) (w:World) (hr0:Kd.C (Kd.int .i64) w A0 l0.length l0) (hc0:l0.length≤c0) (hr1:Kd.C (Kd.int .i64) w A1 l1.length l1) (hc1:l1.length≤c1) (h:laws_likeInts.f k l0 l1=some r):
  Calls Try.prog 16 #[.slice A0 l0.length c0, .slice A1 l1.length c1] w fun e w'=>e= .returned (.bool r)∧Drawn0 w w':=by
 have HR0:=q_ hr0;have HC0:=q_ hc0;clear hr0 hc0;have HR1:=q_ hr1;have HC1:=q_ hc1;clear hr1 hc1;have H:(if(l0.length:Int)=(l1.length:Int) then(laws_likeInts.l0 k l0 l1 0) else(some false))=some r:=h;clear h
 by_cases c3:(l0.length:Int)=(l1.length:Int)
 ·rw [if_pos c3] at H;have c3b0:=e1_ c3;have c3b1:=e2_ c3;have c3b2:(l0.length==l1.length)=true:=by first | simpa using c3 | (simp at c3 ⊢;omega)
  clear c3;have H':=q_ H;clear H
  go_enter Try.func16,Try.ntmps16
  go_wp2
  repeat (go_quiet (fail);try go_wp2)
  go_loopg [5] k (fun kq v5 w'=> ∃(aa:Int),v5= .int .i64 aa∧Aside0 (laws_likeInts.l0 kq l0 l1 aa=some r)∧Aside0 (kq≤k)∧Drawn0 w w')
  case atStart=>exact⟨(0),(by first | rfl | (simp;done) | (simp [*];done)),H',⟨Nat.le_refl _⟩,by repeat (first | exact Drawn0.refl _ | apply Drawn0.step)⟩
  case round=>
   clear H';(try clear c1);(try clear c3);(try clear c3b0);(try clear c3b1);(try clear c3b2);obtain⟨aa,rfl,HA,HK1,⟨m1,rfl⟩⟩:=hrel;cases gk with
   | zero=>exact absurd HA.out (by simp [laws_likeInts.l0])
   | succ k1=>
    have H:=HA.out;clear HA;simp only [laws_likeInts.l0] at H
    by_cases c4:aa < (l0.length:Int)
    ·rw [if_pos c4] at H;have c4b0:=decide_eq_true c4;clear c4
     by_cases c5:0≤aa
     ·rw [if_pos c5] at H;have c5b0:=decide_eq_true c5;clear c5
      by_cases c6:aa < (l1.length:Int)
      ·rw [if_pos c6] at H;have c6b0:=decide_eq_true c6;clear c6
       by_cases c7:(rd l0 aa)=(rd l1 aa)
       ·rw [if_pos c7] at H;have c7b0:=e1_ c7;have c7b1:=e2_ c7;clear c7;have H':=q_ H;clear H;have p456:0≤(aa:Int):=of_decide_eq_true (by first | (with_reducible assumption) | assumption);have q456:aa < (l0.length:Int):=of_decide_eq_true (by first | (with_reducible assumption) | assumption);obtain⟨ae,e456,hx456_0⟩:=Kd.at_int HR0.out aa p456 q456;cases e456
        replace p456:=eq_true p456;replace q456:=eq_true q456;have p457:0≤(aa:Int):=of_decide_eq_true (by first | (with_reducible assumption) | assumption);have q457:aa < (l1.length:Int):=of_decide_eq_true (by first | (with_reducible assumption) | assumption);obtain⟨af,e457,hx457_0⟩:=Kd.at_int HR1.out aa p457 q457;cases e457
        replace p457:=eq_true p457;replace q457:=eq_true q457;go_wp2
        repeat (go_quiet (fail);try go_wp2)
        go_roundg k1
        case measure=>have:=HK1.out;omega
        case rel=>exact⟨(wrap64 (aa+1)),(by first | rfl | (simp;done) | (simp [*];done)),H',⟨by have:=HK1.out;omega⟩,by repeat (first | exact Drawn0.refl _ | apply Drawn0.step)⟩
       ·rw [if_neg c7] at H;have c7b0:=e3_ c7;have c7b1:=e4_ c7;obtain rfl:=Option.some.inj H;have p456:0≤(aa:Int):=of_decide_eq_true (by first | (with_reducible assumption) | assumption);have q456:aa < (l0.length:Int):=of_decide_eq_true (by first | (with_reducible assumption) | assumption);obtain⟨ae,e456,hx456_0⟩:=Kd.at_int HR0.out aa p456 q456;cases e456
        replace p456:=eq_true p456;replace q456:=eq_true q456;have p457:0≤(aa:Int):=of_decide_eq_true (by first | (with_reducible assumption) | assumption);have q457:aa < (l1.length:Int):=of_decide_eq_true (by first | (with_reducible assumption) | assumption);obtain⟨af,e457,hx457_0⟩:=Kd.at_int HR1.out aa p457 q457;cases e457
        replace p457:=eq_true p457;replace q457:=eq_true q457;go_wp2
        repeat (go_quiet (fail);try go_wp2)
        go_ret
        exact⟨by first | rfl | (simp;done) | (simp [*];done),by repeat (first | exact Drawn0.refl _ | apply Drawn0.step)⟩
      ·rw [if_neg c6] at H;exact absurd H (by simp)
     ·rw [if_neg c5] at H;exact absurd H (by simp)
    ·rw [if_neg c4] at H;have c4b0:=decide_eq_false c4;clear c4;obtain rfl:=Option.some.inj H;go_wp2
     repeat (go_quiet (fail);try go_wp2)
     go_ret
     exact⟨by first | rfl | (simp;done) | (simp [*];done),by repeat (first | exact Drawn0.refl _ | apply Drawn0.step)⟩
 ·rw [if_neg c3] at H;have c3b0:=e3_ c3;have c3b1:=e4_ c3;have c3b2:(l0.length==l1.length)=false:=by first | simpa using c3 | (simp at c3 ⊢;omega)
  obtain rfl:=Option.some.inj H
  go_enter Try.func16,Try.ntmps16
  go_wp2
  repeat (go_quiet (fail);try go_wp2)
  go_ret
  exact⟨by first | rfl | (simp;done) | (simp [*];done),by repeat (first | exact Drawn0.refl _ | apply Drawn0.step)⟩
def laws_rows9.l0:Nat→List (List Int)→List (List Int)→Int→Option (Bool)
 | 0,_,_,_=>none
 | k+1,x0,x1,x5=>if x5 < (x0.length:Int) then(if 0≤x5 then(if x5 < (x1.length:Int) then((laws_likeInts.f k (rd_L2 x0 x5) (rd_L2 x1 x5)).bind fun aa=>(if aa=true then(laws_rows9.l0 k x0 x1 (wrap64 (x5+1))) else(some false))) else(none)) else(none)) else(some true)
def laws_rows9.f (k:Nat) (l0:List (List Int)) (l1:List (List Int)):Option (Bool):=if(l0.length:Int)=(l1.length:Int) then(laws_rows9.l0 k l0 l1 0) else(some false)
theorem laws_rows9.mono_l: ∀k,(∀y0 y1 y2,LeO (laws_rows9.l0 k y0 y1 y2) (laws_rows9.l0 (k+1) y0 y1 y2))
 | 0=>fun _ _ _ r h=>by simp [laws_rows9.l0] at h
 | k+1=>by
  have ih0:=laws_rows9.mono_l k
  intros;unfold laws_rows9.l0;repeat' first | (with_reducible first | exact ih0 _ _ _ | exact laws_likeInts.mono _ _ _ | exact LeO.refl _ | exact LeO.none _ | refine LeO.ite ?_ ?_ | refine LeO.bind ?_ (fun _=>?_)) | exact ih0 _ _ _ | exact laws_likeInts.mono _ _ _ | exact LeO.none _ | refine LeO.ite ?_ ?_ | refine LeO.bind ?_ (fun _=>?_)
theorem laws_rows9.mono: ∀a0 a1 k,LeO (laws_rows9.f k a0 a1) (laws_rows9.f (k+1) a0 a1):=by
 intro a0 a1 k
 have ih0:=laws_rows9.mono_l k
 unfold laws_rows9.f
 repeat' first | (with_reducible first | exact ih0 _ _ _ | exact laws_likeInts.mono _ _ _ | exact LeO.refl _ | exact LeO.none _ | refine LeO.ite ?_ ?_ | refine LeO.bind ?_ (fun _=>?_)) | exact ih0 _ _ _ | exact laws_likeInts.mono _ _ _ | exact LeO.none _ | refine LeO.ite ?_ ?_ | refine LeO.bind ?_ (fun _=>?_)
theorem laws_rows9.calls (k:Nat) (A0:Option Addr) (c0:Nat) (l0:List (List Int)) (A1:Option Addr) (c1:Nat) (l1:List (List Int)) (r:Bool) (w:World) (hr0:Kd.C (Kd.slice 2 (Kd.int .i64)) w A0 l0.length l0) (hc0:l0.length≤c0) (hr1:Kd.C (Kd.slice 2 (Kd.int .i64)) w A1 l1.length l1) (hc1:l1.length≤c1) (h:laws_rows9.f k l0 l1=some r):
  Calls Try.prog 12 #[.slice A0 l0.length c0, .slice A1 l1.length c1] w fun e w'=>e= .returned (.bool r)∧Drawn0 w w':=by
 have HR0:=q_ hr0;have HC0:=q_ hc0;clear hr0 hc0;have HR1:=q_ hr1;have HC1:=q_ hc1;clear hr1 hc1;have H:(if(l0.length:Int)=(l1.length:Int) then(laws_rows9.l0 k l0 l1 0) else(some false))=some r:=h;clear h
 by_cases c3:(l0.length:Int)=(l1.length:Int)
 ·rw [if_pos c3] at H;have c3b0:=e1_ c3;have c3b1:=e2_ c3;have c3b2:(l0.length==l1.length)=true:=by first | simpa using c3 | (simp at c3 ⊢;omega)
  clear c3;have H':=q_ H;clear H
  go_enter Try.func12,Try.ntmps12
  go_wp2
  repeat (go_quiet (fail);try go_wp2)
  go_loopg [5] k (fun kq v5 w'=> ∃(aa:Int),v5= .int .i64 aa∧Aside0 (laws_rows9.l0 kq l0 l1 aa=some r)∧Aside0 (kq≤k)∧Drawn0 w w')
  case atStart=>exact⟨(0),(by first | rfl | (simp;done) | (simp [*];done)),H',⟨Nat.le_refl _⟩,by repeat (first | exact Drawn0.refl _ | apply Drawn0.step)⟩
  case round=>
   clear H';(try clear c1);(try clear c3);(try clear c3b0);(try clear c3b1);(try clear c3b2);obtain⟨aa,rfl,HA,HK1,⟨m1,rfl⟩⟩:=hrel;cases gk with
   | zero=>exact absurd HA.out (by simp [laws_rows9.l0])
   | succ k1=>
    have H:=HA.out;clear HA;simp only [laws_rows9.l0] at H
    by_cases c4:aa < (l0.length:Int)
    ·rw [if_pos c4] at H;have c4b0:=decide_eq_true c4;clear c4
     by_cases c5:0≤aa
     ·rw [if_pos c5] at H;have c5b0:=decide_eq_true c5;clear c5
      by_cases c6:aa < (l1.length:Int)
      ·rw [if_pos c6] at H;have c6b0:=decide_eq_true c6;clear c6;replace H:=Option.bind_eq_some_iff.mp H;obtain⟨ai,A70,H⟩:=H;replace H:(if ai=true then(laws_rows9.l0 k1 l0 l1 (wrap64 (aa+1))) else(some false))=some r:=H;have A7:=q_ A70;clear A70
       by_cases c8:ai=true
       ·subst c8;have H1:(laws_rows9.l0 k1 l0 l1 (wrap64 (aa+1)))=some r:=by rw [if_pos rfl] at H;exact H
        clear H;have H:=H1;clear H1;have H':=q_ H;clear H;have p458:0≤(aa:Int):=of_decide_eq_true (by first | (with_reducible assumption) | assumption);have q458:aa < (l0.length:Int):=of_decide_eq_true (by first | (with_reducible assumption) | assumption);obtain⟨av,aj,ak,e458,hx458_0,hl458_0,hi458_0⟩:=at_L2 HR0.out aa p458 q458;cases e458
        have HR458_0:=q_ hi458_0;have HC458_0:=q_ hl458_0;clear hi458_0 hl458_0;replace p458:=eq_true p458;replace q458:=eq_true q458;have p459:0≤(aa:Int):=of_decide_eq_true (by first | (with_reducible assumption) | assumption);have q459:aa < (l1.length:Int):=of_decide_eq_true (by first | (with_reducible assumption) | assumption);obtain⟨aw,aq,au,e459,hx459_0,hl459_0,hi459_0⟩:=at_L2 HR1.out aa p459 q459;cases e459
        have HR459_0:=q_ hi459_0;have HC459_0:=q_ hl459_0;clear hi459_0 hl459_0;replace p459:=eq_true p459;replace q459:=eq_true q459
        go_wp2_with (first | (go_at_call 16;(with_reducible refine(laws_likeInts.calls k1 _ _ (rd_L2 l0 aa) _ _ (rd_L2 l1 aa) true _ ?ae ?af ?ag ?ah A7.out).mono ?_);(case ae=>repeat (first | exact HR458_0.out | (with_reducible refine Kd.C_alloc ?_ _) | (with_reducible refine Kd.C_drewN ?_ _) | (with_reducible refine Kd.C_drew ?_)));(case af=>exact HC458_0.out);(case ag=>repeat (first | exact HR459_0.out | (with_reducible refine Kd.C_alloc ?_ _) | (with_reducible refine Kd.C_drewN ?_ _) | (with_reducible refine Kd.C_drew ?_)));(case ah=>exact HC459_0.out);rintro e w' ⟨rfl,⟨nd,rfl⟩⟩;(try first | exact⟨rfl,_,World.drewN_drewN _ _ _⟩ | exact⟨rfl,_,Eq.trans (World.drewN_drewN _ _ _) (congrArg (World.drewN _) (Nat.add_assoc _ _ _))⟩)))
        repeat (go_quiet (first | (go_at_call 16;(with_reducible refine(laws_likeInts.calls k1 _ _ (rd_L2 l0 aa) _ _ (rd_L2 l1 aa) true _ ?ae ?af ?ag ?ah A7.out).mono ?_);(case ae=>repeat (first | exact HR458_0.out | (with_reducible refine Kd.C_alloc ?_ _) | (with_reducible refine Kd.C_drewN ?_ _) | (with_reducible refine Kd.C_drew ?_)));(case af=>exact HC458_0.out);(case ag=>repeat (first | exact HR459_0.out | (with_reducible refine Kd.C_alloc ?_ _) | (with_reducible refine Kd.C_drewN ?_ _) | (with_reducible refine Kd.C_drew ?_)));(case ah=>exact HC459_0.out);rintro e w' ⟨rfl,⟨nd,rfl⟩⟩;(try first | exact⟨rfl,_,World.drewN_drewN _ _ _⟩ | exact⟨rfl,_,Eq.trans (World.drewN_drewN _ _ _) (congrArg (World.drewN _) (Nat.add_assoc _ _ _))⟩)));try go_wp2_with (first | (go_at_call 16;(with_reducible refine(laws_likeInts.calls k1 _ _ (rd_L2 l0 aa) _ _ (rd_L2 l1 aa) true _ ?ae ?af ?ag ?ah A7.out).mono ?_);(case ae=>repeat (first | exact HR458_0.out | (with_reducible refine Kd.C_alloc ?_ _) | (with_reducible refine Kd.C_drewN ?_ _) | (with_reducible refine Kd.C_drew ?_)));(case af=>exact HC458_0.out);(case ag=>repeat (first | exact HR459_0.out | (with_reducible refine Kd.C_alloc ?_ _) | (with_reducible refine Kd.C_drewN ?_ _) | (with_reducible refine Kd.C_drew ?_)));(case ah=>exact HC459_0.out);rintro e w' ⟨rfl,⟨nd,rfl⟩⟩;(try first | exact⟨rfl,_,World.drewN_drewN _ _ _⟩ | exact⟨rfl,_,Eq.trans (World.drewN_drewN _ _ _) (congrArg (World.drewN _) (Nat.add_assoc _ _ _))⟩))))
        go_roundg k1
        case measure=>have:=HK1.out;omega
        case rel=>exact⟨(wrap64 (aa+1)),(by first | rfl | (simp;done) | (simp [*];done)),H',⟨by have:=HK1.out;omega⟩,by repeat (first | exact Drawn0.refl _ | apply Drawn0.step)⟩
       ·replace c8:=Bool.eq_false_iff.mpr c8;subst c8;have H1:(some false)=some r:=by rw [if_neg (show ¬ (false=true) by decide)] at H;exact H
        clear H;have H:=H1;clear H1;obtain rfl:=Option.some.inj H;have p458:0≤(aa:Int):=of_decide_eq_true (by first | (with_reducible assumption) | assumption);have q458:aa < (l0.length:Int):=of_decide_eq_true (by first | (with_reducible assumption) | assumption);obtain⟨av,aj,ak,e458,hx458_0,hl458_0,hi458_0⟩:=at_L2 HR0.out aa p458 q458;cases e458
        have HR458_0:=q_ hi458_0;have HC458_0:=q_ hl458_0;clear hi458_0 hl458_0;replace p458:=eq_true p458;replace q458:=eq_true q458;have p459:0≤(aa:Int):=of_decide_eq_true (by first | (with_reducible assumption) | assumption);have q459:aa < (l1.length:Int):=of_decide_eq_true (by first | (with_reducible assumption) | assumption);obtain⟨aw,aq,au,e459,hx459_0,hl459_0,hi459_0⟩:=at_L2 HR1.out aa p459 q459;cases e459
        have HR459_0:=q_ hi459_0;have HC459_0:=q_ hl459_0;clear hi459_0 hl459_0;replace p459:=eq_true p459;replace q459:=eq_true q459
        go_wp2_with (first | (go_at_call 16;(with_reducible refine(laws_likeInts.calls k1 _ _ (rd_L2 l0 aa) _ _ (rd_L2 l1 aa) false _ ?ae ?af ?ag ?ah A7.out).mono ?_);(case ae=>repeat (first | exact HR458_0.out | (with_reducible refine Kd.C_alloc ?_ _) | (with_reducible refine Kd.C_drewN ?_ _) | (with_reducible refine Kd.C_drew ?_)));(case af=>exact HC458_0.out);(case ag=>repeat (first | exact HR459_0.out | (with_reducible refine Kd.C_alloc ?_ _) | (with_reducible refine Kd.C_drewN ?_ _) | (with_reducible refine Kd.C_drew ?_)));(case ah=>exact HC459_0.out);rintro e w' ⟨rfl,⟨nd,rfl⟩⟩;(try first | exact⟨rfl,_,World.drewN_drewN _ _ _⟩ | exact⟨rfl,_,Eq.trans (World.drewN_drewN _ _ _) (congrArg (World.drewN _) (Nat.add_assoc _ _ _))⟩)))
        repeat (go_quiet (first | (go_at_call 16;(with_reducible refine(laws_likeInts.calls k1 _ _ (rd_L2 l0 aa) _ _ (rd_L2 l1 aa) false _ ?ae ?af ?ag ?ah A7.out).mono ?_);(case ae=>repeat (first | exact HR458_0.out | (with_reducible refine Kd.C_alloc ?_ _) | (with_reducible refine Kd.C_drewN ?_ _) | (with_reducible refine Kd.C_drew ?_)));(case af=>exact HC458_0.out);(case ag=>repeat (first | exact HR459_0.out | (with_reducible refine Kd.C_alloc ?_ _) | (with_reducible refine Kd.C_drewN ?_ _) | (with_reducible refine Kd.C_drew ?_)));(case ah=>exact HC459_0.out);rintro e w' ⟨rfl,⟨nd,rfl⟩⟩;(try first | exact⟨rfl,_,World.drewN_drewN _ _ _⟩ | exact⟨rfl,_,Eq.trans (World.drewN_drewN _ _ _) (congrArg (World.drewN _) (Nat.add_assoc _ _ _))⟩)));try go_wp2_with (first | (go_at_call 16;(with_reducible refine(laws_likeInts.calls k1 _ _ (rd_L2 l0 aa) _ _ (rd_L2 l1 aa) false _ ?ae ?af ?ag ?ah A7.out).mono ?_);(case ae=>repeat (first | exact HR458_0.out | (with_reducible refine Kd.C_alloc ?_ _) | (with_reducible refine Kd.C_drewN ?_ _) | (with_reducible refine Kd.C_drew ?_)));(case af=>exact HC458_0.out);(case ag=>repeat (first | exact HR459_0.out | (with_reducible refine Kd.C_alloc ?_ _) | (with_reducible refine Kd.C_drewN ?_ _) | (with_reducible refine Kd.C_drew ?_)));(case ah=>exact HC459_0.out);rintro e w' ⟨rfl,⟨nd,rfl⟩⟩;(try first | exact⟨rfl,_,World.drewN_drewN _ _ _⟩ | exact⟨rfl,_,Eq.trans (World.drewN_drewN _ _ _) (congrArg (World.drewN _) (Nat.add_assoc _ _ _))⟩))))
        go_ret
        exact⟨by first | rfl | (simp;done) | (simp [*];done),by repeat (first | exact Drawn0.refl _ | apply Drawn0.step)⟩
      ·rw [if_neg c6] at H;exact absurd H (by simp)
     ·rw [if_neg c5] at H;exact absurd H (by simp)
    ·rw [if_neg c4] at H;have c4b0:=decide_eq_false c4;clear c4;obtain rfl:=Option.some.inj H;go_wp2
     repeat (go_quiet (fail);try go_wp2)
     go_ret
     exact⟨by first | rfl | (simp;done) | (simp [*];done),by repeat (first | exact Drawn0.refl _ | apply Drawn0.step)⟩
 ·rw [if_neg c3] at H;have c3b0:=e3_ c3;have c3b1:=e4_ c3;have c3b2:(l0.length==l1.length)=false:=by first | simpa using c3 | (simp at c3 ⊢;omega)
  obtain rfl:=Option.some.inj H
  go_enter Try.func12,Try.ntmps12
  go_wp2
  repeat (go_quiet (fail);try go_wp2)
  go_ret
  exact⟨by first | rfl | (simp;done) | (simp [*];done),by repeat (first | exact Drawn0.refl _ | apply Drawn0.step)⟩
def impl_PivotOf.f (k:Nat) (ae:List (List Int)) (af:List Int) (a1:Int):Option (Int × (List (List Int)) × List Int × Int):=(impl_pivotOf.f k ae af a1).bind fun aa=>(some (aa.1,aa.2.1,aa.2.2.1,aa.2.2.2))
theorem impl_PivotOf.mono: ∀a0 a1 a2 k,LeO (impl_PivotOf.f k a0 a1 a2) (impl_PivotOf.f (k+1) a0 a1 a2):=by
 intro a0 a1 a2 k
 unfold impl_PivotOf.f
 repeat' first | (with_reducible first | exact impl_pivotOf.mono _ _ _ _ | exact LeO.refl _ | exact LeO.none _ | refine LeO.ite ?_ ?_ | refine LeO.bind ?_ (fun _=>?_)) | exact impl_pivotOf.mono _ _ _ _ | exact LeO.none _ | refine LeO.ite ?_ ?_ | refine LeO.bind ?_ (fun _=>?_)
theorem impl_PivotOf.calls (k:Nat) (au:Option Addr) (av:Nat) (ag:List (List Int)) (aw:Option Addr) (ax:Nat) (ah:List Int) (a1:Int) (r1:Int) (r2:List (List Int)) (r3:List Int) (r4:Int) (w:World) (aI:Kd.C (Kd.slice 2 (Kd.int .i64)) w au ag.length ag) (aJ:ag.length≤av) (aK:Kd.C (Kd.int .i64) w aw ah.length ah) (aM:ah.length≤ax) (h:impl_PivotOf.f k ag ah a1=some (r1,r2,r3,r4)):
  Calls Try.prog 22 #[.agg #[.slice au ag.length av, .slice aw ah.length ax], .int .i64 a1] w fun e w'=> ∃v1_ v2_:Value,e= .returned (.tuple #[.agg #[.int .i64 r1,v1_,v2_], .int .i64 r4])∧Kd.S (Kd.slice 2 (Kd.int .i64)) 25 w' w.heap.size (fun k_=>some k_≠(v2_:Value).ownBlock) v1_ r2∧Kd.R (Kd.int .i64) 2 w' w.heap.size (fun _=>True) v2_ r3∧Below w.heap.size w w':=by
 have hu27:=Try.underlying27;have hu49:=Try.underlying49;have HR0_0:=q_ aI;have HC0_0:=q_ aJ;clear aI aJ;have HR0_1:=q_ aK;have HC0_1:=q_ aM;clear aK aM;have HB:=q_ (Below.refl w.heap.size w);have H:((impl_pivotOf.f k ag ah a1).bind fun aq=>(some (aq.1,aq.2.1,aq.2.2.1,aq.2.2.2)))=some (r1,r2,r3,r4):=h;clear h;replace H:=Option.bind_eq_some_iff.mp H;obtain⟨⟨aj,ak,ay,aT⟩,A30,H⟩:=H;replace H:(some (aj,ak,ay,aT))=some (r1,r2,r3,r4):=H;have A3:=q_ A30;clear A30;simp only [Option.some.injEq,Prod.mk.injEq] at H;obtain⟨rfl,rfl,rfl,rfl⟩:=H
 go_enter Try.func22,Try.ntmps22
 go_wp2_with (first | ((with_reducible refine gate_dst (N:=2) rfl ?_);refine be_ 2 #[.slice au ag.length av, .slice aw ah.length ax] 27 ?_;intro ai hg w4 hbox hb;have af:=q_ (hbox);have bz:=q_ ((by rw [hg];exact bz_:w.heap.size≤ai));have bA:=q_ ((by rw [hg];exact bz_:w.heap.size≤ai));replace HB:=q_ (bs_ hb);clear hb hbox hg) | ((with_reducible refine gate_dst (N:=4) rfl ?_);refine be_ 4 #[.int .i64 0, .slice none 0 0, .slice none 0 0] 49 ?_;intro aa hg w5 hbox hb;have ae:=q_ (hbox);have bC:=q_ ((by rw [hg];exact bz_:w.heap.size≤aa));have bD:=q_ ((by rw [hg];exact bz_:w.heap.size≤aa));have aC:=q_ ((by rw [hg];exact lt_ af.out:ai≠aa));have aD:=q_ ((by rw [hg];exact gt_ af.out:aa≠ai));replace af:=q_ (bb_ af.out hb);replace HB:=q_ (bs_ hb);clear hb hbox hg;have bE:=aC.out;have bF:=aD.out;have a9:=cz_ af 0;have ba:=cz_ af 1;have bf:=blk_frozen af.out 0;have bg:=blk_frozen af.out 1) | ((with_reducible refine gate_callee (f:=47) rfl ?_);refine gL_ 8 Try.func47 #[.agg #[.slice au ag.length av, .slice aw ah.length ax], .int .i64 a1] ?_;(with_reducible refine(impl_pivotOf.calls k _ _ ag _ _ ah a1 aj ak ay aT _ ?aU ?aV ?aW ?aX A3.out).mono ?_);(case aU=>exact cb_ HR0_0.out HB.out);(case aV=>exact HC0_0.out);(case aW=>exact cb_ HR0_1.out HB.out);(case aX=>exact HC0_1.out);rintro e w8 ⟨bG,bH,rfl,ho0,ho1,hb⟩;refine⟨_,rfl,?_⟩;have aN:=q_ (Kd.S_lower ho0 bz_);have aQ:=q_ (Kd.R_lower ho1 bz_);replace af:=q_ (bb_ af.out hb);replace ae:=q_ (bb_ ae.out hb);replace HB:=q_ (bs_ hb);(try clear hb);(try clear hk);(try clear ho0);(try clear ho1);have bh:=cz_ ae 0;have bk:=cz_ ae 1;have bq:=cz_ ae 2;have bu:=blk_frozen ae.out 0;have bv:=blk_frozen ae.out 1;have bw:=blk_frozen ae.out 2;obtain⟨az,aA,aY⟩:=Kd.S_slice aN.out;subst aY;obtain⟨aG,aH,aZ⟩:=Kd.R_slice aQ.out;subst aZ))
 refine bodyPost_ret (results_ct rfl _ _ aa 49 #[.int .i64 aj, .slice az ak.length aA, .slice aG ay.length aH] (0,0) _ rfl (by(with_reducible repeat (first | refine blk_drewN ?_ _ | refine blk_drew ?_ | refine blk_alloc ?_ _));refine blk_put (cs:= #[.int .i64 aj, .slice az ak.length aA, .slice none 0 0]) ?_ 2 _ rfl;(with_reducible repeat (first | refine blk_drewN ?_ _ | refine blk_drew ?_ | refine blk_alloc ?_ _));refine blk_put (cs:= #[.int .i64 aj, .slice none 0 0, .slice none 0 0]) ?_ 1 _ rfl;(with_reducible repeat (first | refine blk_drewN ?_ _ | refine blk_drew ?_ | refine blk_alloc ?_ _));refine blk_put (cs:= #[.int .i64 0, .slice none 0 0, .slice none 0 0]) ?_ 0 _ rfl;(with_reducible repeat (first | refine blk_drewN ?_ _ | refine blk_drew ?_ | refine blk_alloc ?_ _));exact ae.out) Try.underlying49 rfl (by kernel_rfl)) rfl ?_
 exact⟨_,_,by first | rfl | (simp [errW_none,errW_some] <;> rfl) | (simp [*,errW_none,errW_some] <;> rfl),by(with_reducible repeat (first | apply Kd.S_alloc | apply Kd.S_drewN | apply Kd.S_drew));exact Kd.S_mono (Kd.S_far (p:=⟨aa,2,none⟩) (Kd.S_far (p:=⟨aa,1,none⟩) (Kd.S_far (p:=⟨aa,0,none⟩) (Kd.S_types aN.out ae.out (by decide)) (fun _ hk=>hk.2) (.int .i64 aj)) (fun _ hk=>hk.2) (.slice az ak.length aA)) (fun _ hk=>hk.2) (.slice aG ay.length aH)) (fun _ hk=>hk.1),by(with_reducible repeat (first | apply Kd.R_alloc | apply Kd.R_drewN | apply Kd.R_drew));exact Kd.R_mono (Kd.R_far (p:=⟨aa,2,none⟩) (Kd.R_far (p:=⟨aa,1,none⟩) (Kd.R_far (p:=⟨aa,0,none⟩) (Kd.R_types aQ.out ae.out (by decide)) (fun _ hk=>hk.2) (.int .i64 aj)) (fun _ hk=>hk.2) (.slice az ak.length aA)) (fun _ hk=>hk.2) (.slice aG ay.length aH)) (fun _ hk=>trivial),hb_⟩
def spec_PivotOf.f (k:Nat) (ae:List (List Int)) (af:List Int) (a1:Int):Option (Int × (List (List Int)) × List Int × Int):=(spec_l02Code.f k ae af a1).bind fun ag=>(if ag=0 then((spec_l04Pivot.f k ae af a1).bind fun aa=>(if aa.2.2.2=true then(some (aa.1,aa.2.1,aa.2.2.1,0)) else(some (0,([]:List (List Int)),([]:List Int),5)))) else(some (0,([]:List (List Int)),([]:List Int),ag)))
theorem spec_PivotOf.mono: ∀a0 a1 a2 k,LeO (spec_PivotOf.f k a0 a1 a2) (spec_PivotOf.f (k+1) a0 a1 a2):=by
 intro a0 a1 a2 k
 unfold spec_PivotOf.f
 repeat' first | (with_reducible first | exact spec_l02Code.mono _ _ _ _ | exact spec_l04Pivot.mono _ _ _ _ | exact LeO.refl _ | exact LeO.none _ | refine LeO.ite ?_ ?_ | refine LeO.bind ?_ (fun _=>?_)) | exact spec_l02Code.mono _ _ _ _ | exact spec_l04Pivot.mono _ _ _ _ | exact LeO.none _ | refine LeO.ite ?_ ?_ | refine LeO.bind ?_ (fun _=>?_)
theorem spec_PivotOf.calls (k:Nat) (au:Option Addr) (av:Nat) (ai:List (List Int)) (aw:Option Addr) (ax:Nat) (aj:List Int) (a1:Int) (r1:Int) (r2:List (List Int)) (r3:List Int) (r4:Int) (w:World) (a9:Kd.C (Kd.slice 2 (Kd.int .i64)) w au ai.length ai) (ba:ai.length≤av) (bf:Kd.C (Kd.int .i64) w aw aj.length aj) (bg:aj.length≤ax) (h:spec_PivotOf.f k ai aj a1=some (r1,r2,r3,r4)):
  Calls Try.prog 23 #[.agg #[.slice au ai.length av, .slice aw aj.length ax], .int .i64 a1] w fun e w'=> ∃v1_ v2_:Value,e= .returned (.tuple #[.agg #[.int .i64 r1,v1_,v2_], .int .i64 r4])∧Kd.S (Kd.slice 2 (Kd.int .i64)) 25 w' w.heap.size (fun k_=>some k_≠(v2_:Value).ownBlock) v1_ r2∧Kd.R (Kd.int .i64) 2 w' w.heap.size (fun _=>True) v2_ r3∧Below w.heap.size w w':=by
 have hu27:=Try.underlying27;have hu49:=Try.underlying49;have HR0_0:=q_ a9;have HC0_0:=q_ ba;clear a9 ba;have HR0_1:=q_ bf;have HC0_1:=q_ bg;clear bf bg;have HB:=q_ (Below.refl w.heap.size w);have H:((spec_l02Code.f k ai aj a1).bind fun ay=>(if ay=0 then((spec_l04Pivot.f k ai aj a1).bind fun aC=>(if aC.2.2.2=true then(some (aC.1,aC.2.1,aC.2.2.1,0)) else(some (0,([]:List (List Int)),([]:List Int),5)))) else(some (0,([]:List (List Int)),([]:List Int),ay))))=some (r1,r2,r3,r4):=h;clear h;replace H:=Option.bind_eq_some_iff.mp H;obtain⟨ay,A30,H⟩:=H;replace H:(if ay=0 then((spec_l04Pivot.f k ai aj a1).bind fun aC=>(if aC.2.2.2=true then(some (aC.1,aC.2.1,aC.2.2.1,0)) else(some (0,([]:List (List Int)),([]:List Int),5)))) else(some (0,([]:List (List Int)),([]:List Int),ay)))=some (r1,r2,r3,r4):=H;have A3:=q_ A30;clear A30
 by_cases c4:ay=0
 ·rw [if_pos c4] at H;have c4b0:=e1_ c4;have c4b1:=e2_ c4;clear c4;replace H:=Option.bind_eq_some_iff.mp H;obtain⟨⟨aJ,aN,aQ,bv⟩,A50,H⟩:=H;replace H:(if bv=true then(some (aJ,aN,aQ,0)) else(some (0,([]:List (List Int)),([]:List Int),5)))=some (r1,r2,r3,r4):=H;have A5:=q_ A50;clear A50
  by_cases c6:bv=true
  ·subst c6;have H1:(some (aJ,aN,aQ,0))=some (r1,r2,r3,r4):=by rw [if_pos rfl] at H;exact H
   clear H;have H:=H1;clear H1;simp only [Option.some.injEq,Prod.mk.injEq] at H;obtain⟨rfl,rfl,rfl,rfl⟩:=H
   go_enter Try.func23,Try.ntmps23
   go_wp2_with (first | ((with_reducible refine gate_dst (N:=2) rfl ?_);refine be_ 2 #[.slice au ai.length av, .slice aw aj.length ax] 27 ?_;intro ag hg w7 hbox hb;have aa:=q_ (hbox);have bh:=q_ ((by rw [hg];exact bz_:w.heap.size≤ag));have bk:=q_ ((by rw [hg];exact bz_:w.heap.size≤ag));replace HB:=q_ (bs_ hb);clear hb hbox hg) | ((with_reducible refine gate_dst (N:=4) rfl ?_);refine be_ 4 #[.int .i64 0, .slice none 0 0, .slice none 0 0] 49 ?_;intro af hg w8 hbox hb;have ae:=q_ (hbox);have bq:=q_ ((by rw [hg];exact bz_:w.heap.size≤af));have bu:=q_ ((by rw [hg];exact bz_:w.heap.size≤af));have az:=q_ ((by rw [hg];exact lt_ aa.out:ag≠af));have aA:=q_ ((by rw [hg];exact gt_ aa.out:af≠ag));replace aa:=q_ (bb_ aa.out hb);replace HB:=q_ (bs_ hb);clear hb hbox hg;have dH:=az.out;have dI:=aA.out;have bH:=cz_ aa 0;have bI:=cz_ aa 1;have bJ:=blk_frozen aa.out 0;have bK:=blk_frozen aa.out 1) | ((with_reducible refine gate_callee (f:=42) rfl ?_);refine gL_ 11 Try.func42 #[.agg #[.slice au ai.length av, .slice aw aj.length ax], .int .i64 a1] ?_;(with_reducible refine(spec_l02Code.calls k _ _ ai _ _ aj a1 ay _ ?aD ?aG ?aH ?aI A3.out).mono ?_);(case aD=>exact cb_ HR0_0.out HB.out);(case aG=>exact HC0_0.out);(case aH=>exact cb_ HR0_1.out HB.out);(case aI=>exact HC0_1.out);rintro e w11 ⟨rfl,hb⟩;refine⟨_,rfl,?_⟩;replace aa:=q_ (bb_ aa.out hb);replace ae:=q_ (bb_ ae.out hb);replace HB:=q_ (bs_ hb);(try clear hb);(try clear hk);have bL:=cz_ aa 0;have bM:=cz_ aa 1;have bN:=blk_frozen aa.out 0;have bO:=blk_frozen aa.out 1) | ((with_reducible refine gate_callee (f:=49) rfl ?_);refine gL_ 19 Try.func49 #[.agg #[.slice au ai.length av, .slice aw aj.length ax], .int .i64 a1] ?_;(with_reducible refine(spec_l04Pivot.calls k _ _ ai _ _ aj a1 aJ aN aQ true _ ?aD ?aG ?aH ?aI A5.out).mono ?_);(case aD=>exact cb_ HR0_0.out HB.out);(case aG=>exact HC0_0.out);(case aH=>exact cb_ HR0_1.out HB.out);(case aI=>exact HC0_1.out);rintro e w13 ⟨bA,bC,rfl,ho0,ho1,hb⟩;refine⟨_,rfl,?_⟩;have aK:=q_ (Kd.S_lower ho0 bz_);have aM:=q_ (Kd.R_lower ho1 bz_);replace aa:=q_ (bb_ aa.out hb);replace ae:=q_ (bb_ ae.out hb);replace HB:=q_ (bs_ hb);(try clear hb);(try clear hk);(try clear ho0);(try clear ho1)) | ((with_reducible refine gate_dst (N:=7) rfl ?_);refine be_ 7 #[.int .i64 0, .slice none 0 0, .slice none 0 0] 49 ?_;intro ah hg w14 hbox hb;replace aK:=q_ (Kd.S_below (so_ aK.out) hb);replace aM:=q_ (rb_ aM.out hb);have aq:=q_ (hbox);have bw:=q_ ((by rw [hg];exact bz_:w.heap.size≤ah));have bz:=q_ ((by rw [hg];exact bz_:w.heap.size≤ah));have aT:=q_ ((by rw [hg];exact lt_ aa.out:ag≠ah));have aU:=q_ ((by rw [hg];exact gt_ aa.out:ah≠ag));have ak:=q_ ((by rw [hg];exact lt_ ae.out:af≠ah));have aV:=q_ ((by rw [hg];exact gt_ ae.out:ah≠af));replace aa:=q_ (bb_ aa.out hb);replace ae:=q_ (bb_ ae.out hb);replace HB:=q_ (bs_ hb);clear hb hbox hg;have dr:=aU.out;have du:=aT.out;have dw:=aV.out;have dx:=ak.out;have bP:=cz_ aq 0;have bQ:=cz_ aq 1;have bR:=cz_ aq 2;have bS:=blk_frozen aq.out 0;have bT:=blk_frozen aq.out 1;have bU:=blk_frozen aq.out 2;obtain⟨aW,aX,bD⟩:=Kd.S_slice aK.out;subst bD;obtain⟨aY,aZ,bE⟩:=Kd.R_slice aM.out;subst bE;have bV:=cz_ ae 0;have bW:=cz_ ae 1;have bX:=cz_ ae 2;have bY:=blk_frozen ae.out 0;have bZ:=blk_frozen ae.out 1;have cf:=blk_frozen ae.out 2))
   refine bodyPost_ret (results_ct rfl _ _ af 49 #[.int .i64 aJ, .slice aW aN.length aX, .slice aY aQ.length aZ] (0,0) _ rfl (by(with_reducible repeat (first | refine blk_drewN ?_ _ | refine blk_drew ?_ | refine blk_alloc ?_ _));refine blk_put (cs:= #[.int .i64 aJ, .slice aW aN.length aX, .slice none 0 0]) ?_ 2 _ rfl;(with_reducible repeat (first | refine blk_drewN ?_ _ | refine blk_drew ?_ | refine blk_alloc ?_ _));refine blk_put (cs:= #[.int .i64 aJ, .slice none 0 0, .slice none 0 0]) ?_ 1 _ rfl;(with_reducible repeat (first | refine blk_drewN ?_ _ | refine blk_drew ?_ | refine blk_alloc ?_ _));refine blk_put (cs:= #[.int .i64 0, .slice none 0 0, .slice none 0 0]) ?_ 0 _ rfl;(with_reducible repeat (first | refine blk_drewN ?_ _ | refine blk_drew ?_ | refine blk_alloc ?_ _));refine blk_far ?_ ak.out _;(with_reducible repeat (first | refine blk_drewN ?_ _ | refine blk_drew ?_ | refine blk_alloc ?_ _));refine blk_far ?_ ak.out _;(with_reducible repeat (first | refine blk_drewN ?_ _ | refine blk_drew ?_ | refine blk_alloc ?_ _));refine blk_far ?_ ak.out _;(with_reducible repeat (first | refine blk_drewN ?_ _ | refine blk_drew ?_ | refine blk_alloc ?_ _));exact ae.out) Try.underlying49 rfl (by kernel_rfl)) rfl ?_
   exact⟨_,_,by first | rfl | (simp [errW_none,errW_some] <;> rfl) | (simp [*,errW_none,errW_some] <;> rfl),by(with_reducible repeat (first | apply Kd.S_alloc | apply Kd.S_drewN | apply Kd.S_drew));exact Kd.S_mono (Kd.S_far (p:=⟨af,2,none⟩) (Kd.S_far (p:=⟨af,1,none⟩) (Kd.S_far (p:=⟨af,0,none⟩) (Kd.S_far (p:=⟨ah,2,none⟩) (Kd.S_far (p:=⟨ah,1,none⟩) (Kd.S_far (p:=⟨ah,0,none⟩) (Kd.S_types (Kd.S_types aK.out aq.out (by decide)) ae.out (by decide)) (fun _ hk=>hk.1.2) (.int .i64 aJ)) (fun _ hk=>hk.1.2) (.slice aW aN.length aX)) (fun _ hk=>hk.1.2) (.slice aY aQ.length aZ)) (fun _ hk=>hk.2) (.int .i64 aJ)) (fun _ hk=>hk.2) (.slice aW aN.length aX)) (fun _ hk=>hk.2) (.slice aY aQ.length aZ)) (fun _ hk=>hk.1.1),by(with_reducible repeat (first | apply Kd.R_alloc | apply Kd.R_drewN | apply Kd.R_drew));exact Kd.R_mono (Kd.R_far (p:=⟨af,2,none⟩) (Kd.R_far (p:=⟨af,1,none⟩) (Kd.R_far (p:=⟨af,0,none⟩) (Kd.R_far (p:=⟨ah,2,none⟩) (Kd.R_far (p:=⟨ah,1,none⟩) (Kd.R_far (p:=⟨ah,0,none⟩) (Kd.R_types (Kd.R_types aM.out aq.out (by decide)) ae.out (by decide)) (fun _ hk=>hk.1.2) (.int .i64 aJ)) (fun _ hk=>hk.1.2) (.slice aW aN.length aX)) (fun _ hk=>hk.1.2) (.slice aY aQ.length aZ)) (fun _ hk=>hk.2) (.int .i64 aJ)) (fun _ hk=>hk.2) (.slice aW aN.length aX)) (fun _ hk=>hk.2) (.slice aY aQ.length aZ)) (fun _ hk=>trivial),hb_⟩
  ·replace c6:=Bool.eq_false_iff.mpr c6;subst c6;have H1:(some (0,([]:List (List Int)),([]:List Int),5))=some (r1,r2,r3,r4):=by rw [if_neg (show ¬ (false=true) by decide)] at H;exact H
   clear H;have H:=H1;clear H1;simp only [Option.some.injEq,Prod.mk.injEq] at H;obtain⟨rfl,rfl,rfl,rfl⟩:=H
   go_enter Try.func23,Try.ntmps23
   go_wp2_with (first | ((with_reducible refine gate_dst (N:=2) rfl ?_);refine be_ 2 #[.slice au ai.length av, .slice aw aj.length ax] 27 ?_;intro ag hg w21 hbox hb;have aa:=q_ (hbox);have bh:=q_ ((by rw [hg];exact bz_:w.heap.size≤ag));have bk:=q_ ((by rw [hg];exact bz_:w.heap.size≤ag));replace HB:=q_ (bs_ hb);clear hb hbox hg) | ((with_reducible refine gate_dst (N:=4) rfl ?_);refine be_ 4 #[.int .i64 0, .slice none 0 0, .slice none 0 0] 49 ?_;intro af hg w22 hbox hb;have ae:=q_ (hbox);have bq:=q_ ((by rw [hg];exact bz_:w.heap.size≤af));have bu:=q_ ((by rw [hg];exact bz_:w.heap.size≤af));have az:=q_ ((by rw [hg];exact lt_ aa.out:ag≠af));have aA:=q_ ((by rw [hg];exact gt_ aa.out:af≠ag));replace aa:=q_ (bb_ aa.out hb);replace HB:=q_ (bs_ hb);clear hb hbox hg;have dz:=az.out;have dA:=aA.out;have cg:=cz_ aa 0;have cm:=cz_ aa 1;have cu:=blk_frozen aa.out 0;have cz:=blk_frozen aa.out 1) | ((with_reducible refine gate_callee (f:=42) rfl ?_);refine gL_ 11 Try.func42 #[.agg #[.slice au ai.length av, .slice aw aj.length ax], .int .i64 a1] ?_;(with_reducible refine(spec_l02Code.calls k _ _ ai _ _ aj a1 ay _ ?aD ?aG ?aH ?aI A3.out).mono ?_);(case aD=>exact cb_ HR0_0.out HB.out);(case aG=>exact HC0_0.out);(case aH=>exact cb_ HR0_1.out HB.out);(case aI=>exact HC0_1.out);rintro e w25 ⟨rfl,hb⟩;refine⟨_,rfl,?_⟩;replace aa:=q_ (bb_ aa.out hb);replace ae:=q_ (bb_ ae.out hb);replace HB:=q_ (bs_ hb);(try clear hb);(try clear hk);have cA:=cz_ aa 0;have cB:=cz_ aa 1;have cC:=blk_frozen aa.out 0;have cD:=blk_frozen aa.out 1) | ((with_reducible refine gate_callee (f:=49) rfl ?_);refine gL_ 19 Try.func49 #[.agg #[.slice au ai.length av, .slice aw aj.length ax], .int .i64 a1] ?_;(with_reducible refine(spec_l04Pivot.calls k _ _ ai _ _ aj a1 aJ aN aQ false _ ?aD ?aG ?aH ?aI A5.out).mono ?_);(case aD=>exact cb_ HR0_0.out HB.out);(case aG=>exact HC0_0.out);(case aH=>exact cb_ HR0_1.out HB.out);(case aI=>exact HC0_1.out);rintro e w27 ⟨bA,bC,rfl,ho0,ho1,hb⟩;refine⟨_,rfl,?_⟩;have aK:=q_ (Kd.S_lower ho0 bz_);have aM:=q_ (Kd.R_lower ho1 bz_);replace aa:=q_ (bb_ aa.out hb);replace ae:=q_ (bb_ ae.out hb);replace HB:=q_ (bs_ hb);(try clear hb);(try clear hk);(try clear ho0);(try clear ho1)) | ((with_reducible refine gate_dst (N:=7) rfl ?_);refine be_ 7 #[.int .i64 0, .slice none 0 0, .slice none 0 0] 49 ?_;intro ah hg w28 hbox hb;replace aK:=q_ (Kd.S_below (so_ aK.out) hb);replace aM:=q_ (rb_ aM.out hb);have aq:=q_ (hbox);have bw:=q_ ((by rw [hg];exact bz_:w.heap.size≤ah));have bz:=q_ ((by rw [hg];exact bz_:w.heap.size≤ah));have aT:=q_ ((by rw [hg];exact lt_ aa.out:ag≠ah));have aU:=q_ ((by rw [hg];exact gt_ aa.out:ah≠ag));have ak:=q_ ((by rw [hg];exact lt_ ae.out:af≠ah));have aV:=q_ ((by rw [hg];exact gt_ ae.out:ah≠af));replace aa:=q_ (bb_ aa.out hb);replace ae:=q_ (bb_ ae.out hb);replace HB:=q_ (bs_ hb);clear hb hbox hg;have dB:=aU.out;have dC:=aT.out;have dD:=aV.out;have dE:=ak.out;have cE:=cz_ aq 0;have cF:=cz_ aq 1;have cG:=cz_ aq 2;have cH:=blk_frozen aq.out 0;have cI:=blk_frozen aq.out 1;have cJ:=blk_frozen aq.out 2;obtain⟨dJ,dK,bF⟩:=Kd.S_slice aK.out;subst bF;obtain⟨dL,dM,bG⟩:=Kd.R_slice aM.out;subst bG;have cK:=cz_ ae 0;have cL:=cz_ ae 1;have cN:=cz_ ae 2;have cO:=blk_frozen ae.out 0;have cP:=blk_frozen ae.out 1;have cQ:=blk_frozen ae.out 2))
   refine bodyPost_ret (results_ct rfl _ _ af 49 #[.int .i64 0, .slice none 0 0, .slice none 0 0] (0,0) _ rfl (by(with_reducible repeat (first | refine blk_drewN ?_ _ | refine blk_drew ?_ | refine blk_alloc ?_ _));refine blk_put (cs:= #[.int .i64 0, .slice none 0 0, .slice none 0 0]) ?_ 2 _ rfl;(with_reducible repeat (first | refine blk_drewN ?_ _ | refine blk_drew ?_ | refine blk_alloc ?_ _));refine blk_put (cs:= #[.int .i64 0, .slice none 0 0, .slice none 0 0]) ?_ 1 _ rfl;(with_reducible repeat (first | refine blk_drewN ?_ _ | refine blk_drew ?_ | refine blk_alloc ?_ _));refine blk_put (cs:= #[.int .i64 0, .slice none 0 0, .slice none 0 0]) ?_ 0 _ rfl;(with_reducible repeat (first | refine blk_drewN ?_ _ | refine blk_drew ?_ | refine blk_alloc ?_ _));refine blk_far ?_ ak.out _;(with_reducible repeat (first | refine blk_drewN ?_ _ | refine blk_drew ?_ | refine blk_alloc ?_ _));refine blk_far ?_ ak.out _;(with_reducible repeat (first | refine blk_drewN ?_ _ | refine blk_drew ?_ | refine blk_alloc ?_ _));refine blk_far ?_ ak.out _;(with_reducible repeat (first | refine blk_drewN ?_ _ | refine blk_drew ?_ | refine blk_alloc ?_ _));exact ae.out) Try.underlying49 rfl (by kernel_rfl)) rfl ?_
   exact⟨_,_,by first | rfl | (simp [errW_none,errW_some] <;> rfl) | (simp [*,errW_none,errW_some] <;> rfl),by first | exact Kd.S_nil _ _ _ _ _ | exact Kd.N_nil _ _ _ _ _ | exact Kd.V_nil _ _ _ _ _ | exact Kd.Q_nil _ _ _ _ _ | exact Kd.R_nil _ _ _ _ _,by first | exact Kd.R_nil _ _ _ _ _ | exact Kd.N_nil _ _ _ _ _ | exact Kd.V_nil _ _ _ _ _ | exact Kd.Q_nil _ _ _ _ _ | exact Kd.S_nil _ _ _ _ _,hb_⟩
 ·rw [if_neg c4] at H;have c4b0:=e3_ c4;have c4b1:=e4_ c4;simp only [Option.some.injEq,Prod.mk.injEq] at H;obtain⟨rfl,rfl,rfl,rfl⟩:=H
  go_enter Try.func23,Try.ntmps23
  go_wp2_with (first | ((with_reducible refine gate_dst (N:=2) rfl ?_);refine be_ 2 #[.slice au ai.length av, .slice aw aj.length ax] 27 ?_;intro ag hg w35 hbox hb;have aa:=q_ (hbox);have bh:=q_ ((by rw [hg];exact bz_:w.heap.size≤ag));have bk:=q_ ((by rw [hg];exact bz_:w.heap.size≤ag));replace HB:=q_ (bs_ hb);clear hb hbox hg) | ((with_reducible refine gate_dst (N:=4) rfl ?_);refine be_ 4 #[.int .i64 0, .slice none 0 0, .slice none 0 0] 49 ?_;intro af hg w36 hbox hb;have ae:=q_ (hbox);have bq:=q_ ((by rw [hg];exact bz_:w.heap.size≤af));have bu:=q_ ((by rw [hg];exact bz_:w.heap.size≤af));have az:=q_ ((by rw [hg];exact lt_ aa.out:ag≠af));have aA:=q_ ((by rw [hg];exact gt_ aa.out:af≠ag));replace aa:=q_ (bb_ aa.out hb);replace HB:=q_ (bs_ hb);clear hb hbox hg;have dF:=az.out;have dG:=aA.out;have cR:=cz_ aa 0;have cT:=cz_ aa 1;have cU:=blk_frozen aa.out 0;have cV:=blk_frozen aa.out 1) | ((with_reducible refine gate_callee (f:=42) rfl ?_);refine gL_ 11 Try.func42 #[.agg #[.slice au ai.length av, .slice aw aj.length ax], .int .i64 a1] ?_;(with_reducible refine(spec_l02Code.calls k _ _ ai _ _ aj a1 ay _ ?aD ?aG ?aH ?aI A3.out).mono ?_);(case aD=>exact cb_ HR0_0.out HB.out);(case aG=>exact HC0_0.out);(case aH=>exact cb_ HR0_1.out HB.out);(case aI=>exact HC0_1.out);rintro e w39 ⟨rfl,hb⟩;refine⟨_,rfl,?_⟩;replace aa:=q_ (bb_ aa.out hb);replace ae:=q_ (bb_ ae.out hb);replace HB:=q_ (bs_ hb);(try clear hb);(try clear hk);have cZ:=cz_ ae 0;have da:=cz_ ae 1;have df:=cz_ ae 2;have dh:=blk_frozen ae.out 0;have di:=blk_frozen ae.out 1;have dl:=blk_frozen ae.out 2))
  refine bodyPost_ret (results_ct rfl _ _ af 49 #[.int .i64 0, .slice none 0 0, .slice none 0 0] (0,0) _ rfl (by(with_reducible repeat (first | refine blk_drewN ?_ _ | refine blk_drew ?_ | refine blk_alloc ?_ _));refine blk_put (cs:= #[.int .i64 0, .slice none 0 0, .slice none 0 0]) ?_ 2 _ rfl;(with_reducible repeat (first | refine blk_drewN ?_ _ | refine blk_drew ?_ | refine blk_alloc ?_ _));refine blk_put (cs:= #[.int .i64 0, .slice none 0 0, .slice none 0 0]) ?_ 1 _ rfl;(with_reducible repeat (first | refine blk_drewN ?_ _ | refine blk_drew ?_ | refine blk_alloc ?_ _));refine blk_put (cs:= #[.int .i64 0, .slice none 0 0, .slice none 0 0]) ?_ 0 _ rfl;(with_reducible repeat (first | refine blk_drewN ?_ _ | refine blk_drew ?_ | refine blk_alloc ?_ _));exact ae.out) Try.underlying49 rfl (by kernel_rfl)) rfl ?_
  exact⟨_,_,by first | rfl | (simp [errW_none,errW_some] <;> rfl) | (simp [*,errW_none,errW_some] <;> rfl),by first | exact Kd.S_nil _ _ _ _ _ | exact Kd.N_nil _ _ _ _ _ | exact Kd.V_nil _ _ _ _ _ | exact Kd.Q_nil _ _ _ _ _ | exact Kd.R_nil _ _ _ _ _,by first | exact Kd.R_nil _ _ _ _ _ | exact Kd.N_nil _ _ _ _ _ | exact Kd.V_nil _ _ _ _ _ | exact Kd.Q_nil _ _ _ _ _ | exact Kd.S_nil _ _ _ _ _,hb_⟩
def laws_pivot9.f (k:Nat) (a0_0:Int) (aa:List (List Int)) (ae:List Int) (a1_0:Int) (af:List (List Int)) (ag:List Int):Option (Bool):=if a0_0=a1_0 then((laws_rows9.f k aa af).bind fun ah=>(if ah=true then((laws_likeInts.f k ae ag).bind fun ai=>(some ai)) else(some false))) else(some false)
theorem laws_pivot9.mono: ∀a0 a1 a2 a3 a4 a5 k,LeO (laws_pivot9.f k a0 a1 a2 a3 a4 a5) (laws_pivot9.f (k+1) a0 a1 a2 a3 a4 a5):=by
 intro a0 a1 a2 a3 a4 a5 k
 unfold laws_pivot9.f
 repeat' first | (with_reducible first | exact laws_likeInts.mono _ _ _ | exact laws_rows9.mono _ _ _ | exact LeO.refl _ | exact LeO.none _ | refine LeO.ite ?_ ?_ | refine LeO.bind ?_ (fun _=>?_)) | exact laws_likeInts.mono _ _ _ | exact laws_rows9.mono _ _ _ | exact LeO.none _ | refine LeO.ite ?_ ?_ | refine LeO.bind ?_ (fun _=>?_)
theorem laws_pivot9.calls (k:Nat) (a0_0:Int) (av:Option Addr) (aw:Nat) (aj:List (List Int)) (ax:Option Addr) (ay:Nat) (ah:List Int) (a1_0:Int) (az:Option Addr) (aA:Nat) (ak:List (List Int)) (aC:Option Addr) (aD:Nat) (ai:List Int) (r:Bool) (w:World) (aN:Kd.C (Kd.slice 2 (Kd.int .i64)) w av aj.length aj) (aQ:aj.length≤aw) (aT:Kd.C (Kd.int .i64) w ax ah.length ah) (aU:ah.length≤ay) (aV:Kd.C (Kd.slice 2 (Kd.int .i64)) w az ak.length ak) (aW:ak.length≤aA) (aX:Kd.C (Kd.int .i64) w aC ai.length ai) (aY:ai.length≤aD) (h:laws_pivot9.f k a0_0 aj ah a1_0 ak ai=some r):
  Calls Try.prog 24 #[.agg #[.int .i64 a0_0, .slice av aj.length aw, .slice ax ah.length ay], .agg #[.int .i64 a1_0, .slice az ak.length aA, .slice aC ai.length aD]] w fun e w'=>e= .returned (.bool r)∧Below w.heap.size w w':=by
 have hu49:=Try.underlying49;have HR0_1:=q_ aN;have HC0_1:=q_ aQ;clear aN aQ;have HR0_2:=q_ aT;have HC0_2:=q_ aU;clear aT aU;have HR1_1:=q_ aV;have HC1_1:=q_ aW;clear aV aW;have HR1_2:=q_ aX;have HC1_2:=q_ aY;clear aX aY;have HB:=q_ (Below.refl w.heap.size w);have H:(if a0_0=a1_0 then((laws_rows9.f k aj ak).bind fun aM=>(if aM=true then((laws_likeInts.f k ah ai).bind fun aG=>(some aG)) else(some false))) else(some false))=some r:=h;clear h
 by_cases c3:a0_0=a1_0
 ·rw [if_pos c3] at H;have c3b0:=e1_ c3;have c3b1:=e2_ c3;clear c3;replace H:=Option.bind_eq_some_iff.mp H;obtain⟨aM,A40,H⟩:=H;replace H:(if aM=true then((laws_likeInts.f k ah ai).bind fun aG=>(some aG)) else(some false))=some r:=H;have A4:=q_ A40;clear A40
  by_cases c5:aM=true
  ·subst c5;have H1:((laws_likeInts.f k ah ai).bind fun aG=>(some aG))=some r:=by rw [if_pos rfl] at H;exact H
   clear H;have H:=H1;clear H1;replace H:=Option.bind_eq_some_iff.mp H;obtain⟨aG,A60,H⟩:=H;replace H:(some aG)=some r:=H;have A6:=q_ A60;clear A60;obtain rfl:=Option.some.inj H
   go_enter Try.func24,Try.ntmps24
   go_wp2_with (first | ((with_reducible refine gate_dst (N:=2) rfl ?_);refine be_ 2 #[.int .i64 a0_0, .slice av aj.length aw, .slice ax ah.length ay] 49 ?_;intro ae hg w7 hbox hb;have aa:=q_ (hbox);have aZ:=q_ ((by rw [hg];exact bz_:w.heap.size≤ae));have a9:=q_ ((by rw [hg];exact bz_:w.heap.size≤ae));replace HB:=q_ (bs_ hb);clear hb hbox hg) | ((with_reducible refine gate_dst (N:=3) rfl ?_);refine be_ 3 #[.int .i64 a1_0, .slice az ak.length aA, .slice aC ai.length aD] 49 ?_;intro af hg w8 hbox hb;have ag:=q_ (hbox);have ba:=q_ ((by rw [hg];exact bz_:w.heap.size≤af));have bf:=q_ ((by rw [hg];exact bz_:w.heap.size≤af));have aq:=q_ ((by rw [hg];exact lt_ aa.out:ae≠af));have au:=q_ ((by rw [hg];exact gt_ aa.out:af≠ae));replace aa:=q_ (bb_ aa.out hb);replace HB:=q_ (bs_ hb);clear hb hbox hg;have cC:=aq.out;have cD:=au.out;have bg:=cz_ aa 0;have bh:=cz_ aa 1;have bk:=cz_ aa 2;have bq:=blk_frozen aa.out 0;have bu:=blk_frozen aa.out 1;have bv:=blk_frozen aa.out 2;have bw:=cz_ ag 0;have bz:=cz_ ag 1;have bA:=cz_ ag 2;have bC:=blk_frozen ag.out 0;have bD:=blk_frozen ag.out 1;have bE:=blk_frozen ag.out 2) | (go_at_call 12;(with_reducible refine(laws_rows9.calls k _ _ aj _ _ ak true _ ?aH ?aI ?aJ ?aK A4.out).mono ?_);(case aH=>exact cb_ HR0_1.out HB.out);(case aI=>exact HC0_1.out);(case aJ=>exact cb_ HR1_1.out HB.out);(case aK=>exact HC1_1.out);rintro e w' ⟨rfl,⟨nd,rfl⟩⟩) | (go_at_call 16;(with_reducible refine(laws_likeInts.calls k _ _ ah _ _ ai aG _ ?aH ?aI ?aJ ?aK A6.out).mono ?_);(case aH=>repeat (first | exact(Kd.C_below HR0_2.out hb_) | (with_reducible refine Kd.C_alloc ?_ _) | (with_reducible refine Kd.C_drewN ?_ _) | (with_reducible refine Kd.C_drew ?_)));(case aI=>exact HC0_2.out);(case aJ=>repeat (first | exact(Kd.C_below HR1_2.out hb_) | (with_reducible refine Kd.C_alloc ?_ _) | (with_reducible refine Kd.C_drewN ?_ _) | (with_reducible refine Kd.C_drew ?_)));(case aK=>exact HC1_2.out);rintro e w' ⟨rfl,⟨nd,rfl⟩⟩))
   go_ret
   exact⟨by first | rfl | (simp [errW_none,errW_some] <;> rfl) | (simp [*,errW_none,errW_some] <;> rfl),hb_⟩
  ·replace c5:=Bool.eq_false_iff.mpr c5;subst c5;have H1:(some false)=some r:=by rw [if_neg (show ¬ (false=true) by decide)] at H;exact H
   clear H;have H:=H1;clear H1;obtain rfl:=Option.some.inj H
   go_enter Try.func24,Try.ntmps24
   go_wp2_with (first | ((with_reducible refine gate_dst (N:=2) rfl ?_);refine be_ 2 #[.int .i64 a0_0, .slice av aj.length aw, .slice ax ah.length ay] 49 ?_;intro ae hg w12 hbox hb;have aa:=q_ (hbox);have aZ:=q_ ((by rw [hg];exact bz_:w.heap.size≤ae));have a9:=q_ ((by rw [hg];exact bz_:w.heap.size≤ae));replace HB:=q_ (bs_ hb);clear hb hbox hg) | ((with_reducible refine gate_dst (N:=3) rfl ?_);refine be_ 3 #[.int .i64 a1_0, .slice az ak.length aA, .slice aC ai.length aD] 49 ?_;intro af hg w13 hbox hb;have ag:=q_ (hbox);have ba:=q_ ((by rw [hg];exact bz_:w.heap.size≤af));have bf:=q_ ((by rw [hg];exact bz_:w.heap.size≤af));have aq:=q_ ((by rw [hg];exact lt_ aa.out:ae≠af));have au:=q_ ((by rw [hg];exact gt_ aa.out:af≠ae));replace aa:=q_ (bb_ aa.out hb);replace HB:=q_ (bs_ hb);clear hb hbox hg;have cu:=aq.out;have cz:=au.out;have bF:=cz_ aa 0;have bG:=cz_ aa 1;have bH:=cz_ aa 2;have bI:=blk_frozen aa.out 0;have bJ:=blk_frozen aa.out 1;have bK:=blk_frozen aa.out 2;have bL:=cz_ ag 0;have bM:=cz_ ag 1;have bN:=cz_ ag 2;have bO:=blk_frozen ag.out 0;have bP:=blk_frozen ag.out 1;have bQ:=blk_frozen ag.out 2) | (go_at_call 12;(with_reducible refine(laws_rows9.calls k _ _ aj _ _ ak false _ ?aH ?aI ?aJ ?aK A4.out).mono ?_);(case aH=>exact cb_ HR0_1.out HB.out);(case aI=>exact HC0_1.out);(case aJ=>exact cb_ HR1_1.out HB.out);(case aK=>exact HC1_1.out);rintro e w' ⟨rfl,⟨nd,rfl⟩⟩))
   go_ret
   exact⟨by first | rfl | (simp [errW_none,errW_some] <;> rfl) | (simp [*,errW_none,errW_some] <;> rfl),hb_⟩
 ·rw [if_neg c3] at H;have c3b0:=e3_ c3;have c3b1:=e4_ c3;obtain rfl:=Option.some.inj H
  go_enter Try.func24,Try.ntmps24
  go_wp2_with (first | ((with_reducible refine gate_dst (N:=2) rfl ?_);refine be_ 2 #[.int .i64 a0_0, .slice av aj.length aw, .slice ax ah.length ay] 49 ?_;intro ae hg w17 hbox hb;have aa:=q_ (hbox);have aZ:=q_ ((by rw [hg];exact bz_:w.heap.size≤ae));have a9:=q_ ((by rw [hg];exact bz_:w.heap.size≤ae));replace HB:=q_ (bs_ hb);clear hb hbox hg) | ((with_reducible refine gate_dst (N:=3) rfl ?_);refine be_ 3 #[.int .i64 a1_0, .slice az ak.length aA, .slice aC ai.length aD] 49 ?_;intro af hg w18 hbox hb;have ag:=q_ (hbox);have ba:=q_ ((by rw [hg];exact bz_:w.heap.size≤af));have bf:=q_ ((by rw [hg];exact bz_:w.heap.size≤af));have aq:=q_ ((by rw [hg];exact lt_ aa.out:ae≠af));have au:=q_ ((by rw [hg];exact gt_ aa.out:af≠ae));replace aa:=q_ (bb_ aa.out hb);replace HB:=q_ (bs_ hb);clear hb hbox hg;have cA:=aq.out;have cB:=au.out;have bR:=cz_ aa 0;have bS:=cz_ aa 1;have bT:=cz_ aa 2;have bU:=blk_frozen aa.out 0;have bV:=blk_frozen aa.out 1;have bW:=blk_frozen aa.out 2;have bX:=cz_ ag 0;have bY:=cz_ ag 1;have bZ:=cz_ ag 2;have cf:=blk_frozen ag.out 0;have cg:=blk_frozen ag.out 1;have cm:=blk_frozen ag.out 2))
  go_ret
  exact⟨by first | rfl | (simp [errW_none,errW_some] <;> rfl) | (simp [*,errW_none,errW_some] <;> rfl),hb_⟩
end Go.Proofs.Ytbjljcpngbhkeaa.Pr
end
section
namespace Go.Proofs.Ytbjljcpngbhkeaa.Pp
open Go.RowKit Go.Proofs.YtbjljcpngbhkeaaW.PrintWords Go.Proofs.YtbjljcpngbhkeaaW.PrintMore Go.Proofs.Ytbjljcpngbhkeaa.Ma Go.Proofs.Ytbjljcpngbhkeaa.Pr Go.Proofs.Ytbjljcpngbhkeaa.Dt Go.Proofs.Ytbjljcpngbhkeaa.Bz Go.Proofs.Ytbjljcpngbhkeaa.Un Go.Proofs.Ytbjljcpngbhkeaa.Cz Go.Proofs.Ytbjljcpngbhkeaa.Pb Go.Proofs.Ytbjljcpngbhkeaa.Mn Go.Proofs.Ytbjljcpngbhkeaa.Sv Go.Proofs.Ytbjljcpngbhkeaa.Pv
structure Few (l:List (List Int)):Prop where
 len:l.length≤5
 row: ∀x ∈ l,x.length≤6
theorem Few.nil:Few []:=⟨by simp,fun x hx=>by simp at hx⟩
theorem pvR_len (n:Nat) (l:List (List Int)) (s:Int):(pvR n l s).length=n:=pR_len _ _ _ _ _
theorem pvR_row (n:Nat) (l:List (List Int)) (s:Int): ∀x ∈ pvR n l s,x.length=n:=by
 intro x hx
 unfold pvR pR at hx
 obtain⟨r,_,rfl⟩:=List.mem_map.1 hx
 simp
theorem pvS_len (n:Nat) (l:List (List Int)) (s:Int) (x:List Int):(pvS n l s x).length=n:=by simp [pvS]
theorem pvR_few {n:Nat} (hn:n≤5) (l:List (List Int)) (s:Int):Few (pvR n l s):=⟨by rw [pvR_len];exact hn,fun x hx=>by rw [pvR_row n l s x hx];omega⟩
theorem POK.small {M:List (List Int)} {Q:List Int} (p:POK M Q) (r:Nat) (hr:r < M.length):(Q.getD r 0).natAbs≤100:=by
 have:=p.num r (Nat.zero_le _) (by have:=p.len;omega)
 unfold N100 at this
 omega
theorem POK.rows {M:List (List Int)} {Q:List Int} (p:POK M Q): ∀x ∈ M,x.length=M.length:=by
 intro x hx
 obtain⟨i,hi,rfl⟩:=List.getElem_of_mem hx
 have:=p.mat.sq.row i hi
 rw [show M.getD i []=M[i] from by simp [hi]] at this
 exact this
def SetIn (n:Nat) (s:Int):Prop:=0≤s∧s≤((2 ^ n:Nat):Int) - 1
theorem pow_sub {n:Nat} (hn:n≤5):wrap64 (shl .i64 1 (n:Int) - 1)=((2 ^ n:Nat):Int) - 1:=by
 rw [shl_one (by omega) (by omega),Int.toNat_natCast]
 have key: ∀m:Nat,1≤m→m≤2 ^ 5→wrap64 ((m:Int) - 1)=(m:Int) - 1:=fun m h1 h2=>w64 (by omega) (by omega)
 exact key _ Nat.one_le_two_pow (Nat.pow_le_pow_right (by decide) hn)
theorem iin_eq (x a b:Int):impl_within.f x a b=some (decide (a≤x∧x≤b)):=by
 unfold impl_within.f
 by_cases h:x ≥ a
 ·rw [if_pos h];congr 1;rw [Bool.eq_iff_iff];simp;omega
 ·rw [if_neg h];congr 1;rw [Bool.eq_iff_iff];simp;omega
open Classical in
noncomputable def codeS (M:List (List Int)) (Q:List Int) (s:Int):Int:=if POK M Q then(if SetIn Q.length s then 0 else 2) else 1
open Classical in
theorem impl_code (M:List (List Int)) (Q:List Int) (s:Int):impl_setCode.f M Q s=some (codeS M Q s):=by
 unfold impl_setCode.f codeS
 have is:=Pb.impl_is M Q (decide (POK M Q)) (by simp)
 rw [is,Option.bind_some]
 by_cases p:POK M Q
 ·have hq:=p.len;have h5:=p.mat.n5
  rw [if_pos (by simpa using p),if_pos p]
  unfold impl_isSet.f
  rw [if_pos (by omega),pow_sub (by omega),iin_eq,Option.bind_some,Option.bind_some]
  by_cases c:0≤s∧s≤((2 ^ Q.length:Nat):Int) - 1
  ·rw [if_pos (decide_eq_true c),if_pos (show SetIn Q.length s from c)]
  ·rw [if_neg (by simpa using c),if_neg (show ¬ SetIn Q.length s from c)]
 ·rw [if_neg (by simpa using p),if_neg p]
open Classical in
theorem spec_code (M:List (List Int)) (Q:List Int) (s:Int) (hQ:Q.length≤1048576):Ev (fun k=>spec_l02Code.f k M Q s) (codeS M Q s):=by
 unfold spec_l02Code.f codeS
 refine evbind (Pb.spec_is M Q hQ (decide (POK M Q)) (by simp)) ?_
 by_cases p:POK M Q
 ·have hq:=p.len;have h5:=p.mat.n5
  rw [if_pos p]
  refine evpos (by simpa using p) ?_
  rw [u64w (x:=(Q.length:Int)) (by omega) (by omega),pow_sub (by omega)]
  refine evpos (by omega) (evsome (sin_eq _ _ _) ?_)
  by_cases c:0≤s∧s≤((2 ^ Q.length:Nat):Int) - 1
  ·rw [show (if SetIn Q.length s then(0:Int) else 2)=0 from if_pos c];exact evpos (decide_eq_true c) (evc rfl)
  ·rw [show (if SetIn Q.length s then(0:Int) else 2)=2 from if_neg c];exact evneg (by simpa using c) (evc rfl)
 ·rw [if_neg p]
  exact evneg (by simpa using p) (evc rfl)
theorem code_zero {M:List (List Int)} {Q:List Int} {s:Int} (c0:codeS M Q s=0):POK M Q∧SetIn Q.length s:=by
 classical
 unfold codeS at c0
 by_cases p:POK M Q
 ·rw [if_pos p] at c0
  by_cases z:SetIn Q.length s
  ·exact⟨p,z⟩
  ·rw [if_neg z] at c0;omega
 ·rw [if_neg p] at c0;omega
noncomputable def pvO (M:List (List Int)) (Q:List Int) (s:Int):Int × List (List Int) × List Int × Int:=if codeS M Q s=0 then(if det M.length (Cm s M)=0 then(0, [], [],5) else(ab (det M.length (Cm s M)),pvR M.length M s,pvS M.length M s Q,0)) else(0, [], [],codeS M Q s)
theorem impl_pivotOf_eq (M:List (List Int)) (Q:List Int) (s:Int):Ev (fun k=>impl_pivotOf.f k M Q s) (pvO M Q s):=by
 unfold impl_pivotOf.f pvO
 refine evsome (impl_code M Q s) ?_
 by_cases c:codeS M Q s=0
 ·rw [if_pos c]
  refine evpos c ?_
  obtain⟨p,hs⟩:=code_zero c
  have e:=impl_pivot p.mat.sq p.mat.n5 s Q p.len (POK.small p) p.mat.n1 (POK.rows p)
  unfold pvA at e
  by_cases d:det M.length (Cm s M)=0
  ·rw [if_pos d] at e ⊢
   exact evbind e (evneg (by simp) (evc rfl))
  ·rw [if_neg d] at e ⊢
   exact evbind e (evpos rfl (evc rfl))
 ·rw [if_neg c]
  exact evneg c (evc rfl)
theorem spec_PivotOf_eq (M:List (List Int)) (Q:List Int) (s:Int) (hQ:Q.length≤1048576):Ev (fun k=>spec_PivotOf.f k M Q s) (pvO M Q s):=by
 unfold spec_PivotOf.f pvO
 refine evbind (spec_code M Q s hQ) ?_
 by_cases c:codeS M Q s=0
 ·rw [if_pos c]
  refine evpos c ?_
  obtain⟨p,hs⟩:=code_zero c
  have e:=spec_pivot p.mat.sq p.mat.n5 s Q p.len (POK.small p)
  unfold pvA at e
  by_cases d:det M.length (Cm s M)=0
  ·rw [if_pos d] at e ⊢
   exact evbind e (evneg (by simp) (evc rfl))
  ·rw [if_neg d] at e ⊢
   exact evbind e (evpos rfl (evc rfl))
 ·rw [if_neg c]
  exact evneg c (evc rfl)
theorem pvO_few (M:List (List Int)) (Q:List Int) (s:Int):Few (pvO M Q s).2.1∧(pvO M Q s).2.2.1.length≤5:=by
 unfold pvO
 by_cases c:codeS M Q s=0
 ·rw [if_pos c]
  obtain⟨p,hs⟩:=code_zero c
  have h5:=p.mat.n5
  by_cases d:det M.length (Cm s M)=0
  ·rw [if_pos d];exact⟨Few.nil,by simp⟩
  ·rw [if_neg d];exact⟨pvR_few h5 M s,by show (pvS M.length M s Q).length≤5;rw [pvS_len];exact h5⟩
 ·rw [if_neg c];exact⟨Few.nil,by simp⟩
end Go.Proofs.Ytbjljcpngbhkeaa.Pp
end
section
namespace Go.Proofs.Ytbjljcpngbhkeaa.Al
open Go.RowKit Go.Proofs.YtbjljcpngbhkeaaW.PrintWords Go.Proofs.YtbjljcpngbhkeaaW.PrintLast Go.Proofs.YtbjljcpngbhkeaaW.PrintMore Go.Proofs.Ytbjljcpngbhkeaa.Pr
structure Al (P:World→Prop) (w:World):Prop where
 all: ∀w',Below w.heap.size w w'→P w'
theorem Al.now {P:World→Prop} {w:World} (h:Al P w):P w:=h.all w (Below.refl _ _)
theorem Al.mv {P:World→Prop} {w w':World} (h:Al P w) (hb:Below w.heap.size w w'):Al P w':=⟨fun w2 h2=>h.all w2 (below_step hb h2)⟩
theorem Al.nil (w:World):Al (fun _=>True) w:=⟨fun _ _=>trivial⟩
theorem Al.addC {P:World→Prop} {w:World} (h:Al P w) {α:Type} {d:Kd α} {A:Option Addr} {n:Nat} {xs:List α} (k:d.C w A n xs):Al (fun W=>d.C W A n xs∧P W) w:=⟨fun w2 h2=>⟨Kd.C_below k h2,h.all w2 h2⟩⟩
theorem Al.addB {P:World→Prop} {w:World} (h:Al P w) {g:Nat} {o:Obj} (k:w.heap[g]?=some o):Al (fun W=>W.heap[g]?=some o∧P W) w:=⟨fun w2 h2=>⟨blk_below k h2,h.all w2 h2⟩⟩
theorem drawn_below {w w':World} (h:Drawn0 w w'):Below w.heap.size w w':=by
 obtain⟨nd,rfl⟩:=h
 exact pw_below_drewN (Below.refl _ _) nd
def hasCond (s:Tmp):Code→Bool
 | .seq a b=>hasCond s a || hasCond s b
 | .block _ c=>hasCond s c
 | .cond (.tmp t) _ _=>t==s
 | _=>false
def tailAfter (s:Tmp):Code→Option Code
 | .seq a b=>if hasCond s a then some b else tailAfter s b
 | _=>none
end Go.Proofs.Ytbjljcpngbhkeaa.Al
end
section
namespace Go.Proofs.Ytbjljcpngbhkeaa.Pp
open Go.RowKit Go.Proofs.YtbjljcpngbhkeaaW.PrintWords Go.Proofs.YtbjljcpngbhkeaaW.PrintLast Go.Proofs.YtbjljcpngbhkeaaW.PrintMore Go.Proofs.Ytbjljcpngbhkeaa.Ma Go.Proofs.Ytbjljcpngbhkeaa.Pr Go.Proofs.Ytbjljcpngbhkeaa.Dt Go.Proofs.Ytbjljcpngbhkeaa.Bz Go.Proofs.Ytbjljcpngbhkeaa.Un Go.Proofs.Ytbjljcpngbhkeaa.Cz Go.Proofs.Ytbjljcpngbhkeaa.Pb Go.Proofs.Ytbjljcpngbhkeaa.Mn Go.Proofs.Ytbjljcpngbhkeaa.Sv Go.Proofs.Ytbjljcpngbhkeaa.Pv
open Go.Proofs.Ytbjljcpngbhkeaa.Hd (cM dO columns_calls det_own)
theorem detOf_calls {M:List (List Int)} {Q:List Int} {s:Int} (c0:codeS M Q s=0) (A0:Option Addr) (a0:Nat) (A1:Option Addr) (a1:Nat) (w:World) (hr0:Kd.C (Kd.slice 2 (Kd.int .i64)) w A0 M.length M) (hc0:M.length≤a0) (hr1:Kd.C (Kd.int .i64) w A1 Q.length Q) (hc1:Q.length≤a1):
  Calls Try.prog 35 #[.agg #[.slice A0 M.length a0, .slice A1 Q.length a1], .int .i64 s] w fun e w'=>e= .returned (.tuple #[.int .i64 (det M.length (Cm s M)), .int .i64 0])∧Below w.heap.size w w':=by
 obtain⟨p,hs⟩:=code_zero c0;have hq:=p.len;have h5:=p.mat.n5;have h1:=p.mat.n1;obtain⟨K,hK⟩:=cols_all p.mat.sq h5 s Q hq;have hc:=hK K (Nat.le_refl _);have hL (i:Nat) (hi:i < M.length):colL K M Q s i=rw1 M.length (fun r=>colM (bB s) (en M) r i):=by unfold colL;rw [hc i hi];rfl
 have hcM (a d:Nat) (ha:a < M.length) (hd:d < M.length):cM (colL K M Q s) M.length a d=colM (bB s) (en M) a d:=by
  unfold cM;rw [if_pos hd,hL d hd]
  simp [rw1,ha]
 have hD:dO M.length (cM (colL K M Q s) M.length)=det M.length (Cm s M):=by
  rw [dO_det h5 (k:=0) _ (fun i j hi hj=>by rw [hcM i j hi hj];have:=colM_small p.mat.sq h5 s i j hi hj;split <;> omega)];exact det_congr hcM
 have hcl: ∀i,i < M.length→ ∃t,impl_has.f s (i:Int)=some t∧impl_Problem_column.f K M Q (i:Int) t=some (colL K M Q s i)∧(colL K M Q s i).length=M.length:=fun i hi=>by
  have h:=hc i hi;unfold colF at h;obtain⟨t,ht,h⟩:=Option.bind_eq_some_iff.mp h;exact⟨t,ht,by rw [hL i hi];exact h,by rw [hL i hi,rw1_len]⟩
 have HSC:=q_ (show impl_setCode.f M Q s=some 0 by rw [impl_code,c0]);have HR0:=q_ hr0;have HC0:=q_ hc0;have HR1:=q_ hr1;have HC1:=q_ hc1;have HD:=q_ hD;have HCL:=q_ hcl;have HQ:=q_ hq;have HP:=q_ h1;have HN:=q_ (show M.length≤1000 by omega);have HB:=q_ (Below.refl w.heap.size w);clear c0 p hs hq h5 h1 hK hc hL hcM hD hcl hr0 hc0 hr1 hc1
 generalize det M.length (Cm s M)=D at HD ⊢
 go_enter Try.func35,Try.ntmps35
 go_wp2_with (first | ((with_reducible refine gate_dst (N:=2) rfl ?_);refine be_ 2 #[.slice A0 M.length a0, .slice A1 Q.length a1] 27 ?_;intro gb hg w6 hbox hb;replace HB:=q_ (below_step HB.out hb);have BK:=q_ hbox;have hcz0:=cz_ BK 0;have hcz1:=cz_ BK 1;clear hb hbox hg))
 refine(impl_setCode.calls A0 a0 M A1 a1 Q s 0 w6 (Kd.C_below HR0.out HB.out) HC0.out (Kd.C_below HR1.out HB.out) HC1.out HSC.out).mono ?_
 rintro e w7 ⟨rfl,hb⟩;have hb7:Below w6.heap.size w6 w7:=by first | exact hb | exact Al.drawn_below hb
 clear hcz0 hcz1 hb;replace BK:=q_ (blk_below BK.out hb7);replace HB:=q_ (below_step HB.out hb7);have hcz0:=cz_ BK 0;have hcz1:=cz_ BK 1;clear hb7
 go_wp2_with fail
 refine(columns_calls K M.length s (colL K M Q s) A0 a0 M A1 a1 Q w7 (Kd.C_below HR0.out HB.out) HC0.out (Kd.C_below HR1.out HB.out) HC1.out HQ.out HP.out HN.out HCL.out).mono ?_
 rintro e w8 ⟨g,cap,b,cp,rfl,hcap,hO⟩;have HO:=q_ (hO.low HB.out);have HCAP:=q_ hcap;clear hcz0 hcz1 BK HB hO hcap
 go_wp2_with fail
 refine(det_own HO.out HCAP.out HP.out HN.out).mono ?_
 rintro e w9 ⟨rfl,hb⟩;rw [HD.out];replace HO:=q_ (HO.out.step hb);clear hb;go_wp2
 go_ret2
 exact⟨rfl,HO.out.below⟩
end Go.Proofs.Ytbjljcpngbhkeaa.Pp
end
section
namespace Go.Proofs.Ytbjljcpngbhkeaa.Pr
open Go.RowKit Go.Proofs.YtbjljcpngbhkeaaW.PrintWords Go.Proofs.YtbjljcpngbhkeaaW.PrintLast Go.Proofs.YtbjljcpngbhkeaaW.PrintMore
theorem growNil (n:Nat) (w:World) (hn:n≤1099511627776):
  Calls Try.prog 96 #[.slice none 0 0, .int .i64 (n:Int)] w fun e w'=> ∃(A:Option Addr) (c:Nat),e= .returned (.slice A 0 c)∧Kd.R (Kd.int .i64) 2 w' w.heap.size (fun _=>True) (.slice A 0 c) []∧Below w.heap.size w w':=by
 have h0: ¬ (n:Int) < 0:=by omega
 have w2:IntKind.i64.wrap (n:Int)=n:=IntWalk.i64_in _ (by omega);have HN:=q_ hn;clear hn
 by_cases c:n=0
 ·subst c
  go_enter Try.func96,Try.ntmps96
  go_wp2
  go_ret
  exact⟨_,_,rfl,Kd.R_nil _ _ _ _ _,Below.refl _ _⟩
 ·have hp:(n:Int) > 0:=by omega
  go_enter Try.func96,Try.ntmps96
  go_wp2_with (first | ((with_reducible refine gate_dst (N:=22) rfl ?_);refine Kd.R_append_zeros (Kd.int .i64) (w0:=w) w.heap.size rfl (.tmp 20) (.tmp 21) 25 3 2 (.int .i64 0) 8 rfl Try.underlying25 Try.underlying3 info2 rfl (by decide) (by decide) (.slice none 0 0) [] 0 (n:Int) (fun _=>True) (by rfl) (by rfl) rfl (fun _ _=>trivial) (Kd.R_nil _ _ _ _ _) (by omega) (Below.refl _ _) (Nat.le_refl _) (by have:=HN.out;simp;omega) ?_;intro v1 w1 ho hb hg_ hat_;clear hg_ hat_;obtain⟨A1,c1,rfl⟩:=Kd.R_slice ho;rw [List.nil_append,Int.toNat_natCast] at ho;have HO:=q_ ho;have HB:=q_ hb;clear ho hb;simp only [List.nil_append,Int.toNat_natCast,List.length_replicate] at*))
  go_ret
  refine⟨_,_,rfl,?_,HB.out⟩
  have:=Kd.R_take (m:=0) HO.out (Nat.zero_le _)
  simpa using this
theorem flat_succ (l:List (List Int)) (i:Nat) (h:i < l.length):(l.take (i+1)).flatten=(l.take i).flatten++l[i]:=by
 rw [List.take_succ_eq_append_getElem h,List.flatten_append];simp
theorem flat_le (l:List (List Int)) (i:Nat):(l.take i).flatten.length≤l.flatten.length:=by
 have:(l.take i++l.drop i).flatten.length=(l.take i).flatten.length+(l.drop i).flatten.length:=by rw [List.flatten_append,List.length_append]
 rw [List.take_append_drop] at this
 omega
theorem concatRows (A:Option Addr) (c:Nat) (l:List (List Int)) (w:World) (hr:Kd.C (Kd.slice 2 (Kd.int .i64)) w A l.length l) (hl:l.length≤1099511627776) (ht:l.flatten.length≤1099511627776):
  Calls Try.prog 81 #[.slice A l.length c] w fun e w'=> ∃v:Value,e= .returned v∧Kd.R (Kd.int .i64) 2 w' w.heap.size (fun _=>True) v l.flatten∧Below w.heap.size w w':=by
 have HR:=q_ hr;have HL:=q_ hl;have HT:=q_ ht;clear hr hl ht
 go_enter Try.func81,Try.ntmps81
 go_wp2
 go_loopg [3,5,11] l.length (fun gg v3 v5 v11 wr=> ∃i T:Nat,i≤l.length∧l.length - i≤gg∧v11= .int .i64 (i:Int)∧v3= .int .i64 (T:Int)∧Aside0 (T=(l.take i).flatten.length)∧Aside0 (Below w.heap.size w wr))
 case atStart=>exact⟨0,0,Nat.zero_le _,by omega,rfl,rfl,⟨by simp⟩,⟨Below.refl _ _⟩⟩
 case round=>
  obtain⟨i,T,hi,hg,rfl,rfl,HTI,HB⟩:=hrel
  by_cases hlt:i < l.length
  ·obtain⟨ad,A',c',e,hx,hc',hi'⟩:=at_L2 HR.out i (by omega) (by omega);cases e
   rw [Int.toNat_natCast] at hx;have hx':=(HB.out.cell (World.block_lt_of_cell? w _ hx)).trans hx;clear hx hi' hc';rw [show rd_L2 l (i:Int)=l[i] from by simp [rd_L2,hlt]] at hx';have h1:=flat_succ l i hlt;have h2:=flat_le l (i+1);have h3:(l.take (i+1)).flatten.length=(l.take i).flatten.length+l[i].length:=by rw [h1,List.length_append]
   have hTI:=HTI.out;have hw:IntKind.i64.wrap ((T:Int)+(l[i].length:Int))=((T+l[i].length:Nat):Int):=by rw [IntWalk.i64_in _ (by have:=HT.out;omega)];omega
   have hnn: ¬ ((T+l[i].length:Nat):Int) < 0:=by omega
   have HN:=q_ (show T+l[i].length=(l.take (i+1)).flatten.length by omega);have hltz:(i:Int) < (l.length:Int):=by omega
   have h0z:(0:Int)≤(i:Int):=by omega
   have hi1:IntKind.i64.wrap ((i:Int)+1)=((i+1:Nat):Int):=by rw [IntWalk.i64_in _ (by have:=HL.out;omega)];rfl
   have HLT:=q_ hlt;have HG:=q_ hg;have HI1:=q_ hi1
   generalize hq:l[i]=q at hx' hw h1 h3 hnn HN
   clear hq h1 h2 h3 hlt hi hg hTI HTI
   generalize q.length=q at hx' hw hnn HN
   generalize T+q=T2 at hw hnn HN
   go_wp2
   go_roundg (l.length - (i+1))
   case measure=>have:=HG.out;have:=HLT.out;omega
   case rel=>exact⟨i+1,T2,by have:=HLT.out;omega,by omega,by first | rfl | (rw [HI1.out]) | (simp [HI1.out]),by rfl,HN,HB⟩
  ·have hltz: ¬ (i:Int) < (l.length:Int):=by omega
   obtain rfl:i=l.length:=by omega
   rw [List.take_length] at HTI;clear hi hg hlt
   go_wp2_with fail
   refine(growNil T wr (by rw [HTI.out];exact HT.out)).mono ?_
   rintro e w1 ⟨A1,c1,rfl,hR,hb⟩;have HO:=q_ (Kd.R_lower hR HB.out.size);replace HB:=q_ (below_step HB.out hb);clear hR hb;go_wp2
   go_loopg [6,8,27] l.length (fun gg v6 v8 v27 wr=> ∃i:Nat,i≤l.length∧l.length - i≤gg∧v27= .int .i64 (i:Int)∧Aside0 (Kd.R (Kd.int .i64) 2 wr w.heap.size (fun _=>True) v6 (l.take i).flatten)∧Aside0 (Below w.heap.size w wr))
   case atStart=>exact⟨0,Nat.zero_le _,by omega,rfl,⟨by simpa using HO.out⟩,HB⟩
   case round=>
    clear HO HB;obtain⟨i,hi,hg,rfl,HO,HB⟩:=hrel
    by_cases hlt:i < l.length
    ·obtain⟨ad,A',c',e,hx,hc',hi'⟩:=at_L2 HR.out i (by omega) (by omega);cases e
     rw [Int.toNat_natCast] at hx;have hx':=(HB.out.cell (World.block_lt_of_cell? w _ hx)).trans hx;clear hx;rw [show rd_L2 l (i:Int)=l[i] from by simp [rd_L2,hlt]] at hx' hc' hi';have h1:=flat_succ l i hlt;have h2:=flat_le l (i+1);have h3:(l.take i).flatten.length+l[i].length≤1099511627776:=by rw [h1,List.length_append] at h2;have:=HT.out;omega
     have hltz:(i:Int) < (l.length:Int):=by omega
     have h0z:(0:Int)≤(i:Int):=by omega
     have hi1:IntKind.i64.wrap ((i:Int)+1)=((i+1:Nat):Int):=by rw [IntWalk.i64_in _ (by have:=HL.out;omega)];rfl
     have HLT:=q_ hlt;have HG:=q_ hg;have HI1:=q_ hi1;have H3:=q_ h3;have HI:=q_ (Kd.C_below hi' HB.out);have HF:=q_ h1
     generalize hq:l[i]=q at hx' H3 HI HF h1 h3 hc' hi'
     clear hq h1 h2 h3 hlt hi hg hc' hi'
     generalize (l.take i).flatten=S at HO H3 HF
     obtain⟨Ao,co,rfl⟩:=Kd.R_slice HO.out
     go_wp2_with (first | ((with_reducible refine gate_dst (N:=33) rfl ?_);(refine Kd.R_append_row (Value.int .i64) 0 (w0:=w) w.heap.size rfl (.tmp 31) (.tmp 32) 25 2 (.int .i64 0) 8 rfl Try.underlying25 info2 rfl (by decide) (.slice Ao S.length co) S q A' q.length c' (fun _=>True) (by rfl) (by rfl) (fun _ _=>trivial) HO.out HI.out HB.out HB.out.size (by have:=H3.out;omega) ?_;intro v2 w2 ho hb hg_ hat_;clear hg_ hat_;replace HO:=q_ ho;replace HB:=q_ hb;clear ho hb HI)))
     go_roundg (l.length - (i+1))
     case measure=>have:=HG.out;have:=HLT.out;omega
     case rel=>exact⟨i+1,by have:=HLT.out;omega,by omega,by first | rfl | (rw [HI1.out]) | (simp [HI1.out]),⟨by rw [HF.out];exact HO.out⟩,HB⟩
    ·have hltz: ¬ (i:Int) < (l.length:Int):=by omega
     obtain rfl:i=l.length:=by omega
     rw [List.take_length] at HO;go_wp2
     go_ret
     exact⟨_,rfl,HO.out,HB.out⟩
end Go.Proofs.Ytbjljcpngbhkeaa.Pr
end
section
namespace Go.Proofs.Ytbjljcpngbhkeaa.Pr
open Go.RowKit Go.Proofs.YtbjljcpngbhkeaaW.PrintWords Go.Proofs.YtbjljcpngbhkeaaW.PrintLast Go.Proofs.YtbjljcpngbhkeaaW.PrintMore
def restP (d n:Int):Bool:=decide (Int.tmod n d≠0)
theorem isWhole1 (gb:Nat) (d n:Int) (w:World) (hd:d≠0) (hb:w.cell? ⟨gb,0,none⟩=some (.int .i64 d)):
  Calls Try.prog 82 (#[.int .i64 n]++ #[.pointer (some ⟨gb,0,none⟩)]) w fun e w'=>e= .returned (.bool (restP d n))∧Below w.heap.size w w':=by
 show Calls Try.prog 82 #[.int .i64 n, .pointer (some ⟨gb,0,none⟩)] w _
 have hd0:(d==0)=false:=by simpa using hd
 go_enter Try.func82,Try.ntmps82
 go_wp2
 go_ret
 have e:(Int.tmod n d !=0)=restP d n:=by unfold restP;rw [Bool.eq_iff_iff];simp
 rw [← e];exact⟨rfl,Below.refl _ _⟩
theorem isWhole1_enters: ∀args w,(callFunc 82 args).run Try.prog w= .ok (.enter 82 args) w:=enters_fn Try.func82 (by kernel_rfl) rfl
theorem C_two {w:World} {g:Nat} {A1 A2:Option Addr} {c1 c2:Nat} {x y:List Int} {t:Nat} (hb:w.heap[g]?=some (.cells #[.slice A1 x.length c1, .slice A2 y.length c2] t (0,0))) (h1:Kd.C (Kd.int .i64) w A1 x.length x) (l1:x.length≤c1) (h2:Kd.C (Kd.int .i64) w A2 y.length y) (l2:y.length≤c2):
  Kd.C (Kd.slice 2 (Kd.int .i64)) w (some ⟨g,0,none⟩) [x,y].length [x,y]:=by
 refine⟨rfl,by simp,fun _=>⟨_,rfl,fun j p hp=>?_⟩⟩
 have hj:j < 2:=by have:=(List.getElem?_eq_some_iff.1 hp).1;simpa using this
 have h0:(⟨g,0,none⟩:Addr).add (j*(Kd.slice 2 (Kd.int .i64)).sz+0)=⟨g,j,none⟩:=by
  show (⟨g,0,none⟩:Addr).add (j*1+0)=_
  rw [Nat.mul_one,Nat.add_zero];unfold Addr.add;split <;> simp_all
 match j,hj with
 | 0,_=>
  cases hp
  refine⟨[.slice A1 x.length c1],rfl,⟨A1,c1,rfl,l1,h1⟩,fun u v hv=>?_⟩
  cases u with
  | zero=>cases hv;rw [h0];exact(blk_cell hb 0).trans rfl
  | succ u=>simp at hv
 | 1,_=>
  cases hp
  refine⟨[.slice A2 y.length c2],rfl,⟨A2,c2,rfl,l2,h2⟩,fun u v hv=>?_⟩
  cases u with
  | zero=>cases hv;rw [h0];exact(blk_cell hb 1).trans rfl
  | succ u=>simp at hv
def impl_Pivot_isWhole.f (a0_0:Int) (aa:List (List Int)) (ae:List Int):Option Bool:=if a0_0≠0∧aa.length≤1000000∧aa.flatten.length≤1000000∧ae.length≤1000000 then some (!((aa.flatten++ae).any (restP a0_0))) else none
theorem impl_Pivot_isWhole.calls (a0_0:Int) (ah:Option Addr) (ai:Nat) (ae:List (List Int)) (af:Option Addr) (ag:Nat) (aa:List Int) (r:Bool) (w:World) (aj:Kd.C (Kd.slice 2 (Kd.int .i64)) w ah ae.length ae) (au:ae.length≤ai) (ak:Kd.C (Kd.int .i64) w af aa.length aa) (aq:aa.length≤ag) (h:impl_Pivot_isWhole.f a0_0 ae aa=some r):
  Calls Try.prog 61 #[.agg #[.int .i64 a0_0, .slice ah ae.length ai, .slice af aa.length ag]] w fun e w'=>e= .returned (.bool r)∧Below w.heap.size w w':=by
 unfold impl_Pivot_isWhole.f at h
 split at h
 case isFalse=>cases h
 rename_i hq
 have HR1:=q_ aj;have HR2:=q_ ak;have HC2:=q_ aq;have HQ:=q_ hq;have HV:=q_ (Option.some.inj h);have HB:=q_ (Below.refl w.heap.size w);clear aj au ak aq h hq
 go_enter Try.func61,Try.ntmps61
 go_wp2_with (first | ((with_reducible refine gate_dst (N:=1) rfl ?_);refine be_ 1 #[.int .i64 a0_0, .slice ah ae.length ai, .slice af aa.length ag] 49 ?_;intro gb hg w6 hbox hb;have n0_:=q_ (bs_ hb);have BK:=q_ hbox;clear HB;have HB:=n0_;clear n0_ hb hbox hg))
 replace HB:=q_ (below_drew HB.out);replace BK:=q_ (blk_drew BK.out);have c1:=cz_ BK 1;have c2:=cz_ BK 2;refine st_ (n:=11) (S:=fun w'=>w'.cell? ⟨gb,1,none⟩=some (.slice ah ae.length ai)∧w'.cell? ⟨gb,2,none⟩=some (.slice af aa.length ag)) (ds:= []) ⟨c1,c2⟩ (fun hHeld=>?_)
 generalize w6.drew=w9 at HB BK c1 c2 hHeld ⊢
 refine pu_ 0 3 ?_;refine pu_ 3 6 ?_;refine tk_ 1 4 ?_;refine tk_ 4 7 ?_;refine pu_ 7 10 ?_
 refine on_ 2 (some 5) (fun K hK=>?_)
 refine ca_ Try.func81 #[.slice ah ae.length ai] ?_
 refine(concatRows ah ai ae w9 (Kd.C_below HR1.out HB.out) (by have:=HQ.out;omega) (by have:=HQ.out;omega)).mono ?_
 rintro e w10 ⟨v,rfl,hR,hb⟩
 generalize ae.flatten=F at hR HV HQ
 obtain⟨Av,cv,rfl⟩:=Kd.R_slice hR;refine⟨_,rfl,?_⟩
 have n0_:=q_ (bs_ hb);have n1_:=q_ (blk_below BK.out hb);have HO:=q_ (Kd.R_reads' hR);clear HB BK hb hR hHeld;have HB:=n0_;have BK:=n1_;clear n0_ n1_;refine hK.out _ _ ⟨cz_ BK 1,cz_ BK 2⟩ (fun hHeld=>?_)
 clear hK K;refine no_ ?_
 refine on_ 5 (some 8) (fun K hK=>?_)
 refine va_ ?_
 have hb:Below w10.heap.size w10 (w10.alloc (.cells #[.slice Av F.length cv, .slice af aa.length ag] 25)):=below_alloc (Below.refl _ _) _;have n0_:=q_ (bs_ hb);have n1_:=q_ (blk_below BK.out hb);have HTW:Aside0 (Kd.C (Kd.slice 2 (Kd.int .i64)) (w10.alloc (.cells #[.slice Av F.length cv, .slice af aa.length ag] 25)) (some ⟨w10.heap.size,0,none⟩) [F,aa].length [F,aa]):=⟨C_two (by unfold World.alloc;exact Array.getElem?_push_size) (Kd.C_below HO.out.2.2 hb) HO.out.2.1 (Kd.C_below HR2.out n0_.out) HC2.out⟩
 clear HB BK HO hb hHeld;have HB:=n0_;have BK:=n1_;clear n0_ n1_
 generalize (w10.alloc (.cells #[.slice Av F.length cv, .slice af aa.length ag] 25))=w11 at*
 generalize w10.heap.size=g2 at*
 refine hK.out _ _ ⟨cz_ BK 1,cz_ BK 2⟩ (fun hHeld=>?_)
 clear hK K;refine no_ ?_
 refine on_ 6 (some 9) (fun K hK=>?_)
 refine ca_ Try.func81 #[.slice (some ⟨g2,0,none⟩) 2 2] ?_
 refine(concatRows (some ⟨g2,0,none⟩) 2 [F,aa] w11 HTW.out (by simp) (by have:=HQ.out;simp only [List.flatten_cons,List.flatten_nil,List.append_nil,List.length_append];omega)).mono ?_
 rintro e w12 ⟨v,rfl,hR,hb⟩;rw [show [F,aa].flatten=F++aa from by simp] at hR
 generalize F++aa=L at hR HV
 obtain⟨Ax,cx,rfl⟩:=Kd.R_slice hR;refine⟨_,rfl,?_⟩
 have n0_:=q_ (bs_ hb);have n1_:=q_ (blk_below BK.out hb);have HO:=q_ (Kd.R_reads' hR);clear HB BK hb hR hHeld HTW;have HB:=n0_;have BK:=n1_;clear n0_ n1_;refine hK.out _ _ ⟨cz_ BK 1,cz_ BK 2⟩ (fun hHeld=>?_)
 clear hK K;refine no_ ?_
 refine on_ 8 (some 11) (fun K hK=>?_)
 refine ca_ Try.func52 #[.slice Ax L.length cx, .func (.func 82) #[] #[.pointer (some ⟨gb,0,none⟩)]] ?_
 refine(containsFuncInts (restP a0_0) 82 #[.pointer (some ⟨gb,0,none⟩)] isWhole1_enters Ax cx L w12 HO.out.2.2 (fun W' x _ hb=>isWhole1 gb a0_0 x W' HQ.out.1 ((blk_cell (blk_below BK.out hb) 0).trans rfl))).mono ?_
 rintro e w13 ⟨rfl,hb⟩;refine⟨_,rfl,?_⟩
 replace HB:=q_ (bs_ hb);replace BK:=q_ (blk_below BK.out hb);clear hb HO hHeld;refine hK.out _ _ ⟨cz_ BK 1,cz_ BK 2⟩ (fun hHeld=>?_)
 clear hK K;refine no_ ?_
 refine pu_ 9 12 ?_;refine pu_ 10 2 ?_
 refine done_ (by kernel_rfl) ?_
 go_wp2
 go_ret
 exact⟨by rw [← HV.out];rfl,HB.out⟩
end Go.Proofs.Ytbjljcpngbhkeaa.Pr
end
section
namespace Go.Proofs.Ytbjljcpngbhkeaa.Pr
open Go.RowKit Go.Proofs.YtbjljcpngbhkeaaW.PrintWords Go.Proofs.YtbjljcpngbhkeaaW.PrintLast Go.Proofs.YtbjljcpngbhkeaaW.PrintMore
attribute [local go_sem] max2_int min2_int max_two min_two max_three min_three max_four min_four
mutual
def spec_l04Whole.l0:Nat→Int→Int→List (List Int)→List Int→Option (Bool)
 | 0,_,_,_,_=>none
 | k+1,x3,aa,ae,af=>if x3 < (af.length:Int) then(if 0≤x3 then(if aa=0 then(none) else(if(Int.tmod (rd af x3) aa)=0 then(spec_l04Whole.l1 k x3 0 aa ae af) else(some false))) else(none)) else(some true)
def spec_l04Whole.l1:Nat→Int→Int→Int→List (List Int)→List Int→Option (Bool)
 | 0,_,_,_,_,_=>none
 | k+1,x3,x4,aa,ae,af=>if x4 < (af.length:Int) then(if 0≤x3 then(if x3 < (ae.length:Int) then(if 0≤x4 then(if x4 < ((rd_L2 ae x3).length:Int) then(if aa=0 then(none) else(if(Int.tmod (rd (rd_L2 ae x3) x4) aa)=0 then(spec_l04Whole.l1 k x3 (wrap64 (x4+1)) aa ae af) else(some false))) else(none)) else(none)) else(none)) else(none)) else(spec_l04Whole.l0 k (wrap64 (x3+1)) aa ae af)
end
def spec_l04Whole.f (k:Nat) (a0_0:Int) (aa:List (List Int)) (ae:List Int):Option (Bool):=spec_l04Whole.l0 k 0 a0_0 aa ae
theorem spec_l04Whole.mono_l: ∀k,(∀y0 y1 y2 y3,LeO (spec_l04Whole.l0 k y0 y1 y2 y3) (spec_l04Whole.l0 (k+1) y0 y1 y2 y3))∧(∀y0 y1 y2 y3 y4,LeO (spec_l04Whole.l1 k y0 y1 y2 y3 y4) (spec_l04Whole.l1 (k+1) y0 y1 y2 y3 y4))
 | 0=>⟨fun _ _ _ _ r h=>by simp [spec_l04Whole.l0] at h,fun _ _ _ _ _ r h=>by simp [spec_l04Whole.l1] at h⟩
 | k+1=>by
  obtain⟨ih0,ih1⟩:=spec_l04Whole.mono_l k
  refine⟨?_,?_⟩<;>intros<;>(first | unfold spec_l04Whole.l0 | unfold spec_l04Whole.l1)<;>(repeat' first | (with_reducible first | exact ih0 _ _ _ _ | exact ih1 _ _ _ _ _ | exact LeO.refl _ | exact LeO.none _ | refine LeO.ite ?_ ?_ | refine LeO.bind ?_ (fun _=>?_)) | exact ih0 _ _ _ _ | exact ih1 _ _ _ _ _ | exact LeO.none _ | refine LeO.ite ?_ ?_ | refine LeO.bind ?_ (fun _=>?_))
theorem spec_l04Whole.mono: ∀a0 a1 a2 k,LeO (spec_l04Whole.f k a0 a1 a2) (spec_l04Whole.f (k+1) a0 a1 a2):=by
 intro a0 a1 a2 k
 obtain⟨ih0,ih1⟩:=spec_l04Whole.mono_l k
 unfold spec_l04Whole.f
 repeat' first | (with_reducible first | exact ih0 _ _ _ _ | exact ih1 _ _ _ _ _ | exact LeO.refl _ | exact LeO.none _ | refine LeO.ite ?_ ?_ | refine LeO.bind ?_ (fun _=>?_)) | exact ih0 _ _ _ _ | exact ih1 _ _ _ _ _ | exact LeO.none _ | refine LeO.ite ?_ ?_ | refine LeO.bind ?_ (fun _=>?_)
theorem spec_l04Whole.calls (k:Nat) (a0_0:Int) (aj:Option Addr) (ak:Nat) (ag:List (List Int)) (au:Option Addr) (aq:Nat) (ah:List Int) (r:Bool) (w:World) (aw:Kd.C (Kd.slice 2 (Kd.int .i64)) w aj ag.length ag) (ax:ag.length≤ak) (ay:Kd.C (Kd.int .i64) w au ah.length ah) (az:ah.length≤aq) (h:spec_l04Whole.f k a0_0 ag ah=some r):
  Calls Try.prog 63 #[.agg #[.int .i64 a0_0, .slice aj ag.length ak, .slice au ah.length aq]] w fun e w'=>e= .returned (.bool r)∧Below w.heap.size w w':=by
 have hu49:=Try.underlying49;have HR0_1:=q_ aw;have HC0_1:=q_ ax;clear aw ax;have HR0_2:=q_ ay;have HC0_2:=q_ az;clear ay az;have HB:=q_ (Below.refl w.heap.size w);have H:(spec_l04Whole.l0 k 0 a0_0 ag ah)=some r:=h;clear h;have H':=q_ H;clear H
 go_enter Try.func63,Try.ntmps63
 go_wp2_with (first | ((with_reducible refine gate_dst (N:=1) rfl ?_);refine be_ 1 #[.int .i64 a0_0, .slice aj ag.length ak, .slice au ah.length aq] 49 ?_;intro af hg w2 hbox hb;have aa:=q_ (hbox);have aA:=q_ ((by rw [hg];exact bz_:w.heap.size≤af));have aC:=q_ ((by rw [hg];exact bz_:w.heap.size≤af));replace HB:=q_ (bs_ hb);clear hb hbox hg))
 repeat (go_quiet (first | ((with_reducible refine gate_dst (N:=1) rfl ?_);refine be_ 1 #[.int .i64 a0_0, .slice aj ag.length ak, .slice au ah.length aq] 49 ?_;intro af hg w2 hbox hb;have aa:=q_ (hbox);have aA:=q_ ((by rw [hg];exact bz_:w.heap.size≤af));have aC:=q_ ((by rw [hg];exact bz_:w.heap.size≤af));replace HB:=q_ (bs_ hb);clear hb hbox hg));try go_wp2_with (first | ((with_reducible refine gate_dst (N:=1) rfl ?_);refine be_ 1 #[.int .i64 a0_0, .slice aj ag.length ak, .slice au ah.length aq] 49 ?_;intro af hg w2 hbox hb;have aa:=q_ (hbox);have aA:=q_ ((by rw [hg];exact bz_:w.heap.size≤af));have aC:=q_ ((by rw [hg];exact bz_:w.heap.size≤af));replace HB:=q_ (bs_ hb);clear hb hbox hg)))
 go_loopg [3] k (fun kq v3 w'=> ∃(ae:Int),v3= .int .i64 ae∧Aside0 (spec_l04Whole.l0 kq ae a0_0 ag ah=some r)∧Aside0 (kq≤k)∧Aside0 (w'.heap[af]?=some (.cells #[.int .i64 a0_0,(.slice aj ag.length ak),(.slice au ah.length aq)] 49 (0,0)))∧Aside0 (Below w.heap.size w w'))
 case atStart=>exact⟨(0),rs_,H',⟨Nat.le_refl _⟩,⟨bk_⟩,⟨hb_⟩⟩
 case round=>
  clear H';obtain⟨ae,rfl,HA,HK1,aa,HB⟩:=hrel;cases gk with
  | zero=>exact absurd HA.out (by simp [spec_l04Whole.l0])
  | succ k1=>
   have H:=HA.out;clear HA;simp only [spec_l04Whole.l0] at H
   by_cases c3:ae < (ah.length:Int)
   ·rw [if_pos c3] at H;have c3b0:=decide_eq_true c3;clear c3
    by_cases c4:0≤ae
    ·rw [if_pos c4] at H;have c4b0:=decide_eq_true c4;clear c4
     by_cases c5:a0_0=0
     ·rw [if_pos c5] at H;exact absurd H (by simp)
     ·rw [if_neg c5] at H;have c5b0:=e3_ c5;have c5b1:=e4_ c5
      by_cases c6:(Int.tmod (rd ah ae) a0_0)=0
      ·rw [if_pos c6] at H;have c6b0:=e1_ c6;have c6b1:=e2_ c6;clear c6;have H':=q_ H;clear H;have aD:=cz_ aa 0;have aG:=cz_ aa 1;have aH:=cz_ aa 2;have aI:=blk_frozen aa.out 0;have aJ:=blk_frozen aa.out 1;have aK:=blk_frozen aa.out 2;have p532:0≤(ae:Int):=od_;have q532:ae < (ah.length:Int):=od_;obtain⟨av,e532,hx532_0⟩:=Kd.at_int HR0_2.out ae p532 q532;cases e532
       replace hx532_0:=(HB.out.cell (World.block_lt_of_cell? w _ hx532_0)).trans hx532_0;replace p532:=eq_true p532;replace q532:=eq_true q532;go_wp2
       repeat (go_quiet (fail);try go_wp2)
       go_loopg [4] k1 (fun kq v4 w'=> ∃(ai:Int),v4= .int .i64 ai∧Aside0 (spec_l04Whole.l1 kq ae ai a0_0 ag ah=some r)∧Aside0 (kq≤k1)∧Aside0 (w'.heap[af]?=some (.cells #[.int .i64 a0_0,(.slice aj ag.length ak),(.slice (some av) ah.length aq)] 49 (0,0)))∧Aside0 (Below w.heap.size w w'))
       case atStart=>exact⟨(0),rs_,H',⟨Nat.le_refl _⟩,⟨bk_⟩,⟨hb_⟩⟩
       case round=>
        clear H';(try clear c3b0);(try clear c4);(try clear c4b0);(try clear c5);(try clear c5b0);(try clear c5b1);(try clear c6);(try clear c6b0);(try clear c6b1);(try clear aD);(try clear aG);(try clear aH);(try clear aI);(try clear aJ);(try clear aK);(try clear hx532_0);(try clear p532);(try clear q532);obtain⟨ai,rfl,HA,HK2,aa,HB⟩:=hrel;cases gk with
        | zero=>exact absurd HA.out (by simp [spec_l04Whole.l1])
        | succ k2=>
         have H:=HA.out;clear HA;simp only [spec_l04Whole.l1] at H
         by_cases c8:ai < (ah.length:Int)
         ·rw [if_pos c8] at H;have c8b0:=decide_eq_true c8;clear c8
          by_cases c9:0≤ae
          ·rw [if_pos c9] at H;have c9b0:=decide_eq_true c9;clear c9
           by_cases c10:ae < (ag.length:Int)
           ·rw [if_pos c10] at H;have c10b0:=decide_eq_true c10;clear c10
            by_cases c11:0≤ai
            ·rw [if_pos c11] at H;have c11b0:=decide_eq_true c11;clear c11
             by_cases c12:ai < ((rd_L2 ag ae).length:Int)
             ·rw [if_pos c12] at H;have c12b0:=decide_eq_true c12;clear c12
              by_cases c13:a0_0=0
              ·rw [if_pos c13] at H;exact absurd H (by simp)
              ·rw [if_neg c13] at H;have c13b0:=e3_ c13;have c13b1:=e4_ c13
               by_cases c14:(Int.tmod (rd (rd_L2 ag ae) ai) a0_0)=0
               ·rw [if_pos c14] at H;have c14b0:=e1_ c14;have c14b1:=e2_ c14;clear c14;have H':=q_ H;clear H;have aU:=cz_ aa 0;have aV:=cz_ aa 1;have aW:=cz_ aa 2;have aX:=blk_frozen aa.out 0;have aY:=blk_frozen aa.out 1;have aZ:=blk_frozen aa.out 2;have p533:0≤(ae:Int):=od_;have q533:ae < (ag.length:Int):=od_;obtain⟨aQ,aM,aN,e533,hx533_0,hl533_0,hi533_0⟩:=at_L2 HR0_1.out ae p533 q533;cases e533
                replace hx533_0:=(HB.out.cell (World.block_lt_of_cell? w _ hx533_0)).trans hx533_0;have HR533_0:=q_ hi533_0;have HC533_0:=q_ hl533_0;clear hi533_0 hl533_0;replace p533:=eq_true p533;replace q533:=eq_true q533;have p534:0≤(ai:Int):=od_;have q534:ai < ((rd_L2 ag ae).length:Int):=od_;obtain⟨aT,e534,hx534_0⟩:=Kd.at_int HR533_0.out ai p534 q534;cases e534
                replace hx534_0:=(HB.out.cell (World.block_lt_of_cell? w _ hx534_0)).trans hx534_0;replace p534:=eq_true p534;replace q534:=eq_true q534;go_wp2
                repeat (go_quiet (fail);try go_wp2)
                go_roundg k2
                case measure=>have:=HK1.out;have:=HK2.out;omega
                case rel=>exact⟨(wrap64 (ai+1)),rs_,H',⟨by have:=HK1.out;have:=HK2.out;omega⟩,⟨bk_⟩,⟨hb_⟩⟩
               ·rw [if_neg c14] at H;have c14b0:=e3_ c14;have c14b1:=e4_ c14;obtain rfl:=Option.some.inj H;have a9:=cz_ aa 0;have ba:=cz_ aa 1;have bf:=cz_ aa 2;have bg:=blk_frozen aa.out 0;have bh:=blk_frozen aa.out 1;have bk:=blk_frozen aa.out 2;have p533:0≤(ae:Int):=od_;have q533:ae < (ag.length:Int):=od_;obtain⟨aQ,aM,aN,e533,hx533_0,hl533_0,hi533_0⟩:=at_L2 HR0_1.out ae p533 q533;cases e533
                replace hx533_0:=(HB.out.cell (World.block_lt_of_cell? w _ hx533_0)).trans hx533_0;have HR533_0:=q_ hi533_0;have HC533_0:=q_ hl533_0;clear hi533_0 hl533_0;replace p533:=eq_true p533;replace q533:=eq_true q533;have p534:0≤(ai:Int):=od_;have q534:ai < ((rd_L2 ag ae).length:Int):=od_;obtain⟨aT,e534,hx534_0⟩:=Kd.at_int HR533_0.out ai p534 q534;cases e534
                replace hx534_0:=(HB.out.cell (World.block_lt_of_cell? w _ hx534_0)).trans hx534_0;replace p534:=eq_true p534;replace q534:=eq_true q534;go_wp2
                repeat (go_quiet (fail);try go_wp2)
                go_ret
                exact⟨by first | rfl | (simp [errW_none,errW_some] <;> rfl) | (simp [*,errW_none,errW_some] <;> rfl),hb_⟩
             ·rw [if_neg c12] at H;exact absurd H (by simp)
            ·rw [if_neg c11] at H;exact absurd H (by simp)
           ·rw [if_neg c10] at H;exact absurd H (by simp)
          ·rw [if_neg c9] at H;exact absurd H (by simp)
         ·rw [if_neg c8] at H;have c8b0:=decide_eq_false c8;clear c8;have H':=q_ H;clear H;have bq:=cz_ aa 0;have bu:=cz_ aa 1;have bv:=cz_ aa 2;have bw:=blk_frozen aa.out 0;have bz:=blk_frozen aa.out 1;have bA:=blk_frozen aa.out 2;go_wp2
          repeat (go_quiet (fail);try go_wp2)
          go_roundg k2
          case measure=>have:=HK1.out;have:=HK2.out;omega
          case rel=>exact⟨(wrap64 (ae+1)),rs_,H',⟨by have:=HK1.out;have:=HK2.out;omega⟩,⟨bk_⟩,⟨hb_⟩⟩
      ·rw [if_neg c6] at H;have c6b0:=e3_ c6;have c6b1:=e4_ c6;obtain rfl:=Option.some.inj H;have bC:=cz_ aa 0;have bD:=cz_ aa 1;have bE:=cz_ aa 2;have bF:=blk_frozen aa.out 0;have bG:=blk_frozen aa.out 1;have bH:=blk_frozen aa.out 2;have p532:0≤(ae:Int):=od_;have q532:ae < (ah.length:Int):=od_;obtain⟨av,e532,hx532_0⟩:=Kd.at_int HR0_2.out ae p532 q532;cases e532
       replace hx532_0:=(HB.out.cell (World.block_lt_of_cell? w _ hx532_0)).trans hx532_0;replace p532:=eq_true p532;replace q532:=eq_true q532;go_wp2
       repeat (go_quiet (fail);try go_wp2)
       go_ret
       exact⟨by first | rfl | (simp [errW_none,errW_some] <;> rfl) | (simp [*,errW_none,errW_some] <;> rfl),hb_⟩
    ·rw [if_neg c4] at H;exact absurd H (by simp)
   ·rw [if_neg c3] at H;have c3b0:=decide_eq_false c3;clear c3;obtain rfl:=Option.some.inj H;have bI:=cz_ aa 0;have bJ:=cz_ aa 1;have bK:=cz_ aa 2;have bL:=blk_frozen aa.out 0;have bM:=blk_frozen aa.out 1;have bN:=blk_frozen aa.out 2;go_wp2
    repeat (go_quiet (fail);try go_wp2)
    go_ret
    exact⟨by first | rfl | (simp [errW_none,errW_some] <;> rfl) | (simp [*,errW_none,errW_some] <;> rfl),hb_⟩
end Go.Proofs.Ytbjljcpngbhkeaa.Pr
end
section
namespace Go.Proofs.Ytbjljcpngbhkeaa.Pp
open Go.RowKit Go.Proofs.YtbjljcpngbhkeaaW.PrintWords Go.Proofs.YtbjljcpngbhkeaaW.PrintMore Go.Proofs.Ytbjljcpngbhkeaa.Ma Go.Proofs.Ytbjljcpngbhkeaa.Pr Go.Proofs.Ytbjljcpngbhkeaa.Dt Go.Proofs.Ytbjljcpngbhkeaa.Bz Go.Proofs.Ytbjljcpngbhkeaa.Un Go.Proofs.Ytbjljcpngbhkeaa.Cz Go.Proofs.Ytbjljcpngbhkeaa.Pb Go.Proofs.Ytbjljcpngbhkeaa.Mn Go.Proofs.Ytbjljcpngbhkeaa.Sv Go.Proofs.Ytbjljcpngbhkeaa.Pv Go.Proofs.Ytbjljcpngbhkeaa.La Go.Proofs.Ytbjljcpngbhkeaa.Hm
def Whole (n:Nat) (den:Int) (R:List (List Int)) (S:List Int):Prop:= ∀r,r < n→Int.tmod (S.getD r 0) den=0∧ ∀c,c < n→Int.tmod (en R r c) den=0
theorem bool_of {b:Bool} {p:Prop} (h:b=true↔p) (hp: ¬ p):b=false:=by cases b with
 | false=>rfl
 | true=>exact absurd (h.1 rfl) hp
section
variable {n:Nat} (hn:n≤5) (R:List (List Int)) (S:List Int) (hR:R.length=n) (hr: ∀i,i < n→(R.getD i []).length=n) (hS:S.length=n) {den:Int} (hd:den≠0)
include hn hR hr hS hd
theorem spec_whole_loop: ∀q i,i+q=n→ ∀b:Bool,(b=true↔ ∀r,i≤r→r < n→Int.tmod (S.getD r 0) den=0∧ ∀c,c < n→Int.tmod (en R r c) den=0)→Ev (fun k=>spec_l04Whole.l0 k (i:Int) den R S) b:=by
 intro q
 induction q with
 | zero=>
  intro i hi b hb
  have:b=true:=hb.2 (fun r h1 h2=>by omega)
  subst this
  exact evstep (fun k=>by rw [spec_l04Whole.l0]) (evneg (by omega) (evc rfl))
 | succ q ih=>
  intro i hi b hb
  have hl:=hr i (by omega)
  refine evstep (fun k=>by rw [spec_l04Whole.l0]) (evpos (by omega) (evpos (by omega) (evneg hd ?_)))
  rw [rd_nat]
  have cols: ∀p c,c+p=n→ ∀b:Bool,(b=true↔(∀d,c≤d→d < n→Int.tmod (en R i d) den=0)∧ ∀r,i+1≤r→r < n→Int.tmod (S.getD r 0) den=0∧ ∀c,c < n→Int.tmod (en R r c) den=0)→Ev (fun k=>spec_l04Whole.l1 k (i:Int) (c:Int) den R S) b:=by
   intro p
   induction p with
   | zero=>
    intro c hc b hb
    refine evstep (fun k=>by rw [spec_l04Whole.l1]) (evneg (by omega) ?_)
    rw [w64 (x:=(i:Int)+1) (by omega) (by omega)]
    exact ih (i+1) (by omega) b (hb.trans ⟨fun h=>h.2,fun h=>⟨fun d h1 h2=>by omega,h⟩⟩)
   | succ p ihp=>
    intro c hc b hb
    refine evstep (fun k=>by rw [spec_l04Whole.l1]) (evpos (by omega) (evpos (by omega) (evpos (by omega) (evpos (by omega) ?_))))
    rw [rdL1]
    refine evpos (by omega) (evneg hd ?_)
    rw [rd_nat,show (R.getD i []).getD c 0=en R i c from rfl,w64 (x:=(c:Int)+1) (by omega) (by omega)]
    by_cases z:Int.tmod (en R i c) den=0
    ·refine evpos z (ihp (c+1) (by omega) b (hb.trans ⟨fun h=>⟨fun d h1 h2=>h.1 d (by omega) h2,h.2⟩,fun h=>⟨fun d h1 h2=>?_,h.2⟩⟩))
     by_cases e:d=c
     ·rw [e];exact z
     ·exact h.1 d (by omega) h2
    ·refine evneg z ?_
     rw [bool_of hb (fun h=>z (h.1 c (Nat.le_refl _) (by omega)))]
     exact evc rfl
  by_cases z:Int.tmod (S.getD i 0) den=0
  ·refine evpos z (cols n 0 (by omega) b (hb.trans ⟨fun h=>⟨fun d _ h2=>(h i (Nat.le_refl _) (by omega)).2 d h2,fun r h1 h2=>h r (by omega) h2⟩,fun h r h1 h2=>?_⟩))
   by_cases e:r=i
   ·rw [e];exact⟨z,fun c hc=>h.1 c (Nat.zero_le _) hc⟩
   ·exact h.2 r (by omega) h2
  ·refine evneg z ?_
   rw [bool_of hb (fun h=>z (h i (Nat.le_refl _) (by omega)).1)]
   exact evc rfl
theorem impl_whole (b:Bool) (hb:b=true↔Whole n den R S):impl_Pivot_isWhole.f den R S=some b:=by
 have hrow (i:Nat) (hi:i < n):R.getD i [] ∈ R:=by
  rw [List.getD_eq_getElem?_getD,List.getElem?_eq_getElem (by omega)]
  exact List.getElem_mem (by omega)
 have hmem (x:List Int) (hx:x ∈ R): ∃i,i < n∧x=R.getD i []:=by
  obtain⟨i,hi,rfl⟩:=List.getElem_of_mem hx
  exact⟨i,by omega,by simp [hi]⟩
 have hf:R.flatten.length≤1000000:=by
  have key: ∀l:List (List Int),(∀x ∈ l,x.length≤5)→l.flatten.length≤5*l.length:=by
   intro l
   induction l with
   | nil=>intro _;simp
   | cons x l ih=>
    intro h
    have h1:=h x (by simp)
    have h2:=ih (fun y hy=>h y (by simp [hy]))
    rw [List.flatten_cons,List.length_append,List.length_cons]
    omega
  have:=key R (fun x hx=>by obtain⟨i,hi,rfl⟩:=hmem x hx;rw [hr i hi];exact hn)
  omega
 unfold impl_Pivot_isWhole.f
 rw [if_pos ⟨hd,by omega,hf,by omega⟩]
 congr 1
 have e:(R.flatten++S).any (restP den)=true↔ ¬ Whole n den R S:=by
  rw [List.any_eq_true]
  constructor
  ·rintro ⟨x,hx,hp⟩ hw
   have hp:=of_decide_eq_true hp
   rcases List.mem_append.1 hx with hx | hx
   ·obtain⟨y,hy,hxy⟩:=List.mem_flatten.1 hx
    obtain⟨i,hi,rfl⟩:=hmem y hy
    obtain⟨c,hc,rfl⟩:=List.getElem_of_mem hxy
    have:=(hw i hi).2 c (by rw [hr i hi] at hc;exact hc)
    unfold en at this
    rw [List.getD_eq_getElem?_getD (l:=R.getD i []),List.getElem?_eq_getElem hc] at this
    exact hp this
   ·obtain⟨i,hi,rfl⟩:=List.getElem_of_mem hx
    have:=(hw i (by omega)).1
    rw [List.getD_eq_getElem?_getD,List.getElem?_eq_getElem hi] at this
    exact hp this
  ·intro hw
   refine Classical.byContradiction fun hno=>hw (fun r hr'=>⟨?_,fun c hc=>?_⟩)
   ·refine Classical.byContradiction fun z=>hno ⟨S.getD r 0,List.mem_append.2 (.inr ?_),decide_eq_true z⟩
    rw [List.getD_eq_getElem?_getD,List.getElem?_eq_getElem (by omega)]
    exact List.getElem_mem (by omega)
   ·refine Classical.byContradiction fun z=>hno ⟨en R r c,List.mem_append.2 (.inl (List.mem_flatten.2 ⟨R.getD r [],hrow r hr',?_⟩)),decide_eq_true z⟩
    have hl:=hr r hr'
    unfold en
    rw [List.getD_eq_getElem?_getD (l:=R.getD r []),List.getElem?_eq_getElem (by omega)]
    exact List.getElem_mem (by omega)
 rw [Bool.eq_iff_iff,hb,Bool.not_eq_true', ← Bool.not_eq_true,e]
 exact⟨fun h=>Classical.byContradiction h,fun h q=>q h⟩
end
theorem ab_pos {d:Int} (h:d≠0):0 < ab d:=by unfold ab;split <;> omega
theorem pvR_getD' {n i:Nat} (hi:i < n) (l:List (List Int)) (s:Int):((pvR n l s).getD i []).length=n:=by
 have e:=pvR_len n l s
 rw [List.getD_eq_getElem?_getD,List.getElem?_eq_getElem (by omega)]
 exact pvR_row n l s _ (List.getElem_mem (by omega))
open Classical in
theorem wholes {M:List (List Int)} (h5:M.length≤5) (s:Int) (Q:List Int) (d:det M.length (Cm s M)≠0): ∃b:Bool,(b=true↔Whole M.length (ab (det M.length (Cm s M))) (pvR M.length M s) (pvS M.length M s Q))∧Ev (fun k=>spec_l04Whole.f k (ab (det M.length (Cm s M))) (pvR M.length M s) (pvS M.length M s Q)) b∧impl_Pivot_isWhole.f (ab (det M.length (Cm s M))) (pvR M.length M s) (pvS M.length M s Q)=some b:=by
 have hb:=ab_pos d
 refine⟨decide (Whole M.length (ab (det M.length (Cm s M))) (pvR M.length M s) (pvS M.length M s Q)),by simp,?_,impl_whole h5 _ _ (pvR_len _ _ _) (fun i hi=>pvR_getD' hi M s) (pvS_len _ _ _ _) (by omega) _ (by simp)⟩
 unfold spec_l04Whole.f
 refine spec_whole_loop h5 (pvR M.length M s) (pvS M.length M s Q) (pvR_len _ _ _) (fun i hi=>pvR_getD' hi M s) (pvS_len _ _ _ _) (by omega) M.length 0 (by omega) _ ?_
 rw [decide_eq_true_eq]
 exact⟨fun h r _ hr=>h r hr,fun h r hr=>h r (Nat.zero_le _) hr⟩
theorem pvO_zero {M:List (List Int)} {Q:List Int} {s:Int} (c:(pvO M Q s).2.2.2=0):codeS M Q s=0∧det M.length (Cm s M)≠0:=by
 unfold pvO at c
 by_cases c1:codeS M Q s=0
 ·rw [if_pos c1] at c
  refine⟨c1,fun d=>?_⟩
  rw [if_pos d] at c
  exact absurd c (by decide)
 ·rw [if_neg c1] at c;exact absurd c c1
theorem pvO_at {M:List (List Int)} {Q:List Int} {s:Int} (c:codeS M Q s=0) (d:det M.length (Cm s M)≠0):pvO M Q s=(ab (det M.length (Cm s M)),pvR M.length M s,pvS M.length M s Q,0):=by unfold pvO;rw [if_pos c,if_neg d]
end Go.Proofs.Ytbjljcpngbhkeaa.Pp
end
