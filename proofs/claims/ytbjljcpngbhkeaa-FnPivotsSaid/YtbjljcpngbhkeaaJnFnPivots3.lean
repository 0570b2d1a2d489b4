/- Texts of one claim (the words of the kit's print that the claim uses, printed functions, and this session's own texts), joined in the order of their imports by this session's own program (merge.py). -/
import Derived.Test.YtbjljcpngbhkeaaJnFnPivots0
import Derived.Test.YtbjljcpngbhkeaaJnFnPivots1
import Derived.Test.YtbjljcpngbhkeaaJnFnPivots2
set_option linter.unusedVariables false
set_option linter.unusedSimpArgs false
set_option maxHeartbeats 8000000
set_option maxRecDepth 100000
section
namespace Go.Proofs.Ytbjljcpngbhkeaa.Pr
open Go.RowKit Go.Proofs.YtbjljcpngbhkeaaW.PrintWords Go.Proofs.YtbjljcpngbhkeaaW.PrintLast Go.Proofs.YtbjljcpngbhkeaaW.PrintMore Go.Proofs.Ytbjljcpngbhkeaa.La Go.Proofs.Ytbjljcpngbhkeaa.Ma Go.Proofs.Ytbjljcpngbhkeaa.Hm Go.Proofs.Ytbjljcpngbhkeaa.Hd Go.Proofs.Ytbjljcpngbhkeaa.Hput Go.Proofs.Ytbjljcpngbhkeaa.Lw
def dvL (d:Int) (x:List Int):List Int:=x.map fun n=>wrap64 (Int.tdiv n d)
def dvI (d:Int) (x:List Int) (i:Nat):List Int:=(List.range x.length).map fun r=>if r < i then wrap64 (Int.tdiv (x.getD r 0) d) else x.getD r 0
theorem dvI_len (d:Int) (x:List Int) (i:Nat):(dvI d x i).length=x.length:=by simp [dvI]
theorem dvI_zero (d:Int) (x:List Int):dvI d x 0=x:=by
 apply List.ext_getElem
 ·simp [dvI]
 ·intro r h1 h2;simp [dvI,h2]
theorem dvI_all (d:Int) (x:List Int) (i:Nat) (h:i=x.length):dvI d x i=dvL d x:=by
 apply List.ext_getElem
 ·simp [dvI,dvL]
 ·intro r h1 h2
  have hr:r < x.length:=by simpa [dvI] using h1
  simp [dvI,dvL,hr,h]
theorem dvI_at (d:Int) (x:List Int) (i:Nat) (h:i < x.length):(dvI d x i).getD i 0=x.getD i 0:=by simp [dvI,h]
theorem dvI_set (d:Int) (x:List Int) (i:Nat) (h:i < x.length):(dvI d x i).set i (wrap64 (Int.tdiv (x.getD i 0) d))=dvI d x (i+1):=by
 apply List.ext_getElem
 ·simp [dvI]
 ·intro r h1 h2
  rw [List.getElem_set]
  simp only [dvI,List.getElem_map,List.getElem_range]
  by_cases e:i=r
  ·subst e;rw [if_pos rfl,if_pos (by omega)]
  ·rw [if_neg e]
   by_cases c:r < i
   ·rw [if_pos c,if_pos (by omega)]
   ·rw [if_neg c,if_neg (by omega)]
def dvR (d:Int) (R:List (List Int)) (i c:Nat):List (List Int):=(List.range R.length).map fun r=>if r < i then dvL d (R.getD r []) else if r=i then dvI d (R.getD r []) c else R.getD r []
theorem dvR_len (d:Int) (R:List (List Int)) (i c:Nat):(dvR d R i c).length=R.length:=by simp [dvR]
theorem dvR_zero (d:Int) (R:List (List Int)):dvR d R 0 0=R:=by
 apply List.ext_getElem
 ·simp [dvR]
 ·intro r h1 h2
  simp only [dvR,List.getElem_map,List.getElem_range,Nat.not_lt_zero,if_false,dvI_zero]
  split <;> simp [h2]
theorem dvR_next (d:Int) (R:List (List Int)) (i c:Nat) (h:c=(R.getD i []).length):dvR d R i c=dvR d R (i+1) 0:=by
 unfold dvR
 refine List.map_congr_left (fun r _=>?_)
 by_cases e:r=i
 ·subst e;rw [if_neg (by omega),if_pos rfl,if_pos (by omega),dvI_all d _ c h]
 ·by_cases q:r < i
  ·rw [if_pos q,if_pos (by omega)]
  ·rw [if_neg q,if_neg e,if_neg (by omega)]
   by_cases z:r=i+1
   ·rw [if_pos z,dvI_zero]
   ·rw [if_neg z]
theorem dvR_all (d:Int) (R:List (List Int)) (i:Nat) (h:i=R.length):dvR d R i 0=R.map (dvL d):=by
 apply List.ext_getElem
 ·simp [dvR]
 ·intro r h1 h2
  have hr:r < R.length:=by simpa [dvR] using h1
  simp [dvR,hr,h]
theorem dvR_row (d:Int) (R:List (List Int)) (i c:Nat) (h:i < (dvR d R i c).length):(dvR d R i c)[i]=dvI d (R.getD i []) c:=by
 simp only [dvR,List.getElem_map,List.getElem_range]
 rw [if_neg (by omega)]
 simp
theorem dvR_set (d:Int) (R:List (List Int)) (i c:Nat) (h:i < R.length) (hc:c < (R.getD i []).length):(dvR d R i c).set i ((dvI d (R.getD i []) c).set c (wrap64 (Int.tdiv ((R.getD i []).getD c 0) d)))=dvR d R i (c+1):=by
 apply List.ext_getElem
 ·simp [dvR]
 ·intro r h1 h2
  rw [List.getElem_set]
  simp only [dvR,List.getElem_map,List.getElem_range]
  by_cases e:i=r
  ·subst e;rw [if_pos rfl,if_neg (by omega),if_pos rfl,dvI_set d _ c hc]
  ·rw [if_neg e]
   by_cases q:r < i
   ·rw [if_pos q,if_pos q]
   ·rw [if_neg q,if_neg q,if_neg (Ne.symm e),if_neg (Ne.symm e)]
theorem limited_calls (A0:Option Addr) (c0:Nat) (M:List (List Int)) (A1:Option Addr) (c1:Nat) (Q:List Int) (t:Bool) (w:World) (hr0:Kd.C (Kd.slice 2 (Kd.int .i64)) w A0 M.length M) (hc0:M.length≤c0) (hr1:Kd.C (Kd.int .i64) w A1 Q.length Q) (hc1:Q.length≤c1) (ht:impl_IsProblem.f M Q=some t):
  Calls Try.prog 62 #[.agg #[.slice A0 M.length c0, .slice A1 Q.length c1]] w fun e w'=>e= .returned (if t=true then .tuple #[.agg #[.slice A0 M.length c0, .slice A1 Q.length c1], .int .i64 0] else .tuple #[.agg #[.slice none 0 0, .slice none 0 0], .int .i64 3])∧Below w.heap.size w w':=by
 have HR0:=q_ hr0;have HC0:=q_ hc0;have HR1:=q_ hr1;have HC1:=q_ hc1;have HT:=q_ ht;have HB:=q_ (Below.refl w.heap.size w);clear hr0 hc0 hr1 hc1 ht
 go_enter Try.func62,Try.ntmps62
 go_wp2_with (first | ((with_reducible refine gate_dst (N:=1) rfl ?_);refine be_ 1 #[.slice A0 M.length c0, .slice A1 Q.length c1] 27 ?_;intro gb hg w6 hbox hb;replace HB:=q_ (below_step HB.out hb);have hcz0:=cz_ (q_ hbox) 0;have hcz1:=cz_ (q_ hbox) 1;have BK:=q_ hbox;clear hb hbox hg) | ((with_reducible refine gate_dst (N:=2) rfl ?_);refine be_ 2 #[.slice none 0 0, .slice none 0 0] 27 ?_;intro g4 hg w7 hbox hb;have G4:Aside0 (w.heap.size≤g4):=⟨by have:=HB.out.size;omega⟩;have GN:Aside0 (gb < g4):=⟨by have:=blk_lt BK.out;omega⟩;clear hcz0 hcz1;replace HB:=q_ (below_step HB.out hb);replace BK:=q_ (blk_below BK.out hb);have B4:=q_ hbox;clear hb hbox hg;have hcz0:=cz_ BK 0;have hcz1:=cz_ BK 1))
 refine(impl_IsProblem.calls A0 c0 M A1 c1 Q t w7 (Kd.C_below HR0.out HB.out) HC0.out (Kd.C_below HR1.out HB.out) HC1.out HT.out).mono ?_
 rintro e w8 ⟨rfl,hb⟩;clear hcz0 hcz1;replace HB:=q_ (below_step HB.out hb);replace BK:=q_ (blk_below BK.out hb);replace B4:=q_ (blk_below B4.out hb);clear hb;have hs0:=cz_ B4 0;have hs1:=cz_ B4 1;have hsf0:=blk_frozen B4.out 0;have hsf1:=blk_frozen B4.out 1;have hcz0:=cz_ BK 0;have hcz1:=cz_ BK 1;cases t with
 | true=>
  go_wp2_with (first | ((with_reducible refine gate_store (t:=27) (p:=2) rfl ?_);refine store_event (t:=27) (p:=2) (v:=?vo1) (w1:=((w8.setCell ⟨g4,0,none⟩ (.slice A0 M.length c0)).setCell ⟨g4,1,none⟩ (.slice A1 Q.length c1))) ?hg ?ho ?hn ?hr ?_;(case ho=>rfl);(case hg=>rfl);(case hn=>rfl);(case hr=>first | (go_simp;done) | (go_simp;rfl));intro w9 hw;have hF:Frm w8 w9 g4 (g4+1):=(by rw [hw];exact(Frm.set _ _ _ _).trans ((Frm.set _ _ _ _)));have nb:=q_ (show w9.heap[g4]?=some (.cells #[.slice A0 M.length c0, .slice A1 Q.length c1] 27 (0,0)) from (by rw [hw];exact(blk_put (blk_put B4.out 0 _ rfl) 1 _ rfl)));have nB:=q_ (show Below w.heap.size w w9 from (by rw [hw];exact below_set (below_set (HB.out) G4.out) G4.out));replace BK:=q_ ((hF.same _ (blk_lt BK.out) (.inl (by have:=GN.out;omega))).trans BK.out);clear hw HB B4 hF;have HB:=nB;have B4:=nb;clear nB nb))
  refine bodyPost_ret (results_list (rs:= [.cell 2 27, .tmp 3]) rfl (by simp) (.cell g4 27 #[.slice A0 M.length c0, .slice A1 Q.length c1] (0,0) _ rfl B4.out Try.underlying27 rfl (by kernel_rfl) (.tmp .nil))) rfl ?_
  exact⟨rfl,HB.out⟩
 | false=>
  go_wp2_with (first | ((with_reducible refine gate_store (t:=27) (p:=2) rfl ?_);refine store_event (t:=27) (p:=2) (v:=?vo2) (w1:=((w8.setCell ⟨g4,0,none⟩ (.slice none 0 0)).setCell ⟨g4,1,none⟩ (.slice none 0 0))) ?hg ?ho ?hn ?hr ?_;(case ho=>rfl);(case hg=>rfl);(case hn=>rfl);(case hr=>first | (go_simp;done) | (go_simp;rfl));intro w9 hw;have hF:Frm w8 w9 g4 (g4+1):=(by rw [hw];exact(Frm.set _ _ _ _).trans ((Frm.set _ _ _ _)));have nb:=q_ (show w9.heap[g4]?=some (.cells #[.slice none 0 0, .slice none 0 0] 27 (0,0)) from (by rw [hw];exact(blk_put (blk_put B4.out 0 _ rfl) 1 _ rfl)));have nB:=q_ (show Below w.heap.size w w9 from (by rw [hw];exact below_set (below_set (HB.out) G4.out) G4.out));replace BK:=q_ ((hF.same _ (blk_lt BK.out) (.inl (by have:=GN.out;omega))).trans BK.out);clear hw HB B4 hF;have HB:=nB;have B4:=nb;clear nB nb))
  refine bodyPost_ret (results_list (rs:= [.cell 2 27, .tmp 3]) rfl (by simp) (.cell g4 27 #[.slice none 0 0, .slice none 0 0] (0,0) _ rfl B4.out Try.underlying27 rfl (by kernel_rfl) (.tmp .nil))) rfl ?_
  exact⟨rfl,HB.out⟩
def impl_PivotedProblem.f (k:Nat) (aa:List (List Int)) (ae:List Int) (a1:Int):Option (List (List Int) × List Int × Int):=
 (impl_pivotOf.f k aa ae a1).bind fun p=>if p.2.2.2=0 then((impl_Pivot_isWhole.f p.1 p.2.1 p.2.2.1).bind fun t=>if t=true then(if 0 < p.2.1.length∧p.2.1.length≤1000∧p.2.2.1.length=p.2.1.length∧(p.2.1.all fun x=>x.length==p.2.1.length)=true then
  ((impl_IsProblem.f (p.2.1.map (dvL p.1)) (dvL p.1 p.2.2.1)).bind fun u=>some (if u=true then(p.2.1.map (dvL p.1),dvL p.1 p.2.2.1,0) else([], [],3))) else none) else some ([], [],5)) else some ([], [],p.2.2.2)
theorem impl_PivotedProblem.mono: ∀a0 a1 a2 k,LeO (impl_PivotedProblem.f k a0 a1 a2) (impl_PivotedProblem.f (k+1) a0 a1 a2):=by
 intro a0 a1 a2 k
 unfold impl_PivotedProblem.f
 exact LeO.bind (impl_pivotOf.mono _ _ _ _) (fun _=>LeO.refl _)
theorem impl_PivotedProblem.calls (k:Nat) (af:Option Addr) (ag:Nat) (aa:List (List Int)) (ah:Option Addr) (ai:Nat) (ae:List Int) (a1:Int) (r1:List (List Int)) (r2:List Int) (r3:Int) (w:World) (aj:Kd.C (Kd.slice 2 (Kd.int .i64)) w af aa.length aa) (ak:aa.length≤ag) (aq:Kd.C (Kd.int .i64) w ah ae.length ae) (au:ae.length≤ai) (h:impl_PivotedProblem.f k aa ae a1=some (r1,r2,r3)):
  Calls Try.prog 20 #[.agg #[.slice af aa.length ag, .slice ah ae.length ai], .int .i64 a1] w fun e w'=> ∃v0_ v1_:Value,e= .returned (.tuple #[.agg #[v0_,v1_], .int .i64 r3])∧Kd.S (Kd.slice 2 (Kd.int .i64)) 25 w' w.heap.size (fun k_=>some k_≠(v1_:Value).ownBlock) v0_ r1∧Kd.R (Kd.int .i64) 2 w' w.heap.size (fun _=>True) v1_ r2∧Below w.heap.size w w':=by
 unfold impl_PivotedProblem.f at h;obtain⟨⟨den,R,S,code⟩,h1,h⟩:=Option.bind_eq_some_iff.mp h
 dsimp only at h
 have HR0:=q_ aj;have HC0:=q_ ak;have HR1:=q_ aq;have HC1:=q_ au;have H1:=q_ h1;have H:=q_ h;have HB:=q_ (Below.refl w.heap.size w);clear aj ak aq au h h1
 go_enter Try.func20,Try.ntmps20
 go_wp2_with (first | ((with_reducible refine gate_dst (N:=2) rfl ?_);refine be_ 2 #[.slice af aa.length ag, .slice ah ae.length ai] 27 ?_;intro gb hg w6 hbox hb;replace HB:=q_ (below_step HB.out hb);have BK:=q_ hbox;clear hb hbox hg) | ((with_reducible refine gate_dst (N:=4) rfl ?_);refine be_ 4 #[.slice none 0 0, .slice none 0 0] 27 ?_;intro g4 hg w7 hbox hb;have G4:Aside0 (w.heap.size≤g4):=⟨by have:=HB.out.size;omega⟩;have GN:Aside0 (gb < g4):=⟨by have:=blk_lt BK.out;omega⟩;replace HB:=q_ (below_step HB.out hb);replace BK:=q_ (blk_below BK.out hb);have B4:=q_ hbox;clear hb hbox hg;have hcz0:=cz_ BK 0;have hcz1:=cz_ BK 1))
 refine(impl_pivotOf.calls k af ag aa ah ai ae a1 den R S code w7 (Kd.C_below HR0.out HB.out) HC0.out (Kd.C_below HR1.out HB.out) HC1.out H1.out).mono ?_
 rintro e w8 ⟨v1,v2,rfl,hS,hR,hb⟩;have HP:=q_ (UP.of (w0:=w) hS hR HB.out.size);have G4L:Aside0 (g4 < w7.heap.size):=⟨blk_lt B4.out⟩
 have HLH:Aside0 (w7.heap.size≤w8.heap.size):=⟨hb.size⟩
 clear hcz0 hcz1 hS hR H1;replace HB:=q_ (below_step HB.out hb);replace BK:=q_ (blk_below BK.out hb);replace B4:=q_ (blk_below B4.out hb);clear hb;obtain⟨As,cs,At,ct,rfl,rfl⟩:=HP.out.slices;have HHI:Aside0 (w8.heap.size≤w8.heap.size):=⟨Nat.le_refl _⟩
 generalize hlo:w7.heap.size=lo at*
 generalize hhi:w8.heap.size=hi at HP HLH HHI
 have HHI2:Aside0 (hi=w8.heap.size):=⟨hhi.symm⟩
 clear hlo hhi HHI
 by_cases c0:code=0
 ·have h:=H.out;rw [if_pos c0] at h;obtain⟨t,h2,h⟩:=Option.bind_eq_some_iff.mp h;have H2:=q_ h2;have H:=q_ h;have hden:Aside0 (den≠0):=⟨by unfold impl_Pivot_isWhole.f at h2;split at h2;(rename_i hq;exact hq.1);cases h2⟩
  subst c0;clear h h2
  go_wp2_with (first | ((with_reducible refine gate_dst (N:=6) rfl ?_);refine be_ 6 #[.int .i64 0, .slice none 0 0, .slice none 0 0] 49 ?_;intro g6 hg w9 hbox hb;have G6:Aside0 (w.heap.size≤g6):=⟨by have:=HB.out.size;omega⟩;have G6H:Aside0 (hi≤g6):=⟨by have:=HHI2.out;omega⟩;replace HB:=q_ (below_step HB.out hb);replace BK:=q_ (blk_below BK.out hb);replace B4:=q_ (blk_below B4.out hb);replace HP:=q_ (HP.out.mvB (Frm.below hb));have B6:=q_ hbox;clear hb hbox hg;have hs0:=cz_ B6 0;have hs1:=cz_ B6 1;have hs2:=cz_ B6 2;have hsf0:=blk_frozen B6.out 0;have hsf1:=blk_frozen B6.out 1;have hsf2:=blk_frozen B6.out 2) | ((with_reducible refine gate_store (t:=49) (p:=6) rfl ?_);refine store_event (t:=49) (p:=6) (v:=?vo3) (w1:=(((w9.setCell ⟨g6,0,none⟩ (.int .i64 den)).setCell ⟨g6,1,none⟩ (.slice As R.length cs)).setCell ⟨g6,2,none⟩ (.slice At S.length ct))) ?hg ?ho ?hn ?hr ?_;(case ho=>rfl);(case hg=>rfl);(case hn=>rfl);(case hr=>first | (go_simp;done) | (go_simp;rfl));intro w10 hw;have hF:Frm w9 w10 g6 (g6+1):=(by rw [hw];exact(Frm.set _ _ _ _).trans ((Frm.set _ _ _ _).trans ((Frm.set _ _ _ _))));have nb:=q_ (show w10.heap[g6]?=some (.cells #[.int .i64 den, .slice As R.length cs, .slice At S.length ct] 49 (0,0)) from (by rw [hw];exact(blk_put (blk_put (blk_put B6.out 0 _ rfl) 1 _ rfl) 2 _ rfl)));have nB:=q_ (show Below w.heap.size w w10 from (by rw [hw];exact below_set (below_set (below_set (HB.out) G6.out) G6.out) G6.out));replace BK:=q_ ((hF.same _ (blk_lt BK.out) (.inl (by have:=G6H.out;have:=HLH.out;have:=G4L.out;have:=GN.out;omega))).trans BK.out);replace B4:=q_ ((hF.same _ (blk_lt B4.out) (.inl (by have:=G6H.out;have:=HLH.out;have:=G4L.out;have:=GN.out;omega))).trans B4.out);replace HP:=q_ (HP.out.mv hF (.inl G6H.out));clear hw HB B6 hF;have HB:=nB;have B6:=nb;clear nB nb hs0 hs1 hs2 hsf0 hsf1 hsf2;have hs0:=cz_ B6 0;have hs1:=cz_ B6 1;have hs2:=cz_ B6 2;have hf0:=cz_ B4 0;have hf1:=cz_ B4 1;have hff0:=blk_frozen B4.out 0;have hff1:=blk_frozen B4.out 1))
  refine(impl_Pivot_isWhole.calls den As cs R At ct S t w10 (HP.out.C0) HP.out.cap0 (HP.out.C1) HP.out.cap1 H2.out).mono ?_
  rintro e w11 ⟨rfl,hb⟩;clear hs0 hs1 hs2 hf0 hf1 hff0 hff1;replace HB:=q_ (below_step HB.out hb);replace BK:=q_ (blk_below BK.out hb);replace B4:=q_ (blk_below B4.out hb);replace HP:=q_ (HP.out.mvB (Frm.below hb));replace B6:=q_ (blk_below B6.out hb);clear hb H2;have hs0:=cz_ B6 0;have hs1:=cz_ B6 1;have hs2:=cz_ B6 2;have hf0:=cz_ B4 0;have hf1:=cz_ B4 1;have hff0:=blk_frozen B4.out 0;have hff1:=blk_frozen B4.out 1;cases t with
  | false=>
   have h:=H.out;rw [if_neg (by simp)] at h;cases h
   go_wp2_with (first | ((with_reducible refine gate_store (t:=27) (p:=4) rfl ?_);refine store_event (t:=27) (p:=4) (v:=?vo4) (w1:=((w11.setCell ⟨g4,0,none⟩ (.slice none 0 0)).setCell ⟨g4,1,none⟩ (.slice none 0 0))) ?hg ?ho ?hn ?hr ?_;(case ho=>rfl);(case hg=>rfl);(case hn=>rfl);(case hr=>first | (go_simp;done) | (go_simp;rfl));intro w12 hw;have hF:Frm w11 w12 g4 (g4+1):=(by rw [hw];exact(Frm.set _ _ _ _).trans ((Frm.set _ _ _ _)));have nb:=q_ (show w12.heap[g4]?=some (.cells #[.slice none 0 0, .slice none 0 0] 27 (0,0)) from (by rw [hw];exact(blk_put (blk_put B4.out 0 _ rfl) 1 _ rfl)));have nB:=q_ (show Below w.heap.size w w12 from (by rw [hw];exact below_set (below_set (HB.out) G4.out) G4.out));replace BK:=q_ ((hF.same _ (blk_lt BK.out) (.inl (by have:=GN.out;omega))).trans BK.out);replace HP:=q_ (HP.out.mv hF (.inr (by have:=G4L.out;omega)));replace B6:=q_ ((hF.same _ (blk_lt B6.out) (.inr (by have:=HLH.out;have:=G6H.out;have:=G4L.out;omega))).trans B6.out);clear hw HB B4 hF;have HB:=nB;have B4:=nb;clear nB nb))
   refine bodyPost_ret (results_list (rs:= [.cell 4 27, .tmp 5]) rfl (by simp) (.cell g4 27 #[.slice none 0 0, .slice none 0 0] (0,0) _ rfl B4.out Try.underlying27 rfl (by kernel_rfl) (.tmp .nil))) rfl ?_
   exact⟨_,_,rfl,Kd.S_nil _ _ _ _ _,Kd.R_nil _ _ _ _ _,HB.out⟩
  | true=>
   have h:=H.out;rw [if_pos rfl] at h
   by_cases cq:0 < R.length∧R.length≤1000∧S.length=R.length∧(R.all fun x=>x.length==R.length)=true
   ·rw [if_pos cq] at h;obtain⟨u,h3,h⟩:=Option.bind_eq_some_iff.mp h;obtain⟨q1,q2,q3,q4⟩:=cq;have HROW:Aside0 (∀i,i < R.length→(R.getD i []).length=R.length):=⟨fun i hi=>by
     have:=List.all_eq_true.1 q4 (R.getD i []) (by rw [List.getD_eq_getElem?_getD,List.getElem?_eq_getElem hi];exact List.getElem_mem hi)
     simpa using this⟩
    have H3:=q_ h3;have H:=q_ (Option.some.inj h);have HS:=q_ q3;have HPO:=q_ q1;have HN:=q_ q2;rw [q3] at HP B6 hs2 ⊢;obtain⟨g,cap,e1,_⟩:=Kd.S_form HP.out.m q1;injection e1 with e1 e3 e2
    clear e3;subst e1;subst e2;obtain⟨gs,caps,e1,_⟩:=Kd.R_form HP.out.q (by have:=HS.out;have:=HPO.out;omega);injection e1 with e1 e3 e2
    clear e3;subst e1;subst e2;have GLO:Aside0 (lo≤gs∧gs < hi):=⟨HP.out.q.1 gs rfl⟩
    clear h h3 q1 q3 q4
    go_wp2_with (first | ((with_reducible refine gate_dst (N:=8) rfl ?_);refine be_ 8 #[.slice none 0 0, .slice none 0 0] 27 ?_;intro g8 hg w12 hbox hb;have G8:Aside0 (w.heap.size≤g8):=⟨by have:=HB.out.size;omega⟩;have G8H:Aside0 (hi≤g8):=⟨by have:=G6H.out;have:=blk_lt B6.out;omega⟩;have G86:Aside0 (g6 < g8):=⟨by have:=blk_lt B6.out;omega⟩;clear hs0 hs1 hs2 hf0 hf1 hff0 hff1;replace HB:=q_ (below_step HB.out hb);replace BK:=q_ (blk_below BK.out hb);replace B4:=q_ (blk_below B4.out hb);replace HP:=q_ (HP.out.mvB (Frm.below hb));replace B6:=q_ (blk_below B6.out hb);have B8:=q_ hbox;clear hb hbox hg;have hs0:=cz_ B8 0;have hs1:=cz_ B8 1;have hsf0:=blk_frozen B8.out 0;have hsf1:=blk_frozen B8.out 1) | ((with_reducible refine gate_store (t:=27) (p:=8) rfl ?_);refine store_event (t:=27) (p:=8) (v:=?vo5) (w1:=((w12.setCell ⟨g8,0,none⟩ (.slice (some ⟨g,0,none⟩) R.length cs)).setCell ⟨g8,1,none⟩ (.slice (some ⟨gs,0,none⟩) R.length ct))) ?hg ?ho ?hn ?hr ?_;(case ho=>rfl);(case hg=>rfl);(case hn=>rfl);(case hr=>first | (go_simp;done) | (go_simp;rfl));intro w13 hw;have hF:Frm w12 w13 g8 (g8+1):=(by rw [hw];exact(Frm.set _ _ _ _).trans ((Frm.set _ _ _ _)));have nb:=q_ (show w13.heap[g8]?=some (.cells #[.slice (some ⟨g,0,none⟩) R.length cs, .slice (some ⟨gs,0,none⟩) R.length ct] 27 (0,0)) from (by rw [hw];exact(blk_put (blk_put B8.out 0 _ rfl) 1 _ rfl)));have nB:=q_ (show Below w.heap.size w w13 from (by rw [hw];exact below_set (below_set (HB.out) G8.out) G8.out));replace BK:=q_ ((hF.same _ (blk_lt BK.out) (.inl (by have:=G8H.out;have:=HLH.out;have:=G4L.out;have:=GN.out;omega))).trans BK.out);replace B4:=q_ ((hF.same _ (blk_lt B4.out) (.inl (by have:=G8H.out;have:=HLH.out;have:=G4L.out;have:=GN.out;omega))).trans B4.out);replace HP:=q_ (HP.out.mv hF (.inl G8H.out));replace B6:=q_ ((hF.same _ (blk_lt B6.out) (.inl G86.out)).trans B6.out);clear hw HB B8 hF;have HB:=nB;have B8:=nb;clear nB nb hs0 hs1 hsf0 hsf1;have hs0:=cz_ B8 0;have hs1:=cz_ B8 1))
    have HW8:=q_ HS.out
    go_loopg [34] R.length (fun gg v34 wr=> ∃i:Nat,i≤R.length∧R.length - i≤gg∧v34= .int .i64 (i:Int)∧Aside0 (Below w.heap.size w wr)∧Aside0 (wr.heap[g4]?=some (.cells #[.slice none 0 0, .slice none 0 0] 27 (0,0)))∧Aside0 (wr.heap[g6]?=some (.cells #[.int .i64 den, .slice (some ⟨g,0,none⟩) R.length cs, .slice (some ⟨gs,0,none⟩) R.length ct] 49 (0,0)))∧Aside0 (wr.heap[g8]?=some (.cells #[.slice (some ⟨g,0,none⟩) R.length cs, .slice (some ⟨gs,0,none⟩) R.length ct] 27 (0,0)))∧Aside0 (UP w wr lo hi (.slice (some ⟨g,0,none⟩) R.length cs) (.slice (some ⟨gs,0,none⟩) R.length ct) (dvR den R i 0) (dvI den S i)))
    case atStart=>exact⟨0,Nat.zero_le _,by omega,rfl,HB,B4,B6,B8,⟨by rw [dvR_zero,dvI_zero];exact HP.out⟩⟩
    case round=>
     clear HB B4 B6 B8 HP hs0 hs1 BK;obtain⟨i,hi_,hgg,rfl,HB,B4,B6,B8,HP⟩:=hrel;have HG:=q_ hgg
     by_cases hin:i < R.length
     ·have HIN:=q_ hin;have hiz:(i:Int) < (R.length:Int):=by omega
      have h0i:(0:Int)≤(i:Int):=by omega
      have hi1:IntKind.i64.wrap ((i:Int)+1)=((i+1:Nat):Int):=by rw [IntWalk.i64_in _ (by have:=HN.out;omega)];rfl
      have HI1:=q_ hi1;have hrow:=dvR_row den R i 0 (by rw [dvR_len];exact hin);have hpr:=put_row (w0:=w) (g:=g) (cap:=cs) HB.out (l:=dvR den R i 0) (by rw [dvR_len];exact HP.out.m) i (by rw [dvR_len];exact hin) 0 (by rw [hrow,dvI_len,HROW.out i hin];omega);rw [hrow,dvI_len,HROW.out i hin] at hpr;obtain⟨b,cj,hcellg,_,_,_⟩:=hpr;have HCG:=q_ hcellg;have hat:=Kd.R_celln 0 HP.out.q (i:Int) (by omega) hiz;rw [Int.toNat_natCast] at hat;have hatv:wr.cell? ⟨gs,i,none⟩=some (.int .i64 (S.getD i 0)):=by
       have e:=hat.1;rw [show rdOf 0 (dvI den S i) (i:Int)=S.getD i 0 from by unfold rdOf;rw [Int.toNat_natCast];exact dvI_at den S i (by rw [HS.out];exact hin)] at e;exact e
      have hatf:=hat.2;have hd0: ¬ den=0:=hden.out;have hput:=Kd.R_putg HP.out.q (i:Int) (wrap64 (Int.tdiv (S.getD i 0) den));rw [Int.toNat_natCast,dvI_set den S i (by rw [HS.out];exact hin)] at hput;have HQ2:=q_ hput.1
      generalize hxs:S.getD i 0=xs at hatv HQ2
      have hc80:=cz_ B8 0;have hc81:=cz_ B8 1;have hc60:=cz_ B6 0;clear hrow hin hgg hi_ hat hput hxs;go_wp2
      have hcd0:wr.drew.cell? ⟨g8,1,none⟩=some (.slice (some ⟨gs,0,none⟩) R.length ct):=hc81;have hcd1:wr.drew.cell? ⟨gs,i,none⟩=some (.int .i64 xs):=hatv;have hcd2:wr.drew.cell? ⟨g6,0,none⟩=some (.int .i64 den):=hc60;have hcd3:wr.drew.frozen? ⟨gs,i,none⟩=false:=hatf;refine st_ (n:=10) (S:=fun w'=>w'.cell? ⟨g8,1,none⟩=some (.slice (some ⟨gs,0,none⟩) R.length ct)∧w'.cell? ⟨gs,i,none⟩=some (.int .i64 xs)∧w'.cell? ⟨g6,0,none⟩=some (.int .i64 den)) (ds:= [9]) ⟨hcd0,hcd1,hcd2⟩ (fun hHeld=>?_)
      refine pu_ 0 39 ?_;refine tk_ 1 40 ?_;refine pu_ 2 41 ?_;refine pu_ 3 42 ?_;refine tk_ 4 43 ?_;refine pu_ 5 44 ?_;refine tk_ 6 45 ?_;refine pu_ 7 46 ?_;refine pu_ 8 47 ?_
      refine la_ 9 none (fun K hK=>?_)
      refine skip_ (w1:=?_) (by rfl) rfl ?_ ?_
      rotate_left
      ·go_simp
       rfl
      refine hK.out _ _ ?_
      clear hK K;refine done_ (by kernel_rfl) ?_
      have hw:wr.drew.setCell ⟨gs,i,none⟩ (.int .i64 (wrap64 (Int.tdiv xs den)))=(wr.setCell ⟨gs,i,none⟩ (.int .i64 (wrap64 (Int.tdiv xs den)))).drew:=rfl;have hF:Frm wr (wr.setCell ⟨gs,i,none⟩ (.int .i64 (wrap64 (Int.tdiv xs den)))) gs (gs+1):=Frm.set _ _ _ _;have nP:Aside0 (UP w (wr.setCell ⟨gs,i,none⟩ (.int .i64 (wrap64 (Int.tdiv xs den)))) lo hi (.slice (some ⟨g,0,none⟩) R.length cs) (.slice (some ⟨gs,0,none⟩) R.length ct) (dvR den R i 0) (dvI den S (i+1))):=⟨⟨Kd.S_step HP.out.m (fun k hk hlt=>hF.same k hlt (by have:=hk.2;simp [Value.ownBlock] at this;omega)),HQ2.out⟩⟩
      have nB:Aside0 (Below w.heap.size w (wr.setCell ⟨gs,i,none⟩ (.int .i64 (wrap64 (Int.tdiv xs den))))):=⟨below_set HB.out (Kd.R_base HP.out.q gs rfl)⟩
      have n4:=q_ ((hF.same g4 (blk_lt B4.out) (.inl (by have:=G4L.out;have:=GLO.out.1;omega))).trans B4.out);have n6:=q_ ((hF.same g6 (blk_lt B6.out) (.inr (by have:=G6H.out;have:=GLO.out.2;omega))).trans B6.out);have n8:=q_ ((hF.same g8 (blk_lt B8.out) (.inr (by have:=G8H.out;have:=GLO.out.2;omega))).trans B8.out);have nC:Aside0 ((wr.setCell ⟨gs,i,none⟩ (.int .i64 (wrap64 (Int.tdiv xs den)))).cell? ⟨g,i,none⟩=some (.slice (some ⟨b,0,none⟩) R.length cj)):=⟨by rw [cset_other (by intro q;have:=congrArg Addr.block q;exact((Kd.S_R HP.out.m).1 g rfl).2 (by simp [Value.ownBlock];exact this.symm))];exact HCG.out⟩
      clear HP HB B4 B6 B8 HCG HQ2 hcd0 hcd1 hcd2 hcd3 hc80 hc81 hc60 hatv hatf hcellg hF hHeld;have HP:=nP;have HB:=nB;have B4:=n4;have B6:=n6;have B8:=n8;have HCG:=nC;clear nP nB n4 n6 n8 nC
      generalize wr.drew.setCell ⟨gs,i,none⟩ (.int .i64 (wrap64 (Int.tdiv xs den)))=w20 at hw
      generalize wr.setCell ⟨gs,i,none⟩ (.int .i64 (wrap64 (Int.tdiv xs den)))=w19 at*
      subst hw;replace HP:=q_ (HP.out.mvB (Frm.below (below_drew (Below.refl _ _))));replace HB:=q_ (below_drew HB.out);replace B4:=q_ (blk_drew B4.out);replace B6:=q_ (blk_drew B6.out);replace B8:=q_ (blk_drew B8.out);replace HCG:Aside0 (w19.drew.cell? ⟨g,i,none⟩=some (.slice (some ⟨b,0,none⟩) R.length cj)):=⟨HCG.out⟩
      generalize w19.drew=w20 at*
      go_wp2
      go_loopg [50] R.length (fun gg v50 w30=> ∃c:Nat,c≤R.length∧R.length - c≤gg∧v50= .int .i64 (c:Int)∧Aside0 (Below w.heap.size w w30)∧Aside0 (w30.heap[g4]?=some (.cells #[.slice none 0 0, .slice none 0 0] 27 (0,0)))∧Aside0 (w30.heap[g6]?=some (.cells #[.int .i64 den, .slice (some ⟨g,0,none⟩) R.length cs, .slice (some ⟨gs,0,none⟩) R.length ct] 49 (0,0)))∧Aside0 (w30.heap[g8]?=some (.cells #[.slice (some ⟨g,0,none⟩) R.length cs, .slice (some ⟨gs,0,none⟩) R.length ct] 27 (0,0)))∧Aside0 (UP w w30 lo hi (.slice (some ⟨g,0,none⟩) R.length cs) (.slice (some ⟨gs,0,none⟩) R.length ct) (dvR den R i c) (dvI den S (i+1)))∧Aside0 (w30.cell? ⟨g,i,none⟩=some (.slice (some ⟨b,0,none⟩) R.length cj)))
      case atStart=>exact⟨0,Nat.zero_le _,by omega,rfl,HB,B4,B6,B8,HP,HCG⟩
      case round=>
       clear HB B4 B6 B8 HP HCG;obtain⟨c,hc_,hgg,rfl,HB,B4,B6,B8,HP,HCG⟩:=hrel;have HG2:=q_ hgg
       by_cases hcn:c < R.length
       ·have HCN:=q_ hcn;have hcz:(c:Int) < (R.length:Int):=by omega
        have h0c:(0:Int)≤(c:Int):=by omega
        have hc1:IntKind.i64.wrap ((c:Int)+1)=((c+1:Nat):Int):=by rw [IntWalk.i64_in _ (by have:=HN.out;omega)];rfl
        have HC1':=q_ hc1;have hrow:=dvR_row den R i c (by rw [dvR_len];exact HIN.out);have hpr:=put_row (w0:=w) (g:=g) (cap:=cs) HB.out (l:=dvR den R i c) (by rw [dvR_len];exact HP.out.m) i (by rw [dvR_len];exact HIN.out) c (by rw [hrow,dvI_len,HROW.out i HIN.out];exact hcn);rw [hrow,dvI_len,HROW.out i HIN.out,dvR_len] at hpr;obtain⟨b',cj',hcell',hold,hfr,hset⟩:=hpr;have ebb:b'=b:=by
         have:=hcell'.symm.trans HCG.out;injection this with this
         injection this with this
         injection this with this
         exact congrArg Addr.block this
        subst ebb;have hset2:=hset (wrap64 (Int.tdiv ((R.getD i []).getD c 0) den));rw [dvR_set den R i c HIN.out (by rw [HROW.out i HIN.out];exact hcn)] at hset2;have HSET:=q_ hset2;rw [dvI_at den _ c (by rw [HROW.out i HIN.out];exact hcn)] at hold
        generalize (R.getD i []).getD c 0=xv at hold HSET
        have hd0: ¬ den=0:=hden.out;have hc60:=cz_ B6 0;clear hset hset2 hrow hcn hc_ hgg hcell';go_wp2
        have hcd1:wr.drew.cell? ⟨b',c,none⟩=some (.int .i64 xv):=hold;have hcd2:wr.drew.cell? ⟨g6,0,none⟩=some (.int .i64 den):=hc60;have hcd3:wr.drew.frozen? ⟨b',c,none⟩=false:=hfr;refine st_ (n:=9) (S:=fun w'=>w'.cell? ⟨b',c,none⟩=some (.int .i64 xv)∧w'.cell? ⟨g6,0,none⟩=some (.int .i64 den)) (ds:= [8]) ⟨hcd1,hcd2⟩ (fun hHeld=>?_)
        refine pu_ 0 53 ?_;refine pu_ 1 54 ?_;refine pu_ 2 55 ?_;refine tk_ 3 56 ?_;refine pu_ 4 57 ?_;refine tk_ 5 58 ?_;refine pu_ 6 59 ?_;refine pu_ 7 60 ?_
        refine la_ 8 none (fun K hK=>?_)
        refine skip_ (w1:=?_) (by rfl) rfl ?_ ?_
        rotate_left
        ·go_simp
         rfl
        refine hK.out _ _ ?_
        clear hK K;refine done_ (by kernel_rfl) ?_
        have hw:wr.drew.setCell ⟨b',c,none⟩ (.int .i64 (wrap64 (Int.tdiv xv den)))=(wr.setCell ⟨b',c,none⟩ (.int .i64 (wrap64 (Int.tdiv xv den)))).drew:=rfl;have hok:=HSET.out.2.2;have hF:Frm wr (wr.setCell ⟨b',c,none⟩ (.int .i64 (wrap64 (Int.tdiv xv den)))) lo hi:=Frm.kept hok (fun k hk=>hk.1);have nP:Aside0 (UP w (wr.setCell ⟨b',c,none⟩ (.int .i64 (wrap64 (Int.tdiv xv den)))) lo hi (.slice (some ⟨g,0,none⟩) R.length cs) (.slice (some ⟨gs,0,none⟩) R.length ct) (dvR den R i (c+1)) (dvI den S (i+1))):=⟨⟨HSET.out.1,Kd.R_step (ok:=fun k=>(lo≤k∧k < hi)∧k=gs) (Kd.R_mono (Kd.R_tight rfl HP.out.q) (fun k hk=>by have e:k=gs:=(by simpa [Value.ownBlock] using hk);subst e;exact⟨GLO.out,rfl⟩)) (fun k hk hlt=>hok.2 k hlt (fun q=>q.2 (by rw [hk.2];rfl))) |> fun z=>Kd.R_mono z (fun k hk=>hk.1)⟩⟩
        have nB:=q_ HSET.out.2.1;have n4:=q_ ((hF.same g4 (blk_lt B4.out) (.inl G4L.out)).trans B4.out);have n6:=q_ ((hF.same g6 (blk_lt B6.out) (.inr G6H.out)).trans B6.out);have n8:=q_ ((hF.same g8 (blk_lt B8.out) (.inr G8H.out)).trans B8.out);have nC:Aside0 ((wr.setCell ⟨b',c,none⟩ (.int .i64 (wrap64 (Int.tdiv xv den)))).cell? ⟨g,i,none⟩=some (.slice (some ⟨b',0,none⟩) R.length cj)):=by
         by_cases q:g=b'
         ·subst q;exact⟨by
           obtain⟨_,_,e1,_,_,cells,hc⟩:=Kd.S_form HP.out.m (by rw [dvR_len];exact HPO.out);injection e1 with e1 _ _
           injection e1 with e1
           have e1:=congrArg Addr.block e1
           exfalso
           have hx:=HCG.out
           by_cases q2:i=c
           ·rw [q2] at hx;rw [hold] at hx;cases hx
           ·obtain⟨bb,cc,hcc,hold2,_,_⟩:=put_row (w0:=w) (g:=g) (cap:=cs) HB.out (l:=dvR den R i c) (by rw [dvR_len];exact HP.out.m) i (by rw [dvR_len];exact HIN.out) i (by rw [dvR_row den R i c (by rw [dvR_len];exact HIN.out),dvI_len,HROW.out i HIN.out];exact HIN.out);have:=hcc.symm.trans hx;injection this with this
            injection this with this
            injection this with this
            have hbb:bb=g:=congrArg Addr.block this;rw [hbb] at hold2;rw [hx] at hold2;cases hold2⟩
         ·exact⟨by rw [cset_other (by intro e;exact q (congrArg Addr.block e).symm)];exact HCG.out⟩
        clear HP HB B4 B6 B8 HCG HSET hcd1 hcd2 hcd3 hc60 hold hfr hok hF hHeld;have HP:=nP;have HB:=nB;have B4:=n4;have B6:=n6;have B8:=n8;have HCG:=nC;clear nP nB n4 n6 n8 nC
        generalize wr.drew.setCell ⟨b',c,none⟩ (.int .i64 (wrap64 (Int.tdiv xv den)))=w40 at hw
        generalize wr.setCell ⟨b',c,none⟩ (.int .i64 (wrap64 (Int.tdiv xv den)))=w39 at*
        subst hw;replace HP:=q_ (HP.out.mvB (Frm.below (below_drew (Below.refl _ _))));replace HB:=q_ (below_drew HB.out);replace B4:=q_ (blk_drew B4.out);replace B6:=q_ (blk_drew B6.out);replace B8:=q_ (blk_drew B8.out);replace HCG:Aside0 (w39.drew.cell? ⟨g,i,none⟩=some (.slice (some ⟨b',0,none⟩) R.length cj)):=⟨HCG.out⟩
        go_wp2
        go_roundg (R.length - (c+1))
        case measure=>have:=HG2.out;have:=HCN.out;omega
        case rel=>exact⟨c+1,by have:=HCN.out;omega,by omega,by first | rfl | (rw [HC1'.out]) | (simp [HC1'.out]),HB,B4,B6,B8,HP,HCG⟩
       ·have hcz: ¬ (c:Int) < (R.length:Int):=by omega
        have hce:c=R.length:=by omega
        have HP2:Aside0 (UP w wr lo hi (.slice (some ⟨g,0,none⟩) R.length cs) (.slice (some ⟨gs,0,none⟩) R.length ct) (dvR den R (i+1) 0) (dvI den S (i+1))):=⟨by rw [← dvR_next den R i c (by rw [HROW.out i HIN.out];exact hce)];exact HP.out⟩
        clear HP;go_wp2
        go_roundg (R.length - (i+1))
        case measure=>have:=HG.out;have:=HIN.out;omega
        case rel=>exact⟨i+1,by have:=HIN.out;omega,by omega,by first | rfl | (rw [HI1.out]) | (simp [HI1.out]),HB,B4,B6,B8,HP2⟩
     ·have hiz: ¬ (i:Int) < (R.length:Int):=by omega
      obtain rfl:i=R.length:=by omega
      rw [dvR_all den R R.length rfl,dvI_all den S R.length HS.out.symm] at HP;have hs0:=cz_ B8 0;have hs1:=cz_ B8 1
      go_wp2_with fail
      have hm1:(R.map (dvL den)).length=R.length:=by simp
      have hm2:(dvL den S).length=R.length:=by simp [dvL,HS.out]
      have hlim:=limited_calls (some ⟨g,0,none⟩) cs (R.map (dvL den)) (some ⟨gs,0,none⟩) ct (dvL den S) u wr HP.out.C0 HP.out.cap0 HP.out.C1 HP.out.cap1 H3.out;rw [hm1,hm2] at hlim;refine hlim.mono ?_
      rintro e w50 ⟨rfl,hb⟩;clear hlim hs0 hs1;replace HB:=q_ (below_step HB.out hb);replace B4:=q_ (blk_below B4.out hb);replace HP:=q_ (HP.out.mvB (Frm.below hb));clear hb B6 B8;have hf0:=cz_ B4 0;have hf1:=cz_ B4 1;have hff0:=blk_frozen B4.out 0;have hff1:=blk_frozen B4.out 1;cases u with
      | true=>
       have h:=H.out;rw [if_pos rfl] at h;cases h
       rw [if_pos rfl]
       go_wp2_with (first | ((with_reducible refine gate_store (t:=27) (p:=4) rfl ?_);refine store_event (t:=27) (p:=4) (v:=?vo6) (w1:=((w50.setCell ⟨g4,0,none⟩ (.slice (some ⟨g,0,none⟩) R.length cs)).setCell ⟨g4,1,none⟩ (.slice (some ⟨gs,0,none⟩) R.length ct))) ?hg ?ho ?hn ?hr ?_;(case ho=>rfl);(case hg=>rfl);(case hn=>rfl);(case hr=>first | (go_simp;done) | (go_simp;rfl));intro w51 hw;have hF:Frm w50 w51 g4 (g4+1):=(by rw [hw];exact(Frm.set _ _ _ _).trans ((Frm.set _ _ _ _)));have nb:=q_ (show w51.heap[g4]?=some (.cells #[.slice (some ⟨g,0,none⟩) R.length cs, .slice (some ⟨gs,0,none⟩) R.length ct] 27 (0,0)) from (by rw [hw];exact(blk_put (blk_put B4.out 0 _ rfl) 1 _ rfl)));have nB:=q_ (show Below w.heap.size w w51 from (by rw [hw];exact below_set (below_set (HB.out) G4.out) G4.out));replace HP:=q_ (HP.out.mv hF (.inr (by have:=G4L.out;omega)));clear hw HB B4 hF;have HB:=nB;have B4:=nb;clear nB nb))
       refine bodyPost_ret (results_list (rs:= [.cell 4 27, .tmp 5]) rfl (by simp) (.cell g4 27 #[.slice (some ⟨g,0,none⟩) R.length cs, .slice (some ⟨gs,0,none⟩) R.length ct] (0,0) _ rfl B4.out Try.underlying27 rfl (by kernel_rfl) (.tmp .nil))) rfl ?_
       exact⟨_,_,rfl,Kd.S_mono HP.out.m (fun k hk=>hk.2),Kd.R_mono HP.out.q (fun _ _=>trivial),HB.out⟩
      | false=>
       have h:=H.out;rw [if_neg (by simp)] at h;cases h
       rw [if_neg (by simp)]
       go_wp2_with (first | ((with_reducible refine gate_store (t:=27) (p:=4) rfl ?_);refine store_event (t:=27) (p:=4) (v:=?vo7) (w1:=((w50.setCell ⟨g4,0,none⟩ (.slice none 0 0)).setCell ⟨g4,1,none⟩ (.slice none 0 0))) ?hg ?ho ?hn ?hr ?_;(case ho=>rfl);(case hg=>rfl);(case hn=>rfl);(case hr=>first | (go_simp;done) | (go_simp;rfl));intro w51 hw;have hF:Frm w50 w51 g4 (g4+1):=(by rw [hw];exact(Frm.set _ _ _ _).trans ((Frm.set _ _ _ _)));have nb:=q_ (show w51.heap[g4]?=some (.cells #[.slice none 0 0, .slice none 0 0] 27 (0,0)) from (by rw [hw];exact(blk_put (blk_put B4.out 0 _ rfl) 1 _ rfl)));have nB:=q_ (show Below w.heap.size w w51 from (by rw [hw];exact below_set (below_set (HB.out) G4.out) G4.out));replace HP:=q_ (HP.out.mv hF (.inr (by have:=G4L.out;omega)));clear hw HB B4 hF;have HB:=nB;have B4:=nb;clear nB nb))
       refine bodyPost_ret (results_list (rs:= [.cell 4 27, .tmp 5]) rfl (by simp) (.cell g4 27 #[.slice none 0 0, .slice none 0 0] (0,0) _ rfl B4.out Try.underlying27 rfl (by kernel_rfl) (.tmp .nil))) rfl ?_
       exact⟨_,_,rfl,Kd.S_nil _ _ _ _ _,Kd.R_nil _ _ _ _ _,HB.out⟩
   ·rw [if_neg cq] at h;cases h
 ·have h:=H.out;rw [if_neg c0] at h;cases h
  have hc0:(r3==0)=false:=by simpa using c0
  have hc1:(r3 !=0)=true:=by simpa using c0
  go_wp2_with (first | ((with_reducible refine gate_dst (N:=6) rfl ?_);refine be_ 6 #[.int .i64 0, .slice none 0 0, .slice none 0 0] 49 ?_;intro g6 hg w9 hbox hb;have G6:Aside0 (w.heap.size≤g6):=⟨by have:=HB.out.size;omega⟩;have G6H:Aside0 (hi≤g6):=⟨by have:=HHI2.out;omega⟩;replace HB:=q_ (below_step HB.out hb);replace BK:=q_ (blk_below BK.out hb);replace B4:=q_ (blk_below B4.out hb);replace HP:=q_ (HP.out.mvB (Frm.below hb));have B6:=q_ hbox;clear hb hbox hg;have hs0:=cz_ B6 0;have hs1:=cz_ B6 1;have hs2:=cz_ B6 2;have hsf0:=blk_frozen B6.out 0;have hsf1:=blk_frozen B6.out 1;have hsf2:=blk_frozen B6.out 2) | ((with_reducible refine gate_store (t:=49) (p:=6) rfl ?_);refine store_event (t:=49) (p:=6) (v:=?vo8) (w1:=(((w9.setCell ⟨g6,0,none⟩ (.int .i64 den)).setCell ⟨g6,1,none⟩ (.slice As R.length cs)).setCell ⟨g6,2,none⟩ (.slice At S.length ct))) ?hg ?ho ?hn ?hr ?_;(case ho=>rfl);(case hg=>rfl);(case hn=>rfl);(case hr=>first | (go_simp;done) | (go_simp;rfl));intro w10 hw;have hF:Frm w9 w10 g6 (g6+1):=(by rw [hw];exact(Frm.set _ _ _ _).trans ((Frm.set _ _ _ _).trans ((Frm.set _ _ _ _))));have nb:=q_ (show w10.heap[g6]?=some (.cells #[.int .i64 den, .slice As R.length cs, .slice At S.length ct] 49 (0,0)) from (by rw [hw];exact(blk_put (blk_put (blk_put B6.out 0 _ rfl) 1 _ rfl) 2 _ rfl)));have nB:=q_ (show Below w.heap.size w w10 from (by rw [hw];exact below_set (below_set (below_set (HB.out) G6.out) G6.out) G6.out));replace BK:=q_ ((hF.same _ (blk_lt BK.out) (.inl (by have:=G6H.out;have:=HLH.out;have:=G4L.out;have:=GN.out;omega))).trans BK.out);replace B4:=q_ ((hF.same _ (blk_lt B4.out) (.inl (by have:=G6H.out;have:=HLH.out;have:=G4L.out;have:=GN.out;omega))).trans B4.out);replace HP:=q_ (HP.out.mv hF (.inl G6H.out));clear hw HB B6 hF;have HB:=nB;have B6:=nb;clear nB nb hs0 hs1 hs2 hsf0 hsf1 hsf2;have hf0:=cz_ B4 0;have hf1:=cz_ B4 1;have hff0:=blk_frozen B4.out 0;have hff1:=blk_frozen B4.out 1) | ((with_reducible refine gate_store (t:=27) (p:=4) rfl ?_);refine store_event (t:=27) (p:=4) (v:=?vo9) (w1:=((w10.setCell ⟨g4,0,none⟩ (.slice none 0 0)).setCell ⟨g4,1,none⟩ (.slice none 0 0))) ?hg ?ho ?hn ?hr ?_;(case ho=>rfl);(case hg=>rfl);(case hn=>rfl);(case hr=>first | (go_simp;done) | (go_simp;rfl));intro w12 hw;have hF:Frm w10 w12 g4 (g4+1):=(by rw [hw];exact(Frm.set _ _ _ _).trans ((Frm.set _ _ _ _)));have nb:=q_ (show w12.heap[g4]?=some (.cells #[.slice none 0 0, .slice none 0 0] 27 (0,0)) from (by rw [hw];exact(blk_put (blk_put B4.out 0 _ rfl) 1 _ rfl)));have nB:=q_ (show Below w.heap.size w w12 from (by rw [hw];exact below_set (below_set (HB.out) G4.out) G4.out));replace BK:=q_ ((hF.same _ (blk_lt BK.out) (.inl (by have:=GN.out;omega))).trans BK.out);replace HP:=q_ (HP.out.mv hF (.inr (by have:=G4L.out;omega)));replace B6:=q_ ((hF.same _ (blk_lt B6.out) (.inr (by have:=HLH.out;have:=G6H.out;have:=G4L.out;omega))).trans B6.out);clear hw HB B4 hF;have HB:=nB;have B4:=nb;clear nB nb))
  refine bodyPost_ret (results_list (rs:= [.cell 4 27, .tmp 5]) rfl (by simp) (.cell g4 27 #[.slice none 0 0, .slice none 0 0] (0,0) _ rfl B4.out Try.underlying27 rfl (by kernel_rfl) (.tmp .nil))) rfl ?_
  exact⟨_,_,rfl,Kd.S_nil _ _ _ _ _,Kd.R_nil _ _ _ _ _,HB.out⟩
end Go.Proofs.Ytbjljcpngbhkeaa.Pr
end
section
namespace Go.Proofs.Ytbjljcpngbhkeaa.Pr
open Go.RowKit Go.Proofs.YtbjljcpngbhkeaaW.PrintWords Go.Proofs.YtbjljcpngbhkeaaW.PrintLast Go.Proofs.YtbjljcpngbhkeaaW.PrintMore
attribute [local go_sem] max2_int min2_int max_two min_two max_three min_three max_four min_four
mutual
def spec_PivotedProblem.j0:Nat→Int→Bool→Int→List (List Int)→List Int→Option ((List (List Int)) × List Int × Int)
 | 0,_,_,_,_,_=>none
 | k+1,x7,x24,aa,af,ae=>if x24=true then(spec_PivotedProblem.j1 k 5 aa af ae) else(spec_PivotedProblem.j1 k x7 aa af ae)
def spec_PivotedProblem.j1:Nat→Int→Int→List (List Int)→List Int→Option ((List (List Int)) × List Int × Int)
 | 0,_,_,_,_=>none
 | k+1,x7,aa,af,ae=>if x7=0 then(spec_PivotedProblem.l0 k 0 aa af ae (([]:List (List Int))) (([]:List Int))) else(some (([]:List (List Int)),([]:List Int),x7))
def spec_PivotedProblem.l0:Nat→Int→Int→List (List Int)→List Int→List (List Int)→List Int→Option ((List (List Int)) × List Int × Int)
 | 0,_,_,_,_,_,_=>none
 | k+1,x9,aa,af,ae,ag,ah=>if x9 < (ae.length:Int) then(spec_PivotedProblem.l1 k x9 (([]:List Int)) 0 aa af ae ag ah) else((spec_l01Is.f k ag ah).bind fun ai=>(if ai=true then(some (ag,ah,0)) else(some (([]:List (List Int)),([]:List Int),3))))
def spec_PivotedProblem.l1:Nat→Int→List Int→Int→Int→List (List Int)→List Int→List (List Int)→List Int→Option ((List (List Int)) × List Int × Int)
 | 0,_,_,_,_,_,_,_,_=>none
 | k+1,x9,x10,x11,aa,af,ae,ag,ah=>if x11 < (ae.length:Int) then(if 0≤x9 then(if x9 < (af.length:Int) then(if 0≤x11 then(if x11 < ((rd_L2 af x9).length:Int) then(if aa=0 then(none) else(if x10.length < 17592186044416 then(spec_PivotedProblem.l1 k x9 (x10++ [wrap64 (Int.tdiv (rd (rd_L2 af x9) x11) aa)]) (wrap64 (x11+1)) aa af ae ag ah) else(none))) else(none)) else(none)) else(none)) else(none)) else(if ag.length < 5864062014805 then(if 0≤x9 then(if x9 < (ae.length:Int) then(if aa=0 then(none) else(if ah.length < 17592186044416 then(spec_PivotedProblem.l0 k (wrap64 (x9+1)) aa af ae (ag++ [x10]) (ah++ [wrap64 (Int.tdiv (rd ae x9) aa)])) else(none))) else(none)) else(none)) else(none))
end
def spec_PivotedProblem.f (k:Nat) (ae:List (List Int)) (af:List Int) (a1:Int):Option ((List (List Int)) × List Int × Int):=(spec_PivotOf.f k ae af a1).bind fun aa=>(if aa.2.2.2=0 then((spec_l04Whole.f k aa.1 aa.2.1 aa.2.2.1).bind fun ag=>(spec_PivotedProblem.j0 k aa.2.2.2 (!ag) aa.1 aa.2.1 aa.2.2.1)) else(spec_PivotedProblem.j0 k aa.2.2.2 false aa.1 aa.2.1 aa.2.2.1))
theorem spec_PivotedProblem.mono_l: ∀k,(∀y0 y1 y2 y3 y4,LeO (spec_PivotedProblem.j0 k y0 y1 y2 y3 y4) (spec_PivotedProblem.j0 (k+1) y0 y1 y2 y3 y4))∧(∀y0 y1 y2 y3,LeO (spec_PivotedProblem.j1 k y0 y1 y2 y3) (spec_PivotedProblem.j1 (k+1) y0 y1 y2 y3))∧(∀y0 y1 y2 y3 y4 y5,LeO (spec_PivotedProblem.l0 k y0 y1 y2 y3 y4 y5) (spec_PivotedProblem.l0 (k+1) y0 y1 y2 y3 y4 y5))∧(∀y0 y1 y2 y3 y4 y5 y6 y7,LeO (spec_PivotedProblem.l1 k y0 y1 y2 y3 y4 y5 y6 y7) (spec_PivotedProblem.l1 (k+1) y0 y1 y2 y3 y4 y5 y6 y7))
 | 0=>⟨fun _ _ _ _ _ r h=>by simp [spec_PivotedProblem.j0] at h,fun _ _ _ _ r h=>by simp [spec_PivotedProblem.j1] at h,fun _ _ _ _ _ _ r h=>by simp [spec_PivotedProblem.l0] at h,fun _ _ _ _ _ _ _ _ r h=>by simp [spec_PivotedProblem.l1] at h⟩
 | k+1=>by
  obtain⟨ih0,ih1,ih2,ih3⟩:=spec_PivotedProblem.mono_l k
  refine⟨?_,?_,?_,?_⟩<;>intros<;>(first | unfold spec_PivotedProblem.j0 | unfold spec_PivotedProblem.j1 | unfold spec_PivotedProblem.l0 | unfold spec_PivotedProblem.l1)<;>(repeat' first | (with_reducible first | exact ih0 _ _ _ _ _ | exact ih1 _ _ _ _ | exact ih2 _ _ _ _ _ _ | exact ih3 _ _ _ _ _ _ _ _ | exact spec_PivotOf.mono _ _ _ _ | exact spec_l01Is.mono _ _ _ | exact spec_l04Whole.mono _ _ _ _ | exact LeO.refl _ | exact LeO.none _ | refine LeO.ite ?_ ?_ | refine LeO.bind ?_ (fun _=>?_)) | exact ih0 _ _ _ _ _ | exact ih1 _ _ _ _ | exact ih2 _ _ _ _ _ _ | exact ih3 _ _ _ _ _ _ _ _ | exact spec_PivotOf.mono _ _ _ _ | exact spec_l01Is.mono _ _ _ | exact spec_l04Whole.mono _ _ _ _ | exact LeO.none _ | refine LeO.ite ?_ ?_ | refine LeO.bind ?_ (fun _=>?_))
theorem spec_PivotedProblem.mono: ∀a0 a1 a2 k,LeO (spec_PivotedProblem.f k a0 a1 a2) (spec_PivotedProblem.f (k+1) a0 a1 a2):=by
 intro a0 a1 a2 k
 obtain⟨ih0,ih1,ih2,ih3⟩:=spec_PivotedProblem.mono_l k
 unfold spec_PivotedProblem.f
 repeat' first | (with_reducible first | exact ih0 _ _ _ _ _ | exact ih1 _ _ _ _ | exact ih2 _ _ _ _ _ _ | exact ih3 _ _ _ _ _ _ _ _ | exact spec_PivotOf.mono _ _ _ _ | exact spec_l01Is.mono _ _ _ | exact spec_l04Whole.mono _ _ _ _ | exact LeO.refl _ | exact LeO.none _ | refine LeO.ite ?_ ?_ | refine LeO.bind ?_ (fun _=>?_)) | exact ih0 _ _ _ _ _ | exact ih1 _ _ _ _ | exact ih2 _ _ _ _ _ _ | exact ih3 _ _ _ _ _ _ _ _ | exact spec_PivotOf.mono _ _ _ _ | exact spec_l01Is.mono _ _ _ | exact spec_l04Whole.mono _ _ _ _ | exact LeO.none _ | refine LeO.ite ?_ ?_ | refine LeO.bind ?_ (fun _=>?_)
def spec_PivotedProblem.T14:Bool × List (List Nat × List Nat):=(true, [([], []),([], []),([1], [1]),([], []),([2,3], [2,3]),([4], [4]),([], []),([5,6], [5,6]),([7], [7]),([], []),([9], [9]),([8,10], [8,10]),([11], [11]),([0,12], [0,12]),([13,13,0,1,2,3,4,5,6,7,8,9,10,11,12,13], [0,13])])
def spec_PivotedProblem.B14:List Nat:= [0,0,2,0,14,30,0,126,254,0,512,2046,4094,8191,16383]
theorem spec_PivotedProblem.tab14:rtab .any (opsOf Try.f26 14)=spec_PivotedProblem.T14:=by kernel_rfl
theorem spec_PivotedProblem.bits14:waitsOk spec_PivotedProblem.T14.2 spec_PivotedProblem.B14=true:=by kernel_rfl
def spec_PivotedProblem.T16:Bool × List (List Nat × List Nat):=(true, [([], []),([0], [0]),([], []),([2], [2]),([], []),([3,4], [3,4]),([5], [5]),([], []),([7], [7]),([6,8], [6,8]),([9], [9]),([1,10], [1,10]),([0,1,2,3,4,5,6,7,8,9,10,11], []),([12,11,11,0,1,2,3,4,5,6,7,8,9,10,11], [11,12])])
def spec_PivotedProblem.B16:List Nat:= [0,1,0,4,0,28,60,0,128,508,1020,2047,4095,8191]
theorem spec_PivotedProblem.tab16:rtab .any (opsOf Try.f26 16)=spec_PivotedProblem.T16:=by kernel_rfl
theorem spec_PivotedProblem.bits16:waitsOk spec_PivotedProblem.T16.2 spec_PivotedProblem.B16=true:=by kernel_rfl
theorem spec_PivotedProblem.calls (k:Nat) (bE:Option Addr) (bF:Nat) (bh:List (List Int)) (bG:Option Addr) (bH:Nat) (bk:List Int) (a1:Int) (r1:List (List Int)) (r2:List Int) (r3:Int) (w:World) (dw:Kd.C (Kd.slice 2 (Kd.int .i64)) w bE bh.length bh) (dx:bh.length≤bF) (dz:Kd.C (Kd.int .i64) w bG bk.length bk) (dA:bk.length≤bH) (h:spec_PivotedProblem.f k bh bk a1=some (r1,r2,r3)):
  Calls Try.prog 26 #[.agg #[.slice bE bh.length bF, .slice bG bk.length bH], .int .i64 a1] w fun e w'=> ∃v0_ v1_:Value,e= .returned (.tuple #[.agg #[v0_,v1_], .int .i64 r3])∧Kd.S (Kd.slice 2 (Kd.int .i64)) 25 w' w.heap.size (fun k_=>some k_≠(v1_:Value).ownBlock) v0_ r1∧Kd.R (Kd.int .i64) 2 w' w.heap.size (fun _=>True) v1_ r2∧Below w.heap.size w w':=by
 have hu27:=Try.underlying27;have hu49:=Try.underlying49;have HR0_0:=q_ dw;have HC0_0:=q_ dx;clear dw dx;have HR0_1:=q_ dz;have HC0_1:=q_ dA;clear dz dA;have HB:=q_ (Below.refl w.heap.size w);have H:((spec_PivotOf.f k bh bk a1).bind fun bq=>(if bq.2.2.2=0 then((spec_l04Whole.f k bq.1 bq.2.1 bq.2.2.1).bind fun cA=>(spec_PivotedProblem.j0 k bq.2.2.2 (!cA) bq.1 bq.2.1 bq.2.2.1)) else(spec_PivotedProblem.j0 k bq.2.2.2 false bq.1 bq.2.1 bq.2.2.1)))=some (r1,r2,r3):=h;clear h;replace H:=Option.bind_eq_some_iff.mp H;obtain⟨⟨ay,aq,ag,bv⟩,A30,H⟩:=H;replace H:(if bv=0 then((spec_l04Whole.f k ay aq ag).bind fun cA=>(spec_PivotedProblem.j0 k bv (!cA) ay aq ag)) else(spec_PivotedProblem.j0 k bv false ay aq ag))=some (r1,r2,r3):=H;have A3:=q_ A30;clear A30;have HC4:=q_ H;clear H
 go_enter Try.func26,Try.ntmps26
 go_upto_region 2 with (first | ((with_reducible refine gate_dst (N:=2) rfl ?_);refine be_ 2 #[.slice bE bh.length bF, .slice bG bk.length bH] 27 ?_;intro aZ hg w5 hbox hb;have av:=q_ (hbox);have gL:=q_ ((by rw [hg];exact bz_:w.heap.size≤aZ));have gM:=q_ ((by rw [hg];exact bz_:w.heap.size≤aZ));replace HB:=q_ (bs_ hb);clear hb hbox hg) | ((with_reducible refine gate_dst (N:=4) rfl ?_);refine be_ 4 #[.slice none 0 0, .slice none 0 0] 27 ?_;intro aI hg w6 hbox hb;have aj:=q_ (hbox);have gN:=q_ ((by rw [hg];exact bz_:w.heap.size≤aI));have gO:=q_ ((by rw [hg];exact bz_:w.heap.size≤aI));have bI:=q_ ((by rw [hg];exact lt_ av.out:aZ≠aI));have bJ:=q_ ((by rw [hg];exact gt_ av.out:aI≠aZ));replace av:=q_ (bb_ av.out hb);replace HB:=q_ (bs_ hb);clear hb hbox hg;have jp:=bI.out;have jq:=bJ.out;have cD:=cz_ av 0;have cE:=cz_ av 1;have cF:=blk_frozen av.out 0;have cG:=blk_frozen av.out 1) | ((with_reducible refine gate_callee (f:=23) rfl ?_);refine gL_ 15 Try.func23 #[.agg #[.slice bE bh.length bF, .slice bG bk.length bH], .int .i64 a1] ?_;(with_reducible refine(spec_PivotOf.calls k _ _ bh _ _ bk a1 ay aq ag bv _ ?bL ?bM ?bN ?bO A3.out).mono ?_);(case bL=>exact cb_ HR0_0.out HB.out);(case bM=>exact HC0_0.out);(case bN=>exact cb_ HR0_1.out HB.out);(case bO=>exact HC0_1.out);rintro e w9 ⟨jr,js,rfl,ho0,ho1,hb⟩;refine⟨_,rfl,?_⟩;have bC:=q_ (Kd.S_lower ho0 bz_);have bD:=q_ (Kd.R_lower ho1 bz_);replace av:=q_ (bb_ av.out hb);replace aj:=q_ (bb_ aj.out hb);replace HB:=q_ (bs_ hb);(try clear hb);(try clear hk);(try clear ho0);(try clear ho1)) | ((with_reducible refine gate_dst (N:=6) rfl ?_);refine be_ 6 #[.int .i64 0, .slice none 0 0, .slice none 0 0] 49 ?_;intro ak hg w10 hbox hb;replace bC:=q_ (Kd.S_below (so_ bC.out) hb);replace bD:=q_ (rb_ bD.out hb);have aa:=q_ (hbox);have gP:=q_ ((by rw [hg];exact bz_:w.heap.size≤ak));have gQ:=q_ ((by rw [hg];exact bz_:w.heap.size≤ak));have aM:=q_ ((by rw [hg];exact lt_ av.out:aZ≠ak));have ba:=q_ ((by rw [hg];exact gt_ av.out:ak≠aZ));have aJ:=q_ ((by rw [hg];exact lt_ aj.out:aI≠ak));have a9:=q_ ((by rw [hg];exact gt_ aj.out:ak≠aI));replace av:=q_ (bb_ av.out hb);replace aj:=q_ (bb_ aj.out hb);replace HB:=q_ (bs_ hb);clear hb hbox hg;have gR:=ba.out;have gS:=aM.out;have gT:=a9.out;have gU:=aJ.out;have bS:=cz_ aa 0;have bT:=cz_ aa 1;have bU:=cz_ aa 2;have bV:=blk_frozen aa.out 0;have bW:=blk_frozen aa.out 1;have bX:=blk_frozen aa.out 2;obtain⟨aK,aH,eB⟩:=Kd.S_slice bC.out;subst eB;obtain⟨aD,aA,eC⟩:=Kd.R_slice bD.out;subst eC))
 (try simp only [Act.put,List.setIfInBounds_toArray,List.set_cons_zero,List.set_cons_succ])
 go_cut [24] (fun v24 wc=> ∃(kq:Nat) (cO:Bool),v24= .bool cO∧Aside0 (spec_PivotedProblem.j0 kq bv cO ay aq ag=some (r1,r2,r3))∧Aside0 (kq≤k)∧Aside0 (Kd.S (Kd.slice 2 (Kd.int .i64)) 25 wc w.heap.size (fun k_=>some k_≠((.slice aD ag.length aA):Value).ownBlock) (.slice aK aq.length aH) aq)∧Aside0 (Kd.R (Kd.int .i64) 2 wc w.heap.size (fun _=>True) (.slice aD ag.length aA) ag)∧Aside0 (wc.heap[aZ]?=some (.cells #[(.slice bE bh.length bF),(.slice bG bk.length bH)] 27 (0,0)))∧Aside0 (wc.heap[aI]?=some (.cells #[(.slice none 0 0),(.slice none 0 0)] 27 (0,0)))∧Aside0 (wc.heap[ak]?=some (.cells #[.int .i64 ay,(.slice aK aq.length aH),(.slice aD ag.length aA)] 49 (0,0)))∧Aside0 (Below w.heap.size w wc))
 case first=>
  have H:=HC4.out;clear HC4
  by_cases c16:bv=0
  ·rw [if_pos c16] at H;have c16b0:=e1_ c16;have c16b1:=e2_ c16;clear c16
   (first | rw [c16b0] | (simp only [i64_w,i32_w];rw [c16b0]) | skip)
   replace H:=Option.bind_eq_some_iff.mp H;obtain⟨cA,A170,H⟩:=H;replace H:(spec_PivotedProblem.j0 k bv (!cA) ay aq ag)=some (r1,r2,r3):=H;have A17:=q_ A170;clear A170;have H':=q_ H;clear H;have gV:=ba.out;have gW:=aM.out;have gX:=a9.out;have gY:=aJ.out;have bY:=cz_ aa 0;have bZ:=cz_ aa 1;have cf:=cz_ aa 2;have cg:=blk_frozen aa.out 0;have cm:=blk_frozen aa.out 1;have cu:=blk_frozen aa.out 2
   go_wp2_with (first | (go_at_call 63;(with_reducible refine(spec_l04Whole.calls k ay _ _ aq _ _ ag cA _ ?bL ?bM ?bN ?bO A17.out).mono ?_);(case bL=>refine(Kd.S_reads' (e:=25) (base:=w.heap.size) (ok:=fun k_=>some k_≠(.slice aD ag.length aA:Value).ownBlock) (n:=aq.length) (c:=aH) ?_).2.2;exact(by(with_reducible repeat (first | apply Kd.S_alloc | apply Kd.S_drewN | apply Kd.S_drew));exact(Kd.S_mono (Kd.S_far (p:=⟨ak,2,none⟩) (Kd.S_far (p:=⟨ak,1,none⟩) (Kd.S_far (p:=⟨ak,0,none⟩) (Kd.S_types bC.out aa.out (by decide)) (fun _ hk=>hk.2) (.int .i64 ay)) (fun _ hk=>hk.2) (.slice aK aq.length aH)) (fun _ hk=>hk.2) (.slice aD ag.length aA)) (fun _ h_=>h_.1))));(case bM=>exact(Kd.S_reads' bC.out).2.1);(case bN=>refine(Kd.R_reads' (e:=2) (base:=w.heap.size) (ok:=fun k_=>True) (n:=ag.length) (c:=aA) ?_).2.2;exact(by(with_reducible repeat (first | apply Kd.R_alloc | apply Kd.R_drewN | apply Kd.R_drew));exact(Kd.R_mono (Kd.R_far (p:=⟨ak,2,none⟩) (Kd.R_far (p:=⟨ak,1,none⟩) (Kd.R_far (p:=⟨ak,0,none⟩) (Kd.R_types bD.out aa.out (by decide)) (fun _ hk=>hk.2) (.int .i64 ay)) (fun _ hk=>hk.2) (.slice aK aq.length aH)) (fun _ hk=>hk.2) (.slice aD ag.length aA)) (fun _ h_=>h_.1))));(case bO=>exact(Kd.R_reads' bD.out).2.1);rintro e w21 ⟨rfl,hb⟩;replace bC:=q_ (Kd.S_below (by(with_reducible repeat (first | apply Kd.S_alloc | apply Kd.S_drewN | apply Kd.S_drew));exact(Kd.S_mono (Kd.S_far (p:=⟨ak,2,none⟩) (Kd.S_far (p:=⟨ak,1,none⟩) (Kd.S_far (p:=⟨ak,0,none⟩) (Kd.S_types bC.out aa.out (by decide)) (fun _ hk=>hk.2) (.int .i64 ay)) (fun _ hk=>hk.2) (.slice aK aq.length aH)) (fun _ hk=>hk.2) (.slice aD ag.length aA)) (fun _ h_=>h_.1))) hb);replace bD:=q_ (Kd.R_below (by(with_reducible repeat (first | apply Kd.R_alloc | apply Kd.R_drewN | apply Kd.R_drew));exact(Kd.R_mono (Kd.R_far (p:=⟨ak,2,none⟩) (Kd.R_far (p:=⟨ak,1,none⟩) (Kd.R_far (p:=⟨ak,0,none⟩) (Kd.R_types bD.out aa.out (by decide)) (fun _ hk=>hk.2) (.int .i64 ay)) (fun _ hk=>hk.2) (.slice aK aq.length aH)) (fun _ hk=>hk.2) (.slice aD ag.length aA)) (fun _ h_=>h_.1))) hb);replace av:=q_ (blk_below (g:=aZ) (o:= .cells #[.slice bE bh.length bF, .slice bG bk.length bH] 27 (0,0)) (by(with_reducible repeat (first | refine blk_drewN ?_ _ | refine blk_drew ?_ | refine blk_alloc ?_ _));refine blk_far ?_ aM.out _;(with_reducible repeat (first | refine blk_drewN ?_ _ | refine blk_drew ?_ | refine blk_alloc ?_ _));refine blk_far ?_ aM.out _;(with_reducible repeat (first | refine blk_drewN ?_ _ | refine blk_drew ?_ | refine blk_alloc ?_ _));refine blk_far ?_ aM.out _;(with_reducible repeat (first | refine blk_drewN ?_ _ | refine blk_drew ?_ | refine blk_alloc ?_ _));exact av.out) hb);replace aj:=q_ (blk_below (g:=aI) (o:= .cells #[.slice none 0 0, .slice none 0 0] 27 (0,0)) (by(with_reducible repeat (first | refine blk_drewN ?_ _ | refine blk_drew ?_ | refine blk_alloc ?_ _));refine blk_far ?_ aJ.out _;(with_reducible repeat (first | refine blk_drewN ?_ _ | refine blk_drew ?_ | refine blk_alloc ?_ _));refine blk_far ?_ aJ.out _;(with_reducible repeat (first | refine blk_drewN ?_ _ | refine blk_drew ?_ | refine blk_alloc ?_ _));refine blk_far ?_ aJ.out _;(with_reducible repeat (first | refine blk_drewN ?_ _ | refine blk_drew ?_ | refine blk_alloc ?_ _));exact aj.out) hb);replace HB:=q_ (bs_ hb);replace aa:=q_ (blk_below (g:=ak) (o:= .cells #[.int .i64 ay, .slice aK aq.length aH, .slice aD ag.length aA] 49 (0,0)) (by(with_reducible repeat (first | refine blk_drewN ?_ _ | refine blk_drew ?_ | refine blk_alloc ?_ _));refine blk_put (cs:= #[.int .i64 ay, .slice aK aq.length aH, .slice none 0 0]) ?_ 2 _ rfl;(with_reducible repeat (first | refine blk_drewN ?_ _ | refine blk_drew ?_ | refine blk_alloc ?_ _));refine blk_put (cs:= #[.int .i64 ay, .slice none 0 0, .slice none 0 0]) ?_ 1 _ rfl;(with_reducible repeat (first | refine blk_drewN ?_ _ | refine blk_drew ?_ | refine blk_alloc ?_ _));refine blk_put (cs:= #[.int .i64 0, .slice none 0 0, .slice none 0 0]) ?_ 0 _ rfl;(with_reducible repeat (first | refine blk_drewN ?_ _ | refine blk_drew ?_ | refine blk_alloc ?_ _));exact aa.out) hb);(try clear hb);(try clear hk)))
   go_meet
   case rel=>exact⟨_,(!cA),rs_,H',⟨by first | omega | exact Nat.le_refl _⟩,⟨so_ bC.out⟩,⟨ro_ bD.out⟩,⟨bk_⟩,⟨bk_⟩,⟨bk_⟩,⟨hb_⟩⟩
  ·rw [if_neg c16] at H;have c16b0:=e3_ c16;have c16b1:=e4_ c16
   (first | rw [c16b0] | (simp only [i64_w,i32_w];rw [c16b0]) | skip)
   have H':=q_ H;clear H;go_wp2
   go_meet
   case rel=>exact⟨_,(false),rs_,H',⟨by first | omega | exact Nat.le_refl _⟩,⟨by(with_reducible repeat (first | apply Kd.S_alloc | apply Kd.S_drewN | apply Kd.S_drew));exact Kd.S_mono (Kd.S_far (p:=⟨ak,2,none⟩) (Kd.S_far (p:=⟨ak,1,none⟩) (Kd.S_far (p:=⟨ak,0,none⟩) (Kd.S_types bC.out aa.out (by decide)) (fun _ hk=>hk.2) (.int .i64 ay)) (fun _ hk=>hk.2) (.slice aK aq.length aH)) (fun _ hk=>hk.2) (.slice aD ag.length aA)) (fun _ hk=>hk.1)⟩,⟨by(with_reducible repeat (first | apply Kd.R_alloc | apply Kd.R_drewN | apply Kd.R_drew));exact Kd.R_mono (Kd.R_far (p:=⟨ak,2,none⟩) (Kd.R_far (p:=⟨ak,1,none⟩) (Kd.R_far (p:=⟨ak,0,none⟩) (Kd.R_types bD.out aa.out (by decide)) (fun _ hk=>hk.2) (.int .i64 ay)) (fun _ hk=>hk.2) (.slice aK aq.length aH)) (fun _ hk=>hk.2) (.slice aD ag.length aA)) (fun _ hk=>trivial)⟩,⟨by(with_reducible repeat (first | refine blk_drewN ?_ _ | refine blk_drew ?_ | refine blk_alloc ?_ _));refine blk_far ?_ aM.out _;(with_reducible repeat (first | refine blk_drewN ?_ _ | refine blk_drew ?_ | refine blk_alloc ?_ _));refine blk_far ?_ aM.out _;(with_reducible repeat (first | refine blk_drewN ?_ _ | refine blk_drew ?_ | refine blk_alloc ?_ _));refine blk_far ?_ aM.out _;(with_reducible repeat (first | refine blk_drewN ?_ _ | refine blk_drew ?_ | refine blk_alloc ?_ _));exact av.out⟩,⟨by(with_reducible repeat (first | refine blk_drewN ?_ _ | refine blk_drew ?_ | refine blk_alloc ?_ _));refine blk_far ?_ aJ.out _;(with_reducible repeat (first | refine blk_drewN ?_ _ | refine blk_drew ?_ | refine blk_alloc ?_ _));refine blk_far ?_ aJ.out _;(with_reducible repeat (first | refine blk_drewN ?_ _ | refine blk_drew ?_ | refine blk_alloc ?_ _));refine blk_far ?_ aJ.out _;(with_reducible repeat (first | refine blk_drewN ?_ _ | refine blk_drew ?_ | refine blk_alloc ?_ _));exact aj.out⟩,⟨by(with_reducible repeat (first | refine blk_drewN ?_ _ | refine blk_drew ?_ | refine blk_alloc ?_ _));refine blk_put (cs:= #[.int .i64 ay, .slice aK aq.length aH, .slice none 0 0]) ?_ 2 _ rfl;(with_reducible repeat (first | refine blk_drewN ?_ _ | refine blk_drew ?_ | refine blk_alloc ?_ _));refine blk_put (cs:= #[.int .i64 ay, .slice none 0 0, .slice none 0 0]) ?_ 1 _ rfl;(with_reducible repeat (first | refine blk_drewN ?_ _ | refine blk_drew ?_ | refine blk_alloc ?_ _));refine blk_put (cs:= #[.int .i64 0, .slice none 0 0, .slice none 0 0]) ?_ 0 _ rfl;(with_reducible repeat (first | refine blk_drewN ?_ _ | refine blk_drew ?_ | refine blk_alloc ?_ _));exact aa.out⟩,⟨hb_⟩⟩
 case rest=>
  clear HC4;(try clear c16);(try clear c16b0);(try clear c16b1);(try clear bS);(try clear bT);(try clear bU);(try clear bY);(try clear bZ);(try clear cf);(try clear cD);(try clear cE);(try clear bV);(try clear bW);(try clear bX);(try clear cg);(try clear cm);(try clear cu);(try clear cF);(try clear cG);obtain⟨kq,cO,rfl,HA,HJ3,ae,af,av,aj,aa,HB⟩:=hcut;cases kq with
  | zero=>exact absurd HA.out (by simp [spec_PivotedProblem.j0])
  | succ kj3=>
   have H:=HA.out;clear HA;simp only [spec_PivotedProblem.j0] at H;have HC22:=q_ H;clear H
   go_upto_if 24 with (fail)
   go_cut [7] (fun v7 wc=> ∃(kq:Nat) (bK:Int),v7= .int .i64 bK∧Aside0 (spec_PivotedProblem.j1 kq bK ay aq ag=some (r1,r2,r3))∧Aside0 (kq≤kj3)∧Aside0 (Kd.S (Kd.slice 2 (Kd.int .i64)) 25 wc w.heap.size (fun k_=>some k_≠((.slice aD ag.length aA):Value).ownBlock) (.slice aK aq.length aH) aq)∧Aside0 (Kd.R (Kd.int .i64) 2 wc w.heap.size (fun _=>True) (.slice aD ag.length aA) ag)∧Aside0 (wc.heap[aZ]?=some (.cells #[(.slice bE bh.length bF),(.slice bG bk.length bH)] 27 (0,0)))∧Aside0 (wc.heap[aI]?=some (.cells #[(.slice none 0 0),(.slice none 0 0)] 27 (0,0)))∧Aside0 (wc.heap[ak]?=some (.cells #[.int .i64 ay,(.slice aK aq.length aH),(.slice aD ag.length aA)] 49 (0,0)))∧Aside0 (Below w.heap.size w wc))
   case first=>
    have H:=HC22.out;clear HC22
    by_cases c23:cO=true
    ·subst c23;have H1:(spec_PivotedProblem.j1 kj3 5 ay aq ag)=some (r1,r2,r3):=by rw [if_pos rfl] at H;exact H
     clear H;have H:=H1;clear H1;have H':=q_ H;clear H;go_wp2
     go_meet
     case rel=>exact⟨_,(5),rs_,H',⟨by have:=HJ3.out;first | omega | exact Nat.le_refl _⟩,⟨so_ ae.out⟩,⟨ro_ af.out⟩,⟨bk_⟩,⟨bk_⟩,⟨bk_⟩,⟨hb_⟩⟩
    ·replace c23:=Bool.eq_false_iff.mpr c23;subst c23;have H1:(spec_PivotedProblem.j1 kj3 bv ay aq ag)=some (r1,r2,r3):=by rw [if_neg (show ¬ (false=true) by decide)] at H;exact H
     clear H;have H:=H1;clear H1;have H':=q_ H;clear H;go_wp2
     go_meet
     case rel=>exact⟨_,(bv),rs_,H',⟨by have:=HJ3.out;first | omega | exact Nat.le_refl _⟩,⟨so_ ae.out⟩,⟨ro_ af.out⟩,⟨bk_⟩,⟨bk_⟩,⟨bk_⟩,⟨hb_⟩⟩
   case rest=>
    clear HC22;(try clear c16);(try clear c16b0);(try clear c16b1);(try clear c23);(try clear bS);(try clear bT);(try clear bU);(try clear bY);(try clear bZ);(try clear cf);(try clear cD);(try clear cE);(try clear bV);(try clear bW);(try clear bX);(try clear cg);(try clear cm);(try clear cu);(try clear cF);(try clear cG);obtain⟨kq,bK,rfl,HA,HJ21,ae,af,av,aj,aa,HB⟩:=hcut;cases kq with
    | zero=>exact absurd HA.out (by simp [spec_PivotedProblem.j1])
    | succ kj21=>
     have H:=HA.out;clear HA;simp only [spec_PivotedProblem.j1] at H
     by_cases c24:bK=0
     ·rw [if_pos c24] at H;have c24b0:=e1_ c24;have c24b1:=e2_ c24;clear c24;obtain⟨bP,hy⟩: ∃y_:List (List Int),y_=(([]:List (List Int))):=⟨_,rfl⟩
      replace H:(spec_PivotedProblem.l0 kj21 0 ay aq ag bP (([]:List Int)))=some (r1,r2,r3):=hh_;have dB:=q_ hy;clear hy;obtain⟨cB,hy⟩: ∃y_:List Int,y_=(([]:List Int)):=⟨_,rfl⟩
      replace H:(spec_PivotedProblem.l0 kj21 0 ay aq ag bP cB)=some (r1,r2,r3):=hh_;have dC:=q_ hy;clear hy;have H':=q_ H;clear H
      go_wp2_with (first | ((with_reducible refine gate_dst (N:=29) rfl ?_);refine Kd.S_lit (Kd.slice 2 (Kd.int .i64)) _ 25 ?hg (N:=29) ?hd (xs:=([]:List (List Int))) (inner:= []) (ok:=fun _=>True) (okp:=fun _=>True) ?hr ?hp (fun _ hk=>hk) trivial (Below.refl _ _) (Nat.le_refl _) (by simp) ?_;(case hd=>rfl);(case hg=>rfl);(case hr=>first | (go_simp;done) | (go_simp;rfl));(case hp=>exact(Reps.none _ _));intro jt w25 cI hb hg_ hnew_;clear hg_ hnew_;(first | rw [← dB.out] at cI | (simp only [Int.reduceToNat] at cI;rw [← dB.out] at cI));have cz:=q_ (Kd.S_lower (Kd.S_new' (Kd.S_new' cI (Kd.S_lt (so_ ae.out))) (Kd.R_lt (ro_ af.out))) bz_);replace av:=q_ (bb_ av.out hb);replace aj:=q_ (bb_ aj.out hb);replace aa:=q_ (bb_ aa.out hb);replace ae:=q_ (Kd.S_elder' (so_ ae.out) (Kd.S_base cI) hb);replace af:=q_ (rb_ af.out hb);replace HB:=q_ (bs_ hb);clear hb cI) | ((with_reducible refine gate_dst (N:=30) rfl ?_);refine Kd.R_lit (Kd.int .i64) _ 2 ?hg (N:=30) ?hd (xs:=([]:List Int)) (inner:= []) (ok:=fun _=>True) (okp:=fun _=>True) ?hr ?hp (fun _ hk=>hk) trivial (Below.refl _ _) (Nat.le_refl _) (by simp) ?_;(case hd=>rfl);(case hg=>rfl);(case hr=>first | (go_simp;done) | (go_simp;rfl));(case hp=>exact(Reps.none _ _));intro ju w27 bR hb hg_ hnew_;clear hg_ hnew_;(first | rw [← dC.out] at bR | (simp only [Int.reduceToNat] at bR;rw [← dC.out] at bR));replace ae:=q_ (Kd.S_elder' (so_ ae.out) (Kd.R_base bR) hb);replace cz:=q_ (Kd.S_elder' (so_ cz.out) (Kd.R_base bR) hb);have cP:=q_ (Kd.R_lower (Kd.R_new' bR (Kd.R_lt (ro_ af.out))) bz_);replace av:=q_ (bb_ av.out hb);replace aj:=q_ (bb_ aj.out hb);replace aa:=q_ (bb_ aa.out hb);replace af:=q_ (Kd.R_elder' (ro_ af.out) (Kd.R_base bR) hb);replace HB:=q_ (bs_ hb);clear hb bR;obtain⟨cR,cT,eD⟩:=Kd.R_slice cP.out;subst eD;obtain⟨cJ,cK,eF⟩:=Kd.S_slice cz.out;subst eF) | ((with_reducible refine gate_dst (N:=8) rfl ?_);refine be_ 8 #[.slice none 0 0, .slice none 0 0] 27 ?_;intro aw hg w31 hbox hb;replace ae:=q_ (Kd.S_below (so_ ae.out) hb);replace af:=q_ (rb_ af.out hb);replace cz:=q_ (Kd.S_below (so_ cz.out) hb);replace cP:=q_ (rb_ cP.out hb);have ah:=q_ (hbox);have gZ:=q_ ((by rw [hg];exact bz_:w.heap.size≤aw));have hU:=q_ ((by rw [hg];exact bz_:w.heap.size≤aw));have aV:=q_ ((by rw [hg];exact lt_ av.out:aZ≠aw));have bz:=q_ ((by rw [hg];exact gt_ av.out:aw≠aZ));have aW:=q_ ((by rw [hg];exact lt_ aj.out:aI≠aw));have bA:=q_ ((by rw [hg];exact gt_ aj.out:aw≠aI));have aQ:=q_ ((by rw [hg];exact lt_ aa.out:ak≠aw));have bf:=q_ ((by rw [hg];exact gt_ aa.out:aw≠ak));replace av:=q_ (bb_ av.out hb);replace aj:=q_ (bb_ aj.out hb);replace aa:=q_ (bb_ aa.out hb);replace HB:=q_ (bs_ hb);clear hb hbox hg;have ia:=bz.out;have ib:=aV.out;have ic:=bA.out;have ig:=aW.out;have ik:=bf.out;have il:=aQ.out;have df:=cz_ ah 0;have dh:=cz_ ah 1;have di:=blk_frozen ah.out 0;have dl:=blk_frozen ah.out 1))
      go_loopg [9] kj21 (fun kq v9 w'=> ∃(aG:Int) (aC:List (List Int)) (az:List Int) (aN:Value) (ax:Value),v9= .int .i64 aG∧Aside0 (spec_PivotedProblem.l0 kq aG ay aq ag aC az=some (r1,r2,r3))∧Aside0 (kq≤kj21)∧Aside0 (Kd.S (Kd.slice 2 (Kd.int .i64)) 25 w' w.heap.size (fun k_=>some k_≠((.slice aD ag.length aA):Value).ownBlock∧some k_≠(aN:Value).ownBlock∧some k_≠(ax:Value).ownBlock) (.slice aK aq.length aH) aq)∧Aside0 (Kd.R (Kd.int .i64) 2 w' w.heap.size (fun k_=>some k_≠(ax:Value).ownBlock) (.slice aD ag.length aA) ag)∧Aside0 (Kd.S (Kd.slice 2 (Kd.int .i64)) 25 w' w.heap.size (fun k_=>some k_≠((.slice aK aq.length aH):Value).ownBlock∧some k_≠((.slice aD ag.length aA):Value).ownBlock∧some k_≠(ax:Value).ownBlock) aN aC)∧Aside0 (Kd.R (Kd.int .i64) 2 w' w.heap.size (fun k_=>some k_≠((.slice aD ag.length aA):Value).ownBlock) ax az)∧Aside0 (w'.heap[aZ]?=some (.cells #[(.slice bE bh.length bF),(.slice bG bk.length bH)] 27 (0,0)))∧Aside0 (w'.heap[aI]?=some (.cells #[(.slice none 0 0),(.slice none 0 0)] 27 (0,0)))∧Aside0 (w'.heap[ak]?=some (.cells #[.int .i64 ay,(.slice aK aq.length aH),(.slice aD ag.length aA)] 49 (0,0)))∧Aside0 (w'.heap[aw]?=some (.cells #[aN,ax] 27 (0,0)))∧Aside0 (Below w.heap.size w w'))
      case atStart=>exact⟨(0),(bP),(cB),(.slice cJ bP.length cK),(.slice cR cB.length cT),rs_,H',⟨Nat.le_refl _⟩,⟨by(with_reducible repeat (first | apply Kd.S_alloc | apply Kd.S_drewN | apply Kd.S_drew));exact Kd.S_mono (Kd.S_far (p:=⟨aw,1,none⟩) (Kd.S_far (p:=⟨aw,0,none⟩) (Kd.S_types ae.out ah.out (by decide)) (fun _ hk=>hk.2) (.slice cJ bP.length cK)) (fun _ hk=>hk.2) (.slice cR cB.length cT)) (fun _ hk=>⟨hk.1.1.1,⟨hk.1.1.2,hk.1.2⟩⟩)⟩,⟨by(with_reducible repeat (first | apply Kd.R_alloc | apply Kd.R_drewN | apply Kd.R_drew));exact Kd.R_mono (Kd.R_far (p:=⟨aw,1,none⟩) (Kd.R_far (p:=⟨aw,0,none⟩) (Kd.R_types af.out ah.out (by decide)) (fun _ hk=>hk.2) (.slice cJ bP.length cK)) (fun _ hk=>hk.2) (.slice cR cB.length cT)) (fun _ hk=>hk.1.2)⟩,⟨by(with_reducible repeat (first | apply Kd.S_alloc | apply Kd.S_drewN | apply Kd.S_drew));exact Kd.S_mono (Kd.S_far (p:=⟨aw,1,none⟩) (Kd.S_far (p:=⟨aw,0,none⟩) (Kd.S_types cz.out ah.out (by decide)) (fun _ hk=>hk.2) (.slice cJ bP.length cK)) (fun _ hk=>hk.2) (.slice cR cB.length cT)) (fun _ hk=>⟨hk.1.1.1.2,⟨hk.1.1.2,hk.1.2⟩⟩)⟩,⟨by(with_reducible repeat (first | apply Kd.R_alloc | apply Kd.R_drewN | apply Kd.R_drew));exact Kd.R_mono (Kd.R_far (p:=⟨aw,1,none⟩) (Kd.R_far (p:=⟨aw,0,none⟩) (Kd.R_types cP.out ah.out (by decide)) (fun _ hk=>hk.2) (.slice cJ bP.length cK)) (fun _ hk=>hk.2) (.slice cR cB.length cT)) (fun _ hk=>hk.1.2)⟩,⟨by(with_reducible repeat (first | refine blk_drewN ?_ _ | refine blk_drew ?_ | refine blk_alloc ?_ _));refine blk_far ?_ aV.out _;(with_reducible repeat (first | refine blk_drewN ?_ _ | refine blk_drew ?_ | refine blk_alloc ?_ _));refine blk_far ?_ aV.out _;(with_reducible repeat (first | refine blk_drewN ?_ _ | refine blk_drew ?_ | refine blk_alloc ?_ _));exact av.out⟩,⟨by(with_reducible repeat (first | refine blk_drewN ?_ _ | refine blk_drew ?_ | refine blk_alloc ?_ _));refine blk_far ?_ aW.out _;(with_reducible repeat (first | refine blk_drewN ?_ _ | refine blk_drew ?_ | refine blk_alloc ?_ _));refine blk_far ?_ aW.out _;(with_reducible repeat (first | refine blk_drewN ?_ _ | refine blk_drew ?_ | refine blk_alloc ?_ _));exact aj.out⟩,⟨by(with_reducible repeat (first | refine blk_drewN ?_ _ | refine blk_drew ?_ | refine blk_alloc ?_ _));refine blk_far ?_ aQ.out _;(with_reducible repeat (first | refine blk_drewN ?_ _ | refine blk_drew ?_ | refine blk_alloc ?_ _));refine blk_far ?_ aQ.out _;(with_reducible repeat (first | refine blk_drewN ?_ _ | refine blk_drew ?_ | refine blk_alloc ?_ _));exact aa.out⟩,⟨by(with_reducible repeat (first | refine blk_drewN ?_ _ | refine blk_drew ?_ | refine blk_alloc ?_ _));refine blk_put (cs:= #[.slice cJ bP.length cK, .slice none 0 0]) ?_ 1 _ rfl;(with_reducible repeat (first | refine blk_drewN ?_ _ | refine blk_drew ?_ | refine blk_alloc ?_ _));refine blk_put (cs:= #[.slice none 0 0, .slice none 0 0]) ?_ 0 _ rfl;(with_reducible repeat (first | refine blk_drewN ?_ _ | refine blk_drew ?_ | refine blk_alloc ?_ _));exact ah.out⟩,⟨hb_⟩⟩
      case round=>
       clear H';(try clear c16);(try clear c16b0);(try clear c16b1);(try clear c23);(try clear c24);(try clear c24b0);(try clear c24b1);(try clear bS);(try clear bT);(try clear bU);(try clear bY);(try clear bZ);(try clear cf);(try clear df);(try clear dh);(try clear cD);(try clear cE);(try clear bV);(try clear bW);(try clear bX);(try clear cg);(try clear cm);(try clear cu);(try clear di);(try clear dl);(try clear cF);(try clear cG);obtain⟨aG,aC,az,aN,ax,rfl,HA,HK3,ae,af,au,ai,av,aj,aa,ah,HB⟩:=hrel;cases gk with
       | zero=>exact absurd HA.out (by simp [spec_PivotedProblem.l0])
       | succ k3=>
        have H:=HA.out;clear HA;simp only [spec_PivotedProblem.l0] at H
        by_cases c36:aG < (ag.length:Int)
        ·rw [if_pos c36] at H;have c36b0:=decide_eq_true c36;clear c36;obtain⟨dM,hy⟩: ∃y_:List Int,y_=(([]:List Int)):=⟨_,rfl⟩
         replace H:(spec_PivotedProblem.l1 k3 aG dM 0 ay aq ag aC az)=some (r1,r2,r3):=hh_;have dD:=q_ hy;clear hy;have H':=q_ H;clear H;have iq:=ba.out;have iy:=aM.out;have iz:=a9.out;have iA:=aJ.out;have iB:=aQ.out;have iC:=bf.out;have dG:=cz_ aa 0;have dH:=cz_ aa 1;have dI:=cz_ aa 2;have dJ:=blk_frozen aa.out 0;have dK:=blk_frozen aa.out 1;have dL:=blk_frozen aa.out 2
         go_wp2_with (first | ((with_reducible refine gate_dst (N:=39) rfl ?_);refine Kd.R_lit (Kd.int .i64) _ 2 ?hg (N:=39) ?hd (xs:=([]:List Int)) (inner:= []) (ok:=fun _=>True) (okp:=fun _=>True) ?hr ?hp (fun _ hk=>hk) trivial (Below.refl _ _) (Nat.le_refl _) (by simp) ?_;(case hd=>rfl);(case hg=>rfl);(case hr=>first | (go_simp;done) | (go_simp;rfl));(case hp=>exact(Reps.none _ _));intro jv w41 bQ hb hg_ hnew_;clear hg_ hnew_;(first | rw [← dD.out] at bQ | (simp only [Int.reduceToNat] at bQ;rw [← dD.out] at bQ));replace ae:=q_ (Kd.S_elder' (so_ ae.out) (Kd.R_base bQ) hb);replace au:=q_ (Kd.S_elder' (so_ au.out) (Kd.R_base bQ) hb);have dV:=q_ (Kd.R_lower (Kd.R_new' (Kd.R_new' bQ (Kd.R_lt (ro_ af.out))) (Kd.R_lt (ro_ ai.out))) bz_);replace av:=q_ (bb_ av.out hb);replace aj:=q_ (bb_ aj.out hb);replace aa:=q_ (bb_ aa.out hb);replace ah:=q_ (bb_ ah.out hb);replace af:=q_ (Kd.R_elder' (ro_ af.out) (Kd.R_base bQ) hb);replace ai:=q_ (Kd.R_elder' (ro_ ai.out) (Kd.R_base bQ) hb);replace HB:=q_ (bs_ hb);clear hb bQ))
         go_loopg [10,11] k3 (fun kq v10 v11 w'=> ∃(bu:List Int) (aT:Int),v11= .int .i64 aT∧Aside0 (spec_PivotedProblem.l1 kq aG bu aT ay aq ag aC az=some (r1,r2,r3))∧Aside0 (kq≤k3)∧Aside0 (Kd.R (Kd.int .i64) 2 w' w.heap.size (fun k_=>some k_≠((.slice aD ag.length aA):Value).ownBlock∧some k_≠(ax:Value).ownBlock) v10 bu)∧Aside0 (Kd.S (Kd.slice 2 (Kd.int .i64)) 25 w' w.heap.size (fun k_=>some k_≠(v10:Value).ownBlock∧some k_≠((.slice aD ag.length aA):Value).ownBlock∧some k_≠(aN:Value).ownBlock∧some k_≠(ax:Value).ownBlock) (.slice aK aq.length aH) aq)∧Aside0 (Kd.R (Kd.int .i64) 2 w' w.heap.size (fun k_=>some k_≠(v10:Value).ownBlock∧some k_≠(ax:Value).ownBlock) (.slice aD ag.length aA) ag)∧Aside0 (Kd.S (Kd.slice 2 (Kd.int .i64)) 25 w' w.heap.size (fun k_=>some k_≠(v10:Value).ownBlock∧some k_≠((.slice aK aq.length aH):Value).ownBlock∧some k_≠((.slice aD ag.length aA):Value).ownBlock∧some k_≠(ax:Value).ownBlock) aN aC)∧Aside0 (Kd.R (Kd.int .i64) 2 w' w.heap.size (fun k_=>some k_≠(v10:Value).ownBlock∧some k_≠((.slice aD ag.length aA):Value).ownBlock) ax az)∧Aside0 (w'.heap[aZ]?=some (.cells #[(.slice bE bh.length bF),(.slice bG bk.length bH)] 27 (0,0)))∧Aside0 (w'.heap[aI]?=some (.cells #[(.slice none 0 0),(.slice none 0 0)] 27 (0,0)))∧Aside0 (w'.heap[ak]?=some (.cells #[.int .i64 ay,(.slice aK aq.length aH),(.slice aD ag.length aA)] 49 (0,0)))∧Aside0 (w'.heap[aw]?=some (.cells #[aN,ax] 27 (0,0)))∧Aside0 (Below w.heap.size w w'))
         case atStart=>exact⟨(dM),(0),rs_,H',⟨Nat.le_refl _⟩,⟨by(with_reducible repeat (first | apply Kd.R_alloc | apply Kd.R_drewN | apply Kd.R_drew));exact Kd.R_mono dV.out (fun _ hk=>⟨hk.1.2,hk.2⟩)⟩,⟨by(with_reducible repeat (first | apply Kd.S_alloc | apply Kd.S_drewN | apply Kd.S_drew));exact Kd.S_mono ae.out (fun _ hk=>⟨hk.2,⟨hk.1.1,⟨hk.1.2.1,hk.1.2.2⟩⟩⟩)⟩,⟨by(with_reducible repeat (first | apply Kd.R_alloc | apply Kd.R_drewN | apply Kd.R_drew));exact Kd.R_mono af.out (fun _ hk=>⟨hk.2,hk.1⟩)⟩,⟨by(with_reducible repeat (first | apply Kd.S_alloc | apply Kd.S_drewN | apply Kd.S_drew));exact Kd.S_mono au.out (fun _ hk=>⟨hk.2,⟨hk.1.1,⟨hk.1.2.1,hk.1.2.2⟩⟩⟩)⟩,⟨by(with_reducible repeat (first | apply Kd.R_alloc | apply Kd.R_drewN | apply Kd.R_drew));exact Kd.R_mono ai.out (fun _ hk=>⟨hk.2,hk.1⟩)⟩,⟨bk_⟩,⟨bk_⟩,⟨bk_⟩,⟨bk_⟩,⟨hb_⟩⟩
         case round=>
          clear H';(try clear c16);(try clear c16b0);(try clear c16b1);(try clear c23);(try clear c24);(try clear c24b0);(try clear c24b1);(try clear c36b0);(try clear bS);(try clear bT);(try clear bU);(try clear bY);(try clear bZ);(try clear cf);(try clear df);(try clear dh);(try clear dG);(try clear dH);(try clear dI);(try clear cD);(try clear cE);(try clear bV);(try clear bW);(try clear bX);(try clear cg);(try clear cm);(try clear cu);(try clear di);(try clear dl);(try clear dJ);(try clear dK);(try clear dL);(try clear cF);(try clear cG);obtain⟨bu,aT,rfl,HA,HK4,bg,ae,af,au,ai,av,aj,aa,ah,HB⟩:=hrel;cases gk with
          | zero=>exact absurd HA.out (by simp [spec_PivotedProblem.l1])
          | succ k4=>
           have H:=HA.out;clear HA;simp only [spec_PivotedProblem.l1] at H
           by_cases c43:aT < (ag.length:Int)
           ·rw [if_pos c43] at H;have c43b0:=decide_eq_true c43;clear c43
            by_cases c44:0≤aG
            ·rw [if_pos c44] at H;have c44b0:=decide_eq_true c44;clear c44
             by_cases c45:aG < (aq.length:Int)
             ·rw [if_pos c45] at H;have c45b0:=decide_eq_true c45;clear c45
              by_cases c46:0≤aT
              ·rw [if_pos c46] at H;have c46b0:=decide_eq_true c46;clear c46
               by_cases c47:aT < ((rd_L2 aq aG).length:Int)
               ·rw [if_pos c47] at H;have c47b0:=decide_eq_true c47;clear c47
                by_cases c48:ay=0
                ·rw [if_pos c48] at H;exact absurd H (by simp)
                ·rw [if_neg c48] at H;have c48b0:=e3_ c48;have c48b1:=e4_ c48
                 by_cases c49:bu.length < 17592186044416
                 ·rw [if_pos c49] at H;have dW:=q_ c49;clear c49;obtain⟨dN,hy⟩: ∃y_:List Int,y_=(bu++ [wrap64 (Int.tdiv (rd (rd_L2 aq aG) aT) ay)]):=⟨_,rfl⟩
                  replace H:(spec_PivotedProblem.l1 k4 aG dN (wrap64 (aT+1)) ay aq ag aC az)=some (r1,r2,r3):=hh_;have dX:=q_ hy;clear hy;have H':=q_ H;clear H;have iD:=ba.out;have iE:=aM.out;have iF:=a9.out;have iG:=aJ.out;have iH:=aQ.out;have iI:=bf.out;have eY:=cz_ aa 0;have eZ:=cz_ aa 1;have fa:=cz_ aa 2;have fc:=blk_frozen aa.out 0;have fg:=blk_frozen aa.out 1;have fj:=blk_frozen aa.out 2
                  try go_wp2
                  replace bg:=q_ (Kd.R_drew bg.out);replace ae:=q_ (Kd.S_drew ae.out);replace af:=q_ (Kd.R_drew af.out);replace au:=q_ (Kd.S_drew au.out);replace ai:=q_ (Kd.R_drew ai.out);replace av:=q_ (blk_drew av.out);replace aj:=q_ (blk_drew aj.out);replace aa:=q_ (blk_drew aa.out);replace ah:=q_ (blk_drew ah.out);replace HB:=q_ (below_drew1 HB.out);have p558:0≤(aG:Int):=od_;have q558:aG < (aq.length:Int):=od_;obtain⟨cQ,gC,dP,e558,hx558_0,hl558_0,hi558_0⟩:=at_L2 (Kd.S_reads' ae.out).2.2 aG p558 q558;cases e558
                  obtain⟨ce558,hce558,hMe558,hcc558⟩:=Kd.S_get ae.out [] aG p558 (by first | exact q558 | exact od_ | (have e_:=(Kd.S_reads' ae.out).1;omega));obtain⟨ve558_0,rfl,ge558_0⟩:=hMe558;have hv558_0:=hcc558 0 _ rfl;rw [Nat.add_zero,show ((Kd.slice 2 (Kd.int .i64))).sz=1 from rfl,Nat.mul_one] at hv558_0;replace hv558_0:=Option.some.inj (hv558_0.symm.trans hx558_0);rw [hv558_0] at ge558_0;have HL558_0:=q_ (show Kd.R (Kd.int .i64) 2 _ _ _ _ (rd_L2 aq aG) from ge558_0);clear hv558_0 ge558_0 hcc558 hce558;have HR558_0:=q_ hi558_0;have HC558_0:=q_ hl558_0;clear hi558_0 hl558_0;replace p558:=eq_true p558;replace q558:=eq_true q558;have p559:0≤(aT:Int):=od_;have q559:aT < ((rd_L2 aq aG).length:Int):=od_;obtain⟨dE,e559,hx559_0⟩:=Kd.at_int (by repeat (first | (with_reducible exact HR558_0.out) | (with_reducible refine Kd.C_alloc ?_ _) | (with_reducible refine Kd.C_drewN ?_ _) | (with_reducible refine Kd.C_drew ?_) | exact HR558_0.out)) aT p559 q559;cases e559
                  replace p559:=eq_true p559;replace q559:=eq_true q559;refine st_ (n:=15) (S:=fun w'=>w'.cell? ⟨ak,0,none⟩=some (.int .i64 ay)∧w'.cell? ⟨ak,1,none⟩=some (.slice (some cQ) aq.length aH)∧w'.cell? ⟨ak,2,none⟩=some (.slice aD ag.length aA)∧w'.cell? (cQ.add (aG).toNat)=some (.slice (some dE) (rd_L2 aq aG).length dP)∧w'.cell? (dE.add (aT).toNat)=some (.int .i64 (rd (rd_L2 aq aG) aT))) (ds:= [12,13]) ⟨(blk_cell aa.out 0).trans rfl,(blk_cell aa.out 1).trans rfl,(blk_cell aa.out 2).trans rfl,hx558_0,hx559_0⟩ (fun hHeld=>?_);refine with_tabW spec_PivotedProblem.tab14 spec_PivotedProblem.bits14 (fun HT_ HW_=>?_)
                  generalize wr.drew=w54 at bg ae af au ai av aj aa ah HB HL558_0 HR558_0 hx558_0 hx559_0 hHeld ⊢
                  refine pu_ 0 47 ?_;refine pu_ 1 48 ?_;refine pu_ 3 50 ?_;refine pu_ 6 53 ?_;refine pu_ 9 56 ?_;refine tk_ 2 49 ?_;refine pu_ 4 51 ?_;refine tk_ 5 52 ?_;refine pu_ 7 54 ?_;refine tk_ 8 55 ?_;refine tk_ 10 57 ?_;refine pu_ 11 58 ?_
                  refine la_ 12 (some 59) (fun K hK=>?_)
                  refine value_ (w1:=?_) (v:=?_) (by rfl) rfl ?_ ?_
                  rotate_left 2
                  ·go_simp
                   constructor
                   ·rfl
                   ·rfl
                  refine hK.out _ _ ?_
                  clear hK K;refine norm_ (a':=?_) ?_ ?_
                  rotate_left
                  ·show Act.put _ (some 59) _=_
                   simp only [Act.put,List.setIfInBounds_toArray,List.set_cons_zero,List.set_cons_succ,i64_w,i32_w]
                   rfl
                  refine la_ 13 (some 60) (fun K hK=>?_)
                  refine Kd.R_append_step (Kd.int .i64) (w0:=w) w.heap.size (by rfl) (.tmp 47) (.tmp 59) 25 2 (.int .i64 0) 8 rfl Try.underlying25 info2 rfl (by decide) (by omega) u10 bu (wrap64 (Int.tdiv (rd (rd_L2 aq aG) aT) ay)) [.int .i64 (wrap64 (Int.tdiv (rd (rd_L2 aq aG) aT) ay))] (fun k_=>some k_≠(.slice aD ag.length aA:Value).ownBlock∧some k_≠(ax:Value).ownBlock) (fun _=>False) rfl rfl ?aP (fun _ hk=>hk.elim) ?aF ?aO ?aB ?aS ?aL ?_
                  (case aP=>exact rfl)
                  (case aB=>exact hb_)
                  (case aF=>exact(fun k_ hk=>⟨Kd.fresh' (Kd.R_lt (ro_ af.out)) k_ hk,Kd.fresh' (Kd.R_lt (ro_ ai.out)) k_ hk⟩))
                  (case aO=>exact(ro_ bg.out))
                  (case aS=>exact bz_)
                  (case aL=>have:=dW.out;omega)
                  intro jw w55 ho hb hg hat;rw [← dX.out] at ho;replace ae:=q_ (Kd.S_after (ok:=(fun k_=>some k_≠(.slice aD ag.length aA:Value).ownBlock∧some k_≠(aN:Value).ownBlock∧some k_≠(ax:Value).ownBlock)) (by(with_reducible repeat (first | apply Kd.S_alloc | apply Kd.S_drewN | apply Kd.S_drew));exact Kd.S_mono ae.out (fun _ hk=>⟨⟨hk.2.1,⟨hk.2.2.1,hk.2.2.2⟩⟩,hk.1⟩)) hg hat);replace af:=q_ (Kd.R_after (ok:=(fun k_=>some k_≠(ax:Value).ownBlock)) (by(with_reducible repeat (first | apply Kd.R_alloc | apply Kd.R_drewN | apply Kd.R_drew));exact Kd.R_mono af.out (fun _ hk=>⟨hk.2,hk.1⟩)) hg hat);replace au:=q_ (Kd.S_after (ok:=(fun k_=>some k_≠(.slice (some cQ) aq.length aH:Value).ownBlock∧some k_≠(.slice aD ag.length aA:Value).ownBlock∧some k_≠(ax:Value).ownBlock)) (by(with_reducible repeat (first | apply Kd.S_alloc | apply Kd.S_drewN | apply Kd.S_drew));exact Kd.S_mono au.out (fun _ hk=>⟨⟨hk.2.1,⟨hk.2.2.1,hk.2.2.2⟩⟩,hk.1⟩)) hg hat);replace ai:=q_ (Kd.R_after (ok:=(fun k_=>some k_≠(.slice aD ag.length aA:Value).ownBlock)) (by(with_reducible repeat (first | apply Kd.R_alloc | apply Kd.R_drewN | apply Kd.R_drew));exact Kd.R_mono ai.out (fun _ hk=>⟨hk.2,hk.1⟩)) hg hat);replace av:=q_ (bg_ av.out hg (Kd.R_ne bg.out av.out (by decide)));replace aj:=q_ (bg_ aj.out hg (Kd.R_ne bg.out aj.out (by decide)));replace aa:=q_ (bg_ aa.out hg (Kd.R_ne bg.out aa.out (by decide)));replace ah:=q_ (bg_ ah.out hg (Kd.R_ne bg.out ah.out (by decide)));replace HL558_0:=q_ (Kd.R_after (ok:=(fun k_=>some k_≠(.slice (some cQ) aq.length aH:Value).ownBlock∧some k_≠(.slice aD ag.length aA:Value).ownBlock∧some k_≠(aN:Value).ownBlock∧some k_≠(ax:Value).ownBlock)) (by(with_reducible repeat (first | apply Kd.R_alloc | apply Kd.R_drewN | apply Kd.R_drew));exact Kd.R_mono HL558_0.out (fun _ hk=>⟨⟨hk.2,⟨hk.1.2.1,⟨hk.1.2.2.1,hk.1.2.2.2⟩⟩⟩,hk.1.1⟩)) hg hat);replace HB:=q_ (hb);have dY:=q_ (ho);clear bg ho hb hg hat;refine hK.out _ _ ?_
                  clear hK K;refine norm_ (a':=?_) ?_ ?_
                  rotate_left
                  ·show Act.put _ (some 60) _=_
                   simp only [Act.put,List.setIfInBounds_toArray,List.set_cons_zero,List.set_cons_succ,i64_w,i32_w]
                   rfl
                  refine pu_ 14 10 ?_
                  refine done_ (done_of HT_.out (by kernel_rfl)) ?_
                  try go_wp2
                  go_roundg k4
                  case measure=>have:=HJ3.out;have:=HJ21.out;have:=HK3.out;have:=HK4.out;omega
                  case rel=>exact⟨(dN),(wrap64 (aT+1)),rs_,H',⟨by have:=HJ3.out;have:=HJ21.out;have:=HK3.out;have:=HK4.out;omega⟩,⟨ro_ dY.out⟩,⟨by(with_reducible repeat (first | apply Kd.S_alloc | apply Kd.S_drewN | apply Kd.S_drew));exact Kd.S_mono ae.out (fun _ hk=>⟨hk.2,⟨hk.1.1,⟨hk.1.2.1,hk.1.2.2⟩⟩⟩)⟩,⟨by(with_reducible repeat (first | apply Kd.R_alloc | apply Kd.R_drewN | apply Kd.R_drew));exact Kd.R_mono af.out (fun _ hk=>⟨hk.2,hk.1⟩)⟩,⟨by(with_reducible repeat (first | apply Kd.S_alloc | apply Kd.S_drewN | apply Kd.S_drew));exact Kd.S_mono au.out (fun _ hk=>⟨hk.2,⟨hk.1.1,⟨hk.1.2.1,hk.1.2.2⟩⟩⟩)⟩,⟨by(with_reducible repeat (first | apply Kd.R_alloc | apply Kd.R_drewN | apply Kd.R_drew));exact Kd.R_mono ai.out (fun _ hk=>⟨hk.2,hk.1⟩)⟩,⟨bk_⟩,⟨bk_⟩,⟨bk_⟩,⟨bk_⟩,⟨hb_⟩⟩
                 ·rw [if_neg c49] at H;exact absurd H (by simp)
               ·rw [if_neg c47] at H;exact absurd H (by simp)
              ·rw [if_neg c46] at H;exact absurd H (by simp)
             ·rw [if_neg c45] at H;exact absurd H (by simp)
            ·rw [if_neg c44] at H;exact absurd H (by simp)
           ·rw [if_neg c43] at H;have c43b0:=decide_eq_false c43;clear c43
            by_cases c56:aC.length < 5864062014805
            ·rw [if_pos c56] at H;have dZ:=q_ c56;clear c56;obtain⟨aU,hy⟩: ∃y_:List (List Int),y_=(aC++ [bu]):=⟨_,rfl⟩
             replace H:(if 0≤aG then(if aG < (ag.length:Int) then(if ay=0 then(none) else(if az.length < 17592186044416 then(spec_PivotedProblem.l0 k4 (wrap64 (aG+1)) ay aq ag aU (az++ [wrap64 (Int.tdiv (rd ag aG) ay)])) else(none))) else(none)) else(none))=some (r1,r2,r3):=hh_;have d9:=q_ hy;clear hy
             by_cases c57:0≤aG
             ·rw [if_pos c57] at H;have c57b0:=decide_eq_true c57;clear c57
              by_cases c58:aG < (ag.length:Int)
              ·rw [if_pos c58] at H;have c58b0:=decide_eq_true c58;clear c58
               by_cases c59:ay=0
               ·rw [if_pos c59] at H;exact absurd H (by simp)
               ·rw [if_neg c59] at H;have c59b0:=e3_ c59;have c59b1:=e4_ c59
                by_cases c60:az.length < 17592186044416
                ·rw [if_pos c60] at H;have ed:=q_ c60;clear c60;obtain⟨cC,hy⟩: ∃y_:List Int,y_=(az++ [wrap64 (Int.tdiv (rd ag aG) ay)]):=⟨_,rfl⟩
                 replace H:(spec_PivotedProblem.l0 k4 (wrap64 (aG+1)) ay aq ag aU cC)=some (r1,r2,r3):=hh_;have ek:=q_ hy;clear hy;have H':=q_ H;clear H;have iJ:=ba.out;have iK:=aM.out;have iL:=a9.out;have iM:=aJ.out;have iN:=aQ.out;have iO:=bf.out;have fk:=cz_ aa 0;have fo:=cz_ aa 1;have fp:=cz_ aa 2;have fq:=blk_frozen aa.out 0;have fu:=blk_frozen aa.out 1;have fw:=blk_frozen aa.out 2;have iP:=bz.out;have iQ:=aV.out;have iR:=bA.out;have iS:=aW.out;have fA:=cz_ ah 0;have fB:=cz_ ah 1;have fC:=blk_frozen ah.out 0;have fD:=blk_frozen ah.out 1;obtain⟨dr,du,eG⟩:=Kd.R_slice bg.out;subst eG
                 try go_wp2_with (first | ((with_reducible refine gate_builtin (b:= .append) (xs:= #[.tmp 62, .tmp 64]) rfl ?_);at_builtin;refine Kd.S_append (Kd.slice 2 (Kd.int .i64)) (w0:=w) w.heap.size rfl (.tmp 62) (.tmp 64) 24 25 (.slice none 0 0) 24 rfl Try.underlying24 info25 rfl (by decide) (by omega) aN aC bu [.slice dr bu.length du] (fun k_=>some k_≠(.slice aK aq.length aH:Value).ownBlock∧some k_≠(.slice aD ag.length aA:Value).ownBlock∧some k_≠(ax:Value).ownBlock) (fun k_=>some k_=(.slice dr bu.length du:Value).ownBlock) rfl rfl ?aP (fun k_ hk_=>((Kd.R_mono (ok':=fun k_=>((fun k_=>some k_≠(.slice aK aq.length aH:Value).ownBlock∧some k_≠(.slice aD ag.length aA:Value).ownBlock∧some k_≠(ax:Value).ownBlock)) k_∧some k_≠(aN:Value).ownBlock) (Kd.R_apart' (Kd.R_apart' (bg.out) (Kd.S_typed ae.out) (by decide)) (Kd.S_typed au.out) (by decide)) (fun k_ hk=>⟨⟨hk.1.2,⟨hk.1.1.1,hk.1.1.2⟩⟩,hk.2⟩))).1 k_ hk_.symm) ?aF ?aO ?aB ?aS ?aL ?_;(case aP=>exact Kd.M_row (Kd.R_mono (Kd.R_tight rfl (Kd.R_mono (ok':=fun k_=>((fun k_=>some k_≠(.slice aK aq.length aH:Value).ownBlock∧some k_≠(.slice aD ag.length aA:Value).ownBlock∧some k_≠(ax:Value).ownBlock)) k_∧some k_≠(aN:Value).ownBlock) (Kd.R_apart' (Kd.R_apart' (bg.out) (Kd.S_typed ae.out) (by decide)) (Kd.S_typed au.out) (by decide)) (fun k_ hk=>⟨⟨hk.1.2,⟨hk.1.1.1,hk.1.1.2⟩⟩,hk.2⟩))) (fun _ h_=>h_)));(case aB=>exact hb_);(case aF=>exact(fun k_ hk=>⟨Kd.fresh' (Kd.S_lt (so_ ae.out)) k_ hk,Kd.fresh' (Kd.R_lt (ro_ af.out)) k_ hk,Kd.fresh' (Kd.R_lt (ro_ ai.out)) k_ hk⟩));(case aO=>exact(by(with_reducible repeat (first | apply Kd.S_alloc | apply Kd.S_drewN | apply Kd.S_drew));exact Kd.S_mono au.out (fun k_ hk=>⟨⟨hk.2.1,⟨hk.2.2.1,hk.2.2.2⟩⟩,fun e_=>hk.1 e_⟩)));(case aS=>exact bz_);(case aL=>have:=dZ.out;omega);intro jx w68 ho hb hg hat;rw [← d9.out] at ho;replace ae:=q_ (Kd.S_after (ok:=(fun k_=>some k_≠(.slice dr bu.length du:Value).ownBlock∧some k_≠(.slice aD ag.length aA:Value).ownBlock∧some k_≠(ax:Value).ownBlock)) (by(with_reducible repeat (first | apply Kd.S_alloc | apply Kd.S_drewN | apply Kd.S_drew));exact Kd.S_mono ae.out (fun _ hk=>⟨⟨hk.1,⟨hk.2.1,hk.2.2.2⟩⟩,hk.2.2.1⟩)) hg hat);replace af:=q_ (Kd.R_over' (ro_ af.out) (Kd.S_typed (so_ au.out)) (by decide) hg);replace ai:=q_ (Kd.R_over' (ro_ ai.out) (Kd.S_typed (so_ au.out)) (by decide) hg);replace av:=q_ (bg_ av.out hg (Kd.S_ne au.out av.out (by decide)));replace aj:=q_ (bg_ aj.out hg (Kd.S_ne au.out aj.out (by decide)));replace aa:=q_ (bg_ aa.out hg (Kd.S_ne au.out aa.out (by decide)));replace ah:=q_ (bg_ ah.out hg (Kd.S_ne au.out ah.out (by decide)));replace HB:=q_ (hb);have bw:=q_ (ho);clear au bg ho hb hg hat;obtain⟨aX,aY,eH⟩:=Kd.S_slice bw.out;subst eH;have fE:=cz_ ah 0;have fF:=cz_ ah 1;have fG:=blk_frozen ah.out 0;have fH:=blk_frozen ah.out 1))
                 have n0_:Aside0 (Kd.S (Kd.slice 2 (Kd.int .i64)) 25 (w68.setCell ⟨aw,0,none⟩ (.slice aX aU.length aY)) w.heap.size (fun k_=>some k_≠(.slice aD ag.length aA:Value).ownBlock∧some k_≠(ax:Value).ownBlock∧some k_≠(.slice aX aU.length aY:Value).ownBlock) (.slice aK aq.length aH) aq):=⟨by(with_reducible repeat (first | apply Kd.S_alloc | apply Kd.S_drewN | apply Kd.S_drew));exact Kd.S_mono (Kd.S_far (p:=⟨aw,0,none⟩) (Kd.S_types ae.out ah.out (by decide)) (fun _ hk=>hk.2) (.slice aX aU.length aY)) (fun _ hk=>⟨hk.1.1.2.1,⟨hk.1.1.2.2,hk.1.2⟩⟩)⟩
                 have n1_:Aside0 (Kd.R (Kd.int .i64) 2 (w68.setCell ⟨aw,0,none⟩ (.slice aX aU.length aY)) w.heap.size (fun k_=>some k_≠(ax:Value).ownBlock) (.slice aD ag.length aA) ag):=⟨by(with_reducible repeat (first | apply Kd.R_alloc | apply Kd.R_drewN | apply Kd.R_drew));exact Kd.R_mono (Kd.R_far (p:=⟨aw,0,none⟩) (Kd.R_types af.out ah.out (by decide)) (fun _ hk=>hk.2) (.slice aX aU.length aY)) (fun _ hk=>hk.1.2)⟩
                 have n2_:Aside0 (Kd.R (Kd.int .i64) 2 (w68.setCell ⟨aw,0,none⟩ (.slice aX aU.length aY)) w.heap.size (fun k_=>some k_≠(.slice aD ag.length aA:Value).ownBlock) ax az):=⟨by(with_reducible repeat (first | apply Kd.R_alloc | apply Kd.R_drewN | apply Kd.R_drew));exact Kd.R_mono (Kd.R_far (p:=⟨aw,0,none⟩) (Kd.R_types ai.out ah.out (by decide)) (fun _ hk=>hk.2) (.slice aX aU.length aY)) (fun _ hk=>hk.1.2)⟩
                 have n3_:Aside0 (Kd.S (Kd.slice 2 (Kd.int .i64)) 25 (w68.setCell ⟨aw,0,none⟩ (.slice aX aU.length aY)) w.heap.size (fun k_=>some k_≠(.slice aK aq.length aH:Value).ownBlock∧some k_≠(.slice aD ag.length aA:Value).ownBlock∧some k_≠(ax:Value).ownBlock) (.slice aX aU.length aY) aU):=⟨by(with_reducible repeat (first | apply Kd.S_alloc | apply Kd.S_drewN | apply Kd.S_drew));exact Kd.S_mono (Kd.S_far (p:=⟨aw,0,none⟩) (Kd.S_types bw.out ah.out (by decide)) (fun _ hk=>hk.2) (.slice aX aU.length aY)) (fun _ hk=>⟨hk.1.1,⟨hk.1.2.1,hk.1.2.2⟩⟩)⟩
                 have n4_:Aside0 ((w68.setCell ⟨aw,0,none⟩ (.slice aX aU.length aY)).heap[aZ]?=some (.cells #[.slice bE bh.length bF, .slice bG bk.length bH] 27 (0,0))):=⟨by(with_reducible repeat (first | refine blk_drewN ?_ _ | refine blk_drew ?_ | refine blk_alloc ?_ _));refine blk_far ?_ aV.out _;(with_reducible repeat (first | refine blk_drewN ?_ _ | refine blk_drew ?_ | refine blk_alloc ?_ _));exact av.out⟩
                 have n5_:Aside0 ((w68.setCell ⟨aw,0,none⟩ (.slice aX aU.length aY)).heap[aI]?=some (.cells #[.slice none 0 0, .slice none 0 0] 27 (0,0))):=⟨by(with_reducible repeat (first | refine blk_drewN ?_ _ | refine blk_drew ?_ | refine blk_alloc ?_ _));refine blk_far ?_ aW.out _;(with_reducible repeat (first | refine blk_drewN ?_ _ | refine blk_drew ?_ | refine blk_alloc ?_ _));exact aj.out⟩
                 have n6_:Aside0 ((w68.setCell ⟨aw,0,none⟩ (.slice aX aU.length aY)).heap[ak]?=some (.cells #[.int .i64 ay, .slice aK aq.length aH, .slice aD ag.length aA] 49 (0,0))):=⟨by(with_reducible repeat (first | refine blk_drewN ?_ _ | refine blk_drew ?_ | refine blk_alloc ?_ _));refine blk_far ?_ aQ.out _;(with_reducible repeat (first | refine blk_drewN ?_ _ | refine blk_drew ?_ | refine blk_alloc ?_ _));exact aa.out⟩
                 have n7_:Aside0 ((w68.setCell ⟨aw,0,none⟩ (.slice aX aU.length aY)).heap[aw]?=some (.cells #[.slice aX aU.length aY,ax] 27 (0,0))):=⟨by(with_reducible repeat (first | refine blk_drewN ?_ _ | refine blk_drew ?_ | refine blk_alloc ?_ _));refine blk_put (cs:= #[aN,ax]) ?_ 0 _ rfl;(with_reducible repeat (first | refine blk_drewN ?_ _ | refine blk_drew ?_ | refine blk_alloc ?_ _));exact ah.out⟩
                 have n8_:Aside0 (Below w.heap.size w (w68.setCell ⟨aw,0,none⟩ (.slice aX aU.length aY))):=⟨hb_⟩
                 (try clear ae);(try clear af);(try clear ai);(try clear bw);(try clear av);(try clear aj);(try clear aa);(try clear ah);(try clear HB)
                 generalize (w68.setCell ⟨aw,0,none⟩ (.slice aX aU.length aY))=w72 at n0_ n1_ n2_ n3_ n4_ n5_ n6_ n7_ n8_ ⊢
                 have ae:=n0_;have af:=n1_;have ai:=n2_;have bw:=n3_;have av:=n4_;have aj:=n5_;have aa:=n6_;have ah:=n7_;have HB:=n8_;clear n0_ n1_ n2_ n3_ n4_ n5_ n6_ n7_ n8_;replace ae:=q_ (Kd.S_drew ae.out);replace af:=q_ (Kd.R_drew af.out);replace ai:=q_ (Kd.R_drew ai.out);replace bw:=q_ (Kd.S_drew bw.out);replace av:=q_ (blk_drew av.out);replace aj:=q_ (blk_drew aj.out);replace aa:=q_ (blk_drew aa.out);replace ah:=q_ (blk_drew ah.out);replace HB:=q_ (below_drew1 HB.out);have p566:0≤(aG:Int):=od_;have q566:aG < (ag.length:Int):=od_;obtain⟨cH,e566,hx566_0⟩:=Kd.at_int (Kd.R_reads' af.out).2.2 aG p566 q566;cases e566
                 replace p566:=eq_true p566;replace q566:=eq_true q566;refine st_ (n:=14) (S:=fun w'=>w'.cell? ⟨aw,0,none⟩=some (.slice aX aU.length aY)∧w'.cell? ⟨aw,1,none⟩=some (ax)∧w'.cell? ⟨ak,0,none⟩=some (.int .i64 ay)∧w'.cell? ⟨ak,1,none⟩=some (.slice aK aq.length aH)∧w'.cell? ⟨ak,2,none⟩=some (.slice (some cH) ag.length aA)∧w'.cell? (cH.add (aG).toNat)=some (.int .i64 (rd ag aG))) (ds:= [11,13]) ⟨(blk_cell ah.out 0).trans rfl,(blk_cell ah.out 1).trans rfl,(blk_cell aa.out 0).trans rfl,(blk_cell aa.out 1).trans rfl,(blk_cell aa.out 2).trans rfl,hx566_0⟩ (fun hHeld=>?_);refine with_tabW spec_PivotedProblem.tab16 spec_PivotedProblem.bits16 (fun HT_ HW_=>?_)
                 generalize w72.drew=w73 at ae af ai bw av aj aa ah HB hx566_0 hHeld ⊢
                 refine pu_ 0 67 ?_;refine pu_ 2 69 ?_;refine pu_ 4 71 ?_;refine pu_ 7 74 ?_;refine tk_ 1 68 ?_;refine tk_ 3 70 ?_;refine pu_ 5 72 ?_;refine tk_ 6 73 ?_;refine tk_ 8 75 ?_;refine pu_ 9 76 ?_
                 refine on_ 10 (some 77) (fun K hK=>?_)
                 refine value_ (w1:=?_) (v:=?_) (by rfl) rfl ?_ ?_
                 rotate_left 2
                 ·go_simp
                  constructor
                  ·rfl
                  ·rfl
                 refine hK.out _ _ ⟨(blk_cell (blk_alloc ah.out _) 0).trans rfl,(blk_cell (blk_alloc ah.out _) 1).trans rfl,(blk_cell (blk_alloc aa.out _) 0).trans rfl,(blk_cell (blk_alloc aa.out _) 1).trans rfl,(blk_cell (blk_alloc aa.out _) 2).trans rfl,(World.cell?_alloc_lt _ _ _ (World.block_lt_of_cell? _ _ (hHeld.2.2.2.2.2))).trans (hHeld.2.2.2.2.2)⟩ (fun hHeld=>?_)
                 clear hK K;refine norm_ (a':=?_) ?_ ?_
                 rotate_left
                 ·show Act.put _ (some 77) _=_
                  simp only [Act.put,List.setIfInBounds_toArray,List.set_cons_zero,List.set_cons_succ,i64_w,i32_w]
                  rfl
                 refine la_ 11 (some 78) (fun K hK=>?_)
                 refine Kd.R_append_step (Kd.int .i64) (w0:=w) w.heap.size (by rfl) (.tmp 68) (.tmp 77) 25 2 (.int .i64 0) 8 rfl Try.underlying25 info2 rfl (by decide) (by omega) ax az (wrap64 (Int.tdiv (rd ag aG) ay)) [.int .i64 (wrap64 (Int.tdiv (rd ag aG) ay))] (fun k_=>some k_≠(.slice (some cH) ag.length aA:Value).ownBlock) (fun _=>False) rfl rfl ?aP (fun _ hk=>hk.elim) ?aF ?aO ?aB ?aS ?aL ?_
                 (case aP=>exact rfl)
                 (case aB=>exact hb_)
                 (case aF=>exact(fun k_ hk=>Kd.fresh' (Kd.R_lt (ro_ af.out)) k_ hk))
                 (case aO=>exact(ro_ ai.out))
                 (case aS=>exact bz_)
                 (case aL=>have:=ed.out;omega)
                 intro jy w74 ho hb hg hat;rw [← ek.out] at ho;replace ae:=q_ (Kd.S_after (ok:=(fun k_=>some k_≠(.slice (some cH) ag.length aA:Value).ownBlock∧some k_≠(.slice aX aU.length aY:Value).ownBlock)) (by(with_reducible repeat (first | apply Kd.S_alloc | apply Kd.S_drewN | apply Kd.S_drew));exact Kd.S_mono ae.out (fun _ hk=>⟨⟨hk.1,hk.2.2⟩,hk.2.1⟩)) hg hat);replace af:=q_ (Kd.R_after (ok:=(fun _=>True)) (by(with_reducible repeat (first | apply Kd.R_alloc | apply Kd.R_drewN | apply Kd.R_drew));exact Kd.R_mono af.out (fun _ hk=>⟨trivial,hk⟩)) hg hat);replace av:=q_ (bg_ av.out hg (Kd.R_ne ai.out av.out (by decide)));replace aj:=q_ (bg_ aj.out hg (Kd.R_ne ai.out aj.out (by decide)));replace aa:=q_ (bg_ aa.out hg (Kd.R_ne ai.out aa.out (by decide)));replace ah:=q_ (bg_ ah.out hg (Kd.R_ne ai.out ah.out (by decide)));replace bw:=q_ (Kd.S_after (ok:=(fun k_=>some k_≠(.slice aK aq.length aH:Value).ownBlock∧some k_≠(.slice (some cH) ag.length aA:Value).ownBlock)) (by(with_reducible repeat (first | apply Kd.S_alloc | apply Kd.S_drewN | apply Kd.S_drew));exact Kd.S_mono bw.out (fun _ hk=>⟨⟨hk.1,hk.2.1⟩,hk.2.2⟩)) hg hat);replace HB:=q_ (hb);have dF:=q_ (ho);clear ai ho hb hg hat;obtain⟨cU,cV,dQ⟩:=Kd.R_slice dF.out
                 (first | subst dQ | (injection dQ with f1_ f2_ f3_;have f4_:=f1_.symm;have f5_:=f3_.symm;clear f1_ f2_ f3_;subst f4_;subst f5_))
                 refine hK.out _ _ ?_
                 clear hK K;refine norm_ (a':=?_) ?_ ?_
                 rotate_left
                 ·show Act.put _ (some 78) _=_
                  simp only [Act.put,List.setIfInBounds_toArray,List.set_cons_zero,List.set_cons_succ,i64_w,i32_w]
                  rfl
                 refine pu_ 12 79 ?_
                 refine la_ 13 none (fun K hK=>?_)
                 have hs76:=cz_ ah 1;have hfs76:=blk_frozen ah.out 1;have hns76_0:=aV.out;have hns76_1:=aW.out;have hns76_2:=aQ.out;have hms76_0:=bz.out;have hms76_1:=bA.out;have hms76_2:=bf.out;refine skip_ (w1:=?_) (by rfl) rfl ?_ ?_
                 rotate_left
                 ·go_simp
                  rfl
                 refine hK.out _ _ ?_
                 clear hK K;refine done_ (done_of HT_.out (by kernel_rfl)) ?_
                 try go_wp2
                 go_roundg k4
                 case measure=>have:=HJ3.out;have:=HJ21.out;have:=HK3.out;have:=HK4.out;omega
                 case rel=>exact⟨(wrap64 (aG+1)),(aU),(cC),(.slice aX aU.length aY),(.slice cU cC.length cV),rs_,H',⟨by have:=HJ3.out;have:=HJ21.out;have:=HK3.out;have:=HK4.out;omega⟩,⟨by(with_reducible repeat (first | apply Kd.S_alloc | apply Kd.S_drewN | apply Kd.S_drew));exact Kd.S_mono (Kd.S_far (p:=⟨aw,1,none⟩) (Kd.S_types ae.out ah.out (by decide)) (fun _ hk=>hk.2) (.slice cU cC.length cV)) (fun _ hk=>⟨hk.1.1.1,⟨hk.1.1.2,hk.1.2⟩⟩)⟩,⟨by(with_reducible repeat (first | apply Kd.R_alloc | apply Kd.R_drewN | apply Kd.R_drew));exact Kd.R_mono (Kd.R_far (p:=⟨aw,1,none⟩) (Kd.R_types af.out ah.out (by decide)) (fun _ hk=>hk.2) (.slice cU cC.length cV)) (fun _ hk=>hk.1.2)⟩,⟨by(with_reducible repeat (first | apply Kd.S_alloc | apply Kd.S_drewN | apply Kd.S_drew));exact Kd.S_mono (Kd.S_far (p:=⟨aw,1,none⟩) (Kd.S_types bw.out ah.out (by decide)) (fun _ hk=>hk.2) (.slice cU cC.length cV)) (fun _ hk=>⟨hk.1.1.1,⟨hk.1.1.2,hk.1.2⟩⟩)⟩,⟨by(with_reducible repeat (first | apply Kd.R_alloc | apply Kd.R_drewN | apply Kd.R_drew));exact Kd.R_mono (Kd.R_far (p:=⟨aw,1,none⟩) (Kd.R_types dF.out ah.out (by decide)) (fun _ hk=>hk.2) (.slice cU cC.length cV)) (fun _ hk=>hk.1)⟩,⟨by(with_reducible repeat (first | refine blk_drewN ?_ _ | refine blk_drew ?_ | refine blk_alloc ?_ _));refine blk_far ?_ aV.out _;(with_reducible repeat (first | refine blk_drewN ?_ _ | refine blk_drew ?_ | refine blk_alloc ?_ _));exact av.out⟩,⟨by(with_reducible repeat (first | refine blk_drewN ?_ _ | refine blk_drew ?_ | refine blk_alloc ?_ _));refine blk_far ?_ aW.out _;(with_reducible repeat (first | refine blk_drewN ?_ _ | refine blk_drew ?_ | refine blk_alloc ?_ _));exact aj.out⟩,⟨by(with_reducible repeat (first | refine blk_drewN ?_ _ | refine blk_drew ?_ | refine blk_alloc ?_ _));refine blk_far ?_ aQ.out _;(with_reducible repeat (first | refine blk_drewN ?_ _ | refine blk_drew ?_ | refine blk_alloc ?_ _));exact aa.out⟩,⟨by(with_reducible repeat (first | refine blk_drewN ?_ _ | refine blk_drew ?_ | refine blk_alloc ?_ _));refine blk_put (cs:= #[.slice aX aU.length aY,ax]) ?_ 1 _ rfl;(with_reducible repeat (first | refine blk_drewN ?_ _ | refine blk_drew ?_ | refine blk_alloc ?_ _));exact ah.out⟩,⟨hb_⟩⟩
                ·rw [if_neg c60] at H;exact absurd H (by simp)
              ·rw [if_neg c58] at H;exact absurd H (by simp)
             ·rw [if_neg c57] at H;exact absurd H (by simp)
            ·rw [if_neg c56] at H;exact absurd H (by simp)
        ·rw [if_neg c36] at H;have c36b0:=decide_eq_false c36;clear c36;replace H:=Option.bind_eq_some_iff.mp H;obtain⟨dU,A770,H⟩:=H;replace H:(if dU=true then(some (aC,az,0)) else(some (([]:List (List Int)),([]:List Int),3)))=some (r1,r2,r3):=H;have A77:=q_ A770;clear A770
         by_cases c78:dU=true
         ·subst c78;have H1:(some (aC,az,0))=some (r1,r2,r3):=by rw [if_pos rfl] at H;exact H
          clear H;have H:=H1;clear H1;simp only [Option.some.injEq,Prod.mk.injEq] at H;obtain⟨rfl,rfl,rfl⟩:=H;have iT:=ba.out;have iU:=aM.out;have iV:=a9.out;have iW:=aJ.out;have iX:=aQ.out;have iY:=bf.out;have fI:=cz_ aa 0;have fJ:=cz_ aa 1;have fK:=cz_ aa 2;have fL:=blk_frozen aa.out 0;have fM:=blk_frozen aa.out 1;have fN:=blk_frozen aa.out 2;have iZ:=bz.out;have i9:=aV.out;have ja:=bA.out;have jb:=aW.out;have fO:=cz_ ah 0;have fP:=cz_ ah 1;have fQ:=blk_frozen ah.out 0;have fT:=blk_frozen ah.out 1;obtain⟨cL,cN,eI⟩:=Kd.S_slice au.out;subst eI;obtain⟨cZ,da,eJ⟩:=Kd.R_slice ai.out;subst eJ
          go_wp2_with (first | ((with_reducible refine gate_callee (f:=55) rfl ?_);refine gL_ 81 Try.func55 #[.agg #[.slice cL aC.length cN, .slice cZ az.length da]] ?_;(with_reducible refine(spec_l01Is.calls k3 _ _ aC _ _ az true _ ?bL ?bM ?bN ?bO A77.out).mono ?_);(case bL=>repeat (first | exact(Kd.S_reads' au.out).2.2 | (with_reducible refine Kd.C_alloc ?_ _) | (with_reducible refine Kd.C_drewN ?_ _) | (with_reducible refine Kd.C_drew ?_)));(case bM=>exact(Kd.S_reads' au.out).2.1);(case bN=>repeat (first | exact(Kd.R_reads' ai.out).2.2 | (with_reducible refine Kd.C_alloc ?_ _) | (with_reducible refine Kd.C_drewN ?_ _) | (with_reducible refine Kd.C_drew ?_)));(case bO=>exact(Kd.R_reads' ai.out).2.1);rintro e w88 ⟨rfl,hb⟩;refine⟨_,rfl,?_⟩;replace ae:=q_ (Kd.S_below (so_ ae.out) hb);replace af:=q_ (rb_ af.out hb);replace au:=q_ (Kd.S_below (so_ au.out) hb);replace ai:=q_ (rb_ ai.out hb);replace av:=q_ (bb_ av.out hb);replace aj:=q_ (bb_ aj.out hb);replace aa:=q_ (bb_ aa.out hb);replace ah:=q_ (bb_ ah.out hb);replace HB:=q_ (bs_ hb);(try clear hb);(try clear hk);have fU:=cz_ ah 0;have fV:=cz_ ah 1;have fW:=blk_frozen ah.out 0;have fZ:=blk_frozen ah.out 1;have jc:=bJ.out;have jd:=bI.out;have f7:=cz_ aj 0;have f8:=cz_ aj 1;have f9:=blk_frozen aj.out 0;have ga:=blk_frozen aj.out 1))
          refine bodyPost_ret (results_ct rfl _ _ aI 27 #[.slice cL aC.length cN, .slice cZ az.length da] (0,0) _ rfl (by(with_reducible repeat (first | refine blk_drewN ?_ _ | refine blk_drew ?_ | refine blk_alloc ?_ _));refine blk_put (cs:= #[.slice cL aC.length cN, .slice none 0 0]) ?_ 1 _ rfl;(with_reducible repeat (first | refine blk_drewN ?_ _ | refine blk_drew ?_ | refine blk_alloc ?_ _));refine blk_put (cs:= #[.slice none 0 0, .slice none 0 0]) ?_ 0 _ rfl;(with_reducible repeat (first | refine blk_drewN ?_ _ | refine blk_drew ?_ | refine blk_alloc ?_ _));exact aj.out) Try.underlying27 rfl (by kernel_rfl)) rfl ?_
          exact⟨_,_,by first | rfl | (simp [errW_none,errW_some] <;> rfl) | (simp [*,errW_none,errW_some] <;> rfl),by(with_reducible repeat (first | apply Kd.S_alloc | apply Kd.S_drewN | apply Kd.S_drew));exact Kd.S_mono (Kd.S_far (p:=⟨aI,1,none⟩) (Kd.S_far (p:=⟨aI,0,none⟩) (Kd.S_types au.out aj.out (by decide)) (fun _ hk=>hk.2) (.slice cL aC.length cN)) (fun _ hk=>hk.2) (.slice cZ az.length da)) (fun _ hk=>hk.1.2.2),by(with_reducible repeat (first | apply Kd.R_alloc | apply Kd.R_drewN | apply Kd.R_drew));exact Kd.R_mono (Kd.R_far (p:=⟨aI,1,none⟩) (Kd.R_far (p:=⟨aI,0,none⟩) (Kd.R_types ai.out aj.out (by decide)) (fun _ hk=>hk.2) (.slice cL aC.length cN)) (fun _ hk=>hk.2) (.slice cZ az.length da)) (fun _ hk=>trivial),hb_⟩
         ·replace c78:=Bool.eq_false_iff.mpr c78;subst c78;have H1:(some (([]:List (List Int)),([]:List Int),3))=some (r1,r2,r3):=by rw [if_neg (show ¬ (false=true) by decide)] at H;exact H
          clear H;have H:=H1;clear H1;simp only [Option.some.injEq,Prod.mk.injEq] at H;obtain⟨rfl,rfl,rfl⟩:=H;have je:=ba.out;have jf:=aM.out;have jg:=a9.out;have jh:=aJ.out;have ji:=aQ.out;have jk:=bf.out;have gh:=cz_ aa 0;have gi:=cz_ aa 1;have gj:=cz_ aa 2;have gp:=blk_frozen aa.out 0;have gu:=blk_frozen aa.out 1;have gx:=blk_frozen aa.out 2;have jl:=bz.out;have jm:=aV.out;have jn:=bA.out;have jo:=aW.out;have gy:=cz_ ah 0;have gz:=cz_ ah 1;have gA:=blk_frozen ah.out 0;have gB:=blk_frozen ah.out 1;obtain⟨eK,eL,eM⟩:=Kd.S_slice au.out;subst eM;obtain⟨ep,eu,ez⟩:=Kd.R_slice ai.out;subst ez
          go_wp2_with (first | ((with_reducible refine gate_callee (f:=55) rfl ?_);refine gL_ 81 Try.func55 #[.agg #[.slice eK aC.length eL, .slice ep az.length eu]] ?_;(with_reducible refine(spec_l01Is.calls k3 _ _ aC _ _ az false _ ?bL ?bM ?bN ?bO A77.out).mono ?_);(case bL=>repeat (first | exact(Kd.S_reads' au.out).2.2 | (with_reducible refine Kd.C_alloc ?_ _) | (with_reducible refine Kd.C_drewN ?_ _) | (with_reducible refine Kd.C_drew ?_)));(case bM=>exact(Kd.S_reads' au.out).2.1);(case bN=>repeat (first | exact(Kd.R_reads' ai.out).2.2 | (with_reducible refine Kd.C_alloc ?_ _) | (with_reducible refine Kd.C_drewN ?_ _) | (with_reducible refine Kd.C_drew ?_)));(case bO=>exact(Kd.R_reads' ai.out).2.1);rintro e w101 ⟨rfl,hb⟩;refine⟨_,rfl,?_⟩;replace ae:=q_ (Kd.S_below (so_ ae.out) hb);replace af:=q_ (rb_ af.out hb);replace au:=q_ (Kd.S_below (so_ au.out) hb);replace ai:=q_ (rb_ ai.out hb);replace av:=q_ (bb_ av.out hb);replace aj:=q_ (bb_ aj.out hb);replace aa:=q_ (bb_ aa.out hb);replace ah:=q_ (bb_ ah.out hb);replace HB:=q_ (bs_ hb);(try clear hb);(try clear hk);have gF:=bJ.out;have gG:=bI.out;have eO:=cz_ aj 0;have eP:=cz_ aj 1;have eQ:=blk_frozen aj.out 0;have eS:=blk_frozen aj.out 1))
          refine bodyPost_ret (results_ct rfl _ _ aI 27 #[.slice none 0 0, .slice none 0 0] (0,0) _ rfl (by(with_reducible repeat (first | refine blk_drewN ?_ _ | refine blk_drew ?_ | refine blk_alloc ?_ _));refine blk_put (cs:= #[.slice none 0 0, .slice none 0 0]) ?_ 1 _ rfl;(with_reducible repeat (first | refine blk_drewN ?_ _ | refine blk_drew ?_ | refine blk_alloc ?_ _));refine blk_put (cs:= #[.slice none 0 0, .slice none 0 0]) ?_ 0 _ rfl;(with_reducible repeat (first | refine blk_drewN ?_ _ | refine blk_drew ?_ | refine blk_alloc ?_ _));exact aj.out) Try.underlying27 rfl (by kernel_rfl)) rfl ?_
          exact⟨_,_,by first | rfl | (simp [errW_none,errW_some] <;> rfl) | (simp [*,errW_none,errW_some] <;> rfl),by first | exact Kd.S_nil _ _ _ _ _ | exact Kd.N_nil _ _ _ _ _ | exact Kd.V_nil _ _ _ _ _ | exact Kd.Q_nil _ _ _ _ _ | exact Kd.R_nil _ _ _ _ _,by first | exact Kd.R_nil _ _ _ _ _ | exact Kd.N_nil _ _ _ _ _ | exact Kd.V_nil _ _ _ _ _ | exact Kd.Q_nil _ _ _ _ _ | exact Kd.S_nil _ _ _ _ _,hb_⟩
     ·rw [if_neg c24] at H;have c24b0:=e3_ c24;have c24b1:=e4_ c24;simp only [Option.some.injEq,Prod.mk.injEq] at H;obtain⟨rfl,rfl,rfl⟩:=H;have gH:=bJ.out;have gI:=bI.out;have gJ:=aJ.out;have gK:=a9.out;have eU:=cz_ aj 0;have eV:=cz_ aj 1;have eW:=blk_frozen aj.out 0;have eX:=blk_frozen aj.out 1;go_wp2
      refine bodyPost_ret (results_ct rfl _ _ aI 27 #[.slice none 0 0, .slice none 0 0] (0,0) _ rfl (by(with_reducible repeat (first | refine blk_drewN ?_ _ | refine blk_drew ?_ | refine blk_alloc ?_ _));refine blk_put (cs:= #[.slice none 0 0, .slice none 0 0]) ?_ 1 _ rfl;(with_reducible repeat (first | refine blk_drewN ?_ _ | refine blk_drew ?_ | refine blk_alloc ?_ _));refine blk_put (cs:= #[.slice none 0 0, .slice none 0 0]) ?_ 0 _ rfl;(with_reducible repeat (first | refine blk_drewN ?_ _ | refine blk_drew ?_ | refine blk_alloc ?_ _));exact aj.out) Try.underlying27 rfl (by kernel_rfl)) rfl ?_
      exact⟨_,_,by first | rfl | (simp [errW_none,errW_some] <;> rfl) | (simp [*,errW_none,errW_some] <;> rfl),by first | exact Kd.S_nil _ _ _ _ _ | exact Kd.N_nil _ _ _ _ _ | exact Kd.V_nil _ _ _ _ _ | exact Kd.Q_nil _ _ _ _ _ | exact Kd.R_nil _ _ _ _ _,by first | exact Kd.R_nil _ _ _ _ _ | exact Kd.N_nil _ _ _ _ _ | exact Kd.V_nil _ _ _ _ _ | exact Kd.Q_nil _ _ _ _ _ | exact Kd.S_nil _ _ _ _ _,hb_⟩
end Go.Proofs.Ytbjljcpngbhkeaa.Pr
end
section
namespace Go.Proofs.Ytbjljcpngbhkeaa.Pp
open Go.RowKit Go.Proofs.YtbjljcpngbhkeaaW.PrintWords Go.Proofs.YtbjljcpngbhkeaaW.PrintMore Go.Proofs.Ytbjljcpngbhkeaa.Ma Go.Proofs.Ytbjljcpngbhkeaa.Pr Go.Proofs.Ytbjljcpngbhkeaa.Dt Go.Proofs.Ytbjljcpngbhkeaa.Bz Go.Proofs.Ytbjljcpngbhkeaa.Un Go.Proofs.Ytbjljcpngbhkeaa.Cz Go.Proofs.Ytbjljcpngbhkeaa.Pb Go.Proofs.Ytbjljcpngbhkeaa.Mn Go.Proofs.Ytbjljcpngbhkeaa.Sv Go.Proofs.Ytbjljcpngbhkeaa.Pv Go.Proofs.Ytbjljcpngbhkeaa.La Go.Proofs.Ytbjljcpngbhkeaa.Hm
def dR (d:Int) (R:List (List Int)) (i:Nat):List (List Int):=(List.range i).map fun r=>dvL d (R.getD r [])
def dS (d:Int) (S:List Int) (i:Nat):List Int:=(List.range i).map fun r=>wrap64 (Int.tdiv (S.getD r 0) d)
theorem dR_len (d:Int) (R:List (List Int)) (i:Nat):(dR d R i).length=i:=by simp [dR]
theorem dS_len (d:Int) (S:List Int) (i:Nat):(dS d S i).length=i:=by simp [dS]
theorem dR_succ (d:Int) (R:List (List Int)) (i:Nat):dR d R (i+1)=dR d R i++ [dvL d (R.getD i [])]:=by simp [dR,List.range_succ]
theorem dS_succ (d:Int) (S:List Int) (i:Nat):dS d S (i+1)=dS d S i++ [wrap64 (Int.tdiv (S.getD i 0) d)]:=by simp [dS,List.range_succ]
theorem dS_all (d:Int) (S:List Int):dS d S S.length=dvL d S:=by
 apply List.ext_getElem
 ·simp [dS,dvL]
 ·intro r h1 h2
  have hr:r < S.length:=by simpa [dS] using h1
  simp [dS,dvL,hr]
theorem dR_all (d:Int) (R:List (List Int)):dR d R R.length=R.map (dvL d):=by
 apply List.ext_getElem
 ·simp [dR]
 ·intro r h1 h2
  have hr:r < R.length:=by simpa [dR] using h1
  simp [dR,hr]
section
variable {n:Nat} (hn:n≤5) (R:List (List Int)) (S:List Int) (hR:R.length=n) (hr: ∀i,i < n→(R.getD i []).length=n) (hS:S.length=n) {den:Int} (hd:den≠0)
include hn hR hr hS hd
theorem spec_divided (Z:List (List Int) × List Int × Int) (hZ:Ev (fun k=>(spec_l01Is.f k (dR den R n) (dS den S n)).bind fun t=>if t=true then some (dR den R n,dS den S n,0) else some (([]:List (List Int)),([]:List Int),3)) Z): ∀q i,i+q=n→Ev (fun k=>spec_PivotedProblem.l0 k (i:Int) den R S (dR den R i) (dS den S i)) Z:=by
 intro q
 induction q with
 | zero=>
  intro i hi
  obtain rfl:i=n:=by omega
  exact evstep (fun k=>by rw [spec_PivotedProblem.l0]) (evneg (by omega) hZ)
 | succ q ih=>
  intro i hi
  have nx:=ih (i+1) (by omega)
  rw [dR_succ,dS_succ] at nx
  have hl:=hr i (by omega)
  have cols: ∀p c,c+p=n→Ev (fun k=>spec_PivotedProblem.l1 k (i:Int) (dvL den ((R.getD i []).take c)) (c:Int) den R S (dR den R i) (dS den S i)) Z:=by
   intro p
   induction p with
   | zero=>
    intro c hc
    obtain rfl:c=n:=by omega
    refine evstep (fun k=>by rw [spec_PivotedProblem.l1]) (evneg (by omega) (evpos (by rw [dR_len];omega) (evpos (by omega) (evpos (by omega) (evneg hd (evpos (by rw [dS_len];omega) ?_))))))
    rw [w64 (x:=(i:Int)+1) (by omega) (by omega),rd_nat,List.take_of_length_le (by omega)]
    exact nx
   | succ p ihp=>
    intro c hc
    have nx2:=ihp (c+1) (by omega)
    refine evstep (fun k=>by rw [spec_PivotedProblem.l1]) (evpos (by omega) (evpos (by omega) (evpos (by omega) (evpos (by omega) ?_))))
    rw [rdL1]
    refine evpos (by omega) (evneg hd (evpos (by unfold dvL;rw [List.length_map,List.length_take];omega) ?_))
    rw [w64 (x:=(c:Int)+1) (by omega) (by omega),rd_nat]
    rw [List.take_succ_eq_append_getElem (by omega)] at nx2
    unfold dvL at nx2 ⊢
    rw [List.map_append] at nx2
    rw [show (R.getD i []).getD c 0=(R.getD i [])[c]'(by omega) from by rw [List.getD_eq_getElem?_getD (l:=R.getD i []),List.getElem?_eq_getElem (by omega)];rfl]
    exact nx2
  refine evstep (fun k=>by rw [spec_PivotedProblem.l0]) (evpos (by omega) ?_)
  exact cols n 0 (by omega)
end
open Classical in
theorem pivoted (M:List (List Int)) (Q:List Int) (s:Int) (hQ:Q.length≤1048576): ∃R:List (List Int) × List Int × Int,Ev (fun k=>spec_PivotedProblem.f k M Q s) R∧Ev (fun k=>impl_PivotedProblem.f k M Q s) R∧Few R.1∧R.2.1.length≤5:=by
 have ip:=impl_pivotOf_eq M Q s
 have sp:=spec_PivotOf_eq M Q s hQ
 unfold impl_PivotedProblem.f spec_PivotedProblem.f
 by_cases c:(pvO M Q s).2.2.2=0
 ·obtain⟨c1,d⟩:=pvO_zero c
  obtain⟨p,_⟩:=code_zero c1
  have h5:=p.mat.n5;have h1:=p.mat.n1
  rw [pvO_at c1 d] at ip sp
  obtain⟨b,_,sw,iw⟩:=wholes h5 s Q d
  have hden:=ab_pos d
  have hL:=pvR_len M.length M s
  have hS:=pvS_len M.length M s Q
  have hrow:=pvR_row M.length M s
  generalize ab (det M.length (Cm s M))=den at*
  generalize hRR:pvR M.length M s=R at*
  generalize pvS M.length M s Q=S at*
  have hgd: ∀i,i < M.length→(R.getD i []).length=M.length:=fun i hi=>by rw [← hRR];exact pvR_getD' hi M s
  cases b with
  | false=>
   refine⟨([], [],5),evbind sp (evpos rfl (evbind sw ?_)),evbind ip (evpos rfl (evsome iw ?_)),Few.nil,by simp⟩
   ·refine evstep (fun k=>by rw [spec_PivotedProblem.j0]) ?_
    refine evpos rfl ?_
    refine evstep (fun k=>by rw [spec_PivotedProblem.j1]) ?_
    exact evneg (by decide) (evc rfl)
   ·exact evneg (by simp) (evc rfl)
  | true=>
   have is:=Pb.impl_is (R.map (dvL den)) (dvL den S) (decide (POK (R.map (dvL den)) (dvL den S))) (by simp)
   have ss:=Pb.spec_is (R.map (dvL den)) (dvL den S) (by unfold dvL;rw [List.length_map];omega) (decide (POK (R.map (dvL den)) (dvL den S))) (by simp)
   refine⟨if POK (R.map (dvL den)) (dvL den S) then(R.map (dvL den),dvL den S,0) else([], [],3),evbind sp (evpos rfl (evbind sw ?_)),evbind ip (evpos rfl (evsome iw ?_)),?_,?_⟩
   ·refine evstep (fun k=>by rw [spec_PivotedProblem.j0]) ?_
    refine evneg (by simp) ?_
    refine evstep (fun k=>by rw [spec_PivotedProblem.j1]) ?_
    refine evpos rfl (spec_divided h5 R S hL hgd hS (by omega) _ ?_ M.length 0 (by omega))
    rw [show dR den R M.length=R.map (dvL den) from by rw [← hL];exact dR_all den R,show dS den S M.length=dvL den S from by rw [← hS];exact dS_all den S]
    refine evbind ss ?_
    by_cases z:POK (R.map (dvL den)) (dvL den S)
    ·rw [if_pos z];exact evpos (by simpa using z) (evc rfl)
    ·rw [if_neg z];exact evneg (by simpa using z) (evc rfl)
   ·refine evpos rfl ?_
    dsimp only
    refine(evpos ⟨by omega,by omega,by omega,by
     rw [List.all_eq_true]
     intro x hx
     rw [hL]
     simpa using hrow x hx⟩ (evsome is ?_))
    by_cases z:POK (R.map (dvL den)) (dvL den S)
    ·rw [if_pos z];refine evc ?_;rw [if_pos (by simpa using z)]
    ·rw [if_neg z];refine evc ?_;rw [if_neg (by simpa using z)]
   ·by_cases z:POK (R.map (dvL den)) (dvL den S)
    ·rw [if_pos z]
     refine⟨by show (R.map (dvL den)).length≤5;rw [List.length_map];omega,fun x hx=>?_⟩
     obtain⟨y,hy,rfl⟩:=List.mem_map.1 hx
     have:=hrow y hy
     unfold dvL;rw [List.length_map];omega
    ·rw [if_neg z];exact Few.nil
   ·by_cases z:POK (R.map (dvL den)) (dvL den S)
    ·rw [if_pos z];show (dvL den S).length≤5;unfold dvL;rw [List.length_map];omega
    ·rw [if_neg z];simp
 ·refine⟨([], [],(pvO M Q s).2.2.2),evbind sp (evneg c ?_),evbind ip (evneg c (evc rfl)),Few.nil,by simp⟩
  refine evstep (fun k=>by rw [spec_PivotedProblem.j0]) ?_
  refine evneg (by simp) ?_
  refine evstep (fun k=>by rw [spec_PivotedProblem.j1]) ?_
  exact evneg c (evc rfl)
end Go.Proofs.Ytbjljcpngbhkeaa.Pp
end
section
namespace Go.Proofs.Ytbjljcpngbhkeaa.Pvb
open Go.RowKit Go.Proofs.YtbjljcpngbhkeaaW.PrintWords Go.Proofs.YtbjljcpngbhkeaaW.PrintMore Go.Proofs.Ytbjljcpngbhkeaa.Ma Go.Proofs.Ytbjljcpngbhkeaa.Dt Go.Proofs.Ytbjljcpngbhkeaa.Bz Go.Proofs.Ytbjljcpngbhkeaa.Un
theorem det_cset_one {n i:Nat} (hi:i < n) (v:Nat→Int):det n (cset i v one)=v i:=by
 have h:=adj_col (n:=n) one v hi
 rw [det_one,Int.one_mul,sm_one (k:=i) hi (fun t _ h=>by unfold one;rw [if_neg (Ne.symm h)];simp)] at h
 rw [← h];simp [one]
theorem unit_of {d e:Int} (h:d*e=1):d=1∨d= -1:=by
 have h2:d.natAbs*e.natAbs=1:=by rw [← Int.natAbs_mul,h];rfl
 have:=Nat.dvd_one.1 ⟨_,h2.symm⟩
 omega
def outC (P:Nat→Bool) (M:Mat) (k i:Nat):Int:=if P k=true then(if i=k then 1 else 0) else - M i k
section
variable {n:Nat} {C:Mat} {d sg D:Int} (hd:sg*d=D) (hD:D≠0)
include hd hD
theorem col_of {O x:Nat→Int} (hx: ∀r,r < n→D*x r=sg*det n (cset r O C)) (hdet:det n C=d) {i:Nat} (hi:i < n):sm n (fun t=>C i t*x t)=O i:=by
 have h:=adj_col (n:=n) C O hi
 have e:D*sm n (fun t=>C i t*x t)=D*O i:=by
  rw [← sm_mul,sm_congr (g:=fun t=>sg*(C i t*det n (cset t O C))) (fun t ht=>by rw [← Int.mul_assoc,Int.mul_comm D,Int.mul_assoc,hx t ht, ← Int.mul_assoc,Int.mul_comm (C i t) sg,Int.mul_assoc]),sm_mul,h,hdet, ← Int.mul_assoc,hd]
 exact Int.eq_of_mul_eq_mul_left hD e
end
section
variable {n:Nat} {P:Nat→Bool} {M X:Mat} {d sg D:Int} (hd:sg*d=D) (hD:D≠0) (hdet:det n (colM P M)=d) (hX: ∀r c,r < n→c < n→D*X r c= - (sg*det n (cset r (outC P M c) (colM P M))))
include hd hD hdet hX
theorem col_out {i c:Nat} (hi:i < n) (hc:c < n):sm n (fun t=>colM P M i t*X t c)= - outC P M c i:=by
 have h:=col_of (n:=n) (C:=colM P M) hd hD (O:=outC P M c) (x:=fun r=> - X r c) (fun r hr=>by
  have:=hX r c hr hc
  rw [Int.mul_neg,this,Int.neg_neg]) hdet hi
 have e:sm n (fun t=>colM P M i t* - X t c)= - sm n (fun t=>colM P M i t*X t c):=by
  have: - sm n (fun t=>colM P M i t*X t c)=(-1)*sm n (fun t=>colM P M i t*X t c):=by omega
  rw [this, ← sm_mul]
  exact sm_congr (fun t _=>by rw [Int.mul_neg,Int.neg_one_mul])
 have h2:sm n (fun t=>colM P M i t* - X t c)=outC P M c i:=h
 omega
theorem mul_col (T:Nat→Bool) {i j:Nat} (hi:i < n) (hj:j < n):mul n (colM P M) (colM T X) i j=colM (fun k=>xor (P k) (T k)) M i j:=by
 unfold mul
 by_cases t:T j=true
 ·have e:sm n (fun k=>colM P M i k*colM T X k j)= - sm n (fun k=>colM P M i k*X k j):=by
   have: - sm n (fun t=>colM P M i t*X t j)=(-1)*sm n (fun t=>colM P M i t*X t j):=by omega
   rw [this, ← sm_mul]
   exact sm_congr (fun k _=>by unfold colM;rw [if_pos t,Int.mul_neg,Int.neg_one_mul])
  rw [e,col_out hd hD hdet hX hi hj]
  unfold outC
  show _=colM _ M i j
  unfold colM
  by_cases p:P j=true
  ·rw [if_pos p,if_neg (show ¬ (xor (P j) (T j))=true by simp [p,t])];omega
  ·have p':P j=false:=by simpa using p
   rw [if_neg p,if_pos (show (xor (P j) (T j))=true by simp [p',t])];omega
 ·have t':T j=false:=by simpa using t
  rw [sm_one (k:=j) hj (fun k hk hne=>by unfold colM;rw [if_neg t,if_neg hne,Int.mul_zero])]
  have e1:colM T X j j=1:=by unfold colM;rw [if_neg t,if_pos rfl]
  rw [e1,Int.mul_one]
  unfold colM
  by_cases p:P j=true
  ·rw [if_pos p,if_pos (show (xor (P j) (T j))=true by simp [p,t'])]
  ·have p':P j=false:=by simpa using p
   rw [if_neg p,if_neg (show ¬ (xor (P j) (T j))=true by simp [p',t'])]
theorem mul_self {i j:Nat} (hi:i < n) (hj:j < n):mul n (colM P M) (colM P X) i j=one i j:=by
 rw [mul_col hd hD hdet hX P hi hj]
 unfold colM one
 rw [if_neg (by simp)]
theorem det_inv:d*det n (colM P X)=1:=by
 rw [← hdet, ← det_mul,det_congr (B:=one) (fun i j hi hj=>mul_self hd hD hdet hX hi hj),det_one]
theorem mul_out {i c:Nat} (hi:i < n) (hc:c < n):sm n (fun t=>colM P M i t*outC P X c t)= - M i c:=by
 by_cases p:P c=true
 ·rw [sm_one (k:=c) hc (fun k hk hne=>by unfold outC;rw [if_pos p,if_neg hne,Int.mul_zero])]
  have e1:outC P X c c=1:=by unfold outC;rw [if_pos p,if_pos rfl]
  rw [e1,Int.mul_one]
  unfold colM
  rw [if_pos p]
 ·have e:sm n (fun t=>colM P M i t*outC P X c t)= - sm n (fun t=>colM P M i t*X t c):=by
   have: - sm n (fun t=>colM P M i t*X t c)=(-1)*sm n (fun t=>colM P M i t*X t c):=by omega
   rw [this, ← sm_mul]
   exact sm_congr (fun k _=>by unfold outC;rw [if_neg p,Int.mul_neg,Int.neg_one_mul])
  rw [e,col_out hd hD hdet hX hi hc]
  unfold outC
  rw [if_neg p];omega
theorem solve_back {b y:Nat→Int} (hb: ∀i,i < n→sm n (fun t=>colM P M i t*b t)=y i) {r:Nat} (hr:r < n):d*det n (cset r b (colM P X))=y r:=by
 rw [← hdet, ← det_mul, ← det_cset_one hr y]
 refine det_congr (fun i j hi hj=>?_)
 unfold cset
 show sm n (fun k=>colM P M i k*(if j=r then b k else colM P X k j))=if j=r then y i else one i j
 by_cases e:j=r
 ·rw [if_pos e, ← hb i hi]
  exact sm_congr (fun k _=>by rw [if_pos e])
 ·rw [if_neg e, ← mul_self hd hD hdet hX hi hj]
  exact sm_congr (fun k _=>by rw [if_neg e])
theorem back {q q':Nat→Int} (hq: ∀r,r < n→D*q' r=sg*det n (cset r q (colM P M))):(d=1∨d= -1)∧det n (colM P X)=d∧(∀r c,r < n→c < n→ - (d*det n (cset r (outC P X c) (colM P X)))=M r c)∧(∀r,r < n→d*det n (cset r q' (colM P X))=q r):=by
 have hi:=det_inv hd hD hdet hX
 have h1:d=1∨d= -1:=unit_of hi
 refine⟨h1,?_,fun r c hr hc=>?_,fun r hr=>?_⟩
 ·rcases h1 with e | e <;> rw [e] at hi ⊢ <;> omega
 ·have:=solve_back hd hD hdet hX (b:=outC P X c) (y:=fun i=> - M i c) (fun i hi=>mul_out hd hD hdet hX hi hc) hr
  rw [this,Int.neg_neg]
 ·exact solve_back hd hD hdet hX (b:=q') (y:=q) (fun i hi=>col_of (C:=colM P M) hd hD hq hdet hi) hr
end
end Go.Proofs.Ytbjljcpngbhkeaa.Pvb
end
section
namespace Go.Proofs.Ytbjljcpngbhkeaa.Pp
open Go.RowKit Go.Proofs.YtbjljcpngbhkeaaW.PrintWords Go.Proofs.YtbjljcpngbhkeaaW.PrintMore Go.Proofs.Ytbjljcpngbhkeaa.Ma Go.Proofs.Ytbjljcpngbhkeaa.Pr Go.Proofs.Ytbjljcpngbhkeaa.Dt Go.Proofs.Ytbjljcpngbhkeaa.Bz Go.Proofs.Ytbjljcpngbhkeaa.Un Go.Proofs.Ytbjljcpngbhkeaa.Cz Go.Proofs.Ytbjljcpngbhkeaa.Pb Go.Proofs.Ytbjljcpngbhkeaa.Mn Go.Proofs.Ytbjljcpngbhkeaa.Sv Go.Proofs.Ytbjljcpngbhkeaa.Pv Go.Proofs.Ytbjljcpngbhkeaa.Pvb
theorem ev_eq {α:Type} {f:Nat→Option α} {a b:α} (h:Ev f a) (h2:Ev f b):a=b:=by
 obtain⟨k1,e1⟩:=h
 obtain⟨k2,e2⟩:=h2
 have a1:=e1 (max k1 k2) (by omega)
 have a2:=e2 (max k1 k2) (by omega)
 rw [a1] at a2
 exact Option.some.inj a2
theorem sgn_mul_ab {d:Int}:sgn d*d=ab d:=by
 unfold sgn ab
 by_cases h:d < 0
 ·rw [if_pos h,if_pos h];omega
 ·rw [if_neg h,if_neg h]
  by_cases h2:d > 0
  ·rw [if_pos h2];omega
  ·rw [if_neg h2];omega
theorem sgn_le (d x:Int) (hx: -1920000000≤x∧x≤1920000000): -1920000000≤sgn d*x∧sgn d*x≤1920000000:=by
 unfold sgn
 split
 ·omega
 ·split <;> omega
theorem lists_eq {n:Nat} {A B:List (List Int)} (hA:A.length=n) (hB:B.length=n) (rA: ∀i,i < n→(A.getD i []).length=n) (rB: ∀i,i < n→(B.getD i []).length=n) (h: ∀r c,r < n→c < n→en A r c=en B r c):A=B:=by
 refine List.ext_getElem (by omega) (fun r h1 h2=>?_)
 have e1:A.getD r []=A[r]:=by rw [List.getD_eq_getElem?_getD,List.getElem?_eq_getElem h1];rfl
 have e2:B.getD r []=B[r]:=by rw [List.getD_eq_getElem?_getD,List.getElem?_eq_getElem h2];rfl
 have l1:=rA r (by omega)
 have l2:=rB r (by omega)
 rw [e1] at l1
 rw [e2] at l2
 refine List.ext_getElem (by omega) (fun c h3 h4=>?_)
 have:=h r c (by omega) (by omega)
 unfold en at this
 rw [e1,e2,List.getD_eq_getElem?_getD,List.getD_eq_getElem?_getD,List.getElem?_eq_getElem h3,List.getElem?_eq_getElem h4] at this
 exact this
theorem list_eq {n:Nat} {A B:List Int} (hA:A.length=n) (hB:B.length=n) (h: ∀r,r < n→A.getD r 0=B.getD r 0):A=B:=by
 refine List.ext_getElem (by omega) (fun r h1 h2=>?_)
 have:=h r (by omega)
 rw [List.getD_eq_getElem?_getD,List.getD_eq_getElem?_getD,List.getElem?_eq_getElem h1,List.getElem?_eq_getElem h2] at this
 exact this
section
variable {M:List (List Int)} (q:Sq M.length M) (h5:M.length≤5) (s:Int)
include q h5
theorem pv_dc {c:Nat} (hc:c < M.length) (r:Nat):dc M.length (Cm s M) (rw1 M.length (cW s (en M) c)) r=det M.length (cset r (outC (bB s) (en M) c) (Cm s M))∧ -1920000000≤det M.length (cset r (outC (bB s) (en M) c) (Cm s M))∧det M.length (cset r (outC (bB s) (en M) c) (Cm s M))≤1920000000:=by
 have e:dc M.length (Cm s M) (rw1 M.length (cW s (en M) c)) r=det M.length (cset r (outC (bB s) (en M) c) (Cm s M)):=by
  unfold dc
  refine det_congr (fun a b ha hb=>?_)
  unfold cset
  split
  ·simp [rw1,ha,cW,outC]
  ·rfl
 have b:=dc_b q h5 s (x:=rw1 M.length (cW s (en M) c)) (cW_x q h5 s c hc) r
 rw [show colM (bB s) (en M)=Cm s M from rfl,e] at b
 exact⟨e,b⟩
theorem pv_en {r c:Nat} (hr:r < M.length) (hc:c < M.length):en (pvR M.length M s) r c= - (sgn (det M.length (Cm s M))*det M.length (cset r (outC (bB s) (en M) c) (Cm s M))):=by
 obtain⟨e,b⟩:=pv_dc q h5 s hc r
 have b2:=sgn_le (det M.length (Cm s M)) _ b
 show ((pvR M.length M s).getD r []).getD c 0=_
 unfold pvR
 rw [pR_getD _ _ _ _ _ _ hr]
 have:((List.range M.length).map (pE (Zr M.length) (pvl M.length M s) M.length 0 r)).getD c 0=pE (Zr M.length) (pvl M.length M s) M.length 0 r c:=by simp [hc]
 rw [this]
 unfold pE
 rw [if_pos (.inl hc)]
 have e2:(pvl M.length M s c).getD r 0=sgn (det M.length (Cm s M))*dc M.length (Cm s M) (rw1 M.length (cW s (en M) c)) r:=by simp [pvl,hr]
 rw [e2,e,w64 (by omega) (by omega)]
theorem pv_bnd {r c:Nat} (hr:r < M.length) (hc:c < M.length): -1920000000≤en (pvR M.length M s) r c∧en (pvR M.length M s) r c≤1920000000:=by
 rw [pv_en q h5 s hr hc]
 have:=sgn_le (det M.length (Cm s M)) _ (pv_dc q h5 s hc r).2
 omega
end
theorem pv_side {M:List (List Int)} {Q:List Int} {s:Int} {r:Nat} (hr:r < M.length):(pvS M.length M s Q).getD r 0=sgn (det M.length (Cm s M))*det M.length (cset r (fun i=>Q.getD i 0) (Cm s M)):=by
 simp [pvS,hr,dc]
theorem pv_sbnd {M:List (List Int)} {Q:List Int} (p:POK M Q) (s:Int) {r:Nat} (hr:r < M.length): -1920000000≤(pvS M.length M s Q).getD r 0∧(pvS M.length M s Q).getD r 0≤1920000000:=by
 rw [pv_side hr]
 have:=dc_b p.mat.sq p.mat.n5 s (x:=Q) (fun r hr=>POK.small p r hr) r
 exact sgn_le _ _ this
theorem tdiv_of {x D:Int} (hD:0 < D) (h:Int.tmod x D=0) (hb: -1920000000≤x∧x≤1920000000):D*wrap64 (Int.tdiv x D)=x:=by
 have e:D*Int.tdiv x D=x:=by have:=Int.mul_tdiv_add_tmod x D;omega
 have b: -1920000000≤Int.tdiv x D∧Int.tdiv x D≤1920000000:=by
  have h1:(Int.tdiv x D).natAbs≤x.natAbs:=by rw [Int.natAbs_tdiv];exact Nat.div_le_self _ _
  omega
 rw [w64 (by omega) (by omega)]
 exact e
structure Div (M:List (List Int)) (Q:List Int) (s:Int) (M':List (List Int)) (Q':List Int):Prop where
 len:M'.length=M.length
 qlen:Q'.length=M.length
 row: ∀i,i < M.length→(M'.getD i []).length=M.length
 num: ∀r c,r < M.length→c < M.length→ab (det M.length (Cm s M))*en M' r c= - (sgn (det M.length (Cm s M))*det M.length (cset r (outC (bB s) (en M) c) (colM (bB s) (en M))))
 side: ∀r,r < M.length→ab (det M.length (Cm s M))*Q'.getD r 0=sgn (det M.length (Cm s M))*det M.length (cset r (fun i=>Q.getD i 0) (colM (bB s) (en M)))
theorem div_of {M:List (List Int)} {Q:List Int} (p:POK M Q) {s:Int} (d:det M.length (Cm s M)≠0) (hw:Whole M.length (ab (det M.length (Cm s M))) (pvR M.length M s) (pvS M.length M s Q)):Div M Q s ((pvR M.length M s).map (dvL (ab (det M.length (Cm s M))))) (dvL (ab (det M.length (Cm s M))) (pvS M.length M s Q)):=by
 have hD:=ab_pos d
 have hR:=pvR_len M.length M s
 have hS:=pvS_len M.length M s Q
 have hg: ∀i,i < M.length→((pvR M.length M s).map (dvL (ab (det M.length (Cm s M))))).getD i []=dvL (ab (det M.length (Cm s M))) ((pvR M.length M s).getD i []):=fun i hi=>by
  rw [List.getD_eq_getElem?_getD,List.getElem?_map,List.getElem?_eq_getElem (by omega),List.getD_eq_getElem?_getD,List.getElem?_eq_getElem (by omega)]
  rfl
 refine⟨by rw [List.length_map,hR],by unfold dvL;rw [List.length_map,hS],fun i hi=>?_,fun r c hr hc=>?_,fun r hr=>?_⟩
 ·rw [hg i hi];unfold dvL;rw [List.length_map];exact pvR_getD' hi M s
 ·have e:en ((pvR M.length M s).map (dvL (ab (det M.length (Cm s M))))) r c=wrap64 (Int.tdiv (en (pvR M.length M s) r c) (ab (det M.length (Cm s M)))):=by
   have hl:=pvR_getD' hr M s
   unfold en
   rw [hg r hr]
   unfold dvL
   rw [List.getD_eq_getElem?_getD,List.getElem?_map,List.getElem?_eq_getElem (by omega),List.getD_eq_getElem?_getD (l:=(pvR M.length M s).getD r []),List.getElem?_eq_getElem (by omega)]
   rfl
  rw [e,tdiv_of hD ((hw r hr).2 c hc) (pv_bnd p.mat.sq p.mat.n5 s hr hc)]
  exact pv_en p.mat.sq p.mat.n5 s hr hc
 ·have e:(dvL (ab (det M.length (Cm s M))) (pvS M.length M s Q)).getD r 0=wrap64 (Int.tdiv ((pvS M.length M s Q).getD r 0) (ab (det M.length (Cm s M)))):=by
   unfold dvL
   rw [List.getD_eq_getElem?_getD,List.getElem?_map,List.getElem?_eq_getElem (by omega),List.getD_eq_getElem?_getD,List.getElem?_eq_getElem (by omega)]
   rfl
  rw [e,tdiv_of hD (hw r hr).1 (pv_sbnd p s hr)]
  exact pv_side hr
open Classical in
noncomputable def ppO (M:List (List Int)) (Q:List Int) (s:Int):List (List Int) × List Int × Int:=
 if(pvO M Q s).2.2.2=0 then(if Whole M.length (pvO M Q s).1 (pvO M Q s).2.1 (pvO M Q s).2.2.1 then(if POK ((pvO M Q s).2.1.map (dvL (pvO M Q s).1)) (dvL (pvO M Q s).1 (pvO M Q s).2.2.1) then((pvO M Q s).2.1.map (dvL (pvO M Q s).1),dvL (pvO M Q s).1 (pvO M Q s).2.2.1,0) else([], [],3)) else([], [],5)) else([], [],(pvO M Q s).2.2.2)
open Classical in
theorem impl_pivoted (M:List (List Int)) (Q:List Int) (s:Int):Ev (fun k=>impl_PivotedProblem.f k M Q s) (ppO M Q s):=by
 have ip:=impl_pivotOf_eq M Q s
 unfold impl_PivotedProblem.f ppO
 by_cases c:(pvO M Q s).2.2.2=0
 ·obtain⟨c1,d⟩:=pvO_zero c
  obtain⟨p,_⟩:=code_zero c1
  have h5:=p.mat.n5;have h1:=p.mat.n1
  rw [pvO_at c1 d] at ip ⊢
  obtain⟨b,hb,sw,iw⟩:=wholes h5 s Q d
  have hden:=ab_pos d
  have hL:=pvR_len M.length M s
  have hS:=pvS_len M.length M s Q
  have hrow:=pvR_row M.length M s
  rw [if_pos rfl]
  generalize ab (det M.length (Cm s M))=den at*
  generalize pvR M.length M s=R at*
  generalize pvS M.length M s Q=S at*
  cases b with
  | false=>
   rw [if_neg (show ¬ Whole M.length den R S from fun h=>by cases hb.2 h)]
   exact evbind ip (evpos rfl (evsome iw (evneg (by simp) (evc rfl))))
  | true=>
   rw [if_pos (show Whole M.length den R S from hb.1 rfl)]
   have is:=Pb.impl_is (R.map (dvL den)) (dvL den S) (decide (POK (R.map (dvL den)) (dvL den S))) (by simp)
   refine evbind ip (evpos rfl (evsome iw ?_))
   refine evpos rfl ?_
   dsimp only
   refine(evpos ⟨by omega,by omega,by omega,by
    rw [List.all_eq_true]
    intro x hx
    rw [hL]
    simpa using hrow x hx⟩ (evsome is ?_))
   by_cases z:POK (R.map (dvL den)) (dvL den S)
   ·rw [if_pos z];refine evc ?_;rw [if_pos (by simpa using z)]
   ·rw [if_neg z];refine evc ?_;rw [if_neg (by simpa using z)]
 ·rw [if_neg c]
  exact evbind ip (evneg c (evc rfl))
theorem ppO_zero {M:List (List Int)} {Q:List Int} {s:Int} (c:(ppO M Q s).2.2=0):codeS M Q s=0∧det M.length (Cm s M)≠0∧POK (ppO M Q s).1 (ppO M Q s).2.1∧Div M Q s (ppO M Q s).1 (ppO M Q s).2.1:=by
 unfold ppO at c ⊢
 by_cases c0:(pvO M Q s).2.2.2=0
 ·obtain⟨c1,d⟩:=pvO_zero c0
  obtain⟨p,_⟩:=code_zero c1
  rw [pvO_at c1 d] at c ⊢
  rw [if_pos rfl] at c ⊢
  by_cases w:Whole M.length (ab (det M.length (Cm s M))) (pvR M.length M s) (pvS M.length M s Q)
  ·rw [if_pos w] at c ⊢
   by_cases z:POK ((pvR M.length M s).map (dvL (ab (det M.length (Cm s M))))) (dvL (ab (det M.length (Cm s M))) (pvS M.length M s Q))
   ·rw [if_pos z]
    exact⟨c1,d,z,div_of p d w⟩
   ·rw [if_neg z] at c;cases c
  ·rw [if_neg w] at c;cases c
 ·rw [if_neg c0] at c
  exact absurd c c0
theorem dvL_one {x:List Int} (h: ∀i,i < x.length→(x.getD i 0).natAbs≤100):dvL 1 x=x:=by
 refine list_eq (n:=x.length) (by simp [dvL]) rfl (fun r hr=>?_)
 have:=h r hr
 have e:(dvL 1 x).getD r 0=wrap64 (Int.tdiv (x.getD r 0) 1):=by
  unfold dvL
  rw [List.getD_eq_getElem?_getD,List.getElem?_map,List.getElem?_eq_getElem hr,List.getD_eq_getElem?_getD,List.getElem?_eq_getElem hr]
  rfl
 rw [e,Int.tdiv_one,w64 (by omega) (by omega)]
open Classical in
theorem pivot_back {M:List (List Int)} {Q:List Int} {s:Int} (c:(ppO M Q s).2.2=0):ppO (ppO M Q s).1 (ppO M Q s).2.1 s=(M,Q,0):=by
 obtain⟨c1,d,z,D⟩:=ppO_zero c
 obtain⟨p,hs⟩:=code_zero c1
 obtain⟨M',hM'⟩: ∃M',(ppO M Q s).1=M':=⟨_,rfl⟩
 obtain⟨Q',hQ'⟩: ∃Q',(ppO M Q s).2.1=Q':=⟨_,rfl⟩
 rw [hM',hQ'] at z D ⊢
 clear hM' hQ' c
 have hD:=ab_pos d
 obtain⟨u,hd2,hR,hS⟩:=back (P:=bB s) (M:=en M) (X:=en M') (d:=det M.length (Cm s M)) (sg:=sgn (det M.length (Cm s M))) (D:=ab (det M.length (Cm s M))) sgn_mul_ab (by omega) rfl D.num (q:=fun i=>Q.getD i 0) (q':=fun i=>Q'.getD i 0) D.side
 have hl:=D.len
 have hql:=p.len
 have hc2:codeS M' Q' s=0:=by
  unfold codeS
  rw [if_pos z,if_pos (by rw [D.qlen, ← hql];exact hs)]
 have hdet:det M'.length (Cm s M')=det M.length (Cm s M):=by rw [hl];exact hd2
 have hab:ab (det M.length (Cm s M))=1:=by rcases u with e | e <;> rw [e] <;> rfl
 have hsg:sgn (det M.length (Cm s M))=det M.length (Cm s M):=by rcases u with e | e <;> rw [e] <;> rfl
 have hne:det M'.length (Cm s M')≠0:=by rw [hdet];exact d
 have hRM:pvR M'.length M' s=M:=by
  rw [hl]
  refine lists_eq (n:=M.length) (pvR_len _ _ _) rfl (fun i hi=>pvR_getD' hi M' s) (fun i hi=>p.mat.sq.row i hi) (fun r k hr hk=>?_)
  have:=pv_en z.mat.sq z.mat.n5 s (r:=r) (c:=k) (by omega) (by omega)
  rw [hdet,hl,hsg] at this
  rw [this]
  exact hR r k hr hk
 have hSQ:pvS M'.length M' s Q'=Q:=by
  rw [hl]
  refine list_eq (n:=M.length) (pvS_len _ _ _ _) hql (fun r hr=>?_)
  have:=pv_side (M:=M') (Q:=Q') (s:=s) (r:=r) (by omega)
  rw [hdet,hl,hsg] at this
  rw [this]
  exact hS r hr
 have e:=pvO_at hc2 hne
 rw [hRM,hSQ,hdet,hab] at e
 unfold ppO
 rw [e,if_pos rfl]
 have hrow: ∀x ∈ M,dvL 1 x=x:=fun x hx=>by
  obtain⟨i,hi,rfl⟩:=List.getElem_of_mem hx
  have hg:M.getD i []=M[i]:=by rw [List.getD_eq_getElem?_getD,List.getElem?_eq_getElem hi];rfl
  refine dvL_one (fun j hj=>?_)
  have hr:=p.mat.sq.row i hi
  rw [hg] at hr
  have:=p.mat.sq.num i j hi (by omega)
  unfold en at this
  rw [hg] at this
  omega
 have hmap:M.map (dvL 1)=M:=by
  conv=>rhs;rw [← List.map_id M]
  exact List.map_congr_left hrow
 have hq1:dvL 1 Q=Q:=dvL_one (fun i hi=>POK.small p i (by omega))
 show (if Whole M'.length 1 M Q then(if POK (M.map (dvL 1)) (dvL 1 Q) then(M.map (dvL 1),dvL 1 Q,0) else([], [],3)) else([], [],5))=(M,Q,(0:Int))
 rw [if_pos (show Whole M'.length 1 M Q from fun r hr=>⟨Int.tmod_one _,fun c hc=>Int.tmod_one _⟩),hmap,hq1,if_pos p]
end Go.Proofs.Ytbjljcpngbhkeaa.Pp
end
section
namespace Go.Proofs.Ytbjljcpngbhkeaa.Pr
open Go.RowKit Go.Proofs.YtbjljcpngbhkeaaW.PrintWords Go.Proofs.YtbjljcpngbhkeaaW.PrintLast Go.Proofs.YtbjljcpngbhkeaaW.PrintMore
attribute [local go_sem] max2_int min2_int max_two min_two max_three min_three max_four min_four
def laws_problem9.f (k:Nat) (aa:List (List Int)) (ae:List Int) (af:List (List Int)) (ag:List Int):Option (Bool):=(laws_rows9.f k aa af).bind fun ah=>(if ah=true then((laws_likeInts.f k ae ag).bind fun ai=>(some ai)) else(some false))
theorem laws_problem9.mono: ∀a0 a1 a2 a3 k,LeO (laws_problem9.f k a0 a1 a2 a3) (laws_problem9.f (k+1) a0 a1 a2 a3):=by
 intro a0 a1 a2 a3 k
 unfold laws_problem9.f
 repeat' first | (with_reducible first | exact laws_likeInts.mono _ _ _ | exact laws_rows9.mono _ _ _ | exact LeO.refl _ | exact LeO.none _ | refine LeO.ite ?_ ?_ | refine LeO.bind ?_ (fun _=>?_)) | exact laws_likeInts.mono _ _ _ | exact laws_rows9.mono _ _ _ | exact LeO.none _ | refine LeO.ite ?_ ?_ | refine LeO.bind ?_ (fun _=>?_)
theorem laws_problem9.calls (k:Nat) (aq:Option Addr) (au:Nat) (ag:List (List Int)) (aH:Option Addr) (aI:Nat) (ai:List Int) (av:Option Addr) (aw:Nat) (ah:List (List Int)) (aJ:Option Addr) (aK:Nat) (aj:List Int) (r:Bool) (w:World) (aN:Kd.C (Kd.slice 2 (Kd.int .i64)) w aq ag.length ag) (aQ:ag.length≤au) (aT:Kd.C (Kd.int .i64) w aH ai.length ai) (aU:ai.length≤aI) (aV:Kd.C (Kd.slice 2 (Kd.int .i64)) w av ah.length ah) (aW:ah.length≤aw) (aX:Kd.C (Kd.int .i64) w aJ aj.length aj) (aY:aj.length≤aK) (h:laws_problem9.f k ag ai ah aj=some r):
  Calls Try.prog 27 #[.agg #[.slice aq ag.length au, .slice aH ai.length aI], .agg #[.slice av ah.length aw, .slice aJ aj.length aK]] w fun e w'=>e= .returned (.bool r)∧Below w.heap.size w w':=by
 have hu27:=Try.underlying27;have HR0_0:=q_ aN;have HC0_0:=q_ aQ;clear aN aQ;have HR0_1:=q_ aT;have HC0_1:=q_ aU;clear aT aU;have HR1_0:=q_ aV;have HC1_0:=q_ aW;clear aV aW;have HR1_1:=q_ aX;have HC1_1:=q_ aY;clear aX aY;have HB:=q_ (Below.refl w.heap.size w);have H:((laws_rows9.f k ag ah).bind fun aM=>(if aM=true then((laws_likeInts.f k ai aj).bind fun ax=>(some ax)) else(some false)))=some r:=h;clear h;replace H:=Option.bind_eq_some_iff.mp H;obtain⟨aM,A30,H⟩:=H;replace H:(if aM=true then((laws_likeInts.f k ai aj).bind fun ax=>(some ax)) else(some false))=some r:=H;have A3:=q_ A30;clear A30
 by_cases c4:aM=true
 ·subst c4;have H1:((laws_likeInts.f k ai aj).bind fun ax=>(some ax))=some r:=by rw [if_pos rfl] at H;exact H
  clear H;have H:=H1;clear H1;replace H:=Option.bind_eq_some_iff.mp H;obtain⟨ax,A50,H⟩:=H;replace H:(some ax)=some r:=H;have A5:=q_ A50;clear A50;obtain rfl:=Option.some.inj H
  go_enter Try.func27,Try.ntmps27
  go_wp2_with (first | ((with_reducible refine gate_dst (N:=2) rfl ?_);refine be_ 2 #[.slice aq ag.length au, .slice aH ai.length aI] 27 ?_;intro ae hg w6 hbox hb;have aa:=q_ (hbox);have aZ:=q_ ((by rw [hg];exact bz_:w.heap.size≤ae));have a9:=q_ ((by rw [hg];exact bz_:w.heap.size≤ae));replace HB:=q_ (bs_ hb);clear hb hbox hg) | ((with_reducible refine gate_dst (N:=3) rfl ?_);refine be_ 3 #[.slice av ah.length aw, .slice aJ aj.length aK] 27 ?_;intro af hg w7 hbox hb;have ak:=q_ (hbox);have ba:=q_ ((by rw [hg];exact bz_:w.heap.size≤af));have bf:=q_ ((by rw [hg];exact bz_:w.heap.size≤af));have ay:=q_ ((by rw [hg];exact lt_ aa.out:ae≠af));have az:=q_ ((by rw [hg];exact gt_ aa.out:af≠ae));replace aa:=q_ (bb_ aa.out hb);replace HB:=q_ (bs_ hb);clear hb hbox hg;have bL:=ay.out;have bM:=az.out;have bF:=cz_ aa 0;have bG:=cz_ aa 1;have bH:=blk_frozen aa.out 0;have bI:=blk_frozen aa.out 1;have bg:=cz_ ak 0;have bh:=cz_ ak 1;have bk:=blk_frozen ak.out 0;have bq:=blk_frozen ak.out 1) | ((with_reducible refine gate_callee (f:=12) rfl ?_);refine gL_ 9 Try.func12 #[.slice aq ag.length au, .slice av ah.length aw] ?_;(with_reducible refine(laws_rows9.calls k _ _ ag _ _ ah true _ ?aA ?aC ?aD ?aG A3.out).mono ?_);(case aA=>exact cb_ HR0_0.out HB.out);(case aC=>exact HC0_0.out);(case aD=>exact cb_ HR1_0.out HB.out);(case aG=>exact HC1_0.out);rintro e w' ⟨rfl,⟨nd,rfl⟩⟩;refine⟨_,rfl,?_⟩) | (go_at_call 16;(with_reducible refine(laws_likeInts.calls k _ _ ai _ _ aj ax _ ?aA ?aC ?aD ?aG A5.out).mono ?_);(case aA=>repeat (first | exact(Kd.C_below HR0_1.out hb_) | (with_reducible refine Kd.C_alloc ?_ _) | (with_reducible refine Kd.C_drewN ?_ _) | (with_reducible refine Kd.C_drew ?_)));(case aC=>exact HC0_1.out);(case aD=>repeat (first | exact(Kd.C_below HR1_1.out hb_) | (with_reducible refine Kd.C_alloc ?_ _) | (with_reducible refine Kd.C_drewN ?_ _) | (with_reducible refine Kd.C_drew ?_)));(case aG=>exact HC1_1.out);rintro e w' ⟨rfl,⟨nd,rfl⟩⟩))
  go_ret
  exact⟨by first | rfl | (simp [errW_none,errW_some] <;> rfl) | (simp [*,errW_none,errW_some] <;> rfl),hb_⟩
 ·replace c4:=Bool.eq_false_iff.mpr c4;subst c4;have H1:(some false)=some r:=by rw [if_neg (show ¬ (false=true) by decide)] at H;exact H
  clear H;have H:=H1;clear H1;obtain rfl:=Option.some.inj H
  go_enter Try.func27,Try.ntmps27
  go_wp2_with (first | ((with_reducible refine gate_dst (N:=2) rfl ?_);refine be_ 2 #[.slice aq ag.length au, .slice aH ai.length aI] 27 ?_;intro ae hg w11 hbox hb;have aa:=q_ (hbox);have aZ:=q_ ((by rw [hg];exact bz_:w.heap.size≤ae));have a9:=q_ ((by rw [hg];exact bz_:w.heap.size≤ae));replace HB:=q_ (bs_ hb);clear hb hbox hg) | ((with_reducible refine gate_dst (N:=3) rfl ?_);refine be_ 3 #[.slice av ah.length aw, .slice aJ aj.length aK] 27 ?_;intro af hg w12 hbox hb;have ak:=q_ (hbox);have ba:=q_ ((by rw [hg];exact bz_:w.heap.size≤af));have bf:=q_ ((by rw [hg];exact bz_:w.heap.size≤af));have ay:=q_ ((by rw [hg];exact lt_ aa.out:ae≠af));have az:=q_ ((by rw [hg];exact gt_ aa.out:af≠ae));replace aa:=q_ (bb_ aa.out hb);replace HB:=q_ (bs_ hb);clear hb hbox hg;have bJ:=ay.out;have bK:=az.out;have bu:=cz_ aa 0;have bv:=cz_ aa 1;have bw:=blk_frozen aa.out 0;have bz:=blk_frozen aa.out 1;have bA:=cz_ ak 0;have bC:=cz_ ak 1;have bD:=blk_frozen ak.out 0;have bE:=blk_frozen ak.out 1) | ((with_reducible refine gate_callee (f:=12) rfl ?_);refine gL_ 9 Try.func12 #[.slice aq ag.length au, .slice av ah.length aw] ?_;(with_reducible refine(laws_rows9.calls k _ _ ag _ _ ah false _ ?aA ?aC ?aD ?aG A3.out).mono ?_);(case aA=>exact cb_ HR0_0.out HB.out);(case aC=>exact HC0_0.out);(case aD=>exact cb_ HR1_0.out HB.out);(case aG=>exact HC1_0.out);rintro e w' ⟨rfl,⟨nd,rfl⟩⟩;refine⟨_,rfl,?_⟩))
  go_ret
  exact⟨by first | rfl | (simp [errW_none,errW_some] <;> rfl) | (simp [*,errW_none,errW_some] <;> rfl),hb_⟩
def impl_IsWholePivot.f (k:Nat) (ae:List (List Int)) (af:List Int) (a1:Int):Option (Bool × Int):=(impl_pivotOf.f k ae af a1).bind fun aa=>(if aa.2.2.2=0 then((impl_Pivot_isWhole.f aa.1 aa.2.1 aa.2.2.1).bind fun ag=>(some (ag,aa.2.2.2))) else(some (false,aa.2.2.2)))
theorem impl_IsWholePivot.mono: ∀a0 a1 a2 k,LeO (impl_IsWholePivot.f k a0 a1 a2) (impl_IsWholePivot.f (k+1) a0 a1 a2):=by
 intro a0 a1 a2 k
 unfold impl_IsWholePivot.f
 repeat' first | (with_reducible first | exact impl_pivotOf.mono _ _ _ _ | exact LeO.refl _ | exact LeO.none _ | refine LeO.ite ?_ ?_ | refine LeO.bind ?_ (fun _=>?_)) | exact impl_pivotOf.mono _ _ _ _ | exact LeO.none _ | refine LeO.ite ?_ ?_ | refine LeO.bind ?_ (fun _=>?_)
theorem impl_IsWholePivot.calls (k:Nat) (ay:Option Addr) (az:Nat) (ah:List (List Int)) (aA:Option Addr) (aC:Nat) (ai:List Int) (a1:Int) (r1:Bool) (r2:Int) (w:World) (aV:Kd.C (Kd.slice 2 (Kd.int .i64)) w ay ah.length ah) (aW:ah.length≤az) (aX:Kd.C (Kd.int .i64) w aA ai.length ai) (aY:ai.length≤aC) (h:impl_IsWholePivot.f k ah ai a1=some (r1,r2)):
  Calls Try.prog 28 #[.agg #[.slice ay ah.length az, .slice aA ai.length aC], .int .i64 a1] w fun e w'=>e= .returned (.tuple #[.bool r1, .int .i64 r2])∧Below w.heap.size w w':=by
 have hu27:=Try.underlying27;have hu49:=Try.underlying49;have HR0_0:=q_ aV;have HC0_0:=q_ aW;clear aV aW;have HR0_1:=q_ aX;have HC0_1:=q_ aY;clear aX aY;have HB:=q_ (Below.refl w.heap.size w);have H:((impl_pivotOf.f k ah ai a1).bind fun aG=>(if aG.2.2.2=0 then((impl_Pivot_isWhole.f aG.1 aG.2.1 aG.2.2.1).bind fun aQ=>(some (aQ,aG.2.2.2))) else(some (false,aG.2.2.2))))=some (r1,r2):=h;clear h;replace H:=Option.bind_eq_some_iff.mp H;obtain⟨⟨au,av,aw,ax⟩,A30,H⟩:=H;replace H:(if ax=0 then((impl_Pivot_isWhole.f au av aw).bind fun aQ=>(some (aQ,ax))) else(some (false,ax)))=some (r1,r2):=H;have A3:=q_ A30;clear A30
 by_cases c4:ax=0
 ·rw [if_pos c4] at H;have c4b0:=e1_ c4;have c4b1:=e2_ c4;clear c4;replace H:=Option.bind_eq_some_iff.mp H;obtain⟨aQ,A50,H⟩:=H;replace H:(some (aQ,ax))=some (r1,r2):=H;have A5:=q_ A50;clear A50;simp only [Option.some.injEq,Prod.mk.injEq] at H;obtain⟨rfl,rfl⟩:=H
  go_enter Try.func28,Try.ntmps28
  go_wp2_with (first | ((with_reducible refine gate_dst (N:=2) rfl ?_);refine be_ 2 #[.slice ay ah.length az, .slice aA ai.length aC] 27 ?_;intro ag hg w6 hbox hb;have ae:=q_ (hbox);have aZ:=q_ ((by rw [hg];exact bz_:w.heap.size≤ag));have a9:=q_ ((by rw [hg];exact bz_:w.heap.size≤ag));replace HB:=q_ (bs_ hb);clear hb hbox hg;have bP:=cz_ ae 0;have bQ:=cz_ ae 1;have bR:=blk_frozen ae.out 0;have bS:=blk_frozen ae.out 1) | ((with_reducible refine gate_callee (f:=47) rfl ?_);refine gL_ 11 Try.func47 #[.agg #[.slice ay ah.length az, .slice aA ai.length aC], .int .i64 a1] ?_;(with_reducible refine(impl_pivotOf.calls k _ _ ah _ _ ai a1 au av aw ax _ ?aJ ?aK ?aM ?aN A3.out).mono ?_);(case aJ=>exact cb_ HR0_0.out HB.out);(case aK=>exact HC0_0.out);(case aM=>exact cb_ HR0_1.out HB.out);(case aN=>exact HC0_1.out);rintro e w8 ⟨bg,bh,rfl,ho0,ho1,hb⟩;refine⟨_,rfl,?_⟩;have ak:=q_ (Kd.S_lower ho0 bz_);have aq:=q_ (Kd.R_lower ho1 bz_);replace ae:=q_ (bb_ ae.out hb);replace HB:=q_ (bs_ hb);(try clear hb);(try clear hk);(try clear ho0);(try clear ho1)) | ((with_reducible refine gate_dst (N:=6) rfl ?_);refine be_ 6 #[.int .i64 0, .slice none 0 0, .slice none 0 0] 49 ?_;intro aa hg w9 hbox hb;replace ak:=q_ (Kd.S_below (so_ ak.out) hb);replace aq:=q_ (rb_ aq.out hb);have af:=q_ (hbox);have ba:=q_ ((by rw [hg];exact bz_:w.heap.size≤aa));have bf:=q_ ((by rw [hg];exact bz_:w.heap.size≤aa));have aj:=q_ ((by rw [hg];exact lt_ ae.out:ag≠aa));have aD:=q_ ((by rw [hg];exact gt_ ae.out:aa≠ag));replace ae:=q_ (bb_ ae.out hb);replace HB:=q_ (bs_ hb);clear hb hbox hg;have bT:=aD.out;have bU:=aj.out;have bw:=cz_ af 0;have bz:=cz_ af 1;have bA:=cz_ af 2;have bC:=blk_frozen af.out 0;have bD:=blk_frozen af.out 1;have bE:=blk_frozen af.out 2;obtain⟨aT,aH,bk⟩:=Kd.S_slice ak.out;subst bk;obtain⟨aU,aI,bq⟩:=Kd.R_slice aq.out;subst bq) | (go_at_call 61;(with_reducible refine(impl_Pivot_isWhole.calls au _ _ av _ _ aw aQ _ ?aJ ?aK ?aM ?aN A5.out).mono ?_);(case aJ=>refine(Kd.S_reads' (e:=25) (base:=w.heap.size) (ok:=fun k_=>some k_≠(.slice aU aw.length aI:Value).ownBlock) (n:=av.length) (c:=aH) ?_).2.2;exact(by(with_reducible repeat (first | apply Kd.S_alloc | apply Kd.S_drewN | apply Kd.S_drew));exact(Kd.S_mono (Kd.S_far (p:=⟨aa,2,none⟩) (Kd.S_far (p:=⟨aa,1,none⟩) (Kd.S_far (p:=⟨aa,0,none⟩) (Kd.S_types ak.out af.out (by decide)) (fun _ hk=>hk.2) (.int .i64 au)) (fun _ hk=>hk.2) (.slice aT av.length aH)) (fun _ hk=>hk.2) (.slice aU aw.length aI)) (fun _ h_=>h_.1))));(case aK=>exact(Kd.S_reads' ak.out).2.1);(case aM=>refine(Kd.R_reads' (e:=2) (base:=w.heap.size) (ok:=fun k_=>True) (n:=aw.length) (c:=aI) ?_).2.2;exact(by(with_reducible repeat (first | apply Kd.R_alloc | apply Kd.R_drewN | apply Kd.R_drew));exact(Kd.R_mono (Kd.R_far (p:=⟨aa,2,none⟩) (Kd.R_far (p:=⟨aa,1,none⟩) (Kd.R_far (p:=⟨aa,0,none⟩) (Kd.R_types aq.out af.out (by decide)) (fun _ hk=>hk.2) (.int .i64 au)) (fun _ hk=>hk.2) (.slice aT av.length aH)) (fun _ hk=>hk.2) (.slice aU aw.length aI)) (fun _ h_=>h_.1))));(case aN=>exact(Kd.R_reads' aq.out).2.1);rintro e w14 ⟨rfl,hb⟩;replace ak:=q_ (Kd.S_below (by(with_reducible repeat (first | apply Kd.S_alloc | apply Kd.S_drewN | apply Kd.S_drew));exact(Kd.S_mono (Kd.S_far (p:=⟨aa,2,none⟩) (Kd.S_far (p:=⟨aa,1,none⟩) (Kd.S_far (p:=⟨aa,0,none⟩) (Kd.S_types ak.out af.out (by decide)) (fun _ hk=>hk.2) (.int .i64 au)) (fun _ hk=>hk.2) (.slice aT av.length aH)) (fun _ hk=>hk.2) (.slice aU aw.length aI)) (fun _ h_=>h_.1))) hb);replace aq:=q_ (Kd.R_below (by(with_reducible repeat (first | apply Kd.R_alloc | apply Kd.R_drewN | apply Kd.R_drew));exact(Kd.R_mono (Kd.R_far (p:=⟨aa,2,none⟩) (Kd.R_far (p:=⟨aa,1,none⟩) (Kd.R_far (p:=⟨aa,0,none⟩) (Kd.R_types aq.out af.out (by decide)) (fun _ hk=>hk.2) (.int .i64 au)) (fun _ hk=>hk.2) (.slice aT av.length aH)) (fun _ hk=>hk.2) (.slice aU aw.length aI)) (fun _ h_=>h_.1))) hb);replace ae:=q_ (blk_below (g:=ag) (o:= .cells #[.slice ay ah.length az, .slice aA ai.length aC] 27 (0,0)) (by(with_reducible repeat (first | refine blk_drewN ?_ _ | refine blk_drew ?_ | refine blk_alloc ?_ _));refine blk_far ?_ aj.out _;(with_reducible repeat (first | refine blk_drewN ?_ _ | refine blk_drew ?_ | refine blk_alloc ?_ _));refine blk_far ?_ aj.out _;(with_reducible repeat (first | refine blk_drewN ?_ _ | refine blk_drew ?_ | refine blk_alloc ?_ _));refine blk_far ?_ aj.out _;(with_reducible repeat (first | refine blk_drewN ?_ _ | refine blk_drew ?_ | refine blk_alloc ?_ _));exact ae.out) hb);replace HB:=q_ (bs_ hb);replace af:=q_ (blk_below (g:=aa) (o:= .cells #[.int .i64 au, .slice aT av.length aH, .slice aU aw.length aI] 49 (0,0)) (by(with_reducible repeat (first | refine blk_drewN ?_ _ | refine blk_drew ?_ | refine blk_alloc ?_ _));refine blk_put (cs:= #[.int .i64 au, .slice aT av.length aH, .slice none 0 0]) ?_ 2 _ rfl;(with_reducible repeat (first | refine blk_drewN ?_ _ | refine blk_drew ?_ | refine blk_alloc ?_ _));refine blk_put (cs:= #[.int .i64 au, .slice none 0 0, .slice none 0 0]) ?_ 1 _ rfl;(with_reducible repeat (first | refine blk_drewN ?_ _ | refine blk_drew ?_ | refine blk_alloc ?_ _));refine blk_put (cs:= #[.int .i64 0, .slice none 0 0, .slice none 0 0]) ?_ 0 _ rfl;(with_reducible repeat (first | refine blk_drewN ?_ _ | refine blk_drew ?_ | refine blk_alloc ?_ _));exact af.out) hb);(try clear hb);(try clear hk)))
  go_ret2
  exact⟨by first | rfl | (simp [errW_none,errW_some] <;> rfl) | (simp [*,errW_none,errW_some] <;> rfl),hb_⟩
 ·rw [if_neg c4] at H;have c4b0:=e3_ c4;have c4b1:=e4_ c4;simp only [Option.some.injEq,Prod.mk.injEq] at H;obtain⟨rfl,rfl⟩:=H
  go_enter Try.func28,Try.ntmps28
  go_wp2_with (first | ((with_reducible refine gate_dst (N:=2) rfl ?_);refine be_ 2 #[.slice ay ah.length az, .slice aA ai.length aC] 27 ?_;intro ag hg w15 hbox hb;have ae:=q_ (hbox);have aZ:=q_ ((by rw [hg];exact bz_:w.heap.size≤ag));have a9:=q_ ((by rw [hg];exact bz_:w.heap.size≤ag));replace HB:=q_ (bs_ hb);clear hb hbox hg;have bF:=cz_ ae 0;have bG:=cz_ ae 1;have bH:=blk_frozen ae.out 0;have bI:=blk_frozen ae.out 1) | ((with_reducible refine gate_callee (f:=47) rfl ?_);refine gL_ 11 Try.func47 #[.agg #[.slice ay ah.length az, .slice aA ai.length aC], .int .i64 a1] ?_;(with_reducible refine(impl_pivotOf.calls k _ _ ah _ _ ai a1 au av aw ax _ ?aJ ?aK ?aM ?aN A3.out).mono ?_);(case aJ=>exact cb_ HR0_0.out HB.out);(case aK=>exact HC0_0.out);(case aM=>exact cb_ HR0_1.out HB.out);(case aN=>exact HC0_1.out);rintro e w17 ⟨bg,bh,rfl,ho0,ho1,hb⟩;refine⟨_,rfl,?_⟩;have ak:=q_ (Kd.S_lower ho0 bz_);have aq:=q_ (Kd.R_lower ho1 bz_);replace ae:=q_ (bb_ ae.out hb);replace HB:=q_ (bs_ hb);(try clear hb);(try clear hk);(try clear ho0);(try clear ho1)) | ((with_reducible refine gate_dst (N:=6) rfl ?_);refine be_ 6 #[.int .i64 0, .slice none 0 0, .slice none 0 0] 49 ?_;intro aa hg w18 hbox hb;replace ak:=q_ (Kd.S_below (so_ ak.out) hb);replace aq:=q_ (rb_ aq.out hb);have af:=q_ (hbox);have ba:=q_ ((by rw [hg];exact bz_:w.heap.size≤aa));have bf:=q_ ((by rw [hg];exact bz_:w.heap.size≤aa));have aj:=q_ ((by rw [hg];exact lt_ ae.out:ag≠aa));have aD:=q_ ((by rw [hg];exact gt_ ae.out:aa≠ag));replace ae:=q_ (bb_ ae.out hb);replace HB:=q_ (bs_ hb);clear hb hbox hg;have bV:=aD.out;have bW:=aj.out;have bJ:=cz_ af 0;have bK:=cz_ af 1;have bL:=cz_ af 2;have bM:=blk_frozen af.out 0;have bN:=blk_frozen af.out 1;have bO:=blk_frozen af.out 2;obtain⟨bX,bY,bu⟩:=Kd.S_slice ak.out;subst bu;obtain⟨bZ,cf,bv⟩:=Kd.R_slice aq.out;subst bv))
  go_ret2
  exact⟨by first | rfl | (simp [errW_none,errW_some] <;> rfl) | (simp [*,errW_none,errW_some] <;> rfl),hb_⟩
def spec_IsWholePivot.f (k:Nat) (ae:List (List Int)) (af:List Int) (a1:Int):Option (Bool × Int):=(spec_PivotOf.f k ae af a1).bind fun aa=>(if aa.2.2.2=0 then((spec_l04Whole.f k aa.1 aa.2.1 aa.2.2.1).bind fun ag=>(some (ag,0))) else(some (false,aa.2.2.2)))
theorem spec_IsWholePivot.mono: ∀a0 a1 a2 k,LeO (spec_IsWholePivot.f k a0 a1 a2) (spec_IsWholePivot.f (k+1) a0 a1 a2):=by
 intro a0 a1 a2 k
 unfold spec_IsWholePivot.f
 repeat' first | (with_reducible first | exact spec_PivotOf.mono _ _ _ _ | exact spec_l04Whole.mono _ _ _ _ | exact LeO.refl _ | exact LeO.none _ | refine LeO.ite ?_ ?_ | refine LeO.bind ?_ (fun _=>?_)) | exact spec_PivotOf.mono _ _ _ _ | exact spec_l04Whole.mono _ _ _ _ | exact LeO.none _ | refine LeO.ite ?_ ?_ | refine LeO.bind ?_ (fun _=>?_)
theorem spec_IsWholePivot.calls (k:Nat) (ax:Option Addr) (ay:Nat) (ah:List (List Int)) (az:Option Addr) (aA:Nat) (ai:List Int) (a1:Int) (r1:Bool) (r2:Int) (w:World) (aV:Kd.C (Kd.slice 2 (Kd.int .i64)) w ax ah.length ah) (aW:ah.length≤ay) (aX:Kd.C (Kd.int .i64) w az ai.length ai) (aY:ai.length≤aA) (h:spec_IsWholePivot.f k ah ai a1=some (r1,r2)):
  Calls Try.prog 29 #[.agg #[.slice ax ah.length ay, .slice az ai.length aA], .int .i64 a1] w fun e w'=>e= .returned (.tuple #[.bool r1, .int .i64 r2])∧Below w.heap.size w w':=by
 have hu27:=Try.underlying27;have hu49:=Try.underlying49;have HR0_0:=q_ aV;have HC0_0:=q_ aW;clear aV aW;have HR0_1:=q_ aX;have HC0_1:=q_ aY;clear aX aY;have HB:=q_ (Below.refl w.heap.size w);have H:((spec_PivotOf.f k ah ai a1).bind fun aK=>(if aK.2.2.2=0 then((spec_l04Whole.f k aK.1 aK.2.1 aK.2.2.1).bind fun aU=>(some (aU,0))) else(some (false,aK.2.2.2))))=some (r1,r2):=h;clear h;replace H:=Option.bind_eq_some_iff.mp H;obtain⟨⟨au,av,aw,aC⟩,A30,H⟩:=H;replace H:(if aC=0 then((spec_l04Whole.f k au av aw).bind fun aU=>(some (aU,0))) else(some (false,aC)))=some (r1,r2):=H;have A3:=q_ A30;clear A30
 by_cases c4:aC=0
 ·rw [if_pos c4] at H;have c4b0:=e1_ c4;have c4b1:=e2_ c4;clear c4;replace H:=Option.bind_eq_some_iff.mp H;obtain⟨aU,A50,H⟩:=H;replace H:(some (aU,0))=some (r1,r2):=H;have A5:=q_ A50;clear A50;simp only [Option.some.injEq,Prod.mk.injEq] at H;obtain⟨rfl,rfl⟩:=H
  go_enter Try.func29,Try.ntmps29
  go_wp2_with (first | ((with_reducible refine gate_dst (N:=2) rfl ?_);refine be_ 2 #[.slice ax ah.length ay, .slice az ai.length aA] 27 ?_;intro ag hg w6 hbox hb;have ae:=q_ (hbox);have aZ:=q_ ((by rw [hg];exact bz_:w.heap.size≤ag));have a9:=q_ ((by rw [hg];exact bz_:w.heap.size≤ag));replace HB:=q_ (bs_ hb);clear hb hbox hg;have bP:=cz_ ae 0;have bQ:=cz_ ae 1;have bR:=blk_frozen ae.out 0;have bS:=blk_frozen ae.out 1) | ((with_reducible refine gate_callee (f:=23) rfl ?_);refine gL_ 11 Try.func23 #[.agg #[.slice ax ah.length ay, .slice az ai.length aA], .int .i64 a1] ?_;(with_reducible refine(spec_PivotOf.calls k _ _ ah _ _ ai a1 au av aw aC _ ?aM ?aN ?aQ ?aT A3.out).mono ?_);(case aM=>exact cb_ HR0_0.out HB.out);(case aN=>exact HC0_0.out);(case aQ=>exact cb_ HR0_1.out HB.out);(case aT=>exact HC0_1.out);rintro e w8 ⟨bg,bh,rfl,ho0,ho1,hb⟩;refine⟨_,rfl,?_⟩;have ak:=q_ (Kd.S_lower ho0 bz_);have aq:=q_ (Kd.R_lower ho1 bz_);replace ae:=q_ (bb_ ae.out hb);replace HB:=q_ (bs_ hb);(try clear hb);(try clear hk);(try clear ho0);(try clear ho1)) | ((with_reducible refine gate_dst (N:=6) rfl ?_);refine be_ 6 #[.int .i64 0, .slice none 0 0, .slice none 0 0] 49 ?_;intro aa hg w9 hbox hb;replace ak:=q_ (Kd.S_below (so_ ak.out) hb);replace aq:=q_ (rb_ aq.out hb);have af:=q_ (hbox);have ba:=q_ ((by rw [hg];exact bz_:w.heap.size≤aa));have bf:=q_ ((by rw [hg];exact bz_:w.heap.size≤aa));have aj:=q_ ((by rw [hg];exact lt_ ae.out:ag≠aa));have aD:=q_ ((by rw [hg];exact gt_ ae.out:aa≠ag));replace ae:=q_ (bb_ ae.out hb);replace HB:=q_ (bs_ hb);clear hb hbox hg;have bT:=aD.out;have bU:=aj.out;have bw:=cz_ af 0;have bz:=cz_ af 1;have bA:=cz_ af 2;have bC:=blk_frozen af.out 0;have bD:=blk_frozen af.out 1;have bE:=blk_frozen af.out 2;obtain⟨aI,aG,bk⟩:=Kd.S_slice ak.out;subst bk;obtain⟨aJ,aH,bq⟩:=Kd.R_slice aq.out;subst bq) | ((with_reducible refine gate_callee (f:=63) rfl ?_);refine gL_ 18 Try.func63 #[.agg #[.int .i64 au, .slice aI av.length aG, .slice aJ aw.length aH]] ?_;(with_reducible refine(spec_l04Whole.calls k au _ _ av _ _ aw aU _ ?aM ?aN ?aQ ?aT A5.out).mono ?_);(case aM=>refine(Kd.S_reads' (e:=25) (base:=w.heap.size) (ok:=fun k_=>some k_≠(.slice aJ aw.length aH:Value).ownBlock) (n:=av.length) (c:=aG) ?_).2.2;exact(by(with_reducible repeat (first | apply Kd.S_alloc | apply Kd.S_drewN | apply Kd.S_drew));exact(Kd.S_mono (Kd.S_far (p:=⟨aa,2,none⟩) (Kd.S_far (p:=⟨aa,1,none⟩) (Kd.S_far (p:=⟨aa,0,none⟩) (Kd.S_types ak.out af.out (by decide)) (fun _ hk=>hk.2) (.int .i64 au)) (fun _ hk=>hk.2) (.slice aI av.length aG)) (fun _ hk=>hk.2) (.slice aJ aw.length aH)) (fun _ h_=>h_.1))));(case aN=>exact(Kd.S_reads' ak.out).2.1);(case aQ=>refine(Kd.R_reads' (e:=2) (base:=w.heap.size) (ok:=fun k_=>True) (n:=aw.length) (c:=aH) ?_).2.2;exact(by(with_reducible repeat (first | apply Kd.R_alloc | apply Kd.R_drewN | apply Kd.R_drew));exact(Kd.R_mono (Kd.R_far (p:=⟨aa,2,none⟩) (Kd.R_far (p:=⟨aa,1,none⟩) (Kd.R_far (p:=⟨aa,0,none⟩) (Kd.R_types aq.out af.out (by decide)) (fun _ hk=>hk.2) (.int .i64 au)) (fun _ hk=>hk.2) (.slice aI av.length aG)) (fun _ hk=>hk.2) (.slice aJ aw.length aH)) (fun _ h_=>h_.1))));(case aT=>exact(Kd.R_reads' aq.out).2.1);rintro e w14 ⟨rfl,hb⟩;refine⟨_,rfl,?_⟩;replace ak:=q_ (Kd.S_below (by(with_reducible repeat (first | apply Kd.S_alloc | apply Kd.S_drewN | apply Kd.S_drew));exact(Kd.S_mono (Kd.S_far (p:=⟨aa,2,none⟩) (Kd.S_far (p:=⟨aa,1,none⟩) (Kd.S_far (p:=⟨aa,0,none⟩) (Kd.S_types ak.out af.out (by decide)) (fun _ hk=>hk.2) (.int .i64 au)) (fun _ hk=>hk.2) (.slice aI av.length aG)) (fun _ hk=>hk.2) (.slice aJ aw.length aH)) (fun _ h_=>h_.1))) hb);replace aq:=q_ (Kd.R_below (by(with_reducible repeat (first | apply Kd.R_alloc | apply Kd.R_drewN | apply Kd.R_drew));exact(Kd.R_mono (Kd.R_far (p:=⟨aa,2,none⟩) (Kd.R_far (p:=⟨aa,1,none⟩) (Kd.R_far (p:=⟨aa,0,none⟩) (Kd.R_types aq.out af.out (by decide)) (fun _ hk=>hk.2) (.int .i64 au)) (fun _ hk=>hk.2) (.slice aI av.length aG)) (fun _ hk=>hk.2) (.slice aJ aw.length aH)) (fun _ h_=>h_.1))) hb);replace ae:=q_ (blk_below (g:=ag) (o:= .cells #[.slice ax ah.length ay, .slice az ai.length aA] 27 (0,0)) (by(with_reducible repeat (first | refine blk_drewN ?_ _ | refine blk_drew ?_ | refine blk_alloc ?_ _));refine blk_far ?_ aj.out _;(with_reducible repeat (first | refine blk_drewN ?_ _ | refine blk_drew ?_ | refine blk_alloc ?_ _));refine blk_far ?_ aj.out _;(with_reducible repeat (first | refine blk_drewN ?_ _ | refine blk_drew ?_ | refine blk_alloc ?_ _));refine blk_far ?_ aj.out _;(with_reducible repeat (first | refine blk_drewN ?_ _ | refine blk_drew ?_ | refine blk_alloc ?_ _));exact ae.out) hb);replace HB:=q_ (bs_ hb);replace af:=q_ (blk_below (g:=aa) (o:= .cells #[.int .i64 au, .slice aI av.length aG, .slice aJ aw.length aH] 49 (0,0)) (by(with_reducible repeat (first | refine blk_drewN ?_ _ | refine blk_drew ?_ | refine blk_alloc ?_ _));refine blk_put (cs:= #[.int .i64 au, .slice aI av.length aG, .slice none 0 0]) ?_ 2 _ rfl;(with_reducible repeat (first | refine blk_drewN ?_ _ | refine blk_drew ?_ | refine blk_alloc ?_ _));refine blk_put (cs:= #[.int .i64 au, .slice none 0 0, .slice none 0 0]) ?_ 1 _ rfl;(with_reducible repeat (first | refine blk_drewN ?_ _ | refine blk_drew ?_ | refine blk_alloc ?_ _));refine blk_put (cs:= #[.int .i64 0, .slice none 0 0, .slice none 0 0]) ?_ 0 _ rfl;(with_reducible repeat (first | refine blk_drewN ?_ _ | refine blk_drew ?_ | refine blk_alloc ?_ _));exact af.out) hb);(try clear hb);(try clear hk)))
  go_ret2
  exact⟨by first | rfl | (simp [errW_none,errW_some] <;> rfl) | (simp [*,errW_none,errW_some] <;> rfl),hb_⟩
 ·rw [if_neg c4] at H;have c4b0:=e3_ c4;have c4b1:=e4_ c4;simp only [Option.some.injEq,Prod.mk.injEq] at H;obtain⟨rfl,rfl⟩:=H
  go_enter Try.func29,Try.ntmps29
  go_wp2_with (first | ((with_reducible refine gate_dst (N:=2) rfl ?_);refine be_ 2 #[.slice ax ah.length ay, .slice az ai.length aA] 27 ?_;intro ag hg w15 hbox hb;have ae:=q_ (hbox);have aZ:=q_ ((by rw [hg];exact bz_:w.heap.size≤ag));have a9:=q_ ((by rw [hg];exact bz_:w.heap.size≤ag));replace HB:=q_ (bs_ hb);clear hb hbox hg;have bF:=cz_ ae 0;have bG:=cz_ ae 1;have bH:=blk_frozen ae.out 0;have bI:=blk_frozen ae.out 1) | ((with_reducible refine gate_callee (f:=23) rfl ?_);refine gL_ 11 Try.func23 #[.agg #[.slice ax ah.length ay, .slice az ai.length aA], .int .i64 a1] ?_;(with_reducible refine(spec_PivotOf.calls k _ _ ah _ _ ai a1 au av aw aC _ ?aM ?aN ?aQ ?aT A3.out).mono ?_);(case aM=>exact cb_ HR0_0.out HB.out);(case aN=>exact HC0_0.out);(case aQ=>exact cb_ HR0_1.out HB.out);(case aT=>exact HC0_1.out);rintro e w17 ⟨bg,bh,rfl,ho0,ho1,hb⟩;refine⟨_,rfl,?_⟩;have ak:=q_ (Kd.S_lower ho0 bz_);have aq:=q_ (Kd.R_lower ho1 bz_);replace ae:=q_ (bb_ ae.out hb);replace HB:=q_ (bs_ hb);(try clear hb);(try clear hk);(try clear ho0);(try clear ho1)) | ((with_reducible refine gate_dst (N:=6) rfl ?_);refine be_ 6 #[.int .i64 0, .slice none 0 0, .slice none 0 0] 49 ?_;intro aa hg w18 hbox hb;replace ak:=q_ (Kd.S_below (so_ ak.out) hb);replace aq:=q_ (rb_ aq.out hb);have af:=q_ (hbox);have ba:=q_ ((by rw [hg];exact bz_:w.heap.size≤aa));have bf:=q_ ((by rw [hg];exact bz_:w.heap.size≤aa));have aj:=q_ ((by rw [hg];exact lt_ ae.out:ag≠aa));have aD:=q_ ((by rw [hg];exact gt_ ae.out:aa≠ag));replace ae:=q_ (bb_ ae.out hb);replace HB:=q_ (bs_ hb);clear hb hbox hg;have bV:=aD.out;have bW:=aj.out;have bJ:=cz_ af 0;have bK:=cz_ af 1;have bL:=cz_ af 2;have bM:=blk_frozen af.out 0;have bN:=blk_frozen af.out 1;have bO:=blk_frozen af.out 2;obtain⟨bX,bY,bu⟩:=Kd.S_slice ak.out;subst bu;obtain⟨bZ,cf,bv⟩:=Kd.R_slice aq.out;subst bv))
  go_ret2
  exact⟨by first | rfl | (simp [errW_none,errW_some] <;> rfl) | (simp [*,errW_none,errW_some] <;> rfl),hb_⟩
end Go.Proofs.Ytbjljcpngbhkeaa.Pr
end
section
namespace Go.Proofs.Ytbjljcpngbhkeaa.Pp
open Go.RowKit Go.Proofs.YtbjljcpngbhkeaaW.PrintWords Go.Proofs.YtbjljcpngbhkeaaW.PrintMore Go.Proofs.Ytbjljcpngbhkeaa.Ma Go.Proofs.Ytbjljcpngbhkeaa.Pr Go.Proofs.Ytbjljcpngbhkeaa.Dt Go.Proofs.Ytbjljcpngbhkeaa.Pb
theorem isWhole (M:List (List Int)) (Q:List Int) (s:Int) (hQ:Q.length≤1048576): ∃R:Bool × Int,Ev (fun k=>spec_IsWholePivot.f k M Q s) R∧Ev (fun k=>impl_IsWholePivot.f k M Q s) R:=by
 have ip:=impl_pivotOf_eq M Q s
 have sp:=spec_PivotOf_eq M Q s hQ
 unfold impl_IsWholePivot.f spec_IsWholePivot.f
 by_cases c:(pvO M Q s).2.2.2=0
 ·obtain⟨c1,d⟩:=pvO_zero c
  obtain⟨p,_⟩:=code_zero c1
  rw [pvO_at c1 d] at ip sp
  obtain⟨b,_,sw,iw⟩:=wholes p.mat.n5 s Q d
  exact⟨(b,0),evbind sp (evpos rfl (evbind sw (evc rfl))),evbind ip (evpos rfl (evsome iw (evc rfl)))⟩
 ·exact⟨(false,(pvO M Q s).2.2.2),evbind sp (evneg c (evc rfl)),evbind ip (evneg c (evc rfl))⟩
end Go.Proofs.Ytbjljcpngbhkeaa.Pp
end
section
namespace Go.Proofs.Ytbjljcpngbhkeaa.Pr
open Go.RowKit Go.Proofs.YtbjljcpngbhkeaaW.PrintWords Go.Proofs.YtbjljcpngbhkeaaW.PrintLast Go.Proofs.YtbjljcpngbhkeaaW.PrintMore
attribute [local go_sem] max2_int min2_int max_two min_two max_three min_three max_four min_four
def spec_InverseOf.f (k:Nat) (af:List (List Int)) (aa:List Int):Option ((List (List Int)) × Int × Int):=(spec_l01Is.f k af aa).bind fun ag=>(if ag=true then(if 0≤(IntKind.u64.wrap ((aa.length:Int))) then((spec_l04Pivot.f k af aa (wrap64 ((shl .i64 1 (IntKind.u64.wrap ((aa.length:Int)))) - 1))).bind fun ae=>(if ae.2.2.2=true then(some (ae.2.1,ae.1,0)) else(some (([]:List (List Int)),0,5)))) else(none)) else(some (([]:List (List Int)),0,1)))
theorem spec_InverseOf.mono: ∀a0 a1 k,LeO (spec_InverseOf.f k a0 a1) (spec_InverseOf.f (k+1) a0 a1):=by
 intro a0 a1 k
 unfold spec_InverseOf.f
 repeat' first | (with_reducible first | exact spec_l01Is.mono _ _ _ | exact spec_l04Pivot.mono _ _ _ _ | exact LeO.refl _ | exact LeO.none _ | refine LeO.ite ?_ ?_ | refine LeO.bind ?_ (fun _=>?_)) | exact spec_l01Is.mono _ _ _ | exact spec_l04Pivot.mono _ _ _ _ | exact LeO.none _ | refine LeO.ite ?_ ?_ | refine LeO.bind ?_ (fun _=>?_)
theorem spec_InverseOf.calls (k:Nat) (ax:Option Addr) (ay:Nat) (ai:List (List Int)) (az:Option Addr) (aA:Nat) (ag:List Int) (r1:List (List Int)) (r2:Int) (r3:Int) (w:World) (cf:Kd.C (Kd.slice 2 (Kd.int .i64)) w ax ai.length ai) (cg:ai.length≤ay) (cm:Kd.C (Kd.int .i64) w az ag.length ag) (cu:ag.length≤aA) (h:spec_InverseOf.f k ai ag=some (r1,r2,r3)):
  Calls Try.prog 32 #[.agg #[.slice ax ai.length ay, .slice az ag.length aA]] w fun e w'=> ∃v0_:Value,e= .returned (.tuple #[v0_, .int .i64 r2, .int .i64 r3])∧Kd.S (Kd.slice 2 (Kd.int .i64)) 25 w' w.heap.size (fun _=>True) v0_ r1∧Below w.heap.size w w':=by
 have hu27:=Try.underlying27;have hu49:=Try.underlying49;have HR0_0:=q_ cf;have HC0_0:=q_ cg;clear cf cg;have HR0_1:=q_ cm;have HC0_1:=q_ cu;clear cm cu;have HB:=q_ (Below.refl w.heap.size w);have H:((spec_l01Is.f k ai ag).bind fun bV=>(if bV=true then(if 0≤(IntKind.u64.wrap ((ag.length:Int))) then((spec_l04Pivot.f k ai ag (wrap64 ((shl .i64 1 (IntKind.u64.wrap ((ag.length:Int)))) - 1))).bind fun aG=>(if aG.2.2.2=true then(some (aG.2.1,aG.1,0)) else(some (([]:List (List Int)),0,5)))) else(none)) else(some (([]:List (List Int)),0,1))))=some (r1,r2,r3):=h;clear h;replace H:=Option.bind_eq_some_iff.mp H;obtain⟨bV,A20,H⟩:=H;replace H:(if bV=true then(if 0≤(IntKind.u64.wrap ((ag.length:Int))) then((spec_l04Pivot.f k ai ag (wrap64 ((shl .i64 1 (IntKind.u64.wrap ((ag.length:Int)))) - 1))).bind fun aG=>(if aG.2.2.2=true then(some (aG.2.1,aG.1,0)) else(some (([]:List (List Int)),0,5)))) else(none)) else(some (([]:List (List Int)),0,1)))=some (r1,r2,r3):=H;have A2:=q_ A20;clear A20
 by_cases c3:bV=true
 ·subst c3;have H1:(if 0≤(IntKind.u64.wrap ((ag.length:Int))) then((spec_l04Pivot.f k ai ag (wrap64 ((shl .i64 1 (IntKind.u64.wrap ((ag.length:Int)))) - 1))).bind fun aG=>(if aG.2.2.2=true then(some (aG.2.1,aG.1,0)) else(some (([]:List (List Int)),0,5)))) else(none))=some (r1,r2,r3):=by rw [if_pos rfl] at H;exact H
  clear H;have H:=H1;clear H1;obtain⟨ji4,hji4⟩: ∃j_:Int,(IntKind.u64.wrap ((ag.length:Int)))=j_:=⟨_,rfl⟩
  replace H:(if 0≤(ji4) then((spec_l04Pivot.f k ai ag (wrap64 ((shl .i64 1 (ji4)) - 1))).bind fun aG=>(if aG.2.2.2=true then(some (aG.2.1,aG.1,0)) else(some (([]:List (List Int)),0,5)))) else(none))=some (r1,r2,r3):=by first | (rw [hji4] at H;exact H) | (simp only [hji4] at H ⊢;exact H)
  (try rw [hji4] at A2)
  by_cases c5:0≤(ji4)
  ·rw [if_pos c5] at H;have c5b0:=eq_true c5;have c5b1:=decide_eq_true c5;clear c5;obtain⟨ji6,hji6⟩: ∃j_:Int,(shl .i64 1 (ji4))=j_:=⟨_,rfl⟩
   replace H:((spec_l04Pivot.f k ai ag (wrap64 ((ji6) - 1))).bind fun aG=>(if aG.2.2.2=true then(some (aG.2.1,aG.1,0)) else(some (([]:List (List Int)),0,5))))=some (r1,r2,r3):=by first | (rw [hji6] at H;exact H) | (simp only [hji6] at H ⊢;exact H)
   (try rw [hji6] at A2)
   have hji6_:=s1_ hji6;have hji6z:=s2_ hji6;have hji6u:=s3_ hji6;have hji6v:=s4_ hji6;have hji6y:=s5_ hji6;have hji6x:=s6_ hji6;replace H:=Option.bind_eq_some_iff.mp H;obtain⟨⟨aJ,aK,aM,cD⟩,A70,H⟩:=H;replace H:(if cD=true then(some (aK,aJ,0)) else(some (([]:List (List Int)),0,5)))=some (r1,r2,r3):=H;have A7:=q_ A70;clear A70
   by_cases c8:cD=true
   ·subst c8;have H1:(some (aK,aJ,0))=some (r1,r2,r3):=by rw [if_pos rfl] at H;exact H
    clear H;have H:=H1;clear H1;simp only [Option.some.injEq,Prod.mk.injEq] at H;obtain⟨rfl,rfl,rfl⟩:=H
    go_enter Try.func32,Try.ntmps32
    go_wp2_with (first | ((with_reducible refine gate_dst (N:=1) rfl ?_);refine be_ 1 #[.slice ax ai.length ay, .slice az ag.length aA] 27 ?_;intro ae hg w9 hbox hb;have aa:=q_ (hbox);have aH:=q_ ((by rw [hg];exact bz_:w.heap.size≤ae));have aI:=q_ ((by rw [hg];exact bz_:w.heap.size≤ae));replace HB:=q_ (bs_ hb);clear hb hbox hg;have aZ:=cz_ aa 0;have a9:=cz_ aa 1;have ba:=blk_frozen aa.out 0;have bf:=blk_frozen aa.out 1) | (go_at_call 55;(with_reducible refine(spec_l01Is.calls k _ _ ai _ _ ag true _ ?aj ?ak ?aq ?au A2.out).mono ?_);(case aj=>exact cb_ HR0_0.out HB.out);(case ak=>exact HC0_0.out);(case aq=>exact cb_ HR0_1.out HB.out);(case au=>exact HC0_1.out);rintro e w11 ⟨rfl,hb⟩;replace aa:=q_ (bb_ aa.out hb);replace HB:=q_ (bs_ hb);(try clear hb);(try clear hk);have bg:=cz_ aa 0;have bh:=cz_ aa 1;have bk:=blk_frozen aa.out 0;have bq:=blk_frozen aa.out 1) | (go_at_call 49;(with_reducible refine(spec_l04Pivot.calls k _ _ ai _ _ ag (wrap64 ((ji6) - 1)) aJ aK aM true _ ?aj ?ak ?aq ?au A7.out).mono ?_);(case aj=>exact cb_ HR0_0.out HB.out);(case ak=>exact HC0_0.out);(case aq=>exact cb_ HR0_1.out HB.out);(case au=>exact HC0_1.out);rintro e w13 ⟨aT,aU,rfl,ho0,ho1,hb⟩;have av:=q_ (Kd.S_lower ho0 bz_);have aw:=q_ (Kd.R_lower ho1 bz_);replace aa:=q_ (bb_ aa.out hb);replace HB:=q_ (bs_ hb);(try clear hb);(try clear hk);(try clear ho0);(try clear ho1)) | ((with_reducible refine gate_dst (N:=5) rfl ?_);refine be_ 5 #[.int .i64 0, .slice none 0 0, .slice none 0 0] 49 ?_;intro af hg w14 hbox hb;replace av:=q_ (Kd.S_below (so_ av.out) hb);replace aw:=q_ (rb_ aw.out hb);have ah:=q_ (hbox);have aN:=q_ ((by rw [hg];exact bz_:w.heap.size≤af));have aQ:=q_ ((by rw [hg];exact bz_:w.heap.size≤af));have aC:=q_ ((by rw [hg];exact lt_ aa.out:ae≠af));have aD:=q_ ((by rw [hg];exact gt_ aa.out:af≠ae));replace aa:=q_ (bb_ aa.out hb);replace HB:=q_ (bs_ hb);clear hb hbox hg;have cz:=aD.out;have cA:=aC.out;have bu:=cz_ ah 0;have bv:=cz_ ah 1;have bw:=cz_ ah 2;have bz:=blk_frozen ah.out 0;have bA:=blk_frozen ah.out 1;have bC:=blk_frozen ah.out 2;obtain⟨bW,bX,aV⟩:=Kd.S_slice av.out;subst aV;obtain⟨bY,bZ,aW⟩:=Kd.R_slice aw.out;subst aW))
    repeat (go_quiet (first | ((with_reducible refine gate_dst (N:=1) rfl ?_);refine be_ 1 #[.slice ax ai.length ay, .slice az ag.length aA] 27 ?_;intro ae hg w9 hbox hb;have aa:=q_ (hbox);have aH:=q_ ((by rw [hg];exact bz_:w.heap.size≤ae));have aI:=q_ ((by rw [hg];exact bz_:w.heap.size≤ae));replace HB:=q_ (bs_ hb);clear hb hbox hg;have aZ:=cz_ aa 0;have a9:=cz_ aa 1;have ba:=blk_frozen aa.out 0;have bf:=blk_frozen aa.out 1) | (go_at_call 55;(with_reducible refine(spec_l01Is.calls k _ _ ai _ _ ag true _ ?aj ?ak ?aq ?au A2.out).mono ?_);(case aj=>exact cb_ HR0_0.out HB.out);(case ak=>exact HC0_0.out);(case aq=>exact cb_ HR0_1.out HB.out);(case au=>exact HC0_1.out);rintro e w11 ⟨rfl,hb⟩;replace aa:=q_ (bb_ aa.out hb);replace HB:=q_ (bs_ hb);(try clear hb);(try clear hk);have bg:=cz_ aa 0;have bh:=cz_ aa 1;have bk:=blk_frozen aa.out 0;have bq:=blk_frozen aa.out 1) | (go_at_call 49;(with_reducible refine(spec_l04Pivot.calls k _ _ ai _ _ ag (wrap64 ((ji6) - 1)) aJ aK aM true _ ?aj ?ak ?aq ?au A7.out).mono ?_);(case aj=>exact cb_ HR0_0.out HB.out);(case ak=>exact HC0_0.out);(case aq=>exact cb_ HR0_1.out HB.out);(case au=>exact HC0_1.out);rintro e w13 ⟨aT,aU,rfl,ho0,ho1,hb⟩;have av:=q_ (Kd.S_lower ho0 bz_);have aw:=q_ (Kd.R_lower ho1 bz_);replace aa:=q_ (bb_ aa.out hb);replace HB:=q_ (bs_ hb);(try clear hb);(try clear hk);(try clear ho0);(try clear ho1)) | ((with_reducible refine gate_dst (N:=5) rfl ?_);refine be_ 5 #[.int .i64 0, .slice none 0 0, .slice none 0 0] 49 ?_;intro af hg w14 hbox hb;replace av:=q_ (Kd.S_below (so_ av.out) hb);replace aw:=q_ (rb_ aw.out hb);have ah:=q_ (hbox);have aN:=q_ ((by rw [hg];exact bz_:w.heap.size≤af));have aQ:=q_ ((by rw [hg];exact bz_:w.heap.size≤af));have aC:=q_ ((by rw [hg];exact lt_ aa.out:ae≠af));have aD:=q_ ((by rw [hg];exact gt_ aa.out:af≠ae));replace aa:=q_ (bb_ aa.out hb);replace HB:=q_ (bs_ hb);clear hb hbox hg;have cz:=aD.out;have cA:=aC.out;have bu:=cz_ ah 0;have bv:=cz_ ah 1;have bw:=cz_ ah 2;have bz:=blk_frozen ah.out 0;have bA:=blk_frozen ah.out 1;have bC:=blk_frozen ah.out 2;obtain⟨bW,bX,aV⟩:=Kd.S_slice av.out;subst aV;obtain⟨bY,bZ,aW⟩:=Kd.R_slice aw.out;subst aW));try go_wp2_with (first | ((with_reducible refine gate_dst (N:=1) rfl ?_);refine be_ 1 #[.slice ax ai.length ay, .slice az ag.length aA] 27 ?_;intro ae hg w9 hbox hb;have aa:=q_ (hbox);have aH:=q_ ((by rw [hg];exact bz_:w.heap.size≤ae));have aI:=q_ ((by rw [hg];exact bz_:w.heap.size≤ae));replace HB:=q_ (bs_ hb);clear hb hbox hg;have aZ:=cz_ aa 0;have a9:=cz_ aa 1;have ba:=blk_frozen aa.out 0;have bf:=blk_frozen aa.out 1) | (go_at_call 55;(with_reducible refine(spec_l01Is.calls k _ _ ai _ _ ag true _ ?aj ?ak ?aq ?au A2.out).mono ?_);(case aj=>exact cb_ HR0_0.out HB.out);(case ak=>exact HC0_0.out);(case aq=>exact cb_ HR0_1.out HB.out);(case au=>exact HC0_1.out);rintro e w11 ⟨rfl,hb⟩;replace aa:=q_ (bb_ aa.out hb);replace HB:=q_ (bs_ hb);(try clear hb);(try clear hk);have bg:=cz_ aa 0;have bh:=cz_ aa 1;have bk:=blk_frozen aa.out 0;have bq:=blk_frozen aa.out 1) | (go_at_call 49;(with_reducible refine(spec_l04Pivot.calls k _ _ ai _ _ ag (wrap64 ((ji6) - 1)) aJ aK aM true _ ?aj ?ak ?aq ?au A7.out).mono ?_);(case aj=>exact cb_ HR0_0.out HB.out);(case ak=>exact HC0_0.out);(case aq=>exact cb_ HR0_1.out HB.out);(case au=>exact HC0_1.out);rintro e w13 ⟨aT,aU,rfl,ho0,ho1,hb⟩;have av:=q_ (Kd.S_lower ho0 bz_);have aw:=q_ (Kd.R_lower ho1 bz_);replace aa:=q_ (bb_ aa.out hb);replace HB:=q_ (bs_ hb);(try clear hb);(try clear hk);(try clear ho0);(try clear ho1)) | ((with_reducible refine gate_dst (N:=5) rfl ?_);refine be_ 5 #[.int .i64 0, .slice none 0 0, .slice none 0 0] 49 ?_;intro af hg w14 hbox hb;replace av:=q_ (Kd.S_below (so_ av.out) hb);replace aw:=q_ (rb_ aw.out hb);have ah:=q_ (hbox);have aN:=q_ ((by rw [hg];exact bz_:w.heap.size≤af));have aQ:=q_ ((by rw [hg];exact bz_:w.heap.size≤af));have aC:=q_ ((by rw [hg];exact lt_ aa.out:ae≠af));have aD:=q_ ((by rw [hg];exact gt_ aa.out:af≠ae));replace aa:=q_ (bb_ aa.out hb);replace HB:=q_ (bs_ hb);clear hb hbox hg;have cz:=aD.out;have cA:=aC.out;have bu:=cz_ ah 0;have bv:=cz_ ah 1;have bw:=cz_ ah 2;have bz:=blk_frozen ah.out 0;have bA:=blk_frozen ah.out 1;have bC:=blk_frozen ah.out 2;obtain⟨bW,bX,aV⟩:=Kd.S_slice av.out;subst aV;obtain⟨bY,bZ,aW⟩:=Kd.R_slice aw.out;subst aW)))
    go_ret3
    exact⟨_,by first | rfl | (simp [errW_none,errW_some] <;> rfl) | (simp only [← hji4, ← hji6];first | rfl | (simp [errW_none,errW_some] <;> rfl)) | (simp [*,errW_none,errW_some] <;> rfl),by(with_reducible repeat (first | apply Kd.S_alloc | apply Kd.S_drewN | apply Kd.S_drew));exact Kd.S_mono (Kd.S_far (p:=⟨af,2,none⟩) (Kd.S_far (p:=⟨af,1,none⟩) (Kd.S_far (p:=⟨af,0,none⟩) (Kd.S_types av.out ah.out (by decide)) (fun _ hk=>hk.2) (.int .i64 aJ)) (fun _ hk=>hk.2) (.slice bW aK.length bX)) (fun _ hk=>hk.2) (.slice bY aM.length bZ)) (fun _ hk=>trivial),hb_⟩
   ·replace c8:=Bool.eq_false_iff.mpr c8;subst c8;have H1:(some (([]:List (List Int)),0,5))=some (r1,r2,r3):=by rw [if_neg (show ¬ (false=true) by decide)] at H;exact H
    clear H;have H:=H1;clear H1;simp only [Option.some.injEq,Prod.mk.injEq] at H;obtain⟨rfl,rfl,rfl⟩:=H
    go_enter Try.func32,Try.ntmps32
    go_wp2_with (first | ((with_reducible refine gate_dst (N:=1) rfl ?_);refine be_ 1 #[.slice ax ai.length ay, .slice az ag.length aA] 27 ?_;intro ae hg w19 hbox hb;have aa:=q_ (hbox);have aH:=q_ ((by rw [hg];exact bz_:w.heap.size≤ae));have aI:=q_ ((by rw [hg];exact bz_:w.heap.size≤ae));replace HB:=q_ (bs_ hb);clear hb hbox hg;have bD:=cz_ aa 0;have bE:=cz_ aa 1;have bF:=blk_frozen aa.out 0;have bG:=blk_frozen aa.out 1) | (go_at_call 55;(with_reducible refine(spec_l01Is.calls k _ _ ai _ _ ag true _ ?aj ?ak ?aq ?au A2.out).mono ?_);(case aj=>exact cb_ HR0_0.out HB.out);(case ak=>exact HC0_0.out);(case aq=>exact cb_ HR0_1.out HB.out);(case au=>exact HC0_1.out);rintro e w21 ⟨rfl,hb⟩;replace aa:=q_ (bb_ aa.out hb);replace HB:=q_ (bs_ hb);(try clear hb);(try clear hk);have bH:=cz_ aa 0;have bI:=cz_ aa 1;have bJ:=blk_frozen aa.out 0;have bK:=blk_frozen aa.out 1) | (go_at_call 49;(with_reducible refine(spec_l04Pivot.calls k _ _ ai _ _ ag (wrap64 ((ji6) - 1)) aJ aK aM false _ ?aj ?ak ?aq ?au A7.out).mono ?_);(case aj=>exact cb_ HR0_0.out HB.out);(case ak=>exact HC0_0.out);(case aq=>exact cb_ HR0_1.out HB.out);(case au=>exact HC0_1.out);rintro e w23 ⟨aT,aU,rfl,ho0,ho1,hb⟩;have av:=q_ (Kd.S_lower ho0 bz_);have aw:=q_ (Kd.R_lower ho1 bz_);replace aa:=q_ (bb_ aa.out hb);replace HB:=q_ (bs_ hb);(try clear hb);(try clear hk);(try clear ho0);(try clear ho1)) | ((with_reducible refine gate_dst (N:=5) rfl ?_);refine be_ 5 #[.int .i64 0, .slice none 0 0, .slice none 0 0] 49 ?_;intro af hg w24 hbox hb;replace av:=q_ (Kd.S_below (so_ av.out) hb);replace aw:=q_ (rb_ aw.out hb);have ah:=q_ (hbox);have aN:=q_ ((by rw [hg];exact bz_:w.heap.size≤af));have aQ:=q_ ((by rw [hg];exact bz_:w.heap.size≤af));have aC:=q_ ((by rw [hg];exact lt_ aa.out:ae≠af));have aD:=q_ ((by rw [hg];exact gt_ aa.out:af≠ae));replace aa:=q_ (bb_ aa.out hb);replace HB:=q_ (bs_ hb);clear hb hbox hg;have cB:=aD.out;have cC:=aC.out;have bL:=cz_ ah 0;have bM:=cz_ ah 1;have bN:=cz_ ah 2;have bO:=blk_frozen ah.out 0;have bP:=blk_frozen ah.out 1;have bQ:=blk_frozen ah.out 2;obtain⟨cE,cF,aX⟩:=Kd.S_slice av.out;subst aX;obtain⟨cG,cH,aY⟩:=Kd.R_slice aw.out;subst aY))
    repeat (go_quiet (first | ((with_reducible refine gate_dst (N:=1) rfl ?_);refine be_ 1 #[.slice ax ai.length ay, .slice az ag.length aA] 27 ?_;intro ae hg w19 hbox hb;have aa:=q_ (hbox);have aH:=q_ ((by rw [hg];exact bz_:w.heap.size≤ae));have aI:=q_ ((by rw [hg];exact bz_:w.heap.size≤ae));replace HB:=q_ (bs_ hb);clear hb hbox hg;have bD:=cz_ aa 0;have bE:=cz_ aa 1;have bF:=blk_frozen aa.out 0;have bG:=blk_frozen aa.out 1) | (go_at_call 55;(with_reducible refine(spec_l01Is.calls k _ _ ai _ _ ag true _ ?aj ?ak ?aq ?au A2.out).mono ?_);(case aj=>exact cb_ HR0_0.out HB.out);(case ak=>exact HC0_0.out);(case aq=>exact cb_ HR0_1.out HB.out);(case au=>exact HC0_1.out);rintro e w21 ⟨rfl,hb⟩;replace aa:=q_ (bb_ aa.out hb);replace HB:=q_ (bs_ hb);(try clear hb);(try clear hk);have bH:=cz_ aa 0;have bI:=cz_ aa 1;have bJ:=blk_frozen aa.out 0;have bK:=blk_frozen aa.out 1) | (go_at_call 49;(with_reducible refine(spec_l04Pivot.calls k _ _ ai _ _ ag (wrap64 ((ji6) - 1)) aJ aK aM false _ ?aj ?ak ?aq ?au A7.out).mono ?_);(case aj=>exact cb_ HR0_0.out HB.out);(case ak=>exact HC0_0.out);(case aq=>exact cb_ HR0_1.out HB.out);(case au=>exact HC0_1.out);rintro e w23 ⟨aT,aU,rfl,ho0,ho1,hb⟩;have av:=q_ (Kd.S_lower ho0 bz_);have aw:=q_ (Kd.R_lower ho1 bz_);replace aa:=q_ (bb_ aa.out hb);replace HB:=q_ (bs_ hb);(try clear hb);(try clear hk);(try clear ho0);(try clear ho1)) | ((with_reducible refine gate_dst (N:=5) rfl ?_);refine be_ 5 #[.int .i64 0, .slice none 0 0, .slice none 0 0] 49 ?_;intro af hg w24 hbox hb;replace av:=q_ (Kd.S_below (so_ av.out) hb);replace aw:=q_ (rb_ aw.out hb);have ah:=q_ (hbox);have aN:=q_ ((by rw [hg];exact bz_:w.heap.size≤af));have aQ:=q_ ((by rw [hg];exact bz_:w.heap.size≤af));have aC:=q_ ((by rw [hg];exact lt_ aa.out:ae≠af));have aD:=q_ ((by rw [hg];exact gt_ aa.out:af≠ae));replace aa:=q_ (bb_ aa.out hb);replace HB:=q_ (bs_ hb);clear hb hbox hg;have cB:=aD.out;have cC:=aC.out;have bL:=cz_ ah 0;have bM:=cz_ ah 1;have bN:=cz_ ah 2;have bO:=blk_frozen ah.out 0;have bP:=blk_frozen ah.out 1;have bQ:=blk_frozen ah.out 2;obtain⟨cE,cF,aX⟩:=Kd.S_slice av.out;subst aX;obtain⟨cG,cH,aY⟩:=Kd.R_slice aw.out;subst aY));try go_wp2_with (first | ((with_reducible refine gate_dst (N:=1) rfl ?_);refine be_ 1 #[.slice ax ai.length ay, .slice az ag.length aA] 27 ?_;intro ae hg w19 hbox hb;have aa:=q_ (hbox);have aH:=q_ ((by rw [hg];exact bz_:w.heap.size≤ae));have aI:=q_ ((by rw [hg];exact bz_:w.heap.size≤ae));replace HB:=q_ (bs_ hb);clear hb hbox hg;have bD:=cz_ aa 0;have bE:=cz_ aa 1;have bF:=blk_frozen aa.out 0;have bG:=blk_frozen aa.out 1) | (go_at_call 55;(with_reducible refine(spec_l01Is.calls k _ _ ai _ _ ag true _ ?aj ?ak ?aq ?au A2.out).mono ?_);(case aj=>exact cb_ HR0_0.out HB.out);(case ak=>exact HC0_0.out);(case aq=>exact cb_ HR0_1.out HB.out);(case au=>exact HC0_1.out);rintro e w21 ⟨rfl,hb⟩;replace aa:=q_ (bb_ aa.out hb);replace HB:=q_ (bs_ hb);(try clear hb);(try clear hk);have bH:=cz_ aa 0;have bI:=cz_ aa 1;have bJ:=blk_frozen aa.out 0;have bK:=blk_frozen aa.out 1) | (go_at_call 49;(with_reducible refine(spec_l04Pivot.calls k _ _ ai _ _ ag (wrap64 ((ji6) - 1)) aJ aK aM false _ ?aj ?ak ?aq ?au A7.out).mono ?_);(case aj=>exact cb_ HR0_0.out HB.out);(case ak=>exact HC0_0.out);(case aq=>exact cb_ HR0_1.out HB.out);(case au=>exact HC0_1.out);rintro e w23 ⟨aT,aU,rfl,ho0,ho1,hb⟩;have av:=q_ (Kd.S_lower ho0 bz_);have aw:=q_ (Kd.R_lower ho1 bz_);replace aa:=q_ (bb_ aa.out hb);replace HB:=q_ (bs_ hb);(try clear hb);(try clear hk);(try clear ho0);(try clear ho1)) | ((with_reducible refine gate_dst (N:=5) rfl ?_);refine be_ 5 #[.int .i64 0, .slice none 0 0, .slice none 0 0] 49 ?_;intro af hg w24 hbox hb;replace av:=q_ (Kd.S_below (so_ av.out) hb);replace aw:=q_ (rb_ aw.out hb);have ah:=q_ (hbox);have aN:=q_ ((by rw [hg];exact bz_:w.heap.size≤af));have aQ:=q_ ((by rw [hg];exact bz_:w.heap.size≤af));have aC:=q_ ((by rw [hg];exact lt_ aa.out:ae≠af));have aD:=q_ ((by rw [hg];exact gt_ aa.out:af≠ae));replace aa:=q_ (bb_ aa.out hb);replace HB:=q_ (bs_ hb);clear hb hbox hg;have cB:=aD.out;have cC:=aC.out;have bL:=cz_ ah 0;have bM:=cz_ ah 1;have bN:=cz_ ah 2;have bO:=blk_frozen ah.out 0;have bP:=blk_frozen ah.out 1;have bQ:=blk_frozen ah.out 2;obtain⟨cE,cF,aX⟩:=Kd.S_slice av.out;subst aX;obtain⟨cG,cH,aY⟩:=Kd.R_slice aw.out;subst aY)))
    go_ret3
    exact⟨_,by first | rfl | (simp [errW_none,errW_some] <;> rfl) | (simp only [← hji4, ← hji6];first | rfl | (simp [errW_none,errW_some] <;> rfl)) | (simp [*,errW_none,errW_some] <;> rfl),by first | exact Kd.S_nil _ _ _ _ _ | exact Kd.N_nil _ _ _ _ _ | exact Kd.V_nil _ _ _ _ _ | exact Kd.Q_nil _ _ _ _ _ | exact Kd.R_nil _ _ _ _ _,hb_⟩
  ·rw [if_neg c5] at H;exact absurd H (by simp)
 ·replace c3:=Bool.eq_false_iff.mpr c3;subst c3;have H1:(some (([]:List (List Int)),0,1))=some (r1,r2,r3):=by rw [if_neg (show ¬ (false=true) by decide)] at H;exact H
  clear H;have H:=H1;clear H1;simp only [Option.some.injEq,Prod.mk.injEq] at H;obtain⟨rfl,rfl,rfl⟩:=H
  go_enter Try.func32,Try.ntmps32
  go_wp2_with (first | ((with_reducible refine gate_dst (N:=1) rfl ?_);refine be_ 1 #[.slice ax ai.length ay, .slice az ag.length aA] 27 ?_;intro ae hg w29 hbox hb;have aa:=q_ (hbox);have aH:=q_ ((by rw [hg];exact bz_:w.heap.size≤ae));have aI:=q_ ((by rw [hg];exact bz_:w.heap.size≤ae));replace HB:=q_ (bs_ hb);clear hb hbox hg;have bR:=cz_ aa 0;have bS:=cz_ aa 1;have bT:=blk_frozen aa.out 0;have bU:=blk_frozen aa.out 1) | (go_at_call 55;(with_reducible refine(spec_l01Is.calls k _ _ ai _ _ ag false _ ?aj ?ak ?aq ?au A2.out).mono ?_);(case aj=>exact cb_ HR0_0.out HB.out);(case ak=>exact HC0_0.out);(case aq=>exact cb_ HR0_1.out HB.out);(case au=>exact HC0_1.out);rintro e w31 ⟨rfl,hb⟩;replace aa:=q_ (bb_ aa.out hb);replace HB:=q_ (bs_ hb);(try clear hb);(try clear hk)))
  repeat (go_quiet (first | ((with_reducible refine gate_dst (N:=1) rfl ?_);refine be_ 1 #[.slice ax ai.length ay, .slice az ag.length aA] 27 ?_;intro ae hg w29 hbox hb;have aa:=q_ (hbox);have aH:=q_ ((by rw [hg];exact bz_:w.heap.size≤ae));have aI:=q_ ((by rw [hg];exact bz_:w.heap.size≤ae));replace HB:=q_ (bs_ hb);clear hb hbox hg;have bR:=cz_ aa 0;have bS:=cz_ aa 1;have bT:=blk_frozen aa.out 0;have bU:=blk_frozen aa.out 1) | (go_at_call 55;(with_reducible refine(spec_l01Is.calls k _ _ ai _ _ ag false _ ?aj ?ak ?aq ?au A2.out).mono ?_);(case aj=>exact cb_ HR0_0.out HB.out);(case ak=>exact HC0_0.out);(case aq=>exact cb_ HR0_1.out HB.out);(case au=>exact HC0_1.out);rintro e w31 ⟨rfl,hb⟩;replace aa:=q_ (bb_ aa.out hb);replace HB:=q_ (bs_ hb);(try clear hb);(try clear hk)));try go_wp2_with (first | ((with_reducible refine gate_dst (N:=1) rfl ?_);refine be_ 1 #[.slice ax ai.length ay, .slice az ag.length aA] 27 ?_;intro ae hg w29 hbox hb;have aa:=q_ (hbox);have aH:=q_ ((by rw [hg];exact bz_:w.heap.size≤ae));have aI:=q_ ((by rw [hg];exact bz_:w.heap.size≤ae));replace HB:=q_ (bs_ hb);clear hb hbox hg;have bR:=cz_ aa 0;have bS:=cz_ aa 1;have bT:=blk_frozen aa.out 0;have bU:=blk_frozen aa.out 1) | (go_at_call 55;(with_reducible refine(spec_l01Is.calls k _ _ ai _ _ ag false _ ?aj ?ak ?aq ?au A2.out).mono ?_);(case aj=>exact cb_ HR0_0.out HB.out);(case ak=>exact HC0_0.out);(case aq=>exact cb_ HR0_1.out HB.out);(case au=>exact HC0_1.out);rintro e w31 ⟨rfl,hb⟩;replace aa:=q_ (bb_ aa.out hb);replace HB:=q_ (bs_ hb);(try clear hb);(try clear hk))))
  go_ret3
  exact⟨_,by first | rfl | (simp [errW_none,errW_some] <;> rfl) | (simp [*,errW_none,errW_some] <;> rfl),by first | exact Kd.S_nil _ _ _ _ _ | exact Kd.N_nil _ _ _ _ _ | exact Kd.V_nil _ _ _ _ _ | exact Kd.Q_nil _ _ _ _ _ | exact Kd.R_nil _ _ _ _ _,hb_⟩
def impl_signs.l0:Nat→List Int→List Int→Int→Int→Option (List Int)
 | 0,_,_,_,_=>none
 | k+1,x3,x9,x10,x11=>if x11 < x10 then(if 0≤x11 then(if x11 < (x9.length:Int) then((impl_sign.f (rd x9 x11)).bind fun aa=>(if x11 < (x3.length:Int) then(impl_signs.l0 k (x3.set (x11:Int).toNat aa) x9 x10 (wrap64 (x11+1))) else(none))) else(none)) else(none)) else(some x3)
def impl_signs.f (k:Nat) (l0:List Int):Option (List Int):=if 0≤(l0.length:Int) then(if((l0.length:Int):Int).toNat≤35184372088832 then(impl_signs.l0 k (List.replicate ((l0.length:Int):Int).toNat 0) l0 (l0.length:Int) 0) else(none)) else(none)
theorem impl_signs.mono_l: ∀k,(∀y0 y1 y2 y3,LeO (impl_signs.l0 k y0 y1 y2 y3) (impl_signs.l0 (k+1) y0 y1 y2 y3))
 | 0=>fun _ _ _ _ r h=>by simp [impl_signs.l0] at h
 | k+1=>by
  have ih0:=impl_signs.mono_l k
  intros;unfold impl_signs.l0;repeat' first | (with_reducible first | exact ih0 _ _ _ _ | exact LeO.refl _ | exact LeO.none _ | refine LeO.ite ?_ ?_ | refine LeO.bind ?_ (fun _=>?_)) | exact ih0 _ _ _ _ | exact LeO.none _ | refine LeO.ite ?_ ?_ | refine LeO.bind ?_ (fun _=>?_)
theorem impl_signs.mono: ∀a0 k,LeO (impl_signs.f k a0) (impl_signs.f (k+1) a0):=by
 intro a0 k
 have ih0:=impl_signs.mono_l k
 unfold impl_signs.f
 repeat' first | (with_reducible first | exact ih0 _ _ _ _ | exact LeO.refl _ | exact LeO.none _ | refine LeO.ite ?_ ?_ | refine LeO.bind ?_ (fun _=>?_)) | exact ih0 _ _ _ _ | exact LeO.none _ | refine LeO.ite ?_ ?_ | refine LeO.bind ?_ (fun _=>?_)
theorem impl_signs.calls (k:Nat) (A0:Option Addr) (c0:Nat) (l0:List Int) (r:List Int) (w:World) (hr0:Kd.C (Kd.int .i64) w A0 l0.length l0) (hc0:l0.length≤c0) (h:impl_signs.f k l0=some r):
  Calls Try.prog 64 #[.slice A0 l0.length c0] w fun e w'=> ∃v0_:Value,e= .returned (v0_)∧Kd.R (Kd.int .i64) 2 w' w.heap.size (fun _=>True) v0_ r∧Below w.heap.size w w':=by
 have HR0:=q_ hr0;have HC0:=q_ hc0;clear hr0 hc0;have HB:=q_ (Below.refl w.heap.size w);have H:(if 0≤(l0.length:Int) then(if((l0.length:Int):Int).toNat≤35184372088832 then(impl_signs.l0 k (List.replicate ((l0.length:Int):Int).toNat 0) l0 (l0.length:Int) 0) else(none)) else(none))=some r:=h;clear h
 by_cases c2:0≤(l0.length:Int)
 ·rw [if_pos c2] at H;have c2b0:=eq_true c2;have c2b1:=decide_eq_true c2;clear c2
  by_cases c3:((l0.length:Int):Int).toNat≤35184372088832
  ·rw [if_pos c3] at H;have c3b0:=eq_true c3;have c3b1:=decide_eq_true c3;clear c3;obtain⟨aj,hy⟩: ∃y_:List Int,y_=(List.replicate ((l0.length:Int):Int).toNat 0):=⟨_,rfl⟩
   replace H:(impl_signs.l0 k aj l0 (l0.length:Int) 0)=some r:=hh_;have ai:=q_ hy;clear hy;have H':=q_ H;clear H
   go_enter Try.func64,Try.ntmps64
   go_wp2_with (first | ((with_reducible refine gate_dst (N:=8) rfl ?_);refine Kd.R_make (Kd.int .i64) _ 2 rfl (N:=8) rfl 25 _ _ rfl (l0.length:Int) rfl rfl Try.underlying25 (.int .i64 0) 8 info2 rfl (by decide) (by omega) 0 (ok:=fun _=>True) (okp:=fun _=>True) rfl (fun _ hk=>hk) trivial od_ (Nat.le_trans (Nat.mul_le_mul_right _ (od_:(l0.length:Int).toNat≤35184372088832)) (by omega)) (Below.refl _ _) (Nat.le_refl _) ?_;intro ak w4 ho5 hb hg_ hnew_;clear hg_ hnew_;(first | rw [← ai.out] at ho5 | (simp only [Int.reduceToNat] at ho5;rw [← ai.out] at ho5));have av:=q_ (Kd.R_lower ho5 bz_);replace HB:=q_ (bs_ hb);clear hb ho5))
   go_loopg [11] k (fun kq v11 w'=> ∃(ae:List Int) (aa:Int),v11= .int .i64 aa∧Aside0 (impl_signs.l0 kq ae l0 (l0.length:Int) aa=some r)∧Aside0 (kq≤k)∧Aside0 (Kd.R (Kd.int .i64) 2 w' w.heap.size (fun _=>True) ak ae)∧Aside0 (Below w.heap.size w w'))
   case atStart=>exact⟨(aj),(0),rs_,H',⟨Nat.le_refl _⟩,⟨ro_ av.out⟩,⟨hb_⟩⟩
   case round=>
    clear H';(try clear c2);(try clear c2b0);(try clear c2b1);(try clear c3);(try clear c3b0);(try clear c3b1);obtain⟨ae,aa,rfl,HA,HK1,af,HB⟩:=hrel;cases gk with
    | zero=>exact absurd HA.out (by simp [impl_signs.l0])
    | succ k1=>
     have H:=HA.out;clear HA;simp only [impl_signs.l0] at H
     by_cases c6:aa < (l0.length:Int)
     ·rw [if_pos c6] at H;have c6b0:=decide_eq_true c6;clear c6
      by_cases c7:0≤aa
      ·rw [if_pos c7] at H;have c7b0:=decide_eq_true c7;clear c7
       by_cases c8:aa < (l0.length:Int)
       ·rw [if_pos c8] at H;have c8b0:=decide_eq_true c8;clear c8;replace H:=Option.bind_eq_some_iff.mp H;obtain⟨ag,A90,H⟩:=H;replace H:(if aa < (ae.length:Int) then(impl_signs.l0 k1 (ae.set (aa:Int).toNat ag) l0 (l0.length:Int) (wrap64 (aa+1))) else(none))=some r:=H;have A9:=q_ A90;clear A90
        by_cases c10:aa < (ae.length:Int)
        ·rw [if_pos c10] at H;have c10b0:=decide_eq_true c10;clear c10;obtain⟨ah,hy⟩: ∃y_:List Int,y_=(ae.set (aa:Int).toNat ag):=⟨_,rfl⟩
         replace H:(impl_signs.l0 k1 ah l0 (l0.length:Int) (wrap64 (aa+1)))=some r:=hh_;have aw:=q_ hy;clear hy;have H':=q_ H;clear H;have p627:0≤(aa:Int):=od_;have q627:aa < (l0.length:Int):=od_;obtain⟨ay,e627,hx627_0⟩:=Kd.at_int HR0.out aa p627 q627;cases e627
         replace hx627_0:=(HB.out.cell (World.block_lt_of_cell? w _ hx627_0)).trans hx627_0;replace p627:=eq_true p627;replace q627:=eq_true q627
         go_wp2_with (first | ((with_reducible refine gate_callee (f:=65) rfl ?_);refine gL_ 19 Try.func65 #[.int .i64 (rd l0 aa)] ?_;(with_reducible refine(impl_sign.calls (rd l0 aa) ag _ A9.out).mono ?_);rintro e w' ⟨rfl,⟨nd,rfl⟩⟩;refine⟨_,rfl,?_⟩;(try (rw [drewN_self wr];generalize hq_:World.drewN wr _=wr;have n0_:Aside0 (Kd.R (Kd.int .i64) 2 wr w.heap.size (fun _=>True) ak ae):=⟨by rw [← hq_];exact(ro_ af.out)⟩;have n1_:Aside0 (Below w.heap.size w wr):=⟨by rw [← hq_];exact hb_⟩;clear af HB hq_;have af:=n0_;have HB:=n1_;clear n0_ n1_));have p11:0≤(aa:Int):=od_;have q11:(aa:Int) < ((ae.length:Int):Int):=od_;obtain⟨go11,ax,aq,au,gl11,cl11,HG11⟩:=Kd.R_form af.out (by omega);(first | cases aq | (injection aq with ea_ en_ ec_;(first | subst ea_ | (injection ea_ with ea_;subst ea_));subst ec_;clear en_));have GB11:=q_ au;have GG11:=q_ HG11;clear au gl11 HG11;obtain⟨hx11_0,hf11_0⟩:=Kd.R_celln 0 af.out (aa:Int) p11 q11;replace p11:=eq_true p11;replace q11:=eq_true q11;obtain⟨hy12_,hz12_⟩:=Kd.R_celln 0 af.out (aa:Int) od_ od_;have HP12:=Kd.R_putg af.out (aa:Int) ag) | ((with_reducible refine gate_store (t:=2) (p:=20) rfl ?_);refine store_event (t:=2) (p:=20) (v:=?vo_w13) (w1:=(wr.setCell ⟨go11,(aa:Int).toNat,none⟩ (.int .i64 ag))) ?hg ?ho ?hn ?hr ?_;(case ho=>rfl);(case hg=>rfl);(case hn=>rfl);(case hr=>first | (go_simp;done) | (go_simp;rfl));intro w13 hw;have hg:wr.grownBy w13 (some go11):=(by rw [hw];exact HP12.2);have hp_:Kd.R (Kd.int .i64) 2 w13 w.heap.size (fun _=>True) (.slice (some ⟨go11,0,none⟩) ae.length ax) ah:=(by rw [hw,aw.out];exact HP12.1);clear HP12;replace af:=q_ (hp_);replace HB:=q_ ((by rw [hw];exact below_set (HB.out) GB11.out:Below w.heap.size w w13));clear hg hw hp_))
         go_roundg k1
         case measure=>have:=HK1.out;omega
         case rel=>exact⟨(ah),(wrap64 (aa+1)),rs_,H',⟨by have:=HK1.out;omega⟩,⟨ro_ af.out⟩,⟨hb_⟩⟩
        ·rw [if_neg c10] at H;exact absurd H (by simp)
       ·rw [if_neg c8] at H;exact absurd H (by simp)
      ·rw [if_neg c7] at H;exact absurd H (by simp)
     ·rw [if_neg c6] at H;have c6b0:=decide_eq_false c6;clear c6;obtain rfl:=Option.some.inj H;go_wp2
      go_ret
      exact⟨_,by first | rfl | (simp [errW_none,errW_some] <;> rfl) | (simp [*,errW_none,errW_some] <;> rfl),ro_ af.out,hb_⟩
  ·rw [if_neg c3] at H;exact absurd H (by simp)
 ·rw [if_neg c2] at H;exact absurd H (by simp)
def impl_SignsOfPivot.l0:Nat→List (List Int)→List (List Int)→Int→Int→Int→List (List Int)→List Int→Option ((List (List Int)) × Int)
 | 0,_,_,_,_,_,_,_=>none
 | k+1,x8,x21,x22,x23,ae,af,aa=>if x23 < x22 then(if 0≤x23 then(if x23 < (x21.length:Int) then((impl_signs.f k (rd_L2 x21 x23)).bind fun ag=>(if x23 < (aa.length:Int) then((impl_sign.f (rd aa x23)).bind fun ah=>(if ag.length < 17592186044416 then(if x8.length < 5864062014805 then(impl_SignsOfPivot.l0 k (x8++ [(ag++ [ah])]) x21 x22 (wrap64 (x23+1)) ae af aa) else(none)) else(none))) else(none))) else(none)) else(none)) else(some (x8,0))
def impl_SignsOfPivot.f (k:Nat) (ae:List (List Int)) (af:List Int) (a1:Int):Option ((List (List Int)) × Int):=(impl_pivotOf.f k ae af a1).bind fun aa=>(if aa.2.2.2=0 then(impl_SignsOfPivot.l0 k ([]:List (List Int)) aa.2.1 (aa.2.1.length:Int) 0 aa.1 aa.2.1 aa.2.2.1) else(some (([]:List (List Int)),aa.2.2.2)))
theorem impl_SignsOfPivot.mono_l: ∀k,(∀y0 y1 y2 y3 y4 y5 y6,LeO (impl_SignsOfPivot.l0 k y0 y1 y2 y3 y4 y5 y6) (impl_SignsOfPivot.l0 (k+1) y0 y1 y2 y3 y4 y5 y6))
 | 0=>fun _ _ _ _ _ _ _ r h=>by simp [impl_SignsOfPivot.l0] at h
 | k+1=>by
  have ih0:=impl_SignsOfPivot.mono_l k
  intros;unfold impl_SignsOfPivot.l0;repeat' first | (with_reducible first | exact ih0 _ _ _ _ _ _ _ | exact impl_pivotOf.mono _ _ _ _ | exact impl_signs.mono _ _ | exact LeO.refl _ | exact LeO.none _ | refine LeO.ite ?_ ?_ | refine LeO.bind ?_ (fun _=>?_)) | exact ih0 _ _ _ _ _ _ _ | exact impl_pivotOf.mono _ _ _ _ | exact impl_signs.mono _ _ | exact LeO.none _ | refine LeO.ite ?_ ?_ | refine LeO.bind ?_ (fun _=>?_)
theorem impl_SignsOfPivot.mono: ∀a0 a1 a2 k,LeO (impl_SignsOfPivot.f k a0 a1 a2) (impl_SignsOfPivot.f (k+1) a0 a1 a2):=by
 intro a0 a1 a2 k
 have ih0:=impl_SignsOfPivot.mono_l k
 unfold impl_SignsOfPivot.f
 repeat' first | (with_reducible first | exact ih0 _ _ _ _ _ _ _ | exact impl_pivotOf.mono _ _ _ _ | exact impl_signs.mono _ _ | exact LeO.refl _ | exact LeO.none _ | refine LeO.ite ?_ ?_ | refine LeO.bind ?_ (fun _=>?_)) | exact ih0 _ _ _ _ _ _ _ | exact impl_pivotOf.mono _ _ _ _ | exact impl_signs.mono _ _ | exact LeO.none _ | refine LeO.ite ?_ ?_ | refine LeO.bind ?_ (fun _=>?_)
def impl_SignsOfPivot.T8:Bool × List (List Nat × List Nat):=(true, [([], []),([], []),([1], [1]),([], []),([3], [3]),([], []),([4,5], [4,5]),([6], [6]),([7,2], [7]),([8], [8]),([2,9,8], [2,9]),([10], [10]),([0,11,10], [0,11]),([12,12,0,1,2,3,4,5,6,7,8,9,10,11,12], [0,12])])
def impl_SignsOfPivot.B8:List Nat:= [0,0,2,0,8,0,56,120,254,510,1022,2046,4095,8191]
theorem impl_SignsOfPivot.tab8:rtab .any (opsOf Try.f33 8)=impl_SignsOfPivot.T8:=by kernel_rfl
theorem impl_SignsOfPivot.bits8:waitsOk impl_SignsOfPivot.T8.2 impl_SignsOfPivot.B8=true:=by kernel_rfl
theorem impl_SignsOfPivot.calls (k:Nat) (aK:Option Addr) (aM:Nat) (ay:List (List Int)) (aN:Option Addr) (aQ:Nat) (az:List Int) (a1:Int) (r1:List (List Int)) (r2:Int) (w:World) (bA:Kd.C (Kd.slice 2 (Kd.int .i64)) w aK ay.length ay) (bC:ay.length≤aM) (bD:Kd.C (Kd.int .i64) w aN az.length az) (bE:az.length≤aQ) (h:impl_SignsOfPivot.f k ay az a1=some (r1,r2)):
  Calls Try.prog 33 #[.agg #[.slice aK ay.length aM, .slice aN az.length aQ], .int .i64 a1] w fun e w'=> ∃v0_:Value,e= .returned (.tuple #[v0_, .int .i64 r2])∧Kd.S (Kd.slice 2 (Kd.int .i64)) 25 w' w.heap.size (fun _=>True) v0_ r1∧Below w.heap.size w w':=by
 have hu27:=Try.underlying27;have hu49:=Try.underlying49;have HR0_0:=q_ bA;have HC0_0:=q_ bC;clear bA bC;have HR0_1:=q_ bD;have HC0_1:=q_ bE;clear bD bE;have HB:=q_ (Below.refl w.heap.size w);have H:((impl_pivotOf.f k ay az a1).bind fun aT=>(if aT.2.2.2=0 then(impl_SignsOfPivot.l0 k ([]:List (List Int)) aT.2.1 (aT.2.1.length:Int) 0 aT.1 aT.2.1 aT.2.2.1) else(some (([]:List (List Int)),aT.2.2.2))))=some (r1,r2):=h;clear h;replace H:=Option.bind_eq_some_iff.mp H;obtain⟨⟨aA,aa,ah,aU⟩,A30,H⟩:=H;replace H:(if aU=0 then(impl_SignsOfPivot.l0 k ([]:List (List Int)) aa (aa.length:Int) 0 aA aa ah) else(some (([]:List (List Int)),aU)))=some (r1,r2):=H;have A3:=q_ A30;clear A30
 by_cases c4:aU=0
 ·rw [if_pos c4] at H;have c4b0:=e1_ c4;have c4b1:=e2_ c4;clear c4;have H':=q_ H;clear H
  go_enter Try.func33,Try.ntmps33
  go_wp2_with (first | ((with_reducible refine gate_dst (N:=2) rfl ?_);refine be_ 2 #[.slice aK ay.length aM, .slice aN az.length aQ] 27 ?_;intro aw hg w5 hbox hb;have af:=q_ (hbox);have bR:=q_ ((by rw [hg];exact bz_:w.heap.size≤aw));have bS:=q_ ((by rw [hg];exact bz_:w.heap.size≤aw));replace HB:=q_ (bs_ hb);clear hb hbox hg;have bL:=cz_ af 0;have bM:=cz_ af 1;have bN:=blk_frozen af.out 0;have bO:=blk_frozen af.out 1) | ((with_reducible refine gate_callee (f:=47) rfl ?_);refine gL_ 14 Try.func47 #[.agg #[.slice aK ay.length aM, .slice aN az.length aQ], .int .i64 a1] ?_;(with_reducible refine(impl_pivotOf.calls k _ _ ay _ _ az a1 aA aa ah aU _ ?ba ?bf ?bu ?bv A3.out).mono ?_);(case ba=>exact cb_ HR0_0.out HB.out);(case bf=>exact HC0_0.out);(case bu=>exact cb_ HR0_1.out HB.out);(case bv=>exact HC0_1.out);rintro e w7 ⟨cf,cg,rfl,ho0,ho1,hb⟩;refine⟨_,rfl,?_⟩;have aI:=q_ (Kd.S_lower ho0 bz_);have aJ:=q_ (Kd.R_lower ho1 bz_);replace af:=q_ (bb_ af.out hb);replace HB:=q_ (bs_ hb);(try clear hb);(try clear hk);(try clear ho0);(try clear ho1)) | ((with_reducible refine gate_dst (N:=6) rfl ?_);refine be_ 6 #[.int .i64 0, .slice none 0 0, .slice none 0 0] 49 ?_;intro ai hg w8 hbox hb;replace aI:=q_ (Kd.S_below (so_ aI.out) hb);replace aJ:=q_ (rb_ aJ.out hb);have ae:=q_ (hbox);have bT:=q_ ((by rw [hg];exact bz_:w.heap.size≤ai));have bU:=q_ ((by rw [hg];exact bz_:w.heap.size≤ai));have aD:=q_ ((by rw [hg];exact lt_ af.out:aw≠ai));have aW:=q_ ((by rw [hg];exact gt_ af.out:ai≠aw));replace af:=q_ (bb_ af.out hb);replace HB:=q_ (bs_ hb);clear hb hbox hg;have cP:=aW.out;have cQ:=aD.out;have bF:=cz_ ae 0;have bG:=cz_ ae 1;have bH:=cz_ ae 2;have bI:=blk_frozen ae.out 0;have bJ:=blk_frozen ae.out 1;have bK:=blk_frozen ae.out 2;obtain⟨aV,au,cm⟩:=Kd.S_slice aI.out;subst cm;obtain⟨aX,av,cu⟩:=Kd.R_slice aJ.out;subst cu))
  go_loopg [8,23] k (fun kq v8 v23 w'=> ∃(aH:List (List Int)) (ag:Int),v23= .int .i64 ag∧Aside0 (impl_SignsOfPivot.l0 kq aH aa (aa.length:Int) ag aA aa ah=some (r1,r2))∧Aside0 (kq≤k)∧Aside0 (Kd.S (Kd.slice 2 (Kd.int .i64)) 25 w' w.heap.size (fun k_=>some k_≠((.slice aV aa.length au):Value).ownBlock∧some k_≠((.slice aV aa.length au):Value).ownBlock∧some k_≠((.slice aX ah.length av):Value).ownBlock) v8 aH)∧Aside0 (Kd.S (Kd.slice 2 (Kd.int .i64)) 25 w' w.heap.size (fun k_=>some k_≠(v8:Value).ownBlock∧some k_≠((.slice aX ah.length av):Value).ownBlock) (.slice aV aa.length au) aa)∧Aside0 (Kd.S (Kd.slice 2 (Kd.int .i64)) 25 w' w.heap.size (fun k_=>some k_≠(v8:Value).ownBlock∧some k_≠((.slice aX ah.length av):Value).ownBlock) (.slice aV aa.length au) aa)∧Aside0 (Kd.R (Kd.int .i64) 2 w' w.heap.size (fun _=>True) (.slice aX ah.length av) ah)∧Aside0 (w'.heap[aw]?=some (.cells #[(.slice aK ay.length aM),(.slice aN az.length aQ)] 27 (0,0)))∧Aside0 (w'.heap[ai]?=some (.cells #[.int .i64 aA,(.slice aV aa.length au),(.slice aX ah.length av)] 49 (0,0)))∧Aside0 (Below w.heap.size w w'))
  case atStart=>exact⟨(([]:List (List Int))),(0),rs_,H',⟨Nat.le_refl _⟩,⟨by first | exact Kd.S_nil _ _ _ _ _ | exact Kd.N_nil _ _ _ _ _ | exact Kd.V_nil _ _ _ _ _ | exact Kd.Q_nil _ _ _ _ _ | exact Kd.R_nil _ _ _ _ _⟩,⟨by(with_reducible repeat (first | apply Kd.S_alloc | apply Kd.S_drewN | apply Kd.S_drew));exact Kd.S_mono (Kd.S_far (p:=⟨ai,2,none⟩) (Kd.S_far (p:=⟨ai,1,none⟩) (Kd.S_far (p:=⟨ai,0,none⟩) (Kd.S_types aI.out ae.out (by decide)) (fun _ hk=>hk.2) (.int .i64 aA)) (fun _ hk=>hk.2) (.slice aV aa.length au)) (fun _ hk=>hk.2) (.slice aX ah.length av)) (fun _ hk=>⟨(by simp [Value.ownBlock]),hk.1⟩)⟩,⟨by(with_reducible repeat (first | apply Kd.S_alloc | apply Kd.S_drewN | apply Kd.S_drew));exact Kd.S_mono (Kd.S_far (p:=⟨ai,2,none⟩) (Kd.S_far (p:=⟨ai,1,none⟩) (Kd.S_far (p:=⟨ai,0,none⟩) (Kd.S_types aI.out ae.out (by decide)) (fun _ hk=>hk.2) (.int .i64 aA)) (fun _ hk=>hk.2) (.slice aV aa.length au)) (fun _ hk=>hk.2) (.slice aX ah.length av)) (fun _ hk=>⟨(by simp [Value.ownBlock]),hk.1⟩)⟩,⟨by(with_reducible repeat (first | apply Kd.R_alloc | apply Kd.R_drewN | apply Kd.R_drew));exact Kd.R_mono (Kd.R_far (p:=⟨ai,2,none⟩) (Kd.R_far (p:=⟨ai,1,none⟩) (Kd.R_far (p:=⟨ai,0,none⟩) (Kd.R_types aJ.out ae.out (by decide)) (fun _ hk=>hk.2) (.int .i64 aA)) (fun _ hk=>hk.2) (.slice aV aa.length au)) (fun _ hk=>hk.2) (.slice aX ah.length av)) (fun _ hk=>trivial)⟩,⟨by(with_reducible repeat (first | refine blk_drewN ?_ _ | refine blk_drew ?_ | refine blk_alloc ?_ _));refine blk_far ?_ aD.out _;(with_reducible repeat (first | refine blk_drewN ?_ _ | refine blk_drew ?_ | refine blk_alloc ?_ _));refine blk_far ?_ aD.out _;(with_reducible repeat (first | refine blk_drewN ?_ _ | refine blk_drew ?_ | refine blk_alloc ?_ _));refine blk_far ?_ aD.out _;(with_reducible repeat (first | refine blk_drewN ?_ _ | refine blk_drew ?_ | refine blk_alloc ?_ _));exact af.out⟩,⟨by(with_reducible repeat (first | refine blk_drewN ?_ _ | refine blk_drew ?_ | refine blk_alloc ?_ _));refine blk_put (cs:= #[.int .i64 aA, .slice aV aa.length au, .slice none 0 0]) ?_ 2 _ rfl;(with_reducible repeat (first | refine blk_drewN ?_ _ | refine blk_drew ?_ | refine blk_alloc ?_ _));refine blk_put (cs:= #[.int .i64 aA, .slice none 0 0, .slice none 0 0]) ?_ 1 _ rfl;(with_reducible repeat (first | refine blk_drewN ?_ _ | refine blk_drew ?_ | refine blk_alloc ?_ _));refine blk_put (cs:= #[.int .i64 0, .slice none 0 0, .slice none 0 0]) ?_ 0 _ rfl;(with_reducible repeat (first | refine blk_drewN ?_ _ | refine blk_drew ?_ | refine blk_alloc ?_ _));exact ae.out⟩,⟨hb_⟩⟩
  case round=>
   clear H';(try clear c4);(try clear c4b0);(try clear c4b1);(try clear bF);(try clear bG);(try clear bH);(try clear bL);(try clear bM);(try clear bI);(try clear bJ);(try clear bK);(try clear bN);(try clear bO);obtain⟨aH,ag,rfl,HA,HK1,aC,aq,ak,aj,af,ae,HB⟩:=hrel;cases gk with
   | zero=>exact absurd HA.out (by simp [impl_SignsOfPivot.l0])
   | succ k1=>
    have H:=HA.out;clear HA;simp only [impl_SignsOfPivot.l0] at H
    by_cases c13:ag < (aa.length:Int)
    ·rw [if_pos c13] at H;have c13b0:=decide_eq_true c13;clear c13
     by_cases c14:0≤ag
     ·rw [if_pos c14] at H;have c14b0:=decide_eq_true c14;clear c14
      by_cases c15:ag < (aa.length:Int)
      ·rw [if_pos c15] at H;have c15b0:=decide_eq_true c15;clear c15;replace H:=Option.bind_eq_some_iff.mp H;obtain⟨aY,A160,H⟩:=H;replace H:(if ag < (ah.length:Int) then((impl_sign.f (rd ah ag)).bind fun a9=>(if aY.length < 17592186044416 then(if aH.length < 5864062014805 then(impl_SignsOfPivot.l0 k1 (aH++ [(aY++ [a9])]) aa (aa.length:Int) (wrap64 (ag+1)) aA aa ah) else(none)) else(none))) else(none))=some (r1,r2):=H;have A16:=q_ A160;clear A160
       by_cases c17:ag < (ah.length:Int)
       ·rw [if_pos c17] at H;have c17b0:=decide_eq_true c17;clear c17;replace H:=Option.bind_eq_some_iff.mp H;obtain⟨a9,A180,H⟩:=H;replace H:(if aY.length < 17592186044416 then(if aH.length < 5864062014805 then(impl_SignsOfPivot.l0 k1 (aH++ [(aY++ [a9])]) aa (aa.length:Int) (wrap64 (ag+1)) aA aa ah) else(none)) else(none))=some (r1,r2):=H;have A18:=q_ A180;clear A180
        by_cases c19:aY.length < 17592186044416
        ·rw [if_pos c19] at H;have bV:=q_ c19;clear c19;obtain⟨aZ,hy⟩: ∃y_:List Int,y_=(aY++ [a9]):=⟨_,rfl⟩
         replace H:(if aH.length < 5864062014805 then(impl_SignsOfPivot.l0 k1 (aH++ [aZ]) aa (aa.length:Int) (wrap64 (ag+1)) aA aa ah) else(none))=some (r1,r2):=hh_;have bW:=q_ hy;clear hy
         by_cases c20:aH.length < 5864062014805
         ·rw [if_pos c20] at H;have bX:=q_ c20;clear c20;obtain⟨bP,hy⟩: ∃y_:List (List Int),y_=(aH++ [aZ]):=⟨_,rfl⟩
          replace H:(impl_SignsOfPivot.l0 k1 bP aa (aa.length:Int) (wrap64 (ag+1)) aA aa ah)=some (r1,r2):=hh_;have bY:=q_ hy;clear hy;have H':=q_ H;clear H;have p640:0≤(ag:Int):=od_;have q640:ag < (aa.length:Int):=od_;obtain⟨aG,bw,bz,e640,hx640_0,hl640_0,hi640_0⟩:=at_L2 (Kd.S_reads' aq.out).2.2 ag p640 q640;cases e640
          obtain⟨ce640,hce640,hMe640,hcc640⟩:=Kd.S_get aq.out [] ag p640 (by first | exact q640 | exact od_ | (have e_:=(Kd.S_reads' aq.out).1;omega));obtain⟨ve640_0,rfl,ge640_0⟩:=hMe640;have hv640_0:=hcc640 0 _ rfl;rw [Nat.add_zero,show ((Kd.slice 2 (Kd.int .i64))).sz=1 from rfl,Nat.mul_one] at hv640_0;replace hv640_0:=Option.some.inj (hv640_0.symm.trans hx640_0);rw [hv640_0] at ge640_0;have HL640_0:=q_ (show Kd.R (Kd.int .i64) 2 _ _ _ _ (rd_L2 aa ag) from ge640_0);clear hv640_0 ge640_0 hcc640 hce640;have HR640_0:=q_ hi640_0;have HC640_0:=q_ hl640_0;clear hi640_0 hl640_0;replace p640:=eq_true p640;replace q640:=eq_true q640
          try go_wp2
          replace aC:=q_ (Kd.S_drew aC.out);replace aq:=q_ (Kd.S_drew aq.out);replace ak:=q_ (Kd.S_drew ak.out);replace aj:=q_ (Kd.R_drew aj.out);replace HL640_0:=q_ (Kd.R_drew HL640_0.out);replace af:=q_ (blk_drew af.out);replace ae:=q_ (blk_drew ae.out);replace HR640_0:=q_ (Kd.C_drew HR640_0.out);replace HB:=q_ (below_drew1 HB.out);have p644:0≤(ag:Int):=od_;have q644:ag < (ah.length:Int):=od_;obtain⟨ax,e644,hx644_0⟩:=Kd.at_int (Kd.R_reads' aj.out).2.2 ag p644 q644;cases e644
          replace p644:=eq_true p644;replace q644:=eq_true q644;refine st_ (n:=14) (S:=fun w'=>w'.cell? ⟨ai,0,none⟩=some (.int .i64 aA)∧w'.cell? ⟨ai,1,none⟩=some (.slice (some aG) aa.length au)∧w'.cell? ⟨ai,2,none⟩=some (.slice (some ax) ah.length av)∧w'.cell? (ax.add (ag).toNat)=some (.int .i64 (rd ah ag))) (ds:= [9,10,11,12]) ⟨(blk_cell ae.out 0).trans rfl,(blk_cell ae.out 1).trans rfl,(blk_cell ae.out 2).trans rfl,hx644_0⟩ (fun hHeld=>?_);refine with_tabW impl_SignsOfPivot.tab8 impl_SignsOfPivot.bits8 (fun HT_ HW_=>?_)
          generalize wr.drew=w21 at aC aq ak aj HL640_0 af ae HR640_0 HB hx644_0 hHeld ⊢
          refine pu_ 0 28 ?_;refine pu_ 1 29 ?_;refine pu_ 3 31 ?_;refine pu_ 5 33 ?_;refine tk_ 4 32 ?_;refine pu_ 6 34 ?_;refine tk_ 7 35 ?_
          refine on_ 2 (some 30) (fun K hK=>?_)
          refine goes_ Try.func64 (by kernel_rfl) rfl #[.slice bw (rd_L2 aa ag).length bz] (by rfl) rfl rfl (by(try simp only [List.map_toArray,List.map_cons,List.map_nil]);first | done | rfl | (simp only [List.length_drop,List.length_take];rfl)) ?_
          with_reducible refine(impl_signs.calls k1 _ _ (rd_L2 aa ag) aY _ ?ba ?bf A16.out).mono ?_
          (case ba=>repeat (first | exact(by repeat (first | (with_reducible exact HR640_0.out) | (with_reducible refine Kd.C_alloc ?_ _) | (with_reducible refine Kd.C_drewN ?_ _) | (with_reducible refine Kd.C_drew ?_) | exact HR640_0.out)) | (with_reducible refine Kd.C_alloc ?_ _) | (with_reducible refine Kd.C_drewN ?_ _) | (with_reducible refine Kd.C_drew ?_)))
          (case bf=>exact HC640_0.out)
          rintro e w22 ⟨cz,rfl,ho0,hb⟩;have HS3_:=(hb.cell (World.block_lt_of_cell? _ _ (hHeld.2.2.2))).trans (hHeld.2.2.2);refine⟨_,rfl,?_⟩
          replace aC:=q_ (Kd.S_elder' (so_ aC.out) (Kd.R_base ho0) hb);replace aq:=q_ (Kd.S_elder' (so_ aq.out) (Kd.R_base ho0) hb);replace ak:=q_ (Kd.S_elder' (so_ ak.out) (Kd.R_base ho0) hb);have bg:=q_ (Kd.R_lower (Kd.R_new' (Kd.R_new' ho0 (Kd.R_lt (ro_ aj.out))) (Kd.R_lt (ro_ HL640_0.out))) bz_);replace af:=q_ (bb_ af.out hb);replace ae:=q_ (bb_ ae.out hb);replace HR640_0:=q_ (Kd.C_below (by repeat (first | (with_reducible exact HR640_0.out) | (with_reducible refine Kd.C_alloc ?_ _) | (with_reducible refine Kd.C_drewN ?_ _) | (with_reducible refine Kd.C_drew ?_) | exact HR640_0.out)) hb);replace aj:=q_ (Kd.R_elder' (ro_ aj.out) (Kd.R_base ho0) hb);replace HL640_0:=q_ (Kd.R_elder' (ro_ HL640_0.out) (Kd.R_base ho0) hb);replace HB:=q_ (bs_ hb);(try clear hb)
          
          (try clear hk)
          
          (try clear ho0);refine hK.out _ _ ⟨(blk_cell ae.out 0).trans rfl,(blk_cell ae.out 1).trans rfl,(blk_cell ae.out 2).trans rfl,HS3_⟩ (fun hHeld=>?_)
          clear hK K;refine norm_ (a':=?_) ?_ ?_
          rotate_left
          ·show Act.put _ (some 30) _=_
           simp only [Act.put,List.setIfInBounds_toArray,List.set_cons_zero,List.set_cons_succ,i64_w,i32_w]
           rfl
          refine on_ 8 (some 36) (fun K hK=>?_)
          refine goes_ Try.func65 (by kernel_rfl) rfl #[.int .i64 (rd ah ag)] (by rfl) rfl rfl (by(try simp only [List.map_toArray,List.map_cons,List.map_nil]);first | done | rfl | (simp only [List.length_drop,List.length_take];rfl)) ?_
          with_reducible refine(impl_sign.calls (rd ah ag) a9 _ A18.out).mono ?_
          rintro e w' ⟨rfl,⟨nd,rfl⟩⟩;refine⟨_,rfl,?_⟩
          refine hK.out _ _ ⟨(blk_cell ae.out 0).trans rfl,(blk_cell ae.out 1).trans rfl,(blk_cell ae.out 2).trans rfl,hHeld.2.2.2⟩ (fun hHeld=>?_)
          clear hK K;refine norm_ (a':=?_) ?_ ?_
          rotate_left
          ·show Act.put _ (some 36) _=_
           simp only [Act.put,List.setIfInBounds_toArray,List.set_cons_zero,List.set_cons_succ,i64_w,i32_w]
           rfl
          refine la_ 9 (some 37) (fun K hK=>?_)
          refine value_ (w1:=?_) (v:=?_) (by rfl) rfl ?_ ?_
          rotate_left 2
          ·go_simp
           constructor
           ·rfl
           ·rfl
          refine hK.out _ _ ?_
          clear hK K;refine norm_ (a':=?_) ?_ ?_
          rotate_left
          ·show Act.put _ (some 37) _=_
           simp only [Act.put,List.setIfInBounds_toArray,List.set_cons_zero,List.set_cons_succ,i64_w,i32_w]
           rfl
          refine la_ 10 (some 38) (fun K hK=>?_)
          refine Kd.R_append_step (Kd.int .i64) (w0:=w) w.heap.size (by rfl) (.tmp 30) (.tmp 37) 25 2 (.int .i64 0) 8 rfl Try.underlying25 info2 rfl (by decide) (by omega) cz aY a9 [.int .i64 a9] (fun k_=>some k_≠(.slice (some ax) ah.length av:Value).ownBlock∧some k_≠(.slice bw (rd_L2 aa ag).length bz:Value).ownBlock) (fun _=>False) rfl rfl ?aP (fun _ hk=>hk.elim) ?aF ?aO ?aB ?aS ?aL ?_
          (case aP=>exact rfl)
          (case aB=>exact hb_)
          (case aF=>exact(fun k_ hk=>⟨Kd.fresh' (Kd.R_lt (ro_ aj.out)) k_ hk,Kd.fresh' (Kd.R_lt (ro_ HL640_0.out)) k_ hk⟩))
          (case aO=>exact(by(with_reducible repeat (first | apply Kd.R_alloc | apply Kd.R_drewN | apply Kd.R_drew));exact Kd.R_mono bg.out (fun _ hk=>⟨hk.1.2,hk.2⟩)))
          (case aS=>exact bz_)
          (case aL=>have:=bV.out;omega)
          intro cR w23 ho hb hg hat;rw [← bW.out] at ho;replace aC:=q_ (Kd.S_after (ok:=(fun k_=>some k_≠(.slice (some aG) aa.length au:Value).ownBlock∧some k_≠(.slice (some aG) aa.length au:Value).ownBlock∧some k_≠(.slice (some ax) ah.length av:Value).ownBlock)) (so_ aC.out) hg hat);replace aq:=q_ (Kd.S_after (ok:=(fun k_=>some k_≠(u8:Value).ownBlock∧some k_≠(.slice (some ax) ah.length av:Value).ownBlock)) (so_ aq.out) hg hat);replace ak:=q_ (Kd.S_after (ok:=(fun k_=>some k_≠(u8:Value).ownBlock∧some k_≠(.slice (some ax) ah.length av:Value).ownBlock)) (so_ ak.out) hg hat);replace aj:=q_ (Kd.R_after (ok:=(fun _=>True)) (ro_ aj.out) hg hat);replace af:=q_ (bg_ af.out hg (Kd.R_ne bg.out af.out (by decide)));replace ae:=q_ (bg_ ae.out hg (Kd.R_ne bg.out ae.out (by decide)));replace HL640_0:=q_ (Kd.R_after (ok:=(fun k_=>some k_≠(u8:Value).ownBlock∧some k_≠(.slice (some aG) aa.length au:Value).ownBlock∧some k_≠(.slice (some ax) ah.length av:Value).ownBlock)) (by(with_reducible repeat (first | apply Kd.R_alloc | apply Kd.R_drewN | apply Kd.R_drew));exact Kd.R_mono HL640_0.out (fun _ hk=>⟨⟨hk.1.1.1,⟨hk.1.2,hk.1.1.2⟩⟩,hk.2⟩)) hg hat);replace HB:=q_ (hb);have bh:=q_ (ho);clear bg ho hb hg hat;obtain⟨bk,bq,bQ⟩:=Kd.R_slice bh.out
          (first | subst bQ | (injection bQ with f1_ f2_ f3_;have f4_:=f1_.symm;have f5_:=f3_.symm;clear f1_ f2_ f3_;subst f4_;subst f5_))
          refine hK.out _ _ ?_
          clear hK K;refine norm_ (a':=?_) ?_ ?_
          rotate_left
          ·show Act.put _ (some 38) _=_
           simp only [Act.put,List.setIfInBounds_toArray,List.set_cons_zero,List.set_cons_succ,i64_w,i32_w]
           rfl
          refine la_ 11 (some 39) (fun K hK=>?_)
          refine value_ (w1:=?_) (v:=?_) (by rfl) rfl ?_ ?_
          rotate_left 2
          ·go_simp
           constructor
           ·rfl
           ·rfl
          refine hK.out _ _ ?_
          clear hK K;refine norm_ (a':=?_) ?_ ?_
          rotate_left
          ·show Act.put _ (some 39) _=_
           simp only [Act.put,List.setIfInBounds_toArray,List.set_cons_zero,List.set_cons_succ,i64_w,i32_w]
           rfl
          refine la_ 12 (some 40) (fun K hK=>?_)
          refine Kd.S_append_step (Kd.slice 2 (Kd.int .i64)) (w0:=w) w.heap.size (by rfl) (.tmp 28) (.tmp 39) 24 25 (.slice none 0 0) 24 rfl Try.underlying24 info25 rfl (by decide) (by omega) u8 aH aZ [.slice bk aZ.length bq] (fun k_=>some k_≠(.slice (some aG) aa.length au:Value).ownBlock∧some k_≠(.slice (some aG) aa.length au:Value).ownBlock∧some k_≠(.slice (some ax) ah.length av:Value).ownBlock) (fun k_=>some k_=(.slice bk aZ.length bq:Value).ownBlock) rfl rfl ?aP (fun k_ hk_=>((Kd.R_mono (ok':=fun k_=>((fun k_=>some k_≠(.slice (some aG) aa.length au:Value).ownBlock∧some k_≠(.slice (some aG) aa.length au:Value).ownBlock∧some k_≠(.slice (some ax) ah.length av:Value).ownBlock)) k_∧some k_≠(u8:Value).ownBlock) (Kd.R_apart' (Kd.R_apart' (Kd.R_apart' (bh.out) (Kd.S_typed aq.out) (by decide)) (Kd.S_typed ak.out) (by decide)) (Kd.S_typed aC.out) (by decide)) (fun k_ hk=>⟨⟨hk.1.1.2,⟨hk.1.2,hk.1.1.1.1⟩⟩,hk.2⟩))).1 k_ hk_.symm) ?aF ?aO ?aB ?aS ?aL ?_
          (case aP=>exact Kd.M_row (Kd.R_mono (Kd.R_tight rfl (Kd.R_mono (ok':=fun k_=>((fun k_=>some k_≠(.slice (some aG) aa.length au:Value).ownBlock∧some k_≠(.slice (some aG) aa.length au:Value).ownBlock∧some k_≠(.slice (some ax) ah.length av:Value).ownBlock)) k_∧some k_≠(u8:Value).ownBlock) (Kd.R_apart' (Kd.R_apart' (Kd.R_apart' (bh.out) (Kd.S_typed aq.out) (by decide)) (Kd.S_typed ak.out) (by decide)) (Kd.S_typed aC.out) (by decide)) (fun k_ hk=>⟨⟨hk.1.1.2,⟨hk.1.2,hk.1.1.1.1⟩⟩,hk.2⟩))) (fun _ h_=>h_)))
          (case aB=>exact hb_)
          (case aF=>exact(fun k_ hk=>⟨Kd.fresh' (Kd.S_lt (so_ aq.out)) k_ hk,Kd.fresh' (Kd.S_lt (so_ ak.out)) k_ hk,Kd.fresh' (Kd.R_lt (ro_ aj.out)) k_ hk⟩))
          (case aO=>exact(by(with_reducible repeat (first | apply Kd.S_alloc | apply Kd.S_drewN | apply Kd.S_drew));exact Kd.S_mono aC.out (fun k_ hk=>⟨⟨hk.1.1,⟨hk.1.2.1,hk.1.2.2⟩⟩,fun e_=>hk.2 e_⟩)))
          (case aS=>exact bz_)
          (case aL=>have:=bX.out;omega)
          intro cT w24 ho hb hg hat;rw [← bY.out] at ho;replace aq:=q_ (Kd.S_after (ok:=(fun k_=>some k_≠(.slice (some ax) ah.length av:Value).ownBlock∧some k_≠(.slice bk aZ.length bq:Value).ownBlock)) (by(with_reducible repeat (first | apply Kd.S_alloc | apply Kd.S_drewN | apply Kd.S_drew));exact Kd.S_mono aq.out (fun _ hk=>⟨⟨hk.1.2,hk.2⟩,hk.1.1⟩)) hg hat);replace ak:=q_ (Kd.S_after (ok:=(fun k_=>some k_≠(.slice (some ax) ah.length av:Value).ownBlock∧some k_≠(.slice bk aZ.length bq:Value).ownBlock)) (by(with_reducible repeat (first | apply Kd.S_alloc | apply Kd.S_drewN | apply Kd.S_drew));exact Kd.S_mono ak.out (fun _ hk=>⟨⟨hk.1.2,hk.2⟩,hk.1.1⟩)) hg hat);replace aj:=q_ (Kd.R_over' (ro_ aj.out) (Kd.S_typed (so_ aC.out)) (by decide) hg);replace af:=q_ (bg_ af.out hg (Kd.S_ne aC.out af.out (by decide)));replace ae:=q_ (bg_ ae.out hg (Kd.S_ne aC.out ae.out (by decide)));replace HL640_0:=q_ (Kd.R_after (ok:=(fun k_=>some k_≠(.slice (some aG) aa.length au:Value).ownBlock∧some k_≠(.slice (some ax) ah.length av:Value).ownBlock∧some k_≠(.slice bk aZ.length bq:Value).ownBlock)) (by(with_reducible repeat (first | apply Kd.R_alloc | apply Kd.R_drewN | apply Kd.R_drew));exact Kd.R_mono HL640_0.out (fun _ hk=>⟨⟨hk.1.2.1,⟨hk.1.2.2,hk.2⟩⟩,hk.1.1⟩)) hg hat);replace HB:=q_ (hb);have bZ:=q_ (ho);clear aC bh ho hb hg hat;refine hK.out _ _ ?_
          clear hK K;refine norm_ (a':=?_) ?_ ?_
          rotate_left
          ·show Act.put _ (some 40) _=_
           simp only [Act.put,List.setIfInBounds_toArray,List.set_cons_zero,List.set_cons_succ,i64_w,i32_w]
           rfl
          refine pu_ 13 8 ?_
          refine done_ (done_of HT_.out (by kernel_rfl)) ?_
          try go_wp2
          go_roundg k1
          case measure=>have:=HK1.out;omega
          case rel=>exact⟨(bP),(wrap64 (ag+1)),rs_,H',⟨by have:=HK1.out;omega⟩,⟨so_ bZ.out⟩,⟨by(with_reducible repeat (first | apply Kd.S_alloc | apply Kd.S_drewN | apply Kd.S_drew));exact Kd.S_mono aq.out (fun _ hk=>⟨hk.2,hk.1.1⟩)⟩,⟨by(with_reducible repeat (first | apply Kd.S_alloc | apply Kd.S_drewN | apply Kd.S_drew));exact Kd.S_mono ak.out (fun _ hk=>⟨hk.2,hk.1.1⟩)⟩,⟨by(with_reducible repeat (first | apply Kd.R_alloc | apply Kd.R_drewN | apply Kd.R_drew));exact Kd.R_mono aj.out (fun _ hk=>trivial)⟩,⟨bk_⟩,⟨bk_⟩,⟨hb_⟩⟩
         ·rw [if_neg c20] at H;exact absurd H (by simp)
        ·rw [if_neg c19] at H;exact absurd H (by simp)
       ·rw [if_neg c17] at H;exact absurd H (by simp)
      ·rw [if_neg c15] at H;exact absurd H (by simp)
     ·rw [if_neg c14] at H;exact absurd H (by simp)
    ·rw [if_neg c13] at H;have c13b0:=decide_eq_false c13;clear c13;simp only [Option.some.injEq,Prod.mk.injEq] at H;obtain⟨rfl,rfl⟩:=H;go_wp2
     go_ret2
     exact⟨_,by first | rfl | (simp [errW_none,errW_some] <;> rfl) | (simp [*,errW_none,errW_some] <;> rfl),by(with_reducible repeat (first | apply Kd.S_alloc | apply Kd.S_drewN | apply Kd.S_drew));exact Kd.S_mono aC.out (fun _ hk=>trivial),hb_⟩
 ·rw [if_neg c4] at H;have c4b0:=e3_ c4;have c4b1:=e4_ c4;simp only [Option.some.injEq,Prod.mk.injEq] at H;obtain⟨rfl,rfl⟩:=H
  go_enter Try.func33,Try.ntmps33
  go_wp2_with (first | ((with_reducible refine gate_dst (N:=2) rfl ?_);refine be_ 2 #[.slice aK ay.length aM, .slice aN az.length aQ] 27 ?_;intro aw hg w26 hbox hb;have af:=q_ (hbox);have bR:=q_ ((by rw [hg];exact bz_:w.heap.size≤aw));have bS:=q_ ((by rw [hg];exact bz_:w.heap.size≤aw));replace HB:=q_ (bs_ hb);clear hb hbox hg;have cC:=cz_ af 0;have cD:=cz_ af 1;have cE:=blk_frozen af.out 0;have cF:=blk_frozen af.out 1) | ((with_reducible refine gate_callee (f:=47) rfl ?_);refine gL_ 14 Try.func47 #[.agg #[.slice aK ay.length aM, .slice aN az.length aQ], .int .i64 a1] ?_;(with_reducible refine(impl_pivotOf.calls k _ _ ay _ _ az a1 aA aa ah aU _ ?ba ?bf ?bu ?bv A3.out).mono ?_);(case ba=>exact cb_ HR0_0.out HB.out);(case bf=>exact HC0_0.out);(case bu=>exact cb_ HR0_1.out HB.out);(case bv=>exact HC0_1.out);rintro e w28 ⟨cf,cg,rfl,ho0,ho1,hb⟩;refine⟨_,rfl,?_⟩;have aI:=q_ (Kd.S_lower ho0 bz_);have aJ:=q_ (Kd.R_lower ho1 bz_);replace af:=q_ (bb_ af.out hb);replace HB:=q_ (bs_ hb);(try clear hb);(try clear hk);(try clear ho0);(try clear ho1)) | ((with_reducible refine gate_dst (N:=6) rfl ?_);refine be_ 6 #[.int .i64 0, .slice none 0 0, .slice none 0 0] 49 ?_;intro ai hg w29 hbox hb;replace aI:=q_ (Kd.S_below (so_ aI.out) hb);replace aJ:=q_ (rb_ aJ.out hb);have ae:=q_ (hbox);have bT:=q_ ((by rw [hg];exact bz_:w.heap.size≤ai));have bU:=q_ ((by rw [hg];exact bz_:w.heap.size≤ai));have aD:=q_ ((by rw [hg];exact lt_ af.out:aw≠ai));have aW:=q_ ((by rw [hg];exact gt_ af.out:ai≠aw));replace af:=q_ (bb_ af.out hb);replace HB:=q_ (bs_ hb);clear hb hbox hg;have cN:=aW.out;have cO:=aD.out;have cG:=cz_ ae 0;have cH:=cz_ ae 1;have cI:=cz_ ae 2;have cJ:=blk_frozen ae.out 0;have cK:=blk_frozen ae.out 1;have cL:=blk_frozen ae.out 2;obtain⟨cU,cV,cA⟩:=Kd.S_slice aI.out;subst cA;obtain⟨cZ,da,cB⟩:=Kd.R_slice aJ.out;subst cB))
  go_ret2
  exact⟨_,by first | rfl | (simp [errW_none,errW_some] <;> rfl) | (simp [*,errW_none,errW_some] <;> rfl),by first | exact Kd.S_nil _ _ _ _ _ | exact Kd.N_nil _ _ _ _ _ | exact Kd.V_nil _ _ _ _ _ | exact Kd.Q_nil _ _ _ _ _ | exact Kd.R_nil _ _ _ _ _,hb_⟩
def spec_l04Sign.f (a0:Int):Option (Int):=if a0 < 0 then(some (-1)) else(if a0 > 0 then(some 1) else(some 0))
theorem spec_l04Sign.calls (a0:Int) (r:Int) (w:World) (h:spec_l04Sign.f a0=some r):
  Calls Try.prog 66 #[.int .i64 a0] w fun e w'=>e= .returned (.int .i64 r)∧Drawn0 w w':=by
 have H:(if a0 < 0 then(some (-1)) else(if a0 > 0 then(some 1) else(some 0)))=some r:=h;clear h
 by_cases c2:a0 < 0
 ·rw [if_pos c2] at H;have c2b0:=decide_eq_true c2;clear c2;obtain rfl:=Option.some.inj H
  go_enter Try.func66,Try.ntmps66
  go_wp2
  go_ret
  exact⟨by first | rfl | (simp;done) | (simp [*];done),by repeat (first | exact Drawn0.refl _ | apply Drawn0.step)⟩
 ·rw [if_neg c2] at H;have c2b0:=decide_eq_false c2;clear c2
  by_cases c3:a0 > 0
  ·rw [if_pos c3] at H;have c3b0:=decide_eq_true c3;clear c3;obtain rfl:=Option.some.inj H
   go_enter Try.func66,Try.ntmps66
   go_wp2
   go_ret
   exact⟨by first | rfl | (simp;done) | (simp [*];done),by repeat (first | exact Drawn0.refl _ | apply Drawn0.step)⟩
  ·rw [if_neg c3] at H;have c3b0:=decide_eq_false c3;clear c3;obtain rfl:=Option.some.inj H
   go_enter Try.func66,Try.ntmps66
   go_wp2
   go_ret
   exact⟨by first | rfl | (simp;done) | (simp [*];done),by repeat (first | exact Drawn0.refl _ | apply Drawn0.step)⟩
mutual
def spec_SignsOfPivot.l0:Nat→List (List Int)→Int→Int→List (List Int)→List Int→Option ((List (List Int)) × Int)
 | 0,_,_,_,_,_=>none
 | k+1,x8,x9,af,ae,aa=>if x9 < (aa.length:Int) then(spec_SignsOfPivot.l1 k x8 x9 (([]:List Int)) 0 af ae aa) else(some (x8,0))
def spec_SignsOfPivot.l1:Nat→List (List Int)→Int→List Int→Int→Int→List (List Int)→List Int→Option ((List (List Int)) × Int)
 | 0,_,_,_,_,_,_,_=>none
 | k+1,x8,x9,x10,x11,af,ae,aa=>if x11 < (aa.length:Int) then(if 0≤x9 then(if x9 < (ae.length:Int) then(if 0≤x11 then(if x11 < ((rd_L2 ae x9).length:Int) then((spec_l04Sign.f (rd (rd_L2 ae x9) x11)).bind fun ag=>(if x10.length < 17592186044416 then(spec_SignsOfPivot.l1 k x8 x9 (x10++ [ag]) (wrap64 (x11+1)) af ae aa) else(none))) else(none)) else(none)) else(none)) else(none)) else(if 0≤x9 then(if x9 < (aa.length:Int) then((spec_l04Sign.f (rd aa x9)).bind fun ah=>(if x10.length < 17592186044416 then(if x8.length < 5864062014805 then(spec_SignsOfPivot.l0 k (x8++ [(x10++ [ah])]) (wrap64 (x9+1)) af ae aa) else(none)) else(none))) else(none)) else(none))
end
def spec_SignsOfPivot.f (k:Nat) (ae:List (List Int)) (af:List Int) (a1:Int):Option ((List (List Int)) × Int):=(spec_PivotOf.f k ae af a1).bind fun aa=>(if aa.2.2.2=0 then(spec_SignsOfPivot.l0 k (([]:List (List Int))) 0 aa.1 aa.2.1 aa.2.2.1) else(some (([]:List (List Int)),aa.2.2.2)))
theorem spec_SignsOfPivot.mono_l: ∀k,(∀y0 y1 y2 y3 y4,LeO (spec_SignsOfPivot.l0 k y0 y1 y2 y3 y4) (spec_SignsOfPivot.l0 (k+1) y0 y1 y2 y3 y4))∧(∀y0 y1 y2 y3 y4 y5 y6,LeO (spec_SignsOfPivot.l1 k y0 y1 y2 y3 y4 y5 y6) (spec_SignsOfPivot.l1 (k+1) y0 y1 y2 y3 y4 y5 y6))
 | 0=>⟨fun _ _ _ _ _ r h=>by simp [spec_SignsOfPivot.l0] at h,fun _ _ _ _ _ _ _ r h=>by simp [spec_SignsOfPivot.l1] at h⟩
 | k+1=>by
  obtain⟨ih0,ih1⟩:=spec_SignsOfPivot.mono_l k
  refine⟨?_,?_⟩<;>intros<;>(first | unfold spec_SignsOfPivot.l0 | unfold spec_SignsOfPivot.l1)<;>(repeat' first | (with_reducible first | exact ih0 _ _ _ _ _ | exact ih1 _ _ _ _ _ _ _ | exact spec_PivotOf.mono _ _ _ _ | exact LeO.refl _ | exact LeO.none _ | refine LeO.ite ?_ ?_ | refine LeO.bind ?_ (fun _=>?_)) | exact ih0 _ _ _ _ _ | exact ih1 _ _ _ _ _ _ _ | exact spec_PivotOf.mono _ _ _ _ | exact LeO.none _ | refine LeO.ite ?_ ?_ | refine LeO.bind ?_ (fun _=>?_))
theorem spec_SignsOfPivot.mono: ∀a0 a1 a2 k,LeO (spec_SignsOfPivot.f k a0 a1 a2) (spec_SignsOfPivot.f (k+1) a0 a1 a2):=by
 intro a0 a1 a2 k
 obtain⟨ih0,ih1⟩:=spec_SignsOfPivot.mono_l k
 unfold spec_SignsOfPivot.f
 repeat' first | (with_reducible first | exact ih0 _ _ _ _ _ | exact ih1 _ _ _ _ _ _ _ | exact spec_PivotOf.mono _ _ _ _ | exact LeO.refl _ | exact LeO.none _ | refine LeO.ite ?_ ?_ | refine LeO.bind ?_ (fun _=>?_)) | exact ih0 _ _ _ _ _ | exact ih1 _ _ _ _ _ _ _ | exact spec_PivotOf.mono _ _ _ _ | exact LeO.none _ | refine LeO.ite ?_ ?_ | refine LeO.bind ?_ (fun _=>?_)
theorem spec_SignsOfPivot.calls (k:Nat) (aN:Option Addr) (aQ:Nat) (aC:List (List Int)) (aT:Option Addr) (aU:Nat) (aD:List Int) (a1:Int) (r1:List (List Int)) (r2:Int) (w:World) (bL:Kd.C (Kd.slice 2 (Kd.int .i64)) w aN aC.length aC) (bM:aC.length≤aQ) (bN:Kd.C (Kd.int .i64) w aT aD.length aD) (bO:aD.length≤aU) (h:spec_SignsOfPivot.f k aC aD a1=some (r1,r2)):
  Calls Try.prog 34 #[.agg #[.slice aN aC.length aQ, .slice aT aD.length aU], .int .i64 a1] w fun e w'=> ∃v0_:Value,e= .returned (.tuple #[v0_, .int .i64 r2])∧Kd.S (Kd.slice 2 (Kd.int .i64)) 25 w' w.heap.size (fun _=>True) v0_ r1∧Below w.heap.size w w':=by
 have hu27:=Try.underlying27;have hu49:=Try.underlying49;have HR0_0:=q_ bL;have HC0_0:=q_ bM;clear bL bM;have HR0_1:=q_ bN;have HC0_1:=q_ bO;clear bN bO;have HB:=q_ (Below.refl w.heap.size w);have H:((spec_PivotOf.f k aC aD a1).bind fun aZ=>(if aZ.2.2.2=0 then(spec_SignsOfPivot.l0 k (([]:List (List Int))) 0 aZ.1 aZ.2.1 aZ.2.2.1) else(some (([]:List (List Int)),aZ.2.2.2))))=some (r1,r2):=h;clear h;replace H:=Option.bind_eq_some_iff.mp H;obtain⟨⟨au,ah,ae,aW⟩,A30,H⟩:=H;replace H:(if aW=0 then(spec_SignsOfPivot.l0 k (([]:List (List Int))) 0 au ah ae) else(some (([]:List (List Int)),aW)))=some (r1,r2):=H;have A3:=q_ A30;clear A30
 by_cases c4:aW=0
 ·rw [if_pos c4] at H;have c4b0:=e1_ c4;have c4b1:=e2_ c4;clear c4;obtain⟨bY,hy⟩: ∃y_:List (List Int),y_=(([]:List (List Int))):=⟨_,rfl⟩
  replace H:(spec_SignsOfPivot.l0 k bY 0 au ah ae)=some (r1,r2):=hh_;have bP:=q_ hy;clear hy;have H':=q_ H;clear H
  go_enter Try.func34,Try.ntmps34
  go_wp2_with (first | ((with_reducible refine gate_dst (N:=2) rfl ?_);refine be_ 2 #[.slice aN aC.length aQ, .slice aT aD.length aU] 27 ?_;intro az hg w5 hbox hb;have ag:=q_ (hbox);have cm:=q_ ((by rw [hg];exact bz_:w.heap.size≤az));have cu:=q_ ((by rw [hg];exact bz_:w.heap.size≤az));replace HB:=q_ (bs_ hb);clear hb hbox hg;have bF:=cz_ ag 0;have bG:=cz_ ag 1;have bH:=blk_frozen ag.out 0;have bI:=blk_frozen ag.out 1) | ((with_reducible refine gate_callee (f:=23) rfl ?_);refine gL_ 15 Try.func23 #[.agg #[.slice aN aC.length aQ, .slice aT aD.length aU], .int .i64 a1] ?_;(with_reducible refine(spec_PivotOf.calls k _ _ aC _ _ aD a1 au ah ae aW _ ?bA ?bC ?bD ?bE A3.out).mono ?_);(case bA=>exact cb_ HR0_0.out HB.out);(case bC=>exact HC0_0.out);(case bD=>exact cb_ HR0_1.out HB.out);(case bE=>exact HC0_1.out);rintro e w7 ⟨cL,cN,rfl,ho0,ho1,hb⟩;refine⟨_,rfl,?_⟩;have aK:=q_ (Kd.S_lower ho0 bz_);have aM:=q_ (Kd.R_lower ho1 bz_);replace ag:=q_ (bb_ ag.out hb);replace HB:=q_ (bs_ hb);(try clear hb);(try clear hk);(try clear ho0);(try clear ho1)) | ((with_reducible refine gate_dst (N:=6) rfl ?_);refine be_ 6 #[.int .i64 0, .slice none 0 0, .slice none 0 0] 49 ?_;intro af hg w8 hbox hb;replace aK:=q_ (Kd.S_below (so_ aK.out) hb);replace aM:=q_ (rb_ aM.out hb);have aa:=q_ (hbox);have cz:=q_ ((by rw [hg];exact bz_:w.heap.size≤af));have cA:=q_ ((by rw [hg];exact bz_:w.heap.size≤af));have av:=q_ ((by rw [hg];exact lt_ ag.out:az≠af));have aG:=q_ ((by rw [hg];exact gt_ ag.out:af≠az));replace ag:=q_ (bb_ ag.out hb);replace HB:=q_ (bs_ hb);clear hb hbox hg;have eB:=aG.out;have eC:=av.out;have bk:=cz_ aa 0;have bq:=cz_ aa 1;have bu:=cz_ aa 2;have bv:=blk_frozen aa.out 0;have bw:=blk_frozen aa.out 1;have bz:=blk_frozen aa.out 2;obtain⟨aA,ax,cO⟩:=Kd.S_slice aK.out;subst cO;obtain⟨ay,aq,cP⟩:=Kd.R_slice aM.out;subst cP) | ((with_reducible refine gate_dst (N:=21) rfl ?_);refine Kd.S_lit (Kd.slice 2 (Kd.int .i64)) _ 25 ?hg (N:=21) ?hd (xs:=([]:List (List Int))) (inner:= []) (ok:=fun _=>True) (okp:=fun _=>True) ?hr ?hp (fun _ hk=>hk) trivial (Below.refl _ _) (Nat.le_refl _) (by simp) ?_;(case hd=>rfl);(case hg=>rfl);(case hr=>first | (go_simp;done) | (go_simp;rfl));(case hp=>exact(Reps.none _ _));intro eD w13 a9 hb hg_ hnew_;clear hg_ hnew_;(first | rw [← bP.out] at a9 | (simp only [Int.reduceToNat] at a9;rw [← bP.out] at a9));have cB:=q_ (Kd.S_lower (Kd.S_new' (Kd.S_new' a9 (Kd.S_lt (by(with_reducible repeat (first | apply Kd.S_alloc | apply Kd.S_drewN | apply Kd.S_drew));exact(Kd.S_mono (Kd.S_far (p:=⟨af,2,none⟩) (Kd.S_far (p:=⟨af,1,none⟩) (Kd.S_far (p:=⟨af,0,none⟩) (Kd.S_types aK.out aa.out (by decide)) (fun _ hk=>hk.2) (.int .i64 au)) (fun _ hk=>hk.2) (.slice aA ah.length ax)) (fun _ hk=>hk.2) (.slice ay ae.length aq)) (fun _ h_=>h_.1))))) (Kd.R_lt (by(with_reducible repeat (first | apply Kd.R_alloc | apply Kd.R_drewN | apply Kd.R_drew));exact(Kd.R_mono (Kd.R_far (p:=⟨af,2,none⟩) (Kd.R_far (p:=⟨af,1,none⟩) (Kd.R_far (p:=⟨af,0,none⟩) (Kd.R_types aM.out aa.out (by decide)) (fun _ hk=>hk.2) (.int .i64 au)) (fun _ hk=>hk.2) (.slice aA ah.length ax)) (fun _ hk=>hk.2) (.slice ay ae.length aq)) (fun _ h_=>h_.1))))) bz_);replace ag:=q_ (blk_below (g:=az) (o:= .cells #[.slice aN aC.length aQ, .slice aT aD.length aU] 27 (0,0)) (by(with_reducible repeat (first | refine blk_drewN ?_ _ | refine blk_drew ?_ | refine blk_alloc ?_ _));refine blk_far ?_ av.out _;(with_reducible repeat (first | refine blk_drewN ?_ _ | refine blk_drew ?_ | refine blk_alloc ?_ _));refine blk_far ?_ av.out _;(with_reducible repeat (first | refine blk_drewN ?_ _ | refine blk_drew ?_ | refine blk_alloc ?_ _));refine blk_far ?_ av.out _;(with_reducible repeat (first | refine blk_drewN ?_ _ | refine blk_drew ?_ | refine blk_alloc ?_ _));exact ag.out) hb);replace aK:=q_ (Kd.S_elder' (by(with_reducible repeat (first | apply Kd.S_alloc | apply Kd.S_drewN | apply Kd.S_drew));exact(Kd.S_mono (Kd.S_far (p:=⟨af,2,none⟩) (Kd.S_far (p:=⟨af,1,none⟩) (Kd.S_far (p:=⟨af,0,none⟩) (Kd.S_types aK.out aa.out (by decide)) (fun _ hk=>hk.2) (.int .i64 au)) (fun _ hk=>hk.2) (.slice aA ah.length ax)) (fun _ hk=>hk.2) (.slice ay ae.length aq)) (fun _ h_=>h_.1))) (Kd.S_base a9) hb);replace aM:=q_ (Kd.R_below (by(with_reducible repeat (first | apply Kd.R_alloc | apply Kd.R_drewN | apply Kd.R_drew));exact(Kd.R_mono (Kd.R_far (p:=⟨af,2,none⟩) (Kd.R_far (p:=⟨af,1,none⟩) (Kd.R_far (p:=⟨af,0,none⟩) (Kd.R_types aM.out aa.out (by decide)) (fun _ hk=>hk.2) (.int .i64 au)) (fun _ hk=>hk.2) (.slice aA ah.length ax)) (fun _ hk=>hk.2) (.slice ay ae.length aq)) (fun _ h_=>h_.1))) hb);replace HB:=q_ (bs_ hb);replace aa:=q_ (blk_below (g:=af) (o:= .cells #[.int .i64 au, .slice aA ah.length ax, .slice ay ae.length aq] 49 (0,0)) (by(with_reducible repeat (first | refine blk_drewN ?_ _ | refine blk_drew ?_ | refine blk_alloc ?_ _));refine blk_put (cs:= #[.int .i64 au, .slice aA ah.length ax, .slice none 0 0]) ?_ 2 _ rfl;(with_reducible repeat (first | refine blk_drewN ?_ _ | refine blk_drew ?_ | refine blk_alloc ?_ _));refine blk_put (cs:= #[.int .i64 au, .slice none 0 0, .slice none 0 0]) ?_ 1 _ rfl;(with_reducible repeat (first | refine blk_drewN ?_ _ | refine blk_drew ?_ | refine blk_alloc ?_ _));refine blk_put (cs:= #[.int .i64 0, .slice none 0 0, .slice none 0 0]) ?_ 0 _ rfl;(with_reducible repeat (first | refine blk_drewN ?_ _ | refine blk_drew ?_ | refine blk_alloc ?_ _));exact aa.out) hb);clear hb a9))
  go_loopg [8,9] k (fun kq v8 v9 w'=> ∃(aJ:List (List Int)) (ak:Int),v9= .int .i64 ak∧Aside0 (spec_SignsOfPivot.l0 kq aJ ak au ah ae=some (r1,r2))∧Aside0 (kq≤k)∧Aside0 (Kd.S (Kd.slice 2 (Kd.int .i64)) 25 w' w.heap.size (fun k_=>some k_≠((.slice aA ah.length ax):Value).ownBlock∧some k_≠((.slice ay ae.length aq):Value).ownBlock) v8 aJ)∧Aside0 (Kd.S (Kd.slice 2 (Kd.int .i64)) 25 w' w.heap.size (fun k_=>some k_≠(v8:Value).ownBlock∧some k_≠((.slice ay ae.length aq):Value).ownBlock) (.slice aA ah.length ax) ah)∧Aside0 (Kd.R (Kd.int .i64) 2 w' w.heap.size (fun _=>True) (.slice ay ae.length aq) ae)∧Aside0 (w'.heap[az]?=some (.cells #[(.slice aN aC.length aQ),(.slice aT aD.length aU)] 27 (0,0)))∧Aside0 (w'.heap[af]?=some (.cells #[.int .i64 au,(.slice aA ah.length ax),(.slice ay ae.length aq)] 49 (0,0)))∧Aside0 (Below w.heap.size w w'))
  case atStart=>exact⟨(bY),(0),rs_,H',⟨Nat.le_refl _⟩,⟨by(with_reducible repeat (first | apply Kd.S_alloc | apply Kd.S_drewN | apply Kd.S_drew));exact Kd.S_mono cB.out (fun _ hk=>⟨hk.1.2,hk.2⟩)⟩,⟨by(with_reducible repeat (first | apply Kd.S_alloc | apply Kd.S_drewN | apply Kd.S_drew));exact Kd.S_mono aK.out (fun _ hk=>⟨hk.2,hk.1⟩)⟩,⟨ro_ aM.out⟩,⟨bk_⟩,⟨bk_⟩,⟨hb_⟩⟩
  case round=>
   clear H';(try clear c4);(try clear c4b0);(try clear c4b1);(try clear bk);(try clear bq);(try clear bu);(try clear bF);(try clear bG);(try clear bv);(try clear bw);(try clear bz);(try clear bH);(try clear bI);obtain⟨aJ,ak,rfl,HA,HK1,aH,ai,aj,ag,aa,HB⟩:=hrel;cases gk with
   | zero=>exact absurd HA.out (by simp [spec_SignsOfPivot.l0])
   | succ k1=>
    have H:=HA.out;clear HA;simp only [spec_SignsOfPivot.l0] at H
    by_cases c15:ak < (ae.length:Int)
    ·rw [if_pos c15] at H;have c15b0:=decide_eq_true c15;clear c15;obtain⟨bZ,hy⟩: ∃y_:List Int,y_=(([]:List Int)):=⟨_,rfl⟩
     replace H:(spec_SignsOfPivot.l1 k1 aJ ak bZ 0 au ah ae)=some (r1,r2):=hh_;have bQ:=q_ hy;clear hy;have H':=q_ H;clear H;have dV:=aG.out;have dW:=av.out;have bS:=cz_ aa 0;have bT:=cz_ aa 1;have bU:=cz_ aa 2;have bV:=blk_frozen aa.out 0;have bW:=blk_frozen aa.out 1;have bX:=blk_frozen aa.out 2
     go_wp2_with (first | ((with_reducible refine gate_dst (N:=29) rfl ?_);refine Kd.R_lit (Kd.int .i64) _ 2 ?hg (N:=29) ?hd (xs:=([]:List Int)) (inner:= []) (ok:=fun _=>True) (okp:=fun _=>True) ?hr ?hp (fun _ hk=>hk) trivial (Below.refl _ _) (Nat.le_refl _) (by simp) ?_;(case hd=>rfl);(case hg=>rfl);(case hr=>first | (go_simp;done) | (go_simp;rfl));(case hp=>exact(Reps.none _ _));intro eF w18 aY hb hg_ hnew_;clear hg_ hnew_;(first | rw [← bQ.out] at aY | (simp only [Int.reduceToNat] at aY;rw [← bQ.out] at aY));replace aH:=q_ (Kd.S_elder' (so_ aH.out) (Kd.R_base aY) hb);replace ai:=q_ (Kd.S_elder' (so_ ai.out) (Kd.R_base aY) hb);have cC:=q_ (Kd.R_lower (Kd.R_new' aY (Kd.R_lt (ro_ aj.out))) bz_);replace ag:=q_ (bb_ ag.out hb);replace aa:=q_ (bb_ aa.out hb);replace aj:=q_ (Kd.R_elder' (ro_ aj.out) (Kd.R_base aY) hb);replace HB:=q_ (bs_ hb);clear hb aY))
     go_loopg [10,11] k1 (fun kq v10 v11 w'=> ∃(aI:List Int) (aw:Int),v11= .int .i64 aw∧Aside0 (spec_SignsOfPivot.l1 kq aJ ak aI aw au ah ae=some (r1,r2))∧Aside0 (kq≤k1)∧Aside0 (Kd.S (Kd.slice 2 (Kd.int .i64)) 25 w' w.heap.size (fun k_=>some k_≠(v10:Value).ownBlock∧some k_≠((.slice aA ah.length ax):Value).ownBlock∧some k_≠((.slice ay ae.length aq):Value).ownBlock) u8 aJ)∧Aside0 (Kd.R (Kd.int .i64) 2 w' w.heap.size (fun k_=>some k_≠((.slice ay ae.length aq):Value).ownBlock) v10 aI)∧Aside0 (Kd.S (Kd.slice 2 (Kd.int .i64)) 25 w' w.heap.size (fun k_=>some k_≠(u8:Value).ownBlock∧some k_≠(v10:Value).ownBlock∧some k_≠((.slice ay ae.length aq):Value).ownBlock) (.slice aA ah.length ax) ah)∧Aside0 (Kd.R (Kd.int .i64) 2 w' w.heap.size (fun k_=>some k_≠(v10:Value).ownBlock) (.slice ay ae.length aq) ae)∧Aside0 (w'.heap[az]?=some (.cells #[(.slice aN aC.length aQ),(.slice aT aD.length aU)] 27 (0,0)))∧Aside0 (w'.heap[af]?=some (.cells #[.int .i64 au,(.slice aA ah.length ax),(.slice ay ae.length aq)] 49 (0,0)))∧Aside0 (Below w.heap.size w w'))
     case atStart=>exact⟨(bZ),(0),rs_,H',⟨Nat.le_refl _⟩,⟨by(with_reducible repeat (first | apply Kd.S_alloc | apply Kd.S_drewN | apply Kd.S_drew));exact Kd.S_mono aH.out (fun _ hk=>⟨hk.2,⟨hk.1.1,hk.1.2⟩⟩)⟩,⟨by(with_reducible repeat (first | apply Kd.R_alloc | apply Kd.R_drewN | apply Kd.R_drew));exact Kd.R_mono cC.out (fun _ hk=>hk.2)⟩,⟨by(with_reducible repeat (first | apply Kd.S_alloc | apply Kd.S_drewN | apply Kd.S_drew));exact Kd.S_mono ai.out (fun _ hk=>⟨hk.1.1,⟨hk.2,hk.1.2⟩⟩)⟩,⟨by(with_reducible repeat (first | apply Kd.R_alloc | apply Kd.R_drewN | apply Kd.R_drew));exact Kd.R_mono aj.out (fun _ hk=>hk.2)⟩,⟨bk_⟩,⟨bk_⟩,⟨hb_⟩⟩
     case round=>
      clear H';(try clear c4);(try clear c4b0);(try clear c4b1);(try clear c15b0);(try clear bk);(try clear bq);(try clear bu);(try clear bS);(try clear bT);(try clear bU);(try clear bF);(try clear bG);(try clear bv);(try clear bw);(try clear bz);(try clear bV);(try clear bW);(try clear bX);(try clear bH);(try clear bI);obtain⟨aI,aw,rfl,HA,HK2,aH,aV,ai,aj,ag,aa,HB⟩:=hrel;cases gk with
      | zero=>exact absurd HA.out (by simp [spec_SignsOfPivot.l1])
      | succ k2=>
       have H:=HA.out;clear HA;simp only [spec_SignsOfPivot.l1] at H
       by_cases c20:aw < (ae.length:Int)
       ·rw [if_pos c20] at H;have c20b0:=decide_eq_true c20;clear c20
        by_cases c21:0≤ak
        ·rw [if_pos c21] at H;have c21b0:=decide_eq_true c21;clear c21
         by_cases c22:ak < (ah.length:Int)
         ·rw [if_pos c22] at H;have c22b0:=decide_eq_true c22;clear c22
          by_cases c23:0≤aw
          ·rw [if_pos c23] at H;have c23b0:=decide_eq_true c23;clear c23
           by_cases c24:aw < ((rd_L2 ah ak).length:Int)
           ·rw [if_pos c24] at H;have c24b0:=decide_eq_true c24;clear c24;replace H:=Option.bind_eq_some_iff.mp H;obtain⟨bg,A250,H⟩:=H;replace H:(if aI.length < 17592186044416 then(spec_SignsOfPivot.l1 k2 aJ ak (aI++ [bg]) (wrap64 (aw+1)) au ah ae) else(none))=some (r1,r2):=H;have A25:=q_ A250;clear A250
            by_cases c26:aI.length < 17592186044416
            ·rw [if_pos c26] at H;have cD:=q_ c26;clear c26;obtain⟨cf,hy⟩: ∃y_:List Int,y_=(aI++ [bg]):=⟨_,rfl⟩
             replace H:(spec_SignsOfPivot.l1 k2 aJ ak cf (wrap64 (aw+1)) au ah ae)=some (r1,r2):=hh_;have cE:=q_ hy;clear hy;have H':=q_ H;clear H;have dX:=aG.out;have dY:=av.out;have cU:=cz_ aa 0;have cV:=cz_ aa 1;have cZ:=cz_ aa 2;have da:=blk_frozen aa.out 0;have df:=blk_frozen aa.out 1;have dh:=blk_frozen aa.out 2;have p668:0≤(ak:Int):=od_;have q668:ak < (ah.length:Int):=od_;obtain⟨bR,dQ,dU,e668,hx668_0,hl668_0,hi668_0⟩:=at_L2 (Kd.S_reads' ai.out).2.2 ak p668 q668;cases e668
             obtain⟨ce668,hce668,hMe668,hcc668⟩:=Kd.S_get ai.out [] ak p668 (by first | exact q668 | exact od_ | (have e_:=(Kd.S_reads' ai.out).1;omega));obtain⟨ve668_0,rfl,ge668_0⟩:=hMe668;have hv668_0:=hcc668 0 _ rfl;rw [Nat.add_zero,show ((Kd.slice 2 (Kd.int .i64))).sz=1 from rfl,Nat.mul_one] at hv668_0;replace hv668_0:=Option.some.inj (hv668_0.symm.trans hx668_0);rw [hv668_0] at ge668_0;have HL668_0:=q_ (show Kd.R (Kd.int .i64) 2 _ _ _ _ (rd_L2 ah ak) from ge668_0);clear hv668_0 ge668_0 hcc668 hce668;have HR668_0:=q_ hi668_0;have HC668_0:=q_ hl668_0;clear hi668_0 hl668_0;replace p668:=eq_true p668;replace q668:=eq_true q668;have p669:0≤(aw:Int):=od_;have q669:aw < ((rd_L2 ah ak).length:Int):=od_;obtain⟨dZ,e669,hx669_0⟩:=Kd.at_int (by repeat (first | (with_reducible exact HR668_0.out) | (with_reducible refine Kd.C_alloc ?_ _) | (with_reducible refine Kd.C_drewN ?_ _) | (with_reducible refine Kd.C_drew ?_) | exact HR668_0.out)) aw p669 q669;cases e669
             replace p669:=eq_true p669;replace q669:=eq_true q669
             go_wp2_with (first | ((with_reducible refine gate_callee (f:=66) rfl ?_);refine gL_ 46 Try.func66 #[.int .i64 (rd (rd_L2 ah ak) aw)] ?_;(with_reducible refine(spec_l04Sign.calls (rd (rd_L2 ah ak) aw) bg _ A25.out).mono ?_);rintro e w' ⟨rfl,⟨nd,rfl⟩⟩;refine⟨_,rfl,?_⟩) | ((with_reducible refine gate_builtin (b:= .append) (xs:= #[.tmp 37, .tmp 47]) rfl ?_);at_builtin;refine Kd.R_append (Kd.int .i64) (w0:=w) w.heap.size rfl (.tmp 37) (.tmp 47) 25 2 (.int .i64 0) 8 rfl Try.underlying25 info2 rfl (by decide) (by omega) u10 aI bg [.int .i64 bg] (fun k_=>some k_≠(.slice ay ae.length aq:Value).ownBlock) (fun _=>False) rfl rfl ?aP (fun _ hk=>hk.elim) ?aF ?aO ?aB ?aS ?aL ?_;(case aP=>exact rfl);(case aB=>exact hb_);(case aF=>exact(fun k_ hk=>Kd.fresh' (Kd.R_lt (ro_ aj.out)) k_ hk));(case aO=>exact(ro_ aV.out));(case aS=>exact bz_);(case aL=>have:=cD.out;omega);intro eG w29 ho hb hg hat;rw [← cE.out] at ho;replace aH:=q_ (Kd.S_after (ok:=(fun k_=>some k_≠(.slice (some bR) ah.length ax:Value).ownBlock∧some k_≠(.slice ay ae.length aq:Value).ownBlock)) (by(with_reducible repeat (first | apply Kd.S_alloc | apply Kd.S_drewN | apply Kd.S_drew));exact Kd.S_mono aH.out (fun _ hk=>⟨⟨hk.2.1,hk.2.2⟩,hk.1⟩)) hg hat);replace ai:=q_ (Kd.S_after (ok:=(fun k_=>some k_≠(u8:Value).ownBlock∧some k_≠(.slice ay ae.length aq:Value).ownBlock)) (by(with_reducible repeat (first | apply Kd.S_alloc | apply Kd.S_drewN | apply Kd.S_drew));exact Kd.S_mono ai.out (fun _ hk=>⟨⟨hk.1,hk.2.2⟩,hk.2.1⟩)) hg hat);replace aj:=q_ (Kd.R_after (ok:=(fun _=>True)) (by(with_reducible repeat (first | apply Kd.R_alloc | apply Kd.R_drewN | apply Kd.R_drew));exact Kd.R_mono aj.out (fun _ hk=>⟨trivial,hk⟩)) hg hat);replace ag:=q_ (bg_ ag.out hg (Kd.R_ne aV.out ag.out (by decide)));replace aa:=q_ (bg_ aa.out hg (Kd.R_ne aV.out aa.out (by decide)));replace HL668_0:=q_ (Kd.R_after (ok:=(fun k_=>some k_≠(u8:Value).ownBlock∧some k_≠(.slice (some bR) ah.length ax:Value).ownBlock∧some k_≠(.slice ay ae.length aq:Value).ownBlock)) (by(with_reducible repeat (first | apply Kd.R_alloc | apply Kd.R_drewN | apply Kd.R_drew));exact Kd.R_mono HL668_0.out (fun _ hk=>⟨⟨hk.1.1,⟨hk.2,hk.1.2.2⟩⟩,hk.1.2.1⟩)) hg hat);replace HB:=q_ (hb);have cF:=q_ (ho);clear aV ho hb hg hat))
             go_roundg k2
             case measure=>have:=HK1.out;have:=HK2.out;omega
             case rel=>exact⟨(cf),(wrap64 (aw+1)),rs_,H',⟨by have:=HK1.out;have:=HK2.out;omega⟩,⟨by(with_reducible repeat (first | apply Kd.S_alloc | apply Kd.S_drewN | apply Kd.S_drew));exact Kd.S_mono aH.out (fun _ hk=>⟨hk.2,⟨hk.1.1,hk.1.2⟩⟩)⟩,⟨ro_ cF.out⟩,⟨by(with_reducible repeat (first | apply Kd.S_alloc | apply Kd.S_drewN | apply Kd.S_drew));exact Kd.S_mono ai.out (fun _ hk=>⟨hk.1.1,⟨hk.2,hk.1.2⟩⟩)⟩,⟨by(with_reducible repeat (first | apply Kd.R_alloc | apply Kd.R_drewN | apply Kd.R_drew));exact Kd.R_mono aj.out (fun _ hk=>hk.2)⟩,⟨bk_⟩,⟨bk_⟩,⟨hb_⟩⟩
            ·rw [if_neg c26] at H;exact absurd H (by simp)
           ·rw [if_neg c24] at H;exact absurd H (by simp)
          ·rw [if_neg c23] at H;exact absurd H (by simp)
         ·rw [if_neg c22] at H;exact absurd H (by simp)
        ·rw [if_neg c21] at H;exact absurd H (by simp)
       ·rw [if_neg c20] at H;have c20b0:=decide_eq_false c20;clear c20
        by_cases c30:0≤ak
        ·rw [if_pos c30] at H;have c30b0:=decide_eq_true c30;clear c30
         by_cases c31:ak < (ae.length:Int)
         ·rw [if_pos c31] at H;have c31b0:=decide_eq_true c31;clear c31;replace H:=Option.bind_eq_some_iff.mp H;obtain⟨bh,A320,H⟩:=H;replace H:(if aI.length < 17592186044416 then(if aJ.length < 5864062014805 then(spec_SignsOfPivot.l0 k2 (aJ++ [(aI++ [bh])]) (wrap64 (ak+1)) au ah ae) else(none)) else(none))=some (r1,r2):=H;have A32:=q_ A320;clear A320
          by_cases c33:aI.length < 17592186044416
          ·rw [if_pos c33] at H;have cG:=q_ c33;clear c33;obtain⟨ba,hy⟩: ∃y_:List Int,y_=(aI++ [bh]):=⟨_,rfl⟩
           replace H:(if aJ.length < 5864062014805 then(spec_SignsOfPivot.l0 k2 (aJ++ [ba]) (wrap64 (ak+1)) au ah ae) else(none))=some (r1,r2):=hh_;have cH:=q_ hy;clear hy
           by_cases c34:aJ.length < 5864062014805
           ·rw [if_pos c34] at H;have cI:=q_ c34;clear c34;obtain⟨cg,hy⟩: ∃y_:List (List Int),y_=(aJ++ [ba]):=⟨_,rfl⟩
            replace H:(spec_SignsOfPivot.l0 k2 cg (wrap64 (ak+1)) au ah ae)=some (r1,r2):=hh_;have cJ:=q_ hy;clear hy;have H':=q_ H;clear H;have d9:=aG.out;have ed:=av.out;have di:=cz_ aa 0;have dl:=cz_ aa 1;have dr:=cz_ aa 2;have du:=blk_frozen aa.out 0;have dw:=blk_frozen aa.out 1;have dx:=blk_frozen aa.out 2;have p674:0≤(ak:Int):=od_;have q674:ak < (ae.length:Int):=od_;obtain⟨aX,e674,hx674_0⟩:=Kd.at_int (Kd.R_reads' aj.out).2.2 ak p674 q674;cases e674
            replace p674:=eq_true p674;replace q674:=eq_true q674
            go_wp2_with (first | ((with_reducible refine gate_callee (f:=66) rfl ?_);refine gL_ 56 Try.func66 #[.int .i64 (rd ae ak)] ?_;(with_reducible refine(spec_l04Sign.calls (rd ae ak) bh _ A32.out).mono ?_);rintro e w' ⟨rfl,⟨nd,rfl⟩⟩;refine⟨_,rfl,?_⟩) | ((with_reducible refine gate_builtin (b:= .append) (xs:= #[.tmp 50, .tmp 57]) rfl ?_);at_builtin;refine Kd.R_append (Kd.int .i64) (w0:=w) w.heap.size rfl (.tmp 50) (.tmp 57) 25 2 (.int .i64 0) 8 rfl Try.underlying25 info2 rfl (by decide) (by omega) u10 aI bh [.int .i64 bh] (fun k_=>some k_≠(.slice (some aX) ae.length aq:Value).ownBlock) (fun _=>False) rfl rfl ?aP (fun _ hk=>hk.elim) ?aF ?aO ?aB ?aS ?aL ?_;(case aP=>exact rfl);(case aB=>exact hb_);(case aF=>exact(fun k_ hk=>Kd.fresh' (Kd.R_lt (ro_ aj.out)) k_ hk));(case aO=>exact(ro_ aV.out));(case aS=>exact bz_);(case aL=>have:=cG.out;omega);intro eH w37 ho hb hg hat;rw [← cH.out] at ho;replace aH:=q_ (Kd.S_after (ok:=(fun k_=>some k_≠(.slice aA ah.length ax:Value).ownBlock∧some k_≠(.slice (some aX) ae.length aq:Value).ownBlock)) (by(with_reducible repeat (first | apply Kd.S_alloc | apply Kd.S_drewN | apply Kd.S_drew));exact Kd.S_mono aH.out (fun _ hk=>⟨⟨hk.2.1,hk.2.2⟩,hk.1⟩)) hg hat);replace ai:=q_ (Kd.S_after (ok:=(fun k_=>some k_≠(u8:Value).ownBlock∧some k_≠(.slice (some aX) ae.length aq:Value).ownBlock)) (by(with_reducible repeat (first | apply Kd.S_alloc | apply Kd.S_drewN | apply Kd.S_drew));exact Kd.S_mono ai.out (fun _ hk=>⟨⟨hk.1,hk.2.2⟩,hk.2.1⟩)) hg hat);replace aj:=q_ (Kd.R_after (ok:=(fun _=>True)) (by(with_reducible repeat (first | apply Kd.R_alloc | apply Kd.R_drewN | apply Kd.R_drew));exact Kd.R_mono aj.out (fun _ hk=>⟨trivial,hk⟩)) hg hat);replace ag:=q_ (bg_ ag.out hg (Kd.R_ne aV.out ag.out (by decide)));replace aa:=q_ (bg_ aa.out hg (Kd.R_ne aV.out aa.out (by decide)));replace HB:=q_ (hb);have bf:=q_ (ho);clear aV ho hb hg hat;obtain⟨bJ,bK,cQ⟩:=Kd.R_slice bf.out;subst cQ) | ((with_reducible refine gate_builtin (b:= .append) (xs:= #[.tmp 49, .tmp 59]) rfl ?_);at_builtin;refine Kd.S_append (Kd.slice 2 (Kd.int .i64)) (w0:=w) w.heap.size rfl (.tmp 49) (.tmp 59) 24 25 (.slice none 0 0) 24 rfl Try.underlying24 info25 rfl (by decide) (by omega) u8 aJ ba [.slice bJ ba.length bK] (fun k_=>some k_≠(.slice aA ah.length ax:Value).ownBlock∧some k_≠(.slice (some aX) ae.length aq:Value).ownBlock) (fun k_=>some k_=(.slice bJ ba.length bK:Value).ownBlock) rfl rfl ?aP (fun k_ hk_=>((Kd.R_mono (ok':=fun k_=>((fun k_=>some k_≠(.slice aA ah.length ax:Value).ownBlock∧some k_≠(.slice (some aX) ae.length aq:Value).ownBlock)) k_∧some k_≠(u8:Value).ownBlock) (Kd.R_apart' (Kd.R_apart' (bf.out) (Kd.S_typed ai.out) (by decide)) (Kd.S_typed aH.out) (by decide)) (fun k_ hk=>⟨⟨hk.1.2,hk.1.1⟩,hk.2⟩))).1 k_ hk_.symm) ?aF ?aO ?aB ?aS ?aL ?_;(case aP=>exact Kd.M_row (Kd.R_mono (Kd.R_tight rfl (Kd.R_mono (ok':=fun k_=>((fun k_=>some k_≠(.slice aA ah.length ax:Value).ownBlock∧some k_≠(.slice (some aX) ae.length aq:Value).ownBlock)) k_∧some k_≠(u8:Value).ownBlock) (Kd.R_apart' (Kd.R_apart' (bf.out) (Kd.S_typed ai.out) (by decide)) (Kd.S_typed aH.out) (by decide)) (fun k_ hk=>⟨⟨hk.1.2,hk.1.1⟩,hk.2⟩))) (fun _ h_=>h_)));(case aB=>exact hb_);(case aF=>exact(fun k_ hk=>⟨Kd.fresh' (Kd.S_lt (so_ ai.out)) k_ hk,Kd.fresh' (Kd.R_lt (ro_ aj.out)) k_ hk⟩));(case aO=>exact(by(with_reducible repeat (first | apply Kd.S_alloc | apply Kd.S_drewN | apply Kd.S_drew));exact Kd.S_mono aH.out (fun k_ hk=>⟨⟨hk.1.1,hk.1.2⟩,fun e_=>hk.2 e_⟩)));(case aS=>exact bz_);(case aL=>have:=cI.out;omega);intro eI w38 ho hb hg hat;rw [← cJ.out] at ho;replace ai:=q_ (Kd.S_after (ok:=(fun k_=>some k_≠(.slice (some aX) ae.length aq:Value).ownBlock∧some k_≠(.slice bJ ba.length bK:Value).ownBlock)) (by(with_reducible repeat (first | apply Kd.S_alloc | apply Kd.S_drewN | apply Kd.S_drew));exact Kd.S_mono ai.out (fun _ hk=>⟨⟨hk.1.2,hk.2⟩,hk.1.1⟩)) hg hat);replace aj:=q_ (Kd.R_over' (ro_ aj.out) (Kd.S_typed (so_ aH.out)) (by decide) hg);replace ag:=q_ (bg_ ag.out hg (Kd.S_ne aH.out ag.out (by decide)));replace aa:=q_ (bg_ aa.out hg (Kd.S_ne aH.out aa.out (by decide)));replace HB:=q_ (hb);have cK:=q_ (ho);clear aH bf ho hb hg hat))
            go_roundg k2
            case measure=>have:=HK1.out;have:=HK2.out;omega
            case rel=>exact⟨(cg),(wrap64 (ak+1)),rs_,H',⟨by have:=HK1.out;have:=HK2.out;omega⟩,⟨so_ cK.out⟩,⟨by(with_reducible repeat (first | apply Kd.S_alloc | apply Kd.S_drewN | apply Kd.S_drew));exact Kd.S_mono ai.out (fun _ hk=>⟨hk.2,hk.1.1⟩)⟩,⟨by(with_reducible repeat (first | apply Kd.R_alloc | apply Kd.R_drewN | apply Kd.R_drew));exact Kd.R_mono aj.out (fun _ hk=>trivial)⟩,⟨bk_⟩,⟨bk_⟩,⟨hb_⟩⟩
           ·rw [if_neg c34] at H;exact absurd H (by simp)
          ·rw [if_neg c33] at H;exact absurd H (by simp)
         ·rw [if_neg c31] at H;exact absurd H (by simp)
        ·rw [if_neg c30] at H;exact absurd H (by simp)
    ·rw [if_neg c15] at H;have c15b0:=decide_eq_false c15;clear c15;simp only [Option.some.injEq,Prod.mk.injEq] at H;obtain⟨rfl,rfl⟩:=H;have ek:=aG.out;have ep:=av.out;have dz:=cz_ aa 0;have dA:=cz_ aa 1;have dB:=cz_ aa 2;have dC:=blk_frozen aa.out 0;have dD:=blk_frozen aa.out 1;have dE:=blk_frozen aa.out 2;go_wp2
     go_ret2
     exact⟨_,by first | rfl | (simp [errW_none,errW_some] <;> rfl) | (simp [*,errW_none,errW_some] <;> rfl),by(with_reducible repeat (first | apply Kd.S_alloc | apply Kd.S_drewN | apply Kd.S_drew));exact Kd.S_mono aH.out (fun _ hk=>trivial),hb_⟩
 ·rw [if_neg c4] at H;have c4b0:=e3_ c4;have c4b1:=e4_ c4;simp only [Option.some.injEq,Prod.mk.injEq] at H;obtain⟨rfl,rfl⟩:=H
  go_enter Try.func34,Try.ntmps34
  go_wp2_with (first | ((with_reducible refine gate_dst (N:=2) rfl ?_);refine be_ 2 #[.slice aN aC.length aQ, .slice aT aD.length aU] 27 ?_;intro az hg w42 hbox hb;have ag:=q_ (hbox);have cm:=q_ ((by rw [hg];exact bz_:w.heap.size≤az));have cu:=q_ ((by rw [hg];exact bz_:w.heap.size≤az));replace HB:=q_ (bs_ hb);clear hb hbox hg;have dF:=cz_ ag 0;have dG:=cz_ ag 1;have dH:=blk_frozen ag.out 0;have dI:=blk_frozen ag.out 1) | ((with_reducible refine gate_callee (f:=23) rfl ?_);refine gL_ 15 Try.func23 #[.agg #[.slice aN aC.length aQ, .slice aT aD.length aU], .int .i64 a1] ?_;(with_reducible refine(spec_PivotOf.calls k _ _ aC _ _ aD a1 au ah ae aW _ ?bA ?bC ?bD ?bE A3.out).mono ?_);(case bA=>exact cb_ HR0_0.out HB.out);(case bC=>exact HC0_0.out);(case bD=>exact cb_ HR0_1.out HB.out);(case bE=>exact HC0_1.out);rintro e w44 ⟨cL,cN,rfl,ho0,ho1,hb⟩;refine⟨_,rfl,?_⟩;have aK:=q_ (Kd.S_lower ho0 bz_);have aM:=q_ (Kd.R_lower ho1 bz_);replace ag:=q_ (bb_ ag.out hb);replace HB:=q_ (bs_ hb);(try clear hb);(try clear hk);(try clear ho0);(try clear ho1)) | ((with_reducible refine gate_dst (N:=6) rfl ?_);refine be_ 6 #[.int .i64 0, .slice none 0 0, .slice none 0 0] 49 ?_;intro af hg w45 hbox hb;replace aK:=q_ (Kd.S_below (so_ aK.out) hb);replace aM:=q_ (rb_ aM.out hb);have aa:=q_ (hbox);have cz:=q_ ((by rw [hg];exact bz_:w.heap.size≤af));have cA:=q_ ((by rw [hg];exact bz_:w.heap.size≤af));have av:=q_ ((by rw [hg];exact lt_ ag.out:az≠af));have aG:=q_ ((by rw [hg];exact gt_ ag.out:af≠az));replace ag:=q_ (bb_ ag.out hb);replace HB:=q_ (bs_ hb);clear hb hbox hg;have eu:=aG.out;have ez:=av.out;have dJ:=cz_ aa 0;have dK:=cz_ aa 1;have dL:=cz_ aa 2;have dM:=blk_frozen aa.out 0;have dN:=blk_frozen aa.out 1;have dP:=blk_frozen aa.out 2;obtain⟨eJ,eK,cR⟩:=Kd.S_slice aK.out;subst cR;obtain⟨eL,eM,cT⟩:=Kd.R_slice aM.out;subst cT))
  go_ret2
  exact⟨_,by first | rfl | (simp [errW_none,errW_some] <;> rfl) | (simp [*,errW_none,errW_some] <;> rfl),by first | exact Kd.S_nil _ _ _ _ _ | exact Kd.N_nil _ _ _ _ _ | exact Kd.V_nil _ _ _ _ _ | exact Kd.Q_nil _ _ _ _ _ | exact Kd.R_nil _ _ _ _ _,hb_⟩
end Go.Proofs.Ytbjljcpngbhkeaa.Pr
end
section
namespace Go.Proofs.Ytbjljcpngbhkeaa.Pp
open Go.RowKit Go.Proofs.YtbjljcpngbhkeaaW.PrintWords Go.Proofs.YtbjljcpngbhkeaaW.PrintMore Go.Proofs.Ytbjljcpngbhkeaa.Ma Go.Proofs.Ytbjljcpngbhkeaa.Pr Go.Proofs.Ytbjljcpngbhkeaa.Dt Go.Proofs.Ytbjljcpngbhkeaa.Bz Go.Proofs.Ytbjljcpngbhkeaa.Un Go.Proofs.Ytbjljcpngbhkeaa.Cz Go.Proofs.Ytbjljcpngbhkeaa.Pb Go.Proofs.Ytbjljcpngbhkeaa.Mn Go.Proofs.Ytbjljcpngbhkeaa.Sv Go.Proofs.Ytbjljcpngbhkeaa.Pv Go.Proofs.Ytbjljcpngbhkeaa.La Go.Proofs.Ytbjljcpngbhkeaa.Hm
theorem impl_sg (x:Int):impl_sign.f x=some (sgn x):=by unfold impl_sign.f sgn;split;rfl;split <;> rfl
theorem spec_sg (x:Int):spec_l04Sign.f x=some (sgn x):=by unfold spec_l04Sign.f sgn;split;rfl;split <;> rfl
def sgL (x:List Int):List Int:=x.map sgn
def sgR (R:List (List Int)) (S:List Int) (r:Nat):List (List Int):=(List.range r).map fun i=>sgL (R.getD i [])++ [sgn (S.getD i 0)]
theorem sgR_succ (R:List (List Int)) (S:List Int) (r:Nat):sgR R S (r+1)=sgR R S r++ [sgL (R.getD r [])++ [sgn (S.getD r 0)]]:=by simp [sgR,List.range_succ]
theorem sgR_len (R:List (List Int)) (S:List Int) (r:Nat):(sgR R S r).length=r:=by simp [sgR]
theorem sgL_len (x:List Int):(sgL x).length=x.length:=by simp [sgL]
theorem signs_eq (x:List Int) (hx:x.length≤5):Ev (fun k=>impl_signs.f k x) (sgL x):=by
 have go: ∀q i,i+q=x.length→Ev (fun k=>impl_signs.l0 k ((List.range x.length).map fun u=>if u < i then sgn (x.getD u 0) else 0) x (x.length:Int) (i:Int)) (sgL x):=by
  intro q
  induction q with
  | zero=>
   intro i hi
   refine evstep (fun k=>by rw [impl_signs.l0]) (evneg (by omega) ?_)
   rw [show ((List.range x.length).map fun u=>if u < i then sgn (x.getD u 0) else 0)=sgL x from by
    apply List.ext_getElem
    ·simp [sgL]
    ·intro u h1 h2
     have hu:u < x.length:=by simpa using h1
     simp [sgL,show u < i by omega,hu]]
   exact evc rfl
  | succ q ih=>
   intro i hi
   have nx:=ih (i+1) (by omega)
   refine evstep (fun k=>by rw [impl_signs.l0]) (evpos (by omega) (evpos (by omega) (evpos (by omega) (evsome (impl_sg _) ?_))))
   refine evpos (by rw [List.length_map,List.length_range];omega) ?_
   rw [w64 (x:=(i:Int)+1) (by omega) (by omega),rd_nat,Int.toNat_natCast]
   rw [show ((List.range x.length).map fun u=>if u < i then sgn (x.getD u 0) else 0).set i (sgn (x.getD i 0))=(List.range x.length).map fun u=>if u < i+1 then sgn (x.getD u 0) else 0 from by
    apply List.ext_getElem
    ·simp
    ·intro u h1 h2
     rw [List.getElem_set]
     simp only [List.getElem_map,List.getElem_range]
     by_cases e:i=u
     ·subst e;rw [if_pos rfl,if_pos (show i < i+1 by omega)]
     ·rw [if_neg e]
      by_cases c:u < i
      ·rw [if_pos c,if_pos (show u < i+1 by omega)]
      ·rw [if_neg c,if_neg (show ¬ u < i+1 by omega)]]
   exact nx
 unfold impl_signs.f
 refine evpos (by omega) (evpos (by omega) ?_)
 rw [Int.toNat_natCast,show List.replicate x.length (0:Int)=(List.range x.length).map fun u=>if u < 0 then sgn (x.getD u 0) else 0 from by
  apply List.ext_getElem
  ·simp
  ·intro u h1 h2;simp]
 exact go x.length 0 (by omega)
section
variable {n:Nat} (hn:n≤5) (R:List (List Int)) (S:List Int) (hR:R.length=n) (hr: ∀x ∈ R,x.length=n) (hS:S.length=n)
include hn hR hr hS
theorem row_len {i:Nat} (hi:i < n):(R.getD i []).length=n:=by
 have _h:=hn;have _s:=hS
 rw [List.getD_eq_getElem?_getD,List.getElem?_eq_getElem (by omega)]
 exact hr _ (List.getElem_mem (by omega))
theorem impl_signs_loop (den:Int): ∀q i,i+q=n→Ev (fun k=>impl_SignsOfPivot.l0 k (sgR R S i) R (n:Int) (i:Int) den R S) (sgR R S n,0):=by
 intro q
 induction q with
 | zero=>
  intro i hi
  obtain rfl:i=n:=by omega
  exact evstep (fun k=>by rw [impl_SignsOfPivot.l0]) (evneg (by omega) (evc rfl))
 | succ q ih=>
  intro i hi
  have nx:=ih (i+1) (by omega)
  have hl:=row_len hn R S hR hr hS (i:=i) (by omega)
  refine evstep (fun k=>by rw [impl_SignsOfPivot.l0]) (evpos (by omega) (evpos (by omega) (evpos (by omega) ?_)))
  rw [rdL1]
  refine evbind (signs_eq _ (by omega)) (evpos (by omega) (evsome (impl_sg _) ?_))
  refine evpos (by rw [sgL_len];omega) (evpos (by rw [sgR_len];omega) ?_)
  rw [w64 (x:=(i:Int)+1) (by omega) (by omega),rd_nat, ← sgR_succ]
  exact nx
theorem spec_signs_loop (den:Int): ∀q i,i+q=n→Ev (fun k=>spec_SignsOfPivot.l0 k (sgR R S i) (i:Int) den R S) (sgR R S n,0):=by
 intro q
 induction q with
 | zero=>
  intro i hi
  obtain rfl:i=n:=by omega
  exact evstep (fun k=>by rw [spec_SignsOfPivot.l0]) (evneg (by omega) (evc rfl))
 | succ q ih=>
  intro i hi
  have nx:=ih (i+1) (by omega)
  have hl:=row_len hn R S hR hr hS (i:=i) (by omega)
  have cols: ∀p c,c+p=n→Ev (fun k=>spec_SignsOfPivot.l1 k (sgR R S i) (i:Int) (sgL ((R.getD i []).take c)) (c:Int) den R S) (sgR R S n,0):=by
   intro p
   induction p with
   | zero=>
    intro c hc
    obtain rfl:c=n:=by omega
    refine evstep (fun k=>by rw [spec_SignsOfPivot.l1]) (evneg (by omega) (evpos (by omega) (evpos (by omega) (evsome (spec_sg _) ?_))))
    refine evpos (by rw [sgL_len,List.length_take];omega) (evpos (by rw [sgR_len];omega) ?_)
    rw [w64 (x:=(i:Int)+1) (by omega) (by omega),rd_nat,List.take_of_length_le (by omega), ← sgR_succ]
    exact nx
   | succ p ihp=>
    intro c hc
    have nx2:=ihp (c+1) (by omega)
    refine evstep (fun k=>by rw [spec_SignsOfPivot.l1]) (evpos (by omega) (evpos (by omega) (evpos (by omega) (evpos (by omega) ?_))))
    rw [rdL1]
    refine evpos (by omega) (evsome (spec_sg _) ?_)
    refine evpos (by rw [sgL_len,List.length_take];omega) ?_
    rw [w64 (x:=(c:Int)+1) (by omega) (by omega),rd_nat]
    rw [List.take_succ_eq_append_getElem (by omega)] at nx2
    unfold sgL at nx2 ⊢
    rw [List.map_append] at nx2
    rw [show (R.getD i []).getD c 0=(R.getD i [])[c]'(by omega) from by rw [List.getD_eq_getElem?_getD (l:=R.getD i []),List.getElem?_eq_getElem (by omega)];rfl]
    exact nx2
  refine evstep (fun k=>by rw [spec_SignsOfPivot.l0]) (evpos (by omega) ?_)
  exact cols n 0 (by omega)
end
theorem sgR_few {n:Nat} (hn:n≤5) (R:List (List Int)) (S:List Int) (hr: ∀i,i < n→(R.getD i []).length=n):Few (sgR R S n):=by
 refine⟨by rw [sgR_len];exact hn,fun x hx=>?_⟩
 obtain⟨i,hi,rfl⟩:=List.mem_map.1 hx
 have:=hr i (List.mem_range.1 hi)
 rw [List.length_append,sgL_len]
 simp only [List.length_cons,List.length_nil]
 omega
theorem signs (M:List (List Int)) (Q:List Int) (s:Int) (hQ:Q.length≤1048576): ∃R:List (List Int) × Int,Ev (fun k=>spec_SignsOfPivot.f k M Q s) R∧Ev (fun k=>impl_SignsOfPivot.f k M Q s) R∧Few R.1:=by
 have ip:=impl_pivotOf_eq M Q s
 have sp:=spec_PivotOf_eq M Q s hQ
 unfold impl_SignsOfPivot.f spec_SignsOfPivot.f
 by_cases c:(pvO M Q s).2.2.2=0
 ·have hc:codeS M Q s=0∧ ¬ det M.length (Cm s M)=0:=by
   unfold pvO at c
   by_cases c1:codeS M Q s=0
   ·rw [if_pos c1] at c
    refine⟨c1,fun d=>?_⟩
    rw [if_pos d] at c
    exact absurd c (by decide)
   ·rw [if_neg c1] at c;exact absurd c c1
  obtain⟨p,_⟩:=code_zero hc.1
  have h5:=p.mat.n5
  have e:pvO M Q s=(ab (det M.length (Cm s M)),pvR M.length M s,pvS M.length M s Q,0):=by unfold pvO;rw [if_pos hc.1,if_neg hc.2]
  rw [e] at ip sp
  have i1:=impl_signs_loop h5 (pvR M.length M s) (pvS M.length M s Q) (pvR_len _ _ _) (pvR_row _ _ _) (pvS_len _ _ _ _) (ab (det M.length (Cm s M))) M.length 0 (by omega)
  have s1:=spec_signs_loop h5 (pvR M.length M s) (pvS M.length M s Q) (pvR_len _ _ _) (pvR_row _ _ _) (pvS_len _ _ _ _) (ab (det M.length (Cm s M))) M.length 0 (by omega)
  refine⟨(sgR (pvR M.length M s) (pvS M.length M s Q) M.length,0),evbind sp (evpos rfl s1),evbind ip (evpos rfl ?_),sgR_few h5 _ _ (fun i hi=>row_len h5 _ (pvS M.length M s Q) (pvR_len _ _ _) (pvR_row _ _ _) (pvS_len _ _ _ _) hi)⟩
  dsimp only
  rw [pvR_len]
  exact i1
 ·exact⟨([],(pvO M Q s).2.2.2),evbind sp (evneg c (evc rfl)),evbind ip (evneg c (evc rfl)),Few.nil⟩
end Go.Proofs.Ytbjljcpngbhkeaa.Pp
end
