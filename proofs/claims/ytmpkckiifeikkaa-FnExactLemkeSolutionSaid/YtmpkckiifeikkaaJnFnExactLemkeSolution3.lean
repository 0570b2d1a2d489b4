/- Texts of one claim (the words of the kit's print that the claim uses, printed functions, and this session's own texts), joined in the order of their imports by this session's own program (merge.py). -/
import Derived.Test.YtmpkckiifeikkaaJnFnExactLemkeSolution0
import Derived.Test.YtmpkckiifeikkaaJnFnExactLemkeSolution1
import Derived.Test.YtmpkckiifeikkaaJnFnExactLemkeSolution2
set_option linter.unusedVariables false
set_option linter.unusedSimpArgs false
set_option maxHeartbeats 8000000
set_option maxRecDepth 100000
section
namespace Go.Proofs.Ytmpkckiifeikkaa.Lp
open Go.RowKit Go.Proofs.YtmpkckiifeikkaaW.PrintWords Go.Proofs.YtmpkckiifeikkaaW.PrintLast Go.Proofs.YtmpkckiifeikkaaW.PrintMore Go.Proofs.Ytmpkckiifeikkaa.Pr Go.Proofs.Ytmpkckiifeikkaa.Ma Go.Proofs.Ytmpkckiifeikkaa.Dt Go.Proofs.Ytmpkckiifeikkaa.Lk Go.Proofs.Ytmpkckiifeikkaa.Lt Go.Proofs.Ytmpkckiifeikkaa.Lq
theorem own_f (B:List Int) (h:B.length≤1000):spec_l01Own.f B=some B:=by
 unfold spec_l01Own.f
 simp only [Option.bind_some]
 rw [if_pos (by simp;omega)];rfl
theorem pivot_calls (A0:Option Addr) (c0:Nat) (L:List (List Int)) (den:Int) (A2:Option Addr) (c2:Nat) (B:List Int) (w:World) (n m r v:Nat)
  (hC0:Kd.C (Kd.slice 2 (Kd.int .i64)) w A0 L.length L) (hC2:Kd.C (Kd.int .i64) w A2 B.length B) (hc2:B.length≤c2) (hL:L.length=n) (hr: ∀x ∈ L,x.length=m) (hrn:r < n) (hv:v < m) (hB:r < B.length) (hB2:B.length≤1000) (hn2:n≤1000) (hm2:m≤1000) (hden:den≠0):
  Calls Try.prog 157 #[.agg #[.slice A0 L.length c0, .int .i64 den, .slice A2 B.length c2], .int .i64 r, .int .i64 v] w fun e w'=> ∃v0 v2:Value,e= .returned (.agg #[v0, .int .i64 (stD (enL L) r v),v2])∧Kd.S (Kd.slice 2 (Kd.int .i64)) 23 w' w.heap.size (fun k=>some k≠v2.ownBlock) v0 (rowsM n m (stT (enL L) den r v))∧Kd.R (Kd.int .i64) 2 w' w.heap.size (fun _=>True) v2 (B.set r (v:Int))∧Below w.heap.size w w':=by
 obtain⟨ad,b,cp,rfl,hrow,hnum⟩:=tb_reads hC0 hL hr (by omega) (by omega)
 have HB:=Aside0.mk (Below.refl w.heap.size w)
 have HROW:=Aside0.mk hrow
 have HNUM:=Aside0.mk hnum
 have HC2:=Aside0.mk hC2
 have HC2c:=Aside0.mk hc2
 have HR:=Aside0.mk hrn
 have HV:=Aside0.mk hv
 have HB1:=Aside0.mk hB
 have HB2:=Aside0.mk hB2
 have HN2:=Aside0.mk hn2
 have HM2:=Aside0.mk hm2
 have HD:=Aside0.mk hden
 rw [hL]
 obtain⟨T,hT⟩: ∃T:Mat,enL L=T:=⟨_,rfl⟩
 rw [hT] at HNUM
 rw [hT]
 obtain⟨p,hp⟩: ∃p,T r v=p:=⟨_,rfl⟩
 have HP:=Aside0.mk hp
 have hrz:(r:Int) < (n:Int):=by omega
 have h0r:(0:Int)≤(r:Int):=by omega
 have hvz:(v:Int) < (m:Int):=by omega
 have h0v:(0:Int)≤(v:Int):=by omega
 have hrb:(r:Int) < (B.length:Int):=by omega
 clear hC0 hC2 hc2 hL hr hrn hv hB hB2 hn2 hm2 hden hrow hnum hp hT
 go_enter Try.func157,Try.ntmps157
 go_wp2_with (first | ((with_reducible refine gate_dst (N:=3) rfl ?_);refine box_event ?hg (N:=3) ?hd (cs:= #[.slice (some ad) n c0, .int .i64 den, .slice A2 B.length c2]) (t:=100) ?hr ?_;(case hd=>rfl);(case hg=>rfl);(case hr=>first | (go_simp;done) | (go_simp;rfl));intro g3 hg w3 hbox hb;replace HB:=Aside0.mk (below_step HB.out hb);have B3:=Aside0.mk hbox;clear hb hbox hg) | ((with_reducible refine gate_dst (N:=6) rfl ?_);refine box_event ?hg (N:=6) ?hd (cs:= #[.slice none 0 0, .int .i64 0, .slice none 0 0]) (t:=100) ?hr ?_;(case hd=>rfl);(case hg=>rfl);(case hr=>first | (go_simp;done) | (go_simp;rfl));intro g6 hg w4 hbox hb;have HG6:Aside0 (w.heap.size≤g6):=⟨by rw [hg];exact HB.out.size⟩;replace HB:=Aside0.mk (below_step HB.out hb);replace B3:=Aside0.mk (blk_below B3.out hb);have B6:=Aside0.mk hbox;clear hb hbox hg))
 replace HB:=Aside0.mk (below_step HB.out (below_drew (Below.refl w4.heap.size w4)))
 replace B3:=Aside0.mk (blk_below B3.out (below_drew (Below.refl w4.heap.size w4)))
 replace B6:=Aside0.mk (blk_below B6.out (below_drew (Below.refl w4.heap.size w4)))
 have hx1:w4.drew.cell? (ad.add r)=some (.slice (some (b r)) m (cp r)):=(HB.out.cell (World.block_lt_of_cell? w _ (HROW.out r HR.out))).trans (HROW.out r HR.out)
 have hx2:w4.drew.cell? ((b r).add v)=some (.int .i64 p):=(HB.out.cell (World.block_lt_of_cell? w _ (HNUM.out r v HR.out HV.out))).trans ((HNUM.out r v HR.out HV.out).trans (by rw [HP.out]))
 refine st_ (n:=23) (S:=fun w'=>w'.cell? ⟨g3,0,none⟩=some (.slice (some ad) n c0)∧w'.cell? ⟨g3,2,none⟩=some (.slice A2 B.length c2)∧w'.cell? (ad.add r)=some (.slice (some (b r)) m (cp r))∧w'.cell? ((b r).add v)=some (.int .i64 p)) (ds:= []) ⟨cz_ B3 0,cz_ B3 2,hx1,hx2⟩ (fun hHeld=>?_)
 generalize w4.drew=w5 at HB B3 B6 hx1 hx2 hHeld ⊢
 refine pu_ 0 15 ?_;refine tk_ 1 16 ?_;refine pu_ 2 17 ?_;refine pu_ 3 18 ?_;refine tk_ 4 19 ?_;refine pu_ 5 20 ?_;refine pu_ 6 21 ?_;refine tk_ 7 22 ?_;refine pu_ 8 23 ?_;refine tk_ 9 24 ?_
 refine pu_ 12 27 ?_;refine tk_ 13 28 ?_;refine pu_ 14 29 ?_;refine pu_ 15 30 ?_;refine tk_ 16 31 ?_;refine pu_ 17 32 ?_;refine pu_ 18 33 ?_;refine tk_ 19 34 ?_
 refine join_ (σ:=Nat × Value) 2 (fm 23 2097151) (fun s=> [(25,s.2),(26, .agg #[.slice none 0 0, .int .i64 p,s.2]),(7, .pointer (some ⟨s.1,0,none⟩))]) (fun s w'=>Below w.heap.size w w'∧w.heap.size≤s.1∧w'.heap[s.1]?=some (.cells #[.slice none 0 0, .int .i64 0, .slice none 0 0] 100 (0,0))∧Kd.R (Kd.int .i64) 2 w' w.heap.size (fun _=>True) s.2 B∧w'.heap[g3]?=some (.cells #[.slice (some ad) n c0, .int .i64 den, .slice A2 B.length c2] 100 (0,0))∧w'.heap[g6]?=some (.cells #[.slice none 0 0, .int .i64 0, .slice none 0 0] 100 (0,0))∧g3≠s.1∧g6≠s.1) ?_ ?_
 rotate_left
 ·intro hJ
  refine two_ (i:=10) (j:=20) (Ni:=some 25) (Nj:=some 7) (fm 23 1046527) (fm 23 2094079) rfl rfl rfl rfl (by kernel_rfl) (by decide) (by decide) (fun K hK=>?_) (fun K hK=>?_)
  ·refine ca_ Try.func150 #[.slice A2 B.length c2] ?_
   refine(spec_l01Own.calls A2 c2 B B w5 (Kd.C_below HC2.out HB.out) HC2c.out (own_f B HB2.out)).mono ?_
   rintro e w6 ⟨v2,rfl,hR,hb⟩
   obtain⟨A9,c9,rfl⟩:=Kd.R_slice hR
   refine⟨_,rfl,?_⟩
   have HRB:=Aside0.mk (Kd.R_lower hR HB.out.size)
   replace HB:=Aside0.mk (below_step HB.out hb)
   replace B3:=Aside0.mk (blk_below B3.out hb)
   replace B6:=Aside0.mk (blk_below B6.out hb)
   have hx1':=(hb.cell (World.block_lt_of_cell? w5 _ hx1)).trans hx1
   have hx2':=(hb.cell (World.block_lt_of_cell? w5 _ hx2)).trans hx2
   clear hR hb hx1 hx2 hHeld
   refine hK.out _ _ ⟨cz_ B3 0,cz_ B3 2,hx1',hx2'⟩ (fun hHeld=>?_)
   clear hK K
   refine no_ ?_
   refine pu_ 11 26 ?_
   refine on_ 20 (some 7) (fun K hK=>?_)
   refine box_step (by rfl) (N:=7) rfl (cs:= #[.slice none 0 0, .int .i64 0, .slice none 0 0]) (t:=100) (by first | (go_simp;done) | (go_simp;rfl)) ?_
   intro g7 hg w8 hbox hb
   have hx1:=(hb.cell (World.block_lt_of_cell? w6 _ hx1')).trans hx1'
   have hx2:=(hb.cell (World.block_lt_of_cell? w6 _ hx2')).trans hx2'
   have N3:g3≠g7:=by have:=blk_lt B3.out;omega
   have N6:g6≠g7:=by have:=blk_lt B6.out;omega
   have hsz:=HB.out.size
   replace HB:=Aside0.mk (below_step HB.out hb)
   replace B3:=Aside0.mk (blk_below B3.out hb)
   replace B6:=Aside0.mk (blk_below B6.out hb)
   replace HRB:=Aside0.mk (Kd.R_below HRB.out hb)
   refine hK.out _ _ ⟨cz_ B3 0,cz_ B3 2,hx1,hx2⟩ (fun hHeld=>?_)
   clear hK K
   refine no_ ?_
   exact norm_ (by first | (simp only [putAll,Act.put,List.setIfInBounds_toArray,List.set_cons_zero,List.set_cons_succ];done) | (simp only [putAll,Act.put,List.setIfInBounds_toArray,List.set_cons_zero,List.set_cons_succ];rfl)) (hJ (g7, .slice A9 B.length c9) _ ⟨HB.out,by omega,hbox,HRB.out,B3.out,B6.out,N3,N6⟩)
  ·refine box_step (by rfl) (N:=7) rfl (cs:= #[.slice none 0 0, .int .i64 0, .slice none 0 0]) (t:=100) (by first | (go_simp;done) | (go_simp;rfl)) ?_
   intro g7 hg w8 hbox hb
   have hx1':=(hb.cell (World.block_lt_of_cell? w5 _ hx1)).trans hx1
   have hx2':=(hb.cell (World.block_lt_of_cell? w5 _ hx2)).trans hx2
   have N3:g3≠g7:=by have:=blk_lt B3.out;omega
   have N6:g6≠g7:=by have:=blk_lt B6.out;omega
   have hsz:=HB.out.size
   have HG7:w.heap.size≤g7:=by omega
   replace HB:=Aside0.mk (below_step HB.out hb)
   replace B3:=Aside0.mk (blk_below B3.out hb)
   replace B6:=Aside0.mk (blk_below B6.out hb)
   clear hx1 hx2 hHeld hb hg
   refine hK.out _ _ ⟨cz_ B3 0,cz_ B3 2,hx1',hx2'⟩ (fun hHeld=>?_)
   clear hK K
   refine no_ ?_
   refine on_ 10 (some 25) (fun K hK=>?_)
   refine ca_ Try.func150 #[.slice A2 B.length c2] ?_
   refine(spec_l01Own.calls A2 c2 B B w8 (Kd.C_below HC2.out HB.out) HC2c.out (own_f B HB2.out)).mono ?_
   rintro e w9 ⟨v2,rfl,hR,hb⟩
   obtain⟨A9,c9,rfl⟩:=Kd.R_slice hR
   refine⟨_,rfl,?_⟩
   have HRB:=Aside0.mk (Kd.R_lower hR HB.out.size)
   replace HB:=Aside0.mk (below_step HB.out hb)
   replace B3:=Aside0.mk (blk_below B3.out hb)
   replace B6:=Aside0.mk (blk_below B6.out hb)
   have hx1:=(hb.cell (World.block_lt_of_cell? w8 _ hx1')).trans hx1'
   have hx2:=(hb.cell (World.block_lt_of_cell? w8 _ hx2')).trans hx2'
   replace hbox:=blk_below hbox hb
   clear hR hb hx1' hx2' hHeld
   refine hK.out _ _ ⟨cz_ B3 0,cz_ B3 2,hx1,hx2⟩ (fun hHeld=>?_)
   clear hK K
   refine no_ ?_
   refine pu_ 11 26 ?_
   exact norm_ (by first | (simp only [putAll,Act.put,List.setIfInBounds_toArray,List.set_cons_zero,List.set_cons_succ];done) | (simp only [putAll,Act.put,List.setIfInBounds_toArray,List.set_cons_zero,List.set_cons_succ];rfl)) (hJ (g7, .slice A9 B.length c9) _ ⟨HB.out,HG7,hbox,HRB.out,B3.out,B6.out,N3,N6⟩)
 rintro ⟨g7,v2⟩ w6 ⟨hb,hG7,hbox,hRB,hb3,hb6,N3,N6⟩
 replace HB:=Aside0.mk hb
 replace B3:=Aside0.mk hb3
 replace B6:=Aside0.mk hb6
 have B7:=Aside0.mk hbox
 have HRB:=Aside0.mk hRB
 have HG7:=Aside0.mk hG7
 have HN3:=Aside0.mk N3
 have HN6:=Aside0.mk N6
 clear hb hG7 hbox hRB hb3 hb6 hx1 hx2 hHeld
 refine norm_ (a':=?_) ?_ ?_
 rotate_left
 ·simp only [putAll,Act.put,List.setIfInBounds_toArray,List.set_cons_zero,List.set_cons_succ]
  rfl
 obtain⟨gb,cb,rfl,hgb,hgb2,cellsb,hcb⟩:=Kd.R_form HRB.out (by have:=HB1.out;omega)
 have HGB:=Aside0.mk hgb
 have ho:(Value.slice (some ⟨gb,0,none⟩) B.length cb).ownBlock=some gb:=by simp [Value.ownBlock]
 have tne: ∀g cs,w6.heap[g]?=some (.cells cs 100 (0,0))→g≠gb:=fun g cs h e=>by
  subst e
  rw [h] at hcb
  injection hcb with h1
  injection h1 with _ h3 _
  revert h3;decide
 have hb3:=tne _ _ B3.out
 have hb6:=tne _ _ B6.out
 have hb7:=tne _ _ B7.out
 have hb3':=Ne.symm hb3
 have hb6':=Ne.symm hb6
 have hb7':=Ne.symm hb7
 have hcell:=Kd.R_celln 0 HRB.out (r:Int) (by omega) (by have:=HB1.out;omega)
 rw [Int.toNat_natCast] at hcell
 have hfr:=hcell.2
 replace hcell:=hcell.1
 have hz0:=cz_ B7 0
 have hz0f:=blk_frozen B7.out 0
 have hz1:=cz_ B7 1
 have hz1f:=blk_frozen B7.out 1
 have hz2:=cz_ B7 2
 have hz2f:=blk_frozen B7.out 2
 clear tne ho hgb hgb2 hcb
 refine on_ 21 none (fun K hK=>?_)
 refine skip_ (w1:=?_) (by rfl) rfl ?_ ?_
 rotate_left
 ·go_simp
  rfl
 have P7:Aside0 (Pt w (((w6.setCell ⟨g7,0,none⟩ (.slice none 0 0)).setCell ⟨g7,1,none⟩ (.int .i64 p)).setCell ⟨g7,2,none⟩ (.slice (some ⟨gb,0,none⟩) B.length cb)) g7 (.slice none 0 0) (.slice (some ⟨gb,0,none⟩) B.length cb) p [] B):=⟨((HB.out.setCell HG7.out _).setCell HG7.out _).setCell HG7.out _,HG7.out,blk_put (blk_put (blk_put B7.out 0 _ rfl) 1 _ rfl) 2 _ rfl,Kd.S_nil _ _ _ _ _,tsetR (tsetR (tsetR HRB.out B7.out (by decide)) (blk_put B7.out 0 _ rfl) (by decide)) (blk_put (blk_put B7.out 0 _ rfl) 1 _ rfl) (by decide)⟩
 replace B3:=Aside0.mk (blk_far (blk_far (blk_far B3.out (p:=⟨g7,0,none⟩) HN3.out (.slice none 0 0)) (p:=⟨g7,1,none⟩) HN3.out (.int .i64 p)) (p:=⟨g7,2,none⟩) HN3.out (.slice (some ⟨gb,0,none⟩) B.length cb))
 replace B6:=Aside0.mk (blk_far (blk_far (blk_far B6.out (p:=⟨g7,0,none⟩) HN6.out (.slice none 0 0)) (p:=⟨g7,1,none⟩) HN6.out (.int .i64 p)) (p:=⟨g7,2,none⟩) HN6.out (.slice (some ⟨gb,0,none⟩) B.length cb))
 clear B7 hz0 hz0f hz1 hz1f hz2 hz2f hcell hfr HRB HB
 generalize ((w6.setCell ⟨g7,0,none⟩ (.slice none 0 0)).setCell ⟨g7,1,none⟩ (.int .i64 p)).setCell ⟨g7,2,none⟩ (.slice (some ⟨gb,0,none⟩) B.length cb)=w7 at P7 B3 B6 ⊢
 have hx1:w7.cell? (ad.add r)=some (.slice (some (b r)) m (cp r)):=(P7.out.below.cell (World.block_lt_of_cell? w _ (HROW.out r HR.out))).trans (HROW.out r HR.out)
 have hx2:w7.cell? ((b r).add v)=some (.int .i64 p):=(P7.out.below.cell (World.block_lt_of_cell? w _ (HNUM.out r v HR.out HV.out))).trans ((HNUM.out r v HR.out HV.out).trans (by rw [HP.out]))
 refine hK.out _ _ ⟨cz_ B3 0,cz_ B3 2,hx1,hx2⟩ (fun hHeld=>?_)
 clear hK K hx1 hx2
 refine pu_ 22 8 ?_
 refine done_ (by kernel_rfl) ?_
 clear hHeld
 have hcell:=Kd.R_celln 0 P7.out.R (r:Int) (by omega) (by have:=HB1.out;omega)
 rw [Int.toNat_natCast] at hcell
 have hfr:=hcell.2
 replace hcell:=hcell.1
 have hz2:=cz_ ⟨P7.out.blk⟩ 2
 go_wp2
 have HPB:=P7.out.putB r (v:Int)
 replace P7:=Aside0.mk HPB.1
 have hto:(Value.slice (some ⟨gb,0,none⟩) B.length cb).ownBlock=some gb:=by simp [Value.ownBlock]
 replace B3:=Aside0.mk (blk_grown B3.out HPB.2 (by rw [hto];intro e;injection e with e;exact hb3 e))
 replace B6:=Aside0.mk (blk_grown B6.out HPB.2 (by rw [hto];intro e;injection e with e;exact hb6 e))
 obtain⟨B',hB'⟩: ∃B',B.set r (v:Int)=B':=⟨_,rfl⟩
 rw [hB'] at P7
 have HBX:=Aside0.mk hB'
 clear hB'
 clear hcell hfr hz2 HPB hto
 generalize w7.setCell ⟨gb,r,none⟩ (.int .i64 (v:Int))=w8 at P7 B3 B6 ⊢
 obtain⟨X,hX⟩: ∃X:Mat,stA T den r v=X:=⟨_,rfl⟩
 have HX:=Aside0.mk hX
 clear hX
 generalize hu2:(Value.slice (some ⟨gb,0,none⟩) B.length cb)=u2 at P7 ⊢
 clear hb3 hb6 hb7 hb3' hb6' hb7'
 go_loopg [9] n (fun gg v9 wr=> ∃(i:Nat) (u0:Value),i≤n∧n - i≤gg∧v9= .int .i64 (i:Int)∧Aside0 (Pt w wr g7 u0 u2 p (rowsM i m X) B')∧Aside0 (wr.heap[g3]?=some (.cells #[.slice (some ad) n c0, .int .i64 den, .slice A2 B.length c2] 100 (0,0)))∧Aside0 (wr.heap[g6]?=some (.cells #[.slice none 0 0, .int .i64 0, .slice none 0 0] 100 (0,0))))
 case atStart=>exact⟨0,_,Nat.zero_le _,by omega,rfl,P7,B3,B6⟩
 case round=>
  clear P7 B3 B6
  obtain⟨i,u0,hi,hg,rfl,PT,B3,B6⟩:=hrel
  have HG:=Aside0.mk hg
  by_cases hlt:i < n
  ·have hltz:(i:Int) < (n:Int):=by omega
   have h0z:(0:Int)≤(i:Int):=by omega
   have hw:IntKind.i64.wrap ((i:Int)+1)=((i+1:Nat):Int):=by rw [IntWalk.i64_in _ (by have:=HN2.out;omega)];rfl
   have HW:=Aside0.mk hw
   have HLT:=Aside0.mk hlt
   have hz0:=cz_ B3 0
   clear hi hg hlt
   go_wp2_with (first | ((with_reducible refine gate_dst (N:=47) rfl ?_);refine Kd.R_lit (Kd.int .i64) (w0:=wr) wr.heap.size 2 ?hg (N:=47) ?hd (xs:=([]:List Int)) (inner:= []) (ok:=fun _=>True) (okp:=fun _=>True) ?hr ?hp (fun _ hk=>hk) trivial (Below.refl _ _) (Nat.le_refl _) (by simp) ?_;(case hd=>rfl);(case hg=>rfl);(case hr=>first | (go_simp;done) | (go_simp;rfl));(case hp=>exact(Reps.none _ _));intro v10 w10 ho hb hg_ hat_;have PU:=Aside0.mk (Pu.new PT.out hb ho);replace B3:=Aside0.mk (blk_below B3.out hb);replace B6:=Aside0.mk (blk_below B6.out hb);clear ho hb hg_ hat_ hz0 PT))
   go_loopg [10,11] m (fun gg v10 v11 wr=> ∃(k:Nat),k≤m∧m - k≤gg∧v11= .int .i64 (k:Int)∧Aside0 (Pu w wr g7 u0 u2 p (rowsM i m X) B' v10 (rowN X i k))∧Aside0 (wr.heap[g3]?=some (.cells #[.slice (some ad) n c0, .int .i64 den, .slice A2 B.length c2] 100 (0,0)))∧Aside0 (wr.heap[g6]?=some (.cells #[.slice none 0 0, .int .i64 0, .slice none 0 0] 100 (0,0))))
   case atStart=>exact⟨0,Nat.zero_le _,by omega,rfl,PU,B3,B6⟩
   case round=>
    clear PU B3 B6
    obtain⟨k,hk,hg2,rfl,PU,B3,B6⟩:=hrel
    have HG2:=Aside0.mk hg2
    by_cases hkm:k < m
    ·have hkz:(k:Int) < (m:Int):=by omega
     have h0k:(0:Int)≤(k:Int):=by omega
     have hwk:IntKind.i64.wrap ((k:Int)+1)=((k+1:Nat):Int):=by rw [IntWalk.i64_in _ (by have:=HM2.out;omega)];rfl
     have HWK:=Aside0.mk hwk
     have HKM:=Aside0.mk hkm
     have hx1:wr.cell? (ad.add i)=some (.slice (some (b i)) m (cp i)):=(PU.out.below.cell (World.block_lt_of_cell? w _ (HROW.out i HLT.out))).trans (HROW.out i HLT.out)
     have hx2:wr.cell? ((b i).add k)=some (.int .i64 (T i k)):=(PU.out.below.cell (World.block_lt_of_cell? w _ (HNUM.out i k HLT.out hkm))).trans (HNUM.out i k HLT.out hkm)
     have hz0:=cz_ B3 0
     obtain⟨A10,c10,e10⟩:=Kd.R_slice PU.out.X
     have hl10:(rowN X i k).length=k:=rowN_len X i k
     rw [hl10] at e10
     subst e10
     clear hk hg2 hkm hl10
     by_cases hir:i=r
     ·have hirz:((i:Int)==(r:Int))=true:=by simp [hir]
      have HIR:=Aside0.mk hir
      clear hir
      go_wp2_with (first | ((with_reducible refine gate_builtin (b:= .append) (xs:= #[.tmp 61, .tmp 70]) rfl ?_);at_builtin;refine Kd.R_append (Kd.int .i64) (w0:=w) w.heap.size rfl (.tmp 61) (.tmp 70) 23 2 (.int .i64 0) 8 rfl Try.underlying23 info2 rfl (by decide) (by omega) (.slice A10 k c10) (rowN X i k) (T i k) [.int .i64 (T i k)] (fun k_=>some k_≠u2.ownBlock) (fun _=>False) rfl rfl rfl (fun _ hk=>hk.elim) (Kd.fresh' (Kd.R_lt PU.out.R)) PU.out.X PU.out.below PU.out.below.size ?aL ?_;(case aL=>have:=HM2.out;have:=HKM.out;rw [rowN_len];omega);intro v11 w11 ho hb hg hat;replace B3:=Aside0.mk (PU.out.other hg B3.out);replace B6:=Aside0.mk (PU.out.other hg B6.out);replace PU:=Aside0.mk (PU.out.grow hb hg hat ho);clear ho hb hg hat hx1 hx2 hz0))
      go_roundg (m - (k+1))
      case measure=>have:=HG2.out;have:=HKM.out;omega
      case rel=>
       refine⟨k+1,HKM.out,by omega,by first | rfl | (rw [HWK.out]) | (simp [HWK.out]),?_,B3,B6⟩
       rw [rowN_next,show X i k=T i k from by rw [← HX.out];unfold stA;rw [if_pos HIR.out,HIR.out]]
       exact PU
     ·have hirz:((i:Int)==(r:Int))=false:=by simp;omega
      have hirn: ¬ (i:Int)=(r:Int):=by omega
      have HIR:=Aside0.mk hir
      clear hir
      have hx3:wr.cell? ((b i).add v)=some (.int .i64 (T i v)):=(PU.out.below.cell (World.block_lt_of_cell? w _ (HNUM.out i v HLT.out HV.out))).trans (HNUM.out i v HLT.out HV.out)
      have hx4:wr.cell? (ad.add r)=some (.slice (some (b r)) m (cp r)):=(PU.out.below.cell (World.block_lt_of_cell? w _ (HROW.out r HR.out))).trans (HROW.out r HR.out)
      have hx5:wr.cell? ((b r).add k)=some (.int .i64 (T r k)):=(PU.out.below.cell (World.block_lt_of_cell? w _ (HNUM.out r k HR.out HKM.out))).trans (HNUM.out r k HR.out HKM.out)
      have hz1:=cz_ B3 1
      have hd0:(den==0)=false:=by have:=HD.out;simpa using this
      have hd1: ¬ den=0:=HD.out
      go_wp2
      replace PU:=Aside0.mk (PU.out.mv (below_drew (Below.refl wr.heap.size wr)))
      replace B3:=Aside0.mk (blk_below B3.out (below_drew (Below.refl wr.heap.size wr)))
      replace B6:=Aside0.mk (blk_below B6.out (below_drew (Below.refl wr.heap.size wr)))
      refine st_ (n:=35) (S:=fun w'=>w'.cell? ⟨g3,0,none⟩=some (.slice (some ad) n c0)∧w'.cell? ⟨g3,1,none⟩=some (.int .i64 den)∧w'.cell? (ad.add i)=some (.slice (some (b i)) m (cp i))∧w'.cell? ((b i).add k)=some (.int .i64 (T i k))∧w'.cell? ((b i).add v)=some (.int .i64 (T i v))∧w'.cell? (ad.add r)=some (.slice (some (b r)) m (cp r))∧w'.cell? ((b r).add k)=some (.int .i64 (T r k))) (ds:= []) ⟨hz0,hz1,hx1,hx2,hx3,hx4,hx5⟩ (fun hHeld=>?_)
      generalize wr.drew=w10 at PU B3 B6 hHeld ⊢
      clear hz0 hz1 hx1 hx2 hx3 hx4 hx5
      refine pu_ 0 72 ?_;refine pu_ 1 73 ?_;refine tk_ 2 74 ?_;refine pu_ 3 75 ?_;refine pu_ 4 76 ?_;refine tk_ 5 77 ?_;refine pu_ 6 78 ?_;refine pu_ 7 79 ?_;refine tk_ 8 80 ?_;refine pu_ 9 81 ?_;refine pu_ 10 82 ?_;refine pu_ 11 83 ?_;refine tk_ 12 84 ?_;refine pu_ 13 85 ?_;refine pu_ 14 86 ?_;refine tk_ 15 87 ?_;refine pu_ 16 88 ?_;refine pu_ 17 89 ?_;refine tk_ 18 90 ?_;refine pu_ 19 91 ?_;refine tk_ 20 92 ?_;refine pu_ 21 93 ?_;refine pu_ 22 94 ?_;refine tk_ 23 95 ?_;refine pu_ 24 96 ?_;refine pu_ 25 97 ?_;refine tk_ 26 98 ?_;refine pu_ 27 99 ?_;refine pu_ 28 100 ?_;refine pu_ 29 101 ?_;refine tk_ 30 102 ?_;refine pu_ 31 103 ?_
      have hmv:=fun(W:World) (hb:Below w.heap.size w W)=>(⟨(hb.cell (World.block_lt_of_cell? w _ (HROW.out i HLT.out))).trans (HROW.out i HLT.out),(hb.cell (World.block_lt_of_cell? w _ (HNUM.out i k HLT.out HKM.out))).trans (HNUM.out i k HLT.out HKM.out),(hb.cell (World.block_lt_of_cell? w _ (HNUM.out i v HLT.out HV.out))).trans (HNUM.out i v HLT.out HV.out),(hb.cell (World.block_lt_of_cell? w _ (HROW.out r HR.out))).trans (HROW.out r HR.out),(hb.cell (World.block_lt_of_cell? w _ (HNUM.out r k HR.out HKM.out))).trans (HNUM.out r k HR.out HKM.out)⟩:W.cell? (ad.add i)=some (.slice (some (b i)) m (cp i))∧W.cell? ((b i).add k)=some (.int .i64 (T i k))∧W.cell? ((b i).add v)=some (.int .i64 (T i v))∧W.cell? (ad.add r)=some (.slice (some (b r)) m (cp r))∧W.cell? ((b r).add k)=some (.int .i64 (T r k)))
      have HMV:=Aside0.mk hmv
      clear hmv
      refine on_ 32 (some 104) (fun K hK=>?_)
      refine va_ ?_
      refine hK.out _ _ ⟨(blk_cell (blk_alloc B3.out _) 0).trans rfl,(blk_cell (blk_alloc B3.out _) 1).trans rfl,HMV.out _ (PU.out.below.alloc PU.out.below.size _)⟩ (fun hHeld=>?_)
      clear hK K
      refine no_ ?_
      refine on_ 33 (some 105) (fun K hK=>?_)
      refine Kd.R_append_step (Kd.int .i64) (w0:=w) w.heap.size (by rfl) (.tmp 72) (.tmp 104) 23 2 (.int .i64 0) 8 rfl Try.underlying23 info2 rfl (by decide) (by omega) (.slice A10 k c10) (rowN X i k) (wrap64 (Int.tdiv (wrap64 (wrap64 (T i k*p) - wrap64 (T i v*T r k))) den)) [.int .i64 (wrap64 (Int.tdiv (wrap64 (wrap64 (T i k*p) - wrap64 (T i v*T r k))) den))] (fun k_=>some k_≠u2.ownBlock) (fun _=>False) rfl rfl rfl (fun _ hk=>hk.elim) (Kd.fresh' (Kd.R_lt PU.out.R)) PU.out.X PU.out.below PU.out.below.size ?aL ?_
      case aL=>have:=HM2.out;have:=HKM.out;rw [rowN_len];omega
      intro v11 w11 ho hb hg hat
      replace B3:=Aside0.mk (PU.out.other hg B3.out)
      replace B6:=Aside0.mk (PU.out.other hg B6.out)
      replace PU:=Aside0.mk (PU.out.grow hb hg hat ho)
      clear ho hb hg hat hHeld
      refine hK.out _ _ ⟨cz_ B3 0,cz_ B3 1,HMV.out _ PU.out.below⟩ (fun hHeld=>?_)
      clear hK K
      refine nd_ 105 ?_
      refine pu_ 34 10 ?_
      refine done_ (by kernel_rfl) ?_
      clear hHeld HMV
      go_wp2
      go_roundg (m - (k+1))
      case measure=>have:=HG2.out;have:=HKM.out;omega
      case rel=>
       refine⟨k+1,HKM.out,by omega,by first | rfl | (rw [HWK.out]) | (simp [HWK.out]),?_,B3,B6⟩
       rw [rowN_next,show X i k=(wrap64 (Int.tdiv (wrap64 (wrap64 (T i k*p) - wrap64 (T i v*T r k))) den)) from by rw [← HX.out];unfold stA;rw [if_neg HIR.out];unfold evT;rw [HP.out]]
       exact PU
    ·have hkz: ¬ (k:Int) < (m:Int):=by omega
     obtain rfl:k=m:=by omega
     have hx1:wr.cell? (ad.add i)=some (.slice (some (b i)) k (cp i)):=(PU.out.below.cell (World.block_lt_of_cell? w _ (HROW.out i HLT.out))).trans (HROW.out i HLT.out)
     have hz0:=cz_ B3 0
     have hg0:=cz_ ⟨PU.out.blk⟩ 0
     obtain⟨A10,c10,e10⟩:=Kd.R_slice PU.out.X
     have hl10:(rowN X i k).length=k:=rowN_len X i k
     rw [hl10] at e10
     subst e10
     clear hk hg2 hkm hl10
     have HA:=Aside0.mk (Kd.R_apart' PU.out.X (Kd.S_typed PU.out.S) (by decide))
     obtain⟨L1,hL1⟩: ∃L1,rowsM i k X++ [rowN X i k]=L1:=⟨_,rfl⟩
     have HL1:=Aside0.mk hL1
     clear hL1
     go_wp2_with (first | ((with_reducible refine gate_builtin (b:= .append) (xs:= #[.tmp 107, .tmp 109]) rfl ?_);at_builtin;refine Kd.S_append (Kd.slice 2 (Kd.int .i64)) (w0:=w) w.heap.size rfl (.tmp 107) (.tmp 109) 22 23 (.slice none 0 0) 24 rfl Try.underlying22 info23 rfl (by decide) (by omega) u0 (rowsM i k X) (rowN X i k) [.slice A10 k c10] (fun k_=>some k_≠u2.ownBlock) (fun k_=>some k_=(.slice A10 k c10:Value).ownBlock) rfl rfl ?aP ?aQ ?aF ?aO PU.out.below PU.out.below.size ?aL ?_;(case aP=>exact Kd.M_row (Kd.R_mono (Kd.R_tight rfl HA.out) (fun _ h=>h)));(case aQ=>exact fun k_ hk=>HA.out.1 k_ hk.symm);(case aF=>exact Kd.fresh' (Kd.R_lt PU.out.R));(case aO=>exact Kd.S_mono PU.out.S (fun k_ hk=>⟨hk.1,fun e=>hk.2 e⟩));(case aL=>have:=HN2.out;have:=HLT.out;rw [rowsM_len];omega);intro v1 w13 hs hb hg hat;replace B3:=Aside0.mk (blk_grown B3.out hg (Kd.S_ne PU.out.S B3.out (by decide)));replace B6:=Aside0.mk (blk_grown B6.out hg (Kd.S_ne PU.out.S B6.out (by decide)));have B7:=Aside0.mk (blk_grown PU.out.blk hg (Kd.S_ne PU.out.S PU.out.blk (by decide)));have HRR:=Aside0.mk (Kd.R_mono (Kd.R_over' PU.out.R (Kd.S_typed PU.out.S) (by decide) hg) (fun _ hk=>hk.1));rw [HL1.out] at hs;obtain⟨A12,c12,e12⟩:=Kd.S_slice hs;subst e12;have HS:=Aside0.mk hs;have HB:=Aside0.mk hb;have HG7':=Aside0.mk PU.out.g;clear hs hb hg hat HA PU hx1 hz0 hg0;have hs0:=cz_ B7 0;have hs0f:=blk_frozen B7.out 0))
     have PT:=Aside0.mk (Pt.rows HB.out HG7'.out B7.out HS.out HRR.out)
     replace B3:=Aside0.mk (blk_far B3.out (p:=⟨g7,0,none⟩) HN3.out (.slice A12 L1.length c12))
     replace B6:=Aside0.mk (blk_far B6.out (p:=⟨g7,0,none⟩) HN6.out (.slice A12 L1.length c12))
     go_roundg (n - (i+1))
     case measure=>have:=HG.out;have:=HLT.out;omega
     case rel=>
      exact⟨i+1,_,HLT.out,by omega,by first | rfl | (rw [HW.out]) | (simp [HW.out]),(by rw [rowsM_next,HL1.out];exact PT),B3,B6⟩
  ·have hltz: ¬ (i:Int) < (n:Int):=by omega
   obtain rfl:n=i:=by omega
   have hz0:=cz_ B3 0
   have hd1:=cz_ ⟨PT.out.blk⟩ 1
   have hd1f:=blk_frozen PT.out.blk 1
   clear hi hg hlt
   have hn3:=HN3.out
   have hn3':=Ne.symm HN3.out
   by_cases hpn:p < 0
   ·have hpb:decide (p < 0)=true:=decide_eq_true hpn
    have HPN:=Aside0.mk hpn
    clear hpn
    go_wp2
    have P2:=Aside0.mk (PT.out.putD (wrap64 (- p)))
    replace B3:=Aside0.mk (blk_far B3.out (p:=⟨g7,1,none⟩) HN3.out (.int .i64 (wrap64 (- p))))
    replace B6:=Aside0.mk (blk_far B6.out (p:=⟨g7,1,none⟩) HN6.out (.int .i64 (wrap64 (- p))))
    clear hz0 hd1 hd1f PT
    generalize wr.setCell ⟨g7,1,none⟩ (.int .i64 (wrap64 (- p)))=w9 at P2 B3 B6 ⊢
    obtain⟨gu,cu,e0,_,_,_,_⟩:=Kd.S_form P2.out.S (by rw [rowsM_len];have:=HR.out;omega)
    rw [rowsM_len] at e0
    subst e0
    have P3:Aside0 (Pt w w9 g7 (.slice (some ⟨gu,0,none⟩) n cu) u2 (wrap64 (- p)) (rowsM n m (ngP X 0 0)) B'):=⟨by rw [rowsM_congr (Z:=X) (fun a d _ _=>ngP_zero X a d)];exact P2.out⟩
    clear P2
    go_loopg [12] n (fun gg v12 wr=> ∃(i:Nat),i≤n∧n - i≤gg∧v12= .int .i64 (i:Int)∧Aside0 (Pt w wr g7 (.slice (some ⟨gu,0,none⟩) n cu) u2 (wrap64 (- p)) (rowsM n m (ngP X i 0)) B')∧Aside0 (wr.heap[g3]?=some (.cells #[.slice (some ad) n c0, .int .i64 den, .slice A2 B.length c2] 100 (0,0)))∧Aside0 (wr.heap[g6]?=some (.cells #[.slice none 0 0, .int .i64 0, .slice none 0 0] 100 (0,0))))
    case atStart=>exact⟨0,Nat.zero_le _,by omega,rfl,P3,B3,B6⟩
    case round=>
     clear P3 B3 B6
     obtain⟨i,hi,hg,rfl,PT,B3,B6⟩:=hrel
     have HG:=Aside0.mk hg
     by_cases hlt:i < n
     ·have hltz:(i:Int) < (n:Int):=by omega
      have h0z:(0:Int)≤(i:Int):=by omega
      have hw:IntKind.i64.wrap ((i:Int)+1)=((i+1:Nat):Int):=by rw [IntWalk.i64_in _ (by have:=HN2.out;omega)];rfl
      have HW:=Aside0.mk hw
      have HLT:=Aside0.mk hlt
      obtain⟨A13,c13,hc13⟩:=S_row PT.out.S hlt
      rw [rowsM_at hlt,rowN_len,add_off,Nat.zero_add] at hc13
      have HC13:=Aside0.mk hc13
      have hg0:=cz_ ⟨PT.out.blk⟩ 0
      clear hi hg hlt
      go_wp2
      clear hg0 hc13
      go_loopg [14] m (fun gg v14 wr=> ∃(k:Nat),k≤m∧m - k≤gg∧v14= .int .i64 (k:Int)∧Aside0 (Pt w wr g7 (.slice (some ⟨gu,0,none⟩) n cu) u2 (wrap64 (- p)) (rowsM n m (ngP X i k)) B')∧Aside0 (wr.cell? ⟨gu,i,none⟩=some (.slice A13 m c13))∧Aside0 (wr.heap[g3]?=some (.cells #[.slice (some ad) n c0, .int .i64 den, .slice A2 B.length c2] 100 (0,0)))∧Aside0 (wr.heap[g6]?=some (.cells #[.slice none 0 0, .int .i64 0, .slice none 0 0] 100 (0,0))))
      case atStart=>exact⟨0,Nat.zero_le _,by omega,rfl,PT,HC13,B3,B6⟩
      case round=>
       clear PT HC13 B3 B6
       obtain⟨k,hk,hg2,rfl,PT,HC13,B3,B6⟩:=hrel
       have HG2:=Aside0.mk hg2
       by_cases hkm:k < m
       ·have hkz:(k:Int) < (m:Int):=by omega
        have h0k:(0:Int)≤(k:Int):=by omega
        have hwk:IntKind.i64.wrap ((k:Int)+1)=((k+1:Nat):Int):=by rw [IntWalk.i64_in _ (by have:=HM2.out;omega)];rfl
        have HWK:=Aside0.mk hwk
        have HKM:=Aside0.mk hkm
        obtain⟨g,c,hv13,hok,hne,⟨cells,hty⟩,hcell,hfr,hbase,hput⟩:=S_put PT.out.S HLT.out (by rw [add_off,Nat.zero_add];exact HC13.out) (show k < _ by rw [rowsM_at HLT.out,rowN_len];exact hkm)
        rw [rowsM_at HLT.out,rowN_len] at hv13
        rw [rowsM_at HLT.out,rowN_at hkm,ngP_at X i k i k (by omega)] at hcell
        injection hv13 with e1 _ e2
        subst e1
        subst e2
        have hp2:=hput (wrap64 (- X i k))
        rw [rowsM_at HLT.out,rowsM_set,rowsM_congr (Z:=ngP X i (k+1)) (fun a d _ _=>ngP_next X i k a d)] at hp2
        have hgu:gu≠g:=fun e=>hne (by rw [← e];simp [Value.ownBlock])
        have tk: ∀(q:Nat) (cs:Array Value),wr.heap[q]?=some (.cells cs 100 (0,0))→(wr.setCell ⟨g,k,none⟩ (.int .i64 (wrap64 (- X i k)))).heap[q]?=some (.cells cs 100 (0,0)):=fun q cs h=>blk_grown h hp2.1 (fun e=>by
         injection e with e
         subst e
         rw [hty] at h
         injection h with h1
         injection h1 with _ h3 _
         revert h3;decide)
        have PN:Aside0 (Pt w (wr.setCell ⟨g,k,none⟩ (.int .i64 (wrap64 (- X i k)))) g7 (.slice (some ⟨gu,0,none⟩) n cu) u2 (wrap64 (- p)) (rowsM n m (ngP X i (k+1))) B'):=⟨PT.out.below.setCell hbase _,PT.out.g,tk _ _ PT.out.blk,hp2.2,Kd.R_mono (Kd.R_step (Kd.R_tight rfl PT.out.R) (fun q hq hlt=>hp2.1.block q hlt (fun e=>hok (e ▸ hq)))) (fun _ _=>trivial)⟩
        have B3N:=Aside0.mk (tk _ _ B3.out)
        have B6N:=Aside0.mk (tk _ _ B6.out)
        have HC13N:=Aside0.mk ((cell_far (W:=wr) (p:=⟨g,k,none⟩) (a:=⟨gu,i,none⟩) hgu (.int .i64 (wrap64 (- X i k)))).trans HC13.out)
        clear hk hg2 hkm hok hne hty hbase hput hp2 hgu tk
        go_wp2
        go_roundg (m - (k+1))
        case measure=>have:=HG2.out;have:=HKM.out;omega
        case rel=>exact⟨k+1,HKM.out,by omega,by first | rfl | (rw [HWK.out]) | (simp [HWK.out]),PN,HC13N,B3N,B6N⟩
       ·have hkz: ¬ (k:Int) < (m:Int):=by omega
        obtain rfl:k=m:=by omega
        clear hk hg2 hkm
        go_wp2
        go_roundg (n - (i+1))
        case measure=>have:=HG.out;have:=HLT.out;omega
        case rel=>exact⟨i+1,HLT.out,by omega,by first | rfl | (rw [HW.out]) | (simp [HW.out]),⟨by rw [← rowsM_congr (Y:=ngP X i k) (fun a d _ hd=>ngP_end X i k a d hd)];exact PT.out⟩,B3,B6⟩
     ·have hltz: ¬ (i:Int) < (n:Int):=by omega
      obtain rfl:n=i:=by omega
      clear hi hg hlt
      subst hu2
      have hg0:=cz_ ⟨PT.out.blk⟩ 0
      have hg1:=cz_ ⟨PT.out.blk⟩ 1
      have hg2:=cz_ ⟨PT.out.blk⟩ 2
      have hq0:=cz_ B6 0
      have hq1:=cz_ B6 1
      have hq2:=cz_ B6 2
      have hf0:=blk_frozen B6.out 0
      have hf1:=blk_frozen B6.out 1
      have hf2:=blk_frozen B6.out 2
      have hn6:=HN6.out
      have hn6':=Ne.symm HN6.out
      go_wp2
      have C0:=blk_put B6.out 0 (.slice (some ⟨gu,0,none⟩) n cu) rfl
      have C1:=blk_put C0 1 (.int .i64 (wrap64 (- p))) rfl
      refine bodyPost_ret (results_cell_row rfl _ _ g6 100 #[(.slice (some ⟨gu,0,none⟩) n cu), .int .i64 (wrap64 (- p)),(.slice (some ⟨gb,0,none⟩) B.length cb)] (0,0) _ rfl (blk_put C1 2 (.slice (some ⟨gb,0,none⟩) B.length cb) rfl) Try.underlying100 rfl (by kernel_rfl)) rfl ?_
      rw [HBX.out,show stD T r v=wrap64 (- p) from by unfold stD;rw [HP.out,if_pos HPN.out]]
      refine⟨(.slice (some ⟨gu,0,none⟩) n cu),(.slice (some ⟨gb,0,none⟩) B.length cb),rfl,?_,tsetR (tsetR (tsetR PT.out.R B6.out (by decide)) C0 (by decide)) C1 (by decide),((PT.out.below.setCell HG6.out _).setCell HG6.out _).setCell HG6.out _⟩
      have hS:=tsetS (x:=(.slice (some ⟨gb,0,none⟩) B.length cb)) (j:=2) (tsetS (x:= .int .i64 (wrap64 (- p))) (j:=1) (tsetS (x:=(.slice (some ⟨gu,0,none⟩) n cu)) (j:=0) PT.out.S B6.out (by decide)) C0 (by decide)) C1 (by decide)
      rw [rowsM_congr (Z:=stT T den r v) (fun a d ha _=>by rw [ngP_all _ _ _ _ ha];unfold stT;rw [if_pos (by rw [HP.out];exact HPN.out),HX.out])] at hS
      exact hS
   ·have hpb:decide (p < 0)=false:=decide_eq_false hpn
    have HPN:=Aside0.mk hpn
    clear hpn
    obtain⟨gu,cu,e0,_,_,_,_⟩:=Kd.S_form PT.out.S (by rw [rowsM_len];have:=HR.out;omega)
    rw [rowsM_len] at e0
    subst e0
    subst hu2
    have hg0:=cz_ ⟨PT.out.blk⟩ 0
    have hg1:=cz_ ⟨PT.out.blk⟩ 1
    have hg2:=cz_ ⟨PT.out.blk⟩ 2
    have hq0:=cz_ B6 0
    have hq1:=cz_ B6 1
    have hq2:=cz_ B6 2
    have hf0:=blk_frozen B6.out 0
    have hf1:=blk_frozen B6.out 1
    have hf2:=blk_frozen B6.out 2
    have hn6:=HN6.out
    have hn6':=Ne.symm HN6.out
    go_wp2
    have C0:=blk_put B6.out 0 (.slice (some ⟨gu,0,none⟩) n cu) rfl
    have C1:=blk_put C0 1 (.int .i64 p) rfl
    refine bodyPost_ret (results_cell_row rfl _ _ g6 100 #[(.slice (some ⟨gu,0,none⟩) n cu), .int .i64 p,(.slice (some ⟨gb,0,none⟩) B.length cb)] (0,0) _ rfl (blk_put C1 2 (.slice (some ⟨gb,0,none⟩) B.length cb) rfl) Try.underlying100 rfl (by kernel_rfl)) rfl ?_
    rw [HBX.out,show stD T r v=p from by unfold stD;rw [HP.out,if_neg (by have:=HPN.out;omega)]]
    refine⟨(.slice (some ⟨gu,0,none⟩) n cu),(.slice (some ⟨gb,0,none⟩) B.length cb),rfl,?_,tsetR (tsetR (tsetR PT.out.R B6.out (by decide)) C0 (by decide)) C1 (by decide),((PT.out.below.setCell HG6.out _).setCell HG6.out _).setCell HG6.out _⟩
    have hS:=tsetS (x:=(.slice (some ⟨gb,0,none⟩) B.length cb)) (j:=2) (tsetS (x:= .int .i64 p) (j:=1) (tsetS (x:=(.slice (some ⟨gu,0,none⟩) n cu)) (j:=0) PT.out.S B6.out (by decide)) C0 (by decide)) C1 (by decide)
    rw [rowsM_congr (Z:=stT T den r v) (fun a d ha _=>by unfold stT;rw [if_neg (by rw [HP.out];have:=HPN.out;omega),HX.out])] at hS
    exact hS
end Go.Proofs.Ytmpkckiifeikkaa.Lp
namespace Go.Proofs.Ytmpkckiifeikkaa.Pr
open Go.RowKit Go.Proofs.YtmpkckiifeikkaaW.PrintWords Go.Proofs.YtmpkckiifeikkaaW.PrintLast Go.Proofs.YtmpkckiifeikkaaW.PrintMore Go.Proofs.Ytmpkckiifeikkaa.Ma Go.Proofs.Ytmpkckiifeikkaa.Dt Go.Proofs.Ytmpkckiifeikkaa.Lk Go.Proofs.Ytmpkckiifeikkaa.Lt Go.Proofs.Ytmpkckiifeikkaa.Lq Go.Proofs.Ytmpkckiifeikkaa.Lp
def spec_l05Pivot.f (aa:List (List Int)) (a0_1:Int) (ae:List Int) (a1:Int) (a2:Int):Option ((List (List Int)) × Int × List Int):=
 if 0≤a1∧a1 < (aa.length:Int)∧a1 < (ae.length:Int)∧0≤a2∧a2 < ((aa.headD []).length:Int)∧(aa.all fun x=>x.length==(aa.headD []).length)=true∧aa.length≤1000∧(aa.headD []).length≤1000∧ae.length≤1000∧a0_1≠0 then
  some (rowsM aa.length (aa.headD []).length (stT (enL aa) a0_1 a1.toNat a2.toNat),stD (enL aa) a1.toNat a2.toNat,ae.set a1.toNat a2)
 else none
theorem spec_l05Pivot.calls (af:Option Addr) (ag:Nat) (aa:List (List Int)) (a0_1:Int) (ah:Option Addr) (ai:Nat) (ae:List Int) (a1:Int) (a2:Int) (r1:List (List Int)) (r2:Int) (r3:List Int) (w:World) (aj:Kd.C (Kd.slice 2 (Kd.int .i64)) w af aa.length aa) (au:aa.length≤ag) (ak:Kd.C (Kd.int .i64) w ah ae.length ae) (aq:ae.length≤ai) (h:spec_l05Pivot.f aa a0_1 ae a1 a2=some (r1,r2,r3)):
  Calls Try.prog 157 #[.agg #[.slice af aa.length ag, .int .i64 a0_1, .slice ah ae.length ai], .int .i64 a1, .int .i64 a2] w fun e w'=> ∃v0_ v2_:Value,e= .returned (.agg #[v0_, .int .i64 r2,v2_])∧Kd.S (Kd.slice 2 (Kd.int .i64)) 23 w' w.heap.size (fun k_=>some k_≠(v2_:Value).ownBlock) v0_ r1∧Kd.R (Kd.int .i64) 2 w' w.heap.size (fun _=>True) v2_ r3∧Below w.heap.size w w':=by
 unfold spec_l05Pivot.f at h
 split at h
 case isFalse=>cases h
 rename_i hc
 obtain⟨h1,h2,h3,h4,h5,h6,h7,h8,h9,h10⟩:=hc
 injection h with h
 injection h with e1 h
 injection h with e2 e3
 subst e1 e2 e3
 obtain⟨i,rfl⟩:=Int.eq_ofNat_of_zero_le h1
 obtain⟨j,rfl⟩:=Int.eq_ofNat_of_zero_le h4
 exact pivot_calls af ag aa a0_1 ah ai ae w aa.length (aa.headD []).length i j aj ak aq rfl (fun x hx=>by rw [List.all_eq_true] at h6;simpa using h6 x hx) (by omega) (by omega) (by omega) h9 h7 h8 h10
end Go.Proofs.Ytmpkckiifeikkaa.Pr
end
section
namespace Go.Proofs.Ytmpkckiifeikkaa.Pr
open Go.RowKit Go.Proofs.YtmpkckiifeikkaaW.PrintWords Go.Proofs.YtmpkckiifeikkaaW.PrintLast Go.Proofs.YtmpkckiifeikkaaW.PrintMore
attribute [local go_sem] max2_int min2_int max_two min_two max_three min_three max_four min_four
mutual
def spec_l05Run.l0:Nat→List Int→Int→Int→List (List Int)→Bool→Int→Int→List (List Int)→List Int→List (List Int)→Int→List Int→Option ((List (List Int)) × Int × List Int × (List (List Int)) × Int × Bool)
 | 0,_,_,_,_,_,_,_,_,_,_,_,_=>none
 | k+1,x1,x2,x11,x12,x13,x14,x15,ah,ag,ae,af,aa=>if x15 < (ag.length:Int) then(if x13=true then(if 0≤x15 then(if x15 < (x1.length:Int) then(if 0≤x14 then(if x14 < (x1.length:Int) then((spec_l05Key.f k ae af aa x15 x14 (rd x1 x15) (rd x1 x14)).bind fun aq=>(if aq=true then(spec_l05Run.l0 k x1 x2 x11 x12 true x15 (wrap64 (x15+1)) ah ag ae af aa) else(spec_l05Run.l0 k x1 x2 x11 x12 true x14 (wrap64 (x15+1)) ah ag ae af aa))) else(none)) else(none)) else(none)) else(none)) else(if 0≤x15 then(if x15 < (x1.length:Int) then(if 0≤x14 then(if x14 < (x1.length:Int) then((spec_l05Key.f k ae af aa x15 x14 (rd x1 x15) (rd x1 x14)).bind fun au=>(if au=true then(spec_l05Run.l0 k x1 x2 x11 x12 (decide ((rd ag x15) < 0)) x15 (wrap64 (x15+1)) ah ag ae af aa) else(spec_l05Run.l0 k x1 x2 x11 x12 (decide ((rd ag x15) < 0)) x14 (wrap64 (x15+1)) ah ag ae af aa))) else(none)) else(none)) else(none)) else(none))) else(if x13=true then(spec_l05Run.l1 k x2 x11 x12 x14 (wrap64 (2*x11)) ae af aa) else(some (ae,af,aa,x12,(-1),true)))
def spec_l05Run.l1:Nat→Int→Int→List (List Int)→Int→Int→List (List Int)→Int→List Int→Option ((List (List Int)) × Int × List Int × (List (List Int)) × Int × Bool)
 | 0,_,_,_,_,_,_,_,_=>none
 | k+1,x2,x11,x12,x14,x16,ae,af,aa=>if(x12.length:Int) < x2 then(if x16 < (wrap64 (2*x11)) then((spec_l05Row.f k ae af aa x16).bind fun aj=>(if aj < 0 then(some (ae,af,aa,x12,x16,false)) else(spec_l05Run.j2 k x2 x11 x12 aj x16 ae af aa))) else(spec_l05Run.j2 k x2 x11 x12 x14 x16 ae af aa)) else(some (ae,af,aa,x12,x16,false))
def spec_l05Run.j2:Nat→Int→Int→List (List Int)→Int→Int→List (List Int)→Int→List Int→Option ((List (List Int)) × Int × List Int × (List (List Int)) × Int × Bool)
 | 0,_,_,_,_,_,_,_,_=>none
 | k+1,x2,x11,x12,x14,x16,ae,af,aa=>if 0≤x14 then(if x14 < (aa.length:Int) then(if x12.length < 5864062014805 then((some (x12++ [(([x16,rd aa x14]:List Int))]:List (List Int))).bind fun ak=>((spec_l05Pivot.f ae af aa x14 x16).bind fun ai=>(if(rd aa x14)=(wrap64 (2*x11)) then(some (ai.1,ai.2.1,ai.2.2,ak,(-1),true)) else((spec_l05Partner.f (rd aa x14) x11).bind fun av=>(spec_l05Run.l1 k x2 x11 ak x14 av ai.1 ai.2.1 ai.2.2))))) else(none)) else(none)) else(none)
end
def spec_l05Run.f (k:Nat) (af:List (List Int)) (ae:List Int) (l1:List Int) (a2:Int):Option ((List (List Int)) × Int × List Int × (List (List Int)) × Int × Bool):=(spec_l05Begin.f k af ae l1).bind fun aa=>(spec_l05Run.l0 k l1 a2 (ae.length:Int) (([]:List (List Int))) false 0 0 af ae aa.1 aa.2.1 aa.2.2)
theorem spec_l05Run.mono_l: ∀k,(∀y0 y1 y2 y3 y4 y5 y6 y7 y8 y9 y10 y11,LeO (spec_l05Run.l0 k y0 y1 y2 y3 y4 y5 y6 y7 y8 y9 y10 y11) (spec_l05Run.l0 (k+1) y0 y1 y2 y3 y4 y5 y6 y7 y8 y9 y10 y11))∧(∀y0 y1 y2 y3 y4 y5 y6 y7,LeO (spec_l05Run.l1 k y0 y1 y2 y3 y4 y5 y6 y7) (spec_l05Run.l1 (k+1) y0 y1 y2 y3 y4 y5 y6 y7))∧(∀y0 y1 y2 y3 y4 y5 y6 y7,LeO (spec_l05Run.j2 k y0 y1 y2 y3 y4 y5 y6 y7) (spec_l05Run.j2 (k+1) y0 y1 y2 y3 y4 y5 y6 y7))
 | 0=>⟨fun _ _ _ _ _ _ _ _ _ _ _ _ r h=>by simp [spec_l05Run.l0] at h,fun _ _ _ _ _ _ _ _ r h=>by simp [spec_l05Run.l1] at h,fun _ _ _ _ _ _ _ _ r h=>by simp [spec_l05Run.j2] at h⟩
 | k+1=>by
  obtain⟨ih0,ih1,ih2⟩:=spec_l05Run.mono_l k
  refine⟨?_,?_,?_⟩
  ·intro y0 y1 y2 y3 y4 y5 y6 y7 y8 y9 y10 y11
   unfold spec_l05Run.l0
   repeat' first
   | (with_reducible exact ih0 _ _ _ _ _ _ _ _ _ _ _ _)
   | (with_reducible exact ih1 _ _ _ _ _ _ _ _)
   | (with_reducible exact ih2 _ _ _ _ _ _ _ _)
   | (with_reducible exact spec_l05Begin.mono _ _ _ _)
   | (with_reducible exact spec_l05Key.mono _ _ _ _ _ _ _ _)
   | (with_reducible exact spec_l05Row.mono _ _ _ _ _)
   | (with_reducible exact LeO.refl _)
   | (with_reducible exact LeO.none _)
   | (with_reducible refine LeO.ite ?_ ?_)
   | (with_reducible refine LeO.bind ?_ (fun _=>?_))
   | exact ih0 _ _ _ _ _ _ _ _ _ _ _ _
   | exact ih1 _ _ _ _ _ _ _ _
   | exact ih2 _ _ _ _ _ _ _ _
   | exact spec_l05Begin.mono _ _ _ _
   | exact spec_l05Key.mono _ _ _ _ _ _ _ _
   | exact spec_l05Row.mono _ _ _ _ _
   | exact LeO.none _
   | refine LeO.ite ?_ ?_
   | refine LeO.bind ?_ (fun _=>?_)
  ·intro y0 y1 y2 y3 y4 y5 y6 y7
   unfold spec_l05Run.l1
   repeat' first
   | (with_reducible exact ih0 _ _ _ _ _ _ _ _ _ _ _ _)
   | (with_reducible exact ih1 _ _ _ _ _ _ _ _)
   | (with_reducible exact ih2 _ _ _ _ _ _ _ _)
   | (with_reducible exact spec_l05Begin.mono _ _ _ _)
   | (with_reducible exact spec_l05Key.mono _ _ _ _ _ _ _ _)
   | (with_reducible exact spec_l05Row.mono _ _ _ _ _)
   | (with_reducible exact LeO.refl _)
   | (with_reducible exact LeO.none _)
   | (with_reducible refine LeO.ite ?_ ?_)
   | (with_reducible refine LeO.bind ?_ (fun _=>?_))
   | exact ih0 _ _ _ _ _ _ _ _ _ _ _ _
   | exact ih1 _ _ _ _ _ _ _ _
   | exact ih2 _ _ _ _ _ _ _ _
   | exact spec_l05Begin.mono _ _ _ _
   | exact spec_l05Key.mono _ _ _ _ _ _ _ _
   | exact spec_l05Row.mono _ _ _ _ _
   | exact LeO.none _
   | refine LeO.ite ?_ ?_
   | refine LeO.bind ?_ (fun _=>?_)
  ·intro y0 y1 y2 y3 y4 y5 y6 y7
   unfold spec_l05Run.j2
   repeat' first
   | (with_reducible exact ih0 _ _ _ _ _ _ _ _ _ _ _ _)
   | (with_reducible exact ih1 _ _ _ _ _ _ _ _)
   | (with_reducible exact ih2 _ _ _ _ _ _ _ _)
   | (with_reducible exact spec_l05Begin.mono _ _ _ _)
   | (with_reducible exact spec_l05Key.mono _ _ _ _ _ _ _ _)
   | (with_reducible exact spec_l05Row.mono _ _ _ _ _)
   | (with_reducible exact LeO.refl _)
   | (with_reducible exact LeO.none _)
   | (with_reducible refine LeO.ite ?_ ?_)
   | (with_reducible refine LeO.bind ?_ (fun _=>?_))
   | exact ih0 _ _ _ _ _ _ _ _ _ _ _ _
   | exact ih1 _ _ _ _ _ _ _ _
   | exact ih2 _ _ _ _ _ _ _ _
   | exact spec_l05Begin.mono _ _ _ _
   | exact spec_l05Key.mono _ _ _ _ _ _ _ _
   | exact spec_l05Row.mono _ _ _ _ _
   | exact LeO.none _
   | refine LeO.ite ?_ ?_
   | refine LeO.bind ?_ (fun _=>?_)
theorem spec_l05Run.mono: ∀a0 a1 a2 a3 k,LeO (spec_l05Run.f k a0 a1 a2 a3) (spec_l05Run.f (k+1) a0 a1 a2 a3):=by
 intro a0 a1 a2 a3 k
 obtain⟨ih0,ih1,ih2⟩:=spec_l05Run.mono_l k
 unfold spec_l05Run.f
 repeat' first
   | (with_reducible exact ih0 _ _ _ _ _ _ _ _ _ _ _ _)
   | (with_reducible exact ih1 _ _ _ _ _ _ _ _)
   | (with_reducible exact ih2 _ _ _ _ _ _ _ _)
   | (with_reducible exact spec_l05Begin.mono _ _ _ _)
   | (with_reducible exact spec_l05Key.mono _ _ _ _ _ _ _ _)
   | (with_reducible exact spec_l05Row.mono _ _ _ _ _)
   | (with_reducible exact LeO.refl _)
   | (with_reducible exact LeO.none _)
   | (with_reducible refine LeO.ite ?_ ?_)
   | (with_reducible refine LeO.bind ?_ (fun _=>?_))
   | exact ih0 _ _ _ _ _ _ _ _ _ _ _ _
   | exact ih1 _ _ _ _ _ _ _ _
   | exact ih2 _ _ _ _ _ _ _ _
   | exact spec_l05Begin.mono _ _ _ _
   | exact spec_l05Key.mono _ _ _ _ _ _ _ _
   | exact spec_l05Row.mono _ _ _ _ _
   | exact LeO.none _
   | refine LeO.ite ?_ ?_
   | refine LeO.bind ?_ (fun _=>?_)
def spec_l05Run.T1:Bool × List (List Nat × List Nat):=(true, [([], []),([], []),([0,1], [0,1]),([], []),([3], [3]),([4], [4]),([], []),([], []),([7,2,2,0,1,2,7], [2,7]),([5,8,0,1,2,3,4,5,7,8], [5]),([6,9,0,1,2,3,4,5,6,7,8,9], [6])])
def spec_l05Run.B1:List Nat:= [0,0,3,0,8,24,0,0,135,447,1023]
theorem spec_l05Run.tab1:rtab .any (opsOf Try.f95 1)=spec_l05Run.T1:=by kernel_rfl
theorem spec_l05Run.bits1:waitsOk spec_l05Run.T1.2 spec_l05Run.B1=true:=by kernel_rfl
def spec_l05Run.T7:Bool × List (List Nat × List Nat):=(true, [([], []),([], []),([], []),([], []),([], []),([3,4], [3,4]),([5], [5]),([], []),([], []),([7,8], [7,8]),([9], [9]),([0,1,2,6,10], [0,1,2,6,10])])
def spec_l05Run.B7:List Nat:= [0,0,0,0,0,24,56,0,0,384,896,2047]
theorem spec_l05Run.tab7:rtab .any (opsOf Try.f95 7)=spec_l05Run.T7:=by kernel_rfl
theorem spec_l05Run.bits7:waitsOk spec_l05Run.T7.2 spec_l05Run.B7=true:=by kernel_rfl
theorem spec_l05Run.calls (k:Nat) (aN:Option Addr) (aT:Nat) (aC:List (List Int)) (aU:Option Addr) (aV:Nat) (aq:List Int) (A1:Option Addr) (c1:Nat) (l1:List Int) (a2:Int) (r1:List (List Int)) (r2:Int) (r3:List Int) (r4:List (List Int)) (r5:Int) (r6:Bool) (w:World) (dY:Kd.C (Kd.slice 2 (Kd.int .i64)) w aN aC.length aC) (dZ:aC.length≤aT) (d9:Kd.C (Kd.int .i64) w aU aq.length aq) (ep:aq.length≤aV) (hr1:Kd.C (Kd.int .i64) w A1 l1.length l1) (hc1:l1.length≤c1) (h:spec_l05Run.f k aC aq l1 a2=some (r1,r2,r3,r4,r5,r6)):
  Calls Try.prog 95 #[.agg #[.slice aN aC.length aT, .slice aU aq.length aV], .slice A1 l1.length c1, .int .i64 a2] w fun e w'=> ∃v0_ v2_ v3_:Value,e= .returned (.tuple #[.agg #[v0_, .int .i64 r2,v2_],v3_, .int .i64 r5, .bool r6])∧Kd.S (Kd.slice 2 (Kd.int .i64)) 23 w' w.heap.size (fun k_=>some k_≠(v2_:Value).ownBlock∧some k_≠(v3_:Value).ownBlock) v0_ r1∧Kd.R (Kd.int .i64) 2 w' w.heap.size (fun _=>True) v2_ r3∧Kd.S (Kd.slice 2 (Kd.int .i64)) 23 w' w.heap.size (fun k_=>some k_≠(v0_:Value).ownBlock∧some k_≠(v2_:Value).ownBlock) v3_ r4∧Below w.heap.size w w':=by
 have hu30:=Try.underlying30
 have hu100:=Try.underlying100
 have HR0_0:=Aside0.mk dY
 have HC0_0:=Aside0.mk dZ
 clear dY dZ
 have HR0_1:=Aside0.mk d9
 have HC0_1:=Aside0.mk ep
 clear d9 ep
 have HR1:=Aside0.mk hr1
 have HC1:=Aside0.mk hc1
 clear hr1 hc1
 have HB:=Aside0.mk (Below.refl w.heap.size w)
 have H:((spec_l05Begin.f k aC aq l1).bind fun dI=>(spec_l05Run.l0 k l1 a2 (aq.length:Int) (([]:List (List Int))) false 0 0 aC aq dI.1 dI.2.1 dI.2.2))=some (r1,r2,r3,r4,r5,r6):=h
 clear h
 replace H:=Option.bind_eq_some_iff.mp H
 obtain⟨⟨aJ,aK,aM⟩,A40,H⟩:=H
 replace H:(spec_l05Run.l0 k l1 a2 (aq.length:Int) (([]:List (List Int))) false 0 0 aC aq aJ aK aM)=some (r1,r2,r3,r4,r5,r6):=H
 have A4:=Aside0.mk A40
 clear A40
 obtain⟨bu,hy235⟩: ∃y_:List (List Int),y_=(([]:List (List Int))):=⟨_,rfl⟩
 replace H:(spec_l05Run.l0 k l1 a2 (aq.length:Int) bu false 0 0 aC aq aJ aK aM)=some (r1,r2,r3,r4,r5,r6):=by first | (rw [hy235];with_reducible exact H) | (have H2_:=(Option.bind_some _ _).symm.trans H;rw [hy235];with_reducible exact H2_) | (have H2_:=(Option.bind_some _ _).symm.trans H;with_reducible exact H2_) | with_reducible exact H | (rw [hy235];exact H) | exact H
 have bN:=Aside0.mk hy235
 clear hy235
 have H':=Aside0.mk H
 clear H
 go_enter Try.func95,Try.ntmps95
 try go_wp2_with (first | ((with_reducible refine gate_dst (N:=3) rfl ?_);refine box_event ?hg (N:=3) ?hd (cs:= #[.slice aN aC.length aT, .slice aU aq.length aV]) (t:=30) ?hr ?_;(case hd=>rfl);(case hg=>rfl);(case hr=>first | (go_simp;done) | (go_simp;rfl));intro au hg w5 hbox hb;have af:=Aside0.mk (hbox);have j8:=Aside0.mk ((by rw [hg];exact bz_:w.heap.size≤au));have j9:=Aside0.mk ((by rw [hg];exact bz_:w.heap.size≤au));replace HB:=Aside0.mk (bs_ hb);clear hb hbox hg) | ((with_reducible refine gate_dst (N:=6) rfl ?_);refine box_event ?hg (N:=6) ?hd (cs:= #[.slice none 0 0, .int .i64 0, .slice none 0 0]) (t:=100) ?hr ?_;(case hd=>rfl);(case hg=>rfl);(case hr=>first | (go_simp;done) | (go_simp;rfl));intro ak hg w6 hbox hb;have ai:=Aside0.mk (hbox);have kg:=Aside0.mk ((by rw [hg];exact bz_:w.heap.size≤ak));have ko:=Aside0.mk ((by rw [hg];exact bz_:w.heap.size≤ak));have bC:=Aside0.mk ((by rw [hg];exact lt_ af.out:au≠ak));have bD:=Aside0.mk ((by rw [hg];exact gt_ af.out:ak≠au));replace af:=Aside0.mk (bb_ af.out hb);replace HB:=Aside0.mk (bs_ hb);clear hb hbox hg))
 replace af:=Aside0.mk (blk_drew af.out)
 replace ai:=Aside0.mk (blk_drew ai.out)
 replace HB:=Aside0.mk (below_drew1 HB.out)
 refine st_ (n:=11) (S:=fun w'=>w'.cell? ⟨au,0,none⟩=some (.slice aN aC.length aT)∧w'.cell? ⟨au,1,none⟩=some (.slice aU aq.length aV)) (ds:= []) ⟨(blk_cell af.out 0).trans rfl,(blk_cell af.out 1).trans rfl⟩ (fun hHeld=>?_);refine with_tabW spec_l05Run.tab1 spec_l05Run.bits1 (fun HT_ HW_=>?_)
 generalize w6.drew=w7 at af ai HB hHeld ⊢
 refine pu_ 1 19 ?_;refine pu_ 3 21 ?_;refine tk_ 0 18 ?_;refine tk_ 4 22 ?_;refine pu_ 5 23 ?_
 refine join_ (σ:=Value × Value × Value × Nat) 1 (fm 11 1023) (fun s_=> [(20, .agg #[s_.1, .int .i64 aK,s_.2.1]),(24,s_.2.2.1),(10, .pointer (some ⟨s_.2.2.2,0,none⟩)),(11, .int .i64 (aq.length:Int))]) (fun s_ w'=>(w'.cell? ⟨au,0,none⟩=some (.slice aN aC.length aT)∧w'.cell? ⟨au,1,none⟩=some (.slice aU aq.length aV))∧(Kd.S (Kd.slice 2 (Kd.int .i64)) 23 w' w.heap.size (fun k_=>some k_≠(s_.2.1:Value).ownBlock∧some k_≠(s_.2.2.1:Value).ownBlock) s_.1 aJ)∧(Kd.R (Kd.int .i64) 2 w' w.heap.size (fun _=>True) s_.2.1 aM)∧(Kd.S (Kd.slice 2 (Kd.int .i64)) 23 w' w.heap.size (fun k_=>some k_≠(s_.1:Value).ownBlock∧some k_≠(s_.2.1:Value).ownBlock) s_.2.2.1 bu)∧(w'.heap[au]?=some (.cells #[.slice aN aC.length aT, .slice aU aq.length aV] 30 (0,0)))∧(w'.heap[ak]?=some (.cells #[.slice none 0 0, .int .i64 0, .slice none 0 0] 100 (0,0)))∧(w'.heap[s_.2.2.2]?=some (.cells #[s_.1, .int .i64 aK,s_.2.1] 100 (0,0)))∧(w.heap.size≤s_.2.2.2)∧(w.heap.size≤s_.2.2.2)∧(au≠s_.2.2.2)∧(s_.2.2.2≠au)∧(ak≠s_.2.2.2)∧(s_.2.2.2≠ak)∧(Below w.heap.size w w')) ?_ ?_
 rotate_left
 ·intro cZ
  refine join_ (σ:=Value × Value × Value × Nat) 3 (fm 11 255) (fun s_=> [(20, .agg #[s_.1, .int .i64 aK,s_.2.1]),(24,s_.2.2.1),(10, .pointer (some ⟨s_.2.2.2,0,none⟩))]) (fun s_ w'=>(w'.cell? ⟨au,0,none⟩=some (.slice aN aC.length aT)∧w'.cell? ⟨au,1,none⟩=some (.slice aU aq.length aV))∧(Kd.S (Kd.slice 2 (Kd.int .i64)) 23 w' w.heap.size (fun k_=>some k_≠(s_.2.1:Value).ownBlock∧some k_≠(s_.2.2.1:Value).ownBlock) s_.1 aJ)∧(Kd.R (Kd.int .i64) 2 w' w.heap.size (fun _=>True) s_.2.1 aM)∧(Kd.S (Kd.slice 2 (Kd.int .i64)) 23 w' w.heap.size (fun k_=>some k_≠(s_.1:Value).ownBlock∧some k_≠(s_.2.1:Value).ownBlock) s_.2.2.1 bu)∧(w'.heap[au]?=some (.cells #[.slice aN aC.length aT, .slice aU aq.length aV] 30 (0,0)))∧(w'.heap[ak]?=some (.cells #[.slice none 0 0, .int .i64 0, .slice none 0 0] 100 (0,0)))∧(w'.heap[s_.2.2.2]?=some (.cells #[.slice none 0 0, .int .i64 0, .slice none 0 0] 100 (0,0)))∧(w.heap.size≤s_.2.2.2)∧(w.heap.size≤s_.2.2.2)∧(au≠s_.2.2.2)∧(s_.2.2.2≠au)∧(ak≠s_.2.2.2)∧(s_.2.2.2≠ak)∧(Below w.heap.size w w')) ?_ ?_
  rotate_left
  ·intro cP
   refine join_ (σ:=Value × Value × Nat) 2 (fm 11 959) (fun s_=> [(20, .agg #[s_.1, .int .i64 aK,s_.2.1]),(10, .pointer (some ⟨s_.2.2,0,none⟩)),(11, .int .i64 (aq.length:Int))]) (fun s_ w'=>(w'.cell? ⟨au,0,none⟩=some (.slice aN aC.length aT)∧w'.cell? ⟨au,1,none⟩=some (.slice aU aq.length aV))∧(Kd.S (Kd.slice 2 (Kd.int .i64)) 23 w' w.heap.size (fun k_=>some k_≠(s_.2.1:Value).ownBlock) s_.1 aJ)∧(Kd.R (Kd.int .i64) 2 w' w.heap.size (fun _=>True) s_.2.1 aM)∧(w'.heap[au]?=some (.cells #[.slice aN aC.length aT, .slice aU aq.length aV] 30 (0,0)))∧(w'.heap[ak]?=some (.cells #[.slice none 0 0, .int .i64 0, .slice none 0 0] 100 (0,0)))∧(w'.heap[s_.2.2]?=some (.cells #[s_.1, .int .i64 aK,s_.2.1] 100 (0,0)))∧(w.heap.size≤s_.2.2)∧(w.heap.size≤s_.2.2)∧(au≠s_.2.2)∧(s_.2.2≠au)∧(ak≠s_.2.2)∧(s_.2.2≠ak)∧(Below w.heap.size w w')) ?_ ?_
   rotate_left
   ·intro eF
    refine join_ (σ:=Value × Value × Value) 4 (fm 11 127) (fun s_=> [(20, .agg #[s_.1, .int .i64 aK,s_.2.1]),(24,s_.2.2)]) (fun s_ w'=>(w'.cell? ⟨au,0,none⟩=some (.slice aN aC.length aT)∧w'.cell? ⟨au,1,none⟩=some (.slice aU aq.length aV))∧(Kd.S (Kd.slice 2 (Kd.int .i64)) 23 w' w.heap.size (fun k_=>some k_≠(s_.2.1:Value).ownBlock∧some k_≠(s_.2.2:Value).ownBlock) s_.1 aJ)∧(Kd.R (Kd.int .i64) 2 w' w.heap.size (fun _=>True) s_.2.1 aM)∧(Kd.S (Kd.slice 2 (Kd.int .i64)) 23 w' w.heap.size (fun k_=>some k_≠(s_.1:Value).ownBlock∧some k_≠(s_.2.1:Value).ownBlock) s_.2.2 bu)∧(w'.heap[au]?=some (.cells #[.slice aN aC.length aT, .slice aU aq.length aV] 30 (0,0)))∧(w'.heap[ak]?=some (.cells #[.slice none 0 0, .int .i64 0, .slice none 0 0] 100 (0,0)))∧(Below w.heap.size w w')) ?_ ?_
    rotate_left
    ·intro eu
     refine join_ (σ:=Value × Value × Nat) 4 (fm 11 191) (fun s_=> [(20, .agg #[s_.1, .int .i64 aK,s_.2.1]),(10, .pointer (some ⟨s_.2.2,0,none⟩))]) (fun s_ w'=>(w'.cell? ⟨au,0,none⟩=some (.slice aN aC.length aT)∧w'.cell? ⟨au,1,none⟩=some (.slice aU aq.length aV))∧(Kd.S (Kd.slice 2 (Kd.int .i64)) 23 w' w.heap.size (fun k_=>some k_≠(s_.2.1:Value).ownBlock) s_.1 aJ)∧(Kd.R (Kd.int .i64) 2 w' w.heap.size (fun _=>True) s_.2.1 aM)∧(w'.heap[au]?=some (.cells #[.slice aN aC.length aT, .slice aU aq.length aV] 30 (0,0)))∧(w'.heap[ak]?=some (.cells #[.slice none 0 0, .int .i64 0, .slice none 0 0] 100 (0,0)))∧(w'.heap[s_.2.2]?=some (.cells #[.slice none 0 0, .int .i64 0, .slice none 0 0] 100 (0,0)))∧(w.heap.size≤s_.2.2)∧(w.heap.size≤s_.2.2)∧(au≠s_.2.2)∧(s_.2.2≠au)∧(ak≠s_.2.2)∧(s_.2.2≠ak)∧(Below w.heap.size w w')) ?_ ?_
     rotate_left
     ·intro ez
      refine join_ (σ:=Value × Nat) 4 (fm 11 251) (fun s_=> [(24,s_.1),(10, .pointer (some ⟨s_.2,0,none⟩))]) (fun s_ w'=>(w'.cell? ⟨au,0,none⟩=some (.slice aN aC.length aT)∧w'.cell? ⟨au,1,none⟩=some (.slice aU aq.length aV))∧(Kd.S (Kd.slice 2 (Kd.int .i64)) 23 w' w.heap.size (fun _=>True) s_.1 bu)∧(w'.heap[au]?=some (.cells #[.slice aN aC.length aT, .slice aU aq.length aV] 30 (0,0)))∧(w'.heap[ak]?=some (.cells #[.slice none 0 0, .int .i64 0, .slice none 0 0] 100 (0,0)))∧(w'.heap[s_.2]?=some (.cells #[.slice none 0 0, .int .i64 0, .slice none 0 0] 100 (0,0)))∧(w.heap.size≤s_.2)∧(w.heap.size≤s_.2)∧(au≠s_.2)∧(s_.2≠au)∧(ak≠s_.2)∧(s_.2≠ak)∧(Below w.heap.size w w')) ?_ ?_
      rotate_left
      ·intro eB
       refine join_ (σ:=Value × Value) 5 (fm 11 63) (fun s_=> [(20, .agg #[s_.1, .int .i64 aK,s_.2])]) (fun s_ w'=>(w'.cell? ⟨au,0,none⟩=some (.slice aN aC.length aT)∧w'.cell? ⟨au,1,none⟩=some (.slice aU aq.length aV))∧(Kd.S (Kd.slice 2 (Kd.int .i64)) 23 w' w.heap.size (fun k_=>some k_≠(s_.2:Value).ownBlock) s_.1 aJ)∧(Kd.R (Kd.int .i64) 2 w' w.heap.size (fun _=>True) s_.2 aM)∧(w'.heap[au]?=some (.cells #[.slice aN aC.length aT, .slice aU aq.length aV] 30 (0,0)))∧(w'.heap[ak]?=some (.cells #[.slice none 0 0, .int .i64 0, .slice none 0 0] 100 (0,0)))∧(Below w.heap.size w w')) ?_ ?_
       rotate_left
       ·intro jK
        refine join_ (σ:=Value) 5 (fm 11 123) (fun s_=> [(24,s_)]) (fun s_ w'=>(w'.cell? ⟨au,0,none⟩=some (.slice aN aC.length aT)∧w'.cell? ⟨au,1,none⟩=some (.slice aU aq.length aV))∧(Kd.S (Kd.slice 2 (Kd.int .i64)) 23 w' w.heap.size (fun _=>True) s_ bu)∧(w'.heap[au]?=some (.cells #[.slice aN aC.length aT, .slice aU aq.length aV] 30 (0,0)))∧(w'.heap[ak]?=some (.cells #[.slice none 0 0, .int .i64 0, .slice none 0 0] 100 (0,0)))∧(Below w.heap.size w w')) ?_ ?_
        rotate_left
        ·intro jL
         refine join_ (σ:=Nat) 5 (fm 11 187) (fun s_=> [(10, .pointer (some ⟨s_,0,none⟩))]) (fun s_ w'=>(w'.cell? ⟨au,0,none⟩=some (.slice aN aC.length aT)∧w'.cell? ⟨au,1,none⟩=some (.slice aU aq.length aV))∧(w'.heap[au]?=some (.cells #[.slice aN aC.length aT, .slice aU aq.length aV] 30 (0,0)))∧(w'.heap[ak]?=some (.cells #[.slice none 0 0, .int .i64 0, .slice none 0 0] 100 (0,0)))∧(w'.heap[s_]?=some (.cells #[.slice none 0 0, .int .i64 0, .slice none 0 0] 100 (0,0)))∧(w.heap.size≤s_)∧(w.heap.size≤s_)∧(au≠s_)∧(s_≠au)∧(ak≠s_)∧(s_≠ak)∧(Below w.heap.size w w')) ?_ ?_
         rotate_left
         ·intro jM
          refine three_ (i:=2) (j:=6) (k:=7) (Ni:=some 20) (Nj:=some 24) (Nk:=some 10) (fm 11 63) (fm 11 123) (fm 11 187) rfl rfl rfl rfl rfl rfl (three_of HT_.out (by kernel_rfl)) (by decide) (by decide) (by decide) (fun K hK=>?_) (fun K hK=>?_) (fun K hK=>?_)
          ·skip
           refine goes_ Try.func154 (by kernel_rfl) rfl #[.agg #[.slice aN aC.length aT, .slice aU aq.length aV], .slice A1 l1.length c1] (by rfl) rfl rfl (by(try simp only [List.map_toArray,List.map_cons,List.map_nil]);first | done | rfl | (simp only [List.length_drop,List.length_take];rfl)) ?_
           with_reducible refine(spec_l05Begin.calls k _ _ aC _ _ aq _ _ l1 aJ aK aM _ ?bh ?bi ?bk ?bn ?bX ?bY A4.out).mono ?_
           (case bh=>exact cb_ HR0_0.out HB.out)
           (case bi=>exact HC0_0.out)
           (case bk=>exact cb_ HR0_1.out HB.out)
           (case bn=>exact HC0_1.out)
           (case bX=>exact cb_ HR1.out HB.out)
           (case bY=>exact HC1.out)
           rintro e w8 ⟨bb,aY,rfl,ho0,ho1,hb⟩
           refine⟨_,rfl,?_⟩
           have aW:=Aside0.mk (Kd.S_lower ho0 bz_)
           have aX:=Aside0.mk (Kd.R_lower ho1 bz_)
           replace af:=Aside0.mk (bb_ af.out hb)
           replace ai:=Aside0.mk (bb_ ai.out hb)
           replace HB:=Aside0.mk (bs_ hb)
           (try clear hb)
           (try clear hb2)
           (try clear hk)
           (try clear hi)
           (try clear ho0)
           (try clear ho1)
           refine hK.out _ _ ⟨(blk_cell af.out 0).trans rfl,(blk_cell af.out 1).trans rfl⟩ (fun hHeld=>?_)
           clear hK K
           refine norm_ (a':=?_) ?_ ?_
           rotate_left
           ·show Act.put _ (some 20) _=_
            simp only [Act.put,List.setIfInBounds_toArray,List.set_cons_zero,List.set_cons_succ,i64_w,i32_w]
            rfl
           exact norm_ (by first | (simp only [putAll,Act.put,List.setIfInBounds_toArray,List.set_cons_zero,List.set_cons_succ];done) | (simp only [putAll,Act.put,List.setIfInBounds_toArray,List.set_cons_zero,List.set_cons_succ];rfl)) (jK (bb,aY) _ ⟨hHeld,(so_ aW.out),(ro_ aX.out),bk_,bk_,hb_⟩)
          ·skip
           refine Kd.S_lit_step (Kd.slice 2 (Kd.int .i64)) _ 23 ?hg (N:=24) ?hd (xs:=([]:List (List Int))) (inner:= []) (ok:=fun _=>True) (okp:=fun _=>True) ?hr ?hp (fun _ hk=>hk) trivial (Below.refl _ _) (Nat.le_refl _) (by simp) ?_;(case hd=>rfl);(case hg=>rfl);(case hr=>first | (go_simp;done) | (go_simp;rfl));(case hp=>exact(Reps.none _ _))
           intro bq w8 ho9 hb hg_ hnew_
           clear hg_ hnew_
           (first | rw [← bN.out] at ho9 | (simp only [Int.reduceToNat] at ho9;rw [← bN.out] at ho9))
           have aZ:=Aside0.mk (Kd.S_lower ho9 bz_)
           replace af:=Aside0.mk (bb_ af.out hb)
           replace ai:=Aside0.mk (bb_ ai.out hb)
           replace HB:=Aside0.mk (bs_ hb)
           clear hb ho9
           refine hK.out _ _ ⟨(blk_cell af.out 0).trans rfl,(blk_cell af.out 1).trans rfl⟩ (fun hHeld=>?_)
           clear hK K
           refine norm_ (a':=?_) ?_ ?_
           rotate_left
           ·show Act.put _ (some 24) _=_
            simp only [Act.put,List.setIfInBounds_toArray,List.set_cons_zero,List.set_cons_succ,i64_w,i32_w]
            rfl
           exact norm_ (by first | (simp only [putAll,Act.put,List.setIfInBounds_toArray,List.set_cons_zero,List.set_cons_succ];done) | (simp only [putAll,Act.put,List.setIfInBounds_toArray,List.set_cons_zero,List.set_cons_succ];rfl)) (jL (bq) _ ⟨hHeld,(so_ aZ.out),bk_,bk_,hb_⟩)
          ·skip
           refine box_step ?hg (N:=10) ?hd (cs:= #[.slice none 0 0, .int .i64 0, .slice none 0 0]) (t:=100) ?hr ?_;(case hd=>rfl);(case hg=>rfl);(case hr=>first | (go_simp;done) | (go_simp;rfl))
           intro aa hg w8 hbox hb
           have ae:=Aside0.mk (hbox)
           have bv:=Aside0.mk ((by rw [hg];exact bz_:w.heap.size≤aa))
           have bw:=Aside0.mk ((by rw [hg];exact bz_:w.heap.size≤aa))
           have av:=Aside0.mk ((by rw [hg];exact lt_ af.out:au≠aa))
           have az:=Aside0.mk ((by rw [hg];exact gt_ af.out:aa≠au))
           have ax:=Aside0.mk ((by rw [hg];exact lt_ ai.out:ak≠aa))
           have aG:=Aside0.mk ((by rw [hg];exact gt_ ai.out:aa≠ak))
           replace af:=Aside0.mk (bb_ af.out hb)
           replace ai:=Aside0.mk (bb_ ai.out hb)
           replace HB:=Aside0.mk (bs_ hb)
           clear hb hbox hg
           refine hK.out _ _ ⟨(blk_cell af.out 0).trans rfl,(blk_cell af.out 1).trans rfl⟩ (fun hHeld=>?_)
           clear hK K
           refine norm_ (a':=?_) ?_ ?_
           rotate_left
           ·show Act.put _ (some 10) _=_
            simp only [Act.put,List.setIfInBounds_toArray,List.set_cons_zero,List.set_cons_succ,i64_w,i32_w]
            rfl
           exact norm_ (by first | (simp only [putAll,Act.put,List.setIfInBounds_toArray,List.set_cons_zero,List.set_cons_succ];done) | (simp only [putAll,Act.put,List.setIfInBounds_toArray,List.set_cons_zero,List.set_cons_succ];rfl)) (jM (aa) _ ⟨hHeld,bk_,bk_,bk_,bv.out,bw.out,av.out,az.out,ax.out,aG.out,hb_⟩)
         ·skip
          rintro aa w9 ⟨hS_,h0_,h1_,h2_,h3_,h4_,h5_,h6_,h7_,h8_,h9_⟩
          have n0_:Aside0 (w9.heap[au]?=some (.cells #[.slice aN aC.length aT, .slice aU aq.length aV] 30 (0,0))):=⟨h0_⟩
          have n1_:Aside0 (w9.heap[ak]?=some (.cells #[.slice none 0 0, .int .i64 0, .slice none 0 0] 100 (0,0))):=⟨h1_⟩
          have n2_:Aside0 (w9.heap[aa]?=some (.cells #[.slice none 0 0, .int .i64 0, .slice none 0 0] 100 (0,0))):=⟨h2_⟩
          have n3_:Aside0 (w.heap.size≤aa):=⟨h3_⟩
          have n4_:Aside0 (w.heap.size≤aa):=⟨h4_⟩
          have n5_:Aside0 (au≠aa):=⟨h5_⟩
          have n6_:Aside0 (aa≠au):=⟨h6_⟩
          have n7_:Aside0 (ak≠aa):=⟨h7_⟩
          have n8_:Aside0 (aa≠ak):=⟨h8_⟩
          have n9_:Aside0 (Below w.heap.size w w9):=⟨h9_⟩
          clear af ai HB h0_ h1_ h2_ h3_ h4_ h5_ h6_ h7_ h8_ h9_
          have af:=n0_
          have ai:=n1_
          have ae:=n2_
          have bv:=n3_
          have bw:=n4_
          have av:=n5_
          have az:=n6_
          have ax:=n7_
          have aG:=n8_
          have HB:=n9_
          clear n0_ n1_ n2_ n3_ n4_ n5_ n6_ n7_ n8_ n9_
          have hHeld:w9.cell? ⟨au,0,none⟩=some (.slice aN aC.length aT)∧w9.cell? ⟨au,1,none⟩=some (.slice aU aq.length aV):=hS_
          refine norm_ (a':=?_) ?_ ?_
          rotate_left
          ·simp only [putAll,Act.put,List.setIfInBounds_toArray,List.set_cons_zero,List.set_cons_succ]
           rfl
          refine two_ (i:=2) (j:=6) (Ni:=some 20) (Nj:=some 24) (fm 11 191) (fm 11 251) rfl rfl rfl rfl (two_of HT_.out (by kernel_rfl)) (by decide) (by decide) (fun K hK=>?_) (fun K hK=>?_)
          ·skip
           refine goes_ Try.func154 (by kernel_rfl) rfl #[.agg #[.slice aN aC.length aT, .slice aU aq.length aV], .slice A1 l1.length c1] (by rfl) rfl rfl (by(try simp only [List.map_toArray,List.map_cons,List.map_nil]);first | done | rfl | (simp only [List.length_drop,List.length_take];rfl)) ?_
           with_reducible refine(spec_l05Begin.calls k _ _ aC _ _ aq _ _ l1 aJ aK aM _ ?bh ?bi ?bk ?bn ?bX ?bY A4.out).mono ?_
           (case bh=>exact cb_ HR0_0.out HB.out)
           (case bi=>exact HC0_0.out)
           (case bk=>exact cb_ HR0_1.out HB.out)
           (case bn=>exact HC0_1.out)
           (case bX=>exact cb_ HR1.out HB.out)
           (case bY=>exact HC1.out)
           rintro e w10 ⟨bb,aY,rfl,ho0,ho1,hb⟩
           refine⟨_,rfl,?_⟩
           have aW:=Aside0.mk (Kd.S_lower ho0 bz_)
           have aX:=Aside0.mk (Kd.R_lower ho1 bz_)
           replace af:=Aside0.mk (bb_ af.out hb)
           replace ai:=Aside0.mk (bb_ ai.out hb)
           replace ae:=Aside0.mk (bb_ ae.out hb)
           replace HB:=Aside0.mk (bs_ hb)
           (try clear hb)
           (try clear hb2)
           (try clear hk)
           (try clear hi)
           (try clear ho0)
           (try clear ho1)
           refine hK.out _ _ ⟨(blk_cell af.out 0).trans rfl,(blk_cell af.out 1).trans rfl⟩ (fun hHeld=>?_)
           clear hK K
           refine norm_ (a':=?_) ?_ ?_
           rotate_left
           ·show Act.put _ (some 20) _=_
            simp only [Act.put,List.setIfInBounds_toArray,List.set_cons_zero,List.set_cons_succ,i64_w,i32_w]
            rfl
           exact norm_ (by first | (simp only [putAll,Act.put,List.setIfInBounds_toArray,List.set_cons_zero,List.set_cons_succ];done) | (simp only [putAll,Act.put,List.setIfInBounds_toArray,List.set_cons_zero,List.set_cons_succ];rfl)) (ez (bb,aY,aa) _ ⟨hHeld,(so_ aW.out),(ro_ aX.out),bk_,bk_,bk_,bv.out,bw.out,av.out,az.out,ax.out,aG.out,hb_⟩)
          ·skip
           refine Kd.S_lit_step (Kd.slice 2 (Kd.int .i64)) _ 23 ?hg (N:=24) ?hd (xs:=([]:List (List Int))) (inner:= []) (ok:=fun _=>True) (okp:=fun _=>True) ?hr ?hp (fun _ hk=>hk) trivial (Below.refl _ _) (Nat.le_refl _) (by simp) ?_;(case hd=>rfl);(case hg=>rfl);(case hr=>first | (go_simp;done) | (go_simp;rfl));(case hp=>exact(Reps.none _ _))
           intro bq w10 bP hb hg_ hnew_
           clear hg_ hnew_
           (first | rw [← bN.out] at bP | (simp only [Int.reduceToNat] at bP;rw [← bN.out] at bP))
           have aZ:=Aside0.mk (Kd.S_lower bP bz_)
           replace af:=Aside0.mk (bb_ af.out hb)
           replace ai:=Aside0.mk (bb_ ai.out hb)
           replace ae:=Aside0.mk (bb_ ae.out hb)
           replace HB:=Aside0.mk (bs_ hb)
           clear hb bP
           refine hK.out _ _ ⟨(blk_cell af.out 0).trans rfl,(blk_cell af.out 1).trans rfl⟩ (fun hHeld=>?_)
           clear hK K
           refine norm_ (a':=?_) ?_ ?_
           rotate_left
           ·show Act.put _ (some 24) _=_
            simp only [Act.put,List.setIfInBounds_toArray,List.set_cons_zero,List.set_cons_succ,i64_w,i32_w]
            rfl
           exact norm_ (by first | (simp only [putAll,Act.put,List.setIfInBounds_toArray,List.set_cons_zero,List.set_cons_succ];done) | (simp only [putAll,Act.put,List.setIfInBounds_toArray,List.set_cons_zero,List.set_cons_succ];rfl)) (eB (bq,aa) _ ⟨hHeld,(so_ aZ.out),bk_,bk_,bk_,bv.out,bw.out,av.out,az.out,ax.out,aG.out,hb_⟩)
        ·skip
         rintro bq w10 ⟨hS_,h0_,h1_,h2_,h3_⟩
         have n0_:Aside0 (Kd.S (Kd.slice 2 (Kd.int .i64)) 23 w10 w.heap.size (fun _=>True) bq bu):=⟨h0_⟩
         have n1_:Aside0 (w10.heap[au]?=some (.cells #[.slice aN aC.length aT, .slice aU aq.length aV] 30 (0,0))):=⟨h1_⟩
         have n2_:Aside0 (w10.heap[ak]?=some (.cells #[.slice none 0 0, .int .i64 0, .slice none 0 0] 100 (0,0))):=⟨h2_⟩
         have n3_:Aside0 (Below w.heap.size w w10):=⟨h3_⟩
         clear af ai HB h0_ h1_ h2_ h3_
         have aZ:=n0_
         have af:=n1_
         have ai:=n2_
         have HB:=n3_
         clear n0_ n1_ n2_ n3_
         have hHeld:w10.cell? ⟨au,0,none⟩=some (.slice aN aC.length aT)∧w10.cell? ⟨au,1,none⟩=some (.slice aU aq.length aV):=hS_
         refine norm_ (a':=?_) ?_ ?_
         rotate_left
         ·simp only [putAll,Act.put,List.setIfInBounds_toArray,List.set_cons_zero,List.set_cons_succ]
          rfl
         refine two_ (i:=2) (j:=7) (Ni:=some 20) (Nj:=some 10) (fm 11 127) (fm 11 251) rfl rfl rfl rfl (two_of HT_.out (by kernel_rfl)) (by decide) (by decide) (fun K hK=>?_) (fun K hK=>?_)
         ·skip
          refine goes_ Try.func154 (by kernel_rfl) rfl #[.agg #[.slice aN aC.length aT, .slice aU aq.length aV], .slice A1 l1.length c1] (by rfl) rfl rfl (by(try simp only [List.map_toArray,List.map_cons,List.map_nil]);first | done | rfl | (simp only [List.length_drop,List.length_take];rfl)) ?_
          with_reducible refine(spec_l05Begin.calls k _ _ aC _ _ aq _ _ l1 aJ aK aM _ ?bh ?bi ?bk ?bn ?bX ?bY A4.out).mono ?_
          (case bh=>exact cb_ HR0_0.out HB.out)
          (case bi=>exact HC0_0.out)
          (case bk=>exact cb_ HR0_1.out HB.out)
          (case bn=>exact HC0_1.out)
          (case bX=>exact cb_ HR1.out HB.out)
          (case bY=>exact HC1.out)
          rintro e w11 ⟨bb,aY,rfl,ho0,ho1,hb⟩
          refine⟨_,rfl,?_⟩
          have aW:=Aside0.mk (Kd.S_lower (Kd.S_new' ho0 (Kd.S_lt (so_ aZ.out))) bz_)
          have aX:=Aside0.mk (Kd.R_lower ho1 bz_)
          replace af:=Aside0.mk (bb_ af.out hb)
          replace ai:=Aside0.mk (bb_ ai.out hb)
          replace aZ:=Aside0.mk (Kd.S_mono (Kd.S_told (Kd.S_told (Kd.S_old (so_ aZ.out) hb) (Kd.S_base ho0)) (Kd.R_base ho1)) (fun _ h_=>h_.1))
          replace HB:=Aside0.mk (bs_ hb)
          (try clear hb)
          (try clear hb2)
          (try clear hk)
          (try clear hi)
          (try clear ho0)
          (try clear ho1)
          refine hK.out _ _ ⟨(blk_cell af.out 0).trans rfl,(blk_cell af.out 1).trans rfl⟩ (fun hHeld=>?_)
          clear hK K
          refine norm_ (a':=?_) ?_ ?_
          rotate_left
          ·show Act.put _ (some 20) _=_
           simp only [Act.put,List.setIfInBounds_toArray,List.set_cons_zero,List.set_cons_succ,i64_w,i32_w]
           rfl
          exact norm_ (by first | (simp only [putAll,Act.put,List.setIfInBounds_toArray,List.set_cons_zero,List.set_cons_succ];done) | (simp only [putAll,Act.put,List.setIfInBounds_toArray,List.set_cons_zero,List.set_cons_succ];rfl)) (eu (bb,aY,bq) _ ⟨hHeld,(so_ aW.out),(ro_ aX.out),(by(with_reducible repeat (first | apply Kd.S_alloc | apply Kd.S_drewN | apply Kd.S_drew));exact Kd.S_mono aZ.out (fun _ hk=>⟨hk.1.2,hk.2⟩)),bk_,bk_,hb_⟩)
         ·skip
          refine box_step ?hg (N:=10) ?hd (cs:= #[.slice none 0 0, .int .i64 0, .slice none 0 0]) (t:=100) ?hr ?_;(case hd=>rfl);(case hg=>rfl);(case hr=>first | (go_simp;done) | (go_simp;rfl))
          intro aa hg w11 hbox hb
          replace aZ:=Aside0.mk (Kd.S_below (so_ aZ.out) hb)
          have ae:=Aside0.mk (hbox)
          have bv:=Aside0.mk ((by rw [hg];exact bz_:w.heap.size≤aa))
          have bw:=Aside0.mk ((by rw [hg];exact bz_:w.heap.size≤aa))
          have av:=Aside0.mk ((by rw [hg];exact lt_ af.out:au≠aa))
          have az:=Aside0.mk ((by rw [hg];exact gt_ af.out:aa≠au))
          have ax:=Aside0.mk ((by rw [hg];exact lt_ ai.out:ak≠aa))
          have aG:=Aside0.mk ((by rw [hg];exact gt_ ai.out:aa≠ak))
          replace af:=Aside0.mk (bb_ af.out hb)
          replace ai:=Aside0.mk (bb_ ai.out hb)
          replace HB:=Aside0.mk (bs_ hb)
          clear hb hbox hg
          refine hK.out _ _ ⟨(blk_cell af.out 0).trans rfl,(blk_cell af.out 1).trans rfl⟩ (fun hHeld=>?_)
          clear hK K
          refine norm_ (a':=?_) ?_ ?_
          rotate_left
          ·show Act.put _ (some 10) _=_
           simp only [Act.put,List.setIfInBounds_toArray,List.set_cons_zero,List.set_cons_succ,i64_w,i32_w]
           rfl
          exact norm_ (by first | (simp only [putAll,Act.put,List.setIfInBounds_toArray,List.set_cons_zero,List.set_cons_succ];done) | (simp only [putAll,Act.put,List.setIfInBounds_toArray,List.set_cons_zero,List.set_cons_succ];rfl)) (eB (bq,aa) _ ⟨hHeld,(so_ aZ.out),bk_,bk_,bk_,bv.out,bw.out,av.out,az.out,ax.out,aG.out,hb_⟩)
       ·skip
        rintro ⟨bb,aY⟩ w9 ⟨hS_,h0_,h1_,h2_,h3_,h4_⟩
        have n0_:Aside0 (Kd.S (Kd.slice 2 (Kd.int .i64)) 23 w9 w.heap.size (fun k_=>some k_≠(aY:Value).ownBlock) bb aJ):=⟨h0_⟩
        have n1_:Aside0 (Kd.R (Kd.int .i64) 2 w9 w.heap.size (fun _=>True) aY aM):=⟨h1_⟩
        have n2_:Aside0 (w9.heap[au]?=some (.cells #[.slice aN aC.length aT, .slice aU aq.length aV] 30 (0,0))):=⟨h2_⟩
        have n3_:Aside0 (w9.heap[ak]?=some (.cells #[.slice none 0 0, .int .i64 0, .slice none 0 0] 100 (0,0))):=⟨h3_⟩
        have n4_:Aside0 (Below w.heap.size w w9):=⟨h4_⟩
        clear af ai HB h0_ h1_ h2_ h3_ h4_
        have aW:=n0_
        have aX:=n1_
        have af:=n2_
        have ai:=n3_
        have HB:=n4_
        clear n0_ n1_ n2_ n3_ n4_
        have hHeld:w9.cell? ⟨au,0,none⟩=some (.slice aN aC.length aT)∧w9.cell? ⟨au,1,none⟩=some (.slice aU aq.length aV):=hS_
        refine norm_ (a':=?_) ?_ ?_
        rotate_left
        ·simp only [putAll,Act.put,List.setIfInBounds_toArray,List.set_cons_zero,List.set_cons_succ]
         rfl
        refine two_ (i:=6) (j:=7) (Ni:=some 24) (Nj:=some 10) (fm 11 127) (fm 11 191) rfl rfl rfl rfl (two_of HT_.out (by kernel_rfl)) (by decide) (by decide) (fun K hK=>?_) (fun K hK=>?_)
        ·skip
         refine Kd.S_lit_step (Kd.slice 2 (Kd.int .i64)) _ 23 ?hg (N:=24) ?hd (xs:=([]:List (List Int))) (inner:= []) (ok:=fun _=>True) (okp:=fun _=>True) ?hr ?hp (fun _ hk=>hk) trivial (Below.refl _ _) (Nat.le_refl _) (by simp) ?_;(case hd=>rfl);(case hg=>rfl);(case hr=>first | (go_simp;done) | (go_simp;rfl));(case hp=>exact(Reps.none _ _))
         intro bq w10 bP hb hg_ hnew_
         clear hg_ hnew_
         (first | rw [← bN.out] at bP | (simp only [Int.reduceToNat] at bP;rw [← bN.out] at bP))
         have aZ:=Aside0.mk (Kd.S_lower (Kd.S_new' (Kd.S_new' bP (Kd.S_lt (so_ aW.out))) (Kd.R_lt (ro_ aX.out))) bz_)
         replace af:=Aside0.mk (bb_ af.out hb)
         replace ai:=Aside0.mk (bb_ ai.out hb)
         replace aW:=Aside0.mk (Kd.S_elder' (so_ aW.out) (Kd.S_base bP) hb)
         replace aX:=Aside0.mk (rb_ aX.out hb)
         replace HB:=Aside0.mk (bs_ hb)
         clear hb bP
         refine hK.out _ _ ⟨(blk_cell af.out 0).trans rfl,(blk_cell af.out 1).trans rfl⟩ (fun hHeld=>?_)
         clear hK K
         refine norm_ (a':=?_) ?_ ?_
         rotate_left
         ·show Act.put _ (some 24) _=_
          simp only [Act.put,List.setIfInBounds_toArray,List.set_cons_zero,List.set_cons_succ,i64_w,i32_w]
          rfl
         exact norm_ (by first | (simp only [putAll,Act.put,List.setIfInBounds_toArray,List.set_cons_zero,List.set_cons_succ];done) | (simp only [putAll,Act.put,List.setIfInBounds_toArray,List.set_cons_zero,List.set_cons_succ];rfl)) (eu (bb,aY,bq) _ ⟨hHeld,(so_ aW.out),(ro_ aX.out),(by(with_reducible repeat (first | apply Kd.S_alloc | apply Kd.S_drewN | apply Kd.S_drew));exact Kd.S_mono aZ.out (fun _ hk=>⟨hk.1.2,hk.2⟩)),bk_,bk_,hb_⟩)
        ·skip
         refine box_step ?hg (N:=10) ?hd (cs:= #[.slice none 0 0, .int .i64 0, .slice none 0 0]) (t:=100) ?hr ?_;(case hd=>rfl);(case hg=>rfl);(case hr=>first | (go_simp;done) | (go_simp;rfl))
         intro aa hg w10 hbox hb
         replace aW:=Aside0.mk (Kd.S_below (so_ aW.out) hb)
         replace aX:=Aside0.mk (rb_ aX.out hb)
         have ae:=Aside0.mk (hbox)
         have bv:=Aside0.mk ((by rw [hg];exact bz_:w.heap.size≤aa))
         have bw:=Aside0.mk ((by rw [hg];exact bz_:w.heap.size≤aa))
         have av:=Aside0.mk ((by rw [hg];exact lt_ af.out:au≠aa))
         have az:=Aside0.mk ((by rw [hg];exact gt_ af.out:aa≠au))
         have ax:=Aside0.mk ((by rw [hg];exact lt_ ai.out:ak≠aa))
         have aG:=Aside0.mk ((by rw [hg];exact gt_ ai.out:aa≠ak))
         replace af:=Aside0.mk (bb_ af.out hb)
         replace ai:=Aside0.mk (bb_ ai.out hb)
         replace HB:=Aside0.mk (bs_ hb)
         clear hb hbox hg
         refine hK.out _ _ ⟨(blk_cell af.out 0).trans rfl,(blk_cell af.out 1).trans rfl⟩ (fun hHeld=>?_)
         clear hK K
         refine norm_ (a':=?_) ?_ ?_
         rotate_left
         ·show Act.put _ (some 10) _=_
          simp only [Act.put,List.setIfInBounds_toArray,List.set_cons_zero,List.set_cons_succ,i64_w,i32_w]
          rfl
         exact norm_ (by first | (simp only [putAll,Act.put,List.setIfInBounds_toArray,List.set_cons_zero,List.set_cons_succ];done) | (simp only [putAll,Act.put,List.setIfInBounds_toArray,List.set_cons_zero,List.set_cons_succ];rfl)) (ez (bb,aY,aa) _ ⟨hHeld,(so_ aW.out),(ro_ aX.out),bk_,bk_,bk_,bv.out,bw.out,av.out,az.out,ax.out,aG.out,hb_⟩)
      ·skip
       rintro ⟨bq,aa⟩ w11 ⟨hS_,h0_,h1_,h2_,h3_,h4_,h5_,h6_,h7_,h8_,h9_,h10_⟩
       have n0_:Aside0 (Kd.S (Kd.slice 2 (Kd.int .i64)) 23 w11 w.heap.size (fun _=>True) bq bu):=⟨h0_⟩
       have n1_:Aside0 (w11.heap[au]?=some (.cells #[.slice aN aC.length aT, .slice aU aq.length aV] 30 (0,0))):=⟨h1_⟩
       have n2_:Aside0 (w11.heap[ak]?=some (.cells #[.slice none 0 0, .int .i64 0, .slice none 0 0] 100 (0,0))):=⟨h2_⟩
       have n3_:Aside0 (w11.heap[aa]?=some (.cells #[.slice none 0 0, .int .i64 0, .slice none 0 0] 100 (0,0))):=⟨h3_⟩
       have n4_:Aside0 (w.heap.size≤aa):=⟨h4_⟩
       have n5_:Aside0 (w.heap.size≤aa):=⟨h5_⟩
       have n6_:Aside0 (au≠aa):=⟨h6_⟩
       have n7_:Aside0 (aa≠au):=⟨h7_⟩
       have n8_:Aside0 (ak≠aa):=⟨h8_⟩
       have n9_:Aside0 (aa≠ak):=⟨h9_⟩
       have n10_:Aside0 (Below w.heap.size w w11):=⟨h10_⟩
       clear af ai HB h0_ h1_ h2_ h3_ h4_ h5_ h6_ h7_ h8_ h9_ h10_
       have aZ:=n0_
       have af:=n1_
       have ai:=n2_
       have ae:=n3_
       have bv:=n4_
       have bw:=n5_
       have av:=n6_
       have az:=n7_
       have ax:=n8_
       have aG:=n9_
       have HB:=n10_
       clear n0_ n1_ n2_ n3_ n4_ n5_ n6_ n7_ n8_ n9_ n10_
       have hHeld:w11.cell? ⟨au,0,none⟩=some (.slice aN aC.length aT)∧w11.cell? ⟨au,1,none⟩=some (.slice aU aq.length aV):=hS_
       refine norm_ (a':=?_) ?_ ?_
       rotate_left
       ·simp only [putAll,Act.put,List.setIfInBounds_toArray,List.set_cons_zero,List.set_cons_succ]
        rfl
       refine on_ 2 (some 20) (fun K hK=>?_)
       refine goes_ Try.func154 (by kernel_rfl) rfl #[.agg #[.slice aN aC.length aT, .slice aU aq.length aV], .slice A1 l1.length c1] (by rfl) rfl rfl (by(try simp only [List.map_toArray,List.map_cons,List.map_nil]);first | done | rfl | (simp only [List.length_drop,List.length_take];rfl)) ?_
       with_reducible refine(spec_l05Begin.calls k _ _ aC _ _ aq _ _ l1 aJ aK aM _ ?bh ?bi ?bk ?bn ?bX ?bY A4.out).mono ?_
       (case bh=>exact cb_ HR0_0.out HB.out)
       (case bi=>exact HC0_0.out)
       (case bk=>exact cb_ HR0_1.out HB.out)
       (case bn=>exact HC0_1.out)
       (case bX=>exact cb_ HR1.out HB.out)
       (case bY=>exact HC1.out)
       rintro e w12 ⟨bb,aY,rfl,ho0,ho1,hb⟩
       refine⟨_,rfl,?_⟩
       have aW:=Aside0.mk (Kd.S_lower (Kd.S_new' ho0 (Kd.S_lt (so_ aZ.out))) bz_)
       have aX:=Aside0.mk (Kd.R_lower ho1 bz_)
       replace af:=Aside0.mk (bb_ af.out hb)
       replace ai:=Aside0.mk (bb_ ai.out hb)
       replace ae:=Aside0.mk (bb_ ae.out hb)
       replace aZ:=Aside0.mk (Kd.S_mono (Kd.S_told (Kd.S_told (Kd.S_old (so_ aZ.out) hb) (Kd.S_base ho0)) (Kd.R_base ho1)) (fun _ h_=>h_.1))
       replace HB:=Aside0.mk (bs_ hb)
       (try clear hb)
       (try clear hb2)
       (try clear hk)
       (try clear hi)
       (try clear ho0)
       (try clear ho1)
       refine hK.out _ _ ⟨(blk_cell af.out 0).trans rfl,(blk_cell af.out 1).trans rfl⟩ (fun hHeld=>?_)
       clear hK K
       refine norm_ (a':=?_) ?_ ?_
       rotate_left
       ·show Act.put _ (some 20) _=_
        simp only [Act.put,List.setIfInBounds_toArray,List.set_cons_zero,List.set_cons_succ,i64_w,i32_w]
        rfl
       exact norm_ (by first | (simp only [putAll,Act.put,List.setIfInBounds_toArray,List.set_cons_zero,List.set_cons_succ];done) | (simp only [putAll,Act.put,List.setIfInBounds_toArray,List.set_cons_zero,List.set_cons_succ];rfl)) (cP (bb,aY,bq,aa) _ ⟨hHeld,(so_ aW.out),(ro_ aX.out),(by(with_reducible repeat (first | apply Kd.S_alloc | apply Kd.S_drewN | apply Kd.S_drew));exact Kd.S_mono aZ.out (fun _ hk=>⟨hk.1.2,hk.2⟩)),bk_,bk_,bk_,bv.out,bw.out,av.out,az.out,ax.out,aG.out,hb_⟩)
     ·skip
      rintro ⟨bb,aY,aa⟩ w10 ⟨hS_,h0_,h1_,h2_,h3_,h4_,h5_,h6_,h7_,h8_,h9_,h10_,h11_⟩
      have n0_:Aside0 (Kd.S (Kd.slice 2 (Kd.int .i64)) 23 w10 w.heap.size (fun k_=>some k_≠(aY:Value).ownBlock) bb aJ):=⟨h0_⟩
      have n1_:Aside0 (Kd.R (Kd.int .i64) 2 w10 w.heap.size (fun _=>True) aY aM):=⟨h1_⟩
      have n2_:Aside0 (w10.heap[au]?=some (.cells #[.slice aN aC.length aT, .slice aU aq.length aV] 30 (0,0))):=⟨h2_⟩
      have n3_:Aside0 (w10.heap[ak]?=some (.cells #[.slice none 0 0, .int .i64 0, .slice none 0 0] 100 (0,0))):=⟨h3_⟩
      have n4_:Aside0 (w10.heap[aa]?=some (.cells #[.slice none 0 0, .int .i64 0, .slice none 0 0] 100 (0,0))):=⟨h4_⟩
      have n5_:Aside0 (w.heap.size≤aa):=⟨h5_⟩
      have n6_:Aside0 (w.heap.size≤aa):=⟨h6_⟩
      have n7_:Aside0 (au≠aa):=⟨h7_⟩
      have n8_:Aside0 (aa≠au):=⟨h8_⟩
      have n9_:Aside0 (ak≠aa):=⟨h9_⟩
      have n10_:Aside0 (aa≠ak):=⟨h10_⟩
      have n11_:Aside0 (Below w.heap.size w w10):=⟨h11_⟩
      clear af ai HB h0_ h1_ h2_ h3_ h4_ h5_ h6_ h7_ h8_ h9_ h10_ h11_
      have aW:=n0_
      have aX:=n1_
      have af:=n2_
      have ai:=n3_
      have ae:=n4_
      have bv:=n5_
      have bw:=n6_
      have av:=n7_
      have az:=n8_
      have ax:=n9_
      have aG:=n10_
      have HB:=n11_
      clear n0_ n1_ n2_ n3_ n4_ n5_ n6_ n7_ n8_ n9_ n10_ n11_
      have hHeld:w10.cell? ⟨au,0,none⟩=some (.slice aN aC.length aT)∧w10.cell? ⟨au,1,none⟩=some (.slice aU aq.length aV):=hS_
      refine norm_ (a':=?_) ?_ ?_
      rotate_left
      ·simp only [putAll,Act.put,List.setIfInBounds_toArray,List.set_cons_zero,List.set_cons_succ]
       rfl
      refine two_ (i:=6) (j:=8) (Ni:=some 24) (Nj:=none) (fm 11 255) (fm 11 447) rfl rfl rfl rfl (two_of HT_.out (by kernel_rfl)) (by decide) (by decide) (fun K hK=>?_) (fun K hK=>?_)
      ·skip
       refine Kd.S_lit_step (Kd.slice 2 (Kd.int .i64)) _ 23 ?hg (N:=24) ?hd (xs:=([]:List (List Int))) (inner:= []) (ok:=fun _=>True) (okp:=fun _=>True) ?hr ?hp (fun _ hk=>hk) trivial (Below.refl _ _) (Nat.le_refl _) (by simp) ?_;(case hd=>rfl);(case hg=>rfl);(case hr=>first | (go_simp;done) | (go_simp;rfl));(case hp=>exact(Reps.none _ _))
       intro bq w11 cQ hb hg_ hnew_
       clear hg_ hnew_
       (first | rw [← bN.out] at cQ | (simp only [Int.reduceToNat] at cQ;rw [← bN.out] at cQ))
       have aZ:=Aside0.mk (Kd.S_lower (Kd.S_new' (Kd.S_new' cQ (Kd.S_lt (so_ aW.out))) (Kd.R_lt (ro_ aX.out))) bz_)
       replace af:=Aside0.mk (bb_ af.out hb)
       replace ai:=Aside0.mk (bb_ ai.out hb)
       replace ae:=Aside0.mk (bb_ ae.out hb)
       replace aW:=Aside0.mk (Kd.S_elder' (so_ aW.out) (Kd.S_base cQ) hb)
       replace aX:=Aside0.mk (rb_ aX.out hb)
       replace HB:=Aside0.mk (bs_ hb)
       clear hb cQ
       refine hK.out _ _ ⟨(blk_cell af.out 0).trans rfl,(blk_cell af.out 1).trans rfl⟩ (fun hHeld=>?_)
       clear hK K
       refine norm_ (a':=?_) ?_ ?_
       rotate_left
       ·show Act.put _ (some 24) _=_
        simp only [Act.put,List.setIfInBounds_toArray,List.set_cons_zero,List.set_cons_succ,i64_w,i32_w]
        rfl
       exact norm_ (by first | (simp only [putAll,Act.put,List.setIfInBounds_toArray,List.set_cons_zero,List.set_cons_succ];done) | (simp only [putAll,Act.put,List.setIfInBounds_toArray,List.set_cons_zero,List.set_cons_succ];rfl)) (cP (bb,aY,bq,aa) _ ⟨hHeld,(so_ aW.out),(ro_ aX.out),(by(with_reducible repeat (first | apply Kd.S_alloc | apply Kd.S_drewN | apply Kd.S_drew));exact Kd.S_mono aZ.out (fun _ hk=>⟨hk.1.2,hk.2⟩)),bk_,bk_,bk_,bv.out,bw.out,av.out,az.out,ax.out,aG.out,hb_⟩)
      ·skip
       have hs12:w10.cell? ⟨aa,0,none⟩=some (.slice none 0 0):=(blk_cell ae.out 0).trans rfl
       have hfs12:=blk_frozen ae.out 0
       have hns12_0:=av.out
       have hns12_1:=ax.out
       have hms12_0:=az.out
       have hms12_1:=aG.out
       have hs13:w10.cell? ⟨aa,1,none⟩=some (.int .i64 0):=(blk_cell ae.out 1).trans rfl
       have hfs13:=blk_frozen ae.out 1
       have hns13_0:=av.out
       have hns13_1:=ax.out
       have hms13_0:=az.out
       have hms13_1:=aG.out
       have hs15:w10.cell? ⟨aa,2,none⟩=some (.slice none 0 0):=(blk_cell ae.out 2).trans rfl
       have hfs15:=blk_frozen ae.out 2
       have hns15_0:=av.out
       have hns15_1:=ax.out
       have hms15_0:=az.out
       have hms15_1:=aG.out
       obtain⟨dq,dr,eo_⟩:=Kd.S_slice aW.out
       subst eo_
       obtain⟨dU,dV,eo_⟩:=Kd.R_slice aX.out
       subst eo_
       refine skip_ (w1:=?_) (by rfl) rfl ?_ ?_
       rotate_left
       ·go_simp
        rfl
       refine hK.out _ _ ⟨((cell_far (p:=⟨aa,_,none⟩) av.out _).trans (((cell_far (p:=⟨aa,_,none⟩) av.out _).trans (((cell_far (p:=⟨aa,_,none⟩) av.out _).trans (hHeld.1)))))),((cell_far (p:=⟨aa,_,none⟩) av.out _).trans (((cell_far (p:=⟨aa,_,none⟩) av.out _).trans (((cell_far (p:=⟨aa,_,none⟩) av.out _).trans (hHeld.2))))))⟩ (fun hHeld=>?_)
       clear hK K
       refine pu_ 9 11 ?_
       exact norm_ (by first | (simp only [putAll,Act.put,List.setIfInBounds_toArray,List.set_cons_zero,List.set_cons_succ];done) | (simp only [putAll,Act.put,List.setIfInBounds_toArray,List.set_cons_zero,List.set_cons_succ];rfl)) (eF (.slice dq aJ.length dr, .slice dU aM.length dV,aa) _ ⟨hHeld,(by(with_reducible repeat (first | apply Kd.S_alloc | apply Kd.S_drewN | apply Kd.S_drew));exact Kd.S_mono (Kd.S_far (p:=⟨aa,2,none⟩) (Kd.S_far (p:=⟨aa,1,none⟩) (Kd.S_far (p:=⟨aa,0,none⟩) (Kd.S_types aW.out ae.out (by decide)) (fun _ hk=>hk.2) (.slice dq aJ.length dr)) (fun _ hk=>hk.2) (.int .i64 aK)) (fun _ hk=>hk.2) (.slice dU aM.length dV)) (fun _ hk=>hk.1)),(by(with_reducible repeat (first | apply Kd.R_alloc | apply Kd.R_drewN | apply Kd.R_drew));exact Kd.R_mono (Kd.R_far (p:=⟨aa,2,none⟩) (Kd.R_far (p:=⟨aa,1,none⟩) (Kd.R_far (p:=⟨aa,0,none⟩) (Kd.R_types aX.out ae.out (by decide)) (fun _ hk=>hk.2) (.slice dq aJ.length dr)) (fun _ hk=>hk.2) (.int .i64 aK)) (fun _ hk=>hk.2) (.slice dU aM.length dV)) (fun _ hk=>trivial)),(by(with_reducible repeat (first | refine blk_drewN ?_ _ | refine blk_drew ?_ | refine blk_alloc ?_ _));refine blk_far ?_ av.out _;(with_reducible repeat (first | refine blk_drewN ?_ _ | refine blk_drew ?_ | refine blk_alloc ?_ _));refine blk_far ?_ av.out _;(with_reducible repeat (first | refine blk_drewN ?_ _ | refine blk_drew ?_ | refine blk_alloc ?_ _));refine blk_far ?_ av.out _;(with_reducible repeat (first | refine blk_drewN ?_ _ | refine blk_drew ?_ | refine blk_alloc ?_ _));exact af.out),(by(with_reducible repeat (first | refine blk_drewN ?_ _ | refine blk_drew ?_ | refine blk_alloc ?_ _));refine blk_far ?_ ax.out _;(with_reducible repeat (first | refine blk_drewN ?_ _ | refine blk_drew ?_ | refine blk_alloc ?_ _));refine blk_far ?_ ax.out _;(with_reducible repeat (first | refine blk_drewN ?_ _ | refine blk_drew ?_ | refine blk_alloc ?_ _));refine blk_far ?_ ax.out _;(with_reducible repeat (first | refine blk_drewN ?_ _ | refine blk_drew ?_ | refine blk_alloc ?_ _));exact ai.out),(by(with_reducible repeat (first | refine blk_drewN ?_ _ | refine blk_drew ?_ | refine blk_alloc ?_ _));refine blk_put (cs:= #[.slice dq aJ.length dr, .int .i64 aK, .slice none 0 0]) ?_ 2 _ rfl;(with_reducible repeat (first | refine blk_drewN ?_ _ | refine blk_drew ?_ | refine blk_alloc ?_ _));refine blk_put (cs:= #[.slice dq aJ.length dr, .int .i64 0, .slice none 0 0]) ?_ 1 _ rfl;(with_reducible repeat (first | refine blk_drewN ?_ _ | refine blk_drew ?_ | refine blk_alloc ?_ _));refine blk_put (cs:= #[.slice none 0 0, .int .i64 0, .slice none 0 0]) ?_ 0 _ rfl;(with_reducible repeat (first | refine blk_drewN ?_ _ | refine blk_drew ?_ | refine blk_alloc ?_ _));exact ae.out),bv.out,bw.out,av.out,az.out,ax.out,aG.out,hb_⟩)
    ·skip
     rintro ⟨bb,aY,bq⟩ w11 ⟨hS_,h0_,h1_,h2_,h3_,h4_,h5_⟩
     have n0_:Aside0 (Kd.S (Kd.slice 2 (Kd.int .i64)) 23 w11 w.heap.size (fun k_=>some k_≠(aY:Value).ownBlock∧some k_≠(bq:Value).ownBlock) bb aJ):=⟨h0_⟩
     have n1_:Aside0 (Kd.R (Kd.int .i64) 2 w11 w.heap.size (fun _=>True) aY aM):=⟨h1_⟩
     have n2_:Aside0 (Kd.S (Kd.slice 2 (Kd.int .i64)) 23 w11 w.heap.size (fun k_=>some k_≠(bb:Value).ownBlock∧some k_≠(aY:Value).ownBlock) bq bu):=⟨h2_⟩
     have n3_:Aside0 (w11.heap[au]?=some (.cells #[.slice aN aC.length aT, .slice aU aq.length aV] 30 (0,0))):=⟨h3_⟩
     have n4_:Aside0 (w11.heap[ak]?=some (.cells #[.slice none 0 0, .int .i64 0, .slice none 0 0] 100 (0,0))):=⟨h4_⟩
     have n5_:Aside0 (Below w.heap.size w w11):=⟨h5_⟩
     clear af ai HB h0_ h1_ h2_ h3_ h4_ h5_
     have aW:=n0_
     have aX:=n1_
     have aZ:=n2_
     have af:=n3_
     have ai:=n4_
     have HB:=n5_
     clear n0_ n1_ n2_ n3_ n4_ n5_
     have hHeld:w11.cell? ⟨au,0,none⟩=some (.slice aN aC.length aT)∧w11.cell? ⟨au,1,none⟩=some (.slice aU aq.length aV):=hS_
     refine norm_ (a':=?_) ?_ ?_
     rotate_left
     ·simp only [putAll,Act.put,List.setIfInBounds_toArray,List.set_cons_zero,List.set_cons_succ]
      rfl
     refine on_ 7 (some 10) (fun K hK=>?_)
     refine box_step ?hg (N:=10) ?hd (cs:= #[.slice none 0 0, .int .i64 0, .slice none 0 0]) (t:=100) ?hr ?_;(case hd=>rfl);(case hg=>rfl);(case hr=>first | (go_simp;done) | (go_simp;rfl))
     intro aa hg w12 hbox hb
     replace aW:=Aside0.mk (Kd.S_below (so_ aW.out) hb)
     replace aX:=Aside0.mk (rb_ aX.out hb)
     replace aZ:=Aside0.mk (Kd.S_below (so_ aZ.out) hb)
     have ae:=Aside0.mk (hbox)
     have bv:=Aside0.mk ((by rw [hg];exact bz_:w.heap.size≤aa))
     have bw:=Aside0.mk ((by rw [hg];exact bz_:w.heap.size≤aa))
     have av:=Aside0.mk ((by rw [hg];exact lt_ af.out:au≠aa))
     have az:=Aside0.mk ((by rw [hg];exact gt_ af.out:aa≠au))
     have ax:=Aside0.mk ((by rw [hg];exact lt_ ai.out:ak≠aa))
     have aG:=Aside0.mk ((by rw [hg];exact gt_ ai.out:aa≠ak))
     replace af:=Aside0.mk (bb_ af.out hb)
     replace ai:=Aside0.mk (bb_ ai.out hb)
     replace HB:=Aside0.mk (bs_ hb)
     clear hb hbox hg
     refine hK.out _ _ ⟨(blk_cell af.out 0).trans rfl,(blk_cell af.out 1).trans rfl⟩ (fun hHeld=>?_)
     clear hK K
     refine norm_ (a':=?_) ?_ ?_
     rotate_left
     ·show Act.put _ (some 10) _=_
      simp only [Act.put,List.setIfInBounds_toArray,List.set_cons_zero,List.set_cons_succ,i64_w,i32_w]
      rfl
     exact norm_ (by first | (simp only [putAll,Act.put,List.setIfInBounds_toArray,List.set_cons_zero,List.set_cons_succ];done) | (simp only [putAll,Act.put,List.setIfInBounds_toArray,List.set_cons_zero,List.set_cons_succ];rfl)) (cP (bb,aY,bq,aa) _ ⟨hHeld,(so_ aW.out),(ro_ aX.out),(so_ aZ.out),bk_,bk_,bk_,bv.out,bw.out,av.out,az.out,ax.out,aG.out,hb_⟩)
   ·skip
    rintro ⟨bb,aY,aa⟩ w15 ⟨hS_,h0_,h1_,h2_,h3_,h4_,h5_,h6_,h7_,h8_,h9_,h10_,h11_⟩
    have n0_:Aside0 (Kd.S (Kd.slice 2 (Kd.int .i64)) 23 w15 w.heap.size (fun k_=>some k_≠(aY:Value).ownBlock) bb aJ):=⟨h0_⟩
    have n1_:Aside0 (Kd.R (Kd.int .i64) 2 w15 w.heap.size (fun _=>True) aY aM):=⟨h1_⟩
    have n2_:Aside0 (w15.heap[au]?=some (.cells #[.slice aN aC.length aT, .slice aU aq.length aV] 30 (0,0))):=⟨h2_⟩
    have n3_:Aside0 (w15.heap[ak]?=some (.cells #[.slice none 0 0, .int .i64 0, .slice none 0 0] 100 (0,0))):=⟨h3_⟩
    have n4_:Aside0 (w15.heap[aa]?=some (.cells #[bb, .int .i64 aK,aY] 100 (0,0))):=⟨h4_⟩
    have n5_:Aside0 (w.heap.size≤aa):=⟨h5_⟩
    have n6_:Aside0 (w.heap.size≤aa):=⟨h6_⟩
    have n7_:Aside0 (au≠aa):=⟨h7_⟩
    have n8_:Aside0 (aa≠au):=⟨h8_⟩
    have n9_:Aside0 (ak≠aa):=⟨h9_⟩
    have n10_:Aside0 (aa≠ak):=⟨h10_⟩
    have n11_:Aside0 (Below w.heap.size w w15):=⟨h11_⟩
    clear af ai HB h0_ h1_ h2_ h3_ h4_ h5_ h6_ h7_ h8_ h9_ h10_ h11_
    have aW:=n0_
    have aX:=n1_
    have af:=n2_
    have ai:=n3_
    have ae:=n4_
    have bv:=n5_
    have bw:=n6_
    have av:=n7_
    have az:=n8_
    have ax:=n9_
    have aG:=n10_
    have HB:=n11_
    clear n0_ n1_ n2_ n3_ n4_ n5_ n6_ n7_ n8_ n9_ n10_ n11_
    have hHeld:w15.cell? ⟨au,0,none⟩=some (.slice aN aC.length aT)∧w15.cell? ⟨au,1,none⟩=some (.slice aU aq.length aV):=hS_
    refine norm_ (a':=?_) ?_ ?_
    rotate_left
    ·simp only [putAll,Act.put,List.setIfInBounds_toArray,List.set_cons_zero,List.set_cons_succ]
     rfl
    refine on_ 6 (some 24) (fun K hK=>?_)
    refine Kd.S_lit_step (Kd.slice 2 (Kd.int .i64)) _ 23 ?hg (N:=24) ?hd (xs:=([]:List (List Int))) (inner:= []) (ok:=fun _=>True) (okp:=fun _=>True) ?hr ?hp (fun _ hk=>hk) trivial (Below.refl _ _) (Nat.le_refl _) (by simp) ?_;(case hd=>rfl);(case hg=>rfl);(case hr=>first | (go_simp;done) | (go_simp;rfl));(case hp=>exact(Reps.none _ _))
    intro bq w16 cS hb hg_ hnew_
    clear hg_ hnew_
    (first | rw [← bN.out] at cS | (simp only [Int.reduceToNat] at cS;rw [← bN.out] at cS))
    have aZ:=Aside0.mk (Kd.S_lower (Kd.S_new' (Kd.S_new' cS (Kd.S_lt (so_ aW.out))) (Kd.R_lt (ro_ aX.out))) bz_)
    replace af:=Aside0.mk (bb_ af.out hb)
    replace ai:=Aside0.mk (bb_ ai.out hb)
    replace ae:=Aside0.mk (bb_ ae.out hb)
    replace aW:=Aside0.mk (Kd.S_elder' (so_ aW.out) (Kd.S_base cS) hb)
    replace aX:=Aside0.mk (rb_ aX.out hb)
    replace HB:=Aside0.mk (bs_ hb)
    clear hb cS
    refine hK.out _ _ ⟨(blk_cell af.out 0).trans rfl,(blk_cell af.out 1).trans rfl⟩ (fun hHeld=>?_)
    clear hK K
    refine norm_ (a':=?_) ?_ ?_
    rotate_left
    ·show Act.put _ (some 24) _=_
     simp only [Act.put,List.setIfInBounds_toArray,List.set_cons_zero,List.set_cons_succ,i64_w,i32_w]
     rfl
    exact norm_ (by first | (simp only [putAll,Act.put,List.setIfInBounds_toArray,List.set_cons_zero,List.set_cons_succ];done) | (simp only [putAll,Act.put,List.setIfInBounds_toArray,List.set_cons_zero,List.set_cons_succ];rfl)) (cZ (bb,aY,bq,aa) _ ⟨hHeld,(so_ aW.out),(ro_ aX.out),(by(with_reducible repeat (first | apply Kd.S_alloc | apply Kd.S_drewN | apply Kd.S_drew));exact Kd.S_mono aZ.out (fun _ hk=>⟨hk.1.2,hk.2⟩)),bk_,bk_,bk_,bv.out,bw.out,av.out,az.out,ax.out,aG.out,hb_⟩)
  ·skip
   rintro ⟨bb,aY,bq,aa⟩ w12 ⟨hS_,h0_,h1_,h2_,h3_,h4_,h5_,h6_,h7_,h8_,h9_,h10_,h11_,h12_⟩
   have n0_:Aside0 (Kd.S (Kd.slice 2 (Kd.int .i64)) 23 w12 w.heap.size (fun k_=>some k_≠(aY:Value).ownBlock∧some k_≠(bq:Value).ownBlock) bb aJ):=⟨h0_⟩
   have n1_:Aside0 (Kd.R (Kd.int .i64) 2 w12 w.heap.size (fun _=>True) aY aM):=⟨h1_⟩
   have n2_:Aside0 (Kd.S (Kd.slice 2 (Kd.int .i64)) 23 w12 w.heap.size (fun k_=>some k_≠(bb:Value).ownBlock∧some k_≠(aY:Value).ownBlock) bq bu):=⟨h2_⟩
   have n3_:Aside0 (w12.heap[au]?=some (.cells #[.slice aN aC.length aT, .slice aU aq.length aV] 30 (0,0))):=⟨h3_⟩
   have n4_:Aside0 (w12.heap[ak]?=some (.cells #[.slice none 0 0, .int .i64 0, .slice none 0 0] 100 (0,0))):=⟨h4_⟩
   have n5_:Aside0 (w12.heap[aa]?=some (.cells #[.slice none 0 0, .int .i64 0, .slice none 0 0] 100 (0,0))):=⟨h5_⟩
   have n6_:Aside0 (w.heap.size≤aa):=⟨h6_⟩
   have n7_:Aside0 (w.heap.size≤aa):=⟨h7_⟩
   have n8_:Aside0 (au≠aa):=⟨h8_⟩
   have n9_:Aside0 (aa≠au):=⟨h9_⟩
   have n10_:Aside0 (ak≠aa):=⟨h10_⟩
   have n11_:Aside0 (aa≠ak):=⟨h11_⟩
   have n12_:Aside0 (Below w.heap.size w w12):=⟨h12_⟩
   clear af ai HB h0_ h1_ h2_ h3_ h4_ h5_ h6_ h7_ h8_ h9_ h10_ h11_ h12_
   have aW:=n0_
   have aX:=n1_
   have aZ:=n2_
   have af:=n3_
   have ai:=n4_
   have ae:=n5_
   have bv:=n6_
   have bw:=n7_
   have av:=n8_
   have az:=n9_
   have ax:=n10_
   have aG:=n11_
   have HB:=n12_
   clear n0_ n1_ n2_ n3_ n4_ n5_ n6_ n7_ n8_ n9_ n10_ n11_ n12_
   have hHeld:w12.cell? ⟨au,0,none⟩=some (.slice aN aC.length aT)∧w12.cell? ⟨au,1,none⟩=some (.slice aU aq.length aV):=hS_
   obtain⟨cT,cU,fp⟩:=Kd.S_slice aW.out
   (first | subst fp | (injection fp with f1_ f2_ f3_;have f4_:=f1_.symm;have f5_:=f3_.symm;clear f1_ f2_ f3_;subst f4_;subst f5_))
   obtain⟨dJ,dK,fq⟩:=Kd.R_slice aX.out
   (first | subst fq | (injection fq with f1_ f2_ f3_;have f4_:=f1_.symm;have f5_:=f3_.symm;clear f1_ f2_ f3_;subst f4_;subst f5_))
   refine norm_ (a':=?_) ?_ ?_
   rotate_left
   ·simp only [putAll,Act.put,List.setIfInBounds_toArray,List.set_cons_zero,List.set_cons_succ]
    rfl
   refine on_ 8 none (fun K hK=>?_)
   have hs14:w12.cell? ⟨aa,0,none⟩=some (.slice none 0 0):=(blk_cell ae.out 0).trans rfl
   have hfs14:=blk_frozen ae.out 0
   have hns14_0:=av.out
   have hns14_1:=ax.out
   have hms14_0:=az.out
   have hms14_1:=aG.out
   have hs15:w12.cell? ⟨aa,1,none⟩=some (.int .i64 0):=(blk_cell ae.out 1).trans rfl
   have hfs15:=blk_frozen ae.out 1
   have hns15_0:=av.out
   have hns15_1:=ax.out
   have hms15_0:=az.out
   have hms15_1:=aG.out
   have hs17:w12.cell? ⟨aa,2,none⟩=some (.slice none 0 0):=(blk_cell ae.out 2).trans rfl
   have hfs17:=blk_frozen ae.out 2
   have hns17_0:=av.out
   have hns17_1:=ax.out
   have hms17_0:=az.out
   have hms17_1:=aG.out
   refine skip_ (w1:=?_) (by rfl) rfl ?_ ?_
   rotate_left
   ·go_simp
    rfl
   refine hK.out _ _ ⟨((cell_far (p:=⟨aa,_,none⟩) av.out _).trans (((cell_far (p:=⟨aa,_,none⟩) av.out _).trans (((cell_far (p:=⟨aa,_,none⟩) av.out _).trans (hHeld.1)))))),((cell_far (p:=⟨aa,_,none⟩) av.out _).trans (((cell_far (p:=⟨aa,_,none⟩) av.out _).trans (((cell_far (p:=⟨aa,_,none⟩) av.out _).trans (hHeld.2))))))⟩ (fun hHeld=>?_)
   clear hK K
   refine pu_ 9 11 ?_
   exact norm_ (by first | (simp only [putAll,Act.put,List.setIfInBounds_toArray,List.set_cons_zero,List.set_cons_succ];done) | (simp only [putAll,Act.put,List.setIfInBounds_toArray,List.set_cons_zero,List.set_cons_succ];rfl)) (cZ (.slice cT aJ.length cU, .slice dJ aM.length dK,bq,aa) _ ⟨hHeld,(by(with_reducible repeat (first | apply Kd.S_alloc | apply Kd.S_drewN | apply Kd.S_drew));exact Kd.S_mono (Kd.S_far (p:=⟨aa,2,none⟩) (Kd.S_far (p:=⟨aa,1,none⟩) (Kd.S_far (p:=⟨aa,0,none⟩) (Kd.S_types aW.out ae.out (by decide)) (fun _ hk=>hk.2) (.slice cT aJ.length cU)) (fun _ hk=>hk.2) (.int .i64 aK)) (fun _ hk=>hk.2) (.slice dJ aM.length dK)) (fun _ hk=>⟨hk.1.1,hk.1.2⟩)),(by(with_reducible repeat (first | apply Kd.R_alloc | apply Kd.R_drewN | apply Kd.R_drew));exact Kd.R_mono (Kd.R_far (p:=⟨aa,2,none⟩) (Kd.R_far (p:=⟨aa,1,none⟩) (Kd.R_far (p:=⟨aa,0,none⟩) (Kd.R_types aX.out ae.out (by decide)) (fun _ hk=>hk.2) (.slice cT aJ.length cU)) (fun _ hk=>hk.2) (.int .i64 aK)) (fun _ hk=>hk.2) (.slice dJ aM.length dK)) (fun _ hk=>trivial)),(by(with_reducible repeat (first | apply Kd.S_alloc | apply Kd.S_drewN | apply Kd.S_drew));exact Kd.S_mono (Kd.S_far (p:=⟨aa,2,none⟩) (Kd.S_far (p:=⟨aa,1,none⟩) (Kd.S_far (p:=⟨aa,0,none⟩) (Kd.S_types aZ.out ae.out (by decide)) (fun _ hk=>hk.2) (.slice cT aJ.length cU)) (fun _ hk=>hk.2) (.int .i64 aK)) (fun _ hk=>hk.2) (.slice dJ aM.length dK)) (fun _ hk=>⟨hk.1.1,hk.1.2⟩)),(by(with_reducible repeat (first | refine blk_drewN ?_ _ | refine blk_drew ?_ | refine blk_alloc ?_ _));refine blk_far ?_ av.out _;(with_reducible repeat (first | refine blk_drewN ?_ _ | refine blk_drew ?_ | refine blk_alloc ?_ _));refine blk_far ?_ av.out _;(with_reducible repeat (first | refine blk_drewN ?_ _ | refine blk_drew ?_ | refine blk_alloc ?_ _));refine blk_far ?_ av.out _;(with_reducible repeat (first | refine blk_drewN ?_ _ | refine blk_drew ?_ | refine blk_alloc ?_ _));exact af.out),(by(with_reducible repeat (first | refine blk_drewN ?_ _ | refine blk_drew ?_ | refine blk_alloc ?_ _));refine blk_far ?_ ax.out _;(with_reducible repeat (first | refine blk_drewN ?_ _ | refine blk_drew ?_ | refine blk_alloc ?_ _));refine blk_far ?_ ax.out _;(with_reducible repeat (first | refine blk_drewN ?_ _ | refine blk_drew ?_ | refine blk_alloc ?_ _));refine blk_far ?_ ax.out _;(with_reducible repeat (first | refine blk_drewN ?_ _ | refine blk_drew ?_ | refine blk_alloc ?_ _));exact ai.out),(by(with_reducible repeat (first | refine blk_drewN ?_ _ | refine blk_drew ?_ | refine blk_alloc ?_ _));refine blk_put (cs:= #[.slice cT aJ.length cU, .int .i64 aK, .slice none 0 0]) ?_ 2 _ rfl;(with_reducible repeat (first | refine blk_drewN ?_ _ | refine blk_drew ?_ | refine blk_alloc ?_ _));refine blk_put (cs:= #[.slice cT aJ.length cU, .int .i64 0, .slice none 0 0]) ?_ 1 _ rfl;(with_reducible repeat (first | refine blk_drewN ?_ _ | refine blk_drew ?_ | refine blk_alloc ?_ _));refine blk_put (cs:= #[.slice none 0 0, .int .i64 0, .slice none 0 0]) ?_ 0 _ rfl;(with_reducible repeat (first | refine blk_drewN ?_ _ | refine blk_drew ?_ | refine blk_alloc ?_ _));exact ae.out),bv.out,bw.out,av.out,az.out,ax.out,aG.out,hb_⟩)
 rintro ⟨bb,aY,bq,aa⟩ w17 ⟨hS_,h0_,h1_,h2_,h3_,h4_,h5_,h6_,h7_,h8_,h9_,h10_,h11_,h12_⟩
 have n0_:Aside0 (Kd.S (Kd.slice 2 (Kd.int .i64)) 23 w17 w.heap.size (fun k_=>some k_≠(aY:Value).ownBlock∧some k_≠(bq:Value).ownBlock) bb aJ):=⟨h0_⟩
 have n1_:Aside0 (Kd.R (Kd.int .i64) 2 w17 w.heap.size (fun _=>True) aY aM):=⟨h1_⟩
 have n2_:Aside0 (Kd.S (Kd.slice 2 (Kd.int .i64)) 23 w17 w.heap.size (fun k_=>some k_≠(bb:Value).ownBlock∧some k_≠(aY:Value).ownBlock) bq bu):=⟨h2_⟩
 have n3_:Aside0 (w17.heap[au]?=some (.cells #[.slice aN aC.length aT, .slice aU aq.length aV] 30 (0,0))):=⟨h3_⟩
 have n4_:Aside0 (w17.heap[ak]?=some (.cells #[.slice none 0 0, .int .i64 0, .slice none 0 0] 100 (0,0))):=⟨h4_⟩
 have n5_:Aside0 (w17.heap[aa]?=some (.cells #[bb, .int .i64 aK,aY] 100 (0,0))):=⟨h5_⟩
 have n6_:Aside0 (w.heap.size≤aa):=⟨h6_⟩
 have n7_:Aside0 (w.heap.size≤aa):=⟨h7_⟩
 have n8_:Aside0 (au≠aa):=⟨h8_⟩
 have n9_:Aside0 (aa≠au):=⟨h9_⟩
 have n10_:Aside0 (ak≠aa):=⟨h10_⟩
 have n11_:Aside0 (aa≠ak):=⟨h11_⟩
 have n12_:Aside0 (Below w.heap.size w w17):=⟨h12_⟩
 clear af ai HB h0_ h1_ h2_ h3_ h4_ h5_ h6_ h7_ h8_ h9_ h10_ h11_ h12_
 have aW:=n0_
 have aX:=n1_
 have aZ:=n2_
 have af:=n3_
 have ai:=n4_
 have ae:=n5_
 have bv:=n6_
 have bw:=n7_
 have av:=n8_
 have az:=n9_
 have ax:=n10_
 have aG:=n11_
 have HB:=n12_
 clear n0_ n1_ n2_ n3_ n4_ n5_ n6_ n7_ n8_ n9_ n10_ n11_ n12_
 have hHeld:w17.cell? ⟨au,0,none⟩=some (.slice aN aC.length aT)∧w17.cell? ⟨au,1,none⟩=some (.slice aU aq.length aV):=hS_
 refine norm_ (a':=?_) ?_ ?_
 rotate_left
 ·simp only [putAll,Act.put,List.setIfInBounds_toArray,List.set_cons_zero,List.set_cons_succ]
  rfl
 refine pu_ 10 12 ?_
 refine done_ (done_of HT_.out (by kernel_rfl)) ?_
 try go_wp2
 go_loopg [13,14,15] k (fun kq v13 v14 v15 w'=> ∃(cL:Bool) (aA:Int) (aw:Int),v13= .bool cL∧v14= .int .i64 aA∧v15= .int .i64 aw∧Aside0 (spec_l05Run.l0 kq l1 a2 (aq.length:Int) bu cL aA aw aC aq aJ aK aM=some (r1,r2,r3,r4,r5,r6))∧Aside0 (kq≤k)∧Aside0 (Kd.S (Kd.slice 2 (Kd.int .i64)) 23 w' w.heap.size (fun k_=>some k_≠(bb:Value).ownBlock∧some k_≠(aY:Value).ownBlock) bq bu)∧Aside0 (Kd.S (Kd.slice 2 (Kd.int .i64)) 23 w' w.heap.size (fun k_=>some k_≠(bq:Value).ownBlock∧some k_≠(aY:Value).ownBlock) bb aJ)∧Aside0 (Kd.R (Kd.int .i64) 2 w' w.heap.size (fun _=>True) aY aM)∧Aside0 (w'.heap[au]?=some (.cells #[(.slice aN aC.length aT),(.slice aU aq.length aV)] 30 (0,0)))∧Aside0 (w'.heap[ak]?=some (.cells #[(.slice none 0 0), .int .i64 0,(.slice none 0 0)] 100 (0,0)))∧Aside0 (w'.heap[aa]?=some (.cells #[bb, .int .i64 aK,aY] 100 (0,0)))∧Aside0 (Below w.heap.size w w'))
 case atStart=>exact⟨(false),(0),(0),rs_,rs_,rs_,H',⟨Nat.le_refl _⟩,⟨so_ aZ.out⟩,⟨by(with_reducible repeat (first | apply Kd.S_alloc | apply Kd.S_drewN | apply Kd.S_drew));exact Kd.S_mono aW.out (fun _ hk=>⟨hk.2,hk.1⟩)⟩,⟨ro_ aX.out⟩,⟨bk_⟩,⟨bk_⟩,⟨bk_⟩,⟨hb_⟩⟩
 case round=>
  clear H'
  try clear c1
  try clear p2
  try clear c15
  obtain⟨cL,aA,aw,rfl,rfl,rfl,HA,HK1,aH,ah,ag,af,ai,ae,HB⟩:=hrel
  cases gk with
  | zero=>exact absurd HA.out (by simp [spec_l05Run.l0])
  | succ k1=>
   have H:=HA.out
   clear HA
   simp only [spec_l05Run.l0] at H
   by_cases c18:aw < (aq.length:Int)
   ·rw [if_pos c18] at H
    have c18b0:decide (aw < (aq.length:Int))=true:=decide_eq_true c18
    clear c18
    by_cases c19:cL=true
    ·subst c19
     have H1:(if 0≤aw then(if aw < (l1.length:Int) then(if 0≤aA then(if aA < (l1.length:Int) then((spec_l05Key.f k1 aJ aK aM aw aA (rd l1 aw) (rd l1 aA)).bind fun dL=>(if dL=true then(spec_l05Run.l0 k1 l1 a2 (aq.length:Int) bu true aw (wrap64 (aw+1)) aC aq aJ aK aM) else(spec_l05Run.l0 k1 l1 a2 (aq.length:Int) bu true aA (wrap64 (aw+1)) aC aq aJ aK aM))) else(none)) else(none)) else(none)) else(none))=some (r1,r2,r3,r4,r5,r6):=by rw [if_pos rfl] at H;exact H
     clear H
     have H:=H1
     clear H1
     by_cases c20:0≤aw
     ·rw [if_pos c20] at H
      have c20b0:decide (0≤aw)=true:=decide_eq_true c20
      clear c20
      by_cases c21:aw < (l1.length:Int)
      ·rw [if_pos c21] at H
       have c21b0:decide (aw < (l1.length:Int))=true:=decide_eq_true c21
       clear c21
       by_cases c22:0≤aA
       ·rw [if_pos c22] at H
        have c22b0:decide (0≤aA)=true:=decide_eq_true c22
        clear c22
        by_cases c23:aA < (l1.length:Int)
        ·rw [if_pos c23] at H
         have c23b0:decide (aA < (l1.length:Int))=true:=decide_eq_true c23
         clear c23
         replace H:=Option.bind_eq_some_iff.mp H
         obtain⟨dL,A240,H⟩:=H
         replace H:(if dL=true then(spec_l05Run.l0 k1 l1 a2 (aq.length:Int) bu true aw (wrap64 (aw+1)) aC aq aJ aK aM) else(spec_l05Run.l0 k1 l1 a2 (aq.length:Int) bu true aA (wrap64 (aw+1)) aC aq aJ aK aM))=some (r1,r2,r3,r4,r5,r6):=H
         have A24:=Aside0.mk A240
         clear A240
         by_cases c25:dL=true
         ·subst c25
          have H1:(spec_l05Run.l0 k1 l1 a2 (aq.length:Int) bu true aw (wrap64 (aw+1)) aC aq aJ aK aM)=some (r1,r2,r3,r4,r5,r6):=by rw [if_pos rfl] at H;exact H
          clear H
          have H:=H1
          clear H1
          have H':=Aside0.mk H
          clear H
          have kr:=bC.out
          have ku:=bD.out
          have kv:=av.out
          have kw:=az.out
          have jq:wr.cell? ⟨au,0,none⟩=some (.slice aN aC.length aT):=(blk_cell af.out 0).trans rfl
          have jr:wr.cell? ⟨au,1,none⟩=some (.slice aU aq.length aV):=(blk_cell af.out 1).trans rfl
          have js:=blk_frozen af.out 0
          have jt:=blk_frozen af.out 1
          try go_wp2
          replace aH:=Aside0.mk (Kd.S_drew aH.out)
          replace ah:=Aside0.mk (Kd.S_drew ah.out)
          replace ag:=Aside0.mk (Kd.R_drew ag.out)
          replace af:=Aside0.mk (blk_drew af.out)
          replace ai:=Aside0.mk (blk_drew ai.out)
          replace ae:=Aside0.mk (blk_drew ae.out)
          replace HB:=Aside0.mk (below_drew1 HB.out)
          have p239:0≤(aw:Int):=od_
          have q239:aw < (l1.length:Int):=od_
          obtain⟨bZ,e239,hx239_0⟩:=Kd.at_int HR1.out aw p239 q239
          have bH:=hx239_0
          cases e239
          replace hx239_0:=(HB.out.cell (World.block_lt_of_cell? w _ hx239_0)).trans hx239_0
          replace p239:=eq_true p239
          replace q239:=eq_true q239
          have p240:0≤(aA:Int):=od_
          have q240:aA < (l1.length:Int):=od_
          obtain⟨dM,e240,hx240_0⟩:=Kd.at_int HR1.out aA p240 q240
          have bI:=hx240_0
          obtain rfl:bZ=dM:=(by injection e240)
          replace hx240_0:=(HB.out.cell (World.block_lt_of_cell? w _ hx240_0)).trans hx240_0
          replace p240:=eq_true p240
          replace q240:=eq_true q240
          obtain⟨fu,fw,fA⟩:=Kd.S_slice ah.out
          (first | subst fA | (injection fA with f1_ f2_ f3_;have f4_:=f1_.symm;have f5_:=f3_.symm;clear f1_ f2_ f3_;subst f4_;subst f5_))
          obtain⟨fB,fC,fD⟩:=Kd.R_slice ag.out
          (first | subst fD | (injection fD with f1_ f2_ f3_;have f4_:=f1_.symm;have f5_:=f3_.symm;clear f1_ f2_ f3_;subst f4_;subst f5_))
          refine st_ (n:=12) (S:=fun w'=>w'.cell? ⟨aa,0,none⟩=some (.slice fu aJ.length fw)∧w'.cell? ⟨aa,1,none⟩=some (.int .i64 aK)∧w'.cell? ⟨aa,2,none⟩=some (.slice fB aM.length fC)∧w'.cell? (bZ.add (aw).toNat)=some (.int .i64 (rd l1 aw))∧w'.cell? (bZ.add (aA).toNat)=some (.int .i64 (rd l1 aA))) (ds:= []) ⟨(blk_cell ae.out 0).trans rfl,(blk_cell ae.out 1).trans rfl,(blk_cell ae.out 2).trans rfl,((HB.out.cell (World.block_lt_of_cell? w _ bH)).trans bH),((HB.out.cell (World.block_lt_of_cell? w _ bI)).trans bI)⟩ (fun hHeld=>?_);refine with_tabW spec_l05Run.tab7 spec_l05Run.bits7 (fun HT_ HW_=>?_)
          generalize wr.drew=w29 at aH ah ag af ai ae HB hx239_0 hx240_0 hHeld ⊢
          refine pu_ 1 42 ?_;refine pu_ 2 43 ?_;refine pu_ 3 44 ?_;refine pu_ 4 45 ?_;refine pu_ 5 46 ?_;refine pu_ 7 48 ?_;refine pu_ 8 49 ?_;refine pu_ 9 50 ?_;refine tk_ 0 41 ?_;refine tk_ 6 47 ?_;refine tk_ 10 51 ?_
          refine on_ 11 (some 52) (fun K hK=>?_)
          refine goes_ Try.func155 (by kernel_rfl) rfl #[.agg #[.slice fu aJ.length fw, .int .i64 aK, .slice fB aM.length fC], .int .i64 aw, .int .i64 aA, .int .i64 (rd l1 aw), .int .i64 (rd l1 aA)] (by rfl) rfl rfl (by(try simp only [List.map_toArray,List.map_cons,List.map_nil]);first | done | rfl | (simp only [List.length_drop,List.length_take];rfl)) ?_
          with_reducible refine(spec_l05Key.calls k1 _ _ aJ aK _ _ aM aw aA (rd l1 aw) (rd l1 aA) true _ ?bh ?bi ?bk ?bn A24.out).mono ?_
          (case bh=>repeat (first | exact(Kd.S_reads' ah.out).2.2 | (with_reducible refine Kd.C_alloc ?_ _) | (with_reducible refine Kd.C_drewN ?_ _) | (with_reducible refine Kd.C_drew ?_)))
          (case bi=>exact(Kd.S_reads' ah.out).2.1)
          (case bk=>repeat (first | exact(Kd.R_reads' ag.out).2.2 | (with_reducible refine Kd.C_alloc ?_ _) | (with_reducible refine Kd.C_drewN ?_ _) | (with_reducible refine Kd.C_drew ?_)))
          (case bn=>exact(Kd.R_reads' ag.out).2.1)
          rintro e w32 ⟨rfl,hb⟩
          refine⟨_,rfl,?_⟩
          replace aH:=Aside0.mk (Kd.S_below (so_ aH.out) hb)
          replace ah:=Aside0.mk (Kd.S_below (so_ ah.out) hb)
          replace ag:=Aside0.mk (rb_ ag.out hb)
          replace af:=Aside0.mk (bb_ af.out hb)
          replace ai:=Aside0.mk (bb_ ai.out hb)
          replace ae:=Aside0.mk (bb_ ae.out hb)
          replace HB:=Aside0.mk (bs_ hb)
          (try clear hb)
          (try clear hb2)
          (try clear hk)
          (try clear hi)
          refine hK.out _ _ ⟨(blk_cell ae.out 0).trans rfl,(blk_cell ae.out 1).trans rfl,(blk_cell ae.out 2).trans rfl,((HB.out.cell (World.block_lt_of_cell? w _ bH)).trans bH),((HB.out.cell (World.block_lt_of_cell? w _ bI)).trans bI)⟩ (fun hHeld=>?_)
          clear hK K
          refine norm_ (a':=?_) ?_ ?_
          rotate_left
          ·show Act.put _ (some 52) _=_
           simp only [Act.put,List.setIfInBounds_toArray,List.set_cons_zero,List.set_cons_succ,i64_w,i32_w]
           rfl
          refine done_ (done_of HT_.out (by kernel_rfl)) ?_
          try go_wp2
          go_roundg k1
          case measure=>have:=HK1.out;omega
          case rel=>exact⟨(true),(aw),(wrap64 (aw+1)),rs_,rs_,rs_,H',⟨by have:=HK1.out;omega⟩,⟨so_ aH.out⟩,⟨so_ ah.out⟩,⟨ro_ ag.out⟩,⟨bk_⟩,⟨bk_⟩,⟨bk_⟩,⟨hb_⟩⟩
         ·replace c25:=Bool.eq_false_iff.mpr c25
          subst c25
          have H1:(spec_l05Run.l0 k1 l1 a2 (aq.length:Int) bu true aA (wrap64 (aw+1)) aC aq aJ aK aM)=some (r1,r2,r3,r4,r5,r6):=by rw [if_neg (show ¬ (false=true) by decide)] at H;exact H
          clear H
          have H:=H1
          clear H1
          have H':=Aside0.mk H
          clear H
          have kx:=bC.out
          have ky:=bD.out
          have kz:=av.out
          have kC:=az.out
          have ju:wr.cell? ⟨au,0,none⟩=some (.slice aN aC.length aT):=(blk_cell af.out 0).trans rfl
          have jv:wr.cell? ⟨au,1,none⟩=some (.slice aU aq.length aV):=(blk_cell af.out 1).trans rfl
          have jw:=blk_frozen af.out 0
          have jx:=blk_frozen af.out 1
          try go_wp2
          replace aH:=Aside0.mk (Kd.S_drew aH.out)
          replace ah:=Aside0.mk (Kd.S_drew ah.out)
          replace ag:=Aside0.mk (Kd.R_drew ag.out)
          replace af:=Aside0.mk (blk_drew af.out)
          replace ai:=Aside0.mk (blk_drew ai.out)
          replace ae:=Aside0.mk (blk_drew ae.out)
          replace HB:=Aside0.mk (below_drew1 HB.out)
          have p239:0≤(aw:Int):=od_
          have q239:aw < (l1.length:Int):=od_
          obtain⟨bZ,e239,hx239_0⟩:=Kd.at_int HR1.out aw p239 q239
          have bH:=hx239_0
          cases e239
          replace hx239_0:=(HB.out.cell (World.block_lt_of_cell? w _ hx239_0)).trans hx239_0
          replace p239:=eq_true p239
          replace q239:=eq_true q239
          have p240:0≤(aA:Int):=od_
          have q240:aA < (l1.length:Int):=od_
          obtain⟨dM,e240,hx240_0⟩:=Kd.at_int HR1.out aA p240 q240
          have bI:=hx240_0
          obtain rfl:bZ=dM:=(by injection e240)
          replace hx240_0:=(HB.out.cell (World.block_lt_of_cell? w _ hx240_0)).trans hx240_0
          replace p240:=eq_true p240
          replace q240:=eq_true q240
          obtain⟨fE,fF,fG⟩:=Kd.S_slice ah.out
          (first | subst fG | (injection fG with f1_ f2_ f3_;have f4_:=f1_.symm;have f5_:=f3_.symm;clear f1_ f2_ f3_;subst f4_;subst f5_))
          obtain⟨fH,fI,fJ⟩:=Kd.R_slice ag.out
          (first | subst fJ | (injection fJ with f1_ f2_ f3_;have f4_:=f1_.symm;have f5_:=f3_.symm;clear f1_ f2_ f3_;subst f4_;subst f5_))
          refine st_ (n:=12) (S:=fun w'=>w'.cell? ⟨aa,0,none⟩=some (.slice fE aJ.length fF)∧w'.cell? ⟨aa,1,none⟩=some (.int .i64 aK)∧w'.cell? ⟨aa,2,none⟩=some (.slice fH aM.length fI)∧w'.cell? (bZ.add (aw).toNat)=some (.int .i64 (rd l1 aw))∧w'.cell? (bZ.add (aA).toNat)=some (.int .i64 (rd l1 aA))) (ds:= []) ⟨(blk_cell ae.out 0).trans rfl,(blk_cell ae.out 1).trans rfl,(blk_cell ae.out 2).trans rfl,((HB.out.cell (World.block_lt_of_cell? w _ bH)).trans bH),((HB.out.cell (World.block_lt_of_cell? w _ bI)).trans bI)⟩ (fun hHeld=>?_);refine with_tabW spec_l05Run.tab7 spec_l05Run.bits7 (fun HT_ HW_=>?_)
          generalize wr.drew=w36 at aH ah ag af ai ae HB hx239_0 hx240_0 hHeld ⊢
          refine pu_ 1 42 ?_;refine pu_ 2 43 ?_;refine pu_ 3 44 ?_;refine pu_ 4 45 ?_;refine pu_ 5 46 ?_;refine pu_ 7 48 ?_;refine pu_ 8 49 ?_;refine pu_ 9 50 ?_;refine tk_ 0 41 ?_;refine tk_ 6 47 ?_;refine tk_ 10 51 ?_
          refine on_ 11 (some 52) (fun K hK=>?_)
          refine goes_ Try.func155 (by kernel_rfl) rfl #[.agg #[.slice fE aJ.length fF, .int .i64 aK, .slice fH aM.length fI], .int .i64 aw, .int .i64 aA, .int .i64 (rd l1 aw), .int .i64 (rd l1 aA)] (by rfl) rfl rfl (by(try simp only [List.map_toArray,List.map_cons,List.map_nil]);first | done | rfl | (simp only [List.length_drop,List.length_take];rfl)) ?_
          with_reducible refine(spec_l05Key.calls k1 _ _ aJ aK _ _ aM aw aA (rd l1 aw) (rd l1 aA) false _ ?bh ?bi ?bk ?bn A24.out).mono ?_
          (case bh=>repeat (first | exact(Kd.S_reads' ah.out).2.2 | (with_reducible refine Kd.C_alloc ?_ _) | (with_reducible refine Kd.C_drewN ?_ _) | (with_reducible refine Kd.C_drew ?_)))
          (case bi=>exact(Kd.S_reads' ah.out).2.1)
          (case bk=>repeat (first | exact(Kd.R_reads' ag.out).2.2 | (with_reducible refine Kd.C_alloc ?_ _) | (with_reducible refine Kd.C_drewN ?_ _) | (with_reducible refine Kd.C_drew ?_)))
          (case bn=>exact(Kd.R_reads' ag.out).2.1)
          rintro e w39 ⟨rfl,hb⟩
          refine⟨_,rfl,?_⟩
          replace aH:=Aside0.mk (Kd.S_below (so_ aH.out) hb)
          replace ah:=Aside0.mk (Kd.S_below (so_ ah.out) hb)
          replace ag:=Aside0.mk (rb_ ag.out hb)
          replace af:=Aside0.mk (bb_ af.out hb)
          replace ai:=Aside0.mk (bb_ ai.out hb)
          replace ae:=Aside0.mk (bb_ ae.out hb)
          replace HB:=Aside0.mk (bs_ hb)
          (try clear hb)
          (try clear hb2)
          (try clear hk)
          (try clear hi)
          refine hK.out _ _ ⟨(blk_cell ae.out 0).trans rfl,(blk_cell ae.out 1).trans rfl,(blk_cell ae.out 2).trans rfl,((HB.out.cell (World.block_lt_of_cell? w _ bH)).trans bH),((HB.out.cell (World.block_lt_of_cell? w _ bI)).trans bI)⟩ (fun hHeld=>?_)
          clear hK K
          refine norm_ (a':=?_) ?_ ?_
          rotate_left
          ·show Act.put _ (some 52) _=_
           simp only [Act.put,List.setIfInBounds_toArray,List.set_cons_zero,List.set_cons_succ,i64_w,i32_w]
           rfl
          refine done_ (done_of HT_.out (by kernel_rfl)) ?_
          try go_wp2
          go_roundg k1
          case measure=>have:=HK1.out;omega
          case rel=>exact⟨(true),(aA),(wrap64 (aw+1)),rs_,rs_,rs_,H',⟨by have:=HK1.out;omega⟩,⟨so_ aH.out⟩,⟨so_ ah.out⟩,⟨ro_ ag.out⟩,⟨bk_⟩,⟨bk_⟩,⟨bk_⟩,⟨hb_⟩⟩
        ·rw [if_neg c23] at H
         exact absurd H (by simp)
       ·rw [if_neg c22] at H
        exact absurd H (by simp)
      ·rw [if_neg c21] at H
       exact absurd H (by simp)
     ·rw [if_neg c20] at H
      exact absurd H (by simp)
    ·replace c19:=Bool.eq_false_iff.mpr c19
     subst c19
     have H1:(if 0≤aw then(if aw < (l1.length:Int) then(if 0≤aA then(if aA < (l1.length:Int) then((spec_l05Key.f k1 aJ aK aM aw aA (rd l1 aw) (rd l1 aA)).bind fun dN=>(if dN=true then(spec_l05Run.l0 k1 l1 a2 (aq.length:Int) bu (decide ((rd aq aw) < 0)) aw (wrap64 (aw+1)) aC aq aJ aK aM) else(spec_l05Run.l0 k1 l1 a2 (aq.length:Int) bu (decide ((rd aq aw) < 0)) aA (wrap64 (aw+1)) aC aq aJ aK aM))) else(none)) else(none)) else(none)) else(none))=some (r1,r2,r3,r4,r5,r6):=by rw [if_neg (show ¬ (false=true) by decide)] at H;exact H
     clear H
     have H:=H1
     clear H1
     by_cases c40:0≤aw
     ·rw [if_pos c40] at H
      have c40b0:decide (0≤aw)=true:=decide_eq_true c40
      clear c40
      by_cases c41:aw < (l1.length:Int)
      ·rw [if_pos c41] at H
       have c41b0:decide (aw < (l1.length:Int))=true:=decide_eq_true c41
       clear c41
       by_cases c42:0≤aA
       ·rw [if_pos c42] at H
        have c42b0:decide (0≤aA)=true:=decide_eq_true c42
        clear c42
        by_cases c43:aA < (l1.length:Int)
        ·rw [if_pos c43] at H
         have c43b0:decide (aA < (l1.length:Int))=true:=decide_eq_true c43
         clear c43
         replace H:=Option.bind_eq_some_iff.mp H
         obtain⟨dN,A440,H⟩:=H
         replace H:(if dN=true then(spec_l05Run.l0 k1 l1 a2 (aq.length:Int) bu (decide ((rd aq aw) < 0)) aw (wrap64 (aw+1)) aC aq aJ aK aM) else(spec_l05Run.l0 k1 l1 a2 (aq.length:Int) bu (decide ((rd aq aw) < 0)) aA (wrap64 (aw+1)) aC aq aJ aK aM))=some (r1,r2,r3,r4,r5,r6):=H
         have A44:=Aside0.mk A440
         clear A440
         by_cases c45:dN=true
         ·subst c45
          have H1:(spec_l05Run.l0 k1 l1 a2 (aq.length:Int) bu (decide ((rd aq aw) < 0)) aw (wrap64 (aw+1)) aC aq aJ aK aM)=some (r1,r2,r3,r4,r5,r6):=by rw [if_pos rfl] at H;exact H
          clear H
          have H:=H1
          clear H1
          have H':=Aside0.mk H
          clear H
          have kD:=bC.out
          have kE:=bD.out
          have kF:=av.out
          have kG:=az.out
          have du:wr.cell? ⟨au,0,none⟩=some (.slice aN aC.length aT):=(blk_cell af.out 0).trans rfl
          have dw:wr.cell? ⟨au,1,none⟩=some (.slice aU aq.length aV):=(blk_cell af.out 1).trans rfl
          have dx:=blk_frozen af.out 0
          have dz:=blk_frozen af.out 1
          have p242:0≤(aw:Int):=od_
          have q242:aw < (aq.length:Int):=od_
          obtain⟨f8,e242,hx242_0⟩:=Kd.at_int HR0_1.out aw p242 q242
          cases e242
          replace hx242_0:=(HB.out.cell (World.block_lt_of_cell? w _ hx242_0)).trans hx242_0
          replace p242:=eq_true p242
          replace q242:=eq_true q242
          try go_wp2
          replace aH:=Aside0.mk (Kd.S_drew aH.out)
          replace ah:=Aside0.mk (Kd.S_drew ah.out)
          replace ag:=Aside0.mk (Kd.R_drew ag.out)
          replace af:=Aside0.mk (blk_drew af.out)
          replace ai:=Aside0.mk (blk_drew ai.out)
          replace ae:=Aside0.mk (blk_drew ae.out)
          replace HB:=Aside0.mk (below_drew1 HB.out)
          have p243:0≤(aw:Int):=od_
          have q243:aw < (l1.length:Int):=od_
          obtain⟨ck,e243,hx243_0⟩:=Kd.at_int HR1.out aw p243 q243
          have bJ:=hx243_0
          cases e243
          replace hx243_0:=(HB.out.cell (World.block_lt_of_cell? w _ hx243_0)).trans hx243_0
          replace p243:=eq_true p243
          replace q243:=eq_true q243
          have p244:0≤(aA:Int):=od_
          have q244:aA < (l1.length:Int):=od_
          obtain⟨dO,e244,hx244_0⟩:=Kd.at_int HR1.out aA p244 q244
          have bK:=hx244_0
          obtain rfl:ck=dO:=(by injection e244)
          replace hx244_0:=(HB.out.cell (World.block_lt_of_cell? w _ hx244_0)).trans hx244_0
          replace p244:=eq_true p244
          replace q244:=eq_true q244
          obtain⟨fK,fL,fM⟩:=Kd.S_slice ah.out
          (first | subst fM | (injection fM with f1_ f2_ f3_;have f4_:=f1_.symm;have f5_:=f3_.symm;clear f1_ f2_ f3_;subst f4_;subst f5_))
          obtain⟨fN,fO,fP⟩:=Kd.R_slice ag.out
          (first | subst fP | (injection fP with f1_ f2_ f3_;have f4_:=f1_.symm;have f5_:=f3_.symm;clear f1_ f2_ f3_;subst f4_;subst f5_))
          refine st_ (n:=12) (S:=fun w'=>w'.cell? ⟨aa,0,none⟩=some (.slice fK aJ.length fL)∧w'.cell? ⟨aa,1,none⟩=some (.int .i64 aK)∧w'.cell? ⟨aa,2,none⟩=some (.slice fN aM.length fO)∧w'.cell? (ck.add (aw).toNat)=some (.int .i64 (rd l1 aw))∧w'.cell? (ck.add (aA).toNat)=some (.int .i64 (rd l1 aA))) (ds:= []) ⟨(blk_cell ae.out 0).trans rfl,(blk_cell ae.out 1).trans rfl,(blk_cell ae.out 2).trans rfl,((HB.out.cell (World.block_lt_of_cell? w _ bJ)).trans bJ),((HB.out.cell (World.block_lt_of_cell? w _ bK)).trans bK)⟩ (fun hHeld=>?_);refine with_tabW spec_l05Run.tab7 spec_l05Run.bits7 (fun HT_ HW_=>?_)
          generalize wr.drew=w49 at aH ah ag af ai ae HB hx243_0 hx244_0 hHeld ⊢
          refine pu_ 1 42 ?_;refine pu_ 2 43 ?_;refine pu_ 3 44 ?_;refine pu_ 4 45 ?_;refine pu_ 5 46 ?_;refine pu_ 7 48 ?_;refine pu_ 8 49 ?_;refine pu_ 9 50 ?_;refine tk_ 0 41 ?_;refine tk_ 6 47 ?_;refine tk_ 10 51 ?_
          refine on_ 11 (some 52) (fun K hK=>?_)
          refine goes_ Try.func155 (by kernel_rfl) rfl #[.agg #[.slice fK aJ.length fL, .int .i64 aK, .slice fN aM.length fO], .int .i64 aw, .int .i64 aA, .int .i64 (rd l1 aw), .int .i64 (rd l1 aA)] (by rfl) rfl rfl (by(try simp only [List.map_toArray,List.map_cons,List.map_nil]);first | done | rfl | (simp only [List.length_drop,List.length_take];rfl)) ?_
          with_reducible refine(spec_l05Key.calls k1 _ _ aJ aK _ _ aM aw aA (rd l1 aw) (rd l1 aA) true _ ?bh ?bi ?bk ?bn A44.out).mono ?_
          (case bh=>repeat (first | exact(Kd.S_reads' ah.out).2.2 | (with_reducible refine Kd.C_alloc ?_ _) | (with_reducible refine Kd.C_drewN ?_ _) | (with_reducible refine Kd.C_drew ?_)))
          (case bi=>exact(Kd.S_reads' ah.out).2.1)
          (case bk=>repeat (first | exact(Kd.R_reads' ag.out).2.2 | (with_reducible refine Kd.C_alloc ?_ _) | (with_reducible refine Kd.C_drewN ?_ _) | (with_reducible refine Kd.C_drew ?_)))
          (case bn=>exact(Kd.R_reads' ag.out).2.1)
          rintro e w52 ⟨rfl,hb⟩
          refine⟨_,rfl,?_⟩
          replace aH:=Aside0.mk (Kd.S_below (so_ aH.out) hb)
          replace ah:=Aside0.mk (Kd.S_below (so_ ah.out) hb)
          replace ag:=Aside0.mk (rb_ ag.out hb)
          replace af:=Aside0.mk (bb_ af.out hb)
          replace ai:=Aside0.mk (bb_ ai.out hb)
          replace ae:=Aside0.mk (bb_ ae.out hb)
          replace HB:=Aside0.mk (bs_ hb)
          (try clear hb)
          (try clear hb2)
          (try clear hk)
          (try clear hi)
          refine hK.out _ _ ⟨(blk_cell ae.out 0).trans rfl,(blk_cell ae.out 1).trans rfl,(blk_cell ae.out 2).trans rfl,((HB.out.cell (World.block_lt_of_cell? w _ bJ)).trans bJ),((HB.out.cell (World.block_lt_of_cell? w _ bK)).trans bK)⟩ (fun hHeld=>?_)
          clear hK K
          refine norm_ (a':=?_) ?_ ?_
          rotate_left
          ·show Act.put _ (some 52) _=_
           simp only [Act.put,List.setIfInBounds_toArray,List.set_cons_zero,List.set_cons_succ,i64_w,i32_w]
           rfl
          refine done_ (done_of HT_.out (by kernel_rfl)) ?_
          try go_wp2
          go_roundg k1
          case measure=>have:=HK1.out;omega
          case rel=>exact⟨(decide ((rd aq aw) < 0)),(aw),(wrap64 (aw+1)),rs_,rs_,rs_,H',⟨by have:=HK1.out;omega⟩,⟨so_ aH.out⟩,⟨so_ ah.out⟩,⟨ro_ ag.out⟩,⟨bk_⟩,⟨bk_⟩,⟨bk_⟩,⟨hb_⟩⟩
         ·replace c45:=Bool.eq_false_iff.mpr c45
          subst c45
          have H1:(spec_l05Run.l0 k1 l1 a2 (aq.length:Int) bu (decide ((rd aq aw) < 0)) aA (wrap64 (aw+1)) aC aq aJ aK aM)=some (r1,r2,r3,r4,r5,r6):=by rw [if_neg (show ¬ (false=true) by decide)] at H;exact H
          clear H
          have H:=H1
          clear H1
          have H':=Aside0.mk H
          clear H
          have kH:=bC.out
          have kI:=bD.out
          have kJ:=av.out
          have kK:=az.out
          have dA:wr.cell? ⟨au,0,none⟩=some (.slice aN aC.length aT):=(blk_cell af.out 0).trans rfl
          have dB:wr.cell? ⟨au,1,none⟩=some (.slice aU aq.length aV):=(blk_cell af.out 1).trans rfl
          have dC:=blk_frozen af.out 0
          have dD:=blk_frozen af.out 1
          have p242:0≤(aw:Int):=od_
          have q242:aw < (aq.length:Int):=od_
          obtain⟨f8,e242,hx242_0⟩:=Kd.at_int HR0_1.out aw p242 q242
          cases e242
          replace hx242_0:=(HB.out.cell (World.block_lt_of_cell? w _ hx242_0)).trans hx242_0
          replace p242:=eq_true p242
          replace q242:=eq_true q242
          try go_wp2
          replace aH:=Aside0.mk (Kd.S_drew aH.out)
          replace ah:=Aside0.mk (Kd.S_drew ah.out)
          replace ag:=Aside0.mk (Kd.R_drew ag.out)
          replace af:=Aside0.mk (blk_drew af.out)
          replace ai:=Aside0.mk (blk_drew ai.out)
          replace ae:=Aside0.mk (blk_drew ae.out)
          replace HB:=Aside0.mk (below_drew1 HB.out)
          have p243:0≤(aw:Int):=od_
          have q243:aw < (l1.length:Int):=od_
          obtain⟨ck,e243,hx243_0⟩:=Kd.at_int HR1.out aw p243 q243
          have bJ:=hx243_0
          cases e243
          replace hx243_0:=(HB.out.cell (World.block_lt_of_cell? w _ hx243_0)).trans hx243_0
          replace p243:=eq_true p243
          replace q243:=eq_true q243
          have p244:0≤(aA:Int):=od_
          have q244:aA < (l1.length:Int):=od_
          obtain⟨dO,e244,hx244_0⟩:=Kd.at_int HR1.out aA p244 q244
          have bK:=hx244_0
          obtain rfl:ck=dO:=(by injection e244)
          replace hx244_0:=(HB.out.cell (World.block_lt_of_cell? w _ hx244_0)).trans hx244_0
          replace p244:=eq_true p244
          replace q244:=eq_true q244
          obtain⟨fQ,fR,fS⟩:=Kd.S_slice ah.out
          (first | subst fS | (injection fS with f1_ f2_ f3_;have f4_:=f1_.symm;have f5_:=f3_.symm;clear f1_ f2_ f3_;subst f4_;subst f5_))
          obtain⟨fT,fU,fW⟩:=Kd.R_slice ag.out
          (first | subst fW | (injection fW with f1_ f2_ f3_;have f4_:=f1_.symm;have f5_:=f3_.symm;clear f1_ f2_ f3_;subst f4_;subst f5_))
          refine st_ (n:=12) (S:=fun w'=>w'.cell? ⟨aa,0,none⟩=some (.slice fQ aJ.length fR)∧w'.cell? ⟨aa,1,none⟩=some (.int .i64 aK)∧w'.cell? ⟨aa,2,none⟩=some (.slice fT aM.length fU)∧w'.cell? (ck.add (aw).toNat)=some (.int .i64 (rd l1 aw))∧w'.cell? (ck.add (aA).toNat)=some (.int .i64 (rd l1 aA))) (ds:= []) ⟨(blk_cell ae.out 0).trans rfl,(blk_cell ae.out 1).trans rfl,(blk_cell ae.out 2).trans rfl,((HB.out.cell (World.block_lt_of_cell? w _ bJ)).trans bJ),((HB.out.cell (World.block_lt_of_cell? w _ bK)).trans bK)⟩ (fun hHeld=>?_);refine with_tabW spec_l05Run.tab7 spec_l05Run.bits7 (fun HT_ HW_=>?_)
          generalize wr.drew=w56 at aH ah ag af ai ae HB hx243_0 hx244_0 hHeld ⊢
          refine pu_ 1 42 ?_;refine pu_ 2 43 ?_;refine pu_ 3 44 ?_;refine pu_ 4 45 ?_;refine pu_ 5 46 ?_;refine pu_ 7 48 ?_;refine pu_ 8 49 ?_;refine pu_ 9 50 ?_;refine tk_ 0 41 ?_;refine tk_ 6 47 ?_;refine tk_ 10 51 ?_
          refine on_ 11 (some 52) (fun K hK=>?_)
          refine goes_ Try.func155 (by kernel_rfl) rfl #[.agg #[.slice fQ aJ.length fR, .int .i64 aK, .slice fT aM.length fU], .int .i64 aw, .int .i64 aA, .int .i64 (rd l1 aw), .int .i64 (rd l1 aA)] (by rfl) rfl rfl (by(try simp only [List.map_toArray,List.map_cons,List.map_nil]);first | done | rfl | (simp only [List.length_drop,List.length_take];rfl)) ?_
          with_reducible refine(spec_l05Key.calls k1 _ _ aJ aK _ _ aM aw aA (rd l1 aw) (rd l1 aA) false _ ?bh ?bi ?bk ?bn A44.out).mono ?_
          (case bh=>repeat (first | exact(Kd.S_reads' ah.out).2.2 | (with_reducible refine Kd.C_alloc ?_ _) | (with_reducible refine Kd.C_drewN ?_ _) | (with_reducible refine Kd.C_drew ?_)))
          (case bi=>exact(Kd.S_reads' ah.out).2.1)
          (case bk=>repeat (first | exact(Kd.R_reads' ag.out).2.2 | (with_reducible refine Kd.C_alloc ?_ _) | (with_reducible refine Kd.C_drewN ?_ _) | (with_reducible refine Kd.C_drew ?_)))
          (case bn=>exact(Kd.R_reads' ag.out).2.1)
          rintro e w59 ⟨rfl,hb⟩
          refine⟨_,rfl,?_⟩
          replace aH:=Aside0.mk (Kd.S_below (so_ aH.out) hb)
          replace ah:=Aside0.mk (Kd.S_below (so_ ah.out) hb)
          replace ag:=Aside0.mk (rb_ ag.out hb)
          replace af:=Aside0.mk (bb_ af.out hb)
          replace ai:=Aside0.mk (bb_ ai.out hb)
          replace ae:=Aside0.mk (bb_ ae.out hb)
          replace HB:=Aside0.mk (bs_ hb)
          (try clear hb)
          (try clear hb2)
          (try clear hk)
          (try clear hi)
          refine hK.out _ _ ⟨(blk_cell ae.out 0).trans rfl,(blk_cell ae.out 1).trans rfl,(blk_cell ae.out 2).trans rfl,((HB.out.cell (World.block_lt_of_cell? w _ bJ)).trans bJ),((HB.out.cell (World.block_lt_of_cell? w _ bK)).trans bK)⟩ (fun hHeld=>?_)
          clear hK K
          refine norm_ (a':=?_) ?_ ?_
          rotate_left
          ·show Act.put _ (some 52) _=_
           simp only [Act.put,List.setIfInBounds_toArray,List.set_cons_zero,List.set_cons_succ,i64_w,i32_w]
           rfl
          refine done_ (done_of HT_.out (by kernel_rfl)) ?_
          try go_wp2
          go_roundg k1
          case measure=>have:=HK1.out;omega
          case rel=>exact⟨(decide ((rd aq aw) < 0)),(aA),(wrap64 (aw+1)),rs_,rs_,rs_,H',⟨by have:=HK1.out;omega⟩,⟨so_ aH.out⟩,⟨so_ ah.out⟩,⟨ro_ ag.out⟩,⟨bk_⟩,⟨bk_⟩,⟨bk_⟩,⟨hb_⟩⟩
        ·rw [if_neg c43] at H
         exact absurd H (by simp)
       ·rw [if_neg c42] at H
        exact absurd H (by simp)
      ·rw [if_neg c41] at H
       exact absurd H (by simp)
     ·rw [if_neg c40] at H
      exact absurd H (by simp)
   ·rw [if_neg c18] at H
    have c18b0:decide (aw < (aq.length:Int))=false:=decide_eq_false c18
    clear c18
    by_cases c60:cL=true
    ·subst c60
     have H1:(spec_l05Run.l1 k1 a2 (aq.length:Int) bu aA (wrap64 (2*(aq.length:Int))) aJ aK aM)=some (r1,r2,r3,r4,r5,r6):=by rw [if_pos rfl] at H;exact H
     clear H
     have H:=H1
     clear H1
     have H':=Aside0.mk H
     clear H
     have kL:=bC.out
     have kM:=bD.out
     have kN:=av.out
     have kO:=az.out
     have dE:wr.cell? ⟨au,0,none⟩=some (.slice aN aC.length aT):=(blk_cell af.out 0).trans rfl
     have dF:wr.cell? ⟨au,1,none⟩=some (.slice aU aq.length aV):=(blk_cell af.out 1).trans rfl
     have dG:=blk_frozen af.out 0
     have dH:=blk_frozen af.out 1
     go_wp2
     go_loopg [12,14,16] k1 (fun kq v12 v14 v16 w'=> ∃(bg:List (List Int)) (da:Int) (ba:Int) (bA:Int) (aD:List (List Int)) (ay:Int) (aj:List Int) (a9:Value) (bz:Value),v14= .int .i64 da∧v16= .int .i64 ba∧Aside0 (spec_l05Run.l1 kq a2 (aq.length:Int) bg da ba aD ay aj=some (r1,r2,r3,r4,r5,r6))∧Aside0 (kq≤k1)∧Aside0 (Kd.S (Kd.slice 2 (Kd.int .i64)) 23 w' w.heap.size (fun k_=>some k_≠(a9:Value).ownBlock∧some k_≠(bz:Value).ownBlock) v12 bg)∧Aside0 (Kd.S (Kd.slice 2 (Kd.int .i64)) 23 w' w.heap.size (fun k_=>some k_≠(v12:Value).ownBlock∧some k_≠(bz:Value).ownBlock) a9 aD)∧Aside0 (Kd.R (Kd.int .i64) 2 w' w.heap.size (fun _=>True) bz aj)∧Aside0 (w'.heap[au]?=some (.cells #[(.slice aN aC.length aT),(.slice aU aq.length aV)] 30 (0,0)))∧Aside0 (w'.heap[ak]?=some (.cells #[(.slice none 0 0), .int .i64 bA,(.slice none 0 0)] 100 (0,0)))∧Aside0 (w'.heap[aa]?=some (.cells #[a9, .int .i64 ay,bz] 100 (0,0)))∧Aside0 (Below w.heap.size w w'))
     case atStart=>exact⟨(bu),(aA),(wrap64 (2*(aq.length:Int))),(0),(aJ),(aK),(aM),(bb),(aY),rs_,rs_,H',⟨Nat.le_refl _⟩,⟨so_ aH.out⟩,⟨so_ ah.out⟩,⟨ro_ ag.out⟩,⟨bk_⟩,⟨bk_⟩,⟨bk_⟩,⟨hb_⟩⟩
     case round=>
      clear H'
      try clear c1
      try clear c2
      try clear p2
      try clear q2
      try clear hx2
      try clear c4
      try clear c5
      try clear c6
      try clear p6
      try clear c15
      try clear c18
      try clear c18b0
      try clear c19
      try clear c20
      try clear c21
      try clear c22
      try clear c23
      try clear p24
      try clear q24
      try clear hx24
      try clear c40
      try clear c40b0
      try clear c41
      try clear c41b0
      try clear c42
      try clear c42b0
      try clear c43
      try clear c43b0
      try clear c45
      try clear c46
      try clear c47
      try clear c53
      try clear c54
      try clear c60
      try clear c61
      try clear c62
      try clear du
      try clear dw
      try clear dA
      try clear dB
      try clear dE
      try clear dF
      try clear dx
      try clear dz
      try clear dC
      try clear dD
      try clear dG
      try clear dH
      try clear hx242_0
      try clear hx243_0
      try clear hx244_0
      try clear p242
      try clear p243
      try clear p244
      try clear q242
      try clear q243
      try clear q244
      obtain⟨bg,da,ba,bA,aD,ay,aj,a9,bz,rfl,rfl,HA,HK2,aH,ah,ag,af,ai,ae,HB⟩:=hrel
      cases gk with
      | zero=>exact absurd HA.out (by simp [spec_l05Run.l1])
      | succ k2=>
       have H:=HA.out
       clear HA
       simp only [spec_l05Run.l1] at H
       by_cases c64:(bg.length:Int) < a2
       ·rw [if_pos c64] at H
        have c64b0:decide ((bg.length:Int) < a2)=true:=decide_eq_true c64
        clear c64
        have HC65:=Aside0.mk H
        clear H
        obtain⟨ct,cz,gC⟩:=Kd.S_slice aH.out
        subst gC
        go_upto_if 67 with (fail)
        go_cut [14] (fun v14 wc=> ∃(kq:Nat) (aI:Int) (bL:Int),v14= .int .i64 aI∧Aside0 (spec_l05Run.j2 kq a2 (aq.length:Int) bg aI ba aD ay aj=some (r1,r2,r3,r4,r5,r6))∧Aside0 (kq≤k2)∧Aside0 (Kd.S (Kd.slice 2 (Kd.int .i64)) 23 wc w.heap.size (fun k_=>some k_≠(a9:Value).ownBlock∧some k_≠(bz:Value).ownBlock) (.slice ct bg.length cz) bg)∧Aside0 (Kd.S (Kd.slice 2 (Kd.int .i64)) 23 wc w.heap.size (fun k_=>some k_≠((.slice ct bg.length cz):Value).ownBlock∧some k_≠(bz:Value).ownBlock) a9 aD)∧Aside0 (Kd.R (Kd.int .i64) 2 wc w.heap.size (fun _=>True) bz aj)∧Aside0 (wc.heap[au]?=some (.cells #[(.slice aN aC.length aT),(.slice aU aq.length aV)] 30 (0,0)))∧Aside0 (wc.heap[ak]?=some (.cells #[(.slice none 0 0), .int .i64 bL,(.slice none 0 0)] 100 (0,0)))∧Aside0 (wc.heap[aa]?=some (.cells #[a9, .int .i64 ay,bz] 100 (0,0)))∧Aside0 (Below w.heap.size w wc))
        case first=>
         have H:=HC65.out
         clear HC65
         by_cases c67:ba < (wrap64 (2*(aq.length:Int)))
         ·rw [if_pos c67] at H
          have c67b0:decide (ba < (wrap64 (2*(aq.length:Int))))=true:=decide_eq_true c67
          clear c67
          (first | rw [c67b0] | (simp only [i64_w,i32_w];rw [c67b0]) | skip)
          replace H:=Option.bind_eq_some_iff.mp H
          obtain⟨cA,A680,H⟩:=H
          replace H:(if cA < 0 then(some (aD,ay,aj,bg,ba,false)) else(spec_l05Run.j2 k2 a2 (aq.length:Int) bg cA ba aD ay aj))=some (r1,r2,r3,r4,r5,r6):=H
          have A68:=Aside0.mk A680
          clear A680
          by_cases c69:cA < 0
          ·rw [if_pos c69] at H
           have c69b0:decide (cA < 0)=true:=decide_eq_true c69
           clear c69
           simp only [Option.some.injEq,Prod.mk.injEq] at H
           obtain⟨rfl,rfl,rfl,rfl,rfl,rfl⟩:=H
           have kP:=az.out
           have kQ:=av.out
           have kR:=aG.out
           have kS:=ax.out
           have eG:wr.cell? ⟨aa,0,none⟩=some (a9):=(blk_cell ae.out 0).trans rfl
           have eH:wr.cell? ⟨aa,1,none⟩=some (.int .i64 ay):=(blk_cell ae.out 1).trans rfl
           have eI:wr.cell? ⟨aa,2,none⟩=some (bz):=(blk_cell ae.out 2).trans rfl
           have eJ:=blk_frozen ae.out 0
           have eK:=blk_frozen ae.out 1
           have eL:=blk_frozen ae.out 2
           obtain⟨cB,cC,gF⟩:=Kd.S_slice ah.out
           subst gF
           obtain⟨cV,cW,gG⟩:=Kd.R_slice ag.out
           subst gG
           go_wp2_with (first | ((with_reducible refine gate_callee (f:=156) rfl ?_);refine gL_ 70 Try.func156 #[.agg #[.slice cB aD.length cC, .int .i64 ay, .slice cV aj.length cW], .int .i64 ba] ?_;(with_reducible refine(spec_l05Row.calls k2 _ _ aD ay _ _ aj ba cA _ ?bh ?bi ?bk ?bn A68.out).mono ?_);(case bh=>repeat (first | exact(Kd.S_reads' ah.out).2.2 | (with_reducible refine Kd.C_alloc ?_ _) | (with_reducible refine Kd.C_drewN ?_ _) | (with_reducible refine Kd.C_drew ?_)));(case bi=>exact(Kd.S_reads' ah.out).2.1);(case bk=>repeat (first | exact(Kd.R_reads' ag.out).2.2 | (with_reducible refine Kd.C_alloc ?_ _) | (with_reducible refine Kd.C_drewN ?_ _) | (with_reducible refine Kd.C_drew ?_)));(case bn=>exact(Kd.R_reads' ag.out).2.1);rintro e w75 ⟨rfl,hb⟩;refine⟨_,rfl,?_⟩;replace aH:=Aside0.mk (Kd.S_below (so_ aH.out) hb);replace ah:=Aside0.mk (Kd.S_below (so_ ah.out) hb);replace ag:=Aside0.mk (rb_ ag.out hb);replace af:=Aside0.mk (bb_ af.out hb);replace ai:=Aside0.mk (bb_ ai.out hb);replace ae:=Aside0.mk (bb_ ae.out hb);replace HB:=Aside0.mk (bs_ hb);(try clear hb);(try clear hb2);(try clear hk);(try clear hi);have eM:w75.cell? ⟨aa,0,none⟩=some (.slice cB aD.length cC):=(blk_cell ae.out 0).trans rfl;have eO:w75.cell? ⟨aa,1,none⟩=some (.int .i64 ay):=(blk_cell ae.out 1).trans rfl;have eP:w75.cell? ⟨aa,2,none⟩=some (.slice cV aj.length cW):=(blk_cell ae.out 2).trans rfl;have eQ:=blk_frozen ae.out 0;have eS:=blk_frozen ae.out 1;have eT:=blk_frozen ae.out 2;have kT:=bD.out;have kU:=bC.out;have eU:w75.cell? ⟨ak,0,none⟩=some (.slice none 0 0):=(blk_cell ai.out 0).trans rfl;have eV:w75.cell? ⟨ak,1,none⟩=some (.int .i64 bA):=(blk_cell ai.out 1).trans rfl;have eW:w75.cell? ⟨ak,2,none⟩=some (.slice none 0 0):=(blk_cell ai.out 2).trans rfl;have eX:=blk_frozen ai.out 0;have eY:=blk_frozen ai.out 1;have eZ:=blk_frozen ai.out 2))
           refine bodyPost_ret (results_list (rs:= [.cell 6 100, .tmp 7, .tmp 8, .tmp 9]) rfl (by simp) (.cell ak 100 #[.slice cB aD.length cC, .int .i64 ay, .slice cV aj.length cW] (0,0) _ rfl (by(with_reducible repeat (first | refine blk_drewN ?_ _ | refine blk_drew ?_ | refine blk_alloc ?_ _));refine blk_put (cs:= #[.slice cB aD.length cC, .int .i64 ay, .slice none 0 0]) ?_ 2 _ rfl;(with_reducible repeat (first | refine blk_drewN ?_ _ | refine blk_drew ?_ | refine blk_alloc ?_ _));refine blk_put (cs:= #[.slice cB aD.length cC, .int .i64 bA, .slice none 0 0]) ?_ 1 _ rfl;(with_reducible repeat (first | refine blk_drewN ?_ _ | refine blk_drew ?_ | refine blk_alloc ?_ _));refine blk_put (cs:= #[.slice none 0 0, .int .i64 bA, .slice none 0 0]) ?_ 0 _ rfl;(with_reducible repeat (first | refine blk_drewN ?_ _ | refine blk_drew ?_ | refine blk_alloc ?_ _));exact ai.out) Try.underlying100 rfl (by kernel_rfl) (.tmp (.tmp (.tmp .nil))))) rfl ?_
           exact⟨_,_,_,by first | rfl | (simp [errW_none,errW_some] <;> rfl) | (simp [*,errW_none,errW_some] <;> rfl),by(with_reducible repeat (first | apply Kd.S_alloc | apply Kd.S_drewN | apply Kd.S_drew));exact Kd.S_mono (Kd.S_far (p:=⟨ak,2,none⟩) (Kd.S_far (p:=⟨ak,1,none⟩) (Kd.S_far (p:=⟨ak,0,none⟩) (Kd.S_types ah.out ai.out (by decide)) (fun _ hk=>hk.2) (.slice cB aD.length cC)) (fun _ hk=>hk.2) (.int .i64 ay)) (fun _ hk=>hk.2) (.slice cV aj.length cW)) (fun _ hk=>⟨hk.1.2,hk.1.1⟩),by(with_reducible repeat (first | apply Kd.R_alloc | apply Kd.R_drewN | apply Kd.R_drew));exact Kd.R_mono (Kd.R_far (p:=⟨ak,2,none⟩) (Kd.R_far (p:=⟨ak,1,none⟩) (Kd.R_far (p:=⟨ak,0,none⟩) (Kd.R_types ag.out ai.out (by decide)) (fun _ hk=>hk.2) (.slice cB aD.length cC)) (fun _ hk=>hk.2) (.int .i64 ay)) (fun _ hk=>hk.2) (.slice cV aj.length cW)) (fun _ hk=>trivial),by(with_reducible repeat (first | apply Kd.S_alloc | apply Kd.S_drewN | apply Kd.S_drew));exact Kd.S_mono (Kd.S_far (p:=⟨ak,2,none⟩) (Kd.S_far (p:=⟨ak,1,none⟩) (Kd.S_far (p:=⟨ak,0,none⟩) (Kd.S_types aH.out ai.out (by decide)) (fun _ hk=>hk.2) (.slice cB aD.length cC)) (fun _ hk=>hk.2) (.int .i64 ay)) (fun _ hk=>hk.2) (.slice cV aj.length cW)) (fun _ hk=>⟨hk.1.1,hk.1.2⟩),hb_⟩
          ·rw [if_neg c69] at H
           have c69b0:decide (cA < 0)=false:=decide_eq_false c69
           clear c69
           have H':=Aside0.mk H
           clear H
           have kV:=az.out
           have kW:=av.out
           have kX:=aG.out
           have kY:=ax.out
           have fc:wr.cell? ⟨aa,0,none⟩=some (a9):=(blk_cell ae.out 0).trans rfl
           have fe:wr.cell? ⟨aa,1,none⟩=some (.int .i64 ay):=(blk_cell ae.out 1).trans rfl
           have fg:wr.cell? ⟨aa,2,none⟩=some (bz):=(blk_cell ae.out 2).trans rfl
           have fj:=blk_frozen ae.out 0
           have fk:=blk_frozen ae.out 1
           have fo:=blk_frozen ae.out 2
           obtain⟨gH,gI,gJ⟩:=Kd.S_slice ah.out
           subst gJ
           obtain⟨gK,gL,gM⟩:=Kd.R_slice ag.out
           subst gM
           go_wp2_with (first | ((with_reducible refine gate_callee (f:=156) rfl ?_);refine gL_ 70 Try.func156 #[.agg #[.slice gH aD.length gI, .int .i64 ay, .slice gK aj.length gL], .int .i64 ba] ?_;(with_reducible refine(spec_l05Row.calls k2 _ _ aD ay _ _ aj ba cA _ ?bh ?bi ?bk ?bn A68.out).mono ?_);(case bh=>repeat (first | exact(Kd.S_reads' ah.out).2.2 | (with_reducible refine Kd.C_alloc ?_ _) | (with_reducible refine Kd.C_drewN ?_ _) | (with_reducible refine Kd.C_drew ?_)));(case bi=>exact(Kd.S_reads' ah.out).2.1);(case bk=>repeat (first | exact(Kd.R_reads' ag.out).2.2 | (with_reducible refine Kd.C_alloc ?_ _) | (with_reducible refine Kd.C_drewN ?_ _) | (with_reducible refine Kd.C_drew ?_)));(case bn=>exact(Kd.R_reads' ag.out).2.1);rintro e w84 ⟨rfl,hb⟩;refine⟨_,rfl,?_⟩;replace aH:=Aside0.mk (Kd.S_below (so_ aH.out) hb);replace ah:=Aside0.mk (Kd.S_below (so_ ah.out) hb);replace ag:=Aside0.mk (rb_ ag.out hb);replace af:=Aside0.mk (bb_ af.out hb);replace ai:=Aside0.mk (bb_ ai.out hb);replace ae:=Aside0.mk (bb_ ae.out hb);replace HB:=Aside0.mk (bs_ hb);(try clear hb);(try clear hb2);(try clear hk);(try clear hi)))
           go_meet
           case rel=>exact⟨_,(cA),(bA),rs_,H',⟨by have:=HK1.out;have:=HK2.out;first | omega | exact Nat.le_refl _⟩,⟨so_ aH.out⟩,⟨so_ ah.out⟩,⟨ro_ ag.out⟩,⟨bk_⟩,⟨bk_⟩,⟨bk_⟩,⟨hb_⟩⟩
         ·rw [if_neg c67] at H
          have c67b0:decide (ba < (wrap64 (2*(aq.length:Int))))=false:=decide_eq_false c67
          clear c67
          (first | rw [c67b0] | (simp only [i64_w,i32_w];rw [c67b0]) | skip)
          have H':=Aside0.mk H
          clear H
          go_wp2
          go_meet
          case rel=>exact⟨_,(da),(bA),rs_,H',⟨by have:=HK1.out;have:=HK2.out;first | omega | exact Nat.le_refl _⟩,⟨so_ aH.out⟩,⟨so_ ah.out⟩,⟨ro_ ag.out⟩,⟨bk_⟩,⟨bk_⟩,⟨bk_⟩,⟨hb_⟩⟩
        case rest=>
         clear HC65
         try clear c1
         try clear c2
         try clear p2
         try clear q2
         try clear hx2
         try clear c4
         try clear c5
         try clear c6
         try clear p6
         try clear c7
         try clear c8
         try clear c15
         try clear c18
         try clear c18b0
         try clear c19
         try clear c20
         try clear c21
         try clear c22
         try clear c23
         try clear p24
         try clear q24
         try clear hx24
         try clear c40
         try clear c40b0
         try clear c41
         try clear c41b0
         try clear c42
         try clear c42b0
         try clear c43
         try clear c43b0
         try clear c45
         try clear c46
         try clear c47
         try clear c53
         try clear c54
         try clear c60
         try clear c61
         try clear c62
         try clear c64
         try clear c64b0
         try clear p64
         try clear c67
         try clear c67b0
         try clear c69
         try clear c69b0
         try clear c70
         try clear c71
         try clear c77
         try clear c79
         try clear c80
         try clear du
         try clear dw
         try clear dA
         try clear dB
         try clear dE
         try clear dF
         try clear eG
         try clear eH
         try clear eI
         try clear eM
         try clear eO
         try clear eP
         try clear eU
         try clear eV
         try clear eW
         try clear fc
         try clear fe
         try clear fg
         try clear dx
         try clear dz
         try clear dC
         try clear dD
         try clear dG
         try clear dH
         try clear eJ
         try clear eK
         try clear eL
         try clear eQ
         try clear eS
         try clear eT
         try clear eX
         try clear eY
         try clear eZ
         try clear fj
         try clear fk
         try clear fo
         try clear hx242_0
         try clear hx243_0
         try clear hx244_0
         try clear p2
         try clear p24
         try clear p242
         try clear p243
         try clear p244
         try clear p6
         try clear q2
         try clear q24
         try clear q242
         try clear q243
         try clear q244
         obtain⟨kq,aI,bL,rfl,HA,HJ64,aH,ah,ag,af,ai,ae,HB⟩:=hcut
         cases kq with
         | zero=>exact absurd HA.out (by simp [spec_l05Run.j2])
         | succ kj64=>
          have H:=HA.out
          clear HA
          simp only [spec_l05Run.j2] at H
          by_cases c85:0≤aI
          ·rw [if_pos c85] at H
           have c85b0:decide (0≤aI)=true:=decide_eq_true c85
           clear c85
           by_cases c86:aI < (aj.length:Int)
           ·rw [if_pos c86] at H
            have c86b0:decide (aI < (aj.length:Int))=true:=decide_eq_true c86
            clear c86
            obtain⟨bW,hy248⟩: ∃y_:List Int,y_=(([ba,rd aj aI]:List Int)):=⟨_,rfl⟩
            replace H:(if bg.length < 5864062014805 then((some (bg++ [bW]:List (List Int))).bind fun cm=>((spec_l05Pivot.f aD ay aj aI ba).bind fun bM=>(if(rd aj aI)=(wrap64 (2*(aq.length:Int))) then(some (bM.1,bM.2.1,bM.2.2,cm,(-1),true)) else((spec_l05Partner.f (rd aj aI) (aq.length:Int)).bind fun cn=>(spec_l05Run.l1 kj64 a2 (aq.length:Int) cm aI cn bM.1 bM.2.1 bM.2.2))))) else(none))=some (r1,r2,r3,r4,r5,r6):=by first | (rw [hy248];with_reducible exact H) | (have H2_:=(Option.bind_some _ _).symm.trans H;rw [hy248];with_reducible exact H2_) | (have H2_:=(Option.bind_some _ _).symm.trans H;with_reducible exact H2_) | with_reducible exact H | (rw [hy248];exact H) | exact H
            have db:=Aside0.mk hy248
            clear hy248
            by_cases c87:bg.length < 5864062014805
            ·rw [if_pos c87] at H
             have eC:=Aside0.mk c87
             clear c87
             obtain⟨cm,hy251⟩: ∃y_:List (List Int),y_=(bg++ [bW]):=⟨_,rfl⟩
             replace H:((spec_l05Pivot.f aD ay aj aI ba).bind fun bM=>(if(rd aj aI)=(wrap64 (2*(aq.length:Int))) then(some (bM.1,bM.2.1,bM.2.2,cm,(-1),true)) else((spec_l05Partner.f (rd aj aI) (aq.length:Int)).bind fun cn=>(spec_l05Run.l1 kj64 a2 (aq.length:Int) cm aI cn bM.1 bM.2.1 bM.2.2))))=some (r1,r2,r3,r4,r5,r6):=by first | (rw [hy251];with_reducible exact H) | (have H2_:=(Option.bind_some _ _).symm.trans H;rw [hy251];with_reducible exact H2_) | (have H2_:=(Option.bind_some _ _).symm.trans H;with_reducible exact H2_) | with_reducible exact H | (rw [hy251];exact H) | exact H
             have eD:=Aside0.mk hy251
             clear hy251
             replace H:=Option.bind_eq_some_iff.mp H
             obtain⟨⟨bE,bF,bG⟩,A880,H⟩:=H
             replace H:(if(rd aj aI)=(wrap64 (2*(aq.length:Int))) then(some (bE,bF,bG,cm,(-1),true)) else((spec_l05Partner.f (rd aj aI) (aq.length:Int)).bind fun cn=>(spec_l05Run.l1 kj64 a2 (aq.length:Int) cm aI cn bE bF bG)))=some (r1,r2,r3,r4,r5,r6):=H
             have A88:=Aside0.mk A880
             clear A880
             by_cases c89:(rd aj aI)=(wrap64 (2*(aq.length:Int)))
             ·rw [if_pos c89] at H
              have c89b0:((rd aj aI)==(wrap64 (2*(aq.length:Int))))=true:=beq_iff_eq.mpr c89
              have c89b1:((rd aj aI) !=(wrap64 (2*(aq.length:Int))))=false:=bne_eq_false_iff_eq.mpr c89
              clear c89
              simp only [Option.some.injEq,Prod.mk.injEq] at H
              obtain⟨rfl,rfl,rfl,rfl,rfl,rfl⟩:=H
              have kZ:=az.out
              have ld:=av.out
              have lf:=aG.out
              have lg:=ax.out
              have jy:wc.cell? ⟨aa,0,none⟩=some (a9):=(blk_cell ae.out 0).trans rfl
              have jz:wc.cell? ⟨aa,1,none⟩=some (.int .i64 ay):=(blk_cell ae.out 1).trans rfl
              have jA:wc.cell? ⟨aa,2,none⟩=some (bz):=(blk_cell ae.out 2).trans rfl
              have jB:=blk_frozen ae.out 0
              have jC:=blk_frozen ae.out 1
              have jD:=blk_frozen ae.out 2
              obtain⟨lp,cK,gN⟩:=Kd.R_slice ag.out
              subst gN
              have p247:0≤(aI:Int):=od_
              have q247:aI < (aj.length:Int):=od_
              obtain⟨bB,e247,hx247_0⟩:=Kd.at_int (Kd.R_reads' ag.out).2.2 aI p247 q247
              cases e247
              replace p247:=eq_true p247
              replace q247:=eq_true q247
              go_wp2_with (first | ((with_reducible refine gate_dst (N:=84) rfl ?_);refine Kd.R_lit (Kd.int .i64) _ 2 ?hg (N:=84) ?hd (xs:=([ba,rd aj aI]:List Int)) (inner:= [.int .i64 ba, .int .i64 (rd aj aI)]) (ok:=fun _=>True) (okp:=fun _=>True) ?hr ?hp (fun _ hk=>hk) trivial (Below.refl _ _) (Nat.le_refl _) (by simp) ?_;(case hd=>rfl);(case hg=>rfl);(case hr=>first | (go_simp;done) | (go_simp;rfl));(case hp=>exact(Reps.one (show Kd.M (Kd.int .i64) _ _ _ ba [.int .i64 ba] from rfl) (Reps.one (show Kd.M (Kd.int .i64) _ _ _ (rd aj aI) [.int .i64 (rd aj aI)] from rfl) (Reps.none _ _))));intro gO w94 cD hb hg_ hnew_;clear hg_ hnew_;(first | rw [← db.out] at cD | (simp only [Int.reduceToNat] at cD;rw [← db.out] at cD));replace aH:=Aside0.mk (Kd.S_elder' (so_ aH.out) (Kd.R_base cD) hb);replace ah:=Aside0.mk (Kd.S_elder' (so_ ah.out) (Kd.R_base cD) hb);have bQ:=Aside0.mk (Kd.R_lower (Kd.R_new' cD (Kd.R_lt (ro_ ag.out))) bz_);replace af:=Aside0.mk (bb_ af.out hb);replace ai:=Aside0.mk (bb_ ai.out hb);replace ae:=Aside0.mk (bb_ ae.out hb);replace ag:=Aside0.mk (Kd.R_elder' (ro_ ag.out) (Kd.R_base cD) hb);replace HB:=Aside0.mk (bs_ hb);clear hb cD;obtain⟨dW,dX,gP⟩:=Kd.R_slice bQ.out;subst gP) | ((with_reducible refine gate_builtin (b:= .append) (xs:= #[.tmp 81, .tmp 85]) rfl ?_);at_builtin;refine Kd.S_append (Kd.slice 2 (Kd.int .i64)) (w0:=w) w.heap.size rfl (.tmp 81) (.tmp 85) 22 23 (.slice none 0 0) 24 rfl Try.underlying22 info23 rfl (by decide) (by omega) (.slice ct bg.length cz) bg bW [.slice dW bW.length dX] (fun k_=>some k_≠(a9:Value).ownBlock∧some k_≠(.slice (some bB) aj.length cK:Value).ownBlock) (fun k_=>some k_=(.slice dW bW.length dX:Value).ownBlock) rfl rfl ?aP (fun k_ hk_=>((Kd.R_mono (ok':=fun k_=>((fun k_=>some k_≠(a9:Value).ownBlock∧some k_≠(.slice (some bB) aj.length cK:Value).ownBlock)) k_∧some k_≠(.slice ct bg.length cz:Value).ownBlock) (Kd.R_apart' (Kd.R_apart' (bQ.out) (Kd.S_typed ah.out) (by decide)) (Kd.S_typed aH.out) (by decide)) (fun k_ hk=>⟨⟨hk.1.2,hk.1.1.2⟩,hk.2⟩))).1 k_ hk_.symm) ?aF ?aO ?aB ?aS ?aL ?_;(case aP=>exact Kd.M_row (Kd.R_mono (Kd.R_tight rfl (Kd.R_mono (ok':=fun k_=>((fun k_=>some k_≠(a9:Value).ownBlock∧some k_≠(.slice (some bB) aj.length cK:Value).ownBlock)) k_∧some k_≠(.slice ct bg.length cz:Value).ownBlock) (Kd.R_apart' (Kd.R_apart' (bQ.out) (Kd.S_typed ah.out) (by decide)) (Kd.S_typed aH.out) (by decide)) (fun k_ hk=>⟨⟨hk.1.2,hk.1.1.2⟩,hk.2⟩))) (fun _ h_=>h_)));(case aB=>exact hb_);(case aF=>exact(fun k_ hk=>⟨Kd.fresh' (Kd.S_lt (so_ ah.out)) k_ hk,Kd.fresh' (Kd.R_lt (ro_ ag.out)) k_ hk⟩));(case aO=>exact(by(with_reducible repeat (first | apply Kd.S_alloc | apply Kd.S_drewN | apply Kd.S_drew));exact Kd.S_mono aH.out (fun k_ hk=>⟨⟨hk.1.1,hk.1.2⟩,fun e_=>hk.2 e_⟩)));(case aS=>exact bz_);(case aL=>have:=eC.out;omega);intro gQ w96 ho hb hg hat;rw [← eD.out] at ho;replace ah:=Aside0.mk (Kd.S_after (ok:=(fun k_=>some k_≠(.slice (some bB) aj.length cK:Value).ownBlock∧some k_≠(.slice dW bW.length dX:Value).ownBlock)) (by(with_reducible repeat (first | apply Kd.S_alloc | apply Kd.S_drewN | apply Kd.S_drew));exact Kd.S_mono ah.out (fun _ hk=>⟨⟨hk.1.2,hk.2⟩,hk.1.1⟩)) hg hat);replace ag:=Aside0.mk (Kd.R_over' (ro_ ag.out) (Kd.S_typed (so_ aH.out)) (by decide) hg);replace af:=Aside0.mk (bg_ af.out hg (Kd.S_ne aH.out af.out (by decide)));replace ai:=Aside0.mk (bg_ ai.out hg (Kd.S_ne aH.out ai.out (by decide)));replace ae:=Aside0.mk (bg_ ae.out hg (Kd.S_ne aH.out ae.out (by decide)));replace HB:=Aside0.mk (hb);have bS:=Aside0.mk (ho);clear aH bQ ho hb hg hat;have jE:w96.cell? ⟨aa,0,none⟩=some (a9):=(blk_cell ae.out 0).trans rfl;have jF:w96.cell? ⟨aa,1,none⟩=some (.int .i64 ay):=(blk_cell ae.out 1).trans rfl;have jG:w96.cell? ⟨aa,2,none⟩=some (.slice (some bB) aj.length cK):=(blk_cell ae.out 2).trans rfl;have jH:=blk_frozen ae.out 0;have jI:=blk_frozen ae.out 1;have jJ:=blk_frozen ae.out 2;obtain⟨fZ,f7,gS⟩:=Kd.S_slice ah.out;subst gS) | ((with_reducible refine gate_callee (f:=157) rfl ?_);refine gL_ 90 Try.func157 #[.agg #[.slice fZ aD.length f7, .int .i64 ay, .slice (some bB) aj.length cK], .int .i64 aI, .int .i64 ba] ?_;(with_reducible refine(spec_l05Pivot.calls _ _ aD ay _ _ aj aI ba bE bF bG _ ?bh ?bi ?bk ?bn A88.out).mono ?_);(case bh=>repeat (first | exact(Kd.S_reads' ah.out).2.2 | (with_reducible refine Kd.C_alloc ?_ _) | (with_reducible refine Kd.C_drewN ?_ _) | (with_reducible refine Kd.C_drew ?_)));(case bi=>exact(Kd.S_reads' ah.out).2.1);(case bk=>repeat (first | exact(Kd.R_reads' ag.out).2.2 | (with_reducible refine Kd.C_alloc ?_ _) | (with_reducible refine Kd.C_drewN ?_ _) | (with_reducible refine Kd.C_drew ?_)));(case bn=>exact(Kd.R_reads' ag.out).2.1);rintro e w100 ⟨gT,gU,rfl,ho0,ho1,hb⟩;refine⟨_,rfl,?_⟩;have cN:=Aside0.mk (Kd.S_lower (Kd.S_new' (Kd.S_new' (Kd.S_new' ho0 (Kd.S_lt (so_ ah.out))) (Kd.R_lt (ro_ ag.out))) (Kd.S_lt (so_ bS.out))) bz_);have cO:=Aside0.mk (Kd.R_lower (Kd.R_new' ho1 (Kd.R_lt (ro_ ag.out))) bz_);replace af:=Aside0.mk (bb_ af.out hb);replace ai:=Aside0.mk (bb_ ai.out hb);replace ae:=Aside0.mk (bb_ ae.out hb);replace ah:=Aside0.mk (Kd.S_mono (Kd.S_told (Kd.S_told (Kd.S_old (so_ ah.out) hb) (Kd.S_base ho0)) (Kd.R_base ho1)) (fun _ h_=>h_.1));replace ag:=Aside0.mk (Kd.R_elder' (ro_ ag.out) (Kd.R_base ho1) hb);replace bS:=Aside0.mk (Kd.S_mono (Kd.S_told (Kd.S_told (Kd.S_old (so_ bS.out) hb) (Kd.S_base ho0)) (Kd.R_base ho1)) (fun _ h_=>h_.1));replace HB:=Aside0.mk (bs_ hb);(try clear hb);(try clear hb2);(try clear hk);(try clear hi);(try clear ho0);(try clear ho1);obtain⟨bT,bU,f9⟩:=Kd.S_slice cN.out;subst f9;have gV:w100.cell? ⟨aa,0,none⟩=some (.slice fZ aD.length f7):=(blk_cell ae.out 0).trans rfl;have gW:w100.cell? ⟨aa,1,none⟩=some (.int .i64 ay):=(blk_cell ae.out 1).trans rfl;have gX:w100.cell? ⟨aa,2,none⟩=some (.slice (some bB) aj.length cK):=(blk_cell ae.out 2).trans rfl;have gY:=blk_frozen ae.out 0;have gZ:=blk_frozen ae.out 1;have ia:=blk_frozen ae.out 2;obtain⟨co,cq,gh⟩:=Kd.R_slice cO.out;subst gh;have jN:=bD.out;have jO:=bC.out;have ib:w100.cell? ⟨ak,0,none⟩=some (.slice none 0 0):=(blk_cell ai.out 0).trans rfl;have ic:w100.cell? ⟨ak,1,none⟩=some (.int .i64 bL):=(blk_cell ai.out 1).trans rfl;have ig:w100.cell? ⟨ak,2,none⟩=some (.slice none 0 0):=(blk_cell ai.out 2).trans rfl;have ij:=blk_frozen ai.out 0;have ik:=blk_frozen ai.out 1;have il:=blk_frozen ai.out 2))
              refine bodyPost_ret (results_list (rs:= [.cell 6 100, .tmp 7, .tmp 8, .tmp 9]) rfl (by simp) (.cell ak 100 #[.slice bT bE.length bU, .int .i64 bF, .slice co bG.length cq] (0,0) _ rfl (by(with_reducible repeat (first | refine blk_drewN ?_ _ | refine blk_drew ?_ | refine blk_alloc ?_ _));refine blk_put (cs:= #[.slice bT bE.length bU, .int .i64 bF, .slice none 0 0]) ?_ 2 _ rfl;(with_reducible repeat (first | refine blk_drewN ?_ _ | refine blk_drew ?_ | refine blk_alloc ?_ _));refine blk_put (cs:= #[.slice bT bE.length bU, .int .i64 bL, .slice none 0 0]) ?_ 1 _ rfl;(with_reducible repeat (first | refine blk_drewN ?_ _ | refine blk_drew ?_ | refine blk_alloc ?_ _));refine blk_put (cs:= #[.slice none 0 0, .int .i64 bL, .slice none 0 0]) ?_ 0 _ rfl;(with_reducible repeat (first | refine blk_drewN ?_ _ | refine blk_drew ?_ | refine blk_alloc ?_ _));refine blk_far ?_ ax.out _;(with_reducible repeat (first | refine blk_drewN ?_ _ | refine blk_drew ?_ | refine blk_alloc ?_ _));refine blk_far ?_ ax.out _;(with_reducible repeat (first | refine blk_drewN ?_ _ | refine blk_drew ?_ | refine blk_alloc ?_ _));refine blk_far ?_ ax.out _;(with_reducible repeat (first | refine blk_drewN ?_ _ | refine blk_drew ?_ | refine blk_alloc ?_ _));exact ai.out) Try.underlying100 rfl (by kernel_rfl) (.tmp (.tmp (.tmp .nil))))) rfl ?_
              exact⟨_,_,_,by first | rfl | (simp [errW_none,errW_some] <;> rfl) | (simp [*,errW_none,errW_some] <;> rfl),by(with_reducible repeat (first | apply Kd.S_alloc | apply Kd.S_drewN | apply Kd.S_drew));exact Kd.S_mono (Kd.S_far (p:=⟨ak,2,none⟩) (Kd.S_far (p:=⟨ak,1,none⟩) (Kd.S_far (p:=⟨ak,0,none⟩) (Kd.S_far (p:=⟨aa,2,none⟩) (Kd.S_far (p:=⟨aa,1,none⟩) (Kd.S_far (p:=⟨aa,0,none⟩) (Kd.S_types (Kd.S_types cN.out ae.out (by decide)) ai.out (by decide)) (fun _ hk=>hk.1.2) (.slice bT bE.length bU)) (fun _ hk=>hk.1.2) (.int .i64 bF)) (fun _ hk=>hk.1.2) (.slice co bG.length cq)) (fun _ hk=>hk.2) (.slice bT bE.length bU)) (fun _ hk=>hk.2) (.int .i64 bF)) (fun _ hk=>hk.2) (.slice co bG.length cq)) (fun _ hk=>⟨hk.1.1.1.1.1,hk.1.1.2⟩),by(with_reducible repeat (first | apply Kd.R_alloc | apply Kd.R_drewN | apply Kd.R_drew));exact Kd.R_mono (Kd.R_far (p:=⟨ak,2,none⟩) (Kd.R_far (p:=⟨ak,1,none⟩) (Kd.R_far (p:=⟨ak,0,none⟩) (Kd.R_far (p:=⟨aa,2,none⟩) (Kd.R_far (p:=⟨aa,1,none⟩) (Kd.R_far (p:=⟨aa,0,none⟩) (Kd.R_types (Kd.R_types cO.out ae.out (by decide)) ai.out (by decide)) (fun _ hk=>hk.1.2) (.slice bT bE.length bU)) (fun _ hk=>hk.1.2) (.int .i64 bF)) (fun _ hk=>hk.1.2) (.slice co bG.length cq)) (fun _ hk=>hk.2) (.slice bT bE.length bU)) (fun _ hk=>hk.2) (.int .i64 bF)) (fun _ hk=>hk.2) (.slice co bG.length cq)) (fun _ hk=>trivial),by(with_reducible repeat (first | apply Kd.S_alloc | apply Kd.S_drewN | apply Kd.S_drew));exact Kd.S_mono (Kd.S_far (p:=⟨ak,2,none⟩) (Kd.S_far (p:=⟨ak,1,none⟩) (Kd.S_far (p:=⟨ak,0,none⟩) (Kd.S_far (p:=⟨aa,2,none⟩) (Kd.S_far (p:=⟨aa,1,none⟩) (Kd.S_far (p:=⟨aa,0,none⟩) (Kd.S_types (Kd.S_types bS.out ae.out (by decide)) ai.out (by decide)) (fun _ hk=>hk.1.2) (.slice bT bE.length bU)) (fun _ hk=>hk.1.2) (.int .i64 bF)) (fun _ hk=>hk.1.2) (.slice co bG.length cq)) (fun _ hk=>hk.2) (.slice bT bE.length bU)) (fun _ hk=>hk.2) (.int .i64 bF)) (fun _ hk=>hk.2) (.slice co bG.length cq)) (fun _ hk=>⟨hk.1.1.1.2,hk.1.1.2⟩),hb_⟩
             ·rw [if_neg c89] at H
              have c89b0:((rd aj aI)==(wrap64 (2*(aq.length:Int))))=false:=beq_eq_false_iff_ne.mpr c89
              have c89b1:((rd aj aI) !=(wrap64 (2*(aq.length:Int))))=true:=bne_iff_ne.mpr c89
              replace H:=Option.bind_eq_some_iff.mp H
              obtain⟨cn,A1060,H⟩:=H
              replace H:(spec_l05Run.l1 kj64 a2 (aq.length:Int) cm aI cn bE bF bG)=some (r1,r2,r3,r4,r5,r6):=H
              have A106:=Aside0.mk A1060
              clear A1060
              have H':=Aside0.mk H
              clear H
              have jP:=az.out
              have jQ:=av.out
              have jR:=aG.out
              have jS:=ax.out
              have iq:wc.cell? ⟨aa,0,none⟩=some (a9):=(blk_cell ae.out 0).trans rfl
              have iw:wc.cell? ⟨aa,1,none⟩=some (.int .i64 ay):=(blk_cell ae.out 1).trans rfl
              have iy:wc.cell? ⟨aa,2,none⟩=some (bz):=(blk_cell ae.out 2).trans rfl
              have iz:=blk_frozen ae.out 0
              have iA:=blk_frozen ae.out 1
              have iB:=blk_frozen ae.out 2
              obtain⟨lh,bO,gi⟩:=Kd.R_slice ag.out
              subst gi
              have p247:0≤(aI:Int):=od_
              have q247:aI < (aj.length:Int):=od_
              obtain⟨bB,e247,hx247_0⟩:=Kd.at_int (Kd.R_reads' ag.out).2.2 aI p247 q247
              cases e247
              replace p247:=eq_true p247
              replace q247:=eq_true q247
              go_wp2_with (first | ((with_reducible refine gate_dst (N:=84) rfl ?_);refine Kd.R_lit (Kd.int .i64) _ 2 ?hg (N:=84) ?hd (xs:=([ba,rd aj aI]:List Int)) (inner:= [.int .i64 ba, .int .i64 (rd aj aI)]) (ok:=fun _=>True) (okp:=fun _=>True) ?hr ?hp (fun _ hk=>hk) trivial (Below.refl _ _) (Nat.le_refl _) (by simp) ?_;(case hd=>rfl);(case hg=>rfl);(case hr=>first | (go_simp;done) | (go_simp;rfl));(case hp=>exact(Reps.one (show Kd.M (Kd.int .i64) _ _ _ ba [.int .i64 ba] from rfl) (Reps.one (show Kd.M (Kd.int .i64) _ _ _ (rd aj aI) [.int .i64 (rd aj aI)] from rfl) (Reps.none _ _))));intro gO w111 bV hb hg_ hnew_;clear hg_ hnew_;(first | rw [← db.out] at bV | (simp only [Int.reduceToNat] at bV;rw [← db.out] at bV));replace aH:=Aside0.mk (Kd.S_elder' (so_ aH.out) (Kd.R_base bV) hb);replace ah:=Aside0.mk (Kd.S_elder' (so_ ah.out) (Kd.R_base bV) hb);have bQ:=Aside0.mk (Kd.R_lower (Kd.R_new' bV (Kd.R_lt (ro_ ag.out))) bz_);replace af:=Aside0.mk (bb_ af.out hb);replace ai:=Aside0.mk (bb_ ai.out hb);replace ae:=Aside0.mk (bb_ ae.out hb);replace ag:=Aside0.mk (Kd.R_elder' (ro_ ag.out) (Kd.R_base bV) hb);replace HB:=Aside0.mk (bs_ hb);clear hb bV;obtain⟨dP,dQ,gj⟩:=Kd.R_slice bQ.out;subst gj) | ((with_reducible refine gate_builtin (b:= .append) (xs:= #[.tmp 81, .tmp 85]) rfl ?_);at_builtin;refine Kd.S_append (Kd.slice 2 (Kd.int .i64)) (w0:=w) w.heap.size rfl (.tmp 81) (.tmp 85) 22 23 (.slice none 0 0) 24 rfl Try.underlying22 info23 rfl (by decide) (by omega) (.slice ct bg.length cz) bg bW [.slice dP bW.length dQ] (fun k_=>some k_≠(a9:Value).ownBlock∧some k_≠(.slice (some bB) aj.length bO:Value).ownBlock) (fun k_=>some k_=(.slice dP bW.length dQ:Value).ownBlock) rfl rfl ?aP (fun k_ hk_=>((Kd.R_mono (ok':=fun k_=>((fun k_=>some k_≠(a9:Value).ownBlock∧some k_≠(.slice (some bB) aj.length bO:Value).ownBlock)) k_∧some k_≠(.slice ct bg.length cz:Value).ownBlock) (Kd.R_apart' (Kd.R_apart' (bQ.out) (Kd.S_typed ah.out) (by decide)) (Kd.S_typed aH.out) (by decide)) (fun k_ hk=>⟨⟨hk.1.2,hk.1.1.2⟩,hk.2⟩))).1 k_ hk_.symm) ?aF ?aO ?aB ?aS ?aL ?_;(case aP=>exact Kd.M_row (Kd.R_mono (Kd.R_tight rfl (Kd.R_mono (ok':=fun k_=>((fun k_=>some k_≠(a9:Value).ownBlock∧some k_≠(.slice (some bB) aj.length bO:Value).ownBlock)) k_∧some k_≠(.slice ct bg.length cz:Value).ownBlock) (Kd.R_apart' (Kd.R_apart' (bQ.out) (Kd.S_typed ah.out) (by decide)) (Kd.S_typed aH.out) (by decide)) (fun k_ hk=>⟨⟨hk.1.2,hk.1.1.2⟩,hk.2⟩))) (fun _ h_=>h_)));(case aB=>exact hb_);(case aF=>exact(fun k_ hk=>⟨Kd.fresh' (Kd.S_lt (so_ ah.out)) k_ hk,Kd.fresh' (Kd.R_lt (ro_ ag.out)) k_ hk⟩));(case aO=>exact(by(with_reducible repeat (first | apply Kd.S_alloc | apply Kd.S_drewN | apply Kd.S_drew));exact Kd.S_mono aH.out (fun k_ hk=>⟨⟨hk.1.1,hk.1.2⟩,fun e_=>hk.2 e_⟩)));(case aS=>exact bz_);(case aL=>have:=eC.out;omega);intro gQ w113 ho hb hg hat;rw [← eD.out] at ho;replace ah:=Aside0.mk (Kd.S_after (ok:=(fun k_=>some k_≠(.slice (some bB) aj.length bO:Value).ownBlock∧some k_≠(.slice dP bW.length dQ:Value).ownBlock)) (by(with_reducible repeat (first | apply Kd.S_alloc | apply Kd.S_drewN | apply Kd.S_drew));exact Kd.S_mono ah.out (fun _ hk=>⟨⟨hk.1.2,hk.2⟩,hk.1.1⟩)) hg hat);replace ag:=Aside0.mk (Kd.R_over' (ro_ ag.out) (Kd.S_typed (so_ aH.out)) (by decide) hg);replace af:=Aside0.mk (bg_ af.out hg (Kd.S_ne aH.out af.out (by decide)));replace ai:=Aside0.mk (bg_ ai.out hg (Kd.S_ne aH.out ai.out (by decide)));replace ae:=Aside0.mk (bg_ ae.out hg (Kd.S_ne aH.out ae.out (by decide)));replace HB:=Aside0.mk (hb);have bS:=Aside0.mk (ho);clear aH bQ ho hb hg hat;have iC:w113.cell? ⟨aa,0,none⟩=some (a9):=(blk_cell ae.out 0).trans rfl;have iD:w113.cell? ⟨aa,1,none⟩=some (.int .i64 ay):=(blk_cell ae.out 1).trans rfl;have iE:w113.cell? ⟨aa,2,none⟩=some (.slice (some bB) aj.length bO):=(blk_cell ae.out 2).trans rfl;have iF:=blk_frozen ae.out 0;have iG:=blk_frozen ae.out 1;have iH:=blk_frozen ae.out 2;obtain⟨dR,dS,gm⟩:=Kd.S_slice ah.out;subst gm) | ((with_reducible refine gate_callee (f:=157) rfl ?_);refine gL_ 90 Try.func157 #[.agg #[.slice dR aD.length dS, .int .i64 ay, .slice (some bB) aj.length bO], .int .i64 aI, .int .i64 ba] ?_;(with_reducible refine(spec_l05Pivot.calls _ _ aD ay _ _ aj aI ba bE bF bG _ ?bh ?bi ?bk ?bn A88.out).mono ?_);(case bh=>repeat (first | exact(Kd.S_reads' ah.out).2.2 | (with_reducible refine Kd.C_alloc ?_ _) | (with_reducible refine Kd.C_drewN ?_ _) | (with_reducible refine Kd.C_drew ?_)));(case bi=>exact(Kd.S_reads' ah.out).2.1);(case bk=>repeat (first | exact(Kd.R_reads' ag.out).2.2 | (with_reducible refine Kd.C_alloc ?_ _) | (with_reducible refine Kd.C_drewN ?_ _) | (with_reducible refine Kd.C_drew ?_)));(case bn=>exact(Kd.R_reads' ag.out).2.1);rintro e w117 ⟨gT,gU,rfl,ho0,ho1,hb⟩;refine⟨_,rfl,?_⟩;have cN:=Aside0.mk (Kd.S_lower (Kd.S_new' (Kd.S_new' (Kd.S_new' ho0 (Kd.S_lt (so_ ah.out))) (Kd.R_lt (ro_ ag.out))) (Kd.S_lt (so_ bS.out))) bz_);have cO:=Aside0.mk (Kd.R_lower (Kd.R_new' ho1 (Kd.R_lt (ro_ ag.out))) bz_);replace af:=Aside0.mk (bb_ af.out hb);replace ai:=Aside0.mk (bb_ ai.out hb);replace ae:=Aside0.mk (bb_ ae.out hb);replace ah:=Aside0.mk (Kd.S_mono (Kd.S_told (Kd.S_told (Kd.S_old (so_ ah.out) hb) (Kd.S_base ho0)) (Kd.R_base ho1)) (fun _ h_=>h_.1));replace ag:=Aside0.mk (Kd.R_elder' (ro_ ag.out) (Kd.R_base ho1) hb);replace bS:=Aside0.mk (Kd.S_mono (Kd.S_told (Kd.S_told (Kd.S_old (so_ bS.out) hb) (Kd.S_base ho0)) (Kd.R_base ho1)) (fun _ h_=>h_.1));replace HB:=Aside0.mk (bs_ hb);(try clear hb);(try clear hb2);(try clear hk);(try clear hi);(try clear ho0);(try clear ho1);obtain⟨cE,cF,gp⟩:=Kd.S_slice cN.out;subst gp;have iI:w117.cell? ⟨aa,0,none⟩=some (.slice dR aD.length dS):=(blk_cell ae.out 0).trans rfl;have iJ:w117.cell? ⟨aa,1,none⟩=some (.int .i64 ay):=(blk_cell ae.out 1).trans rfl;have iK:w117.cell? ⟨aa,2,none⟩=some (.slice (some bB) aj.length bO):=(blk_cell ae.out 2).trans rfl;have iL:=blk_frozen ae.out 0;have iM:=blk_frozen ae.out 1;have iN:=blk_frozen ae.out 2;obtain⟨dc,df,gq⟩:=Kd.R_slice cO.out;subst gq) | ((with_reducible refine gate_callee (f:=158) rfl ?_);refine gL_ 99 Try.func158 #[.int .i64 (rd aj aI), .int .i64 (aq.length:Int)] ?_;(with_reducible refine(spec_l05Partner.calls (rd aj aI) (aq.length:Int) cn _ A106.out).mono ?_);rintro e w' ⟨rfl,⟨nd,rfl⟩⟩;refine⟨_,rfl,?_⟩))
              go_roundg kj64
              case measure=>have:=HK1.out;have:=HK2.out;have:=HJ64.out;omega
              case rel=>exact⟨(cm),(aI),(cn),(bL),(bE),(bF),(bG),(.slice cE bE.length cF),(.slice dc bG.length df),rs_,rs_,H',⟨by have:=HK1.out;have:=HK2.out;have:=HJ64.out;omega⟩,⟨by(with_reducible repeat (first | apply Kd.S_alloc | apply Kd.S_drewN | apply Kd.S_drew));exact Kd.S_mono (Kd.S_far (p:=⟨aa,2,none⟩) (Kd.S_far (p:=⟨aa,1,none⟩) (Kd.S_far (p:=⟨aa,0,none⟩) (Kd.S_types bS.out ae.out (by decide)) (fun _ hk=>hk.2) (.slice cE bE.length cF)) (fun _ hk=>hk.2) (.int .i64 bF)) (fun _ hk=>hk.2) (.slice dc bG.length df)) (fun _ hk=>⟨hk.1.1.2,hk.1.2⟩)⟩,⟨by(with_reducible repeat (first | apply Kd.S_alloc | apply Kd.S_drewN | apply Kd.S_drew));exact Kd.S_mono (Kd.S_far (p:=⟨aa,2,none⟩) (Kd.S_far (p:=⟨aa,1,none⟩) (Kd.S_far (p:=⟨aa,0,none⟩) (Kd.S_types cN.out ae.out (by decide)) (fun _ hk=>hk.2) (.slice cE bE.length cF)) (fun _ hk=>hk.2) (.int .i64 bF)) (fun _ hk=>hk.2) (.slice dc bG.length df)) (fun _ hk=>⟨hk.1.2,hk.1.1.1.1⟩)⟩,⟨by(with_reducible repeat (first | apply Kd.R_alloc | apply Kd.R_drewN | apply Kd.R_drew));exact Kd.R_mono (Kd.R_far (p:=⟨aa,2,none⟩) (Kd.R_far (p:=⟨aa,1,none⟩) (Kd.R_far (p:=⟨aa,0,none⟩) (Kd.R_types cO.out ae.out (by decide)) (fun _ hk=>hk.2) (.slice cE bE.length cF)) (fun _ hk=>hk.2) (.int .i64 bF)) (fun _ hk=>hk.2) (.slice dc bG.length df)) (fun _ hk=>trivial)⟩,⟨by(with_reducible repeat (first | refine blk_drewN ?_ _ | refine blk_drew ?_ | refine blk_alloc ?_ _));refine blk_far ?_ av.out _;(with_reducible repeat (first | refine blk_drewN ?_ _ | refine blk_drew ?_ | refine blk_alloc ?_ _));refine blk_far ?_ av.out _;(with_reducible repeat (first | refine blk_drewN ?_ _ | refine blk_drew ?_ | refine blk_alloc ?_ _));refine blk_far ?_ av.out _;(with_reducible repeat (first | refine blk_drewN ?_ _ | refine blk_drew ?_ | refine blk_alloc ?_ _));exact af.out⟩,⟨by(with_reducible repeat (first | refine blk_drewN ?_ _ | refine blk_drew ?_ | refine blk_alloc ?_ _));refine blk_far ?_ ax.out _;(with_reducible repeat (first | refine blk_drewN ?_ _ | refine blk_drew ?_ | refine blk_alloc ?_ _));refine blk_far ?_ ax.out _;(with_reducible repeat (first | refine blk_drewN ?_ _ | refine blk_drew ?_ | refine blk_alloc ?_ _));refine blk_far ?_ ax.out _;(with_reducible repeat (first | refine blk_drewN ?_ _ | refine blk_drew ?_ | refine blk_alloc ?_ _));exact ai.out⟩,⟨by(with_reducible repeat (first | refine blk_drewN ?_ _ | refine blk_drew ?_ | refine blk_alloc ?_ _));refine blk_put (cs:= #[.slice cE bE.length cF, .int .i64 bF, .slice (some bB) aj.length bO]) ?_ 2 _ rfl;(with_reducible repeat (first | refine blk_drewN ?_ _ | refine blk_drew ?_ | refine blk_alloc ?_ _));refine blk_put (cs:= #[.slice cE bE.length cF, .int .i64 ay, .slice (some bB) aj.length bO]) ?_ 1 _ rfl;(with_reducible repeat (first | refine blk_drewN ?_ _ | refine blk_drew ?_ | refine blk_alloc ?_ _));refine blk_put (cs:= #[.slice dR aD.length dS, .int .i64 ay, .slice (some bB) aj.length bO]) ?_ 0 _ rfl;(with_reducible repeat (first | refine blk_drewN ?_ _ | refine blk_drew ?_ | refine blk_alloc ?_ _));exact ae.out⟩,⟨hb_⟩⟩
            ·rw [if_neg c87] at H
             exact absurd H (by simp)
           ·rw [if_neg c86] at H
            exact absurd H (by simp)
          ·rw [if_neg c85] at H
           exact absurd H (by simp)
       ·rw [if_neg c64] at H
        have c64b0:decide ((bg.length:Int) < a2)=false:=decide_eq_false c64
        clear c64
        simp only [Option.some.injEq,Prod.mk.injEq] at H
        obtain⟨rfl,rfl,rfl,rfl,rfl,rfl⟩:=H
        obtain⟨ll,lm,gx⟩:=Kd.S_slice aH.out
        subst gx
        have jT:=az.out
        have jU:=av.out
        have jV:=aG.out
        have jW:=ax.out
        have iO:wr.cell? ⟨aa,0,none⟩=some (a9):=(blk_cell ae.out 0).trans rfl
        have iP:wr.cell? ⟨aa,1,none⟩=some (.int .i64 ay):=(blk_cell ae.out 1).trans rfl
        have iQ:wr.cell? ⟨aa,2,none⟩=some (bz):=(blk_cell ae.out 2).trans rfl
        have iR:=blk_frozen ae.out 0
        have iS:=blk_frozen ae.out 1
        have iT:=blk_frozen ae.out 2
        obtain⟨cG,cH,gy⟩:=Kd.S_slice ah.out
        subst gy
        have jX:=bD.out
        have jY:=bC.out
        have iU:wr.cell? ⟨ak,0,none⟩=some (.slice none 0 0):=(blk_cell ai.out 0).trans rfl
        have iV:wr.cell? ⟨ak,1,none⟩=some (.int .i64 bA):=(blk_cell ai.out 1).trans rfl
        have iW:wr.cell? ⟨ak,2,none⟩=some (.slice none 0 0):=(blk_cell ai.out 2).trans rfl
        have iX:=blk_frozen ai.out 0
        have iY:=blk_frozen ai.out 1
        have iZ:=blk_frozen ai.out 2
        obtain⟨dh,di,gz⟩:=Kd.R_slice ag.out
        subst gz
        go_wp2
        refine bodyPost_ret (results_list (rs:= [.cell 6 100, .tmp 7, .tmp 8, .tmp 9]) rfl (by simp) (.cell ak 100 #[.slice cG aD.length cH, .int .i64 ay, .slice dh aj.length di] (0,0) _ rfl (by(with_reducible repeat (first | refine blk_drewN ?_ _ | refine blk_drew ?_ | refine blk_alloc ?_ _));refine blk_put (cs:= #[.slice cG aD.length cH, .int .i64 ay, .slice none 0 0]) ?_ 2 _ rfl;(with_reducible repeat (first | refine blk_drewN ?_ _ | refine blk_drew ?_ | refine blk_alloc ?_ _));refine blk_put (cs:= #[.slice cG aD.length cH, .int .i64 bA, .slice none 0 0]) ?_ 1 _ rfl;(with_reducible repeat (first | refine blk_drewN ?_ _ | refine blk_drew ?_ | refine blk_alloc ?_ _));refine blk_put (cs:= #[.slice none 0 0, .int .i64 bA, .slice none 0 0]) ?_ 0 _ rfl;(with_reducible repeat (first | refine blk_drewN ?_ _ | refine blk_drew ?_ | refine blk_alloc ?_ _));exact ai.out) Try.underlying100 rfl (by kernel_rfl) (.tmp (.tmp (.tmp .nil))))) rfl ?_
        exact⟨_,_,_,by first | rfl | (simp [errW_none,errW_some] <;> rfl) | (simp [*,errW_none,errW_some] <;> rfl),by(with_reducible repeat (first | apply Kd.S_alloc | apply Kd.S_drewN | apply Kd.S_drew));exact Kd.S_mono (Kd.S_far (p:=⟨ak,2,none⟩) (Kd.S_far (p:=⟨ak,1,none⟩) (Kd.S_far (p:=⟨ak,0,none⟩) (Kd.S_types ah.out ai.out (by decide)) (fun _ hk=>hk.2) (.slice cG aD.length cH)) (fun _ hk=>hk.2) (.int .i64 ay)) (fun _ hk=>hk.2) (.slice dh aj.length di)) (fun _ hk=>⟨hk.1.2,hk.1.1⟩),by(with_reducible repeat (first | apply Kd.R_alloc | apply Kd.R_drewN | apply Kd.R_drew));exact Kd.R_mono (Kd.R_far (p:=⟨ak,2,none⟩) (Kd.R_far (p:=⟨ak,1,none⟩) (Kd.R_far (p:=⟨ak,0,none⟩) (Kd.R_types ag.out ai.out (by decide)) (fun _ hk=>hk.2) (.slice cG aD.length cH)) (fun _ hk=>hk.2) (.int .i64 ay)) (fun _ hk=>hk.2) (.slice dh aj.length di)) (fun _ hk=>trivial),by(with_reducible repeat (first | apply Kd.S_alloc | apply Kd.S_drewN | apply Kd.S_drew));exact Kd.S_mono (Kd.S_far (p:=⟨ak,2,none⟩) (Kd.S_far (p:=⟨ak,1,none⟩) (Kd.S_far (p:=⟨ak,0,none⟩) (Kd.S_types aH.out ai.out (by decide)) (fun _ hk=>hk.2) (.slice cG aD.length cH)) (fun _ hk=>hk.2) (.int .i64 ay)) (fun _ hk=>hk.2) (.slice dh aj.length di)) (fun _ hk=>⟨hk.1.1,hk.1.2⟩),hb_⟩
    ·replace c60:=Bool.eq_false_iff.mpr c60
     subst c60
     have H1:(some (aJ,aK,aM,bu,(-1),true))=some (r1,r2,r3,r4,r5,r6):=by rw [if_neg (show ¬ (false=true) by decide)] at H;exact H
     clear H
     have H:=H1
     clear H1
     simp only [Option.some.injEq,Prod.mk.injEq] at H
     obtain⟨rfl,rfl,rfl,rfl,rfl,rfl⟩:=H
     have jZ:=bC.out
     have j3:=bD.out
     have j4:=av.out
     have j5:=az.out
     have i9:wr.cell? ⟨au,0,none⟩=some (.slice aN aC.length aT):=(blk_cell af.out 0).trans rfl
     have ja:wr.cell? ⟨au,1,none⟩=some (.slice aU aq.length aV):=(blk_cell af.out 1).trans rfl
     have jb:=blk_frozen af.out 0
     have jc:=blk_frozen af.out 1
     have j6:=aG.out
     have j7:=ax.out
     have jd:wr.cell? ⟨aa,0,none⟩=some (bb):=(blk_cell ae.out 0).trans rfl
     have je:wr.cell? ⟨aa,1,none⟩=some (.int .i64 aK):=(blk_cell ae.out 1).trans rfl
     have jf:wr.cell? ⟨aa,2,none⟩=some (aY):=(blk_cell ae.out 2).trans rfl
     have jg:=blk_frozen ae.out 0
     have jh:=blk_frozen ae.out 1
     have ji:=blk_frozen ae.out 2
     obtain⟨cI,cJ,gA⟩:=Kd.S_slice ah.out
     subst gA
     have jk:wr.cell? ⟨ak,0,none⟩=some (.slice none 0 0):=(blk_cell ai.out 0).trans rfl
     have jl:wr.cell? ⟨ak,1,none⟩=some (.int .i64 0):=(blk_cell ai.out 1).trans rfl
     have jm:wr.cell? ⟨ak,2,none⟩=some (.slice none 0 0):=(blk_cell ai.out 2).trans rfl
     have jn:=blk_frozen ai.out 0
     have jo:=blk_frozen ai.out 1
     have jp:=blk_frozen ai.out 2
     obtain⟨dl,dm,gB⟩:=Kd.R_slice ag.out
     subst gB
     go_wp2
     refine bodyPost_ret (results_list (rs:= [.cell 6 100, .tmp 7, .tmp 8, .tmp 9]) rfl (by simp) (.cell ak 100 #[.slice cI aJ.length cJ, .int .i64 aK, .slice dl aM.length dm] (0,0) _ rfl (by(with_reducible repeat (first | refine blk_drewN ?_ _ | refine blk_drew ?_ | refine blk_alloc ?_ _));refine blk_put (cs:= #[.slice cI aJ.length cJ, .int .i64 aK, .slice none 0 0]) ?_ 2 _ rfl;(with_reducible repeat (first | refine blk_drewN ?_ _ | refine blk_drew ?_ | refine blk_alloc ?_ _));refine blk_put (cs:= #[.slice cI aJ.length cJ, .int .i64 0, .slice none 0 0]) ?_ 1 _ rfl;(with_reducible repeat (first | refine blk_drewN ?_ _ | refine blk_drew ?_ | refine blk_alloc ?_ _));refine blk_put (cs:= #[.slice none 0 0, .int .i64 0, .slice none 0 0]) ?_ 0 _ rfl;(with_reducible repeat (first | refine blk_drewN ?_ _ | refine blk_drew ?_ | refine blk_alloc ?_ _));exact ai.out) Try.underlying100 rfl (by kernel_rfl) (.tmp (.tmp (.tmp .nil))))) rfl ?_
     exact⟨_,_,_,by first | rfl | (simp [errW_none,errW_some] <;> rfl) | (simp [*,errW_none,errW_some] <;> rfl),by(with_reducible repeat (first | apply Kd.S_alloc | apply Kd.S_drewN | apply Kd.S_drew));exact Kd.S_mono (Kd.S_far (p:=⟨ak,2,none⟩) (Kd.S_far (p:=⟨ak,1,none⟩) (Kd.S_far (p:=⟨ak,0,none⟩) (Kd.S_types ah.out ai.out (by decide)) (fun _ hk=>hk.2) (.slice cI aJ.length cJ)) (fun _ hk=>hk.2) (.int .i64 aK)) (fun _ hk=>hk.2) (.slice dl aM.length dm)) (fun _ hk=>⟨hk.1.2,hk.1.1⟩),by(with_reducible repeat (first | apply Kd.R_alloc | apply Kd.R_drewN | apply Kd.R_drew));exact Kd.R_mono (Kd.R_far (p:=⟨ak,2,none⟩) (Kd.R_far (p:=⟨ak,1,none⟩) (Kd.R_far (p:=⟨ak,0,none⟩) (Kd.R_types ag.out ai.out (by decide)) (fun _ hk=>hk.2) (.slice cI aJ.length cJ)) (fun _ hk=>hk.2) (.int .i64 aK)) (fun _ hk=>hk.2) (.slice dl aM.length dm)) (fun _ hk=>trivial),by(with_reducible repeat (first | apply Kd.S_alloc | apply Kd.S_drewN | apply Kd.S_drew));exact Kd.S_mono (Kd.S_far (p:=⟨ak,2,none⟩) (Kd.S_far (p:=⟨ak,1,none⟩) (Kd.S_far (p:=⟨ak,0,none⟩) (Kd.S_types aH.out ai.out (by decide)) (fun _ hk=>hk.2) (.slice cI aJ.length cJ)) (fun _ hk=>hk.2) (.int .i64 aK)) (fun _ hk=>hk.2) (.slice dl aM.length dm)) (fun _ hk=>⟨hk.1.1,hk.1.2⟩),hb_⟩
def spec_l01Gcd.l0:Nat→Int→Int→Option (Int)
 | 0,_,_=>none
 | k+1,x0,x1=>if x1=0 then(some (mx x0 (wrap64 (-x0)))) else(spec_l01Gcd.l0 k x1 (Int.tmod x0 x1))
def spec_l01Gcd.f (k:Nat) (a0:Int) (a1:Int):Option (Int):=spec_l01Gcd.l0 k a0 a1
theorem spec_l01Gcd.mono_l: ∀k,(∀y0 y1,LeO (spec_l01Gcd.l0 k y0 y1) (spec_l01Gcd.l0 (k+1) y0 y1))
 | 0=>fun _ _ r h=>by simp [spec_l01Gcd.l0] at h
 | k+1=>by
  have ih0:=spec_l01Gcd.mono_l k
  ·intro y0 y1
   unfold spec_l01Gcd.l0
   repeat' first
   | (with_reducible exact ih0 _ _)
   | (with_reducible exact LeO.refl _)
   | (with_reducible exact LeO.none _)
   | (with_reducible refine LeO.ite ?_ ?_)
   | (with_reducible refine LeO.bind ?_ (fun _=>?_))
   | exact ih0 _ _
   | exact LeO.none _
   | refine LeO.ite ?_ ?_
   | refine LeO.bind ?_ (fun _=>?_)
theorem spec_l01Gcd.mono: ∀a0 a1 k,LeO (spec_l01Gcd.f k a0 a1) (spec_l01Gcd.f (k+1) a0 a1):=by
 intro a0 a1 k
 have ih0:=spec_l01Gcd.mono_l k
 unfold spec_l01Gcd.f
 repeat' first
   | (with_reducible exact ih0 _ _)
   | (with_reducible exact LeO.refl _)
   | (with_reducible exact LeO.none _)
   | (with_reducible refine LeO.ite ?_ ?_)
   | (with_reducible refine LeO.bind ?_ (fun _=>?_))
   | exact ih0 _ _
   | exact LeO.none _
   | refine LeO.ite ?_ ?_
   | refine LeO.bind ?_ (fun _=>?_)
theorem spec_l01Gcd.calls (k:Nat) (a0:Int) (a1:Int) (r:Int) (w:World) (h:spec_l01Gcd.f k a0 a1=some r):
  Calls Try.prog 185 #[.int .i64 a0, .int .i64 a1] w fun e w'=>e= .returned (.int .i64 r)∧Below w.heap.size w w':=by
 have HB:=Aside0.mk (Below.refl w.heap.size w)
 have H:(spec_l01Gcd.l0 k a0 a1)=some r:=h
 clear h
 have H':=Aside0.mk H
 clear H
 go_enter Try.func185,Try.ntmps185
 go_wp2
 go_loopg [0,1] k (fun kq v0 v1 w'=> ∃(aa:Int) (ae:Int),v0= .int .i64 aa∧v1= .int .i64 ae∧Aside0 (spec_l01Gcd.l0 kq aa ae=some r)∧Aside0 (kq≤k)∧Aside0 (Below w.heap.size w w'))
 case atStart=>exact⟨(a0),(a1),rs_,rs_,H',⟨Nat.le_refl _⟩,⟨hb_⟩⟩
 case round=>
  clear H'
  try clear c1
  try clear p2
  obtain⟨aa,ae,rfl,rfl,HA,HK1,HB⟩:=hrel
  cases gk with
  | zero=>exact absurd HA.out (by simp [spec_l01Gcd.l0])
  | succ k1=>
   have H:=HA.out
   clear HA
   simp only [spec_l01Gcd.l0] at H
   by_cases c3:ae=0
   ·rw [if_pos c3] at H
    have c3b0:(ae==0)=true:=beq_iff_eq.mpr c3
    have c3b1:(ae !=0)=false:=bne_eq_false_iff_eq.mpr c3
    clear c3
    obtain⟨ji4,hji4⟩: ∃j_:Int,(mx aa (wrap64 (-aa)))=j_:=⟨_,rfl⟩
    replace H:(some ji4)=some r:=by first | (rw [hji4] at H;exact H) | (simp only [hji4] at H ⊢;exact H)
    have hji4_:(if aa < (wrap64 (-aa)) then(wrap64 (-aa)) else aa)=ji4:=hji4
    obtain rfl:=Option.some.inj H
    go_wp2
    go_ret
    exact⟨by first | rfl | (simp [errW_none,errW_some] <;> rfl) | (simp only [← hji4];first | rfl | (simp [errW_none,errW_some] <;> rfl)) | (simp [*,errW_none,errW_some] <;> rfl),hb_⟩
   ·rw [if_neg c3] at H
    have c3b0:(ae==0)=false:=beq_eq_false_iff_ne.mpr c3
    have c3b1:(ae !=0)=true:=bne_iff_ne.mpr c3
    have H':=Aside0.mk H
    clear H
    go_wp2
    go_roundg k1
    case measure=>have:=HK1.out;omega
    case rel=>exact⟨(ae),(Int.tmod aa ae),rs_,rs_,H',⟨by have:=HK1.out;omega⟩,⟨hb_⟩⟩
def spec_l01IsFrac.f (k:Nat) (a0_0:Int) (a0_1:Int) (a1:Int):Option (Bool):=(spec_l01In.f a0_1 1 a1).bind fun aa=>(if aa=true then((spec_l01In.f a0_0 (wrap64 (-a1)) a1).bind fun ae=>(if ae=true then((spec_l01Gcd.f k a0_0 a0_1).bind fun af=>(some (af==1))) else(some false))) else(some false))
theorem spec_l01IsFrac.mono: ∀a0 a1 a2 k,LeO (spec_l01IsFrac.f k a0 a1 a2) (spec_l01IsFrac.f (k+1) a0 a1 a2):=by
 intro a0 a1 a2 k
 unfold spec_l01IsFrac.f
 repeat' first
   | (with_reducible exact spec_l01Gcd.mono _ _ _)
   | (with_reducible exact LeO.refl _)
   | (with_reducible exact LeO.none _)
   | (with_reducible refine LeO.ite ?_ ?_)
   | (with_reducible refine LeO.bind ?_ (fun _=>?_))
   | exact spec_l01Gcd.mono _ _ _
   | exact LeO.none _
   | refine LeO.ite ?_ ?_
   | refine LeO.bind ?_ (fun _=>?_)
theorem spec_l01IsFrac.calls (k:Nat) (a0_0:Int) (a0_1:Int) (a1:Int) (r:Bool) (w:World) (h:spec_l01IsFrac.f k a0_0 a0_1 a1=some r):
  Calls Try.prog 184 #[.agg #[.int .i64 a0_0, .int .i64 a0_1], .int .i64 a1] w fun e w'=>e= .returned (.bool r)∧Below w.heap.size w w':=by
 have hu93:=Try.underlying93
 have HB:=Aside0.mk (Below.refl w.heap.size w)
 have H:((spec_l01In.f a0_1 1 a1).bind fun ah=>(if ah=true then((spec_l01In.f a0_0 (wrap64 (-a1)) a1).bind fun ag=>(if ag=true then((spec_l01Gcd.f k a0_0 a0_1).bind fun af=>(some (af==1))) else(some false))) else(some false)))=some r:=h
 clear h
 replace H:=Option.bind_eq_some_iff.mp H
 obtain⟨ah,A30,H⟩:=H
 replace H:(if ah=true then((spec_l01In.f a0_0 (wrap64 (-a1)) a1).bind fun ag=>(if ag=true then((spec_l01Gcd.f k a0_0 a0_1).bind fun af=>(some (af==1))) else(some false))) else(some false))=some r:=H
 have A3:=Aside0.mk A30
 clear A30
 by_cases c4:ah=true
 ·subst c4
  have H1:((spec_l01In.f a0_0 (wrap64 (-a1)) a1).bind fun ag=>(if ag=true then((spec_l01Gcd.f k a0_0 a0_1).bind fun af=>(some (af==1))) else(some false)))=some r:=by rw [if_pos rfl] at H;exact H
  clear H
  have H:=H1
  clear H1
  replace H:=Option.bind_eq_some_iff.mp H
  obtain⟨ag,A50,H⟩:=H
  replace H:(if ag=true then((spec_l01Gcd.f k a0_0 a0_1).bind fun af=>(some (af==1))) else(some false))=some r:=H
  have A5:=Aside0.mk A50
  clear A50
  by_cases c6:ag=true
  ·subst c6
   have H1:((spec_l01Gcd.f k a0_0 a0_1).bind fun af=>(some (af==1)))=some r:=by rw [if_pos rfl] at H;exact H
   clear H
   have H:=H1
   clear H1
   replace H:=Option.bind_eq_some_iff.mp H
   obtain⟨af,A70,H⟩:=H
   replace H:(some (af==1))=some r:=H
   have A7:=Aside0.mk A70
   clear A70
   obtain rfl:=Option.some.inj H
   go_enter Try.func184,Try.ntmps184
   go_wp2_with (first | ((with_reducible refine gate_dst (N:=2) rfl ?_);refine box_event ?hg (N:=2) ?hd (cs:= #[.int .i64 a0_0, .int .i64 a0_1]) (t:=93) ?hr ?_;(case hd=>rfl);(case hg=>rfl);(case hr=>first | (go_simp;done) | (go_simp;rfl));intro ae hg w8 hbox hb;have aa:=Aside0.mk (hbox);have ai:=Aside0.mk ((by rw [hg];exact bz_:w.heap.size≤ae));have aj:=Aside0.mk ((by rw [hg];exact bz_:w.heap.size≤ae));replace HB:=Aside0.mk (bs_ hb);clear hb hbox hg;have aA:w8.cell? ⟨ae,0,none⟩=some (.int .i64 a0_0):=(blk_cell aa.out 0).trans rfl;have aC:w8.cell? ⟨ae,1,none⟩=some (.int .i64 a0_1):=(blk_cell aa.out 1).trans rfl;have aD:=blk_frozen aa.out 0;have aG:=blk_frozen aa.out 1) | ((with_reducible refine gate_callee (f:=119) rfl ?_);refine gL_ 8 Try.func119 #[.int .i64 a0_1, .int .i64 1, .int .i64 a1] ?_;(with_reducible refine(spec_l01In.calls a0_1 1 a1 true _ A3.out).mono ?_);rintro e w' ⟨rfl,⟨nd,rfl⟩⟩;refine⟨_,rfl,?_⟩) | (go_at_call 119;(with_reducible refine(spec_l01In.calls a0_0 (wrap64 (-a1)) a1 true _ A5.out).mono ?_);rintro e w' ⟨rfl,⟨nd,rfl⟩⟩) | (go_at_call 185;(with_reducible refine(spec_l01Gcd.calls k a0_0 a0_1 af _ A7.out).mono ?_);rintro e w10 ⟨rfl,hb⟩;replace aa:=Aside0.mk (bb_ aa.out hb);replace HB:=Aside0.mk (bs_ hb);(try clear hb);(try clear hb2);(try clear hk);(try clear hi)))
   go_ret
   exact⟨by first | rfl | (simp [errW_none,errW_some] <;> rfl) | (simp [*,errW_none,errW_some] <;> rfl),hb_⟩
  ·replace c6:=Bool.eq_false_iff.mpr c6
   subst c6
   have H1:(some false)=some r:=by rw [if_neg (show ¬ (false=true) by decide)] at H;exact H
   clear H
   have H:=H1
   clear H1
   obtain rfl:=Option.some.inj H
   go_enter Try.func184,Try.ntmps184
   go_wp2_with (first | ((with_reducible refine gate_dst (N:=2) rfl ?_);refine box_event ?hg (N:=2) ?hd (cs:= #[.int .i64 a0_0, .int .i64 a0_1]) (t:=93) ?hr ?_;(case hd=>rfl);(case hg=>rfl);(case hr=>first | (go_simp;done) | (go_simp;rfl));intro ae hg w11 hbox hb;have aa:=Aside0.mk (hbox);have ai:=Aside0.mk ((by rw [hg];exact bz_:w.heap.size≤ae));have aj:=Aside0.mk ((by rw [hg];exact bz_:w.heap.size≤ae));replace HB:=Aside0.mk (bs_ hb);clear hb hbox hg;have ak:w11.cell? ⟨ae,0,none⟩=some (.int .i64 a0_0):=(blk_cell aa.out 0).trans rfl;have aq:w11.cell? ⟨ae,1,none⟩=some (.int .i64 a0_1):=(blk_cell aa.out 1).trans rfl;have au:=blk_frozen aa.out 0;have av:=blk_frozen aa.out 1) | ((with_reducible refine gate_callee (f:=119) rfl ?_);refine gL_ 8 Try.func119 #[.int .i64 a0_1, .int .i64 1, .int .i64 a1] ?_;(with_reducible refine(spec_l01In.calls a0_1 1 a1 true _ A3.out).mono ?_);rintro e w' ⟨rfl,⟨nd,rfl⟩⟩;refine⟨_,rfl,?_⟩) | (go_at_call 119;(with_reducible refine(spec_l01In.calls a0_0 (wrap64 (-a1)) a1 false _ A5.out).mono ?_);rintro e w' ⟨rfl,⟨nd,rfl⟩⟩))
   go_ret
   exact⟨by first | rfl | (simp [errW_none,errW_some] <;> rfl) | (simp [*,errW_none,errW_some] <;> rfl),hb_⟩
 ·replace c4:=Bool.eq_false_iff.mpr c4
  subst c4
  have H1:(some false)=some r:=by rw [if_neg (show ¬ (false=true) by decide)] at H;exact H
  clear H
  have H:=H1
  clear H1
  obtain rfl:=Option.some.inj H
  go_enter Try.func184,Try.ntmps184
  go_wp2_with (first | ((with_reducible refine gate_dst (N:=2) rfl ?_);refine box_event ?hg (N:=2) ?hd (cs:= #[.int .i64 a0_0, .int .i64 a0_1]) (t:=93) ?hr ?_;(case hd=>rfl);(case hg=>rfl);(case hr=>first | (go_simp;done) | (go_simp;rfl));intro ae hg w13 hbox hb;have aa:=Aside0.mk (hbox);have ai:=Aside0.mk ((by rw [hg];exact bz_:w.heap.size≤ae));have aj:=Aside0.mk ((by rw [hg];exact bz_:w.heap.size≤ae));replace HB:=Aside0.mk (bs_ hb);clear hb hbox hg;have aw:w13.cell? ⟨ae,0,none⟩=some (.int .i64 a0_0):=(blk_cell aa.out 0).trans rfl;have ax:w13.cell? ⟨ae,1,none⟩=some (.int .i64 a0_1):=(blk_cell aa.out 1).trans rfl;have ay:=blk_frozen aa.out 0;have az:=blk_frozen aa.out 1) | ((with_reducible refine gate_callee (f:=119) rfl ?_);refine gL_ 8 Try.func119 #[.int .i64 a0_1, .int .i64 1, .int .i64 a1] ?_;(with_reducible refine(spec_l01In.calls a0_1 1 a1 false _ A3.out).mono ?_);rintro e w' ⟨rfl,⟨nd,rfl⟩⟩;refine⟨_,rfl,?_⟩))
  go_ret
  exact⟨by first | rfl | (simp [errW_none,errW_some] <;> rfl) | (simp [*,errW_none,errW_some] <;> rfl),hb_⟩
def spec_l01Told.f (k:Nat) (a0_0:Int) (a0_1:Int):Option (Int × Int × Int):=(spec_l01IsFrac.f k a0_0 a0_1 1000000000).bind fun aa=>(if aa=true then(some (a0_0,a0_1,0)) else(some (0,0,3)))
theorem spec_l01Told.mono: ∀a0 a1 k,LeO (spec_l01Told.f k a0 a1) (spec_l01Told.f (k+1) a0 a1):=by
 intro a0 a1 k
 unfold spec_l01Told.f
 repeat' first
   | (with_reducible exact spec_l01IsFrac.mono _ _ _ _)
   | (with_reducible exact LeO.refl _)
   | (with_reducible exact LeO.none _)
   | (with_reducible refine LeO.ite ?_ ?_)
   | (with_reducible refine LeO.bind ?_ (fun _=>?_))
   | exact spec_l01IsFrac.mono _ _ _ _
   | exact LeO.none _
   | refine LeO.ite ?_ ?_
   | refine LeO.bind ?_ (fun _=>?_)
theorem spec_l01Told.calls (k:Nat) (a0_0:Int) (a0_1:Int) (r1:Int) (r2:Int) (r3:Int) (w:World) (h:spec_l01Told.f k a0_0 a0_1=some (r1,r2,r3)):
  Calls Try.prog 151 #[.agg #[.int .i64 a0_0, .int .i64 a0_1]] w fun e w'=>e= .returned (.tuple #[.agg #[.int .i64 r1, .int .i64 r2], .int .i64 r3])∧Below w.heap.size w w':=by
 have hu93:=Try.underlying93
 have HB:=Aside0.mk (Below.refl w.heap.size w)
 have H:((spec_l01IsFrac.f k a0_0 a0_1 1000000000).bind fun aj=>(if aj=true then(some (a0_0,a0_1,0)) else(some (0,0,3))))=some (r1,r2,r3):=h
 clear h
 replace H:=Option.bind_eq_some_iff.mp H
 obtain⟨aj,A20,H⟩:=H
 replace H:(if aj=true then(some (a0_0,a0_1,0)) else(some (0,0,3)))=some (r1,r2,r3):=H
 have A2:=Aside0.mk A20
 clear A20
 by_cases c3:aj=true
 ·subst c3
  have H1:(some (a0_0,a0_1,0))=some (r1,r2,r3):=by rw [if_pos rfl] at H;exact H
  clear H
  have H:=H1
  clear H1
  simp only [Option.some.injEq,Prod.mk.injEq] at H
  obtain⟨rfl,rfl,rfl⟩:=H
  go_enter Try.func151,Try.ntmps151
  go_wp2_with (first | ((with_reducible refine gate_dst (N:=1) rfl ?_);refine box_event ?hg (N:=1) ?hd (cs:= #[.int .i64 a0_0, .int .i64 a0_1]) (t:=93) ?hr ?_;(case hd=>rfl);(case hg=>rfl);(case hr=>first | (go_simp;done) | (go_simp;rfl));intro ae hg w4 hbox hb;have aa:=Aside0.mk (hbox);have ak:=Aside0.mk ((by rw [hg];exact bz_:w.heap.size≤ae));have aq:=Aside0.mk ((by rw [hg];exact bz_:w.heap.size≤ae));replace HB:=Aside0.mk (bs_ hb);clear hb hbox hg) | ((with_reducible refine gate_dst (N:=2) rfl ?_);refine box_event ?hg (N:=2) ?hd (cs:= #[.int .i64 0, .int .i64 0]) (t:=93) ?hr ?_;(case hd=>rfl);(case hg=>rfl);(case hr=>first | (go_simp;done) | (go_simp;rfl));intro af hg w5 hbox hb;have ag:=Aside0.mk (hbox);have au:=Aside0.mk ((by rw [hg];exact bz_:w.heap.size≤af));have av:=Aside0.mk ((by rw [hg];exact bz_:w.heap.size≤af));have ah:=Aside0.mk ((by rw [hg];exact lt_ aa.out:ae≠af));have ai:=Aside0.mk ((by rw [hg];exact gt_ aa.out:af≠ae));replace aa:=Aside0.mk (bb_ aa.out hb);replace HB:=Aside0.mk (bs_ hb);clear hb hbox hg;have ba:=ah.out;have bb:=ai.out;have aM:w5.cell? ⟨ae,0,none⟩=some (.int .i64 a0_0):=(blk_cell aa.out 0).trans rfl;have aN:w5.cell? ⟨ae,1,none⟩=some (.int .i64 a0_1):=(blk_cell aa.out 1).trans rfl;have aT:=blk_frozen aa.out 0;have aU:=blk_frozen aa.out 1) | ((with_reducible refine gate_callee (f:=184) rfl ?_);refine gL_ 5 Try.func184 #[.agg #[.int .i64 a0_0, .int .i64 a0_1], .int .i64 1000000000] ?_;(with_reducible refine(spec_l01IsFrac.calls k a0_0 a0_1 1000000000 true _ A2.out).mono ?_);rintro e w8 ⟨rfl,hb⟩;refine⟨_,rfl,?_⟩;replace aa:=Aside0.mk (bb_ aa.out hb);replace ag:=Aside0.mk (bb_ ag.out hb);replace HB:=Aside0.mk (bs_ hb);(try clear hb);(try clear hb2);(try clear hk);(try clear hi);have aV:w8.cell? ⟨ae,0,none⟩=some (.int .i64 a0_0):=(blk_cell aa.out 0).trans rfl;have aW:w8.cell? ⟨ae,1,none⟩=some (.int .i64 a0_1):=(blk_cell aa.out 1).trans rfl;have aX:=blk_frozen aa.out 0;have aY:=blk_frozen aa.out 1;have aw:w8.cell? ⟨af,0,none⟩=some (.int .i64 0):=(blk_cell ag.out 0).trans rfl;have ax:w8.cell? ⟨af,1,none⟩=some (.int .i64 0):=(blk_cell ag.out 1).trans rfl;have ay:=blk_frozen ag.out 0;have az:=blk_frozen ag.out 1))
  refine bodyPost_ret (results_ct rfl _ _ af 93 #[.int .i64 a0_0, .int .i64 a0_1] (0,0) _ rfl (by(with_reducible repeat (first | refine blk_drewN ?_ _ | refine blk_drew ?_ | refine blk_alloc ?_ _));refine blk_put (cs:= #[.int .i64 a0_0, .int .i64 0]) ?_ 1 _ rfl;(with_reducible repeat (first | refine blk_drewN ?_ _ | refine blk_drew ?_ | refine blk_alloc ?_ _));refine blk_put (cs:= #[.int .i64 0, .int .i64 0]) ?_ 0 _ rfl;(with_reducible repeat (first | refine blk_drewN ?_ _ | refine blk_drew ?_ | refine blk_alloc ?_ _));exact ag.out) Try.underlying93 rfl (by kernel_rfl)) rfl ?_
  exact⟨by first | rfl | (simp [errW_none,errW_some] <;> rfl) | (simp [*,errW_none,errW_some] <;> rfl),hb_⟩
 ·replace c3:=Bool.eq_false_iff.mpr c3
  subst c3
  have H1:(some (0,0,3))=some (r1,r2,r3):=by rw [if_neg (show ¬ (false=true) by decide)] at H;exact H
  clear H
  have H:=H1
  clear H1
  simp only [Option.some.injEq,Prod.mk.injEq] at H
  obtain⟨rfl,rfl,rfl⟩:=H
  go_enter Try.func151,Try.ntmps151
  go_wp2_with (first | ((with_reducible refine gate_dst (N:=1) rfl ?_);refine box_event ?hg (N:=1) ?hd (cs:= #[.int .i64 a0_0, .int .i64 a0_1]) (t:=93) ?hr ?_;(case hd=>rfl);(case hg=>rfl);(case hr=>first | (go_simp;done) | (go_simp;rfl));intro ae hg w11 hbox hb;have aa:=Aside0.mk (hbox);have ak:=Aside0.mk ((by rw [hg];exact bz_:w.heap.size≤ae));have aq:=Aside0.mk ((by rw [hg];exact bz_:w.heap.size≤ae));replace HB:=Aside0.mk (bs_ hb);clear hb hbox hg) | ((with_reducible refine gate_dst (N:=2) rfl ?_);refine box_event ?hg (N:=2) ?hd (cs:= #[.int .i64 0, .int .i64 0]) (t:=93) ?hr ?_;(case hd=>rfl);(case hg=>rfl);(case hr=>first | (go_simp;done) | (go_simp;rfl));intro af hg w12 hbox hb;have ag:=Aside0.mk (hbox);have au:=Aside0.mk ((by rw [hg];exact bz_:w.heap.size≤af));have av:=Aside0.mk ((by rw [hg];exact bz_:w.heap.size≤af));have ah:=Aside0.mk ((by rw [hg];exact lt_ aa.out:ae≠af));have ai:=Aside0.mk ((by rw [hg];exact gt_ aa.out:af≠ae));replace aa:=Aside0.mk (bb_ aa.out hb);replace HB:=Aside0.mk (bs_ hb);clear hb hbox hg;have aZ:=ah.out;have a9:=ai.out;have aA:w12.cell? ⟨ae,0,none⟩=some (.int .i64 a0_0):=(blk_cell aa.out 0).trans rfl;have aC:w12.cell? ⟨ae,1,none⟩=some (.int .i64 a0_1):=(blk_cell aa.out 1).trans rfl;have aD:=blk_frozen aa.out 0;have aG:=blk_frozen aa.out 1) | ((with_reducible refine gate_callee (f:=184) rfl ?_);refine gL_ 5 Try.func184 #[.agg #[.int .i64 a0_0, .int .i64 a0_1], .int .i64 1000000000] ?_;(with_reducible refine(spec_l01IsFrac.calls k a0_0 a0_1 1000000000 false _ A2.out).mono ?_);rintro e w15 ⟨rfl,hb⟩;refine⟨_,rfl,?_⟩;replace aa:=Aside0.mk (bb_ aa.out hb);replace ag:=Aside0.mk (bb_ ag.out hb);replace HB:=Aside0.mk (bs_ hb);(try clear hb);(try clear hb2);(try clear hk);(try clear hi);have aH:w15.cell? ⟨af,0,none⟩=some (.int .i64 0):=(blk_cell ag.out 0).trans rfl;have aI:w15.cell? ⟨af,1,none⟩=some (.int .i64 0):=(blk_cell ag.out 1).trans rfl;have aJ:=blk_frozen ag.out 0;have aK:=blk_frozen ag.out 1))
  refine bodyPost_ret (results_ct rfl _ _ af 93 #[.int .i64 0, .int .i64 0] (0,0) _ rfl (by(with_reducible repeat (first | refine blk_drewN ?_ _ | refine blk_drew ?_ | refine blk_alloc ?_ _));refine blk_put (cs:= #[.int .i64 0, .int .i64 0]) ?_ 1 _ rfl;(with_reducible repeat (first | refine blk_drewN ?_ _ | refine blk_drew ?_ | refine blk_alloc ?_ _));refine blk_put (cs:= #[.int .i64 0, .int .i64 0]) ?_ 0 _ rfl;(with_reducible repeat (first | refine blk_drewN ?_ _ | refine blk_drew ?_ | refine blk_alloc ?_ _));exact ag.out) Try.underlying93 rfl (by kernel_rfl)) rfl ?_
  exact⟨by first | rfl | (simp [errW_none,errW_some] <;> rfl) | (simp [*,errW_none,errW_some] <;> rfl),hb_⟩
def spec_l01Frac.f (k:Nat) (a0:Int) (a1:Int):Option (Int × Int):=if a1 < 0 then((spec_l01Gcd.f k (wrap64 (-a0)) (wrap64 (-a1))).bind fun aa=>(if aa=0 then(none) else(some (wrap64 (Int.tdiv (wrap64 (-a0)) aa),wrap64 (Int.tdiv (wrap64 (-a1)) aa))))) else((spec_l01Gcd.f k a0 a1).bind fun ae=>(if ae=0 then(none) else(some (wrap64 (Int.tdiv a0 ae),wrap64 (Int.tdiv a1 ae)))))
theorem spec_l01Frac.mono: ∀a0 a1 k,LeO (spec_l01Frac.f k a0 a1) (spec_l01Frac.f (k+1) a0 a1):=by
 intro a0 a1 k
 unfold spec_l01Frac.f
 repeat' first
   | (with_reducible exact spec_l01Gcd.mono _ _ _)
   | (with_reducible exact LeO.refl _)
   | (with_reducible exact LeO.none _)
   | (with_reducible refine LeO.ite ?_ ?_)
   | (with_reducible refine LeO.bind ?_ (fun _=>?_))
   | exact spec_l01Gcd.mono _ _ _
   | exact LeO.none _
   | refine LeO.ite ?_ ?_
   | refine LeO.bind ?_ (fun _=>?_)
def spec_l01Frac.T5:Bool × List (List Nat × List Nat):=(true, [([], []),([], []),([0,1], [0,1]),([], []),([], []),([3,4], [3,4]),([2,5], [2,5]),([6,0,1,2,3,4,5,6], [6])])
def spec_l01Frac.B5:List Nat:= [0,0,3,0,0,24,63,127]
theorem spec_l01Frac.tab5:rtab .any (opsOf Try.f152 5)=spec_l01Frac.T5:=by kernel_rfl
theorem spec_l01Frac.bits5:waitsOk spec_l01Frac.T5.2 spec_l01Frac.B5=true:=by kernel_rfl
theorem spec_l01Frac.calls (k:Nat) (a0:Int) (a1:Int) (r1:Int) (r2:Int) (w:World) (h:spec_l01Frac.f k a0 a1=some (r1,r2)):
  Calls Try.prog 152 #[.int .i64 a0, .int .i64 a1] w fun e w'=>e= .returned (.agg #[.int .i64 r1, .int .i64 r2])∧Below w.heap.size w w':=by
 have hu93:=Try.underlying93
 have HB:=Aside0.mk (Below.refl w.heap.size w)
 have H:(if a1 < 0 then((spec_l01Gcd.f k (wrap64 (-a0)) (wrap64 (-a1))).bind fun ae=>(if ae=0 then(none) else(some (wrap64 (Int.tdiv (wrap64 (-a0)) ae),wrap64 (Int.tdiv (wrap64 (-a1)) ae))))) else((spec_l01Gcd.f k a0 a1).bind fun af=>(if af=0 then(none) else(some (wrap64 (Int.tdiv a0 af),wrap64 (Int.tdiv a1 af))))))=some (r1,r2):=h
 clear h
 by_cases c3:a1 < 0
 ·rw [if_pos c3] at H
  have c3b0:decide (a1 < 0)=true:=decide_eq_true c3
  clear c3
  replace H:=Option.bind_eq_some_iff.mp H
  obtain⟨ae,A40,H⟩:=H
  replace H:(if ae=0 then(none) else(some (wrap64 (Int.tdiv (wrap64 (-a0)) ae),wrap64 (Int.tdiv (wrap64 (-a1)) ae))))=some (r1,r2):=H
  have A4:=Aside0.mk A40
  clear A40
  by_cases c5:ae=0
  ·rw [if_pos c5] at H
   exact absurd H (by simp)
  ·rw [if_neg c5] at H
   have c5b0:(ae==0)=false:=beq_eq_false_iff_ne.mpr c5
   have c5b1:(ae !=0)=true:=bne_iff_ne.mpr c5
   simp only [Option.some.injEq,Prod.mk.injEq] at H
   obtain⟨rfl,rfl⟩:=H
   go_enter Try.func152,Try.ntmps152
   try go_wp2_with (first | ((with_reducible refine gate_dst (N:=4) rfl ?_);refine box_event ?hg (N:=4) ?hd (cs:= #[.int .i64 0, .int .i64 0]) (t:=93) ?hr ?_;(case hd=>rfl);(case hg=>rfl);(case hr=>first | (go_simp;done) | (go_simp;rfl));intro ag hg w6 hbox hb;have aa:=Aside0.mk (hbox);have ah:=Aside0.mk ((by rw [hg];exact bz_:w.heap.size≤ag));have ai:=Aside0.mk ((by rw [hg];exact bz_:w.heap.size≤ag));replace HB:=Aside0.mk (bs_ hb);clear hb hbox hg) | ((with_reducible refine gate_callee (f:=185) rfl ?_);refine gL_ 14 Try.func185 #[.int .i64 (wrap64 (-a0)), .int .i64 (wrap64 (-a1))] ?_;(with_reducible refine(spec_l01Gcd.calls k (wrap64 (-a0)) (wrap64 (-a1)) ae _ A4.out).mono ?_);rintro e w7 ⟨rfl,hb⟩;refine⟨_,rfl,?_⟩;replace aa:=Aside0.mk (bb_ aa.out hb);replace HB:=Aside0.mk (bs_ hb);(try clear hb);(try clear hb2);(try clear hk);(try clear hi)))
   replace aa:=Aside0.mk (blk_drew aa.out)
   replace HB:=Aside0.mk (below_drew1 HB.out)
   refine st_ (n:=8) (S:=fun w'=>True) (ds:= []) trivial (fun hHeld=>?_);refine with_tabW spec_l01Frac.tab5 spec_l01Frac.bits5 (fun HT_ HW_=>?_)
   generalize w7.drew=w8 at aa HB hHeld ⊢
   refine pu_ 0 15 ?_;refine pu_ 1 16 ?_;refine pu_ 2 17 ?_;refine pu_ 3 18 ?_;refine pu_ 4 19 ?_;refine pu_ 5 20 ?_;refine pu_ 6 21 ?_
   refine on_ 7 none (fun K hK=>?_)
   have hs9:w8.cell? ⟨ag,0,none⟩=some (.int .i64 0):=(blk_cell aa.out 0).trans rfl
   have hfs9:=blk_frozen aa.out 0
   have hs10:w8.cell? ⟨ag,1,none⟩=some (.int .i64 0):=(blk_cell aa.out 1).trans rfl
   have hfs10:=blk_frozen aa.out 1
   refine skip_ (w1:=?_) (by rfl) rfl ?_ ?_
   rotate_left
   ·go_simp
    rfl
   refine hK.out _ _ trivial (fun hHeld=>?_)
   clear hK K
   refine done_ (done_of HT_.out (by kernel_rfl)) ?_
   try go_wp2
   refine bodyPost_ret (results_cell_row rfl _ _ ag 93 #[.int .i64 (wrap64 (Int.tdiv (wrap64 (-a0)) ae)), .int .i64 (wrap64 (Int.tdiv (wrap64 (-a1)) ae))] (0,0) _ rfl (by(with_reducible repeat (first | refine blk_drewN ?_ _ | refine blk_drew ?_ | refine blk_alloc ?_ _));refine blk_put (cs:= #[.int .i64 (wrap64 (Int.tdiv (wrap64 (-a0)) ae)), .int .i64 0]) ?_ 1 _ rfl;(with_reducible repeat (first | refine blk_drewN ?_ _ | refine blk_drew ?_ | refine blk_alloc ?_ _));refine blk_put (cs:= #[.int .i64 0, .int .i64 0]) ?_ 0 _ rfl;(with_reducible repeat (first | refine blk_drewN ?_ _ | refine blk_drew ?_ | refine blk_alloc ?_ _));exact aa.out) Try.underlying93 rfl (by kernel_rfl)) rfl ?_
   exact⟨by first | rfl | (simp [errW_none,errW_some] <;> rfl) | (simp [*,errW_none,errW_some] <;> rfl),hb_⟩
 ·rw [if_neg c3] at H
  have c3b0:decide (a1 < 0)=false:=decide_eq_false c3
  clear c3
  replace H:=Option.bind_eq_some_iff.mp H
  obtain⟨af,A110,H⟩:=H
  replace H:(if af=0 then(none) else(some (wrap64 (Int.tdiv a0 af),wrap64 (Int.tdiv a1 af))))=some (r1,r2):=H
  have A11:=Aside0.mk A110
  clear A110
  by_cases c12:af=0
  ·rw [if_pos c12] at H
   exact absurd H (by simp)
  ·rw [if_neg c12] at H
   have c12b0:(af==0)=false:=beq_eq_false_iff_ne.mpr c12
   have c12b1:(af !=0)=true:=bne_iff_ne.mpr c12
   simp only [Option.some.injEq,Prod.mk.injEq] at H
   obtain⟨rfl,rfl⟩:=H
   go_enter Try.func152,Try.ntmps152
   try go_wp2_with (first | ((with_reducible refine gate_dst (N:=4) rfl ?_);refine box_event ?hg (N:=4) ?hd (cs:= #[.int .i64 0, .int .i64 0]) (t:=93) ?hr ?_;(case hd=>rfl);(case hg=>rfl);(case hr=>first | (go_simp;done) | (go_simp;rfl));intro ag hg w13 hbox hb;have aa:=Aside0.mk (hbox);have ah:=Aside0.mk ((by rw [hg];exact bz_:w.heap.size≤ag));have ai:=Aside0.mk ((by rw [hg];exact bz_:w.heap.size≤ag));replace HB:=Aside0.mk (bs_ hb);clear hb hbox hg) | ((with_reducible refine gate_callee (f:=185) rfl ?_);refine gL_ 14 Try.func185 #[.int .i64 a0, .int .i64 a1] ?_;(with_reducible refine(spec_l01Gcd.calls k a0 a1 af _ A11.out).mono ?_);rintro e w14 ⟨rfl,hb⟩;refine⟨_,rfl,?_⟩;replace aa:=Aside0.mk (bb_ aa.out hb);replace HB:=Aside0.mk (bs_ hb);(try clear hb);(try clear hb2);(try clear hk);(try clear hi)))
   replace aa:=Aside0.mk (blk_drew aa.out)
   replace HB:=Aside0.mk (below_drew1 HB.out)
   refine st_ (n:=8) (S:=fun w'=>True) (ds:= []) trivial (fun hHeld=>?_);refine with_tabW spec_l01Frac.tab5 spec_l01Frac.bits5 (fun HT_ HW_=>?_)
   generalize w14.drew=w15 at aa HB hHeld ⊢
   refine pu_ 0 15 ?_;refine pu_ 1 16 ?_;refine pu_ 2 17 ?_;refine pu_ 3 18 ?_;refine pu_ 4 19 ?_;refine pu_ 5 20 ?_;refine pu_ 6 21 ?_
   refine on_ 7 none (fun K hK=>?_)
   have hs16:w15.cell? ⟨ag,0,none⟩=some (.int .i64 0):=(blk_cell aa.out 0).trans rfl
   have hfs16:=blk_frozen aa.out 0
   have hs17:w15.cell? ⟨ag,1,none⟩=some (.int .i64 0):=(blk_cell aa.out 1).trans rfl
   have hfs17:=blk_frozen aa.out 1
   refine skip_ (w1:=?_) (by rfl) rfl ?_ ?_
   rotate_left
   ·go_simp
    rfl
   refine hK.out _ _ trivial (fun hHeld=>?_)
   clear hK K
   refine done_ (done_of HT_.out (by kernel_rfl)) ?_
   try go_wp2
   refine bodyPost_ret (results_cell_row rfl _ _ ag 93 #[.int .i64 (wrap64 (Int.tdiv a0 af)), .int .i64 (wrap64 (Int.tdiv a1 af))] (0,0) _ rfl (by(with_reducible repeat (first | refine blk_drewN ?_ _ | refine blk_drew ?_ | refine blk_alloc ?_ _));refine blk_put (cs:= #[.int .i64 (wrap64 (Int.tdiv a0 af)), .int .i64 0]) ?_ 1 _ rfl;(with_reducible repeat (first | refine blk_drewN ?_ _ | refine blk_drew ?_ | refine blk_alloc ?_ _));refine blk_put (cs:= #[.int .i64 0, .int .i64 0]) ?_ 0 _ rfl;(with_reducible repeat (first | refine blk_drewN ?_ _ | refine blk_drew ?_ | refine blk_alloc ?_ _));exact aa.out) Try.underlying93 rfl (by kernel_rfl)) rfl ?_
   exact⟨by first | rfl | (simp [errW_none,errW_some] <;> rfl) | (simp [*,errW_none,errW_some] <;> rfl),hb_⟩
def spec_l05Right.l0:Nat→List (S93)→Int→List (List Int)→Int→List Int→Option ((List (S93)) × Int)
 | 0,_,_,_,_,_=>none
 | k+1,x4,x5,aa,af,ah=>if x5 < (aa.length:Int) then(if 0≤x5 then(if 0≤(wrap64 (((rd_L1 aa x5).length:Int) - 1)) then(if(wrap64 (((rd_L1 aa x5).length:Int) - 1)) < ((rd_L1 aa x5).length:Int) then((spec_l01Frac.f k (rd (rd_L1 aa x5) (wrap64 (((rd_L1 aa x5).length:Int) - 1))) af).bind fun ag=>((spec_l01Told.f k ag.1 ag.2).bind fun ae=>(if ae.2.2=0 then(if x4.length < 8796093022208 then(spec_l05Right.l0 k (x4++ [(⟨ae.1,ae.2.1⟩:S93)]) (wrap64 (x5+1)) aa af ah) else(none)) else(some (([]:List (S93)),ae.2.2))))) else(none)) else(none)) else(none)) else(some (x4,0))
def spec_l05Right.f (k:Nat) (aa:List (List Int)) (a0_1:Int) (ae:List Int):Option ((List (S93)) × Int):=spec_l05Right.l0 k (([]:List (S93))) 0 aa a0_1 ae
theorem spec_l05Right.mono_l: ∀k,(∀y0 y1 y2 y3 y4,LeO (spec_l05Right.l0 k y0 y1 y2 y3 y4) (spec_l05Right.l0 (k+1) y0 y1 y2 y3 y4))
 | 0=>fun _ _ _ _ _ r h=>by simp [spec_l05Right.l0] at h
 | k+1=>by
  have ih0:=spec_l05Right.mono_l k
  ·intro y0 y1 y2 y3 y4
   unfold spec_l05Right.l0
   repeat' first
   | (with_reducible exact ih0 _ _ _ _ _)
   | (with_reducible exact spec_l01Frac.mono _ _ _)
   | (with_reducible exact spec_l01Told.mono _ _ _)
   | (with_reducible exact LeO.refl _)
   | (with_reducible exact LeO.none _)
   | (with_reducible refine LeO.ite ?_ ?_)
   | (with_reducible refine LeO.bind ?_ (fun _=>?_))
   | exact ih0 _ _ _ _ _
   | exact spec_l01Frac.mono _ _ _
   | exact spec_l01Told.mono _ _ _
   | exact LeO.none _
   | refine LeO.ite ?_ ?_
   | refine LeO.bind ?_ (fun _=>?_)
theorem spec_l05Right.mono: ∀a0 a1 a2 k,LeO (spec_l05Right.f k a0 a1 a2) (spec_l05Right.f (k+1) a0 a1 a2):=by
 intro a0 a1 a2 k
 have ih0:=spec_l05Right.mono_l k
 unfold spec_l05Right.f
 repeat' first
   | (with_reducible exact ih0 _ _ _ _ _)
   | (with_reducible exact spec_l01Frac.mono _ _ _)
   | (with_reducible exact spec_l01Told.mono _ _ _)
   | (with_reducible exact LeO.refl _)
   | (with_reducible exact LeO.none _)
   | (with_reducible refine LeO.ite ?_ ?_)
   | (with_reducible refine LeO.bind ?_ (fun _=>?_))
   | exact ih0 _ _ _ _ _
   | exact spec_l01Frac.mono _ _ _
   | exact spec_l01Told.mono _ _ _
   | exact LeO.none _
   | refine LeO.ite ?_ ?_
   | refine LeO.bind ?_ (fun _=>?_)
def spec_l05Right.T5:Bool × List (List Nat × List Nat):=(true, [([], []),([0], [0]),([], []),([1,2], [1,2]),([3], [3]),([], []),([5], [5]),([], []),([6,7], [6,7]),([8], [8]),([9], [9]),([10], [10]),([4,11], [4,11]),([12], [12]),([], []),([14], [14]),([13,15], [13,15]),([16,16], [16]),([17], [17]),([18], [18]),([18], [18]),([], []),([21,19,17,0,1,2,3,4,5,6,7,8,9,10,11,12,13,14,15,16,17,18,19,21], [19,21]),([20,22,0,1,2,3,4,5,6,7,8,9,10,11,12,13,14,15,16,17,18,19,20,21,22], [20])])
def spec_l05Right.B5:List Nat:= [0,1,0,7,15,0,32,0,224,480,992,2016,4095,8191,0,16384,65535,131071,262143,524287,524287,0,3145727,8388607]
theorem spec_l05Right.tab5:rtab .any (opsOf Try.f86 5)=spec_l05Right.T5:=by kernel_rfl
theorem spec_l05Right.bits5:waitsOk spec_l05Right.T5.2 spec_l05Right.B5=true:=by kernel_rfl
theorem spec_l05Right.calls (k:Nat) (aW:Option Addr) (aK:Nat) (aq:List (List Int)) (a0_1:Int) (aM:Option Addr) (aN:Nat) (az:List Int) (r1:List (S93)) (r2:Int) (w:World) (aY:Kd.C (Kd.slice 2 (Kd.int .i64)) w aW aq.length aq) (aZ:aq.length≤aK) (a9:Kd.C (Kd.int .i64) w aM az.length az) (ba:az.length≤aN) (h:spec_l05Right.f k aq a0_1 az=some (r1,r2)):
  Calls Try.prog 86 #[.agg #[.slice aW aq.length aK, .int .i64 a0_1, .slice aM az.length aN]] w fun e w'=> ∃v0_:Value,e= .returned (.tuple #[v0_, .int .i64 r2])∧Kd.R k93 93 w' w.heap.size (fun _=>True) v0_ r1∧Below w.heap.size w w':=by
 have hu100:=Try.underlying100
 have hu93:=Try.underlying93
 have HR0_0:=Aside0.mk aY
 have HC0_0:=Aside0.mk aZ
 clear aY aZ
 have HR0_2:=Aside0.mk a9
 have HC0_2:=Aside0.mk ba
 clear a9 ba
 have HB:=Aside0.mk (Below.refl w.heap.size w)
 have H:(spec_l05Right.l0 k (([]:List (S93))) 0 aq a0_1 az)=some (r1,r2):=h
 clear h
 obtain⟨bh,hy302⟩: ∃y_:List (S93),y_=(([]:List (S93))):=⟨_,rfl⟩
 replace H:(spec_l05Right.l0 k bh 0 aq a0_1 az)=some (r1,r2):=by first | (rw [hy302];with_reducible exact H) | (have H2_:=(Option.bind_some _ _).symm.trans H;rw [hy302];with_reducible exact H2_) | (have H2_:=(Option.bind_some _ _).symm.trans H;with_reducible exact H2_) | with_reducible exact H | (rw [hy302];exact H) | exact H
 have bb:=Aside0.mk hy302
 clear hy302
 have H':=Aside0.mk H
 clear H
 go_enter Try.func86,Try.ntmps86
 go_wp2_with (first | ((with_reducible refine gate_dst (N:=1) rfl ?_);refine box_event ?hg (N:=1) ?hd (cs:= #[.slice aW aq.length aK, .int .i64 a0_1, .slice aM az.length aN]) (t:=100) ?hr ?_;(case hd=>rfl);(case hg=>rfl);(case hr=>first | (go_simp;done) | (go_simp;rfl));intro au hg w2 hbox hb;have aa:=Aside0.mk (hbox);have bX:=Aside0.mk ((by rw [hg];exact bz_:w.heap.size≤au));have bY:=Aside0.mk ((by rw [hg];exact bz_:w.heap.size≤au));replace HB:=Aside0.mk (bs_ hb);clear hb hbox hg) | ((with_reducible refine gate_dst (N:=8) rfl ?_);refine Kd.R_lit k93 _ 93 ?hg (N:=8) ?hd (xs:=([]:List (S93))) (inner:= []) (ok:=fun _=>True) (okp:=fun _=>True) ?hr ?hp (fun _ hk=>hk) trivial (Below.refl _ _) (Nat.le_refl _) (by simp) ?_;(case hd=>rfl);(case hg=>rfl);(case hr=>first | (go_simp;done) | (go_simp;rfl));(case hp=>exact(Reps.none _ _));intro cm w3 ho4 hb hg_ hnew_;clear hg_ hnew_;(first | rw [← bb.out] at ho4 | (simp only [Int.reduceToNat] at ho4;rw [← bb.out] at ho4));have bu:=Aside0.mk (Kd.R_lower ho4 bz_);replace aa:=Aside0.mk (bb_ aa.out hb);replace HB:=Aside0.mk (bs_ hb);clear hb ho4))
 go_loopg [4,5] k (fun kq v4 v5 w'=> ∃(aU:List (S93)) (ak:Int),v5= .int .i64 ak∧Aside0 (spec_l05Right.l0 kq aU ak aq a0_1 az=some (r1,r2))∧Aside0 (kq≤k)∧Aside0 (Kd.R k93 93 w' w.heap.size (fun _=>True) v4 aU)∧Aside0 (w'.heap[au]?=some (.cells #[(.slice aW aq.length aK), .int .i64 a0_1,(.slice aM az.length aN)] 100 (0,0)))∧Aside0 (Below w.heap.size w w'))
 case atStart=>exact⟨(bh),(0),rs_,H',⟨Nat.le_refl _⟩,⟨ro_ bu.out⟩,⟨bk_⟩,⟨hb_⟩⟩
 case round=>
  clear H'
  try clear p2
  obtain⟨aU,ak,rfl,HA,HK1,av,aa,HB⟩:=hrel
  cases gk with
  | zero=>exact absurd HA.out (by simp [spec_l05Right.l0])
  | succ k1=>
   have H:=HA.out
   clear HA
   simp only [spec_l05Right.l0] at H
   by_cases c5:ak < (aq.length:Int)
   ·rw [if_pos c5] at H
    have c5b0:decide (ak < (aq.length:Int))=true:=decide_eq_true c5
    clear c5
    by_cases c6:0≤ak
    ·rw [if_pos c6] at H
     have c6b0:decide (0≤ak)=true:=decide_eq_true c6
     clear c6
     obtain⟨ji7,hji7⟩: ∃j_:Int,(wrap64 (((rd_L1 aq ak).length:Int) - 1))=j_:=⟨_,rfl⟩
     replace H:(if 0≤(ji7) then(if(ji7) < ((rd_L1 aq ak).length:Int) then((spec_l01Frac.f k1 (rd (rd_L1 aq ak) (ji7)) a0_1).bind fun bg=>((spec_l01Told.f k1 bg.1 bg.2).bind fun aV=>(if aV.2.2=0 then(if aU.length < 8796093022208 then(spec_l05Right.l0 k1 (aU++ [(⟨aV.1,aV.2.1⟩:S93)]) (wrap64 (ak+1)) aq a0_1 az) else(none)) else(some (([]:List (S93)),aV.2.2))))) else(none)) else(none))=some (r1,r2):=by first | (rw [hji7] at H;exact H) | (simp only [hji7] at H ⊢;exact H)
     have hji7w:(IntKind.i64.wrap (((rd_L1 aq ak).length:Int) - 1))=ji7:=(i64_w _).trans hji7
     by_cases c8:0≤(ji7)
     ·rw [if_pos c8] at H
      have c8b0:decide (0≤(ji7))=true:=decide_eq_true c8
      clear c8
      by_cases c9:(ji7) < ((rd_L1 aq ak).length:Int)
      ·rw [if_pos c9] at H
       have c9b0:decide ((ji7) < ((rd_L1 aq ak).length:Int))=true:=decide_eq_true c9
       clear c9
       replace H:=Option.bind_eq_some_iff.mp H
       obtain⟨⟨aH,aI⟩,A100,H⟩:=H
       replace H:((spec_l01Told.f k1 aH aI).bind fun aV=>(if aV.2.2=0 then(if aU.length < 8796093022208 then(spec_l05Right.l0 k1 (aU++ [(⟨aV.1,aV.2.1⟩:S93)]) (wrap64 (ak+1)) aq a0_1 az) else(none)) else(some (([]:List (S93)),aV.2.2))))=some (r1,r2):=H
       have A10:=Aside0.mk A100
       clear A100
       replace H:=Option.bind_eq_some_iff.mp H
       obtain⟨⟨aC,aD,aJ⟩,A110,H⟩:=H
       replace H:(if aJ=0 then(if aU.length < 8796093022208 then(spec_l05Right.l0 k1 (aU++ [(⟨aC,aD⟩:S93)]) (wrap64 (ak+1)) aq a0_1 az) else(none)) else(some (([]:List (S93)),aJ)))=some (r1,r2):=H
       have A11:=Aside0.mk A110
       clear A110
       by_cases c12:aJ=0
       ·rw [if_pos c12] at H
        have c12b0:(aJ==0)=true:=beq_iff_eq.mpr c12
        have c12b1:(aJ !=0)=false:=bne_eq_false_iff_eq.mpr c12
        clear c12
        by_cases c13:aU.length < 8796093022208
        ·rw [if_pos c13] at H
         have bv:=Aside0.mk c13
         clear c13
         obtain⟨bi,hy314⟩: ∃y_:List (S93),y_=(aU++ [(⟨aC,aD⟩:S93)]):=⟨_,rfl⟩
         replace H:(spec_l05Right.l0 k1 bi (wrap64 (ak+1)) aq a0_1 az)=some (r1,r2):=by first | (rw [hy314];with_reducible exact H) | (have H2_:=(Option.bind_some _ _).symm.trans H;rw [hy314];with_reducible exact H2_) | (have H2_:=(Option.bind_some _ _).symm.trans H;with_reducible exact H2_) | with_reducible exact H | (rw [hy314];exact H) | exact H
         have bw:=Aside0.mk hy314
         clear hy314
         have H':=Aside0.mk H
         clear H
         have bA:wr.cell? ⟨au,0,none⟩=some (.slice aW aq.length aK):=(blk_cell aa.out 0).trans rfl
         have bB:wr.cell? ⟨au,1,none⟩=some (.int .i64 a0_1):=(blk_cell aa.out 1).trans rfl
         have bC:wr.cell? ⟨au,2,none⟩=some (.slice aM az.length aN):=(blk_cell aa.out 2).trans rfl
         have bD:=blk_frozen aa.out 0
         have bE:=blk_frozen aa.out 1
         have bF:=blk_frozen aa.out 2
         try go_wp2
         replace av:=Aside0.mk (Kd.R_drew av.out)
         replace aa:=Aside0.mk (blk_drew aa.out)
         replace HB:=Aside0.mk (below_drew1 HB.out)
         have p305:0≤(ak:Int):=od_
         have q305:ak < (aq.length:Int):=od_
         obtain⟨ay,bk,aG,e305,hx305_0,hl305_0,hi305_0⟩:=at_L1 HR0_0.out ak p305 q305
         have af:=hx305_0
         cases e305
         replace hx305_0:=(HB.out.cell (World.block_lt_of_cell? w _ hx305_0)).trans hx305_0
         have HR305_0:=Aside0.mk hi305_0
         have HC305_0:=Aside0.mk hl305_0
         clear hi305_0 hl305_0
         replace p305:=eq_true p305
         replace q305:=eq_true q305
         have p306:0≤(ak:Int):=od_
         have q306:ak < (aq.length:Int):=od_
         obtain⟨aX,bn,bq,e306,hx306_0,hl306_0,hi306_0⟩:=at_L1 HR0_0.out ak p306 q306
         have ag:=hx306_0
         obtain rfl:ay=aX:=(by injection e306)
         replace hx306_0:=(HB.out.cell (World.block_lt_of_cell? w _ hx306_0)).trans hx306_0
         have HR306_0:=Aside0.mk hi306_0
         have HC306_0:=Aside0.mk hl306_0
         clear hi306_0 hl306_0
         replace p306:=eq_true p306
         replace q306:=eq_true q306
         have ea_:=Option.some.inj (hx305_0.symm.trans hx306_0)
         injection ea_ with ea_ en_ ec_
         subst ea_
         subst ec_
         clear en_
         have p307:0≤((ji7):Int):=od_
         have q307:(ji7) < ((rd_L1 aq ak).length:Int):=od_
         obtain⟨aA,e307,hx307_0⟩:=Kd.at_int HR305_0.out (ji7) p307 q307
         have ah:=hx307_0
         cases e307
         replace hx307_0:=(HB.out.cell (World.block_lt_of_cell? w _ hx307_0)).trans hx307_0
         replace p307:=eq_true p307
         replace q307:=eq_true q307
         refine st_ (n:=24) (S:=fun w'=>w'.cell? ⟨au,0,none⟩=some (.slice (some ay) aq.length aK)∧w'.cell? ⟨au,1,none⟩=some (.int .i64 a0_1)∧w'.cell? ⟨au,2,none⟩=some (.slice aM az.length aN)∧w'.cell? (ay.add (ak).toNat)=some (.slice (some aA) (rd_L1 aq ak).length aG)∧w'.cell? (ay.add (ak).toNat)=some (.slice (some aA) (rd_L1 aq ak).length aG)∧w'.cell? (aA.add ((ji7)).toNat)=some (.int .i64 (rd (rd_L1 aq ak) (ji7)))) (ds:= []) ⟨(blk_cell aa.out 0).trans rfl,(blk_cell aa.out 1).trans rfl,(blk_cell aa.out 2).trans rfl,((HB.out.cell (World.block_lt_of_cell? w _ af)).trans af),((HB.out.cell (World.block_lt_of_cell? w _ ag)).trans ag),((HB.out.cell (World.block_lt_of_cell? w _ ah)).trans ah)⟩ (fun hHeld=>?_);refine with_tabW spec_l05Right.tab5 spec_l05Right.bits5 (fun HT_ HW_=>?_)
         generalize wr.drew=w15 at av aa HB HR305_0 HR306_0 hx305_0 hx306_0 hx307_0 hHeld ⊢
         refine pu_ 0 17 ?_;refine pu_ 2 19 ?_;refine pu_ 5 22 ?_;refine pu_ 7 24 ?_;refine pu_ 14 31 ?_;refine tk_ 1 18 ?_;refine pu_ 3 20 ?_;refine tk_ 4 21 ?_;refine tk_ 6 23 ?_;refine pu_ 8 25 ?_;refine tk_ 9 26 ?_;refine pu_ 10 27 ?_;refine pu_ 11 28 ?_;refine pu_ 12 29 ?_;refine tk_ 13 30 ?_;refine tk_ 15 32 ?_
         refine join_ (σ:=Nat) 2 (fm 24 4194303) (fun s_=> [(33, .agg #[.int .i64 aH, .int .i64 aI]),(34, .tuple #[.agg #[.int .i64 aC, .int .i64 aD], .int .i64 aJ]),(6, .pointer (some ⟨s_,0,none⟩)),(16, .tuple #[.agg #[.int .i64 aC, .int .i64 aD], .int .i64 aJ]),(35, .agg #[.int .i64 aC, .int .i64 aD]),(36, .int .i64 aJ)]) (fun s_ w'=>(w'.cell? ⟨au,0,none⟩=some (.slice (some ay) aq.length aK)∧w'.cell? ⟨au,1,none⟩=some (.int .i64 a0_1)∧w'.cell? ⟨au,2,none⟩=some (.slice aM az.length aN)∧w'.cell? (ay.add (ak).toNat)=some (.slice (some aA) (rd_L1 aq ak).length aG)∧w'.cell? (ay.add (ak).toNat)=some (.slice (some aA) (rd_L1 aq ak).length aG)∧w'.cell? (aA.add ((ji7)).toNat)=some (.int .i64 (rd (rd_L1 aq ak) (ji7))))∧(Kd.R k93 93 w' w.heap.size (fun k_=>k_≠s_) u4 aU)∧(w'.heap[au]?=some (.cells #[.slice (some ay) aq.length aK, .int .i64 a0_1, .slice aM az.length aN] 100 (0,0)))∧(w'.heap[s_]?=some (.cells #[.int .i64 0, .int .i64 0] 93 (0,0)))∧(w.heap.size≤s_)∧(w.heap.size≤s_)∧(au≠s_)∧(s_≠au)∧(Below w.heap.size w w')) ?_ ?_
         rotate_left
         ·intro hCont
          refine two_ (i:=16) (j:=21) (Ni:=some 33) (Nj:=some 6) (fm 24 131071) (fm 24 2162687) rfl rfl rfl rfl (two_of HT_.out (by kernel_rfl)) (by decide) (by decide) (fun K hK=>?_) (fun K hK=>?_)
          ·skip
           refine goes_ Try.func152 (by kernel_rfl) rfl #[.int .i64 (rd (rd_L1 aq ak) (ji7)), .int .i64 a0_1] (by rfl) rfl rfl (by(try simp only [List.map_toArray,List.map_cons,List.map_nil]);first | done | (simp only [hji7];rfl) | rfl | (simp only [List.length_drop,List.length_take];rfl)) ?_
           with_reducible refine(spec_l01Frac.calls k1 (rd (rd_L1 aq ak) (ji7)) a0_1 aH aI _ A10.out).mono ?_
           rintro e w16 ⟨rfl,hb⟩
           refine⟨_,rfl,?_⟩
           replace av:=Aside0.mk (rb_ av.out hb)
           replace aa:=Aside0.mk (bb_ aa.out hb)
           replace HB:=Aside0.mk (bs_ hb)
           (try clear hb)
           (try clear hb2)
           (try clear hk)
           (try clear hi)
           refine hK.out _ _ ⟨(blk_cell aa.out 0).trans rfl,(blk_cell aa.out 1).trans rfl,(blk_cell aa.out 2).trans rfl,((HB.out.cell (World.block_lt_of_cell? w _ af)).trans af),((HB.out.cell (World.block_lt_of_cell? w _ ag)).trans ag),((HB.out.cell (World.block_lt_of_cell? w _ ah)).trans ah)⟩ (fun hHeld=>?_)
           clear hK K
           refine norm_ (a':=?_) ?_ ?_
           rotate_left
           ·show Act.put _ (some 33) _=_
            simp only [Act.put,List.setIfInBounds_toArray,List.set_cons_zero,List.set_cons_succ,i64_w,i32_w]
            rfl
           refine two_ (i:=17) (j:=21) (Ni:=some 34) (Nj:=some 6) (fm 24 262143) (fm 24 2228223) rfl rfl rfl rfl (two_of HT_.out (by kernel_rfl)) (by decide) (by decide) (fun K hK=>?_) (fun K hK=>?_)
           ·skip
            refine goes_ Try.func151 (by kernel_rfl) rfl #[.agg #[.int .i64 aH, .int .i64 aI]] (by rfl) rfl rfl (by(try simp only [List.map_toArray,List.map_cons,List.map_nil]);first | done | rfl | (simp only [List.length_drop,List.length_take];rfl)) ?_
            with_reducible refine(spec_l01Told.calls k1 aH aI aC aD aJ _ A11.out).mono ?_
            rintro e w17 ⟨rfl,hb⟩
            refine⟨_,rfl,?_⟩
            replace av:=Aside0.mk (rb_ av.out hb)
            replace aa:=Aside0.mk (bb_ aa.out hb)
            replace HB:=Aside0.mk (bs_ hb)
            (try clear hb)
            (try clear hb2)
            (try clear hk)
            (try clear hi)
            refine hK.out _ _ ⟨(blk_cell aa.out 0).trans rfl,(blk_cell aa.out 1).trans rfl,(blk_cell aa.out 2).trans rfl,((HB.out.cell (World.block_lt_of_cell? w _ af)).trans af),((HB.out.cell (World.block_lt_of_cell? w _ ag)).trans ag),((HB.out.cell (World.block_lt_of_cell? w _ ah)).trans ah)⟩ (fun hHeld=>?_)
            clear hK K
            refine norm_ (a':=?_) ?_ ?_
            rotate_left
            ·show Act.put _ (some 34) _=_
             simp only [Act.put,List.setIfInBounds_toArray,List.set_cons_zero,List.set_cons_succ,i64_w,i32_w]
             rfl
            refine pu_ 18 16 ?_;refine pu_ 19 35 ?_;refine pu_ 20 36 ?_
            refine on_ 21 (some 6) (fun K hK=>?_)
            refine box_step ?hg (N:=6) ?hd (cs:= #[.int .i64 0, .int .i64 0]) (t:=93) ?hr ?_;(case hd=>rfl);(case hg=>rfl);(case hr=>first | (go_simp;done) | (go_simp;rfl))
            intro ae hg w18 hbox hb
            replace av:=Aside0.mk (Kd.R_below (Kd.R_elderB (ro_ av.out) ae (Nat.le_of_eq hg.symm)) hb)
            have aw:=Aside0.mk (hbox)
            have ai:=Aside0.mk ((by rw [hg];exact bz_:w.heap.size≤ae))
            have aT:=Aside0.mk ((by rw [hg];exact bz_:w.heap.size≤ae))
            have aj:=Aside0.mk ((by rw [hg];exact lt_ aa.out:au≠ae))
            have ax:=Aside0.mk ((by rw [hg];exact gt_ aa.out:ae≠au))
            replace aa:=Aside0.mk (bb_ aa.out hb)
            replace HB:=Aside0.mk (bs_ hb)
            clear hb hbox hg
            refine hK.out _ _ ⟨(blk_cell aa.out 0).trans rfl,(blk_cell aa.out 1).trans rfl,(blk_cell aa.out 2).trans rfl,((HB.out.cell (World.block_lt_of_cell? w _ af)).trans af),((HB.out.cell (World.block_lt_of_cell? w _ ag)).trans ag),((HB.out.cell (World.block_lt_of_cell? w _ ah)).trans ah)⟩ (fun hHeld=>?_)
            clear hK K
            refine norm_ (a':=?_) ?_ ?_
            rotate_left
            ·show Act.put _ (some 6) _=_
             simp only [Act.put,List.setIfInBounds_toArray,List.set_cons_zero,List.set_cons_succ,i64_w,i32_w]
             rfl
            exact norm_ (by simp only [putAll,Act.put,List.setIfInBounds_toArray,List.set_cons_zero,List.set_cons_succ]) (hCont (ae) _ ⟨hHeld,(by(with_reducible repeat (first | apply Kd.R_alloc | apply Kd.R_drewN | apply Kd.R_drew));exact Kd.R_mono av.out (fun _ hk=>hk.2)),bk_,bk_,ai.out,aT.out,aj.out,ax.out,hb_⟩)
           ·skip
            refine box_step ?hg (N:=6) ?hd (cs:= #[.int .i64 0, .int .i64 0]) (t:=93) ?hr ?_;(case hd=>rfl);(case hg=>rfl);(case hr=>first | (go_simp;done) | (go_simp;rfl))
            intro ae hg w17 hbox hb
            replace av:=Aside0.mk (Kd.R_below (Kd.R_elderB (ro_ av.out) ae (Nat.le_of_eq hg.symm)) hb)
            have aw:=Aside0.mk (hbox)
            have ai:=Aside0.mk ((by rw [hg];exact bz_:w.heap.size≤ae))
            have aT:=Aside0.mk ((by rw [hg];exact bz_:w.heap.size≤ae))
            have aj:=Aside0.mk ((by rw [hg];exact lt_ aa.out:au≠ae))
            have ax:=Aside0.mk ((by rw [hg];exact gt_ aa.out:ae≠au))
            replace aa:=Aside0.mk (bb_ aa.out hb)
            replace HB:=Aside0.mk (bs_ hb)
            clear hb hbox hg
            refine hK.out _ _ ⟨(blk_cell aa.out 0).trans rfl,(blk_cell aa.out 1).trans rfl,(blk_cell aa.out 2).trans rfl,((HB.out.cell (World.block_lt_of_cell? w _ af)).trans af),((HB.out.cell (World.block_lt_of_cell? w _ ag)).trans ag),((HB.out.cell (World.block_lt_of_cell? w _ ah)).trans ah)⟩ (fun hHeld=>?_)
            clear hK K
            refine norm_ (a':=?_) ?_ ?_
            rotate_left
            ·show Act.put _ (some 6) _=_
             simp only [Act.put,List.setIfInBounds_toArray,List.set_cons_zero,List.set_cons_succ,i64_w,i32_w]
             rfl
            refine on_ 17 (some 34) (fun K hK=>?_)
            refine goes_ Try.func151 (by kernel_rfl) rfl #[.agg #[.int .i64 aH, .int .i64 aI]] (by rfl) rfl rfl (by(try simp only [List.map_toArray,List.map_cons,List.map_nil]);first | done | rfl | (simp only [List.length_drop,List.length_take];rfl)) ?_
            with_reducible refine(spec_l01Told.calls k1 aH aI aC aD aJ _ A11.out).mono ?_
            rintro e w18 ⟨rfl,hb⟩
            refine⟨_,rfl,?_⟩
            replace av:=Aside0.mk (rb_ av.out hb)
            replace aa:=Aside0.mk (bb_ aa.out hb)
            replace aw:=Aside0.mk (bb_ aw.out hb)
            replace HB:=Aside0.mk (bs_ hb)
            (try clear hb)
            (try clear hb2)
            (try clear hk)
            (try clear hi)
            refine hK.out _ _ ⟨(blk_cell aa.out 0).trans rfl,(blk_cell aa.out 1).trans rfl,(blk_cell aa.out 2).trans rfl,((HB.out.cell (World.block_lt_of_cell? w _ af)).trans af),((HB.out.cell (World.block_lt_of_cell? w _ ag)).trans ag),((HB.out.cell (World.block_lt_of_cell? w _ ah)).trans ah)⟩ (fun hHeld=>?_)
            clear hK K
            refine norm_ (a':=?_) ?_ ?_
            rotate_left
            ·show Act.put _ (some 34) _=_
             simp only [Act.put,List.setIfInBounds_toArray,List.set_cons_zero,List.set_cons_succ,i64_w,i32_w]
             rfl
            refine pu_ 18 16 ?_;refine pu_ 19 35 ?_;refine pu_ 20 36 ?_
            exact norm_ (by simp only [putAll,Act.put,List.setIfInBounds_toArray,List.set_cons_zero,List.set_cons_succ]) (hCont (ae) _ ⟨hHeld,(by(with_reducible repeat (first | apply Kd.R_alloc | apply Kd.R_drewN | apply Kd.R_drew));exact Kd.R_mono av.out (fun _ hk=>hk.2)),bk_,bk_,ai.out,aT.out,aj.out,ax.out,hb_⟩)
          ·skip
           refine box_step ?hg (N:=6) ?hd (cs:= #[.int .i64 0, .int .i64 0]) (t:=93) ?hr ?_;(case hd=>rfl);(case hg=>rfl);(case hr=>first | (go_simp;done) | (go_simp;rfl))
           intro ae hg w16 hbox hb
           replace av:=Aside0.mk (Kd.R_below (Kd.R_elderB (ro_ av.out) ae (Nat.le_of_eq hg.symm)) hb)
           have aw:=Aside0.mk (hbox)
           have ai:=Aside0.mk ((by rw [hg];exact bz_:w.heap.size≤ae))
           have aT:=Aside0.mk ((by rw [hg];exact bz_:w.heap.size≤ae))
           have aj:=Aside0.mk ((by rw [hg];exact lt_ aa.out:au≠ae))
           have ax:=Aside0.mk ((by rw [hg];exact gt_ aa.out:ae≠au))
           replace aa:=Aside0.mk (bb_ aa.out hb)
           replace HB:=Aside0.mk (bs_ hb)
           clear hb hbox hg
           refine hK.out _ _ ⟨(blk_cell aa.out 0).trans rfl,(blk_cell aa.out 1).trans rfl,(blk_cell aa.out 2).trans rfl,((HB.out.cell (World.block_lt_of_cell? w _ af)).trans af),((HB.out.cell (World.block_lt_of_cell? w _ ag)).trans ag),((HB.out.cell (World.block_lt_of_cell? w _ ah)).trans ah)⟩ (fun hHeld=>?_)
           clear hK K
           refine norm_ (a':=?_) ?_ ?_
           rotate_left
           ·show Act.put _ (some 6) _=_
            simp only [Act.put,List.setIfInBounds_toArray,List.set_cons_zero,List.set_cons_succ,i64_w,i32_w]
            rfl
           refine on_ 16 (some 33) (fun K hK=>?_)
           refine goes_ Try.func152 (by kernel_rfl) rfl #[.int .i64 (rd (rd_L1 aq ak) (ji7)), .int .i64 a0_1] (by rfl) rfl rfl (by(try simp only [List.map_toArray,List.map_cons,List.map_nil]);first | done | (simp only [hji7];rfl) | rfl | (simp only [List.length_drop,List.length_take];rfl)) ?_
           with_reducible refine(spec_l01Frac.calls k1 (rd (rd_L1 aq ak) (ji7)) a0_1 aH aI _ A10.out).mono ?_
           rintro e w17 ⟨rfl,hb⟩
           refine⟨_,rfl,?_⟩
           replace av:=Aside0.mk (rb_ av.out hb)
           replace aa:=Aside0.mk (bb_ aa.out hb)
           replace aw:=Aside0.mk (bb_ aw.out hb)
           replace HB:=Aside0.mk (bs_ hb)
           (try clear hb)
           (try clear hb2)
           (try clear hk)
           (try clear hi)
           refine hK.out _ _ ⟨(blk_cell aa.out 0).trans rfl,(blk_cell aa.out 1).trans rfl,(blk_cell aa.out 2).trans rfl,((HB.out.cell (World.block_lt_of_cell? w _ af)).trans af),((HB.out.cell (World.block_lt_of_cell? w _ ag)).trans ag),((HB.out.cell (World.block_lt_of_cell? w _ ah)).trans ah)⟩ (fun hHeld=>?_)
           clear hK K
           refine norm_ (a':=?_) ?_ ?_
           rotate_left
           ·show Act.put _ (some 33) _=_
            simp only [Act.put,List.setIfInBounds_toArray,List.set_cons_zero,List.set_cons_succ,i64_w,i32_w]
            rfl
           refine on_ 17 (some 34) (fun K hK=>?_)
           refine goes_ Try.func151 (by kernel_rfl) rfl #[.agg #[.int .i64 aH, .int .i64 aI]] (by rfl) rfl rfl (by(try simp only [List.map_toArray,List.map_cons,List.map_nil]);first | done | rfl | (simp only [List.length_drop,List.length_take];rfl)) ?_
           with_reducible refine(spec_l01Told.calls k1 aH aI aC aD aJ _ A11.out).mono ?_
           rintro e w18 ⟨rfl,hb⟩
           refine⟨_,rfl,?_⟩
           replace av:=Aside0.mk (rb_ av.out hb)
           replace aa:=Aside0.mk (bb_ aa.out hb)
           replace aw:=Aside0.mk (bb_ aw.out hb)
           replace HB:=Aside0.mk (bs_ hb)
           (try clear hb)
           (try clear hb2)
           (try clear hk)
           (try clear hi)
           refine hK.out _ _ ⟨(blk_cell aa.out 0).trans rfl,(blk_cell aa.out 1).trans rfl,(blk_cell aa.out 2).trans rfl,((HB.out.cell (World.block_lt_of_cell? w _ af)).trans af),((HB.out.cell (World.block_lt_of_cell? w _ ag)).trans ag),((HB.out.cell (World.block_lt_of_cell? w _ ah)).trans ah)⟩ (fun hHeld=>?_)
           clear hK K
           refine norm_ (a':=?_) ?_ ?_
           rotate_left
           ·show Act.put _ (some 34) _=_
            simp only [Act.put,List.setIfInBounds_toArray,List.set_cons_zero,List.set_cons_succ,i64_w,i32_w]
            rfl
           refine pu_ 18 16 ?_;refine pu_ 19 35 ?_;refine pu_ 20 36 ?_
           exact norm_ (by simp only [putAll,Act.put,List.setIfInBounds_toArray,List.set_cons_zero,List.set_cons_succ]) (hCont (ae) _ ⟨hHeld,(by(with_reducible repeat (first | apply Kd.R_alloc | apply Kd.R_drewN | apply Kd.R_drew));exact Kd.R_mono av.out (fun _ hk=>hk.2)),bk_,bk_,ai.out,aT.out,aj.out,ax.out,hb_⟩)
         rintro ae w19 ⟨hS_,h0_,h1_,h2_,h3_,h4_,h5_,h6_,h7_⟩
         have n0_:Aside0 (Kd.R k93 93 w19 w.heap.size (fun k_=>k_≠ae) u4 aU):=⟨h0_⟩
         have n1_:Aside0 (w19.heap[au]?=some (.cells #[.slice (some ay) aq.length aK, .int .i64 a0_1, .slice aM az.length aN] 100 (0,0))):=⟨h1_⟩
         have n2_:Aside0 (w19.heap[ae]?=some (.cells #[.int .i64 0, .int .i64 0] 93 (0,0))):=⟨h2_⟩
         have n3_:Aside0 (w.heap.size≤ae):=⟨h3_⟩
         have n4_:Aside0 (w.heap.size≤ae):=⟨h4_⟩
         have n5_:Aside0 (au≠ae):=⟨h5_⟩
         have n6_:Aside0 (ae≠au):=⟨h6_⟩
         have n7_:Aside0 (Below w.heap.size w w19):=⟨h7_⟩
         clear av aa HB h0_ h1_ h2_ h3_ h4_ h5_ h6_ h7_
         have av:=n0_
         have aa:=n1_
         have aw:=n2_
         have ai:=n3_
         have aT:=n4_
         have aj:=n5_
         have ax:=n6_
         have HB:=n7_
         clear n0_ n1_ n2_ n3_ n4_ n5_ n6_ n7_
         have hHeld:w19.cell? ⟨au,0,none⟩=some (.slice (some ay) aq.length aK)∧w19.cell? ⟨au,1,none⟩=some (.int .i64 a0_1)∧w19.cell? ⟨au,2,none⟩=some (.slice aM az.length aN)∧w19.cell? (ay.add (ak).toNat)=some (.slice (some aA) (rd_L1 aq ak).length aG)∧w19.cell? (ay.add (ak).toNat)=some (.slice (some aA) (rd_L1 aq ak).length aG)∧w19.cell? (aA.add ((ji7)).toNat)=some (.int .i64 (rd (rd_L1 aq ak) (ji7))):=hS_
         refine norm_ (a':=?_) ?_ ?_
         rotate_left
         ·simp only [putAll,Act.put,List.setIfInBounds_toArray,List.set_cons_zero,List.set_cons_succ]
          rfl
         refine on_ 22 none (fun K hK=>?_)
         have hs20:w19.cell? ⟨ae,0,none⟩=some (.int .i64 0):=(blk_cell aw.out 0).trans rfl
         have hfs20:=blk_frozen aw.out 0
         have hns20_0:=aj.out
         have hms20_0:=ax.out
         have hs21:w19.cell? ⟨ae,1,none⟩=some (.int .i64 0):=(blk_cell aw.out 1).trans rfl
         have hfs21:=blk_frozen aw.out 1
         have hns21_0:=aj.out
         have hms21_0:=ax.out
         refine skip_ (w1:=?_) (by rfl) rfl ?_ ?_
         rotate_left
         ·go_simp
          rfl
         refine hK.out _ _ ⟨((cell_far (p:=⟨ae,_,none⟩) aj.out _).trans (((cell_far (p:=⟨ae,_,none⟩) aj.out _).trans (hHeld.1)))),((cell_far (p:=⟨ae,_,none⟩) aj.out _).trans (((cell_far (p:=⟨ae,_,none⟩) aj.out _).trans (hHeld.2.1)))),((cell_far (p:=⟨ae,_,none⟩) aj.out _).trans (((cell_far (p:=⟨ae,_,none⟩) aj.out _).trans (hHeld.2.2.1)))),((cell_far (p:=⟨ae,_,none⟩) (by first | exact Nat.ne_of_lt (Nat.lt_of_lt_of_le (by have:=World.block_lt_of_cell? _ _ af;first | rwa [add_block] at this | exact this) ai.out) | (rw [add_block];exact Nat.ne_of_lt (Nat.lt_of_lt_of_le (by have:=World.block_lt_of_cell? _ _ af;first | rwa [add_block] at this | exact this) ai.out)) | (show (Addr.add _ _).block≠_;rw [add_block];exact Nat.ne_of_lt (Nat.lt_of_lt_of_le (by have:=World.block_lt_of_cell? _ _ af;first | rwa [add_block] at this | exact this) ai.out)) | (dsimp only;exact Nat.ne_of_lt (Nat.lt_of_lt_of_le (by have:=World.block_lt_of_cell? _ _ af;first | rwa [add_block] at this | exact this) ai.out))) _).trans (((cell_far (p:=⟨ae,_,none⟩) (by first | exact Nat.ne_of_lt (Nat.lt_of_lt_of_le (by have:=World.block_lt_of_cell? _ _ af;first | rwa [add_block] at this | exact this) ai.out) | (rw [add_block];exact Nat.ne_of_lt (Nat.lt_of_lt_of_le (by have:=World.block_lt_of_cell? _ _ af;first | rwa [add_block] at this | exact this) ai.out)) | (show (Addr.add _ _).block≠_;rw [add_block];exact Nat.ne_of_lt (Nat.lt_of_lt_of_le (by have:=World.block_lt_of_cell? _ _ af;first | rwa [add_block] at this | exact this) ai.out)) | (dsimp only;exact Nat.ne_of_lt (Nat.lt_of_lt_of_le (by have:=World.block_lt_of_cell? _ _ af;first | rwa [add_block] at this | exact this) ai.out))) _).trans (hHeld.2.2.2.1)))),((cell_far (p:=⟨ae,_,none⟩) (by first | exact Nat.ne_of_lt (Nat.lt_of_lt_of_le (by have:=World.block_lt_of_cell? _ _ ag;first | rwa [add_block] at this | exact this) ai.out) | (rw [add_block];exact Nat.ne_of_lt (Nat.lt_of_lt_of_le (by have:=World.block_lt_of_cell? _ _ ag;first | rwa [add_block] at this | exact this) ai.out)) | (show (Addr.add _ _).block≠_;rw [add_block];exact Nat.ne_of_lt (Nat.lt_of_lt_of_le (by have:=World.block_lt_of_cell? _ _ ag;first | rwa [add_block] at this | exact this) ai.out)) | (dsimp only;exact Nat.ne_of_lt (Nat.lt_of_lt_of_le (by have:=World.block_lt_of_cell? _ _ ag;first | rwa [add_block] at this | exact this) ai.out))) _).trans (((cell_far (p:=⟨ae,_,none⟩) (by first | exact Nat.ne_of_lt (Nat.lt_of_lt_of_le (by have:=World.block_lt_of_cell? _ _ ag;first | rwa [add_block] at this | exact this) ai.out) | (rw [add_block];exact Nat.ne_of_lt (Nat.lt_of_lt_of_le (by have:=World.block_lt_of_cell? _ _ ag;first | rwa [add_block] at this | exact this) ai.out)) | (show (Addr.add _ _).block≠_;rw [add_block];exact Nat.ne_of_lt (Nat.lt_of_lt_of_le (by have:=World.block_lt_of_cell? _ _ ag;first | rwa [add_block] at this | exact this) ai.out)) | (dsimp only;exact Nat.ne_of_lt (Nat.lt_of_lt_of_le (by have:=World.block_lt_of_cell? _ _ ag;first | rwa [add_block] at this | exact this) ai.out))) _).trans (hHeld.2.2.2.2.1)))),((cell_far (p:=⟨ae,_,none⟩) (by first | exact Nat.ne_of_lt (Nat.lt_of_lt_of_le (by have:=World.block_lt_of_cell? _ _ ah;first | rwa [add_block] at this | exact this) ai.out) | (rw [add_block];exact Nat.ne_of_lt (Nat.lt_of_lt_of_le (by have:=World.block_lt_of_cell? _ _ ah;first | rwa [add_block] at this | exact this) ai.out)) | (show (Addr.add _ _).block≠_;rw [add_block];exact Nat.ne_of_lt (Nat.lt_of_lt_of_le (by have:=World.block_lt_of_cell? _ _ ah;first | rwa [add_block] at this | exact this) ai.out)) | (dsimp only;exact Nat.ne_of_lt (Nat.lt_of_lt_of_le (by have:=World.block_lt_of_cell? _ _ ah;first | rwa [add_block] at this | exact this) ai.out))) _).trans (((cell_far (p:=⟨ae,_,none⟩) (by first | exact Nat.ne_of_lt (Nat.lt_of_lt_of_le (by have:=World.block_lt_of_cell? _ _ ah;first | rwa [add_block] at this | exact this) ai.out) | (rw [add_block];exact Nat.ne_of_lt (Nat.lt_of_lt_of_le (by have:=World.block_lt_of_cell? _ _ ah;first | rwa [add_block] at this | exact this) ai.out)) | (show (Addr.add _ _).block≠_;rw [add_block];exact Nat.ne_of_lt (Nat.lt_of_lt_of_le (by have:=World.block_lt_of_cell? _ _ ah;first | rwa [add_block] at this | exact this) ai.out)) | (dsimp only;exact Nat.ne_of_lt (Nat.lt_of_lt_of_le (by have:=World.block_lt_of_cell? _ _ ah;first | rwa [add_block] at this | exact this) ai.out))) _).trans (hHeld.2.2.2.2.2))))⟩ (fun hHeld=>?_)
         clear hK K
         refine pu_ 23 7 ?_
         refine done_ (done_of HT_.out (by kernel_rfl)) ?_
         have bZ:=ax.out
         have ck:=aj.out
         have bG:w19.cell? ⟨ae,0,none⟩=some (.int .i64 0):=(blk_cell aw.out 0).trans rfl
         have bH:w19.cell? ⟨ae,1,none⟩=some (.int .i64 0):=(blk_cell aw.out 1).trans rfl
         have bI:=blk_frozen aw.out 0
         have bJ:=blk_frozen aw.out 1
         try go_wp2_with (first | ((with_reducible refine gate_builtin (b:= .append) (xs:= #[.tmp 40, .tmp 42]) rfl ?_);at_builtin;refine Kd.R_append k93 (w0:=w) w.heap.size rfl (.tmp 40) (.tmp 42) 27 93 (.agg #[(.int .i64 0),(.int .i64 0)]) 16 rfl Try.underlying27 info93 rfl (by decide) (by omega) u4 aU (⟨aC,aD⟩:S93) [.int .i64 aC, .int .i64 aD] (fun k_=>k_≠ae) (fun _=>False) rfl (by first | (go_simp;done) | (go_simp;rfl)) ?aP (fun _ hk=>hk.elim) ?aF ?aO ?aB ?aS ?aL ?_;(case aP=>exact k93_mkM _ _ _ (⟨aC,aD⟩:S93));(case aB=>exact hb_);(case aF=>exact(fun k_ hk=>Kd.freshB (g:=ae) (o:= .cells #[.int .i64 aC, .int .i64 aD] 93 (0,0)) (by(with_reducible repeat (first | refine blk_drewN ?_ _ | refine blk_drew ?_ | refine blk_alloc ?_ _));refine blk_put (cs:= #[.int .i64 aC, .int .i64 0]) ?_ 1 _ rfl;(with_reducible repeat (first | refine blk_drewN ?_ _ | refine blk_drew ?_ | refine blk_alloc ?_ _));refine blk_put (cs:= #[.int .i64 0, .int .i64 0]) ?_ 0 _ rfl;(with_reducible repeat (first | refine blk_drewN ?_ _ | refine blk_drew ?_ | refine blk_alloc ?_ _));exact aw.out) k_ hk));(case aO=>exact(by(with_reducible repeat (first | apply Kd.R_alloc | apply Kd.R_drewN | apply Kd.R_drew));exact Kd.R_mono (Kd.R_far (p:=⟨ae,1,none⟩) (Kd.R_far (p:=⟨ae,0,none⟩) (Kd.R_mono av.out (fun k_ hk=>(⟨hk,hk⟩:_∧k_≠ae))) (fun _ hk=>hk.2) (.int .i64 aC)) (fun _ hk=>hk.2) (.int .i64 aD)) (fun _ hk=>hk.1)));(case aS=>exact bz_);(case aL=>have:=bv.out;omega);intro cn w24 ho hb hg hat;rw [← bw.out] at ho;replace aa:=Aside0.mk (blk_grown (g:=au) (o:= .cells #[.slice (some ay) aq.length aK, .int .i64 a0_1, .slice aM az.length aN] 100 (0,0)) (by(with_reducible repeat (first | refine blk_drewN ?_ _ | refine blk_drew ?_ | refine blk_alloc ?_ _));refine blk_far ?_ aj.out _;(with_reducible repeat (first | refine blk_drewN ?_ _ | refine blk_drew ?_ | refine blk_alloc ?_ _));refine blk_far ?_ aj.out _;(with_reducible repeat (first | refine blk_drewN ?_ _ | refine blk_drew ?_ | refine blk_alloc ?_ _));exact aa.out) hg (Kd.R_ne av.out aa.out (by decide)));replace aw:=Aside0.mk (blk_grown (g:=ae) (o:= .cells #[.int .i64 aC, .int .i64 aD] 93 (0,0)) (by(with_reducible repeat (first | refine blk_drewN ?_ _ | refine blk_drew ?_ | refine blk_alloc ?_ _));refine blk_put (cs:= #[.int .i64 aC, .int .i64 0]) ?_ 1 _ rfl;(with_reducible repeat (first | refine blk_drewN ?_ _ | refine blk_drew ?_ | refine blk_alloc ?_ _));refine blk_put (cs:= #[.int .i64 0, .int .i64 0]) ?_ 0 _ rfl;(with_reducible repeat (first | refine blk_drewN ?_ _ | refine blk_drew ?_ | refine blk_alloc ?_ _));exact aw.out) hg (Kd.R_away av.out (fun _ hk=>hk)));replace HB:=Aside0.mk (hb);have bz:=Aside0.mk (ho);clear av ho hb hg hat))
         go_roundg k1
         case measure=>have:=HK1.out;omega
         case rel=>exact⟨(bi),(wrap64 (ak+1)),rs_,H',⟨by have:=HK1.out;omega⟩,⟨by(with_reducible repeat (first | apply Kd.R_alloc | apply Kd.R_drewN | apply Kd.R_drew));exact Kd.R_mono bz.out (fun _ hk=>trivial)⟩,⟨bk_⟩,⟨hb_⟩⟩
        ·rw [if_neg c13] at H
         exact absurd H (by simp)
       ·rw [if_neg c12] at H
        have c12b0:(aJ==0)=false:=beq_eq_false_iff_ne.mpr c12
        have c12b1:(aJ !=0)=true:=bne_iff_ne.mpr c12
        simp only [Option.some.injEq,Prod.mk.injEq] at H
        obtain⟨rfl,rfl⟩:=H
        have bK:wr.cell? ⟨au,0,none⟩=some (.slice aW aq.length aK):=(blk_cell aa.out 0).trans rfl
        have bL:wr.cell? ⟨au,1,none⟩=some (.int .i64 a0_1):=(blk_cell aa.out 1).trans rfl
        have bM:wr.cell? ⟨au,2,none⟩=some (.slice aM az.length aN):=(blk_cell aa.out 2).trans rfl
        have bN:=blk_frozen aa.out 0
        have bO:=blk_frozen aa.out 1
        have bP:=blk_frozen aa.out 2
        try go_wp2
        replace av:=Aside0.mk (Kd.R_drew av.out)
        replace aa:=Aside0.mk (blk_drew aa.out)
        replace HB:=Aside0.mk (below_drew1 HB.out)
        have p305:0≤(ak:Int):=od_
        have q305:ak < (aq.length:Int):=od_
        obtain⟨ay,bk,aG,e305,hx305_0,hl305_0,hi305_0⟩:=at_L1 HR0_0.out ak p305 q305
        have af:=hx305_0
        cases e305
        replace hx305_0:=(HB.out.cell (World.block_lt_of_cell? w _ hx305_0)).trans hx305_0
        have HR305_0:=Aside0.mk hi305_0
        have HC305_0:=Aside0.mk hl305_0
        clear hi305_0 hl305_0
        replace p305:=eq_true p305
        replace q305:=eq_true q305
        have p306:0≤(ak:Int):=od_
        have q306:ak < (aq.length:Int):=od_
        obtain⟨aX,bn,bq,e306,hx306_0,hl306_0,hi306_0⟩:=at_L1 HR0_0.out ak p306 q306
        have ag:=hx306_0
        obtain rfl:ay=aX:=(by injection e306)
        replace hx306_0:=(HB.out.cell (World.block_lt_of_cell? w _ hx306_0)).trans hx306_0
        have HR306_0:=Aside0.mk hi306_0
        have HC306_0:=Aside0.mk hl306_0
        clear hi306_0 hl306_0
        replace p306:=eq_true p306
        replace q306:=eq_true q306
        have ea_:=Option.some.inj (hx305_0.symm.trans hx306_0)
        injection ea_ with ea_ en_ ec_
        subst ea_
        subst ec_
        clear en_
        have p307:0≤((ji7):Int):=od_
        have q307:(ji7) < ((rd_L1 aq ak).length:Int):=od_
        obtain⟨aA,e307,hx307_0⟩:=Kd.at_int HR305_0.out (ji7) p307 q307
        have ah:=hx307_0
        cases e307
        replace hx307_0:=(HB.out.cell (World.block_lt_of_cell? w _ hx307_0)).trans hx307_0
        replace p307:=eq_true p307
        replace q307:=eq_true q307
        refine st_ (n:=24) (S:=fun w'=>w'.cell? ⟨au,0,none⟩=some (.slice (some ay) aq.length aK)∧w'.cell? ⟨au,1,none⟩=some (.int .i64 a0_1)∧w'.cell? ⟨au,2,none⟩=some (.slice aM az.length aN)∧w'.cell? (ay.add (ak).toNat)=some (.slice (some aA) (rd_L1 aq ak).length aG)∧w'.cell? (ay.add (ak).toNat)=some (.slice (some aA) (rd_L1 aq ak).length aG)∧w'.cell? (aA.add ((ji7)).toNat)=some (.int .i64 (rd (rd_L1 aq ak) (ji7)))) (ds:= []) ⟨(blk_cell aa.out 0).trans rfl,(blk_cell aa.out 1).trans rfl,(blk_cell aa.out 2).trans rfl,((HB.out.cell (World.block_lt_of_cell? w _ af)).trans af),((HB.out.cell (World.block_lt_of_cell? w _ ag)).trans ag),((HB.out.cell (World.block_lt_of_cell? w _ ah)).trans ah)⟩ (fun hHeld=>?_);refine with_tabW spec_l05Right.tab5 spec_l05Right.bits5 (fun HT_ HW_=>?_)
        generalize wr.drew=w26 at av aa HB HR305_0 HR306_0 hx305_0 hx306_0 hx307_0 hHeld ⊢
        refine pu_ 0 17 ?_;refine pu_ 2 19 ?_;refine pu_ 5 22 ?_;refine pu_ 7 24 ?_;refine pu_ 14 31 ?_;refine tk_ 1 18 ?_;refine pu_ 3 20 ?_;refine tk_ 4 21 ?_;refine tk_ 6 23 ?_;refine pu_ 8 25 ?_;refine tk_ 9 26 ?_;refine pu_ 10 27 ?_;refine pu_ 11 28 ?_;refine pu_ 12 29 ?_;refine tk_ 13 30 ?_;refine tk_ 15 32 ?_
        refine join_ (σ:=Nat) 2 (fm 24 4194303) (fun s_=> [(33, .agg #[.int .i64 aH, .int .i64 aI]),(34, .tuple #[.agg #[.int .i64 aC, .int .i64 aD], .int .i64 aJ]),(6, .pointer (some ⟨s_,0,none⟩)),(16, .tuple #[.agg #[.int .i64 aC, .int .i64 aD], .int .i64 aJ]),(35, .agg #[.int .i64 aC, .int .i64 aD]),(36, .int .i64 aJ)]) (fun s_ w'=>(w'.cell? ⟨au,0,none⟩=some (.slice (some ay) aq.length aK)∧w'.cell? ⟨au,1,none⟩=some (.int .i64 a0_1)∧w'.cell? ⟨au,2,none⟩=some (.slice aM az.length aN)∧w'.cell? (ay.add (ak).toNat)=some (.slice (some aA) (rd_L1 aq ak).length aG)∧w'.cell? (ay.add (ak).toNat)=some (.slice (some aA) (rd_L1 aq ak).length aG)∧w'.cell? (aA.add ((ji7)).toNat)=some (.int .i64 (rd (rd_L1 aq ak) (ji7))))∧(Kd.R k93 93 w' w.heap.size (fun k_=>k_≠s_) u4 aU)∧(w'.heap[au]?=some (.cells #[.slice (some ay) aq.length aK, .int .i64 a0_1, .slice aM az.length aN] 100 (0,0)))∧(w'.heap[s_]?=some (.cells #[.int .i64 0, .int .i64 0] 93 (0,0)))∧(w.heap.size≤s_)∧(w.heap.size≤s_)∧(au≠s_)∧(s_≠au)∧(Below w.heap.size w w')) ?_ ?_
        rotate_left
        ·intro hCont
         refine two_ (i:=16) (j:=21) (Ni:=some 33) (Nj:=some 6) (fm 24 131071) (fm 24 2162687) rfl rfl rfl rfl (two_of HT_.out (by kernel_rfl)) (by decide) (by decide) (fun K hK=>?_) (fun K hK=>?_)
         ·skip
          refine goes_ Try.func152 (by kernel_rfl) rfl #[.int .i64 (rd (rd_L1 aq ak) (ji7)), .int .i64 a0_1] (by rfl) rfl rfl (by(try simp only [List.map_toArray,List.map_cons,List.map_nil]);first | done | (simp only [hji7];rfl) | rfl | (simp only [List.length_drop,List.length_take];rfl)) ?_
          with_reducible refine(spec_l01Frac.calls k1 (rd (rd_L1 aq ak) (ji7)) a0_1 aH aI _ A10.out).mono ?_
          rintro e w27 ⟨rfl,hb⟩
          refine⟨_,rfl,?_⟩
          replace av:=Aside0.mk (rb_ av.out hb)
          replace aa:=Aside0.mk (bb_ aa.out hb)
          replace HB:=Aside0.mk (bs_ hb)
          (try clear hb)
          (try clear hb2)
          (try clear hk)
          (try clear hi)
          refine hK.out _ _ ⟨(blk_cell aa.out 0).trans rfl,(blk_cell aa.out 1).trans rfl,(blk_cell aa.out 2).trans rfl,((HB.out.cell (World.block_lt_of_cell? w _ af)).trans af),((HB.out.cell (World.block_lt_of_cell? w _ ag)).trans ag),((HB.out.cell (World.block_lt_of_cell? w _ ah)).trans ah)⟩ (fun hHeld=>?_)
          clear hK K
          refine norm_ (a':=?_) ?_ ?_
          rotate_left
          ·show Act.put _ (some 33) _=_
           simp only [Act.put,List.setIfInBounds_toArray,List.set_cons_zero,List.set_cons_succ,i64_w,i32_w]
           rfl
          refine two_ (i:=17) (j:=21) (Ni:=some 34) (Nj:=some 6) (fm 24 262143) (fm 24 2228223) rfl rfl rfl rfl (two_of HT_.out (by kernel_rfl)) (by decide) (by decide) (fun K hK=>?_) (fun K hK=>?_)
          ·skip
           refine goes_ Try.func151 (by kernel_rfl) rfl #[.agg #[.int .i64 aH, .int .i64 aI]] (by rfl) rfl rfl (by(try simp only [List.map_toArray,List.map_cons,List.map_nil]);first | done | rfl | (simp only [List.length_drop,List.length_take];rfl)) ?_
           with_reducible refine(spec_l01Told.calls k1 aH aI aC aD aJ _ A11.out).mono ?_
           rintro e w28 ⟨rfl,hb⟩
           refine⟨_,rfl,?_⟩
           replace av:=Aside0.mk (rb_ av.out hb)
           replace aa:=Aside0.mk (bb_ aa.out hb)
           replace HB:=Aside0.mk (bs_ hb)
           (try clear hb)
           (try clear hb2)
           (try clear hk)
           (try clear hi)
           refine hK.out _ _ ⟨(blk_cell aa.out 0).trans rfl,(blk_cell aa.out 1).trans rfl,(blk_cell aa.out 2).trans rfl,((HB.out.cell (World.block_lt_of_cell? w _ af)).trans af),((HB.out.cell (World.block_lt_of_cell? w _ ag)).trans ag),((HB.out.cell (World.block_lt_of_cell? w _ ah)).trans ah)⟩ (fun hHeld=>?_)
           clear hK K
           refine norm_ (a':=?_) ?_ ?_
           rotate_left
           ·show Act.put _ (some 34) _=_
            simp only [Act.put,List.setIfInBounds_toArray,List.set_cons_zero,List.set_cons_succ,i64_w,i32_w]
            rfl
           refine pu_ 18 16 ?_;refine pu_ 19 35 ?_;refine pu_ 20 36 ?_
           refine on_ 21 (some 6) (fun K hK=>?_)
           refine box_step ?hg (N:=6) ?hd (cs:= #[.int .i64 0, .int .i64 0]) (t:=93) ?hr ?_;(case hd=>rfl);(case hg=>rfl);(case hr=>first | (go_simp;done) | (go_simp;rfl))
           intro ae hg w29 hbox hb
           replace av:=Aside0.mk (Kd.R_below (Kd.R_elderB (ro_ av.out) ae (Nat.le_of_eq hg.symm)) hb)
           have aw:=Aside0.mk (hbox)
           have ai:=Aside0.mk ((by rw [hg];exact bz_:w.heap.size≤ae))
           have aT:=Aside0.mk ((by rw [hg];exact bz_:w.heap.size≤ae))
           have aj:=Aside0.mk ((by rw [hg];exact lt_ aa.out:au≠ae))
           have ax:=Aside0.mk ((by rw [hg];exact gt_ aa.out:ae≠au))
           replace aa:=Aside0.mk (bb_ aa.out hb)
           replace HB:=Aside0.mk (bs_ hb)
           clear hb hbox hg
           refine hK.out _ _ ⟨(blk_cell aa.out 0).trans rfl,(blk_cell aa.out 1).trans rfl,(blk_cell aa.out 2).trans rfl,((HB.out.cell (World.block_lt_of_cell? w _ af)).trans af),((HB.out.cell (World.block_lt_of_cell? w _ ag)).trans ag),((HB.out.cell (World.block_lt_of_cell? w _ ah)).trans ah)⟩ (fun hHeld=>?_)
           clear hK K
           refine norm_ (a':=?_) ?_ ?_
           rotate_left
           ·show Act.put _ (some 6) _=_
            simp only [Act.put,List.setIfInBounds_toArray,List.set_cons_zero,List.set_cons_succ,i64_w,i32_w]
            rfl
           exact norm_ (by simp only [putAll,Act.put,List.setIfInBounds_toArray,List.set_cons_zero,List.set_cons_succ]) (hCont (ae) _ ⟨hHeld,(by(with_reducible repeat (first | apply Kd.R_alloc | apply Kd.R_drewN | apply Kd.R_drew));exact Kd.R_mono av.out (fun _ hk=>hk.2)),bk_,bk_,ai.out,aT.out,aj.out,ax.out,hb_⟩)
          ·skip
           refine box_step ?hg (N:=6) ?hd (cs:= #[.int .i64 0, .int .i64 0]) (t:=93) ?hr ?_;(case hd=>rfl);(case hg=>rfl);(case hr=>first | (go_simp;done) | (go_simp;rfl))
           intro ae hg w28 hbox hb
           replace av:=Aside0.mk (Kd.R_below (Kd.R_elderB (ro_ av.out) ae (Nat.le_of_eq hg.symm)) hb)
           have aw:=Aside0.mk (hbox)
           have ai:=Aside0.mk ((by rw [hg];exact bz_:w.heap.size≤ae))
           have aT:=Aside0.mk ((by rw [hg];exact bz_:w.heap.size≤ae))
           have aj:=Aside0.mk ((by rw [hg];exact lt_ aa.out:au≠ae))
           have ax:=Aside0.mk ((by rw [hg];exact gt_ aa.out:ae≠au))
           replace aa:=Aside0.mk (bb_ aa.out hb)
           replace HB:=Aside0.mk (bs_ hb)
           clear hb hbox hg
           refine hK.out _ _ ⟨(blk_cell aa.out 0).trans rfl,(blk_cell aa.out 1).trans rfl,(blk_cell aa.out 2).trans rfl,((HB.out.cell (World.block_lt_of_cell? w _ af)).trans af),((HB.out.cell (World.block_lt_of_cell? w _ ag)).trans ag),((HB.out.cell (World.block_lt_of_cell? w _ ah)).trans ah)⟩ (fun hHeld=>?_)
           clear hK K
           refine norm_ (a':=?_) ?_ ?_
           rotate_left
           ·show Act.put _ (some 6) _=_
            simp only [Act.put,List.setIfInBounds_toArray,List.set_cons_zero,List.set_cons_succ,i64_w,i32_w]
            rfl
           refine on_ 17 (some 34) (fun K hK=>?_)
           refine goes_ Try.func151 (by kernel_rfl) rfl #[.agg #[.int .i64 aH, .int .i64 aI]] (by rfl) rfl rfl (by(try simp only [List.map_toArray,List.map_cons,List.map_nil]);first | done | rfl | (simp only [List.length_drop,List.length_take];rfl)) ?_
           with_reducible refine(spec_l01Told.calls k1 aH aI aC aD aJ _ A11.out).mono ?_
           rintro e w29 ⟨rfl,hb⟩
           refine⟨_,rfl,?_⟩
           replace av:=Aside0.mk (rb_ av.out hb)
           replace aa:=Aside0.mk (bb_ aa.out hb)
           replace aw:=Aside0.mk (bb_ aw.out hb)
           replace HB:=Aside0.mk (bs_ hb)
           (try clear hb)
           (try clear hb2)
           (try clear hk)
           (try clear hi)
           refine hK.out _ _ ⟨(blk_cell aa.out 0).trans rfl,(blk_cell aa.out 1).trans rfl,(blk_cell aa.out 2).trans rfl,((HB.out.cell (World.block_lt_of_cell? w _ af)).trans af),((HB.out.cell (World.block_lt_of_cell? w _ ag)).trans ag),((HB.out.cell (World.block_lt_of_cell? w _ ah)).trans ah)⟩ (fun hHeld=>?_)
           clear hK K
           refine norm_ (a':=?_) ?_ ?_
           rotate_left
           ·show Act.put _ (some 34) _=_
            simp only [Act.put,List.setIfInBounds_toArray,List.set_cons_zero,List.set_cons_succ,i64_w,i32_w]
            rfl
           refine pu_ 18 16 ?_;refine pu_ 19 35 ?_;refine pu_ 20 36 ?_
           exact norm_ (by simp only [putAll,Act.put,List.setIfInBounds_toArray,List.set_cons_zero,List.set_cons_succ]) (hCont (ae) _ ⟨hHeld,(by(with_reducible repeat (first | apply Kd.R_alloc | apply Kd.R_drewN | apply Kd.R_drew));exact Kd.R_mono av.out (fun _ hk=>hk.2)),bk_,bk_,ai.out,aT.out,aj.out,ax.out,hb_⟩)
         ·skip
          refine box_step ?hg (N:=6) ?hd (cs:= #[.int .i64 0, .int .i64 0]) (t:=93) ?hr ?_;(case hd=>rfl);(case hg=>rfl);(case hr=>first | (go_simp;done) | (go_simp;rfl))
          intro ae hg w27 hbox hb
          replace av:=Aside0.mk (Kd.R_below (Kd.R_elderB (ro_ av.out) ae (Nat.le_of_eq hg.symm)) hb)
          have aw:=Aside0.mk (hbox)
          have ai:=Aside0.mk ((by rw [hg];exact bz_:w.heap.size≤ae))
          have aT:=Aside0.mk ((by rw [hg];exact bz_:w.heap.size≤ae))
          have aj:=Aside0.mk ((by rw [hg];exact lt_ aa.out:au≠ae))
          have ax:=Aside0.mk ((by rw [hg];exact gt_ aa.out:ae≠au))
          replace aa:=Aside0.mk (bb_ aa.out hb)
          replace HB:=Aside0.mk (bs_ hb)
          clear hb hbox hg
          refine hK.out _ _ ⟨(blk_cell aa.out 0).trans rfl,(blk_cell aa.out 1).trans rfl,(blk_cell aa.out 2).trans rfl,((HB.out.cell (World.block_lt_of_cell? w _ af)).trans af),((HB.out.cell (World.block_lt_of_cell? w _ ag)).trans ag),((HB.out.cell (World.block_lt_of_cell? w _ ah)).trans ah)⟩ (fun hHeld=>?_)
          clear hK K
          refine norm_ (a':=?_) ?_ ?_
          rotate_left
          ·show Act.put _ (some 6) _=_
           simp only [Act.put,List.setIfInBounds_toArray,List.set_cons_zero,List.set_cons_succ,i64_w,i32_w]
           rfl
          refine on_ 16 (some 33) (fun K hK=>?_)
          refine goes_ Try.func152 (by kernel_rfl) rfl #[.int .i64 (rd (rd_L1 aq ak) (ji7)), .int .i64 a0_1] (by rfl) rfl rfl (by(try simp only [List.map_toArray,List.map_cons,List.map_nil]);first | done | (simp only [hji7];rfl) | rfl | (simp only [List.length_drop,List.length_take];rfl)) ?_
          with_reducible refine(spec_l01Frac.calls k1 (rd (rd_L1 aq ak) (ji7)) a0_1 aH aI _ A10.out).mono ?_
          rintro e w28 ⟨rfl,hb⟩
          refine⟨_,rfl,?_⟩
          replace av:=Aside0.mk (rb_ av.out hb)
          replace aa:=Aside0.mk (bb_ aa.out hb)
          replace aw:=Aside0.mk (bb_ aw.out hb)
          replace HB:=Aside0.mk (bs_ hb)
          (try clear hb)
          (try clear hb2)
          (try clear hk)
          (try clear hi)
          refine hK.out _ _ ⟨(blk_cell aa.out 0).trans rfl,(blk_cell aa.out 1).trans rfl,(blk_cell aa.out 2).trans rfl,((HB.out.cell (World.block_lt_of_cell? w _ af)).trans af),((HB.out.cell (World.block_lt_of_cell? w _ ag)).trans ag),((HB.out.cell (World.block_lt_of_cell? w _ ah)).trans ah)⟩ (fun hHeld=>?_)
          clear hK K
          refine norm_ (a':=?_) ?_ ?_
          rotate_left
          ·show Act.put _ (some 33) _=_
           simp only [Act.put,List.setIfInBounds_toArray,List.set_cons_zero,List.set_cons_succ,i64_w,i32_w]
           rfl
          refine on_ 17 (some 34) (fun K hK=>?_)
          refine goes_ Try.func151 (by kernel_rfl) rfl #[.agg #[.int .i64 aH, .int .i64 aI]] (by rfl) rfl rfl (by(try simp only [List.map_toArray,List.map_cons,List.map_nil]);first | done | rfl | (simp only [List.length_drop,List.length_take];rfl)) ?_
          with_reducible refine(spec_l01Told.calls k1 aH aI aC aD aJ _ A11.out).mono ?_
          rintro e w29 ⟨rfl,hb⟩
          refine⟨_,rfl,?_⟩
          replace av:=Aside0.mk (rb_ av.out hb)
          replace aa:=Aside0.mk (bb_ aa.out hb)
          replace aw:=Aside0.mk (bb_ aw.out hb)
          replace HB:=Aside0.mk (bs_ hb)
          (try clear hb)
          (try clear hb2)
          (try clear hk)
          (try clear hi)
          refine hK.out _ _ ⟨(blk_cell aa.out 0).trans rfl,(blk_cell aa.out 1).trans rfl,(blk_cell aa.out 2).trans rfl,((HB.out.cell (World.block_lt_of_cell? w _ af)).trans af),((HB.out.cell (World.block_lt_of_cell? w _ ag)).trans ag),((HB.out.cell (World.block_lt_of_cell? w _ ah)).trans ah)⟩ (fun hHeld=>?_)
          clear hK K
          refine norm_ (a':=?_) ?_ ?_
          rotate_left
          ·show Act.put _ (some 34) _=_
           simp only [Act.put,List.setIfInBounds_toArray,List.set_cons_zero,List.set_cons_succ,i64_w,i32_w]
           rfl
          refine pu_ 18 16 ?_;refine pu_ 19 35 ?_;refine pu_ 20 36 ?_
          exact norm_ (by simp only [putAll,Act.put,List.setIfInBounds_toArray,List.set_cons_zero,List.set_cons_succ]) (hCont (ae) _ ⟨hHeld,(by(with_reducible repeat (first | apply Kd.R_alloc | apply Kd.R_drewN | apply Kd.R_drew));exact Kd.R_mono av.out (fun _ hk=>hk.2)),bk_,bk_,ai.out,aT.out,aj.out,ax.out,hb_⟩)
        rintro ae w30 ⟨hS_,h0_,h1_,h2_,h3_,h4_,h5_,h6_,h7_⟩
        have n0_:Aside0 (Kd.R k93 93 w30 w.heap.size (fun k_=>k_≠ae) u4 aU):=⟨h0_⟩
        have n1_:Aside0 (w30.heap[au]?=some (.cells #[.slice (some ay) aq.length aK, .int .i64 a0_1, .slice aM az.length aN] 100 (0,0))):=⟨h1_⟩
        have n2_:Aside0 (w30.heap[ae]?=some (.cells #[.int .i64 0, .int .i64 0] 93 (0,0))):=⟨h2_⟩
        have n3_:Aside0 (w.heap.size≤ae):=⟨h3_⟩
        have n4_:Aside0 (w.heap.size≤ae):=⟨h4_⟩
        have n5_:Aside0 (au≠ae):=⟨h5_⟩
        have n6_:Aside0 (ae≠au):=⟨h6_⟩
        have n7_:Aside0 (Below w.heap.size w w30):=⟨h7_⟩
        clear av aa HB h0_ h1_ h2_ h3_ h4_ h5_ h6_ h7_
        have av:=n0_
        have aa:=n1_
        have aw:=n2_
        have ai:=n3_
        have aT:=n4_
        have aj:=n5_
        have ax:=n6_
        have HB:=n7_
        clear n0_ n1_ n2_ n3_ n4_ n5_ n6_ n7_
        have hHeld:w30.cell? ⟨au,0,none⟩=some (.slice (some ay) aq.length aK)∧w30.cell? ⟨au,1,none⟩=some (.int .i64 a0_1)∧w30.cell? ⟨au,2,none⟩=some (.slice aM az.length aN)∧w30.cell? (ay.add (ak).toNat)=some (.slice (some aA) (rd_L1 aq ak).length aG)∧w30.cell? (ay.add (ak).toNat)=some (.slice (some aA) (rd_L1 aq ak).length aG)∧w30.cell? (aA.add ((ji7)).toNat)=some (.int .i64 (rd (rd_L1 aq ak) (ji7))):=hS_
        refine norm_ (a':=?_) ?_ ?_
        rotate_left
        ·simp only [putAll,Act.put,List.setIfInBounds_toArray,List.set_cons_zero,List.set_cons_succ]
         rfl
        refine on_ 22 none (fun K hK=>?_)
        have hs31:w30.cell? ⟨ae,0,none⟩=some (.int .i64 0):=(blk_cell aw.out 0).trans rfl
        have hfs31:=blk_frozen aw.out 0
        have hns31_0:=aj.out
        have hms31_0:=ax.out
        have hs32:w30.cell? ⟨ae,1,none⟩=some (.int .i64 0):=(blk_cell aw.out 1).trans rfl
        have hfs32:=blk_frozen aw.out 1
        have hns32_0:=aj.out
        have hms32_0:=ax.out
        refine skip_ (w1:=?_) (by rfl) rfl ?_ ?_
        rotate_left
        ·go_simp
         rfl
        refine hK.out _ _ ⟨((cell_far (p:=⟨ae,_,none⟩) aj.out _).trans (((cell_far (p:=⟨ae,_,none⟩) aj.out _).trans (hHeld.1)))),((cell_far (p:=⟨ae,_,none⟩) aj.out _).trans (((cell_far (p:=⟨ae,_,none⟩) aj.out _).trans (hHeld.2.1)))),((cell_far (p:=⟨ae,_,none⟩) aj.out _).trans (((cell_far (p:=⟨ae,_,none⟩) aj.out _).trans (hHeld.2.2.1)))),((cell_far (p:=⟨ae,_,none⟩) (by first | exact Nat.ne_of_lt (Nat.lt_of_lt_of_le (by have:=World.block_lt_of_cell? _ _ af;first | rwa [add_block] at this | exact this) ai.out) | (rw [add_block];exact Nat.ne_of_lt (Nat.lt_of_lt_of_le (by have:=World.block_lt_of_cell? _ _ af;first | rwa [add_block] at this | exact this) ai.out)) | (show (Addr.add _ _).block≠_;rw [add_block];exact Nat.ne_of_lt (Nat.lt_of_lt_of_le (by have:=World.block_lt_of_cell? _ _ af;first | rwa [add_block] at this | exact this) ai.out)) | (dsimp only;exact Nat.ne_of_lt (Nat.lt_of_lt_of_le (by have:=World.block_lt_of_cell? _ _ af;first | rwa [add_block] at this | exact this) ai.out))) _).trans (((cell_far (p:=⟨ae,_,none⟩) (by first | exact Nat.ne_of_lt (Nat.lt_of_lt_of_le (by have:=World.block_lt_of_cell? _ _ af;first | rwa [add_block] at this | exact this) ai.out) | (rw [add_block];exact Nat.ne_of_lt (Nat.lt_of_lt_of_le (by have:=World.block_lt_of_cell? _ _ af;first | rwa [add_block] at this | exact this) ai.out)) | (show (Addr.add _ _).block≠_;rw [add_block];exact Nat.ne_of_lt (Nat.lt_of_lt_of_le (by have:=World.block_lt_of_cell? _ _ af;first | rwa [add_block] at this | exact this) ai.out)) | (dsimp only;exact Nat.ne_of_lt (Nat.lt_of_lt_of_le (by have:=World.block_lt_of_cell? _ _ af;first | rwa [add_block] at this | exact this) ai.out))) _).trans (hHeld.2.2.2.1)))),((cell_far (p:=⟨ae,_,none⟩) (by first | exact Nat.ne_of_lt (Nat.lt_of_lt_of_le (by have:=World.block_lt_of_cell? _ _ ag;first | rwa [add_block] at this | exact this) ai.out) | (rw [add_block];exact Nat.ne_of_lt (Nat.lt_of_lt_of_le (by have:=World.block_lt_of_cell? _ _ ag;first | rwa [add_block] at this | exact this) ai.out)) | (show (Addr.add _ _).block≠_;rw [add_block];exact Nat.ne_of_lt (Nat.lt_of_lt_of_le (by have:=World.block_lt_of_cell? _ _ ag;first | rwa [add_block] at this | exact this) ai.out)) | (dsimp only;exact Nat.ne_of_lt (Nat.lt_of_lt_of_le (by have:=World.block_lt_of_cell? _ _ ag;first | rwa [add_block] at this | exact this) ai.out))) _).trans (((cell_far (p:=⟨ae,_,none⟩) (by first | exact Nat.ne_of_lt (Nat.lt_of_lt_of_le (by have:=World.block_lt_of_cell? _ _ ag;first | rwa [add_block] at this | exact this) ai.out) | (rw [add_block];exact Nat.ne_of_lt (Nat.lt_of_lt_of_le (by have:=World.block_lt_of_cell? _ _ ag;first | rwa [add_block] at this | exact this) ai.out)) | (show (Addr.add _ _).block≠_;rw [add_block];exact Nat.ne_of_lt (Nat.lt_of_lt_of_le (by have:=World.block_lt_of_cell? _ _ ag;first | rwa [add_block] at this | exact this) ai.out)) | (dsimp only;exact Nat.ne_of_lt (Nat.lt_of_lt_of_le (by have:=World.block_lt_of_cell? _ _ ag;first | rwa [add_block] at this | exact this) ai.out))) _).trans (hHeld.2.2.2.2.1)))),((cell_far (p:=⟨ae,_,none⟩) (by first | exact Nat.ne_of_lt (Nat.lt_of_lt_of_le (by have:=World.block_lt_of_cell? _ _ ah;first | rwa [add_block] at this | exact this) ai.out) | (rw [add_block];exact Nat.ne_of_lt (Nat.lt_of_lt_of_le (by have:=World.block_lt_of_cell? _ _ ah;first | rwa [add_block] at this | exact this) ai.out)) | (show (Addr.add _ _).block≠_;rw [add_block];exact Nat.ne_of_lt (Nat.lt_of_lt_of_le (by have:=World.block_lt_of_cell? _ _ ah;first | rwa [add_block] at this | exact this) ai.out)) | (dsimp only;exact Nat.ne_of_lt (Nat.lt_of_lt_of_le (by have:=World.block_lt_of_cell? _ _ ah;first | rwa [add_block] at this | exact this) ai.out))) _).trans (((cell_far (p:=⟨ae,_,none⟩) (by first | exact Nat.ne_of_lt (Nat.lt_of_lt_of_le (by have:=World.block_lt_of_cell? _ _ ah;first | rwa [add_block] at this | exact this) ai.out) | (rw [add_block];exact Nat.ne_of_lt (Nat.lt_of_lt_of_le (by have:=World.block_lt_of_cell? _ _ ah;first | rwa [add_block] at this | exact this) ai.out)) | (show (Addr.add _ _).block≠_;rw [add_block];exact Nat.ne_of_lt (Nat.lt_of_lt_of_le (by have:=World.block_lt_of_cell? _ _ ah;first | rwa [add_block] at this | exact this) ai.out)) | (dsimp only;exact Nat.ne_of_lt (Nat.lt_of_lt_of_le (by have:=World.block_lt_of_cell? _ _ ah;first | rwa [add_block] at this | exact this) ai.out))) _).trans (hHeld.2.2.2.2.2))))⟩ (fun hHeld=>?_)
        clear hK K
        refine pu_ 23 7 ?_
        refine done_ (done_of HT_.out (by kernel_rfl)) ?_
        try go_wp2
        go_ret2
        exact⟨_,by first | rfl | (simp [errW_none,errW_some] <;> rfl) | (simp only [← hji7];first | rfl | (simp [errW_none,errW_some] <;> rfl)) | (simp [*,errW_none,errW_some] <;> rfl),by first | exact Kd.R_nil _ _ _ _ _ | exact Kd.N_nil _ _ _ _ _ | exact Kd.V_nil _ _ _ _ _ | exact Kd.Q_nil _ _ _ _ _ | exact Kd.S_nil _ _ _ _ _,hb_⟩
      ·rw [if_neg c9] at H
       exact absurd H (by simp)
     ·rw [if_neg c8] at H
      exact absurd H (by simp)
    ·rw [if_neg c6] at H
     exact absurd H (by simp)
   ·rw [if_neg c5] at H
    have c5b0:decide (ak < (aq.length:Int))=false:=decide_eq_false c5
    clear c5
    simp only [Option.some.injEq,Prod.mk.injEq] at H
    obtain⟨rfl,rfl⟩:=H
    have bQ:wr.cell? ⟨au,0,none⟩=some (.slice aW aq.length aK):=(blk_cell aa.out 0).trans rfl
    have bS:wr.cell? ⟨au,1,none⟩=some (.int .i64 a0_1):=(blk_cell aa.out 1).trans rfl
    have bT:wr.cell? ⟨au,2,none⟩=some (.slice aM az.length aN):=(blk_cell aa.out 2).trans rfl
    have bU:=blk_frozen aa.out 0
    have bV:=blk_frozen aa.out 1
    have bW:=blk_frozen aa.out 2
    go_wp2
    go_ret2
    exact⟨_,by first | rfl | (simp [errW_none,errW_some] <;> rfl) | (simp [*,errW_none,errW_some] <;> rfl),ro_ av.out,hb_⟩
end Go.Proofs.Ytmpkckiifeikkaa.Pr
end
