/- Texts of one claim (the words of the kit's print that the claim uses, printed functions, and this session's own texts), joined in the order of their imports by this session's own program (merge.py). -/
import Derived.Test.YtmpkckiifeikkaaJnFnLemkeTables0
import Derived.Test.YtmpkckiifeikkaaJnFnLemkeTables1
set_option linter.unusedVariables false
set_option linter.unusedSimpArgs false
set_option maxHeartbeats 8000000
set_option maxRecDepth 100000
section
namespace Go.Proofs.Ytmpkckiifeikkaa.Lp
open Go.RowKit Go.Proofs.YtmpkckiifeikkaaW.PrintWords Go.Proofs.YtmpkckiifeikkaaW.PrintLast Go.Proofs.YtmpkckiifeikkaaW.PrintMore Go.Proofs.Ytmpkckiifeikkaa.Pr Go.Proofs.Ytmpkckiifeikkaa.Ma Go.Proofs.Ytmpkckiifeikkaa.Dt Go.Proofs.Ytmpkckiifeikkaa.Lk Go.Proofs.Ytmpkckiifeikkaa.Lt Go.Proofs.Ytmpkckiifeikkaa.Lq
theorem own_f (B:List Int) (h:B.length≤1000):spec_l01Own.f B=some B:=by
 unfold spec_l01Own.f
 simp only [Option.bind_some]
 rw [if_pos (by simp;omega)];rfl
theorem pivot_calls (A0:Option Addr) (c0:Nat) (L:List (List Int)) (den:Int) (A2:Option Addr) (c2:Nat) (B:List Int) (w:World) (n m r v:Nat)
  (hC0:Kd.C (Kd.slice 2 (Kd.int .i64)) w A0 L.length L) (hC2:Kd.C (Kd.int .i64) w A2 B.length B) (hc2:B.length≤c2) (hL:L.length=n) (hr: ∀x ∈ L,x.length=m) (hrn:r < n) (hv:v < m) (hB:r < B.length) (hB2:B.length≤1000) (hn2:n≤1000) (hm2:m≤1000) (hden:den≠0):
  Calls Try.prog 157 #[.agg #[.slice A0 L.length c0, .int .i64 den, .slice A2 B.length c2], .int .i64 r, .int .i64 v] w fun e w'=> ∃v0 v2:Value,e= .returned (.agg #[v0, .int .i64 (stD (enL L) r v),v2])∧Kd.S (Kd.slice 2 (Kd.int .i64)) 23 w' w.heap.size (fun k=>some k≠v2.ownBlock) v0 (rowsM n m (stT (enL L) den r v))∧Kd.R (Kd.int .i64) 2 w' w.heap.size (fun _=>True) v2 (B.set r (v:Int))∧Below w.heap.size w w':=by
 obtain⟨ad,b,cp,rfl,hrow,hnum⟩:=tb_reads hC0 hL hr (by omega) (by omega)
 have HB:=q_ (Below.refl w.heap.size w)
 have HROW:=q_ hrow
 have HNUM:=q_ hnum
 have HC2:=q_ hC2
 have HC2c:=q_ hc2
 have HR:=q_ hrn
 have HV:=q_ hv
 have HB1:=q_ hB
 have HB2:=q_ hB2
 have HN2:=q_ hn2
 have HM2:=q_ hm2
 have HD:=q_ hden
 rw [hL]
 obtain⟨T,hT⟩: ∃T:Mat,enL L=T:=⟨_,rfl⟩
 rw [hT] at HNUM
 rw [hT]
 obtain⟨p,hp⟩: ∃p,T r v=p:=⟨_,rfl⟩
 have HP:=q_ hp
 have hrz:(r:Int) < (n:Int):=by omega
 have h0r:(0:Int)≤(r:Int):=by omega
 have hvz:(v:Int) < (m:Int):=by omega
 have h0v:(0:Int)≤(v:Int):=by omega
 have hrb:(r:Int) < (B.length:Int):=by omega
 clear hC0 hC2 hc2 hL hr hrn hv hB hB2 hn2 hm2 hden hrow hnum hp hT
 go_enter Try.func157,Try.ntmps157
 go_wp2_with (first | ((with_reducible refine gate_dst (N:=3) rfl ?_);refine box_event ?hg (N:=3) ?hd (cs:= #[.slice (some ad) n c0, .int .i64 den, .slice A2 B.length c2]) (t:=100) ?hr ?_;(case hd=>rfl);(case hg=>rfl);(case hr=>first | (go_simp;done) | (go_simp;rfl));intro g3 hg w3 hbox hb;replace HB:=q_ (below_step HB.out hb);have B3:=q_ hbox;clear hb hbox hg) | ((with_reducible refine gate_dst (N:=6) rfl ?_);refine box_event ?hg (N:=6) ?hd (cs:= #[.slice none 0 0, .int .i64 0, .slice none 0 0]) (t:=100) ?hr ?_;(case hd=>rfl);(case hg=>rfl);(case hr=>first | (go_simp;done) | (go_simp;rfl));intro g6 hg w4 hbox hb;have HG6:Aside0 (w.heap.size≤g6):=⟨by rw [hg];exact HB.out.size⟩;replace HB:=q_ (below_step HB.out hb);replace B3:=q_ (blk_below B3.out hb);have B6:=q_ hbox;clear hb hbox hg))
 replace HB:=q_ (below_step HB.out (below_drew (Below.refl w4.heap.size w4)))
 replace B3:=q_ (blk_below B3.out (below_drew (Below.refl w4.heap.size w4)))
 replace B6:=q_ (blk_below B6.out (below_drew (Below.refl w4.heap.size w4)))
 have hx1:w4.drew.cell? (ad.add r)=some (.slice (some (b r)) m (cp r)):=(HB.out.cell (World.block_lt_of_cell? w _ (HROW.out r HR.out))).trans (HROW.out r HR.out)
 have hx2:w4.drew.cell? ((b r).add v)=some (.int .i64 p):=(HB.out.cell (World.block_lt_of_cell? w _ (HNUM.out r v HR.out HV.out))).trans ((HNUM.out r v HR.out HV.out).trans (by rw [HP.out]))
 refine st_ (n:=23) (S:=fun w'=>w'.cell? ⟨g3,0,none⟩=some (.slice (some ad) n c0)∧w'.cell? ⟨g3,2,none⟩=some (.slice A2 B.length c2)∧w'.cell? (ad.add r)=some (.slice (some (b r)) m (cp r))∧w'.cell? ((b r).add v)=some (.int .i64 p)) (ds:= []) ⟨cz_ B3 0,cz_ B3 2,hx1,hx2⟩ (fun hHeld=>?_)
 generalize w4.drew=w5 at HB B3 B6 hx1 hx2 hHeld ⊢
 refine pu_ 0 15 ?_;refine tk_ 1 16 ?_;refine pu_ 2 17 ?_;refine pu_ 3 18 ?_;refine tk_ 4 19 ?_;refine pu_ 5 20 ?_;refine pu_ 6 21 ?_;refine tk_ 7 22 ?_;refine pu_ 8 23 ?_;refine tk_ 9 24 ?_
 refine pu_ 12 27 ?_;refine tk_ 13 28 ?_;refine pu_ 14 29 ?_;refine pu_ 15 30 ?_;refine tk_ 16 31 ?_;refine pu_ 17 32 ?_;refine pu_ 18 33 ?_;refine tk_ 19 34 ?_
 refine join_ (σ:=Nat × Value) 2 (fm 23 2097151) (fun s=> [(25,s.2),(26, .agg #[.slice none 0 0, .int .i64 p,s.2]),(7, .pointer (some ⟨s.1,0,none⟩))]) (fun s w'=>Below w.heap.size w w'∧w.heap.size≤s.1∧w'.heap[s.1]?=some (.cells #[.slice none 0 0, .int .i64 0, .slice none 0 0] 100 (0,0))∧Kd.R (Kd.int .i64) 2 w' w.heap.size (fun _=>True) s.2 B∧w'.heap[g3]?=some (.cells #[.slice (some ad) n c0, .int .i64 den, .slice A2 B.length c2] 100 (0,0))∧w'.heap[g6]?=some (.cells #[.slice none 0 0, .int .i64 0, .slice none 0 0] 100 (0,0))∧g3≠s.1∧g6≠s.1) ?_ ?_
 rotate_left
 ·intro hJ
  refine two_ (i:=10) (j:=20) (Ni:=some 25) (Nj:=some 7) (fm 23 1046527) (fm 23 2094079) rfl rfl rfl rfl (by kernel_rfl) (by decide) (by decide) (fun K hK=>?_) (fun K hK=>?_)
  ·refine ca_ Try.func150 #[.slice A2 B.length c2] ?_
   refine(spec_l01Own.calls A2 c2 B B w5 (Kd.C_below HC2.out HB.out) HC2c.out (own_f B HB2.out)).mono ?_
   rintro e w6 ⟨v2,rfl,hR,hb⟩
   obtain⟨A9,c9,rfl⟩:=Kd.R_slice hR
   refine⟨_,rfl,?_⟩
   have HRB:=q_ (Kd.R_lower hR HB.out.size)
   replace HB:=q_ (below_step HB.out hb)
   replace B3:=q_ (blk_below B3.out hb)
   replace B6:=q_ (blk_below B6.out hb)
   have hx1':=(hb.cell (World.block_lt_of_cell? w5 _ hx1)).trans hx1
   have hx2':=(hb.cell (World.block_lt_of_cell? w5 _ hx2)).trans hx2
   clear hR hb hx1 hx2 hHeld
   refine hK.out _ _ ⟨cz_ B3 0,cz_ B3 2,hx1',hx2'⟩ (fun hHeld=>?_)
   clear hK K
   refine no_ ?_
   refine pu_ 11 26 ?_
   refine on_ 20 (some 7) (fun K hK=>?_)
   refine box_step (by rfl) (N:=7) rfl (cs:= #[.slice none 0 0, .int .i64 0, .slice none 0 0]) (t:=100) (by first | (go_simp;done) | (go_simp;rfl)) ?_
   intro g7 hg w8 hbox hb
   have hx1:=(hb.cell (World.block_lt_of_cell? w6 _ hx1')).trans hx1'
   have hx2:=(hb.cell (World.block_lt_of_cell? w6 _ hx2')).trans hx2'
   have N3:g3≠g7:=by have:=blk_lt B3.out;omega
   have N6:g6≠g7:=by have:=blk_lt B6.out;omega
   have hsz:=HB.out.size
   replace HB:=q_ (below_step HB.out hb)
   replace B3:=q_ (blk_below B3.out hb)
   replace B6:=q_ (blk_below B6.out hb)
   replace HRB:=q_ (Kd.R_below HRB.out hb)
   refine hK.out _ _ ⟨cz_ B3 0,cz_ B3 2,hx1,hx2⟩ (fun hHeld=>?_)
   clear hK K
   refine no_ ?_
   exact norm_ (by first | (simp only [putAll,Act.put,List.setIfInBounds_toArray,List.set_cons_zero,List.set_cons_succ];done) | (simp only [putAll,Act.put,List.setIfInBounds_toArray,List.set_cons_zero,List.set_cons_succ];rfl)) (hJ (g7, .slice A9 B.length c9) _ ⟨HB.out,by omega,hbox,HRB.out,B3.out,B6.out,N3,N6⟩)
  ·refine box_step (by rfl) (N:=7) rfl (cs:= #[.slice none 0 0, .int .i64 0, .slice none 0 0]) (t:=100) (by first | (go_simp;done) | (go_simp;rfl)) ?_
   intro g7 hg w8 hbox hb
   have hx1':=(hb.cell (World.block_lt_of_cell? w5 _ hx1)).trans hx1
   have hx2':=(hb.cell (World.block_lt_of_cell? w5 _ hx2)).trans hx2
   have N3:g3≠g7:=by have:=blk_lt B3.out;omega
   have N6:g6≠g7:=by have:=blk_lt B6.out;omega
   have hsz:=HB.out.size
   have HG7:w.heap.size≤g7:=by omega
   replace HB:=q_ (below_step HB.out hb)
   replace B3:=q_ (blk_below B3.out hb)
   replace B6:=q_ (blk_below B6.out hb)
   clear hx1 hx2 hHeld hb hg
   refine hK.out _ _ ⟨cz_ B3 0,cz_ B3 2,hx1',hx2'⟩ (fun hHeld=>?_)
   clear hK K
   refine no_ ?_
   refine on_ 10 (some 25) (fun K hK=>?_)
   refine ca_ Try.func150 #[.slice A2 B.length c2] ?_
   refine(spec_l01Own.calls A2 c2 B B w8 (Kd.C_below HC2.out HB.out) HC2c.out (own_f B HB2.out)).mono ?_
   rintro e w9 ⟨v2,rfl,hR,hb⟩
   obtain⟨A9,c9,rfl⟩:=Kd.R_slice hR
   refine⟨_,rfl,?_⟩
   have HRB:=q_ (Kd.R_lower hR HB.out.size)
   replace HB:=q_ (below_step HB.out hb)
   replace B3:=q_ (blk_below B3.out hb)
   replace B6:=q_ (blk_below B6.out hb)
   have hx1:=(hb.cell (World.block_lt_of_cell? w8 _ hx1')).trans hx1'
   have hx2:=(hb.cell (World.block_lt_of_cell? w8 _ hx2')).trans hx2'
   replace hbox:=blk_below hbox hb
   clear hR hb hx1' hx2' hHeld
   refine hK.out _ _ ⟨cz_ B3 0,cz_ B3 2,hx1,hx2⟩ (fun hHeld=>?_)
   clear hK K
   refine no_ ?_
   refine pu_ 11 26 ?_
   exact norm_ (by first | (simp only [putAll,Act.put,List.setIfInBounds_toArray,List.set_cons_zero,List.set_cons_succ];done) | (simp only [putAll,Act.put,List.setIfInBounds_toArray,List.set_cons_zero,List.set_cons_succ];rfl)) (hJ (g7, .slice A9 B.length c9) _ ⟨HB.out,HG7,hbox,HRB.out,B3.out,B6.out,N3,N6⟩)
 rintro ⟨g7,v2⟩ w6 ⟨hb,hG7,hbox,hRB,hb3,hb6,N3,N6⟩
 replace HB:=q_ hb
 replace B3:=q_ hb3
 replace B6:=q_ hb6
 have B7:=q_ hbox
 have HRB:=q_ hRB
 have HG7:=q_ hG7
 have HN3:=q_ N3
 have HN6:=q_ N6
 clear hb hG7 hbox hRB hb3 hb6 hx1 hx2 hHeld
 refine norm_ (a':=?_) ?_ ?_
 rotate_left
 ·simp only [putAll,Act.put,List.setIfInBounds_toArray,List.set_cons_zero,List.set_cons_succ]
  rfl
 obtain⟨gb,cb,rfl,hgb,hgb2,cellsb,hcb⟩:=Kd.R_form HRB.out (by have:=HB1.out;omega)
 have HGB:=q_ hgb
 have ho:(Value.slice (some ⟨gb,0,none⟩) B.length cb).ownBlock=some gb:=by simp [Value.ownBlock]
 have tne: ∀g cs,w6.heap[g]?=some (.cells cs 100 (0,0))→g≠gb:=fun g cs h e=>by
  subst e
  rw [h] at hcb
  injection hcb with h1
  injection h1 with _ h3 _
  revert h3;decide
 have hb3:=tne _ _ B3.out
 have hb6:=tne _ _ B6.out
 have hb7:=tne _ _ B7.out
 have hb3':=Ne.symm hb3
 have hb6':=Ne.symm hb6
 have hb7':=Ne.symm hb7
 have hcell:=Kd.R_celln 0 HRB.out (r:Int) (by omega) (by have:=HB1.out;omega)
 rw [Int.toNat_natCast] at hcell
 have hfr:=hcell.2
 replace hcell:=hcell.1
 have hz0:=cz_ B7 0
 have hz0f:=blk_frozen B7.out 0
 have hz1:=cz_ B7 1
 have hz1f:=blk_frozen B7.out 1
 have hz2:=cz_ B7 2
 have hz2f:=blk_frozen B7.out 2
 clear tne ho hgb hgb2 hcb
 refine on_ 21 none (fun K hK=>?_)
 refine skip_ (w1:=?_) (by rfl) rfl ?_ ?_
 rotate_left
 ·go_simp
  rfl
 have P7:Aside0 (Pt w (((w6.setCell ⟨g7,0,none⟩ (.slice none 0 0)).setCell ⟨g7,1,none⟩ (.int .i64 p)).setCell ⟨g7,2,none⟩ (.slice (some ⟨gb,0,none⟩) B.length cb)) g7 (.slice none 0 0) (.slice (some ⟨gb,0,none⟩) B.length cb) p [] B):=⟨((HB.out.setCell HG7.out _).setCell HG7.out _).setCell HG7.out _,HG7.out,blk_put (blk_put (blk_put B7.out 0 _ rfl) 1 _ rfl) 2 _ rfl,Kd.S_nil _ _ _ _ _,tsetR (tsetR (tsetR HRB.out B7.out (by decide)) (blk_put B7.out 0 _ rfl) (by decide)) (blk_put (blk_put B7.out 0 _ rfl) 1 _ rfl) (by decide)⟩
 replace B3:=q_ (blk_far (blk_far (blk_far B3.out (p:=⟨g7,0,none⟩) HN3.out (.slice none 0 0)) (p:=⟨g7,1,none⟩) HN3.out (.int .i64 p)) (p:=⟨g7,2,none⟩) HN3.out (.slice (some ⟨gb,0,none⟩) B.length cb))
 replace B6:=q_ (blk_far (blk_far (blk_far B6.out (p:=⟨g7,0,none⟩) HN6.out (.slice none 0 0)) (p:=⟨g7,1,none⟩) HN6.out (.int .i64 p)) (p:=⟨g7,2,none⟩) HN6.out (.slice (some ⟨gb,0,none⟩) B.length cb))
 clear B7 hz0 hz0f hz1 hz1f hz2 hz2f hcell hfr HRB HB
 generalize ((w6.setCell ⟨g7,0,none⟩ (.slice none 0 0)).setCell ⟨g7,1,none⟩ (.int .i64 p)).setCell ⟨g7,2,none⟩ (.slice (some ⟨gb,0,none⟩) B.length cb)=w7 at P7 B3 B6 ⊢
 have hx1:w7.cell? (ad.add r)=some (.slice (some (b r)) m (cp r)):=(P7.out.below.cell (World.block_lt_of_cell? w _ (HROW.out r HR.out))).trans (HROW.out r HR.out)
 have hx2:w7.cell? ((b r).add v)=some (.int .i64 p):=(P7.out.below.cell (World.block_lt_of_cell? w _ (HNUM.out r v HR.out HV.out))).trans ((HNUM.out r v HR.out HV.out).trans (by rw [HP.out]))
 refine hK.out _ _ ⟨cz_ B3 0,cz_ B3 2,hx1,hx2⟩ (fun hHeld=>?_)
 clear hK K hx1 hx2
 refine pu_ 22 8 ?_
 refine done_ (by kernel_rfl) ?_
 clear hHeld
 have hcell:=Kd.R_celln 0 P7.out.R (r:Int) (by omega) (by have:=HB1.out;omega)
 rw [Int.toNat_natCast] at hcell
 have hfr:=hcell.2
 replace hcell:=hcell.1
 have hz2:=cz_ ⟨P7.out.blk⟩ 2
 go_wp2
 have HPB:=P7.out.putB r (v:Int)
 replace P7:=q_ HPB.1
 have hto:(Value.slice (some ⟨gb,0,none⟩) B.length cb).ownBlock=some gb:=by simp [Value.ownBlock]
 replace B3:=q_ (blk_grown B3.out HPB.2 (by rw [hto];intro e;injection e with e;exact hb3 e))
 replace B6:=q_ (blk_grown B6.out HPB.2 (by rw [hto];intro e;injection e with e;exact hb6 e))
 obtain⟨B',hB'⟩: ∃B',B.set r (v:Int)=B':=⟨_,rfl⟩
 rw [hB'] at P7
 have HBX:=q_ hB'
 clear hB'
 clear hcell hfr hz2 HPB hto
 generalize w7.setCell ⟨gb,r,none⟩ (.int .i64 (v:Int))=w8 at P7 B3 B6 ⊢
 obtain⟨X,hX⟩: ∃X:Mat,stA T den r v=X:=⟨_,rfl⟩
 have HX:=q_ hX
 clear hX
 generalize hu2:(Value.slice (some ⟨gb,0,none⟩) B.length cb)=u2 at P7 ⊢
 clear hb3 hb6 hb7 hb3' hb6' hb7'
 go_loopg [9] n (fun gg v9 wr=> ∃(i:Nat) (u0:Value),i≤n∧n - i≤gg∧v9= .int .i64 (i:Int)∧Aside0 (Pt w wr g7 u0 u2 p (rowsM i m X) B')∧Aside0 (wr.heap[g3]?=some (.cells #[.slice (some ad) n c0, .int .i64 den, .slice A2 B.length c2] 100 (0,0)))∧Aside0 (wr.heap[g6]?=some (.cells #[.slice none 0 0, .int .i64 0, .slice none 0 0] 100 (0,0))))
 case atStart=>exact⟨0,_,Nat.zero_le _,by omega,rfl,P7,B3,B6⟩
 case round=>
  clear P7 B3 B6
  obtain⟨i,u0,hi,hg,rfl,PT,B3,B6⟩:=hrel
  have HG:=q_ hg
  by_cases hlt:i < n
  ·have hltz:(i:Int) < (n:Int):=by omega
   have h0z:(0:Int)≤(i:Int):=by omega
   have hw:IntKind.i64.wrap ((i:Int)+1)=((i+1:Nat):Int):=by rw [IntWalk.i64_in _ (by have:=HN2.out;omega)];rfl
   have HW:=q_ hw
   have HLT:=q_ hlt
   have hz0:=cz_ B3 0
   clear hi hg hlt
   go_wp2_with (first | ((with_reducible refine gate_dst (N:=47) rfl ?_);refine Kd.R_lit (Kd.int .i64) (w0:=wr) wr.heap.size 2 ?hg (N:=47) ?hd (xs:=([]:List Int)) (inner:= []) (ok:=fun _=>True) (okp:=fun _=>True) ?hr ?hp (fun _ hk=>hk) trivial (Below.refl _ _) (Nat.le_refl _) (by simp) ?_;(case hd=>rfl);(case hg=>rfl);(case hr=>first | (go_simp;done) | (go_simp;rfl));(case hp=>exact(Reps.none _ _));intro v10 w10 ho hb hg_ hat_;have PU:=q_ (Pu.new PT.out hb ho);replace B3:=q_ (blk_below B3.out hb);replace B6:=q_ (blk_below B6.out hb);clear ho hb hg_ hat_ hz0 PT))
   go_loopg [10,11] m (fun gg v10 v11 wr=> ∃(k:Nat),k≤m∧m - k≤gg∧v11= .int .i64 (k:Int)∧Aside0 (Pu w wr g7 u0 u2 p (rowsM i m X) B' v10 (rowN X i k))∧Aside0 (wr.heap[g3]?=some (.cells #[.slice (some ad) n c0, .int .i64 den, .slice A2 B.length c2] 100 (0,0)))∧Aside0 (wr.heap[g6]?=some (.cells #[.slice none 0 0, .int .i64 0, .slice none 0 0] 100 (0,0))))
   case atStart=>exact⟨0,Nat.zero_le _,by omega,rfl,PU,B3,B6⟩
   case round=>
    clear PU B3 B6
    obtain⟨k,hk,hg2,rfl,PU,B3,B6⟩:=hrel
    have HG2:=q_ hg2
    by_cases hkm:k < m
    ·have hkz:(k:Int) < (m:Int):=by omega
     have h0k:(0:Int)≤(k:Int):=by omega
     have hwk:IntKind.i64.wrap ((k:Int)+1)=((k+1:Nat):Int):=by rw [IntWalk.i64_in _ (by have:=HM2.out;omega)];rfl
     have HWK:=q_ hwk
     have HKM:=q_ hkm
     have hx1:wr.cell? (ad.add i)=some (.slice (some (b i)) m (cp i)):=(PU.out.below.cell (World.block_lt_of_cell? w _ (HROW.out i HLT.out))).trans (HROW.out i HLT.out)
     have hx2:wr.cell? ((b i).add k)=some (.int .i64 (T i k)):=(PU.out.below.cell (World.block_lt_of_cell? w _ (HNUM.out i k HLT.out hkm))).trans (HNUM.out i k HLT.out hkm)
     have hz0:=cz_ B3 0
     obtain⟨A10,c10,e10⟩:=Kd.R_slice PU.out.X
     have hl10:(rowN X i k).length=k:=rowN_len X i k
     rw [hl10] at e10
     subst e10
     clear hk hg2 hkm hl10
     by_cases hir:i=r
     ·have hirz:((i:Int)==(r:Int))=true:=by simp [hir]
      have HIR:=q_ hir
      clear hir
      go_wp2_with (first | ((with_reducible refine gate_builtin (b:= .append) (xs:= #[.tmp 61, .tmp 70]) rfl ?_);at_builtin;refine Kd.R_append (Kd.int .i64) (w0:=w) w.heap.size rfl (.tmp 61) (.tmp 70) 23 2 (.int .i64 0) 8 rfl Try.underlying23 info2 rfl (by decide) (by omega) (.slice A10 k c10) (rowN X i k) (T i k) [.int .i64 (T i k)] (fun k_=>some k_≠u2.ownBlock) (fun _=>False) rfl rfl rfl (fun _ hk=>hk.elim) (Kd.fresh' (Kd.R_lt PU.out.R)) PU.out.X PU.out.below PU.out.below.size ?aL ?_;(case aL=>have:=HM2.out;have:=HKM.out;rw [rowN_len];omega);intro v11 w11 ho hb hg hat;replace B3:=q_ (PU.out.other hg B3.out);replace B6:=q_ (PU.out.other hg B6.out);replace PU:=q_ (PU.out.grow hb hg hat ho);clear ho hb hg hat hx1 hx2 hz0))
      go_roundg (m - (k+1))
      case measure=>have:=HG2.out;have:=HKM.out;omega
      case rel=>
       refine⟨k+1,HKM.out,by omega,by first | rfl | (rw [HWK.out]) | (simp [HWK.out]),?_,B3,B6⟩
       rw [rowN_next,show X i k=T i k from by rw [← HX.out];unfold stA;rw [if_pos HIR.out,HIR.out]]
       exact PU
     ·have hirz:((i:Int)==(r:Int))=false:=by simp;omega
      have hirn: ¬ (i:Int)=(r:Int):=by omega
      have HIR:=q_ hir
      clear hir
      have hx3:wr.cell? ((b i).add v)=some (.int .i64 (T i v)):=(PU.out.below.cell (World.block_lt_of_cell? w _ (HNUM.out i v HLT.out HV.out))).trans (HNUM.out i v HLT.out HV.out)
      have hx4:wr.cell? (ad.add r)=some (.slice (some (b r)) m (cp r)):=(PU.out.below.cell (World.block_lt_of_cell? w _ (HROW.out r HR.out))).trans (HROW.out r HR.out)
      have hx5:wr.cell? ((b r).add k)=some (.int .i64 (T r k)):=(PU.out.below.cell (World.block_lt_of_cell? w _ (HNUM.out r k HR.out HKM.out))).trans (HNUM.out r k HR.out HKM.out)
      have hz1:=cz_ B3 1
      have hd0:(den==0)=false:=by have:=HD.out;simpa using this
      have hd1: ¬ den=0:=HD.out
      go_wp2
      replace PU:=q_ (PU.out.mv (below_drew (Below.refl wr.heap.size wr)))
      replace B3:=q_ (blk_below B3.out (below_drew (Below.refl wr.heap.size wr)))
      replace B6:=q_ (blk_below B6.out (below_drew (Below.refl wr.heap.size wr)))
      refine st_ (n:=35) (S:=fun w'=>w'.cell? ⟨g3,0,none⟩=some (.slice (some ad) n c0)∧w'.cell? ⟨g3,1,none⟩=some (.int .i64 den)∧w'.cell? (ad.add i)=some (.slice (some (b i)) m (cp i))∧w'.cell? ((b i).add k)=some (.int .i64 (T i k))∧w'.cell? ((b i).add v)=some (.int .i64 (T i v))∧w'.cell? (ad.add r)=some (.slice (some (b r)) m (cp r))∧w'.cell? ((b r).add k)=some (.int .i64 (T r k))) (ds:= []) ⟨hz0,hz1,hx1,hx2,hx3,hx4,hx5⟩ (fun hHeld=>?_)
      generalize wr.drew=w10 at PU B3 B6 hHeld ⊢
      clear hz0 hz1 hx1 hx2 hx3 hx4 hx5
      refine pu_ 0 72 ?_;refine pu_ 1 73 ?_;refine tk_ 2 74 ?_;refine pu_ 3 75 ?_;refine pu_ 4 76 ?_;refine tk_ 5 77 ?_;refine pu_ 6 78 ?_;refine pu_ 7 79 ?_;refine tk_ 8 80 ?_;refine pu_ 9 81 ?_;refine pu_ 10 82 ?_;refine pu_ 11 83 ?_;refine tk_ 12 84 ?_;refine pu_ 13 85 ?_;refine pu_ 14 86 ?_;refine tk_ 15 87 ?_;refine pu_ 16 88 ?_;refine pu_ 17 89 ?_;refine tk_ 18 90 ?_;refine pu_ 19 91 ?_;refine tk_ 20 92 ?_;refine pu_ 21 93 ?_;refine pu_ 22 94 ?_;refine tk_ 23 95 ?_;refine pu_ 24 96 ?_;refine pu_ 25 97 ?_;refine tk_ 26 98 ?_;refine pu_ 27 99 ?_;refine pu_ 28 100 ?_;refine pu_ 29 101 ?_;refine tk_ 30 102 ?_;refine pu_ 31 103 ?_
      have hmv:=fun(W:World) (hb:Below w.heap.size w W)=>(⟨(hb.cell (World.block_lt_of_cell? w _ (HROW.out i HLT.out))).trans (HROW.out i HLT.out),(hb.cell (World.block_lt_of_cell? w _ (HNUM.out i k HLT.out HKM.out))).trans (HNUM.out i k HLT.out HKM.out),(hb.cell (World.block_lt_of_cell? w _ (HNUM.out i v HLT.out HV.out))).trans (HNUM.out i v HLT.out HV.out),(hb.cell (World.block_lt_of_cell? w _ (HROW.out r HR.out))).trans (HROW.out r HR.out),(hb.cell (World.block_lt_of_cell? w _ (HNUM.out r k HR.out HKM.out))).trans (HNUM.out r k HR.out HKM.out)⟩:W.cell? (ad.add i)=some (.slice (some (b i)) m (cp i))∧W.cell? ((b i).add k)=some (.int .i64 (T i k))∧W.cell? ((b i).add v)=some (.int .i64 (T i v))∧W.cell? (ad.add r)=some (.slice (some (b r)) m (cp r))∧W.cell? ((b r).add k)=some (.int .i64 (T r k)))
      have HMV:=q_ hmv
      clear hmv
      refine on_ 32 (some 104) (fun K hK=>?_)
      refine va_ ?_
      refine hK.out _ _ ⟨(blk_cell (blk_alloc B3.out _) 0).trans rfl,(blk_cell (blk_alloc B3.out _) 1).trans rfl,HMV.out _ (PU.out.below.alloc PU.out.below.size _)⟩ (fun hHeld=>?_)
      clear hK K
      refine no_ ?_
      refine on_ 33 (some 105) (fun K hK=>?_)
      refine Kd.R_append_step (Kd.int .i64) (w0:=w) w.heap.size (by rfl) (.tmp 72) (.tmp 104) 23 2 (.int .i64 0) 8 rfl Try.underlying23 info2 rfl (by decide) (by omega) (.slice A10 k c10) (rowN X i k) (wrap64 (Int.tdiv (wrap64 (wrap64 (T i k*p) - wrap64 (T i v*T r k))) den)) [.int .i64 (wrap64 (Int.tdiv (wrap64 (wrap64 (T i k*p) - wrap64 (T i v*T r k))) den))] (fun k_=>some k_≠u2.ownBlock) (fun _=>False) rfl rfl rfl (fun _ hk=>hk.elim) (Kd.fresh' (Kd.R_lt PU.out.R)) PU.out.X PU.out.below PU.out.below.size ?aL ?_
      case aL=>have:=HM2.out;have:=HKM.out;rw [rowN_len];omega
      intro v11 w11 ho hb hg hat
      replace B3:=q_ (PU.out.other hg B3.out)
      replace B6:=q_ (PU.out.other hg B6.out)
      replace PU:=q_ (PU.out.grow hb hg hat ho)
      clear ho hb hg hat hHeld
      refine hK.out _ _ ⟨cz_ B3 0,cz_ B3 1,HMV.out _ PU.out.below⟩ (fun hHeld=>?_)
      clear hK K
      refine nd_ 105 ?_
      refine pu_ 34 10 ?_
      refine done_ (by kernel_rfl) ?_
      clear hHeld HMV
      go_wp2
      go_roundg (m - (k+1))
      case measure=>have:=HG2.out;have:=HKM.out;omega
      case rel=>
       refine⟨k+1,HKM.out,by omega,by first | rfl | (rw [HWK.out]) | (simp [HWK.out]),?_,B3,B6⟩
       rw [rowN_next,show X i k=(wrap64 (Int.tdiv (wrap64 (wrap64 (T i k*p) - wrap64 (T i v*T r k))) den)) from by rw [← HX.out];unfold stA;rw [if_neg HIR.out];unfold evT;rw [HP.out]]
       exact PU
    ·have hkz: ¬ (k:Int) < (m:Int):=by omega
     obtain rfl:k=m:=by omega
     have hx1:wr.cell? (ad.add i)=some (.slice (some (b i)) k (cp i)):=(PU.out.below.cell (World.block_lt_of_cell? w _ (HROW.out i HLT.out))).trans (HROW.out i HLT.out)
     have hz0:=cz_ B3 0
     have hg0:=cz_ ⟨PU.out.blk⟩ 0
     obtain⟨A10,c10,e10⟩:=Kd.R_slice PU.out.X
     have hl10:(rowN X i k).length=k:=rowN_len X i k
     rw [hl10] at e10
     subst e10
     clear hk hg2 hkm hl10
     have HA:=q_ (Kd.R_apart' PU.out.X (Kd.S_typed PU.out.S) (by decide))
     obtain⟨L1,hL1⟩: ∃L1,rowsM i k X++ [rowN X i k]=L1:=⟨_,rfl⟩
     have HL1:=q_ hL1
     clear hL1
     go_wp2_with (first | ((with_reducible refine gate_builtin (b:= .append) (xs:= #[.tmp 107, .tmp 109]) rfl ?_);at_builtin;refine Kd.S_append (Kd.slice 2 (Kd.int .i64)) (w0:=w) w.heap.size rfl (.tmp 107) (.tmp 109) 22 23 (.slice none 0 0) 24 rfl Try.underlying22 info23 rfl (by decide) (by omega) u0 (rowsM i k X) (rowN X i k) [.slice A10 k c10] (fun k_=>some k_≠u2.ownBlock) (fun k_=>some k_=(.slice A10 k c10:Value).ownBlock) rfl rfl ?aP ?aQ ?aF ?aO PU.out.below PU.out.below.size ?aL ?_;(case aP=>exact Kd.M_row (Kd.R_mono (Kd.R_tight rfl HA.out) (fun _ h=>h)));(case aQ=>exact fun k_ hk=>HA.out.1 k_ hk.symm);(case aF=>exact Kd.fresh' (Kd.R_lt PU.out.R));(case aO=>exact Kd.S_mono PU.out.S (fun k_ hk=>⟨hk.1,fun e=>hk.2 e⟩));(case aL=>have:=HN2.out;have:=HLT.out;rw [rowsM_len];omega);intro v1 w13 hs hb hg hat;replace B3:=q_ (blk_grown B3.out hg (Kd.S_ne PU.out.S B3.out (by decide)));replace B6:=q_ (blk_grown B6.out hg (Kd.S_ne PU.out.S B6.out (by decide)));have B7:=q_ (blk_grown PU.out.blk hg (Kd.S_ne PU.out.S PU.out.blk (by decide)));have HRR:=q_ (Kd.R_mono (Kd.R_over' PU.out.R (Kd.S_typed PU.out.S) (by decide) hg) (fun _ hk=>hk.1));rw [HL1.out] at hs;obtain⟨A12,c12,e12⟩:=Kd.S_slice hs;subst e12;have HS:=q_ hs;have HB:=q_ hb;have HG7':=q_ PU.out.g;clear hs hb hg hat HA PU hx1 hz0 hg0;have hs0:=cz_ B7 0;have hs0f:=blk_frozen B7.out 0))
     have PT:=q_ (Pt.rows HB.out HG7'.out B7.out HS.out HRR.out)
     replace B3:=q_ (blk_far B3.out (p:=⟨g7,0,none⟩) HN3.out (.slice A12 L1.length c12))
     replace B6:=q_ (blk_far B6.out (p:=⟨g7,0,none⟩) HN6.out (.slice A12 L1.length c12))
     go_roundg (n - (i+1))
     case measure=>have:=HG.out;have:=HLT.out;omega
     case rel=>
      exact⟨i+1,_,HLT.out,by omega,by first | rfl | (rw [HW.out]) | (simp [HW.out]),(by rw [rowsM_next,HL1.out];exact PT),B3,B6⟩
  ·have hltz: ¬ (i:Int) < (n:Int):=by omega
   obtain rfl:n=i:=by omega
   have hz0:=cz_ B3 0
   have hd1:=cz_ ⟨PT.out.blk⟩ 1
   have hd1f:=blk_frozen PT.out.blk 1
   clear hi hg hlt
   have hn3:=HN3.out
   have hn3':=Ne.symm HN3.out
   by_cases hpn:p < 0
   ·have hpb:decide (p < 0)=true:=decide_eq_true hpn
    have HPN:=q_ hpn
    clear hpn
    go_wp2
    have P2:=q_ (PT.out.putD (wrap64 (- p)))
    replace B3:=q_ (blk_far B3.out (p:=⟨g7,1,none⟩) HN3.out (.int .i64 (wrap64 (- p))))
    replace B6:=q_ (blk_far B6.out (p:=⟨g7,1,none⟩) HN6.out (.int .i64 (wrap64 (- p))))
    clear hz0 hd1 hd1f PT
    generalize wr.setCell ⟨g7,1,none⟩ (.int .i64 (wrap64 (- p)))=w9 at P2 B3 B6 ⊢
    obtain⟨gu,cu,e0,_,_,_,_⟩:=Kd.S_form P2.out.S (by rw [rowsM_len];have:=HR.out;omega)
    rw [rowsM_len] at e0
    subst e0
    have P3:Aside0 (Pt w w9 g7 (.slice (some ⟨gu,0,none⟩) n cu) u2 (wrap64 (- p)) (rowsM n m (ngP X 0 0)) B'):=⟨by rw [rowsM_congr (Z:=X) (fun a d _ _=>ngP_zero X a d)];exact P2.out⟩
    clear P2
    go_loopg [12] n (fun gg v12 wr=> ∃(i:Nat),i≤n∧n - i≤gg∧v12= .int .i64 (i:Int)∧Aside0 (Pt w wr g7 (.slice (some ⟨gu,0,none⟩) n cu) u2 (wrap64 (- p)) (rowsM n m (ngP X i 0)) B')∧Aside0 (wr.heap[g3]?=some (.cells #[.slice (some ad) n c0, .int .i64 den, .slice A2 B.length c2] 100 (0,0)))∧Aside0 (wr.heap[g6]?=some (.cells #[.slice none 0 0, .int .i64 0, .slice none 0 0] 100 (0,0))))
    case atStart=>exact⟨0,Nat.zero_le _,by omega,rfl,P3,B3,B6⟩
    case round=>
     clear P3 B3 B6
     obtain⟨i,hi,hg,rfl,PT,B3,B6⟩:=hrel
     have HG:=q_ hg
     by_cases hlt:i < n
     ·have hltz:(i:Int) < (n:Int):=by omega
      have h0z:(0:Int)≤(i:Int):=by omega
      have hw:IntKind.i64.wrap ((i:Int)+1)=((i+1:Nat):Int):=by rw [IntWalk.i64_in _ (by have:=HN2.out;omega)];rfl
      have HW:=q_ hw
      have HLT:=q_ hlt
      obtain⟨A13,c13,hc13⟩:=S_row PT.out.S hlt
      rw [rowsM_at hlt,rowN_len,add_off,Nat.zero_add] at hc13
      have HC13:=q_ hc13
      have hg0:=cz_ ⟨PT.out.blk⟩ 0
      clear hi hg hlt
      go_wp2
      clear hg0 hc13
      go_loopg [14] m (fun gg v14 wr=> ∃(k:Nat),k≤m∧m - k≤gg∧v14= .int .i64 (k:Int)∧Aside0 (Pt w wr g7 (.slice (some ⟨gu,0,none⟩) n cu) u2 (wrap64 (- p)) (rowsM n m (ngP X i k)) B')∧Aside0 (wr.cell? ⟨gu,i,none⟩=some (.slice A13 m c13))∧Aside0 (wr.heap[g3]?=some (.cells #[.slice (some ad) n c0, .int .i64 den, .slice A2 B.length c2] 100 (0,0)))∧Aside0 (wr.heap[g6]?=some (.cells #[.slice none 0 0, .int .i64 0, .slice none 0 0] 100 (0,0))))
      case atStart=>exact⟨0,Nat.zero_le _,by omega,rfl,PT,HC13,B3,B6⟩
      case round=>
       clear PT HC13 B3 B6
       obtain⟨k,hk,hg2,rfl,PT,HC13,B3,B6⟩:=hrel
       have HG2:=q_ hg2
       by_cases hkm:k < m
       ·have hkz:(k:Int) < (m:Int):=by omega
        have h0k:(0:Int)≤(k:Int):=by omega
        have hwk:IntKind.i64.wrap ((k:Int)+1)=((k+1:Nat):Int):=by rw [IntWalk.i64_in _ (by have:=HM2.out;omega)];rfl
        have HWK:=q_ hwk
        have HKM:=q_ hkm
        obtain⟨g,c,hv13,hok,hne,⟨cells,hty⟩,hcell,hfr,hbase,hput⟩:=S_put PT.out.S HLT.out (by rw [add_off,Nat.zero_add];exact HC13.out) (show k < _ by rw [rowsM_at HLT.out,rowN_len];exact hkm)
        rw [rowsM_at HLT.out,rowN_len] at hv13
        rw [rowsM_at HLT.out,rowN_at hkm,ngP_at X i k i k (by omega)] at hcell
        injection hv13 with e1 _ e2
        subst e1
        subst e2
        have hp2:=hput (wrap64 (- X i k))
        rw [rowsM_at HLT.out,rowsM_set,rowsM_congr (Z:=ngP X i (k+1)) (fun a d _ _=>ngP_next X i k a d)] at hp2
        have hgu:gu≠g:=fun e=>hne (by rw [← e];simp [Value.ownBlock])
        have tk: ∀(q:Nat) (cs:Array Value),wr.heap[q]?=some (.cells cs 100 (0,0))→(wr.setCell ⟨g,k,none⟩ (.int .i64 (wrap64 (- X i k)))).heap[q]?=some (.cells cs 100 (0,0)):=fun q cs h=>blk_grown h hp2.1 (fun e=>by
         injection e with e
         subst e
         rw [hty] at h
         injection h with h1
         injection h1 with _ h3 _
         revert h3;decide)
        have PN:Aside0 (Pt w (wr.setCell ⟨g,k,none⟩ (.int .i64 (wrap64 (- X i k)))) g7 (.slice (some ⟨gu,0,none⟩) n cu) u2 (wrap64 (- p)) (rowsM n m (ngP X i (k+1))) B'):=⟨PT.out.below.setCell hbase _,PT.out.g,tk _ _ PT.out.blk,hp2.2,Kd.R_mono (Kd.R_step (Kd.R_tight rfl PT.out.R) (fun q hq hlt=>hp2.1.block q hlt (fun e=>hok (e ▸ hq)))) (fun _ _=>trivial)⟩
        have B3N:=q_ (tk _ _ B3.out)
        have B6N:=q_ (tk _ _ B6.out)
        have HC13N:=q_ ((cell_far (W:=wr) (p:=⟨g,k,none⟩) (a:=⟨gu,i,none⟩) hgu (.int .i64 (wrap64 (- X i k)))).trans HC13.out)
        clear hk hg2 hkm hok hne hty hbase hput hp2 hgu tk
        go_wp2
        go_roundg (m - (k+1))
        case measure=>have:=HG2.out;have:=HKM.out;omega
        case rel=>exact⟨k+1,HKM.out,by omega,by first | rfl | (rw [HWK.out]) | (simp [HWK.out]),PN,HC13N,B3N,B6N⟩
       ·have hkz: ¬ (k:Int) < (m:Int):=by omega
        obtain rfl:k=m:=by omega
        clear hk hg2 hkm
        go_wp2
        go_roundg (n - (i+1))
        case measure=>have:=HG.out;have:=HLT.out;omega
        case rel=>exact⟨i+1,HLT.out,by omega,by first | rfl | (rw [HW.out]) | (simp [HW.out]),⟨by rw [← rowsM_congr (Y:=ngP X i k) (fun a d _ hd=>ngP_end X i k a d hd)];exact PT.out⟩,B3,B6⟩
     ·have hltz: ¬ (i:Int) < (n:Int):=by omega
      obtain rfl:n=i:=by omega
      clear hi hg hlt
      subst hu2
      have hg0:=cz_ ⟨PT.out.blk⟩ 0
      have hg1:=cz_ ⟨PT.out.blk⟩ 1
      have hg2:=cz_ ⟨PT.out.blk⟩ 2
      have hq0:=cz_ B6 0
      have hq1:=cz_ B6 1
      have hq2:=cz_ B6 2
      have hf0:=blk_frozen B6.out 0
      have hf1:=blk_frozen B6.out 1
      have hf2:=blk_frozen B6.out 2
      have hn6:=HN6.out
      have hn6':=Ne.symm HN6.out
      go_wp2
      have C0:=blk_put B6.out 0 (.slice (some ⟨gu,0,none⟩) n cu) rfl
      have C1:=blk_put C0 1 (.int .i64 (wrap64 (- p))) rfl
      refine bodyPost_ret (results_cell_row rfl _ _ g6 100 #[(.slice (some ⟨gu,0,none⟩) n cu), .int .i64 (wrap64 (- p)),(.slice (some ⟨gb,0,none⟩) B.length cb)] (0,0) _ rfl (blk_put C1 2 (.slice (some ⟨gb,0,none⟩) B.length cb) rfl) Try.underlying100 rfl (by kernel_rfl)) rfl ?_
      rw [HBX.out,show stD T r v=wrap64 (- p) from by unfold stD;rw [HP.out,if_pos HPN.out]]
      refine⟨(.slice (some ⟨gu,0,none⟩) n cu),(.slice (some ⟨gb,0,none⟩) B.length cb),rfl,?_,tsetR (tsetR (tsetR PT.out.R B6.out (by decide)) C0 (by decide)) C1 (by decide),((PT.out.below.setCell HG6.out _).setCell HG6.out _).setCell HG6.out _⟩
      have hS:=tsetS (x:=(.slice (some ⟨gb,0,none⟩) B.length cb)) (j:=2) (tsetS (x:= .int .i64 (wrap64 (- p))) (j:=1) (tsetS (x:=(.slice (some ⟨gu,0,none⟩) n cu)) (j:=0) PT.out.S B6.out (by decide)) C0 (by decide)) C1 (by decide)
      rw [rowsM_congr (Z:=stT T den r v) (fun a d ha _=>by rw [ngP_all _ _ _ _ ha];unfold stT;rw [if_pos (by rw [HP.out];exact HPN.out),HX.out])] at hS
      exact hS
   ·have hpb:decide (p < 0)=false:=decide_eq_false hpn
    have HPN:=q_ hpn
    clear hpn
    obtain⟨gu,cu,e0,_,_,_,_⟩:=Kd.S_form PT.out.S (by rw [rowsM_len];have:=HR.out;omega)
    rw [rowsM_len] at e0
    subst e0
    subst hu2
    have hg0:=cz_ ⟨PT.out.blk⟩ 0
    have hg1:=cz_ ⟨PT.out.blk⟩ 1
    have hg2:=cz_ ⟨PT.out.blk⟩ 2
    have hq0:=cz_ B6 0
    have hq1:=cz_ B6 1
    have hq2:=cz_ B6 2
    have hf0:=blk_frozen B6.out 0
    have hf1:=blk_frozen B6.out 1
    have hf2:=blk_frozen B6.out 2
    have hn6:=HN6.out
    have hn6':=Ne.symm HN6.out
    go_wp2
    have C0:=blk_put B6.out 0 (.slice (some ⟨gu,0,none⟩) n cu) rfl
    have C1:=blk_put C0 1 (.int .i64 p) rfl
    refine bodyPost_ret (results_cell_row rfl _ _ g6 100 #[(.slice (some ⟨gu,0,none⟩) n cu), .int .i64 p,(.slice (some ⟨gb,0,none⟩) B.length cb)] (0,0) _ rfl (blk_put C1 2 (.slice (some ⟨gb,0,none⟩) B.length cb) rfl) Try.underlying100 rfl (by kernel_rfl)) rfl ?_
    rw [HBX.out,show stD T r v=p from by unfold stD;rw [HP.out,if_neg (by have:=HPN.out;omega)]]
    refine⟨(.slice (some ⟨gu,0,none⟩) n cu),(.slice (some ⟨gb,0,none⟩) B.length cb),rfl,?_,tsetR (tsetR (tsetR PT.out.R B6.out (by decide)) C0 (by decide)) C1 (by decide),((PT.out.below.setCell HG6.out _).setCell HG6.out _).setCell HG6.out _⟩
    have hS:=tsetS (x:=(.slice (some ⟨gb,0,none⟩) B.length cb)) (j:=2) (tsetS (x:= .int .i64 p) (j:=1) (tsetS (x:=(.slice (some ⟨gu,0,none⟩) n cu)) (j:=0) PT.out.S B6.out (by decide)) C0 (by decide)) C1 (by decide)
    rw [rowsM_congr (Z:=stT T den r v) (fun a d ha _=>by unfold stT;rw [if_neg (by rw [HP.out];have:=HPN.out;omega),HX.out])] at hS
    exact hS
end Go.Proofs.Ytmpkckiifeikkaa.Lp
namespace Go.Proofs.Ytmpkckiifeikkaa.Pr
open Go.RowKit Go.Proofs.YtmpkckiifeikkaaW.PrintWords Go.Proofs.YtmpkckiifeikkaaW.PrintLast Go.Proofs.YtmpkckiifeikkaaW.PrintMore Go.Proofs.Ytmpkckiifeikkaa.Ma Go.Proofs.Ytmpkckiifeikkaa.Dt Go.Proofs.Ytmpkckiifeikkaa.Lk Go.Proofs.Ytmpkckiifeikkaa.Lt Go.Proofs.Ytmpkckiifeikkaa.Lq Go.Proofs.Ytmpkckiifeikkaa.Lp
def spec_l05Pivot.f (aa:List (List Int)) (a0_1:Int) (ae:List Int) (a1:Int) (a2:Int):Option ((List (List Int)) × Int × List Int):=
 if 0≤a1∧a1 < (aa.length:Int)∧a1 < (ae.length:Int)∧0≤a2∧a2 < ((aa.headD []).length:Int)∧(aa.all fun x=>x.length==(aa.headD []).length)=true∧aa.length≤1000∧(aa.headD []).length≤1000∧ae.length≤1000∧a0_1≠0 then
  some (rowsM aa.length (aa.headD []).length (stT (enL aa) a0_1 a1.toNat a2.toNat),stD (enL aa) a1.toNat a2.toNat,ae.set a1.toNat a2)
 else none
theorem spec_l05Pivot.calls (af:Option Addr) (ag:Nat) (aa:List (List Int)) (a0_1:Int) (ah:Option Addr) (ai:Nat) (ae:List Int) (a1:Int) (a2:Int) (r1:List (List Int)) (r2:Int) (r3:List Int) (w:World) (aj:Kd.C (Kd.slice 2 (Kd.int .i64)) w af aa.length aa) (au:aa.length≤ag) (ak:Kd.C (Kd.int .i64) w ah ae.length ae) (aq:ae.length≤ai) (h:spec_l05Pivot.f aa a0_1 ae a1 a2=some (r1,r2,r3)):
  Calls Try.prog 157 #[.agg #[.slice af aa.length ag, .int .i64 a0_1, .slice ah ae.length ai], .int .i64 a1, .int .i64 a2] w fun e w'=> ∃v0_ v2_:Value,e= .returned (.agg #[v0_, .int .i64 r2,v2_])∧Kd.S (Kd.slice 2 (Kd.int .i64)) 23 w' w.heap.size (fun k_=>some k_≠(v2_:Value).ownBlock) v0_ r1∧Kd.R (Kd.int .i64) 2 w' w.heap.size (fun _=>True) v2_ r3∧Below w.heap.size w w':=by
 unfold spec_l05Pivot.f at h
 split at h
 case isFalse=>cases h
 rename_i hc
 obtain⟨h1,h2,h3,h4,h5,h6,h7,h8,h9,h10⟩:=hc
 injection h with h
 injection h with e1 h
 injection h with e2 e3
 subst e1 e2 e3
 obtain⟨i,rfl⟩:=Int.eq_ofNat_of_zero_le h1
 obtain⟨j,rfl⟩:=Int.eq_ofNat_of_zero_le h4
 exact pivot_calls af ag aa a0_1 ah ai ae w aa.length (aa.headD []).length i j aj ak aq rfl (fun x hx=>by rw [List.all_eq_true] at h6;simpa using h6 x hx) (by omega) (by omega) (by omega) h9 h7 h8 h10
end Go.Proofs.Ytmpkckiifeikkaa.Pr
end
section
namespace Go.Proofs.Ytmpkckiifeikkaa.Lq
open Go.RowKit Go.Proofs.YtmpkckiifeikkaaW.PrintWords Go.Proofs.YtmpkckiifeikkaaW.PrintLast Go.Proofs.YtmpkckiifeikkaaW.PrintMore Go.Proofs.Ytmpkckiifeikkaa.Pr Go.Proofs.Ytmpkckiifeikkaa.Ma Go.Proofs.Ytmpkckiifeikkaa.Dt Go.Proofs.Ytmpkckiifeikkaa.Lk Go.Proofs.Ytmpkckiifeikkaa.Lt
theorem below_alloc_ {w W:World} (h:Below w.heap.size w W) (o:Obj):Below w.heap.size w (W.alloc o):=h.alloc h.size o
theorem R_make2 {P:Program} {ops:Array Oper} {Q:Exit→Act→World→Prop} {o:Oper} {rest:List Oper} {a:Act} {w0 W:World} (base e:Nat) (hgd:o.guard=none) {N:Tmp} (hd:o.dst=some N) (t:TypeId) (x y:Operand) (ho:o.op= .makeSlice t x y) (n c:Nat) {xi yi:Int} (hx:a.eval x= .int .i64 xi) (hy:a.eval y= .int .i64 yi) (hxi:xi=(n:Int)) (hyi:yi=(c:Int))
  (ht:P.underlying t=some (.slice e)) (hinfo:(P.info? e).map (fun i=>(i.zero,i.size,i.bytes))=some (some (.int .i64 0),1,8)) (hnc:n≤c) (hc:c≤1000000) (HB:Below base w0 W) (hbase:base≤W.heap.size)
  (h: ∀v1 w1,(Kd.int .i64).R e w1 base (fun _=>True) v1 (List.replicate n 0)→Below base w0 w1→Below W.heap.size W w1→wpList P ops Q rest (a.put (some N) v1) w1):wpList P ops Q (o::rest) a W:=by
 subst hxi hyi
 obtain⟨i0,hi,hzz⟩:=Option.map_eq_some_iff.1 hinfo
 simp only [Prod.mk.injEq] at hzz
 obtain⟨hz0,hz1,hz2⟩:=hzz
 have hr:=run_make (P:=P) W t e i0 (.int .i64 0) ht hi hz0 .i64 .i64 (n:Int) (c:Int) (by omega) (by omega) (by rw [hz2];omega) (by omega)
 simp only [Int.toNat_natCast] at hr
 rw [hz1] at hr
 have hreps:=Kd.reps_made (R:=(Kd.int .i64).M W base (fun _=>True)) (z:= .int .i64 0) (size:=1) (z0:=(0:Int)) rfl (by decide) rfl c
 have hsz:(madeCells (Value.int .i64 0).cells (c*1)).size=c:=by rw [size_madeCells];omega
 rw [← hd] at h
 generalize madeCells (Value.int .i64 0).cells (c*1)=mc at hr hreps hsz
 have hszl:mc.toList.length=c:=by rw [Array.length_toList];exact hsz
 refine Kd.event_run hgd (v:= .slice (some ⟨W.heap.size,0,none⟩) n c) (w1:=W.alloc (.cells mc e)) (by simp [execOp,ho,hx,hy,hr]) (h _ _ ⟨fun _ _=>trivial,mc.toList.take n,⟨?_, .inr ⟨W.heap.size,c,mc,?_,hbase,blk_new W _,?_,?_,?_,?_⟩⟩,?_,fun j p hj=>?_⟩ (HB.alloc hbase _) (below_alloc (Below.refl _ _) _))
 ·show (mc.toList.take n).length=(List.replicate n (0:Int)).length*1
  rw [List.length_take,List.length_replicate,hszl,Nat.mul_one];omega
 ·rw [List.length_replicate]
 ·rw [List.length_replicate];exact hnc
 ·unfold maxLen;omega
 ·show mc.size=c*1;omega
 ·show mc.toList.take ((List.replicate n (0:Int)).length*1)=mc.toList.take n
  rw [List.length_replicate,Nat.mul_one]
 ·show (mc.toList.take n).length=(List.replicate n (0:Int)).length*1
  rw [List.length_take,List.length_replicate,hszl,Nat.mul_one];omega
 ·have hjn:j < n:=by have:=(List.getElem?_eq_some_iff.1 hj).1;simpa using this
  have hp:p=0:=by rw [List.getElem?_replicate,if_pos hjn] at hj;exact(Option.some.inj hj).symm
  subst hp
  have h2:=hreps.2 j 0 (by rw [List.getElem?_replicate,if_pos (by omega)])
  have h3:(mc.toList.drop (j*1)).take 1= [Value.int .i64 0]:=h2
  show (((mc.toList.take n).drop (j*1)).take 1)= [Value.int .i64 0]
  rw [List.drop_take,List.take_take,Nat.min_eq_left (by omega)]
  exact h3
def bRow (n i:Nat) (Mi:List Int) (j:Nat):List Int:=(List.range (2*n)).map (fun c=>if c < n then(if c=i then 1 else 0) else if c < n+j then wrap64 (- Mi.getD (c - n) 0) else 0)
theorem bRow_len (n i:Nat) (Mi:List Int) (j:Nat):(bRow n i Mi j).length=2*n:=by simp [bRow]
theorem bRow_zero (n i:Nat) (Mi:List Int) (hi:i < n):(List.replicate (2*n) (0:Int)).set i 1=bRow n i Mi 0:=by
 apply List.ext_getElem
 ·simp [bRow]
 ·intro c h1 h2
  rw [List.getElem_set]
  simp only [bRow,List.getElem_map,List.getElem_range,List.getElem_replicate]
  by_cases e:i=c
  ·subst e;simp [hi]
  ·rw [if_neg e]
   by_cases q:c < n
   ·rw [if_pos q,if_neg (Ne.symm e)]
   ·rw [if_neg q,if_neg (by omega)]
theorem bRow_next (n i:Nat) (Mi:List Int) (j:Nat) (hj:j < n):(bRow n i Mi j).set (n+j) (wrap64 (- Mi.getD j 0))=bRow n i Mi (j+1):=by
 apply List.ext_getElem
 ·simp [bRow]
 ·intro c h1 h2
  rw [List.getElem_set]
  simp only [bRow,List.getElem_map,List.getElem_range]
  by_cases e:n+j=c
  ·subst e;rw [if_pos rfl,if_neg (by omega),if_pos (by omega),show n+j - n=j from by omega]
  ·rw [if_neg e]
   by_cases q:c < n
   ·rw [if_pos q,if_pos q]
   ·rw [if_neg q,if_neg q]
    by_cases z:c < n+j
    ·rw [if_pos z,if_pos (by omega)]
    ·rw [if_neg z,if_neg (by omega)]
def TmE (w:World) (lo hi t n m:Nat) (s:TS):Prop:= ∃g gb cg cb b cp,Tm w lo hi t g gb n m cg cb b cp s
def nRow (n i:Nat) (Mi cv:List Int) (q:Int):List Int:=bRow n i Mi n++(if cv.length=0 then [] else [wrap64 (- cv.getD i 0)])++ [q]
def nRows (n:Nat) (M:List (List Int)) (cv Q:List Int) (i:Nat):List (List Int):=(List.range i).map (fun r=>nRow n r (M.getD r []) cv (Q.getD r 0))
theorem nRows_next (n:Nat) (M:List (List Int)) (cv Q:List Int) (i:Nat):nRows n M cv Q (i+1)=nRows n M cv Q i++ [nRow n i (M.getD i []) cv (Q.getD i 0)]:=by unfold nRows;rw [List.range_succ,List.map_append];rfl
theorem idl_next (i:Nat):idl (i+1)=idl i++ [(i:Int)]:=by unfold idl;rw [List.range_succ,List.map_append];rfl
theorem idl_len (i:Nat):(idl i).length=i:=by simp [idl]
theorem nRows_len (n:Nat) (M:List (List Int)) (cv Q:List Int) (i:Nat):(nRows n M cv Q i).length=i:=by simp [nRows]
theorem newTable_calls (A0:Option Addr) (c0:Nat) (M:List (List Int)) (A1:Option Addr) (c1:Nat) (Q:List Int) (A2:Option Addr) (c2:Nat) (cv:List Int) (w:World) (n:Nat)
  (hC0:Kd.C (Kd.slice 2 (Kd.int .i64)) w A0 M.length M) (hC1:Kd.C (Kd.int .i64) w A1 Q.length Q) (hC2:Kd.C (Kd.int .i64) w A2 cv.length cv) (hM:M.length=n) (hQ:Q.length=n) (hr: ∀x ∈ M,x.length=n) (hn:0 < n) (hn2:n≤100) (hcv:cv.length=0∨cv.length=n) (m:Nat) (hm:m=2*n+(if cv.length=0 then 0 else 1)+1):
  Calls Try.prog 186 #[.agg #[.slice A0 M.length c0, .slice A1 Q.length c1], .slice A2 cv.length c2] w fun e w'=> ∃t,e= .returned (.pointer (some ⟨t,0,none⟩))∧TmE w' w.heap.size w'.heap.size t n m ⟨enL (nRows n M cv Q n),1,idl n⟩∧Below w.heap.size w w':=by
 have HB:=q_ (Below.refl w.heap.size w)
 have HC0:=q_ hC0
 have HC1:=q_ hC1
 have HC2:=q_ hC2
 have HM:=q_ hM
 have HQ:=q_ hQ
 have HR:=q_ hr
 have HN:=q_ hn
 have HN2:=q_ hn2
 have HCV:=q_ hcv
 have HMM:=q_ hm
 have hqz:(Q.length:Int)=(n:Int):=by omega
 clear hC0 hC1 hC2 hM hQ hr hn hn2 hcv hm
 go_enter Try.func186,Try.ntmps186
 go_wp2_with (first | ((with_reducible refine gate_dst (N:=2) rfl ?_);refine box_event ?hg (N:=2) ?hd (cs:= #[.slice A0 M.length c0, .slice A1 Q.length c1]) (t:=30) ?hr ?_;(case hd=>rfl);(case hg=>rfl);(case hr=>first | (go_simp;done) | (go_simp;rfl));intro g2 hg w2 hbox hb;replace HB:=q_ (below_step HB.out hb);have B2:=q_ hbox;have hcz2:=cz_ B2 1;clear hb hbox hg) | ((with_reducible refine gate_dst (N:=16) rfl ?_);refine box_event ?hg (N:=16) ?hd (cs:= #[.slice none 0 0, .int .i64 1, .slice none 0 0, .int .i64 n]) (t:=110) ?hr ?_;(case hd=>rfl);(case hg=>rfl);(case hr=>first | (go_simp;done) | (go_simp;rfl));intro g6 hg w6 hbox hb;have HG6:Aside0 (w.heap.size≤g6):=⟨by rw [hg];exact HB.out.size⟩;replace HB:=q_ (below_step HB.out hb);replace B2:=q_ (blk_below B2.out hb);have B6:=q_ hbox;clear hb hbox hg hcz2))
 have NT:Aside0 (Nt w w6 g6 n (.slice none 0 0) (.slice none 0 0) (nRows n M cv Q 0) (idl 0)):=⟨HB.out,HG6.out,B6.out,Kd.S_nil _ _ _ _ _,Kd.R_nil _ _ _ _ _⟩
 clear HB B6
 go_loopg [18] n (fun gg v18 wr=> ∃(i:Nat) (u0 u2:Value),i≤n∧n - i≤gg∧v18= .int .i64 (i:Int)∧Aside0 (Nt w wr g6 n u0 u2 (nRows n M cv Q i) (idl i))∧Aside0 (wr.heap[g2]?=some (.cells #[.slice A0 M.length c0, .slice A1 Q.length c1] 30 (0,0))))
 case atStart=>exact⟨0,_,_,Nat.zero_le _,by omega,rfl,NT,B2⟩
 case round=>
  clear NT B2
  obtain⟨i,u0,u2,hi,hg,rfl,NT,B2⟩:=hrel
  have HG:=q_ hg
  by_cases hlt:i < n
  ·have hltz:(i:Int) < (n:Int):=by omega
   have h0z:(0:Int)≤(i:Int):=by omega
   have hn2':=HN2.out
   have hw:IntKind.i64.wrap ((i:Int)+1)=((i+1:Nat):Int):=by rw [IntWalk.i64_in _ (by omega)];rfl
   have hw2:IntKind.i64.wrap (2*(n:Int))=((2*n:Nat):Int):=by rw [IntWalk.i64_in _ (by omega)];omega
   have hw3:wrap64 (2*(n:Int)+2)=((2*n+2:Nat):Int):=by rw [w64 (by omega) (by omega)];omega
   have HW3:=q_ hw3
   have HW:=q_ hw
   have HLT:=q_ hlt
   clear hi hg hlt hn2' hw hw3
   go_wp2_with (first | ((with_reducible refine gate_dst (N:=26) rfl ?_);refine R_make2 (w0:=wr) wr.heap.size 2 rfl (N:=26) rfl 23 _ _ rfl (2*n) (2*n+2) rfl rfl (by omega) HW3.out Try.underlying23 info2 (by omega) (by have:=HN2.out;omega) (Below.refl _ _) (Nat.le_refl _) ?_;intro v8 w8 ho hb hb2;obtain⟨g8,c8,hv8,hg8,_,cells8,hbc⟩:=Kd.R_form ho (by rw [List.length_replicate];have:=HN.out;omega);rw [List.length_replicate] at hv8;subst hv8;have NR:=q_ (Nr.new NT.out hb2 ho);have hcell:=(Kd.R_celln (W:=w8) (xs:=List.replicate (2*n) (0:Int)) 0 ho (i:Int) (by omega) (by have:=HLT.out;omega));rw [Int.toNat_natCast] at hcell;have hfr:=hcell.2;replace hcell:=hcell.1;have HG82:Aside0 (g2≠g8):=⟨by have:=blk_lt B2.out;omega⟩;replace B2:=q_ (blk_below B2.out hb2);have NR2:=q_ (NR.out.put i 1);rw [bRow_zero n i (M.getD i []) HLT.out] at NR2;have B2':Aside0 ((w8.setCell ⟨g8,i,none⟩ (.int .i64 1)).heap[g2]?=some (.cells #[.slice A0 M.length c0, .slice A1 Q.length c1] 30 (0,0))):=⟨(Below.heap_setCell w8 ⟨g8,i,none⟩ _ g2 (by simpa using HG82.out)).trans B2.out⟩;have hcz0:=cz_ B2' 0;obtain⟨ad,A',c',eA,hx,hc',hC'⟩:=at_L1 HC0.out (i:Int) (by omega) (by have:=HM.out;omega);cases eA;rw [Int.toNat_natCast] at hx;have hx':=(NR2.out.below.cell (World.block_lt_of_cell? w _ hx)).trans hx;have el:rd_L1 M (i:Int)=M.getD i []:=(by simp [rd_L1]);rw [el] at hx';rw [el] at hc';have hC2:Kd.C (Kd.int .i64) w A' (M.getD i []).length (M.getD i []):=(by rw [← el];exact hC');have eln:(M.getD i []).length=n:=HR.out _ (by rw [List.getD_eq_getElem?_getD,List.getElem?_eq_getElem (by rw [HM.out];exact HLT.out)];exact List.getElem_mem _);rw [eln] at hx';rw [eln] at hc';have HC':=q_ hC2;have HELN:=q_ eln;have hmz:(i:Int) < (M.length:Int):=(by rw [HM.out];exact hltz);have hi2:(i:Int) < ((2*n:Nat):Int):=(by omega);clear ho hb hb2 hg8 hbc hx hc' hC' hC2 el eln NR NT HW3 B2))
   generalize w8.setCell ⟨g8,i,none⟩ (.int .i64 1)=w9 at*
   clear hcell hfr hcz0 hx' hmz hi2
   go_loopg [36] n (fun gg v36 wr2=> ∃j:Nat,j≤n∧n - j≤gg∧v36= .int .i64 (j:Int)∧Aside0 (Nr w wr2 g6 n u0 u2 (nRows n M cv Q i) (idl i) (.slice (some ⟨g8,0,none⟩) (2*n) c8) (bRow n i (M.getD i []) j))∧Aside0 (wr2.heap[g2]?=some (.cells #[.slice (some ad) M.length c0, .slice A1 Q.length c1] 30 (0,0))))
   case atStart=>exact⟨0,Nat.zero_le _,by omega,rfl,NR2,B2'⟩
   case round=>
    clear NR2 B2'
    obtain⟨j,hj,hg2,rfl,NR,B2⟩:=hrel
    have HG2:=q_ hg2
    have HJ0:=q_ hj
    by_cases hjn:j < n
    ·have hjz:(j:Int) < (n:Int):=by omega
     have h0j:(0:Int)≤(j:Int):=by omega
     have hn2':=HN2.out
     have hwj:IntKind.i64.wrap ((j:Int)+1)=((j+1:Nat):Int):=by rw [IntWalk.i64_in _ (by omega)];rfl
     have hwn:IntKind.i64.wrap ((n:Int)+(j:Int))=((n+j:Nat):Int):=by rw [IntWalk.i64_in _ (by omega)];omega
     have hnj:((n+j:Nat):Int) < ((2*n:Nat):Int):=by omega
     have HWJ:=q_ hwj
     have HJN:=q_ hjn
     obtain⟨ae,eA,hx⟩:=Kd.at_int HC'.out (j:Int) (by omega) (by rw [HELN.out];omega)
     subst eA
     rw [Int.toNat_natCast,rd_nat] at hx
     have hx':=(NR.out.below.cell (World.block_lt_of_cell? w _ hx)).trans hx
     have hcell:=Kd.R_celln 0 NR.out.X ((n+j:Nat):Int) (by omega) (by omega)
     rw [Int.toNat_natCast] at hcell
     have hfr:=hcell.2
     replace hcell:=hcell.1
     clear hj hg2 hjn hn2' hx
     go_wp2
     go_roundg (n - (j+1))
     case measure=>have:=HG2.out;have:=HJN.out;omega
     case rel=>
      have hput:=NR.out.put (n+j) (wrap64 (- (M.getD i []).getD j 0))
      rw [bRow_next n i _ j HJN.out] at hput
      exact⟨j+1,HJN.out,by omega,by first | rfl | (rw [HWJ.out]) | (simp [HWJ.out]),⟨hput⟩,⟨(Below.heap_setCell _ ⟨g8,n+j,none⟩ _ g2 (by simpa using HG82.out)).trans B2.out⟩⟩
    ·have hjz: ¬ (j:Int) < (n:Int):=by omega
     obtain rfl:n=j:=by have:=HJ0.out;omega
     by_cases hcv0:cv.length=0
     ·have hcz: ¬ (0:Int) < (cv.length:Int):=by omega
      have HCV0:=q_ hcv0
      clear hcv0
      go_wp2
      --TAIL A
      have hqi:(i:Int) < (Q.length:Int):=by rw [HQ.out];exact hltz
      obtain⟨aa,eA1,hx⟩:=Kd.at_int HC1.out (i:Int) (by omega) hqi
      subst eA1
      rw [Int.toNat_natCast,rd_nat] at hx
      obtain⟨q,hq⟩: ∃q,Q.getD i 0=q:=⟨_,rfl⟩
      rw [hq] at hx
      have HX:=q_ hx
      have HQI:=q_ hq
      clear hx hq
      replace NR:=q_ (NR.out.mv (below_drew (Below.refl wr.heap.size wr)))
      replace B2:=q_ (blk_below B2.out (below_drew (Below.refl wr.heap.size wr)))
      refine st_ (n:=18) (S:=fun w'=>w'.cell? ⟨g6,0,none⟩=some u0∧w'.cell? ⟨g2,1,none⟩=some (.slice (some aa) Q.length c1)∧w'.cell? (aa.add i)=some (.int .i64 q)) (ds:= [17]) ⟨(blk_cell (NR.out.blk) 0).trans rfl,(blk_cell (B2.out) 1).trans rfl,(Below.cell (NR.out.below) (World.block_lt_of_cell? w _ HX.out)).trans HX.out⟩ (fun hHeld=>?_)
      generalize wr.drew=w10 at NR B2 hHeld ⊢
      refine pu_ 0 60 ?_;refine pu_ 1 61 ?_;refine pu_ 2 62 ?_;refine pu_ 3 63 ?_;refine tk_ 4 64 ?_;refine pu_ 5 65 ?_;refine pu_ 6 66 ?_;refine tk_ 7 67 ?_;refine pu_ 8 68 ?_;refine pu_ 9 69 ?_;refine tk_ 10 70 ?_
      refine on_ 11 (some 71) (fun K hK=>?_)
      refine va_ ?_
      refine hK.out _ _ ⟨(blk_cell (blk_alloc NR.out.blk _) 0).trans rfl,(blk_cell (blk_alloc B2.out _) 1).trans rfl,(Below.cell (below_alloc_ NR.out.below _) (World.block_lt_of_cell? w _ HX.out)).trans HX.out⟩ (fun hHeld=>?_)
      clear hK K
      refine no_ ?_
      refine on_ 12 (some 72) (fun K hK=>?_)
      refine Kd.R_append_step (Kd.int .i64) (w0:=w) w.heap.size (by rfl) (.tmp 65) (.tmp 71) 23 2 (.int .i64 0) 8 rfl Try.underlying23 info2 rfl (by decide) (by omega) (.slice (some ⟨g8,0,none⟩) (2*n) c8) (bRow n i (M.getD i []) n) q [.int .i64 q] (fun _=>True) (fun _=>False) rfl rfl rfl (fun _ hk=>hk.elim) (fun _ _=>trivial) NR.out.X NR.out.below NR.out.below.size ?aL ?_
      case aL=>have:=HN2.out;simp [bRow_len];omega
      intro v11 w11 ho hb hg hat
      replace B2:=q_ (blk_grown B2.out hg (Kd.R_ne NR.out.X B2.out (by decide)))
      replace NR:=q_ (NR.out.grow hb hg hat ho)
      obtain⟨Y,hY⟩: ∃Y,(bRow n i (M.getD i []) n)++ [q]=Y:=⟨_,rfl⟩
      rw [hY] at NR
      have HY:=q_ hY
      clear ho hb hg hat hY hHeld
      obtain⟨A9,c9,rfl⟩:=Kd.R_slice NR.out.X
      refine hK.out _ _ ⟨(blk_cell (NR.out.blk) 0).trans rfl,(blk_cell (B2.out) 1).trans rfl,(Below.cell (NR.out.below) (World.block_lt_of_cell? w _ HX.out)).trans HX.out⟩ (fun hHeld=>?_)
      clear hK K
      refine nd_ 72 ?_
      refine on_ 13 (some 73) (fun K hK=>?_)
      refine va_ ?_
      refine hK.out _ _ ⟨(blk_cell (blk_alloc NR.out.blk _) 0).trans rfl,(blk_cell (blk_alloc B2.out _) 1).trans rfl,(Below.cell (below_alloc_ NR.out.below _) (World.block_lt_of_cell? w _ HX.out)).trans HX.out⟩ (fun hHeld=>?_)
      clear hK K
      refine no_ ?_
      have HA:=q_ (Kd.R_apart' NR.out.X (Kd.S_typed NR.out.S) (by decide))
      refine on_ 14 (some 74) (fun K hK=>?_)
      refine Kd.S_append_step (Kd.slice 2 (Kd.int .i64)) (w0:=w) w.heap.size (by rfl) (.tmp 64) (.tmp 73) 22 23 (.slice none 0 0) 24 rfl Try.underlying22 info23 rfl (by decide) (by omega) u0 (nRows n M cv Q i) Y [.slice A9 Y.length c9] (fun _=>True) (fun k=>some k=(.slice A9 Y.length c9:Value).ownBlock) rfl rfl (Kd.M_row (Kd.R_mono (Kd.R_tight rfl HA.out) (fun _ h=>h))) (fun k hk=>HA.out.1 k hk.symm) (fun _ _=>trivial) (Kd.S_mono NR.out.S (fun k hk=>⟨trivial,fun e=>hk.2 e⟩)) NR.out.below NR.out.below.size ?aL ?_
      case aL=>have:=HN2.out;have:=HLT.out;rw [nRows_len];omega
      intro u12 w12 ho hb hg hat
      replace B2:=q_ (blk_grown B2.out hg (Kd.S_ne NR.out.S B2.out (by decide)))
      have BK:=q_ (blk_grown NR.out.blk hg (Kd.S_ne NR.out.S NR.out.blk (by decide)))
      have HRR:=q_ (Kd.R_over' NR.out.R (Kd.S_typed NR.out.S) (by decide) hg)
      obtain⟨L1,hL1⟩: ∃L1,nRows n M cv Q i++ [Y]=L1:=⟨_,rfl⟩
      rw [hL1] at ho
      have HL1:=q_ hL1
      obtain⟨A12,c12,rfl⟩:=Kd.S_slice ho
      have HS:=q_ ho
      have HB:=q_ hb
      have HG6':=q_ NR.out.g
      clear ho hb hg hat hHeld HA NR hL1
      refine hK.out _ _ ⟨(blk_cell (BK.out) 0).trans rfl,(blk_cell (B2.out) 1).trans rfl,(Below.cell (HB.out) (World.block_lt_of_cell? w _ HX.out)).trans HX.out⟩ (fun hHeld=>?_)
      clear hK K
      refine nd_ 74 ?_
      refine pu_ 15 75 ?_;refine pu_ 16 76 ?_
      have hs0:=cz_ BK 0
      have hs0f:=blk_frozen BK.out 0
      refine la_ 17 none (fun K hK=>?_)
      refine skip_ (w1:=?_) (by rfl) rfl ?_ ?_
      rotate_left
      ·go_simp
       rfl
      refine hK.out _ _ ?_
      clear hK K hs0 hs0f
      refine done_ (by kernel_rfl) ?_
      have NT:=q_ (Nt.rows HB.out HG6'.out BK.out HS.out HRR.out)
      have hg26:g2≠g6:=fun e=>by have h1:=B2.out;have h2:=BK.out;rw [e,h2] at h1;injection h1 with h1;injection h1 with _ h3 _;revert h3;decide
      replace B2:=q_ ((Below.heap_setCell w12 ⟨g6,0,none⟩ (.slice A12 L1.length c12) g2 (by simpa using hg26)).trans B2.out)
      have HG26:=q_ hg26
      generalize w12.setCell ⟨g6,0,none⟩ (.slice A12 L1.length c12)=w13 at NT B2 ⊢
      clear HB HG6' BK HS HRR hg26 hHeld
      have hcz2:w13.cell? ⟨g6,2,none⟩=some u2:=(blk_cell NT.out.blk 2).trans rfl
      go_wp2_with (first | ((with_reducible refine gate_builtin (b:= .append) (xs:= #[.tmp 81, .tmp 83]) rfl ?_);at_builtin;refine Kd.R_append (Kd.int .i64) (w0:=w) w.heap.size rfl (.tmp 81) (.tmp 83) 108 3 (.int .i64 0) 8 rfl Try.underlying108 infoI rfl (by decide) (by omega) u2 (idl i) (i:Int) [.int .i64 (i:Int)] (fun _=>True) (fun _=>False) rfl rfl ?aP (fun _ hk=>hk.elim) ?aF ?aO ?aB ?aS ?aL ?_;(case aP=>exact rfl);(case aF=>exact fun _ _=>trivial);(case aO=>exact NT.out.R);(case aB=>exact NT.out.below);(case aS=>exact NT.out.below.size);(case aL=>have:=HN2.out;have:=HLT.out;rw [idl_len];omega);intro u14 w14 ho hb hg hat;rw [← idl_next] at ho;obtain⟨A14,c14,rfl⟩:=Kd.R_slice ho;replace B2:=q_ (blk_grown B2.out hg (Kd.R_ne NT.out.R B2.out (by decide)));have BK:=q_ (blk_grown NT.out.blk hg (Kd.R_ne NT.out.R NT.out.blk (by decide)));have HS:=q_ (S_over' NT.out.S (Kd.R_typed NT.out.R) (by decide) hg);have HRR:=q_ ho;have HB:=q_ hb;have HG6':=q_ NT.out.g;clear ho hb hg hat NT hcz2;have hs2:=cz_ BK 2;have hs2f:=blk_frozen BK.out 2))
      have NT:=q_ (Nt.basis HB.out HG6'.out BK.out HS.out HRR.out)
      go_roundg (n - (i+1))
      case measure=>have:=HG.out;have:=HLT.out;omega
      case rel=>
       have h1:=NT.out
       have e1:nRows n M cv Q (i+1)=L1:=by
        rw [nRows_next, ← HL1.out, ← HY.out]
        unfold nRow
        rw [if_pos HCV0.out,List.append_nil,HQI.out]
       rw [← e1] at h1
       exact⟨i+1,_,_,HLT.out,by omega,by first | rfl | (rw [HW.out]) | (simp [HW.out,w64 (x:=(i:Int)+1) (by omega) (by have:=HN2.out;have:=HLT.out;omega)]),⟨h1⟩,⟨(Below.heap_setCell w14 ⟨g6,2,none⟩ _ g2 (by simpa using HG26.out)).trans B2.out⟩⟩
      --END A
     ·have hcz:(0:Int) < (cv.length:Int):=by omega
      have HCV0:=q_ hcv0
      clear hcv0
      have hcvn:(i:Int) < (cv.length:Int):=by have:=HCV.out;have:=HCV0.out;have:=HLT.out;omega
      obtain⟨af,eA3,hx⟩:=Kd.at_int HC2.out (i:Int) (by omega) hcvn
      subst eA3
      rw [Int.toNat_natCast,rd_nat] at hx
      have hx':=(NR.out.below.cell (World.block_lt_of_cell? w _ hx)).trans hx
      obtain⟨x,hxx⟩: ∃x,cv.getD i 0=x:=⟨_,rfl⟩
      rw [hxx] at hx'
      have HCX:=q_ hxx
      clear hx hxx
      go_wp2_with (first | ((with_reducible refine gate_builtin (b:= .append) (xs:= #[.tmp 52, .tmp 58]) rfl ?_);at_builtin;refine Kd.R_append (Kd.int .i64) (w0:=w) w.heap.size rfl (.tmp 52) (.tmp 58) 23 2 (.int .i64 0) 8 rfl Try.underlying23 info2 rfl (by decide) (by omega) (.slice (some ⟨g8,0,none⟩) (2*n) c8) (bRow n i (M.getD i []) n) (wrap64 (- x)) [.int .i64 (wrap64 (- x))] (fun _=>True) (fun _=>False) rfl rfl ?aP (fun _ hk=>hk.elim) ?aF ?aO ?aB ?aS ?aL ?_;(case aP=>exact rfl);(case aF=>exact fun _ _=>trivial);(case aO=>exact NR.out.X);(case aB=>exact NR.out.below);(case aS=>exact NR.out.below.size);(case aL=>have:=HN2.out;rw [bRow_len];omega);intro v15 w15 ho hb hg hat;obtain⟨X1,hX1⟩: ∃X1,bRow n i (M.getD i []) n++ [wrap64 (- x)]=X1:=⟨_,rfl⟩;rw [hX1] at ho;have HX1:=q_ hX1;have HX1L:Aside0 (X1.length=2*n+1):=⟨(by rw [← hX1,List.length_append,bRow_len];rfl)⟩;obtain⟨A15,c15,rfl⟩:=Kd.R_slice ho;replace B2:=q_ (blk_grown B2.out hg (Kd.R_ne NR.out.X B2.out (by decide)));replace NR:=q_ (NR.out.grow hb hg hat ho);clear ho hb hg hat hX1 hx'))
      --TAIL B
      have hqi:(i:Int) < (Q.length:Int):=by rw [HQ.out];exact hltz
      obtain⟨aa,eA1,hx⟩:=Kd.at_int HC1.out (i:Int) (by omega) hqi
      subst eA1
      rw [Int.toNat_natCast,rd_nat] at hx
      obtain⟨q,hq⟩: ∃q,Q.getD i 0=q:=⟨_,rfl⟩
      rw [hq] at hx
      have HX:=q_ hx
      have HQI:=q_ hq
      clear hx hq
      replace NR:=q_ (NR.out.mv (below_drew (Below.refl w15.heap.size w15)))
      replace B2:=q_ (blk_below B2.out (below_drew (Below.refl w15.heap.size w15)))
      refine st_ (n:=18) (S:=fun w'=>w'.cell? ⟨g6,0,none⟩=some u0∧w'.cell? ⟨g2,1,none⟩=some (.slice (some aa) Q.length c1)∧w'.cell? (aa.add i)=some (.int .i64 q)) (ds:= [17]) ⟨(blk_cell (NR.out.blk) 0).trans rfl,(blk_cell (B2.out) 1).trans rfl,(Below.cell (NR.out.below) (World.block_lt_of_cell? w _ HX.out)).trans HX.out⟩ (fun hHeld=>?_)
      generalize w15.drew=w10 at NR B2 hHeld ⊢
      refine pu_ 0 60 ?_;refine pu_ 1 61 ?_;refine pu_ 2 62 ?_;refine pu_ 3 63 ?_;refine tk_ 4 64 ?_;refine pu_ 5 65 ?_;refine pu_ 6 66 ?_;refine tk_ 7 67 ?_;refine pu_ 8 68 ?_;refine pu_ 9 69 ?_;refine tk_ 10 70 ?_
      refine on_ 11 (some 71) (fun K hK=>?_)
      refine va_ ?_
      refine hK.out _ _ ⟨(blk_cell (blk_alloc NR.out.blk _) 0).trans rfl,(blk_cell (blk_alloc B2.out _) 1).trans rfl,(Below.cell (below_alloc_ NR.out.below _) (World.block_lt_of_cell? w _ HX.out)).trans HX.out⟩ (fun hHeld=>?_)
      clear hK K
      refine no_ ?_
      refine on_ 12 (some 72) (fun K hK=>?_)
      refine Kd.R_append_step (Kd.int .i64) (w0:=w) w.heap.size (by rfl) (.tmp 65) (.tmp 71) 23 2 (.int .i64 0) 8 rfl Try.underlying23 info2 rfl (by decide) (by omega) (.slice A15 X1.length c15) X1 q [.int .i64 q] (fun _=>True) (fun _=>False) rfl rfl rfl (fun _ hk=>hk.elim) (fun _ _=>trivial) NR.out.X NR.out.below NR.out.below.size ?aL ?_
      case aL=>have:=HN2.out;have:=HX1L.out;omega
      intro v11 w11 ho hb hg hat
      replace B2:=q_ (blk_grown B2.out hg (Kd.R_ne NR.out.X B2.out (by decide)))
      replace NR:=q_ (NR.out.grow hb hg hat ho)
      obtain⟨Y,hY⟩: ∃Y,X1++ [q]=Y:=⟨_,rfl⟩
      rw [hY] at NR
      have HY:=q_ hY
      clear ho hb hg hat hY hHeld
      obtain⟨A9,c9,rfl⟩:=Kd.R_slice NR.out.X
      refine hK.out _ _ ⟨(blk_cell (NR.out.blk) 0).trans rfl,(blk_cell (B2.out) 1).trans rfl,(Below.cell (NR.out.below) (World.block_lt_of_cell? w _ HX.out)).trans HX.out⟩ (fun hHeld=>?_)
      clear hK K
      refine nd_ 72 ?_
      refine on_ 13 (some 73) (fun K hK=>?_)
      refine va_ ?_
      refine hK.out _ _ ⟨(blk_cell (blk_alloc NR.out.blk _) 0).trans rfl,(blk_cell (blk_alloc B2.out _) 1).trans rfl,(Below.cell (below_alloc_ NR.out.below _) (World.block_lt_of_cell? w _ HX.out)).trans HX.out⟩ (fun hHeld=>?_)
      clear hK K
      refine no_ ?_
      have HA:=q_ (Kd.R_apart' NR.out.X (Kd.S_typed NR.out.S) (by decide))
      refine on_ 14 (some 74) (fun K hK=>?_)
      refine Kd.S_append_step (Kd.slice 2 (Kd.int .i64)) (w0:=w) w.heap.size (by rfl) (.tmp 64) (.tmp 73) 22 23 (.slice none 0 0) 24 rfl Try.underlying22 info23 rfl (by decide) (by omega) u0 (nRows n M cv Q i) Y [.slice A9 Y.length c9] (fun _=>True) (fun k=>some k=(.slice A9 Y.length c9:Value).ownBlock) rfl rfl (Kd.M_row (Kd.R_mono (Kd.R_tight rfl HA.out) (fun _ h=>h))) (fun k hk=>HA.out.1 k hk.symm) (fun _ _=>trivial) (Kd.S_mono NR.out.S (fun k hk=>⟨trivial,fun e=>hk.2 e⟩)) NR.out.below NR.out.below.size ?aL ?_
      case aL=>have:=HN2.out;have:=HLT.out;rw [nRows_len];omega
      intro u12 w12 ho hb hg hat
      replace B2:=q_ (blk_grown B2.out hg (Kd.S_ne NR.out.S B2.out (by decide)))
      have BK:=q_ (blk_grown NR.out.blk hg (Kd.S_ne NR.out.S NR.out.blk (by decide)))
      have HRR:=q_ (Kd.R_over' NR.out.R (Kd.S_typed NR.out.S) (by decide) hg)
      obtain⟨L1,hL1⟩: ∃L1,nRows n M cv Q i++ [Y]=L1:=⟨_,rfl⟩
      rw [hL1] at ho
      have HL1:=q_ hL1
      obtain⟨A12,c12,rfl⟩:=Kd.S_slice ho
      have HS:=q_ ho
      have HB:=q_ hb
      have HG6':=q_ NR.out.g
      clear ho hb hg hat hHeld HA NR hL1
      refine hK.out _ _ ⟨(blk_cell (BK.out) 0).trans rfl,(blk_cell (B2.out) 1).trans rfl,(Below.cell (HB.out) (World.block_lt_of_cell? w _ HX.out)).trans HX.out⟩ (fun hHeld=>?_)
      clear hK K
      refine nd_ 74 ?_
      refine pu_ 15 75 ?_;refine pu_ 16 76 ?_
      have hs0:=cz_ BK 0
      have hs0f:=blk_frozen BK.out 0
      refine la_ 17 none (fun K hK=>?_)
      refine skip_ (w1:=?_) (by rfl) rfl ?_ ?_
      rotate_left
      ·go_simp
       rfl
      refine hK.out _ _ ?_
      clear hK K hs0 hs0f
      refine done_ (by kernel_rfl) ?_
      have NT:=q_ (Nt.rows HB.out HG6'.out BK.out HS.out HRR.out)
      have hg26:g2≠g6:=fun e=>by have h1:=B2.out;have h2:=BK.out;rw [e,h2] at h1;injection h1 with h1;injection h1 with _ h3 _;revert h3;decide
      replace B2:=q_ ((Below.heap_setCell w12 ⟨g6,0,none⟩ (.slice A12 L1.length c12) g2 (by simpa using hg26)).trans B2.out)
      have HG26:=q_ hg26
      generalize w12.setCell ⟨g6,0,none⟩ (.slice A12 L1.length c12)=w13 at NT B2 ⊢
      clear HB HG6' BK HS HRR hg26 hHeld
      have hcz2:w13.cell? ⟨g6,2,none⟩=some u2:=(blk_cell NT.out.blk 2).trans rfl
      go_wp2_with (first | ((with_reducible refine gate_builtin (b:= .append) (xs:= #[.tmp 81, .tmp 83]) rfl ?_);at_builtin;refine Kd.R_append (Kd.int .i64) (w0:=w) w.heap.size rfl (.tmp 81) (.tmp 83) 108 3 (.int .i64 0) 8 rfl Try.underlying108 infoI rfl (by decide) (by omega) u2 (idl i) (i:Int) [.int .i64 (i:Int)] (fun _=>True) (fun _=>False) rfl rfl ?aP (fun _ hk=>hk.elim) ?aF ?aO ?aB ?aS ?aL ?_;(case aP=>exact rfl);(case aF=>exact fun _ _=>trivial);(case aO=>exact NT.out.R);(case aB=>exact NT.out.below);(case aS=>exact NT.out.below.size);(case aL=>have:=HN2.out;have:=HLT.out;rw [idl_len];omega);intro u14 w14 ho hb hg hat;rw [← idl_next] at ho;obtain⟨A14,c14,rfl⟩:=Kd.R_slice ho;replace B2:=q_ (blk_grown B2.out hg (Kd.R_ne NT.out.R B2.out (by decide)));have BK:=q_ (blk_grown NT.out.blk hg (Kd.R_ne NT.out.R NT.out.blk (by decide)));have HS:=q_ (S_over' NT.out.S (Kd.R_typed NT.out.R) (by decide) hg);have HRR:=q_ ho;have HB:=q_ hb;have HG6':=q_ NT.out.g;clear ho hb hg hat NT hcz2;have hs2:=cz_ BK 2;have hs2f:=blk_frozen BK.out 2))
      have NT:=q_ (Nt.basis HB.out HG6'.out BK.out HS.out HRR.out)
      go_roundg (n - (i+1))
      case measure=>have:=HG.out;have:=HLT.out;omega
      case rel=>
       have h1:=NT.out
       have e1:nRows n M cv Q (i+1)=L1:=by
        rw [nRows_next, ← HL1.out, ← HY.out]
        unfold nRow
        rw [if_neg HCV0.out,HCX.out,HX1.out,HQI.out]
       rw [← e1] at h1
       exact⟨i+1,_,_,HLT.out,by omega,by first | rfl | (rw [HW.out]) | (simp [HW.out,w64 (x:=(i:Int)+1) (by omega) (by have:=HN2.out;have:=HLT.out;omega)]),⟨h1⟩,⟨(Below.heap_setCell w14 ⟨g6,2,none⟩ _ g2 (by simpa using HG26.out)).trans B2.out⟩⟩
      --END B
  ·have hltz: ¬ (i:Int) < (n:Int):=by omega
   obtain rfl:n=i:=by omega
   go_wp2
   go_ret
   exact⟨_,rfl,NT.out.done (m:=m) (nRows_len _ _ _ _ _) (idl_len _) HN.out (by rw [HMM.out];omega) (by
    intro x hx
    obtain⟨r,_,rfl⟩:=List.mem_map.1 hx
    unfold nRow
    rw [List.length_append,List.length_append,bRow_len,HMM.out]
    split <;> rfl),NT.out.below⟩
end Go.Proofs.Ytmpkckiifeikkaa.Lq
end
section
namespace Go.Proofs.Ytmpkckiifeikkaa.Lq
open Go.RowKit Go.Proofs.YtmpkckiifeikkaaW.PrintWords Go.Proofs.YtmpkckiifeikkaaW.PrintLast Go.Proofs.YtmpkckiifeikkaaW.PrintMore Go.Proofs.Ytmpkckiifeikkaa.Pr Go.Proofs.Ytmpkckiifeikkaa.Ma Go.Proofs.Ytmpkckiifeikkaa.Dt Go.Proofs.Ytmpkckiifeikkaa.Lk Go.Proofs.Ytmpkckiifeikkaa.Lt
def Bnd (x:Int):Prop:= -1920000000≤x∧x≤1920000000
theorem prodB {x y:Int} (hx:Bnd x) (hy:Bnd y): -3686400000000000000≤x*y∧x*y≤3686400000000000000:=by
 have h:(x*y).natAbs≤1920000000*1920000000:=by
  rw [Int.natAbs_mul]
  exact Nat.mul_le_mul (by have:=hx.1;have:=hx.2;omega) (by have:=hy.1;have:=hy.2;omega)
 omega
theorem lc_eq {x y p q:Int} (hx:Bnd x) (hy:Bnd y) (hp:Bnd p) (hq:Bnd q):lc y x p q=sgI (p*y - q*x):=by
 have b1:=prodB hp hy
 have b2:=prodB hq hx
 unfold lc
 rw [w64 (x:=p*y) (by omega) (by omega),w64 (x:=q*x) (by omega) (by omega),w64 (by omega) (by omega)]
theorem cmp_kl {T:Mat} {i k:Nat} {x y:Int} (hx:Bnd x) (hy:Bnd y): ∀(l:List Nat),(∀c ∈ l,Bnd (T i c)∧Bnd (T k c))→decide (cmpL (lc y x) (l.map (fun c=>(T i c,T k c))) < 0)=kl T i k x y l
 | [],_=>rfl
 | c::l,h=>by
  have hc:=h c List.mem_cons_self
  have ih:=cmp_kl hx hy l (fun d hd=>h d (List.mem_cons_of_mem _ hd))
  simp only [List.map_cons,cmpL,kl]
  rw [lc_eq hx hy hc.1 hc.2]
  unfold sgI
  by_cases h1:T i c*y - T k c*x < 0
  ·rw [if_pos h1,if_neg (by decide),if_pos (by omega)];rfl
  ·rw [if_neg h1,if_neg (show ¬ T i c*y < T k c*x by omega)]
   by_cases h2:T i c*y - T k c*x > 0
   ·rw [if_pos h2,if_neg (by decide),if_pos (by omega)];rfl
   ·rw [if_neg h2,if_pos rfl,if_neg (show ¬ T k c*x < T i c*y by omega)]
    exact ih
theorem ilI_eq {T:Mat} {n m i k:Nat} {x y:Int} (hx:Bnd x) (hy:Bnd y) (hT: ∀a c,a < n→c < m→Bnd (T a c)) (hi:i < n) (hk:k < n) (hm:n < m):ilI T n m i k x y=kl T i k x y (cols n m):=by
 have e:((T i (m - 1)::rowN T i n).zip (T k (m - 1)::rowN T k n))=(cols n m).map (fun c=>(T i c,T k c)):=by
  unfold cols rowN
  rw [List.map_cons,List.zip_cons_cons,List.zip_map']
 unfold ilI
 rw [e]
 refine cmp_kl hx hy _ (fun c hc=>?_)
 have hcm:c < m:=by
  rcases List.mem_cons.1 hc with rfl | hc
  ·omega
  ·have:=List.mem_range.1 hc;omega
 exact⟨hT i c hi hcm,hT k c hk hcm⟩
theorem lst_congr {bf:Nat→Int} {f g:Nat→Nat→Bool} {n:Nat} (h: ∀i j,i < n→j < n→f i j=g i j): ∀(l:List Nat) (o:Option Nat),(∀i ∈ l,i < n)→(∀j,o=some j→j < n)→lst bf f l o=lst bf g l o
 | [],_,_,_=>rfl
 | i::l,o,hl,ho=>by
  have hi:=hl i List.mem_cons_self
  have e:bet f i o=bet g i o:=by
   cases o with
   | none=>rfl
   | some j=>exact h i j hi (ho j rfl)
  unfold lst
  rw [e]
  refine lst_congr h l _ (fun j hj=>hl j (List.mem_cons_of_mem _ hj)) (fun j hj=>?_)
  split at hj
  ·cases hj;exact hi
  ·exact ho j hj
theorem rowJ_eq {s:TS} {n m:Nat} {bf:Nat→Int} (hb: ∀i,i < n→Bnd (bf i)) (hT: ∀a c,a < n→c < m→Bnd (s.T a c)) (hm:n < m):rowJ s.T n m bf n=rowB n m s bf:=by
 unfold rowJ rowB
 exact lst_congr (n:=n) (fun i j hi hj=>ilI_eq (hb i hi) (hb j hj) hT hi hj hm) _ _ (fun i hi=>List.mem_range.1 hi) (fun j hj=>by cases hj)
theorem nRow_at {n i:Nat} {Mi cv:List Int} {q:Int} (hcv:cv.length≠0) (c:Nat) (hc:c < 2*n+2):(nRow n i Mi cv q).getD c 0=if c < n then(if c=i then 1 else 0) else if c < 2*n then wrap64 (- Mi.getD (c - n) 0) else if c=2*n then wrap64 (- cv.getD i 0) else q:=by
 unfold nRow
 rw [if_neg hcv,List.getD_eq_getElem?_getD,List.append_assoc,List.getElem?_append]
 rw [bRow_len]
 by_cases h1:c < 2*n
 ·rw [if_pos h1]
  unfold bRow
  rw [List.getElem?_map,List.getElem?_range h1]
  show (if c < n then(if c=i then(1:Int) else 0) else if c < n+n then wrap64 (- Mi.getD (c - n) 0) else 0)=_
  by_cases h2:c < n
  ·rw [if_pos h2,if_pos h2]
  ·rw [if_neg h2,if_neg h2,if_pos (by omega),if_pos h1]
 ·rw [if_neg h1,if_neg (show ¬ c < n by omega),if_neg h1]
  by_cases h2:c=2*n
  ·subst h2;simp
  ·rw [if_neg h2,show c - 2*n=1 from by omega];rfl
theorem first_at {n:Nat} {M:List (List Int)} {cv Q:List Int} (hcv:cv.length≠0) (hM: ∀i k,i < n→k < n→((enL M) i k).natAbs≤20) (hc: ∀i,i < n→(cv.getD i 0).natAbs≤20) (i c:Nat) (hi:i < n) (hcm:c < 2*n+2):
  enL (nRows n M cv Q n) i c=tab0 n (enL M) (fun i=>cv.getD i 0) (fun i=>Q.getD i 0) i c:=by
 have e:enL (nRows n M cv Q n) i c=(nRow n i (M.getD i []) cv (Q.getD i 0)).getD c 0:=by
  unfold enL nRows
  rw [List.getD_eq_getElem?_getD (l:=List.map _ _),List.getElem?_map,List.getElem?_range hi];rfl
 rw [e,nRow_at hcv c hcm]
 unfold tab0
 by_cases h1:c < n
 ·rw [if_pos h1,if_pos h1]
 ·rw [if_neg h1,if_neg h1]
  by_cases h2:c < 2*n
  ·rw [if_pos h2,if_pos h2]
   have:=hM i (c - n) hi (by omega)
   unfold enL at this
   exact w64 (by omega) (by omega)
  ·rw [if_neg h2,if_neg h2]
   by_cases h3:c=2*n
   ·rw [if_pos h3,if_pos h3]
    have:=hc i hi
    exact w64 (by omega) (by omega)
   ·rw [if_neg h3,if_neg h3]
theorem feas_eq {n:Nat} {Q:List Int} (hQ:Q.length=n):feas n (fun i=>Q.getD i 0)=!(Q.any (fun x=>decide (x < 0))):=by
 subst hQ
 unfold feas
 rw [Bool.eq_iff_iff]
 simp only [List.all_eq_true,List.mem_range,decide_eq_true_eq,Bool.not_eq_true',List.any_eq_false]
 constructor
 ·intro h x hx
  obtain⟨i,hi,rfl⟩:=List.mem_iff_getElem.1 hx
  have:=h i hi
  rw [List.getD_eq_getElem?_getD,List.getElem?_eq_getElem hi] at this
  simpa using this
 ·intro h i hi
  have:=h Q[i] (List.getElem_mem hi)
  rw [List.getD_eq_getElem?_getD,List.getElem?_eq_getElem hi]
  simpa using this
end Go.Proofs.Ytmpkckiifeikkaa.Lq
end
section
namespace Go.Proofs.Ytmpkckiifeikkaa.Pr
open Go.RowKit Go.Proofs.YtmpkckiifeikkaaW.PrintWords Go.Proofs.YtmpkckiifeikkaaW.PrintLast Go.Proofs.YtmpkckiifeikkaaW.PrintMore
attribute [local go_sem] max2_int min2_int max_two min_two max_three min_three max_four min_four
mutual
def spec_l05Begin.l0:Nat→List Int→Int→Int→List (List Int)→List Int→List (List Int)→Int→List Int→Option ((List (List Int)) × Int × List Int)
 | 0,_,_,_,_,_,_,_,_=>none
 | k+1,x1,x6,x7,ae,aa,af,ah,ag=>if x7 < x6 then(spec_l05Begin.l1 k x1 x6 x7 (([]:List Int)) 0 ae aa af ah ag) else(some (af,ah,ag))
def spec_l05Begin.l1:Nat→List Int→Int→Int→List Int→Int→List (List Int)→List Int→List (List Int)→Int→List Int→Option ((List (List Int)) × Int × List Int)
 | 0,_,_,_,_,_,_,_,_,_,_=>none
 | k+1,x1,x6,x7,x8,x9,ae,aa,af,ah,ag=>if x9 < x6 then(if x9=x7 then(if x8.length < 17592186044416 then(spec_l05Begin.l1 k x1 x6 x7 (x8++ [1]) (wrap64 (x9+1)) ae aa af ah ag) else(none)) else(if x8.length < 17592186044416 then(spec_l05Begin.l1 k x1 x6 x7 (x8++ [0]) (wrap64 (x9+1)) ae aa af ah ag) else(none))) else(spec_l05Begin.l2 k x1 x6 x7 x8 0 ae aa af ah ag)
def spec_l05Begin.l2:Nat→List Int→Int→Int→List Int→Int→List (List Int)→List Int→List (List Int)→Int→List Int→Option ((List (List Int)) × Int × List Int)
 | 0,_,_,_,_,_,_,_,_,_,_=>none
 | k+1,x1,x6,x7,x8,x10,ae,aa,af,ah,ag=>if x10 < x6 then(if 0≤x7 then(if x7 < (ae.length:Int) then(if 0≤x10 then(if x10 < ((rd_L1 ae x7).length:Int) then(if x8.length < 17592186044416 then(spec_l05Begin.l2 k x1 x6 x7 (x8++ [wrap64 (-(rd (rd_L1 ae x7) x10))]) (wrap64 (x10+1)) ae aa af ah ag) else(none)) else(none)) else(none)) else(none)) else(none)) else(if(x1.length:Int) > 0 then(if 0≤x7 then(if x7 < (x1.length:Int) then(if x8.length < 17592186044416 then((some (x8++ [wrap64 (-(rd x1 x7))]:List Int)).bind fun ai=>(if x7 < (aa.length:Int) then(if ai.length < 17592186044416 then(if af.length < 5864062014805 then(if ag.length < 17592186044416 then(spec_l05Begin.l0 k x1 x6 (wrap64 (x7+1)) ae aa (af++ [(ai++ [rd aa x7])]) ah (ag++ [x7])) else(none)) else(none)) else(none)) else(none))) else(none)) else(none)) else(none)) else(if 0≤x7 then(if x7 < (aa.length:Int) then(if x8.length < 17592186044416 then(if af.length < 5864062014805 then(if ag.length < 17592186044416 then(spec_l05Begin.l0 k x1 x6 (wrap64 (x7+1)) ae aa (af++ [(x8++ [rd aa x7])]) ah (ag++ [x7])) else(none)) else(none)) else(none)) else(none)) else(none)))
end
def spec_l05Begin.f (k:Nat) (ae:List (List Int)) (aa:List Int) (l1:List Int):Option ((List (List Int)) × Int × List Int):=spec_l05Begin.l0 k l1 (aa.length:Int) 0 ae aa ([]:List (List Int)) 1 ([]:List Int)
theorem spec_l05Begin.mono_l: ∀k,(∀y0 y1 y2 y3 y4 y5 y6 y7,LeO (spec_l05Begin.l0 k y0 y1 y2 y3 y4 y5 y6 y7) (spec_l05Begin.l0 (k+1) y0 y1 y2 y3 y4 y5 y6 y7))∧(∀y0 y1 y2 y3 y4 y5 y6 y7 y8 y9,LeO (spec_l05Begin.l1 k y0 y1 y2 y3 y4 y5 y6 y7 y8 y9) (spec_l05Begin.l1 (k+1) y0 y1 y2 y3 y4 y5 y6 y7 y8 y9))∧(∀y0 y1 y2 y3 y4 y5 y6 y7 y8 y9,LeO (spec_l05Begin.l2 k y0 y1 y2 y3 y4 y5 y6 y7 y8 y9) (spec_l05Begin.l2 (k+1) y0 y1 y2 y3 y4 y5 y6 y7 y8 y9))
 | 0=>⟨fun _ _ _ _ _ _ _ _ r h=>by simp [spec_l05Begin.l0] at h,fun _ _ _ _ _ _ _ _ _ _ r h=>by simp [spec_l05Begin.l1] at h,fun _ _ _ _ _ _ _ _ _ _ r h=>by simp [spec_l05Begin.l2] at h⟩
 | k+1=>by
  obtain⟨ih0,ih1,ih2⟩:=spec_l05Begin.mono_l k
  refine⟨?_,?_,?_⟩
  ·intro y0 y1 y2 y3 y4 y5 y6 y7
   unfold spec_l05Begin.l0
   repeat' first
   | (with_reducible exact ih0 _ _ _ _ _ _ _ _)
   | (with_reducible exact ih1 _ _ _ _ _ _ _ _ _ _)
   | (with_reducible exact ih2 _ _ _ _ _ _ _ _ _ _)
   | (with_reducible exact LeO.refl _)
   | (with_reducible exact LeO.none _)
   | (with_reducible refine LeO.ite ?_ ?_)
   | (with_reducible refine LeO.bind ?_ (fun _=>?_))
   | exact ih0 _ _ _ _ _ _ _ _
   | exact ih1 _ _ _ _ _ _ _ _ _ _
   | exact ih2 _ _ _ _ _ _ _ _ _ _
   | exact LeO.none _
   | refine LeO.ite ?_ ?_
   | refine LeO.bind ?_ (fun _=>?_)
  ·intro y0 y1 y2 y3 y4 y5 y6 y7 y8 y9
   unfold spec_l05Begin.l1
   repeat' first
   | (with_reducible exact ih0 _ _ _ _ _ _ _ _)
   | (with_reducible exact ih1 _ _ _ _ _ _ _ _ _ _)
   | (with_reducible exact ih2 _ _ _ _ _ _ _ _ _ _)
   | (with_reducible exact LeO.refl _)
   | (with_reducible exact LeO.none _)
   | (with_reducible refine LeO.ite ?_ ?_)
   | (with_reducible refine LeO.bind ?_ (fun _=>?_))
   | exact ih0 _ _ _ _ _ _ _ _
   | exact ih1 _ _ _ _ _ _ _ _ _ _
   | exact ih2 _ _ _ _ _ _ _ _ _ _
   | exact LeO.none _
   | refine LeO.ite ?_ ?_
   | refine LeO.bind ?_ (fun _=>?_)
  ·intro y0 y1 y2 y3 y4 y5 y6 y7 y8 y9
   unfold spec_l05Begin.l2
   repeat' first
   | (with_reducible exact ih0 _ _ _ _ _ _ _ _)
   | (with_reducible exact ih1 _ _ _ _ _ _ _ _ _ _)
   | (with_reducible exact ih2 _ _ _ _ _ _ _ _ _ _)
   | (with_reducible exact LeO.refl _)
   | (with_reducible exact LeO.none _)
   | (with_reducible refine LeO.ite ?_ ?_)
   | (with_reducible refine LeO.bind ?_ (fun _=>?_))
   | exact ih0 _ _ _ _ _ _ _ _
   | exact ih1 _ _ _ _ _ _ _ _ _ _
   | exact ih2 _ _ _ _ _ _ _ _ _ _
   | exact LeO.none _
   | refine LeO.ite ?_ ?_
   | refine LeO.bind ?_ (fun _=>?_)
theorem spec_l05Begin.mono: ∀a0 a1 a2 k,LeO (spec_l05Begin.f k a0 a1 a2) (spec_l05Begin.f (k+1) a0 a1 a2):=by
 intro a0 a1 a2 k
 obtain⟨ih0,ih1,ih2⟩:=spec_l05Begin.mono_l k
 unfold spec_l05Begin.f
 repeat' first
   | (with_reducible exact ih0 _ _ _ _ _ _ _ _)
   | (with_reducible exact ih1 _ _ _ _ _ _ _ _ _ _)
   | (with_reducible exact ih2 _ _ _ _ _ _ _ _ _ _)
   | (with_reducible exact LeO.refl _)
   | (with_reducible exact LeO.none _)
   | (with_reducible refine LeO.ite ?_ ?_)
   | (with_reducible refine LeO.bind ?_ (fun _=>?_))
   | exact ih0 _ _ _ _ _ _ _ _
   | exact ih1 _ _ _ _ _ _ _ _ _ _
   | exact ih2 _ _ _ _ _ _ _ _ _ _
   | exact LeO.none _
   | refine LeO.ite ?_ ?_
   | refine LeO.bind ?_ (fun _=>?_)
def spec_l05Begin.T18:Bool × List (List Nat × List Nat):=(true, [([], []),([0], [0]),([], []),([], []),([3], [3]),([], []),([4,5], [4,5]),([6], [6]),([7], [7]),([2,8], [2,8]),([9], [9]),([1,10,9], [1,10]),([0,1,2,3,4,5,6,7,8,9,10,11], []),([12,11,11,0,1,2,3,4,5,6,7,8,9,10,11], [11,12])])
def spec_l05Begin.B18:List Nat:= [0,1,0,0,8,0,56,120,248,508,1020,2047,4095,8191]
theorem spec_l05Begin.tab18:rtab .any (opsOf Try.f154 18)=spec_l05Begin.T18:=by kernel_rfl
theorem spec_l05Begin.bits18:waitsOk spec_l05Begin.T18.2 spec_l05Begin.B18=true:=by kernel_rfl
theorem spec_l05Begin.calls (k:Nat) (aN:Option Addr) (aT:Nat) (ay:List (List Int)) (a9:Option Addr) (aU:Nat) (ak:List Int) (A1:Option Addr) (c1:Nat) (l1:List Int) (r1:List (List Int)) (r2:Int) (r3:List Int) (w:World) (bP:Kd.C (Kd.slice 2 (Kd.int .i64)) w aN ay.length ay) (bQ:ay.length≤aT) (bS:Kd.C (Kd.int .i64) w a9 ak.length ak) (bT:ak.length≤aU) (hr1:Kd.C (Kd.int .i64) w A1 l1.length l1) (hc1:l1.length≤c1) (h:spec_l05Begin.f k ay ak l1=some (r1,r2,r3)):
  Calls Try.prog 154 #[.agg #[.slice aN ay.length aT, .slice a9 ak.length aU], .slice A1 l1.length c1] w fun e w'=> ∃v0_ v2_:Value,e= .returned (.agg #[v0_, .int .i64 r2,v2_])∧Kd.S (Kd.slice 2 (Kd.int .i64)) 23 w' w.heap.size (fun k_=>some k_≠(v2_:Value).ownBlock) v0_ r1∧Kd.R (Kd.int .i64) 2 w' w.heap.size (fun _=>True) v2_ r3∧Below w.heap.size w w':=by
 have hu30:=Try.underlying30
 have hu100:=Try.underlying100
 have HR0_0:=q_ bP
 have HC0_0:=q_ bQ
 clear bP bQ
 have HR0_1:=q_ bS
 have HC0_1:=q_ bT
 clear bS bT
 have HR1:=q_ hr1
 have HC1:=q_ hc1
 clear hr1 hc1
 have HB:=q_ (Below.refl w.heap.size w)
 have H:(spec_l05Begin.l0 k l1 (ak.length:Int) 0 ay ak ([]:List (List Int)) 1 ([]:List Int))=some (r1,r2,r3):=h
 clear h
 have H':=q_ H
 clear H
 go_enter Try.func154,Try.ntmps154
 try go_wp2_with (first | ((with_reducible refine gate_dst (N:=2) rfl ?_);refine box_event ?hg (N:=2) ?hd (cs:= #[.slice aN ay.length aT, .slice a9 ak.length aU]) (t:=30) ?hr ?_;(case hd=>rfl);(case hg=>rfl);(case hr=>first | (go_simp;done) | (go_simp;rfl));intro aH hg w3 hbox hb;have af:=q_ (hbox);have eS:=q_ ((by rw [hg];exact bz_:w.heap.size≤aH));have eT:=q_ ((by rw [hg];exact bz_:w.heap.size≤aH));replace HB:=q_ (bs_ hb);clear hb hbox hg) | ((with_reducible refine gate_dst (N:=4) rfl ?_);refine box_event ?hg (N:=4) ?hd (cs:= #[.slice none 0 0, .int .i64 0, .slice none 0 0]) (t:=100) ?hr ?_;(case hd=>rfl);(case hg=>rfl);(case hr=>first | (go_simp;done) | (go_simp;rfl));intro aC hg w4 hbox hb;have aj:=q_ (hbox);have eU:=q_ ((by rw [hg];exact bz_:w.heap.size≤aC));have eV:=q_ ((by rw [hg];exact bz_:w.heap.size≤aC));have bn:=q_ ((by rw [hg];exact lt_ af.out:aH≠aC));have bq:=q_ ((by rw [hg];exact gt_ af.out:aC≠aH));replace af:=q_ (bb_ af.out hb);replace HB:=q_ (bs_ hb);clear hb hbox hg))
 replace af:=q_ (blk_drew af.out)
 replace aj:=q_ (blk_drew aj.out)
 replace HB:=q_ (below_drew1 HB.out)
 refine st_ (n:=7) (S:=fun w'=>w'.cell? ⟨aH,0,none⟩=some (.slice aN ay.length aT)∧w'.cell? ⟨aH,1,none⟩=some (.slice a9 ak.length aU)) (ds:= []) ⟨(blk_cell af.out 0).trans rfl,(blk_cell af.out 1).trans rfl⟩ (fun hHeld=>?_)
 generalize w4.drew=w5 at af aj HB hHeld ⊢
 refine pu_ 0 11 ?_;refine pu_ 1 12 ?_;refine tk_ 2 13 ?_;refine pu_ 3 14 ?_
 refine on_ 4 (some 5) (fun K hK=>?_)
 refine box_step ?hg (N:=5) ?hd (cs:= #[.slice none 0 0, .int .i64 0, .slice none 0 0]) (t:=100) ?hr ?_;(case hd=>rfl);(case hg=>rfl);(case hr=>first | (go_simp;done) | (go_simp;rfl))
 intro av hg w6 hbox hb
 have aa:=q_ (hbox)
 have eW:=q_ ((by rw [hg];exact bz_:w.heap.size≤av))
 have eX:=q_ ((by rw [hg];exact bz_:w.heap.size≤av))
 have aw:=q_ ((by rw [hg];exact lt_ af.out:aH≠av))
 have aJ:=q_ ((by rw [hg];exact gt_ af.out:av≠aH))
 have az:=q_ ((by rw [hg];exact lt_ aj.out:aC≠av))
 have aK:=q_ ((by rw [hg];exact gt_ aj.out:av≠aC))
 replace af:=q_ (bb_ af.out hb)
 replace aj:=q_ (bb_ aj.out hb)
 replace HB:=q_ (bs_ hb)
 clear hb hbox hg
 refine hK.out _ _ ⟨(blk_cell af.out 0).trans rfl,(blk_cell af.out 1).trans rfl⟩ (fun hHeld=>?_)
 clear hK K
 refine norm_ (a':=?_) ?_ ?_
 rotate_left
 ·show Act.put _ (some 5) _=_
  simp only [Act.put,List.setIfInBounds_toArray,List.set_cons_zero,List.set_cons_succ,i64_w,i32_w]
  rfl
 refine on_ 5 none (fun K hK=>?_)
 have hs7:w6.cell? ⟨av,0,none⟩=some (.slice none 0 0):=(blk_cell aa.out 0).trans rfl
 have hfs7:=blk_frozen aa.out 0
 have hns7_0:=aw.out
 have hns7_1:=az.out
 have hms7_0:=aJ.out
 have hms7_1:=aK.out
 have hs8:w6.cell? ⟨av,1,none⟩=some (.int .i64 0):=(blk_cell aa.out 1).trans rfl
 have hfs8:=blk_frozen aa.out 1
 have hns8_0:=aw.out
 have hns8_1:=az.out
 have hms8_0:=aJ.out
 have hms8_1:=aK.out
 have hs9:w6.cell? ⟨av,2,none⟩=some (.slice none 0 0):=(blk_cell aa.out 2).trans rfl
 have hfs9:=blk_frozen aa.out 2
 have hns9_0:=aw.out
 have hns9_1:=az.out
 have hms9_0:=aJ.out
 have hms9_1:=aK.out
 refine skip_ (w1:=?_) (by rfl) rfl ?_ ?_
 rotate_left
 ·go_simp
  rfl
 refine hK.out _ _ ⟨((cell_far (p:=⟨av,_,none⟩) aw.out _).trans (((cell_far (p:=⟨av,_,none⟩) aw.out _).trans (((cell_far (p:=⟨av,_,none⟩) aw.out _).trans (hHeld.1)))))),((cell_far (p:=⟨av,_,none⟩) aw.out _).trans (((cell_far (p:=⟨av,_,none⟩) aw.out _).trans (((cell_far (p:=⟨av,_,none⟩) aw.out _).trans (hHeld.2))))))⟩ (fun hHeld=>?_)
 clear hK K
 refine pu_ 6 6 ?_
 refine done_ (by kernel_rfl) ?_
 try go_wp2
 go_loopg [7] k (fun kq v7 w'=> ∃(ah:Int) (au:List (List Int)) (aq:List Int) (ax:Value) (ai:Value),v7= .int .i64 ah∧Aside0 (spec_l05Begin.l0 kq l1 (ak.length:Int) ah ay ak au 1 aq=some (r1,r2,r3))∧Aside0 (kq≤k)∧Aside0 (Kd.S (Kd.slice 2 (Kd.int .i64)) 23 w' w.heap.size (fun k_=>some k_≠(ai:Value).ownBlock) ax au)∧Aside0 (Kd.R (Kd.int .i64) 2 w' w.heap.size (fun _=>True) ai aq)∧Aside0 (w'.heap[aH]?=some (.cells #[(.slice aN ay.length aT),(.slice a9 ak.length aU)] 30 (0,0)))∧Aside0 (w'.heap[aC]?=some (.cells #[(.slice none 0 0), .int .i64 0,(.slice none 0 0)] 100 (0,0)))∧Aside0 (w'.heap[av]?=some (.cells #[ax, .int .i64 1,ai] 100 (0,0)))∧Aside0 (Below w.heap.size w w'))
 case atStart=>exact⟨(0),(([]:List (List Int))),(([]:List Int)),(.slice none 0 0),(.slice none 0 0),rs_,H',⟨Nat.le_refl _⟩,⟨by first | exact Kd.S_nil _ _ _ _ _ | exact Kd.N_nil _ _ _ _ _ | exact Kd.V_nil _ _ _ _ _ | exact Kd.Q_nil _ _ _ _ _ | exact Kd.R_nil _ _ _ _ _⟩,⟨by first | exact Kd.R_nil _ _ _ _ _ | exact Kd.N_nil _ _ _ _ _ | exact Kd.V_nil _ _ _ _ _ | exact Kd.Q_nil _ _ _ _ _ | exact Kd.S_nil _ _ _ _ _⟩,⟨by(with_reducible repeat (first | refine blk_drewN ?_ _ | refine blk_drew ?_ | refine blk_alloc ?_ _));refine blk_far ?_ aw.out _;(with_reducible repeat (first | refine blk_drewN ?_ _ | refine blk_drew ?_ | refine blk_alloc ?_ _));refine blk_far ?_ aw.out _;(with_reducible repeat (first | refine blk_drewN ?_ _ | refine blk_drew ?_ | refine blk_alloc ?_ _));refine blk_far ?_ aw.out _;(with_reducible repeat (first | refine blk_drewN ?_ _ | refine blk_drew ?_ | refine blk_alloc ?_ _));exact af.out⟩,⟨by(with_reducible repeat (first | refine blk_drewN ?_ _ | refine blk_drew ?_ | refine blk_alloc ?_ _));refine blk_far ?_ az.out _;(with_reducible repeat (first | refine blk_drewN ?_ _ | refine blk_drew ?_ | refine blk_alloc ?_ _));refine blk_far ?_ az.out _;(with_reducible repeat (first | refine blk_drewN ?_ _ | refine blk_drew ?_ | refine blk_alloc ?_ _));refine blk_far ?_ az.out _;(with_reducible repeat (first | refine blk_drewN ?_ _ | refine blk_drew ?_ | refine blk_alloc ?_ _));exact aj.out⟩,⟨by(with_reducible repeat (first | refine blk_drewN ?_ _ | refine blk_drew ?_ | refine blk_alloc ?_ _));refine blk_put (cs:= #[.slice none 0 0, .int .i64 1, .slice none 0 0]) ?_ 2 _ rfl;(with_reducible repeat (first | refine blk_drewN ?_ _ | refine blk_drew ?_ | refine blk_alloc ?_ _));refine blk_put (cs:= #[.slice none 0 0, .int .i64 0, .slice none 0 0]) ?_ 1 _ rfl;(with_reducible repeat (first | refine blk_drewN ?_ _ | refine blk_drew ?_ | refine blk_alloc ?_ _));refine blk_put (cs:= #[.slice none 0 0, .int .i64 0, .slice none 0 0]) ?_ 0 _ rfl;(with_reducible repeat (first | refine blk_drewN ?_ _ | refine blk_drew ?_ | refine blk_alloc ?_ _));exact aa.out⟩,⟨hb_⟩⟩
 case round=>
  clear H'
  try clear c1
  try clear p2
  obtain⟨ah,au,aq,ax,ai,rfl,HA,HK1,ag,ae,af,aj,aa,HB⟩:=hrel
  cases gk with
  | zero=>exact absurd HA.out (by simp [spec_l05Begin.l0])
  | succ k1=>
   have H:=HA.out
   clear HA
   simp only [spec_l05Begin.l0] at H
   by_cases c10:ah < (ak.length:Int)
   ·rw [if_pos c10] at H
    have c10b0:decide (ah < (ak.length:Int))=true:=decide_eq_true c10
    clear c10
    obtain⟨bX,hy170⟩: ∃y_:List Int,y_=(([]:List Int)):=⟨_,rfl⟩
    replace H:(spec_l05Begin.l1 k1 l1 (ak.length:Int) ah bX 0 ay ak au 1 aq)=some (r1,r2,r3):=by first | (rw [hy170];with_reducible exact H) | (have H2_:=(Option.bind_some _ _).symm.trans H;rw [hy170];with_reducible exact H2_) | (have H2_:=(Option.bind_some _ _).symm.trans H;with_reducible exact H2_) | with_reducible exact H | (rw [hy170];exact H) | exact H
    have bU:=q_ hy170
    clear hy170
    have H':=q_ H
    clear H
    go_wp2_with (first | ((with_reducible refine gate_dst (N:=20) rfl ?_);refine Kd.R_lit (Kd.int .i64) _ 2 ?hg (N:=20) ?hd (xs:=([]:List Int)) (inner:= []) (ok:=fun _=>True) (okp:=fun _=>True) ?hr ?hp (fun _ hk=>hk) trivial (Below.refl _ _) (Nat.le_refl _) (by simp) ?_;(case hd=>rfl);(case hg=>rfl);(case hr=>first | (go_simp;done) | (go_simp;rfl));(case hp=>exact(Reps.none _ _));intro fI w11 ba hb hg_ hnew_;clear hg_ hnew_;(first | rw [← bU.out] at ba | (simp only [Int.reduceToNat] at ba;rw [← bU.out] at ba));replace ag:=q_ (Kd.S_elder' (so_ ag.out) (Kd.R_base ba) hb);have cD:=q_ (Kd.R_lower (Kd.R_new' ba (Kd.R_lt (ro_ ae.out))) bz_);replace af:=q_ (bb_ af.out hb);replace aj:=q_ (bb_ aj.out hb);replace aa:=q_ (bb_ aa.out hb);replace ae:=q_ (Kd.R_elder' (ro_ ae.out) (Kd.R_base ba) hb);replace HB:=q_ (bs_ hb);clear hb ba))
    go_loopg [8,9] k1 (fun kq v8 v9 w'=> ∃(aX:List Int) (aM:Int),v9= .int .i64 aM∧Aside0 (spec_l05Begin.l1 kq l1 (ak.length:Int) ah aX aM ay ak au 1 aq=some (r1,r2,r3))∧Aside0 (kq≤k1)∧Aside0 (Kd.R (Kd.int .i64) 2 w' w.heap.size (fun k_=>some k_≠(ai:Value).ownBlock) v8 aX)∧Aside0 (Kd.S (Kd.slice 2 (Kd.int .i64)) 23 w' w.heap.size (fun k_=>some k_≠(v8:Value).ownBlock∧some k_≠(ai:Value).ownBlock) ax au)∧Aside0 (Kd.R (Kd.int .i64) 2 w' w.heap.size (fun k_=>some k_≠(v8:Value).ownBlock) ai aq)∧Aside0 (w'.heap[aH]?=some (.cells #[(.slice aN ay.length aT),(.slice a9 ak.length aU)] 30 (0,0)))∧Aside0 (w'.heap[aC]?=some (.cells #[(.slice none 0 0), .int .i64 0,(.slice none 0 0)] 100 (0,0)))∧Aside0 (w'.heap[av]?=some (.cells #[ax, .int .i64 1,ai] 100 (0,0)))∧Aside0 (Below w.heap.size w w'))
    case atStart=>exact⟨(bX),(0),rs_,H',⟨Nat.le_refl _⟩,⟨by(with_reducible repeat (first | apply Kd.R_alloc | apply Kd.R_drewN | apply Kd.R_drew));exact Kd.R_mono cD.out (fun _ hk=>hk.2)⟩,⟨by(with_reducible repeat (first | apply Kd.S_alloc | apply Kd.S_drewN | apply Kd.S_drew));exact Kd.S_mono ag.out (fun _ hk=>⟨hk.2,hk.1⟩)⟩,⟨by(with_reducible repeat (first | apply Kd.R_alloc | apply Kd.R_drewN | apply Kd.R_drew));exact Kd.R_mono ae.out (fun _ hk=>hk.2)⟩,⟨bk_⟩,⟨bk_⟩,⟨bk_⟩,⟨hb_⟩⟩
    case round=>
     clear H'
     try clear c1
     try clear p2
     try clear c10
     try clear c10b0
     try clear p2
     obtain⟨aX,aM,rfl,HA,HK2,aA,ag,ae,af,aj,aa,HB⟩:=hrel
     cases gk with
     | zero=>exact absurd HA.out (by simp [spec_l05Begin.l1])
     | succ k2=>
      have H:=HA.out
      clear HA
      simp only [spec_l05Begin.l1] at H
      by_cases c13:aM < (ak.length:Int)
      ·rw [if_pos c13] at H
       have c13b0:decide (aM < (ak.length:Int))=true:=decide_eq_true c13
       clear c13
       by_cases c14:aM=ah
       ·rw [if_pos c14] at H
        have c14b0:(aM==ah)=true:=beq_iff_eq.mpr c14
        have c14b1:(aM !=ah)=false:=bne_eq_false_iff_eq.mpr c14
        clear c14
        by_cases c15:aX.length < 17592186044416
        ·rw [if_pos c15] at H
         have cE:=q_ c15
         clear c15
         obtain⟨bY,hy173⟩: ∃y_:List Int,y_=(aX++ [1]):=⟨_,rfl⟩
         replace H:(spec_l05Begin.l1 k2 l1 (ak.length:Int) ah bY (wrap64 (aM+1)) ay ak au 1 aq)=some (r1,r2,r3):=by first | (rw [hy173];with_reducible exact H) | (have H2_:=(Option.bind_some _ _).symm.trans H;rw [hy173];with_reducible exact H2_) | (have H2_:=(Option.bind_some _ _).symm.trans H;with_reducible exact H2_) | with_reducible exact H | (rw [hy173];exact H) | exact H
         have cF:=q_ hy173
         clear hy173
         have H':=q_ H
         clear H
         go_wp2_with (first | ((with_reducible refine gate_builtin (b:= .append) (xs:= #[.tmp 29, .tmp 30]) rfl ?_);at_builtin;refine Kd.R_append (Kd.int .i64) (w0:=w) w.heap.size rfl (.tmp 29) (.tmp 30) 23 2 (.int .i64 0) 8 rfl Try.underlying23 info2 rfl (by decide) (by omega) u8 aX 1 [.int .i64 1] (fun k_=>some k_≠(ai:Value).ownBlock) (fun _=>False) rfl rfl ?aP (fun _ hk=>hk.elim) ?aF ?aO ?aB ?aS ?aL ?_;(case aP=>exact rfl);(case aB=>exact hb_);(case aF=>exact(fun k_ hk=>Kd.fresh' (Kd.R_lt (ro_ ae.out)) k_ hk));(case aO=>exact(ro_ aA.out));(case aS=>exact bz_);(case aL=>have:=cE.out;omega);intro fJ w16 ho hb hg hat;rw [← cF.out] at ho;replace ag:=q_ (Kd.S_after (ok:=(fun k_=>some k_≠(ai:Value).ownBlock)) (by(with_reducible repeat (first | apply Kd.S_alloc | apply Kd.S_drewN | apply Kd.S_drew));exact Kd.S_mono ag.out (fun _ hk=>⟨hk.2,hk.1⟩)) hg hat);replace ae:=q_ (Kd.R_after (ok:=(fun _=>True)) (by(with_reducible repeat (first | apply Kd.R_alloc | apply Kd.R_drewN | apply Kd.R_drew));exact Kd.R_mono ae.out (fun _ hk=>⟨trivial,hk⟩)) hg hat);replace af:=q_ (bg_ af.out hg (Kd.R_ne aA.out af.out (by decide)));replace aj:=q_ (bg_ aj.out hg (Kd.R_ne aA.out aj.out (by decide)));replace aa:=q_ (bg_ aa.out hg (Kd.R_ne aA.out aa.out (by decide)));replace HB:=q_ (hb);have cG:=q_ (ho);clear aA ho hb hg hat))
         go_roundg k2
         case measure=>have:=HK1.out;have:=HK2.out;omega
         case rel=>exact⟨(bY),(wrap64 (aM+1)),rs_,H',⟨by have:=HK1.out;have:=HK2.out;omega⟩,⟨ro_ cG.out⟩,⟨by(with_reducible repeat (first | apply Kd.S_alloc | apply Kd.S_drewN | apply Kd.S_drew));exact Kd.S_mono ag.out (fun _ hk=>⟨hk.2,hk.1⟩)⟩,⟨by(with_reducible repeat (first | apply Kd.R_alloc | apply Kd.R_drewN | apply Kd.R_drew));exact Kd.R_mono ae.out (fun _ hk=>hk.2)⟩,⟨bk_⟩,⟨bk_⟩,⟨bk_⟩,⟨hb_⟩⟩
        ·rw [if_neg c15] at H
         exact absurd H (by simp)
       ·rw [if_neg c14] at H
        have c14b0:(aM==ah)=false:=beq_eq_false_iff_ne.mpr c14
        have c14b1:(aM !=ah)=true:=bne_iff_ne.mpr c14
        by_cases c17:aX.length < 17592186044416
        ·rw [if_pos c17] at H
         have cH:=q_ c17
         clear c17
         obtain⟨bZ,hy176⟩: ∃y_:List Int,y_=(aX++ [0]):=⟨_,rfl⟩
         replace H:(spec_l05Begin.l1 k2 l1 (ak.length:Int) ah bZ (wrap64 (aM+1)) ay ak au 1 aq)=some (r1,r2,r3):=by first | (rw [hy176];with_reducible exact H) | (have H2_:=(Option.bind_some _ _).symm.trans H;rw [hy176];with_reducible exact H2_) | (have H2_:=(Option.bind_some _ _).symm.trans H;with_reducible exact H2_) | with_reducible exact H | (rw [hy176];exact H) | exact H
         have cI:=q_ hy176
         clear hy176
         have H':=q_ H
         clear H
         go_wp2_with (first | ((with_reducible refine gate_builtin (b:= .append) (xs:= #[.tmp 32, .tmp 33]) rfl ?_);at_builtin;refine Kd.R_append (Kd.int .i64) (w0:=w) w.heap.size rfl (.tmp 32) (.tmp 33) 23 2 (.int .i64 0) 8 rfl Try.underlying23 info2 rfl (by decide) (by omega) u8 aX 0 [.int .i64 0] (fun k_=>some k_≠(ai:Value).ownBlock) (fun _=>False) rfl rfl ?aP (fun _ hk=>hk.elim) ?aF ?aO ?aB ?aS ?aL ?_;(case aP=>exact rfl);(case aB=>exact hb_);(case aF=>exact(fun k_ hk=>Kd.fresh' (Kd.R_lt (ro_ ae.out)) k_ hk));(case aO=>exact(ro_ aA.out));(case aS=>exact bz_);(case aL=>have:=cH.out;omega);intro fK w18 ho hb hg hat;rw [← cI.out] at ho;replace ag:=q_ (Kd.S_after (ok:=(fun k_=>some k_≠(ai:Value).ownBlock)) (by(with_reducible repeat (first | apply Kd.S_alloc | apply Kd.S_drewN | apply Kd.S_drew));exact Kd.S_mono ag.out (fun _ hk=>⟨hk.2,hk.1⟩)) hg hat);replace ae:=q_ (Kd.R_after (ok:=(fun _=>True)) (by(with_reducible repeat (first | apply Kd.R_alloc | apply Kd.R_drewN | apply Kd.R_drew));exact Kd.R_mono ae.out (fun _ hk=>⟨trivial,hk⟩)) hg hat);replace af:=q_ (bg_ af.out hg (Kd.R_ne aA.out af.out (by decide)));replace aj:=q_ (bg_ aj.out hg (Kd.R_ne aA.out aj.out (by decide)));replace aa:=q_ (bg_ aa.out hg (Kd.R_ne aA.out aa.out (by decide)));replace HB:=q_ (hb);have cJ:=q_ (ho);clear aA ho hb hg hat))
         go_roundg k2
         case measure=>have:=HK1.out;have:=HK2.out;omega
         case rel=>exact⟨(bZ),(wrap64 (aM+1)),rs_,H',⟨by have:=HK1.out;have:=HK2.out;omega⟩,⟨ro_ cJ.out⟩,⟨by(with_reducible repeat (first | apply Kd.S_alloc | apply Kd.S_drewN | apply Kd.S_drew));exact Kd.S_mono ag.out (fun _ hk=>⟨hk.2,hk.1⟩)⟩,⟨by(with_reducible repeat (first | apply Kd.R_alloc | apply Kd.R_drewN | apply Kd.R_drew));exact Kd.R_mono ae.out (fun _ hk=>hk.2)⟩,⟨bk_⟩,⟨bk_⟩,⟨bk_⟩,⟨hb_⟩⟩
        ·rw [if_neg c17] at H
         exact absurd H (by simp)
      ·rw [if_neg c13] at H
       have c13b0:decide (aM < (ak.length:Int))=false:=decide_eq_false c13
       clear c13
       have H':=q_ H
       clear H
       go_wp2
       go_loopg [8,10] k2 (fun kq v8 v10 w'=> ∃(aV:List Int) (aI:Int),v10= .int .i64 aI∧Aside0 (spec_l05Begin.l2 kq l1 (ak.length:Int) ah aV aI ay ak au 1 aq=some (r1,r2,r3))∧Aside0 (kq≤k2)∧Aside0 (Kd.R (Kd.int .i64) 2 w' w.heap.size (fun k_=>some k_≠(ai:Value).ownBlock) v8 aV)∧Aside0 (Kd.S (Kd.slice 2 (Kd.int .i64)) 23 w' w.heap.size (fun k_=>some k_≠(v8:Value).ownBlock∧some k_≠(ai:Value).ownBlock) ax au)∧Aside0 (Kd.R (Kd.int .i64) 2 w' w.heap.size (fun k_=>some k_≠(v8:Value).ownBlock) ai aq)∧Aside0 (w'.heap[aH]?=some (.cells #[(.slice aN ay.length aT),(.slice a9 ak.length aU)] 30 (0,0)))∧Aside0 (w'.heap[aC]?=some (.cells #[(.slice none 0 0), .int .i64 0,(.slice none 0 0)] 100 (0,0)))∧Aside0 (w'.heap[av]?=some (.cells #[ax, .int .i64 1,ai] 100 (0,0)))∧Aside0 (Below w.heap.size w w'))
       case atStart=>exact⟨(aX),(0),rs_,H',⟨Nat.le_refl _⟩,⟨ro_ aA.out⟩,⟨so_ ag.out⟩,⟨ro_ ae.out⟩,⟨bk_⟩,⟨bk_⟩,⟨bk_⟩,⟨hb_⟩⟩
       case round=>
        clear H'
        try clear c1
        try clear p2
        try clear p6
        try clear c10
        try clear c10b0
        try clear c13
        try clear c13b0
        try clear c14
        try clear c14b0
        try clear c14b1
        try clear c15
        try clear c17
        try clear p2
        obtain⟨aV,aI,rfl,HA,HK3,aA,ag,ae,af,aj,aa,HB⟩:=hrel
        cases gk with
        | zero=>exact absurd HA.out (by simp [spec_l05Begin.l2])
        | succ k3=>
         have H:=HA.out
         clear HA
         simp only [spec_l05Begin.l2] at H
         by_cases c19:aI < (ak.length:Int)
         ·rw [if_pos c19] at H
          have c19b0:decide (aI < (ak.length:Int))=true:=decide_eq_true c19
          clear c19
          by_cases c20:0≤ah
          ·rw [if_pos c20] at H
           have c20b0:decide (0≤ah)=true:=decide_eq_true c20
           clear c20
           by_cases c21:ah < (ay.length:Int)
           ·rw [if_pos c21] at H
            have c21b0:decide (ah < (ay.length:Int))=true:=decide_eq_true c21
            clear c21
            by_cases c22:0≤aI
            ·rw [if_pos c22] at H
             have c22b0:decide (0≤aI)=true:=decide_eq_true c22
             clear c22
             by_cases c23:aI < ((rd_L1 ay ah).length:Int)
             ·rw [if_pos c23] at H
              have c23b0:decide (aI < ((rd_L1 ay ah).length:Int))=true:=decide_eq_true c23
              clear c23
              by_cases c24:aV.length < 17592186044416
              ·rw [if_pos c24] at H
               have cK:=q_ c24
               clear c24
               obtain⟨cm,hy181⟩: ∃y_:List Int,y_=(aV++ [wrap64 (-(rd (rd_L1 ay ah) aI))]):=⟨_,rfl⟩
               replace H:(spec_l05Begin.l2 k3 l1 (ak.length:Int) ah cm (wrap64 (aI+1)) ay ak au 1 aq)=some (r1,r2,r3):=by first | (rw [hy181];with_reducible exact H) | (have H2_:=(Option.bind_some _ _).symm.trans H;rw [hy181];with_reducible exact H2_) | (have H2_:=(Option.bind_some _ _).symm.trans H;with_reducible exact H2_) | with_reducible exact H | (rw [hy181];exact H) | exact H
               have cL:=q_ hy181
               clear hy181
               have H':=q_ H
               clear H
               have eY:=bn.out
               have eZ:=bq.out
               have fa:=aw.out
               have fc:=aJ.out
               have dA:wr.cell? ⟨aH,0,none⟩=some (.slice aN ay.length aT):=(blk_cell af.out 0).trans rfl
               have dB:wr.cell? ⟨aH,1,none⟩=some (.slice a9 ak.length aU):=(blk_cell af.out 1).trans rfl
               have dC:=blk_frozen af.out 0
               have dD:=blk_frozen af.out 1
               have p179:0≤(ah:Int):=od_
               have q179:ah < (ay.length:Int):=od_
               obtain⟨fe,eP,eQ,e179,hx179_0,hl179_0,hi179_0⟩:=at_L1 HR0_0.out ah p179 q179
               cases e179
               replace hx179_0:=(HB.out.cell (World.block_lt_of_cell? w _ hx179_0)).trans hx179_0
               have HR179_0:=q_ hi179_0
               have HC179_0:=q_ hl179_0
               clear hi179_0 hl179_0
               replace p179:=eq_true p179
               replace q179:=eq_true q179
               have p180:0≤(aI:Int):=od_
               have q180:aI < ((rd_L1 ay ah).length:Int):=od_
               obtain⟨fg,e180,hx180_0⟩:=Kd.at_int HR179_0.out aI p180 q180
               cases e180
               replace hx180_0:=(HB.out.cell (World.block_lt_of_cell? w _ hx180_0)).trans hx180_0
               replace p180:=eq_true p180
               replace q180:=eq_true q180
               go_wp2_with (first | ((with_reducible refine gate_builtin (b:= .append) (xs:= #[.tmp 40, .tmp 50]) rfl ?_);at_builtin;refine Kd.R_append (Kd.int .i64) (w0:=w) w.heap.size rfl (.tmp 40) (.tmp 50) 23 2 (.int .i64 0) 8 rfl Try.underlying23 info2 rfl (by decide) (by omega) u8 aV (wrap64 (-(rd (rd_L1 ay ah) aI))) [.int .i64 (wrap64 (-(rd (rd_L1 ay ah) aI)))] (fun k_=>some k_≠(ai:Value).ownBlock) (fun _=>False) rfl rfl ?aP (fun _ hk=>hk.elim) ?aF ?aO ?aB ?aS ?aL ?_;(case aP=>exact rfl);(case aB=>exact hb_);(case aF=>exact(fun k_ hk=>Kd.fresh' (Kd.R_lt (ro_ ae.out)) k_ hk));(case aO=>exact(ro_ aA.out));(case aS=>exact bz_);(case aL=>have:=cK.out;omega);intro fL w28 ho hb hg hat;rw [← cL.out] at ho;replace ag:=q_ (Kd.S_after (ok:=(fun k_=>some k_≠(ai:Value).ownBlock)) (by(with_reducible repeat (first | apply Kd.S_alloc | apply Kd.S_drewN | apply Kd.S_drew));exact Kd.S_mono ag.out (fun _ hk=>⟨hk.2,hk.1⟩)) hg hat);replace ae:=q_ (Kd.R_after (ok:=(fun _=>True)) (by(with_reducible repeat (first | apply Kd.R_alloc | apply Kd.R_drewN | apply Kd.R_drew));exact Kd.R_mono ae.out (fun _ hk=>⟨trivial,hk⟩)) hg hat);replace af:=q_ (bg_ af.out hg (Kd.R_ne aA.out af.out (by decide)));replace aj:=q_ (bg_ aj.out hg (Kd.R_ne aA.out aj.out (by decide)));replace aa:=q_ (bg_ aa.out hg (Kd.R_ne aA.out aa.out (by decide)));replace HB:=q_ (hb);have cN:=q_ (ho);clear aA ho hb hg hat))
               go_roundg k3
               case measure=>have:=HK1.out;have:=HK2.out;have:=HK3.out;omega
               case rel=>exact⟨(cm),(wrap64 (aI+1)),rs_,H',⟨by have:=HK1.out;have:=HK2.out;have:=HK3.out;omega⟩,⟨ro_ cN.out⟩,⟨by(with_reducible repeat (first | apply Kd.S_alloc | apply Kd.S_drewN | apply Kd.S_drew));exact Kd.S_mono ag.out (fun _ hk=>⟨hk.2,hk.1⟩)⟩,⟨by(with_reducible repeat (first | apply Kd.R_alloc | apply Kd.R_drewN | apply Kd.R_drew));exact Kd.R_mono ae.out (fun _ hk=>hk.2)⟩,⟨bk_⟩,⟨bk_⟩,⟨bk_⟩,⟨hb_⟩⟩
              ·rw [if_neg c24] at H
               exact absurd H (by simp)
             ·rw [if_neg c23] at H
              exact absurd H (by simp)
            ·rw [if_neg c22] at H
             exact absurd H (by simp)
           ·rw [if_neg c21] at H
            exact absurd H (by simp)
          ·rw [if_neg c20] at H
           exact absurd H (by simp)
         ·rw [if_neg c19] at H
          have c19b0:decide (aI < (ak.length:Int))=false:=decide_eq_false c19
          clear c19
          by_cases c29:(l1.length:Int) > 0
          ·rw [if_pos c29] at H
           have c29b0:decide (0 < (l1.length:Int))=true:=decide_eq_true c29
           have c29b1:decide (0 < l1.length)=true:=decide_eq_true (by omega)
           clear c29
           by_cases c30:0≤ah
           ·rw [if_pos c30] at H
            have c30b0:decide (0≤ah)=true:=decide_eq_true c30
            clear c30
            by_cases c31:ah < (l1.length:Int)
            ·rw [if_pos c31] at H
             have c31b0:decide (ah < (l1.length:Int))=true:=decide_eq_true c31
             clear c31
             by_cases c32:aV.length < 17592186044416
             ·rw [if_pos c32] at H
              have cO:=q_ c32
              clear c32
              obtain⟨bA,hy185⟩: ∃y_:List Int,y_=(aV++ [wrap64 (-(rd l1 ah))]):=⟨_,rfl⟩
              replace H:(if ah < (ak.length:Int) then(if bA.length < 17592186044416 then(if au.length < 5864062014805 then(if aq.length < 17592186044416 then(spec_l05Begin.l0 k3 l1 (ak.length:Int) (wrap64 (ah+1)) ay ak (au++ [(bA++ [rd ak ah])]) 1 (aq++ [ah])) else(none)) else(none)) else(none)) else(none))=some (r1,r2,r3):=by first | (rw [hy185];with_reducible exact H) | (have H2_:=(Option.bind_some _ _).symm.trans H;rw [hy185];with_reducible exact H2_) | (have H2_:=(Option.bind_some _ _).symm.trans H;with_reducible exact H2_) | with_reducible exact H | (rw [hy185];exact H) | exact H
              have cP:=q_ hy185
              clear hy185
              by_cases c33:ah < (ak.length:Int)
              ·rw [if_pos c33] at H
               have c33b0:decide (ah < (ak.length:Int))=true:=decide_eq_true c33
               clear c33
               by_cases c34:bA.length < 17592186044416
               ·rw [if_pos c34] at H
                have cQ:=q_ c34
                clear c34
                obtain⟨bB,hy189⟩: ∃y_:List Int,y_=(bA++ [rd ak ah]):=⟨_,rfl⟩
                replace H:(if au.length < 5864062014805 then(if aq.length < 17592186044416 then(spec_l05Begin.l0 k3 l1 (ak.length:Int) (wrap64 (ah+1)) ay ak (au++ [bB]) 1 (aq++ [ah])) else(none)) else(none))=some (r1,r2,r3):=by first | (rw [hy189];with_reducible exact H) | (have H2_:=(Option.bind_some _ _).symm.trans H;rw [hy189];with_reducible exact H2_) | (have H2_:=(Option.bind_some _ _).symm.trans H;with_reducible exact H2_) | with_reducible exact H | (rw [hy189];exact H) | exact H
                have cT:=q_ hy189
                clear hy189
                by_cases c35:au.length < 5864062014805
                ·rw [if_pos c35] at H
                 have cU:=q_ c35
                 clear c35
                 obtain⟨aY,hy192⟩: ∃y_:List (List Int),y_=(au++ [bB]):=⟨_,rfl⟩
                 replace H:(if aq.length < 17592186044416 then(spec_l05Begin.l0 k3 l1 (ak.length:Int) (wrap64 (ah+1)) ay ak aY 1 (aq++ [ah])) else(none))=some (r1,r2,r3):=by first | (rw [hy192];with_reducible exact H) | (have H2_:=(Option.bind_some _ _).symm.trans H;rw [hy192];with_reducible exact H2_) | (have H2_:=(Option.bind_some _ _).symm.trans H;with_reducible exact H2_) | with_reducible exact H | (rw [hy192];exact H) | exact H
                 have cV:=q_ hy192
                 clear hy192
                 by_cases c36:aq.length < 17592186044416
                 ·rw [if_pos c36] at H
                  have cW:=q_ c36
                  clear c36
                  obtain⟨bC,hy195⟩: ∃y_:List Int,y_=(aq++ [ah]):=⟨_,rfl⟩
                  replace H:(spec_l05Begin.l0 k3 l1 (ak.length:Int) (wrap64 (ah+1)) ay ak aY 1 bC)=some (r1,r2,r3):=by first | (rw [hy195];with_reducible exact H) | (have H2_:=(Option.bind_some _ _).symm.trans H;rw [hy195];with_reducible exact H2_) | (have H2_:=(Option.bind_some _ _).symm.trans H;with_reducible exact H2_) | with_reducible exact H | (rw [hy195];exact H) | exact H
                  have cZ:=q_ hy195
                  clear hy195
                  have H':=q_ H
                  clear H
                  have p184:0≤(ah:Int):=od_
                  have q184:ah < (l1.length:Int):=od_
                  obtain⟨fj,e184,hx184_0⟩:=Kd.at_int HR1.out ah p184 q184
                  cases e184
                  replace hx184_0:=(HB.out.cell (World.block_lt_of_cell? w _ hx184_0)).trans hx184_0
                  replace p184:=eq_true p184
                  replace q184:=eq_true q184
                  try go_wp2_with (first | ((with_reducible refine gate_builtin (b:= .append) (xs:= #[.tmp 55, .tmp 61]) rfl ?_);at_builtin;refine Kd.R_append (Kd.int .i64) (w0:=w) w.heap.size rfl (.tmp 55) (.tmp 61) 23 2 (.int .i64 0) 8 rfl Try.underlying23 info2 rfl (by decide) (by omega) u8 aV (wrap64 (-(rd l1 ah))) [.int .i64 (wrap64 (-(rd l1 ah)))] (fun k_=>some k_≠(ai:Value).ownBlock) (fun _=>False) rfl rfl ?aP (fun _ hk=>hk.elim) ?aF ?aO ?aB ?aS ?aL ?_;(case aP=>exact rfl);(case aB=>exact hb_);(case aF=>exact(fun k_ hk=>Kd.fresh' (Kd.R_lt (ro_ ae.out)) k_ hk));(case aO=>exact(ro_ aA.out));(case aS=>exact bz_);(case aL=>have:=cO.out;omega);intro dr w37 ho hb hg hat;rw [← cP.out] at ho;replace ag:=q_ (Kd.S_after (ok:=(fun k_=>some k_≠(ai:Value).ownBlock)) (by(with_reducible repeat (first | apply Kd.S_alloc | apply Kd.S_drewN | apply Kd.S_drew));exact Kd.S_mono ag.out (fun _ hk=>⟨hk.2,hk.1⟩)) hg hat);replace ae:=q_ (Kd.R_after (ok:=(fun _=>True)) (by(with_reducible repeat (first | apply Kd.R_alloc | apply Kd.R_drewN | apply Kd.R_drew));exact Kd.R_mono ae.out (fun _ hk=>⟨trivial,hk⟩)) hg hat);replace af:=q_ (bg_ af.out hg (Kd.R_ne aA.out af.out (by decide)));replace aj:=q_ (bg_ aj.out hg (Kd.R_ne aA.out aj.out (by decide)));replace aa:=q_ (bg_ aa.out hg (Kd.R_ne aA.out aa.out (by decide)));replace HB:=q_ (hb);have aW:=q_ (ho);clear aA ho hb hg hat))
                  replace ag:=q_ (Kd.S_drew ag.out)
                  replace ae:=q_ (Kd.R_drew ae.out)
                  replace aW:=q_ (Kd.R_drew aW.out)
                  replace af:=q_ (blk_drew af.out)
                  replace aj:=q_ (blk_drew aj.out)
                  replace aa:=q_ (blk_drew aa.out)
                  replace HB:=q_ (below_drew1 HB.out)
                  have p188:0≤(ah:Int):=od_
                  have q188:ah < (ak.length:Int):=od_
                  obtain⟨bH,e188,hx188_0⟩:=Kd.at_int HR0_1.out ah p188 q188
                  have aD:=hx188_0
                  cases e188
                  replace hx188_0:=(HB.out.cell (World.block_lt_of_cell? w _ hx188_0)).trans hx188_0
                  replace p188:=eq_true p188
                  replace q188:=eq_true q188
                  refine st_ (n:=14) (S:=fun w'=>w'.cell? ⟨av,0,none⟩=some (ax)∧w'.cell? ⟨av,1,none⟩=some (.int .i64 1)∧w'.cell? ⟨av,2,none⟩=some (ai)∧w'.cell? ⟨aH,0,none⟩=some (.slice aN ay.length aT)∧w'.cell? ⟨aH,1,none⟩=some (.slice (some bH) ak.length aU)∧w'.cell? (bH.add (ah).toNat)=some (.int .i64 (rd ak ah))) (ds:= [13]) ⟨(blk_cell aa.out 0).trans rfl,(blk_cell aa.out 1).trans rfl,(blk_cell aa.out 2).trans rfl,(blk_cell af.out 0).trans rfl,(blk_cell af.out 1).trans rfl,((HB.out.cell (World.block_lt_of_cell? w _ aD)).trans aD)⟩ (fun hHeld=>?_);refine with_tabW spec_l05Begin.tab18 spec_l05Begin.bits18 (fun HT_ HW_=>?_)
                  generalize w37.drew=w38 at ag ae aW af aj aa HB hx188_0 hHeld ⊢
                  refine pu_ 0 63 ?_;refine pu_ 2 65 ?_;refine pu_ 3 66 ?_;refine pu_ 5 68 ?_;refine tk_ 1 64 ?_;refine tk_ 4 67 ?_;refine pu_ 6 69 ?_;refine tk_ 7 70 ?_
                  refine on_ 8 (some 71) (fun K hK=>?_)
                  refine value_ (w1:=?_) (v:=?_) (by rfl) rfl ?_ ?_
                  rotate_left 2
                  ·go_simp
                   constructor
                   ·rfl
                   ·rfl
                  refine hK.out _ _ ⟨(blk_cell (blk_alloc aa.out _) 0).trans rfl,(blk_cell (blk_alloc aa.out _) 1).trans rfl,(blk_cell (blk_alloc aa.out _) 2).trans rfl,(blk_cell (blk_alloc af.out _) 0).trans rfl,(blk_cell (blk_alloc af.out _) 1).trans rfl,(World.cell?_alloc_lt _ _ _ (World.block_lt_of_cell? _ _ (((HB.out.cell (World.block_lt_of_cell? w _ aD)).trans aD)))).trans (((HB.out.cell (World.block_lt_of_cell? w _ aD)).trans aD))⟩ (fun hHeld=>?_)
                  clear hK K
                  refine norm_ (a':=?_) ?_ ?_
                  rotate_left
                  ·show Act.put _ (some 71) _=_
                   simp only [Act.put,List.setIfInBounds_toArray,List.set_cons_zero,List.set_cons_succ,i64_w,i32_w]
                   rfl
                  refine on_ 9 (some 72) (fun K hK=>?_)
                  refine Kd.R_append_step (Kd.int .i64) (w0:=w) w.heap.size (by rfl) (.tmp 65) (.tmp 71) 23 2 (.int .i64 0) 8 rfl Try.underlying23 info2 rfl (by decide) (by omega) dr bA (rd ak ah) [.int .i64 (rd ak ah)] (fun k_=>some k_≠(ai:Value).ownBlock) (fun _=>False) rfl rfl ?aP (fun _ hk=>hk.elim) ?aF ?aO ?aB ?aS ?aL ?_
                  (case aP=>exact rfl)
                  (case aB=>exact hb_)
                  (case aF=>exact(fun k_ hk=>Kd.fresh' (Kd.R_lt (ro_ ae.out)) k_ hk))
                  (case aO=>exact(ro_ aW.out))
                  (case aS=>exact bz_)
                  (case aL=>have:=cQ.out;omega)
                  intro fM w39 ho hb hg hat
                  rw [← cT.out] at ho
                  replace ag:=q_ (Kd.S_after (ok:=(fun k_=>some k_≠(ai:Value).ownBlock)) (so_ ag.out) hg hat)
                  replace ae:=q_ (Kd.R_after (ok:=(fun _=>True)) (ro_ ae.out) hg hat)
                  replace af:=q_ (bg_ af.out hg (Kd.R_ne aW.out af.out (by decide)))
                  replace aj:=q_ (bg_ aj.out hg (Kd.R_ne aW.out aj.out (by decide)))
                  replace aa:=q_ (bg_ aa.out hg (Kd.R_ne aW.out aa.out (by decide)))
                  replace HB:=q_ (hb)
                  have bu:=q_ (ho)
                  clear aW ho hb hg hat
                  obtain⟨cn,co,cq⟩:=Kd.R_slice bu.out
                  (first | subst cq | (injection cq with f1_ f2_ f3_;have f4_:=f1_.symm;have f5_:=f3_.symm;clear f1_ f2_ f3_;subst f4_;subst f5_))
                  refine hK.out _ _ ⟨(blk_cell aa.out 0).trans rfl,(blk_cell aa.out 1).trans rfl,(blk_cell aa.out 2).trans rfl,(blk_cell af.out 0).trans rfl,(blk_cell af.out 1).trans rfl,((HB.out.cell (World.block_lt_of_cell? w _ aD)).trans aD)⟩ (fun hHeld=>?_)
                  clear hK K
                  refine norm_ (a':=?_) ?_ ?_
                  rotate_left
                  ·show Act.put _ (some 72) _=_
                   simp only [Act.put,List.setIfInBounds_toArray,List.set_cons_zero,List.set_cons_succ,i64_w,i32_w]
                   rfl
                  refine on_ 10 (some 73) (fun K hK=>?_)
                  refine value_ (w1:=?_) (v:=?_) (by rfl) rfl ?_ ?_
                  rotate_left 2
                  ·go_simp
                   constructor
                   ·rfl
                   ·rfl
                  refine hK.out _ _ ⟨(blk_cell (blk_alloc aa.out _) 0).trans rfl,(blk_cell (blk_alloc aa.out _) 1).trans rfl,(blk_cell (blk_alloc aa.out _) 2).trans rfl,(blk_cell (blk_alloc af.out _) 0).trans rfl,(blk_cell (blk_alloc af.out _) 1).trans rfl,(World.cell?_alloc_lt _ _ _ (World.block_lt_of_cell? _ _ (((HB.out.cell (World.block_lt_of_cell? w _ aD)).trans aD)))).trans (((HB.out.cell (World.block_lt_of_cell? w _ aD)).trans aD))⟩ (fun hHeld=>?_)
                  clear hK K
                  refine norm_ (a':=?_) ?_ ?_
                  rotate_left
                  ·show Act.put _ (some 73) _=_
                   simp only [Act.put,List.setIfInBounds_toArray,List.set_cons_zero,List.set_cons_succ,i64_w,i32_w]
                   rfl
                  refine on_ 11 (some 74) (fun K hK=>?_)
                  refine Kd.S_append_step (Kd.slice 2 (Kd.int .i64)) (w0:=w) w.heap.size (by rfl) (.tmp 64) (.tmp 73) 22 23 (.slice none 0 0) 24 rfl Try.underlying22 info23 rfl (by decide) (by omega) ax au bB [.slice cn bB.length co] (fun k_=>some k_≠(ai:Value).ownBlock) (fun k_=>some k_=(.slice cn bB.length co:Value).ownBlock) rfl rfl ?aP (fun k_ hk_=>((Kd.R_mono (ok':=fun k_=>((fun k_=>some k_≠(ai:Value).ownBlock)) k_∧some k_≠(ax:Value).ownBlock) (Kd.R_apart' (bu.out) (Kd.S_typed ag.out) (by decide)) (fun k_ hk=>⟨hk.1,hk.2⟩))).1 k_ hk_.symm) ?aF ?aO ?aB ?aS ?aL ?_
                  (case aP=>exact Kd.M_row (Kd.R_mono (Kd.R_tight rfl (Kd.R_mono (ok':=fun k_=>((fun k_=>some k_≠(ai:Value).ownBlock)) k_∧some k_≠(ax:Value).ownBlock) (Kd.R_apart' (bu.out) (Kd.S_typed ag.out) (by decide)) (fun k_ hk=>⟨hk.1,hk.2⟩))) (fun _ h_=>h_)))
                  (case aB=>exact hb_)
                  (case aF=>exact(fun k_ hk=>Kd.fresh' (Kd.R_lt (ro_ ae.out)) k_ hk))
                  (case aO=>exact(by(with_reducible repeat (first | apply Kd.S_alloc | apply Kd.S_drewN | apply Kd.S_drew));exact Kd.S_mono ag.out (fun k_ hk=>⟨hk.1,fun e_=>hk.2 e_⟩)))
                  (case aS=>exact bz_)
                  (case aL=>have:=cU.out;omega)
                  intro fN w40 ho hb hg hat
                  rw [← cV.out] at ho
                  replace ae:=q_ (Kd.R_over' (ro_ ae.out) (Kd.S_typed (so_ ag.out)) (by decide) hg)
                  replace af:=q_ (bg_ af.out hg (Kd.S_ne ag.out af.out (by decide)))
                  replace aj:=q_ (bg_ aj.out hg (Kd.S_ne ag.out aj.out (by decide)))
                  replace aa:=q_ (bg_ aa.out hg (Kd.S_ne ag.out aa.out (by decide)))
                  replace HB:=q_ (hb)
                  have bv:=q_ (ho)
                  clear ag bu ho hb hg hat
                  obtain⟨bg,bh,ct⟩:=Kd.S_slice bv.out
                  (first | subst ct | (injection ct with f1_ f2_ f3_;have f4_:=f1_.symm;have f5_:=f3_.symm;clear f1_ f2_ f3_;subst f4_;subst f5_))
                  refine hK.out _ _ ⟨(blk_cell aa.out 0).trans rfl,(blk_cell aa.out 1).trans rfl,(blk_cell aa.out 2).trans rfl,(blk_cell af.out 0).trans rfl,(blk_cell af.out 1).trans rfl,((HB.out.cell (World.block_lt_of_cell? w _ aD)).trans aD)⟩ (fun hHeld=>?_)
                  clear hK K
                  refine norm_ (a':=?_) ?_ ?_
                  rotate_left
                  ·show Act.put _ (some 74) _=_
                   simp only [Act.put,List.setIfInBounds_toArray,List.set_cons_zero,List.set_cons_succ,i64_w,i32_w]
                   rfl
                  refine pu_ 12 75 ?_
                  refine la_ 13 none (fun K hK=>?_)
                  have hs43:w40.cell? ⟨av,0,none⟩=some (ax):=(blk_cell aa.out 0).trans rfl
                  have hfs43:=blk_frozen aa.out 0
                  have hns43_0:=aw.out
                  have hns43_1:=az.out
                  have hms43_0:=aJ.out
                  have hms43_1:=aK.out
                  refine skip_ (w1:=?_) (by rfl) rfl ?_ ?_
                  rotate_left
                  ·go_simp
                   rfl
                  refine hK.out _ _ ?_
                  clear hK K
                  refine done_ (done_of HT_.out (by kernel_rfl)) ?_
                  have fk:=aJ.out
                  have fo:=aw.out
                  have fp:=aK.out
                  have fq:=az.out
                  have dE:w40.cell? ⟨av,0,none⟩=some (ax):=(blk_cell aa.out 0).trans rfl
                  have dF:w40.cell? ⟨av,1,none⟩=some (.int .i64 1):=(blk_cell aa.out 1).trans rfl
                  have dG:w40.cell? ⟨av,2,none⟩=some (ai):=(blk_cell aa.out 2).trans rfl
                  have dH:=blk_frozen aa.out 0
                  have dI:=blk_frozen aa.out 1
                  have dJ:=blk_frozen aa.out 2
                  try go_wp2_with (first | ((with_reducible refine gate_builtin (b:= .append) (xs:= #[.tmp 77, .tmp 79]) rfl ?_);at_builtin;refine Kd.R_append (Kd.int .i64) (w0:=w) w.heap.size rfl (.tmp 77) (.tmp 79) 23 2 (.int .i64 0) 8 rfl Try.underlying23 info2 rfl (by decide) (by omega) ai aq ah [.int .i64 ah] (fun _=>True) (fun _=>False) rfl (by first | (go_simp;done) | (go_simp;rfl)) ?aP (fun _ hk=>hk.elim) ?aF ?aO ?aB ?aS ?aL ?_;(case aP=>exact rfl);(case aB=>exact hb_);(case aF=>exact(fun _ _=>trivial));(case aO=>exact(by(with_reducible repeat (first | apply Kd.R_alloc | apply Kd.R_drewN | apply Kd.R_drew));exact Kd.R_mono (Kd.R_far (p:=⟨av,0,none⟩) (Kd.R_types ae.out aa.out (by decide)) (fun _ hk=>hk.2) (.slice bg aY.length bh)) (fun _ hk=>trivial)));(case aS=>exact bz_);(case aL=>have:=cW.out;omega);intro fO w47 ho hb hg hat;rw [← cZ.out] at ho;replace af:=q_ (blk_grown (g:=aH) (o:= .cells #[.slice aN ay.length aT, .slice (some bH) ak.length aU] 30 (0,0)) (by(with_reducible repeat (first | refine blk_drewN ?_ _ | refine blk_drew ?_ | refine blk_alloc ?_ _));refine blk_far ?_ aw.out _;(with_reducible repeat (first | refine blk_drewN ?_ _ | refine blk_drew ?_ | refine blk_alloc ?_ _));exact af.out) hg (Kd.R_ne ae.out af.out (by decide)));replace aj:=q_ (blk_grown (g:=aC) (o:= .cells #[.slice none 0 0, .int .i64 0, .slice none 0 0] 100 (0,0)) (by(with_reducible repeat (first | refine blk_drewN ?_ _ | refine blk_drew ?_ | refine blk_alloc ?_ _));refine blk_far ?_ az.out _;(with_reducible repeat (first | refine blk_drewN ?_ _ | refine blk_drew ?_ | refine blk_alloc ?_ _));exact aj.out) hg (Kd.R_ne ae.out aj.out (by decide)));replace bv:=q_ (Kd.S_after (ok:=(fun _=>True)) (by(with_reducible repeat (first | apply Kd.S_alloc | apply Kd.S_drewN | apply Kd.S_drew));exact Kd.S_mono (Kd.S_far (p:=⟨av,0,none⟩) (Kd.S_types bv.out aa.out (by decide)) (fun _ hk=>hk.2) (.slice bg aY.length bh)) (fun _ hk=>⟨trivial,hk.1⟩)) hg hat);replace HB:=q_ (hb);have bV:=q_ (ho);replace aa:=q_ (blk_grown (g:=av) (o:= .cells #[.slice bg aY.length bh, .int .i64 1,ai] 100 (0,0)) (by(with_reducible repeat (first | refine blk_drewN ?_ _ | refine blk_drew ?_ | refine blk_alloc ?_ _));refine blk_put (cs:= #[ax, .int .i64 1,ai]) ?_ 0 _ rfl;(with_reducible repeat (first | refine blk_drewN ?_ _ | refine blk_drew ?_ | refine blk_alloc ?_ _));exact aa.out) hg (Kd.R_ne ae.out aa.out (by decide)));clear ae ho hb hg hat;obtain⟨bJ,bK,du⟩:=Kd.R_slice bV.out;subst du;have dK:w47.cell? ⟨av,0,none⟩=some (.slice bg aY.length bh):=(blk_cell aa.out 0).trans rfl;have dL:w47.cell? ⟨av,1,none⟩=some (.int .i64 1):=(blk_cell aa.out 1).trans rfl;have dM:w47.cell? ⟨av,2,none⟩=some (ai):=(blk_cell aa.out 2).trans rfl;have dN:=blk_frozen aa.out 0;have dO:=blk_frozen aa.out 1;have dP:=blk_frozen aa.out 2))
                  go_roundg k3
                  case measure=>have:=HK1.out;have:=HK2.out;have:=HK3.out;omega
                  case rel=>exact⟨(wrap64 (ah+1)),(aY),(bC),(.slice bg aY.length bh),(.slice bJ bC.length bK),rs_,H',⟨by have:=HK1.out;have:=HK2.out;have:=HK3.out;omega⟩,⟨by(with_reducible repeat (first | apply Kd.S_alloc | apply Kd.S_drewN | apply Kd.S_drew));exact Kd.S_mono (Kd.S_far (p:=⟨av,2,none⟩) (Kd.S_types bv.out aa.out (by decide)) (fun _ hk=>hk.2) (.slice bJ bC.length bK)) (fun _ hk=>hk.1.2)⟩,⟨by(with_reducible repeat (first | apply Kd.R_alloc | apply Kd.R_drewN | apply Kd.R_drew));exact Kd.R_mono (Kd.R_far (p:=⟨av,2,none⟩) (Kd.R_types bV.out aa.out (by decide)) (fun _ hk=>hk.2) (.slice bJ bC.length bK)) (fun _ hk=>trivial)⟩,⟨by(with_reducible repeat (first | refine blk_drewN ?_ _ | refine blk_drew ?_ | refine blk_alloc ?_ _));refine blk_far ?_ aw.out _;(with_reducible repeat (first | refine blk_drewN ?_ _ | refine blk_drew ?_ | refine blk_alloc ?_ _));exact af.out⟩,⟨by(with_reducible repeat (first | refine blk_drewN ?_ _ | refine blk_drew ?_ | refine blk_alloc ?_ _));refine blk_far ?_ az.out _;(with_reducible repeat (first | refine blk_drewN ?_ _ | refine blk_drew ?_ | refine blk_alloc ?_ _));exact aj.out⟩,⟨by(with_reducible repeat (first | refine blk_drewN ?_ _ | refine blk_drew ?_ | refine blk_alloc ?_ _));refine blk_put (cs:= #[.slice bg aY.length bh, .int .i64 1,ai]) ?_ 2 _ rfl;(with_reducible repeat (first | refine blk_drewN ?_ _ | refine blk_drew ?_ | refine blk_alloc ?_ _));exact aa.out⟩,⟨hb_⟩⟩
                 ·rw [if_neg c36] at H
                  exact absurd H (by simp)
                ·rw [if_neg c35] at H
                 exact absurd H (by simp)
               ·rw [if_neg c34] at H
                exact absurd H (by simp)
              ·rw [if_neg c33] at H
               exact absurd H (by simp)
             ·rw [if_neg c32] at H
              exact absurd H (by simp)
            ·rw [if_neg c31] at H
             exact absurd H (by simp)
           ·rw [if_neg c30] at H
            exact absurd H (by simp)
          ·rw [if_neg c29] at H
           have c29b0:decide (0 < (l1.length:Int))=false:=decide_eq_false c29
           have c29b1:decide (0 < l1.length)=false:=decide_eq_false (by omega)
           clear c29
           by_cases c50:0≤ah
           ·rw [if_pos c50] at H
            have c50b0:decide (0≤ah)=true:=decide_eq_true c50
            clear c50
            by_cases c51:ah < (ak.length:Int)
            ·rw [if_pos c51] at H
             have c51b0:decide (ah < (ak.length:Int))=true:=decide_eq_true c51
             clear c51
             by_cases c52:aV.length < 17592186044416
             ·rw [if_pos c52] at H
              have da:=q_ c52
              clear c52
              obtain⟨bD,hy199⟩: ∃y_:List Int,y_=(aV++ [rd ak ah]):=⟨_,rfl⟩
              replace H:(if au.length < 5864062014805 then(if aq.length < 17592186044416 then(spec_l05Begin.l0 k3 l1 (ak.length:Int) (wrap64 (ah+1)) ay ak (au++ [bD]) 1 (aq++ [ah])) else(none)) else(none))=some (r1,r2,r3):=by first | (rw [hy199];with_reducible exact H) | (have H2_:=(Option.bind_some _ _).symm.trans H;rw [hy199];with_reducible exact H2_) | (have H2_:=(Option.bind_some _ _).symm.trans H;with_reducible exact H2_) | with_reducible exact H | (rw [hy199];exact H) | exact H
              have db:=q_ hy199
              clear hy199
              by_cases c53:au.length < 5864062014805
              ·rw [if_pos c53] at H
               have df:=q_ c53
               clear c53
               obtain⟨aZ,hy202⟩: ∃y_:List (List Int),y_=(au++ [bD]):=⟨_,rfl⟩
               replace H:(if aq.length < 17592186044416 then(spec_l05Begin.l0 k3 l1 (ak.length:Int) (wrap64 (ah+1)) ay ak aZ 1 (aq++ [ah])) else(none))=some (r1,r2,r3):=by first | (rw [hy202];with_reducible exact H) | (have H2_:=(Option.bind_some _ _).symm.trans H;rw [hy202];with_reducible exact H2_) | (have H2_:=(Option.bind_some _ _).symm.trans H;with_reducible exact H2_) | with_reducible exact H | (rw [hy202];exact H) | exact H
               have dh:=q_ hy202
               clear hy202
               by_cases c54:aq.length < 17592186044416
               ·rw [if_pos c54] at H
                have di:=q_ c54
                clear c54
                obtain⟨bE,hy205⟩: ∃y_:List Int,y_=(aq++ [ah]):=⟨_,rfl⟩
                replace H:(spec_l05Begin.l0 k3 l1 (ak.length:Int) (wrap64 (ah+1)) ay ak aZ 1 bE)=some (r1,r2,r3):=by first | (rw [hy205];with_reducible exact H) | (have H2_:=(Option.bind_some _ _).symm.trans H;rw [hy205];with_reducible exact H2_) | (have H2_:=(Option.bind_some _ _).symm.trans H;with_reducible exact H2_) | with_reducible exact H | (rw [hy205];exact H) | exact H
                have dl:=q_ hy205
                clear hy205
                have H':=q_ H
                clear H
                try go_wp2
                replace aA:=q_ (Kd.R_drew aA.out)
                replace ag:=q_ (Kd.S_drew ag.out)
                replace ae:=q_ (Kd.R_drew ae.out)
                replace af:=q_ (blk_drew af.out)
                replace aj:=q_ (blk_drew aj.out)
                replace aa:=q_ (blk_drew aa.out)
                replace HB:=q_ (below_drew1 HB.out)
                have p198:0≤(ah:Int):=od_
                have q198:ah < (ak.length:Int):=od_
                obtain⟨bI,e198,hx198_0⟩:=Kd.at_int HR0_1.out ah p198 q198
                have aG:=hx198_0
                cases e198
                replace hx198_0:=(HB.out.cell (World.block_lt_of_cell? w _ hx198_0)).trans hx198_0
                replace p198:=eq_true p198
                replace q198:=eq_true q198
                refine st_ (n:=14) (S:=fun w'=>w'.cell? ⟨av,0,none⟩=some (ax)∧w'.cell? ⟨av,1,none⟩=some (.int .i64 1)∧w'.cell? ⟨av,2,none⟩=some (ai)∧w'.cell? ⟨aH,0,none⟩=some (.slice aN ay.length aT)∧w'.cell? ⟨aH,1,none⟩=some (.slice (some bI) ak.length aU)∧w'.cell? (bI.add (ah).toNat)=some (.int .i64 (rd ak ah))) (ds:= [13]) ⟨(blk_cell aa.out 0).trans rfl,(blk_cell aa.out 1).trans rfl,(blk_cell aa.out 2).trans rfl,(blk_cell af.out 0).trans rfl,(blk_cell af.out 1).trans rfl,((HB.out.cell (World.block_lt_of_cell? w _ aG)).trans aG)⟩ (fun hHeld=>?_);refine with_tabW spec_l05Begin.tab18 spec_l05Begin.bits18 (fun HT_ HW_=>?_)
                generalize wr.drew=w55 at aA ag ae af aj aa HB hx198_0 hHeld ⊢
                refine pu_ 0 63 ?_;refine pu_ 2 65 ?_;refine pu_ 3 66 ?_;refine pu_ 5 68 ?_;refine tk_ 1 64 ?_;refine tk_ 4 67 ?_;refine pu_ 6 69 ?_;refine tk_ 7 70 ?_
                refine on_ 8 (some 71) (fun K hK=>?_)
                refine value_ (w1:=?_) (v:=?_) (by rfl) rfl ?_ ?_
                rotate_left 2
                ·go_simp
                 constructor
                 ·rfl
                 ·rfl
                refine hK.out _ _ ⟨(blk_cell (blk_alloc aa.out _) 0).trans rfl,(blk_cell (blk_alloc aa.out _) 1).trans rfl,(blk_cell (blk_alloc aa.out _) 2).trans rfl,(blk_cell (blk_alloc af.out _) 0).trans rfl,(blk_cell (blk_alloc af.out _) 1).trans rfl,(World.cell?_alloc_lt _ _ _ (World.block_lt_of_cell? _ _ (((HB.out.cell (World.block_lt_of_cell? w _ aG)).trans aG)))).trans (((HB.out.cell (World.block_lt_of_cell? w _ aG)).trans aG))⟩ (fun hHeld=>?_)
                clear hK K
                refine norm_ (a':=?_) ?_ ?_
                rotate_left
                ·show Act.put _ (some 71) _=_
                 simp only [Act.put,List.setIfInBounds_toArray,List.set_cons_zero,List.set_cons_succ,i64_w,i32_w]
                 rfl
                refine on_ 9 (some 72) (fun K hK=>?_)
                refine Kd.R_append_step (Kd.int .i64) (w0:=w) w.heap.size (by rfl) (.tmp 65) (.tmp 71) 23 2 (.int .i64 0) 8 rfl Try.underlying23 info2 rfl (by decide) (by omega) u8 aV (rd ak ah) [.int .i64 (rd ak ah)] (fun k_=>some k_≠(ai:Value).ownBlock) (fun _=>False) rfl rfl ?aP (fun _ hk=>hk.elim) ?aF ?aO ?aB ?aS ?aL ?_
                (case aP=>exact rfl)
                (case aB=>exact hb_)
                (case aF=>exact(fun k_ hk=>Kd.fresh' (Kd.R_lt (ro_ ae.out)) k_ hk))
                (case aO=>exact(ro_ aA.out))
                (case aS=>exact bz_)
                (case aL=>have:=da.out;omega)
                intro fP w56 ho hb hg hat
                rw [← db.out] at ho
                replace ag:=q_ (Kd.S_after (ok:=(fun k_=>some k_≠(ai:Value).ownBlock)) (by(with_reducible repeat (first | apply Kd.S_alloc | apply Kd.S_drewN | apply Kd.S_drew));exact Kd.S_mono ag.out (fun _ hk=>⟨hk.2,hk.1⟩)) hg hat)
                replace ae:=q_ (Kd.R_after (ok:=(fun _=>True)) (by(with_reducible repeat (first | apply Kd.R_alloc | apply Kd.R_drewN | apply Kd.R_drew));exact Kd.R_mono ae.out (fun _ hk=>⟨trivial,hk⟩)) hg hat)
                replace af:=q_ (bg_ af.out hg (Kd.R_ne aA.out af.out (by decide)))
                replace aj:=q_ (bg_ aj.out hg (Kd.R_ne aA.out aj.out (by decide)))
                replace aa:=q_ (bg_ aa.out hg (Kd.R_ne aA.out aa.out (by decide)))
                replace HB:=q_ (hb)
                have bw:=q_ (ho)
                clear aA ho hb hg hat
                obtain⟨cz,cA,cB⟩:=Kd.R_slice bw.out
                (first | subst cB | (injection cB with f1_ f2_ f3_;have f4_:=f1_.symm;have f5_:=f3_.symm;clear f1_ f2_ f3_;subst f4_;subst f5_))
                refine hK.out _ _ ⟨(blk_cell aa.out 0).trans rfl,(blk_cell aa.out 1).trans rfl,(blk_cell aa.out 2).trans rfl,(blk_cell af.out 0).trans rfl,(blk_cell af.out 1).trans rfl,((HB.out.cell (World.block_lt_of_cell? w _ aG)).trans aG)⟩ (fun hHeld=>?_)
                clear hK K
                refine norm_ (a':=?_) ?_ ?_
                rotate_left
                ·show Act.put _ (some 72) _=_
                 simp only [Act.put,List.setIfInBounds_toArray,List.set_cons_zero,List.set_cons_succ,i64_w,i32_w]
                 rfl
                refine on_ 10 (some 73) (fun K hK=>?_)
                refine value_ (w1:=?_) (v:=?_) (by rfl) rfl ?_ ?_
                rotate_left 2
                ·go_simp
                 constructor
                 ·rfl
                 ·rfl
                refine hK.out _ _ ⟨(blk_cell (blk_alloc aa.out _) 0).trans rfl,(blk_cell (blk_alloc aa.out _) 1).trans rfl,(blk_cell (blk_alloc aa.out _) 2).trans rfl,(blk_cell (blk_alloc af.out _) 0).trans rfl,(blk_cell (blk_alloc af.out _) 1).trans rfl,(World.cell?_alloc_lt _ _ _ (World.block_lt_of_cell? _ _ (((HB.out.cell (World.block_lt_of_cell? w _ aG)).trans aG)))).trans (((HB.out.cell (World.block_lt_of_cell? w _ aG)).trans aG))⟩ (fun hHeld=>?_)
                clear hK K
                refine norm_ (a':=?_) ?_ ?_
                rotate_left
                ·show Act.put _ (some 73) _=_
                 simp only [Act.put,List.setIfInBounds_toArray,List.set_cons_zero,List.set_cons_succ,i64_w,i32_w]
                 rfl
                refine on_ 11 (some 74) (fun K hK=>?_)
                refine Kd.S_append_step (Kd.slice 2 (Kd.int .i64)) (w0:=w) w.heap.size (by rfl) (.tmp 64) (.tmp 73) 22 23 (.slice none 0 0) 24 rfl Try.underlying22 info23 rfl (by decide) (by omega) ax au bD [.slice cz bD.length cA] (fun k_=>some k_≠(ai:Value).ownBlock) (fun k_=>some k_=(.slice cz bD.length cA:Value).ownBlock) rfl rfl ?aP (fun k_ hk_=>((Kd.R_mono (ok':=fun k_=>((fun k_=>some k_≠(ai:Value).ownBlock)) k_∧some k_≠(ax:Value).ownBlock) (Kd.R_apart' (bw.out) (Kd.S_typed ag.out) (by decide)) (fun k_ hk=>⟨hk.1,hk.2⟩))).1 k_ hk_.symm) ?aF ?aO ?aB ?aS ?aL ?_
                (case aP=>exact Kd.M_row (Kd.R_mono (Kd.R_tight rfl (Kd.R_mono (ok':=fun k_=>((fun k_=>some k_≠(ai:Value).ownBlock)) k_∧some k_≠(ax:Value).ownBlock) (Kd.R_apart' (bw.out) (Kd.S_typed ag.out) (by decide)) (fun k_ hk=>⟨hk.1,hk.2⟩))) (fun _ h_=>h_)))
                (case aB=>exact hb_)
                (case aF=>exact(fun k_ hk=>Kd.fresh' (Kd.R_lt (ro_ ae.out)) k_ hk))
                (case aO=>exact(by(with_reducible repeat (first | apply Kd.S_alloc | apply Kd.S_drewN | apply Kd.S_drew));exact Kd.S_mono ag.out (fun k_ hk=>⟨hk.1,fun e_=>hk.2 e_⟩)))
                (case aS=>exact bz_)
                (case aL=>have:=df.out;omega)
                intro fQ w57 ho hb hg hat
                rw [← dh.out] at ho
                replace ae:=q_ (Kd.R_over' (ro_ ae.out) (Kd.S_typed (so_ ag.out)) (by decide) hg)
                replace af:=q_ (bg_ af.out hg (Kd.S_ne ag.out af.out (by decide)))
                replace aj:=q_ (bg_ aj.out hg (Kd.S_ne ag.out aj.out (by decide)))
                replace aa:=q_ (bg_ aa.out hg (Kd.S_ne ag.out aa.out (by decide)))
                replace HB:=q_ (hb)
                have bz:=q_ (ho)
                clear ag bw ho hb hg hat
                obtain⟨bi,bk,cC⟩:=Kd.S_slice bz.out
                (first | subst cC | (injection cC with f1_ f2_ f3_;have f4_:=f1_.symm;have f5_:=f3_.symm;clear f1_ f2_ f3_;subst f4_;subst f5_))
                refine hK.out _ _ ⟨(blk_cell aa.out 0).trans rfl,(blk_cell aa.out 1).trans rfl,(blk_cell aa.out 2).trans rfl,(blk_cell af.out 0).trans rfl,(blk_cell af.out 1).trans rfl,((HB.out.cell (World.block_lt_of_cell? w _ aG)).trans aG)⟩ (fun hHeld=>?_)
                clear hK K
                refine norm_ (a':=?_) ?_ ?_
                rotate_left
                ·show Act.put _ (some 74) _=_
                 simp only [Act.put,List.setIfInBounds_toArray,List.set_cons_zero,List.set_cons_succ,i64_w,i32_w]
                 rfl
                refine pu_ 12 75 ?_
                refine la_ 13 none (fun K hK=>?_)
                have hs60:w57.cell? ⟨av,0,none⟩=some (ax):=(blk_cell aa.out 0).trans rfl
                have hfs60:=blk_frozen aa.out 0
                have hns60_0:=aw.out
                have hns60_1:=az.out
                have hms60_0:=aJ.out
                have hms60_1:=aK.out
                refine skip_ (w1:=?_) (by rfl) rfl ?_ ?_
                rotate_left
                ·go_simp
                 rfl
                refine hK.out _ _ ?_
                clear hK K
                refine done_ (done_of HT_.out (by kernel_rfl)) ?_
                have fu:=aJ.out
                have fw:=aw.out
                have fA:=aK.out
                have fB:=az.out
                have dQ:w57.cell? ⟨av,0,none⟩=some (ax):=(blk_cell aa.out 0).trans rfl
                have dR:w57.cell? ⟨av,1,none⟩=some (.int .i64 1):=(blk_cell aa.out 1).trans rfl
                have dS:w57.cell? ⟨av,2,none⟩=some (ai):=(blk_cell aa.out 2).trans rfl
                have dU:=blk_frozen aa.out 0
                have dV:=blk_frozen aa.out 1
                have dW:=blk_frozen aa.out 2
                try go_wp2_with (first | ((with_reducible refine gate_builtin (b:= .append) (xs:= #[.tmp 77, .tmp 79]) rfl ?_);at_builtin;refine Kd.R_append (Kd.int .i64) (w0:=w) w.heap.size rfl (.tmp 77) (.tmp 79) 23 2 (.int .i64 0) 8 rfl Try.underlying23 info2 rfl (by decide) (by omega) ai aq ah [.int .i64 ah] (fun _=>True) (fun _=>False) rfl (by first | (go_simp;done) | (go_simp;rfl)) ?aP (fun _ hk=>hk.elim) ?aF ?aO ?aB ?aS ?aL ?_;(case aP=>exact rfl);(case aB=>exact hb_);(case aF=>exact(fun _ _=>trivial));(case aO=>exact(by(with_reducible repeat (first | apply Kd.R_alloc | apply Kd.R_drewN | apply Kd.R_drew));exact Kd.R_mono (Kd.R_far (p:=⟨av,0,none⟩) (Kd.R_types ae.out aa.out (by decide)) (fun _ hk=>hk.2) (.slice bi aZ.length bk)) (fun _ hk=>trivial)));(case aS=>exact bz_);(case aL=>have:=di.out;omega);intro fR w64 ho hb hg hat;rw [← dl.out] at ho;replace af:=q_ (blk_grown (g:=aH) (o:= .cells #[.slice aN ay.length aT, .slice (some bI) ak.length aU] 30 (0,0)) (by(with_reducible repeat (first | refine blk_drewN ?_ _ | refine blk_drew ?_ | refine blk_alloc ?_ _));refine blk_far ?_ aw.out _;(with_reducible repeat (first | refine blk_drewN ?_ _ | refine blk_drew ?_ | refine blk_alloc ?_ _));exact af.out) hg (Kd.R_ne ae.out af.out (by decide)));replace aj:=q_ (blk_grown (g:=aC) (o:= .cells #[.slice none 0 0, .int .i64 0, .slice none 0 0] 100 (0,0)) (by(with_reducible repeat (first | refine blk_drewN ?_ _ | refine blk_drew ?_ | refine blk_alloc ?_ _));refine blk_far ?_ az.out _;(with_reducible repeat (first | refine blk_drewN ?_ _ | refine blk_drew ?_ | refine blk_alloc ?_ _));exact aj.out) hg (Kd.R_ne ae.out aj.out (by decide)));replace bz:=q_ (Kd.S_after (ok:=(fun _=>True)) (by(with_reducible repeat (first | apply Kd.S_alloc | apply Kd.S_drewN | apply Kd.S_drew));exact Kd.S_mono (Kd.S_far (p:=⟨av,0,none⟩) (Kd.S_types bz.out aa.out (by decide)) (fun _ hk=>hk.2) (.slice bi aZ.length bk)) (fun _ hk=>⟨trivial,hk.1⟩)) hg hat);replace HB:=q_ (hb);have bW:=q_ (ho);replace aa:=q_ (blk_grown (g:=av) (o:= .cells #[.slice bi aZ.length bk, .int .i64 1,ai] 100 (0,0)) (by(with_reducible repeat (first | refine blk_drewN ?_ _ | refine blk_drew ?_ | refine blk_alloc ?_ _));refine blk_put (cs:= #[ax, .int .i64 1,ai]) ?_ 0 _ rfl;(with_reducible repeat (first | refine blk_drewN ?_ _ | refine blk_drew ?_ | refine blk_alloc ?_ _));exact aa.out) hg (Kd.R_ne ae.out aa.out (by decide)));clear ae ho hb hg hat;obtain⟨bL,bM,dw⟩:=Kd.R_slice bW.out;subst dw;have dX:w64.cell? ⟨av,0,none⟩=some (.slice bi aZ.length bk):=(blk_cell aa.out 0).trans rfl;have dY:w64.cell? ⟨av,1,none⟩=some (.int .i64 1):=(blk_cell aa.out 1).trans rfl;have dZ:w64.cell? ⟨av,2,none⟩=some (ai):=(blk_cell aa.out 2).trans rfl;have d9:=blk_frozen aa.out 0;have ep:=blk_frozen aa.out 1;have ez:=blk_frozen aa.out 2))
                go_roundg k3
                case measure=>have:=HK1.out;have:=HK2.out;have:=HK3.out;omega
                case rel=>exact⟨(wrap64 (ah+1)),(aZ),(bE),(.slice bi aZ.length bk),(.slice bL bE.length bM),rs_,H',⟨by have:=HK1.out;have:=HK2.out;have:=HK3.out;omega⟩,⟨by(with_reducible repeat (first | apply Kd.S_alloc | apply Kd.S_drewN | apply Kd.S_drew));exact Kd.S_mono (Kd.S_far (p:=⟨av,2,none⟩) (Kd.S_types bz.out aa.out (by decide)) (fun _ hk=>hk.2) (.slice bL bE.length bM)) (fun _ hk=>hk.1.2)⟩,⟨by(with_reducible repeat (first | apply Kd.R_alloc | apply Kd.R_drewN | apply Kd.R_drew));exact Kd.R_mono (Kd.R_far (p:=⟨av,2,none⟩) (Kd.R_types bW.out aa.out (by decide)) (fun _ hk=>hk.2) (.slice bL bE.length bM)) (fun _ hk=>trivial)⟩,⟨by(with_reducible repeat (first | refine blk_drewN ?_ _ | refine blk_drew ?_ | refine blk_alloc ?_ _));refine blk_far ?_ aw.out _;(with_reducible repeat (first | refine blk_drewN ?_ _ | refine blk_drew ?_ | refine blk_alloc ?_ _));exact af.out⟩,⟨by(with_reducible repeat (first | refine blk_drewN ?_ _ | refine blk_drew ?_ | refine blk_alloc ?_ _));refine blk_far ?_ az.out _;(with_reducible repeat (first | refine blk_drewN ?_ _ | refine blk_drew ?_ | refine blk_alloc ?_ _));exact aj.out⟩,⟨by(with_reducible repeat (first | refine blk_drewN ?_ _ | refine blk_drew ?_ | refine blk_alloc ?_ _));refine blk_put (cs:= #[.slice bi aZ.length bk, .int .i64 1,ai]) ?_ 2 _ rfl;(with_reducible repeat (first | refine blk_drewN ?_ _ | refine blk_drew ?_ | refine blk_alloc ?_ _));exact aa.out⟩,⟨hb_⟩⟩
               ·rw [if_neg c54] at H
                exact absurd H (by simp)
              ·rw [if_neg c53] at H
               exact absurd H (by simp)
             ·rw [if_neg c52] at H
              exact absurd H (by simp)
            ·rw [if_neg c51] at H
             exact absurd H (by simp)
           ·rw [if_neg c50] at H
            exact absurd H (by simp)
   ·rw [if_neg c10] at H
    have c10b0:decide (ah < (ak.length:Int))=false:=decide_eq_false c10
    clear c10
    simp only [Option.some.injEq,Prod.mk.injEq] at H
    obtain⟨rfl,rfl,rfl⟩:=H
    have fC:=aJ.out
    have fD:=aw.out
    have fE:=aK.out
    have fF:=az.out
    have eB:wr.cell? ⟨av,0,none⟩=some (ax):=(blk_cell aa.out 0).trans rfl
    have eC:wr.cell? ⟨av,1,none⟩=some (.int .i64 1):=(blk_cell aa.out 1).trans rfl
    have eD:wr.cell? ⟨av,2,none⟩=some (ai):=(blk_cell aa.out 2).trans rfl
    have eF:=blk_frozen aa.out 0
    have eG:=blk_frozen aa.out 1
    have eH:=blk_frozen aa.out 2
    obtain⟨bF,bG,dx⟩:=Kd.S_slice ag.out
    subst dx
    have fG:=bq.out
    have fH:=bn.out
    have eI:wr.cell? ⟨aC,0,none⟩=some (.slice none 0 0):=(blk_cell aj.out 0).trans rfl
    have eJ:wr.cell? ⟨aC,1,none⟩=some (.int .i64 0):=(blk_cell aj.out 1).trans rfl
    have eK:wr.cell? ⟨aC,2,none⟩=some (.slice none 0 0):=(blk_cell aj.out 2).trans rfl
    have eL:=blk_frozen aj.out 0
    have eM:=blk_frozen aj.out 1
    have eO:=blk_frozen aj.out 2
    obtain⟨bN,bO,dz⟩:=Kd.R_slice ae.out
    subst dz
    go_wp2
    refine bodyPost_ret (results_cell_row rfl _ _ aC 100 #[.slice bF au.length bG, .int .i64 1, .slice bN aq.length bO] (0,0) _ rfl (by(with_reducible repeat (first | refine blk_drewN ?_ _ | refine blk_drew ?_ | refine blk_alloc ?_ _));refine blk_put (cs:= #[.slice bF au.length bG, .int .i64 1, .slice none 0 0]) ?_ 2 _ rfl;(with_reducible repeat (first | refine blk_drewN ?_ _ | refine blk_drew ?_ | refine blk_alloc ?_ _));refine blk_put (cs:= #[.slice bF au.length bG, .int .i64 0, .slice none 0 0]) ?_ 1 _ rfl;(with_reducible repeat (first | refine blk_drewN ?_ _ | refine blk_drew ?_ | refine blk_alloc ?_ _));refine blk_put (cs:= #[.slice none 0 0, .int .i64 0, .slice none 0 0]) ?_ 0 _ rfl;(with_reducible repeat (first | refine blk_drewN ?_ _ | refine blk_drew ?_ | refine blk_alloc ?_ _));exact aj.out) Try.underlying100 rfl (by kernel_rfl)) rfl ?_
    exact⟨_,_,by first | rfl | (simp [errW_none,errW_some] <;> rfl) | (simp [*,errW_none,errW_some] <;> rfl),by(with_reducible repeat (first | apply Kd.S_alloc | apply Kd.S_drewN | apply Kd.S_drew));exact Kd.S_mono (Kd.S_far (p:=⟨aC,2,none⟩) (Kd.S_far (p:=⟨aC,1,none⟩) (Kd.S_far (p:=⟨aC,0,none⟩) (Kd.S_types ag.out aj.out (by decide)) (fun _ hk=>hk.2) (.slice bF au.length bG)) (fun _ hk=>hk.2) (.int .i64 1)) (fun _ hk=>hk.2) (.slice bN aq.length bO)) (fun _ hk=>hk.1),by(with_reducible repeat (first | apply Kd.R_alloc | apply Kd.R_drewN | apply Kd.R_drew));exact Kd.R_mono (Kd.R_far (p:=⟨aC,2,none⟩) (Kd.R_far (p:=⟨aC,1,none⟩) (Kd.R_far (p:=⟨aC,0,none⟩) (Kd.R_types ae.out aj.out (by decide)) (fun _ hk=>hk.2) (.slice bF au.length bG)) (fun _ hk=>hk.2) (.int .i64 1)) (fun _ hk=>hk.2) (.slice bN aq.length bO)) (fun _ hk=>trivial),hb_⟩
def spec_l05Key.l0:Nat→Int→Int→Int→Int→Int→Int→Int→Int→List (List Int)→Int→List Int→Option (Bool)
 | 0,_,_,_,_,_,_,_,_,_,_,_=>none
 | k+1,x1,x2,x3,x4,x11,x13,x14,x15,aa,ae,af=>if x15 < x11 then(if x13=x14 then(if 0≤x1 then(if x1 < (aa.length:Int) then(if 0≤x15 then(if x15 < ((rd_L1 aa x1).length:Int) then(if 0≤x2 then(if x2 < (aa.length:Int) then(if x15 < ((rd_L1 aa x2).length:Int) then(spec_l05Key.l0 k x1 x2 x3 x4 x11 (wrap64 ((rd (rd_L1 aa x1) x15)*x4)) (wrap64 ((rd (rd_L1 aa x2) x15)*x3)) (wrap64 (x15+1)) aa ae af) else(none)) else(none)) else(none)) else(none)) else(none)) else(none)) else(none)) else(some (decide (x13 < x14)))) else(some (decide (x13 < x14)))
def spec_l05Key.f (k:Nat) (aa:List (List Int)) (a0_1:Int) (ae:List Int) (a1:Int) (a2:Int) (a3:Int) (a4:Int):Option (Bool):=if 0≤a1 then(if a1 < (aa.length:Int) then(if 0≤(wrap64 (((rd_L1 aa a1).length:Int) - 1)) then(if(wrap64 (((rd_L1 aa a1).length:Int) - 1)) < ((rd_L1 aa a1).length:Int) then(if 0≤a2 then(if a2 < (aa.length:Int) then(if(wrap64 (((rd_L1 aa a1).length:Int) - 1)) < ((rd_L1 aa a2).length:Int) then(spec_l05Key.l0 k a1 a2 a3 a4 (aa.length:Int) (wrap64 ((rd (rd_L1 aa a1) (wrap64 (((rd_L1 aa a1).length:Int) - 1)))*a4)) (wrap64 ((rd (rd_L1 aa a2) (wrap64 (((rd_L1 aa a1).length:Int) - 1)))*a3)) 0 aa a0_1 ae) else(none)) else(none)) else(none)) else(none)) else(none)) else(none)) else(none)
theorem spec_l05Key.mono_l: ∀k,(∀y0 y1 y2 y3 y4 y5 y6 y7 y8 y9 y10,LeO (spec_l05Key.l0 k y0 y1 y2 y3 y4 y5 y6 y7 y8 y9 y10) (spec_l05Key.l0 (k+1) y0 y1 y2 y3 y4 y5 y6 y7 y8 y9 y10))
 | 0=>fun _ _ _ _ _ _ _ _ _ _ _ r h=>by simp [spec_l05Key.l0] at h
 | k+1=>by
  have ih0:=spec_l05Key.mono_l k
  ·intro y0 y1 y2 y3 y4 y5 y6 y7 y8 y9 y10
   unfold spec_l05Key.l0
   repeat' first
   | (with_reducible exact ih0 _ _ _ _ _ _ _ _ _ _ _)
   | (with_reducible exact LeO.refl _)
   | (with_reducible exact LeO.none _)
   | (with_reducible refine LeO.ite ?_ ?_)
   | (with_reducible refine LeO.bind ?_ (fun _=>?_))
   | exact ih0 _ _ _ _ _ _ _ _ _ _ _
   | exact LeO.none _
   | refine LeO.ite ?_ ?_
   | refine LeO.bind ?_ (fun _=>?_)
theorem spec_l05Key.mono: ∀a0 a1 a2 a3 a4 a5 a6 k,LeO (spec_l05Key.f k a0 a1 a2 a3 a4 a5 a6) (spec_l05Key.f (k+1) a0 a1 a2 a3 a4 a5 a6):=by
 intro a0 a1 a2 a3 a4 a5 a6 k
 have ih0:=spec_l05Key.mono_l k
 unfold spec_l05Key.f
 repeat' first
   | (with_reducible exact ih0 _ _ _ _ _ _ _ _ _ _ _)
   | (with_reducible exact LeO.refl _)
   | (with_reducible exact LeO.none _)
   | (with_reducible refine LeO.ite ?_ ?_)
   | (with_reducible refine LeO.bind ?_ (fun _=>?_))
   | exact ih0 _ _ _ _ _ _ _ _ _ _ _
   | exact LeO.none _
   | refine LeO.ite ?_ ?_
   | refine LeO.bind ?_ (fun _=>?_)
theorem spec_l05Key.calls (k:Nat) (aw:Option Addr) (aq:Nat) (aa:List (List Int)) (a0_1:Int) (au:Option Addr) (av:Nat) (ah:List Int) (a1:Int) (a2:Int) (a3:Int) (a4:Int) (r:Bool) (w:World) (aU:Kd.C (Kd.slice 2 (Kd.int .i64)) w aw aa.length aa) (aV:aa.length≤aq) (aW:Kd.C (Kd.int .i64) w au ah.length ah) (aX:ah.length≤av) (h:spec_l05Key.f k aa a0_1 ah a1 a2 a3 a4=some r):
  Calls Try.prog 155 #[.agg #[.slice aw aa.length aq, .int .i64 a0_1, .slice au ah.length av], .int .i64 a1, .int .i64 a2, .int .i64 a3, .int .i64 a4] w fun e w'=>e= .returned (.bool r)∧Below w.heap.size w w':=by
 have hu100:=Try.underlying100
 have HR0_0:=q_ aU
 have HC0_0:=q_ aV
 clear aU aV
 have HR0_2:=q_ aW
 have HC0_2:=q_ aX
 clear aW aX
 have HB:=q_ (Below.refl w.heap.size w)
 have H:(if 0≤a1 then(if a1 < (aa.length:Int) then(if 0≤(wrap64 (((rd_L1 aa a1).length:Int) - 1)) then(if(wrap64 (((rd_L1 aa a1).length:Int) - 1)) < ((rd_L1 aa a1).length:Int) then(if 0≤a2 then(if a2 < (aa.length:Int) then(if(wrap64 (((rd_L1 aa a1).length:Int) - 1)) < ((rd_L1 aa a2).length:Int) then(spec_l05Key.l0 k a1 a2 a3 a4 (aa.length:Int) (wrap64 ((rd (rd_L1 aa a1) (wrap64 (((rd_L1 aa a1).length:Int) - 1)))*a4)) (wrap64 ((rd (rd_L1 aa a2) (wrap64 (((rd_L1 aa a1).length:Int) - 1)))*a3)) 0 aa a0_1 ah) else(none)) else(none)) else(none)) else(none)) else(none)) else(none)) else(none))=some r:=h
 clear h
 by_cases c6:0≤a1
 ·rw [if_pos c6] at H
  have c6b0:decide (0≤a1)=true:=decide_eq_true c6
  clear c6
  by_cases c7:a1 < (aa.length:Int)
  ·rw [if_pos c7] at H
   have c7b0:decide (a1 < (aa.length:Int))=true:=decide_eq_true c7
   clear c7
   obtain⟨ji8,hji8⟩: ∃j_:Int,(wrap64 (((rd_L1 aa a1).length:Int) - 1))=j_:=⟨_,rfl⟩
   replace H:(if 0≤(ji8) then(if(ji8) < ((rd_L1 aa a1).length:Int) then(if 0≤a2 then(if a2 < (aa.length:Int) then(if(ji8) < ((rd_L1 aa a2).length:Int) then(spec_l05Key.l0 k a1 a2 a3 a4 (aa.length:Int) (wrap64 ((rd (rd_L1 aa a1) (ji8))*a4)) (wrap64 ((rd (rd_L1 aa a2) (ji8))*a3)) 0 aa a0_1 ah) else(none)) else(none)) else(none)) else(none)) else(none))=some r:=by first | (rw [hji8] at H;exact H) | (simp only [hji8] at H ⊢;exact H)
   have hji8w:(IntKind.i64.wrap (((rd_L1 aa a1).length:Int) - 1))=ji8:=(i64_w _).trans hji8
   by_cases c9:0≤(ji8)
   ·rw [if_pos c9] at H
    have c9b0:decide (0≤(ji8))=true:=decide_eq_true c9
    clear c9
    by_cases c10:(ji8) < ((rd_L1 aa a1).length:Int)
    ·rw [if_pos c10] at H
     have c10b0:decide ((ji8) < ((rd_L1 aa a1).length:Int))=true:=decide_eq_true c10
     clear c10
     by_cases c11:0≤a2
     ·rw [if_pos c11] at H
      have c11b0:decide (0≤a2)=true:=decide_eq_true c11
      clear c11
      by_cases c12:a2 < (aa.length:Int)
      ·rw [if_pos c12] at H
       have c12b0:decide (a2 < (aa.length:Int))=true:=decide_eq_true c12
       clear c12
       by_cases c13:(ji8) < ((rd_L1 aa a2).length:Int)
       ·rw [if_pos c13] at H
        have c13b0:decide ((ji8) < ((rd_L1 aa a2).length:Int))=true:=decide_eq_true c13
        clear c13
        have H':=q_ H
        clear H
        go_enter Try.func155,Try.ntmps155
        go_wp2_with (first | ((with_reducible refine gate_dst (N:=5) rfl ?_);refine box_event ?hg (N:=5) ?hd (cs:= #[.slice aw aa.length aq, .int .i64 a0_1, .slice au ah.length av]) (t:=100) ?hr ?_;(case hd=>rfl);(case hg=>rfl);(case hr=>first | (go_simp;done) | (go_simp;rfl));intro af hg w14 hbox hb;have ae:=q_ (hbox);have aY:=q_ ((by rw [hg];exact bz_:w.heap.size≤af));have aZ:=q_ ((by rw [hg];exact bz_:w.heap.size≤af));replace HB:=q_ (bs_ hb);clear hb hbox hg;have az:w14.cell? ⟨af,0,none⟩=some (.slice aw aa.length aq):=(blk_cell ae.out 0).trans rfl;have aA:w14.cell? ⟨af,1,none⟩=some (.int .i64 a0_1):=(blk_cell ae.out 1).trans rfl;have aC:w14.cell? ⟨af,2,none⟩=some (.slice au ah.length av):=(blk_cell ae.out 2).trans rfl;have aD:=blk_frozen ae.out 0;have aG:=blk_frozen ae.out 1;have aH:=blk_frozen ae.out 2;have p209:0≤(a1:Int):=od_;have q209:a1 < (aa.length:Int):=od_;obtain⟨ai,aI,aJ,e209,hx209_0,hl209_0,hi209_0⟩:=at_L1 HR0_0.out a1 p209 q209;cases e209;replace hx209_0:=(HB.out.cell (World.block_lt_of_cell? w _ hx209_0)).trans hx209_0;have HR209_0:=q_ hi209_0;have HC209_0:=q_ hl209_0;clear hi209_0 hl209_0;replace p209:=eq_true p209;replace q209:=eq_true q209;have p210:0≤(a1:Int):=od_;have q210:a1 < (aa.length:Int):=od_;obtain⟨ax,aK,aM,e210,hx210_0,hl210_0,hi210_0⟩:=at_L1 HR0_0.out a1 p210 q210;obtain rfl:ai=ax:=(by injection e210);replace hx210_0:=(HB.out.cell (World.block_lt_of_cell? w _ hx210_0)).trans hx210_0;have HR210_0:=q_ hi210_0;have HC210_0:=q_ hl210_0;clear hi210_0 hl210_0;replace p210:=eq_true p210;replace q210:=eq_true q210;have ea_:=Option.some.inj (hx209_0.symm.trans hx210_0);injection ea_ with ea_ en_ ec_;subst ea_;subst ec_;clear en_;have p211:0≤((ji8):Int):=od_;have q211:(ji8) < ((rd_L1 aa a1).length:Int):=od_;obtain⟨a9,e211,hx211_0⟩:=Kd.at_int HR210_0.out (ji8) p211 q211;cases e211;replace hx211_0:=(HB.out.cell (World.block_lt_of_cell? w _ hx211_0)).trans hx211_0;replace p211:=eq_true p211;replace q211:=eq_true q211;have p212:0≤(a2:Int):=od_;have q212:a2 < (aa.length:Int):=od_;obtain⟨ay,aN,aT,e212,hx212_0,hl212_0,hi212_0⟩:=at_L1 HR0_0.out a2 p212 q212;obtain rfl:ai=ay:=(by injection e212);replace hx212_0:=(HB.out.cell (World.block_lt_of_cell? w _ hx212_0)).trans hx212_0;have HR212_0:=q_ hi212_0;have HC212_0:=q_ hl212_0;clear hi212_0 hl212_0;replace p212:=eq_true p212;replace q212:=eq_true q212;have p213:0≤((ji8):Int):=od_;have q213:(ji8) < ((rd_L1 aa a2).length:Int):=od_;obtain⟨ba,e213,hx213_0⟩:=Kd.at_int HR212_0.out (ji8) p213 q213;cases e213;replace hx213_0:=(HB.out.cell (World.block_lt_of_cell? w _ hx213_0)).trans hx213_0;replace p213:=eq_true p213;replace q213:=eq_true q213))
        repeat (go_quiet (first | ((with_reducible refine gate_dst (N:=5) rfl ?_);refine box_event ?hg (N:=5) ?hd (cs:= #[.slice aw aa.length aq, .int .i64 a0_1, .slice au ah.length av]) (t:=100) ?hr ?_;(case hd=>rfl);(case hg=>rfl);(case hr=>first | (go_simp;done) | (go_simp;rfl));intro af hg w14 hbox hb;have ae:=q_ (hbox);have aY:=q_ ((by rw [hg];exact bz_:w.heap.size≤af));have aZ:=q_ ((by rw [hg];exact bz_:w.heap.size≤af));replace HB:=q_ (bs_ hb);clear hb hbox hg;have az:w14.cell? ⟨af,0,none⟩=some (.slice aw aa.length aq):=(blk_cell ae.out 0).trans rfl;have aA:w14.cell? ⟨af,1,none⟩=some (.int .i64 a0_1):=(blk_cell ae.out 1).trans rfl;have aC:w14.cell? ⟨af,2,none⟩=some (.slice au ah.length av):=(blk_cell ae.out 2).trans rfl;have aD:=blk_frozen ae.out 0;have aG:=blk_frozen ae.out 1;have aH:=blk_frozen ae.out 2;have p209:0≤(a1:Int):=od_;have q209:a1 < (aa.length:Int):=od_;obtain⟨ai,aI,aJ,e209,hx209_0,hl209_0,hi209_0⟩:=at_L1 HR0_0.out a1 p209 q209;cases e209;replace hx209_0:=(HB.out.cell (World.block_lt_of_cell? w _ hx209_0)).trans hx209_0;have HR209_0:=q_ hi209_0;have HC209_0:=q_ hl209_0;clear hi209_0 hl209_0;replace p209:=eq_true p209;replace q209:=eq_true q209;have p210:0≤(a1:Int):=od_;have q210:a1 < (aa.length:Int):=od_;obtain⟨ax,aK,aM,e210,hx210_0,hl210_0,hi210_0⟩:=at_L1 HR0_0.out a1 p210 q210;obtain rfl:ai=ax:=(by injection e210);replace hx210_0:=(HB.out.cell (World.block_lt_of_cell? w _ hx210_0)).trans hx210_0;have HR210_0:=q_ hi210_0;have HC210_0:=q_ hl210_0;clear hi210_0 hl210_0;replace p210:=eq_true p210;replace q210:=eq_true q210;have ea_:=Option.some.inj (hx209_0.symm.trans hx210_0);injection ea_ with ea_ en_ ec_;subst ea_;subst ec_;clear en_;have p211:0≤((ji8):Int):=od_;have q211:(ji8) < ((rd_L1 aa a1).length:Int):=od_;obtain⟨a9,e211,hx211_0⟩:=Kd.at_int HR210_0.out (ji8) p211 q211;cases e211;replace hx211_0:=(HB.out.cell (World.block_lt_of_cell? w _ hx211_0)).trans hx211_0;replace p211:=eq_true p211;replace q211:=eq_true q211;have p212:0≤(a2:Int):=od_;have q212:a2 < (aa.length:Int):=od_;obtain⟨ay,aN,aT,e212,hx212_0,hl212_0,hi212_0⟩:=at_L1 HR0_0.out a2 p212 q212;obtain rfl:ai=ay:=(by injection e212);replace hx212_0:=(HB.out.cell (World.block_lt_of_cell? w _ hx212_0)).trans hx212_0;have HR212_0:=q_ hi212_0;have HC212_0:=q_ hl212_0;clear hi212_0 hl212_0;replace p212:=eq_true p212;replace q212:=eq_true q212;have p213:0≤((ji8):Int):=od_;have q213:(ji8) < ((rd_L1 aa a2).length:Int):=od_;obtain⟨ba,e213,hx213_0⟩:=Kd.at_int HR212_0.out (ji8) p213 q213;cases e213;replace hx213_0:=(HB.out.cell (World.block_lt_of_cell? w _ hx213_0)).trans hx213_0;replace p213:=eq_true p213;replace q213:=eq_true q213));try go_wp2_with (first | ((with_reducible refine gate_dst (N:=5) rfl ?_);refine box_event ?hg (N:=5) ?hd (cs:= #[.slice aw aa.length aq, .int .i64 a0_1, .slice au ah.length av]) (t:=100) ?hr ?_;(case hd=>rfl);(case hg=>rfl);(case hr=>first | (go_simp;done) | (go_simp;rfl));intro af hg w14 hbox hb;have ae:=q_ (hbox);have aY:=q_ ((by rw [hg];exact bz_:w.heap.size≤af));have aZ:=q_ ((by rw [hg];exact bz_:w.heap.size≤af));replace HB:=q_ (bs_ hb);clear hb hbox hg;have az:w14.cell? ⟨af,0,none⟩=some (.slice aw aa.length aq):=(blk_cell ae.out 0).trans rfl;have aA:w14.cell? ⟨af,1,none⟩=some (.int .i64 a0_1):=(blk_cell ae.out 1).trans rfl;have aC:w14.cell? ⟨af,2,none⟩=some (.slice au ah.length av):=(blk_cell ae.out 2).trans rfl;have aD:=blk_frozen ae.out 0;have aG:=blk_frozen ae.out 1;have aH:=blk_frozen ae.out 2;have p209:0≤(a1:Int):=od_;have q209:a1 < (aa.length:Int):=od_;obtain⟨ai,aI,aJ,e209,hx209_0,hl209_0,hi209_0⟩:=at_L1 HR0_0.out a1 p209 q209;cases e209;replace hx209_0:=(HB.out.cell (World.block_lt_of_cell? w _ hx209_0)).trans hx209_0;have HR209_0:=q_ hi209_0;have HC209_0:=q_ hl209_0;clear hi209_0 hl209_0;replace p209:=eq_true p209;replace q209:=eq_true q209;have p210:0≤(a1:Int):=od_;have q210:a1 < (aa.length:Int):=od_;obtain⟨ax,aK,aM,e210,hx210_0,hl210_0,hi210_0⟩:=at_L1 HR0_0.out a1 p210 q210;obtain rfl:ai=ax:=(by injection e210);replace hx210_0:=(HB.out.cell (World.block_lt_of_cell? w _ hx210_0)).trans hx210_0;have HR210_0:=q_ hi210_0;have HC210_0:=q_ hl210_0;clear hi210_0 hl210_0;replace p210:=eq_true p210;replace q210:=eq_true q210;have ea_:=Option.some.inj (hx209_0.symm.trans hx210_0);injection ea_ with ea_ en_ ec_;subst ea_;subst ec_;clear en_;have p211:0≤((ji8):Int):=od_;have q211:(ji8) < ((rd_L1 aa a1).length:Int):=od_;obtain⟨a9,e211,hx211_0⟩:=Kd.at_int HR210_0.out (ji8) p211 q211;cases e211;replace hx211_0:=(HB.out.cell (World.block_lt_of_cell? w _ hx211_0)).trans hx211_0;replace p211:=eq_true p211;replace q211:=eq_true q211;have p212:0≤(a2:Int):=od_;have q212:a2 < (aa.length:Int):=od_;obtain⟨ay,aN,aT,e212,hx212_0,hl212_0,hi212_0⟩:=at_L1 HR0_0.out a2 p212 q212;obtain rfl:ai=ay:=(by injection e212);replace hx212_0:=(HB.out.cell (World.block_lt_of_cell? w _ hx212_0)).trans hx212_0;have HR212_0:=q_ hi212_0;have HC212_0:=q_ hl212_0;clear hi212_0 hl212_0;replace p212:=eq_true p212;replace q212:=eq_true q212;have p213:0≤((ji8):Int):=od_;have q213:(ji8) < ((rd_L1 aa a2).length:Int):=od_;obtain⟨ba,e213,hx213_0⟩:=Kd.at_int HR212_0.out (ji8) p213 q213;cases e213;replace hx213_0:=(HB.out.cell (World.block_lt_of_cell? w _ hx213_0)).trans hx213_0;replace p213:=eq_true p213;replace q213:=eq_true q213)))
        go_loopg [13,14,15] k (fun kq v13 v14 v15 w'=> ∃(aj:Int) (ak:Int) (ag:Int),v13= .int .i64 aj∧v14= .int .i64 ak∧v15= .int .i64 ag∧Aside0 (spec_l05Key.l0 kq a1 a2 a3 a4 (aa.length:Int) aj ak ag aa a0_1 ah=some r)∧Aside0 (kq≤k)∧Aside0 (w'.heap[af]?=some (.cells #[(.slice (some ai) aa.length aq), .int .i64 a0_1,(.slice au ah.length av)] 100 (0,0)))∧Aside0 (Below w.heap.size w w'))
        case atStart=>exact⟨(wrap64 ((rd (rd_L1 aa a1) (ji8))*a4)),(wrap64 ((rd (rd_L1 aa a2) (ji8))*a3)),(0),(by first | rfl | (simp;done) | (simp only [← hji8] <;> (first | rfl | simp)) | (simp [*];done)),(by first | rfl | (simp;done) | (simp only [← hji8] <;> (first | rfl | simp)) | (simp [*];done)),rs_,H',⟨Nat.le_refl _⟩,⟨bk_⟩,⟨hb_⟩⟩
        case round=>
         clear H'
         try clear c1
         try clear c2
         try clear p2
         try clear q2
         try clear hx2
         try clear c6
         try clear c6b0
         try clear p6
         try clear c7
         try clear c7b0
         try clear c9
         try clear c9b0
         try clear c10
         try clear c10b0
         try clear c11
         try clear c11b0
         try clear c12
         try clear c12b0
         try clear c13
         try clear c13b0
         try clear c15
         try clear az
         try clear aA
         try clear aC
         try clear aD
         try clear aG
         try clear aH
         try clear hx209_0
         try clear hx210_0
         try clear hx211_0
         try clear hx212_0
         try clear hx213_0
         try clear p209
         try clear p210
         try clear p211
         try clear p212
         try clear p213
         try clear q209
         try clear q210
         try clear q211
         try clear q212
         try clear q213
         obtain⟨aj,ak,ag,rfl,rfl,rfl,HA,HK1,ae,HB⟩:=hrel
         cases gk with
         | zero=>exact absurd HA.out (by simp [spec_l05Key.l0])
         | succ k1=>
          have H:=HA.out
          clear HA
          simp only [spec_l05Key.l0] at H
          by_cases c16:ag < (aa.length:Int)
          ·rw [if_pos c16] at H
           have c16b0:decide (ag < (aa.length:Int))=true:=decide_eq_true c16
           clear c16
           by_cases c17:aj=ak
           ·rw [if_pos c17] at H
            have c17b0:(aj==ak)=true:=beq_iff_eq.mpr c17
            have c17b1:(aj !=ak)=false:=bne_eq_false_iff_eq.mpr c17
            clear c17
            by_cases c18:0≤a1
            ·rw [if_pos c18] at H
             have c18b0:decide (0≤a1)=true:=decide_eq_true c18
             clear c18
             by_cases c19:a1 < (aa.length:Int)
             ·rw [if_pos c19] at H
              have c19b0:decide (a1 < (aa.length:Int))=true:=decide_eq_true c19
              clear c19
              by_cases c20:0≤ag
              ·rw [if_pos c20] at H
               have c20b0:decide (0≤ag)=true:=decide_eq_true c20
               clear c20
               by_cases c21:ag < ((rd_L1 aa a1).length:Int)
               ·rw [if_pos c21] at H
                have c21b0:decide (ag < ((rd_L1 aa a1).length:Int))=true:=decide_eq_true c21
                clear c21
                by_cases c22:0≤a2
                ·rw [if_pos c22] at H
                 have c22b0:decide (0≤a2)=true:=decide_eq_true c22
                 clear c22
                 by_cases c23:a2 < (aa.length:Int)
                 ·rw [if_pos c23] at H
                  have c23b0:decide (a2 < (aa.length:Int))=true:=decide_eq_true c23
                  clear c23
                  by_cases c24:ag < ((rd_L1 aa a2).length:Int)
                  ·rw [if_pos c24] at H
                   have c24b0:decide (ag < ((rd_L1 aa a2).length:Int))=true:=decide_eq_true c24
                   clear c24
                   have H':=q_ H
                   clear H
                   have bi:wr.cell? ⟨af,0,none⟩=some (.slice (some ai) aa.length aq):=(blk_cell ae.out 0).trans rfl
                   have bk:wr.cell? ⟨af,1,none⟩=some (.int .i64 a0_1):=(blk_cell ae.out 1).trans rfl
                   have bn:wr.cell? ⟨af,2,none⟩=some (.slice au ah.length av):=(blk_cell ae.out 2).trans rfl
                   have bq:=blk_frozen ae.out 0
                   have bu:=blk_frozen ae.out 1
                   have bv:=blk_frozen ae.out 2
                   have p214:0≤(a1:Int):=od_
                   have q214:a1 < (aa.length:Int):=od_
                   obtain⟨bg,bw,bz,e214,hx214_0,hl214_0,hi214_0⟩:=at_L1 HR0_0.out a1 p214 q214
                   obtain rfl:ai=bg:=(by injection e214)
                   replace hx214_0:=(HB.out.cell (World.block_lt_of_cell? w _ hx214_0)).trans hx214_0
                   have HR214_0:=q_ hi214_0
                   have HC214_0:=q_ hl214_0
                   clear hi214_0 hl214_0
                   replace p214:=eq_true p214
                   replace q214:=eq_true q214
                   have p215:0≤(ag:Int):=od_
                   have q215:ag < ((rd_L1 aa a1).length:Int):=od_
                   obtain⟨bC,e215,hx215_0⟩:=Kd.at_int HR214_0.out ag p215 q215
                   cases e215
                   replace hx215_0:=(HB.out.cell (World.block_lt_of_cell? w _ hx215_0)).trans hx215_0
                   replace p215:=eq_true p215
                   replace q215:=eq_true q215
                   have p216:0≤(a2:Int):=od_
                   have q216:a2 < (aa.length:Int):=od_
                   obtain⟨bh,bA,bB,e216,hx216_0,hl216_0,hi216_0⟩:=at_L1 HR0_0.out a2 p216 q216
                   obtain rfl:ai=bh:=(by injection e216)
                   replace hx216_0:=(HB.out.cell (World.block_lt_of_cell? w _ hx216_0)).trans hx216_0
                   have HR216_0:=q_ hi216_0
                   have HC216_0:=q_ hl216_0
                   clear hi216_0 hl216_0
                   replace p216:=eq_true p216
                   replace q216:=eq_true q216
                   have p217:0≤(ag:Int):=od_
                   have q217:ag < ((rd_L1 aa a2).length:Int):=od_
                   obtain⟨bD,e217,hx217_0⟩:=Kd.at_int HR216_0.out ag p217 q217
                   cases e217
                   replace hx217_0:=(HB.out.cell (World.block_lt_of_cell? w _ hx217_0)).trans hx217_0
                   replace p217:=eq_true p217
                   replace q217:=eq_true q217
                   go_wp2
                   repeat (go_quiet (fail);try go_wp2)
                   go_roundg k1
                   case measure=>have:=HK1.out;omega
                   case rel=>exact⟨(wrap64 ((rd (rd_L1 aa a1) ag)*a4)),(wrap64 ((rd (rd_L1 aa a2) ag)*a3)),(wrap64 (ag+1)),rs_,rs_,rs_,H',⟨by have:=HK1.out;omega⟩,⟨bk_⟩,⟨hb_⟩⟩
                  ·rw [if_neg c24] at H
                   exact absurd H (by simp)
                 ·rw [if_neg c23] at H
                  exact absurd H (by simp)
                ·rw [if_neg c22] at H
                 exact absurd H (by simp)
               ·rw [if_neg c21] at H
                exact absurd H (by simp)
              ·rw [if_neg c20] at H
               exact absurd H (by simp)
             ·rw [if_neg c19] at H
              exact absurd H (by simp)
            ·rw [if_neg c18] at H
             exact absurd H (by simp)
           ·rw [if_neg c17] at H
            have c17b0:(aj==ak)=false:=beq_eq_false_iff_ne.mpr c17
            have c17b1:(aj !=ak)=true:=bne_iff_ne.mpr c17
            obtain rfl:=Option.some.inj H
            go_wp2
            repeat (go_quiet (fail);try go_wp2)
            go_ret
            exact⟨by first | rfl | (simp [errW_none,errW_some] <;> rfl) | (simp only [← hji8];first | rfl | (simp [errW_none,errW_some] <;> rfl)) | (simp [*,errW_none,errW_some] <;> rfl),hb_⟩
          ·rw [if_neg c16] at H
           have c16b0:decide (ag < (aa.length:Int))=false:=decide_eq_false c16
           clear c16
           obtain rfl:=Option.some.inj H
           go_wp2
           repeat (go_quiet (fail);try go_wp2)
           go_ret
           exact⟨by first | rfl | (simp [errW_none,errW_some] <;> rfl) | (simp only [← hji8];first | rfl | (simp [errW_none,errW_some] <;> rfl)) | (simp [*,errW_none,errW_some] <;> rfl),hb_⟩
       ·rw [if_neg c13] at H
        exact absurd H (by simp)
      ·rw [if_neg c12] at H
       exact absurd H (by simp)
     ·rw [if_neg c11] at H
      exact absurd H (by simp)
    ·rw [if_neg c10] at H
     exact absurd H (by simp)
   ·rw [if_neg c9] at H
    exact absurd H (by simp)
  ·rw [if_neg c7] at H
   exact absurd H (by simp)
 ·rw [if_neg c6] at H
  exact absurd H (by simp)
def spec_l05Row.l0:Nat→Int→Int→Int→List (List Int)→Int→List Int→Option (Int)
 | 0,_,_,_,_,_,_=>none
 | k+1,x1,x5,x6,aa,ae,af=>if x6 < (aa.length:Int) then(if 0≤x6 then(if 0≤x1 then(if x1 < ((rd_L1 aa x6).length:Int) then(if(rd (rd_L1 aa x6) x1) > 0 then(if x5 < 0 then(spec_l05Row.l0 k x1 x6 (wrap64 (x6+1)) aa ae af) else(if 0≤x5 then(if x5 < (aa.length:Int) then(if x1 < ((rd_L1 aa x5).length:Int) then((spec_l05Key.f k aa ae af x6 x5 (rd (rd_L1 aa x6) x1) (rd (rd_L1 aa x5) x1)).bind fun ag=>(if ag=true then(spec_l05Row.l0 k x1 x6 (wrap64 (x6+1)) aa ae af) else(spec_l05Row.l0 k x1 x5 (wrap64 (x6+1)) aa ae af))) else(none)) else(none)) else(none))) else(spec_l05Row.l0 k x1 x5 (wrap64 (x6+1)) aa ae af)) else(none)) else(none)) else(none)) else(some x5)
def spec_l05Row.f (k:Nat) (aa:List (List Int)) (a0_1:Int) (ae:List Int) (a1:Int):Option (Int):=spec_l05Row.l0 k a1 (-1) 0 aa a0_1 ae
theorem spec_l05Row.mono_l: ∀k,(∀y0 y1 y2 y3 y4 y5,LeO (spec_l05Row.l0 k y0 y1 y2 y3 y4 y5) (spec_l05Row.l0 (k+1) y0 y1 y2 y3 y4 y5))
 | 0=>fun _ _ _ _ _ _ r h=>by simp [spec_l05Row.l0] at h
 | k+1=>by
  have ih0:=spec_l05Row.mono_l k
  ·intro y0 y1 y2 y3 y4 y5
   unfold spec_l05Row.l0
   repeat' first
   | (with_reducible exact ih0 _ _ _ _ _ _)
   | (with_reducible exact spec_l05Key.mono _ _ _ _ _ _ _ _)
   | (with_reducible exact LeO.refl _)
   | (with_reducible exact LeO.none _)
   | (with_reducible refine LeO.ite ?_ ?_)
   | (with_reducible refine LeO.bind ?_ (fun _=>?_))
   | exact ih0 _ _ _ _ _ _
   | exact spec_l05Key.mono _ _ _ _ _ _ _ _
   | exact LeO.none _
   | refine LeO.ite ?_ ?_
   | refine LeO.bind ?_ (fun _=>?_)
theorem spec_l05Row.mono: ∀a0 a1 a2 a3 k,LeO (spec_l05Row.f k a0 a1 a2 a3) (spec_l05Row.f (k+1) a0 a1 a2 a3):=by
 intro a0 a1 a2 a3 k
 have ih0:=spec_l05Row.mono_l k
 unfold spec_l05Row.f
 repeat' first
   | (with_reducible exact ih0 _ _ _ _ _ _)
   | (with_reducible exact spec_l05Key.mono _ _ _ _ _ _ _ _)
   | (with_reducible exact LeO.refl _)
   | (with_reducible exact LeO.none _)
   | (with_reducible refine LeO.ite ?_ ?_)
   | (with_reducible refine LeO.bind ?_ (fun _=>?_))
   | exact ih0 _ _ _ _ _ _
   | exact spec_l05Key.mono _ _ _ _ _ _ _ _
   | exact LeO.none _
   | refine LeO.ite ?_ ?_
   | refine LeO.bind ?_ (fun _=>?_)
def spec_l05Row.T5:Bool × List (List Nat × List Nat):=(true, [([], []),([0], [0]),([], []),([1,2], [1,2]),([3], [3]),([], []),([4,5], [4,5]),([6], [6]),([7], [7]),([8], [8]),([9], [9]),([10,9], [9,10]),([11,9,9], [9,11]),([12], [12]),([12], [12]),([12], [12]),([12], [12]),([16,12], [12,16]),([12], [12]),([17,18,12], [12,17,18]),([19,12], [12,19]),([12], [12]),([20,21,12], [12,20,21]),([22,12], [12,22]),([12], [12]),([24,12], [12,24]),([12], [12]),([25,26,12], [12,25,26]),([27,12], [12,27]),([12], [12]),([28,29,12], [12,28,29]),([30,12], [12,30]),([13,14,15,23,31,12,12], [12,13,14,15,23,31]),([12,32,9], [9,12,32]),([9,33], [9,33])])
def spec_l05Row.B5:List Nat:= [0,1,0,7,15,0,63,127,255,511,1023,2047,4095,8191,8191,8191,8191,73727,8191,466943,991231,8191,4136959,8331263,8191,16785407,8191,117448703,251666431,8191,1056972799,2130714623,4294967295,8589934591,17179869183]
theorem spec_l05Row.tab5:rtab .any (opsOf Try.f156 5)=spec_l05Row.T5:=by kernel_rfl
theorem spec_l05Row.bits5:waitsOk spec_l05Row.T5.2 spec_l05Row.B5=true:=by kernel_rfl
theorem spec_l05Row.calls (k:Nat) (aG:Option Addr) (az:Nat) (ae:List (List Int)) (a0_1:Int) (aA:Option Addr) (aC:Nat) (aq:List Int) (a1:Int) (r:Int) (w:World) (aW:Kd.C (Kd.slice 2 (Kd.int .i64)) w aG ae.length ae) (aX:ae.length≤az) (aY:Kd.C (Kd.int .i64) w aA aq.length aq) (aZ:aq.length≤aC) (h:spec_l05Row.f k ae a0_1 aq a1=some r):
  Calls Try.prog 156 #[.agg #[.slice aG ae.length az, .int .i64 a0_1, .slice aA aq.length aC], .int .i64 a1] w fun e w'=>e= .returned (.int .i64 r)∧Below w.heap.size w w':=by
 have hu100:=Try.underlying100
 have HR0_0:=q_ aW
 have HC0_0:=q_ aX
 clear aW aX
 have HR0_2:=q_ aY
 have HC0_2:=q_ aZ
 clear aY aZ
 have HB:=q_ (Below.refl w.heap.size w)
 have H:(spec_l05Row.l0 k a1 (-1) 0 ae a0_1 aq)=some r:=h
 clear h
 have H':=q_ H
 clear H
 go_enter Try.func156,Try.ntmps156
 go_wp2_with (first | ((with_reducible refine gate_dst (N:=2) rfl ?_);refine box_event ?hg (N:=2) ?hd (cs:= #[.slice aG ae.length az, .int .i64 a0_1, .slice aA aq.length aC]) (t:=100) ?hr ?_;(case hd=>rfl);(case hg=>rfl);(case hr=>first | (go_simp;done) | (go_simp;rfl));intro ah hg w3 hbox hb;have aa:=q_ (hbox);have bY:=q_ ((by rw [hg];exact bz_:w.heap.size≤ah));have bZ:=q_ ((by rw [hg];exact bz_:w.heap.size≤ah));replace HB:=q_ (bs_ hb);clear hb hbox hg))
 go_loopg [5,6] k (fun kq v5 v6 w'=> ∃(ag:Int) (af:Int),v5= .int .i64 ag∧v6= .int .i64 af∧Aside0 (spec_l05Row.l0 kq a1 ag af ae a0_1 aq=some r)∧Aside0 (kq≤k)∧Aside0 (w'.heap[ah]?=some (.cells #[(.slice aG ae.length az), .int .i64 a0_1,(.slice aA aq.length aC)] 100 (0,0)))∧Aside0 (Below w.heap.size w w'))
 case atStart=>exact⟨((-1)),(0),rs_,rs_,H',⟨Nat.le_refl _⟩,⟨bk_⟩,⟨hb_⟩⟩
 case round=>
  clear H'
  try clear c1
  try clear p2
  obtain⟨ag,af,rfl,rfl,HA,HK1,aa,HB⟩:=hrel
  cases gk with
  | zero=>exact absurd HA.out (by simp [spec_l05Row.l0])
  | succ k1=>
   have H:=HA.out
   clear HA
   simp only [spec_l05Row.l0] at H
   by_cases c4:af < (ae.length:Int)
   ·rw [if_pos c4] at H
    have c4b0:decide (af < (ae.length:Int))=true:=decide_eq_true c4
    clear c4
    by_cases c5:0≤af
    ·rw [if_pos c5] at H
     have c5b0:decide (0≤af)=true:=decide_eq_true c5
     clear c5
     by_cases c6:0≤a1
     ·rw [if_pos c6] at H
      have c6b0:decide (0≤a1)=true:=decide_eq_true c6
      clear c6
      by_cases c7:a1 < ((rd_L1 ae af).length:Int)
      ·rw [if_pos c7] at H
       have c7b0:decide (a1 < ((rd_L1 ae af).length:Int))=true:=decide_eq_true c7
       clear c7
       by_cases c8:(rd (rd_L1 ae af) a1) > 0
       ·rw [if_pos c8] at H
        have c8b0:decide (0 < (rd (rd_L1 ae af) a1))=true:=decide_eq_true c8
        clear c8
        by_cases c9:ag < 0
        ·rw [if_pos c9] at H
         have c9b0:decide (ag < 0)=true:=decide_eq_true c9
         clear c9
         have H':=q_ H
         clear H
         have bk:wr.cell? ⟨ah,0,none⟩=some (.slice aG ae.length az):=(blk_cell aa.out 0).trans rfl
         have bn:wr.cell? ⟨ah,1,none⟩=some (.int .i64 a0_1):=(blk_cell aa.out 1).trans rfl
         have bq:wr.cell? ⟨ah,2,none⟩=some (.slice aA aq.length aC):=(blk_cell aa.out 2).trans rfl
         have bu:=blk_frozen aa.out 0
         have bv:=blk_frozen aa.out 1
         have bw:=blk_frozen aa.out 2
         try go_wp2
         replace aa:=q_ (blk_drew aa.out)
         replace HB:=q_ (below_drew1 HB.out)
         have p219:0≤(af:Int):=od_
         have q219:af < (ae.length:Int):=od_
         obtain⟨ak,aI,aD,e219,hx219_0,hl219_0,hi219_0⟩:=at_L1 HR0_0.out af p219 q219
         have ai:=hx219_0
         cases e219
         replace hx219_0:=(HB.out.cell (World.block_lt_of_cell? w _ hx219_0)).trans hx219_0
         have HR219_0:=q_ hi219_0
         have HC219_0:=q_ hl219_0
         clear hi219_0 hl219_0
         replace p219:=eq_true p219
         replace q219:=eq_true q219
         have p220:0≤(a1:Int):=od_
         have q220:a1 < ((rd_L1 ae af).length:Int):=od_
         obtain⟨au,e220,hx220_0⟩:=Kd.at_int HR219_0.out a1 p220 q220
         have aj:=hx220_0
         cases e220
         replace hx220_0:=(HB.out.cell (World.block_lt_of_cell? w _ hx220_0)).trans hx220_0
         replace p220:=eq_true p220
         replace q220:=eq_true q220
         refine st_ (n:=35) (S:=fun w'=>w'.cell? ⟨ah,0,none⟩=some (.slice (some ak) ae.length az)∧w'.cell? ⟨ah,1,none⟩=some (.int .i64 a0_1)∧w'.cell? ⟨ah,2,none⟩=some (.slice aA aq.length aC)∧w'.cell? (ak.add (af).toNat)=some (.slice (some au) (rd_L1 ae af).length aD)∧w'.cell? (au.add (a1).toNat)=some (.int .i64 (rd (rd_L1 ae af) a1))) (ds:= []) ⟨(blk_cell aa.out 0).trans rfl,(blk_cell aa.out 1).trans rfl,(blk_cell aa.out 2).trans rfl,((HB.out.cell (World.block_lt_of_cell? w _ ai)).trans ai),((HB.out.cell (World.block_lt_of_cell? w _ aj)).trans aj)⟩ (fun hHeld=>?_);refine with_tabW spec_l05Row.tab5 spec_l05Row.bits5 (fun HT_ HW_=>?_)
         generalize wr.drew=w11 at aa HB HR219_0 hx219_0 hx220_0 hHeld ⊢
         refine pu_ 0 14 ?_;refine pu_ 2 16 ?_;refine pu_ 5 19 ?_;refine tk_ 1 15 ?_;refine pu_ 3 17 ?_;refine tk_ 4 18 ?_;refine pu_ 6 20 ?_;refine tk_ 7 21 ?_;refine pu_ 8 22 ?_;refine pu_ 9 23 ?_;refine pu_ 10 24 ?_;refine pu_ 11 25 ?_;refine pu_ 12 26 ?_;refine pn_ 13 27 ?_;refine pn_ 14 28 ?_;refine pn_ 15 29 ?_;refine pn_ 16 30 ?_;refine pn_ 17 31 ?_;refine pn_ 18 32 ?_;refine pn_ 19 33 ?_;refine pn_ 20 34 ?_;refine pn_ 21 35 ?_;refine pn_ 22 36 ?_;refine pn_ 23 37 ?_;refine pn_ 24 38 ?_;refine pn_ 25 39 ?_;refine pn_ 26 40 ?_;refine pn_ 27 41 ?_;refine pn_ 28 42 ?_;refine pn_ 29 43 ?_;refine pn_ 30 44 ?_;refine pn_ 31 45 ?_;refine pn_ 32 46 ?_;refine pu_ 33 47 ?_;refine pu_ 34 48 ?_
         refine done_ (done_of HT_.out (by kernel_rfl)) ?_
         try go_wp2
         go_roundg k1
         case measure=>have:=HK1.out;omega
         case rel=>exact⟨(af),(wrap64 (af+1)),rs_,rs_,H',⟨by have:=HK1.out;omega⟩,⟨bk_⟩,⟨hb_⟩⟩
        ·rw [if_neg c9] at H
         have c9b0:decide (ag < 0)=false:=decide_eq_false c9
         clear c9
         by_cases c12:0≤ag
         ·rw [if_pos c12] at H
          have c12b0:decide (0≤ag)=true:=decide_eq_true c12
          clear c12
          by_cases c13:ag < (ae.length:Int)
          ·rw [if_pos c13] at H
           have c13b0:decide (ag < (ae.length:Int))=true:=decide_eq_true c13
           clear c13
           by_cases c14:a1 < ((rd_L1 ae ag).length:Int)
           ·rw [if_pos c14] at H
            have c14b0:decide (a1 < ((rd_L1 ae ag).length:Int))=true:=decide_eq_true c14
            clear c14
            replace H:=Option.bind_eq_some_iff.mp H
            obtain⟨a9,A150,H⟩:=H
            replace H:(if a9=true then(spec_l05Row.l0 k1 a1 af (wrap64 (af+1)) ae a0_1 aq) else(spec_l05Row.l0 k1 a1 ag (wrap64 (af+1)) ae a0_1 aq))=some r:=H
            have A15:=q_ A150
            clear A150
            by_cases c16:a9=true
            ·subst c16
             have H1:(spec_l05Row.l0 k1 a1 af (wrap64 (af+1)) ae a0_1 aq)=some r:=by rw [if_pos rfl] at H;exact H
             clear H
             have H:=H1
             clear H1
             have H':=q_ H
             clear H
             have bz:wr.cell? ⟨ah,0,none⟩=some (.slice aG ae.length az):=(blk_cell aa.out 0).trans rfl
             have bA:wr.cell? ⟨ah,1,none⟩=some (.int .i64 a0_1):=(blk_cell aa.out 1).trans rfl
             have bB:wr.cell? ⟨ah,2,none⟩=some (.slice aA aq.length aC):=(blk_cell aa.out 2).trans rfl
             have bC:=blk_frozen aa.out 0
             have bD:=blk_frozen aa.out 1
             have bE:=blk_frozen aa.out 2
             try go_wp2
             replace aa:=q_ (blk_drew aa.out)
             replace HB:=q_ (below_drew1 HB.out)
             have p219:0≤(af:Int):=od_
             have q219:af < (ae.length:Int):=od_
             obtain⟨ak,aI,aD,e219,hx219_0,hl219_0,hi219_0⟩:=at_L1 HR0_0.out af p219 q219
             have ai:=hx219_0
             cases e219
             replace hx219_0:=(HB.out.cell (World.block_lt_of_cell? w _ hx219_0)).trans hx219_0
             have HR219_0:=q_ hi219_0
             have HC219_0:=q_ hl219_0
             clear hi219_0 hl219_0
             replace p219:=eq_true p219
             replace q219:=eq_true q219
             have p220:0≤(a1:Int):=od_
             have q220:a1 < ((rd_L1 ae af).length:Int):=od_
             obtain⟨au,e220,hx220_0⟩:=Kd.at_int HR219_0.out a1 p220 q220
             have aj:=hx220_0
             cases e220
             replace hx220_0:=(HB.out.cell (World.block_lt_of_cell? w _ hx220_0)).trans hx220_0
             replace p220:=eq_true p220
             replace q220:=eq_true q220
             have p221:0≤(af:Int):=od_
             have q221:af < (ae.length:Int):=od_
             obtain⟨aK,ba,bg,e221,hx221_0,hl221_0,hi221_0⟩:=at_L1 HR0_0.out af p221 q221
             have av:=hx221_0
             obtain rfl:ak=aK:=(by injection e221)
             replace hx221_0:=(HB.out.cell (World.block_lt_of_cell? w _ hx221_0)).trans hx221_0
             have HR221_0:=q_ hi221_0
             have HC221_0:=q_ hl221_0
             clear hi221_0 hl221_0
             replace p221:=eq_true p221
             replace q221:=eq_true q221
             have ea_:=Option.some.inj (hx219_0.symm.trans hx221_0)
             injection ea_ with ea_ en_ ec_
             subst ea_
             subst ec_
             clear en_
             have p222:0≤(a1:Int):=od_
             have q222:a1 < ((rd_L1 ae af).length:Int):=od_
             obtain⟨bi,e222,hx222_0⟩:=Kd.at_int HR221_0.out a1 p222 q222
             have aw:=hx222_0
             cases e222
             replace hx222_0:=(HB.out.cell (World.block_lt_of_cell? w _ hx222_0)).trans hx222_0
             replace p222:=eq_true p222
             replace q222:=eq_true q222
             have p223:0≤(ag:Int):=od_
             have q223:ag < (ae.length:Int):=od_
             obtain⟨aM,bh,aJ,e223,hx223_0,hl223_0,hi223_0⟩:=at_L1 HR0_0.out ag p223 q223
             have ax:=hx223_0
             obtain rfl:ak=aM:=(by injection e223)
             replace hx223_0:=(HB.out.cell (World.block_lt_of_cell? w _ hx223_0)).trans hx223_0
             have HR223_0:=q_ hi223_0
             have HC223_0:=q_ hl223_0
             clear hi223_0 hl223_0
             replace p223:=eq_true p223
             replace q223:=eq_true q223
             have p224:0≤(a1:Int):=od_
             have q224:a1 < ((rd_L1 ae ag).length:Int):=od_
             obtain⟨aH,e224,hx224_0⟩:=Kd.at_int HR223_0.out a1 p224 q224
             have ay:=hx224_0
             cases e224
             replace hx224_0:=(HB.out.cell (World.block_lt_of_cell? w _ hx224_0)).trans hx224_0
             replace p224:=eq_true p224
             replace q224:=eq_true q224
             refine st_ (n:=35) (S:=fun w'=>w'.cell? ⟨ah,0,none⟩=some (.slice (some ak) ae.length az)∧w'.cell? ⟨ah,1,none⟩=some (.int .i64 a0_1)∧w'.cell? ⟨ah,2,none⟩=some (.slice aA aq.length aC)∧w'.cell? (ak.add (af).toNat)=some (.slice (some au) (rd_L1 ae af).length aD)∧w'.cell? (au.add (a1).toNat)=some (.int .i64 (rd (rd_L1 ae af) a1))∧w'.cell? (ak.add (af).toNat)=some (.slice (some au) (rd_L1 ae af).length aD)∧w'.cell? (au.add (a1).toNat)=some (.int .i64 (rd (rd_L1 ae af) a1))∧w'.cell? (ak.add (ag).toNat)=some (.slice (some aH) (rd_L1 ae ag).length aJ)∧w'.cell? (aH.add (a1).toNat)=some (.int .i64 (rd (rd_L1 ae ag) a1))) (ds:= []) ⟨(blk_cell aa.out 0).trans rfl,(blk_cell aa.out 1).trans rfl,(blk_cell aa.out 2).trans rfl,((HB.out.cell (World.block_lt_of_cell? w _ ai)).trans ai),((HB.out.cell (World.block_lt_of_cell? w _ aj)).trans aj),((HB.out.cell (World.block_lt_of_cell? w _ av)).trans av),((HB.out.cell (World.block_lt_of_cell? w _ aw)).trans aw),((HB.out.cell (World.block_lt_of_cell? w _ ax)).trans ax),((HB.out.cell (World.block_lt_of_cell? w _ ay)).trans ay)⟩ (fun hHeld=>?_);refine with_tabW spec_l05Row.tab5 spec_l05Row.bits5 (fun HT_ HW_=>?_)
             generalize wr.drew=w18 at aa HB HR219_0 HR221_0 HR223_0 hx219_0 hx220_0 hx221_0 hx222_0 hx223_0 hx224_0 hHeld ⊢
             refine pu_ 0 14 ?_;refine pu_ 2 16 ?_;refine pu_ 5 19 ?_;refine tk_ 1 15 ?_;refine pu_ 3 17 ?_;refine tk_ 4 18 ?_;refine pu_ 6 20 ?_;refine tk_ 7 21 ?_;refine pu_ 8 22 ?_;refine pu_ 9 23 ?_;refine pu_ 10 24 ?_;refine pu_ 11 25 ?_;refine pu_ 12 26 ?_;refine pu_ 14 28 ?_;refine pu_ 15 29 ?_;refine pu_ 16 30 ?_;refine pu_ 18 32 ?_;refine pu_ 21 35 ?_;refine pu_ 24 38 ?_;refine pu_ 26 40 ?_;refine pu_ 29 43 ?_;refine tk_ 13 27 ?_;refine tk_ 17 31 ?_;refine pu_ 19 33 ?_;refine tk_ 20 34 ?_;refine pu_ 22 36 ?_;refine tk_ 23 37 ?_;refine tk_ 25 39 ?_;refine pu_ 27 41 ?_;refine tk_ 28 42 ?_;refine pu_ 30 44 ?_;refine tk_ 31 45 ?_
             refine on_ 32 (some 46) (fun K hK=>?_)
             refine goes_ Try.func155 (by kernel_rfl) rfl #[.agg #[.slice (some ak) ae.length az, .int .i64 a0_1, .slice aA aq.length aC], .int .i64 af, .int .i64 ag, .int .i64 (rd (rd_L1 ae af) a1), .int .i64 (rd (rd_L1 ae ag) a1)] (by rfl) rfl rfl (by(try simp only [List.map_toArray,List.map_cons,List.map_nil]);first | done | rfl | (simp only [List.length_drop,List.length_take];rfl)) ?_
             with_reducible refine(spec_l05Key.calls k1 _ _ ae a0_1 _ _ aq af ag (rd (rd_L1 ae af) a1) (rd (rd_L1 ae ag) a1) true _ ?aN ?aT ?aU ?aV A15.out).mono ?_
             (case aN=>exact cb_ HR0_0.out HB.out)
             (case aT=>exact HC0_0.out)
             (case aU=>exact cb_ HR0_2.out HB.out)
             (case aV=>exact HC0_2.out)
             rintro e w19 ⟨rfl,hb⟩
             refine⟨_,rfl,?_⟩
             replace aa:=q_ (bb_ aa.out hb)
             replace HB:=q_ (bs_ hb)
             (try clear hb)
             (try clear hb2)
             (try clear hk)
             (try clear hi)
             refine hK.out _ _ ⟨(blk_cell aa.out 0).trans rfl,(blk_cell aa.out 1).trans rfl,(blk_cell aa.out 2).trans rfl,((HB.out.cell (World.block_lt_of_cell? w _ ai)).trans ai),((HB.out.cell (World.block_lt_of_cell? w _ aj)).trans aj),((HB.out.cell (World.block_lt_of_cell? w _ av)).trans av),((HB.out.cell (World.block_lt_of_cell? w _ aw)).trans aw),((HB.out.cell (World.block_lt_of_cell? w _ ax)).trans ax),((HB.out.cell (World.block_lt_of_cell? w _ ay)).trans ay)⟩ (fun hHeld=>?_)
             clear hK K
             refine norm_ (a':=?_) ?_ ?_
             rotate_left
             ·show Act.put _ (some 46) _=_
              simp only [Act.put,List.setIfInBounds_toArray,List.set_cons_zero,List.set_cons_succ,i64_w,i32_w]
              rfl
             refine pu_ 33 47 ?_;refine pu_ 34 48 ?_
             refine done_ (done_of HT_.out (by kernel_rfl)) ?_
             try go_wp2
             go_roundg k1
             case measure=>have:=HK1.out;omega
             case rel=>exact⟨(af),(wrap64 (af+1)),rs_,rs_,H',⟨by have:=HK1.out;omega⟩,⟨bk_⟩,⟨hb_⟩⟩
            ·replace c16:=Bool.eq_false_iff.mpr c16
             subst c16
             have H1:(spec_l05Row.l0 k1 a1 ag (wrap64 (af+1)) ae a0_1 aq)=some r:=by rw [if_neg (show ¬ (false=true) by decide)] at H;exact H
             clear H
             have H:=H1
             clear H1
             have H':=q_ H
             clear H
             have bF:wr.cell? ⟨ah,0,none⟩=some (.slice aG ae.length az):=(blk_cell aa.out 0).trans rfl
             have bG:wr.cell? ⟨ah,1,none⟩=some (.int .i64 a0_1):=(blk_cell aa.out 1).trans rfl
             have bH:wr.cell? ⟨ah,2,none⟩=some (.slice aA aq.length aC):=(blk_cell aa.out 2).trans rfl
             have bI:=blk_frozen aa.out 0
             have bJ:=blk_frozen aa.out 1
             have bK:=blk_frozen aa.out 2
             try go_wp2
             replace aa:=q_ (blk_drew aa.out)
             replace HB:=q_ (below_drew1 HB.out)
             have p219:0≤(af:Int):=od_
             have q219:af < (ae.length:Int):=od_
             obtain⟨ak,aI,aD,e219,hx219_0,hl219_0,hi219_0⟩:=at_L1 HR0_0.out af p219 q219
             have ai:=hx219_0
             cases e219
             replace hx219_0:=(HB.out.cell (World.block_lt_of_cell? w _ hx219_0)).trans hx219_0
             have HR219_0:=q_ hi219_0
             have HC219_0:=q_ hl219_0
             clear hi219_0 hl219_0
             replace p219:=eq_true p219
             replace q219:=eq_true q219
             have p220:0≤(a1:Int):=od_
             have q220:a1 < ((rd_L1 ae af).length:Int):=od_
             obtain⟨au,e220,hx220_0⟩:=Kd.at_int HR219_0.out a1 p220 q220
             have aj:=hx220_0
             cases e220
             replace hx220_0:=(HB.out.cell (World.block_lt_of_cell? w _ hx220_0)).trans hx220_0
             replace p220:=eq_true p220
             replace q220:=eq_true q220
             have p221:0≤(af:Int):=od_
             have q221:af < (ae.length:Int):=od_
             obtain⟨aK,ba,bg,e221,hx221_0,hl221_0,hi221_0⟩:=at_L1 HR0_0.out af p221 q221
             have av:=hx221_0
             obtain rfl:ak=aK:=(by injection e221)
             replace hx221_0:=(HB.out.cell (World.block_lt_of_cell? w _ hx221_0)).trans hx221_0
             have HR221_0:=q_ hi221_0
             have HC221_0:=q_ hl221_0
             clear hi221_0 hl221_0
             replace p221:=eq_true p221
             replace q221:=eq_true q221
             have ea_:=Option.some.inj (hx219_0.symm.trans hx221_0)
             injection ea_ with ea_ en_ ec_
             subst ea_
             subst ec_
             clear en_
             have p222:0≤(a1:Int):=od_
             have q222:a1 < ((rd_L1 ae af).length:Int):=od_
             obtain⟨bi,e222,hx222_0⟩:=Kd.at_int HR221_0.out a1 p222 q222
             have aw:=hx222_0
             cases e222
             replace hx222_0:=(HB.out.cell (World.block_lt_of_cell? w _ hx222_0)).trans hx222_0
             replace p222:=eq_true p222
             replace q222:=eq_true q222
             have p223:0≤(ag:Int):=od_
             have q223:ag < (ae.length:Int):=od_
             obtain⟨aM,bh,aJ,e223,hx223_0,hl223_0,hi223_0⟩:=at_L1 HR0_0.out ag p223 q223
             have ax:=hx223_0
             obtain rfl:ak=aM:=(by injection e223)
             replace hx223_0:=(HB.out.cell (World.block_lt_of_cell? w _ hx223_0)).trans hx223_0
             have HR223_0:=q_ hi223_0
             have HC223_0:=q_ hl223_0
             clear hi223_0 hl223_0
             replace p223:=eq_true p223
             replace q223:=eq_true q223
             have p224:0≤(a1:Int):=od_
             have q224:a1 < ((rd_L1 ae ag).length:Int):=od_
             obtain⟨aH,e224,hx224_0⟩:=Kd.at_int HR223_0.out a1 p224 q224
             have ay:=hx224_0
             cases e224
             replace hx224_0:=(HB.out.cell (World.block_lt_of_cell? w _ hx224_0)).trans hx224_0
             replace p224:=eq_true p224
             replace q224:=eq_true q224
             refine st_ (n:=35) (S:=fun w'=>w'.cell? ⟨ah,0,none⟩=some (.slice (some ak) ae.length az)∧w'.cell? ⟨ah,1,none⟩=some (.int .i64 a0_1)∧w'.cell? ⟨ah,2,none⟩=some (.slice aA aq.length aC)∧w'.cell? (ak.add (af).toNat)=some (.slice (some au) (rd_L1 ae af).length aD)∧w'.cell? (au.add (a1).toNat)=some (.int .i64 (rd (rd_L1 ae af) a1))∧w'.cell? (ak.add (af).toNat)=some (.slice (some au) (rd_L1 ae af).length aD)∧w'.cell? (au.add (a1).toNat)=some (.int .i64 (rd (rd_L1 ae af) a1))∧w'.cell? (ak.add (ag).toNat)=some (.slice (some aH) (rd_L1 ae ag).length aJ)∧w'.cell? (aH.add (a1).toNat)=some (.int .i64 (rd (rd_L1 ae ag) a1))) (ds:= []) ⟨(blk_cell aa.out 0).trans rfl,(blk_cell aa.out 1).trans rfl,(blk_cell aa.out 2).trans rfl,((HB.out.cell (World.block_lt_of_cell? w _ ai)).trans ai),((HB.out.cell (World.block_lt_of_cell? w _ aj)).trans aj),((HB.out.cell (World.block_lt_of_cell? w _ av)).trans av),((HB.out.cell (World.block_lt_of_cell? w _ aw)).trans aw),((HB.out.cell (World.block_lt_of_cell? w _ ax)).trans ax),((HB.out.cell (World.block_lt_of_cell? w _ ay)).trans ay)⟩ (fun hHeld=>?_);refine with_tabW spec_l05Row.tab5 spec_l05Row.bits5 (fun HT_ HW_=>?_)
             generalize wr.drew=w21 at aa HB HR219_0 HR221_0 HR223_0 hx219_0 hx220_0 hx221_0 hx222_0 hx223_0 hx224_0 hHeld ⊢
             refine pu_ 0 14 ?_;refine pu_ 2 16 ?_;refine pu_ 5 19 ?_;refine tk_ 1 15 ?_;refine pu_ 3 17 ?_;refine tk_ 4 18 ?_;refine pu_ 6 20 ?_;refine tk_ 7 21 ?_;refine pu_ 8 22 ?_;refine pu_ 9 23 ?_;refine pu_ 10 24 ?_;refine pu_ 11 25 ?_;refine pu_ 12 26 ?_;refine pu_ 14 28 ?_;refine pu_ 15 29 ?_;refine pu_ 16 30 ?_;refine pu_ 18 32 ?_;refine pu_ 21 35 ?_;refine pu_ 24 38 ?_;refine pu_ 26 40 ?_;refine pu_ 29 43 ?_;refine tk_ 13 27 ?_;refine tk_ 17 31 ?_;refine pu_ 19 33 ?_;refine tk_ 20 34 ?_;refine pu_ 22 36 ?_;refine tk_ 23 37 ?_;refine tk_ 25 39 ?_;refine pu_ 27 41 ?_;refine tk_ 28 42 ?_;refine pu_ 30 44 ?_;refine tk_ 31 45 ?_
             refine on_ 32 (some 46) (fun K hK=>?_)
             refine goes_ Try.func155 (by kernel_rfl) rfl #[.agg #[.slice (some ak) ae.length az, .int .i64 a0_1, .slice aA aq.length aC], .int .i64 af, .int .i64 ag, .int .i64 (rd (rd_L1 ae af) a1), .int .i64 (rd (rd_L1 ae ag) a1)] (by rfl) rfl rfl (by(try simp only [List.map_toArray,List.map_cons,List.map_nil]);first | done | rfl | (simp only [List.length_drop,List.length_take];rfl)) ?_
             with_reducible refine(spec_l05Key.calls k1 _ _ ae a0_1 _ _ aq af ag (rd (rd_L1 ae af) a1) (rd (rd_L1 ae ag) a1) false _ ?aN ?aT ?aU ?aV A15.out).mono ?_
             (case aN=>exact cb_ HR0_0.out HB.out)
             (case aT=>exact HC0_0.out)
             (case aU=>exact cb_ HR0_2.out HB.out)
             (case aV=>exact HC0_2.out)
             rintro e w22 ⟨rfl,hb⟩
             refine⟨_,rfl,?_⟩
             replace aa:=q_ (bb_ aa.out hb)
             replace HB:=q_ (bs_ hb)
             (try clear hb)
             (try clear hb2)
             (try clear hk)
             (try clear hi)
             refine hK.out _ _ ⟨(blk_cell aa.out 0).trans rfl,(blk_cell aa.out 1).trans rfl,(blk_cell aa.out 2).trans rfl,((HB.out.cell (World.block_lt_of_cell? w _ ai)).trans ai),((HB.out.cell (World.block_lt_of_cell? w _ aj)).trans aj),((HB.out.cell (World.block_lt_of_cell? w _ av)).trans av),((HB.out.cell (World.block_lt_of_cell? w _ aw)).trans aw),((HB.out.cell (World.block_lt_of_cell? w _ ax)).trans ax),((HB.out.cell (World.block_lt_of_cell? w _ ay)).trans ay)⟩ (fun hHeld=>?_)
             clear hK K
             refine norm_ (a':=?_) ?_ ?_
             rotate_left
             ·show Act.put _ (some 46) _=_
              simp only [Act.put,List.setIfInBounds_toArray,List.set_cons_zero,List.set_cons_succ,i64_w,i32_w]
              rfl
             refine pu_ 33 47 ?_;refine pu_ 34 48 ?_
             refine done_ (done_of HT_.out (by kernel_rfl)) ?_
             try go_wp2
             go_roundg k1
             case measure=>have:=HK1.out;omega
             case rel=>exact⟨(ag),(wrap64 (af+1)),rs_,rs_,H',⟨by have:=HK1.out;omega⟩,⟨bk_⟩,⟨hb_⟩⟩
           ·rw [if_neg c14] at H
            exact absurd H (by simp)
          ·rw [if_neg c13] at H
           exact absurd H (by simp)
         ·rw [if_neg c12] at H
          exact absurd H (by simp)
       ·rw [if_neg c8] at H
        have c8b0:decide (0 < (rd (rd_L1 ae af) a1))=false:=decide_eq_false c8
        clear c8
        have H':=q_ H
        clear H
        have bL:wr.cell? ⟨ah,0,none⟩=some (.slice aG ae.length az):=(blk_cell aa.out 0).trans rfl
        have bM:wr.cell? ⟨ah,1,none⟩=some (.int .i64 a0_1):=(blk_cell aa.out 1).trans rfl
        have bN:wr.cell? ⟨ah,2,none⟩=some (.slice aA aq.length aC):=(blk_cell aa.out 2).trans rfl
        have bO:=blk_frozen aa.out 0
        have bP:=blk_frozen aa.out 1
        have bQ:=blk_frozen aa.out 2
        try go_wp2
        replace aa:=q_ (blk_drew aa.out)
        replace HB:=q_ (below_drew1 HB.out)
        have p219:0≤(af:Int):=od_
        have q219:af < (ae.length:Int):=od_
        obtain⟨ak,aI,aD,e219,hx219_0,hl219_0,hi219_0⟩:=at_L1 HR0_0.out af p219 q219
        have ai:=hx219_0
        cases e219
        replace hx219_0:=(HB.out.cell (World.block_lt_of_cell? w _ hx219_0)).trans hx219_0
        have HR219_0:=q_ hi219_0
        have HC219_0:=q_ hl219_0
        clear hi219_0 hl219_0
        replace p219:=eq_true p219
        replace q219:=eq_true q219
        have p220:0≤(a1:Int):=od_
        have q220:a1 < ((rd_L1 ae af).length:Int):=od_
        obtain⟨au,e220,hx220_0⟩:=Kd.at_int HR219_0.out a1 p220 q220
        have aj:=hx220_0
        cases e220
        replace hx220_0:=(HB.out.cell (World.block_lt_of_cell? w _ hx220_0)).trans hx220_0
        replace p220:=eq_true p220
        replace q220:=eq_true q220
        refine st_ (n:=35) (S:=fun w'=>w'.cell? ⟨ah,0,none⟩=some (.slice (some ak) ae.length az)∧w'.cell? ⟨ah,1,none⟩=some (.int .i64 a0_1)∧w'.cell? ⟨ah,2,none⟩=some (.slice aA aq.length aC)∧w'.cell? (ak.add (af).toNat)=some (.slice (some au) (rd_L1 ae af).length aD)∧w'.cell? (au.add (a1).toNat)=some (.int .i64 (rd (rd_L1 ae af) a1))) (ds:= []) ⟨(blk_cell aa.out 0).trans rfl,(blk_cell aa.out 1).trans rfl,(blk_cell aa.out 2).trans rfl,((HB.out.cell (World.block_lt_of_cell? w _ ai)).trans ai),((HB.out.cell (World.block_lt_of_cell? w _ aj)).trans aj)⟩ (fun hHeld=>?_);refine with_tabW spec_l05Row.tab5 spec_l05Row.bits5 (fun HT_ HW_=>?_)
        generalize wr.drew=w24 at aa HB HR219_0 hx219_0 hx220_0 hHeld ⊢
        refine pu_ 0 14 ?_;refine pu_ 2 16 ?_;refine pu_ 5 19 ?_;refine tk_ 1 15 ?_;refine pu_ 3 17 ?_;refine tk_ 4 18 ?_;refine pu_ 6 20 ?_;refine tk_ 7 21 ?_;refine pu_ 8 22 ?_;refine pu_ 9 23 ?_;refine pn_ 10 24 ?_;refine pn_ 11 25 ?_;refine pn_ 12 26 ?_;refine pn_ 13 27 ?_;refine pn_ 14 28 ?_;refine pn_ 15 29 ?_;refine pn_ 16 30 ?_;refine pn_ 17 31 ?_;refine pn_ 18 32 ?_;refine pn_ 19 33 ?_;refine pn_ 20 34 ?_;refine pn_ 21 35 ?_;refine pn_ 22 36 ?_;refine pn_ 23 37 ?_;refine pn_ 24 38 ?_;refine pn_ 25 39 ?_;refine pn_ 26 40 ?_;refine pn_ 27 41 ?_;refine pn_ 28 42 ?_;refine pn_ 29 43 ?_;refine pn_ 30 44 ?_;refine pn_ 31 45 ?_;refine pn_ 32 46 ?_;refine pn_ 33 47 ?_;refine pu_ 34 48 ?_
        refine done_ (done_of HT_.out (by kernel_rfl)) ?_
        try go_wp2
        go_roundg k1
        case measure=>have:=HK1.out;omega
        case rel=>exact⟨(ag),(wrap64 (af+1)),rs_,rs_,H',⟨by have:=HK1.out;omega⟩,⟨bk_⟩,⟨hb_⟩⟩
      ·rw [if_neg c7] at H
       exact absurd H (by simp)
     ·rw [if_neg c6] at H
      exact absurd H (by simp)
    ·rw [if_neg c5] at H
     exact absurd H (by simp)
   ·rw [if_neg c4] at H
    have c4b0:decide (af < (ae.length:Int))=false:=decide_eq_false c4
    clear c4
    obtain rfl:=Option.some.inj H
    have bS:wr.cell? ⟨ah,0,none⟩=some (.slice aG ae.length az):=(blk_cell aa.out 0).trans rfl
    have bT:wr.cell? ⟨ah,1,none⟩=some (.int .i64 a0_1):=(blk_cell aa.out 1).trans rfl
    have bU:wr.cell? ⟨ah,2,none⟩=some (.slice aA aq.length aC):=(blk_cell aa.out 2).trans rfl
    have bV:=blk_frozen aa.out 0
    have bW:=blk_frozen aa.out 1
    have bX:=blk_frozen aa.out 2
    go_wp2
    go_ret
    exact⟨by first | rfl | (simp [errW_none,errW_some] <;> rfl) | (simp [*,errW_none,errW_some] <;> rfl),hb_⟩
def spec_l05Partner.f (a0:Int) (a1:Int):Option (Int):=if a0 < a1 then(some (wrap64 (a0+a1))) else(some (wrap64 (a0 - a1)))
theorem spec_l05Partner.calls (a0:Int) (a1:Int) (r:Int) (w:World) (h:spec_l05Partner.f a0 a1=some r):
  Calls Try.prog 158 #[.int .i64 a0, .int .i64 a1] w fun e w'=>e= .returned (.int .i64 r)∧Drawn0 w w':=by
 have H:(if a0 < a1 then(some (wrap64 (a0+a1))) else(some (wrap64 (a0 - a1))))=some r:=h
 clear h
 by_cases c3:a0 < a1
 ·rw [if_pos c3] at H
  have c3b0:decide (a0 < a1)=true:=decide_eq_true c3
  clear c3
  obtain rfl:=Option.some.inj H
  go_enter Try.func158,Try.ntmps158
  go_wp2
  go_ret
  exact⟨by first | rfl | (simp;done) | (simp [*];done),by repeat (first | exact Drawn0.refl _ | apply Drawn0.step)⟩
 ·rw [if_neg c3] at H
  have c3b0:decide (a0 < a1)=false:=decide_eq_false c3
  clear c3
  obtain rfl:=Option.some.inj H
  go_enter Try.func158,Try.ntmps158
  go_wp2
  go_ret
  exact⟨by first | rfl | (simp;done) | (simp [*];done),by repeat (first | exact Drawn0.refl _ | apply Drawn0.step)⟩
end Go.Proofs.Ytmpkckiifeikkaa.Pr
end
section
namespace Go.Proofs.Ytmpkckiifeikkaa.Lsa
open Go.RowKit Go.Proofs.YtmpkckiifeikkaaW.PrintWords Go.Proofs.YtmpkckiifeikkaaW.PrintMore Go.Proofs.Ytmpkckiifeikkaa.Ma Go.Proofs.Ytmpkckiifeikkaa.Pr Go.Proofs.Ytmpkckiifeikkaa.Dt Go.Proofs.Ytmpkckiifeikkaa.Lk Go.Proofs.Ytmpkckiifeikkaa.Lt Go.Proofs.Ytmpkckiifeikkaa.Lq Go.Proofs.Ytmpkckiifeikkaa.Lp
theorem rd1 (l:List (List Int)) (i:Nat):rd_L1 l (i:Int)=l.getD i []:=by simp [rd_L1]
section
variable {n m:Nat} {T:Mat}
theorem at_rows {i:Nat} (hi:i < n):rd_L1 (rowsM n m T) (i:Int)=rowN T i m:=by rw [rd1,rowsM_at hi]
theorem at_num {i j:Nat} (hj:j < m):rd (rowN T i m) (j:Int)=T i j:=by rw [rd_nat,rowN_at hj]
theorem wB {x y:Int} (hx:Bnd x) (hy:Bnd y):wrap64 (x*y)=x*y:=by
 have:=prodB hx hy
 exact w64 (by omega) (by omega)
theorem kl_cons {i k:Nat} {x y:Int} (c:Nat) (l:List Nat):kl T i k x y (c::l)=if T i c*y=T k c*x then kl T i k x y l else decide (T i c*y < T k c*x):=by
 rw [show kl T i k x y (c::l)=(if T i c*y < T k c*x then true else if T k c*x < T i c*y then false else kl T i k x y l) from rfl]
 by_cases e:T i c*y=T k c*x
 ·rw [if_pos e,if_neg (by omega),if_neg (by omega)]
 ·rw [if_neg e]
  by_cases f:T i c*y < T k c*x
  ·rw [if_pos f];simp [f]
  ·rw [if_neg f,if_pos (by omega)];simp [f]
variable (hT: ∀a c,a < n→c < m→Bnd (T a c)) (hm:n < m) (hn:n≤1000) (hm2:m≤1000)
include hT hm hn hm2
theorem key_eq {i k:Nat} (hi:i < n) (hk:k < n) {a b:Int} (ha:Bnd a) (hb:Bnd b) (den:Int) (bs:List Int):Ev (fun q=>spec_l05Key.f q (rowsM n m T) den bs (i:Int) (k:Int) a b) (kl T i k a b (cols n m)):=by
 have loop: ∀q j,j+q=n→ ∀x y:Int,Ev (fun f=>spec_l05Key.l0 f (i:Int) (k:Int) a b (n:Int) x y (j:Int) (rowsM n m T) den bs) (if x=y then kl T i k a b (List.range' j q) else decide (x < y)):=by
  intro q
  induction q with
  | zero=>
   intro j hj x y
   refine evstep (fun f=>by rw [spec_l05Key.l0]) (evneg (by omega) (evc ?_))
   by_cases e:x=y
   ·rw [if_pos e];subst e;simp [List.range',kl]
   ·rw [if_neg e]
  | succ q ih=>
   intro j hj x y
   refine evstep (fun f=>by rw [spec_l05Key.l0]) (evpos (by omega) ?_)
   by_cases e:x=y
   ·rw [at_rows hi,at_rows hk,rowN_len,rowN_len,rowsM_len]
    refine evpos e (evpos (by omega) (evpos (by omega) (evpos (by omega) (evpos (by omega) (evpos (by omega) (evpos (by omega) (evpos (by omega) ?_)))))))
    rw [at_num (by omega),at_num (by omega),wB (hT i j hi (by omega)) hb,wB (hT k j hk (by omega)) ha,w64 (x:=(j:Int)+1) (by omega) (by omega),if_pos e,List.range'_succ,kl_cons]
    exact ih (j+1) (by omega) _ _
   ·rw [if_neg e]
    exact evneg e (evc rfl)
 unfold spec_l05Key.f
 rw [at_rows hi,at_rows hk,rowN_len,rowN_len,rowsM_len,w64 (x:=(m:Int) - 1) (by omega) (by omega),show (m:Int) - 1=((m - 1:Nat):Int) from by omega]
 refine evpos (by omega) (evpos (by omega) (evpos (by omega) (evpos (by omega) (evpos (by omega) (evpos (by omega) (evpos (by omega) ?_))))))
 rw [at_num (by omega),at_num (by omega),wB (hT i _ hi (by omega)) hb,wB (hT k _ hk (by omega)) ha]
 have e:cols n m=(m - 1)::List.range' 0 n:=by unfold cols;rw [List.range_eq_range']
 rw [e,kl_cons]
 exact loop n 0 (by omega) _ _
def encR:Option Nat→Int
 | none=> -1
 | some r=>(r:Int)
theorem row_eq (s:TS) (hs:s.T=T) {v:Nat} (hv:v < m) (den:Int) (bs:List Int):Ev (fun q=>spec_l05Row.f q (rowsM n m T) den bs (v:Int)) (encR (rowB n m s (fun i=>T i v))):=by
 have loop: ∀q j,j+q=n→ ∀o:Option Nat,(∀r,o=some r→r < n∧0 < T r v)→Ev (fun f=>spec_l05Row.l0 f (v:Int) (encR o) (j:Int) (rowsM n m T) den bs) (encR (lst (fun i=>T i v) (fun i j=>kl T i j (T i v) (T j v) (cols n m)) (List.range' j q) o)):=by
  intro q
  induction q with
  | zero=>
   intro j hj o ho
   exact evstep (fun f=>by rw [spec_l05Row.l0]) (by rw [rowsM_len];exact evneg (by omega) (evc rfl))
  | succ q ih=>
   intro j hj o ho
   refine evstep (fun f=>by rw [spec_l05Row.l0]) ?_
   rw [at_rows (show j < n by omega),rowN_len,rowsM_len,at_num hv]
   refine evpos (by omega) (evpos (by omega) (evpos (by omega) (evpos (by omega) ?_)))
   rw [w64 (x:=(j:Int)+1) (by omega) (by omega),List.range'_succ]
   show Ev _ (encR (lst _ _ (List.range' (j+1) q) (if 0 < T j v∧bet _ j o=true then some j else o)))
   by_cases c:0 < T j v
   ·refine evpos (by omega) ?_
    cases o with
    | none=>
     rw [if_pos ⟨c,rfl⟩]
     exact evpos (by decide) (ih (j+1) (by omega) (some j) (fun r hr=>by cases hr;exact⟨by omega,c⟩))
    | some r=>
     obtain⟨hr,hr2⟩:=ho r rfl
     refine evneg (by show ¬ (r:Int) < 0;omega) (evpos (by show 0≤(r:Int);omega) (evpos (by show (r:Int) < _;omega) ?_))
     show Ev (fun f=>if(v:Int) < ((rd_L1 (rowsM n m T) (r:Int)).length:Int) then((spec_l05Key.f f (rowsM n m T) den bs (j:Int) (r:Int) (T j v) (rd (rd_L1 (rowsM n m T) (r:Int)) (v:Int))).bind fun aa=>if aa=true then _ else _) else _) _
     rw [at_rows hr,rowN_len,at_num hv]
     refine evpos (by omega) (evbind (key_eq hT hm hn hm2 (show j < n by omega) hr (hT j v (by omega) hv) (hT r v hr hv) den bs) ?_)
     by_cases d:kl T j r (T j v) (T r v) (cols n m)=true
     ·rw [if_pos ⟨c,d⟩]
      exact evpos d (ih (j+1) (by omega) (some j) (fun r hr=>by cases hr;exact⟨by omega,c⟩))
     ·rw [if_neg (fun h=>d h.2)]
      exact evneg d (ih (j+1) (by omega) (some r) ho)
   ·rw [if_neg (fun h=>c h.1)]
    exact evneg (by omega) (ih (j+1) (by omega) o ho)
 unfold spec_l05Row.f
 have h:=loop n 0 (by omega) none (fun r hr=>by cases hr)
 unfold rowB
 rw [List.range_eq_range',hs]
 exact h
end
theorem enL_rows {n m:Nat} {T:Mat} {i j:Nat} (hi:i < n) (hj:j < m):enL (rowsM n m T) i j=T i j:=by
 unfold enL
 rw [rowsM_at hi,rowN_at hj]
theorem stT_congr {T T':Mat} {n m r v:Nat} (h: ∀i j,i < n→j < m→T i j=T' i j) (hr:r < n) (hv:v < m) (den:Int) {i j:Nat} (hi:i < n) (hj:j < m):stT T den r v i j=stT T' den r v i j:=by
 unfold stT stA evT
 rw [h r v hr hv,h r j hr hj,h i j hi hj,h i v hi hv]
theorem pivot_eq {n m:Nat} {s:TS} {r v:Nat} (hr:r < n) (hv:v < m) (hl:s.bs.length=n) (hn:n≤1000) (hm2:m≤1000) (hd:s.den≠0):spec_l05Pivot.f (rowsM n m s.T) s.den s.bs (r:Int) (v:Int)=some (rowsM n m (s.step r v).T,(s.step r v).den,(s.step r v).bs):=by
 have h0:((rowsM n m s.T).headD []).length=m:=by
  rw [show (rowsM n m s.T).headD []=(rowsM n m s.T).getD 0 [] from by cases rowsM n m s.T <;> rfl,rowsM_at (by omega),rowN_len]
 unfold spec_l05Pivot.f
 rw [h0,rowsM_len,if_pos ⟨by omega,by omega,by omega,by omega,by omega,by
  rw [List.all_eq_true]
  intro x hx
  unfold rowsM at hx
  obtain⟨a,_,rfl⟩:=List.mem_map.1 hx
  simp [rowN_len],hn,hm2,by omega,hd⟩]
 rw [Int.toNat_natCast,Int.toNat_natCast,rowsM_congr (Z:=stT s.T s.den r v) (fun i j hi hj=>stT_congr (fun i j hi hj=>enL_rows hi hj) hr hv s.den hi hj)]
 have e:stD (enL (rowsM n m s.T)) r v=stD s.T r v:=by unfold stD;rw [enL_rows hr hv]
 rw [e];rfl
theorem begin_eq {n:Nat} {M:List (List Int)} {cv Q:List Int} (hM:M.length=n) (hQ:Q.length=n) (hr: ∀x ∈ M,x.length=n) (hcv:cv.length=n) (hn:0 < n) (hn2:n≤5) (hMb: ∀i k,i < n→k < n→((enL M) i k).natAbs≤20) (hcb: ∀i,i < n→0 < cv.getD i 0∧cv.getD i 0≤20):
  Ev (fun k=>spec_l05Begin.f k M Q cv) (rowsM n (2*n+2) (tab0 n (enL M) (fun i=>cv.getD i 0) (fun i=>Q.getD i 0)),1,idl n):=by
 obtain⟨T,hT⟩: ∃T,tab0 n (enL M) (fun i=>cv.getD i 0) (fun i=>Q.getD i 0)=T:=⟨_,rfl⟩
 rw [hT]
 have hid: ∀i,(idl i).length=i:=fun i=>by simp [idl]
 have hidn: ∀i,idl (i+1)=idl i++ [(i:Int)]:=fun i=>by unfold idl;rw [List.range_succ,List.map_append];rfl
 have loop: ∀q i,i+q=n→Ev (fun k=>spec_l05Begin.l0 k cv (n:Int) (i:Int) M Q (rowsM i (2*n+2) T) 1 (idl i)) (rowsM n (2*n+2) T,1,idl n):=by
  intro q
  induction q with
  | zero=>
   intro i hi
   obtain rfl:i=n:=by omega
   exact evstep (fun k=>by rw [spec_l05Begin.l0]) (evneg (by omega) (evc rfl))
  | succ q ih=>
   intro i hi
   refine evstep (fun k=>by rw [spec_l05Begin.l0]) (evpos (by omega) ?_)
   have eln:(M.getD i []).length=n:=hr _ (by rw [List.getD_eq_getElem?_getD,List.getElem?_eq_getElem (by omega)];exact List.getElem_mem _)
   have loop2: ∀p j,j+p=n→Ev (fun k=>spec_l05Begin.l2 k cv (n:Int) (i:Int) (rowN T i (n+j)) (j:Int) M Q (rowsM i (2*n+2) T) 1 (idl i)) (rowsM n (2*n+2) T,1,idl n):=by
    intro p
    induction p with
    | zero=>
     intro j hj
     obtain rfl:j=n:=by omega
     refine evstep (fun k=>by rw [spec_l05Begin.l2]) ?_
     rw [rowN_len,rowsM_len,hid]
     refine evneg (by omega) (evpos (by omega) (evpos (by omega) (evpos (by omega) (evpos (by omega) (evsome rfl ?_)))))
     refine evpos (by omega) (evpos (by rw [List.length_append,rowN_len];show j+j+1 < _;omega) (evpos (by omega) (evpos (by omega) ?_)))
     have hc:=hcb i (by omega)
     have e1:T i (j+j)= - cv.getD i 0:=by rw [← hT];unfold tab0;rw [if_neg (by omega),if_neg (by omega),if_pos (by omega)]
     have e2:T i (j+j+1)=Q.getD i 0:=by rw [← hT];unfold tab0;rw [if_neg (by omega),if_neg (by omega),if_neg (by omega)]
     rw [rd_nat,rd_nat,w64 (x:= -(cv.getD i 0)) (by omega) (by omega), ← e1, ← rowN_next, ← e2, ← rowN_next,w64 (x:=(i:Int)+1) (by omega) (by omega), ← hidn,show j+j+1+1=2*j+2 from by omega, ← rowsM_next]
     exact ih (i+1) (by omega)
    | succ p ihp=>
     intro j hj
     have hb:=hMb i j (by omega) (by omega)
     have e1:T i (n+j)= - (M.getD i []).getD j 0:=by rw [← hT];unfold tab0;rw [if_neg (by omega),if_pos (by omega),show n+j - n=j from by omega];rfl
     have hb2:((M.getD i []).getD j 0).natAbs≤20:=hb
     refine evstep (fun k=>by rw [spec_l05Begin.l2]) ?_
     rw [rd1,eln,rowN_len]
     refine evpos (by omega) (evpos (by omega) (evpos (by omega) (evpos (by omega) (evpos (by omega) (evpos (by omega) ?_)))))
     rw [rd_nat,w64 (x:= -((M.getD i []).getD j 0)) (by omega) (by omega), ← e1, ← rowN_next,w64 (x:=(j:Int)+1) (by omega) (by omega)]
     exact ihp (j+1) (by omega)
   have loop1: ∀p j,j+p=n→Ev (fun k=>spec_l05Begin.l1 k cv (n:Int) (i:Int) (rowN T i j) (j:Int) M Q (rowsM i (2*n+2) T) 1 (idl i)) (rowsM n (2*n+2) T,1,idl n):=by
    intro p
    induction p with
    | zero=>
     intro j hj
     obtain rfl:j=n:=by omega
     refine evstep (fun k=>by rw [spec_l05Begin.l1]) (evneg (by omega) ?_)
     exact loop2 j 0 (by omega)
    | succ p ihp=>
     intro j hj
     have e1:T i j=if j=i then 1 else 0:=by rw [← hT];unfold tab0;rw [if_pos (by omega)]
     refine evstep (fun k=>by rw [spec_l05Begin.l1]) (evpos (by omega) ?_)
     rw [rowN_len,w64 (x:=(j:Int)+1) (by omega) (by omega)]
     by_cases c:j=i
     ·rw [if_pos c] at e1
      refine evpos (by omega) (evpos (by omega) ?_)
      rw [show rowN T i j++ [1]=rowN T i (j+1) from by rw [rowN_next,e1]]
      exact ihp (j+1) (by omega)
     ·rw [if_neg c] at e1
      refine evneg (by omega) (evpos (by omega) ?_)
      rw [show rowN T i j++ [0]=rowN T i (j+1) from by rw [rowN_next,e1]]
      exact ihp (j+1) (by omega)
   exact loop1 n 0 (by omega)
 unfold spec_l05Begin.f
 rw [hQ]
 exact loop n 0 (by omega)
end Go.Proofs.Ytmpkckiifeikkaa.Lsa
end
section
namespace Go.Proofs.Ytmpkckiifeikkaa.Pr
open Go.RowKit Go.Proofs.YtmpkckiifeikkaaW.PrintWords Go.Proofs.YtmpkckiifeikkaaW.PrintLast Go.Proofs.YtmpkckiifeikkaaW.PrintMore
def IntsPred (g:Nat) (lb:Array Value) (p:Int→Bool) (w:World) (l:List Int):Prop:=
 ∀(W:World) (x:Int),x ∈ l→Below w.heap.size w W→Calls Try.prog g (#[.int .i64 x]++lb) W fun e w'=>e= .returned (.bool (p x))∧Below W.heap.size W w'
theorem indexFuncInts (p:Int→Bool) (g:Nat) (lb:Array Value) (eg: ∀args w,(callFunc g args).run Try.prog w= .ok (.enter g args) w) (A:Option Addr) (c:Nat) (l:List Int) (w:World)
  (hr:Kd.C (Kd.int .i64) w A l.length l) (hp:IntsPred g lb p w l):
  Calls Try.prog 166 #[.slice A l.length c, .func (.func g) #[] lb] w fun e w'=>e= .returned (.int .i64 (idxP p l 0))∧Below w.heap.size w w':=by
 have HR:=q_ hr
 have HP:=q_ hp
 have hbig:l.length≤9223372036854775807:=hr.2.1
 clear hr hp
 go_enter Try.func166,Try.ntmps166
 go_wp2
 go_loopg [5,8] l.length (fun gg _ s8 wr=> ∃kk:Nat,kk≤l.length∧l.length - kk≤gg∧s8= .int .i64 kk∧Aside0 (Below w.heap.size w wr)∧Aside0 (∀j (hj:j < l.length),j < kk→p l[j]=false))
 case atStart=>exact⟨0,Nat.zero_le _,by omega,rfl,⟨Below.refl _ w⟩,⟨fun j _ hj=>absurd hj (Nat.not_lt_zero _)⟩⟩
 case round=>
  obtain⟨kk,hkk,hg,rfl,BW,F⟩:=hrel
  by_cases hlt:kk < l.length
  ·obtain⟨ad,e,hx⟩:=Kd.at_int HR.out kk (by omega) (by omega)
   cases e
   rw [Int.toNat_natCast] at hx
   have hx':=(BW.out.cell (World.block_lt_of_cell? w _ hx)).trans hx
   clear hx
   have hel:rd l (kk:Int)=l[kk]:=by simp [rd,hlt]
   have hcall:=HP.out wr l[kk] (List.getElem_mem hlt) BW.out
   rw [hel] at hx'
   clear hel
   have hltz:(kk:Int) < (l.length:Int):=by omega
   have h0z:(0:Int)≤(kk:Int):=by omega
   generalize hy:l[kk]=y at hx' hcall
   have HY:=q_ hy
   clear hy
   cases hq:p y with
   | true=>
    rw [hq] at hcall
    have HQ:=q_ hq
    clear hq
    go_wp2_with fail
    refine hcall.mono ?_
    rintro e w' ⟨rfl,hb'⟩
    clear hcall
    go_wp2
    go_ret
    refine⟨?_,Below.trans BW.out (hb'.mono BW.out.size)⟩
    rw [idxP_hit p l kk hlt F.out (by rw [HY.out];exact HQ.out)]
    rfl
   | false=>
    rw [hq] at hcall
    have HQ:=q_ hq
    clear hq
    go_wp2_with fail
    refine hcall.mono ?_
    rintro e w' ⟨rfl,hb'⟩
    clear hcall
    go_wp2
    go_roundg (l.length - (kk+1))
    case measure=>omega
    case rel=>
     refine⟨kk+1,by omega,by omega,by go_num,⟨Below.trans BW.out (hb'.mono BW.out.size)⟩,⟨fun j hj hjk=>?_⟩⟩
     by_cases e:j=kk
     ·subst e
      rw [HY.out];exact HQ.out
     ·exact F.out j hj (by omega)
  ·have hltz: ¬ (kk:Int) < (l.length:Int):=by omega
   obtain rfl:kk=l.length:=by omega
   go_wp2
   go_ret
   refine⟨?_,BW.out⟩
   rw [idxP_miss p l (fun i hi=>F.out i hi hi)]
   rfl
theorem containsFuncInts (p:Int→Bool) (g:Nat) (lb:Array Value) (eg: ∀args w,(callFunc g args).run Try.prog w= .ok (.enter g args) w) (A:Option Addr) (c:Nat) (l:List Int) (w:World)
  (hr:Kd.C (Kd.int .i64) w A l.length l) (hp:IntsPred g lb p w l):
  Calls Try.prog 115 #[.slice A l.length c, .func (.func g) #[] lb] w fun e w'=>e= .returned (.bool (l.any p))∧Below w.heap.size w w':=by
 rw [← idxP_nonneg p l 0 (Int.le_refl _)]
 have HR:=q_ hr
 have HP:=q_ hp
 clear hr hp
 go_enter Try.func115,Try.ntmps115
 go_wp2_with fail
 refine(indexFuncInts p g lb eg A c l _ HR.out HP.out).mono ?_
 rintro e w' ⟨rfl,hb'⟩
 go_wp2
 go_ret
 exact⟨rfl,hb'⟩
end Go.Proofs.Ytmpkckiifeikkaa.Pr
end
section
namespace Go.Proofs.Ytmpkckiifeikkaa.Pr
open Go.RowKit Go.Proofs.YtmpkckiifeikkaaW.PrintWords Go.Proofs.YtmpkckiifeikkaaW.PrintLast Go.Proofs.YtmpkckiifeikkaaW.PrintMore
def badN (n:Int):Bool:=decide (n < 0)
theorem isFeasible1 (n:Int) (w:World):Calls Try.prog 206 (#[.int .i64 n]++ #[]) w fun e w'=>e= .returned (.bool (badN n))∧Below w.heap.size w w':=by
 unfold badN
 show Calls Try.prog 206 #[.int .i64 n] w _
 go_enter Try.func206,Try.ntmps206
 go_wp2
 go_ret
 exact⟨rfl,Below.refl _ _⟩
theorem isFeasible1_enters: ∀args w,(callFunc 206 args).run Try.prog w= .ok (.enter 206 args) w:=enters_fn Try.func206 (by kernel_rfl) rfl
def impl_isFeasible.f (l0:List Int):Option Bool:=some (!(l0.any badN))
theorem impl_isFeasible.calls (A0:Option Addr) (c0:Nat) (l0:List Int) (r:Bool) (w:World) (hr0:Kd.C (Kd.int .i64) w A0 l0.length l0) (hc0:l0.length≤c0) (h:impl_isFeasible.f l0=some r):
  Calls Try.prog 187 #[.slice A0 l0.length c0] w fun e w'=>e= .returned (.bool r)∧Below w.heap.size w w':=by
 have HV:=q_ (Option.some.inj h)
 have hcall:=containsFuncInts badN 206 #[] isFeasible1_enters A0 c0 l0 w hr0 (fun W x _ _=>isFeasible1 x W)
 have HC:=q_ hcall
 clear hr0 hc0 h hcall
 generalize l0.any badN=b at HV HC
 go_enter Try.func187,Try.ntmps187
 go_wp2_with fail
 refine HC.out.mono ?_
 rintro e w' ⟨rfl,hb⟩
 go_wp2
 go_ret
 exact⟨by rw [← HV.out];rfl,hb⟩
end Go.Proofs.Ytmpkckiifeikkaa.Pr
end
section
namespace Go.Proofs.Ytmpkckiifeikkaa.Lq
open Go.RowKit Go.Proofs.YtmpkckiifeikkaaW.PrintWords Go.Proofs.YtmpkckiifeikkaaW.PrintLast Go.Proofs.YtmpkckiifeikkaaW.PrintMore Go.Proofs.Ytmpkckiifeikkaa.Pr Go.Proofs.Ytmpkckiifeikkaa.Ma Go.Proofs.Ytmpkckiifeikkaa.Dt Go.Proofs.Ytmpkckiifeikkaa.Lk Go.Proofs.Ytmpkckiifeikkaa.Lt
theorem run1 (A:Option Addr) (c:Nat) (cv:List Int) (p4 i:Nat) (hi:i < cv.length) (w:World) (h4:w.cell? ⟨p4,0,none⟩=some (.slice A cv.length c)) (hC:Kd.C (Kd.int .i64) w A cv.length cv):
  Calls Try.prog 189 (#[.int .i64 (i:Int)]++ #[.pointer (some ⟨p4,0,none⟩)]) w fun e w'=>e= .returned (.int .i64 (cv.getD i 0))∧Below w.heap.size w w':=by
 show Calls Try.prog 189 #[.int .i64 (i:Int), .pointer (some ⟨p4,0,none⟩)] w _
 obtain⟨ad,eA,hx⟩:=Kd.at_int hC (i:Int) (by omega) (by omega)
 subst eA
 rw [Int.toNat_natCast,rd_nat] at hx
 have hiz:(i:Int) < (cv.length:Int):=by omega
 have h0z:(0:Int)≤(i:Int):=by omega
 generalize cv.getD i 0=x at hx ⊢
 generalize cv.length=l at*
 clear hC hi
 go_enter Try.func189,Try.ntmps189
 go_wp2
 go_ret
 exact⟨rfl,Below.refl _ _⟩
theorem run1_enters: ∀args w,(callFunc 189 args).run Try.prog w= .ok (.enter 189 args) w:=enters_fn Try.func189 (by kernel_rfl) rfl
theorem S_type {α:Type} {d:Kd α} {e base g t:Nat} {ok:Nat→Prop} {W w1:World} {u:Value} {xs:List α} {cs:Array Value} (h:Kd.S d e W base ok u xs) (hg:W.heap[g]?=some (.cells cs t (0,0))) (ht: ∀q,q ∈ e::d.E→q≠t) (hs: ∀k,k≠g→w1.heap[k]?=W.heap[k]?):Kd.S d e w1 base ok u xs:=
 Kd.S_mono (Kd.S_step (Kd.S_bound h) (fun k hk hlt=>hs k (fun e1=>by
  obtain⟨_,_,_,q,hq,cells,hc⟩:=hk
  rw [e1,hg] at hc
  injection hc with h1
  injection h1 with _ h2 _
  exact ht q hq h2.symm))) (fun _ hk=>hk.1)
theorem S_out {α:Type} {d:Kd α} {e lo hi:Nat} {ok:Nat→Prop} {W w1:World} {u:Value} {xs:List α} (h:Kd.S d e W hi ok u xs) (F:Out W w1 lo hi):Kd.S d e w1 hi ok u xs:=
 Kd.S_mono (Kd.S_step (Kd.S_bound h) (fun k hk hlt=>F.same k hlt (.inr hk.2.1))) (fun _ hk=>hk.1)
theorem hset (w:World) (g j:Nat) (v:Value): ∀k,k≠g→(w.setCell ⟨g,j,none⟩ v).heap[k]?=w.heap[k]?:=fun k hk=>Below.heap_setCell w ⟨g,j,none⟩ v k (by simp;exact hk)
def goN (n m q:Nat) (s:TS) (v:Nat) (st:List (List Int)):Option Nat→TS × List (List Int) × Bool × Int × Int
 | none=>(s,st,false,(v:Int),0)
 | some r=>goI n m q s v r st
theorem S_own {α:Type} {d:Kd α} {e base N:Nat} {W:World} {u:Value} {xs:List α} (h:Kd.S d e W base (fun k=>k < N) u xs): ∀k,u.ownBlock=some k→k < N:=by
 obtain⟨f,h⟩:=h
 exact fun k hk=>h.1 k hk
theorem S_ne {α:Type} {d:Kd α} {e base g t:Nat} {ok:Nat→Prop} {W:World} {u:Value} {xs:List α} {cs:Array Value} (h:Kd.S d e W base ok u xs) (hg:W.heap[g]?=some (.cells cs t (0,0))) (ht:e≠t):some g≠u.ownBlock:=by
 obtain⟨f,h⟩:=h
 exact Kd.R_ne h hg ht
theorem Out.hi {w w':World} {b:Nat} (h:Below b w w'):Out w w' b w.heap.size:=⟨h.os,h.tape,h.output,h.size,fun k hk hn=>h.block k (by omega)⟩
def PlE (w0 w':World) (p n m:Nat) (s:TS) (st:List (List Int)) (solved:Bool) (ray code:Int):Prop:=
 ∃lo hi t u1,w0.heap.size≤lo∧lo≤hi∧hi≤p∧TmE w' lo hi t n m s∧w'.heap[p]?=some (.cells #[.pointer (some ⟨t,0,none⟩),u1, .bool solved, .int .i64 ray, .int .i64 code] 121 (0,0))∧Kd.S (Kd.slice 2 (Kd.int .i64)) 23 w' hi (fun _=>True) u1 st
theorem run_calls (A0:Option Addr) (c0:Nat) (M:List (List Int)) (A1:Option Addr) (c1:Nat) (Q:List Int) (A2:Option Addr) (c2:Nat) (cv:List Int) (most:Nat) (w:World) (n:Nat)
  (hC0:Kd.C (Kd.slice 2 (Kd.int .i64)) w A0 M.length M) (hC1:Kd.C (Kd.int .i64) w A1 Q.length Q) (hC2:Kd.C (Kd.int .i64) w A2 cv.length cv) (hc0:M.length≤c0) (hc1:Q.length≤c1) (hc2:cv.length≤c2) (hM:M.length=n) (hQ:Q.length=n) (hr: ∀x ∈ M,x.length=n) (hn:0 < n) (hn2:n≤5) (hcv:cv.length=n)
  (hMb: ∀i k,i < n→k < n→((enL M) i k).natAbs≤20) (hcb: ∀i,i < n→0 < cv.getD i 0∧cv.getD i 0≤20) (hqb: ∀i,i < n→(Q.getD i 0).natAbs≤100)
  (R:TS × List (List Int) × Bool × Int × Int) (hR:runI n (enL M) (fun i=>cv.getD i 0) (fun i=>Q.getD i 0) most=R):
  Calls Try.prog 153 #[.agg #[.slice A0 M.length c0, .slice A1 Q.length c1], .slice A2 cv.length c2, .int .i64 (most:Int)] w fun e w'=> ∃p,e= .returned (.pointer (some ⟨p,0,none⟩))∧PlE w w' p n (2*n+2) R.1 R.2.1 R.2.2.1 R.2.2.2.1 R.2.2.2.2∧Below w.heap.size w w':=by
 have HB:=q_ (Below.refl w.heap.size w)
 have HC0:=q_ hC0
 have HC1:=q_ hC1
 have HC2:=q_ hC2
 have HC1c:=q_ hc1
 have HM:=q_ hM
 have HQ:=q_ hQ
 have HR:=q_ hr
 have HN:=q_ hn
 have HN2:=q_ hn2
 have HCV:=q_ hcv
 have HMB:=q_ hMb
 have HCB:=q_ hcb
 have HQB:=q_ hqb
 have HRR:=q_ hR
 have HSM:=q_ (first_small (n:=n) (M:=enL M) (cv:=fun i=>cv.getD i 0) (q:=fun i=>Q.getD i 0) hMb (fun i hi=>by have:=hcb i hi;omega) hqb)
 clear hMb hcb hqb hR hC0 hC1 hC2 hM hQ hr hn hn2 hcv hc0 hc1 hc2
 go_enter Try.func153,Try.ntmps153
 go_wp2_with (first | ((with_reducible refine gate_dst (N:=3) rfl ?_);refine box_event ?hg (N:=3) ?hd (cs:= #[.slice A0 M.length c0, .slice A1 Q.length c1]) (t:=30) ?hr ?_;(case hd=>rfl);(case hg=>rfl);(case hr=>first | (go_simp;done) | (go_simp;rfl));intro g3 hg w3 hbox hb;replace HB:=q_ (below_step HB.out hb);have B3:=q_ hbox;clear hb hbox hg) | ((with_reducible refine gate_dst (N:=4) rfl ?_);refine box_event ?hg (N:=4) ?hd (cs:= #[.slice A2 cv.length c2]) (t:=23) ?hr ?_;(case hd=>rfl);(case hg=>rfl);(case hr=>first | (go_simp;done) | (go_simp;rfl));intro g4 hg w4 hbox hb;replace HB:=q_ (below_step HB.out hb);replace B3:=q_ (blk_below B3.out hb);have B4:=q_ hbox;clear hb hbox hg))
 replace HB:=q_ (below_step HB.out (below_drew (Below.refl w4.heap.size w4)))
 replace B3:=q_ (blk_below B3.out (below_drew (Below.refl w4.heap.size w4)))
 replace B4:=q_ (blk_below B4.out (below_drew (Below.refl w4.heap.size w4)))
 refine st_ (n:=9) (S:=fun w'=>w'.cell? ⟨g3,0,none⟩=some (.slice A0 M.length c0)∧w'.cell? ⟨g3,1,none⟩=some (.slice A1 Q.length c1)∧w'.cell? ⟨g4,0,none⟩=some (.slice A2 cv.length c2)) (ds:= []) ⟨cz_ B3 0,cz_ B3 1,cz_ B4 0⟩ (fun hHeld=>?_)
 generalize w4.drew=w5 at HB B3 B4 hHeld ⊢
 refine tk_ 0 11 ?_;refine tk_ 1 12 ?_;refine pu_ 3 14 ?_;refine tk_ 4 15 ?_
 refine on_ 2 (some 13) (fun K hK=>?_)
 refine ca_ Try.func186 #[.agg #[.slice A0 M.length c0, .slice A1 Q.length c1], .slice A2 cv.length c2] ?_
 refine(newTable_calls A0 c0 M A1 c1 Q A2 c2 cv w5 n (Kd.C_below HC0.out HB.out) (Kd.C_below HC1.out HB.out) (Kd.C_below HC2.out HB.out) HM.out HQ.out HR.out HN.out (by have:=HN2.out;omega) (.inr HCV.out) (2*n+2) (by rw [if_neg (by have:=HCV.out;have:=HN.out;omega)])).mono ?_
 rintro e w6 ⟨t,rfl,hT,hb⟩
 refine⟨_,rfl,?_⟩
 have HLO:Aside0 (w.heap.size≤w5.heap.size):=⟨HB.out.size⟩
 have HLH:Aside0 (w5.heap.size≤w6.heap.size):=⟨hb.size⟩
 obtain⟨g,gb,cg,cb,b,cp,hT⟩:=hT
 have HT:=q_ hT
 have HHI:=q_ (Nat.le_refl w6.heap.size)
 replace HB:=q_ (below_step HB.out hb)
 replace B3:=q_ (blk_below B3.out hb)
 replace B4:=q_ (blk_below B4.out hb)
 clear hT hb hHeld
 refine hK.out _ _ ⟨cz_ B3 0,cz_ B3 1,cz_ B4 0⟩ (fun hHeld=>?_)
 clear hK K
 refine no_ ?_
 obtain⟨fz,hfz⟩: ∃fz,(!(Q.any badN))=fz:=⟨_,rfl⟩
 have HFZ:=q_ hfz
 clear hfz
 refine on_ 5 (some 16) (fun K hK=>?_)
 refine ca_ Try.func187 #[.slice A1 Q.length c1] ?_
 refine(impl_isFeasible.calls A1 c1 Q fz w6 (Kd.C_below HC1.out HB.out) HC1c.out (by unfold impl_isFeasible.f;rw [HFZ.out])).mono ?_
 rintro e w7 ⟨rfl,hb⟩
 refine⟨_,rfl,?_⟩
 replace HB:=q_ (below_step HB.out hb)
 replace B3:=q_ (blk_below B3.out hb)
 replace B4:=q_ (blk_below B4.out hb)
 replace HT:=q_ (HT.out.mvB hb)
 replace HHI:=q_ (Nat.le_trans HHI.out hb.size)
 clear hb hHeld
 refine hK.out _ _ ⟨cz_ B3 0,cz_ B3 1,cz_ B4 0⟩ (fun hHeld=>?_)
 clear hK K
 refine no_ ?_
 refine pu_ 6 17 ?_
 refine on_ 7 (some 18) (fun K hK=>?_)
 refine box_step (by rfl) (N:=18) rfl (cs:= #[.pointer (some ⟨t,0,none⟩), .slice none 0 0, .bool fz, .int .i64 0, .int .i64 0]) (t:=121) (by first | (go_simp;done) | (go_simp;rfl)) ?_
 intro g7 hg w8 hbox hb
 have HG7:Aside0 (w6.heap.size≤g7):=⟨by rw [hg];exact HHI.out⟩
 have B7:=q_ hbox
 replace HB:=q_ (below_step HB.out hb)
 replace B3:=q_ (blk_below B3.out hb)
 replace B4:=q_ (blk_below B4.out hb)
 replace HT:=q_ (HT.out.mvB hb)
 clear hb hHeld hbox hg HHI
 refine hK.out _ _ ⟨cz_ B3 0,cz_ B3 1,cz_ B4 0⟩ (fun hHeld=>?_)
 clear hK K
 refine nd_ 18 ?_
 refine pu_ 8 7 ?_
 refine done_ (by kernel_rfl) ?_
 generalize w5.heap.size=lo at*
 generalize w6.heap.size=hi at*
 replace HT:=q_ (HT.out.congr (s':=first n (enL M) (fun i=>cv.getD i 0) (fun i=>Q.getD i 0)) (fun i j hi hj=>first_at (by have:=HCV.out;have:=HN.out;omega) HMB.out (fun i hi=>by have:=HCB.out i hi;omega) i j hi hj) rfl rfl)
 have HOK:=q_ (first_ok (n:=n) (M:=enL M) (cv:=fun i=>cv.getD i 0) (q:=fun i=>Q.getD i 0))
 obtain⟨s0,hs0⟩: ∃s0:TS,first n (enL M) (fun i=>cv.getD i 0) (fun i=>Q.getD i 0)=s0:=⟨_,rfl⟩
 rw [hs0] at HT HOK
 have HS0:=q_ hs0
 clear hs0 hHeld B3
 have hn2':=HN2.out
 have hw2:wrap64 (2*(n:Int))=2*(n:Int):=w64 (by omega) (by omega)
 have HW2:=q_ hw2
 clear hn2' hw2
 go_wp2
 replace HB:=q_ (below_step HB.out (below_drew (Below.refl w8.heap.size w8)))
 replace B7:=q_ (blk_below B7.out (below_drew (Below.refl w8.heap.size w8)))
 replace B4:=q_ (blk_below B4.out (below_drew (Below.refl w8.heap.size w8)))
 replace HT:=q_ (HT.out.mvB (below_drew (Below.refl w8.heap.size w8)))
 refine st_ (n:=16) (S:=fun w'=>w'.cell? ⟨g7,0,none⟩=some (.pointer (some ⟨t,0,none⟩))∧w'.cell? ⟨t,3,none⟩=some (.int .i64 (n:Int))) (ds:= []) ⟨cz_ B7 0,HT.out.h3⟩ (fun hHeld=>?_)
 generalize w8.drew=w9 at HB B7 B4 HT hHeld ⊢
 have hw2:=HW2.out
 refine pu_ 0 19 ?_;refine pu_ 1 20 ?_;refine pu_ 2 21 ?_;refine tk_ 3 22 ?_;refine pu_ 4 23 ?_;refine pu_ 5 24 ?_;refine tk_ 6 25 ?_;refine pu_ 7 26 ?_;refine pu_ 8 27 ?_;refine pu_ 9 28 ?_;refine pu_ 10 29 ?_;refine tk_ 11 30 ?_;refine pu_ 12 31 ?_
 refine on_ 13 (some 32) (fun K hK=>?_)
 refine ca_ Try.func188 #[.pointer (some ⟨t,0,none⟩), .func (.func 189) #[] #[.pointer (some ⟨g4,0,none⟩)]] ?_
 obtain⟨o0,ho0⟩: ∃o,rowJ s0.T n (2*n+2) (fun i=>cv.getD i 0) n=o:=⟨_,rfl⟩
 have aa:=q_ ho0
 refine(least_calls HT.out 189 #[.pointer (some ⟨g4,0,none⟩)] (fun i=>cv.getD i 0) run1_enters (fun W i hi hb=>run1 A2 c2 cv g4 i (by rw [HCV.out];exact hi) W ((blk_cell (blk_below B4.out hb) 0).trans rfl) (Kd.C_below HC2.out (below_step HB.out hb))) (by have:=HN2.out;omega) (by omega) (by have:=HN2.out;omega)).mono ?_
 rw [ho0]
 clear ho0
 rintro e w10 ⟨rfl,hb⟩
 refine⟨_,rfl,?_⟩
 replace HB:=q_ (below_step HB.out hb)
 replace B7:=q_ (blk_below B7.out hb)
 replace HT:=q_ (HT.out.mvB hb)
 clear hb hHeld B4
 refine hK.out _ _ ⟨cz_ B7 0,HT.out.h3⟩ (fun hHeld=>?_)
 clear hK K
 refine no_ ?_
 refine pu_ 14 8 ?_;refine pu_ 15 9 ?_
 refine done_ (by kernel_rfl) ?_
 clear hHeld hw2
 have HFE:=q_ ((feas_eq (n:=n) HQ.out).trans HFZ.out)
 have hmost:=HN2.out
 cases fz with
 | true=>
  have HRE:Aside0 (R=(s0, [],true,0,0)):=⟨by rw [← HRR.out];unfold runI;rw [if_pos HFE.out,HS0.out]⟩
  clear HRR hmost
  go_wp2
  go_loopg [8,9] 0 (fun gg _ _ wr=>Aside0 (Below w.heap.size w wr)∧Aside0 (Tm wr lo hi t g gb n (2*n+2) cg cb b cp s0)∧Aside0 (wr.heap[g7]?=some (.cells #[.pointer (some ⟨t,0,none⟩), .slice none 0 0, .bool true, .int .i64 0, .int .i64 0] 121 (0,0))))
  case atStart=>exact⟨HB,HT,B7⟩
  case round=>
   clear HB HT B7
   obtain⟨HB,HT,B7⟩:=hrel
   have hc1:=cz_ B7 1
   have hc2:=cz_ B7 2
   go_wp2
   go_ret
   refine⟨_,rfl,?_,HB.out⟩
   rw [HRE.out]
   exact⟨lo,hi,t,_,HLO.out,HLH.out,HG7.out,⟨g,gb,cg,cb,b,cp,HT.out⟩,B7.out,Kd.S_nil _ _ _ _ _⟩
 | false=>
  obtain⟨r0,hr0⟩: ∃r0,rowB n (2*n+2) s0 (fun i=>cv.getD i 0)=some r0:=by
   cases hq:rowB n (2*n+2) s0 (fun i=>cv.getD i 0) with
   | none=>
    have h1:=rowB_none hq 0 HN.out
    have h2:=(HCB.out 0 HN.out).1
    exact absurd h1 (by show ¬ cv.getD 0 0≤0;omega)
   | some r=>exact⟨r,rfl⟩
  have hrj:rowJ s0.T n (2*n+2) (fun i=>cv.getD i 0) n=some r0:=(rowJ_eq (fun i hi=>by have:=HCB.out i hi;exact⟨by show -1920000000≤cv.getD i 0;omega,by show cv.getD i 0≤1920000000;omega⟩) (fun a c ha hc=>HOK.out.abs HN2.out HSM.out ha hc) (by omega)).trans hr0
  have HR0:=q_ (rowB_some hr0)
  have HRE:Aside0 (goI n (2*n+2) most s0 (2*n) r0 []=R):=⟨by rw [← HRR.out];unfold runI;rw [if_neg (by rw [HFE.out];decide),HS0.out,hr0]⟩
  have HT0:Aside0 (s0.T r0 (2*n)≠0):=⟨by
   rw [← HS0.out]
   show tab0 n (enL M) (fun i=>cv.getD i 0) (fun i=>Q.getD i 0) r0 (2*n)≠0
   unfold tab0
   rw [if_neg (by omega),if_neg (by omega),if_pos rfl]
   have h2:=HR0.out.2
   show - cv.getD r0 0≠0
   have h3:0 < cv.getD r0 0:=h2
   omega⟩
  obtain rfl:o0=some r0:=by rw [← aa.out];exact hrj
  clear hr0 hrj HRR hmost
  simp only [encO,HW2.out]
  go_wp2
  go_loopg [8,9] most (fun gg v8 v9 wr=> ∃(v r:Nat) (s:TS) (st:List (List Int)) (u1:Value),v8= .int .i64 (v:Int)∧v9= .int .i64 (r:Int)∧Aside0 (st.length≤most∧st.length≤200∧most - st.length≤gg∧v+1 < 2*n+2∧r < n∧s.T r v≠0)∧Aside0 (Ok n (2*n+2) (tab0 n (enL M) (fun i=>cv.getD i 0) (fun i=>Q.getD i 0)) s)∧Aside0 (goI n (2*n+2) (most - st.length) s v r st=R)∧Aside0 (Below w.heap.size w wr)∧Aside0 (Tm wr lo hi t g gb n (2*n+2) cg cb b cp s)∧Aside0 (wr.heap[g7]?=some (.cells #[.pointer (some ⟨t,0,none⟩),u1, .bool false, .int .i64 0, .int .i64 0] 121 (0,0)))∧Aside0 (Kd.S (Kd.slice 2 (Kd.int .i64)) 23 wr hi (fun _=>True) u1 st))
  case atStart=>exact⟨2*n,r0,s0, [], .slice none 0 0,by first | rfl | simp,rfl,⟨by simp,by simp,by simp,by omega,HR0.out.1,HT0.out⟩,HOK,⟨HRE.out⟩,HB,HT,B7,⟨Kd.S_nil _ _ _ _ _⟩⟩
  case round=>
   clear HB HT B7 HOK HRE HT0 HR0
   obtain⟨v,r,s,st,u1,rfl,rfl,HA,HOK,HRE,HB,HT,B7,HS⟩:=hrel
   obtain⟨As,cs,rfl⟩:=Kd.S_slice HS.out
   have hc1:=cz_ B7 1
   have hc2:=cz_ B7 2
   by_cases hlm:st.length < most
   ·have hlz:(st.length:Int) < (most:Int):=by omega
    obtain⟨q,hq⟩: ∃q,most - st.length=q+1:=⟨most - st.length - 1,by omega⟩
    have hre:=HRE.out
    rw [hq] at hre
    have HRE2:=q_ hre
    have HQ1:=q_ hq
    clear hre hq hlm HRE
    by_cases h200:st.length=200
    ·have h2z:((st.length:Int)==200)=true:=by rw [h200];rfl
     have HRE3:Aside0 ((s,st,false,0,3)=R):=⟨by rw [← HRE2.out];unfold goI;rw [if_pos h200]⟩
     have hs4:=cz_ B7 4
     have hs4f:=blk_frozen B7.out 4
     clear h200 HRE2
     go_wp2
     go_ret
     refine⟨_,rfl,?_,HB.out.setCell (Nat.le_trans HLO.out (Nat.le_trans HLH.out HG7.out)) _⟩
     rw [← HRE3.out]
     exact⟨lo,hi,t,_,HLO.out,HLH.out,HG7.out,⟨g,gb,cg,cb,b,cp,HT.out.mv (Out.set _ (a:=g7) (b:=g7+1) _ _ ⟨Nat.le_refl _,Nat.lt_succ_self _⟩) (.inl HG7.out)⟩,blk_put B7.out 4 _ rfl,S_type HS.out B7.out (by decide) (hset _ _ _ _)⟩
    ·have h2z:((st.length:Int)==200)=false:=by simp;omega
     have h2n: ¬ (st.length:Int)=200:=by omega
     obtain⟨ha1,ha2,ha3,hv,hr,hp⟩:=HA.out
     have HV:=q_ hv
     have HR:=q_ hr
     have HP:=q_ hp
     have HL2:Aside0 (st.length < 200):=⟨by omega⟩
     obtain⟨l,hl⟩: ∃l:Nat,s.bs.getD r 0=(l:Int):=⟨(s.bs.getD r 0).toNat,by have:=HOK.out.nn r hr;omega⟩
     have HLV:=q_ hl
     have hstep:=step_calls HT.out v r hr (by omega) (by have:=HN2.out;omega) (by have:=HN2.out;omega) (by have:=(HOK.out.den_le HN2.out HSM.out).1;omega) (by have:=(HOK.out.abs HN2.out HSM.out hr (show v < 2*n+2 by omega)).1;omega) (by have:=(HOK.out.abs HN2.out HSM.out hr (show v < 2*n+2 by omega)).2;omega)
     rw [hl] at hstep
     have HSTEP:=q_ hstep
     clear hstep hl ha1 ha2 ha3 hv hr hp h200
     have hc0:=cz_ B7 0
     go_wp2_with fail
     refine HSTEP.out.mono ?_
     rintro e w11 ⟨rfl,hT',hO⟩
     replace HT:=q_ hT'
     replace HB:=q_ (hO.toBelow HB.out HLO.out)
     replace B7:=q_ (hO.blk B7.out (.inr HG7.out))
     replace HS:=q_ (S_out HS.out hO)
     clear hT' hO HSTEP hc0 hc1 hc2
     have HSO:=q_ (Kd.S_mono (Kd.S_bound HS.out) (fun k hk=>hk.2.2.1):Kd.S (Kd.slice 2 (Kd.int .i64)) 23 w11 hi (fun k=>k < w11.heap.size) (.slice As st.length cs) st)
     have HHW:Aside0 (hi≤w11.heap.size):=⟨HT.out.size⟩
     have HW11:=q_ (Below.refl w11.heap.size w11)
     obtain⟨st2,hst2⟩: ∃st2,st++ [[(v:Int),(l:Int)]]=st2:=⟨_,rfl⟩
     have HST2:=q_ hst2
     obtain⟨zb,hzb⟩: ∃zb,((l:Int)==2*(n:Int))=zb:=⟨_,rfl⟩
     have HZB:=q_ hzb
     clear HS hst2 hzb
     have hc1:=cz_ B7 1
     go_wp2_with (first | ((with_reducible refine gate_dst (N:=71) rfl ?_);refine Kd.R_lit (Kd.int .i64) (w0:=w11) w11.heap.size 2 ?hg (N:=71) ?hd (xs:= [(v:Int),(l:Int)]) (inner:= [.int .i64 (v:Int), .int .i64 (l:Int)]) (ok:=fun k=>w11.heap.size≤k) (okp:=fun k=>w11.heap.size≤k) ?hr ?hp (fun _ hk=>hk) (Nat.le_refl _) (Below.refl _ _) (Nat.le_refl _) (by simp) ?_;(case hd=>rfl);(case hg=>rfl);(case hr=>first | (go_simp;done) | (go_simp;rfl));(case hp=>exact Reps.one rfl (Reps.one rfl (Reps.none _ _)));intro v71 w12 hr hb hg_ hat_;clear hg_ hat_;have HR71:=q_ (Kd.R_lower hr HHW.out);replace HB:=q_ (below_step HB.out hb);replace B7:=q_ (blk_below B7.out hb);replace HT:=q_ (HT.out.mvB hb);replace HSO:=q_ (Kd.S_below HSO.out hb);replace HW11:=q_ hb;clear hr hb hc1;obtain⟨A71,c71,e71⟩:=Kd.R_slice HR71.out;subst e71) | ((with_reducible refine gate_builtin (b:= .append) (xs:= #[.tmp 68, .tmp 72]) rfl ?_);at_builtin;refine Kd.S_append (Kd.slice 2 (Kd.int .i64)) (w0:=w12) hi rfl (.tmp 68) (.tmp 72) 22 23 (.slice none 0 0) 24 rfl Try.underlying22 info23 rfl (by decide) (by omega) (.slice As st.length cs) st [(v:Int),(l:Int)] [.slice A71 [(v:Int),(l:Int)].length c71] (fun _=>True) (fun k=>w11.heap.size≤k) rfl rfl ?aP ?aQ ?aF ?aO (Below.refl _ _) ?aS ?aL ?_;(case aP=>exact Kd.M_row HR71.out);(case aQ=>exact fun k hk=>⟨trivial,fun e=>Nat.lt_irrefl _ (Nat.lt_of_lt_of_le (S_own HSO.out k e.symm) hk)⟩);(case aF=>exact fun _ _=>trivial);(case aO=>exact Kd.S_mono HSO.out (fun k hk=>⟨trivial,fun q=>Nat.lt_irrefl _ (Nat.lt_of_lt_of_le hk q)⟩));(case aS=>exact HT.out.size);(case aL=>have:=HL2.out;omega);intro v1 w13 hs hb hg hat;replace B7:=q_ (blk_grown B7.out hg (S_ne HSO.out B7.out (by decide)));rw [HST2.out] at hs;have HS:=q_ hs;replace HT:=q_ (HT.out.mv (Out.hi hb) (.inl (Nat.le_refl _)));replace HB:=q_ ((Out.hi hb).toBelow HB.out (Nat.le_trans HLO.out HLH.out));clear hs hb hg hat HSO HW11 HR71;obtain⟨A9,c9,e9⟩:=Kd.S_slice HS.out;subst e9;have hc1:=cz_ B7 1;have hs1f:=blk_frozen B7.out 1;have hc2:=cz_ B7 2;have hs2f:=blk_frozen B7.out 2;have hcn:=HT.out.h3;have hc0:=cz_ B7 0;have hne1:=(Nat.ne_of_lt (Nat.lt_of_lt_of_le HT.out.tR.2 HG7.out));have hne2:=(Nat.ne_of_gt (Nat.lt_of_lt_of_le HT.out.tR.2 HG7.out));have hw2:=HW2.out;have hzb:=HZB.out))
     ·rename_i hz
      have HZ:=q_ (HZB.out.trans hz)
      go_ret
      have B7a:=q_ (blk_put B7.out 1 (.slice A9 st2.length c9) rfl)
      refine⟨_,rfl,?_,(HB.out.setCell (Nat.le_trans HLO.out (Nat.le_trans HLH.out HG7.out)) _).setCell (Nat.le_trans HLO.out (Nat.le_trans HLH.out HG7.out)) _⟩
      have hl2:s.bs.getD r 0=2*(n:Int):=by rw [HLV.out];exact eq_of_beq HZ.out
      rw [← HRE2.out]
      unfold goI
      rw [if_neg (by have:=HL2.out;omega),if_pos hl2,HLV.out,HST2.out]
      exact⟨lo,hi,t,_,HLO.out,HLH.out,HG7.out,⟨g,gb,cg,cb,b,cp,(HT.out.mv (Out.set _ (a:=g7) (b:=g7+1) _ _ ⟨Nat.le_refl _,Nat.lt_succ_self _⟩) (.inl HG7.out)).mv (Out.set _ (a:=g7) (b:=g7+1) _ _ ⟨Nat.le_refl _,Nat.lt_succ_self _⟩) (.inl HG7.out)⟩,blk_put B7a.out 2 _ rfl,S_type (S_type HS.out B7.out (by decide) (hset _ _ _ _)) B7a.out (by decide) (hset _ _ _ _)⟩
     ·have hz:zb=false:=by assumption
      have HZ:=q_ (HZB.out.trans hz)
      have hl2: ¬ s.bs.getD r 0=2*(n:Int):=by rw [HLV.out];intro e;have:=HZ.out;rw [e] at this;simp at this
      have HL3:=q_ hl2
      replace HS:=q_ (S_type HS.out B7.out (by decide) (hset w13 g7 1 (.slice A9 st2.length c9)))
      replace HT:=q_ (HT.out.mv (Out.set w13 (a:=g7) (b:=g7+1) 1 (.slice A9 st2.length c9) ⟨Nat.le_refl _,Nat.lt_succ_self _⟩) (.inl HG7.out))
      replace HB:=q_ (HB.out.setCell (p:=⟨g7,1,none⟩) (Nat.le_trans HLO.out (Nat.le_trans HLH.out HG7.out)) (.slice A9 st2.length c9))
      replace B7:=q_ (blk_put B7.out 1 (.slice A9 st2.length c9) rfl)
      clear hl2 hz hzb hc0 hc1 hc2 hs1f hs2f hcn hne1 hne2
      generalize w13.setCell ⟨g7,1,none⟩ (.slice A9 st2.length c9)=w14 at HT HS HB B7 ⊢
      have hll:l < 2*n:=by have h1:=HOK.out.lt r HR.out;have h2:=HL3.out;rw [HLV.out] at h1 h2;simp only [Int.toNat_natCast] at h1;omega
      have hll2:partner n l < 2*n:=by unfold partner;split <;> omega
      obtain⟨v2,hv2⟩: ∃v2,partner n l=v2:=⟨_,rfl⟩
      have HV2B:Aside0 (v2 < 2*n):=⟨by rw [← hv2];exact hll2⟩
      have HV2:=q_ hv2
      clear hll2
      refine(partner_calls HT.out l (by have:=HN2.out;omega) hll).mono ?_
      rw [hv2]
      clear hv2 hll
      rintro e w15 ⟨rfl,hb⟩
      replace HB:=q_ (below_step HB.out hb)
      replace B7:=q_ (blk_below B7.out hb)
      replace HT:=q_ (HT.out.mvB hb)
      replace HS:=q_ (Kd.S_below HS.out hb)
      clear hb
      have HOK2:=q_ (HOK.out.step HN2.out HSM.out HR.out HV.out HP.out)
      obtain⟨s2,hs2⟩: ∃s2,s.step r v=s2:=⟨_,rfl⟩
      rw [hs2] at HT HOK2
      have HS2:=q_ hs2
      clear hs2
      obtain⟨o,ho⟩: ∃o,rowJ s2.T n (2*n+2) (fun i=>s2.T i v2) n=o:=⟨_,rfl⟩
      have HO:=q_ ho
      clear ho
      have HRJ:=q_ ((rowJ_eq (s:=s2) (bf:=fun i=>s2.T i v2) (fun i hi=>HOK2.out.abs HN2.out HSM.out hi (by have:=HV2B.out;omega)) (fun a c ha hc=>HOK2.out.abs HN2.out HSM.out ha hc) (by omega)).symm.trans HO.out)
      have HGO:Aside0 (goN n (2*n+2) q s2 v2 st2 o=R):=⟨by
       rw [← HRE2.out]
       conv=>rhs;unfold goI
       rw [if_neg (by have:=HL2.out;omega),if_neg HL3.out,HLV.out,HST2.out,HS2.out,Int.toNat_natCast,HV2.out]
       have e:=HRJ.out
       rw [e]
       cases o <;> rfl⟩
      have hc0:=cz_ B7 0
      go_wp2_with fail
      refine(enterBy_calls HT.out v2 (by have:=HN2.out;omega) (by have:=HN.out;omega) (by have:=HN2.out;omega) (by have:=HV2B.out;omega)).mono ?_
      rw [HO.out]
      rintro e w16 ⟨rfl,hb⟩
      replace HB:=q_ (below_step HB.out hb)
      replace B7:=q_ (blk_below B7.out hb)
      replace HT:=q_ (HT.out.mvB hb)
      replace HS:=q_ (Kd.S_below HS.out hb)
      clear hb hc0
      cases o with
      | none=>
       simp only [encO]
       have hc3:=cz_ B7 3
       have hs3f:=blk_frozen B7.out 3
       go_wp2
       go_ret
       refine⟨_,rfl,?_,HB.out.setCell (Nat.le_trans HLO.out (Nat.le_trans HLH.out HG7.out)) _⟩
       rw [← HGO.out]
       exact⟨lo,hi,t,_,HLO.out,HLH.out,HG7.out,⟨g,gb,cg,cb,b,cp,HT.out.mv (Out.set _ (a:=g7) (b:=g7+1) _ _ ⟨Nat.le_refl _,Nat.lt_succ_self _⟩) (.inl HG7.out)⟩,blk_put B7.out 3 _ rfl,S_type HS.out B7.out (by decide) (hset _ _ _ _)⟩
      | some r2=>
       simp only [encO]
       have hr20: ¬ (r2:Int) < 0:=by omega
       have HRB:=q_ (rowB_some HRJ.out)
       go_wp2
       go_roundg q
       case measure=>have h1:=HA.out.2.2.1;have h2:=HQ1.out;omega
       case rel=>
        have hlen:st2.length=st.length+1:=by rw [← HST2.out];simp
        have hq:most - st2.length=q:=by have h2:=HQ1.out;omega
        exact⟨v2,r2,s2,st2,_,rfl,rfl,⟨by have h2:=HQ1.out;omega,by have h2:=HL2.out;omega,by omega,by have h2:=HV2B.out;omega,HRB.out.1,by have h3:=HRB.out.2;omega⟩,HOK2,⟨by rw [hq];exact HGO.out⟩,HB,HT,B7,HS⟩
   ·have hlz: ¬ (st.length:Int) < (most:Int):=by omega
    have e0:most - st.length=0:=by omega
    have hre:=HRE.out
    rw [e0] at hre
    have HRE2:Aside0 ((s,st,false,0,0)=R):=⟨hre⟩
    clear hre HRE hlm
    go_wp2
    go_ret
    refine⟨_,rfl,?_,HB.out⟩
    rw [← HRE2.out]
    exact⟨lo,hi,t,_,HLO.out,HLH.out,HG7.out,⟨g,gb,cg,cb,b,cp,HT.out⟩,B7.out,HS.out⟩
theorem PlE.mv {w0 w w':World} {p n m:Nat} {s:TS} {st:List (List Int)} {solved:Bool} {ray code:Int} (h:PlE w0 w p n m s st solved ray code) (hb:Below w.heap.size w w'):PlE w0 w' p n m s st solved ray code:=by
 obtain⟨lo,hi,t,u1,h1,h2,h3,⟨g,gb,cg,cb,b,cp,hT⟩,hB,hS⟩:=h
 exact⟨lo,hi,t,u1,h1,h2,h3,⟨g,gb,cg,cb,b,cp,hT.mvB hb⟩,blk_below hB hb,Kd.S_below hS hb⟩
theorem PlE.base {w0 w1 w:World} {p n m:Nat} {s:TS} {st:List (List Int)} {solved:Bool} {ray code:Int} (h:PlE w1 w p n m s st solved ray code) (hb:w0.heap.size≤w1.heap.size):PlE w0 w p n m s st solved ray code:=by
 obtain⟨lo,hi,t,u1,h1,h2⟩:=h
 exact⟨lo,hi,t,u1,Nat.le_trans hb h1,h2⟩
end Go.Proofs.Ytmpkckiifeikkaa.Lq
end
section
namespace Go.Proofs.Ytmpkckiifeikkaa.Un
open Go.RowKit Go.Proofs.YtmpkckiifeikkaaW.PrintWords Go.Proofs.YtmpkckiifeikkaaW.PrintMore Go.Proofs.Ytmpkckiifeikkaa.Ma Go.Proofs.Ytmpkckiifeikkaa.Dt Go.Proofs.Ytmpkckiifeikkaa.Bz
end Go.Proofs.Ytmpkckiifeikkaa.Un
end
section
namespace Go.Proofs.Ytmpkckiifeikkaa.Pr
open Go.RowKit Go.Proofs.YtmpkckiifeikkaaW.PrintWords Go.Proofs.YtmpkckiifeikkaaW.PrintLast Go.Proofs.YtmpkckiifeikkaaW.PrintMore
attribute [local go_sem] max2_int min2_int max_two min_two max_three min_three max_four min_four
end Go.Proofs.Ytmpkckiifeikkaa.Pr
end
section
namespace Go.Proofs.Ytmpkckiifeikkaa.Cz
open Go.RowKit Go.Proofs.YtmpkckiifeikkaaW.PrintWords Go.Proofs.YtmpkckiifeikkaaW.PrintMore Go.Proofs.Ytmpkckiifeikkaa.Ma Go.Proofs.Ytmpkckiifeikkaa.Pr Go.Proofs.Ytmpkckiifeikkaa.Dt Go.Proofs.Ytmpkckiifeikkaa.Bz Go.Proofs.Ytmpkckiifeikkaa.Un
def en (l:List (List Int)):Mat:=fun i j=>(l.getD i []).getD j 0
structure Sq (n:Nat) (l:List (List Int)):Prop where
 len:l.length=n
 row: ∀i,i < n→(l.getD i []).length=n
 num: ∀i j,i < n→j < n→(en l i j).natAbs≤20
theorem rdL1 (l:List (List Int)) (i:Nat):rd_L1 l (i:Int)=l.getD i []:=by simp [rd_L1]
def rw1 (m:Nat) (f:Nat→Int):List Int:=(List.range m).map f
def mk (r m:Nat) (f:Nat→Nat→Int):List (List Int):=(List.range r).map fun i=>rw1 m (f i)
section
variable {n:Nat} {l:List (List Int)} (h:Sq n l) (hn:n≤5) (s:Int)
include h hn
end
end Go.Proofs.Ytmpkckiifeikkaa.Cz
end
section
namespace Go.Proofs.Ytmpkckiifeikkaa.Pr
open Go.RowKit Go.Proofs.YtmpkckiifeikkaaW.PrintWords Go.Proofs.YtmpkckiifeikkaaW.PrintLast Go.Proofs.YtmpkckiifeikkaaW.PrintMore
attribute [local go_sem] max2_int min2_int max_two min_two max_three min_three max_four min_four
mutual
def spec_l01Matrix.j0:Nat→List (List Int)→Int→Bool→Option (Bool)
 | 0,_,_,_=>none
 | k+1,x0,x3,x13=>if x13=true then(some false) else(spec_l01Matrix.l0 k x0 x3 0)
def spec_l01Matrix.l0:Nat→List (List Int)→Int→Int→Option (Bool)
 | 0,_,_,_=>none
 | k+1,x0,x3,x4=>if x4 < x3 then(if 0≤x4 then(if x4 < (x0.length:Int) then(if((rd_L1 x0 x4).length:Int)=x3 then(spec_l01Matrix.l1 k x0 x3 x4 0) else(some false)) else(none)) else(none)) else(some true)
def spec_l01Matrix.l1:Nat→List (List Int)→Int→Int→Int→Option (Bool)
 | 0,_,_,_,_=>none
 | k+1,x0,x3,x4,x5=>if x5 < x3 then(if 0≤x4 then(if x4 < (x0.length:Int) then(if 0≤x5 then(if x5 < ((rd_L1 x0 x4).length:Int) then((spec_l01In.f (rd (rd_L1 x0 x4) x5) (-20) 20).bind fun aa=>(if aa=true then(spec_l01Matrix.l1 k x0 x3 x4 (wrap64 (x5+1))) else(some false))) else(none)) else(none)) else(none)) else(none)) else(spec_l01Matrix.l0 k x0 x3 (wrap64 (x4+1)))
end
def spec_l01Matrix.f (k:Nat) (l0:List (List Int)):Option (Bool):=if(l0.length:Int) < 1 then(spec_l01Matrix.j0 k l0 (l0.length:Int) true) else(spec_l01Matrix.j0 k l0 (l0.length:Int) (decide ((l0.length:Int) > 5)))
theorem spec_l01Matrix.mono_l: ∀k,(∀y0 y1 y2,LeO (spec_l01Matrix.j0 k y0 y1 y2) (spec_l01Matrix.j0 (k+1) y0 y1 y2))∧(∀y0 y1 y2,LeO (spec_l01Matrix.l0 k y0 y1 y2) (spec_l01Matrix.l0 (k+1) y0 y1 y2))∧(∀y0 y1 y2 y3,LeO (spec_l01Matrix.l1 k y0 y1 y2 y3) (spec_l01Matrix.l1 (k+1) y0 y1 y2 y3))
 | 0=>⟨fun _ _ _ r h=>by simp [spec_l01Matrix.j0] at h,fun _ _ _ r h=>by simp [spec_l01Matrix.l0] at h,fun _ _ _ _ r h=>by simp [spec_l01Matrix.l1] at h⟩
 | k+1=>by
  obtain⟨ih0,ih1,ih2⟩:=spec_l01Matrix.mono_l k
  refine⟨?_,?_,?_⟩
  ·intro y0 y1 y2
   unfold spec_l01Matrix.j0
   repeat' first
   | (with_reducible exact ih0 _ _ _)
   | (with_reducible exact ih1 _ _ _)
   | (with_reducible exact ih2 _ _ _ _)
   | (with_reducible exact LeO.refl _)
   | (with_reducible exact LeO.none _)
   | (with_reducible refine LeO.ite ?_ ?_)
   | (with_reducible refine LeO.bind ?_ (fun _=>?_))
   | exact ih0 _ _ _
   | exact ih1 _ _ _
   | exact ih2 _ _ _ _
   | exact LeO.none _
   | refine LeO.ite ?_ ?_
   | refine LeO.bind ?_ (fun _=>?_)
  ·intro y0 y1 y2
   unfold spec_l01Matrix.l0
   repeat' first
   | (with_reducible exact ih0 _ _ _)
   | (with_reducible exact ih1 _ _ _)
   | (with_reducible exact ih2 _ _ _ _)
   | (with_reducible exact LeO.refl _)
   | (with_reducible exact LeO.none _)
   | (with_reducible refine LeO.ite ?_ ?_)
   | (with_reducible refine LeO.bind ?_ (fun _=>?_))
   | exact ih0 _ _ _
   | exact ih1 _ _ _
   | exact ih2 _ _ _ _
   | exact LeO.none _
   | refine LeO.ite ?_ ?_
   | refine LeO.bind ?_ (fun _=>?_)
  ·intro y0 y1 y2 y3
   unfold spec_l01Matrix.l1
   repeat' first
   | (with_reducible exact ih0 _ _ _)
   | (with_reducible exact ih1 _ _ _)
   | (with_reducible exact ih2 _ _ _ _)
   | (with_reducible exact LeO.refl _)
   | (with_reducible exact LeO.none _)
   | (with_reducible refine LeO.ite ?_ ?_)
   | (with_reducible refine LeO.bind ?_ (fun _=>?_))
   | exact ih0 _ _ _
   | exact ih1 _ _ _
   | exact ih2 _ _ _ _
   | exact LeO.none _
   | refine LeO.ite ?_ ?_
   | refine LeO.bind ?_ (fun _=>?_)
theorem spec_l01Matrix.mono: ∀a0 k,LeO (spec_l01Matrix.f k a0) (spec_l01Matrix.f (k+1) a0):=by
 intro a0 k
 obtain⟨ih0,ih1,ih2⟩:=spec_l01Matrix.mono_l k
 unfold spec_l01Matrix.f
 repeat' first
   | (with_reducible exact ih0 _ _ _)
   | (with_reducible exact ih1 _ _ _)
   | (with_reducible exact ih2 _ _ _ _)
   | (with_reducible exact LeO.refl _)
   | (with_reducible exact LeO.none _)
   | (with_reducible refine LeO.ite ?_ ?_)
   | (with_reducible refine LeO.bind ?_ (fun _=>?_))
   | exact ih0 _ _ _
   | exact ih1 _ _ _
   | exact ih2 _ _ _ _
   | exact LeO.none _
   | refine LeO.ite ?_ ?_
   | refine LeO.bind ?_ (fun _=>?_)
theorem spec_l01Matrix.calls (k:Nat) (A0:Option Addr) (c0:Nat) (l0:List (List Int)) (r:Bool) (w:World) (hr0:Kd.C (Kd.slice 2 (Kd.int .i64)) w A0 l0.length l0) (hc0:l0.length≤c0) (h:spec_l01Matrix.f k l0=some r):
  Calls Try.prog 167 #[.slice A0 l0.length c0] w fun e w'=>e= .returned (.bool r)∧Drawn0 w w':=by
 have HR0:=q_ hr0
 have HC0:=q_ hc0
 clear hr0 hc0
 have H:(if(l0.length:Int) < 1 then(spec_l01Matrix.j0 k l0 (l0.length:Int) true) else(spec_l01Matrix.j0 k l0 (l0.length:Int) (decide ((l0.length:Int) > 5))))=some r:=h
 clear h
 have HC2:=q_ H
 clear H
 go_enter Try.func167,Try.ntmps167
 go_upto_region 2 with (fail)
 go_cut [13] (fun v13 wc=> ∃(kq:Nat) (af:Bool),v13= .bool af∧Aside0 (spec_l01Matrix.j0 kq l0 (l0.length:Int) af=some r)∧Aside0 (kq≤k)∧Drawn0 w wc)
 case first=>
  have H:=HC2.out
  clear HC2
  by_cases c3:(l0.length:Int) < 1
  ·rw [if_pos c3] at H
   have c3b0:decide ((l0.length:Int) < 1)=true:=decide_eq_true c3
   have c3b1:decide (l0.length < 1)=true:=decide_eq_true (by omega)
   clear c3
   (first | rw [c3b0] | (simp only [i64_w,i32_w];rw [c3b0]) | skip)
   have H':=q_ H
   clear H
   go_wp2
   go_meet
   case rel=>exact⟨_,(true),(by first | rfl | (simp;done) | (simp [*];done)),H',⟨by first | omega | exact Nat.le_refl _⟩,by repeat (first | exact Drawn0.refl _ | apply Drawn0.step)⟩
  ·rw [if_neg c3] at H
   have c3b0:decide ((l0.length:Int) < 1)=false:=decide_eq_false c3
   have c3b1:decide (l0.length < 1)=false:=decide_eq_false (by omega)
   clear c3
   (first | rw [c3b0] | (simp only [i64_w,i32_w];rw [c3b0]) | skip)
   have H':=q_ H
   clear H
   go_wp2
   go_meet
   case rel=>exact⟨_,(decide ((l0.length:Int) > 5)),(by first | rfl | (simp;done) | (simp [*];done)),H',⟨by first | omega | exact Nat.le_refl _⟩,by repeat (first | exact Drawn0.refl _ | apply Drawn0.step)⟩
 case rest=>
  clear HC2
  try clear c1
  try clear p2
  try clear c3
  try clear c3b0
  try clear c3b1
  obtain⟨kq,af,rfl,HA,HJ1,⟨mc1,rfl⟩⟩:=hcut
  cases kq with
  | zero=>exact absurd HA.out (by simp [spec_l01Matrix.j0])
  | succ kj1=>
   have H:=HA.out
   clear HA
   simp only [spec_l01Matrix.j0] at H
   by_cases c4:af=true
   ·subst c4
    have H1:(some false)=some r:=by rw [if_pos rfl] at H;exact H
    clear H
    have H:=H1
    clear H1
    obtain rfl:=Option.some.inj H
    go_wp2
    go_ret
    exact⟨by first | rfl | (simp;done) | (simp [*];done),by repeat (first | exact Drawn0.refl _ | apply Drawn0.step)⟩
   ·replace c4:=Bool.eq_false_iff.mpr c4
    subst c4
    have H1:(spec_l01Matrix.l0 kj1 l0 (l0.length:Int) 0)=some r:=by rw [if_neg (show ¬ (false=true) by decide)] at H;exact H
    clear H
    have H:=H1
    clear H1
    have H':=q_ H
    clear H
    go_wp2
    go_loopg [4] kj1 (fun kq v4 w'=> ∃(aa:Int),v4= .int .i64 aa∧Aside0 (spec_l01Matrix.l0 kq l0 (l0.length:Int) aa=some r)∧Aside0 (kq≤kj1)∧Drawn0 w w')
    case atStart=>exact⟨(0),(by first | rfl | (simp;done) | (simp [*];done)),H',⟨Nat.le_refl _⟩,by repeat (first | exact Drawn0.refl _ | apply Drawn0.step)⟩
    case round=>
     clear H'
     try clear c1
     try clear p2
     try clear c3
     try clear c3b0
     try clear c3b1
     try clear c4
     try clear p2
     obtain⟨aa,rfl,HA,HK2,⟨m2,rfl⟩⟩:=hrel
     cases gk with
     | zero=>exact absurd HA.out (by simp [spec_l01Matrix.l0])
     | succ k2=>
      have H:=HA.out
      clear HA
      simp only [spec_l01Matrix.l0] at H
      by_cases c5:aa < (l0.length:Int)
      ·rw [if_pos c5] at H
       have c5b0:decide (aa < (l0.length:Int))=true:=decide_eq_true c5
       clear c5
       by_cases c6:0≤aa
       ·rw [if_pos c6] at H
        have c6b0:decide (0≤aa)=true:=decide_eq_true c6
        clear c6
        by_cases c7:aa < (l0.length:Int)
        ·rw [if_pos c7] at H
         have c7b0:decide (aa < (l0.length:Int))=true:=decide_eq_true c7
         clear c7
         by_cases c8:((rd_L1 l0 aa).length:Int)=(l0.length:Int)
         ·rw [if_pos c8] at H
          have c8b0:(((rd_L1 l0 aa).length:Int)==(l0.length:Int))=true:=beq_iff_eq.mpr c8
          have c8b1:(((rd_L1 l0 aa).length:Int) !=(l0.length:Int))=false:=bne_eq_false_iff_eq.mpr c8
          have c8b2:((rd_L1 l0 aa).length==l0.length)=true:=by first | simpa using c8 | (simp at c8 ⊢;omega)
          clear c8
          have H':=q_ H
          clear H
          have p155:0≤(aa:Int):=of_decide_eq_true (by first | (with_reducible assumption) | assumption)
          have q155:aa < (l0.length:Int):=of_decide_eq_true (by first | (with_reducible assumption) | assumption)
          obtain⟨ag,ai,aj,e155,hx155_0,hl155_0,hi155_0⟩:=at_L1 HR0.out aa p155 q155
          cases e155
          have HR155_0:=q_ hi155_0
          have HC155_0:=q_ hl155_0
          clear hi155_0 hl155_0
          replace p155:=eq_true p155
          replace q155:=eq_true q155
          go_wp2
          go_loopg [5] k2 (fun kq v5 w'=> ∃(ae:Int),v5= .int .i64 ae∧Aside0 (spec_l01Matrix.l1 kq l0 (l0.length:Int) aa ae=some r)∧Aside0 (kq≤k2)∧Drawn0 w w')
          case atStart=>exact⟨(0),(by first | rfl | (simp;done) | (simp [*];done)),H',⟨Nat.le_refl _⟩,by repeat (first | exact Drawn0.refl _ | apply Drawn0.step)⟩
          case round=>
           clear H'
           try clear c1
           try clear p1
           try clear q1
           try clear hx1
           try clear p2
           try clear c3
           try clear c3b0
           try clear c3b1
           try clear c4
           try clear c5
           try clear c5b0
           try clear c6
           try clear c6b0
           try clear c7
           try clear c7b0
           try clear c8
           try clear c8b0
           try clear c8b1
           try clear c8b2
           try clear hx155_0
           try clear p155
           try clear p2
           try clear q155
           obtain⟨ae,rfl,HA,HK3,⟨m3,rfl⟩⟩:=hrel
           cases gk with
           | zero=>exact absurd HA.out (by simp [spec_l01Matrix.l1])
           | succ k3=>
            have H:=HA.out
            clear HA
            simp only [spec_l01Matrix.l1] at H
            by_cases c9:ae < (l0.length:Int)
            ·rw [if_pos c9] at H
             have c9b0:decide (ae < (l0.length:Int))=true:=decide_eq_true c9
             clear c9
             by_cases c10:0≤aa
             ·rw [if_pos c10] at H
              have c10b0:decide (0≤aa)=true:=decide_eq_true c10
              clear c10
              by_cases c11:aa < (l0.length:Int)
              ·rw [if_pos c11] at H
               have c11b0:decide (aa < (l0.length:Int))=true:=decide_eq_true c11
               clear c11
               by_cases c12:0≤ae
               ·rw [if_pos c12] at H
                have c12b0:decide (0≤ae)=true:=decide_eq_true c12
                clear c12
                by_cases c13:ae < ((rd_L1 l0 aa).length:Int)
                ·rw [if_pos c13] at H
                 have c13b0:decide (ae < ((rd_L1 l0 aa).length:Int))=true:=decide_eq_true c13
                 clear c13
                 replace H:=Option.bind_eq_some_iff.mp H
                 obtain⟨ak,A140,H⟩:=H
                 replace H:(if ak=true then(spec_l01Matrix.l1 k3 l0 (l0.length:Int) aa (wrap64 (ae+1))) else(some false))=some r:=H
                 have A14:=q_ A140
                 clear A140
                 by_cases c15:ak=true
                 ·subst c15
                  have H1:(spec_l01Matrix.l1 k3 l0 (l0.length:Int) aa (wrap64 (ae+1)))=some r:=by rw [if_pos rfl] at H;exact H
                  clear H
                  have H:=H1
                  clear H1
                  have H':=q_ H
                  clear H
                  have p156:0≤(aa:Int):=of_decide_eq_true (by first | (with_reducible assumption) | assumption)
                  have q156:aa < (l0.length:Int):=of_decide_eq_true (by first | (with_reducible assumption) | assumption)
                  obtain⟨ah,aq,au,e156,hx156_0,hl156_0,hi156_0⟩:=at_L1 HR0.out aa p156 q156
                  obtain rfl:ag=ah:=(by injection e156)
                  have HR156_0:=q_ hi156_0
                  have HC156_0:=q_ hl156_0
                  clear hi156_0 hl156_0
                  replace p156:=eq_true p156
                  replace q156:=eq_true q156
                  have p157:0≤(ae:Int):=of_decide_eq_true (by first | (with_reducible assumption) | assumption)
                  have q157:ae < ((rd_L1 l0 aa).length:Int):=of_decide_eq_true (by first | (with_reducible assumption) | assumption)
                  obtain⟨av,e157,hx157_0⟩:=Kd.at_int HR156_0.out ae p157 q157
                  cases e157
                  replace p157:=eq_true p157
                  replace q157:=eq_true q157
                  go_wp2_with (first | ((with_reducible refine gate_callee (f:=119) rfl ?_);refine goesL_ (some 38) rfl rfl Try.func119 (by kernel_rfl) rfl #[.int .i64 (rd (rd_L1 l0 aa) ae), .int .i64 (-20), .int .i64 20] rfl (by(try simp only [List.map_toArray,List.map_cons,List.map_nil]);first | done | rfl | (simp only [List.length_drop,List.length_take];rfl)) ?_;(with_reducible refine(spec_l01In.calls (rd (rd_L1 l0 aa) ae) (-20) 20 true _ A14.out).mono ?_);rintro e w' ⟨rfl,⟨nd,rfl⟩⟩;refine⟨_,rfl,?_⟩))
                  go_roundg k3
                  case measure=>have:=HJ1.out;have:=HK2.out;have:=HK3.out;omega
                  case rel=>exact⟨(wrap64 (ae+1)),(by first | rfl | (simp;done) | (simp [*];done)),H',⟨by have:=HJ1.out;have:=HK2.out;have:=HK3.out;omega⟩,by repeat (first | exact Drawn0.refl _ | apply Drawn0.step)⟩
                 ·replace c15:=Bool.eq_false_iff.mpr c15
                  subst c15
                  have H1:(some false)=some r:=by rw [if_neg (show ¬ (false=true) by decide)] at H;exact H
                  clear H
                  have H:=H1
                  clear H1
                  obtain rfl:=Option.some.inj H
                  have p156:0≤(aa:Int):=of_decide_eq_true (by first | (with_reducible assumption) | assumption)
                  have q156:aa < (l0.length:Int):=of_decide_eq_true (by first | (with_reducible assumption) | assumption)
                  obtain⟨ah,aq,au,e156,hx156_0,hl156_0,hi156_0⟩:=at_L1 HR0.out aa p156 q156
                  obtain rfl:ag=ah:=(by injection e156)
                  have HR156_0:=q_ hi156_0
                  have HC156_0:=q_ hl156_0
                  clear hi156_0 hl156_0
                  replace p156:=eq_true p156
                  replace q156:=eq_true q156
                  have p157:0≤(ae:Int):=of_decide_eq_true (by first | (with_reducible assumption) | assumption)
                  have q157:ae < ((rd_L1 l0 aa).length:Int):=of_decide_eq_true (by first | (with_reducible assumption) | assumption)
                  obtain⟨av,e157,hx157_0⟩:=Kd.at_int HR156_0.out ae p157 q157
                  cases e157
                  replace p157:=eq_true p157
                  replace q157:=eq_true q157
                  go_wp2_with (first | ((with_reducible refine gate_callee (f:=119) rfl ?_);refine goesL_ (some 38) rfl rfl Try.func119 (by kernel_rfl) rfl #[.int .i64 (rd (rd_L1 l0 aa) ae), .int .i64 (-20), .int .i64 20] rfl (by(try simp only [List.map_toArray,List.map_cons,List.map_nil]);first | done | rfl | (simp only [List.length_drop,List.length_take];rfl)) ?_;(with_reducible refine(spec_l01In.calls (rd (rd_L1 l0 aa) ae) (-20) 20 false _ A14.out).mono ?_);rintro e w' ⟨rfl,⟨nd,rfl⟩⟩;refine⟨_,rfl,?_⟩))
                  go_ret
                  exact⟨by first | rfl | (simp;done) | (simp [*];done),by repeat (first | exact Drawn0.refl _ | apply Drawn0.step)⟩
                ·rw [if_neg c13] at H
                 exact absurd H (by simp)
               ·rw [if_neg c12] at H
                exact absurd H (by simp)
              ·rw [if_neg c11] at H
               exact absurd H (by simp)
             ·rw [if_neg c10] at H
              exact absurd H (by simp)
            ·rw [if_neg c9] at H
             have c9b0:decide (ae < (l0.length:Int))=false:=decide_eq_false c9
             clear c9
             have H':=q_ H
             clear H
             go_wp2
             go_roundg k3
             case measure=>have:=HJ1.out;have:=HK2.out;have:=HK3.out;omega
             case rel=>exact⟨(wrap64 (aa+1)),(by first | rfl | (simp;done) | (simp [*];done)),H',⟨by have:=HJ1.out;have:=HK2.out;have:=HK3.out;omega⟩,by repeat (first | exact Drawn0.refl _ | apply Drawn0.step)⟩
         ·rw [if_neg c8] at H
          have c8b0:(((rd_L1 l0 aa).length:Int)==(l0.length:Int))=false:=beq_eq_false_iff_ne.mpr c8
          have c8b1:(((rd_L1 l0 aa).length:Int) !=(l0.length:Int))=true:=bne_iff_ne.mpr c8
          have c8b2:((rd_L1 l0 aa).length==l0.length)=false:=by first | simpa using c8 | (simp at c8 ⊢;omega)
          obtain rfl:=Option.some.inj H
          have p155:0≤(aa:Int):=of_decide_eq_true (by first | (with_reducible assumption) | assumption)
          have q155:aa < (l0.length:Int):=of_decide_eq_true (by first | (with_reducible assumption) | assumption)
          obtain⟨ag,ai,aj,e155,hx155_0,hl155_0,hi155_0⟩:=at_L1 HR0.out aa p155 q155
          cases e155
          have HR155_0:=q_ hi155_0
          have HC155_0:=q_ hl155_0
          clear hi155_0 hl155_0
          replace p155:=eq_true p155
          replace q155:=eq_true q155
          go_wp2
          go_ret
          exact⟨by first | rfl | (simp;done) | (simp [*];done),by repeat (first | exact Drawn0.refl _ | apply Drawn0.step)⟩
        ·rw [if_neg c7] at H
         exact absurd H (by simp)
       ·rw [if_neg c6] at H
        exact absurd H (by simp)
      ·rw [if_neg c5] at H
       have c5b0:decide (aa < (l0.length:Int))=false:=decide_eq_false c5
       clear c5
       obtain rfl:=Option.some.inj H
       go_wp2
       go_ret
       exact⟨by first | rfl | (simp;done) | (simp [*];done),by repeat (first | exact Drawn0.refl _ | apply Drawn0.step)⟩
mutual
def spec_l01Is.j0:Nat→Bool→List (List Int)→List Int→Option (Bool)
 | 0,_,_,_=>none
 | k+1,x16,ae,aa=>if x16=true then(some false) else(spec_l01Is.l0 k 0 ae aa)
def spec_l01Is.l0:Nat→Int→List (List Int)→List Int→Option (Bool)
 | 0,_,_,_=>none
 | k+1,x3,ae,aa=>if x3 < (aa.length:Int) then(if 0≤x3 then((spec_l01In.f (rd aa x3) (-100) 100).bind fun af=>(if af=true then(spec_l01Is.l0 k (wrap64 (x3+1)) ae aa) else(some false))) else(none)) else(some true)
end
def spec_l01Is.f (k:Nat) (aa:List (List Int)) (ae:List Int):Option (Bool):=(spec_l01Matrix.f k aa).bind fun af=>(if af=true then(spec_l01Is.j0 k ((ae.length:Int) !=(aa.length:Int)) aa ae) else(spec_l01Is.j0 k true aa ae))
theorem spec_l01Is.mono_l: ∀k,(∀y0 y1 y2,LeO (spec_l01Is.j0 k y0 y1 y2) (spec_l01Is.j0 (k+1) y0 y1 y2))∧(∀y0 y1 y2,LeO (spec_l01Is.l0 k y0 y1 y2) (spec_l01Is.l0 (k+1) y0 y1 y2))
 | 0=>⟨fun _ _ _ r h=>by simp [spec_l01Is.j0] at h,fun _ _ _ r h=>by simp [spec_l01Is.l0] at h⟩
 | k+1=>by
  obtain⟨ih0,ih1⟩:=spec_l01Is.mono_l k
  refine⟨?_,?_⟩
  ·intro y0 y1 y2
   unfold spec_l01Is.j0
   repeat' first
   | (with_reducible exact ih0 _ _ _)
   | (with_reducible exact ih1 _ _ _)
   | (with_reducible exact spec_l01Matrix.mono _ _)
   | (with_reducible exact LeO.refl _)
   | (with_reducible exact LeO.none _)
   | (with_reducible refine LeO.ite ?_ ?_)
   | (with_reducible refine LeO.bind ?_ (fun _=>?_))
   | exact ih0 _ _ _
   | exact ih1 _ _ _
   | exact spec_l01Matrix.mono _ _
   | exact LeO.none _
   | refine LeO.ite ?_ ?_
   | refine LeO.bind ?_ (fun _=>?_)
  ·intro y0 y1 y2
   unfold spec_l01Is.l0
   repeat' first
   | (with_reducible exact ih0 _ _ _)
   | (with_reducible exact ih1 _ _ _)
   | (with_reducible exact spec_l01Matrix.mono _ _)
   | (with_reducible exact LeO.refl _)
   | (with_reducible exact LeO.none _)
   | (with_reducible refine LeO.ite ?_ ?_)
   | (with_reducible refine LeO.bind ?_ (fun _=>?_))
   | exact ih0 _ _ _
   | exact ih1 _ _ _
   | exact spec_l01Matrix.mono _ _
   | exact LeO.none _
   | refine LeO.ite ?_ ?_
   | refine LeO.bind ?_ (fun _=>?_)
theorem spec_l01Is.mono: ∀a0 a1 k,LeO (spec_l01Is.f k a0 a1) (spec_l01Is.f (k+1) a0 a1):=by
 intro a0 a1 k
 obtain⟨ih0,ih1⟩:=spec_l01Is.mono_l k
 unfold spec_l01Is.f
 repeat' first
   | (with_reducible exact ih0 _ _ _)
   | (with_reducible exact ih1 _ _ _)
   | (with_reducible exact spec_l01Matrix.mono _ _)
   | (with_reducible exact LeO.refl _)
   | (with_reducible exact LeO.none _)
   | (with_reducible refine LeO.ite ?_ ?_)
   | (with_reducible refine LeO.bind ?_ (fun _=>?_))
   | exact ih0 _ _ _
   | exact ih1 _ _ _
   | exact spec_l01Matrix.mono _ _
   | exact LeO.none _
   | refine LeO.ite ?_ ?_
   | refine LeO.bind ?_ (fun _=>?_)
theorem spec_l01Is.calls (k:Nat) (ai:Option Addr) (aj:Nat) (ae:List (List Int)) (ak:Option Addr) (aq:Nat) (aa:List Int) (r:Bool) (w:World) (aJ:Kd.C (Kd.slice 2 (Kd.int .i64)) w ai ae.length ae) (aK:ae.length≤aj) (aM:Kd.C (Kd.int .i64) w ak aa.length aa) (aN:aa.length≤aq) (h:spec_l01Is.f k ae aa=some r):
  Calls Try.prog 118 #[.agg #[.slice ai ae.length aj, .slice ak aa.length aq]] w fun e w'=>e= .returned (.bool r)∧Below w.heap.size w w':=by
 have hu30:=Try.underlying30
 have HR0_0:=q_ aJ
 have HC0_0:=q_ aK
 clear aJ aK
 have HR0_1:=q_ aM
 have HC0_1:=q_ aN
 clear aM aN
 have HB:=q_ (Below.refl w.heap.size w)
 have H:((spec_l01Matrix.f k ae).bind fun av=>(if av=true then(spec_l01Is.j0 k ((aa.length:Int) !=(ae.length:Int)) ae aa) else(spec_l01Is.j0 k true ae aa)))=some r:=h
 clear h
 have HC2:=q_ H
 clear H
 go_enter Try.func118,Try.ntmps118
 go_upto_region 1 with (first | ((with_reducible refine gate_dst (N:=1) rfl ?_);(try (refine gate_guard (by rfl) ?_;dsimp only));refine box_event ?hg (N:=1) ?hd (cs:= #[.slice ai ae.length aj, .slice ak aa.length aq]) (t:=30) ?hr ?_;(case hd=>rfl);(case hg=>rfl);(case hr=>first | (go_simp;done) | (go_simp;rfl));intro ah hg w3 hbox hb;have af:=q_ (hbox);have bq:=q_ ((by rw [hg];exact bz_:w.heap.size≤ah));have bu:=q_ ((by rw [hg];exact bz_:w.heap.size≤ah));replace HB:=q_ (bs_ hb);clear hb hbox hg))
 (try simp only [Act.put,List.setIfInBounds_toArray,List.set_cons_zero,List.set_cons_succ])
 go_cut [16] (fun v16 wc=> ∃(kq:Nat) (au:Bool),v16= .bool au∧Aside0 (spec_l01Is.j0 kq au ae aa=some r)∧Aside0 (kq≤k)∧Aside0 (wc.heap[ah]?=some (.cells #[(.slice ai ae.length aj),(.slice ak aa.length aq)] 30 (0,0)))∧Aside0 (Below w.heap.size w wc))
 case first=>
  have H:=HC2.out
  clear HC2
  replace H:=Option.bind_eq_some_iff.mp H
  obtain⟨av,A40,H⟩:=H
  replace H:(if av=true then(spec_l01Is.j0 k ((aa.length:Int) !=(ae.length:Int)) ae aa) else(spec_l01Is.j0 k true ae aa))=some r:=H
  have A4:=q_ A40
  clear A40
  by_cases c5:av=true
  ·subst c5
   have H1:(spec_l01Is.j0 k ((aa.length:Int) !=(ae.length:Int)) ae aa)=some r:=by rw [if_pos rfl] at H;exact H
   clear H
   have H:=H1
   clear H1
   have H':=q_ H
   clear H
   have ay:w3.cell? ⟨ah,0,none⟩=some (.slice ai ae.length aj):=(blk_cell af.out 0).trans rfl
   have az:w3.cell? ⟨ah,1,none⟩=some (.slice ak aa.length aq):=(blk_cell af.out 1).trans rfl
   have aA:=blk_frozen af.out 0
   have aC:=blk_frozen af.out 1
   go_wp2_with (first | ((with_reducible refine gate_callee (f:=167) rfl ?_);refine gL_ 6 Try.func167 #[.slice ai ae.length aj] ?_;(with_reducible refine(spec_l01Matrix.calls k _ _ ae true _ ?aw ?ax A4.out).mono ?_);(case aw=>exact cb_ HR0_0.out HB.out);(case ax=>exact HC0_0.out);rintro e w' ⟨rfl,⟨nd,rfl⟩⟩;refine⟨_,rfl,?_⟩))
   go_meet
   case rel=>exact⟨_,(((aa.length:Int) !=(ae.length:Int))),rs_,H',⟨by first | omega | exact Nat.le_refl _⟩,⟨bk_⟩,⟨hb_⟩⟩
  ·replace c5:=Bool.eq_false_iff.mpr c5
   subst c5
   have H1:(spec_l01Is.j0 k true ae aa)=some r:=by rw [if_neg (show ¬ (false=true) by decide)] at H;exact H
   clear H
   have H:=H1
   clear H1
   have H':=q_ H
   clear H
   have aD:w3.cell? ⟨ah,0,none⟩=some (.slice ai ae.length aj):=(blk_cell af.out 0).trans rfl
   have aG:w3.cell? ⟨ah,1,none⟩=some (.slice ak aa.length aq):=(blk_cell af.out 1).trans rfl
   have aH:=blk_frozen af.out 0
   have aI:=blk_frozen af.out 1
   go_wp2_with (first | ((with_reducible refine gate_callee (f:=167) rfl ?_);refine gL_ 6 Try.func167 #[.slice ai ae.length aj] ?_;(with_reducible refine(spec_l01Matrix.calls k _ _ ae false _ ?aw ?ax A4.out).mono ?_);(case aw=>exact cb_ HR0_0.out HB.out);(case ax=>exact HC0_0.out);rintro e w' ⟨rfl,⟨nd,rfl⟩⟩;refine⟨_,rfl,?_⟩))
   go_meet
   case rel=>exact⟨_,(true),rs_,H',⟨by first | omega | exact Nat.le_refl _⟩,⟨bk_⟩,⟨hb_⟩⟩
 case rest=>
  clear HC2
  try clear c1
  try clear p2
  try clear c5
  try clear ay
  try clear az
  try clear aD
  try clear aG
  try clear aA
  try clear aC
  try clear aH
  try clear aI
  obtain⟨kq,au,rfl,HA,HJ1,af,HB⟩:=hcut
  cases kq with
  | zero=>exact absurd HA.out (by simp [spec_l01Is.j0])
  | succ kj1=>
   have H:=HA.out
   clear HA
   simp only [spec_l01Is.j0] at H
   by_cases c8:au=true
   ·subst c8
    have H1:(some false)=some r:=by rw [if_pos rfl] at H;exact H
    clear H
    have H:=H1
    clear H1
    obtain rfl:=Option.some.inj H
    go_wp2
    go_ret
    exact⟨by first | rfl | (simp [errW_none,errW_some] <;> rfl) | (simp [*,errW_none,errW_some] <;> rfl),hb_⟩
   ·replace c8:=Bool.eq_false_iff.mpr c8
    subst c8
    have H1:(spec_l01Is.l0 kj1 0 ae aa)=some r:=by rw [if_neg (show ¬ (false=true) by decide)] at H;exact H
    clear H
    have H:=H1
    clear H1
    have H':=q_ H
    clear H
    go_wp2
    go_loopg [3] kj1 (fun kq v3 w'=> ∃(ag:Int),v3= .int .i64 ag∧Aside0 (spec_l01Is.l0 kq ag ae aa=some r)∧Aside0 (kq≤kj1)∧Aside0 (w'.heap[ah]?=some (.cells #[(.slice ai ae.length aj),(.slice ak aa.length aq)] 30 (0,0)))∧Aside0 (Below w.heap.size w w'))
    case atStart=>exact⟨(0),rs_,H',⟨Nat.le_refl _⟩,⟨bk_⟩,⟨hb_⟩⟩
    case round=>
     clear H'
     try clear c1
     try clear p2
     try clear c5
     try clear c8
     try clear ay
     try clear az
     try clear aD
     try clear aG
     try clear aA
     try clear aC
     try clear aH
     try clear aI
     try clear p2
     obtain⟨ag,rfl,HA,HK2,af,HB⟩:=hrel
     cases gk with
     | zero=>exact absurd HA.out (by simp [spec_l01Is.l0])
     | succ k2=>
      have H:=HA.out
      clear HA
      simp only [spec_l01Is.l0] at H
      by_cases c9:ag < (aa.length:Int)
      ·rw [if_pos c9] at H
       have c9b0:decide (ag < (aa.length:Int))=true:=decide_eq_true c9
       clear c9
       by_cases c10:0≤ag
       ·rw [if_pos c10] at H
        have c10b0:decide (0≤ag)=true:=decide_eq_true c10
        clear c10
        replace H:=Option.bind_eq_some_iff.mp H
        obtain⟨aT,A110,H⟩:=H
        replace H:(if aT=true then(spec_l01Is.l0 k2 (wrap64 (ag+1)) ae aa) else(some false))=some r:=H
        have A11:=q_ A110
        clear A110
        by_cases c12:aT=true
        ·subst c12
         have H1:(spec_l01Is.l0 k2 (wrap64 (ag+1)) ae aa)=some r:=by rw [if_pos rfl] at H;exact H
         clear H
         have H:=H1
         clear H1
         have H':=q_ H
         clear H
         have aV:wr.cell? ⟨ah,0,none⟩=some (.slice ai ae.length aj):=(blk_cell af.out 0).trans rfl
         have aW:wr.cell? ⟨ah,1,none⟩=some (.slice ak aa.length aq):=(blk_cell af.out 1).trans rfl
         have aX:=blk_frozen af.out 0
         have aY:=blk_frozen af.out 1
         have p161:0≤(ag:Int):=od_
         have q161:ag < (aa.length:Int):=od_
         obtain⟨aU,e161,hx161_0⟩:=Kd.at_int HR0_1.out ag p161 q161
         cases e161
         replace hx161_0:=(HB.out.cell (World.block_lt_of_cell? w _ hx161_0)).trans hx161_0
         replace p161:=eq_true p161
         replace q161:=eq_true q161
         go_wp2_with (first | ((with_reducible refine gate_callee (f:=119) rfl ?_);refine gL_ 29 Try.func119 #[.int .i64 (rd aa ag), .int .i64 (-100), .int .i64 100] ?_;(with_reducible refine(spec_l01In.calls (rd aa ag) (-100) 100 true _ A11.out).mono ?_);rintro e w' ⟨rfl,⟨nd,rfl⟩⟩;refine⟨_,rfl,?_⟩))
         go_roundg k2
         case measure=>have:=HJ1.out;have:=HK2.out;omega
         case rel=>exact⟨(wrap64 (ag+1)),rs_,H',⟨by have:=HJ1.out;have:=HK2.out;omega⟩,⟨bk_⟩,⟨hb_⟩⟩
        ·replace c12:=Bool.eq_false_iff.mpr c12
         subst c12
         have H1:(some false)=some r:=by rw [if_neg (show ¬ (false=true) by decide)] at H;exact H
         clear H
         have H:=H1
         clear H1
         obtain rfl:=Option.some.inj H
         have aZ:wr.cell? ⟨ah,0,none⟩=some (.slice ai ae.length aj):=(blk_cell af.out 0).trans rfl
         have a9:wr.cell? ⟨ah,1,none⟩=some (.slice ak aa.length aq):=(blk_cell af.out 1).trans rfl
         have ba:=blk_frozen af.out 0
         have bg:=blk_frozen af.out 1
         have p161:0≤(ag:Int):=od_
         have q161:ag < (aa.length:Int):=od_
         obtain⟨aU,e161,hx161_0⟩:=Kd.at_int HR0_1.out ag p161 q161
         cases e161
         replace hx161_0:=(HB.out.cell (World.block_lt_of_cell? w _ hx161_0)).trans hx161_0
         replace p161:=eq_true p161
         replace q161:=eq_true q161
         go_wp2_with (first | ((with_reducible refine gate_callee (f:=119) rfl ?_);refine gL_ 29 Try.func119 #[.int .i64 (rd aa ag), .int .i64 (-100), .int .i64 100] ?_;(with_reducible refine(spec_l01In.calls (rd aa ag) (-100) 100 false _ A11.out).mono ?_);rintro e w' ⟨rfl,⟨nd,rfl⟩⟩;refine⟨_,rfl,?_⟩))
         go_ret
         exact⟨by first | rfl | (simp [errW_none,errW_some] <;> rfl) | (simp [*,errW_none,errW_some] <;> rfl),hb_⟩
       ·rw [if_neg c10] at H
        exact absurd H (by simp)
      ·rw [if_neg c9] at H
       have c9b0:decide (ag < (aa.length:Int))=false:=decide_eq_false c9
       clear c9
       obtain rfl:=Option.some.inj H
       have bh:wr.cell? ⟨ah,0,none⟩=some (.slice ai ae.length aj):=(blk_cell af.out 0).trans rfl
       have bi:wr.cell? ⟨ah,1,none⟩=some (.slice ak aa.length aq):=(blk_cell af.out 1).trans rfl
       have bk:=blk_frozen af.out 0
       have bn:=blk_frozen af.out 1
       go_wp2
       go_ret
       exact⟨by first | rfl | (simp [errW_none,errW_some] <;> rfl) | (simp [*,errW_none,errW_some] <;> rfl),hb_⟩
end Go.Proofs.Ytmpkckiifeikkaa.Pr
end
section
namespace Go.Proofs.Ytmpkckiifeikkaa.Pr
open Go.RowKit Go.Proofs.YtmpkckiifeikkaaW.PrintWords Go.Proofs.YtmpkckiifeikkaaW.PrintLast Go.Proofs.YtmpkckiifeikkaaW.PrintMore
def RowsPred (g:Nat) (lb:Array Value) (p:List Int→Bool) (w:World) (l:List (List Int)):Prop:=
 ∀(W:World) (A:Option Addr) (c:Nat) (x:List Int),x ∈ l→Below w.heap.size w W→x.length≤c→Kd.C (Kd.int .i64) W A x.length x→Calls Try.prog g (#[.slice A x.length c]++lb) W fun e w'=>e= .returned (.bool (p x))∧Below W.heap.size W w'
theorem indexFuncRows (p:List Int→Bool) (g:Nat) (lb:Array Value) (eg: ∀args w,(callFunc g args).run Try.prog w= .ok (.enter g args) w) (A:Option Addr) (c:Nat) (l:List (List Int)) (w:World)
  (hr:Kd.C (Kd.slice 2 (Kd.int .i64)) w A l.length l) (hp:RowsPred g lb p w l):
  Calls Try.prog 177 #[.slice A l.length c, .func (.func g) #[] lb] w fun e w'=>e= .returned (.int .i64 (idxP p l 0))∧Below w.heap.size w w':=by
 have HR:=q_ hr
 have HP:=q_ hp
 have hbig:l.length≤9223372036854775807:=hr.2.1
 clear hr hp
 go_enter Try.func177,Try.ntmps177
 go_wp2
 go_loopg [5,8] l.length (fun gg _ s8 wr=> ∃kk:Nat,kk≤l.length∧l.length - kk≤gg∧s8= .int .i64 kk∧Aside0 (Below w.heap.size w wr)∧Aside0 (∀j (hj:j < l.length),j < kk→p l[j]=false))
 case atStart=>exact⟨0,Nat.zero_le _,by omega,rfl,⟨Below.refl _ w⟩,⟨fun j _ hj=>absurd hj (Nat.not_lt_zero _)⟩⟩
 case round=>
  obtain⟨kk,hkk,hg,rfl,BW,F⟩:=hrel
  by_cases hlt:kk < l.length
  ·obtain⟨ad,A',c',e,hx,hc',hi⟩:=at_L1 HR.out kk (by omega) (by omega)
   cases e
   rw [Int.toNat_natCast] at hx
   have hx':=(BW.out.cell (World.block_lt_of_cell? w _ hx)).trans hx
   clear hx
   have hel:rd_L1 l (kk:Int)=l[kk]:=by simp [rd_L1,hlt]
   have hcall:=HP.out wr A' c' l[kk] (List.getElem_mem hlt) BW.out (by rw [← hel];exact hc') (by rw [← hel];exact Kd.C_below hi BW.out)
   rw [hel] at hx' hc' hi
   have HI:=q_ hi
   have HC:=q_ hc'
   clear hi hc' hel
   have hltz:(kk:Int) < (l.length:Int):=by omega
   have h0z:(0:Int)≤(kk:Int):=by omega
   generalize hy:l[kk]=y at hx' hcall HI HC
   have HY:=q_ hy
   clear hy
   cases hq:p y with
   | true=>
    rw [hq] at hcall
    have HQ:=q_ hq
    clear hq
    go_wp2_with fail
    refine hcall.mono ?_
    rintro e w' ⟨rfl,hb'⟩
    clear hcall
    go_wp2
    go_ret
    refine⟨?_,Below.trans BW.out (hb'.mono BW.out.size)⟩
    rw [idxP_hit p l kk hlt F.out (by rw [HY.out];exact HQ.out)]
    rfl
   | false=>
    rw [hq] at hcall
    have HQ:=q_ hq
    clear hq
    go_wp2_with fail
    refine hcall.mono ?_
    rintro e w' ⟨rfl,hb'⟩
    clear hcall
    go_wp2
    go_roundg (l.length - (kk+1))
    case measure=>omega
    case rel=>
     refine⟨kk+1,by omega,by omega,by go_num,⟨Below.trans BW.out (hb'.mono BW.out.size)⟩,⟨fun j hj hjk=>?_⟩⟩
     by_cases e:j=kk
     ·subst e
      rw [HY.out];exact HQ.out
     ·exact F.out j hj (by omega)
  ·have hltz: ¬ (kk:Int) < (l.length:Int):=by omega
   obtain rfl:kk=l.length:=by omega
   go_wp2
   go_ret
   refine⟨?_,BW.out⟩
   rw [idxP_miss p l (fun i hi=>F.out i hi hi)]
   rfl
theorem containsFuncRows (p:List Int→Bool) (g:Nat) (lb:Array Value) (eg: ∀args w,(callFunc g args).run Try.prog w= .ok (.enter g args) w) (A:Option Addr) (c:Nat) (l:List (List Int)) (w:World)
  (hr:Kd.C (Kd.slice 2 (Kd.int .i64)) w A l.length l) (hp:RowsPred g lb p w l):
  Calls Try.prog 195 #[.slice A l.length c, .func (.func g) #[] lb] w fun e w'=>e= .returned (.bool (l.any p))∧Below w.heap.size w w':=by
 rw [← idxP_nonneg p l 0 (Int.le_refl _)]
 have HR:=q_ hr
 have HP:=q_ hp
 clear hr hp
 go_enter Try.func195,Try.ntmps195
 go_wp2_with fail
 refine(indexFuncRows p g lb eg A c l _ HR.out HP.out).mono ?_
 rintro e w' ⟨rfl,hb'⟩
 go_wp2
 go_ret
 exact⟨rfl,hb'⟩
end Go.Proofs.Ytmpkckiifeikkaa.Pr
end
section
namespace Go.Proofs.Ytmpkckiifeikkaa.Pr
open Go.RowKit Go.Proofs.YtmpkckiifeikkaaW.PrintWords Go.Proofs.YtmpkckiifeikkaaW.PrintLast Go.Proofs.YtmpkckiifeikkaaW.PrintMore
def badL (k:Int) (row:List Int):Bool:=(row.length:Int) !=k
theorem isSquare1 (gb:Nat) (k:Int) (A:Option Addr) (c:Nat) (x:List Int) (w:World) (hb:w.cell? ⟨gb,0,none⟩=some (.int .i64 k)):
  Calls Try.prog 209 (#[.slice A x.length c]++ #[.pointer (some ⟨gb,0,none⟩)]) w fun e w'=>e= .returned (.bool (badL k x))∧Below w.heap.size w w':=by
 unfold badL
 show Calls Try.prog 209 #[.slice A x.length c, .pointer (some ⟨gb,0,none⟩)] w _
 by_cases e:(x.length:Int)=k
 ·have h1:((x.length:Int) !=k)=false:=by simp [e]
  have h2:((x.length:Int)==k)=true:=by simp [e]
  clear e
  go_enter Try.func209,Try.ntmps209
  go_wp2
  go_ret
  exact⟨by rw [h1];rfl,Below.refl _ _⟩
 ·have h1:((x.length:Int) !=k)=true:=by simp [e]
  have h2:((x.length:Int)==k)=false:=by simp [e]
  clear e
  go_enter Try.func209,Try.ntmps209
  go_wp2
  go_ret
  exact⟨by rw [h1];rfl,Below.refl _ _⟩
theorem isSquare1_enters: ∀args w,(callFunc 209 args).run Try.prog w= .ok (.enter 209 args) w:=enters_fn Try.func209 (by kernel_rfl) rfl
def impl_isSquare.f (l0:List (List Int)) (a1:Int):Option Bool:=some (((l0.length:Int)==a1) && !(l0.any (badL a1)))
theorem impl_isSquare.calls (A0:Option Addr) (c0:Nat) (l0:List (List Int)) (a1:Int) (r:Bool) (w:World) (hr0:Kd.C (Kd.slice 2 (Kd.int .i64)) w A0 l0.length l0) (hc0:l0.length≤c0) (h:impl_isSquare.f l0 a1=some r):
  Calls Try.prog 194 #[.slice A0 l0.length c0, .int .i64 a1] w fun e w'=>e= .returned (.bool r)∧Below w.heap.size w w':=by
 have HR:=q_ hr0
 clear hr0 hc0
 have hv:=(Option.some.inj h)
 clear h
 by_cases e:(l0.length:Int)=a1
 ·have h1:((l0.length:Int)==a1)=true:=by simp [e]
  rw [h1,Bool.true_and] at hv
  have HV:=q_ hv
  clear hv e
  have hcall:=fun(gb:Nat) W (hW:Below w.heap.size w W) (hgb:gb < W.heap.size) (hcell:W.cell? ⟨gb,0,none⟩=some (.int .i64 a1))=>
   containsFuncRows (badL a1) 209 #[.pointer (some ⟨gb,0,none⟩)] isSquare1_enters A0 c0 l0 W (Kd.C_below HR.out hW)
    (fun W' A c x _ hb _ hC=>isSquare1 gb a1 A c x W' ((hb.cell (p:=⟨gb,0,none⟩) hgb).trans hcell))
  have HC:=q_ hcall
  clear hcall
  generalize l0.any (badL a1)=b at HC HV
  go_enter Try.func194,Try.ntmps194
  go_wp2_with fail
  refine(HC.out _ _ ((Below.refl _ _).alloc (Nat.le_refl _) _) (by simp) (by simp)).mono ?_
  rintro e w' ⟨rfl,hb'⟩
  go_wp2
  go_ret
  exact⟨by rw [← HV.out];rfl,((Below.refl _ _).alloc (Nat.le_refl _) _).trans (hb'.mono (by simp))⟩
 ·have h1:((l0.length:Int)==a1)=false:=by simp [e]
  rw [h1,Bool.false_and] at hv
  have HV:=q_ hv
  clear hv e
  go_enter Try.func194,Try.ntmps194
  go_wp2
  go_ret
  exact⟨by rw [← HV.out];rfl,(Below.refl _ _).alloc (Nat.le_refl _) _⟩
end Go.Proofs.Ytmpkckiifeikkaa.Pr
end
