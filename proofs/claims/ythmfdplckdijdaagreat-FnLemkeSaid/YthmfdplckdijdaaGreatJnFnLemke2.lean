/- Texts of one claim (the words of the kit's print that the claim uses, printed functions, and this session's own texts), joined in the order of their imports by this session's own program (merge.py). -/
import Derived.WalkLawsBesides
import Derived.Test.YthmfdplckdijdaaGreatJnFnLemke0
import Derived.Test.YthmfdplckdijdaaGreatJnFnLemke1
set_option linter.unusedVariables false
set_option linter.unusedSimpArgs false
set_option maxHeartbeats 8000000
set_option maxRecDepth 100000
section
namespace Go.Proofs.YthmfdplckdijdaaGreat.Lq
open Go.RowKit Wz.cw Wz.fX Wz.cX Pr Ma Dt Lk Lt
theorem amV (A:Option Addr) (c:Nat) (cv:List Int) (p4 i:Nat) (hi:i < cv.length) (w:World) (h4:w.cell? ⟨p4,0,none⟩=some (.slice A cv.length c)) (hC:Kd.C (Kd.int .i64) w A cv.length cv):
  Calls Tryz.prog 124 (#[.int .i64 (i:Int)]++ #[.pointer (some ⟨p4,0,none⟩)]) w fun e w'=>e= .returned (.int .i64 (cv.getD i 0))∧Below w.heap.size w w':=by
 show Calls Tryz.prog 124 #[.int .i64 (i:Int), .pointer (some ⟨p4,0,none⟩)] w _
 obtain⟨ad,eA,hx⟩:=Kd.mA hC (i:Int) (by omega) (by omega);subst eA;rw [Int.toNat_natCast,rT] at hx;have hiz:(i:Int) < (cv.length:Int):=by omega
 have h0z:(0:Int)≤(i:Int):=by omega
 generalize cv.getD i 0=x at hx ⊢
 generalize cv.length=l at*
 clear hC hi
 go_enter Tryz.func124,Tryz.ntmps124
 go_wp2
 go_ret
 exact⟨rfl,Below.refl _ _⟩
theorem XJ: ∀args w,(callFunc 124 args).run Tryz.prog w= .ok (.enter 124 args) w:=vB Tryz.func124 (by kernel_rfl) rfl
theorem IY {α:Type} {d:Kd α} {e base g t:Nat} {ok:Nat→Prop} {W w1:World} {u:Value} {xs:List α} {cs:Array Value} (h:Kd.S d e W base ok u xs) (hg:W.heap[g]?=some (.cells cs t (0,0))) (ht: ∀q,q ∈ e::d.E→q≠t) (hs: ∀k,k≠g→w1.heap[k]?=W.heap[k]?):Kd.S d e w1 base ok u xs:=
 Kd.mB (Kd.zP (Kd.xw h) (fun k hk hlt=>hs k (fun e1=>by
  obtain⟨_,_,_,q,hq,cells,hc⟩:=hk
  rw [e1,hg] at hc
  injection hc with h1
  injection h1 with _ h2 _
  exact ht q hq h2.symm))) (fun _ hk=>hk.1)
theorem alA {α:Type} {d:Kd α} {e lo hi:Nat} {ok:Nat→Prop} {W w1:World} {u:Value} {xs:List α} (h:Kd.S d e W hi ok u xs) (F:Out W w1 lo hi):Kd.S d e w1 hi ok u xs:=
 Kd.mB (Kd.zP (Kd.xw h) (fun k hk hlt=>F.same k hlt (.inr hk.2.1))) (fun _ hk=>hk.1)
theorem hset (w:World) (g j:Nat) (v:Value): ∀k,k≠g→(w.setCell ⟨g,j,none⟩ v).heap[k]?=w.heap[k]?:=fun k hk=>Below.heap_setCell w ⟨g,j,none⟩ v k (by simp;exact hk)
def goN (n m q:Nat) (s:TS) (v:Nat) (st:List (List Int)):Option Nat→TS × List (List Int) × Bool × Int × Int
 | none=>(s,st,false,(v:Int),0)
 | some r=>goI n m q s v r st
theorem agm {α:Type} {d:Kd α} {e base N:Nat} {W:World} {u:Value} {xs:List α} (h:Kd.S d e W base (fun k=>k < N) u xs): ∀k,u.ownBlock=some k→k < N:=by
 obtain⟨f,h⟩:=h
 exact fun k hk=>h.1 k hk
theorem sP {α:Type} {d:Kd α} {e base g t:Nat} {ok:Nat→Prop} {W:World} {u:Value} {xs:List α} {cs:Array Value} (h:Kd.S d e W base ok u xs) (hg:W.heap[g]?=some (.cells cs t (0,0))) (ht:e≠t):some g≠u.ownBlock:=by
 obtain⟨f,h⟩:=h
 exact Kd.pJ h hg ht
theorem Out.hi {w w':World} {b:Nat} (h:Below b w w'):Out w w' b w.heap.size:=⟨h.os,h.tape,h.output,h.size,fun k hk hn=>h.block k (by omega)⟩
def P8 (w0 w':World) (p n m:Nat) (s:TS) (st:List (List Int)) (solved:Bool) (pU code:Int):Prop:=
 ∃lo hi t u1,w0.heap.size≤lo∧lo≤hi∧hi≤p∧TmE w' lo hi t n m s∧w'.heap[p]?=some (.cells #[.pointer (some ⟨t,0,none⟩),u1, .bool solved, .int .i64 pU, .int .i64 code] 99 (0,0))∧Kd.S (Kd.slice 2 (Kd.int .i64)) 24 w' hi (fun _=>True) u1 st
theorem Rj (A0:Option Addr) (c0:Nat) (M:List (List Int)) (A1:Option Addr) (c1:Nat) (Q:List Int) (A2:Option Addr) (c2:Nat) (cv:List Int) (most:Nat) (w:World) (n:Nat)
  (hC0:Kd.C (Kd.slice 2 (Kd.int .i64)) w A0 M.length M) (hC1:Kd.C (Kd.int .i64) w A1 Q.length Q) (hC2:Kd.C (Kd.int .i64) w A2 cv.length cv) (hc0:M.length≤c0) (hc1:Q.length≤c1) (hc2:cv.length≤c2) (hM:M.length=n) (hQ:Q.length=n) (hr: ∀x ∈ M,x.length=n) (hn:0 < n) (hn2:n≤5) (hcv:cv.length=n)
  (hMb: ∀i k,i < n→k < n→((m9 M) i k).natAbs≤20) (hcb: ∀i,i < n→0 < cv.getD i 0∧cv.getD i 0≤20) (hqb: ∀i,i < n→(Q.getD i 0).natAbs≤100)
  (R:TS × List (List Int) × Bool × Int × Int) (hR:zU n (m9 M) (fun i=>cv.getD i 0) (fun i=>Q.getD i 0) most=R):
  Calls Tryz.prog 76 #[.agg #[.slice A0 M.length c0, .slice A1 Q.length c1], .slice A2 cv.length c2, .int .i64 (most:Int)] w fun e w'=> ∃p,e= .returned (.pointer (some ⟨p,0,none⟩))∧P8 w w' p n (2*n+2) R.1 R.2.1 R.2.2.1 R.2.2.2.1 R.2.2.2.2∧Below w.heap.size w w':=by
 have HB:=q_ (Below.refl w.heap.size w);have uG:=q_ hC0;have qy:=q_ hC1;have wv:=q_ hC2;have aoB:=q_ hc1;have HM:=q_ hM;have HQ:=q_ hQ;have HR:=q_ hr;have HN:=q_ hn;have uo:=q_ hn2;have AE:=q_ hcv;have HMB:=q_ hMb;have HCB:=q_ hcb;have HQB:=q_ hqb;have Dk:=q_ hR;have W6:=q_ (pY (n:=n) (M:=m9 M) (cv:=fun i=>cv.getD i 0) (q:=fun i=>Q.getD i 0) hMb (fun i hi=>by have:=hcb i hi;omega) hqb);clear hMb hcb hqb hR hC0 hC1 hC2 hM hQ hr hn hn2 hcv hc0 hc1 hc2
 go_enter Tryz.func76,Tryz.ntmps76
 go_wp2_with (first | ((with_reducible refine dg (N:=3) rfl ?_);refine nR 3 #[.slice A0 M.length c0, .slice A1 Q.length c1] 34 ?_;intro g3 hg w3 cM hb;replace HB:=q_ (eE HB.out hb);have B3:=q_ cM;clear hb cM hg) | ((with_reducible refine dg (N:=4) rfl ?_);refine nR 4 #[.slice A2 cv.length c2] 24 ?_;intro g4 hg w4 cM hb;replace HB:=q_ (eE HB.out hb);replace B3:=q_ (ke B3.out hb);have B4:=q_ cM;clear hb cM hg))
 replace HB:=q_ (eE HB.out (mH (Below.refl w4.heap.size w4)));replace B3:=q_ (ke B3.out (mH (Below.refl w4.heap.size w4)));replace B4:=q_ (ke B4.out (mH (Below.refl w4.heap.size w4)));refine qx (n:=9) (S:=fun w'=>w'.cell? ⟨g3,0,none⟩=some (.slice A0 M.length c0)∧w'.cell? ⟨g3,1,none⟩=some (.slice A1 Q.length c1)∧w'.cell? ⟨g4,0,none⟩=some (.slice A2 cv.length c2)) (ds:= []) ⟨lS B3 0,lS B3 1,lS B4 0⟩ (fun hHeld=>?_)
 generalize w4.drew=w5 at HB B3 B4 hHeld ⊢
 refine mg 0 11 ?_;refine mg 1 12 ?_;refine lX 3 14 ?_;refine mg 4 15 ?_
 refine pz 2 (some 13) (fun K hK=>?_)
 refine IE Tryz.func122 #[.agg #[.slice A0 M.length c0, .slice A1 Q.length c1], .slice A2 cv.length c2] ?_
 refine(Qn A0 c0 M A1 c1 Q A2 c2 cv w5 n (Kd.nW uG.out HB.out) (Kd.nW qy.out HB.out) (Kd.nW wv.out HB.out) HM.out HQ.out HR.out HN.out (by have:=uo.out;omega) (.inr AE.out) (2*n+2) (by rw [if_neg (by have:=AE.out;have:=HN.out;omega)])).mono ?_
 rintro e w6 ⟨t,rfl,hT,hb⟩;refine⟨_,rfl,?_⟩
 have Ht:aE (w.heap.size≤w5.heap.size):=⟨HB.out.size⟩
 have I5:aE (w5.heap.size≤w6.heap.size):=⟨hb.size⟩
 obtain⟨g,gb,cg,cb,b,cp,hT⟩:=hT;have HT:=q_ hT;have HHI:=q_ (Nat.le_refl w6.heap.size);replace HB:=q_ (eE HB.out hb);replace B3:=q_ (ke B3.out hb);replace B4:=q_ (ke B4.out hb);clear hT hb hHeld;refine hK.out _ _ ⟨lS B3 0,lS B3 1,lS B4 0⟩ (fun hHeld=>?_)
 clear hK K;refine AU ?_
 obtain⟨fz,hfz⟩: ∃fz,(!(Q.any QU))=fz:=⟨_,rfl⟩
 have HFZ:=q_ hfz;clear hfz;refine pz 5 (some 16) (fun K hK=>?_)
 refine IE Tryz.func57 #[.slice A1 Q.length c1] ?_
 refine(yN.calls A1 c1 Q fz w6 (Kd.nW qy.out HB.out) aoB.out (by unfold yN.f;rw [HFZ.out])).mono ?_
 rintro e w7 ⟨rfl,hb⟩;refine⟨_,rfl,?_⟩
 replace HB:=q_ (eE HB.out hb);replace B3:=q_ (ke B3.out hb);replace B4:=q_ (ke B4.out hb);replace HT:=q_ (HT.out.tT hb);replace HHI:=q_ (Nat.le_trans HHI.out hb.size);clear hb hHeld;refine hK.out _ _ ⟨lS B3 0,lS B3 1,lS B4 0⟩ (fun hHeld=>?_)
 clear hK K;refine AU ?_
 refine lX 6 17 ?_
 refine pz 7 (some 18) (fun K hK=>?_)
 refine rP (by rfl) (N:=18) rfl (cs:= #[.pointer (some ⟨t,0,none⟩), .slice none 0 0, .bool fz, .int .i64 0, .int .i64 0]) (t:=99) (by first | (go_simp;done) | (go_simp;rfl)) ?_
 intro g7 hg w8 cM hb;have yF:aE (w6.heap.size≤g7):=⟨by rw [hg];exact HHI.out⟩
 have B7:=q_ cM;replace HB:=q_ (eE HB.out hb);replace B3:=q_ (ke B3.out hb);replace B4:=q_ (ke B4.out hb);replace HT:=q_ (HT.out.tT hb);clear hb hHeld cM hg HHI;refine hK.out _ _ ⟨lS B3 0,lS B3 1,lS B4 0⟩ (fun hHeld=>?_)
 clear hK K;refine JD 18 ?_
 refine lX 8 7 ?_
 refine oA (by kernel_rfl) ?_
 generalize w5.heap.size=lo at*
 generalize w6.heap.size=hi at*
 replace HT:=q_ (HT.out.congr (s':=first n (m9 M) (fun i=>cv.getD i 0) (fun i=>Q.getD i 0)) (fun i j hi hj=>DY (by have:=AE.out;have:=HN.out;omega) HMB.out (fun i hi=>by have:=HCB.out i hi;omega) i j hi hj) rfl rfl);have xD:=q_ (wF (n:=n) (M:=m9 M) (cv:=fun i=>cv.getD i 0) (q:=fun i=>Q.getD i 0));obtain⟨s0,hs0⟩: ∃s0:TS,first n (m9 M) (fun i=>cv.getD i 0) (fun i=>Q.getD i 0)=s0:=⟨_,rfl⟩
 rw [hs0] at HT xD;have HS0:=q_ hs0;clear hs0 hHeld B3;have Vx:=uo.out;have hw2:wrap64 (2*(n:Int))=2*(n:Int):=nH (by omega) (by omega);have Zc:=q_ hw2;clear Vx hw2;go_wp2
 replace HB:=q_ (eE HB.out (mH (Below.refl w8.heap.size w8)));replace B7:=q_ (ke B7.out (mH (Below.refl w8.heap.size w8)));replace B4:=q_ (ke B4.out (mH (Below.refl w8.heap.size w8)));replace HT:=q_ (HT.out.tT (mH (Below.refl w8.heap.size w8)));refine qx (n:=16) (S:=fun w'=>w'.cell? ⟨g7,0,none⟩=some (.pointer (some ⟨t,0,none⟩))∧w'.cell? ⟨t,3,none⟩=some (.int .i64 (n:Int))) (ds:= []) ⟨lS B7 0,HT.out.h3⟩ (fun hHeld=>?_)
 generalize w8.drew=w9 at HB B7 B4 HT hHeld ⊢
 have hw2:=Zc.out;refine rm 0 19 1 20 2 21 ?_;refine mg 3 22 ?_;refine sU 4 23 5 24 ?_;refine mg 6 25 ?_;refine sB 7 26 8 27 9 28 10 29 ?_;refine mg 11 30 ?_;refine lX 12 31 ?_
 refine pz 13 (some 32) (fun K hK=>?_)
 refine IE Tryz.func123 #[.pointer (some ⟨t,0,none⟩), .func (.func 124) #[] #[.pointer (some ⟨g4,0,none⟩)]] ?_
 obtain⟨o0,ho0⟩: ∃o,AK s0.T n (2*n+2) (fun i=>cv.getD i 0) n=o:=⟨_,rfl⟩
 have aa:=q_ ho0;refine(JG HT.out 124 #[.pointer (some ⟨g4,0,none⟩)] (fun i=>cv.getD i 0) XJ (fun W i hi hb=>amV A2 c2 cv g4 i (by rw [AE.out];exact hi) W ((bp (ke B4.out hb) 0).trans rfl) (Kd.nW wv.out (eE HB.out hb))) (by have:=uo.out;omega) (by omega) (by have:=uo.out;omega)).mono ?_
 rw [ho0];clear ho0;rintro e tE ⟨rfl,hb⟩;refine⟨_,rfl,?_⟩
 replace HB:=q_ (eE HB.out hb);replace B7:=q_ (ke B7.out hb);replace HT:=q_ (HT.out.tT hb);clear hb hHeld B4;refine hK.out _ _ ⟨lS B7 0,HT.out.h3⟩ (fun hHeld=>?_)
 clear hK K;refine AU ?_
 refine sU 14 8 15 9 ?_
 refine oA (by kernel_rfl) ?_
 clear hHeld hw2;have HFE:=q_ ((ahC (n:=n) HQ.out).trans HFZ.out);have Jh:=uo.out;cases fz with
 | true=>
  have Bl:aE (R=(s0, [],true,0,0)):=⟨by rw [← Dk.out];unfold zU;rw [if_pos HFE.out,HS0.out]⟩
  clear Dk Jh;go_wp2
  go_loopg [8,9] 0 (fun gg _ _ wr=>aE (Below w.heap.size w wr)∧aE (Tm wr lo hi t g gb n (2*n+2) cg cb b cp s0)∧aE (wr.heap[g7]?=some (.cells #[.pointer (some ⟨t,0,none⟩), .slice none 0 0, .bool true, .int .i64 0, .int .i64 0] 99 (0,0))))
  case atStart=>exact⟨HB,HT,B7⟩
  case round=>
   clear HB HT B7;obtain⟨HB,HT,B7⟩:=hrel;have hc1:=lS B7 1;have hc2:=lS B7 2;go_wp2
   go_ret
   refine⟨_,rfl,?_,HB.out⟩
   rw [Bl.out];exact⟨lo,hi,t,_,Ht.out,I5.out,yF.out,⟨g,gb,cg,cb,b,cp,HT.out⟩,B7.out,Kd.sJ _ _ _ _ _⟩
 | false=>
  obtain⟨r0,hr0⟩: ∃r0,qC n (2*n+2) s0 (fun i=>cv.getD i 0)=some r0:=by
   cases hq:qC n (2*n+2) s0 (fun i=>cv.getD i 0) with
   | none=>
    have h1:=yX hq 0 HN.out;have h2:=(HCB.out 0 HN.out).1;exact absurd h1 (by show ¬ cv.getD 0 0≤0;omega)
   | some r=>exact⟨r,rfl⟩
  have hrj:AK s0.T n (2*n+2) (fun i=>cv.getD i 0) n=some r0:=(Yg (fun i hi=>by have:=HCB.out i hi;exact⟨by show -1920000000≤cv.getD i 0;omega,by show cv.getD i 0≤1920000000;omega⟩) (fun a c ha hc=>xD.out.abs uo.out W6.out ha hc) (by omega)).trans hr0;have qE:=q_ (tY hr0);have Bl:aE (goI n (2*n+2) most s0 (2*n) r0 []=R):=⟨by rw [← Dk.out];unfold zU;rw [if_neg (by rw [HFE.out];decide),HS0.out,hr0]⟩
  have HT0:aE (s0.T r0 (2*n)≠0):=⟨by
   rw [← HS0.out]
   show nD n (m9 M) (fun i=>cv.getD i 0) (fun i=>Q.getD i 0) r0 (2*n)≠0
   unfold nD;rw [if_neg (by omega),if_neg (by omega),if_pos rfl];have h2:=qE.out.2
   show - cv.getD r0 0≠0
   have h3:0 < cv.getD r0 0:=h2
   omega⟩
  obtain rfl:o0=some r0:=by rw [← aa.out];exact hrj
  clear hr0 hrj Dk Jh;simp only [KY,Zc.out];go_wp2
  go_loopg [8,9] most (fun gg v8 v9 wr=> ∃(v r:Nat) (s:TS) (st:List (List Int)) (u1:Value),v8= .int .i64 (v:Int)∧v9= .int .i64 (r:Int)∧aE (st.length≤most∧st.length≤200∧most - st.length≤gg∧v+1 < 2*n+2∧r < n∧s.T r v≠0)∧aE (Ok n (2*n+2) (nD n (m9 M) (fun i=>cv.getD i 0) (fun i=>Q.getD i 0)) s)∧aE (goI n (2*n+2) (most - st.length) s v r st=R)∧aE (Below w.heap.size w wr)∧aE (Tm wr lo hi t g gb n (2*n+2) cg cb b cp s)∧aE (wr.heap[g7]?=some (.cells #[.pointer (some ⟨t,0,none⟩),u1, .bool false, .int .i64 0, .int .i64 0] 99 (0,0)))∧aE (Kd.S (Kd.slice 2 (Kd.int .i64)) 24 wr hi (fun _=>True) u1 st))
  case atStart=>exact⟨2*n,r0,s0, [], .slice none 0 0,by first | rfl | simp,rfl,⟨by simp,by simp,by simp,by omega,qE.out.1,HT0.out⟩,xD,⟨Bl.out⟩,HB,HT,B7,⟨Kd.sJ _ _ _ _ _⟩⟩
  case round=>
   clear HB HT B7 xD Bl HT0 qE;obtain⟨v,r,s,st,u1,rfl,rfl,HA,xD,Bl,HB,HT,B7,HS⟩:=hrel;obtain⟨As,cs,rfl⟩:=Kd.nk HS.out;have hc1:=lS B7 1;have hc2:=lS B7 2
   by_cases hlm:st.length < most
   ·have hlz:(st.length:Int) < (most:Int):=by omega
    obtain⟨q,hq⟩: ∃q,most - st.length=q+1:=⟨most - st.length - 1,by omega⟩
    have hre:=Bl.out;rw [hq] at hre;have QY:=q_ hre;have HQ1:=q_ hq;clear hre hq hlm Bl
    by_cases Z9:st.length=200
    ·have h2z:((st.length:Int)==200)=true:=by rw [Z9];rfl
     have aow:aE ((s,st,false,0,3)=R):=⟨by rw [← QY.out];unfold goI;rw [if_pos Z9]⟩
     have hs4:=lS B7 4;have asA:=gE B7.out 4;clear Z9 QY;go_wp2
     go_ret
     refine⟨_,rfl,?_,HB.out.setCell (Nat.le_trans Ht.out (Nat.le_trans I5.out yF.out)) _⟩
     rw [← aow.out];exact⟨lo,hi,t,_,Ht.out,I5.out,yF.out,⟨g,gb,cg,cb,b,cp,HT.out.mv (Out.set _ (a:=g7) (b:=g7+1) _ _ ⟨Nat.le_refl _,Nat.lt_succ_self _⟩) (.inl yF.out)⟩,mD B7.out 4 _ rfl,IY HS.out B7.out (by decide) (hset _ _ _ _)⟩
    ·have h2z:((st.length:Int)==200)=false:=by simp;omega
     have h2n: ¬ (st.length:Int)=200:=by omega
     obtain⟨ha1,ha2,ha3,hv,hr,hp⟩:=HA.out;have HV:=q_ hv;have HR:=q_ hr;have HP:=q_ hp;have Zk:aE (st.length < 200):=⟨by omega⟩
     obtain⟨l,hl⟩: ∃l:Nat,s.bs.getD r 0=(l:Int):=⟨(s.bs.getD r 0).toNat,by have:=xD.out.nn r hr;omega⟩
     have HLV:=q_ hl;have hstep:=ZB HT.out v r hr (by omega) (by have:=uo.out;omega) (by have:=uo.out;omega) (by have:=(xD.out.Cx uo.out W6.out).1;omega) (by have:=(xD.out.abs uo.out W6.out hr (show v < 2*n+2 by omega)).1;omega) (by have:=(xD.out.abs uo.out W6.out hr (show v < 2*n+2 by omega)).2;omega);rw [hl] at hstep;have agt:=q_ hstep;clear hstep hl ha1 ha2 ha3 hv hr hp Z9;have hc0:=lS B7 0
     go_wp2_with fail
     refine agt.out.mono ?_
     rintro e rB ⟨rfl,hT',hO⟩;replace HT:=q_ hT';replace HB:=q_ (hO.toBelow HB.out Ht.out);replace B7:=q_ (hO.blk B7.out (.inr yF.out));replace HS:=q_ (alA HS.out hO);clear hT' hO agt hc0 hc1 hc2;have Ze:=q_ (Kd.mB (Kd.xw HS.out) (fun k hk=>hk.2.2.1):Kd.S (Kd.slice 2 (Kd.int .i64)) 24 rB hi (fun k=>k < rB.heap.size) (.slice As st.length cs) st);have HHW:aE (hi≤rB.heap.size):=⟨HT.out.size⟩
     have aj0:=q_ (Below.refl rB.heap.size rB);obtain⟨Hl,QE⟩: ∃Hl,st++ [[(v:Int),(l:Int)]]=Hl:=⟨_,rfl⟩
     have aaq:=q_ QE;obtain⟨zb,hzb⟩: ∃zb,((l:Int)==2*(n:Int))=zb:=⟨_,rfl⟩
     have HZB:=q_ hzb;clear HS QE hzb;have hc1:=lS B7 1
     go_wp2_with (first | ((with_reducible refine dg (N:=71) rfl ?_);refine Kd.tu (Kd.int .i64) (w0:=rB) rB.heap.size 2 ?hg (N:=71) ?hd (xs:= [(v:Int),(l:Int)]) (inner:= [.int .i64 (v:Int), .int .i64 (l:Int)]) (ok:=fun k=>rB.heap.size≤k) (oC:=fun k=>rB.heap.size≤k) ?hr ?hp (fun _ hk=>hk) (Nat.le_refl _) (Below.refl _ _) (Nat.le_refl _) (by simp) ?_;(case hd=>rfl);(case hg=>rfl);(case hr=>first | (go_simp;done) | (go_simp;rfl));(case hp=>exact mV.one rfl (mV.one rfl (mV.none _ _)));intro v71 tX hr hb hg_ DW;clear hg_ DW;have afa:=q_ (Kd.ng hr HHW.out);replace HB:=q_ (eE HB.out hb);replace B7:=q_ (ke B7.out hb);replace HT:=q_ (HT.out.tT hb);replace Ze:=q_ (Kd.mQ Ze.out hb);replace aj0:=q_ hb;clear hr hb hc1;obtain⟨A71,c71,e71⟩:=Kd.mE afa.out;subst e71) | ((with_reducible refine nL (b:= .append) (xs:= #[.tmp 68, .tmp 72]) rfl ?_);at_builtin;refine Kd.Af (Kd.slice 2 (Kd.int .i64)) (w0:=tX) hi rfl (.tmp 68) (.tmp 72) 32 24 (.slice none 0 0) 24 rfl Tryz.underlying32 yc rfl (by decide) (by omega) (.slice As st.length cs) st [(v:Int),(l:Int)] [.slice A71 [(v:Int),(l:Int)].length c71] (fun _=>True) (fun k=>rB.heap.size≤k) rfl rfl ?aP ?aQ ?aF ?aO (Below.refl _ _) ?aS ?aL ?_;(case aP=>exact Kd.zT afa.out);(case aQ=>exact fun k hk=>⟨trivial,fun e=>Nat.lt_irrefl _ (Nat.lt_of_lt_of_le (agm Ze.out k e.symm) hk)⟩);(case aF=>exact fun _ _=>trivial);(case aO=>exact Kd.mB Ze.out (fun k hk=>⟨trivial,fun q=>Nat.lt_irrefl _ (Nat.lt_of_lt_of_le hk q)⟩));(case aS=>exact HT.out.size);(case aL=>have:=Zk.out;omega);intro v1 Ah hs hb hg hat;replace B7:=q_ (m8 B7.out hg (sP Ze.out B7.out (by decide)));rw [aaq.out] at hs;have HS:=q_ hs;replace HT:=q_ (HT.out.mv (Out.hi hb) (.inl (Nat.le_refl _)));replace HB:=q_ ((Out.hi hb).toBelow HB.out (Nat.le_trans Ht.out I5.out));clear hs hb hg hat Ze aj0 afa;obtain⟨A9,c9,e9⟩:=Kd.nk HS.out;subst e9;have hc1:=lS B7 1;have am7:=gE B7.out 1;have hc2:=lS B7 2;have aec:=gE B7.out 2;have hcn:=HT.out.h3;have hc0:=lS B7 0;have ang:=(Nat.ne_of_lt (Nat.lt_of_lt_of_le HT.out.tR.2 yF.out));have anf:=(Nat.ne_of_gt (Nat.lt_of_lt_of_le HT.out.tR.2 yF.out));have hw2:=Zc.out;have hzb:=HZB.out))
     ·rename_i hz
      have HZ:=q_ (HZB.out.trans hz)
      go_ret
      have B7a:=q_ (mD B7.out 1 (.slice A9 Hl.length c9) rfl);refine⟨_,rfl,?_,(HB.out.setCell (Nat.le_trans Ht.out (Nat.le_trans I5.out yF.out)) _).setCell (Nat.le_trans Ht.out (Nat.le_trans I5.out yF.out)) _⟩
      have hl2:s.bs.getD r 0=2*(n:Int):=by rw [HLV.out];exact eq_of_beq HZ.out
      rw [← QY.out];unfold goI;rw [if_neg (by have:=Zk.out;omega),if_pos hl2,HLV.out,aaq.out];exact⟨lo,hi,t,_,Ht.out,I5.out,yF.out,⟨g,gb,cg,cb,b,cp,(HT.out.mv (Out.set _ (a:=g7) (b:=g7+1) _ _ ⟨Nat.le_refl _,Nat.lt_succ_self _⟩) (.inl yF.out)).mv (Out.set _ (a:=g7) (b:=g7+1) _ _ ⟨Nat.le_refl _,Nat.lt_succ_self _⟩) (.inl yF.out)⟩,mD B7a.out 2 _ rfl,IY (IY HS.out B7.out (by decide) (hset _ _ _ _)) B7a.out (by decide) (hset _ _ _ _)⟩
     ·have hz:zb=false:=by assumption
      have HZ:=q_ (HZB.out.trans hz);have hl2: ¬ s.bs.getD r 0=2*(n:Int):=by rw [HLV.out];intro e;have:=HZ.out;rw [e] at this;simp at this
      have W8:=q_ hl2;replace HS:=q_ (IY HS.out B7.out (by decide) (hset Ah g7 1 (.slice A9 Hl.length c9)));replace HT:=q_ (HT.out.mv (Out.set Ah (a:=g7) (b:=g7+1) 1 (.slice A9 Hl.length c9) ⟨Nat.le_refl _,Nat.lt_succ_self _⟩) (.inl yF.out));replace HB:=q_ (HB.out.setCell (p:=⟨g7,1,none⟩) (Nat.le_trans Ht.out (Nat.le_trans I5.out yF.out)) (.slice A9 Hl.length c9));replace B7:=q_ (mD B7.out 1 (.slice A9 Hl.length c9) rfl);clear hl2 hz hzb hc0 hc1 hc2 am7 aec hcn ang anf
      generalize Ah.setCell ⟨g7,1,none⟩ (.slice A9 Hl.length c9)=Cg at HT HS HB B7 ⊢
      have hll:l < 2*n:=by have h1:=xD.out.lt r HR.out;have h2:=W8.out;rw [HLV.out] at h1 h2;simp only [Int.toNat_natCast] at h1;omega
      have ai1:partner n l < 2*n:=by unfold partner;split <;> omega
      obtain⟨v2,hv2⟩: ∃v2,partner n l=v2:=⟨_,rfl⟩
      have ae9:aE (v2 < 2*n):=⟨by rw [← hv2];exact ai1⟩
      have HV2:=q_ hv2;clear ai1;refine(RS HT.out l (by have:=uo.out;omega) hll).mono ?_
      rw [hv2];clear hv2 hll;rintro e vu ⟨rfl,hb⟩;replace HB:=q_ (eE HB.out hb);replace B7:=q_ (ke B7.out hb);replace HT:=q_ (HT.out.tT hb);replace HS:=q_ (Kd.mQ HS.out hb);clear hb;have aas:=q_ (xD.out.step uo.out W6.out HR.out HV.out HP.out);obtain⟨s2,hs2⟩: ∃s2,s.step r v=s2:=⟨_,rfl⟩
      rw [hs2] at HT aas;have HS2:=q_ hs2;clear hs2;obtain⟨o,ho⟩: ∃o,AK s2.T n (2*n+2) (fun i=>s2.T i v2) n=o:=⟨_,rfl⟩
      have HO:=q_ ho;clear ho;have HRJ:=q_ ((Yg (s:=s2) (bf:=fun i=>s2.T i v2) (fun i hi=>aas.out.abs uo.out W6.out hi (by have:=ae9.out;omega)) (fun a c ha hc=>aas.out.abs uo.out W6.out ha hc) (by omega)).symm.trans HO.out);have HGO:aE (goN n (2*n+2) q s2 v2 Hl o=R):=⟨by
       rw [← QY.out]
       conv=>rhs;unfold goI
       rw [if_neg (by have:=Zk.out;omega),if_neg W8.out,HLV.out,aaq.out,HS2.out,Int.toNat_natCast,HV2.out];have e:=HRJ.out;rw [e];cases o <;> rfl⟩
      have hc0:=lS B7 0
      go_wp2_with fail
      refine(RY HT.out v2 (by have:=uo.out;omega) (by have:=HN.out;omega) (by have:=uo.out;omega) (by have:=ae9.out;omega)).mono ?_
      rw [HO.out];rintro e Jx ⟨rfl,hb⟩;replace HB:=q_ (eE HB.out hb);replace B7:=q_ (ke B7.out hb);replace HT:=q_ (HT.out.tT hb);replace HS:=q_ (Kd.mQ HS.out hb);clear hb hc0;cases o with
      | none=>
       simp only [KY];have hc3:=lS B7 3;have asE:=gE B7.out 3;go_wp2
       go_ret
       refine⟨_,rfl,?_,HB.out.setCell (Nat.le_trans Ht.out (Nat.le_trans I5.out yF.out)) _⟩
       rw [← HGO.out];exact⟨lo,hi,t,_,Ht.out,I5.out,yF.out,⟨g,gb,cg,cb,b,cp,HT.out.mv (Out.set _ (a:=g7) (b:=g7+1) _ _ ⟨Nat.le_refl _,Nat.lt_succ_self _⟩) (.inl yF.out)⟩,mD B7.out 3 _ rfl,IY HS.out B7.out (by decide) (hset _ _ _ _)⟩
      | some r2=>
       simp only [KY];have asR: ¬ (r2:Int) < 0:=by omega
       have Gh:=q_ (tY HRJ.out);go_wp2
       go_roundg q
       case measure=>have h1:=HA.out.2.2.1;have h2:=HQ1.out;omega
       case rel=>
        have hlen:Hl.length=st.length+1:=by rw [← aaq.out];simp
        have hq:most - Hl.length=q:=by have h2:=HQ1.out;omega
        exact⟨v2,r2,s2,Hl,_,rfl,rfl,⟨by have h2:=HQ1.out;omega,by have h2:=Zk.out;omega,by omega,by have h2:=ae9.out;omega,Gh.out.1,by have h3:=Gh.out.2;omega⟩,aas,⟨by rw [hq];exact HGO.out⟩,HB,HT,B7,HS⟩
   ·have hlz: ¬ (st.length:Int) < (most:Int):=by omega
    have e0:most - st.length=0:=by omega
    have hre:=Bl.out;rw [e0] at hre;have QY:aE ((s,st,false,0,0)=R):=⟨hre⟩
    clear hre Bl hlm;go_wp2
    go_ret
    refine⟨_,rfl,?_,HB.out⟩
    rw [← QY.out];exact⟨lo,hi,t,_,Ht.out,I5.out,yF.out,⟨g,gb,cg,cb,b,cp,HT.out⟩,B7.out,HS.out⟩
theorem P8.mv {w0 w w':World} {p n m:Nat} {s:TS} {st:List (List Int)} {solved:Bool} {pU code:Int} (h:P8 w0 w p n m s st solved pU code) (hb:Below w.heap.size w w'):P8 w0 w' p n m s st solved pU code:=by
 obtain⟨lo,hi,t,u1,h1,h2,h3,⟨g,gb,cg,cb,b,cp,hT⟩,hB,hS⟩:=h
 exact⟨lo,hi,t,u1,h1,h2,h3,⟨g,gb,cg,cb,b,cp,hT.tT hb⟩,ke hB hb,Kd.mQ hS hb⟩
theorem P8.base {w0 w1 w:World} {p n m:Nat} {s:TS} {st:List (List Int)} {solved:Bool} {pU code:Int} (h:P8 w1 w p n m s st solved pU code) (hb:w0.heap.size≤w1.heap.size):P8 w0 w p n m s st solved pU code:=by
 obtain⟨lo,hi,t,u1,h1,h2⟩:=h
 exact⟨lo,hi,t,u1,Nat.le_trans hb h1,h2⟩
end Go.Proofs.YthmfdplckdijdaaGreat.Lq
end
section
namespace Go.Proofs.YthmfdplckdijdaaGreat.Un
open Go.RowKit Wz.cw Wz.cX Ma Dt Bz
theorem VW {n k:Nat} (hk:k < n+1) (A:lE) (h: ∀j,j < n+1→A k j=if j=k then 1 else 0):lY (n+1) A=lY n (fun i j=>A (up k i) (up k j)):=by
 have e1:lY (n+1) A=lY (n+1) (mv k k (A k) A):=mX (fun i j _ _=>by
  unfold mv up
  by_cases c:i < k
  ·simp [c]
  ·by_cases c2:i=k
   ·subst c2;simp
   ·rw [if_neg c,if_neg c2,if_neg (by omega),show i - 1+1=i from by omega])
 rw [e1,afA k (A k) A k hk,z9,tG hk (fun j hj hne=>by
  have:mv 0 k (A k) A 0 j=A k j:=by simp [mv]
  rw [this,h j hj,if_neg hne];simp)]
 have e2:mv 0 k (A k) A 0 k=1:=by
  have:mv 0 k (A k) A 0 k=A k k:=by simp [mv]
  rw [this,h k hk,if_pos rfl]
 rw [e2,mX (A:=rZ k (mv 0 k (A k) A)) (B:=fun i j=>A (up k i) (up k j)) (fun i j _ _=>by simp [rZ,mv])]
 have:=ZG k
 grind
theorem VX {n k:Nat} (hk:k < n+1) (A:lE) (h: ∀i,i < n+1→A i k=if i=k then 1 else 0):lY (n+1) A=lY n (fun i j=>A (up k i) (up k j)):=by
 rw [← xk (n+1) A,VW hk (tr A) h, ← xk n]
 rfl
def yT (L:List Nat) (A:lE):lE:=fun i j=>A (L.getD i 0) (L.getD j 0)
theorem ahz (pre suf:List Nat) (k i:Nat):(pre++k::suf).getD (up pre.length i) 0=(pre++suf).getD i 0:=by
 unfold up
 rw [List.getD_eq_getElem?_getD,List.getD_eq_getElem?_getD]
 by_cases c:i < pre.length
 ·rw [if_pos c,List.getElem?_append_left c,List.getElem?_append_left c]
 ·rw [if_neg c,List.getElem?_append_right (by omega),List.getElem?_append_right (by omega),show i+1 - pre.length=(i - pre.length)+1 from by omega,List.getElem?_cons_succ]
theorem ahA (pre suf:List Nat) (k:Nat):(pre++k::suf).getD pre.length 0=k:=by simp
theorem ahH (P:Nat→Bool) (C:lE) (hC: ∀i k,P k=false→C i k=if i=k then 1 else 0): ∀(suf pre:List Nat),(pre++suf).Nodup→lY (pre++suf).length (yT (pre++suf) C)=lY (pre++suf.filter P).length (yT (pre++suf.filter P) C):=by
 intro suf
 induction suf with
 | nil=>intro pre _;rfl
 | cons k suf ih=>
  intro pre hn
  cases hk:P k with
  | true=>
   have h:=ih (pre++ [k]) (by rw [List.append_assoc];exact hn)
   rw [List.filter_cons_of_pos hk]
   simpa [List.append_assoc] using h
  | false=>
   rw [List.filter_cons_of_neg (by simp [hk])]
   have hn2:(pre++suf).Nodup:=hn.sublist (List.Sublist.append (List.Sublist.refl _) (List.sublist_cons_self _ _))
   rw [← ih pre hn2]
   have hlen:(pre++k::suf).length=(pre++suf).length+1:=by simp;omega
   rw [hlen,VX (k:=pre.length) (by simp;omega) (yT (pre++k::suf) C) (fun i hi=>?_)]
   ·exact mX (fun i j _ _=>by simp only [yT,ahz])
   ·simp only [yT]
    rw [ahA,hC _ k hk]
    have hi':i < (pre++k::suf).length:=by omega
    have hp:pre.length < (pre++k::suf).length:=by simp
    have e:(pre++k::suf).getD i 0=(pre++k::suf)[i]:=by rw [List.getD_eq_getElem?_getD,List.getElem?_eq_getElem hi'];rfl
    rw [e]
    by_cases c:i=pre.length
    ·subst c;simp
    ·rw [if_neg c,if_neg]
     intro q
     have q2:(pre++k::suf)[i]=(pre++k::suf)[pre.length]:=by rw [q];simp
     exact c ((List.getElem_inj hn).1 q2)
def sel (n:Nat) (P:Nat→Bool):List Nat:=(List.range n).filter P
theorem abM (n:Nat) (P:Nat→Bool) (C:lE) (hC: ∀i k,P k=false→C i k=if i=k then 1 else 0):lY n C=lY (sel n P).length (yT (sel n P) C):=by
 have h:=ahH P C hC (List.range n) [] (by simp;exact List.nodup_range)
 simp only [List.nil_append,List.length_range] at h
 rw [← show lY n (yT (List.range n) C)=lY n C from mX (fun i j hi hj=>by simp [yT,hi,hj]),h]
 rfl
end Go.Proofs.YthmfdplckdijdaaGreat.Un
end
section
namespace Go.Proofs.YthmfdplckdijdaaGreat.Pr
open Go.RowKit Wz.cw Wz.fX Wz.cX
attribute [local go_sem] nV nT oF oD nC nB nU nS
end Go.Proofs.YthmfdplckdijdaaGreat.Pr
end
section
namespace Go.Proofs.YthmfdplckdijdaaGreat.Hd
open Go.RowKit Wz.cw Wz.fX Wz.cX Pr La Ma Hm Dt
structure Own (w0 w:World) (g n:Nat) (b cp:Nat→Nat) (M:lE):Prop where
 below:Below w0.heap.size w0 w
 gb:w0.heap.size≤g
 bb: ∀j,j < n→w0.heap.size≤b j
 inj: ∀i j,i < n→j < n→b i=b j→i=j
 ne: ∀j,j < n→b j≠g
 cap: ∀j,j < n→n≤cp j
 og: ∀j,j < n→w.cell? ⟨g,j,none⟩=some (.slice (some ⟨b j,0,none⟩) n (cp j))∧w.frozen? ⟨g,j,none⟩=false
 ob: ∀j c,j < n→c < n→w.cell? ⟨b j,c,none⟩=some (.int .i64 (M j c))∧w.frozen? ⟨b j,c,none⟩=false
theorem Iy {w w':World} (h:Below w.heap.size w w') {p:Addr} (hp:p.block < w.heap.size):w'.frozen? p=w.frozen? p:=by
 unfold World.frozen?
 rw [h.block _ hp]
theorem vk {w:World} {p:Addr} {v:Value} (h:w.cell? p=some v):p.block < w.heap.size:=World.block_lt_of_cell? w _ h
theorem vD {w:World} {p:Addr} {u v:Value} (h:w.cell? p=some u):(w.setCell p v).cell? p=some v:=World.cell?_setCell_same w p v h
theorem qD {w:World} {p q:Addr} {v:Value} (h:p≠q):(w.setCell p v).cell? q=w.cell? q:=World.cell?_setCell_other w p q v h
theorem xT {w:World} {p q:Addr} {v:Value}:(w.setCell p v).frozen? q=w.frozen? q:=World.frozen?_setCell w p q v
theorem uK (g i j:Nat):(⟨g,i,none⟩:Addr).add j=⟨g,i+j,none⟩:=by unfold Addr.add;split <;> simp_all
section
variable {w0 w w':World} {g n:Nat} {b cp:Nat→Nat} {M:lE}
theorem Own.step (h:Own w0 w g n b cp M) (hb:Below w.heap.size w w'):Own w0 w' g n b cp M:=
  ⟨Below.trans h.below (hb.mono h.below.size),h.gb,h.bb,h.inj,h.ne,h.cap,
   fun j hj=>by have:=vk (h.og j hj).1;exact⟨(hb.cell (p:=⟨g,j,none⟩) this).trans (h.og j hj).1,(Iy hb this).trans (h.og j hj).2⟩,
   fun j c hj hc=>by have:=vk (h.ob j c hj hc).1;exact⟨(hb.cell (p:=⟨b j,c,none⟩) this).trans (h.ob j c hj hc).1,(Iy hb this).trans (h.ob j c hj hc).2⟩⟩
theorem Own.congr {M':lE} (h:Own w0 w g n b cp M) (e: ∀i j,i < n→j < n→M i j=M' i j):Own w0 w g n b cp M':=
 ⟨h.below,h.gb,h.bb,h.inj,h.ne,h.cap,h.og,fun j c hj hc=>by rw [← e j c hj hc];exact h.ob j c hj hc⟩
def BA (M:lE) (r c:Nat) (x:Int):lE:=fun i j=>if i=r∧j=c then x else M i j
theorem Own.put (h:Own w0 w g n b cp M) {r c:Nat} (hr:r < n) (hc:c < n) (x:Int):Own w0 (w.setCell ⟨b r,c,none⟩ (.int .i64 x)) g n b cp (BA M r c x):=by
 refine⟨h.below.setCell (h.bb r hr) _,h.gb,h.bb,h.inj,h.ne,h.cap,fun j hj=>⟨?_,?_⟩,fun j d hj hd=>⟨?_,?_⟩⟩
 ·rw [qD (by intro e;have:=congrArg Addr.block e;exact h.ne r hr this)]
  exact(h.og j hj).1
 ·rw [xT];exact(h.og j hj).2
 ·unfold BA
  by_cases e:j=r∧d=c
  ·obtain⟨rfl,rfl⟩:=e
   rw [if_pos ⟨rfl,rfl⟩]
   exact vD (h.ob j d hj hd).1
  ·rw [if_neg e,qD (by
    intro q
    have q1:=congrArg Addr.block q
    have q2:=congrArg Addr.off q
    exact e ⟨(h.inj r j hr hj q1).symm,q2.symm⟩)]
   exact(h.ob j d hj hd).1
 ·rw [xT];exact(h.ob j d hj hd).2
def sw (r q j:Nat):Nat:=if j=r then q else if j=q then r else j
theorem EU {r q j:Nat} (hr:r < n) (hq:q < n) (hj:j < n):sw r q j < n:=by unfold sw;grind
theorem afu (r q j:Nat):sw r q (sw r q j)=j:=by unfold sw;grind
theorem aiw {r q i j:Nat} (h:sw r q i=sw r q j):i=j:=by rw [← afu r q i,h,afu]
theorem Own.swap (h:Own w0 w g n b cp M) {r q:Nat} (hr:r < n) (hq:q < n):
  Own w0 ((w.setCell ⟨g,r,none⟩ (.slice (some ⟨b q,0,none⟩) n (cp q))).setCell ⟨g,q,none⟩ (.slice (some ⟨b r,0,none⟩) n (cp r))) g n (fun j=>b (sw r q j)) (fun j=>cp (sw r q j)) (fun j=>M (sw r q j)):=by
 refine⟨(h.below.setCell h.gb _).setCell h.gb _,h.gb,fun j hj=>h.bb _ (EU hr hq hj),fun i j hi hj e=>aiw (h.inj _ _ (EU hr hq hi) (EU hr hq hj) e),fun j hj=>h.ne _ (EU hr hq hj),fun j hj=>h.cap _ (EU hr hq hj),fun j hj=>⟨?_,?_⟩,fun j d hj hd=>⟨?_,?_⟩⟩
 ·by_cases e:j=q
  ·subst e
   have:sw r j j=r:=by unfold sw;split <;> simp_all
   rw [this]
   by_cases e2:r=j
   ·subst e2;exact vD (vD (h.og r hr).1)
   ·exact vD (u:= .slice (some ⟨b j,0,none⟩) n (cp j)) (by rw [qD (by intro q1;exact e2 (congrArg Addr.off q1))];exact(h.og j hj).1)
  ·rw [qD (by intro q1;exact e (congrArg Addr.off q1).symm)]
   by_cases e2:j=r
   ·subst e2
    rw [show sw j q j=q from by simp [sw]]
    exact vD (h.og j hj).1
   ·rw [qD (by intro q1;exact e2 (congrArg Addr.off q1).symm),show sw r q j=j from by simp [sw,e,e2]]
    exact(h.og j hj).1
 ·rw [xT,xT];exact(h.og j hj).2
 ·have hl:=EU hr hq hj
  rw [qD (by intro q1;exact h.ne _ hl (congrArg Addr.block q1).symm),qD (by intro q1;exact h.ne _ hl (congrArg Addr.block q1).symm)]
  exact(h.ob _ d hl hd).1
 ·rw [xT,xT];exact(h.ob _ d (EU hr hq hj) hd).2
def wA (M:lE) (n i:Nat):List (List Int):=(List.range (n - i)).map fun r=>(List.range n).map fun c=>M (i+r) c
theorem DL (M:lE) (n i:Nat):(wA M n i).length=n - i:=by simp [wA]
theorem Own.C (h:Own w0 w g n b cp M) (i:Nat) (hn:n≤1099511627776):Kd.C (Kd.slice 2 (Kd.int .i64)) w (some ⟨g,i,none⟩) (wA M n i).length (wA M n i):=by
 have hl:=DL M n i
 refine⟨rfl,by omega,fun _=>⟨_,rfl,fun j p hp=>?_⟩⟩
 have hj:j < n - i:=by have:=(List.getElem?_eq_some_iff.1 hp).1;omega
 have hpe:p=(List.range n).map fun c=>M (i+j) c:=by
  rw [wA,List.getElem?_map,List.getElem?_range hj] at hp
  exact(Option.some.inj hp).symm
 subst hpe
 have hc:=(h.og (i+j) (by omega)).1
 refine⟨[.slice (some ⟨b (i+j),0,none⟩) n (cp (i+j))],rfl,⟨some ⟨b (i+j),0,none⟩,cp (i+j),by simp,by simp;exact h.cap _ (by omega),?_⟩,fun u v hv=>?_⟩
 ·refine⟨rfl,by simp;omega,fun _=>⟨_,rfl,fun c p hp=>?_⟩⟩
  have hcn:c < n:=by have:=(List.getElem?_eq_some_iff.1 hp).1;simpa using this
  rw [List.getElem?_map,List.getElem?_range hcn] at hp
  have hp:=Option.some.inj hp
  refine⟨[.int .i64 p],rfl,rfl,fun u v hv=>?_⟩
  have hu:u=0:=by cases u with
   | zero=>rfl
   | succ u=>simp at hv
  subst hu
  have hv:Value.int .i64 p=v:=by simpa using hv
  rw [← hv, ← hp]
  have:=(h.ob (i+j) c (by omega) hcn).1
  have e:(⟨b (i+j),0,none⟩:Addr).add (c*(Kd.int .i64).sz+0)=⟨b (i+j),c,none⟩:=by
   show (⟨b (i+j),0,none⟩:Addr).add (c*1+0)=_
   rw [Nat.mul_one,Nat.add_zero,uK];try rw [Nat.zero_add]
  rw [e];exact this
 ·have hu:u=0:=by cases u with
   | zero=>rfl
   | succ u=>simp at hv
  subst hu
  have hv:Value.slice (some ⟨b (i+j),0,none⟩) n (cp (i+j))=v:=by simpa using hv
  rw [← hv]
  have e:(⟨g,i,none⟩:Addr).add (j*(Kd.slice 2 (Kd.int .i64)).sz+0)=⟨g,i+j,none⟩:=by
   show (⟨g,i,none⟩:Addr).add (j*1+0)=_
   rw [Nat.mul_one,Nat.add_zero,uK];try rw [Nat.zero_add]
  rw [e];exact hc
end
def en (l:List (List Int)):lE:=fun i j=>(l.getD i []).getD j 0
theorem adX {w0 W:World} {ok:Nat→Prop} {v:Value} {l:List (List Int)} (h:SS w0 W ok v l) (hB:Below w0.heap.size w0 W) (hp:0 < l.length) (hr: ∀x ∈ l,x.length=l.length): ∃(g cap:Nat) (b cp:Nat→Nat),v= .slice (some ⟨g,0,none⟩) l.length cap∧l.length≤cap∧Own w0 W g l.length b cp (en l):=by
 obtain⟨g,cap,rfl,hg0,hg1,cells,hgc⟩:=Kd.IZ h hp
 have hrd:=Kd.qH h
 obtain⟨f,h0,hO⟩:=h
 obtain⟨A,c,hv,hc,_,_,Pg⟩:=hO.reads
 injection hv with hA _ _
 subst hA
 rw [List.length_zipIdx] at Pg
 obtain⟨ad,had,hj⟩:=Pg hp
 injection had with had
 subst had
 have key: ∀j, ∃p:Nat × Nat,j < l.length→W.cell? ⟨g,j,none⟩=some (.slice (some ⟨p.1,0,none⟩) l.length p.2)∧l.length≤p.2∧w0.heap.size≤p.1∧f p.1=j∧p.1≠g∧ ∀d,d < l.length→W.cell? ⟨p.1,d,none⟩=some (.int .i64 (en l j d))∧W.frozen? ⟨p.1,d,none⟩=false:=by
  intro j
  by_cases hjl:j < l.length
  ·obtain⟨cs,hcs,hM,hcell⟩:=hj j (l[j],j) (Kd.Fm (List.getElem?_eq_getElem hjl))
   obtain⟨u,rfl,hR⟩:=(show ∃u,cs= [u]∧Kd.R (Kd.int .i64) 2 W w0.heap.size (fun k=>(ok k∧some k≠(Value.slice (some ⟨g,0,none⟩) l.length cap).ownBlock)∧f k=j) u l[j] from hM)
   have hlen:=hr l[j] (List.getElem_mem hjl)
   obtain⟨bj,cj,rfl,hb1,hb2,ajx,hbc⟩:=Kd.rX hR (by omega)
   have hcj:=(Kd.lU hR).2.1
   have hown:=hR.1 bj (by simp [Value.ownBlock])
   refine⟨(bj,cj),fun _=>⟨?_,by simpa [hlen] using hcj,hb1,hown.2,?_,fun d hd=>?_⟩⟩
   ·have:=hcell 0 _ rfl
    have e:(⟨g,0,none⟩:Addr).add (j*(Kd.tag f (Kd.slice 2 (Kd.int .i64))).sz+0)=⟨g,j,none⟩:=by
     show (⟨g,0,none⟩:Addr).add (j*1+0)=_
     rw [Nat.mul_one,Nat.add_zero,uK];try rw [Nat.zero_add]
    rw [e,hlen] at this
    exact this
   ·intro e
    have e:bj=g:=e
    subst e
    exact hown.1.2 (by simp [Value.ownBlock])
   ·have hat:=Kd.tW 0 hR (d:Int) (by omega) (by omega)
    rw [Int.toNat_natCast] at hat
    have e2:en l j d=l[j].getD d 0:=by unfold en;rw [List.getD_eq_getElem?_getD (l:=l),List.getElem?_eq_getElem hjl];rfl
    rw [e2]
    exact⟨by simpa [Fb] using hat.1,hat.2⟩
  ·exact⟨(0,0),fun hh=>absurd hh hjl⟩
 obtain⟨p,hp2⟩:=Classical.skolem.1 key
 refine⟨g,cap,fun j=>(p j).1,fun j=>(p j).2,rfl,hrd.2.1,⟨hB,hg0,fun j hj=>(hp2 j hj).2.2.1,fun i j hi hj e=>?_,fun j hj=>(hp2 j hj).2.2.2.2.1,fun j hj=>(hp2 j hj).2.1,fun j hj=>⟨(hp2 j hj).1,gE hgc j⟩,fun j d hj hd=>(hp2 j hj).2.2.2.2.2 d hd⟩⟩
 have h1:=(hp2 i hi).2.2.2.1
 have h2:=(hp2 j hj).2.2.2.1
 rw [← h1, ← h2]
 exact congrArg f e
end Go.Proofs.YthmfdplckdijdaaGreat.Hd
end
section
namespace Go.Proofs.YthmfdplckdijdaaGreat.Pr
open Go Go.RowKit Wz.cw Wz.fX Wz.cX
theorem run_eql_slice_nil {P:Program} (w:World) (t e:TypeId) (a:Option Addr) (l c:Nat) (h:P.underlying t=some (.slice e)):(binOp .eql t (.slice a l c) (.slice none 0 0)).run P w= .ok (.bool a.isNone) w:=by
 simp only [binOp]
 simp [run_equal_slice_nil w t e a l c h]
def wQ.f (l0:List Int):Option (List Int):=if l0.length≤1099511627776 then some l0 else none
theorem wQ.calls (A0:Option Addr) (c0:Nat) (l0:List Int) (r:List Int) (w:World) (hr0:Kd.C (Kd.int .i64) w A0 l0.length l0) (hc0:l0.length≤c0) (h:wQ.f l0=some r):
  Calls Tryz.prog 161 #[.slice A0 l0.length c0] w fun e w'=> ∃qg:Value,e= .returned (qg)∧Kd.R (Kd.int .i64) 2 w' w.heap.size (fun _=>True) qg r∧Below w.heap.size w w':=by
 unfold wQ.f at h
 split at h
 case isFalse=>cases h
 rename_i hl
 cases h
 have hu:=Tryz.underlying24;have HR:=q_ hr0;have HL:=q_ hl;clear hc0 hl;cases A0 with
 | none=>
  have h0:l0= []:=by
   cases l0 with
   | nil=>rfl
   | cons a t=>obtain⟨ad,e,_⟩:=Kd.mA hr0 0 (by simp) (by simp);cases e
  subst h0;clear hr0 HR;have he:=run_eql_slice_nil (P:=Tryz.prog) w 24 2 none 0 c0 hu
  go_enter Tryz.func161,Tryz.ntmps161
  go_wp2
  go_ret
  exact⟨_,rfl,Kd.qT _ _ _ _ _,Below.refl _ _⟩
 | some ad=>
  clear hr0;have he:=run_eql_slice_nil (P:=Tryz.prog) w 24 2 (some ad) l0.length c0 hu
  go_enter Tryz.func161,Tryz.ntmps161
  go_wp2_with (first | ((with_reducible refine dg (N:=5) rfl ?_);refine Kd.tu (Kd.int .i64) _ 2 ?hg (N:=5) ?hd (xs:=([]:List Int)) (inner:= []) (ok:=fun _=>True) (oC:=fun _=>True) ?hr ?hp (fun _ hk=>hk) trivial (Below.refl _ _) (Nat.le_refl _) (by simp) ?_;(case hd=>rfl);(case hg=>rfl);(case hr=>first | (go_simp;done) | (go_simp;rfl));(case hp=>exact(mV.none _ _));intro v1 w1 ho hb hg_ DW;clear hg_ DW;have HO:=q_ ho;have HB:=q_ hb;clear ho hb) | ((with_reducible refine dg (N:=7) rfl ?_);(refine Kd.WZ (Value.int .i64) 0 (w0:=w) w.heap.size rfl (.tmp 5) (.tmp 6) 24 2 (.int .i64 0) 8 rfl Tryz.underlying24 q6 rfl (by decide) v1 [] l0 (some ad) l0.length c0 (fun _=>True) (by rfl) (by rfl) (fun _ _=>trivial) HO.out (Kd.nW HR.out HB.out) HB.out HB.out.size (by have:=HL.out;simp;omega) ?_;intro v2 w2 ho hb hg_ DW;clear hg_ DW;have aa:=q_ ho;have AG:=q_ hb;clear ho hb)))
  go_ret
  exact⟨_,rfl,aa.out,AG.out⟩
end Go.Proofs.YthmfdplckdijdaaGreat.Pr
end
section
namespace Go.Proofs.YthmfdplckdijdaaGreat.Pr
open Go.RowKit Wz.cw Wz.fX Wz.cX
attribute [local go_sem] nV nT oF oD nC nB nU nS
def pK.l0:Nat→List (List Int)→List (List Int)→Int→Int→Option ((List (List Int)))
 | 0,_,_,_,_=>none
 | k+1,x3,x6,x7,x8=>if x8 < x7 then(if 0≤x8 then(if x8 < (x6.length:Int) then((wQ.f (d5 x6 x8)).bind fun aa=>(if x3.length < 5864062014805 then(pK.l0 k (x3++ [aa]) x6 x7 (wrap64 (x8+1))) else(none))) else(none)) else(none)) else(some x3)
def pK.f (k:Nat) (l0:List (List Int)):Option ((List (List Int))):=pK.l0 k ([]:List (List Int)) l0 (l0.length:Int) 0
theorem pK.calls (k:Nat) (A0:Option Addr) (c0:Nat) (l0:List (List Int)) (r:List (List Int)) (w:World) (hr0:Kd.C (Kd.slice 2 (Kd.int .i64)) w A0 l0.length l0) (hc0:l0.length≤c0) (h:pK.f k l0=some r):
  Calls Tryz.prog 133 #[.slice A0 l0.length c0] w fun e w'=> ∃qg:Value,e= .returned (qg)∧Kd.S (Kd.slice 2 (Kd.int .i64)) 24 w' w.heap.size (fun _=>True) qg r∧Below w.heap.size w w':=by
 have qE:=q_ hr0;have uG:=q_ hc0;clear hr0 hc0;have HB:=q_ (Below.refl w.heap.size w);have H:(pK.l0 k ([]:List (List Int)) l0 (l0.length:Int) 0)=some r:=h;clear h;have H':=q_ H;clear H
 go_enter Tryz.func133,Tryz.ntmps133
 go_wp2
 go_loopg [3,8] k (fun kq v3 v8 w'=> ∃(ae:List (List Int)) (aa:Int),v8= .int .i64 aa∧aE (pK.l0 kq ae l0 (l0.length:Int) aa=some r)∧aE (kq≤k)∧aE (Kd.S (Kd.slice 2 (Kd.int .i64)) 24 w' w.heap.size (fun _=>True) v3 ae)∧aE (Below w.heap.size w w'))
 case atStart=>exact⟨(([]:List (List Int))),(0),nM,H',⟨Nat.le_refl _⟩,⟨by first | exact Kd.sJ _ _ _ _ _ | exact Kd.uy _ _ _ _ _ | exact Kd.uw _ _ _ _ _ | exact Kd.ux _ _ _ _ _ | exact Kd.qT _ _ _ _ _⟩,⟨hb_⟩⟩
 case round=>
  clear H';obtain⟨ae,aa,rfl,HA,nA,af,HB⟩:=hrel;cases gk with
  | zero=>exact absurd HA.out (by simp [pK.l0])
  | succ k1=>
   have H:=HA.out;clear HA;simp only [pK.l0] at H
   by_cases c2:aa < (l0.length:Int)
   ·rw [if_pos c2] at H;have Wc:=decide_eq_true c2;clear c2
    by_cases c3:0≤aa
    ·rw [if_pos c3] at H;have qP:=decide_eq_true c3;clear c3
     by_cases c4:aa < (l0.length:Int)
     ·rw [if_pos c4] at H;have qv:=decide_eq_true c4;clear c4;replace H:=Option.bind_eq_some_iff.mp H;obtain⟨ag,xL,H⟩:=H;replace H:(if ae.length < 5864062014805 then(pK.l0 k1 (ae++ [ag]) l0 (l0.length:Int) (wrap64 (aa+1))) else(none))=some r:=H;have A5:=q_ xL;clear xL
      by_cases c6:ae.length < 5864062014805
      ·rw [if_pos c6] at H;have az:=q_ c6;clear c6;obtain⟨ai,hy⟩: ∃y_:List (List Int),y_=(ae++ [ag]):=⟨_,rfl⟩
       replace H:(pK.l0 k1 ai l0 (l0.length:Int) (wrap64 (aa+1)))=some r:=hh_;have aq:=q_ hy;clear hy;have H':=q_ H;clear H;have adM:0≤(aa:Int):=l7;have ado:aa < (l0.length:Int):=l7;obtain⟨aC,aj,ak,an8,QD,YE,YL⟩:=pI qE.out aa adM ado;cases an8
       replace QD:=bc_ HB.out QD;have ahZ:=q_ YL;have ah7:=q_ YE;clear YL YE;replace adM:=eq_true adM;replace ado:=eq_true ado
       go_wp2_with (first | ((with_reducible refine d8 (f:=161) rfl ?_);refine oJ 14 Tryz.func161 #[.slice aj (d5 l0 aa).length ak] ?_;(with_reducible refine(wQ.calls _ _ (d5 l0 aa) ag _ ?au ?av A5.out).mono ?_);(case au=>exact ni ahZ.out HB.out);(case av=>exact ah7.out);rintro e w7 ⟨aD,rfl,ho0,hb⟩;refine⟨_,rfl,?_⟩;replace af:=q_ (Kd.tA (nw af.out) (Kd.o8 ho0) hb);have ah:=q_ (Kd.ng ho0 oI);replace HB:=lT hb;(try clear hb);(try clear hk);(try clear ho0);obtain⟨ax,ay,aA⟩:=Kd.mE ah.out;subst aA) | ((with_reducible refine nL (b:= .append) (xs:= #[.tmp 12, .tmp 15]) rfl ?_);at_builtin;refine Kd.Af (Kd.slice 2 (Kd.int .i64)) (w0:=w) w.heap.size rfl (.tmp 12) (.tmp 15) 32 24 (.slice none 0 0) 24 rfl Tryz.underlying32 yc rfl (by decide) (by omega) u3 ae ag [.slice ax ag.length ay] (fun _=>True) (fun k_=>some k_=(.slice ax ag.length ay:Value).ownBlock) rfl rfl ?aP (fun k_ hk_=>((Kd.fY (ok':=fun k_=>((fun _=>True)) k_∧some k_≠(u3:Value).ownBlock) (Kd.qp (ah.out) (Kd.pQ af.out) (by decide)) (fun k_ hk=>⟨trivial,hk.2⟩))).1 k_ hk_.symm) ?aF ?aO ?aB ?aS ?aL ?_;(case aP=>exact Kd.zT (Kd.fY (Kd.q5 rfl (Kd.fY (ok':=fun k_=>((fun _=>True)) k_∧some k_≠(u3:Value).ownBlock) (Kd.qp (ah.out) (Kd.pQ af.out) (by decide)) (fun k_ hk=>⟨trivial,hk.2⟩))) (fun _ h_=>h_)));(case aB=>exact hb_);(case aF=>exact(fun _ _=>trivial));(case aO=>exact(kS_ af.out (fun k_ hk=>⟨trivial,fun e_=>hk.2 e_⟩)));(case aS=>exact oI);(case aL=>have:=az.out;omega);intro aG w8 ho hb hg hat;rw [← aq.out] at ho;replace HB:=q_ (hb);have aw:=q_ (ho);clear af ah ho hb hg hat))
       go_roundg k1
       case measure=>have:=nA.out;omega
       case rel=>exact⟨(ai),(wrap64 (aa+1)),nM,H',⟨by have:=nA.out;omega⟩,⟨nw aw.out⟩,⟨hb_⟩⟩
      ·rw [if_neg c6] at H;exact absurd H (by simp)
     ·rw [if_neg c4] at H;exact absurd H (by simp)
    ·rw [if_neg c3] at H;exact absurd H (by simp)
   ·rw [if_neg c2] at H;have Wc:=decide_eq_false c2;clear c2;obtain rfl:=Option.some.inj H;go_wp2
    go_ret
    exact⟨_,pH,nw af.out,hb_⟩
end Go.Proofs.YthmfdplckdijdaaGreat.Pr
end
section
namespace Go.Proofs.YthmfdplckdijdaaGreat.Cp
open Go.RowKit Wz.cw Wz.cX Ma Pr
theorem copy_eq (l:List (List Int)) (hl:l.length≤1000) (hr: ∀x ∈ l,x.length≤1099511627776):Ev (fun k=>pK.f k l) l:=by
 have key: ∀q i,i+q=l.length→Ev (fun k=>pK.l0 k (l.take i) l (l.length:Int) i) l:=by
  intro q
  induction q with
  | zero=>
   intro i hi
   rw [List.take_of_length_le (by omega)]
   exact mC (fun k=>by rw [pK.l0]) (lV (by omega) (oK rfl))
  | succ q ih=>
   intro i hi
   have hlt:i < l.length:=by omega
   have e:d5 l (i:Int)=l[i]:=by simp [d5,hlt]
   have hri:=hr l[i] (List.getElem_mem hlt)
   have h:=ih (i+1) (by omega)
   rw [List.take_succ_eq_append_getElem hlt] at h
   refine mC (fun k=>by rw [pK.l0]) (cY (by omega) (cY (by omega) (cY (by omega) ?_)))
   rw [e]
   refine qW (a:=l[i]) (by unfold wQ.f;rw [if_pos hri]) (cY (by rw [List.length_take];omega) ?_)
   rw [nH (x:=(i:Int)+1) (by omega) (by omega)]
   exact h
 exact key l.length 0 (by omega)
end Go.Proofs.YthmfdplckdijdaaGreat.Cp
end
section
namespace Go.Proofs.YthmfdplckdijdaaGreat.Pr
open Go.RowKit Wz.cw Wz.fX Wz.cX
def WY (g:Nat) (lb:Array Value) (p:List Int→Bool) (w:World) (l:List (List Int)):Prop:=
 ∀(W:World) (A:Option Addr) (c:Nat) (x:List Int),x ∈ l→Below w.heap.size w W→x.length≤c→Kd.C (Kd.int .i64) W A x.length x→Calls Tryz.prog g (#[.slice A x.length c]++lb) W fun e w'=>e= .returned (.bool (p x))∧Below W.heap.size W w'
theorem Hp (p:List Int→Bool) (g:Nat) (lb:Array Value) (eg: ∀args w,(callFunc g args).run Tryz.prog w= .ok (.enter g args) w) (A:Option Addr) (c:Nat) (l:List (List Int)) (w:World)
  (hr:Kd.C (Kd.slice 2 (Kd.int .i64)) w A l.length l) (hp:WY g lb p w l):
  Calls Tryz.prog 141 #[.slice A l.length c, .func (.func g) #[] lb] w fun e w'=>e= .returned (.int .i64 (z7 p l 0))∧Below w.heap.size w w':=by
 have HR:=q_ hr;have HP:=q_ hp;have ael:l.length≤9223372036854775807:=hr.2.1;clear hr hp
 go_enter Tryz.func141,Tryz.ntmps141
 go_wp2
 go_loopg [5,8] l.length (fun gg _ s8 wr=> ∃kk:Nat,kk≤l.length∧l.length - kk≤gg∧s8= .int .i64 kk∧aE (Below w.heap.size w wr)∧aE (∀j (hj:j < l.length),j < kk→p l[j]=false))
 case atStart=>exact⟨0,Nat.zero_le _,by omega,rfl,⟨Below.refl _ w⟩,⟨fun j _ hj=>absurd hj (Nat.not_lt_zero _)⟩⟩
 case round=>
  obtain⟨kk,hkk,hg,rfl,BW,F⟩:=hrel
  by_cases hlt:kk < l.length
  ·obtain⟨ad,A',c',e,hx,hc',hi⟩:=pI HR.out kk (by omega) (by omega);cases e
   rw [Int.toNat_natCast] at hx;have hx':=bc_ BW.out hx;clear hx;have hel:d5 l (kk:Int)=l[kk]:=by simp [d5,hlt]
   have hcall:=HP.out wr A' c' l[kk] (List.getElem_mem hlt) BW.out (by rw [← hel];exact hc') (by rw [← hel];exact Kd.nW hi BW.out);rw [hel] at hx' hc' hi;have HI:=q_ hi;have HC:=q_ hc';clear hi hc' hel;have pZ:(kk:Int) < (l.length:Int):=by omega
   have h0z:(0:Int)≤(kk:Int):=by omega
   generalize hy:l[kk]=y at hx' hcall HI HC
   have HY:=q_ hy;clear hy;cases hq:p y with
   | true=>
    rw [hq] at hcall;have HQ:=q_ hq;clear hq
    go_wp2_with fail
    refine hcall.mono ?_
    rintro e w' ⟨rfl,hb'⟩;clear hcall;go_wp2
    go_ret
    refine⟨?_,Below.trans BW.out (hb'.mono BW.out.size)⟩
    rw [GJ p l kk hlt F.out (by rw [HY.out];exact HQ.out)]
    rfl
   | false=>
    rw [hq] at hcall;have HQ:=q_ hq;clear hq
    go_wp2_with fail
    refine hcall.mono ?_
    rintro e w' ⟨rfl,hb'⟩;clear hcall;go_wp2
    go_roundg (l.length - (kk+1))
    case measure=>omega
    case rel=>
     refine⟨kk+1,by omega,by omega,by go_num,⟨Below.trans BW.out (hb'.mono BW.out.size)⟩,⟨fun j hj hjk=>?_⟩⟩
     by_cases e:j=kk
     ·subst e;rw [HY.out];exact HQ.out
     ·exact F.out j hj (by omega)
  ·have pZ: ¬ (kk:Int) < (l.length:Int):=by omega
   obtain rfl:kk=l.length:=by omega
   go_wp2
   go_ret
   refine⟨?_,BW.out⟩
   rw [EZ p l (fun i hi=>F.out i hi hi)]
   rfl
theorem D9 (p:List Int→Bool) (g:Nat) (lb:Array Value) (eg: ∀args w,(callFunc g args).run Tryz.prog w= .ok (.enter g args) w) (A:Option Addr) (c:Nat) (l:List (List Int)) (w:World)
  (hr:Kd.C (Kd.slice 2 (Kd.int .i64)) w A l.length l) (hp:WY g lb p w l):
  Calls Tryz.prog 91 #[.slice A l.length c, .func (.func g) #[] lb] w fun e w'=>e= .returned (.bool (l.any p))∧Below w.heap.size w w':=by
 rw [← Fc p l 0 (Int.le_refl _)];have HR:=q_ hr;have HP:=q_ hp;clear hr hp
 go_enter Tryz.func91,Tryz.ntmps91
 go_wp2_with fail
 refine(Hp p g lb eg A c l _ HR.out HP.out).mono ?_
 rintro e w' ⟨rfl,hb'⟩;go_wp2
 go_ret
 exact⟨rfl,hb'⟩
end Go.Proofs.YthmfdplckdijdaaGreat.Pr
end
section
namespace Go.Proofs.YthmfdplckdijdaaGreat.Pr
open Go.RowKit Wz.cw Wz.fX Wz.cX La Ma Hm Dt Hd Bd Cp
def nz (i:Nat) (row:List Int):Bool:=row.getD i 0 !=0
theorem aod (gb i:Nat) (A:Option Addr) (c:Nat) (x:List Int) (w:World) (hb:w.cell? ⟨gb,0,none⟩=some (.int .i64 (i:Int))) (hC:Kd.C (Kd.int .i64) w A x.length x) (hi:i < x.length):
  Calls Tryz.prog 160 (#[.slice A x.length c]++ #[.pointer (some ⟨gb,0,none⟩)]) w fun e w'=>e= .returned (.bool (nz i x))∧Below w.heap.size w w':=by
 unfold nz
 show Calls Tryz.prog 160 #[.slice A x.length c, .pointer (some ⟨gb,0,none⟩)] w _
 obtain⟨ad,rfl,hcell⟩:=Kd.mA hC (i:Int) (by omega) (by omega);rw [Int.toNat_natCast,rT] at hcell;have hiz:(i:Int) < (x.length:Int):=by omega
 have h0z:(0:Int)≤(i:Int):=by omega
 generalize x.getD i 0=y at hcell ⊢
 generalize x.length=n at hiz hC ⊢
 clear hC hi
 by_cases e:y=0
 ·have h1:(y !=0)=false:=by simp [e]
  have h2:(y==0)=true:=by simp [e]
  clear e
  go_enter Tryz.func160,Tryz.ntmps160
  go_wp2
  go_ret
  exact⟨by rw [h1];rfl,Below.refl _ _⟩
 ·have h1:(y !=0)=true:=by simp [e]
  have h2:(y==0)=false:=by simp [e]
  clear e
  go_enter Tryz.func160,Tryz.ntmps160
  go_wp2
  go_ret
  exact⟨by rw [h1];rfl,Below.refl _ _⟩
theorem XW: ∀args w,(callFunc 160 args).run Tryz.prog w= .ok (.enter 160 args) w:=vB Tryz.func160 (by kernel_rfl) rfl
theorem aeb (M:lE) (n i:Nat) (hi:i < n):z7 (nz i) (wA M n i) 0=match JH M i (n - i) 0 with | none=> -1 | some k=>(k:Int):=by
 have hat: ∀r (h:r < (wA M n i).length),nz i (wA M n i)[r]=(M (i+r) i !=0):=by
  intro r h
  simp [wA,nz,hi]
 have hl:=DL M n i
 cases h:JH M i (n - i) 0 with
 | none=>exact EZ _ _ (fun r hr=>by rw [hat r hr,KX h r (Nat.zero_le _) (by omega)];rfl)
 | some k=>
  obtain⟨_,h2,h3,h4⟩:=BO h
  exact GJ _ _ k (by omega) (fun r hr hrk=>by rw [hat r hr,h4 r (Nat.zero_le _) hrk];rfl) (by rw [hat k (by omega)];simpa using h3)
theorem abO (n:Nat) (R:Int) (A:Option Addr) (c:Nat) (l:List (List Int)) (w:World) (hr:Kd.C (Kd.slice 2 (Kd.int .i64)) w A l.length l) (hc:l.length≤c) (hln:l.length=n) (hp:0 < n) (hn:n≤1000) (hsq: ∀x ∈ l,x.length=l.length) (hR:JJ n n 0 (en l) 1 1=R):
  Calls Tryz.prog 132 #[.slice A n c] w fun e w'=>e= .returned (.int .i64 R)∧Below w.heap.size w w':=by
 obtain⟨k,hk⟩:=evk (copy_eq l (by omega) (fun x hx=>by rw [hsq x hx];omega));have hcopy:=fun W (hW:Below w.heap.size w W)=>pK.calls k A c l l W (Kd.nW hr hW) hc hk
 rw [hln] at hcopy;have Qc:=q_ hcopy;have Gn:=q_ hln;have HP:=q_ hp;have HN:=q_ hn;have HSQ:=q_ hsq;have HR:=q_ hR;clear hcopy hk hr hc hln hp hn hsq hR
 go_enter Tryz.func132,Tryz.ntmps132
 go_wp2_with fail
 refine(Qc.out _ (Below.refl _ _)).mono ?_
 rintro e w1 ⟨v0,rfl,hS,hB⟩;obtain⟨g,cap,b,cp,rfl,hcap,hO⟩:=adX (w0:=w) hS hB (by rw [Gn.out];exact HP.out) HSQ.out;rw [Gn.out] at hcap hO;rw [Gn.out];have HO:=q_ hO;have afg:=q_ hcap;clear Qc hS hB hO hcap HSQ;go_wp2
 go_loopg [4,5,16] n (fun gg v4 v5 OU wr=> ∃(i:Nat) (M:lE) (b cp:Nat→Nat) (last turn:Int),i≤n∧n - i≤gg∧v4= .int .i64 last∧v5= .int .i64 turn∧OU= .int .i64 (i:Int)∧aE (Own w wr g n b cp M)∧aE (last≠0)∧aE (JJ n (n - i) i M last turn=R))
 case atStart=>exact⟨0,en l,b,cp,1,1,Nat.zero_le _,by omega,rfl,rfl,rfl,HO,⟨by decide⟩,HR⟩
 case round=>
  clear HO HR b cp;obtain⟨i,M,b,cp,last,turn,hi,hg,rfl,rfl,rfl,HO,HL,HR⟩:=hrel
  by_cases hlt:i < n
  ·have pZ:(i:Int) < (n:Int):=by omega
   have mG:=q_ hlt;have HI:=q_ hi;have HG:=q_ hg;clear hlt hi hg;have hne: ¬ cap=i:=by have:=afg.out;have:=mG.out;omega
   have hle:(i:Int)≤(n:Int):=by omega
   have h0i:(0:Int)≤(i:Int):=by omega
   have HA:Below wr.heap.size wr (wr.alloc (Obj.cells #[.int .i64 (i:Int)] 3)):=(Below.refl _ _).alloc (Nat.le_refl _) _;have ah:=q_ (HO.out.step HA);have E7:aE ((wr.alloc (Obj.cells #[.int .i64 (i:Int)] 3)).cell? ⟨wr.heap.size,0,none⟩=some (.int .i64 (i:Int))):=⟨by simp⟩
   have hcall:=Hp (nz i) 160 #[.pointer (some ⟨wr.heap.size,0,none⟩)] XW (some ⟨g,i,none⟩) (cap - i) (wA M n i) _ (ah.out.C i (by have:=HN.out;omega))
    (fun W' A' c' x hx hb hxc hC=>aod wr.heap.size i A' c' x W' ((hb.cell (p:=⟨wr.heap.size,0,none⟩) (by simp)).trans E7.out) hC (by
     have:=mG.out;obtain⟨r,_,rfl⟩:=List.mem_map.1 hx
     simpa using this))
   rw [DL,aeb M n i mG.out] at hcall;have vU:=q_ hcall;clear hcall;have HNB:aE (∀j,j < n→b j≠wr.heap.size):=⟨fun j hj e=>by have:=vk (HO.out.ob j i hj mG.out).1;rw [e] at this;exact Nat.lt_irrefl _ this⟩
   have HNG:aE (g≠wr.heap.size):=⟨fun e=>by have:=vk (HO.out.og i mG.out).1;rw [e] at this;exact Nat.lt_irrefl _ this⟩
   obtain⟨q,hq⟩: ∃q,n - i=q+1:=⟨n - i - 1,by have:=mG.out;omega⟩
   have HQ:=q_ hq;have hR2:=HR.out;rw [hq] at hR2;unfold JJ at hR2;clear hq HA;cases hf:JH M i (n - i) 0 with
   | none=>
    rw [hf] at hR2;simp only [hf] at vU;have Bm:=q_ hR2;clear hR2 hf
    go_wp2_with fail
    refine vU.out.mono ?_
    rintro e w2 ⟨rfl,hb2⟩;have AG:=q_ hb2;clear hb2 vU;go_wp2
    go_ret
    exact⟨by rw [← Bm.out];rfl,Below.trans ah.out.below (AG.out.mono ah.out.below.size)⟩
   | some kk=>
    have HF:=q_ hf;rw [hf] at hR2;simp only [hf] at vU;cases kk with
    | zero=>
     have Bm:=q_ hR2;clear hR2 hf
     go_wp2_with fail
     refine vU.out.mono ?_
     rintro e w2 ⟨rfl,hb2⟩;have ag:=q_ (ah.out.step hb2);have CB:aE (w2.cell? ⟨wr.heap.size,0,none⟩=some (.int .i64 (i:Int))):=⟨(hb2.cell (p:=⟨wr.heap.size,0,none⟩) (by simp)).trans E7.out⟩
     generalize wr.heap.size=pv at*
     clear hb2 vU HO ah HR E7;have aeh:IntKind.i64.wrap ((i:Int)+1)=((i+1:Nat):Int):=by rw [IntWalk.i64_in _ (by have:=HN.out;have:=mG.out;omega)];rfl
     have Xa:=q_ aeh;have ant:((i+1:Nat):Int)≤(n:Int):=by have:=mG.out;omega
     have anN:(0:Int)≤((i+1:Nat):Int):=by omega
     by_cases hcc:cap=i+1
     ·have hp0:=CB.out;have hn1:n=i+1:=by have:=afg.out;have:=mG.out;omega
      have h00: ¬ (0:Int) < ((n - (i+1):Nat):Int):=by omega
      have Hs:=q_ hn1;have anH:=eq_true hcc;clear hn1 hcc;go_wp2
      go_loopg [53] 1 (fun gg UL w3=>UL= .int .i64 0∧aE (Own w w3 g n b cp M)∧aE (w3.cell? ⟨pv,0,none⟩=some (.int .i64 (i:Int))))
      case atStart=>exact⟨rfl,ag,CB⟩
      case round=>
       clear ag CB hp0;obtain⟨rfl,aa,yK⟩:=hrel;have ae:=q_ (aa.out.step (mH (Below.refl wr.heap.size wr)));have zn:aE (wr.drew.cell? ⟨pv,0,none⟩=some (.int .i64 (i:Int))):=⟨yK.out⟩
       have hp3:=zn.out;have hog:=(ae.out.og i mG.out).1;have hii:=(ae.out.ob i i mG.out mG.out).1;go_wp2
       refine qx (n:=8) (S:=fun w'=>w'.cell? ⟨pv,0,none⟩=some (.int .i64 (i:Int))∧w'.cell? ⟨g,i,none⟩=some (.slice (some ⟨b i,0,none⟩) n (cp i))∧w'.cell? ⟨b i,i,none⟩=some (.int .i64 ((M) i i))) (ds:= []) ⟨hp3,hog,hii⟩ (fun hHeld=>?_)
       generalize wr.drew=w5 at ae zn hp3 hog hii hHeld ⊢
       refine lX 0 96 ?_;refine mg 1 97 ?_;refine lX 2 98 ?_;refine mg 3 99 ?_;refine mg 4 100 ?_;refine lX 5 101 ?_;refine mg 6 102 ?_;refine lX 7 4 ?_
       refine oA (by kernel_rfl) ?_
       go_wp2
       go_roundg (n - (i+1))
       case measure=>have:=HG.out;have:=mG.out;omega
       case rel=>exact⟨i+1,el (M) i last,b,cp,(M) i i,turn,by have:=mG.out;omega,by omega,rfl,rfl,by first | rfl | (rw [Xa.out]),⟨ae.out.congr (fun a b ha _=>by unfold el;rw [if_neg (by have:=Hs.out;omega)])⟩,⟨(BO HF.out).2.2.1⟩,⟨by rw [show n - (i+1)=q from by have:=HQ.out;omega];exact Bm.out⟩⟩
     ·have hp0:=CB.out;go_wp2
      go_loopg [53] n (fun gg UL w3=> ∃t:Nat,i+1+t≤n∧n - (i+1+t)≤gg∧UL= .int .i64 (t:Int)∧aE (Own w w3 g n b cp (mid M i last (i+1+t) i))∧aE (w3.cell? ⟨pv,0,none⟩=some (.int .i64 (i:Int))))
      case atStart=>exact⟨0,by have:=mG.out;omega,by omega,by simp,⟨ag.out.congr (fun a b _ _=>(Rp _ i last a b).symm)⟩,CB⟩
      case round=>
       clear ag CB hp0;obtain⟨t,ht,hg2,rfl,aa,yK⟩:=hrel;have HT:=q_ ht;have HG2:=q_ hg2
       by_cases htn:i+1+t < n
       ·have htz:(t:Int) < ((n - (i+1):Nat):Int):=by omega
        have h0t:(0:Int)≤(t:Int):=by omega
        have Gg:=q_ htn;have hog:=(aa.out.og (i+1+t) htn).1;have hf0:=(aa.out.ob (i+1+t) i htn mG.out).1;rw [O6 _ i last (i+1+t) i i (Nat.le_refl _)] at hf0;have hp3:=yK.out;have ht1:IntKind.i64.wrap ((t:Int)+1)=((t+1:Nat):Int):=by rw [IntWalk.i64_in _ (by have:=HN.out;omega)];rfl
        have JM:=q_ ht1
        generalize hr:i+1+t=r at*
        have Bl:=q_ hr;have htr:i+1+t=r:=hr;clear hr;go_wp2
        go_loopg [11] n (fun gg v11 w4=> ∃c':Nat,i≤c'∧c'≤n∧n - c'≤gg∧v11= .int .i64 (c':Int)∧aE (Own w w4 g n b cp (mid M i last r c'))∧aE (w4.cell? ⟨pv,0,none⟩=some (.int .i64 (i:Int))))
        case atStart=>exact⟨i,Nat.le_refl _,HI.out,by omega,rfl,aa,yK⟩
        case round=>
         clear aa yK hp3 hog hf0;obtain⟨c',hc1,hc2,hg3,rfl,ae,zn⟩:=hrel;have qy:=q_ hc1;have wv:=q_ hc2;have HG3:=q_ hg3
         by_cases hcn:c' < n
         ·have hcz:(c':Int) < (n:Int):=by omega
          have h0c:(0:Int)≤(c':Int):=by omega
          have I6:=q_ hcn;have af:=q_ (ae.out.step (mH (Below.refl wr.heap.size wr)));have Lc:aE (wr.drew.cell? ⟨pv,0,none⟩=some (.int .i64 (i:Int))):=⟨zn.out⟩
          have h1:=(af.out.ob r c' Gg.out hcn).1;have h1f:=(af.out.ob r c' Gg.out hcn).2;have h2:=(af.out.og i mG.out).1;have h3:=(af.out.ob i i mG.out mG.out).1;have h4:=(af.out.ob i c' mG.out hcn).1;rw [O6 _ i last r c' c' (Nat.le_refl _)] at h1;rw [GH] at h3 h4;have hp4:=Lc.out;have hl0:(last==0)=false:=by have:=HL.out;simpa using this
          have hl1: ¬ last=0:=HL.out;have aek:IntKind.i64.wrap ((c':Int)+1)=((c'+1:Nat):Int):=by rw [IntWalk.i64_in _ (by have:=HN.out;omega)];rfl
          have Xd:=q_ aek;clear hc1 hc2 hg3 hcn;go_wp2
          refine qx (n:=28) (S:=fun w'=>w'.cell? ⟨b r,c',none⟩=some (.int .i64 ((M) r c'))∧w'.cell? ⟨pv,0,none⟩=some (.int .i64 (i:Int))∧w'.cell? ⟨g,i,none⟩=some (.slice (some ⟨b i,0,none⟩) n (cp i))∧w'.cell? ⟨b i,i,none⟩=some (.int .i64 ((M) i i))∧w'.cell? ⟨b i,c',none⟩=some (.int .i64 ((M) i c'))) (ds:= [27]) ⟨h1,hp4,h2,h3,h4⟩ (fun hHeld=>?_)
          generalize wr.drew=w5 at af Lc h1 hp4 h2 h3 h4 h1f hHeld ⊢
          refine sB 0 68 1 69 2 70 3 71 ?_;refine lX 4 72 ?_;refine mg 5 73 ?_;refine lX 6 74 ?_;refine mg 7 75 ?_;refine lX 8 76 ?_;refine mg 9 77 ?_;refine mg 10 78 ?_;refine lX 11 79 ?_;refine mg 12 80 ?_;refine rm 13 81 14 82 15 83 ?_;refine mg 16 84 ?_;refine lX 17 85 ?_;refine mg 18 86 ?_;refine sU 19 87 20 88 ?_;refine mg 21 89 ?_;refine sB 22 90 23 91 24 92 25 93 ?_;refine lX 26 94 ?_
          refine DU 27 none (fun K hK=>?_)
          refine rL (w1:=?_) (by rfl) rfl ?_ ?_
          rotate_left
          ·go_simp
           rfl
          refine hK.out _ _ ?_
          clear hK K;refine oA (by kernel_rfl) ?_
          go_wp2
          go_roundg (n - (c'+1))
          case measure=>have:=HG3.out;have:=I6.out;omega
          case rel=>
           have hput:=(af.out.put Gg.out I6.out (ev M i last r c')).congr (M':=mid M i last r (c'+1)) (fun a b _ _=>Vc _ i last r c' (by have:=Bl.out;omega) qy.out a b);refine⟨c'+1,by have:=qy.out;omega,I6.out,by omega,by first | rfl | (rw [Xd.out]) | (simp [Xd.out]),⟨hput⟩,⟨?_⟩⟩
           rw [qD (by intro e;exact HNB.out r Gg.out (congrArg Addr.block e))];exact Lc.out
         ·have hcz: ¬ (c':Int) < (n:Int):=by omega
          obtain rfl:c'=n:=by have:=wv.out;omega
          clear hcn hc1 hc2 hg3;go_wp2
          go_roundg (c' - (r+1))
          case measure=>have:=HG2.out;have:=Gg.out;omega
          case rel=>exact⟨t+1,by have:=Gg.out;have:=Bl.out;omega,by have:=Bl.out;omega,by first | rfl | (rw [JM.out]) | (simp [JM.out]),⟨ae.out.congr (fun a b _ hb=>by rw [Yq _ i last r a b hb,show i+1+(t+1)=r+1 from by have:=Bl.out;omega])⟩,zn⟩
       ·have htz: ¬ (t:Int) < ((n - (i+1):Nat):Int):=by omega
        have hn1:i+1+t=n:=by omega
        rw [hn1] at aa;have ae:=q_ (aa.out.step (mH (Below.refl wr.heap.size wr)));have zn:aE (wr.drew.cell? ⟨pv,0,none⟩=some (.int .i64 (i:Int))):=⟨yK.out⟩
        have hp3:=zn.out;have hog:=(ae.out.og i mG.out).1;have hii:=(ae.out.ob i i mG.out mG.out).1;rw [GH] at hii;clear hn1 htn ht hg2;go_wp2
        refine qx (n:=8) (S:=fun w'=>w'.cell? ⟨pv,0,none⟩=some (.int .i64 (i:Int))∧w'.cell? ⟨g,i,none⟩=some (.slice (some ⟨b i,0,none⟩) n (cp i))∧w'.cell? ⟨b i,i,none⟩=some (.int .i64 ((M) i i))) (ds:= []) ⟨hp3,hog,hii⟩ (fun hHeld=>?_)
        generalize wr.drew=w5 at ae zn hp3 hog hii hHeld ⊢
        refine lX 0 96 ?_;refine mg 1 97 ?_;refine lX 2 98 ?_;refine mg 3 99 ?_;refine mg 4 100 ?_;refine lX 5 101 ?_;refine mg 6 102 ?_;refine lX 7 4 ?_
        refine oA (by kernel_rfl) ?_
        go_wp2
        go_roundg (n - (i+1))
        case measure=>have:=HG.out;have:=mG.out;omega
        case rel=>exact⟨i+1,el (M) i last,b,cp,(M) i i,turn,by have:=mG.out;omega,by omega,rfl,rfl,by first | rfl | (rw [Xa.out]),⟨ae.out.congr (fun a b ha _=>Yr _ i last a b ha)⟩,⟨(BO HF.out).2.2.1⟩,⟨by rw [show n - (i+1)=q from by have:=HQ.out;omega];exact Bm.out⟩⟩
    | succ kk=>
     obtain⟨kp,hkp⟩: ∃kp,kp=kk+1:=⟨_,rfl⟩
     simp only [← hkp] at hf hR2 vU;obtain⟨s,hs⟩: ∃s,s=i+kp:=⟨_,rfl⟩
     have hfs:=BO hf;have hsn:s < n:=by have:=mG.out;omega
     have hsi: ¬ s=i:=by omega
     have hik:IntKind.i64.wrap ((i:Int)+(kp:Int))=(s:Int):=by rw [IntWalk.i64_in _ (by have:=HN.out;omega),hs];rfl
     have hnz:M s i≠0:=by rw [hs];exact hfs.2.2.1
     rw [← hs] at hR2;have HNZ:=q_ hnz;have HSN:=q_ hsn;have HSI:=q_ hsi;have Bm:=q_ hR2;have hkz:(0:Int) < (kp:Int):=by omega
     have asV: ¬ (kp:Int) < 0:=by omega
     clear hR2 hf HF hfs hnz hs hkp kk
     go_wp2_with fail
     refine vU.out.mono ?_
     rintro e w2 ⟨rfl,hb2⟩;have ag:=q_ (ah.out.step hb2);have CB:aE (w2.cell? ⟨wr.heap.size,0,none⟩=some (.int .i64 (i:Int))):=⟨(hb2.cell (p:=⟨wr.heap.size,0,none⟩) (by simp)).trans E7.out⟩
     generalize wr.heap.size=pv at*
     clear hb2 vU HO ah HR E7;have aa:=q_ (ag.out.step (mH (Below.refl w2.heap.size w2)));have yK:aE (w2.drew.cell? ⟨pv,0,none⟩=some (.int .i64 (i:Int))):=⟨CB.out⟩
     have HSW:=q_ (aa.out.swap mG.out HSN.out);have hp0:=yK.out;have hgs:=(aa.out.og s HSN.out).1;have aeg:=(aa.out.og s HSN.out).2;have hgi:=(aa.out.og i mG.out).1;have ai6:=(aa.out.og i mG.out).2;have hst:(w2.drew.setCell ⟨g,i,none⟩ (.slice (some ⟨b s,0,none⟩) n (cp s))).cell? ⟨g,s,none⟩=some (.slice (some ⟨b s,0,none⟩) n (cp s)):=by rw [qD (by intro e;exact HSI.out (congrArg Addr.off e).symm)];exact hgs
     have aiX:(w2.drew.setCell ⟨g,i,none⟩ (.slice (some ⟨b s,0,none⟩) n (cp s))).frozen? ⟨g,s,none⟩=false:=by rw [xT];exact aeg
     have hsz:(s:Int) < (n:Int):=by omega
     have h0s:(0:Int)≤(s:Int):=by omega
     clear ag CB hsn hsi;go_wp2
     refine qx (n:=20) (S:=fun w'=>w'.cell? ⟨pv,0,none⟩=some (.int .i64 (i:Int))∧w'.cell? ⟨g,s,none⟩=some (.slice (some ⟨b s,0,none⟩) n (cp s))) (ds:= [19]) ⟨hp0,hgs⟩ (fun hHeld=>?_)
     generalize w2.drew=w5 at aa yK HSW hp0 hgs hgi aeg ai6 hst aiX hHeld ⊢
     refine lX 0 28 ?_;refine mg 1 29 ?_;refine lX 2 30 ?_;refine mg 3 31 ?_;refine rm 4 32 5 33 6 34 ?_;refine mg 7 35 ?_;refine rm 8 36 9 37 10 38 ?_;refine mg 11 39 ?_;refine lX 12 40 ?_;refine mg 13 41 ?_;refine lX 14 42 ?_
     refine pz 15 (some 43) (fun K hK=>?_)
     refine DG (w1:=w5) (v:= .slice (some ⟨b i,0,none⟩) n (cp i)) (by rfl) rfl (by go_simp) ?_
     refine hK.out _ _ hHeld (fun hHeld=>?_)
     clear hK K;refine mP (a':=?_) ?_ ?_
     rotate_left
     ·show Act.put _ (some 43) _=_
      simp only [Act.put,List.setIfInBounds_toArray,List.set_cons_zero,List.set_cons_succ,mT,nr]
      rfl
     refine lX 16 44 ?_
     refine pz 17 none (fun K hK=>?_)
     refine rL (w1:=?_) (by rfl) rfl ?_ ?_
     rotate_left
     ·go_simp
      rfl
     refine hK.out _ _ ⟨(qD (by intro e;exact HNG.out (congrArg Addr.block e))).trans hp0,hst⟩ (fun hHeld=>?_)
     clear hK K;refine lX 18 45 ?_
     refine DU 19 none (fun K hK=>?_)
     refine rL (w1:=?_) (by rfl) rfl ?_ ?_
     rotate_left
     ·go_simp
      rfl
     refine hK.out _ _ ?_
     clear hK K;refine oA (by kernel_rfl) ?_
     have CB:aE (((w5.setCell ⟨g,i,none⟩ (.slice (some ⟨b s,0,none⟩) n (cp s))).setCell ⟨g,s,none⟩ (.slice (some ⟨b i,0,none⟩) n (cp i))).cell? ⟨pv,0,none⟩=some (.int .i64 (i:Int))):=⟨by
      rw [qD (by intro e;exact HNG.out (congrArg Addr.block e)),qD (by intro e;exact HNG.out (congrArg Addr.block e))];exact yK.out⟩
     have akc:aE (∀j,j < n→b (sw i s j)≠pv):=⟨fun j hj=>HNB.out _ (EU mG.out HSN.out hj)⟩
     have afe:aE ((fun j=>M (sw i s j)) i i≠0):=⟨by show M (sw i s i) i≠0;rw [show sw i s i=s from by simp [sw]];exact HNZ.out⟩
     have HR3:aE (JJ n q (i+1) (el (fun j=>M (sw i s j)) i last) ((fun j=>M (sw i s j)) i i) (wrap64 (-turn))=R):=Bm;clear Bm HNB HNZ aa yK hp0 hgs hgi aeg ai6 hst aiX hHeld;have ag:=HSW;clear HSW
     generalize (w5.setCell ⟨g,i,none⟩ (.slice (some ⟨b s,0,none⟩) n (cp s))).setCell ⟨g,s,none⟩ (.slice (some ⟨b i,0,none⟩) n (cp i))=w6 at ag CB ⊢
     generalize Value.bool (decide ((kp:Int) < 0))=uu1
     generalize Value.bool (decide (0 < kp))=uu2
     have ⟨b2,hb2⟩: ∃b2:Nat→Nat,b2=fun j=>b (sw i s j):=⟨_,rfl⟩
     have ⟨y9,ai9⟩: ∃y9:Nat→Nat,y9=fun j=>cp (sw i s j):=⟨_,rfl⟩
     have ⟨M2,hM2⟩: ∃M2:lE,M2=fun j=>M (sw i s j):=⟨_,rfl⟩
     have HNB:aE (∀j,j < n→b2 j≠pv):=⟨fun j hj=>by rw [hb2];exact akc.out j hj⟩
     rw [← hb2, ← ai9, ← hM2] at ag;rw [← hM2] at afe HR3;have Bm:=HR3;clear HR3 akc hb2 ai9 hM2;have HF:=afe;clear afe;have aeh:IntKind.i64.wrap ((i:Int)+1)=((i+1:Nat):Int):=by rw [IntWalk.i64_in _ (by have:=HN.out;have:=mG.out;omega)];rfl
     have Xa:=q_ aeh;have ant:((i+1:Nat):Int)≤(n:Int):=by have:=mG.out;omega
     have anN:(0:Int)≤((i+1:Nat):Int):=by omega
     by_cases hcc:cap=i+1
     ·have hp0:=CB.out;have hn1:n=i+1:=by have:=afg.out;have:=mG.out;omega
      have h00: ¬ (0:Int) < ((n - (i+1):Nat):Int):=by omega
      have Hs:=q_ hn1;have anH:=eq_true hcc;clear hn1 hcc;go_wp2
      go_loopg [53] 1 (fun gg UL w3=>UL= .int .i64 0∧aE (Own w w3 g n b2 y9 M2)∧aE (w3.cell? ⟨pv,0,none⟩=some (.int .i64 (i:Int))))
      case atStart=>exact⟨rfl,ag,CB⟩
      case round=>
       clear ag CB hp0;obtain⟨rfl,aa,yK⟩:=hrel;have ae:=q_ (aa.out.step (mH (Below.refl wr.heap.size wr)));have zn:aE (wr.drew.cell? ⟨pv,0,none⟩=some (.int .i64 (i:Int))):=⟨yK.out⟩
       have hp3:=zn.out;have hog:=(ae.out.og i mG.out).1;have hii:=(ae.out.ob i i mG.out mG.out).1;go_wp2
       refine qx (n:=8) (S:=fun w'=>w'.cell? ⟨pv,0,none⟩=some (.int .i64 (i:Int))∧w'.cell? ⟨g,i,none⟩=some (.slice (some ⟨b2 i,0,none⟩) n (y9 i))∧w'.cell? ⟨b2 i,i,none⟩=some (.int .i64 ((M2) i i))) (ds:= []) ⟨hp3,hog,hii⟩ (fun hHeld=>?_)
       generalize wr.drew=w5 at ae zn hp3 hog hii hHeld ⊢
       refine lX 0 96 ?_;refine mg 1 97 ?_;refine lX 2 98 ?_;refine mg 3 99 ?_;refine mg 4 100 ?_;refine lX 5 101 ?_;refine mg 6 102 ?_;refine lX 7 4 ?_
       refine oA (by kernel_rfl) ?_
       go_wp2
       go_roundg (n - (i+1))
       case measure=>have:=HG.out;have:=mG.out;omega
       case rel=>exact⟨i+1,el (M2) i last,b2,y9,(M2) i i,wrap64 (-turn),by have:=mG.out;omega,by omega,rfl,rfl,by first | rfl | (rw [Xa.out]),⟨ae.out.congr (fun a b ha _=>by unfold el;rw [if_neg (by have:=Hs.out;omega)])⟩,HF,⟨by rw [show n - (i+1)=q from by have:=HQ.out;omega];exact Bm.out⟩⟩
     ·have hp0:=CB.out;go_wp2
      go_loopg [53] n (fun gg UL w3=> ∃t:Nat,i+1+t≤n∧n - (i+1+t)≤gg∧UL= .int .i64 (t:Int)∧aE (Own w w3 g n b2 y9 (mid M2 i last (i+1+t) i))∧aE (w3.cell? ⟨pv,0,none⟩=some (.int .i64 (i:Int))))
      case atStart=>exact⟨0,by have:=mG.out;omega,by omega,by simp,⟨ag.out.congr (fun a b _ _=>(Rp _ i last a b).symm)⟩,CB⟩
      case round=>
       clear ag CB hp0;obtain⟨t,ht,hg2,rfl,aa,yK⟩:=hrel;have HT:=q_ ht;have HG2:=q_ hg2
       by_cases htn:i+1+t < n
       ·have htz:(t:Int) < ((n - (i+1):Nat):Int):=by omega
        have h0t:(0:Int)≤(t:Int):=by omega
        have Gg:=q_ htn;have hog:=(aa.out.og (i+1+t) htn).1;have hf0:=(aa.out.ob (i+1+t) i htn mG.out).1;rw [O6 _ i last (i+1+t) i i (Nat.le_refl _)] at hf0;have hp3:=yK.out;have ht1:IntKind.i64.wrap ((t:Int)+1)=((t+1:Nat):Int):=by rw [IntWalk.i64_in _ (by have:=HN.out;omega)];rfl
        have JM:=q_ ht1
        generalize hr:i+1+t=r at*
        have Bl:=q_ hr;have htr:i+1+t=r:=hr;clear hr;go_wp2
        go_loopg [11] n (fun gg v11 w4=> ∃c':Nat,i≤c'∧c'≤n∧n - c'≤gg∧v11= .int .i64 (c':Int)∧aE (Own w w4 g n b2 y9 (mid M2 i last r c'))∧aE (w4.cell? ⟨pv,0,none⟩=some (.int .i64 (i:Int))))
        case atStart=>exact⟨i,Nat.le_refl _,HI.out,by omega,rfl,aa,yK⟩
        case round=>
         clear aa yK hp3 hog hf0;obtain⟨c',hc1,hc2,hg3,rfl,ae,zn⟩:=hrel;have qy:=q_ hc1;have wv:=q_ hc2;have HG3:=q_ hg3
         by_cases hcn:c' < n
         ·have hcz:(c':Int) < (n:Int):=by omega
          have h0c:(0:Int)≤(c':Int):=by omega
          have I6:=q_ hcn;have af:=q_ (ae.out.step (mH (Below.refl wr.heap.size wr)));have Lc:aE (wr.drew.cell? ⟨pv,0,none⟩=some (.int .i64 (i:Int))):=⟨zn.out⟩
          have h1:=(af.out.ob r c' Gg.out hcn).1;have h1f:=(af.out.ob r c' Gg.out hcn).2;have h2:=(af.out.og i mG.out).1;have h3:=(af.out.ob i i mG.out mG.out).1;have h4:=(af.out.ob i c' mG.out hcn).1;rw [O6 _ i last r c' c' (Nat.le_refl _)] at h1;rw [GH] at h3 h4;have hp4:=Lc.out;have hl0:(last==0)=false:=by have:=HL.out;simpa using this
          have hl1: ¬ last=0:=HL.out;have aek:IntKind.i64.wrap ((c':Int)+1)=((c'+1:Nat):Int):=by rw [IntWalk.i64_in _ (by have:=HN.out;omega)];rfl
          have Xd:=q_ aek;clear hc1 hc2 hg3 hcn;go_wp2
          refine qx (n:=28) (S:=fun w'=>w'.cell? ⟨b2 r,c',none⟩=some (.int .i64 ((M2) r c'))∧w'.cell? ⟨pv,0,none⟩=some (.int .i64 (i:Int))∧w'.cell? ⟨g,i,none⟩=some (.slice (some ⟨b2 i,0,none⟩) n (y9 i))∧w'.cell? ⟨b2 i,i,none⟩=some (.int .i64 ((M2) i i))∧w'.cell? ⟨b2 i,c',none⟩=some (.int .i64 ((M2) i c'))) (ds:= [27]) ⟨h1,hp4,h2,h3,h4⟩ (fun hHeld=>?_)
          generalize wr.drew=w5 at af Lc h1 hp4 h2 h3 h4 h1f hHeld ⊢
          refine sB 0 68 1 69 2 70 3 71 ?_;refine lX 4 72 ?_;refine mg 5 73 ?_;refine lX 6 74 ?_;refine mg 7 75 ?_;refine lX 8 76 ?_;refine mg 9 77 ?_;refine mg 10 78 ?_;refine lX 11 79 ?_;refine mg 12 80 ?_;refine rm 13 81 14 82 15 83 ?_;refine mg 16 84 ?_;refine lX 17 85 ?_;refine mg 18 86 ?_;refine sU 19 87 20 88 ?_;refine mg 21 89 ?_;refine sB 22 90 23 91 24 92 25 93 ?_;refine lX 26 94 ?_
          refine DU 27 none (fun K hK=>?_)
          refine rL (w1:=?_) (by rfl) rfl ?_ ?_
          rotate_left
          ·go_simp
           rfl
          refine hK.out _ _ ?_
          clear hK K;refine oA (by kernel_rfl) ?_
          go_wp2
          go_roundg (n - (c'+1))
          case measure=>have:=HG3.out;have:=I6.out;omega
          case rel=>
           have hput:=(af.out.put Gg.out I6.out (ev M2 i last r c')).congr (M':=mid M2 i last r (c'+1)) (fun a b _ _=>Vc _ i last r c' (by have:=Bl.out;omega) qy.out a b);refine⟨c'+1,by have:=qy.out;omega,I6.out,by omega,by first | rfl | (rw [Xd.out]) | (simp [Xd.out]),⟨hput⟩,⟨?_⟩⟩
           rw [qD (by intro e;exact HNB.out r Gg.out (congrArg Addr.block e))];exact Lc.out
         ·have hcz: ¬ (c':Int) < (n:Int):=by omega
          obtain rfl:c'=n:=by have:=wv.out;omega
          clear hcn hc1 hc2 hg3;go_wp2
          go_roundg (c' - (r+1))
          case measure=>have:=HG2.out;have:=Gg.out;omega
          case rel=>exact⟨t+1,by have:=Gg.out;have:=Bl.out;omega,by have:=Bl.out;omega,by first | rfl | (rw [JM.out]) | (simp [JM.out]),⟨ae.out.congr (fun a b _ hb=>by rw [Yq _ i last r a b hb,show i+1+(t+1)=r+1 from by have:=Bl.out;omega])⟩,zn⟩
       ·have htz: ¬ (t:Int) < ((n - (i+1):Nat):Int):=by omega
        have hn1:i+1+t=n:=by omega
        rw [hn1] at aa;have ae:=q_ (aa.out.step (mH (Below.refl wr.heap.size wr)));have zn:aE (wr.drew.cell? ⟨pv,0,none⟩=some (.int .i64 (i:Int))):=⟨yK.out⟩
        have hp3:=zn.out;have hog:=(ae.out.og i mG.out).1;have hii:=(ae.out.ob i i mG.out mG.out).1;rw [GH] at hii;clear hn1 htn ht hg2;go_wp2
        refine qx (n:=8) (S:=fun w'=>w'.cell? ⟨pv,0,none⟩=some (.int .i64 (i:Int))∧w'.cell? ⟨g,i,none⟩=some (.slice (some ⟨b2 i,0,none⟩) n (y9 i))∧w'.cell? ⟨b2 i,i,none⟩=some (.int .i64 ((M2) i i))) (ds:= []) ⟨hp3,hog,hii⟩ (fun hHeld=>?_)
        generalize wr.drew=w5 at ae zn hp3 hog hii hHeld ⊢
        refine lX 0 96 ?_;refine mg 1 97 ?_;refine lX 2 98 ?_;refine mg 3 99 ?_;refine mg 4 100 ?_;refine lX 5 101 ?_;refine mg 6 102 ?_;refine lX 7 4 ?_
        refine oA (by kernel_rfl) ?_
        go_wp2
        go_roundg (n - (i+1))
        case measure=>have:=HG.out;have:=mG.out;omega
        case rel=>exact⟨i+1,el (M2) i last,b2,y9,(M2) i i,wrap64 (-turn),by have:=mG.out;omega,by omega,rfl,rfl,by first | rfl | (rw [Xa.out]),⟨ae.out.congr (fun a b ha _=>Yr _ i last a b ha)⟩,HF,⟨by rw [show n - (i+1)=q from by have:=HQ.out;omega];exact Bm.out⟩⟩
  ·obtain rfl:i=n:=by omega
   have pZ: ¬ (i:Int) < (i:Int):=by omega
   rw [Nat.sub_self] at HR;go_wp2
   go_ret
   exact⟨by rw [← HR.out];rfl,HO.out.below⟩
def q7.f (l0:List (List Int)):Option Int:=if l0.length≤1000∧ ∀x ∈ l0,x.length=l0.length then some (JJ l0.length l0.length 0 (en l0) 1 1) else none
theorem aeZ (A:Option Addr) (c:Nat) (w:World) (hr:Kd.C (Kd.slice 2 (Kd.int .i64)) w A 0 []):
  Calls Tryz.prog 132 #[.slice A 0 c] w fun e w'=>e= .returned (.int .i64 1)∧Below w.heap.size w w':=by
 obtain⟨k,hk⟩:=evk (copy_eq [] (by decide) (fun x hx=>by cases hx));have hcopy:=fun W (hW:Below w.heap.size w W)=>pK.calls k A c [] [] W (Kd.nW hr hW) (Nat.zero_le _) hk
 have Qc:=q_ hcopy;clear hcopy hk hr
 go_enter Tryz.func132,Tryz.ntmps132
 go_wp2_with fail
 refine(Qc.out _ (Below.refl _ _)).mono ?_
 rintro e w1 ⟨v0,rfl,hS,hB⟩;obtain⟨A1,c1,rfl⟩:=Kd.nk hS;have HB:=q_ hB;clear Qc hS hB;go_wp2
 go_loopg [4,5,16] 1 (fun gg v4 v5 OU wr=>v4= .int .i64 1∧v5= .int .i64 1∧OU= .int .i64 0∧aE (Below w.heap.size w wr))
 case atStart=>exact⟨rfl,rfl,rfl,HB⟩
 case round=>
  obtain⟨rfl,rfl,rfl,AG⟩:=hrel;go_wp2
  go_ret
  exact⟨by rfl,AG.out⟩
theorem q7.calls (A0:Option Addr) (c0:Nat) (l0:List (List Int)) (r:Int) (w:World) (hr0:Kd.C (Kd.slice 2 (Kd.int .i64)) w A0 l0.length l0) (hc0:l0.length≤c0) (h:q7.f l0=some r):
  Calls Tryz.prog 132 #[.slice A0 l0.length c0] w fun e w'=>e= .returned (.int .i64 r)∧Below w.heap.size w w':=by
 unfold q7.f at h
 split at h
 case isFalse=>cases h
 rename_i hc
 have h:=Option.some.inj h
 by_cases hp:0 < l0.length
 ·exact abO l0.length r A0 c0 l0 w hr0 hc0 rfl hp hc.1 hc.2 h
 ·have e:l0= []:=List.eq_nil_of_length_eq_zero (by omega);subst e;have e1:r=1:=by rw [← h];show wrap64 (1*1)=1;exact nH (by omega) (by omega)
  subst e1;exact aeZ A0 c0 w hr0
end Go.Proofs.YthmfdplckdijdaaGreat.Pr
end
section
namespace Go.Proofs.YthmfdplckdijdaaGreat.Pr
open Go.RowKit Wz.cw Wz.fX Wz.cX
attribute [local go_sem] nV nT oF oD nC nB nU nS
mutual
def nO.l0:Nat→Int→Int→List (List Int)→List (List Int)→Int→Int→Option ((List (List Int)))
 | 0,_,_,_,_,_,_=>none
 | k+1,x1,x2,x7,wP,rQ,tB=>if tB < rQ then(if 0≤tB then(if tB < (wP.length:Int) then((wC.f x1 tB).bind fun aa=>(if aa=true then(nO.l1 k x1 x2 x7 ([]:List Int) wP rQ tB (d5 wP tB) ((d5 wP tB).length:Int) 0) else(nO.l0 k x1 x2 x7 wP rQ (wrap64 (tB+1))))) else(none)) else(none)) else(some x7)
def nO.l1:Nat→Int→Int→List (List Int)→List Int→List (List Int)→Int→Int→List Int→Int→Int→Option ((List (List Int)))
 | 0,_,_,_,_,_,_,_,_,_,_=>none
 | k+1,x1,x2,x7,x10,wP,rQ,tB,x24,x25,UH=>if UH < x25 then(if 0≤UH then(if UH < (x24.length:Int) then((wC.f x2 UH).bind fun ae=>(if ae=true then(if x10.length < 17592186044416 then(nO.l1 k x1 x2 x7 (x10++ [rd x24 UH]) wP rQ tB x24 x25 (wrap64 (UH+1))) else(none)) else(nO.l1 k x1 x2 x7 x10 wP rQ tB x24 x25 (wrap64 (UH+1))))) else(none)) else(none)) else(if x7.length < 5864062014805 then(nO.l0 k x1 x2 (x7++ [x10]) wP rQ (wrap64 (tB+1))) else(none))
end
def nO.f (k:Nat) (l0:List (List Int)) (a1:Int) (a2:Int):Option ((List (List Int))):=nO.l0 k a1 a2 ([]:List (List Int)) l0 (l0.length:Int) 0
theorem nO.calls (k:Nat) (A0:Option Addr) (c0:Nat) (l0:List (List Int)) (a1:Int) (a2:Int) (r:List (List Int)) (w:World) (hr0:Kd.C (Kd.slice 2 (Kd.int .i64)) w A0 l0.length l0) (hc0:l0.length≤c0) (h:nO.f k l0 a1 a2=some r):
  Calls Tryz.prog 148 #[.slice A0 l0.length c0, .int .i64 a1, .int .i64 a2] w fun e w'=> ∃qg:Value,e= .returned (qg)∧Kd.S (Kd.slice 2 (Kd.int .i64)) 24 w' w.heap.size (fun _=>True) qg r∧Below w.heap.size w w':=by
 have qE:=q_ hr0;have uG:=q_ hc0;clear hr0 hc0;have HB:=q_ (Below.refl w.heap.size w);have H:(nO.l0 k a1 a2 ([]:List (List Int)) l0 (l0.length:Int) 0)=some r:=h;clear h;have H':=q_ H;clear H
 go_enter Tryz.func148,Tryz.ntmps148
 go_wp2
 go_loopg [7,15] k (fun kq v7 Jy w'=> ∃(ag:List (List Int)) (aa:Int),Jy= .int .i64 aa∧aE (nO.l0 kq a1 a2 ag l0 (l0.length:Int) aa=some r)∧aE (kq≤k)∧aE (Kd.S (Kd.slice 2 (Kd.int .i64)) 24 w' w.heap.size (fun _=>True) v7 ag)∧aE (Below w.heap.size w w'))
 case atStart=>exact⟨(([]:List (List Int))),(0),nM,H',⟨Nat.le_refl _⟩,⟨by first | exact Kd.sJ _ _ _ _ _ | exact Kd.uy _ _ _ _ _ | exact Kd.uw _ _ _ _ _ | exact Kd.ux _ _ _ _ _ | exact Kd.qT _ _ _ _ _⟩,⟨hb_⟩⟩
 case round=>
  clear H';obtain⟨ag,aa,rfl,HA,nA,ah,HB⟩:=hrel;cases gk with
  | zero=>exact absurd HA.out (by simp [nO.l0])
  | succ k1=>
   have H:=HA.out;clear HA;simp only [nO.l0] at H
   by_cases c4:aa < (l0.length:Int)
   ·rw [if_pos c4] at H;have qv:=decide_eq_true c4;clear c4
    by_cases c5:0≤aa
    ·rw [if_pos c5] at H;have uP:=decide_eq_true c5;clear c5
     by_cases c6:aa < (l0.length:Int)
     ·rw [if_pos c6] at H;have uj:=decide_eq_true c6;clear c6;replace H:=Option.bind_eq_some_iff.mp H;obtain⟨aj,CD,H⟩:=H;replace H:(if aj=true then(nO.l1 k1 a1 a2 ag ([]:List Int) l0 (l0.length:Int) aa (d5 l0 aa) ((d5 l0 aa).length:Int) 0) else(nO.l0 k1 a1 a2 ag l0 (l0.length:Int) (wrap64 (aa+1))))=some r:=H;have A7:=q_ CD;clear CD
      by_cases c8:aj=true
      ·subst c8;have H1:(nO.l1 k1 a1 a2 ag ([]:List Int) l0 (l0.length:Int) aa (d5 l0 aa) ((d5 l0 aa).length:Int) 0)=some r:=by rw [if_pos rfl] at H;exact H
       clear H;have H:=H1;clear H1;have H':=q_ H;clear H;have Ig:0≤(aa:Int):=l7;have Ib:aa < (l0.length:Int):=l7;obtain⟨az,ak,aq,aeQ,Au,FP,FZ⟩:=pI qE.out aa Ig Ib;cases aeQ
       replace Au:=bc_ HB.out Au;have Q0:=q_ FZ;have ah6:=q_ FP;clear FZ FP;replace Ig:=eq_true Ig;replace Ib:=eq_true Ib
       go_wp2_with (first | ((with_reducible refine d8 (f:=53) rfl ?_);refine oJ 22 Tryz.func53 #[.int .i64 a1, .int .i64 aa] ?_;(with_reducible refine(wC.calls a1 aa true _ A7.out).mono ?_);rintro e w' ⟨rfl,⟨nd,rfl⟩⟩;refine⟨_,rfl,?_⟩))
       go_loopg [10,26] k1 (fun kq v10 v26 w'=> ∃(af:List Int) (ae:Int),v26= .int .i64 ae∧aE (nO.l1 kq a1 a2 ag af l0 (l0.length:Int) aa (d5 l0 aa) ((d5 l0 aa).length:Int) ae=some r)∧aE (kq≤k1)∧aE (Kd.S (Kd.slice 2 (Kd.int .i64)) 24 w' w.heap.size (fun k_=>some k_≠(v10:Value).ownBlock) u7 ag)∧aE (Kd.R (Kd.int .i64) 2 w' w.heap.size (fun _=>True) v10 af)∧aE (Below w.heap.size w w'))
       case atStart=>exact⟨(([]:List Int)),(0),nM,H',⟨Nat.le_refl _⟩,⟨kS_ ah.out (fun _ hk=>(by simp [Value.ownBlock]))⟩,⟨by first | exact Kd.qT _ _ _ _ _ | exact Kd.uy _ _ _ _ _ | exact Kd.uw _ _ _ _ _ | exact Kd.ux _ _ _ _ _ | exact Kd.sJ _ _ _ _ _⟩,⟨hb_⟩⟩
       case round=>
        clear H';(try clear qv);(try clear c5);(try clear uP);(try clear c6);(try clear uj);(try clear c8);(try clear Au);(try clear Ig);(try clear Ib);obtain⟨af,ae,rfl,HA,rA,ah,ai,HB⟩:=hrel;cases gk with
        | zero=>exact absurd HA.out (by simp [nO.l1])
        | succ k2=>
         have H:=HA.out;clear HA;simp only [nO.l1] at H
         by_cases c9:ae < ((d5 l0 aa).length:Int)
         ·rw [if_pos c9] at H;have Ab:=decide_eq_true c9;clear c9
          by_cases qF:0≤ae
          ·rw [if_pos qF] at H;have xU:=decide_eq_true qF;clear qF
           by_cases yp:ae < ((d5 l0 aa).length:Int)
           ·rw [if_pos yp] at H;have PS:=decide_eq_true yp;clear yp;replace H:=Option.bind_eq_some_iff.mp H;obtain⟨au,Xh,H⟩:=H;replace H:(if au=true then(if af.length < 17592186044416 then(nO.l1 k2 a1 a2 ag (af++ [rd (d5 l0 aa) ae]) l0 (l0.length:Int) aa (d5 l0 aa) ((d5 l0 aa).length:Int) (wrap64 (ae+1))) else(none)) else(nO.l1 k2 a1 a2 ag af l0 (l0.length:Int) aa (d5 l0 aa) ((d5 l0 aa).length:Int) (wrap64 (ae+1))))=some r:=H;have Ey:=q_ Xh;clear Xh
            by_cases rz:au=true
            ·subst rz;have H1:(if af.length < 17592186044416 then(nO.l1 k2 a1 a2 ag (af++ [rd (d5 l0 aa) ae]) l0 (l0.length:Int) aa (d5 l0 aa) ((d5 l0 aa).length:Int) (wrap64 (ae+1))) else(none))=some r:=by rw [if_pos rfl] at H;exact H
             clear H;have H:=H1;clear H1
             by_cases tI:af.length < 17592186044416
             ·rw [if_pos tI] at H;have aA:=q_ tI;clear tI;obtain⟨av,hy⟩: ∃y_:List Int,y_=(af++ [rd (d5 l0 aa) ae]):=⟨_,rfl⟩
              replace H:(nO.l1 k2 a1 a2 ag av l0 (l0.length:Int) aa (d5 l0 aa) ((d5 l0 aa).length:Int) (wrap64 (ae+1)))=some r:=hh_;have aC:=q_ hy;clear hy;have H':=q_ H;clear H;have KH:0≤(ae:Int):=l7;have Kg:ae < ((d5 l0 aa).length:Int):=l7;obtain⟨aD,aeP,BL⟩:=Kd.mA Q0.out ae KH Kg;cases aeP
              replace BL:=bc_ HB.out BL;replace KH:=eq_true KH;replace Kg:=eq_true Kg
              go_wp2_with (first | ((with_reducible refine d8 (f:=53) rfl ?_);refine oJ 33 Tryz.func53 #[.int .i64 a2, .int .i64 ae] ?_;(with_reducible refine(wC.calls a2 ae true _ Ey.out).mono ?_);rintro e w' ⟨rfl,⟨nd,rfl⟩⟩;refine⟨_,rfl,?_⟩) | ((with_reducible refine nL (b:= .append) (xs:= #[.tmp 34, .tmp 36]) rfl ?_);at_builtin;refine Kd.qo (Kd.int .i64) (w0:=w) w.heap.size rfl (.tmp 34) (.tmp 36) 24 2 (.int .i64 0) 8 rfl Tryz.underlying24 q6 rfl (by decide) (by omega) u10 af (rd (d5 l0 aa) ae) [.int .i64 (rd (d5 l0 aa) ae)] (fun _=>True) (fun _=>False) rfl rfl ?aP (fun _ hk=>hk.elim) ?aF ?aO ?aB ?aS ?aL ?_;(case aP=>exact rfl);(case aB=>exact hb_);(case aF=>exact(fun _ _=>trivial));(case aO=>exact(m5 ai.out));(case aS=>exact oI);(case aL=>have:=aA.out;omega);intro aM vu ho hb hg hat;rw [← aC.out] at ho;replace ah:=q_ (Kd.uL (ok:=(fun _=>True)) (kS_ ah.out (fun _ hk=>⟨trivial,hk⟩)) hg hat);replace HB:=q_ (hb);have aG:=q_ (ho);clear ai ho hb hg hat))
              go_roundg k2
              case measure=>have:=nA.out;have:=rA.out;omega
              case rel=>exact⟨(av),(wrap64 (ae+1)),nM,H',⟨by have:=nA.out;have:=rA.out;omega⟩,⟨kS_ ah.out (fun _ hk=>hk.2)⟩,⟨m5 aG.out⟩,⟨hb_⟩⟩
             ·rw [if_neg tI] at H;exact absurd H (by simp)
            ·replace rz:=Bool.eq_false_iff.mpr rz;subst rz;have H1:(nO.l1 k2 a1 a2 ag af l0 (l0.length:Int) aa (d5 l0 aa) ((d5 l0 aa).length:Int) (wrap64 (ae+1)))=some r:=by rw [if_neg (show ¬ (false=true) by decide)] at H;exact H
             clear H;have H:=H1;clear H1;have H':=q_ H;clear H;have KH:0≤(ae:Int):=l7;have Kg:ae < ((d5 l0 aa).length:Int):=l7;obtain⟨aD,aeP,BL⟩:=Kd.mA Q0.out ae KH Kg;cases aeP
             replace BL:=bc_ HB.out BL;replace KH:=eq_true KH;replace Kg:=eq_true Kg
             go_wp2_with (first | ((with_reducible refine d8 (f:=53) rfl ?_);refine oJ 33 Tryz.func53 #[.int .i64 a2, .int .i64 ae] ?_;(with_reducible refine(wC.calls a2 ae false _ Ey.out).mono ?_);rintro e w' ⟨rfl,⟨nd,rfl⟩⟩;refine⟨_,rfl,?_⟩))
             go_roundg k2
             case measure=>have:=nA.out;have:=rA.out;omega
             case rel=>exact⟨(af),(wrap64 (ae+1)),nM,H',⟨by have:=nA.out;have:=rA.out;omega⟩,⟨nw ah.out⟩,⟨m5 ai.out⟩,⟨hb_⟩⟩
           ·rw [if_neg yp] at H;exact absurd H (by simp)
          ·rw [if_neg qF] at H;exact absurd H (by simp)
         ·rw [if_neg c9] at H;have Ab:=decide_eq_false c9;clear c9
          by_cases sL:ag.length < 5864062014805
          ·rw [if_pos sL] at H;have aH:=q_ sL;clear sL;obtain⟨aw,hy⟩: ∃y_:List (List Int),y_=(ag++ [af]):=⟨_,rfl⟩
           replace H:(nO.l0 k2 a1 a2 aw l0 (l0.length:Int) (wrap64 (aa+1)))=some r:=hh_;have aI:=q_ hy;clear hy;have H':=q_ H;clear H;obtain⟨ax,ay,aK⟩:=Kd.mE ai.out;subst aK
           go_wp2_with (first | ((with_reducible refine nL (b:= .append) (xs:= #[.tmp 39, .tmp 41]) rfl ?_);at_builtin;refine Kd.Af (Kd.slice 2 (Kd.int .i64)) (w0:=w) w.heap.size rfl (.tmp 39) (.tmp 41) 32 24 (.slice none 0 0) 24 rfl Tryz.underlying32 yc rfl (by decide) (by omega) u7 ag af [.slice ax af.length ay] (fun _=>True) (fun k_=>some k_=(.slice ax af.length ay:Value).ownBlock) rfl rfl ?aP (fun k_ hk_=>((Kd.fY (ok':=fun k_=>((fun _=>True)) k_∧some k_≠(u7:Value).ownBlock) (Kd.qp (ai.out) (Kd.pQ ah.out) (by decide)) (fun k_ hk=>⟨trivial,hk.2⟩))).1 k_ hk_.symm) ?aF ?aO ?aB ?aS ?aL ?_;(case aP=>exact Kd.zT (Kd.fY (Kd.q5 rfl (Kd.fY (ok':=fun k_=>((fun _=>True)) k_∧some k_≠(u7:Value).ownBlock) (Kd.qp (ai.out) (Kd.pQ ah.out) (by decide)) (fun k_ hk=>⟨trivial,hk.2⟩))) (fun _ h_=>h_)));(case aB=>exact hb_);(case aF=>exact(fun _ _=>trivial));(case aO=>exact(kS_ ah.out (fun k_ hk=>⟨trivial,fun e_=>hk e_⟩)));(case aS=>exact oI);(case aL=>have:=aH.out;omega);intro aN Bp ho hb hg hat;rw [← aI.out] at ho;replace HB:=q_ (hb);have aJ:=q_ (ho);clear ah ai ho hb hg hat))
           go_roundg k2
           case measure=>have:=nA.out;have:=rA.out;omega
           case rel=>exact⟨(aw),(wrap64 (aa+1)),nM,H',⟨by have:=nA.out;have:=rA.out;omega⟩,⟨nw aJ.out⟩,⟨hb_⟩⟩
          ·rw [if_neg sL] at H;exact absurd H (by simp)
      ·replace c8:=Bool.eq_false_iff.mpr c8;subst c8;have H1:(nO.l0 k1 a1 a2 ag l0 (l0.length:Int) (wrap64 (aa+1)))=some r:=by rw [if_neg (show ¬ (false=true) by decide)] at H;exact H
       clear H;have H:=H1;clear H1;have H':=q_ H;clear H;have Ig:0≤(aa:Int):=l7;have Ib:aa < (l0.length:Int):=l7;obtain⟨az,ak,aq,aeQ,Au,FP,FZ⟩:=pI qE.out aa Ig Ib;cases aeQ
       replace Au:=bc_ HB.out Au;have Q0:=q_ FZ;have ah6:=q_ FP;clear FZ FP;replace Ig:=eq_true Ig;replace Ib:=eq_true Ib
       go_wp2_with (first | ((with_reducible refine d8 (f:=53) rfl ?_);refine oJ 22 Tryz.func53 #[.int .i64 a1, .int .i64 aa] ?_;(with_reducible refine(wC.calls a1 aa false _ A7.out).mono ?_);rintro e w' ⟨rfl,⟨nd,rfl⟩⟩;refine⟨_,rfl,?_⟩))
       go_roundg k1
       case measure=>have:=nA.out;omega
       case rel=>exact⟨(ag),(wrap64 (aa+1)),nM,H',⟨by have:=nA.out;omega⟩,⟨nw ah.out⟩,⟨hb_⟩⟩
     ·rw [if_neg c6] at H;exact absurd H (by simp)
    ·rw [if_neg c5] at H;exact absurd H (by simp)
   ·rw [if_neg c4] at H;have qv:=decide_eq_false c4;clear c4;obtain rfl:=Option.some.inj H;go_wp2
    go_ret
    exact⟨_,pH,nw ah.out,hb_⟩
def xS.f (k:Nat) (l0:List (List Int)) (a1:Int):Option (Int):=(nO.f k l0 a1 a1).bind fun aa=>((q7.f aa).bind fun ae=>(some ae))
theorem xS.calls (k:Nat) (A0:Option Addr) (c0:Nat) (l0:List (List Int)) (a1:Int) (r:Int) (w:World) (hr0:Kd.C (Kd.slice 2 (Kd.int .i64)) w A0 l0.length l0) (hc0:l0.length≤c0) (h:xS.f k l0 a1=some r):
  Calls Tryz.prog 162 #[.slice A0 l0.length c0, .int .i64 a1] w fun e w'=>e= .returned (.int .i64 r)∧Below w.heap.size w w':=by
 have qE:=q_ hr0;have uG:=q_ hc0;clear hr0 hc0;have HB:=q_ (Below.refl w.heap.size w);have H:((nO.f k l0 a1 a1).bind fun ae=>((q7.f ae).bind fun af=>(some af)))=some r:=h;clear h;replace H:=Option.bind_eq_some_iff.mp H;obtain⟨ae,sW,H⟩:=H;replace H:((q7.f ae).bind fun af=>(some af))=some r:=H;have A3:=q_ sW;clear sW;replace H:=Option.bind_eq_some_iff.mp H;obtain⟨af,Bo,H⟩:=H;replace H:(some af)=some r:=H;have A4:=q_ Bo;clear Bo;obtain rfl:=Option.some.inj H
 go_enter Tryz.func162,Tryz.ntmps162
 go_wp2_with (first | ((with_reducible refine d8 (f:=148) rfl ?_);refine oJ 8 Tryz.func148 #[.slice A0 l0.length c0, .int .i64 a1, .int .i64 a1] ?_;(with_reducible refine(nO.calls k _ _ l0 a1 a1 ae _ ?ag ?ah A3.out).mono ?_);(case ag=>repeat (first | exact qE.out | (with_reducible refine Kd.sY ?_ _) | (with_reducible refine Kd.sX ?_ _) | (with_reducible refine Kd.uc ?_)));(case ah=>exact uG.out);rintro e w5 ⟨aq,rfl,ho0,hb⟩;refine⟨_,rfl,?_⟩;have aa:=q_ (Kd.oP ho0 oI);replace HB:=lT hb;(try clear hb);(try clear ho0);obtain⟨ai,aj,ak⟩:=Kd.nk aa.out;subst ak) | ((with_reducible refine d8 (f:=132) rfl ?_);refine oJ 9 Tryz.func132 #[.slice ai ae.length aj] ?_;(with_reducible refine(q7.calls _ _ ae af _ ?ag ?ah A4.out).mono ?_);(case ag=>exact PB);(case ah=>exact(Kd.qH aa.out).2.1);rintro e w7 ⟨rfl,hb⟩;refine⟨_,rfl,?_⟩;replace aa:=q_ (Kd.mQ (nw aa.out) hb);replace HB:=lT hb;(try clear hb)))
 go_ret
 exact⟨pH,hb_⟩
end Go.Proofs.YthmfdplckdijdaaGreat.Pr
end
section
namespace Go.Proofs.YthmfdplckdijdaaGreat.Cz
open Go.RowKit Wz.cw Wz.cX Ma Pr Dt Bz Un
def en (l:List (List Int)):lE:=fun i j=>(l.getD i []).getD j 0
structure Sq (n:Nat) (l:List (List Int)):Prop where
 len:l.length=n
 row: ∀i,i < n→(l.getD i []).length=n
 num: ∀i j,i < n→j < n→(en l i j).natAbs≤20
theorem ZM (l:List (List Int)) (i:Nat):d5 l (i:Int)=l.getD i []:=by simp [d5]
def rw1 (m:Nat) (f:Nat→Int):List Int:=(List.range m).map f
def mk (r m:Nat) (f:Nat→Nat→Int):List (List Int):=(List.range r).map fun i=>rw1 m (f i)
def zQ (l:List (List Int)) (R L:List Nat):List (List Int):=R.map fun i=>L.map fun j=>en l i j
theorem has_eq' (s:Int) (c:Nat) (hc:c < 64):wC.f s (c:Int)=some (bB s c):=by
 unfold wC.f
 rw [if_pos (by omega),XI s hc]
 congr 1
 cases hb:bB s c <;> simp
theorem RX {n:Nat} {l:List (List Int)} (hn:n≤5) (hl:l.length=n) (hrow: ∀i,i < n→(l.getD i []).length=n) (s:Int):Ev (fun k=>nO.f k l s s) (zQ l (sel n (bB s)) (sel n (bB s))):=by
 have UU (i:Nat):sel (i+1) (bB s)=if bB s i=true then sel i (bB s)++ [i] else sel i (bB s):=by
  unfold sel;rw [List.range_succ,List.filter_append]
  by_cases b:bB s i=true
  ·simp [b]
  ·simp [b]
 have Yf (i:Nat):(sel i (bB s)).length≤i:=by unfold sel;have:=List.length_filter_le (bB s) (List.range i);simpa using this
 have rows: ∀q i,i+q=n→Ev (fun k=>nO.l0 k s s (zQ l (sel i (bB s)) (sel n (bB s))) l (n:Int) i) (zQ l (sel n (bB s)) (sel n (bB s))):=by
  intro q
  induction q with
  | zero=>
   intro i hi
   obtain rfl:i=n:=by omega
   exact mC (fun k=>by rw [nO.l0]) (lV (by omega) (oK rfl))
  | succ q ih=>
   intro i hi
   have nx:=ih (i+1) (by omega)
   rw [UU] at nx
   have hr:=hrow i (by omega)
   refine mC (fun k=>by rw [nO.l0]) (cY (by omega) (cY (by omega) (cY (by omega) (qW (has_eq' s i (by omega)) ?_))))
   rw [nH (x:=(i:Int)+1) (by omega) (by omega)]
   by_cases b:bB s i=true
   ·refine cY b ?_
    rw [if_pos b] at nx
    rw [ZM]
    have qL: ∀p c,c+p=n→Ev (fun k=>nO.l1 k s s (zQ l (sel i (bB s)) (sel n (bB s))) ((sel c (bB s)).map fun j=>en l i j) l (n:Int) i (l.getD i []) ((l.getD i []).length:Int) c) (zQ l (sel n (bB s)) (sel n (bB s))):=by
     intro p
     induction p with
     | zero=>
      intro c hc
      obtain rfl:c=n:=by omega
      refine mC (fun k=>by rw [nO.l1]) (lV (by omega) (cY ?_ ?_))
      ·unfold zQ;rw [List.length_map];have:=Yf i;omega
      ·rw [nH (x:=(i:Int)+1) (by omega) (by omega)]
       unfold zQ at nx ⊢
       rw [List.map_append] at nx
       exact nx
     | succ p Bq=>
      intro c hc
      have nx2:=Bq (c+1) (by omega)
      rw [UU] at nx2
      refine mC (fun k=>by rw [nO.l1]) (cY (by omega) (cY (by omega) (cY (by omega) (qW (has_eq' s c (by omega)) ?_))))
      rw [nH (x:=(c:Int)+1) (by omega) (by omega)]
      by_cases b2:bB s c=true
      ·rw [if_pos b2,List.map_append] at nx2
       refine cY b2 (cY (by rw [List.length_map];have:=Yf c;omega) ?_)
       rw [rT]
       exact nx2
      ·rw [if_neg b2] at nx2
       exact lV b2 nx2
    have:=qL n 0 (by omega)
    exact this
   ·rw [if_neg b] at nx
    exact lV b nx
 have:=rows n 0 (by omega)
 unfold nO.f
 rw [hl]
 exact this
section
variable {n:Nat} {l:List (List Int)} (h:Sq n l) (hn:n≤5) (s:Int)
include h hn
theorem Vp:Ev (fun k=>nO.f k l s s) (zQ l (sel n (bB s)) (sel n (bB s))):=RX hn h.len h.row s
end
end Go.Proofs.YthmfdplckdijdaaGreat.Cz
end
section
namespace Go.Proofs.YthmfdplckdijdaaGreat.Pr
open Go.RowKit Wz.cw Wz.fX Wz.cX
attribute [local go_sem] nV nT oF oD nC nB nU nS
def nX.f (a0:Int) (a1:Int) (a2:Int):Option (Bool):=if a0 ≥ a1 then(some (decide (a0≤a2))) else(some false)
theorem nX.calls (a0:Int) (a1:Int) (a2:Int) (r:Bool) (w:World) (h:nX.f a0 a1 a2=some r):
  Calls Tryz.prog 43 #[.int .i64 a0, .int .i64 a1, .int .i64 a2] w fun e w'=>e= .returned (.bool r)∧lP w w':=by
 have H:(if a0 ≥ a1 then(some (decide (a0≤a2))) else(some false))=some r:=h;clear h
 by_cases c4:a0 ≥ a1
 ·rw [if_pos c4] at H;have qv:=decide_eq_true c4;clear c4;obtain rfl:=Option.some.inj H
  go_enter Tryz.func43,Tryz.ntmps43
  go_wp2
  go_ret
  exact⟨by first | rfl | (simp;done) | (simp [*];done),by repeat (first | exact lP.refl _ | apply lP.step)⟩
 ·rw [if_neg c4] at H;have qv:=decide_eq_false c4;clear c4;obtain rfl:=Option.some.inj H
  go_enter Tryz.func43,Tryz.ntmps43
  go_wp2
  go_ret
  exact⟨by first | rfl | (simp;done) | (simp [*];done),by repeat (first | exact lP.refl _ | apply lP.step)⟩
mutual
def mz.j0:Nat→List (List Int)→Int→Bool→Option (Bool)
 | 0,_,_,_=>none
 | k+1,x0,x3,wP=>if wP=true then(some false) else(mz.l0 k x0 x3 0)
def mz.l0:Nat→List (List Int)→Int→Int→Option (Bool)
 | 0,_,_,_=>none
 | k+1,x0,x3,x4=>if x4 < x3 then(if 0≤x4 then(if x4 < (x0.length:Int) then(if((d5 x0 x4).length:Int)=x3 then(mz.l1 k x0 x3 x4 0) else(some false)) else(none)) else(none)) else(some true)
def mz.l1:Nat→List (List Int)→Int→Int→Int→Option (Bool)
 | 0,_,_,_,_=>none
 | k+1,x0,x3,x4,x5=>if x5 < x3 then(if 0≤x4 then(if x4 < (x0.length:Int) then(if 0≤x5 then(if x5 < ((d5 x0 x4).length:Int) then((nX.f (rd (d5 x0 x4) x5) (-20) 20).bind fun aa=>(if aa=true then(mz.l1 k x0 x3 x4 (wrap64 (x5+1))) else(some false))) else(none)) else(none)) else(none)) else(none)) else(mz.l0 k x0 x3 (wrap64 (x4+1)))
end
def mz.f (k:Nat) (l0:List (List Int)):Option (Bool):=if(l0.length:Int) < 1 then(mz.j0 k l0 (l0.length:Int) true) else(mz.j0 k l0 (l0.length:Int) (decide ((l0.length:Int) > 5)))
theorem mz.calls (k:Nat) (A0:Option Addr) (c0:Nat) (l0:List (List Int)) (r:Bool) (w:World) (hr0:Kd.C (Kd.slice 2 (Kd.int .i64)) w A0 l0.length l0) (hc0:l0.length≤c0) (h:mz.f k l0=some r):
  Calls Tryz.prog 81 #[.slice A0 l0.length c0] w fun e w'=>e= .returned (.bool r)∧lP w w':=by
 have qE:=q_ hr0;have uG:=q_ hc0;clear hr0 hc0;have H:(if(l0.length:Int) < 1 then(mz.j0 k l0 (l0.length:Int) true) else(mz.j0 k l0 (l0.length:Int) (decide ((l0.length:Int) > 5))))=some r:=h;clear h;have wv:=q_ H;clear H
 go_enter Tryz.func81,Tryz.ntmps81
 go_upto_region 2 with (fail)
 go_cut [13] (fun Fp wc=> ∃(kq:Nat) (af:Bool),Fp= .bool af∧aE (mz.j0 kq l0 (l0.length:Int) af=some r)∧aE (kq≤k)∧lP w wc)
 case first=>
  have H:=wv.out;clear wv
  by_cases c3:(l0.length:Int) < 1
  ·rw [if_pos c3] at H;have qP:=decide_eq_true c3;have vV:decide (l0.length < 1)=true:=decide_eq_true (by omega);clear c3
   (first | rw [qP] | (simp only [mT,nr];rw [qP]) | skip)
   have H':=q_ H;clear H;go_wp2
   go_meet
   case rel=>exact⟨_,(true),(by first | rfl | (simp;done) | (simp [*];done)),H',⟨by first | omega | exact Nat.le_refl _⟩,by repeat (first | exact lP.refl _ | apply lP.step)⟩
  ·rw [if_neg c3] at H;have qP:=decide_eq_false c3;have vV:decide (l0.length < 1)=false:=decide_eq_false (by omega);clear c3
   (first | rw [qP] | (simp only [mT,nr];rw [qP]) | skip)
   have H':=q_ H;clear H;go_wp2
   go_meet
   case rel=>exact⟨_,(decide ((l0.length:Int) > 5)),(by first | rfl | (simp;done) | (simp [*];done)),H',⟨by first | omega | exact Nat.le_refl _⟩,by repeat (first | exact lP.refl _ | apply lP.step)⟩
 case rest=>
  clear wv;(try clear qP);(try clear vV);obtain⟨kq,af,rfl,HA,W9,⟨mc1,rfl⟩⟩:=hcut;cases kq with
  | zero=>exact absurd HA.out (by simp [mz.j0])
  | succ Vk=>
   have H:=HA.out;clear HA;simp only [mz.j0] at H
   by_cases c4:af=true
   ·subst c4;have H1:(some false)=some r:=by rw [if_pos rfl] at H;exact H
    clear H;have H:=H1;clear H1;obtain rfl:=Option.some.inj H;go_wp2
    go_ret
    exact⟨by first | rfl | (simp;done) | (simp [*];done),by repeat (first | exact lP.refl _ | apply lP.step)⟩
   ·replace c4:=Bool.eq_false_iff.mpr c4;subst c4;have H1:(mz.l0 Vk l0 (l0.length:Int) 0)=some r:=by rw [if_neg (show ¬ (false=true) by decide)] at H;exact H
    clear H;have H:=H1;clear H1;have H':=q_ H;clear H;go_wp2
    go_loopg [4] Vk (fun kq v4 w'=> ∃(aa:Int),v4= .int .i64 aa∧aE (mz.l0 kq l0 (l0.length:Int) aa=some r)∧aE (kq≤Vk)∧lP w w')
    case atStart=>exact⟨(0),(by first | rfl | (simp;done) | (simp [*];done)),H',⟨Nat.le_refl _⟩,by repeat (first | exact lP.refl _ | apply lP.step)⟩
    case round=>
     clear H';(try clear qP);(try clear vV);(try clear c4);obtain⟨aa,rfl,HA,rA,⟨m2,rfl⟩⟩:=hrel;cases gk with
     | zero=>exact absurd HA.out (by simp [mz.l0])
     | succ k2=>
      have H:=HA.out;clear HA;simp only [mz.l0] at H
      by_cases c5:aa < (l0.length:Int)
      ·rw [if_pos c5] at H;have uP:=decide_eq_true c5;clear c5
       by_cases c6:0≤aa
       ·rw [if_pos c6] at H;have uj:=decide_eq_true c6;clear c6
        by_cases c7:aa < (l0.length:Int)
        ·rw [if_pos c7] at H;have za:=decide_eq_true c7;clear c7
         by_cases c8:((d5 l0 aa).length:Int)=(l0.length:Int)
         ·rw [if_pos c8] at H;have IG:=yh c8;have V8:=yg c8;have ajy:((d5 l0 aa).length==l0.length)=true:=by first | simpa using c8 | (simp at c8 ⊢;omega)
          clear c8;have H':=q_ H;clear H;have Ih:0≤(aa:Int):=of_decide_eq_true (by first | (with_reducible assumption) | assumption);have Ic:aa < (l0.length:Int):=of_decide_eq_true (by first | (with_reducible assumption) | assumption);obtain⟨ag,ai,aj,aeU,Yx,FR,F3⟩:=pI qE.out aa Ih Ic;cases aeU
          have ah0:=q_ F3;have ah9:=q_ FR;clear F3 FR;replace Ih:=eq_true Ih;replace Ic:=eq_true Ic;go_wp2
          go_loopg [5] k2 (fun kq v5 w'=> ∃(ae:Int),v5= .int .i64 ae∧aE (mz.l1 kq l0 (l0.length:Int) aa ae=some r)∧aE (kq≤k2)∧lP w w')
          case atStart=>exact⟨(0),(by first | rfl | (simp;done) | (simp [*];done)),H',⟨Nat.le_refl _⟩,by repeat (first | exact lP.refl _ | apply lP.step)⟩
          case round=>
           clear H';(try clear qP);(try clear vV);(try clear c4);(try clear uP);(try clear c6);(try clear uj);(try clear c7);(try clear za);(try clear c8);(try clear IG);(try clear V8);(try clear ajy);(try clear Yx);(try clear Ih);(try clear Ic);obtain⟨ae,rfl,HA,yE,⟨m3,rfl⟩⟩:=hrel;cases gk with
           | zero=>exact absurd HA.out (by simp [mz.l1])
           | succ k3=>
            have H:=HA.out;clear HA;simp only [mz.l1] at H
            by_cases c9:ae < (l0.length:Int)
            ·rw [if_pos c9] at H;have Ab:=decide_eq_true c9;clear c9
             by_cases qF:0≤aa
             ·rw [if_pos qF] at H;have xU:=decide_eq_true qF;clear qF
              by_cases yp:aa < (l0.length:Int)
              ·rw [if_pos yp] at H;have PS:=decide_eq_true yp;clear yp
               by_cases qQ:0≤ae
               ·rw [if_pos qQ] at H;have GZ:=decide_eq_true qQ;clear qQ
                by_cases rz:ae < ((d5 l0 aa).length:Int)
                ·rw [if_pos rz] at H;have GY:=decide_eq_true rz;clear rz;replace H:=Option.bind_eq_some_iff.mp H;obtain⟨ak,Xg,H⟩:=H;replace H:(if ak=true then(mz.l1 k3 l0 (l0.length:Int) aa (wrap64 (ae+1))) else(some false))=some r:=H;have Zt:=q_ Xg;clear Xg
                 by_cases xq:ak=true
                 ·subst xq;have H1:(mz.l1 k3 l0 (l0.length:Int) aa (wrap64 (ae+1)))=some r:=by rw [if_pos rfl] at H;exact H
                  clear H;have H:=H1;clear H1;have H':=q_ H;clear H;have KL:0≤(aa:Int):=of_decide_eq_true (by first | (with_reducible assumption) | assumption);have Kj:aa < (l0.length:Int):=of_decide_eq_true (by first | (with_reducible assumption) | assumption);obtain⟨ah,aq,au,aeT,ahk,FQ,F2⟩:=pI qE.out aa KL Kj;obtain rfl:ag=ah:=(by injection aeT)
                  have Q6:=q_ F2;have ah8:=q_ FQ;clear F2 FQ;replace KL:=eq_true KL;replace Kj:=eq_true Kj;have KJ:0≤(ae:Int):=of_decide_eq_true (by first | (with_reducible assumption) | assumption);have Ki:ae < ((d5 l0 aa).length:Int):=of_decide_eq_true (by first | (with_reducible assumption) | assumption);obtain⟨av,aeS,ahj⟩:=Kd.mA Q6.out ae KJ Ki;cases aeS
                  replace KJ:=eq_true KJ;replace Ki:=eq_true Ki
                  go_wp2_with (first | ((with_reducible refine d8 (f:=43) rfl ?_);refine VF (some 38) rfl rfl Tryz.func43 (by kernel_rfl) rfl #[.int .i64 (rd (d5 l0 aa) ae), .int .i64 (-20), .int .i64 20] rfl (by(try simp only [List.map_toArray,List.map_cons,List.map_nil]);first | done | rfl | (simp only [List.length_drop,List.length_take];rfl)) ?_;(with_reducible refine(nX.calls (rd (d5 l0 aa) ae) (-20) 20 true _ Zt.out).mono ?_);rintro e w' ⟨rfl,⟨nd,rfl⟩⟩;refine⟨_,rfl,?_⟩))
                  go_roundg k3
                  case measure=>have:=W9.out;have:=rA.out;have:=yE.out;omega
                  case rel=>exact⟨(wrap64 (ae+1)),(by first | rfl | (simp;done) | (simp [*];done)),H',⟨by have:=W9.out;have:=rA.out;have:=yE.out;omega⟩,by repeat (first | exact lP.refl _ | apply lP.step)⟩
                 ·replace xq:=Bool.eq_false_iff.mpr xq;subst xq;have H1:(some false)=some r:=by rw [if_neg (show ¬ (false=true) by decide)] at H;exact H
                  clear H;have H:=H1;clear H1;obtain rfl:=Option.some.inj H;have KL:0≤(aa:Int):=of_decide_eq_true (by first | (with_reducible assumption) | assumption);have Kj:aa < (l0.length:Int):=of_decide_eq_true (by first | (with_reducible assumption) | assumption);obtain⟨ah,aq,au,aeT,ahk,FQ,F2⟩:=pI qE.out aa KL Kj;obtain rfl:ag=ah:=(by injection aeT)
                  have Q6:=q_ F2;have ah8:=q_ FQ;clear F2 FQ;replace KL:=eq_true KL;replace Kj:=eq_true Kj;have KJ:0≤(ae:Int):=of_decide_eq_true (by first | (with_reducible assumption) | assumption);have Ki:ae < ((d5 l0 aa).length:Int):=of_decide_eq_true (by first | (with_reducible assumption) | assumption);obtain⟨av,aeS,ahj⟩:=Kd.mA Q6.out ae KJ Ki;cases aeS
                  replace KJ:=eq_true KJ;replace Ki:=eq_true Ki
                  go_wp2_with (first | ((with_reducible refine d8 (f:=43) rfl ?_);refine VF (some 38) rfl rfl Tryz.func43 (by kernel_rfl) rfl #[.int .i64 (rd (d5 l0 aa) ae), .int .i64 (-20), .int .i64 20] rfl (by(try simp only [List.map_toArray,List.map_cons,List.map_nil]);first | done | rfl | (simp only [List.length_drop,List.length_take];rfl)) ?_;(with_reducible refine(nX.calls (rd (d5 l0 aa) ae) (-20) 20 false _ Zt.out).mono ?_);rintro e w' ⟨rfl,⟨nd,rfl⟩⟩;refine⟨_,rfl,?_⟩))
                  go_ret
                  exact⟨by first | rfl | (simp;done) | (simp [*];done),by repeat (first | exact lP.refl _ | apply lP.step)⟩
                ·rw [if_neg rz] at H;exact absurd H (by simp)
               ·rw [if_neg qQ] at H;exact absurd H (by simp)
              ·rw [if_neg yp] at H;exact absurd H (by simp)
             ·rw [if_neg qF] at H;exact absurd H (by simp)
            ·rw [if_neg c9] at H;have Ab:=decide_eq_false c9;clear c9;have H':=q_ H;clear H;go_wp2
             go_roundg k3
             case measure=>have:=W9.out;have:=rA.out;have:=yE.out;omega
             case rel=>exact⟨(wrap64 (aa+1)),(by first | rfl | (simp;done) | (simp [*];done)),H',⟨by have:=W9.out;have:=rA.out;have:=yE.out;omega⟩,by repeat (first | exact lP.refl _ | apply lP.step)⟩
         ·rw [if_neg c8] at H;have IG:=uJ c8;have V8:=uI c8;have ajy:((d5 l0 aa).length==l0.length)=false:=by first | simpa using c8 | (simp at c8 ⊢;omega)
          obtain rfl:=Option.some.inj H;have Ih:0≤(aa:Int):=of_decide_eq_true (by first | (with_reducible assumption) | assumption);have Ic:aa < (l0.length:Int):=of_decide_eq_true (by first | (with_reducible assumption) | assumption);obtain⟨ag,ai,aj,aeU,Yx,FR,F3⟩:=pI qE.out aa Ih Ic;cases aeU
          have ah0:=q_ F3;have ah9:=q_ FR;clear F3 FR;replace Ih:=eq_true Ih;replace Ic:=eq_true Ic;go_wp2
          go_ret
          exact⟨by first | rfl | (simp;done) | (simp [*];done),by repeat (first | exact lP.refl _ | apply lP.step)⟩
        ·rw [if_neg c7] at H;exact absurd H (by simp)
       ·rw [if_neg c6] at H;exact absurd H (by simp)
      ·rw [if_neg c5] at H;have uP:=decide_eq_false c5;clear c5;obtain rfl:=Option.some.inj H;go_wp2
       go_ret
       exact⟨by first | rfl | (simp;done) | (simp [*];done),by repeat (first | exact lP.refl _ | apply lP.step)⟩
mutual
def m6.j0:Nat→Bool→List (List Int)→List Int→Option (Bool)
 | 0,_,_,_=>none
 | k+1,wO,ae,aa=>if wO=true then(some false) else(m6.l0 k 0 ae aa)
def m6.l0:Nat→Int→List (List Int)→List Int→Option (Bool)
 | 0,_,_,_=>none
 | k+1,x3,ae,aa=>if x3 < (aa.length:Int) then(if 0≤x3 then((nX.f (rd aa x3) (-100) 100).bind fun af=>(if af=true then(m6.l0 k (wrap64 (x3+1)) ae aa) else(some false))) else(none)) else(some true)
end
def m6.f (k:Nat) (aa:List (List Int)) (ae:List Int):Option (Bool):=(mz.f k aa).bind fun af=>(if af=true then(m6.j0 k ((ae.length:Int) !=(aa.length:Int)) aa ae) else(m6.j0 k true aa ae))
theorem m6.calls (k:Nat) (ai:Option Addr) (aj:Nat) (ae:List (List Int)) (ak:Option Addr) (aq:Nat) (aa:List Int) (r:Bool) (w:World) (aJ:Kd.C (Kd.slice 2 (Kd.int .i64)) w ai ae.length ae) (aK:ae.length≤aj) (aM:Kd.C (Kd.int .i64) w ak aa.length aa) (aN:aa.length≤aq) (h:m6.f k ae aa=some r):
  Calls Tryz.prog 46 #[.agg #[.slice ai ae.length aj, .slice ak aa.length aq]] w fun e w'=>e= .returned (.bool r)∧Below w.heap.size w w':=by
 have CY:=Tryz.underlying34;have mR:=q_ aJ;have oh:=q_ aK;clear aJ aK;have ox:=q_ aM;have oR:=q_ aN;clear aM aN;have HB:=q_ (Below.refl w.heap.size w);have H:((mz.f k ae).bind fun av=>(if av=true then(m6.j0 k ((aa.length:Int) !=(ae.length:Int)) ae aa) else(m6.j0 k true ae aa)))=some r:=h;clear h;have wv:=q_ H;clear H
 go_enter Tryz.func46,Tryz.ntmps46
 go_upto_region 1 with (first | ((with_reducible refine dg (N:=1) rfl ?_);(try (refine sI (by rfl) ?_;dsimp only));refine nR 1 #[.slice ai ae.length aj, .slice ak aa.length aq] 34 ?_;intro ah hg w3 cM hb;have af:=q_ (cM);have bu:=mq w hg;have bv:=mq w hg;replace HB:=lT hb;clear hb cM hg))
 (try simp only [Act.put,List.setIfInBounds_toArray,List.set_cons_zero,List.set_cons_succ])
 go_cut [16] (fun OU wc=> ∃(kq:Nat) (au:Bool),OU= .bool au∧aE (m6.j0 kq au ae aa=some r)∧aE (kq≤k)∧aE (wc.heap[ah]?=some (.cells #[(.slice ai ae.length aj),(.slice ak aa.length aq)] 34 (0,0)))∧aE (Below w.heap.size w wc))
 case first=>
  have H:=wv.out;clear wv;replace H:=Option.bind_eq_some_iff.mp H;obtain⟨av,Bo,H⟩:=H;replace H:(if av=true then(m6.j0 k ((aa.length:Int) !=(ae.length:Int)) ae aa) else(m6.j0 k true ae aa))=some r:=H;have A4:=q_ Bo;clear Bo
  by_cases c5:av=true
  ·subst c5;have H1:(m6.j0 k ((aa.length:Int) !=(ae.length:Int)) ae aa)=some r:=by rw [if_pos rfl] at H;exact H
   clear H;have H:=H1;clear H1;have H':=q_ H;clear H;obtain⟨ay,az,aA,aC⟩:=nF af
   go_wp2_with (first | ((with_reducible refine d8 (f:=81) rfl ?_);refine oJ 6 Tryz.func81 #[.slice ai ae.length aj] ?_;(with_reducible refine(mz.calls k _ _ ae true _ ?aw ?ax A4.out).mono ?_);(case aw=>exact ni mR.out HB.out);(case ax=>exact oh.out);rintro e w' ⟨rfl,⟨nd,rfl⟩⟩;refine⟨_,rfl,?_⟩))
   go_meet
   case rel=>exact⟨_,(((aa.length:Int) !=(ae.length:Int))),nM,H',⟨by first | omega | exact Nat.le_refl _⟩,⟨nj⟩,⟨hb_⟩⟩
  ·replace c5:=Bool.eq_false_iff.mpr c5;subst c5;have H1:(m6.j0 k true ae aa)=some r:=by rw [if_neg (show ¬ (false=true) by decide)] at H;exact H
   clear H;have H:=H1;clear H1;have H':=q_ H;clear H;obtain⟨aD,aG,aH,aI⟩:=nF af
   go_wp2_with (first | ((with_reducible refine d8 (f:=81) rfl ?_);refine oJ 6 Tryz.func81 #[.slice ai ae.length aj] ?_;(with_reducible refine(mz.calls k _ _ ae false _ ?aw ?ax A4.out).mono ?_);(case aw=>exact ni mR.out HB.out);(case ax=>exact oh.out);rintro e w' ⟨rfl,⟨nd,rfl⟩⟩;refine⟨_,rfl,?_⟩))
   go_meet
   case rel=>exact⟨_,(true),nM,H',⟨by first | omega | exact Nat.le_refl _⟩,⟨nj⟩,⟨hb_⟩⟩
 case rest=>
  clear wv;(try clear c5);(try clear ay);(try clear az);(try clear aD);(try clear aG);(try clear aA);(try clear aC);(try clear aH);(try clear aI);obtain⟨kq,au,rfl,HA,W9,af,HB⟩:=hcut;cases kq with
  | zero=>exact absurd HA.out (by simp [m6.j0])
  | succ Vk=>
   have H:=HA.out;clear HA;simp only [m6.j0] at H
   by_cases c8:au=true
   ·subst c8;have H1:(some false)=some r:=by rw [if_pos rfl] at H;exact H
    clear H;have H:=H1;clear H1;obtain rfl:=Option.some.inj H;go_wp2
    go_ret
    exact⟨pH,hb_⟩
   ·replace c8:=Bool.eq_false_iff.mpr c8;subst c8;have H1:(m6.l0 Vk 0 ae aa)=some r:=by rw [if_neg (show ¬ (false=true) by decide)] at H;exact H
    clear H;have H:=H1;clear H1;have H':=q_ H;clear H;go_wp2
    go_loopg [3] Vk (fun kq v3 w'=> ∃(ag:Int),v3= .int .i64 ag∧aE (m6.l0 kq ag ae aa=some r)∧aE (kq≤Vk)∧aE (w'.heap[ah]?=some (.cells #[(.slice ai ae.length aj),(.slice ak aa.length aq)] 34 (0,0)))∧aE (Below w.heap.size w w'))
    case atStart=>exact⟨(0),nM,H',⟨Nat.le_refl _⟩,⟨nj⟩,⟨hb_⟩⟩
    case round=>
     clear H';(try clear c5);(try clear c8);(try clear ay);(try clear az);(try clear aD);(try clear aG);(try clear aA);(try clear aC);(try clear aH);(try clear aI);obtain⟨ag,rfl,HA,rA,af,HB⟩:=hrel;cases gk with
     | zero=>exact absurd HA.out (by simp [m6.l0])
     | succ k2=>
      have H:=HA.out;clear HA;simp only [m6.l0] at H
      by_cases c9:ag < (aa.length:Int)
      ·rw [if_pos c9] at H;have Ab:=decide_eq_true c9;clear c9
       by_cases qF:0≤ag
       ·rw [if_pos qF] at H;have xU:=decide_eq_true qF;clear qF;replace H:=Option.bind_eq_some_iff.mp H;obtain⟨aT,Ez,H⟩:=H;replace H:(if aT=true then(m6.l0 k2 (wrap64 (ag+1)) ae aa) else(some false))=some r:=H;have Gp:=q_ Ez;clear Ez
        by_cases qQ:aT=true
        ·subst qQ;have H1:(m6.l0 k2 (wrap64 (ag+1)) ae aa)=some r:=by rw [if_pos rfl] at H;exact H
         clear H;have H:=H1;clear H1;have H':=q_ H;clear H;obtain⟨aV,aW,aX,aY⟩:=nF af;have KI:0≤(ag:Int):=l7;have Kh:ag < (aa.length:Int):=l7;obtain⟨aU,aeR,BM⟩:=Kd.mA ox.out ag KI Kh;cases aeR
         replace BM:=bc_ HB.out BM;replace KI:=eq_true KI;replace Kh:=eq_true Kh
         go_wp2_with (first | ((with_reducible refine d8 (f:=43) rfl ?_);refine oJ 29 Tryz.func43 #[.int .i64 (rd aa ag), .int .i64 (-100), .int .i64 100] ?_;(with_reducible refine(nX.calls (rd aa ag) (-100) 100 true _ Gp.out).mono ?_);rintro e w' ⟨rfl,⟨nd,rfl⟩⟩;refine⟨_,rfl,?_⟩))
         go_roundg k2
         case measure=>have:=W9.out;have:=rA.out;omega
         case rel=>exact⟨(wrap64 (ag+1)),nM,H',⟨by have:=W9.out;have:=rA.out;omega⟩,⟨nj⟩,⟨hb_⟩⟩
        ·replace qQ:=Bool.eq_false_iff.mpr qQ;subst qQ;have H1:(some false)=some r:=by rw [if_neg (show ¬ (false=true) by decide)] at H;exact H
         clear H;have H:=H1;clear H1;obtain rfl:=Option.some.inj H;obtain⟨aZ,a9,ba,bg⟩:=nF af;have KI:0≤(ag:Int):=l7;have Kh:ag < (aa.length:Int):=l7;obtain⟨aU,aeR,BM⟩:=Kd.mA ox.out ag KI Kh;cases aeR
         replace BM:=bc_ HB.out BM;replace KI:=eq_true KI;replace Kh:=eq_true Kh
         go_wp2_with (first | ((with_reducible refine d8 (f:=43) rfl ?_);refine oJ 29 Tryz.func43 #[.int .i64 (rd aa ag), .int .i64 (-100), .int .i64 100] ?_;(with_reducible refine(nX.calls (rd aa ag) (-100) 100 false _ Gp.out).mono ?_);rintro e w' ⟨rfl,⟨nd,rfl⟩⟩;refine⟨_,rfl,?_⟩))
         go_ret
         exact⟨pH,hb_⟩
       ·rw [if_neg qF] at H;exact absurd H (by simp)
      ·rw [if_neg c9] at H;have Ab:=decide_eq_false c9;clear c9;obtain rfl:=Option.some.inj H;obtain⟨bh,bi,bn,bq⟩:=nF af;go_wp2
       go_ret
       exact⟨pH,hb_⟩
end Go.Proofs.YthmfdplckdijdaaGreat.Pr
end
section
namespace Go.Proofs.YthmfdplckdijdaaGreat.Pr
open Go.RowKit Wz.cw Wz.fX Wz.cX
def Fk (k:Int) (row:List Int):Bool:=(row.length:Int) !=k
theorem abr (gb:Nat) (k:Int) (A:Option Addr) (c:Nat) (x:List Int) (w:World) (hb:w.cell? ⟨gb,0,none⟩=some (.int .i64 k)):
  Calls Tryz.prog 140 (#[.slice A x.length c]++ #[.pointer (some ⟨gb,0,none⟩)]) w fun e w'=>e= .returned (.bool (Fk k x))∧Below w.heap.size w w':=by
 unfold Fk
 show Calls Tryz.prog 140 #[.slice A x.length c, .pointer (some ⟨gb,0,none⟩)] w _
 by_cases e:(x.length:Int)=k
 ·have h1:((x.length:Int) !=k)=false:=by simp [e]
  have h2:((x.length:Int)==k)=true:=by simp [e]
  clear e
  go_enter Tryz.func140,Tryz.ntmps140
  go_wp2
  go_ret
  exact⟨by rw [h1];rfl,Below.refl _ _⟩
 ·have h1:((x.length:Int) !=k)=true:=by simp [e]
  have h2:((x.length:Int)==k)=false:=by simp [e]
  clear e
  go_enter Tryz.func140,Tryz.ntmps140
  go_wp2
  go_ret
  exact⟨by rw [h1];rfl,Below.refl _ _⟩
theorem KO: ∀args w,(callFunc 140 args).run Tryz.prog w= .ok (.enter 140 args) w:=vB Tryz.func140 (by kernel_rfl) rfl
def yd.f (l0:List (List Int)) (a1:Int):Option Bool:=some (((l0.length:Int)==a1) && !(l0.any (Fk a1)))
theorem yd.calls (A0:Option Addr) (c0:Nat) (l0:List (List Int)) (a1:Int) (r:Bool) (w:World) (hr0:Kd.C (Kd.slice 2 (Kd.int .i64)) w A0 l0.length l0) (hc0:l0.length≤c0) (h:yd.f l0 a1=some r):
  Calls Tryz.prog 90 #[.slice A0 l0.length c0, .int .i64 a1] w fun e w'=>e= .returned (.bool r)∧Below w.heap.size w w':=by
 have HR:=q_ hr0;clear hr0 hc0;have hv:=(Option.some.inj h)
 clear h
 by_cases e:(l0.length:Int)=a1
 ·have h1:((l0.length:Int)==a1)=true:=by simp [e]
  rw [h1,Bool.true_and] at hv;have HV:=q_ hv;clear hv e;have hcall:=fun(gb:Nat) W (hW:Below w.heap.size w W) (hgb:gb < W.heap.size) (hcell:W.cell? ⟨gb,0,none⟩=some (.int .i64 a1))=>
   D9 (Fk a1) 140 #[.pointer (some ⟨gb,0,none⟩)] KO A0 c0 l0 W (Kd.nW HR.out hW)
    (fun W' A c x _ hb _ hC=>abr gb a1 A c x W' ((hb.cell (p:=⟨gb,0,none⟩) hgb).trans hcell))
  have HC:=q_ hcall;clear hcall
  generalize l0.any (Fk a1)=b at HC HV
  go_enter Tryz.func90,Tryz.ntmps90
  go_wp2_with fail
  refine(HC.out _ _ ((Below.refl _ _).alloc (Nat.le_refl _) _) (by simp) (by simp)).mono ?_
  rintro e w' ⟨rfl,hb'⟩;go_wp2
  go_ret
  exact⟨by rw [← HV.out];rfl,((Below.refl _ _).alloc (Nat.le_refl _) _).trans (hb'.mono (by simp))⟩
 ·have h1:((l0.length:Int)==a1)=false:=by simp [e]
  rw [h1,Bool.false_and] at hv;have HV:=q_ hv;clear hv e
  go_enter Tryz.func90,Tryz.ntmps90
  go_wp2
  go_ret
  exact⟨by rw [← HV.out];rfl,(Below.refl _ _).alloc (Nat.le_refl _) _⟩
end Go.Proofs.YthmfdplckdijdaaGreat.Pr
end
section
namespace Go.Proofs.YthmfdplckdijdaaGreat.Pr
open Go.RowKit Wz.cw Wz.fX Wz.cX
attribute [local go_sem] nV nT oF oD nC nB nU nS
def nK.l0:Nat→Int→Int→Option (Int)
 | 0,_,_=>none
 | k+1,x0,x1=>if x1=0 then(some x0) else(nK.l0 k x1 (Int.tmod x0 x1))
def nK.f (k:Nat) (a0:Int) (a1:Int):Option (Int):=(qV.f a0).bind fun aa=>((qV.f a1).bind fun ae=>(nK.l0 k aa ae))
theorem nK.calls (k:Nat) (a0:Int) (a1:Int) (r:Int) (w:World) (h:nK.f k a0 a1=some r):
  Calls Tryz.prog 116 #[.int .i64 a0, .int .i64 a1] w fun e w'=>e= .returned (.int .i64 r)∧Below w.heap.size w w':=by
 have HB:=q_ (Below.refl w.heap.size w);have H:((qV.f a0).bind fun af=>((qV.f a1).bind fun ae=>(nK.l0 k af ae)))=some r:=h;clear h;replace H:=Option.bind_eq_some_iff.mp H;obtain⟨af,sW,H⟩:=H;replace H:((qV.f a1).bind fun ae=>(nK.l0 k af ae))=some r:=H;have A3:=q_ sW;clear sW;replace H:=Option.bind_eq_some_iff.mp H;obtain⟨ae,Bo,H⟩:=H;replace H:(nK.l0 k af ae)=some r:=H;have A4:=q_ Bo;clear Bo;have H':=q_ H;clear H
 go_enter Tryz.func116,Tryz.ntmps116
 go_wp2_with (first | (go_at_call 136;(with_reducible refine(qV.calls a0 af _ A3.out).mono ?_);rintro e w5 ⟨rfl,hb⟩;replace HB:=lT hb;(try clear hb)) | (go_at_call 136;(with_reducible refine(qV.calls a1 ae _ A4.out).mono ?_);rintro e w6 ⟨rfl,hb⟩;replace HB:=lT hb;(try clear hb)))
 repeat (go_quiet (first | (go_at_call 136;(with_reducible refine(qV.calls a0 af _ A3.out).mono ?_);rintro e w5 ⟨rfl,hb⟩;replace HB:=lT hb;(try clear hb)) | (go_at_call 136;(with_reducible refine(qV.calls a1 ae _ A4.out).mono ?_);rintro e w6 ⟨rfl,hb⟩;replace HB:=lT hb;(try clear hb)));try go_wp2_with (first | (go_at_call 136;(with_reducible refine(qV.calls a0 af _ A3.out).mono ?_);rintro e w5 ⟨rfl,hb⟩;replace HB:=lT hb;(try clear hb)) | (go_at_call 136;(with_reducible refine(qV.calls a1 ae _ A4.out).mono ?_);rintro e w6 ⟨rfl,hb⟩;replace HB:=lT hb;(try clear hb))))
 go_loopg [0,1] k (fun kq v0 v1 w'=> ∃(ag:Int) (aa:Int),v0= .int .i64 ag∧v1= .int .i64 aa∧aE (nK.l0 kq ag aa=some r)∧aE (kq≤k)∧aE (Below w.heap.size w w'))
 case atStart=>exact⟨(af),(ae),nM,nM,H',⟨Nat.le_refl _⟩,⟨hb_⟩⟩
 case round=>
  clear H';obtain⟨ag,aa,rfl,rfl,HA,nA,HB⟩:=hrel;cases gk with
  | zero=>exact absurd HA.out (by simp [nK.l0])
  | succ k1=>
   have H:=HA.out;clear HA;simp only [nK.l0] at H
   by_cases c7:aa=0
   ·rw [if_pos c7] at H;have za:=yh c7;have Fh:=yg c7;clear c7;obtain rfl:=Option.some.inj H;go_wp2
    repeat (go_quiet (fail);try go_wp2)
    go_ret
    exact⟨pH,hb_⟩
   ·rw [if_neg c7] at H;have za:=uJ c7;have Fh:=uI c7;have H':=q_ H;clear H;go_wp2
    repeat (go_quiet (fail);try go_wp2)
    go_roundg k1
    case measure=>have:=nA.out;omega
    case rel=>exact⟨(aa),(Int.tmod ag aa),nM,nM,H',⟨by have:=nA.out;omega⟩,⟨hb_⟩⟩
def rN.f (a0:Int) (a1:Int):Option (Bool):=(oZ.f a0 (wrap64 (-a1)) a1).bind fun aa=>(some aa)
theorem rN.calls (a0:Int) (a1:Int) (r:Bool) (w:World) (h:rN.f a0 a1=some r):
  Calls Tryz.prog 117 #[.int .i64 a0, .int .i64 a1] w fun e w'=>e= .returned (.bool r)∧lP w w':=by
 have H:((oZ.f a0 (wrap64 (-a1)) a1).bind fun aa=>(some aa))=some r:=h;clear h;replace H:=Option.bind_eq_some_iff.mp H;obtain⟨aa,sW,H⟩:=H;replace H:(some aa)=some r:=H;have A3:=q_ sW;clear sW;obtain rfl:=Option.some.inj H
 go_enter Tryz.func117,Tryz.ntmps117
 go_wp2_with (first | ((with_reducible refine d8 (f:=39) rfl ?_);refine oJ 9 Tryz.func39 #[.int .i64 a0, .int .i64 (wrap64 (-a1)), .int .i64 a1] ?_;(with_reducible refine(oZ.calls a0 (wrap64 (-a1)) a1 aa _ A3.out).mono ?_);rintro e w' ⟨rfl,⟨nd,rfl⟩⟩;refine⟨_,rfl,?_⟩))
 go_ret
 exact⟨by first | rfl | (simp;done) | (simp [*];done),by repeat (first | exact lP.refl _ | apply lP.step)⟩
def qG.f (k:Nat) (pO:Int) (lW:Int):Option (Bool):=(oZ.f lW 1 1000000000).bind fun aa=>(if aa=true then((rN.f pO 1000000000).bind fun ae=>(if ae=true then((nK.f k pO lW).bind fun af=>(some (af==1))) else(some false))) else(some false))
theorem qG.calls (k:Nat) (pO:Int) (lW:Int) (r:Bool) (w:World) (h:qG.f k pO lW=some r):
  Calls Tryz.prog 151 #[.agg #[.int .i64 pO, .int .i64 lW]] w fun e w'=>e= .returned (.bool r)∧Below w.heap.size w w':=by
 have DV:=Tryz.underlying58;have HB:=q_ (Below.refl w.heap.size w);have H:((oZ.f lW 1 1000000000).bind fun ah=>(if ah=true then((rN.f pO 1000000000).bind fun ag=>(if ag=true then((nK.f k pO lW).bind fun af=>(some (af==1))) else(some false))) else(some false)))=some r:=h;clear h;replace H:=Option.bind_eq_some_iff.mp H;obtain⟨ah,E9,H⟩:=H;replace H:(if ah=true then((rN.f pO 1000000000).bind fun ag=>(if ag=true then((nK.f k pO lW).bind fun af=>(some (af==1))) else(some false))) else(some false))=some r:=H;have A2:=q_ E9;clear E9
 by_cases c3:ah=true
 ·subst c3;have H1:((rN.f pO 1000000000).bind fun ag=>(if ag=true then((nK.f k pO lW).bind fun af=>(some (af==1))) else(some false)))=some r:=by rw [if_pos rfl] at H;exact H
  clear H;have H:=H1;clear H1;replace H:=Option.bind_eq_some_iff.mp H;obtain⟨ag,Bo,H⟩:=H;replace H:(if ag=true then((nK.f k pO lW).bind fun af=>(some (af==1))) else(some false))=some r:=H;have A4:=q_ Bo;clear Bo
  by_cases c5:ag=true
  ·subst c5;have H1:((nK.f k pO lW).bind fun af=>(some (af==1)))=some r:=by rw [if_pos rfl] at H;exact H
   clear H;have H:=H1;clear H1;replace H:=Option.bind_eq_some_iff.mp H;obtain⟨af,RN,H⟩:=H;replace H:(some (af==1))=some r:=H;have A6:=q_ RN;clear RN;obtain rfl:=Option.some.inj H
   go_enter Tryz.func151,Tryz.ntmps151
   go_wp2_with (first | ((with_reducible refine dg (N:=1) rfl ?_);refine nR 1 #[.int .i64 pO, .int .i64 lW] 58 ?_;intro ae hg w7 cM hb;have aa:=q_ (cM);have ai:=mq w hg;have aj:=mq w hg;replace HB:=lT hb;clear hb cM hg;obtain⟨aA,aC,aD,aG⟩:=nF aa) | ((with_reducible refine d8 (f:=39) rfl ?_);refine oJ 5 Tryz.func39 #[.int .i64 lW, .int .i64 1, .int .i64 1000000000] ?_;(with_reducible refine(oZ.calls lW 1 1000000000 true _ A2.out).mono ?_);rintro e w' ⟨rfl,⟨nd,rfl⟩⟩;refine⟨_,rfl,?_⟩) | (go_at_call 117;(with_reducible refine(rN.calls pO 1000000000 true _ A4.out).mono ?_);rintro e w' ⟨rfl,⟨nd,rfl⟩⟩) | (go_at_call 116;(with_reducible refine(nK.calls k pO lW af _ A6.out).mono ?_);rintro e w9 ⟨rfl,hb⟩;replace aa:=lZ aa hb;replace HB:=lT hb;(try clear hb)))
   go_ret
   exact⟨pH,hb_⟩
  ·replace c5:=Bool.eq_false_iff.mpr c5;subst c5;have H1:(some false)=some r:=by rw [if_neg (show ¬ (false=true) by decide)] at H;exact H
   clear H;have H:=H1;clear H1;obtain rfl:=Option.some.inj H
   go_enter Tryz.func151,Tryz.ntmps151
   go_wp2_with (first | ((with_reducible refine dg (N:=1) rfl ?_);refine nR 1 #[.int .i64 pO, .int .i64 lW] 58 ?_;intro ae hg tE cM hb;have aa:=q_ (cM);have ai:=mq w hg;have aj:=mq w hg;replace HB:=lT hb;clear hb cM hg;obtain⟨ak,aq,au,av⟩:=nF aa) | ((with_reducible refine d8 (f:=39) rfl ?_);refine oJ 5 Tryz.func39 #[.int .i64 lW, .int .i64 1, .int .i64 1000000000] ?_;(with_reducible refine(oZ.calls lW 1 1000000000 true _ A2.out).mono ?_);rintro e w' ⟨rfl,⟨nd,rfl⟩⟩;refine⟨_,rfl,?_⟩) | (go_at_call 117;(with_reducible refine(rN.calls pO 1000000000 false _ A4.out).mono ?_);rintro e w' ⟨rfl,⟨nd,rfl⟩⟩))
   go_ret
   exact⟨pH,hb_⟩
 ·replace c3:=Bool.eq_false_iff.mpr c3;subst c3;have H1:(some false)=some r:=by rw [if_neg (show ¬ (false=true) by decide)] at H;exact H
  clear H;have H:=H1;clear H1;obtain rfl:=Option.some.inj H
  go_enter Tryz.func151,Tryz.ntmps151
  go_wp2_with (first | ((with_reducible refine dg (N:=1) rfl ?_);refine nR 1 #[.int .i64 pO, .int .i64 lW] 58 ?_;intro ae hg tX cM hb;have aa:=q_ (cM);have ai:=mq w hg;have aj:=mq w hg;replace HB:=lT hb;clear hb cM hg;obtain⟨aw,ax,ay,az⟩:=nF aa) | ((with_reducible refine d8 (f:=39) rfl ?_);refine oJ 5 Tryz.func39 #[.int .i64 lW, .int .i64 1, .int .i64 1000000000] ?_;(with_reducible refine(oZ.calls lW 1 1000000000 false _ A2.out).mono ?_);rintro e w' ⟨rfl,⟨nd,rfl⟩⟩;refine⟨_,rfl,?_⟩))
  go_ret
  exact⟨pH,hb_⟩
end Go.Proofs.YthmfdplckdijdaaGreat.Pr
end
section
namespace Go.Proofs.YthmfdplckdijdaaGreat.Pr
open Go.RowKit Wz.cw Wz.fX Wz.cX
def Eb (a n:Int):Bool:=!(decide (-a≤n) && decide (n≤a))
theorem ais (n a:Int) (h0:0≤a) (h1:a≤1099511627776):rN.f n a=some (!(Eb a n)):=by
 unfold rN.f oZ.f Eb
 rw [Ma.nH (by omega) (by omega),Bool.not_not]
 by_cases h: -a≤n
 ·rw [if_pos (by omega)];simp [h]
 ·rw [if_neg (by omega)];simp [h]
theorem ae4 (gb:Nat) (a n:Int) (w:World) (h0:0≤a) (h1:a≤1099511627776) (hb:w.cell? ⟨gb,0,none⟩=some (.int .i64 a)):
  Calls Tryz.prog 130 (#[.int .i64 n]++ #[.pointer (some ⟨gb,0,none⟩)]) w fun e w'=>e= .returned (.bool (Eb a n))∧Below w.heap.size w w':=by
 have hf:=ais n a h0 h1;have HF:=q_ hf;clear hf h0 h1
 show Calls Tryz.prog 130 #[.int .i64 n, .pointer (some ⟨gb,0,none⟩)] w _
 generalize Eb a n=b at HF ⊢
 go_enter Tryz.func130,Tryz.ntmps130
 go_wp2_with fail
 refine(rN.calls n a _ _ HF.out).mono ?_
 rintro e w' ⟨rfl,⟨nd,rfl⟩⟩;go_wp2
 go_ret
 refine⟨by simp,oO (Below.refl _ _) _⟩
theorem PY: ∀args w,(callFunc 130 args).run Tryz.prog w= .ok (.enter 130 args) w:=vB Tryz.func130 (by kernel_rfl) rfl
def rG.f (l0:List Int) (a1:Int):Option Bool:=if 0≤a1∧a1≤1099511627776 then some (!(l0.any (Eb a1))) else none
theorem rG.calls (A0:Option Addr) (c0:Nat) (l0:List Int) (a1:Int) (r:Bool) (w:World) (hr0:Kd.C (Kd.int .i64) w A0 l0.length l0) (hc0:l0.length≤c0) (h:rG.f l0 a1=some r):
  Calls Tryz.prog 83 #[.slice A0 l0.length c0, .int .i64 a1] w fun e w'=>e= .returned (.bool r)∧Below w.heap.size w w':=by
 unfold rG.f at h
 split at h
 case isFalse=>cases h
 rename_i ha
 have HR:=q_ hr0;clear hr0 hc0;have HV:=q_ (Option.some.inj h);clear h;have hcall:=fun(gb:Nat) W (hW:Below w.heap.size w W) (hgb:gb < W.heap.size) (hcell:W.cell? ⟨gb,0,none⟩=some (.int .i64 a1))=>
  Aa (Eb a1) 130 #[.pointer (some ⟨gb,0,none⟩)] PY A0 c0 l0 W (Kd.nW HR.out hW)
   (fun W' x _ hb=>ae4 gb a1 x W' ha.1 ha.2 ((hb.cell (p:=⟨gb,0,none⟩) hgb).trans hcell))
 have HC:=q_ hcall;clear hcall ha
 generalize l0.any (Eb a1)=b at HC HV
 go_enter Tryz.func83,Tryz.ntmps83
 go_wp2_with fail
 refine(HC.out _ _ ((Below.refl _ _).alloc (Nat.le_refl _) _) (by simp) (by simp)).mono ?_
 rintro e w' ⟨rfl,hb'⟩;go_wp2
 go_ret
 exact⟨by rw [← HV.out];rfl,((Below.refl _ _).alloc (Nat.le_refl _) _).trans (hb'.mono (by simp))⟩
end Go.Proofs.YthmfdplckdijdaaGreat.Pr
end
section
namespace Go.Proofs.YthmfdplckdijdaaGreat.Pr
open Go.RowKit Wz.cw Wz.fX Wz.cX
def G9 (row:List Int):Bool:=row.any (Eb 20)
theorem abu (A:Option Addr) (c:Nat) (x:List Int) (w:World) (hx:Kd.C (Kd.int .i64) w A x.length x) (hc:x.length≤c):
  Calls Tryz.prog 92 (#[.slice A x.length c]++ #[]) w fun e w'=>e= .returned (.bool (G9 x))∧Below w.heap.size w w':=by
 have HX:=q_ hx;have HC:=q_ hc;have hf:rG.f x 20=some (!(G9 x)):=by unfold rG.f G9;rw [if_pos ⟨by decide,by decide⟩]
 have HF:=q_ hf;clear hx hc hf
 show Calls Tryz.prog 92 #[.slice A x.length c] w _
 generalize G9 x=b at HF ⊢
 go_enter Tryz.func92,Tryz.ntmps92
 go_wp2_with fail
 refine(rG.calls A c x 20 _ _ HX.out HC.out HF.out).mono ?_
 rintro e w' ⟨rfl,hb⟩;go_wp2
 go_ret
 exact⟨by simp,hb⟩
theorem KP: ∀args w,(callFunc 92 args).run Tryz.prog w= .ok (.enter 92 args) w:=vB Tryz.func92 (by kernel_rfl) rfl
def rH.f (l0:List (List Int)):Option Bool:=some ((decide (1≤(l0.length:Int)) && decide ((l0.length:Int)≤5)) && !(l0.any (Fk l0.length)) && !(l0.any G9))
theorem acG (n a b:Int):oZ.f n a b=some (decide (a≤n) && decide (n≤b)):=by
 unfold oZ.f
 by_cases h:a≤n
 ·rw [if_pos (by omega)];simp [h]
 ·rw [if_neg (by omega)];simp [h]
theorem rH.calls (A0:Option Addr) (c0:Nat) (l0:List (List Int)) (r:Bool) (w:World) (hr0:Kd.C (Kd.slice 2 (Kd.int .i64)) w A0 l0.length l0) (hc0:l0.length≤c0) (h:rH.f l0=some r):
  Calls Tryz.prog 58 #[.slice A0 l0.length c0] w fun e w'=>e= .returned (.bool r)∧Below w.heap.size w w':=by
 have HR:=q_ hr0;have uG:=q_ hc0;have HW:=q_ (acG (l0.length:Int) 1 5);have hsq:yd.f l0 (l0.length:Int)=some (!(l0.any (Fk l0.length))):=by unfold yd.f;simp
 have HS:=q_ hsq;have hv:=(Option.some.inj h)
 have hcall:=fun W (hW:Below w.heap.size w W)=>D9 G9 92 #[] KP A0 c0 l0 W (Kd.nW HR.out hW) (fun W' A c x _ _ hc hC=>abu A c x W' hC hc)
 have HC:=q_ hcall;have HV:=q_ hv;clear hr0 hc0 h hsq hv hcall
 generalize l0.any G9=b3 at HC HV
 generalize l0.any (Fk l0.length)=b2 at HS HV
 generalize (decide (1≤(l0.length:Int)) && decide ((l0.length:Int)≤5))=b1 at HW HV
 go_enter Tryz.func58,Tryz.ntmps58
 go_wp2_with fail
 refine(oZ.calls _ 1 5 _ _ HW.out).mono ?_
 rintro e w1 ⟨rfl,hd⟩;have hb1:=hd.below;have RL:=q_ hb1;clear hb1 hd;cases b1 with
 | false=>
  go_wp2
  go_ret
  exact⟨by rw [← HV.out];rfl,RL.out⟩
 | true=>
  go_wp2_with fail
  refine(yd.calls A0 c0 l0 _ _ _ (Kd.nW HR.out RL.out) uG.out HS.out).mono ?_
  rintro e w2 ⟨rfl,hb2⟩;have AG:=q_ (RL.out.trans (hb2.mono RL.out.size));clear hb2;cases b2 with
  | true=>
   go_wp2
   go_ret
   exact⟨by rw [← HV.out];rfl,AG.out⟩
  | false=>
   go_wp2_with fail
   refine(HC.out _ AG.out).mono ?_
   rintro e w3 ⟨rfl,hb3⟩;go_wp2
   go_ret
   exact⟨by rw [← HV.out];simp,AG.out.trans (hb3.mono AG.out.size)⟩
end Go.Proofs.YthmfdplckdijdaaGreat.Pr
end
section
namespace Go.Proofs.YthmfdplckdijdaaGreat.Pr
open Go.RowKit Wz.cw Wz.fX Wz.cX
attribute [local go_sem] nV nT oF oD nC nB nU nS
def nZ.f (aa:List (List Int)) (ae:List Int):Option (Bool):=(rH.f aa).bind fun af=>(if af=true then(if(ae.length:Int)=(aa.length:Int) then((rG.f ae 100).bind fun ag=>(some ag)) else(some false)) else(some false))
theorem nZ.calls (ah:Option Addr) (ai:Nat) (ae:List (List Int)) (aj:Option Addr) (ak:Nat) (af:List Int) (r:Bool) (w:World) (ax:Kd.C (Kd.slice 2 (Kd.int .i64)) w ah ae.length ae) (ay:ae.length≤ai) (az:Kd.C (Kd.int .i64) w aj af.length af) (aA:af.length≤ak) (h:nZ.f ae af=some r):
  Calls Tryz.prog 48 #[.agg #[.slice ah ae.length ai, .slice aj af.length ak]] w fun e w'=>e= .returned (.bool r)∧Below w.heap.size w w':=by
 have CY:=Tryz.underlying34;have mR:=q_ ax;have oh:=q_ ay;clear ax ay;have ox:=q_ az;have oR:=q_ aA;clear az aA;have HB:=q_ (Below.refl w.heap.size w);have H:((rH.f ae).bind fun aw=>(if aw=true then(if(af.length:Int)=(ae.length:Int) then((rG.f af 100).bind fun av=>(some av)) else(some false)) else(some false)))=some r:=h;clear h;replace H:=Option.bind_eq_some_iff.mp H;obtain⟨aw,E9,H⟩:=H;replace H:(if aw=true then(if(af.length:Int)=(ae.length:Int) then((rG.f af 100).bind fun av=>(some av)) else(some false)) else(some false))=some r:=H;have A2:=q_ E9;clear E9
 by_cases c3:aw=true
 ·subst c3;have H1:(if(af.length:Int)=(ae.length:Int) then((rG.f af 100).bind fun av=>(some av)) else(some false))=some r:=by rw [if_pos rfl] at H;exact H
  clear H;have H:=H1;clear H1
  by_cases c4:(af.length:Int)=(ae.length:Int)
  ·rw [if_pos c4] at H;have qv:=yh c4;have zK:=yg c4;have aof:(af.length==ae.length)=true:=by first | simpa using c4 | (simp at c4 ⊢;omega)
   clear c4;replace H:=Option.bind_eq_some_iff.mp H;obtain⟨av,xL,H⟩:=H;replace H:(some av)=some r:=H;have A5:=q_ xL;clear xL;obtain rfl:=Option.some.inj H
   go_enter Tryz.func48,Tryz.ntmps48
   go_wp2_with (first | ((with_reducible refine dg (N:=1) rfl ?_);(try (refine sI (by rfl) ?_;dsimp only));refine nR 1 #[.slice ah ae.length ai, .slice aj af.length ak] 34 ?_;intro ag hg w6 cM hb;have aa:=q_ (cM);have aC:=mq w hg;have aD:=mq w hg;replace HB:=lT hb;clear hb cM hg;obtain⟨aY,aZ,a9,ba⟩:=nF aa) | ((with_reducible refine d8 (f:=58) rfl ?_);refine oJ 5 Tryz.func58 #[.slice ah ae.length ai] ?_;(with_reducible refine(rH.calls _ _ ae true _ ?aq ?au A2.out).mono ?_);(case aq=>exact ni mR.out HB.out);(case au=>exact oh.out);rintro e w8 ⟨rfl,hb⟩;refine⟨_,rfl,?_⟩;replace aa:=lZ aa hb;replace HB:=lT hb;(try clear hb);obtain⟨bg,bh,bi,bn⟩:=nF aa) | (go_at_call 83;(with_reducible refine(rG.calls _ _ af 100 av _ ?aq ?au A5.out).mono ?_);(case aq=>exact ni ox.out HB.out);(case au=>exact oR.out);rintro e tE ⟨rfl,hb⟩;replace aa:=lZ aa hb;replace HB:=lT hb;(try clear hb)))
   go_ret
   exact⟨pH,hb_⟩
  ·rw [if_neg c4] at H;have qv:=uJ c4;have zK:=uI c4;have aof:(af.length==ae.length)=false:=by first | simpa using c4 | (simp at c4 ⊢;omega)
   obtain rfl:=Option.some.inj H
   go_enter Tryz.func48,Tryz.ntmps48
   go_wp2_with (first | ((with_reducible refine dg (N:=1) rfl ?_);(try (refine sI (by rfl) ?_;dsimp only));refine nR 1 #[.slice ah ae.length ai, .slice aj af.length ak] 34 ?_;intro ag hg rB cM hb;have aa:=q_ (cM);have aC:=mq w hg;have aD:=mq w hg;replace HB:=lT hb;clear hb cM hg;obtain⟨aG,aH,aI,aJ⟩:=nF aa) | ((with_reducible refine d8 (f:=58) rfl ?_);refine oJ 5 Tryz.func58 #[.slice ah ae.length ai] ?_;(with_reducible refine(rH.calls _ _ ae true _ ?aq ?au A2.out).mono ?_);(case aq=>exact ni mR.out HB.out);(case au=>exact oh.out);rintro e Ah ⟨rfl,hb⟩;refine⟨_,rfl,?_⟩;replace aa:=lZ aa hb;replace HB:=lT hb;(try clear hb);obtain⟨aK,aM,aN,aT⟩:=nF aa))
   go_ret
   exact⟨pH,hb_⟩
 ·replace c3:=Bool.eq_false_iff.mpr c3;subst c3;have H1:(some false)=some r:=by rw [if_neg (show ¬ (false=true) by decide)] at H;exact H
  clear H;have H:=H1;clear H1;obtain rfl:=Option.some.inj H
  go_enter Tryz.func48,Tryz.ntmps48
  go_wp2_with (first | ((with_reducible refine dg (N:=1) rfl ?_);(try (refine sI (by rfl) ?_;dsimp only));refine nR 1 #[.slice ah ae.length ai, .slice aj af.length ak] 34 ?_;intro ag hg vu cM hb;have aa:=q_ (cM);have aC:=mq w hg;have aD:=mq w hg;replace HB:=lT hb;clear hb cM hg;obtain⟨aU,aV,aW,aX⟩:=nF aa) | ((with_reducible refine d8 (f:=58) rfl ?_);refine oJ 5 Tryz.func58 #[.slice ah ae.length ai] ?_;(with_reducible refine(rH.calls _ _ ae false _ ?aq ?au A2.out).mono ?_);(case aq=>exact ni mR.out HB.out);(case au=>exact oh.out);rintro e Bp ⟨rfl,hb⟩;refine⟨_,rfl,?_⟩;replace aa:=lZ aa hb;replace HB:=lT hb;(try clear hb)))
  go_ret
  exact⟨pH,hb_⟩
end Go.Proofs.YthmfdplckdijdaaGreat.Pr
end
section
namespace Go.Proofs.YthmfdplckdijdaaGreat.Pb
open Go.RowKit Wz.cw Wz.cX Ma Pr Dt Bz Cz
theorem Ft (x a b:Int):nX.f x a b=some (decide (a≤x∧x≤b)):=by
 unfold nX.f
 by_cases h:x ≥ a
 ·rw [if_pos h];congr 1;rw [Bool.eq_iff_iff];simp;omega
 ·rw [if_neg h];congr 1;rw [Bool.eq_iff_iff];simp;omega
theorem Ct {P:Nat→Prop} {i d:Nat} (h:i < d):(∀j,i≤j→j < d→P j)↔P i∧ ∀j,i+1≤j→j < d→P j:=
 ⟨fun q=>⟨q i (Nat.le_refl _) h,fun j h1 h2=>q j (by omega) h2⟩,fun q j h1 h2=>by
  by_cases e:j=i
  ·subst e;exact q.1
  ·exact q.2 j (by omega) h2⟩
theorem AQ {b:Bool} {p:Prop} (h:b=true↔p) (hp: ¬ p):b=false:=by
 cases b with
 | false=>rfl
 | true=>exact absurd (h.1 rfl) hp
def Za (x:Int):Prop:= -20≤x∧x≤20
def aap (x:Int):Prop:= -100≤x∧x≤100
def aao (M:List (List Int)) (i:Nat):Prop:=(M.getD i []).length=M.length∧ ∀j,0≤j→j < M.length→Za (en M i j)
structure E6 (M:List (List Int)):Prop where
 n1:1≤M.length
 n5:M.length≤5
 rows: ∀i,0≤i→i < M.length→aao M i
structure Eu (M:List (List Int)) (q:List Int):Prop where
 JF:E6 M
 len:q.length=M.length
 num: ∀i,0≤i→i < q.length→aap (q.getD i 0)
theorem E6.sq {M:List (List Int)} (h:E6 M):Sq M.length M:=⟨rfl,fun i hi=>(h.rows i (Nat.zero_le _) hi).1,fun i j hi hj=>by have:=(h.rows i (Nat.zero_le _) hi).2 j (Nat.zero_le _) hj;unfold Za at this;omega⟩
section
variable {M:List (List Int)} (hM:M.length≤5)
include hM
theorem ZE: ∀m i,i+m=M.length→ ∀t:Bool,(t=true↔ ∀u,i≤u→u < M.length→aao M u)→Ev (fun k=>mz.l0 k M (M.length:Int) i) t:=by
 intro m
 induction m with
 | zero=>
  intro i hi t ht
  obtain rfl:t=true:=ht.2 (fun u h1 h2=>by omega)
  exact mC (fun k=>by rw [mz.l0]) (lV (by omega) (oK rfl))
 | succ m ih=>
  intro i hi t ht
  have hs:=Ct (P:=aao M) (i:=i) (d:=M.length) (by omega)
  have ht2:=ht.trans hs
  refine mC (fun k=>by rw [mz.l0]) (cY (by omega) (cY (by omega) (cY (by omega) ?_)))
  rw [ZM]
  by_cases c:(M.getD i []).length=M.length
  ·refine cY (by omega) ?_
   have qL: ∀p j,j+p=M.length→ ∀t:Bool,(t=true↔(∀v,j≤v→v < M.length→Za (en M i v))∧ ∀u,i+1≤u→u < M.length→aao M u)→Ev (fun k=>mz.l1 k M (M.length:Int) i j) t:=by
    intro p
    induction p with
    | zero=>
     intro j hj t ht
     refine mC (fun k=>by rw [mz.l1]) (lV (by omega) ?_)
     rw [nH (x:=(i:Int)+1) (by omega) (by omega)]
     exact ih (i+1) (by omega) t (ht.trans ⟨fun h=>h.2,fun h=>⟨fun v h1 h2=>by omega,h⟩⟩)
    | succ p Bq=>
     intro j hj t ht
     have hs2:=Ct (P:=fun v=>Za (en M i v)) (i:=j) (d:=M.length) (by omega)
     refine mC (fun k=>by rw [mz.l1]) ?_
     rw [ZM]
     refine cY (by omega) (cY (by omega) (cY (by omega) (cY (by omega) (cY (by omega) (qW (Ft _ _ _) ?_)))))
     rw [rT,show (M.getD i []).getD j 0=en M i j from rfl,nH (x:=(j:Int)+1) (by omega) (by omega)]
     by_cases d: -20≤en M i j∧en M i j≤20
     ·exact cY (decide_eq_true d) (Bq (j+1) (by omega) t (ht.trans ⟨fun h=>⟨(hs2.1 h.1).2,h.2⟩,fun h=>⟨hs2.2 ⟨d,h.1⟩,h.2⟩⟩))
     ·rw [AQ ht (fun h=>d ((hs2.1 h.1).1))]
      exact lV (by simpa using d) (oK rfl)
   exact qL M.length 0 (by omega) t (ht2.trans ⟨fun h=>⟨fun v h1 h2=>h.1.2 v h1 h2,h.2⟩,fun h=>⟨⟨c,fun v h1 h2=>h.1 v h1 h2⟩,h.2⟩⟩)
  ·rw [AQ ht2 (fun h=>c h.1.1)]
   exact lV (by omega) (oK rfl)
end
theorem acS (M:List (List Int)) (t:Bool) (ht:t=true↔E6 M):Ev (fun k=>mz.f k M) t:=by
 unfold mz.f
 by_cases c1:(M.length:Int) < 1
 ·rw [AQ ht (fun h=>by have:=h.n1;omega)]
  exact cY c1 (mC (fun k=>by rw [mz.j0]) (cY rfl (oK rfl)))
 ·refine lV c1 (mC (fun k=>by rw [mz.j0]) ?_)
  by_cases c2:(M.length:Int) > 5
  ·rw [AQ ht (fun h=>by have:=h.n5;omega)]
   exact cY (decide_eq_true c2) (oK rfl)
  ·refine lV (by simpa using c2) ?_
   exact ZE (by omega) M.length 0 (by omega) t (ht.trans ⟨fun h=>h.rows,fun h=>⟨by omega,by omega,h⟩⟩)
open Classical in
theorem Yc (M:List (List Int)) (q:List Int) (hq:q.length≤1048576) (t:Bool) (ht:t=true↔Eu M q):Ev (fun k=>m6.f k M q) t:=by
 unfold m6.f
 refine oH (acS M (decide (E6 M)) (by simp)) ?_
 by_cases m:E6 M
 ·refine cY (by simpa using m) (mC (fun k=>by rw [m6.j0]) ?_)
  by_cases c:q.length=M.length
  ·refine lV (by simp [c]) ?_
   have loop: ∀p i,i+p=q.length→ ∀t:Bool,(t=true↔ ∀u,i≤u→u < q.length→aap (q.getD u 0))→Ev (fun k=>m6.l0 k i M q) t:=by
    intro p
    induction p with
    | zero=>
     intro i hi t ht
     obtain rfl:t=true:=ht.2 (fun u h1 h2=>by omega)
     exact mC (fun k=>by rw [m6.l0]) (lV (by omega) (oK rfl))
    | succ p ih=>
     intro i hi t ht
     have hs:=Ct (P:=fun u=>aap (q.getD u 0)) (i:=i) (d:=q.length) (by omega)
     refine mC (fun k=>by rw [m6.l0]) (cY (by omega) (cY (by omega) (qW (Ft _ _ _) ?_)))
     rw [rT,nH (x:=(i:Int)+1) (by omega) (by omega)]
     by_cases d: -100≤q.getD i 0∧q.getD i 0≤100
     ·exact cY (decide_eq_true d) (ih (i+1) (by omega) t (ht.trans (hs.trans ⟨fun h=>h.2,fun h=>⟨d,h⟩⟩)))
     ·rw [AQ (ht.trans hs) (fun h=>d h.1)]
      exact lV (by simpa using d) (oK rfl)
   exact loop q.length 0 (by omega) t (ht.trans ⟨fun h=>h.num,fun h=>⟨m,c,h⟩⟩)
  ·rw [AQ ht (fun h=>c h.len)]
   exact cY (by simp;omega) (oK rfl)
 ·rw [AQ ht (fun h=>m h.JF)]
  exact lV (by simpa using m) (mC (fun k=>by rw [m6.j0]) (cY rfl (oK rfl)))
theorem any_false {α:Type} (p:α→Bool) (l:List α):l.any p=false↔ ∀i (h:i < l.length),p l[i]=false:=by
 rw [List.any_eq_false]
 constructor
 ·intro h i hi
  have:=h l[i] (List.getElem_mem hi)
  simpa using this
 ·intro h x hx
  obtain⟨i,hi,rfl⟩:=List.getElem_of_mem hx
  simp [h i hi]
theorem Wd (a n:Int):Eb a n=false↔ -a≤n∧n≤a:=by unfold Eb;simp
theorem K4 (a:Int) (l:List Int):l.any (Eb a)=false↔ ∀i,0≤i→i < l.length→ -a≤l.getD i 0∧l.getD i 0≤a:=by
 rw [any_false]
 constructor
 ·intro h i _ hi
  have:=(Wd a _).1 (h i hi)
  simpa [hi] using this
 ·intro h i hi
  have:=h i (Nat.zero_le _) hi
  exact(Wd a _).2 (by simpa [hi] using this)
theorem gD {M:List (List Int)} {i:Nat} (h:i < M.length):M.getD i []=M[i]:=by simp [h]
open Classical in
theorem Vq (M:List (List Int)):rH.f M=some (decide (E6 M)):=by
 unfold rH.f
 congr 1
 rw [Bool.eq_iff_iff]
 simp only [Bool.and_eq_true,decide_eq_true_eq,Bool.not_eq_true']
 rw [any_false,any_false]
 constructor
 ·rintro ⟨⟨h1,h2⟩,h3⟩
  refine⟨by omega,by omega,fun i _ hi=>?_⟩
  have r1:=h2 i hi
  have r2:=h3 i hi
  unfold Fk at r1
  unfold G9 at r2
  have e:M[i].length=M.length:=by simp at r1;omega
  refine⟨by rw [gD hi];exact e,fun j _ hj=>?_⟩
  have:=(K4 20 M[i]).1 r2 j (Nat.zero_le _) (by omega)
  rw [← gD hi] at this
  exact this
 ·intro h
  refine⟨⟨⟨by have:=h.n1;omega,by have:=h.n5;omega⟩,fun i hi=>?_⟩,fun i hi=>?_⟩
  ·have:=(h.rows i (Nat.zero_le _) hi).1
   rw [gD hi] at this
   unfold Fk;simp [this]
  ·have:=h.rows i (Nat.zero_le _) hi
   unfold G9
   refine(K4 20 M[i]).2 (fun j h0 hj=>?_)
   have e:=this.1
   rw [gD hi] at e
   have:=this.2 j h0 (by omega)
   unfold Za en at this
   rwa [gD hi] at this
open Classical in
theorem DC (M:List (List Int)) (q:List Int) (t:Bool) (ht:t=true↔Eu M q):nZ.f M q=some t:=by
 unfold nZ.f
 rw [Vq,Option.bind_some]
 by_cases m:E6 M
 ·rw [if_pos (by simpa using m)]
  by_cases c:q.length=M.length
  ·rw [if_pos (by omega)]
   unfold rG.f
   rw [if_pos (by decide),Option.bind_some]
   congr 1
   rw [Bool.eq_iff_iff,ht,Bool.not_eq_true',K4]
   exact⟨fun h=>⟨m,c,h⟩,fun h=>h.num⟩
  ·rw [if_neg (by omega),AQ ht (fun h=>c h.len)]
 ·rw [if_neg (by simpa using m),AQ ht (fun h=>m h.JF)]
end Go.Proofs.YthmfdplckdijdaaGreat.Pb
end
section
namespace Go.Proofs.YthmfdplckdijdaaGreat.Pr
open Go.RowKit Wz.cw Wz.fX Wz.cX Ma Dt Lk Lt Lq
def Ad (n:Int):Bool:=!(decide (1≤n) && decide (n≤20))
theorem acF (n:Int):oZ.f n 1 20=some (!(Ad n)):=by
 unfold oZ.f Ad
 rw [Bool.not_not]
 by_cases h:1≤n
 ·rw [if_pos (by omega)];simp [h]
 ·rw [if_neg (by omega)];simp [h]
theorem ad9 (n:Int) (w:World):Calls Tryz.prog 150 (#[.int .i64 n]++ #[]) w fun e w'=>e= .returned (.bool (Ad n))∧Below w.heap.size w w':=by
 have HF:=q_ (acF n)
 show Calls Tryz.prog 150 #[.int .i64 n] w _
 generalize Ad n=b at HF ⊢
 go_enter Tryz.func150,Tryz.ntmps150
 go_wp2_with fail
 refine(oZ.calls n 1 20 _ _ HF.out).mono ?_
 rintro e w' ⟨rfl,⟨nd,rfl⟩⟩;go_wp2
 go_ret
 refine⟨by simp,oO (Below.refl _ _) _⟩
theorem O9: ∀args w,(callFunc 150 args).run Tryz.prog w= .ok (.enter 150 args) w:=vB Tryz.func150 (by kernel_rfl) rfl
def zN (n:Int) (cv:List Int):Bool:=decide ((cv.length:Int)=n) && !(cv.any Ad)
theorem RU (A:Option Addr) (c:Nat) (cv:List Int) (n:Int) (w:World) (hC:Kd.C (Kd.int .i64) w A cv.length cv):
  Calls Tryz.prog 104 #[.slice A cv.length c, .int .i64 n] w fun e w'=>e= .returned (.bool (zN n cv))∧Below w.heap.size w w':=by
 have HC:=q_ hC;have hcall:=fun W (hW:Below w.heap.size w W)=>
  Aa Ad 150 #[] O9 A c cv W (Kd.nW HC.out hW) (fun W' x _ hb=>ad9 x W')
 have HL:=q_ hcall;clear hcall hC;unfold zN;obtain⟨b,hb⟩: ∃b,cv.any Ad=b:=⟨_,rfl⟩
 rw [hb] at HL ⊢;clear hb HC
 by_cases hl:(cv.length:Int)=n
 ·subst hl;simp only [decide_true,Bool.true_and]
  generalize cv.length=l at*
  go_enter Tryz.func104,Tryz.ntmps104
  go_wp2_with fail
  refine(HL.out _ (Below.refl _ _)).mono ?_
  rintro e w' ⟨rfl,hb'⟩;go_wp2
  go_ret
  exact⟨rfl,hb'⟩
 ·have hl2:decide ((cv.length:Int)=n)=false:=decide_eq_false hl;have hl3:((cv.length:Int)==n)=false:=by simpa using hl
  rw [hl2];simp only [Bool.false_and];clear HL hl2
  generalize cv.length=l at*
  go_enter Tryz.func104,Tryz.ntmps104
  go_wp2
  go_ret
  exact⟨rfl,Below.refl _ _⟩
def pV (M:List (List Int)) (Q cv:List Int):Int:=if nZ.f M Q=some true then(if zN (Q.length:Int) cv=true then 0 else 2) else 1
def nI (M:List (List Int)) (Q cv:List Int) (most:Nat):TS × List (List Int) × Bool × Int × Int:=zU Q.length (m9 M) (fun i=>cv.getD i 0) (fun i=>Q.getD i 0) most
theorem xZ {M:List (List Int)} {Q:List Int} (h:nZ.f M Q=some true):Pb.Eu M Q:=by
 classical
 have:=Pb.DC M Q (decide (Pb.Eu M Q)) (by simp)
 rw [h] at this
 injection this with this
 exact of_decide_eq_true this.symm
structure PC (M:List (List Int)) (Q cv:List Int) (n:Nat):Prop where
 lM:M.length=n
 lQ:Q.length=n
 rows: ∀x ∈ M,x.length=n
 pos:0 < n
 le:n≤5
 lcv:cv.length=n
 Mb: ∀i k,i < n→k < n→((m9 M) i k).natAbs≤20
 cb: ∀i,i < n→0 < cv.getD i 0∧cv.getD i 0≤20
 qb: ∀i,i < n→(Q.getD i 0).natAbs≤100
theorem Dn {M:List (List Int)} {Q cv:List Int} (h:Pb.Eu M Q) (hc:zN (Q.length:Int) cv=true):PC M Q cv Q.length:=by
 unfold zN at hc
 rw [Bool.and_eq_true] at hc
 obtain⟨h1,h2⟩:=hc
 have hl:(cv.length:Int)=(Q.length:Int):=of_decide_eq_true h1
 have ha:cv.any Ad=false:=by simpa using h2
 have hml:M.length=Q.length:=h.len.symm
 refine⟨hml,rfl,fun x hx=>?_,by have:=h.JF.n1;omega,by have:=h.JF.n5;omega,by omega,fun i k hi hk=>?_,fun i hi=>?_,fun i hi=>?_⟩
 ·obtain⟨i,hi,rfl⟩:=List.mem_iff_getElem.1 hx
  have:=(h.JF.rows i (Nat.zero_le _) hi).1
  rw [List.getD_eq_getElem?_getD,List.getElem?_eq_getElem hi,Option.getD_some] at this
  omega
 ·have:=(h.JF.rows i (Nat.zero_le _) (by omega)).2 k (Nat.zero_le _) (by omega)
  unfold Pb.Za at this
  show (((M.getD i []).getD k 0)).natAbs≤20
  change -20≤((M.getD i []).getD k 0)∧((M.getD i []).getD k 0)≤20 at this
  omega
 ·have hi':i < cv.length:=by omega
  have:=(Pb.any_false Ad cv).1 ha i hi'
  unfold Ad at this
  rw [List.getD_eq_getElem?_getD,List.getElem?_eq_getElem hi',Option.getD_some]
  simp at this
  omega
 ·have:=h.num i (Nat.zero_le _) hi
  unfold Pb.aap at this
  omega
theorem rM {M:List (List Int)} {Q cv:List Int} (h:pV M Q cv=0):PC M Q cv Q.length:=by
 unfold pV at h
 by_cases h1:nZ.f M Q=some true
 ·rw [if_pos h1] at h
  by_cases h2:zN (Q.length:Int) cv=true
  ·exact Dn (xZ h1) h2
  ·rw [if_neg h2] at h;cases h
 ·rw [if_neg h1] at h;cases h
theorem Fa (A0:Option Addr) (c0:Nat) (M:List (List Int)) (A1:Option Addr) (c1:Nat) (Q:List Int) (A2:Option Addr) (c2:Nat) (cv:List Int) (w:World)
  (hC0:Kd.C (Kd.slice 2 (Kd.int .i64)) w A0 M.length M) (hc0:M.length≤c0) (hC1:Kd.C (Kd.int .i64) w A1 Q.length Q) (hc1:Q.length≤c1) (hC2:Kd.C (Kd.int .i64) w A2 cv.length cv) (hc2:cv.length≤c2):
  Calls Tryz.prog 61 #[.agg #[.slice A0 M.length c0, .slice A1 Q.length c1], .slice A2 cv.length c2] w fun e w'=>
   ((pV M Q cv≠0∧e= .returned (.tuple #[.pointer none, .int .i64 (pV M Q cv)]))∨(pV M Q cv=0∧ ∃p,e= .returned (.tuple #[.pointer (some ⟨p,0,none⟩), .int .i64 (nI M Q cv 201).2.2.2.2])∧P8 w w' p Q.length (2*Q.length+2) (nI M Q cv 201).1 (nI M Q cv 201).2.1 (nI M Q cv 201).2.2.1 (nI M Q cv 201).2.2.2.1 (nI M Q cv 201).2.2.2.2))∧Below w.heap.size w w':=by
 have HB:=q_ (Below.refl w.heap.size w);have uG:=q_ hC0;have qy:=q_ hC1;have wv:=q_ hC2;have H0:=q_ hc0;have H1:=q_ hc1;have H2:=q_ hc2;obtain⟨b,hb⟩: ∃b,nZ.f M Q=some b:=by
  classical
  exact⟨_,Pb.DC M Q (decide (Pb.Eu M Q)) (by simp)⟩
 have HP:=q_ hb;have HCD:aE (pV M Q cv=if b=true then(if zN (Q.length:Int) cv=true then 0 else 2) else 1):=⟨by
  unfold pV;rw [hb];cases b <;> simp⟩
 clear hC0 hC1 hC2 hc0 hc1 hc2 hb;obtain⟨cd,hcd⟩: ∃cd,pV M Q cv=cd:=⟨_,rfl⟩
 rw [hcd];rw [hcd] at HCD;have aoA:=q_ hcd;clear hcd;obtain⟨R,hR⟩: ∃R,nI M Q cv 201=R:=⟨_,rfl⟩
 rw [hR];have HR:=q_ hR;clear hR
 go_enter Tryz.func61,Tryz.ntmps61
 go_wp2_with (first | ((with_reducible refine dg (N:=2) rfl ?_);refine nR 2 #[.slice A0 M.length c0, .slice A1 Q.length c1] 34 ?_;intro g2 hg w2 cM hb;replace HB:=q_ (eE HB.out hb);have B2:=q_ cM;have hz0:=lS B2 0;have hz1:=lS B2 1;clear hb cM hg))
 refine(nZ.calls A0 c0 M A1 c1 Q b w2 (Kd.nW uG.out HB.out) H0.out (Kd.nW qy.out HB.out) H1.out HP.out).mono ?_
 rintro e w3 ⟨rfl,hb⟩;replace HB:=q_ (eE HB.out hb);replace B2:=q_ (ke B2.out hb);clear hb hz0 hz1;have hz1:=lS B2 1;cases b with
 | false=>
  have e1:cd=1:=by have:=HCD.out;simpa using this
  subst e1;go_wp2
  go_ret2
  exact⟨.inl ⟨by decide,rfl⟩,HB.out⟩
 | true=>
  go_wp2_with fail
  refine(RU A2 c2 cv (Q.length:Int) w3 (Kd.nW wv.out HB.out)).mono ?_
  obtain⟨cb,hcb⟩: ∃cb,zN (Q.length:Int) cv=cb:=⟨_,rfl⟩
  rw [hcb];rw [hcb] at HCD;have HCB:=q_ hcb;clear hcb;rintro e w4 ⟨rfl,hb⟩;replace HB:=q_ (eE HB.out hb);replace B2:=q_ (ke B2.out hb);clear hb hz1;have hz0:=lS B2 0;have hz1:=lS B2 1;cases cb with
  | false=>
   have e1:cd=2:=by have:=HCD.out;simpa using this
   subst e1;go_wp2
   go_ret2
   exact⟨.inl ⟨by decide,rfl⟩,HB.out⟩
  | true=>
   have e1:cd=0:=by have:=HCD.out;simpa using this
   subst e1;have E7:=q_ (rM aoA.out);obtain⟨N,hN⟩: ∃N:Nat,N=201:=⟨_,rfl⟩
   have hrun:=Rj A0 c0 M A1 c1 Q A2 c2 cv N w4 Q.length (Kd.nW uG.out HB.out) (Kd.nW qy.out HB.out) (Kd.nW wv.out HB.out) H0.out H1.out H2.out E7.out.lM rfl E7.out.rows E7.out.pos E7.out.le E7.out.lcv E7.out.Mb E7.out.cb E7.out.qb R (by rw [hN, ← HR.out];unfold nI;rfl);have ajv:(N:Int)=201:=by omega
   rw [ajv] at hrun;have I4:=q_ hrun;clear hrun ajv hN
   go_wp2_with fail
   refine I4.out.mono ?_
   rintro e w5 ⟨p,rfl,hP,hb⟩;have HPL:=q_ (hP.base HB.out.size);replace HB:=q_ (eE HB.out hb);replace B2:=q_ (ke B2.out hb);clear hP hb hz0 hz1 I4;obtain⟨cR,hcR⟩: ∃c,R.2.2.2.2=c:=⟨_,rfl⟩
   rw [hcR] at HPL;have HCR:=q_ hcR;clear hcR;go_wp2
   have Zj:=q_ (HPL.out.mv (mH (Below.refl w5.heap.size w5)));replace HB:=q_ (eE HB.out (mH (Below.refl w5.heap.size w5)));obtain⟨lo,hi,t,u1,h1,h2,h3,hT,hB,hS⟩:=Zj.out;have hc4:=lS ⟨hB⟩ 4;clear h1 h2 h3 hT hB hS HPL;refine qx (n:=7) (S:=fun w'=>w'.cell? ⟨p,4,none⟩=some (.int .i64 cR)) (ds:= []) hc4 (fun hHeld=>?_)
   generalize w5.drew=w6 at HB Zj hHeld ⊢
   clear hc4;refine sB 0 21 1 22 2 23 3 24 ?_;refine mg 4 25 ?_;refine sU 5 4 6 5 ?_
   refine oA (by kernel_rfl) ?_
   go_wp2
   go_ret2
   exact⟨⟨p,by rw [HCR.out];rfl,by rw [HCR.out];exact Zj.out⟩,HB.out⟩
end Go.Proofs.YthmfdplckdijdaaGreat.Pr
end
section
namespace Go.Proofs.YthmfdplckdijdaaGreat.zm
open Go.RowKit Wz.cw Wz.cX Ma Dt Bz Lk Lt
def rV (n:Nat) (bs:List Int) (x:Nat):Prop:= ∃i,i < n∧bs.getD i 0=(x:Int)
structure Bn (n:Nat) (bs:List Int) (v:Nat):Prop where
 lt:v < 2*n
 z0:rV n bs (2*n)
 out: ¬ rV n bs v
 CX: ¬ rV n bs (partner n v)
 one: ∀x,x < 2*n→x≠v→x≠partner n v→(rV n bs x↔ ¬ rV n bs (partner n x))
theorem DS {n x:Nat} (h:x < 2*n):partner n x < 2*n:=by unfold partner;split <;> omega
theorem sF {n x:Nat} (h:x < 2*n):partner n (partner n x)=x:=by
 unfold partner
 by_cases c:x < n
 ·rw [if_pos c,if_neg (by omega)];omega
 ·rw [if_neg c,if_pos (by omega)];omega
theorem aa8 {n x:Nat} (hn:0 < n) (h:x < 2*n):partner n x≠x:=by unfold partner;split <;> omega
theorem z8 {bs:List Int} {r i:Nat} {v:Int} (hr:r < bs.length):(bs.set r v).getD i 0=if i=r then v else bs.getD i 0:=by
 rw [List.getD_eq_getElem?_getD,List.getElem?_set]
 by_cases e:r=i
 ·subst e;rw [if_pos rfl,if_pos hr,if_pos rfl];rfl
 ·rw [if_neg e,if_neg (Ne.symm e),List.getD_eq_getElem?_getD]
theorem Ao {n r v l:Nat} {bs:List Int} (hl:bs.length=n) (hr:r < n) (hb:bs.getD r 0=(l:Int)) (inj: ∀i j,i < n→j < n→bs.getD i 0=bs.getD j 0→i=j) (x:Nat):rV n (bs.set r (v:Int)) x↔x=v∨(rV n bs x∧x≠l):=by
 constructor
 ·rintro ⟨i,hi,e⟩
  rw [z8 (by omega)] at e
  by_cases c:i=r
  ·rw [if_pos c] at e;left;omega
  ·rw [if_neg c] at e
   right
   refine⟨⟨i,hi,e⟩,fun q=>c (inj i r hi hr (by rw [e,hb,q]))⟩
 ·rintro (e | ⟨⟨i,hi,e⟩,hne⟩)
  ·exact⟨r,hr,by rw [z8 (by omega),if_pos rfl,e]⟩
  ·refine⟨i,hi,?_⟩
   rw [z8 (by omega),if_neg (fun q=>hne (by rw [q,hb] at e;omega))]
   exact e
theorem RE {n r v l:Nat} {bs:List Int} (hn:0 < n) (hl:bs.length=n) (hr:r < n) (hb:bs.getD r 0=(l:Int)) (inj: ∀i j,i < n→j < n→bs.getD i 0=bs.getD j 0→i=j) (hl2:l < 2*n) (h:Bn n bs v):Bn n (bs.set r (v:Int)) (partner n l):=by
 have hin:rV n bs l:=⟨r,hr,hb⟩
 have hlv:l≠v:=fun e=>h.out (e ▸ hin)
 have hlp:l≠partner n v:=fun e=>h.CX (e ▸ hin)
 have hpl: ¬ rV n bs (partner n l):=(h.one l hl2 hlv hlp).1 hin
 have hpv:partner n l≠v:=fun e=>hlp (by rw [← e,sF hl2])
 have S:=Ao (v:=v) hl hr hb inj
 refine⟨DS hl2,(S _).2 (.inr ⟨h.z0,by omega⟩),fun q=>?_,fun q=>?_,fun x hx h1 h2=>?_⟩
 ·rcases (S _).1 q with e | e
  ·exact hpv e
  ·exact hpl e.1
 ·rw [sF hl2] at q
  rcases (S _).1 q with e | e
  ·exact hlv e
  ·exact e.2 rfl
 ·rw [sF hl2] at h2
  have hpx:partner n x≠l:=fun e=>h1 (by rw [← e,sF hx])
  rw [S,S]
  by_cases c:x=v
  ·subst c
   constructor
   ·intro _ q
    rcases q with e | e
    ·exact aa8 hn hx e
    ·exact h.CX e.1
   ·intro _;exact .inl rfl
  ·by_cases d:x=partner n v
   ·have e2:partner n x=v:=by rw [d,sF h.lt]
    constructor
    ·intro q
     rcases q with e | e
     ·exact absurd e c
     ·exact absurd (d ▸ e.1) h.CX
    ·intro q;exact absurd (.inl e2) q
   ·have ho:=h.one x hx c d
    have anc:partner n x≠v:=fun e=>d (by rw [← e,sF hx])
    constructor
    ·intro q
     rcases q with e | e
     ·exact absurd e c
     ·intro q2
      rcases q2 with e2 | e2
      ·exact anc e2
      ·exact ho.1 e.1 e2.1
    ·intro q
     refine .inr ⟨ho.2 (fun q2=>q (.inr ⟨q2,hpx⟩)),h2⟩
section
variable {n m:Nat} {A:lE} (hn:n≤5) (hn0:0 < n) (hm:m=2*n+2) (hA:Small n m A) (hI: ∀i j,i < n→j < n→A i j=if i=j then 1 else 0)
structure J (n m:Nat) (A:lE) (s:TS) (v r:Nat):Prop where
 ok:Ok n m A s
 lex:uM n m s
 comp:Bn n s.bs v
 least:wN s.T n (qL n m) (fun i=>s.T i v) r
def nx (n m:Nat) (s:TS) (v r:Nat):Option (TS × Nat × Nat):=
 if s.bs.getD r 0=2*(n:Int) then none
 else match qC n m (s.step r v) (fun i=>(s.step r v).T i (partner n (s.bs.getD r 0).toNat)) with
  | none=>none
  | some r'=>some (s.step r v,partner n (s.bs.getD r 0).toNat,r')
theorem Fy {s:TS} (hs:Ok n m A s) (i j:Nat) (hi:i < n) (hj:j < n) (e:s.bs.getD i 0=s.bs.getD j 0):i=j:=
 aiT hs.tab hi hj (fun k hk=>by have:=hs.lt k hk;omega) (by show (s.bs.getD i 0).toNat=(s.bs.getD j 0).toNat;rw [e])
structure Bk (n m:Nat) (s:TS) (v r:Nat) (s':TS) (v':Nat):Prop where
 least:wN s'.T n (qL n m) (fun i=>s'.T i (partner n v')) r
 ent:s'.bs.getD r 0=(v:Int)
 mem: ∀x,rV n s.bs x↔x=partner n v'∨(rV n s'.bs x∧x≠v)
include hn hn0 hm hA hI in
theorem ZX {s:TS} {v r:Nat} (h:J n m A s v r) {s':TS} {v' r':Nat} (e:nx n m s v r=some (s',v',r')):J n m A s' v' r'∧Bk n m s v r s' v':=by
 have hr:=h.least.1
 have hp:0 < s.T r v:=h.least.2.1
 have hv:v+1 < m:=by have:=h.comp.lt;omega
 have hnn:=h.ok.nn r hr
 have hlt:=h.ok.lt r hr
 have hs2:=h.ok.step hn hA hr hv (show s.T r v≠0 by omega)
 have inj:=Fy h.ok
 obtain⟨l,hl⟩: ∃l:Nat,s.bs.getD r 0=(l:Int):=⟨(s.bs.getD r 0).toNat,by omega⟩
 unfold nx at e
 rw [hl,Int.toNat_natCast] at e
 rw [hl,Int.toNat_natCast] at hlt
 by_cases c:(l:Int)=2*(n:Int)
 ·rw [if_pos c] at e;cases e
 ·rw [if_neg c] at e
  have hl2:l < 2*n:=by omega
  cases hrow:qC n m (s.step r v) (fun i=>(s.step r v).T i (partner n l)) with
  | none=>rw [hrow] at e;cases e
  | some r2=>
   rw [hrow] at e
   injection e with e
   injection e with e1 e
   injection e with e2 e3
   subst e1 e2 e3
   have hb:s.bs.length=n:=h.ok.len
   refine⟨⟨hs2,JQ hn (by omega) hA h.ok hv h.lex h.least,RE hn0 hb hr hl inj hl2 h.comp,zu (BR (by omega) hI hs2) hrow⟩,?_,?_,fun x=>?_⟩
   ·rw [sF hl2]
    have:=Rh hn (by omega) hA h.ok hv h.lex hr hp
    rw [hl,Int.toNat_natCast] at this
    exact this
   ·show (s.bs.set r (v:Int)).getD r 0=v
    rw [z8 (by omega),if_pos rfl]
   ·rw [sF hl2]
    show _↔x=l∨(rV n (s.bs.set r (v:Int)) x∧x≠v)
    rw [Ao hb hr hl inj]
    constructor
    ·intro hx
     by_cases d:x=l
     ·exact .inl d
     ·exact .inr ⟨.inr ⟨hx,d⟩,fun q=>h.comp.out (q ▸ hx)⟩
    ·rintro (d | ⟨d | d,hne⟩)
     ·exact d ▸ ⟨r,hr,hl⟩
     ·exact absurd d hne
     ·exact d.1
def SE (n:Nat) (s s':TS):Prop:= ∀x,rV n s.bs x↔rV n s'.bs x
include hm hI in
theorem Bv {s s':TS} (h:Ok n m A s) (h':Ok n m A s') (e:SE n s s') {i i' c:Nat} (hi:i < n) (hi':i' < n) (hc:c < m) (hb:s.bs.getD i 0=s'.bs.getD i' 0):s.T i c*s'.den=s'.T i' c*s.den:=by
 refine aa2 h.tab h'.tab hI (by omega) (fun j hj=>by have:=h.lt j hj;omega) (fun j hj=>by have:=h'.lt j hj;omega) (fun j' hj'=>?_) hi hi' hc (by show (s.bs.getD i 0).toNat=(s'.bs.getD i' 0).toNat;rw [hb])
 have hnn:=h'.nn j' hj'
 obtain⟨j,hj,e2⟩:=(e (s'.bs.getD j' 0).toNat).2 ⟨j',hj',by omega⟩
 exact⟨j,hj,by show (s'.bs.getD j' 0).toNat=(s.bs.getD j 0).toNat;rw [e2,Int.toNat_natCast]⟩
include hm hI in
theorem UW {s s':TS} (h:Ok n m A s) (h':Ok n m A s') (e:SE n s s') {l r i:Nat} (hl:l < m) (hr:wN s.T n (qL n m) (fun i=>s.T i l) r) (hi:i < n) (hb:s.bs.getD r 0=s'.bs.getD i 0):wN s'.T n (qL n m) (fun i=>s'.T i l) i:=by
 have hd:=h.tab.pos
 have hd':=h'.tab.pos
 have hrn:=hr.1
 have hp:0 < s.T r l:=hr.2.1
 have h1:=Bv hm hI h h' e hrn hi hl hb
 refine⟨hi,?_,fun i2 hi2 hne hb2=>?_⟩
 ·show 0 < s'.T i l
  have:0 < s'.T i l*s.den:=by rw [← h1];exact Int.mul_pos hp hd'
  exact Int.pos_of_mul_pos_left this hd
 ·have hnn:=h'.nn i2 hi2
  obtain⟨j,hj,ej⟩:=(e (s'.bs.getD i2 0).toNat).2 ⟨i2,hi2,by omega⟩
  have ej2:s.bs.getD j 0=s'.bs.getD i2 0:=by rw [ej];omega
  have hjr:j≠r:=fun q=>hne (Fy h' i2 i hi2 hi (by rw [← ej2,q,hb]))
  have h2:=Bv hm hI h h' e hj hi2 hl ej2
  simp only at hb2 ⊢
  have hjp:0 < s.T j l:=by
   have:0 < s.T j l*s'.den:=by rw [h2];exact Int.mul_pos hb2 hd
   exact Int.pos_of_mul_pos_left this hd'
  have hx:=hr.2.2 j hj hjr hjp
  simp only at hx
  refine oY.Ii (Int.mul_pos hd hd) (((hx.mul (Int.mul_pos hd' hd'))).congr (fun c hc=>?_))
  have h3:=Bv hm hI h h' e hrn hi (zx (by omega) hc) hb
  have h4:=Bv hm hI h h' e hj hi2 (zx (by omega) hc) ej2
  grind
include hm hI in
theorem Wf {a:TS} {va ra:Nat} {b:TS} {vb rb:Nat} {a' b':TS} {v':Nat} (ha:J n m A a va ra) (hb:J n m A b vb rb) (ha':Ok n m A a') (hb':Ok n m A b') (hv:v' < 2*n) (ka:Bk n m a va ra a' v') (kb:Bk n m b vb rb b' v') (e:SE n a' b'):SE n a b∧va=vb:=by
 obtain⟨i,hi,ei⟩:=(e va).1 ⟨ra,ka.least.1,ka.ent⟩
 have hL:=UW hm hI ha' hb' e (show partner n v' < m by have:=DS hv;omega) ka.least hi (by rw [ka.ent,ei])
 have hir:=Im hL kb.least
 have hv2:va=vb:=by
  have h1:=kb.ent
  rw [← hir,ei] at h1
  omega
 refine⟨fun x=>?_,hv2⟩
 rw [ka.mem,kb.mem,e x,hv2]
theorem U2: ∀(k N:Nat) (f:Nat→Nat),(∀i,i < N→f i < k)→(∀i j,i < j→j < N→f i≠f j)→N≤k
 | 0,N,f,h1,h2=>by
  cases N with
  | zero=>exact Nat.le_refl _
  | succ N=>exact absurd (h1 0 (by omega)) (by omega)
 | k+1,N,f,h1,h2=>by
  by_cases c: ∃i,i < N∧f i=k
  ·obtain⟨i0,hi0,e0⟩:=c
   have:=U2 k (N - 1) (fun i=>if i < i0 then f i else f (i+1)) (fun i hi=>by
    show (if i < i0 then f i else f (i+1)) < k
    by_cases d:i < i0
    ·rw [if_pos d]
     have h3:=h1 i (by omega)
     have h4:=h2 i i0 d hi0
     omega
    ·rw [if_neg d]
     have h3:=h1 (i+1) (by omega)
     have h4:=h2 i0 (i+1) (by omega) (by omega)
     omega) (fun i j hij hj=>by
    show (if i < i0 then f i else f (i+1))≠(if j < i0 then f j else f (j+1))
    by_cases d:i < i0
    ·rw [if_pos d]
     by_cases d2:j < i0
     ·rw [if_pos d2];exact h2 i j hij (by omega)
     ·rw [if_neg d2];exact h2 i (j+1) (by omega) (by omega)
    ·rw [if_neg d,if_neg (by omega)]
     exact h2 (i+1) (j+1) (by omega) (by omega))
   omega
  ·have:=U2 k N f (fun i hi=>by
    have h3:=h1 i hi
    have h4:f i≠k:=fun e=>c ⟨i,hi,e⟩
    omega) h2
   omega
def cf (i0:Nat) (f:Nat→Bool):Nat→Nat
 | 0=>0
 | j+1=>if j=i0 then cf i0 f j else 2*cf i0 f j+(if f j=true then 1 else 0)
theorem aak {i0:Nat} {f g:Nat→Bool}: ∀ {j:Nat},cf i0 f j=cf i0 g j→ ∀k,k < j→k≠i0→f k=g k
 | 0,_,k,hk,_=>absurd hk (by omega)
 | j+1,h,k,hk,hne=>by
  unfold cf at h
  by_cases c:j=i0
  ·rw [if_pos c,if_pos c] at h
   exact aak h k (by omega) hne
  ·rw [if_neg c,if_neg c] at h
   have hb: ∀b:Bool,(if b=true then 1 else 0)≤1:=fun b=>by cases b <;> decide
   have h1:=hb (f j)
   have h2:=hb (g j)
   have e:cf i0 f j=cf i0 g j∧(if f j=true then 1 else 0)=(if g j=true then 1 else 0):=by omega
   by_cases d:k=j
   ·rw [d]
    have:=e.2
    cases hf:f j <;> cases hg:g j <;> simp [hf,hg] at this ⊢
   ·exact aak e.1 k (by omega) hne
theorem aaj (i0:Nat) (f:Nat→Bool): ∀j,cf i0 f j+1≤2 ^ j∧(i0 < j→cf i0 f j+1≤2 ^ (j - 1))
 | 0=>⟨by simp [cf],fun h=>absurd h (by omega)⟩
 | j+1=>by
  have ih:=aaj i0 f j
  have hb:(if f j=true then 1 else 0)≤1:=by cases f j <;> decide
  unfold cf
  rw [Nat.pow_succ,Nat.add_sub_cancel]
  by_cases c:j=i0
  ·rw [if_pos c]
   have:=ih.1
   exact⟨by omega,fun _=>by omega⟩
  ·rw [if_neg c]
   refine⟨by have:=ih.1;omega,fun h=>?_⟩
   have h2:=ih.2 (by omega)
   obtain⟨j',rfl⟩: ∃j',j=j'+1:=⟨j - 1,by omega⟩
   rw [Nat.add_sub_cancel] at h2
   rw [Nat.pow_succ]
   omega
open Classical in
include hn hn0 hm in
theorem many (a:Nat→TS × Nat × Nat) (N:Nat) (hN:160 < N) (hJ: ∀t,t < N→J n m A (a t).1 (a t).2.1 (a t).2.2): ∃i j,i < j∧j < N∧SE n (a i).1 (a j).1∧(a i).2.1=(a j).2.1:=by
 apply Classical.byContradiction
 intro hno
 have hp:=U2 160 N (fun t=>(a t).2.1*16+cf ((a t).2.1 % n) (fun j=>decide (rV n (a t).1.bs j)) n) (fun t ht=>?_) (fun i j hij hj he=>?_)
 ·omega
 ·have hv:=(hJ t ht).comp.lt
  have hc:=(aaj ((a t).2.1 % n) (fun j=>decide (rV n (a t).1.bs j)) n).2 (Nat.mod_lt _ hn0)
  have h5:2 ^ (n - 1)≤16:=Nat.le_trans (Nat.pow_le_pow_right (by decide) (show n - 1≤4 by omega)) (by decide)
  show (a t).2.1*16+_ < 160
  omega
 ·have hc: ∀t,cf ((a t).2.1 % n) (fun j=>decide (rV n (a t).1.bs j)) n < 16:=fun t=>by
   have hc:=(aaj ((a t).2.1 % n) (fun j=>decide (rV n (a t).1.bs j)) n).2 (Nat.mod_lt _ hn0)
   have h5:2 ^ (n - 1)≤16:=Nat.le_trans (Nat.pow_le_pow_right (by decide) (show n - 1≤4 by omega)) (by decide)
   omega
  have h1:=hc i
  have h2:=hc j
  have hv:(a i).2.1=(a j).2.1:=by
   have he':(a i).2.1*16+cf ((a i).2.1 % n) (fun k=>decide (rV n (a i).1.bs k)) n=(a j).2.1*16+cf ((a j).2.1 % n) (fun k=>decide (rV n (a j).1.bs k)) n:=he
   omega
  have hcc:cf ((a i).2.1 % n) (fun k=>decide (rV n (a i).1.bs k)) n=cf ((a i).2.1 % n) (fun k=>decide (rV n (a j).1.bs k)) n:=by
   have he':(a i).2.1*16+cf ((a i).2.1 % n) (fun k=>decide (rV n (a i).1.bs k)) n=(a j).2.1*16+cf ((a j).2.1 % n) (fun k=>decide (rV n (a j).1.bs k)) n:=he
   rw [← hv] at he'
   omega
  have Ji:=hJ i (by omega)
  have Jj:=hJ j hj
  have hci:=Ji.comp
  have hcj:=Jj.comp
  rw [← hv] at hcj
  obtain⟨v,hvv⟩: ∃v,(a i).2.1=v:=⟨_,rfl⟩
  rw [hvv] at hci hcj hcc
  have hlow: ∀k,k < n→k≠v→k≠partner n v→(rV n (a i).1.bs k↔rV n (a j).1.bs k):=fun k hk h3 h4=>by
   have hk2:k≠v % n:=fun e=>by
    have hvl:=hci.lt
    by_cases c:v < n
    ·rw [Nat.mod_eq_of_lt c] at e;exact h3 e
    ·have:v % n=v - n:=by rw [Nat.mod_eq_sub_mod (by omega),Nat.mod_eq_of_lt (by omega)]
     rw [this] at e
     exact h4 (by unfold partner;rw [if_neg c];exact e)
   have:=aak hcc k hk hk2
   simpa using this
  refine hno ⟨i,j,hij,hj,fun x=>?_,hv⟩
  by_cases cx:x < 2*n
  ·by_cases h3:x=v
   ·rw [h3];exact⟨fun q=>absurd q hci.out,fun q=>absurd q hcj.out⟩
   ·by_cases h4:x=partner n v
    ·rw [h4];exact⟨fun q=>absurd q hci.CX,fun q=>absurd q hcj.CX⟩
    ·by_cases c:x < n
     ·exact hlow x c h3 h4
     ·rw [hci.one x cx h3 h4,hcj.one x cx h3 h4]
      have h5:partner n x≠v:=fun e=>h4 (by rw [← e,sF cx])
      have h6:partner n x≠partner n v:=fun e=>h3 (by rw [← sF cx,e,sF hci.lt])
      have h7:partner n x < n:=by unfold partner;rw [if_neg c];omega
      rw [hlow _ h7 h5 h6]
  ·by_cases c:x=2*n
   ·rw [c];exact⟨fun _=>hcj.z0,fun _=>hci.z0⟩
   ·constructor
    ·rintro ⟨k,hk,e⟩
     have:=Ji.ok.lt k hk
     rw [e] at this;simp only [Int.toNat_natCast] at this;omega
    ·rintro ⟨k,hk,e⟩
     have:=Jj.ok.lt k hk
     rw [e] at this;simp only [Int.toNat_natCast] at this;omega
end
section
variable {n m:Nat}
def tr (n m:Nat) (x:TS × Nat × Nat):Nat→Option (TS × Nat × Nat)
 | 0=>some x
 | t+1=>(tr n m x t).bind fun y=>nx n m y.1 y.2.1 y.2.2
theorem afI (x:TS × Nat × Nat): ∀(q:Nat) (s:TS) (v r:Nat) (st:List (List Int)) (t:Nat),tr n m x t=some (s,v,r)→st.length=t+1→st.length≤200→(goI n m q s v r st).2.2.2.2≠0→tr n m x 199≠none
 | 0,s,v,r,st,t,_,_,_,h=>absurd rfl h
 | q+1,s,v,r,st,t,ht,hl,hle,h=>by
  unfold goI at h
  by_cases c:st.length=200
  ·obtain rfl:t=199:=by omega
   rw [ht];simp
  ·rw [if_neg c] at h
   by_cases d:s.bs.getD r 0=2*(n:Int)
   ·rw [if_pos d] at h;exact absurd rfl h
   ·rw [if_neg d] at h
    cases hrow:qC n m (s.step r v) (fun i=>(s.step r v).T i (partner n (s.bs.getD r 0).toNat)) with
    | none=>rw [hrow] at h;exact absurd rfl h
    | some r'=>
     rw [hrow] at h
     have ht2:tr n m x (t+1)=some (s.step r v,partner n (s.bs.getD r 0).toNat,r'):=by
      show (tr n m x t).bind _=_
      rw [ht]
      show nx n m s v r=_
      unfold nx
      rw [if_neg d,hrow]
     exact afI x q _ _ _ _ (t+1) ht2 (by simp;omega) (by simp;omega) h
theorem afq (x:TS × Nat × Nat): ∀k t,tr n m x (t+k)≠none→tr n m x t≠none
 | 0,t,h=>h
 | k+1,t,h=>afq x k t (fun e=>h (by show (tr n m x (t+k)).bind _=none;rw [e];rfl))
variable {A:lE} (hn:n≤5) (hn0:0 < n) (hm:m=2*n+2) (hA:Small n m A) (hI: ∀i j,i < n→j < n→A i j=if i=j then 1 else 0)
include hn hn0 hm hA hI
theorem aiM {s:TS} {v r:Nat} (h:J n m A s v r) (hneg: ∀i,i < n→s.T i (partner n v)≤0):tr n m (s,v,r) 199=none:=by
 apply Classical.byContradiction
 intro hne
 have hall: ∀t, ∃y,t < 200→tr n m (s,v,r) t=some y:=fun t=>by
  by_cases c:t < 200
  ·cases e:tr n m (s,v,r) t with
   | none=>exact absurd e (afq _ (199 - t) t (by rw [show t+(199 - t)=199 from by omega];exact hne))
   | some y=>exact⟨y,fun _=>rfl⟩
  ·exact⟨(s,v,r),fun q=>absurd q c⟩
 obtain⟨a,ha⟩:=Classical.axiomOfChoice hall
 have h0:a 0=(s,v,r):=by have:=ha 0 (by omega);injection this with this;exact this.symm
 have hnx: ∀t,t+1 < 200→nx n m (a t).1 (a t).2.1 (a t).2.2=some (a (t+1)):=fun t ht=>by
  have h1:=ha (t+1) ht
  have h2:(tr n m (s,v,r) t).bind (fun y=>nx n m y.1 y.2.1 y.2.2)=some (a (t+1)):=h1
  rw [ha t (by omega)] at h2
  exact h2
 have hJ: ∀t,t < 200→J n m A (a t).1 (a t).2.1 (a t).2.2:=by
  intro t
  induction t with
  | zero=>intro _;rw [h0];exact h
  | succ t ih=>intro ht;exact(ZX hn hn0 hm hA hI (ih (by omega)) (hnx t ht)).1
 have hB: ∀t,t+1 < 200→Bk n m (a t).1 (a t).2.1 (a t).2.2 (a (t+1)).1 (a (t+1)).2.1:=fun t ht=>(ZX hn hn0 hm hA hI (hJ t (by omega)) (hnx t ht)).2
 obtain⟨i,j,hij,hj,hse,hv⟩:=many hn hn0 hm a 200 (by omega) hJ
 have back: ∀k d,k+d < 200→SE n (a k).1 (a (k+d)).1→(a k).2.1=(a (k+d)).2.1→SE n (a 0).1 (a d).1∧(a 0).2.1=(a d).2.1:=by
  intro k
  induction k with
  | zero=>intro d _ h1 h2;rw [Nat.zero_add] at h1 h2;exact⟨h1,h2⟩
  | succ k ih=>
   intro d hd h1 h2
   have e:k+1+d=k+d+1:=by omega
   rw [e] at h1 h2
   have hb2:=hB (k+d) (by omega)
   rw [← h2] at hb2
   obtain⟨g1,g2⟩:=Wf hm hI (hJ k (by omega)) (hJ (k+d) (by omega)) (hJ (k+1) (by omega)).ok (hJ (k+d+1) (by omega)).ok (hJ (k+1) (by omega)).comp.lt (hB k (by omega)) hb2 h1
   exact ih d (by omega) g1 g2
 obtain⟨g1,g2⟩:=back i (j - i) (by omega) (by rw [show i+(j - i)=j from by omega];exact hse) (by rw [show i+(j - i)=j from by omega];exact hv)
 obtain⟨d,hd⟩: ∃d,j - i=d+1:=⟨j - i - 1,by omega⟩
 rw [hd] at g1 g2
 have hb:=hB d (by omega)
 rw [h0] at g1 g2
 simp only at g1 g2
 rw [← g2] at hb
 have hr2:=hb.least.1
 have hp:0 < (a (d+1)).1.T (a d).2.2 (partner n v):=hb.least.2.1
 have hok:=(hJ (d+1) (by omega)).ok
 have hnn:=hok.nn _ hr2
 obtain⟨k,hk,ek⟩:=(g1 ((a (d+1)).1.bs.getD (a d).2.2 0).toNat).2 ⟨_,hr2,by omega⟩
 have hrow:=Bv hm hI h.ok hok g1 hk hr2 (show partner n v < m by have:=DS h.comp.lt;omega) (by rw [ek];omega)
 have h1:=Int.mul_pos hp h.ok.tab.pos
 have h2:=hneg k hk
 rw [← hrow] at h1
 have h3:=hok.tab.pos
 have h4:s.T k (partner n v)*(a (d+1)).1.den≤0:=Int.mul_nonpos_of_nonpos_of_nonneg h2 (Int.le_of_lt h3)
 omega
end
open Pr Lq in
theorem GA {M:List (List Int)} {Q cv:List Int} (h:PC M Q cv Q.length) (most:Nat):(nI M Q cv most).2.2.2.2=0:=by
 have hn0:=h.pos
 have hA:=pY (n:=Q.length) (M:=m9 M) (cv:=fun i=>cv.getD i 0) (q:=fun i=>Q.getD i 0) h.Mb (fun i hi=>by have:=h.cb i hi;omega) h.qb
 have hok:=wF (n:=Q.length) (M:=m9 M) (cv:=fun i=>cv.getD i 0) (q:=fun i=>Q.getD i 0)
 have hI: ∀i j,i < Q.length→j < Q.length→nD Q.length (m9 M) (fun i=>cv.getD i 0) (fun i=>Q.getD i 0) i j=if i=j then 1 else 0:=fun i j hi hj=>wj hi hj
 have hcv: ∀i,i < Q.length→0 < (fun i=>cv.getD i 0) i:=fun i hi=>(h.cb i hi).1
 unfold nI zU
 by_cases hf:yJ Q.length (fun i=>Q.getD i 0)=true
 ·rw [if_pos hf]
 ·rw [if_neg hf]
  cases hrow:qC Q.length (2*Q.length+2) (first Q.length (m9 M) (fun i=>cv.getD i 0) (fun i=>Q.getD i 0)) (fun i=>cv.getD i 0) with
  | none=>rfl
  | some r=>
   have hl:=zu (BR (by omega) hI hok) hrow
   have hl':wN (nD Q.length (m9 M) (fun i=>cv.getD i 0) (fun i=>Q.getD i 0)) Q.length (qL Q.length (2*Q.length+2)) (fun i=>cv.getD i 0) r:=hl
   have hr:=hl.1
   cases most with
   | zero=>rfl
   | succ q=>
    show (goI Q.length (2*Q.length+2) (q+1) (first Q.length (m9 M) (fun i=>cv.getD i 0) (fun i=>Q.getD i 0)) (2*Q.length) r []).2.2.2.2=0
    have hbr:(first Q.length (m9 M) (fun i=>cv.getD i 0) (fun i=>Q.getD i 0)).bs.getD r 0=(r:Int):=by simp [first,pE,hr]
    obtain⟨s1,hs1⟩: ∃s1,(first Q.length (m9 M) (fun i=>cv.getD i 0) (fun i=>Q.getD i 0)).step r (2*Q.length)=s1:=⟨_,rfl⟩
    unfold goI
    rw [if_neg (by simp),hbr,if_neg (by omega),Int.toNat_natCast,hs1]
    have hneg: ∀i,i < Q.length→s1.T i r < 0:=fun i hi=>by rw [← hs1];exact Ry h.le hA hcv hl' hi
    have KS:uM Q.length (2*Q.length+2) s1:=by rw [← hs1];exact Iz h.le hA hcv hl' hf
    have KR:Ok Q.length (2*Q.length+2) (nD Q.length (m9 M) (fun i=>cv.getD i 0) (fun i=>Q.getD i 0)) s1:=by
     rw [← hs1]
     refine hok.step h.le hA hr (by omega) ?_
     show nD Q.length (m9 M) (fun i=>cv.getD i 0) (fun i=>Q.getD i 0) r (2*Q.length)≠0
     rw [Ai]
     have h3:0 < cv.getD r 0:=hcv r hr
     show - cv.getD r 0≠0
     omega
    cases yO:qC Q.length (2*Q.length+2) s1 (fun i=>s1.T i (partner Q.length r)) with
    | none=>rfl
    | some r1=>
     show (goI Q.length (2*Q.length+2) q s1 (partner Q.length r) r1 ([]++ [[((2*Q.length:Nat):Int),(r:Int)]])).2.2.2.2=0
     have Vz: ∀x,rV Q.length (pE Q.length) x↔x < Q.length:=fun x=>by
      constructor
      ·rintro ⟨i,hi,e⟩
       simp [pE,hi] at e;omega
      ·intro hx;exact⟨x,hx,by simp [pE,hx]⟩
     have VB:(pE Q.length).getD r 0=(r:Int):=by simp [pE,hr]
     have hbs:s1.bs=(pE Q.length).set r ((2*Q.length:Nat):Int):=by rw [← hs1];rfl
     have hS: ∀x,rV Q.length s1.bs x↔x=2*Q.length∨(x < Q.length∧x≠r):=fun x=>by
      rw [hbs,Ao (l:=r) (by simp [pE]) hr VB (fun i j hi hj e=>by simp [pE,hi,hj] at e;omega),Vz]
     have hp:partner Q.length r=r+Q.length:=by unfold partner;rw [if_pos hr]
     have hpp:partner Q.length (partner Q.length r)=r:=sF (by omega)
     have hcomp:Bn Q.length s1.bs (partner Q.length r):=by
      refine⟨by rw [hp];omega,(hS _).2 (.inl rfl),fun q=>?_,fun q=>?_,fun x hx h1 h2=>?_⟩
      ·rw [hS,hp] at q;omega
      ·rw [hpp,hS] at q;omega
      ·rw [hpp] at h2
       rw [hp] at h1
       rw [hS,hS]
       have hx2:partner Q.length x=if x < Q.length then x+Q.length else x - Q.length:=rfl
       by_cases c:x < Q.length
       ·rw [hx2,if_pos c];omega
       ·rw [hx2,if_neg c];omega
     have aa:J Q.length (2*Q.length+2) (nD Q.length (m9 M) (fun i=>cv.getD i 0) (fun i=>Q.getD i 0)) s1 (partner Q.length r) r1:=⟨KR,KS,hcomp,zu (BR (by omega) hI KR) yO⟩
     apply Classical.byContradiction
     intro hne
     exact afI (s1,partner Q.length r,r1) q s1 (partner Q.length r) r1 _ 0 rfl (by simp) (by simp) hne (aiM h.le hn0 rfl hA hI aa (fun i hi=>by rw [hpp];exact Int.le_of_lt (hneg i hi)))
end Go.Proofs.YthmfdplckdijdaaGreat.zm
end
section
namespace Go.Proofs.YthmfdplckdijdaaGreat.Pr
open Go.RowKit Wz.cw Wz.cX Ma Dt Lk Lt Lq
theorem ajl {n m:Nat} {A:lE} (hn:n≤5) (hn0:0 < n) (hm:m=2*n+2) (hA:Small n m A): ∀(q:Nat) (s:TS) (v r:Nat) (st:List (List Int)),Ok n m A s→r < n→v+1 < m→s.T r v≠0→
  Ok n m A (goI n m q s v r st).1∧0≤(goI n m q s v r st).2.2.2.1∧(goI n m q s v r st).2.2.2.1 < 2*(n:Int)+1:=by
 intro q
 induction q with
 | zero=>intro s v r st hs hr hv hp;exact⟨hs,Int.le_refl _,by show (0:Int) < 2*(n:Int)+1;omega⟩
 | succ q ih=>
  intro s v r st hs hr hv hp
  have hs2:=hs.step hn hA hr hv hp
  unfold goI
  split
  ·exact⟨hs,Int.le_refl _,by show (0:Int) < 2*(n:Int)+1;omega⟩
  ·split
   ·exact⟨hs2,Int.le_refl _,by show (0:Int) < 2*(n:Int)+1;omega⟩
   ·rename_i hl
    have hlt:=hs.lt r hr
    have hnn:=hs.nn r hr
    have hp2:partner n (s.bs.getD r 0).toNat < 2*n:=by unfold partner;split <;> omega
    obtain⟨o,ho⟩: ∃o,qC n m (s.step r v) (fun i=>(s.step r v).T i (partner n (s.bs.getD r 0).toNat))=o:=⟨_,rfl⟩
    rw [ho]
    cases o with
    | none=>exact⟨hs2,by show (0:Int)≤((partner n (s.bs.getD r 0).toNat:Nat):Int);omega,by show ((partner n (s.bs.getD r 0).toNat:Nat):Int) < _;omega⟩
    | some r'=>
     have h2:=tY ho
     exact ih _ _ _ _ hs2 h2.1 (by omega) (by have:=h2.2;omega)
theorem xY {M:List (List Int)} {Q cv:List Int} (h:PC M Q cv Q.length) (most:Nat):
  Ok Q.length (2*Q.length+2) (nD Q.length (m9 M) (fun i=>cv.getD i 0) (fun i=>Q.getD i 0)) (nI M Q cv most).1∧0≤(nI M Q cv most).2.2.2.1∧(nI M Q cv most).2.2.2.1 < 2*(Q.length:Int)+1:=by
 have hA:=pY (n:=Q.length) (M:=m9 M) (cv:=fun i=>cv.getD i 0) (q:=fun i=>Q.getD i 0) h.Mb (fun i hi=>by have:=h.cb i hi;omega) h.qb
 have hok:=wF (n:=Q.length) (M:=m9 M) (cv:=fun i=>cv.getD i 0) (q:=fun i=>Q.getD i 0)
 have hn0:=h.pos
 unfold nI zU
 split
 ·exact⟨hok,Int.le_refl _,by show (0:Int) < 2*(Q.length:Int)+1;omega⟩
 ·obtain⟨o,ho⟩: ∃o,qC Q.length (2*Q.length+2) (first Q.length (m9 M) (fun i=>cv.getD i 0) (fun i=>Q.getD i 0)) (fun i=>cv.getD i 0)=o:=⟨_,rfl⟩
  rw [ho]
  cases o with
  | none=>exact⟨hok,Int.le_refl _,by show (0:Int) < 2*(Q.length:Int)+1;omega⟩
  | some r=>
   have h2:=tY ho
   refine ajl h.le hn0 rfl hA most _ (2*Q.length) r [] hok h2.1 (by omega) ?_
   show nD Q.length (m9 M) (fun i=>cv.getD i 0) (fun i=>Q.getD i 0) r (2*Q.length)≠0
   unfold nD
   rw [if_neg (by omega),if_neg (by omega),if_pos rfl]
   have h3:0 < cv.getD r 0:=h2.2
   show - cv.getD r 0≠0
   omega
end Go.Proofs.YthmfdplckdijdaaGreat.Pr
end
section
namespace Go.Proofs.YthmfdplckdijdaaGreat.zm
open Go.RowKit Wz.cw Wz.cX Ma Dt Bz Lk Lt Pr Lq
theorem YR {M:List (List Int)} {Q cv:List Int} (h:PC M Q cv Q.length) (hf: ¬ yJ Q.length (fun i=>Q.getD i 0)=true) {r:Nat} (hrow:qC Q.length (2*Q.length+2) (first Q.length (m9 M) (fun i=>cv.getD i 0) (fun i=>Q.getD i 0)) (fun i=>cv.getD i 0)=some r):
  uM Q.length (2*Q.length+2) ((first Q.length (m9 M) (fun i=>cv.getD i 0) (fun i=>Q.getD i 0)).step r (2*Q.length))∧
  ∀r1,qC Q.length (2*Q.length+2) ((first Q.length (m9 M) (fun i=>cv.getD i 0) (fun i=>Q.getD i 0)).step r (2*Q.length)) (fun i=>((first Q.length (m9 M) (fun i=>cv.getD i 0) (fun i=>Q.getD i 0)).step r (2*Q.length)).T i (partner Q.length r))=some r1→
   J Q.length (2*Q.length+2) (nD Q.length (m9 M) (fun i=>cv.getD i 0) (fun i=>Q.getD i 0)) ((first Q.length (m9 M) (fun i=>cv.getD i 0) (fun i=>Q.getD i 0)).step r (2*Q.length)) (partner Q.length r) r1:=by
 have hn0:=h.pos
 have hA:=pY (n:=Q.length) (M:=m9 M) (cv:=fun i=>cv.getD i 0) (q:=fun i=>Q.getD i 0) h.Mb (fun i hi=>by have:=h.cb i hi;omega) h.qb
 have hok:=wF (n:=Q.length) (M:=m9 M) (cv:=fun i=>cv.getD i 0) (q:=fun i=>Q.getD i 0)
 have hI: ∀i j,i < Q.length→j < Q.length→nD Q.length (m9 M) (fun i=>cv.getD i 0) (fun i=>Q.getD i 0) i j=if i=j then 1 else 0:=fun i j hi hj=>wj hi hj
 have hcv: ∀i,i < Q.length→0 < (fun i=>cv.getD i 0) i:=fun i hi=>(h.cb i hi).1
 have hl:=zu (BR (by omega) hI hok) hrow
 have hl':wN (nD Q.length (m9 M) (fun i=>cv.getD i 0) (fun i=>Q.getD i 0)) Q.length (qL Q.length (2*Q.length+2)) (fun i=>cv.getD i 0) r:=hl
 have hr:=hl.1
 have hbr:(first Q.length (m9 M) (fun i=>cv.getD i 0) (fun i=>Q.getD i 0)).bs.getD r 0=(r:Int):=by simp [first,pE,hr]
 obtain⟨s1,hs1⟩: ∃s1,(first Q.length (m9 M) (fun i=>cv.getD i 0) (fun i=>Q.getD i 0)).step r (2*Q.length)=s1:=⟨_,rfl⟩
 rw [hs1]
 have KS:uM Q.length (2*Q.length+2) s1:=by rw [← hs1];exact Iz h.le hA hcv hl' hf
 have KR:Ok Q.length (2*Q.length+2) (nD Q.length (m9 M) (fun i=>cv.getD i 0) (fun i=>Q.getD i 0)) s1:=by
  rw [← hs1]
  refine hok.step h.le hA hr (by omega) ?_
  show nD Q.length (m9 M) (fun i=>cv.getD i 0) (fun i=>Q.getD i 0) r (2*Q.length)≠0
  rw [Ai]
  have h3:0 < cv.getD r 0:=hcv r hr
  show - cv.getD r 0≠0
  omega
 refine⟨KS,fun r1 yO=>?_⟩
 have Vz: ∀x,rV Q.length (pE Q.length) x↔x < Q.length:=fun x=>by
  constructor
  ·rintro ⟨i,hi,e⟩
   simp [pE,hi] at e;omega
  ·intro hx;exact⟨x,hx,by simp [pE,hx]⟩
 have VB:(pE Q.length).getD r 0=(r:Int):=by simp [pE,hr]
 have hbs:s1.bs=(pE Q.length).set r ((2*Q.length:Nat):Int):=by rw [← hs1];rfl
 have hS: ∀x,rV Q.length s1.bs x↔x=2*Q.length∨(x < Q.length∧x≠r):=fun x=>by
  rw [hbs,Ao (l:=r) (by simp [pE]) hr VB (fun i j hi hj e=>by simp [pE,hi,hj] at e;omega),Vz]
 have hp:partner Q.length r=r+Q.length:=by unfold partner;rw [if_pos hr]
 have hpp:partner Q.length (partner Q.length r)=r:=sF (by omega)
 have hcomp:Bn Q.length s1.bs (partner Q.length r):=by
  refine⟨by rw [hp];omega,(hS _).2 (.inl rfl),fun q=>?_,fun q=>?_,fun x hx h1 h2=>?_⟩
  ·rw [hS,hp] at q;omega
  ·rw [hpp,hS] at q;omega
  ·rw [hpp] at h2
   rw [hp] at h1
   rw [hS,hS]
   have hx2:partner Q.length x=if x < Q.length then x+Q.length else x - Q.length:=rfl
   by_cases c:x < Q.length
   ·rw [hx2,if_pos c];omega
   ·rw [hx2,if_neg c];omega
 have aa:J Q.length (2*Q.length+2) (nD Q.length (m9 M) (fun i=>cv.getD i 0) (fun i=>Q.getD i 0)) s1 (partner Q.length r) r1:=⟨KR,KS,hcomp,zu (BR (by omega) hI KR) yO⟩
 exact aa
section
variable {n m:Nat} {A:lE}
theorem aiO {s:TS} (h:uM n m s) {i:Nat} (hi:i < n):0≤s.T i (m - 1):=by
 rcases h i hi with g | ⟨g,_⟩
 ·exact Int.le_of_lt g
 ·exact Int.le_of_eq g.symm
theorem YN: ∀(q:Nat) (s:TS) (v r:Nat) (st:List (List Int)), ∃e,(goI n m q s v r st).2.1=st++e:=by
 intro q
 induction q with
 | zero=>intro s v r st;exact⟨[],(List.append_nil _).symm⟩
 | succ q ih=>
  intro s v r st
  unfold goI
  split
  ·exact⟨[],(List.append_nil _).symm⟩
  ·split
   ·exact⟨_,rfl⟩
   ·split
    ·exact⟨_,rfl⟩
    ·obtain⟨e,he⟩:=ih (s.step r v) (partner n (s.bs.getD r 0).toNat) ‹_› (st++ [[(v:Int),s.bs.getD r 0]])
     exact⟨_,by rw [he,List.append_assoc]⟩
variable (hn:n≤5) (hn0:0 < n) (hm:m=2*n+2) (hA:Small n m A) (hI: ∀i j,i < n→j < n→A i j=if i=j then 1 else 0)
include hn hn0 hm hA hI
end
end Go.Proofs.YthmfdplckdijdaaGreat.zm
end
section
namespace Go.Proofs.YthmfdplckdijdaaGreat.zm
open Go.RowKit Wz.cw Wz.cX Ma Dt Bz Lk Lt Pr Lq
def Chain (n:Nat):List (List Int)→Prop
 | []=>True
 | [_]=>True
 | a::b::l=>b.getD 0 0=(a.getD 1 0+n) % (2*(n:Int))∧Chain n (b::l)
theorem Chain.snoc {n:Nat} {v y:Int}: ∀ {l:List (List Int)},Chain n l→(∀a,l.getLast?=some a→v=(a.getD 1 0+n) % (2*(n:Int)))→Chain n (l++ [[v,y]])
 | [],_,_=>trivial
 | [a],_,h=>⟨h a rfl,trivial⟩
 | a::b::l,hc,h=>⟨hc.1,Chain.snoc hc.2 (fun x hx=>h x (by rw [List.getLast?_cons_cons];exact hx))⟩
theorem agY {n x:Nat} (h:x < 2*n):((partner n x:Nat):Int)=((x:Int)+n) % (2*(n:Int)):=by
 unfold partner
 split
 ·rw [Int.emod_eq_of_lt (by omega) (by omega)];omega
 ·have:((x:Int)+n)=((x - n:Nat):Int)+2*(n:Int):=by omega
  rw [this,Int.add_emod_right,Int.emod_eq_of_lt (by omega) (by omega)]
section
variable {n m:Nat} {A:lE} (hn:n≤5) (hn0:0 < n) (hm:m=2*n+2) (hA:Small n m A)
include hn hm hA
theorem abE: ∀(q:Nat) (s:TS) (v r:Nat) (st:List (List Int)),Ok n m A s→r < n→v+1 < m→s.T r v≠0→Chain n st→(∀a,st.getLast?=some a→(v:Int)=(a.getD 1 0+n) % (2*(n:Int)))→Chain n (goI n m q s v r st).2.1:=by
 intro q
 induction q with
 | zero=>intro s v r st _ _ _ _ h _;exact h
 | succ q ih=>
  intro s v r st hok hr hv hp h h2
  have hs:=h.snoc (y:=s.bs.getD r 0) h2
  have Iu:=hok.step hn hA hr hv hp
  have h0:=hok.nn r hr
  have h3:=hok.lt r hr
  unfold goI
  split
  ·exact h
  ·split
   ·exact hs
   ·rename_i hz
    cases e:qC n m (s.step r v) (fun i=>(s.step r v).T i (partner n (s.bs.getD r 0).toNat)) with
    | none=>exact hs
    | some r'=>
     have h4:=tY e
     have hlt:(s.bs.getD r 0).toNat < 2*n:=by omega
     refine ih _ _ _ _ Iu h4.1 (by have:=DS hlt;omega) (by have:=h4.2;omega) hs (fun a ha=>?_)
     rw [List.getLast?_append] at ha
     injection ha with ha
     subst ha
     rw [agY hlt]
     show _=(s.bs.getD r 0+n) % _
     rw [Int.toNat_of_nonneg h0]
include hn0 in
theorem ahy: ∀(q:Nat) (s:TS) (v r:Nat) (st:List (List Int)),st.length+q=201→st.length≤200→Ok n m A s→r < n→v+1 < m→s.T r v≠0→(goI n m q s v r st).2.2.1=false→(goI n m q s v r st).2.2.2.2=0→ ∀i,i < n→(goI n m q s v r st).1.T i (goI n m q s v r st).2.2.2.1.toNat≤0:=by
 intro q
 induction q with
 | zero=>intro s v r st h1 h2;omega
 | succ q ih=>
  intro s v r st h1 h2 hok hr hv hp
  have Iu:=hok.step hn hA hr hv hp
  have h0:=hok.nn r hr
  have h3:=hok.lt r hr
  unfold goI
  split
  ·intro _ h;cases h
  ·split
   ·intro h;cases h
   ·rename_i hz
    cases e:qC n m (s.step r v) (fun i=>(s.step r v).T i (partner n (s.bs.getD r 0).toNat)) with
    | none=>
     intro _ _ i hi
     exact yX e i hi
    | some r'=>
     have h4:=tY e
     have hlt:(s.bs.getD r 0).toNat < 2*n:=by omega
     exact ih _ _ _ _ (by simp only [List.length_append,List.length_cons,List.length_nil];omega) (by simp only [List.length_append,List.length_cons,List.length_nil];omega) Iu h4.1 (by have:=DS hlt;omega) (by have:=h4.2;omega)
end
end Go.Proofs.YthmfdplckdijdaaGreat.zm
end
section
namespace Go.Proofs.YthmfdplckdijdaaGreat.Lp
open Go.RowKit Wz.cw Wz.fX Wz.cX Pr Ma Dt Lk Lt Lq
theorem afz (B:List Int) (h:B.length≤1000):qR.f B=some B:=by
 unfold qR.f
 simp only [Option.bind_some]
 rw [if_pos (by simp;omega)];rfl
theorem XP (A0:Option Addr) (c0:Nat) (L:List (List Int)) (den:Int) (A2:Option Addr) (c2:Nat) (B:List Int) (w:World) (n m r v:Nat)
  (hC0:Kd.C (Kd.slice 2 (Kd.int .i64)) w A0 L.length L) (hC2:Kd.C (Kd.int .i64) w A2 B.length B) (hc2:B.length≤c2) (hL:L.length=n) (hr: ∀x ∈ L,x.length=m) (hrn:r < n) (hv:v < m) (hB:r < B.length) (hB2:B.length≤1000) (hn2:n≤1000) (hm2:m≤1000) (hden:den≠0):
  Calls Tryz.prog 110 #[.agg #[.slice A0 L.length c0, .int .i64 den, .slice A2 B.length c2], .int .i64 r, .int .i64 v] w fun e w'=> ∃v0 v2:Value,e= .returned (.agg #[v0, .int .i64 (Ch (m9 L) r v),v2])∧Kd.S (Kd.slice 2 (Kd.int .i64)) 24 w' w.heap.size (fun k=>some k≠v2.ownBlock) v0 (nP n m (AJ (m9 L) den r v))∧Kd.R (Kd.int .i64) 2 w' w.heap.size (fun _=>True) v2 (B.set r (v:Int))∧Below w.heap.size w w':=by
 obtain⟨ad,b,cp,rfl,hrow,aiZ⟩:=acM hC0 hL hr (by omega) (by omega);have HB:=q_ (Below.refl w.heap.size w);have xB:=q_ hrow;have zo:=q_ aiZ;have wv:=q_ hC2;have akq:=q_ hc2;have HR:=q_ hrn;have HV:=q_ hv;have RL:=q_ hB;have AG:=q_ hB2;have uo:=q_ hn2;have wM:=q_ hm2;have HD:=q_ hden;rw [hL];obtain⟨T,hT⟩: ∃T:lE,m9 L=T:=⟨_,rfl⟩
 rw [hT] at zo;rw [hT];obtain⟨p,hp⟩: ∃p,T r v=p:=⟨_,rfl⟩
 have HP:=q_ hp;have hrz:(r:Int) < (n:Int):=by omega
 have h0r:(0:Int)≤(r:Int):=by omega
 have hvz:(v:Int) < (m:Int):=by omega
 have h0v:(0:Int)≤(v:Int):=by omega
 have hrb:(r:Int) < (B.length:Int):=by omega
 clear hC0 hC2 hc2 hL hr hrn hv hB hB2 hn2 hm2 hden hrow aiZ hp hT
 go_enter Tryz.func110,Tryz.ntmps110
 go_wp2_with (first | ((with_reducible refine dg (N:=3) rfl ?_);refine nR 3 #[.slice (some ad) n c0, .int .i64 den, .slice A2 B.length c2] 107 ?_;intro g3 hg w3 cM hb;replace HB:=q_ (eE HB.out hb);have B3:=q_ cM;clear hb cM hg) | ((with_reducible refine dg (N:=6) rfl ?_);refine nR 6 #[.slice none 0 0, .int .i64 0, .slice none 0 0] 107 ?_;intro g6 hg w4 cM hb;have JN:aE (w.heap.size≤g6):=⟨by rw [hg];exact HB.out.size⟩;replace HB:=q_ (eE HB.out hb);replace B3:=q_ (ke B3.out hb);have B6:=q_ cM;clear hb cM hg))
 replace HB:=q_ (eE HB.out (mH (Below.refl w4.heap.size w4)));replace B3:=q_ (ke B3.out (mH (Below.refl w4.heap.size w4)));replace B6:=q_ (ke B6.out (mH (Below.refl w4.heap.size w4)));have hx1:w4.drew.cell? (ad.add r)=some (.slice (some (b r)) m (cp r)):=(HB.out.cell (World.block_lt_of_cell? w _ (xB.out r HR.out))).trans (xB.out r HR.out);have hx2:w4.drew.cell? ((b r).add v)=some (.int .i64 p):=(HB.out.cell (World.block_lt_of_cell? w _ (zo.out r v HR.out HV.out))).trans ((zo.out r v HR.out HV.out).trans (by rw [HP.out]));refine qx (n:=23) (S:=fun w'=>w'.cell? ⟨g3,0,none⟩=some (.slice (some ad) n c0)∧w'.cell? ⟨g3,2,none⟩=some (.slice A2 B.length c2)∧w'.cell? (ad.add r)=some (.slice (some (b r)) m (cp r))∧w'.cell? ((b r).add v)=some (.int .i64 p)) (ds:= []) ⟨lS B3 0,lS B3 2,hx1,hx2⟩ (fun hHeld=>?_)
 generalize w4.drew=w5 at HB B3 B6 hx1 hx2 hHeld ⊢
 refine lX 0 15 ?_;refine mg 1 16 ?_;refine sU 2 17 3 18 ?_;refine mg 4 19 ?_;refine sU 5 20 6 21 ?_;refine mg 7 22 ?_;refine lX 8 23 ?_;refine mg 9 24 ?_
 refine lX 12 27 ?_;refine mg 13 28 ?_;refine sU 14 29 15 30 ?_;refine mg 16 31 ?_;refine sU 17 32 18 33 ?_;refine mg 19 34 ?_
 refine zR (σ:=Nat × Value) 2 (fm 23 2097151) (fun s=> [(25,s.2),(26, .agg #[.slice none 0 0, .int .i64 p,s.2]),(7, .pointer (some ⟨s.1,0,none⟩))]) (fun s w'=>Below w.heap.size w w'∧w.heap.size≤s.1∧w'.heap[s.1]?=some (.cells #[.slice none 0 0, .int .i64 0, .slice none 0 0] 107 (0,0))∧Kd.R (Kd.int .i64) 2 w' w.heap.size (fun _=>True) s.2 B∧w'.heap[g3]?=some (.cells #[.slice (some ad) n c0, .int .i64 den, .slice A2 B.length c2] 107 (0,0))∧w'.heap[g6]?=some (.cells #[.slice none 0 0, .int .i64 0, .slice none 0 0] 107 (0,0))∧g3≠s.1∧g6≠s.1) ?_ ?_
 rotate_left
 ·intro hJ;refine Gq (i:=10) (j:=20) (Ni:=some 25) (Nj:=some 7) (fm 23 1046527) (fm 23 2094079) rfl rfl rfl rfl (by kernel_rfl) (by decide) (by decide) (fun K hK=>?_) (fun K hK=>?_)
  ·refine IE Tryz.func137 #[.slice A2 B.length c2] ?_
   refine(qR.calls A2 c2 B B w5 (Kd.nW wv.out HB.out) akq.out (afz B AG.out)).mono ?_
   rintro e w6 ⟨v2,rfl,hR,hb⟩;obtain⟨A9,c9,rfl⟩:=Kd.mE hR;refine⟨_,rfl,?_⟩
   have Gh:=q_ (Kd.ng hR HB.out.size);replace HB:=q_ (eE HB.out hb);replace B3:=q_ (ke B3.out hb);replace B6:=q_ (ke B6.out hb);have Ir:=bc_ hb hx1;have Iq:=bc_ hb hx2;clear hR hb hx1 hx2 hHeld;refine hK.out _ _ ⟨lS B3 0,lS B3 2,Ir,Iq⟩ (fun hHeld=>?_)
   clear hK K;refine AU ?_
   refine lX 11 26 ?_
   refine pz 20 (some 7) (fun K hK=>?_)
   refine rP (by rfl) (N:=7) rfl (cs:= #[.slice none 0 0, .int .i64 0, .slice none 0 0]) (t:=107) (by first | (go_simp;done) | (go_simp;rfl)) ?_
   intro g7 hg w8 cM hb;have hx1:=(hb.cell (World.block_lt_of_cell? w6 _ Ir)).trans Ir;have hx2:=(hb.cell (World.block_lt_of_cell? w6 _ Iq)).trans Iq;have N3:g3≠g7:=by have:=pq B3.out;omega
   have N6:g6≠g7:=by have:=pq B6.out;omega
   have hsz:=HB.out.size;replace HB:=q_ (eE HB.out hb);replace B3:=q_ (ke B3.out hb);replace B6:=q_ (ke B6.out hb);replace Gh:=q_ (Kd.oQ Gh.out hb);refine hK.out _ _ ⟨lS B3 0,lS B3 2,hx1,hx2⟩ (fun hHeld=>?_)
   clear hK K;refine AU ?_
   exact nm_ (hJ (g7, .slice A9 B.length c9) _ ⟨HB.out,by omega,cM,Gh.out,B3.out,B6.out,N3,N6⟩)
  ·refine rP (by rfl) (N:=7) rfl (cs:= #[.slice none 0 0, .int .i64 0, .slice none 0 0]) (t:=107) (by first | (go_simp;done) | (go_simp;rfl)) ?_
   intro g7 hg w8 cM hb;have Ir:=bc_ hb hx1;have Iq:=bc_ hb hx2;have N3:g3≠g7:=by have:=pq B3.out;omega
   have N6:g6≠g7:=by have:=pq B6.out;omega
   have hsz:=HB.out.size;have yF:w.heap.size≤g7:=by omega
   replace HB:=q_ (eE HB.out hb);replace B3:=q_ (ke B3.out hb);replace B6:=q_ (ke B6.out hb);clear hx1 hx2 hHeld hb hg;refine hK.out _ _ ⟨lS B3 0,lS B3 2,Ir,Iq⟩ (fun hHeld=>?_)
   clear hK K;refine AU ?_
   refine pz 10 (some 25) (fun K hK=>?_)
   refine IE Tryz.func137 #[.slice A2 B.length c2] ?_
   refine(qR.calls A2 c2 B B w8 (Kd.nW wv.out HB.out) akq.out (afz B AG.out)).mono ?_
   rintro e w9 ⟨v2,rfl,hR,hb⟩;obtain⟨A9,c9,rfl⟩:=Kd.mE hR;refine⟨_,rfl,?_⟩
   have Gh:=q_ (Kd.ng hR HB.out.size);replace HB:=q_ (eE HB.out hb);replace B3:=q_ (ke B3.out hb);replace B6:=q_ (ke B6.out hb);have hx1:=(hb.cell (World.block_lt_of_cell? w8 _ Ir)).trans Ir;have hx2:=(hb.cell (World.block_lt_of_cell? w8 _ Iq)).trans Iq;replace cM:=ke cM hb;clear hR hb Ir Iq hHeld;refine hK.out _ _ ⟨lS B3 0,lS B3 2,hx1,hx2⟩ (fun hHeld=>?_)
   clear hK K;refine AU ?_
   refine lX 11 26 ?_
   exact nm_ (hJ (g7, .slice A9 B.length c9) _ ⟨HB.out,yF,cM,Gh.out,B3.out,B6.out,N3,N6⟩)
 rintro ⟨g7,v2⟩ w6 ⟨hb,hG7,cM,hRB,hb3,hb6,N3,N6⟩;replace HB:=q_ hb;replace B3:=q_ hb3;replace B6:=q_ hb6;have B7:=q_ cM;have Gh:=q_ hRB;have yF:=q_ hG7;have W7:=q_ N3;have Qb:=q_ N6;clear hb hG7 cM hRB hb3 hb6 hx1 hx2 hHeld;refine mP (a':=?_) ?_ ?_
 rotate_left
 ·simp only [nY,Act.put,List.setIfInBounds_toArray,List.set_cons_zero,List.set_cons_succ]
  rfl
 obtain⟨gb,cb,rfl,hgb,anx,aqL,hcb⟩:=Kd.rX Gh.out (by have:=RL.out;omega);have HGB:=q_ hgb;have ho:(Value.slice (some ⟨gb,0,none⟩) B.length cb).ownBlock=some gb:=by simp [Value.ownBlock]
 have Jz: ∀g cs,w6.heap[g]?=some (.cells cs 107 (0,0))→g≠gb:=fun g cs h e=>by
  subst e;rw [h] at hcb;injection hcb with h1
  injection h1 with _ h3 _
  revert h3;decide
 have hb3:=Jz _ _ B3.out;have hb6:=Jz _ _ B6.out;have hb7:=Jz _ _ B7.out;have anL:=Ne.symm hb3;have anK:=Ne.symm hb6;have anJ:=Ne.symm hb7;have hcell:=Kd.tW 0 Gh.out (r:Int) (by omega) (by have:=RL.out;omega);rw [Int.toNat_natCast] at hcell;have hfr:=hcell.2;replace hcell:=hcell.1;have hz0:=lS B7 0;have am3:=gE B7.out 0;have hz1:=lS B7 1;have am2:=gE B7.out 1;have hz2:=lS B7 2;have am1:=gE B7.out 2;clear Jz ho hgb anx hcb;refine pz 21 none (fun K hK=>?_)
 refine rL (w1:=?_) (by rfl) rfl ?_ ?_
 rotate_left
 ·go_simp
  rfl
 have P7:aE (Pt w (((w6.setCell ⟨g7,0,none⟩ (.slice none 0 0)).setCell ⟨g7,1,none⟩ (.int .i64 p)).setCell ⟨g7,2,none⟩ (.slice (some ⟨gb,0,none⟩) B.length cb)) g7 (.slice none 0 0) (.slice (some ⟨gb,0,none⟩) B.length cb) p [] B):=⟨((HB.out.setCell yF.out _).setCell yF.out _).setCell yF.out _,yF.out,mD (mD (mD B7.out 0 _ rfl) 1 _ rfl) 2 _ rfl,Kd.sJ _ _ _ _ _,AH (AH (AH Gh.out B7.out (by decide)) (mD B7.out 0 _ rfl) (by decide)) (mD (mD B7.out 0 _ rfl) 1 _ rfl) (by decide)⟩
 replace B3:=q_ (vJ (vJ (vJ B3.out (p:=⟨g7,0,none⟩) W7.out (.slice none 0 0)) (p:=⟨g7,1,none⟩) W7.out (.int .i64 p)) (p:=⟨g7,2,none⟩) W7.out (.slice (some ⟨gb,0,none⟩) B.length cb));replace B6:=q_ (vJ (vJ (vJ B6.out (p:=⟨g7,0,none⟩) Qb.out (.slice none 0 0)) (p:=⟨g7,1,none⟩) Qb.out (.int .i64 p)) (p:=⟨g7,2,none⟩) Qb.out (.slice (some ⟨gb,0,none⟩) B.length cb));clear B7 hz0 am3 hz1 am2 hz2 am1 hcell hfr Gh HB
 generalize ((w6.setCell ⟨g7,0,none⟩ (.slice none 0 0)).setCell ⟨g7,1,none⟩ (.int .i64 p)).setCell ⟨g7,2,none⟩ (.slice (some ⟨gb,0,none⟩) B.length cb)=w7 at P7 B3 B6 ⊢
 have hx1:w7.cell? (ad.add r)=some (.slice (some (b r)) m (cp r)):=(P7.out.below.cell (World.block_lt_of_cell? w _ (xB.out r HR.out))).trans (xB.out r HR.out);have hx2:w7.cell? ((b r).add v)=some (.int .i64 p):=(P7.out.below.cell (World.block_lt_of_cell? w _ (zo.out r v HR.out HV.out))).trans ((zo.out r v HR.out HV.out).trans (by rw [HP.out]));refine hK.out _ _ ⟨lS B3 0,lS B3 2,hx1,hx2⟩ (fun hHeld=>?_)
 clear hK K hx1 hx2;refine lX 22 8 ?_
 refine oA (by kernel_rfl) ?_
 clear hHeld;have hcell:=Kd.tW 0 P7.out.R (r:Int) (by omega) (by have:=RL.out;omega);rw [Int.toNat_natCast] at hcell;have hfr:=hcell.2;replace hcell:=hcell.1;have hz2:=lS ⟨P7.out.blk⟩ 2;go_wp2
 have HPB:=P7.out.ZQ r (v:Int);replace P7:=q_ HPB.1;have hto:(Value.slice (some ⟨gb,0,none⟩) B.length cb).ownBlock=some gb:=by simp [Value.ownBlock]
 replace B3:=q_ (m8 B3.out HPB.2 (by rw [hto];intro e;injection e with e;exact hb3 e));replace B6:=q_ (m8 B6.out HPB.2 (by rw [hto];intro e;injection e with e;exact hb6 e));obtain⟨B',hB'⟩: ∃B',B.set r (v:Int)=B':=⟨_,rfl⟩
 rw [hB'] at P7;have HBX:=q_ hB';clear hB';clear hcell hfr hz2 HPB hto
 generalize w7.setCell ⟨gb,r,none⟩ (.int .i64 (v:Int))=w8 at P7 B3 B6 ⊢
 obtain⟨X,hX⟩: ∃X:lE,Fq T den r v=X:=⟨_,rfl⟩
 have HX:=q_ hX;clear hX
 generalize hu2:(Value.slice (some ⟨gb,0,none⟩) B.length cb)=u2 at P7 ⊢
 clear hb3 hb6 hb7 anL anK anJ
 go_loopg [9] n (fun gg v9 wr=> ∃(i:Nat) (u0:Value),i≤n∧n - i≤gg∧v9= .int .i64 (i:Int)∧aE (Pt w wr g7 u0 u2 p (nP i m X) B')∧aE (wr.heap[g3]?=some (.cells #[.slice (some ad) n c0, .int .i64 den, .slice A2 B.length c2] 107 (0,0)))∧aE (wr.heap[g6]?=some (.cells #[.slice none 0 0, .int .i64 0, .slice none 0 0] 107 (0,0))))
 case atStart=>exact⟨0,_,Nat.zero_le _,by omega,rfl,P7,B3,B6⟩
 case round=>
  clear P7 B3 B6;obtain⟨i,u0,hi,hg,rfl,PT,B3,B6⟩:=hrel;have HG:=q_ hg
  by_cases hlt:i < n
  ·have pZ:(i:Int) < (n:Int):=by omega
   have h0z:(0:Int)≤(i:Int):=by omega
   have hw:IntKind.i64.wrap ((i:Int)+1)=((i+1:Nat):Int):=by rw [IntWalk.i64_in _ (by have:=uo.out;omega)];rfl
   have HW:=q_ hw;have mG:=q_ hlt;have hz0:=lS B3 0;clear hi hg hlt
   go_wp2_with (first | ((with_reducible refine dg (N:=47) rfl ?_);refine Kd.tu (Kd.int .i64) (w0:=wr) wr.heap.size 2 ?hg (N:=47) ?hd (xs:=([]:List Int)) (inner:= []) (ok:=fun _=>True) (oC:=fun _=>True) ?hr ?hp (fun _ hk=>hk) trivial (Below.refl _ _) (Nat.le_refl _) (by simp) ?_;(case hd=>rfl);(case hg=>rfl);(case hr=>first | (go_simp;done) | (go_simp;rfl));(case hp=>exact(mV.none _ _));intro v10 tE ho hb hg_ DW;have PU:=q_ (Pu.new PT.out hb ho);replace B3:=q_ (ke B3.out hb);replace B6:=q_ (ke B6.out hb);clear ho hb hg_ DW hz0 PT))
   go_loopg [10,11] m (fun gg v10 v11 wr=> ∃(k:Nat),k≤m∧m - k≤gg∧v11= .int .i64 (k:Int)∧aE (Pu w wr g7 u0 u2 p (nP i m X) B' v10 (qU X i k))∧aE (wr.heap[g3]?=some (.cells #[.slice (some ad) n c0, .int .i64 den, .slice A2 B.length c2] 107 (0,0)))∧aE (wr.heap[g6]?=some (.cells #[.slice none 0 0, .int .i64 0, .slice none 0 0] 107 (0,0))))
   case atStart=>exact⟨0,Nat.zero_le _,by omega,rfl,PU,B3,B6⟩
   case round=>
    clear PU B3 B6;obtain⟨k,hk,hg2,rfl,PU,B3,B6⟩:=hrel;have HG2:=q_ hg2
    by_cases hkm:k < m
    ·have hkz:(k:Int) < (m:Int):=by omega
     have h0k:(0:Int)≤(k:Int):=by omega
     have hwk:IntKind.i64.wrap ((k:Int)+1)=((k+1:Nat):Int):=by rw [IntWalk.i64_in _ (by have:=wM.out;omega)];rfl
     have Gf:=q_ hwk;have Ew:=q_ hkm;have hx1:wr.cell? (ad.add i)=some (.slice (some (b i)) m (cp i)):=(PU.out.below.cell (World.block_lt_of_cell? w _ (xB.out i mG.out))).trans (xB.out i mG.out);have hx2:wr.cell? ((b i).add k)=some (.int .i64 (T i k)):=(PU.out.below.cell (World.block_lt_of_cell? w _ (zo.out i k mG.out hkm))).trans (zo.out i k mG.out hkm);have hz0:=lS B3 0;obtain⟨EA,qF,e10⟩:=Kd.mE PU.out.X;have Vy:(qU X i k).length=k:=qh X i k;rw [Vy] at e10;subst e10;clear hk hg2 hkm Vy
     by_cases hir:i=r
     ·have ai4:((i:Int)==(r:Int))=true:=by simp [hir]
      have Zm:=q_ hir;clear hir
      go_wp2_with (first | ((with_reducible refine nL (b:= .append) (xs:= #[.tmp 61, .tmp 70]) rfl ?_);at_builtin;refine Kd.qo (Kd.int .i64) (w0:=w) w.heap.size rfl (.tmp 61) (.tmp 70) 24 2 (.int .i64 0) 8 rfl Tryz.underlying24 q6 rfl (by decide) (by omega) (.slice EA k qF) (qU X i k) (T i k) [.int .i64 (T i k)] (fun k_=>some k_≠u2.ownBlock) (fun _=>False) rfl rfl rfl (fun _ hk=>hk.elim) (Kd.tZ (Kd.qw PU.out.R)) PU.out.X PU.out.below PU.out.below.size ?aL ?_;(case aL=>have:=wM.out;have:=Ew.out;rw [qh];omega);intro v11 rB ho hb hg hat;replace B3:=q_ (PU.out.other hg B3.out);replace B6:=q_ (PU.out.other hg B6.out);replace PU:=q_ (PU.out.grow hb hg hat ho);clear ho hb hg hat hx1 hx2 hz0))
      go_roundg (m - (k+1))
      case measure=>have:=HG2.out;have:=Ew.out;omega
      case rel=>
       refine⟨k+1,Ew.out,by omega,by first | rfl | (rw [Gf.out]) | (simp [Gf.out]),?_,B3,B6⟩
       rw [yV,show X i k=T i k from by rw [← HX.out];unfold Fq;rw [if_pos Zm.out,Zm.out]];exact PU
     ·have ai4:((i:Int)==(r:Int))=false:=by simp;omega
      have anr: ¬ (i:Int)=(r:Int):=by omega
      have Zm:=q_ hir;clear hir;have hx3:wr.cell? ((b i).add v)=some (.int .i64 (T i v)):=(PU.out.below.cell (World.block_lt_of_cell? w _ (zo.out i v mG.out HV.out))).trans (zo.out i v mG.out HV.out);have hx4:wr.cell? (ad.add r)=some (.slice (some (b r)) m (cp r)):=(PU.out.below.cell (World.block_lt_of_cell? w _ (xB.out r HR.out))).trans (xB.out r HR.out);have hx5:wr.cell? ((b r).add k)=some (.int .i64 (T r k)):=(PU.out.below.cell (World.block_lt_of_cell? w _ (zo.out r k HR.out Ew.out))).trans (zo.out r k HR.out Ew.out);have hz1:=lS B3 1;have hd0:(den==0)=false:=by have:=HD.out;simpa using this
      have hd1: ¬ den=0:=HD.out;go_wp2
      replace PU:=q_ (PU.out.mv (mH (Below.refl wr.heap.size wr)));replace B3:=q_ (ke B3.out (mH (Below.refl wr.heap.size wr)));replace B6:=q_ (ke B6.out (mH (Below.refl wr.heap.size wr)));refine qx (n:=35) (S:=fun w'=>w'.cell? ⟨g3,0,none⟩=some (.slice (some ad) n c0)∧w'.cell? ⟨g3,1,none⟩=some (.int .i64 den)∧w'.cell? (ad.add i)=some (.slice (some (b i)) m (cp i))∧w'.cell? ((b i).add k)=some (.int .i64 (T i k))∧w'.cell? ((b i).add v)=some (.int .i64 (T i v))∧w'.cell? (ad.add r)=some (.slice (some (b r)) m (cp r))∧w'.cell? ((b r).add k)=some (.int .i64 (T r k))) (ds:= []) ⟨hz0,hz1,hx1,hx2,hx3,hx4,hx5⟩ (fun hHeld=>?_)
      generalize wr.drew=tE at PU B3 B6 hHeld ⊢
      clear hz0 hz1 hx1 hx2 hx3 hx4 hx5;refine sU 0 72 1 73 ?_;refine mg 2 74 ?_;refine sU 3 75 4 76 ?_;refine mg 5 77 ?_;refine sU 6 78 7 79 ?_;refine mg 8 80 ?_;refine rm 9 81 10 82 11 83 ?_;refine mg 12 84 ?_;refine sU 13 85 14 86 ?_;refine mg 15 87 ?_;refine sU 16 88 17 89 ?_;refine mg 18 90 ?_;refine lX 19 91 ?_;refine mg 20 92 ?_;refine sU 21 93 22 94 ?_;refine mg 23 95 ?_;refine sU 24 96 25 97 ?_;refine mg 26 98 ?_;refine rm 27 99 28 100 29 101 ?_;refine mg 30 102 ?_;refine lX 31 103 ?_
      have hmv:=fun(W:World) (hb:Below w.heap.size w W)=>(⟨(hb.cell (World.block_lt_of_cell? w _ (xB.out i mG.out))).trans (xB.out i mG.out),(hb.cell (World.block_lt_of_cell? w _ (zo.out i k mG.out Ew.out))).trans (zo.out i k mG.out Ew.out),(hb.cell (World.block_lt_of_cell? w _ (zo.out i v mG.out HV.out))).trans (zo.out i v mG.out HV.out),(hb.cell (World.block_lt_of_cell? w _ (xB.out r HR.out))).trans (xB.out r HR.out),(hb.cell (World.block_lt_of_cell? w _ (zo.out r k HR.out Ew.out))).trans (zo.out r k HR.out Ew.out)⟩:W.cell? (ad.add i)=some (.slice (some (b i)) m (cp i))∧W.cell? ((b i).add k)=some (.int .i64 (T i k))∧W.cell? ((b i).add v)=some (.int .i64 (T i v))∧W.cell? (ad.add r)=some (.slice (some (b r)) m (cp r))∧W.cell? ((b r).add k)=some (.int .i64 (T r k)))
      have HMV:=q_ hmv;clear hmv;refine pz 32 (some 104) (fun K hK=>?_)
      refine X5 ?_
      refine hK.out _ _ ⟨(bp (mY B3.out _) 0).trans rfl,(bp (mY B3.out _) 1).trans rfl,HMV.out _ (PU.out.below.alloc PU.out.below.size _)⟩ (fun hHeld=>?_)
      clear hK K;refine AU ?_
      refine pz 33 (some 105) (fun K hK=>?_)
      refine Kd.uX (Kd.int .i64) (w0:=w) w.heap.size (by rfl) (.tmp 72) (.tmp 104) 24 2 (.int .i64 0) 8 rfl Tryz.underlying24 q6 rfl (by decide) (by omega) (.slice EA k qF) (qU X i k) (wrap64 (Int.tdiv (wrap64 (wrap64 (T i k*p) - wrap64 (T i v*T r k))) den)) [.int .i64 (wrap64 (Int.tdiv (wrap64 (wrap64 (T i k*p) - wrap64 (T i v*T r k))) den))] (fun k_=>some k_≠u2.ownBlock) (fun _=>False) rfl rfl rfl (fun _ hk=>hk.elim) (Kd.tZ (Kd.qw PU.out.R)) PU.out.X PU.out.below PU.out.below.size ?aL ?_
      case aL=>have:=wM.out;have:=Ew.out;rw [qh];omega
      intro v11 rB ho hb hg hat;replace B3:=q_ (PU.out.other hg B3.out);replace B6:=q_ (PU.out.other hg B6.out);replace PU:=q_ (PU.out.grow hb hg hat ho);clear ho hb hg hat hHeld;refine hK.out _ _ ⟨lS B3 0,lS B3 1,HMV.out _ PU.out.below⟩ (fun hHeld=>?_)
      clear hK K;refine JD 105 ?_
      refine lX 34 10 ?_
      refine oA (by kernel_rfl) ?_
      clear hHeld HMV;go_wp2
      go_roundg (m - (k+1))
      case measure=>have:=HG2.out;have:=Ew.out;omega
      case rel=>
       refine⟨k+1,Ew.out,by omega,by first | rfl | (rw [Gf.out]) | (simp [Gf.out]),?_,B3,B6⟩
       rw [yV,show X i k=(wrap64 (Int.tdiv (wrap64 (wrap64 (T i k*p) - wrap64 (T i v*T r k))) den)) from by rw [← HX.out];unfold Fq;rw [if_neg Zm.out];unfold VI;rw [HP.out]];exact PU
    ·have hkz: ¬ (k:Int) < (m:Int):=by omega
     obtain rfl:k=m:=by omega
     have hx1:wr.cell? (ad.add i)=some (.slice (some (b i)) k (cp i)):=(PU.out.below.cell (World.block_lt_of_cell? w _ (xB.out i mG.out))).trans (xB.out i mG.out);have hz0:=lS B3 0;have hg0:=lS ⟨PU.out.blk⟩ 0;obtain⟨EA,qF,e10⟩:=Kd.mE PU.out.X;have Vy:(qU X i k).length=k:=qh X i k;rw [Vy] at e10;subst e10;clear hk hg2 hkm Vy;have HA:=q_ (Kd.qp PU.out.X (Kd.pQ PU.out.S) (by decide));obtain⟨L1,hL1⟩: ∃L1,nP i k X++ [qU X i k]=L1:=⟨_,rfl⟩
     have Zl:=q_ hL1;clear hL1
     go_wp2_with (first | ((with_reducible refine nL (b:= .append) (xs:= #[.tmp 107, .tmp 109]) rfl ?_);at_builtin;refine Kd.Af (Kd.slice 2 (Kd.int .i64)) (w0:=w) w.heap.size rfl (.tmp 107) (.tmp 109) 32 24 (.slice none 0 0) 24 rfl Tryz.underlying32 yc rfl (by decide) (by omega) u0 (nP i k X) (qU X i k) [.slice EA k qF] (fun k_=>some k_≠u2.ownBlock) (fun k_=>some k_=(.slice EA k qF:Value).ownBlock) rfl rfl ?aP ?aQ ?aF ?aO PU.out.below PU.out.below.size ?aL ?_;(case aP=>exact Kd.zT (Kd.fY (Kd.q5 rfl HA.out) (fun _ h=>h)));(case aQ=>exact fun k_ hk=>HA.out.1 k_ hk.symm);(case aF=>exact Kd.tZ (Kd.qw PU.out.R));(case aO=>exact Kd.mB PU.out.S (fun k_ hk=>⟨hk.1,fun e=>hk.2 e⟩));(case aL=>have:=uo.out;have:=mG.out;rw [sA];omega);intro v1 Ah hs hb hg hat;replace B3:=q_ (m8 B3.out hg (Kd.sP PU.out.S B3.out (by decide)));replace B6:=q_ (m8 B6.out hg (Kd.sP PU.out.S B6.out (by decide)));have B7:=q_ (m8 PU.out.blk hg (Kd.sP PU.out.S PU.out.blk (by decide)));have Dk:=q_ (Kd.fY (Kd.wh PU.out.R (Kd.pQ PU.out.S) (by decide) hg) (fun _ hk=>hk.1));rw [Zl.out] at hs;obtain⟨Ey,qQ,e12⟩:=Kd.nk hs;subst e12;have HS:=q_ hs;have HB:=q_ hb;have aoy:=q_ PU.out.g;clear hs hb hg hat HA PU hx1 hz0 hg0;have hs0:=lS B7 0;have Z5:=gE B7.out 0))
     have PT:=q_ (Pt.rows HB.out aoy.out B7.out HS.out Dk.out);replace B3:=q_ (vJ B3.out (p:=⟨g7,0,none⟩) W7.out (.slice Ey L1.length qQ));replace B6:=q_ (vJ B6.out (p:=⟨g7,0,none⟩) Qb.out (.slice Ey L1.length qQ))
     go_roundg (n - (i+1))
     case measure=>have:=HG.out;have:=mG.out;omega
     case rel=>
      exact⟨i+1,_,mG.out,by omega,by first | rfl | (rw [HW.out]) | (simp [HW.out]),(by rw [OY,Zl.out];exact PT),B3,B6⟩
  ·have pZ: ¬ (i:Int) < (n:Int):=by omega
   obtain rfl:n=i:=by omega
   have hz0:=lS B3 0;have hd1:=lS ⟨PT.out.blk⟩ 1;have anC:=gE PT.out.blk 1;clear hi hg hlt;have hn3:=W7.out;have asT:=Ne.symm W7.out
   by_cases hpn:p < 0
   ·have hpb:decide (p < 0)=true:=decide_eq_true hpn;have RJ:=q_ hpn;clear hpn;go_wp2
    have P2:=q_ (PT.out.adt (wrap64 (- p)));replace B3:=q_ (vJ B3.out (p:=⟨g7,1,none⟩) W7.out (.int .i64 (wrap64 (- p))));replace B6:=q_ (vJ B6.out (p:=⟨g7,1,none⟩) Qb.out (.int .i64 (wrap64 (- p))));clear hz0 hd1 anC PT
    generalize wr.setCell ⟨g7,1,none⟩ (.int .i64 (wrap64 (- p)))=w9 at P2 B3 B6 ⊢
    obtain⟨gu,cu,e0,_,_,_,_⟩:=Kd.IZ P2.out.S (by rw [sA];have:=HR.out;omega);rw [sA] at e0;subst e0;have P3:aE (Pt w w9 g7 (.slice (some ⟨gu,0,none⟩) n cu) u2 (wrap64 (- p)) (nP n m (yM X 0 0)) B'):=⟨by rw [yH (Z:=X) (fun a d _ _=>U7 X a d)];exact P2.out⟩
    clear P2
    go_loopg [12] n (fun gg Di wr=> ∃(i:Nat),i≤n∧n - i≤gg∧Di= .int .i64 (i:Int)∧aE (Pt w wr g7 (.slice (some ⟨gu,0,none⟩) n cu) u2 (wrap64 (- p)) (nP n m (yM X i 0)) B')∧aE (wr.heap[g3]?=some (.cells #[.slice (some ad) n c0, .int .i64 den, .slice A2 B.length c2] 107 (0,0)))∧aE (wr.heap[g6]?=some (.cells #[.slice none 0 0, .int .i64 0, .slice none 0 0] 107 (0,0))))
    case atStart=>exact⟨0,Nat.zero_le _,by omega,rfl,P3,B3,B6⟩
    case round=>
     clear P3 B3 B6;obtain⟨i,hi,hg,rfl,PT,B3,B6⟩:=hrel;have HG:=q_ hg
     by_cases hlt:i < n
     ·have pZ:(i:Int) < (n:Int):=by omega
      have h0z:(0:Int)≤(i:Int):=by omega
      have hw:IntKind.i64.wrap ((i:Int)+1)=((i+1:Nat):Int):=by rw [IntWalk.i64_in _ (by have:=uo.out;omega)];rfl
      have HW:=q_ hw;have mG:=q_ hlt;obtain⟨A13,rz,aej⟩:=alz PT.out.S hlt;rw [yU hlt,qh,uK,Nat.zero_add] at aej;have Xc:=q_ aej;have hg0:=lS ⟨PT.out.blk⟩ 0;clear hi hg hlt;go_wp2
      clear hg0 aej
      go_loopg [14] m (fun gg DH wr=> ∃(k:Nat),k≤m∧m - k≤gg∧DH= .int .i64 (k:Int)∧aE (Pt w wr g7 (.slice (some ⟨gu,0,none⟩) n cu) u2 (wrap64 (- p)) (nP n m (yM X i k)) B')∧aE (wr.cell? ⟨gu,i,none⟩=some (.slice A13 m rz))∧aE (wr.heap[g3]?=some (.cells #[.slice (some ad) n c0, .int .i64 den, .slice A2 B.length c2] 107 (0,0)))∧aE (wr.heap[g6]?=some (.cells #[.slice none 0 0, .int .i64 0, .slice none 0 0] 107 (0,0))))
      case atStart=>exact⟨0,Nat.zero_le _,by omega,rfl,PT,Xc,B3,B6⟩
      case round=>
       clear PT Xc B3 B6;obtain⟨k,hk,hg2,rfl,PT,Xc,B3,B6⟩:=hrel;have HG2:=q_ hg2
       by_cases hkm:k < m
       ·have hkz:(k:Int) < (m:Int):=by omega
        have h0k:(0:Int)≤(k:Int):=by omega
        have hwk:IntKind.i64.wrap ((k:Int)+1)=((k+1:Nat):Int):=by rw [IntWalk.i64_in _ (by have:=wM.out;omega)];rfl
        have Gf:=q_ hwk;have Ew:=q_ hkm;obtain⟨g,c,aiV,hok,hne,⟨cells,hty⟩,hcell,hfr,hbase,hput⟩:=aan PT.out.S mG.out (by rw [uK,Nat.zero_add];exact Xc.out) (show k < _ by rw [yU mG.out,qh];exact hkm);rw [yU mG.out,qh] at aiV;rw [yU mG.out,Ql hkm,abm X i k i k (by omega)] at hcell;injection aiV with e1 _ e2
        subst e1;subst e2;have hp2:=hput (wrap64 (- X i k));rw [yU mG.out,aa5,yH (Z:=yM X i (k+1)) (fun a d _ _=>U8 X i k a d)] at hp2;have hgu:gu≠g:=fun e=>hne (by rw [← e];simp [Value.ownBlock])
        have tk: ∀(q:Nat) (cs:Array Value),wr.heap[q]?=some (.cells cs 107 (0,0))→(wr.setCell ⟨g,k,none⟩ (.int .i64 (wrap64 (- X i k)))).heap[q]?=some (.cells cs 107 (0,0)):=fun q cs h=>m8 h hp2.1 (fun e=>by
         injection e with e
         subst e;rw [hty] at h;injection h with h1
         injection h1 with _ h3 _
         revert h3;decide)
        have PN:aE (Pt w (wr.setCell ⟨g,k,none⟩ (.int .i64 (wrap64 (- X i k)))) g7 (.slice (some ⟨gu,0,none⟩) n cu) u2 (wrap64 (- p)) (nP n m (yM X i (k+1))) B'):=⟨PT.out.below.setCell hbase _,PT.out.g,tk _ _ PT.out.blk,hp2.2,Kd.fY (Kd.Et (Kd.q5 rfl PT.out.R) (fun q hq hlt=>hp2.1.block q hlt (fun e=>hok (e ▸ hq)))) (fun _ _=>trivial)⟩
        have B3N:=q_ (tk _ _ B3.out);have B6N:=q_ (tk _ _ B6.out);have alG:=q_ ((cell_far (W:=wr) (p:=⟨g,k,none⟩) (a:=⟨gu,i,none⟩) hgu (.int .i64 (wrap64 (- X i k)))).trans Xc.out);clear hk hg2 hkm hok hne hty hbase hput hp2 hgu tk;go_wp2
        go_roundg (m - (k+1))
        case measure=>have:=HG2.out;have:=Ew.out;omega
        case rel=>exact⟨k+1,Ew.out,by omega,by first | rfl | (rw [Gf.out]) | (simp [Gf.out]),PN,alG,B3N,B6N⟩
       ·have hkz: ¬ (k:Int) < (m:Int):=by omega
        obtain rfl:k=m:=by omega
        clear hk hg2 hkm;go_wp2
        go_roundg (n - (i+1))
        case measure=>have:=HG.out;have:=mG.out;omega
        case rel=>exact⟨i+1,mG.out,by omega,by first | rfl | (rw [HW.out]) | (simp [HW.out]),⟨by rw [← yH (Y:=yM X i k) (fun a d _ hd=>Ym X i k a d hd)];exact PT.out⟩,B3,B6⟩
     ·have pZ: ¬ (i:Int) < (n:Int):=by omega
      obtain rfl:n=i:=by omega
      clear hi hg hlt;subst hu2;have hg0:=lS ⟨PT.out.blk⟩ 0;have hg1:=lS ⟨PT.out.blk⟩ 1;have hg2:=lS ⟨PT.out.blk⟩ 2;obtain⟨hq0,hq1,hq2,hf0,hf1,hf2⟩:=qI B6;have hn6:=Qb.out;have anh:=Ne.symm Qb.out;go_wp2
      have C0:=mD B6.out 0 (.slice (some ⟨gu,0,none⟩) n cu) rfl;have C1:=mD C0 1 (.int .i64 (wrap64 (- p))) rfl;refine bodyPost_ret (results_cell_row rfl _ _ g6 107 #[(.slice (some ⟨gu,0,none⟩) n cu), .int .i64 (wrap64 (- p)),(.slice (some ⟨gb,0,none⟩) B.length cb)] (0,0) _ rfl (mD C1 2 (.slice (some ⟨gb,0,none⟩) B.length cb) rfl) Tryz.underlying107 rfl (by kernel_rfl)) rfl ?_
      rw [HBX.out,show Ch T r v=wrap64 (- p) from by unfold Ch;rw [HP.out,if_pos RJ.out]];refine⟨(.slice (some ⟨gu,0,none⟩) n cu),(.slice (some ⟨gb,0,none⟩) B.length cb),rfl,?_,AH (AH (AH PT.out.R B6.out (by decide)) C0 (by decide)) C1 (by decide),((PT.out.below.setCell JN.out _).setCell JN.out _).setCell JN.out _⟩
      have hS:=ES (x:=(.slice (some ⟨gb,0,none⟩) B.length cb)) (j:=2) (ES (x:= .int .i64 (wrap64 (- p))) (j:=1) (ES (x:=(.slice (some ⟨gu,0,none⟩) n cu)) (j:=0) PT.out.S B6.out (by decide)) C0 (by decide)) C1 (by decide);rw [yH (Z:=AJ T den r v) (fun a d ha _=>by rw [Yn _ _ _ _ ha];unfold AJ;rw [if_pos (by rw [HP.out];exact RJ.out),HX.out])] at hS;exact hS
   ·have hpb:decide (p < 0)=false:=decide_eq_false hpn;have RJ:=q_ hpn;clear hpn;obtain⟨gu,cu,e0,_,_,_,_⟩:=Kd.IZ PT.out.S (by rw [sA];have:=HR.out;omega);rw [sA] at e0;subst e0;subst hu2;have hg0:=lS ⟨PT.out.blk⟩ 0;have hg1:=lS ⟨PT.out.blk⟩ 1;have hg2:=lS ⟨PT.out.blk⟩ 2;obtain⟨hq0,hq1,hq2,hf0,hf1,hf2⟩:=qI B6;have hn6:=Qb.out;have anh:=Ne.symm Qb.out;go_wp2
    have C0:=mD B6.out 0 (.slice (some ⟨gu,0,none⟩) n cu) rfl;have C1:=mD C0 1 (.int .i64 p) rfl;refine bodyPost_ret (results_cell_row rfl _ _ g6 107 #[(.slice (some ⟨gu,0,none⟩) n cu), .int .i64 p,(.slice (some ⟨gb,0,none⟩) B.length cb)] (0,0) _ rfl (mD C1 2 (.slice (some ⟨gb,0,none⟩) B.length cb) rfl) Tryz.underlying107 rfl (by kernel_rfl)) rfl ?_
    rw [HBX.out,show Ch T r v=p from by unfold Ch;rw [HP.out,if_neg (by have:=RJ.out;omega)]];refine⟨(.slice (some ⟨gu,0,none⟩) n cu),(.slice (some ⟨gb,0,none⟩) B.length cb),rfl,?_,AH (AH (AH PT.out.R B6.out (by decide)) C0 (by decide)) C1 (by decide),((PT.out.below.setCell JN.out _).setCell JN.out _).setCell JN.out _⟩
    have hS:=ES (x:=(.slice (some ⟨gb,0,none⟩) B.length cb)) (j:=2) (ES (x:= .int .i64 p) (j:=1) (ES (x:=(.slice (some ⟨gu,0,none⟩) n cu)) (j:=0) PT.out.S B6.out (by decide)) C0 (by decide)) C1 (by decide);rw [yH (Z:=AJ T den r v) (fun a d ha _=>by unfold AJ;rw [if_neg (by rw [HP.out];have:=RJ.out;omega),HX.out])] at hS;exact hS
end Go.Proofs.YthmfdplckdijdaaGreat.Lp
namespace Go.Proofs.YthmfdplckdijdaaGreat.Pr
open Go.RowKit Wz.cw Wz.fX Wz.cX Ma Dt Lk Lt Lq Lp
def sE.f (aa:List (List Int)) (lW:Int) (ae:List Int) (a1:Int) (a2:Int):Option ((List (List Int)) × Int × List Int):=
 if 0≤a1∧a1 < (aa.length:Int)∧a1 < (ae.length:Int)∧0≤a2∧a2 < ((aa.headD []).length:Int)∧(aa.all fun x=>x.length==(aa.headD []).length)=true∧aa.length≤1000∧(aa.headD []).length≤1000∧ae.length≤1000∧lW≠0 then
  some (nP aa.length (aa.headD []).length (AJ (m9 aa) lW a1.toNat a2.toNat),Ch (m9 aa) a1.toNat a2.toNat,ae.set a1.toNat a2)
 else none
theorem sE.calls (af:Option Addr) (ag:Nat) (aa:List (List Int)) (lW:Int) (ah:Option Addr) (ai:Nat) (ae:List Int) (a1:Int) (a2:Int) (r1:List (List Int)) (r2:Int) (r3:List Int) (w:World) (aj:Kd.C (Kd.slice 2 (Kd.int .i64)) w af aa.length aa) (au:aa.length≤ag) (ak:Kd.C (Kd.int .i64) w ah ae.length ae) (aq:ae.length≤ai) (h:sE.f aa lW ae a1 a2=some (r1,r2,r3)):
  Calls Tryz.prog 110 #[.agg #[.slice af aa.length ag, .int .i64 lW, .slice ah ae.length ai], .int .i64 a1, .int .i64 a2] w fun e w'=> ∃qg Hi:Value,e= .returned (.agg #[qg, .int .i64 r2,Hi])∧Kd.S (Kd.slice 2 (Kd.int .i64)) 24 w' w.heap.size (fun k_=>some k_≠(Hi:Value).ownBlock) qg r1∧Kd.R (Kd.int .i64) 2 w' w.heap.size (fun _=>True) Hi r3∧Below w.heap.size w w':=by
 unfold sE.f at h
 split at h
 case isFalse=>cases h
 rename_i hc
 obtain⟨h1,h2,h3,h4,h5,h6,h7,h8,h9,h10⟩:=hc;injection h with h
 injection h with e1 h
 injection h with e2 e3
 subst e1 e2 e3;obtain⟨i,rfl⟩:=Int.eq_ofNat_of_zero_le h1;obtain⟨j,rfl⟩:=Int.eq_ofNat_of_zero_le h4;exact XP af ag aa lW ah ai ae w aa.length (aa.headD []).length i j aj ak aq rfl (fun x hx=>by rw [List.all_eq_true] at h6;simpa using h6 x hx) (by omega) (by omega) (by omega) h9 h7 h8 h10
end Go.Proofs.YthmfdplckdijdaaGreat.Pr
end
section
namespace Go.Proofs.YthmfdplckdijdaaGreat.Pr
open Go.RowKit Wz.cw Wz.fX Wz.cX
attribute [local go_sem] nV nT oF oD nC nB nU nS
mutual
def iu.l0:Nat→List Int→Int→Int→List (List Int)→List Int→List (List Int)→Int→List Int→Option ((List (List Int)) × Int × List Int)
 | 0,_,_,_,_,_,_,_,_=>none
 | k+1,x1,x6,x7,ae,aa,af,ah,ag=>if x7 < x6 then(iu.l1 k x1 x6 x7 (([]:List Int)) 0 ae aa af ah ag) else(some (af,ah,ag))
def iu.l1:Nat→List Int→Int→Int→List Int→Int→List (List Int)→List Int→List (List Int)→Int→List Int→Option ((List (List Int)) × Int × List Int)
 | 0,_,_,_,_,_,_,_,_,_,_=>none
 | k+1,x1,x6,x7,x8,x9,ae,aa,af,ah,ag=>if x9 < x6 then(if x9=x7 then(if x8.length < 17592186044416 then(iu.l1 k x1 x6 x7 (x8++ [1]) (wrap64 (x9+1)) ae aa af ah ag) else(none)) else(if x8.length < 17592186044416 then(iu.l1 k x1 x6 x7 (x8++ [0]) (wrap64 (x9+1)) ae aa af ah ag) else(none))) else(iu.l2 k x1 x6 x7 x8 0 ae aa af ah ag)
def iu.l2:Nat→List Int→Int→Int→List Int→Int→List (List Int)→List Int→List (List Int)→Int→List Int→Option ((List (List Int)) × Int × List Int)
 | 0,_,_,_,_,_,_,_,_,_,_=>none
 | k+1,x1,x6,x7,x8,x10,ae,aa,af,ah,ag=>if x10 < x6 then(if 0≤x7 then(if x7 < (ae.length:Int) then(if 0≤x10 then(if x10 < ((d5 ae x7).length:Int) then(if x8.length < 17592186044416 then(iu.l2 k x1 x6 x7 (x8++ [wrap64 (-(rd (d5 ae x7) x10))]) (wrap64 (x10+1)) ae aa af ah ag) else(none)) else(none)) else(none)) else(none)) else(none)) else(if(x1.length:Int) > 0 then(if 0≤x7 then(if x7 < (x1.length:Int) then(if x8.length < 17592186044416 then((some (x8++ [wrap64 (-(rd x1 x7))]:List Int)).bind fun ai=>(if x7 < (aa.length:Int) then(if ai.length < 17592186044416 then(if af.length < 5864062014805 then(if ag.length < 17592186044416 then(iu.l0 k x1 x6 (wrap64 (x7+1)) ae aa (af++ [(ai++ [rd aa x7])]) ah (ag++ [x7])) else(none)) else(none)) else(none)) else(none))) else(none)) else(none)) else(none)) else(if 0≤x7 then(if x7 < (aa.length:Int) then(if x8.length < 17592186044416 then(if af.length < 5864062014805 then(if ag.length < 17592186044416 then(iu.l0 k x1 x6 (wrap64 (x7+1)) ae aa (af++ [(x8++ [rd aa x7])]) ah (ag++ [x7])) else(none)) else(none)) else(none)) else(none)) else(none)))
end
def iu.f (k:Nat) (ae:List (List Int)) (aa:List Int) (l1:List Int):Option ((List (List Int)) × Int × List Int):=iu.l0 k l1 (aa.length:Int) 0 ae aa ([]:List (List Int)) 1 ([]:List Int)
def iu.T18:Bool × List (List Nat × List Nat):=(true, [([], []),([0], [0]),([], []),([], []),([3], [3]),([], []),([4,5], [4,5]),([6], [6]),([7], [7]),([2,8], [2,8]),([9], [9]),([1,10,9], [1,10]),([0,1,2,3,4,5,6,7,8,9,10,11], []),([12,11,11,0,1,2,3,4,5,6,7,8,9,10,11], [11,12])])
def iu.B18:List Nat:= [0,1,0,0,8,0,56,120,248,508,1020,2047,4095,8191]
theorem iu.afs:sy .any (opsOf Tryz.f107 18)=iu.T18:=by kernel_rfl
theorem iu.abZ:tD iu.T18.2 iu.B18=true:=by kernel_rfl
theorem iu.calls (k:Nat) (aN:Option Addr) (aT:Nat) (ay:List (List Int)) (a9:Option Addr) (aU:Nat) (ak:List Int) (A1:Option Addr) (c1:Nat) (l1:List Int) (r1:List (List Int)) (r2:Int) (r3:List Int) (w:World) (bS:Kd.C (Kd.slice 2 (Kd.int .i64)) w aN ay.length ay) (bT:ay.length≤aT) (bU:Kd.C (Kd.int .i64) w a9 ak.length ak) (bV:ak.length≤aU) (hr1:Kd.C (Kd.int .i64) w A1 l1.length l1) (hc1:l1.length≤c1) (h:iu.f k ay ak l1=some (r1,r2,r3)):
  Calls Tryz.prog 107 #[.agg #[.slice aN ay.length aT, .slice a9 ak.length aU], .slice A1 l1.length c1] w fun e w'=> ∃qg Hi:Value,e= .returned (.agg #[qg, .int .i64 r2,Hi])∧Kd.S (Kd.slice 2 (Kd.int .i64)) 24 w' w.heap.size (fun k_=>some k_≠(Hi:Value).ownBlock) qg r1∧Kd.R (Kd.int .i64) 2 w' w.heap.size (fun _=>True) Hi r3∧Below w.heap.size w w':=by
 have CY:=Tryz.underlying34;have Dp:=Tryz.underlying107;have mR:=q_ bS;have oh:=q_ bT;clear bS bT;have ox:=q_ bU;have oR:=q_ bV;clear bU bV;have pR:=q_ hr1;have qy:=q_ hc1;clear hr1 hc1;have HB:=q_ (Below.refl w.heap.size w);have H:(iu.l0 k l1 (ak.length:Int) 0 ay ak ([]:List (List Int)) 1 ([]:List Int))=some (r1,r2,r3):=h;clear h;have H':=q_ H;clear H
 go_enter Tryz.func107,Tryz.ntmps107
 try go_wp2_with (first | ((with_reducible refine dg (N:=2) rfl ?_);refine nR 2 #[.slice aN ay.length aT, .slice a9 ak.length aU] 34 ?_;intro aH hg w3 cM hb;have af:=q_ (cM);have fa:=mq w hg;have fc:=mq w hg;replace HB:=lT hb;clear hb cM hg) | ((with_reducible refine dg (N:=4) rfl ?_);refine nR 4 #[.slice none 0 0, .int .i64 0, .slice none 0 0] 107 ?_;intro aC hg w4 cM hb;have aj:=q_ (cM);have fe:=mq w hg;have fg:=mq w hg;have bq:=r7 hg af;have bu:=rY hg af;replace af:=lZ af hb;replace HB:=lT hb;clear hb cM hg))
 replace af:=q_ (mI af.out);replace aj:=q_ (mI aj.out);replace HB:=q_ (mS HB.out);refine qx (n:=7) (S:=fun w'=>w'.cell? ⟨aH,0,none⟩=some (.slice aN ay.length aT)∧w'.cell? ⟨aH,1,none⟩=some (.slice a9 ak.length aU)) (ds:= []) ⟨(bp af.out 0).trans rfl,(bp af.out 1).trans rfl⟩ (fun hHeld=>?_)
 generalize w4.drew=w5 at af aj HB hHeld ⊢
 refine sU 0 11 1 12 ?_;refine mg 2 13 ?_;refine lX 3 14 ?_
 refine pz 4 (some 5) (fun K hK=>?_)
 refine rP ?hg (N:=5) ?hd (cs:= #[.slice none 0 0, .int .i64 0, .slice none 0 0]) (t:=107) ?hr ?_;(case hd=>rfl);(case hg=>rfl);(case hr=>first | (go_simp;done) | (go_simp;rfl))
 intro av hg w6 cM hb;have aa:=q_ (cM);have fj:=mq w hg;have fk:=mq w hg;have aw:=r7 hg af;have aJ:=rY hg af;have az:=r7 hg aj;have aK:=rY hg aj;replace af:=lZ af hb;replace aj:=lZ aj hb;replace HB:=lT hb;clear hb cM hg;refine hK.out _ _ ⟨(bp af.out 0).trans rfl,(bp af.out 1).trans rfl⟩ (fun hHeld=>?_)
 clear hK K;refine mP (a':=?_) ?_ ?_
 rotate_left
 ·show Act.put _ (some 5) _=_
  simp only [Act.put,List.setIfInBounds_toArray,List.set_cons_zero,List.set_cons_succ,mT,nr]
  rfl
 refine pz 5 none (fun K hK=>?_)
 have hs7:=lS aa 0;have anA:=gE aa.out 0;have aqo:=aw.out;have aqn:=az.out;have aqu:=aJ.out;have aqt:=aK.out;have hs8:=lS aa 1;have asZ:=gE aa.out 1;have aqm:=aw.out;have aql:=az.out;have aqs:=aJ.out;have aqr:=aK.out;have hs9:=lS aa 2;have anz:=gE aa.out 2;have aqk:=aw.out;have aqj:=az.out;have aqq:=aJ.out;have aqp:=aK.out;refine rL (w1:=?_) (by rfl) rfl ?_ ?_
 rotate_left
 ·go_simp
  rfl
 refine hK.out _ _ ⟨((cell_far (p:=⟨av,_,none⟩) aw.out _).trans (((cell_far (p:=⟨av,_,none⟩) aw.out _).trans (((cell_far (p:=⟨av,_,none⟩) aw.out _).trans (hHeld.1)))))),((cell_far (p:=⟨av,_,none⟩) aw.out _).trans (((cell_far (p:=⟨av,_,none⟩) aw.out _).trans (((cell_far (p:=⟨av,_,none⟩) aw.out _).trans (hHeld.2))))))⟩ (fun hHeld=>?_)
 clear hK K;refine lX 6 6 ?_
 refine oA (by kernel_rfl) ?_
 try go_wp2
 go_loopg [7] k (fun kq v7 w'=> ∃(ah:Int) (au:List (List Int)) (aq:List Int) (ax:Value) (ai:Value),v7= .int .i64 ah∧aE (iu.l0 kq l1 (ak.length:Int) ah ay ak au 1 aq=some (r1,r2,r3))∧aE (kq≤k)∧aE (Kd.S (Kd.slice 2 (Kd.int .i64)) 24 w' w.heap.size (fun k_=>some k_≠(ai:Value).ownBlock) ax au)∧aE (Kd.R (Kd.int .i64) 2 w' w.heap.size (fun _=>True) ai aq)∧aE (w'.heap[aH]?=some (.cells #[(.slice aN ay.length aT),(.slice a9 ak.length aU)] 34 (0,0)))∧aE (w'.heap[aC]?=some (.cells #[(.slice none 0 0), .int .i64 0,(.slice none 0 0)] 107 (0,0)))∧aE (w'.heap[av]?=some (.cells #[ax, .int .i64 1,ai] 107 (0,0)))∧aE (Below w.heap.size w w'))
 case atStart=>exact⟨(0),(([]:List (List Int))),(([]:List Int)),(.slice none 0 0),(.slice none 0 0),nM,H',⟨Nat.le_refl _⟩,⟨by first | exact Kd.sJ _ _ _ _ _ | exact Kd.uy _ _ _ _ _ | exact Kd.uw _ _ _ _ _ | exact Kd.ux _ _ _ _ _ | exact Kd.qT _ _ _ _ _⟩,⟨by first | exact Kd.qT _ _ _ _ _ | exact Kd.uy _ _ _ _ _ | exact Kd.uw _ _ _ _ _ | exact Kd.ux _ _ _ _ _ | exact Kd.sJ _ _ _ _ _⟩,⟨oX⟩,⟨oX⟩,⟨oX⟩,⟨hb_⟩⟩
 case round=>
  clear H';(try clear c1);obtain⟨ah,au,aq,ax,ai,rfl,HA,nA,ag,ae,af,aj,aa,HB⟩:=hrel;cases gk with
  | zero=>exact absurd HA.out (by simp [iu.l0])
  | succ k1=>
   have H:=HA.out;clear HA;simp only [iu.l0] at H
   by_cases qF:ah < (ak.length:Int)
   ·rw [if_pos qF] at H;have xU:=decide_eq_true qF;clear qF;obtain⟨bZ,hy⟩: ∃y_:List Int,y_=(([]:List Int)):=⟨_,rfl⟩
    replace H:(iu.l1 k1 l1 (ak.length:Int) ah bZ 0 ay ak au 1 aq)=some (r1,r2,r3):=hh_;have bW:=q_ hy;clear hy;have H':=q_ H;clear H
    go_wp2_with (first | ((with_reducible refine dg (N:=20) rfl ?_);refine Kd.tu (Kd.int .i64) _ 2 ?hg (N:=20) ?hd (xs:=([]:List Int)) (inner:= []) (ok:=fun _=>True) (oC:=fun _=>True) ?hr ?hp (fun _ hk=>hk) trivial (Below.refl _ _) (Nat.le_refl _) (by simp) ?_;(case hd=>rfl);(case hg=>rfl);(case hr=>first | (go_simp;done) | (go_simp;rfl));(case hp=>exact(mV.none _ _));intro fQ rB ba hb hg_ om;clear hg_ om;(first | rw [← bW.out] at ba | (simp only [Int.reduceToNat] at ba;rw [← bW.out] at ba));replace ag:=q_ (Kd.tA (nw ag.out) (Kd.o8 ba) hb);have cI:=q_ (Kd.ng (Kd.wo ba (Kd.qw (m5 ae.out))) oI);replace af:=lZ af hb;replace aj:=lZ aj hb;replace aa:=lZ aa hb;replace ae:=q_ (Kd.tV (m5 ae.out) (Kd.o8 ba) hb);replace HB:=lT hb;clear hb ba))
    go_loopg [8,9] k1 (fun kq v8 v9 w'=> ∃(aX:List Int) (aM:Int),v9= .int .i64 aM∧aE (iu.l1 kq l1 (ak.length:Int) ah aX aM ay ak au 1 aq=some (r1,r2,r3))∧aE (kq≤k1)∧aE (Kd.R (Kd.int .i64) 2 w' w.heap.size (fun k_=>some k_≠(ai:Value).ownBlock) v8 aX)∧aE (Kd.S (Kd.slice 2 (Kd.int .i64)) 24 w' w.heap.size (fun k_=>some k_≠(v8:Value).ownBlock∧some k_≠(ai:Value).ownBlock) ax au)∧aE (Kd.R (Kd.int .i64) 2 w' w.heap.size (fun k_=>some k_≠(v8:Value).ownBlock) ai aq)∧aE (w'.heap[aH]?=some (.cells #[(.slice aN ay.length aT),(.slice a9 ak.length aU)] 34 (0,0)))∧aE (w'.heap[aC]?=some (.cells #[(.slice none 0 0), .int .i64 0,(.slice none 0 0)] 107 (0,0)))∧aE (w'.heap[av]?=some (.cells #[ax, .int .i64 1,ai] 107 (0,0)))∧aE (Below w.heap.size w w'))
    case atStart=>exact⟨(bZ),(0),nM,H',⟨Nat.le_refl _⟩,⟨kR_ cI.out (fun _ hk=>hk.2)⟩,⟨kS_ ag.out (fun _ hk=>⟨hk.2,hk.1⟩)⟩,⟨kR_ ae.out (fun _ hk=>hk.2)⟩,⟨nj⟩,⟨nj⟩,⟨nj⟩,⟨hb_⟩⟩
    case round=>
     clear H';(try clear c1);(try clear xU);obtain⟨aX,aM,rfl,HA,rA,aA,ag,ae,af,aj,aa,HB⟩:=hrel;cases gk with
     | zero=>exact absurd HA.out (by simp [iu.l1])
     | succ k2=>
      have H:=HA.out;clear HA;simp only [iu.l1] at H
      by_cases rz:aM < (ak.length:Int)
      ·rw [if_pos rz] at H;have GY:=decide_eq_true rz;clear rz
       by_cases tI:aM=ah
       ·rw [if_pos tI] at H;have GX:=yh tI;have Sw:=yg tI;clear tI
        by_cases xq:aX.length < 17592186044416
        ·rw [if_pos xq] at H;have cJ:=q_ xq;clear xq;obtain⟨cn,hy⟩: ∃y_:List Int,y_=(aX++ [1]):=⟨_,rfl⟩
         replace H:(iu.l1 k2 l1 (ak.length:Int) ah cn (wrap64 (aM+1)) ay ak au 1 aq)=some (r1,r2,r3):=hh_;have cK:=q_ hy;clear hy;have H':=q_ H;clear H
         go_wp2_with (first | ((with_reducible refine nL (b:= .append) (xs:= #[.tmp 29, .tmp 30]) rfl ?_);at_builtin;refine Kd.qo (Kd.int .i64) (w0:=w) w.heap.size rfl (.tmp 29) (.tmp 30) 24 2 (.int .i64 0) 8 rfl Tryz.underlying24 q6 rfl (by decide) (by omega) u8 aX 1 [.int .i64 1] (fun k_=>some k_≠(ai:Value).ownBlock) (fun _=>False) rfl rfl ?aP (fun _ hk=>hk.elim) ?aF ?aO ?aB ?aS ?aL ?_;(case aP=>exact rfl);(case aB=>exact hb_);(case aF=>exact(fun k_ hk=>Kd.tZ (Kd.qw (m5 ae.out)) k_ hk));(case aO=>exact(m5 aA.out));(case aS=>exact oI);(case aL=>have:=cJ.out;omega);intro fR Jx ho hb hg hat;rw [← cK.out] at ho;replace ag:=q_ (Kd.uL (ok:=(fun k_=>some k_≠(ai:Value).ownBlock)) (kS_ ag.out (fun _ hk=>⟨hk.2,hk.1⟩)) hg hat);replace ae:=q_ (Kd.yI (ok:=(fun _=>True)) (kR_ ae.out (fun _ hk=>⟨trivial,hk⟩)) hg hat);replace af:=q_ (tU af.out hg (Kd.pJ aA.out af.out (by decide)));replace aj:=q_ (tU aj.out hg (Kd.pJ aA.out aj.out (by decide)));replace aa:=q_ (tU aa.out hg (Kd.pJ aA.out aa.out (by decide)));replace HB:=q_ (hb);have cL:=q_ (ho);clear aA ho hb hg hat))
         go_roundg k2
         case measure=>have:=nA.out;have:=rA.out;omega
         case rel=>exact⟨(cn),(wrap64 (aM+1)),nM,H',⟨by have:=nA.out;have:=rA.out;omega⟩,⟨m5 cL.out⟩,⟨kS_ ag.out (fun _ hk=>⟨hk.2,hk.1⟩)⟩,⟨kR_ ae.out (fun _ hk=>hk.2)⟩,⟨nj⟩,⟨nj⟩,⟨nj⟩,⟨hb_⟩⟩
        ·rw [if_neg xq] at H;exact absurd H (by simp)
       ·rw [if_neg tI] at H;have GX:=uJ tI;have Sw:=uI tI
        by_cases uD:aX.length < 17592186044416
        ·rw [if_pos uD] at H;have cN:=q_ uD;clear uD;obtain⟨ct,hy⟩: ∃y_:List Int,y_=(aX++ [0]):=⟨_,rfl⟩
         replace H:(iu.l1 k2 l1 (ak.length:Int) ah ct (wrap64 (aM+1)) ay ak au 1 aq)=some (r1,r2,r3):=hh_;have cO:=q_ hy;clear hy;have H':=q_ H;clear H
         go_wp2_with (first | ((with_reducible refine nL (b:= .append) (xs:= #[.tmp 32, .tmp 33]) rfl ?_);at_builtin;refine Kd.qo (Kd.int .i64) (w0:=w) w.heap.size rfl (.tmp 32) (.tmp 33) 24 2 (.int .i64 0) 8 rfl Tryz.underlying24 q6 rfl (by decide) (by omega) u8 aX 0 [.int .i64 0] (fun k_=>some k_≠(ai:Value).ownBlock) (fun _=>False) rfl rfl ?aP (fun _ hk=>hk.elim) ?aF ?aO ?aB ?aS ?aL ?_;(case aP=>exact rfl);(case aB=>exact hb_);(case aF=>exact(fun k_ hk=>Kd.tZ (Kd.qw (m5 ae.out)) k_ hk));(case aO=>exact(m5 aA.out));(case aS=>exact oI);(case aL=>have:=cN.out;omega);intro fS Rg ho hb hg hat;rw [← cO.out] at ho;replace ag:=q_ (Kd.uL (ok:=(fun k_=>some k_≠(ai:Value).ownBlock)) (kS_ ag.out (fun _ hk=>⟨hk.2,hk.1⟩)) hg hat);replace ae:=q_ (Kd.yI (ok:=(fun _=>True)) (kR_ ae.out (fun _ hk=>⟨trivial,hk⟩)) hg hat);replace af:=q_ (tU af.out hg (Kd.pJ aA.out af.out (by decide)));replace aj:=q_ (tU aj.out hg (Kd.pJ aA.out aj.out (by decide)));replace aa:=q_ (tU aa.out hg (Kd.pJ aA.out aa.out (by decide)));replace HB:=q_ (hb);have cQ:=q_ (ho);clear aA ho hb hg hat))
         go_roundg k2
         case measure=>have:=nA.out;have:=rA.out;omega
         case rel=>exact⟨(ct),(wrap64 (aM+1)),nM,H',⟨by have:=nA.out;have:=rA.out;omega⟩,⟨m5 cQ.out⟩,⟨kS_ ag.out (fun _ hk=>⟨hk.2,hk.1⟩)⟩,⟨kR_ ae.out (fun _ hk=>hk.2)⟩,⟨nj⟩,⟨nj⟩,⟨nj⟩,⟨hb_⟩⟩
        ·rw [if_neg uD] at H;exact absurd H (by simp)
      ·rw [if_neg rz] at H;have GY:=decide_eq_false rz;clear rz;have H':=q_ H;clear H;go_wp2
       go_loopg [8,10] k2 (fun kq v8 v10 w'=> ∃(aV:List Int) (aI:Int),v10= .int .i64 aI∧aE (iu.l2 kq l1 (ak.length:Int) ah aV aI ay ak au 1 aq=some (r1,r2,r3))∧aE (kq≤k2)∧aE (Kd.R (Kd.int .i64) 2 w' w.heap.size (fun k_=>some k_≠(ai:Value).ownBlock) v8 aV)∧aE (Kd.S (Kd.slice 2 (Kd.int .i64)) 24 w' w.heap.size (fun k_=>some k_≠(v8:Value).ownBlock∧some k_≠(ai:Value).ownBlock) ax au)∧aE (Kd.R (Kd.int .i64) 2 w' w.heap.size (fun k_=>some k_≠(v8:Value).ownBlock) ai aq)∧aE (w'.heap[aH]?=some (.cells #[(.slice aN ay.length aT),(.slice a9 ak.length aU)] 34 (0,0)))∧aE (w'.heap[aC]?=some (.cells #[(.slice none 0 0), .int .i64 0,(.slice none 0 0)] 107 (0,0)))∧aE (w'.heap[av]?=some (.cells #[ax, .int .i64 1,ai] 107 (0,0)))∧aE (Below w.heap.size w w'))
       case atStart=>exact⟨(aX),(0),nM,H',⟨Nat.le_refl _⟩,⟨m5 aA.out⟩,⟨nw ag.out⟩,⟨m5 ae.out⟩,⟨nj⟩,⟨nj⟩,⟨nj⟩,⟨hb_⟩⟩
       case round=>
        clear H';(try clear c1);(try clear xU);(try clear GY);(try clear tI);(try clear GX);(try clear Sw);(try clear xq);(try clear uD);obtain⟨aV,aI,rfl,HA,yE,aA,ag,ae,af,aj,aa,HB⟩:=hrel;cases gk with
        | zero=>exact absurd HA.out (by simp [iu.l2])
        | succ k3=>
         have H:=HA.out;clear HA;simp only [iu.l2] at H
         by_cases ru:aI < (ak.length:Int)
         ·rw [if_pos ru] at H;have Cd:=decide_eq_true ru;clear ru
          by_cases wL:0≤ah
          ·rw [if_pos wL] at H;have PJ:=decide_eq_true wL;clear wL
           by_cases wK:ah < (ay.length:Int)
           ·rw [if_pos wK] at H;have PI:=decide_eq_true wK;clear wK
            by_cases uz:0≤aI
            ·rw [if_pos uz] at H;have GW:=decide_eq_true uz;clear uz
             by_cases uY:aI < ((d5 ay ah).length:Int)
             ·rw [if_pos uY] at H;have Jr:=decide_eq_true uY;clear uY
              by_cases A8:aV.length < 17592186044416
              ·rw [if_pos A8] at H;have cT:=q_ A8;clear A8;obtain⟨cz,hy⟩: ∃y_:List Int,y_=(aV++ [wrap64 (-(rd (d5 ay ah) aI))]):=⟨_,rfl⟩
               replace H:(iu.l2 k3 l1 (ak.length:Int) ah cz (wrap64 (aI+1)) ay ak au 1 aq)=some (r1,r2,r3):=hh_;have cU:=q_ hy;clear hy;have H':=q_ H;clear H;have fo:=bq.out;have fp:=bu.out;have fq:=aw.out;have fu:=aJ.out;obtain⟨dG,dH,dJ,dK⟩:=nF af;have adK:0≤(ah:Int):=l7;have adl:ah < (ay.length:Int):=l7;obtain⟨fw,eY,eZ,an5,QA,YD,YK⟩:=pI mR.out ah adK adl;cases an5
               replace QA:=bc_ HB.out QA;have ahY:=q_ YK;have apG:=q_ YD;clear YK YD;replace adK:=eq_true adK;replace adl:=eq_true adl;have adJ:0≤(aI:Int):=l7;have adk:aI < ((d5 ay ah).length:Int):=l7;obtain⟨fA,an4,Qz⟩:=Kd.mA ahY.out aI adJ adk;cases an4
               replace Qz:=bc_ HB.out Qz;replace adJ:=eq_true adJ;replace adk:=eq_true adk
               go_wp2_with (first | ((with_reducible refine nL (b:= .append) (xs:= #[.tmp 40, .tmp 50]) rfl ?_);at_builtin;refine Kd.qo (Kd.int .i64) (w0:=w) w.heap.size rfl (.tmp 40) (.tmp 50) 24 2 (.int .i64 0) 8 rfl Tryz.underlying24 q6 rfl (by decide) (by omega) u8 aV (wrap64 (-(rd (d5 ay ah) aI))) [.int .i64 (wrap64 (-(rd (d5 ay ah) aI)))] (fun k_=>some k_≠(ai:Value).ownBlock) (fun _=>False) rfl rfl ?aP (fun _ hk=>hk.elim) ?aF ?aO ?aB ?aS ?aL ?_;(case aP=>exact rfl);(case aB=>exact hb_);(case aF=>exact(fun k_ hk=>Kd.tZ (Kd.qw (m5 ae.out)) k_ hk));(case aO=>exact(m5 aA.out));(case aS=>exact oI);(case aL=>have:=cT.out;omega);intro fT w28 ho hb hg hat;rw [← cU.out] at ho;replace ag:=q_ (Kd.uL (ok:=(fun k_=>some k_≠(ai:Value).ownBlock)) (kS_ ag.out (fun _ hk=>⟨hk.2,hk.1⟩)) hg hat);replace ae:=q_ (Kd.yI (ok:=(fun _=>True)) (kR_ ae.out (fun _ hk=>⟨trivial,hk⟩)) hg hat);replace af:=q_ (tU af.out hg (Kd.pJ aA.out af.out (by decide)));replace aj:=q_ (tU aj.out hg (Kd.pJ aA.out aj.out (by decide)));replace aa:=q_ (tU aa.out hg (Kd.pJ aA.out aa.out (by decide)));replace HB:=q_ (hb);have cV:=q_ (ho);clear aA ho hb hg hat))
               go_roundg k3
               case measure=>have:=nA.out;have:=rA.out;have:=yE.out;omega
               case rel=>exact⟨(cz),(wrap64 (aI+1)),nM,H',⟨by have:=nA.out;have:=rA.out;have:=yE.out;omega⟩,⟨m5 cV.out⟩,⟨kS_ ag.out (fun _ hk=>⟨hk.2,hk.1⟩)⟩,⟨kR_ ae.out (fun _ hk=>hk.2)⟩,⟨nj⟩,⟨nj⟩,⟨nj⟩,⟨hb_⟩⟩
              ·rw [if_neg A8] at H;exact absurd H (by simp)
             ·rw [if_neg uY] at H;exact absurd H (by simp)
            ·rw [if_neg uz] at H;exact absurd H (by simp)
           ·rw [if_neg wK] at H;exact absurd H (by simp)
          ·rw [if_neg wL] at H;exact absurd H (by simp)
         ·rw [if_neg ru] at H;have Cd:=decide_eq_false ru;clear ru
          by_cases Gb:(l1.length:Int) > 0
          ·rw [if_pos Gb] at H;have agh:=decide_eq_true Gb;have agf:decide (0 < l1.length)=true:=decide_eq_true (by omega);clear Gb
           by_cases c30:0≤ah
           ·rw [if_pos c30] at H;have asl:=decide_eq_true c30;clear c30
            by_cases PF:ah < (l1.length:Int)
            ·rw [if_pos PF] at H;have asj:=decide_eq_true PF;clear PF
             by_cases c32:aV.length < 17592186044416
             ·rw [if_pos c32] at H;have cW:=q_ c32;clear c32;obtain⟨bC,hy⟩: ∃y_:List Int,y_=(aV++ [wrap64 (-(rd l1 ah))]):=⟨_,rfl⟩
              replace H:(if ah < (ak.length:Int) then(if bC.length < 17592186044416 then(if au.length < 5864062014805 then(if aq.length < 17592186044416 then(iu.l0 k3 l1 (ak.length:Int) (wrap64 (ah+1)) ay ak (au++ [(bC++ [rd ak ah])]) 1 (aq++ [ah])) else(none)) else(none)) else(none)) else(none))=some (r1,r2,r3):=hh_;have cZ:=q_ hy;clear hy
              by_cases IL:ah < (ak.length:Int)
              ·rw [if_pos IL] at H;have agb:=decide_eq_true IL;clear IL
               by_cases IK:bC.length < 17592186044416
               ·rw [if_pos IK] at H;have da:=q_ IK;clear IK;obtain⟨bD,hy⟩: ∃y_:List Int,y_=(bC++ [rd ak ah]):=⟨_,rfl⟩
                replace H:(if au.length < 5864062014805 then(if aq.length < 17592186044416 then(iu.l0 k3 l1 (ak.length:Int) (wrap64 (ah+1)) ay ak (au++ [bD]) 1 (aq++ [ah])) else(none)) else(none))=some (r1,r2,r3):=hh_;have db:=q_ hy;clear hy
                by_cases c35:au.length < 5864062014805
                ·rw [if_pos c35] at H;have df:=q_ c35;clear c35;obtain⟨aY,hy⟩: ∃y_:List (List Int),y_=(au++ [bD]):=⟨_,rfl⟩
                 replace H:(if aq.length < 17592186044416 then(iu.l0 k3 l1 (ak.length:Int) (wrap64 (ah+1)) ay ak aY 1 (aq++ [ah])) else(none))=some (r1,r2,r3):=hh_;have dh:=q_ hy;clear hy
                 by_cases c36:aq.length < 17592186044416
                 ·rw [if_pos c36] at H;have di:=q_ c36;clear c36;obtain⟨bE,hy⟩: ∃y_:List Int,y_=(aq++ [ah]):=⟨_,rfl⟩
                  replace H:(iu.l0 k3 l1 (ak.length:Int) (wrap64 (ah+1)) ay ak aY 1 bE)=some (r1,r2,r3):=hh_;have dl:=q_ hy;clear hy;have H':=q_ H;clear H;have adI:0≤(ah:Int):=l7;have adi:ah < (l1.length:Int):=l7;obtain⟨fB,an3,Qy⟩:=Kd.mA pR.out ah adI adi;cases an3
                  replace Qy:=bc_ HB.out Qy;replace adI:=eq_true adI;replace adi:=eq_true adi
                  try go_wp2_with (first | ((with_reducible refine nL (b:= .append) (xs:= #[.tmp 55, .tmp 61]) rfl ?_);at_builtin;refine Kd.qo (Kd.int .i64) (w0:=w) w.heap.size rfl (.tmp 55) (.tmp 61) 24 2 (.int .i64 0) 8 rfl Tryz.underlying24 q6 rfl (by decide) (by omega) u8 aV (wrap64 (-(rd l1 ah))) [.int .i64 (wrap64 (-(rd l1 ah)))] (fun k_=>some k_≠(ai:Value).ownBlock) (fun _=>False) rfl rfl ?aP (fun _ hk=>hk.elim) ?aF ?aO ?aB ?aS ?aL ?_;(case aP=>exact rfl);(case aB=>exact hb_);(case aF=>exact(fun k_ hk=>Kd.tZ (Kd.qw (m5 ae.out)) k_ hk));(case aO=>exact(m5 aA.out));(case aS=>exact oI);(case aL=>have:=cW.out;omega);intro dB w37 ho hb hg hat;rw [← cZ.out] at ho;replace ag:=q_ (Kd.uL (ok:=(fun k_=>some k_≠(ai:Value).ownBlock)) (kS_ ag.out (fun _ hk=>⟨hk.2,hk.1⟩)) hg hat);replace ae:=q_ (Kd.yI (ok:=(fun _=>True)) (kR_ ae.out (fun _ hk=>⟨trivial,hk⟩)) hg hat);replace af:=q_ (tU af.out hg (Kd.pJ aA.out af.out (by decide)));replace aj:=q_ (tU aj.out hg (Kd.pJ aA.out aj.out (by decide)));replace aa:=q_ (tU aa.out hg (Kd.pJ aA.out aa.out (by decide)));replace HB:=q_ (hb);have aW:=q_ (ho);clear aA ho hb hg hat))
                  replace ag:=q_ (Kd.mM ag.out);replace ae:=q_ (Kd.mF ae.out);replace aW:=q_ (Kd.mF aW.out);replace af:=q_ (mI af.out);replace aj:=q_ (mI aj.out);replace aa:=q_ (mI aa.out);replace HB:=q_ (mS HB.out);have adH:0≤(ah:Int):=l7;have adh:ah < (ak.length:Int):=l7;obtain⟨bJ,an2,FD⟩:=Kd.mA ox.out ah adH adh;have aD:=FD;cases an2
                  replace FD:=bc_ HB.out FD;replace adH:=eq_true adH;replace adh:=eq_true adh;refine qx (n:=14) (S:=fun w'=>w'.cell? ⟨av,0,none⟩=some (ax)∧w'.cell? ⟨av,1,none⟩=some (.int .i64 1)∧w'.cell? ⟨av,2,none⟩=some (ai)∧w'.cell? ⟨aH,0,none⟩=some (.slice aN ay.length aT)∧w'.cell? ⟨aH,1,none⟩=some (.slice (some bJ) ak.length aU)∧w'.cell? (bJ.add (ah).toNat)=some (.int .i64 (rd ak ah))) (ds:= [13]) ⟨(bp aa.out 0).trans rfl,(bp aa.out 1).trans rfl,(bp aa.out 2).trans rfl,(bp af.out 0).trans rfl,(bp af.out 1).trans rfl,((bc_ HB.out aD:))⟩ (fun hHeld=>?_);refine o9 iu.afs iu.abZ (fun pL xA=>?_)
                  generalize w37.drew=w38 at ag ae aW af aj aa HB FD hHeld ⊢
                  refine sB 0 63 2 65 3 66 5 68 ?_;refine mg 1 64 ?_;refine mg 4 67 ?_;refine lX 6 69 ?_;refine mg 7 70 ?_
                  refine pz 8 (some 71) (fun K hK=>?_)
                  refine DG (w1:=?_) (v:=?_) (by rfl) rfl ?_ ?_
                  rotate_left 2
                  ·go_simp
                   constructor
                   ·rfl
                   ·rfl
                  refine hK.out _ _ ⟨(bp (mY aa.out _) 0).trans rfl,(bp (mY aa.out _) 1).trans rfl,(bp (mY aa.out _) 2).trans rfl,(bp (mY af.out _) 0).trans rfl,(bp (mY af.out _) 1).trans rfl,(World.cell?_alloc_lt _ _ _ (World.block_lt_of_cell? _ _ (((bc_ HB.out aD:))))).trans (((bc_ HB.out aD:)))⟩ (fun hHeld=>?_)
                  clear hK K;refine mP (a':=?_) ?_ ?_
                  rotate_left
                  ·show Act.put _ (some 71) _=_
                   simp only [Act.put,List.setIfInBounds_toArray,List.set_cons_zero,List.set_cons_succ,mT,nr]
                   rfl
                  refine pz 9 (some 72) (fun K hK=>?_)
                  refine Kd.uX (Kd.int .i64) (w0:=w) w.heap.size (by rfl) (.tmp 65) (.tmp 71) 24 2 (.int .i64 0) 8 rfl Tryz.underlying24 q6 rfl (by decide) (by omega) dB bC (rd ak ah) [.int .i64 (rd ak ah)] (fun k_=>some k_≠(ai:Value).ownBlock) (fun _=>False) rfl rfl ?aP (fun _ hk=>hk.elim) ?aF ?aO ?aB ?aS ?aL ?_
                  (case aP=>exact rfl)
                  (case aB=>exact hb_)
                  (case aF=>exact(fun k_ hk=>Kd.tZ (Kd.qw (m5 ae.out)) k_ hk))
                  (case aO=>exact(m5 aW.out))
                  (case aS=>exact oI)
                  (case aL=>have:=da.out;omega)
                  intro fU w39 ho hb hg hat;rw [← db.out] at ho;replace ag:=q_ (Kd.uL (ok:=(fun k_=>some k_≠(ai:Value).ownBlock)) (nw ag.out) hg hat);replace ae:=q_ (Kd.yI (ok:=(fun _=>True)) (m5 ae.out) hg hat);replace af:=q_ (tU af.out hg (Kd.pJ aW.out af.out (by decide)));replace aj:=q_ (tU aj.out hg (Kd.pJ aW.out aj.out (by decide)));replace aa:=q_ (tU aa.out hg (Kd.pJ aW.out aa.out (by decide)));replace HB:=q_ (hb);have bv:=q_ (ho);clear aW ho hb hg hat;obtain⟨cA,cB,cC⟩:=Kd.mE bv.out
                  (first | subst cC | (injection cC with sD vP sC;have vO:=sD.symm;have vN:=sC.symm;clear sD vP sC;subst vO;subst vN))
                  refine hK.out _ _ ⟨(bp aa.out 0).trans rfl,(bp aa.out 1).trans rfl,(bp aa.out 2).trans rfl,(bp af.out 0).trans rfl,(bp af.out 1).trans rfl,((bc_ HB.out aD:))⟩ (fun hHeld=>?_)
                  clear hK K;refine mP (a':=?_) ?_ ?_
                  rotate_left
                  ·show Act.put _ (some 72) _=_
                   simp only [Act.put,List.setIfInBounds_toArray,List.set_cons_zero,List.set_cons_succ,mT,nr]
                   rfl
                  refine pz 10 (some 73) (fun K hK=>?_)
                  refine DG (w1:=?_) (v:=?_) (by rfl) rfl ?_ ?_
                  rotate_left 2
                  ·go_simp
                   constructor
                   ·rfl
                   ·rfl
                  refine hK.out _ _ ⟨(bp (mY aa.out _) 0).trans rfl,(bp (mY aa.out _) 1).trans rfl,(bp (mY aa.out _) 2).trans rfl,(bp (mY af.out _) 0).trans rfl,(bp (mY af.out _) 1).trans rfl,(World.cell?_alloc_lt _ _ _ (World.block_lt_of_cell? _ _ (((bc_ HB.out aD:))))).trans (((bc_ HB.out aD:)))⟩ (fun hHeld=>?_)
                  clear hK K;refine mP (a':=?_) ?_ ?_
                  rotate_left
                  ·show Act.put _ (some 73) _=_
                   simp only [Act.put,List.setIfInBounds_toArray,List.set_cons_zero,List.set_cons_succ,mT,nr]
                   rfl
                  refine pz 11 (some 74) (fun K hK=>?_)
                  refine Kd.yD (Kd.slice 2 (Kd.int .i64)) (w0:=w) w.heap.size (by rfl) (.tmp 64) (.tmp 73) 32 24 (.slice none 0 0) 24 rfl Tryz.underlying32 yc rfl (by decide) (by omega) ax au bD [.slice cA bD.length cB] (fun k_=>some k_≠(ai:Value).ownBlock) (fun k_=>some k_=(.slice cA bD.length cB:Value).ownBlock) rfl rfl ?aP (fun k_ hk_=>((Kd.fY (ok':=fun k_=>((fun k_=>some k_≠(ai:Value).ownBlock)) k_∧some k_≠(ax:Value).ownBlock) (Kd.qp (bv.out) (Kd.pQ ag.out) (by decide)) (fun k_ hk=>⟨hk.1,hk.2⟩))).1 k_ hk_.symm) ?aF ?aO ?aB ?aS ?aL ?_
                  (case aP=>exact Kd.zT (Kd.fY (Kd.q5 rfl (Kd.fY (ok':=fun k_=>((fun k_=>some k_≠(ai:Value).ownBlock)) k_∧some k_≠(ax:Value).ownBlock) (Kd.qp (bv.out) (Kd.pQ ag.out) (by decide)) (fun k_ hk=>⟨hk.1,hk.2⟩))) (fun _ h_=>h_)))
                  (case aB=>exact hb_)
                  (case aF=>exact(fun k_ hk=>Kd.tZ (Kd.qw (m5 ae.out)) k_ hk))
                  (case aO=>exact(kS_ ag.out (fun k_ hk=>⟨hk.1,fun e_=>hk.2 e_⟩)))
                  (case aS=>exact oI)
                  (case aL=>have:=df.out;omega)
                  intro fW w40 ho hb hg hat;rw [← dh.out] at ho;replace ae:=q_ (Kd.wh (m5 ae.out) (Kd.pQ (nw ag.out)) (by decide) hg);replace af:=q_ (tU af.out hg (Kd.sP ag.out af.out (by decide)));replace aj:=q_ (tU aj.out hg (Kd.sP ag.out aj.out (by decide)));replace aa:=q_ (tU aa.out hg (Kd.sP ag.out aa.out (by decide)));replace HB:=q_ (hb);have bw:=q_ (ho);clear ag bv ho hb hg hat;obtain⟨bg,bh,cD⟩:=Kd.nk bw.out
                  (first | subst cD | (injection cD with sD vP sC;have vO:=sD.symm;have vN:=sC.symm;clear sD vP sC;subst vO;subst vN))
                  refine hK.out _ _ ⟨(bp aa.out 0).trans rfl,(bp aa.out 1).trans rfl,(bp aa.out 2).trans rfl,(bp af.out 0).trans rfl,(bp af.out 1).trans rfl,((bc_ HB.out aD:))⟩ (fun hHeld=>?_)
                  clear hK K;refine mP (a':=?_) ?_ ?_
                  rotate_left
                  ·show Act.put _ (some 74) _=_
                   simp only [Act.put,List.setIfInBounds_toArray,List.set_cons_zero,List.set_cons_succ,mT,nr]
                   rfl
                  refine lX 12 75 ?_
                  refine DU 13 none (fun K hK=>?_)
                  have asD:=lS aa 0;have arY:=gE aa.out 0;have aoU:=aw.out;have aoT:=az.out;have apl:=aJ.out;have apk:=aK.out;refine rL (w1:=?_) (by rfl) rfl ?_ ?_
                  rotate_left
                  ·go_simp
                   rfl
                  refine hK.out _ _ ?_
                  clear hK K;refine oA (qj pL.out (by kernel_rfl)) ?_
                  have fC:=aJ.out;have fD:=aw.out;have fE:=aK.out;have fF:=az.out;obtain⟨dL,dM,dN,dO,dP,dQ⟩:=qI aa
                  try go_wp2_with (first | ((with_reducible refine nL (b:= .append) (xs:= #[.tmp 77, .tmp 79]) rfl ?_);at_builtin;refine Kd.qo (Kd.int .i64) (w0:=w) w.heap.size rfl (.tmp 77) (.tmp 79) 24 2 (.int .i64 0) 8 rfl Tryz.underlying24 q6 rfl (by decide) (by omega) ai aq ah [.int .i64 ah] (fun _=>True) (fun _=>False) rfl (by first | (go_simp;done) | (go_simp;rfl)) ?aP (fun _ hk=>hk.elim) ?aF ?aO ?aB ?aS ?aL ?_;(case aP=>exact rfl);(case aB=>exact hb_);(case aF=>exact(fun _ _=>trivial));(case aO=>exact(kR_ (Kd.nN (p:=⟨av,0,none⟩) (Kd.wg ae.out aa.out (by decide)) (fun _ hk=>hk.2) (.slice bg aY.length bh)) (fun _ hk=>trivial)));(case aS=>exact oI);(case aL=>have:=di.out;omega);intro fZ w47 ho hb hg hat;rw [← dl.out] at ho;replace af:=q_ (m8 (g:=aH) (o:= .cells #[.slice aN ay.length aT, .slice (some bJ) ak.length aU] 34 (0,0)) (oX) hg (Kd.pJ ae.out af.out (by decide)));replace aj:=q_ (m8 (g:=aC) (o:= .cells #[.slice none 0 0, .int .i64 0, .slice none 0 0] 107 (0,0)) (oX) hg (Kd.pJ ae.out aj.out (by decide)));replace bw:=q_ (Kd.uL (ok:=(fun _=>True)) (kS_ (Kd.tM (p:=⟨av,0,none⟩) (Kd.vZ bw.out aa.out (by decide)) (fun _ hk=>hk.2) (.slice bg aY.length bh)) (fun _ hk=>⟨trivial,hk.1⟩)) hg hat);replace HB:=q_ (hb);have bX:=q_ (ho);replace aa:=q_ (m8 (g:=av) (o:= .cells #[.slice bg aY.length bh, .int .i64 1,ai] 107 (0,0)) (oX) hg (Kd.pJ ae.out aa.out (by decide)));clear ae ho hb hg hat;obtain⟨bL,bM,dC⟩:=Kd.mE bX.out;subst dC;obtain⟨dR,dU,dV,dW,dX,dY⟩:=qI aa))
                  go_roundg k3
                  case measure=>have:=nA.out;have:=rA.out;have:=yE.out;omega
                  case rel=>exact⟨(wrap64 (ah+1)),(aY),(bE),(.slice bg aY.length bh),(.slice bL bE.length bM),nM,H',⟨by have:=nA.out;have:=rA.out;have:=yE.out;omega⟩,⟨kS_ (Kd.tM (p:=⟨av,2,none⟩) (Kd.vZ bw.out aa.out (by decide)) (fun _ hk=>hk.2) (.slice bL bE.length bM)) (fun _ hk=>hk.1.2)⟩,⟨kR_ (Kd.nN (p:=⟨av,2,none⟩) (Kd.wg bX.out aa.out (by decide)) (fun _ hk=>hk.2) (.slice bL bE.length bM)) (fun _ hk=>trivial)⟩,⟨oX⟩,⟨oX⟩,⟨oX⟩,⟨hb_⟩⟩
                 ·rw [if_neg c36] at H;exact absurd H (by simp)
                ·rw [if_neg c35] at H;exact absurd H (by simp)
               ·rw [if_neg IK] at H;exact absurd H (by simp)
              ·rw [if_neg IL] at H;exact absurd H (by simp)
             ·rw [if_neg c32] at H;exact absurd H (by simp)
            ·rw [if_neg PF] at H;exact absurd H (by simp)
           ·rw [if_neg c30] at H;exact absurd H (by simp)
          ·rw [if_neg Gb] at H;have agh:=decide_eq_false Gb;have agf:decide (0 < l1.length)=false:=decide_eq_false (by omega);clear Gb
           by_cases c50:0≤ah
           ·rw [if_pos c50] at H;have asi:=decide_eq_true c50;clear c50
            by_cases E3:ah < (ak.length:Int)
            ·rw [if_pos E3] at H;have E2:=decide_eq_true E3;clear E3
             by_cases c52:aV.length < 17592186044416
             ·rw [if_pos c52] at H;have dr:=q_ c52;clear c52;obtain⟨bF,hy⟩: ∃y_:List Int,y_=(aV++ [rd ak ah]):=⟨_,rfl⟩
              replace H:(if au.length < 5864062014805 then(if aq.length < 17592186044416 then(iu.l0 k3 l1 (ak.length:Int) (wrap64 (ah+1)) ay ak (au++ [bF]) 1 (aq++ [ah])) else(none)) else(none))=some (r1,r2,r3):=hh_;have du:=q_ hy;clear hy
              by_cases c53:au.length < 5864062014805
              ·rw [if_pos c53] at H;have dw:=q_ c53;clear c53;obtain⟨aZ,hy⟩: ∃y_:List (List Int),y_=(au++ [bF]):=⟨_,rfl⟩
               replace H:(if aq.length < 17592186044416 then(iu.l0 k3 l1 (ak.length:Int) (wrap64 (ah+1)) ay ak aZ 1 (aq++ [ah])) else(none))=some (r1,r2,r3):=hh_;have dx:=q_ hy;clear hy
               by_cases c54:aq.length < 17592186044416
               ·rw [if_pos c54] at H;have dz:=q_ c54;clear c54;obtain⟨bG,hy⟩: ∃y_:List Int,y_=(aq++ [ah]):=⟨_,rfl⟩
                replace H:(iu.l0 k3 l1 (ak.length:Int) (wrap64 (ah+1)) ay ak aZ 1 bG)=some (r1,r2,r3):=hh_;have dA:=q_ hy;clear hy;have H':=q_ H;clear H
                try go_wp2
                replace aA:=q_ (Kd.mF aA.out);replace ag:=q_ (Kd.mM ag.out);replace ae:=q_ (Kd.mF ae.out);replace af:=q_ (mI af.out);replace aj:=q_ (mI aj.out);replace aa:=q_ (mI aa.out);replace HB:=q_ (mS HB.out);have adG:0≤(ah:Int):=l7;have adg:ah < (ak.length:Int):=l7;obtain⟨bK,an1,FC⟩:=Kd.mA ox.out ah adG adg;have aG:=FC;cases an1
                replace FC:=bc_ HB.out FC;replace adG:=eq_true adG;replace adg:=eq_true adg;refine qx (n:=14) (S:=fun w'=>w'.cell? ⟨av,0,none⟩=some (ax)∧w'.cell? ⟨av,1,none⟩=some (.int .i64 1)∧w'.cell? ⟨av,2,none⟩=some (ai)∧w'.cell? ⟨aH,0,none⟩=some (.slice aN ay.length aT)∧w'.cell? ⟨aH,1,none⟩=some (.slice (some bK) ak.length aU)∧w'.cell? (bK.add (ah).toNat)=some (.int .i64 (rd ak ah))) (ds:= [13]) ⟨(bp aa.out 0).trans rfl,(bp aa.out 1).trans rfl,(bp aa.out 2).trans rfl,(bp af.out 0).trans rfl,(bp af.out 1).trans rfl,((bc_ HB.out aG:))⟩ (fun hHeld=>?_);refine o9 iu.afs iu.abZ (fun pL xA=>?_)
                generalize wr.drew=w55 at aA ag ae af aj aa HB FC hHeld ⊢
                refine sB 0 63 2 65 3 66 5 68 ?_;refine mg 1 64 ?_;refine mg 4 67 ?_;refine lX 6 69 ?_;refine mg 7 70 ?_
                refine pz 8 (some 71) (fun K hK=>?_)
                refine DG (w1:=?_) (v:=?_) (by rfl) rfl ?_ ?_
                rotate_left 2
                ·go_simp
                 constructor
                 ·rfl
                 ·rfl
                refine hK.out _ _ ⟨(bp (mY aa.out _) 0).trans rfl,(bp (mY aa.out _) 1).trans rfl,(bp (mY aa.out _) 2).trans rfl,(bp (mY af.out _) 0).trans rfl,(bp (mY af.out _) 1).trans rfl,(World.cell?_alloc_lt _ _ _ (World.block_lt_of_cell? _ _ (((bc_ HB.out aG:))))).trans (((bc_ HB.out aG:)))⟩ (fun hHeld=>?_)
                clear hK K;refine mP (a':=?_) ?_ ?_
                rotate_left
                ·show Act.put _ (some 71) _=_
                 simp only [Act.put,List.setIfInBounds_toArray,List.set_cons_zero,List.set_cons_succ,mT,nr]
                 rfl
                refine pz 9 (some 72) (fun K hK=>?_)
                refine Kd.uX (Kd.int .i64) (w0:=w) w.heap.size (by rfl) (.tmp 65) (.tmp 71) 24 2 (.int .i64 0) 8 rfl Tryz.underlying24 q6 rfl (by decide) (by omega) u8 aV (rd ak ah) [.int .i64 (rd ak ah)] (fun k_=>some k_≠(ai:Value).ownBlock) (fun _=>False) rfl rfl ?aP (fun _ hk=>hk.elim) ?aF ?aO ?aB ?aS ?aL ?_
                (case aP=>exact rfl)
                (case aB=>exact hb_)
                (case aF=>exact(fun k_ hk=>Kd.tZ (Kd.qw (m5 ae.out)) k_ hk))
                (case aO=>exact(m5 aA.out))
                (case aS=>exact oI)
                (case aL=>have:=dr.out;omega)
                intro f7 w56 ho hb hg hat;rw [← du.out] at ho;replace ag:=q_ (Kd.uL (ok:=(fun k_=>some k_≠(ai:Value).ownBlock)) (kS_ ag.out (fun _ hk=>⟨hk.2,hk.1⟩)) hg hat);replace ae:=q_ (Kd.yI (ok:=(fun _=>True)) (kR_ ae.out (fun _ hk=>⟨trivial,hk⟩)) hg hat);replace af:=q_ (tU af.out hg (Kd.pJ aA.out af.out (by decide)));replace aj:=q_ (tU aj.out hg (Kd.pJ aA.out aj.out (by decide)));replace aa:=q_ (tU aa.out hg (Kd.pJ aA.out aa.out (by decide)));replace HB:=q_ (hb);have bz:=q_ (ho);clear aA ho hb hg hat;obtain⟨cE,cF,cG⟩:=Kd.mE bz.out
                (first | subst cG | (injection cG with sD vP sC;have vO:=sD.symm;have vN:=sC.symm;clear sD vP sC;subst vO;subst vN))
                refine hK.out _ _ ⟨(bp aa.out 0).trans rfl,(bp aa.out 1).trans rfl,(bp aa.out 2).trans rfl,(bp af.out 0).trans rfl,(bp af.out 1).trans rfl,((bc_ HB.out aG:))⟩ (fun hHeld=>?_)
                clear hK K;refine mP (a':=?_) ?_ ?_
                rotate_left
                ·show Act.put _ (some 72) _=_
                 simp only [Act.put,List.setIfInBounds_toArray,List.set_cons_zero,List.set_cons_succ,mT,nr]
                 rfl
                refine pz 10 (some 73) (fun K hK=>?_)
                refine DG (w1:=?_) (v:=?_) (by rfl) rfl ?_ ?_
                rotate_left 2
                ·go_simp
                 constructor
                 ·rfl
                 ·rfl
                refine hK.out _ _ ⟨(bp (mY aa.out _) 0).trans rfl,(bp (mY aa.out _) 1).trans rfl,(bp (mY aa.out _) 2).trans rfl,(bp (mY af.out _) 0).trans rfl,(bp (mY af.out _) 1).trans rfl,(World.cell?_alloc_lt _ _ _ (World.block_lt_of_cell? _ _ (((bc_ HB.out aG:))))).trans (((bc_ HB.out aG:)))⟩ (fun hHeld=>?_)
                clear hK K;refine mP (a':=?_) ?_ ?_
                rotate_left
                ·show Act.put _ (some 73) _=_
                 simp only [Act.put,List.setIfInBounds_toArray,List.set_cons_zero,List.set_cons_succ,mT,nr]
                 rfl
                refine pz 11 (some 74) (fun K hK=>?_)
                refine Kd.yD (Kd.slice 2 (Kd.int .i64)) (w0:=w) w.heap.size (by rfl) (.tmp 64) (.tmp 73) 32 24 (.slice none 0 0) 24 rfl Tryz.underlying32 yc rfl (by decide) (by omega) ax au bF [.slice cE bF.length cF] (fun k_=>some k_≠(ai:Value).ownBlock) (fun k_=>some k_=(.slice cE bF.length cF:Value).ownBlock) rfl rfl ?aP (fun k_ hk_=>((Kd.fY (ok':=fun k_=>((fun k_=>some k_≠(ai:Value).ownBlock)) k_∧some k_≠(ax:Value).ownBlock) (Kd.qp (bz.out) (Kd.pQ ag.out) (by decide)) (fun k_ hk=>⟨hk.1,hk.2⟩))).1 k_ hk_.symm) ?aF ?aO ?aB ?aS ?aL ?_
                (case aP=>exact Kd.zT (Kd.fY (Kd.q5 rfl (Kd.fY (ok':=fun k_=>((fun k_=>some k_≠(ai:Value).ownBlock)) k_∧some k_≠(ax:Value).ownBlock) (Kd.qp (bz.out) (Kd.pQ ag.out) (by decide)) (fun k_ hk=>⟨hk.1,hk.2⟩))) (fun _ h_=>h_)))
                (case aB=>exact hb_)
                (case aF=>exact(fun k_ hk=>Kd.tZ (Kd.qw (m5 ae.out)) k_ hk))
                (case aO=>exact(kS_ ag.out (fun k_ hk=>⟨hk.1,fun e_=>hk.2 e_⟩)))
                (case aS=>exact oI)
                (case aL=>have:=dw.out;omega)
                intro f8 w57 ho hb hg hat;rw [← dx.out] at ho;replace ae:=q_ (Kd.wh (m5 ae.out) (Kd.pQ (nw ag.out)) (by decide) hg);replace af:=q_ (tU af.out hg (Kd.sP ag.out af.out (by decide)));replace aj:=q_ (tU aj.out hg (Kd.sP ag.out aj.out (by decide)));replace aa:=q_ (tU aa.out hg (Kd.sP ag.out aa.out (by decide)));replace HB:=q_ (hb);have bA:=q_ (ho);clear ag bz ho hb hg hat;obtain⟨bi,bn,cH⟩:=Kd.nk bA.out
                (first | subst cH | (injection cH with sD vP sC;have vO:=sD.symm;have vN:=sC.symm;clear sD vP sC;subst vO;subst vN))
                refine hK.out _ _ ⟨(bp aa.out 0).trans rfl,(bp aa.out 1).trans rfl,(bp aa.out 2).trans rfl,(bp af.out 0).trans rfl,(bp af.out 1).trans rfl,((bc_ HB.out aG:))⟩ (fun hHeld=>?_)
                clear hK K;refine mP (a':=?_) ?_ ?_
                rotate_left
                ·show Act.put _ (some 74) _=_
                 simp only [Act.put,List.setIfInBounds_toArray,List.set_cons_zero,List.set_cons_succ,mT,nr]
                 rfl
                refine lX 12 75 ?_
                refine DU 13 none (fun K hK=>?_)
                have asz:=lS aa 0;have arV:=gE aa.out 0;have aoQ:=aw.out;have aoP:=az.out;have apg:=aJ.out;have apf:=aK.out;refine rL (w1:=?_) (by rfl) rfl ?_ ?_
                rotate_left
                ·go_simp
                 rfl
                refine hK.out _ _ ?_
                clear hK K;refine oA (qj pL.out (by kernel_rfl)) ?_
                have fG:=aJ.out;have fH:=aw.out;have fI:=aK.out;have fJ:=az.out;obtain⟨dZ,d9,ep,eu,eB,eC⟩:=qI aa
                try go_wp2_with (first | ((with_reducible refine nL (b:= .append) (xs:= #[.tmp 77, .tmp 79]) rfl ?_);at_builtin;refine Kd.qo (Kd.int .i64) (w0:=w) w.heap.size rfl (.tmp 77) (.tmp 79) 24 2 (.int .i64 0) 8 rfl Tryz.underlying24 q6 rfl (by decide) (by omega) ai aq ah [.int .i64 ah] (fun _=>True) (fun _=>False) rfl (by first | (go_simp;done) | (go_simp;rfl)) ?aP (fun _ hk=>hk.elim) ?aF ?aO ?aB ?aS ?aL ?_;(case aP=>exact rfl);(case aB=>exact hb_);(case aF=>exact(fun _ _=>trivial));(case aO=>exact(kR_ (Kd.nN (p:=⟨av,0,none⟩) (Kd.wg ae.out aa.out (by decide)) (fun _ hk=>hk.2) (.slice bi aZ.length bn)) (fun _ hk=>trivial)));(case aS=>exact oI);(case aL=>have:=dz.out;omega);intro f9 nH ho hb hg hat;rw [← dA.out] at ho;replace af:=q_ (m8 (g:=aH) (o:= .cells #[.slice aN ay.length aT, .slice (some bK) ak.length aU] 34 (0,0)) (oX) hg (Kd.pJ ae.out af.out (by decide)));replace aj:=q_ (m8 (g:=aC) (o:= .cells #[.slice none 0 0, .int .i64 0, .slice none 0 0] 107 (0,0)) (oX) hg (Kd.pJ ae.out aj.out (by decide)));replace bA:=q_ (Kd.uL (ok:=(fun _=>True)) (kS_ (Kd.tM (p:=⟨av,0,none⟩) (Kd.vZ bA.out aa.out (by decide)) (fun _ hk=>hk.2) (.slice bi aZ.length bn)) (fun _ hk=>⟨trivial,hk.1⟩)) hg hat);replace HB:=q_ (hb);have bY:=q_ (ho);replace aa:=q_ (m8 (g:=av) (o:= .cells #[.slice bi aZ.length bn, .int .i64 1,ai] 107 (0,0)) (oX) hg (Kd.pJ ae.out aa.out (by decide)));clear ae ho hb hg hat;obtain⟨bN,bO,dD⟩:=Kd.mE bY.out;subst dD;obtain⟨eD,eF,eG,eH,eI,eJ⟩:=qI aa))
                go_roundg k3
                case measure=>have:=nA.out;have:=rA.out;have:=yE.out;omega
                case rel=>exact⟨(wrap64 (ah+1)),(aZ),(bG),(.slice bi aZ.length bn),(.slice bN bG.length bO),nM,H',⟨by have:=nA.out;have:=rA.out;have:=yE.out;omega⟩,⟨kS_ (Kd.tM (p:=⟨av,2,none⟩) (Kd.vZ bA.out aa.out (by decide)) (fun _ hk=>hk.2) (.slice bN bG.length bO)) (fun _ hk=>hk.1.2)⟩,⟨kR_ (Kd.nN (p:=⟨av,2,none⟩) (Kd.wg bY.out aa.out (by decide)) (fun _ hk=>hk.2) (.slice bN bG.length bO)) (fun _ hk=>trivial)⟩,⟨oX⟩,⟨oX⟩,⟨oX⟩,⟨hb_⟩⟩
               ·rw [if_neg c54] at H;exact absurd H (by simp)
              ·rw [if_neg c53] at H;exact absurd H (by simp)
             ·rw [if_neg c52] at H;exact absurd H (by simp)
            ·rw [if_neg E3] at H;exact absurd H (by simp)
           ·rw [if_neg c50] at H;exact absurd H (by simp)
   ·rw [if_neg qF] at H;have xU:=decide_eq_false qF;clear qF;simp only [Option.some.injEq,Prod.mk.injEq] at H;obtain⟨rfl,rfl,rfl⟩:=H;have fK:=aJ.out;have fL:=aw.out;have fM:=aK.out;have fN:=az.out;obtain⟨eK,eL,eM,eO,eP,eQ⟩:=qI aa;obtain⟨bH,bI,dE⟩:=Kd.nk ag.out;subst dE;have fO:=bu.out;have fP:=bq.out;obtain⟨eS,eT,eU,eV,eW,eX⟩:=qI aj;obtain⟨bP,bQ,dF⟩:=Kd.mE ae.out;subst dF;go_wp2
    refine bodyPost_ret (results_cell_row rfl _ _ aC 107 #[.slice bH au.length bI, .int .i64 1, .slice bP aq.length bQ] (0,0) _ rfl (oX) Tryz.underlying107 rfl (by kernel_rfl)) rfl ?_
    exact⟨_,_,pH,kS_ (wR ag.out aj.out) (fun _ hk=>hk.1),kR_ (DN ae.out aj.out) (fun _ hk=>trivial),hb_⟩
def ou.l0:Nat→Int→Int→Int→Int→Int→Int→Int→Int→List (List Int)→Int→List Int→Option (Bool)
 | 0,_,_,_,_,_,_,_,_,_,_,_=>none
 | k+1,x1,x2,x3,x4,sS,wP,rQ,tB,aa,ae,af=>if tB < sS then(if wP=rQ then(if 0≤x1 then(if x1 < (aa.length:Int) then(if 0≤tB then(if tB < ((d5 aa x1).length:Int) then(if 0≤x2 then(if x2 < (aa.length:Int) then(if tB < ((d5 aa x2).length:Int) then(ou.l0 k x1 x2 x3 x4 sS (wrap64 ((rd (d5 aa x1) tB)*x4)) (wrap64 ((rd (d5 aa x2) tB)*x3)) (wrap64 (tB+1)) aa ae af) else(none)) else(none)) else(none)) else(none)) else(none)) else(none)) else(none)) else(some (decide (wP < rQ)))) else(some (decide (wP < rQ)))
def ou.f (k:Nat) (aa:List (List Int)) (lW:Int) (ae:List Int) (a1:Int) (a2:Int) (a3:Int) (a4:Int):Option (Bool):=if 0≤a1 then(if a1 < (aa.length:Int) then(if 0≤(wrap64 (((d5 aa a1).length:Int) - 1)) then(if(wrap64 (((d5 aa a1).length:Int) - 1)) < ((d5 aa a1).length:Int) then(if 0≤a2 then(if a2 < (aa.length:Int) then(if(wrap64 (((d5 aa a1).length:Int) - 1)) < ((d5 aa a2).length:Int) then(ou.l0 k a1 a2 a3 a4 (aa.length:Int) (wrap64 ((rd (d5 aa a1) (wrap64 (((d5 aa a1).length:Int) - 1)))*a4)) (wrap64 ((rd (d5 aa a2) (wrap64 (((d5 aa a1).length:Int) - 1)))*a3)) 0 aa lW ae) else(none)) else(none)) else(none)) else(none)) else(none)) else(none)) else(none)
theorem ou.calls (k:Nat) (aw:Option Addr) (aq:Nat) (aa:List (List Int)) (lW:Int) (au:Option Addr) (av:Nat) (ah:List Int) (a1:Int) (a2:Int) (a3:Int) (a4:Int) (r:Bool) (w:World) (aU:Kd.C (Kd.slice 2 (Kd.int .i64)) w aw aa.length aa) (aV:aa.length≤aq) (aW:Kd.C (Kd.int .i64) w au ah.length ah) (aX:ah.length≤av) (h:ou.f k aa lW ah a1 a2 a3 a4=some r):
  Calls Tryz.prog 108 #[.agg #[.slice aw aa.length aq, .int .i64 lW, .slice au ah.length av], .int .i64 a1, .int .i64 a2, .int .i64 a3, .int .i64 a4] w fun e w'=>e= .returned (.bool r)∧Below w.heap.size w w':=by
 have Dp:=Tryz.underlying107;have mR:=q_ aU;have oh:=q_ aV;clear aU aV;have Dy:=q_ aW;have Hf:=q_ aX;clear aW aX;have HB:=q_ (Below.refl w.heap.size w);have H:(if 0≤a1 then(if a1 < (aa.length:Int) then(if 0≤(wrap64 (((d5 aa a1).length:Int) - 1)) then(if(wrap64 (((d5 aa a1).length:Int) - 1)) < ((d5 aa a1).length:Int) then(if 0≤a2 then(if a2 < (aa.length:Int) then(if(wrap64 (((d5 aa a1).length:Int) - 1)) < ((d5 aa a2).length:Int) then(ou.l0 k a1 a2 a3 a4 (aa.length:Int) (wrap64 ((rd (d5 aa a1) (wrap64 (((d5 aa a1).length:Int) - 1)))*a4)) (wrap64 ((rd (d5 aa a2) (wrap64 (((d5 aa a1).length:Int) - 1)))*a3)) 0 aa lW ah) else(none)) else(none)) else(none)) else(none)) else(none)) else(none)) else(none))=some r:=h;clear h
 by_cases c6:0≤a1
 ·rw [if_pos c6] at H;have uj:=decide_eq_true c6;clear c6
  by_cases c7:a1 < (aa.length:Int)
  ·rw [if_pos c7] at H;have za:=decide_eq_true c7;clear c7;obtain⟨wm,KT⟩: ∃j_:Int,(wrap64 (((d5 aa a1).length:Int) - 1))=j_:=⟨_,rfl⟩
   replace H:(if 0≤(wm) then(if(wm) < ((d5 aa a1).length:Int) then(if 0≤a2 then(if a2 < (aa.length:Int) then(if(wm) < ((d5 aa a2).length:Int) then(ou.l0 k a1 a2 a3 a4 (aa.length:Int) (wrap64 ((rd (d5 aa a1) (wm))*a4)) (wrap64 ((rd (d5 aa a2) (wm))*a3)) 0 aa lW ah) else(none)) else(none)) else(none)) else(none)) else(none))=some r:=by first | (rw [KT] at H;exact H) | (simp only [KT] at H ⊢;exact H)
   have arO:(IntKind.i64.wrap (((d5 aa a1).length:Int) - 1))=wm:=(mT _).trans KT
   by_cases c9:0≤(wm)
   ·rw [if_pos c9] at H;have Ab:=decide_eq_true c9;clear c9
    by_cases qF:(wm) < ((d5 aa a1).length:Int)
    ·rw [if_pos qF] at H;have xU:=decide_eq_true qF;clear qF
     by_cases yp:0≤a2
     ·rw [if_pos yp] at H;have PS:=decide_eq_true yp;clear yp
      by_cases qQ:a2 < (aa.length:Int)
      ·rw [if_pos qQ] at H;have GZ:=decide_eq_true qQ;clear qQ
       by_cases rz:(wm) < ((d5 aa a2).length:Int)
       ·rw [if_pos rz] at H;have GY:=decide_eq_true rz;clear rz;have H':=q_ H;clear H
        go_enter Tryz.func108,Tryz.ntmps108
        go_wp2_with (first | ((with_reducible refine dg (N:=5) rfl ?_);refine nR 5 #[.slice aw aa.length aq, .int .i64 lW, .slice au ah.length av] 107 ?_;intro af hg Cg cM hb;have ae:=q_ (cM);have aY:=mq w hg;have aZ:=mq w hg;replace HB:=lT hb;clear hb cM hg;obtain⟨az,aA,aC,aD,aG,aH⟩:=qI ae;have CW:0≤(a1:Int):=l7;have CN:a1 < (aa.length:Int):=l7;obtain⟨ai,aI,aJ,VR,ug,Ax,AA⟩:=pI mR.out a1 CW CN;cases VR;replace ug:=bc_ HB.out ug;have Zg:=q_ AA;have Zp:=q_ Ax;clear AA Ax;replace CW:=eq_true CW;replace CN:=eq_true CN;have CU:0≤(a1:Int):=l7;have CK:a1 < (aa.length:Int):=l7;obtain⟨ax,aK,aM,VQ,uf,Aw,Az⟩:=pI mR.out a1 CU CK;obtain rfl:ai=ax:=(by injection VQ);replace uf:=bc_ HB.out uf;have Gm:=q_ Az;have Zo:=q_ Aw;clear Az Aw;replace CU:=eq_true CU;replace CK:=eq_true CK;have vC:=Option.some.inj (ug.symm.trans uf);injection vC with vC D3 D4;subst vC;subst D4;clear D3;have CT:0≤((wm):Int):=l7;have CJ:(wm) < ((d5 aa a1).length:Int):=l7;obtain⟨a9,VP,vY⟩:=Kd.mA Gm.out (wm) CT CJ;cases VP;replace vY:=bc_ HB.out vY;replace CT:=eq_true CT;replace CJ:=eq_true CJ;have CS:0≤(a2:Int):=l7;have CH:a2 < (aa.length:Int):=l7;obtain⟨ay,aN,aT,VO,vX,Av,Ay⟩:=pI mR.out a2 CS CH;obtain rfl:ai=ay:=(by injection VO);replace vX:=bc_ HB.out vX;have Gl:=q_ Ay;have Zn:=q_ Av;clear Ay Av;replace CS:=eq_true CS;replace CH:=eq_true CH;have CO:0≤((wm):Int):=l7;have CG:(wm) < ((d5 aa a2).length:Int):=l7;obtain⟨ba,VN,vW⟩:=Kd.mA Gl.out (wm) CO CG;cases VN;replace vW:=bc_ HB.out vW;replace CO:=eq_true CO;replace CG:=eq_true CG))
        repeat (go_quiet (first | ((with_reducible refine dg (N:=5) rfl ?_);refine nR 5 #[.slice aw aa.length aq, .int .i64 lW, .slice au ah.length av] 107 ?_;intro af hg Cg cM hb;have ae:=q_ (cM);have aY:=mq w hg;have aZ:=mq w hg;replace HB:=lT hb;clear hb cM hg;obtain⟨az,aA,aC,aD,aG,aH⟩:=qI ae;have CW:0≤(a1:Int):=l7;have CN:a1 < (aa.length:Int):=l7;obtain⟨ai,aI,aJ,VR,ug,Ax,AA⟩:=pI mR.out a1 CW CN;cases VR;replace ug:=bc_ HB.out ug;have Zg:=q_ AA;have Zp:=q_ Ax;clear AA Ax;replace CW:=eq_true CW;replace CN:=eq_true CN;have CU:0≤(a1:Int):=l7;have CK:a1 < (aa.length:Int):=l7;obtain⟨ax,aK,aM,VQ,uf,Aw,Az⟩:=pI mR.out a1 CU CK;obtain rfl:ai=ax:=(by injection VQ);replace uf:=bc_ HB.out uf;have Gm:=q_ Az;have Zo:=q_ Aw;clear Az Aw;replace CU:=eq_true CU;replace CK:=eq_true CK;have vC:=Option.some.inj (ug.symm.trans uf);injection vC with vC D3 D4;subst vC;subst D4;clear D3;have CT:0≤((wm):Int):=l7;have CJ:(wm) < ((d5 aa a1).length:Int):=l7;obtain⟨a9,VP,vY⟩:=Kd.mA Gm.out (wm) CT CJ;cases VP;replace vY:=bc_ HB.out vY;replace CT:=eq_true CT;replace CJ:=eq_true CJ;have CS:0≤(a2:Int):=l7;have CH:a2 < (aa.length:Int):=l7;obtain⟨ay,aN,aT,VO,vX,Av,Ay⟩:=pI mR.out a2 CS CH;obtain rfl:ai=ay:=(by injection VO);replace vX:=bc_ HB.out vX;have Gl:=q_ Ay;have Zn:=q_ Av;clear Ay Av;replace CS:=eq_true CS;replace CH:=eq_true CH;have CO:0≤((wm):Int):=l7;have CG:(wm) < ((d5 aa a2).length:Int):=l7;obtain⟨ba,VN,vW⟩:=Kd.mA Gl.out (wm) CO CG;cases VN;replace vW:=bc_ HB.out vW;replace CO:=eq_true CO;replace CG:=eq_true CG));try go_wp2_with (first | ((with_reducible refine dg (N:=5) rfl ?_);refine nR 5 #[.slice aw aa.length aq, .int .i64 lW, .slice au ah.length av] 107 ?_;intro af hg Cg cM hb;have ae:=q_ (cM);have aY:=mq w hg;have aZ:=mq w hg;replace HB:=lT hb;clear hb cM hg;obtain⟨az,aA,aC,aD,aG,aH⟩:=qI ae;have CW:0≤(a1:Int):=l7;have CN:a1 < (aa.length:Int):=l7;obtain⟨ai,aI,aJ,VR,ug,Ax,AA⟩:=pI mR.out a1 CW CN;cases VR;replace ug:=bc_ HB.out ug;have Zg:=q_ AA;have Zp:=q_ Ax;clear AA Ax;replace CW:=eq_true CW;replace CN:=eq_true CN;have CU:0≤(a1:Int):=l7;have CK:a1 < (aa.length:Int):=l7;obtain⟨ax,aK,aM,VQ,uf,Aw,Az⟩:=pI mR.out a1 CU CK;obtain rfl:ai=ax:=(by injection VQ);replace uf:=bc_ HB.out uf;have Gm:=q_ Az;have Zo:=q_ Aw;clear Az Aw;replace CU:=eq_true CU;replace CK:=eq_true CK;have vC:=Option.some.inj (ug.symm.trans uf);injection vC with vC D3 D4;subst vC;subst D4;clear D3;have CT:0≤((wm):Int):=l7;have CJ:(wm) < ((d5 aa a1).length:Int):=l7;obtain⟨a9,VP,vY⟩:=Kd.mA Gm.out (wm) CT CJ;cases VP;replace vY:=bc_ HB.out vY;replace CT:=eq_true CT;replace CJ:=eq_true CJ;have CS:0≤(a2:Int):=l7;have CH:a2 < (aa.length:Int):=l7;obtain⟨ay,aN,aT,VO,vX,Av,Ay⟩:=pI mR.out a2 CS CH;obtain rfl:ai=ay:=(by injection VO);replace vX:=bc_ HB.out vX;have Gl:=q_ Ay;have Zn:=q_ Av;clear Ay Av;replace CS:=eq_true CS;replace CH:=eq_true CH;have CO:0≤((wm):Int):=l7;have CG:(wm) < ((d5 aa a2).length:Int):=l7;obtain⟨ba,VN,vW⟩:=Kd.mA Gl.out (wm) CO CG;cases VN;replace vW:=bc_ HB.out vW;replace CO:=eq_true CO;replace CG:=eq_true CG)))
        go_loopg [13,14,15] k (fun kq Fp DH Jy w'=> ∃(aj:Int) (ak:Int) (ag:Int),Fp= .int .i64 aj∧DH= .int .i64 ak∧Jy= .int .i64 ag∧aE (ou.l0 kq a1 a2 a3 a4 (aa.length:Int) aj ak ag aa lW ah=some r)∧aE (kq≤k)∧aE (w'.heap[af]?=some (.cells #[(.slice (some ai) aa.length aq), .int .i64 lW,(.slice au ah.length av)] 107 (0,0)))∧aE (Below w.heap.size w w'))
        case atStart=>exact⟨(wrap64 ((rd (d5 aa a1) (wm))*a4)),(wrap64 ((rd (d5 aa a2) (wm))*a3)),(0),(by first | rfl | (simp;done) | (simp only [← KT] <;> (first | rfl | simp)) | (simp [*];done)),(by first | rfl | (simp;done) | (simp only [← KT] <;> (first | rfl | simp)) | (simp [*];done)),nM,H',⟨Nat.le_refl _⟩,⟨nj⟩,⟨hb_⟩⟩
        case round=>
         clear H';(try clear c6);(try clear uj);(try clear c7);(try clear za);(try clear c9);(try clear Ab);(try clear qF);(try clear xU);(try clear yp);(try clear PS);(try clear qQ);(try clear GZ);(try clear rz);(try clear GY);(try clear az);(try clear aA);(try clear aC);(try clear aD);(try clear aG);(try clear aH);(try clear ug);(try clear uf);(try clear vY);(try clear vX);(try clear vW);(try clear CW);(try clear CU);(try clear CT);(try clear CS);(try clear CO);(try clear CN);(try clear CK);(try clear CJ);(try clear CH);(try clear CG);obtain⟨aj,ak,ag,rfl,rfl,rfl,HA,nA,ae,HB⟩:=hrel;cases gk with
         | zero=>exact absurd HA.out (by simp [ou.l0])
         | succ k1=>
          have H:=HA.out;clear HA;simp only [ou.l0] at H
          by_cases sL:ag < (aa.length:Int)
          ·rw [if_pos sL] at H;have Ba:=decide_eq_true sL;clear sL
           by_cases uD:aj=ak
           ·rw [if_pos uD] at H;have Sv:=yh uD;have alr:=yg uD;clear uD
            by_cases uZ:0≤a1
            ·rw [if_pos uZ] at H;have PK:=decide_eq_true uZ;clear uZ
             by_cases ru:a1 < (aa.length:Int)
             ·rw [if_pos ru] at H;have Cd:=decide_eq_true ru;clear ru
              by_cases wL:0≤ag
              ·rw [if_pos wL] at H;have PJ:=decide_eq_true wL;clear wL
               by_cases wK:ag < ((d5 aa a1).length:Int)
               ·rw [if_pos wK] at H;have PI:=decide_eq_true wK;clear wK
                by_cases uz:0≤a2
                ·rw [if_pos uz] at H;have GW:=decide_eq_true uz;clear uz
                 by_cases uY:a2 < (aa.length:Int)
                 ·rw [if_pos uY] at H;have Jr:=decide_eq_true uY;clear uY
                  by_cases A8:ag < ((d5 aa a2).length:Int)
                  ·rw [if_pos A8] at H;have asn:=decide_eq_true A8;clear A8;have H':=q_ H;clear H;obtain⟨bi,bn,bq,bu,bv,bw⟩:=qI ae;have adF:0≤(a1:Int):=l7;have adf:a1 < (aa.length:Int):=l7;obtain⟨bg,bz,bA,an0,Qx,YC,YJ⟩:=pI mR.out a1 adF adf;obtain rfl:ai=bg:=(by injection an0)
                   replace Qx:=bc_ HB.out Qx;have ahX:=q_ YJ;have apF:=q_ YC;clear YJ YC;replace adF:=eq_true adF;replace adf:=eq_true adf;have adE:0≤(ag:Int):=l7;have ade:ag < ((d5 aa a1).length:Int):=l7;obtain⟨bE,anZ,Qw⟩:=Kd.mA ahX.out ag adE ade;cases anZ
                   replace Qw:=bc_ HB.out Qw;replace adE:=eq_true adE;replace ade:=eq_true ade;have adD:0≤(a2:Int):=l7;have adb:a2 < (aa.length:Int):=l7;obtain⟨bh,bC,bD,anY,Qv,YB,YI⟩:=pI mR.out a2 adD adb;obtain rfl:ai=bh:=(by injection anY)
                   replace Qv:=bc_ HB.out Qv;have ahW:=q_ YI;have apE:=q_ YB;clear YI YB;replace adD:=eq_true adD;replace adb:=eq_true adb;have adC:0≤(ag:Int):=l7;have ada:ag < ((d5 aa a2).length:Int):=l7;obtain⟨bF,anX,Qu⟩:=Kd.mA ahW.out ag adC ada;cases anX
                   replace Qu:=bc_ HB.out Qu;replace adC:=eq_true adC;replace ada:=eq_true ada;go_wp2
                   repeat (go_quiet (fail);try go_wp2)
                   go_roundg k1
                   case measure=>have:=nA.out;omega
                   case rel=>exact⟨(wrap64 ((rd (d5 aa a1) ag)*a4)),(wrap64 ((rd (d5 aa a2) ag)*a3)),(wrap64 (ag+1)),nM,nM,nM,H',⟨by have:=nA.out;omega⟩,⟨nj⟩,⟨hb_⟩⟩
                  ·rw [if_neg A8] at H;exact absurd H (by simp)
                 ·rw [if_neg uY] at H;exact absurd H (by simp)
                ·rw [if_neg uz] at H;exact absurd H (by simp)
               ·rw [if_neg wK] at H;exact absurd H (by simp)
              ·rw [if_neg wL] at H;exact absurd H (by simp)
             ·rw [if_neg ru] at H;exact absurd H (by simp)
            ·rw [if_neg uZ] at H;exact absurd H (by simp)
           ·rw [if_neg uD] at H;have Sv:=uJ uD;have alr:=uI uD;obtain rfl:=Option.some.inj H;go_wp2
            repeat (go_quiet (fail);try go_wp2)
            go_ret
            exact⟨by first | rfl | (simp [qY,qX] <;> rfl) | (simp only [← KT];first | rfl | (simp [qY,qX] <;> rfl)) | (simp [*,qY,qX] <;> rfl),hb_⟩
          ·rw [if_neg sL] at H;have Ba:=decide_eq_false sL;clear sL;obtain rfl:=Option.some.inj H;go_wp2
           repeat (go_quiet (fail);try go_wp2)
           go_ret
           exact⟨by first | rfl | (simp [qY,qX] <;> rfl) | (simp only [← KT];first | rfl | (simp [qY,qX] <;> rfl)) | (simp [*,qY,qX] <;> rfl),hb_⟩
       ·rw [if_neg rz] at H;exact absurd H (by simp)
      ·rw [if_neg qQ] at H;exact absurd H (by simp)
     ·rw [if_neg yp] at H;exact absurd H (by simp)
    ·rw [if_neg qF] at H;exact absurd H (by simp)
   ·rw [if_neg c9] at H;exact absurd H (by simp)
  ·rw [if_neg c7] at H;exact absurd H (by simp)
 ·rw [if_neg c6] at H;exact absurd H (by simp)
end Go.Proofs.YthmfdplckdijdaaGreat.Pr
end
