/- Texts of one claim (the words of the kit's print that the claim uses, printed functions, and this session's own texts), joined in the order of their imports by this session's own program (merge.py). -/
import Derived.Test.YtbjljcpngbhkeaaJnFnPivotMinors0
import Derived.Test.YtbjljcpngbhkeaaJnFnPivotMinors1
set_option linter.unusedVariables false
set_option linter.unusedSimpArgs false
set_option maxHeartbeats 8000000
set_option maxRecDepth 100000
section
namespace Go.Proofs.Ytbjljcpngbhkeaa.Pr
open Go.RowKit Wz.PrintWords Wz.PrintLast Wz.PrintMore La Ma Hm Dt Hd Pv
def pvC (k:Nat) (M:List (List Int)) (Q:List Int) (s:Int) (j:Nat):Option (List Int):=(impl_has.f s (j:Int)).bind fun t=>(impl_Problem_column.f k M Q (j:Int) (!t)).bind fun c=>(impl_Problem_solve.f k M Q s c).bind fun r=>some r.1
def pvOK (k:Nat) (M:List (List Int)) (Q:List Int) (s:Int) (n:Nat):Bool:=(List.range n).all fun j=>match pvC k M Q s j with
 | some c=>c.length==n
 | none=>false
def pvL (k:Nat) (M:List (List Int)) (Q:List Int) (s:Int) (j:Nat):List Int:=(pvC k M Q s j).getD []
def impl_Problem_pivot.f (k:Nat) (ae:List (List Int)) (aa:List Int) (a1:Int):Option (Int × List (List Int) × List Int × Bool):=
 (impl_Problem_point.f k ae aa a1).bind fun p=>if p.2.2=true then
  (if 0 < aa.length∧aa.length≤1000∧ae.length=aa.length∧(ae.all fun x=>x.length==aa.length)=true∧p.1.length=aa.length∧impl_copyRows.f k ae=some ae∧pvOK k ae aa a1 aa.length=true then
   some (p.2.1,pR ae (pvL k ae aa a1) aa.length aa.length 0,p.1,true)
  else none)
 else some (0, [], [],false)
theorem pR_congr (l:List (List Int)) (cs cs':Nat→List Int) (n:Nat) (h: ∀c,c < n→cs c=cs' c):pR l cs n n 0=pR l cs' n n 0:=by
 unfold pR
 refine List.map_congr_left (fun r _=>List.map_congr_left (fun c hc=>?_))
 unfold pE
 rw [h c (List.mem_range.1 hc)]
theorem impl_Problem_pivot.calls (k:Nat) (af:Option Addr) (ag:Nat) (ae:List (List Int)) (ah:Option Addr) (ai:Nat) (aa:List Int) (a1:Int) (r1:Int) (r2:List (List Int)) (r3:List Int) (r4:Bool) (w:World) (aj:Kd.C (Kd.slice 2 (Kd.int .i64)) w af ae.length ae) (ak:ae.length≤ag) (aq:Kd.C (Kd.int .i64) w ah aa.length aa) (au:aa.length≤ai) (h:impl_Problem_pivot.f k ae aa a1=some (r1,r2,r3,r4)):
  Calls Try.prog 72 #[.agg #[.slice af ae.length ag, .slice ah aa.length ai], .int .i64 a1] w fun e w'=> ∃v0_ v1_:Value,e= .returned (.tuple #[.agg #[.int .i64 r1,v0_,v1_], .bool r4])∧Kd.S (Kd.slice 2 (Kd.int .i64)) 25 w' w.heap.size (fun k_=>some k_≠(v1_:Value).ownBlock) v0_ r2∧Kd.R (Kd.int .i64) 2 w' w.heap.size (fun _=>True) v1_ r3∧Below w.heap.size w w':=by
 unfold impl_Problem_pivot.f at h;obtain⟨⟨side,den,ok⟩,hp,h⟩:=Option.bind_eq_some_iff.mp h;cases ok with
 | false=>
  rw [if_neg (by simp)] at h;cases h
  refine(pivot_none k a1 side den af ag ae ah ai aa w aj ak aq au hp).mono ?_
  rintro e w' ⟨rfl,hb⟩;refine⟨.slice none 0 0, .slice none 0 0,rfl,?_,?_,hb⟩
  ·exact Kd.S_nil _ _ _ _ _
  ·exact Kd.R_nil _ _ _ _ _
 | true=>
  rw [if_pos rfl] at h
  split at h
  case isFalse=>cases h
  rename_i hc
  obtain⟨h1,h2,h3,h4,h5,h6,h7⟩:=hc;cases h
  have hcl: ∀j,j < aa.length→ ∃t c d o,impl_has.f a1 (j:Int)=some t∧impl_Problem_column.f k ae aa (j:Int) (!t)=some c∧impl_Problem_solve.f k ae aa a1 c=some (pvL k ae aa a1 j,d,o)∧(pvL k ae aa a1 j).length=aa.length:=by
   intro i hi;unfold pvOK at h7;rw [List.all_eq_true] at h7;have:=h7 i (List.mem_range.2 hi);unfold pvL;cases hcf:pvC k ae aa a1 i with
   | none=>rw [hcf] at this;cases this
   | some c=>
    rw [hcf] at this;obtain⟨t,ht1,ht2⟩:=Option.bind_eq_some_iff.mp hcf;obtain⟨c2,ht3,ht4⟩:=Option.bind_eq_some_iff.mp ht2;obtain⟨⟨r,d,o⟩,ht5,ht6⟩:=Option.bind_eq_some_iff.mp ht4;cases ht6
    exact⟨t,c2,d,o,ht1,ht3,ht5,by simpa using this⟩
  have hcl2: ∀j, ∃x:Bool × List Int × Int × Bool,j < aa.length→impl_has.f a1 (j:Int)=some x.1∧impl_Problem_column.f k ae aa (j:Int) (!x.1)=some x.2.1∧impl_Problem_solve.f k ae aa a1 x.2.1=some (pvL k ae aa a1 j,x.2.2.1,x.2.2.2)∧(pvL k ae aa a1 j).length=aa.length:=by
   intro j
   by_cases hj:j < aa.length
   ·obtain⟨t,c,d,o,h⟩:=hcl j hj;exact⟨(t,c,d,o),fun _=>h⟩
   ·exact⟨default,fun h=>absurd h hj⟩
  obtain⟨g,hg⟩:=Classical.axiomOfChoice hcl2;exact pivot_calls k aa.length a1 side den (fun j=>(g j).2.1) (pvL k ae aa a1) (fun j=>(g j).2.2.1) (fun j=>(g j).2.2.2) k af ag ae ah ai aa w aj ak aq au h3 (fun x hx=>by rw [List.all_eq_true] at h4;simpa using h4 x hx) rfl h1 h2 hp h5 h6 (fun j hj=>⟨(g j).1,hg j hj⟩)
end Go.Proofs.Ytbjljcpngbhkeaa.Pr
end
section
namespace Go.Proofs.Ytbjljcpngbhkeaa.Pr
open Go.RowKit Wz.PrintWords Wz.PrintLast Wz.PrintMore
theorem growNil (n:Nat) (w:World) (hn:n≤1099511627776):
  Calls Try.prog 96 #[.slice none 0 0, .int .i64 (n:Int)] w fun e w'=> ∃(A:Option Addr) (c:Nat),e= .returned (.slice A 0 c)∧Kd.R (Kd.int .i64) 2 w' w.heap.size (fun _=>True) (.slice A 0 c) []∧Below w.heap.size w w':=by
 have h0: ¬ (n:Int) < 0:=by omega
 have w2:IntKind.i64.wrap (n:Int)=n:=IntWalk.i64_in _ (by omega);have HN:=q_ hn;clear hn
 by_cases c:n=0
 ·subst c
  go_enter Try.func96,Try.ntmps96
  go_wp2
  go_ret
  exact⟨_,_,rfl,Kd.R_nil _ _ _ _ _,Below.refl _ _⟩
 ·have hp:(n:Int) > 0:=by omega
  go_enter Try.func96,Try.ntmps96
  go_wp2_with (first | ((with_reducible refine gate_dst (N:=22) rfl ?_);refine Kd.R_append_zeros (Kd.int .i64) (w0:=w) w.heap.size rfl (.tmp 20) (.tmp 21) 25 3 2 (.int .i64 0) 8 rfl Try.underlying25 Try.underlying3 info2 rfl (by decide) (by decide) (.slice none 0 0) [] 0 (n:Int) (fun _=>True) (by rfl) (by rfl) rfl (fun _ _=>trivial) (Kd.R_nil _ _ _ _ _) (by omega) (Below.refl _ _) (Nat.le_refl _) (by have:=HN.out;simp;omega) ?_;intro v1 w1 ho hb hg_ hat_;clear hg_ hat_;obtain⟨A1,c1,rfl⟩:=Kd.R_slice ho;rw [List.nil_append,Int.toNat_natCast] at ho;have HO:=q_ ho;have HB:=q_ hb;clear ho hb;simp only [List.nil_append,Int.toNat_natCast,List.length_replicate] at*))
  go_ret
  refine⟨_,_,rfl,?_,HB.out⟩
  have:=Kd.R_take (m:=0) HO.out (Nat.zero_le _)
  simpa using this
theorem flat_succ (l:List (List Int)) (i:Nat) (h:i < l.length):(l.take (i+1)).flatten=(l.take i).flatten++l[i]:=by
 rw [List.take_succ_eq_append_getElem h,List.flatten_append];simp
theorem flat_le (l:List (List Int)) (i:Nat):(l.take i).flatten.length≤l.flatten.length:=by
 have:(l.take i++l.drop i).flatten.length=(l.take i).flatten.length+(l.drop i).flatten.length:=by rw [List.flatten_append,List.length_append]
 rw [List.take_append_drop] at this
 omega
theorem concatRows (A:Option Addr) (c:Nat) (l:List (List Int)) (w:World) (hr:Kd.C (Kd.slice 2 (Kd.int .i64)) w A l.length l) (hl:l.length≤1099511627776) (ht:l.flatten.length≤1099511627776):
  Calls Try.prog 81 #[.slice A l.length c] w fun e w'=> ∃v:Value,e= .returned v∧Kd.R (Kd.int .i64) 2 w' w.heap.size (fun _=>True) v l.flatten∧Below w.heap.size w w':=by
 have HR:=q_ hr;have HL:=q_ hl;have HT:=q_ ht;clear hr hl ht
 go_enter Try.func81,Try.ntmps81
 go_wp2
 go_loopg [3,5,11] l.length (fun gg v3 v5 v11 wr=> ∃i T:Nat,i≤l.length∧l.length - i≤gg∧v11= .int .i64 (i:Int)∧v3= .int .i64 (T:Int)∧Aside0 (T=(l.take i).flatten.length)∧Aside0 (Below w.heap.size w wr))
 case atStart=>exact⟨0,0,Nat.zero_le _,by omega,rfl,rfl,⟨by simp⟩,⟨Below.refl _ _⟩⟩
 case round=>
  obtain⟨i,T,hi,hg,rfl,rfl,HTI,HB⟩:=hrel
  by_cases hlt:i < l.length
  ·obtain⟨ad,A',c',e,hx,hc',hi'⟩:=at_L2 HR.out i (by omega) (by omega);cases e
   rw [Int.toNat_natCast] at hx;have hx':=bc_ HB.out hx;clear hx hi' hc';rw [show rd_L2 l (i:Int)=l[i] from by simp [rd_L2,hlt]] at hx';have h1:=flat_succ l i hlt;have h2:=flat_le l (i+1);have h3:(l.take (i+1)).flatten.length=(l.take i).flatten.length+l[i].length:=by rw [h1,List.length_append]
   have hTI:=HTI.out;have hw:IntKind.i64.wrap ((T:Int)+(l[i].length:Int))=((T+l[i].length:Nat):Int):=by rw [IntWalk.i64_in _ (by have:=HT.out;omega)];omega
   have hnn: ¬ ((T+l[i].length:Nat):Int) < 0:=by omega
   have HN:=q_ (show T+l[i].length=(l.take (i+1)).flatten.length by omega);have hltz:(i:Int) < (l.length:Int):=by omega
   have h0z:(0:Int)≤(i:Int):=by omega
   have hi1:IntKind.i64.wrap ((i:Int)+1)=((i+1:Nat):Int):=by rw [IntWalk.i64_in _ (by have:=HL.out;omega)];rfl
   have HLT:=q_ hlt;have HG:=q_ hg;have HI1:=q_ hi1
   generalize hq:l[i]=q at hx' hw h1 h3 hnn HN
   clear hq h1 h2 h3 hlt hi hg hTI HTI
   generalize q.length=q at hx' hw hnn HN
   generalize T+q=T2 at hw hnn HN
   go_wp2
   go_roundg (l.length - (i+1))
   case measure=>have:=HG.out;have:=HLT.out;omega
   case rel=>exact⟨i+1,T2,by have:=HLT.out;omega,by omega,by first | rfl | (rw [HI1.out]) | (simp [HI1.out]),by rfl,HN,HB⟩
  ·have hltz: ¬ (i:Int) < (l.length:Int):=by omega
   obtain rfl:i=l.length:=by omega
   rw [List.take_length] at HTI;clear hi hg hlt
   go_wp2_with fail
   refine(growNil T wr (by rw [HTI.out];exact HT.out)).mono ?_
   rintro e w1 ⟨A1,c1,rfl,hR,hb⟩;have HO:=q_ (Kd.R_lower hR HB.out.size);replace HB:=q_ (below_step HB.out hb);clear hR hb;go_wp2
   go_loopg [6,8,27] l.length (fun gg v6 v8 v27 wr=> ∃i:Nat,i≤l.length∧l.length - i≤gg∧v27= .int .i64 (i:Int)∧Aside0 (Kd.R (Kd.int .i64) 2 wr w.heap.size (fun _=>True) v6 (l.take i).flatten)∧Aside0 (Below w.heap.size w wr))
   case atStart=>exact⟨0,Nat.zero_le _,by omega,rfl,⟨by simpa using HO.out⟩,HB⟩
   case round=>
    clear HO HB;obtain⟨i,hi,hg,rfl,HO,HB⟩:=hrel
    by_cases hlt:i < l.length
    ·obtain⟨ad,A',c',e,hx,hc',hi'⟩:=at_L2 HR.out i (by omega) (by omega);cases e
     rw [Int.toNat_natCast] at hx;have hx':=bc_ HB.out hx;clear hx;rw [show rd_L2 l (i:Int)=l[i] from by simp [rd_L2,hlt]] at hx' hc' hi';have h1:=flat_succ l i hlt;have h2:=flat_le l (i+1);have h3:(l.take i).flatten.length+l[i].length≤1099511627776:=by rw [h1,List.length_append] at h2;have:=HT.out;omega
     have hltz:(i:Int) < (l.length:Int):=by omega
     have h0z:(0:Int)≤(i:Int):=by omega
     have hi1:IntKind.i64.wrap ((i:Int)+1)=((i+1:Nat):Int):=by rw [IntWalk.i64_in _ (by have:=HL.out;omega)];rfl
     have HLT:=q_ hlt;have HG:=q_ hg;have HI1:=q_ hi1;have H3:=q_ h3;have HI:=q_ (Kd.C_below hi' HB.out);have HF:=q_ h1
     generalize hq:l[i]=q at hx' H3 HI HF h1 h3 hc' hi'
     clear hq h1 h2 h3 hlt hi hg hc' hi'
     generalize (l.take i).flatten=S at HO H3 HF
     obtain⟨Ao,co,rfl⟩:=Kd.R_slice HO.out
     go_wp2_with (first | ((with_reducible refine gate_dst (N:=33) rfl ?_);(refine Kd.R_append_row (Value.int .i64) 0 (w0:=w) w.heap.size rfl (.tmp 31) (.tmp 32) 25 2 (.int .i64 0) 8 rfl Try.underlying25 info2 rfl (by decide) (.slice Ao S.length co) S q A' q.length c' (fun _=>True) (by rfl) (by rfl) (fun _ _=>trivial) HO.out HI.out HB.out HB.out.size (by have:=H3.out;omega) ?_;intro v2 w2 ho hb hg_ hat_;clear hg_ hat_;replace HO:=q_ ho;replace HB:=q_ hb;clear ho hb HI)))
     go_roundg (l.length - (i+1))
     case measure=>have:=HG.out;have:=HLT.out;omega
     case rel=>exact⟨i+1,by have:=HLT.out;omega,by omega,by first | rfl | (rw [HI1.out]) | (simp [HI1.out]),⟨by rw [HF.out];exact HO.out⟩,HB⟩
    ·have hltz: ¬ (i:Int) < (l.length:Int):=by omega
     obtain rfl:i=l.length:=by omega
     rw [List.take_length] at HO;go_wp2
     go_ret
     exact⟨_,rfl,HO.out,HB.out⟩
end Go.Proofs.Ytbjljcpngbhkeaa.Pr
end
section
namespace Go.Proofs.Ytbjljcpngbhkeaa.Pr
open Go.RowKit Wz.PrintWords Wz.PrintLast Wz.PrintMore
def restP (d n:Int):Bool:=decide (Int.tmod n d≠0)
theorem isWhole1 (gb:Nat) (d n:Int) (w:World) (hd:d≠0) (hb:w.cell? ⟨gb,0,none⟩=some (.int .i64 d)):
  Calls Try.prog 82 (#[.int .i64 n]++ #[.pointer (some ⟨gb,0,none⟩)]) w fun e w'=>e= .returned (.bool (restP d n))∧Below w.heap.size w w':=by
 show Calls Try.prog 82 #[.int .i64 n, .pointer (some ⟨gb,0,none⟩)] w _
 have hd0:(d==0)=false:=by simpa using hd
 go_enter Try.func82,Try.ntmps82
 go_wp2
 go_ret
 have e:(Int.tmod n d !=0)=restP d n:=by unfold restP;rw [Bool.eq_iff_iff];simp
 rw [← e];exact⟨rfl,Below.refl _ _⟩
theorem isWhole1_enters: ∀args w,(callFunc 82 args).run Try.prog w= .ok (.enter 82 args) w:=enters_fn Try.func82 (by kernel_rfl) rfl
theorem C_two {w:World} {g:Nat} {A1 A2:Option Addr} {c1 c2:Nat} {x y:List Int} {t:Nat} (hb:w.heap[g]?=some (.cells #[.slice A1 x.length c1, .slice A2 y.length c2] t (0,0))) (h1:Kd.C (Kd.int .i64) w A1 x.length x) (l1:x.length≤c1) (h2:Kd.C (Kd.int .i64) w A2 y.length y) (l2:y.length≤c2):
  Kd.C (Kd.slice 2 (Kd.int .i64)) w (some ⟨g,0,none⟩) [x,y].length [x,y]:=by
 refine⟨rfl,by simp,fun _=>⟨_,rfl,fun j p hp=>?_⟩⟩
 have hj:j < 2:=by have:=(List.getElem?_eq_some_iff.1 hp).1;simpa using this
 have h0:(⟨g,0,none⟩:Addr).add (j*(Kd.slice 2 (Kd.int .i64)).sz+0)=⟨g,j,none⟩:=by
  show (⟨g,0,none⟩:Addr).add (j*1+0)=_
  rw [Nat.mul_one,Nat.add_zero];unfold Addr.add;split <;> simp_all
 match j,hj with
 | 0,_=>
  cases hp
  refine⟨[.slice A1 x.length c1],rfl,⟨A1,c1,rfl,l1,h1⟩,fun u v hv=>?_⟩
  cases u with
  | zero=>cases hv;rw [h0];exact(blk_cell hb 0).trans rfl
  | succ u=>simp at hv
 | 1,_=>
  cases hp
  refine⟨[.slice A2 y.length c2],rfl,⟨A2,c2,rfl,l2,h2⟩,fun u v hv=>?_⟩
  cases u with
  | zero=>cases hv;rw [h0];exact(blk_cell hb 1).trans rfl
  | succ u=>simp at hv
def impl_Pivot_isWhole.f (a0_0:Int) (aa:List (List Int)) (ae:List Int):Option Bool:=if a0_0≠0∧aa.length≤1000000∧aa.flatten.length≤1000000∧ae.length≤1000000 then some (!((aa.flatten++ae).any (restP a0_0))) else none
theorem impl_Pivot_isWhole.calls (a0_0:Int) (ah:Option Addr) (ai:Nat) (ae:List (List Int)) (af:Option Addr) (ag:Nat) (aa:List Int) (r:Bool) (w:World) (aj:Kd.C (Kd.slice 2 (Kd.int .i64)) w ah ae.length ae) (au:ae.length≤ai) (ak:Kd.C (Kd.int .i64) w af aa.length aa) (aq:aa.length≤ag) (h:impl_Pivot_isWhole.f a0_0 ae aa=some r):
  Calls Try.prog 61 #[.agg #[.int .i64 a0_0, .slice ah ae.length ai, .slice af aa.length ag]] w fun e w'=>e= .returned (.bool r)∧Below w.heap.size w w':=by
 unfold impl_Pivot_isWhole.f at h
 split at h
 case isFalse=>cases h
 rename_i hq
 have HR1:=q_ aj;have HR2:=q_ ak;have HC2:=q_ aq;have HQ:=q_ hq;have HV:=q_ (Option.some.inj h);have HB:=q_ (Below.refl w.heap.size w);clear aj au ak aq h hq
 go_enter Try.func61,Try.ntmps61
 go_wp2_with (first | ((with_reducible refine gate_dst (N:=1) rfl ?_);refine be_ 1 #[.int .i64 a0_0, .slice ah ae.length ai, .slice af aa.length ag] 49 ?_;intro gb hg w6 hbox hb;have n0_:=Bs_ hb;have BK:=q_ hbox;clear HB;have HB:=n0_;clear n0_ hb hbox hg))
 replace HB:=q_ (below_drew HB.out);replace BK:=q_ (blk_drew BK.out);have c1:=cz_ BK 1;have c2:=cz_ BK 2;refine st_ (n:=11) (S:=fun w'=>w'.cell? ⟨gb,1,none⟩=some (.slice ah ae.length ai)∧w'.cell? ⟨gb,2,none⟩=some (.slice af aa.length ag)) (ds:= []) ⟨c1,c2⟩ (fun hHeld=>?_)
 generalize w6.drew=w9 at HB BK c1 c2 hHeld ⊢
 refine p2_ 0 3 3 6 ?_;refine tk_ 1 4 ?_;refine tk_ 4 7 ?_;refine pu_ 7 10 ?_
 refine on_ 2 (some 5) (fun K hK=>?_)
 refine ca_ Try.func81 #[.slice ah ae.length ai] ?_
 refine(concatRows ah ai ae w9 (Kd.C_below HR1.out HB.out) (by have:=HQ.out;omega) (by have:=HQ.out;omega)).mono ?_
 rintro e w10 ⟨v,rfl,hR,hb⟩
 generalize ae.flatten=F at hR HV HQ
 obtain⟨Av,cv,rfl⟩:=Kd.R_slice hR;refine⟨_,rfl,?_⟩
 have n0_:=Bs_ hb;have n1_:=q_ (blk_below BK.out hb);have HO:=q_ (Kd.R_reads' hR);clear HB BK hb hR hHeld;have HB:=n0_;have BK:=n1_;clear n0_ n1_;refine hK.out _ _ ⟨cz_ BK 1,cz_ BK 2⟩ (fun hHeld=>?_)
 clear hK K;refine no_ ?_
 refine on_ 5 (some 8) (fun K hK=>?_)
 refine va_ ?_
 have hb:Below w10.heap.size w10 (w10.alloc (.cells #[.slice Av F.length cv, .slice af aa.length ag] 25)):=below_alloc (Below.refl _ _) _;have n0_:=Bs_ hb;have n1_:=q_ (blk_below BK.out hb);have HTW:Aside0 (Kd.C (Kd.slice 2 (Kd.int .i64)) (w10.alloc (.cells #[.slice Av F.length cv, .slice af aa.length ag] 25)) (some ⟨w10.heap.size,0,none⟩) [F,aa].length [F,aa]):=⟨C_two (by unfold World.alloc;exact Array.getElem?_push_size) (Kd.C_below HO.out.2.2 hb) HO.out.2.1 (Kd.C_below HR2.out n0_.out) HC2.out⟩
 clear HB BK HO hb hHeld;have HB:=n0_;have BK:=n1_;clear n0_ n1_
 generalize (w10.alloc (.cells #[.slice Av F.length cv, .slice af aa.length ag] 25))=w11 at*
 generalize w10.heap.size=g2 at*
 refine hK.out _ _ ⟨cz_ BK 1,cz_ BK 2⟩ (fun hHeld=>?_)
 clear hK K;refine no_ ?_
 refine on_ 6 (some 9) (fun K hK=>?_)
 refine ca_ Try.func81 #[.slice (some ⟨g2,0,none⟩) 2 2] ?_
 refine(concatRows (some ⟨g2,0,none⟩) 2 [F,aa] w11 HTW.out (by simp) (by have:=HQ.out;simp only [List.flatten_cons,List.flatten_nil,List.append_nil,List.length_append];omega)).mono ?_
 rintro e w12 ⟨v,rfl,hR,hb⟩;rw [show [F,aa].flatten=F++aa from by simp] at hR
 generalize F++aa=L at hR HV
 obtain⟨Ax,cx,rfl⟩:=Kd.R_slice hR;refine⟨_,rfl,?_⟩
 have n0_:=Bs_ hb;have n1_:=q_ (blk_below BK.out hb);have HO:=q_ (Kd.R_reads' hR);clear HB BK hb hR hHeld HTW;have HB:=n0_;have BK:=n1_;clear n0_ n1_;refine hK.out _ _ ⟨cz_ BK 1,cz_ BK 2⟩ (fun hHeld=>?_)
 clear hK K;refine no_ ?_
 refine on_ 8 (some 11) (fun K hK=>?_)
 refine ca_ Try.func52 #[.slice Ax L.length cx, .func (.func 82) #[] #[.pointer (some ⟨gb,0,none⟩)]] ?_
 refine(containsFuncInts (restP a0_0) 82 #[.pointer (some ⟨gb,0,none⟩)] isWhole1_enters Ax cx L w12 HO.out.2.2 (fun W' x _ hb=>isWhole1 gb a0_0 x W' HQ.out.1 ((blk_cell (blk_below BK.out hb) 0).trans rfl))).mono ?_
 rintro e w13 ⟨rfl,hb⟩;refine⟨_,rfl,?_⟩
 replace HB:=Bs_ hb;replace BK:=q_ (blk_below BK.out hb);clear hb HO hHeld;refine hK.out _ _ ⟨cz_ BK 1,cz_ BK 2⟩ (fun hHeld=>?_)
 clear hK K;refine no_ ?_
 refine p2_ 9 12 10 2 ?_
 refine done_ (by kernel_rfl) ?_
 go_wp2
 go_ret
 exact⟨by rw [← HV.out];rfl,HB.out⟩
end Go.Proofs.Ytbjljcpngbhkeaa.Pr
end
section
namespace Go.Proofs.Ytbjljcpngbhkeaa.Pr
open Go.RowKit Wz.PrintWords Wz.PrintLast Wz.PrintMore
attribute [local go_sem] max2_int min2_int max_two min_two max_three min_three max_four min_four
def impl_pivotOf.f (k:Nat) (ae:List (List Int)) (af:List Int) (a1:Int):Option (Int × (List (List Int)) × List Int × Int):=(impl_setCode.f ae af a1).bind fun ag=>(if ag=0 then((impl_Problem_pivot.f k ae af a1).bind fun aa=>(if aa.2.2.2=true then(some (aa.1,aa.2.1,aa.2.2.1,0)) else(some (0,([]:List (List Int)),([]:List Int),5)))) else(some (0,([]:List (List Int)),([]:List Int),ag)))
theorem impl_pivotOf.calls (k:Nat) (au:Option Addr) (av:Nat) (ai:List (List Int)) (aw:Option Addr) (ax:Nat) (aj:List Int) (a1:Int) (r1:Int) (r2:List (List Int)) (r3:List Int) (r4:Int) (w:World) (a9:Kd.C (Kd.slice 2 (Kd.int .i64)) w au ai.length ai) (ba:ai.length≤av) (bf:Kd.C (Kd.int .i64) w aw aj.length aj) (bg:aj.length≤ax) (h:impl_pivotOf.f k ai aj a1=some (r1,r2,r3,r4)):
  Calls Try.prog 47 #[.agg #[.slice au ai.length av, .slice aw aj.length ax], .int .i64 a1] w fun e w'=> ∃v1_ v2_:Value,e= .returned (.tuple #[.agg #[.int .i64 r1,v1_,v2_], .int .i64 r4])∧Kd.S (Kd.slice 2 (Kd.int .i64)) 25 w' w.heap.size (fun k_=>some k_≠(v2_:Value).ownBlock) v1_ r2∧Kd.R (Kd.int .i64) 2 w' w.heap.size (fun _=>True) v2_ r3∧Below w.heap.size w w':=by
 have hu27:=Try.underlying27;have hu49:=Try.underlying49;have HR0_0:=q_ a9;have HC0_0:=q_ ba;clear a9 ba;have HR0_1:=q_ bf;have HC0_1:=q_ bg;clear bf bg;have HB:=q_ (Below.refl w.heap.size w);have H:((impl_setCode.f ai aj a1).bind fun ay=>(if ay=0 then((impl_Problem_pivot.f k ai aj a1).bind fun aC=>(if aC.2.2.2=true then(some (aC.1,aC.2.1,aC.2.2.1,0)) else(some (0,([]:List (List Int)),([]:List Int),5)))) else(some (0,([]:List (List Int)),([]:List Int),ay))))=some (r1,r2,r3,r4):=h;clear h;replace H:=Option.bind_eq_some_iff.mp H;obtain⟨ay,A30,H⟩:=H;replace H:(if ay=0 then((impl_Problem_pivot.f k ai aj a1).bind fun aC=>(if aC.2.2.2=true then(some (aC.1,aC.2.1,aC.2.2.1,0)) else(some (0,([]:List (List Int)),([]:List Int),5)))) else(some (0,([]:List (List Int)),([]:List Int),ay)))=some (r1,r2,r3,r4):=H;have A3:=q_ A30;clear A30
 by_cases c4:ay=0
 ·rw [if_pos c4] at H;have c4b0:=e1_ c4;have c4b1:=e2_ c4;clear c4;replace H:=Option.bind_eq_some_iff.mp H;obtain⟨⟨aJ,aN,aQ,bv⟩,A50,H⟩:=H;replace H:(if bv=true then(some (aJ,aN,aQ,0)) else(some (0,([]:List (List Int)),([]:List Int),5)))=some (r1,r2,r3,r4):=H;have A5:=q_ A50;clear A50
  by_cases c6:bv=true
  ·subst c6;have H1:(some (aJ,aN,aQ,0))=some (r1,r2,r3,r4):=by rw [if_pos rfl] at H;exact H
   clear H;have H:=H1;clear H1;simp only [Option.some.injEq,Prod.mk.injEq] at H;obtain⟨rfl,rfl,rfl,rfl⟩:=H
   go_enter Try.func47,Try.ntmps47
   go_wp2_with (first | ((with_reducible refine gate_dst (N:=2) rfl ?_);refine be_ 2 #[.slice au ai.length av, .slice aw aj.length ax] 27 ?_;intro ag hg w7 hbox hb;have aa:=q_ (hbox);have bh:=gz_ w hg;have bk:=gz_ w hg;replace HB:=Bs_ hb;clear hb hbox hg) | ((with_reducible refine gate_dst (N:=4) rfl ?_);refine be_ 4 #[.int .i64 0, .slice none 0 0, .slice none 0 0] 49 ?_;intro af hg w8 hbox hb;have ae:=q_ (hbox);have bq:=gz_ w hg;have bu:=gz_ w hg;have az:=lz_ hg aa;have aA:=mz_ hg aa;replace aa:=Bb_ aa hb;replace HB:=Bs_ hb;clear hb hbox hg;have dH:=az.out;have dI:=aA.out;obtain⟨bH,bI,bJ,bK⟩:=c2_ aa) | ((with_reducible refine gate_callee (f:=45) rfl ?_);refine gL_ 11 Try.func45 #[.agg #[.slice au ai.length av, .slice aw aj.length ax], .int .i64 a1] ?_;(with_reducible refine(impl_setCode.calls _ _ ai _ _ aj a1 ay _ ?aD ?aG ?aH ?aI A3.out).mono ?_);(case aD=>exact cb_ HR0_0.out HB.out);(case aG=>exact HC0_0.out);(case aH=>exact cb_ HR0_1.out HB.out);(case aI=>exact HC0_1.out);rintro e w11 ⟨rfl,hb⟩;refine⟨_,rfl,?_⟩;replace aa:=Bb_ aa hb;replace ae:=Bb_ ae hb;replace HB:=Bs_ hb;(try clear hb);(try clear hk);obtain⟨bL,bM,bN,bO⟩:=c2_ aa) | ((with_reducible refine gate_callee (f:=72) rfl ?_);refine gL_ 19 Try.func72 #[.agg #[.slice au ai.length av, .slice aw aj.length ax], .int .i64 a1] ?_;(with_reducible refine(impl_Problem_pivot.calls k _ _ ai _ _ aj a1 aJ aN aQ true _ ?aD ?aG ?aH ?aI A5.out).mono ?_);(case aD=>exact cb_ HR0_0.out HB.out);(case aG=>exact HC0_0.out);(case aH=>exact cb_ HR0_1.out HB.out);(case aI=>exact HC0_1.out);rintro e w13 ⟨bA,bC,rfl,ho0,ho1,hb⟩;refine⟨_,rfl,?_⟩;have aK:=q_ (Kd.S_lower ho0 bz_);have aM:=q_ (Kd.R_lower ho1 bz_);replace aa:=Bb_ aa hb;replace ae:=Bb_ ae hb;replace HB:=Bs_ hb;(try clear hb);(try clear hk);(try clear ho0);(try clear ho1)) | ((with_reducible refine gate_dst (N:=7) rfl ?_);refine be_ 7 #[.int .i64 0, .slice none 0 0, .slice none 0 0] 49 ?_;intro ah hg w14 hbox hb;replace aK:=q_ (Kd.S_below (so_ aK.out) hb);replace aM:=Rb_ aM hb;have aq:=q_ (hbox);have bw:=gz_ w hg;have bz:=gz_ w hg;have aT:=lz_ hg aa;have aU:=mz_ hg aa;have ak:=lz_ hg ae;have aV:=mz_ hg ae;replace aa:=Bb_ aa hb;replace ae:=Bb_ ae hb;replace HB:=Bs_ hb;clear hb hbox hg;have dr:=aU.out;have du:=aT.out;have dw:=aV.out;have dx:=ak.out;obtain⟨bP,bQ,bR,bS,bT,bU⟩:=c3_ aq;obtain⟨aW,aX,bD⟩:=Kd.S_slice aK.out;subst bD;obtain⟨aY,aZ,bE⟩:=Kd.R_slice aM.out;subst bE;obtain⟨bV,bW,bX,bY,bZ,cf⟩:=c3_ ae))
   refine bodyPost_ret (results_ct rfl _ _ af 49 #[.int .i64 aJ, .slice aW aN.length aX, .slice aY aQ.length aZ] (0,0) _ rfl (bw_) Try.underlying49 rfl (by kernel_rfl)) rfl ?_
   exact⟨_,_,ew_,kS_ (Kd.S_far (p:=⟨af,2,none⟩) (Kd.S_far (p:=⟨af,1,none⟩) (Kd.S_far (p:=⟨af,0,none⟩) (Kd.S_far (p:=⟨ah,2,none⟩) (Kd.S_far (p:=⟨ah,1,none⟩) (Kd.S_far (p:=⟨ah,0,none⟩) (Kd.S_types (Kd.S_types aK.out aq.out (by decide)) ae.out (by decide)) (fun _ hk=>hk.1.2) (.int .i64 aJ)) (fun _ hk=>hk.1.2) (.slice aW aN.length aX)) (fun _ hk=>hk.1.2) (.slice aY aQ.length aZ)) (fun _ hk=>hk.2) (.int .i64 aJ)) (fun _ hk=>hk.2) (.slice aW aN.length aX)) (fun _ hk=>hk.2) (.slice aY aQ.length aZ)) (fun _ hk=>hk.1.1),kR_ (Kd.R_far (p:=⟨af,2,none⟩) (Kd.R_far (p:=⟨af,1,none⟩) (Kd.R_far (p:=⟨af,0,none⟩) (Kd.R_far (p:=⟨ah,2,none⟩) (Kd.R_far (p:=⟨ah,1,none⟩) (Kd.R_far (p:=⟨ah,0,none⟩) (Kd.R_types (Kd.R_types aM.out aq.out (by decide)) ae.out (by decide)) (fun _ hk=>hk.1.2) (.int .i64 aJ)) (fun _ hk=>hk.1.2) (.slice aW aN.length aX)) (fun _ hk=>hk.1.2) (.slice aY aQ.length aZ)) (fun _ hk=>hk.2) (.int .i64 aJ)) (fun _ hk=>hk.2) (.slice aW aN.length aX)) (fun _ hk=>hk.2) (.slice aY aQ.length aZ)) (fun _ hk=>trivial),hb_⟩
  ·replace c6:=Bool.eq_false_iff.mpr c6;subst c6;have H1:(some (0,([]:List (List Int)),([]:List Int),5))=some (r1,r2,r3,r4):=by rw [if_neg (show ¬ (false=true) by decide)] at H;exact H
   clear H;have H:=H1;clear H1;simp only [Option.some.injEq,Prod.mk.injEq] at H;obtain⟨rfl,rfl,rfl,rfl⟩:=H
   go_enter Try.func47,Try.ntmps47
   go_wp2_with (first | ((with_reducible refine gate_dst (N:=2) rfl ?_);refine be_ 2 #[.slice au ai.length av, .slice aw aj.length ax] 27 ?_;intro ag hg w21 hbox hb;have aa:=q_ (hbox);have bh:=gz_ w hg;have bk:=gz_ w hg;replace HB:=Bs_ hb;clear hb hbox hg) | ((with_reducible refine gate_dst (N:=4) rfl ?_);refine be_ 4 #[.int .i64 0, .slice none 0 0, .slice none 0 0] 49 ?_;intro af hg w22 hbox hb;have ae:=q_ (hbox);have bq:=gz_ w hg;have bu:=gz_ w hg;have az:=lz_ hg aa;have aA:=mz_ hg aa;replace aa:=Bb_ aa hb;replace HB:=Bs_ hb;clear hb hbox hg;have dz:=az.out;have dA:=aA.out;obtain⟨cg,cm,cu,cz⟩:=c2_ aa) | ((with_reducible refine gate_callee (f:=45) rfl ?_);refine gL_ 11 Try.func45 #[.agg #[.slice au ai.length av, .slice aw aj.length ax], .int .i64 a1] ?_;(with_reducible refine(impl_setCode.calls _ _ ai _ _ aj a1 ay _ ?aD ?aG ?aH ?aI A3.out).mono ?_);(case aD=>exact cb_ HR0_0.out HB.out);(case aG=>exact HC0_0.out);(case aH=>exact cb_ HR0_1.out HB.out);(case aI=>exact HC0_1.out);rintro e w25 ⟨rfl,hb⟩;refine⟨_,rfl,?_⟩;replace aa:=Bb_ aa hb;replace ae:=Bb_ ae hb;replace HB:=Bs_ hb;(try clear hb);(try clear hk);obtain⟨cA,cB,cC,cD⟩:=c2_ aa) | ((with_reducible refine gate_callee (f:=72) rfl ?_);refine gL_ 19 Try.func72 #[.agg #[.slice au ai.length av, .slice aw aj.length ax], .int .i64 a1] ?_;(with_reducible refine(impl_Problem_pivot.calls k _ _ ai _ _ aj a1 aJ aN aQ false _ ?aD ?aG ?aH ?aI A5.out).mono ?_);(case aD=>exact cb_ HR0_0.out HB.out);(case aG=>exact HC0_0.out);(case aH=>exact cb_ HR0_1.out HB.out);(case aI=>exact HC0_1.out);rintro e w27 ⟨bA,bC,rfl,ho0,ho1,hb⟩;refine⟨_,rfl,?_⟩;have aK:=q_ (Kd.S_lower ho0 bz_);have aM:=q_ (Kd.R_lower ho1 bz_);replace aa:=Bb_ aa hb;replace ae:=Bb_ ae hb;replace HB:=Bs_ hb;(try clear hb);(try clear hk);(try clear ho0);(try clear ho1)) | ((with_reducible refine gate_dst (N:=7) rfl ?_);refine be_ 7 #[.int .i64 0, .slice none 0 0, .slice none 0 0] 49 ?_;intro ah hg w28 hbox hb;replace aK:=q_ (Kd.S_below (so_ aK.out) hb);replace aM:=Rb_ aM hb;have aq:=q_ (hbox);have bw:=gz_ w hg;have bz:=gz_ w hg;have aT:=lz_ hg aa;have aU:=mz_ hg aa;have ak:=lz_ hg ae;have aV:=mz_ hg ae;replace aa:=Bb_ aa hb;replace ae:=Bb_ ae hb;replace HB:=Bs_ hb;clear hb hbox hg;have dB:=aU.out;have dC:=aT.out;have dD:=aV.out;have dE:=ak.out;obtain⟨cE,cF,cG,cH,cI,cJ⟩:=c3_ aq;obtain⟨dJ,dK,bF⟩:=Kd.S_slice aK.out;subst bF;obtain⟨dL,dM,bG⟩:=Kd.R_slice aM.out;subst bG;obtain⟨cK,cL,cN,cO,cP,cQ⟩:=c3_ ae))
   refine bodyPost_ret (results_ct rfl _ _ af 49 #[.int .i64 0, .slice none 0 0, .slice none 0 0] (0,0) _ rfl (bw_) Try.underlying49 rfl (by kernel_rfl)) rfl ?_
   exact⟨_,_,ew_,by first | exact Kd.S_nil _ _ _ _ _ | exact Kd.N_nil _ _ _ _ _ | exact Kd.V_nil _ _ _ _ _ | exact Kd.Q_nil _ _ _ _ _ | exact Kd.R_nil _ _ _ _ _,by first | exact Kd.R_nil _ _ _ _ _ | exact Kd.N_nil _ _ _ _ _ | exact Kd.V_nil _ _ _ _ _ | exact Kd.Q_nil _ _ _ _ _ | exact Kd.S_nil _ _ _ _ _,hb_⟩
 ·rw [if_neg c4] at H;have c4b0:=e3_ c4;have c4b1:=e4_ c4;simp only [Option.some.injEq,Prod.mk.injEq] at H;obtain⟨rfl,rfl,rfl,rfl⟩:=H
  go_enter Try.func47,Try.ntmps47
  go_wp2_with (first | ((with_reducible refine gate_dst (N:=2) rfl ?_);refine be_ 2 #[.slice au ai.length av, .slice aw aj.length ax] 27 ?_;intro ag hg w35 hbox hb;have aa:=q_ (hbox);have bh:=gz_ w hg;have bk:=gz_ w hg;replace HB:=Bs_ hb;clear hb hbox hg) | ((with_reducible refine gate_dst (N:=4) rfl ?_);refine be_ 4 #[.int .i64 0, .slice none 0 0, .slice none 0 0] 49 ?_;intro af hg w36 hbox hb;have ae:=q_ (hbox);have bq:=gz_ w hg;have bu:=gz_ w hg;have az:=lz_ hg aa;have aA:=mz_ hg aa;replace aa:=Bb_ aa hb;replace HB:=Bs_ hb;clear hb hbox hg;have dF:=az.out;have dG:=aA.out;obtain⟨cR,cT,cU,cV⟩:=c2_ aa) | ((with_reducible refine gate_callee (f:=45) rfl ?_);refine gL_ 11 Try.func45 #[.agg #[.slice au ai.length av, .slice aw aj.length ax], .int .i64 a1] ?_;(with_reducible refine(impl_setCode.calls _ _ ai _ _ aj a1 ay _ ?aD ?aG ?aH ?aI A3.out).mono ?_);(case aD=>exact cb_ HR0_0.out HB.out);(case aG=>exact HC0_0.out);(case aH=>exact cb_ HR0_1.out HB.out);(case aI=>exact HC0_1.out);rintro e w39 ⟨rfl,hb⟩;refine⟨_,rfl,?_⟩;replace aa:=Bb_ aa hb;replace ae:=Bb_ ae hb;replace HB:=Bs_ hb;(try clear hb);(try clear hk);obtain⟨cZ,da,df,dh,di,dl⟩:=c3_ ae))
  refine bodyPost_ret (results_ct rfl _ _ af 49 #[.int .i64 0, .slice none 0 0, .slice none 0 0] (0,0) _ rfl (bw_) Try.underlying49 rfl (by kernel_rfl)) rfl ?_
  exact⟨_,_,ew_,by first | exact Kd.S_nil _ _ _ _ _ | exact Kd.N_nil _ _ _ _ _ | exact Kd.V_nil _ _ _ _ _ | exact Kd.Q_nil _ _ _ _ _ | exact Kd.R_nil _ _ _ _ _,by first | exact Kd.R_nil _ _ _ _ _ | exact Kd.N_nil _ _ _ _ _ | exact Kd.V_nil _ _ _ _ _ | exact Kd.Q_nil _ _ _ _ _ | exact Kd.S_nil _ _ _ _ _,hb_⟩
def impl_ComplementOf.f (k:Nat) (ae:List (List Int)) (af:List Int) (a1:Int):Option ((List (List Int)) × Int × Int):=(impl_setCode.f ae af a1).bind fun ag=>(if ag=0 then((impl_Problem_all.f ae af).bind fun ai=>(if a1=(wrap64 (ai - 1)) then(some (([]:List (List Int)),0,2)) else((impl_pivotOf.f k ae af a1).bind fun aa=>(if aa.2.2.2=0 then((impl_Problem_all.f ae af).bind fun ah=>((impl_part.f k aa.2.1 (wrap64 ((wrap64 (ah - 1)) - a1)) (wrap64 ((wrap64 (ah - 1)) - a1))).bind fun aj=>(some (aj,aa.1,0)))) else(some (([]:List (List Int)),0,aa.2.2.2)))))) else(some (([]:List (List Int)),0,ag)))
def impl_ComplementOf.T10:Bool × List (List Nat × List Nat):=(true, [([], []),([0], [0]),([], []),([], []),([1,2,3], [1,2,3]),([], []),([5], [5]),([4,4,0,1,2,3,4], [4]),([6,7,0,1,2,3,4,5,6,7], [6]),([8,0,1,2,3,4,5,6,7,8], [])])
def impl_ComplementOf.B10:List Nat:= [0,1,0,0,15,0,32,31,255,511]
theorem impl_ComplementOf.tab10:rtab .any (opsOf Try.f10 10)=impl_ComplementOf.T10:=by kernel_rfl
theorem impl_ComplementOf.bits10:waitsOk impl_ComplementOf.T10.2 impl_ComplementOf.B10=true:=by kernel_rfl
theorem impl_ComplementOf.calls (k:Nat) (aj:Option Addr) (ak:Nat) (ae:List (List Int)) (aq:Option Addr) (au:Nat) (af:List Int) (a1:Int) (r1:List (List Int)) (r2:Int) (r3:Int) (w:World) (a9:Kd.C (Kd.slice 2 (Kd.int .i64)) w aj ae.length ae) (ba:ae.length≤ak) (bf:Kd.C (Kd.int .i64) w aq af.length af) (bg:af.length≤au) (h:impl_ComplementOf.f k ae af a1=some (r1,r2,r3)):
  Calls Try.prog 10 #[.agg #[.slice aj ae.length ak, .slice aq af.length au], .int .i64 a1] w fun e w'=> ∃v0_:Value,e= .returned (.tuple #[v0_, .int .i64 r2, .int .i64 r3])∧Kd.S (Kd.slice 2 (Kd.int .i64)) 25 w' w.heap.size (fun _=>True) v0_ r1∧Below w.heap.size w w':=by
 have hu27:=Try.underlying27;have hu49:=Try.underlying49;have HR0_0:=q_ a9;have HC0_0:=q_ ba;clear a9 ba;have HR0_1:=q_ bf;have HC0_1:=q_ bg;clear bf bg;have HB:=q_ (Below.refl w.heap.size w);have H:((impl_setCode.f ae af a1).bind fun aH=>(if aH=0 then((impl_Problem_all.f ae af).bind fun aI=>(if a1=(wrap64 (aI - 1)) then(some (([]:List (List Int)),0,2)) else((impl_pivotOf.f k ae af a1).bind fun aD=>(if aD.2.2.2=0 then((impl_Problem_all.f ae af).bind fun aA=>((impl_part.f k aD.2.1 (wrap64 ((wrap64 (aA - 1)) - a1)) (wrap64 ((wrap64 (aA - 1)) - a1))).bind fun aJ=>(some (aJ,aD.1,0)))) else(some (([]:List (List Int)),0,aD.2.2.2)))))) else(some (([]:List (List Int)),0,aH))))=some (r1,r2,r3):=h;clear h;replace H:=Option.bind_eq_some_iff.mp H;obtain⟨aH,A30,H⟩:=H;replace H:(if aH=0 then((impl_Problem_all.f ae af).bind fun aI=>(if a1=(wrap64 (aI - 1)) then(some (([]:List (List Int)),0,2)) else((impl_pivotOf.f k ae af a1).bind fun aD=>(if aD.2.2.2=0 then((impl_Problem_all.f ae af).bind fun aA=>((impl_part.f k aD.2.1 (wrap64 ((wrap64 (aA - 1)) - a1)) (wrap64 ((wrap64 (aA - 1)) - a1))).bind fun aJ=>(some (aJ,aD.1,0)))) else(some (([]:List (List Int)),0,aD.2.2.2)))))) else(some (([]:List (List Int)),0,aH)))=some (r1,r2,r3):=H;have A3:=q_ A30;clear A30
 by_cases c4:aH=0
 ·rw [if_pos c4] at H;have c4b0:=e1_ c4;have c4b1:=e2_ c4;clear c4;replace H:=Option.bind_eq_some_iff.mp H;obtain⟨aI,A50,H⟩:=H;replace H:(if a1=(wrap64 (aI - 1)) then(some (([]:List (List Int)),0,2)) else((impl_pivotOf.f k ae af a1).bind fun aD=>(if aD.2.2.2=0 then((impl_Problem_all.f ae af).bind fun aA=>((impl_part.f k aD.2.1 (wrap64 ((wrap64 (aA - 1)) - a1)) (wrap64 ((wrap64 (aA - 1)) - a1))).bind fun aJ=>(some (aJ,aD.1,0)))) else(some (([]:List (List Int)),0,aD.2.2.2)))))=some (r1,r2,r3):=H;have A5:=q_ A50;clear A50
  by_cases c6:a1=(wrap64 (aI - 1))
  ·rw [if_pos c6] at H;have c6b0:=e1_ c6;have c6b1:=e2_ c6;clear c6;simp only [Option.some.injEq,Prod.mk.injEq] at H;obtain⟨rfl,rfl,rfl⟩:=H
   go_enter Try.func10,Try.ntmps10
   go_wp2_with (first | ((with_reducible refine gate_dst (N:=2) rfl ?_);refine be_ 2 #[.slice aj ae.length ak, .slice aq af.length au] 27 ?_;intro ag hg w7 hbox hb;have aa:=q_ (hbox);have aW:=gz_ w hg;have aX:=gz_ w hg;replace HB:=Bs_ hb;clear hb hbox hg;obtain⟨cZ,da,df,dh⟩:=c2_ aa) | ((with_reducible refine gate_callee (f:=45) rfl ?_);refine gL_ 13 Try.func45 #[.agg #[.slice aj ae.length ak, .slice aq af.length au], .int .i64 a1] ?_;(with_reducible refine(impl_setCode.calls _ _ ae _ _ af a1 aH _ ?av ?aw ?ax ?ay A3.out).mono ?_);(case av=>exact cb_ HR0_0.out HB.out);(case aw=>exact HC0_0.out);(case ax=>exact cb_ HR0_1.out HB.out);(case ay=>exact HC0_1.out);rintro e w9 ⟨rfl,hb⟩;refine⟨_,rfl,?_⟩;replace aa:=Bb_ aa hb;replace HB:=Bs_ hb;(try clear hb);(try clear hk);obtain⟨bD,bE,bF,bG⟩:=c2_ aa) | ((with_reducible refine gate_callee (f:=46) rfl ?_);refine gL_ 19 Try.func46 #[.agg #[.slice aj ae.length ak, .slice aq af.length au]] ?_;(with_reducible refine(impl_Problem_all.calls _ _ ae _ _ af aI _ ?av ?aw ?ax ?ay A5.out).mono ?_);(case av=>exact cb_ HR0_0.out HB.out);(case aw=>exact HC0_0.out);(case ax=>exact cb_ HR0_1.out HB.out);(case ay=>exact HC0_1.out);rintro e w11 ⟨rfl,hb⟩;refine⟨_,rfl,?_⟩;replace aa:=Bb_ aa hb;replace HB:=Bs_ hb;(try clear hb);(try clear hk)))
   go_ret3
   exact⟨_,ew_,by first | exact Kd.S_nil _ _ _ _ _ | exact Kd.N_nil _ _ _ _ _ | exact Kd.V_nil _ _ _ _ _ | exact Kd.Q_nil _ _ _ _ _ | exact Kd.R_nil _ _ _ _ _,hb_⟩
  ·rw [if_neg c6] at H;have c6b0:=e3_ c6;have c6b1:=e4_ c6;replace H:=Option.bind_eq_some_iff.mp H;obtain⟨⟨aK,aM,aT,aN⟩,A120,H⟩:=H;replace H:(if aN=0 then((impl_Problem_all.f ae af).bind fun aA=>((impl_part.f k aM (wrap64 ((wrap64 (aA - 1)) - a1)) (wrap64 ((wrap64 (aA - 1)) - a1))).bind fun aJ=>(some (aJ,aK,0)))) else(some (([]:List (List Int)),0,aN)))=some (r1,r2,r3):=H;have A12:=q_ A120;clear A120
   by_cases c13:aN=0
   ·rw [if_pos c13] at H;have c13b0:=e1_ c13;have c13b1:=e2_ c13;clear c13;replace H:=Option.bind_eq_some_iff.mp H;obtain⟨aA,A140,H⟩:=H;replace H:((impl_part.f k aM (wrap64 ((wrap64 (aA - 1)) - a1)) (wrap64 ((wrap64 (aA - 1)) - a1))).bind fun aJ=>(some (aJ,aK,0)))=some (r1,r2,r3):=H;have A14:=q_ A140;clear A140;replace H:=Option.bind_eq_some_iff.mp H;obtain⟨aJ,A150,H⟩:=H;replace H:(some (aJ,aK,0))=some (r1,r2,r3):=H;have A15:=q_ A150;clear A150;simp only [Option.some.injEq,Prod.mk.injEq] at H;obtain⟨rfl,rfl,rfl⟩:=H
    go_enter Try.func10,Try.ntmps10
    try go_wp2_with (first | ((with_reducible refine gate_dst (N:=2) rfl ?_);refine be_ 2 #[.slice aj ae.length ak, .slice aq af.length au] 27 ?_;intro ag hg w16 hbox hb;have aa:=q_ (hbox);have aW:=gz_ w hg;have aX:=gz_ w hg;replace HB:=Bs_ hb;clear hb hbox hg;obtain⟨bH,bI,bJ,bK⟩:=c2_ aa) | ((with_reducible refine gate_callee (f:=45) rfl ?_);refine gL_ 13 Try.func45 #[.agg #[.slice aj ae.length ak, .slice aq af.length au], .int .i64 a1] ?_;(with_reducible refine(impl_setCode.calls _ _ ae _ _ af a1 aH _ ?av ?aw ?ax ?ay A3.out).mono ?_);(case av=>exact cb_ HR0_0.out HB.out);(case aw=>exact HC0_0.out);(case ax=>exact cb_ HR0_1.out HB.out);(case ay=>exact HC0_1.out);rintro e w18 ⟨rfl,hb⟩;refine⟨_,rfl,?_⟩;replace aa:=Bb_ aa hb;replace HB:=Bs_ hb;(try clear hb);(try clear hk);obtain⟨bL,bM,bN,bO⟩:=c2_ aa) | ((with_reducible refine gate_callee (f:=46) rfl ?_);refine gL_ 19 Try.func46 #[.agg #[.slice aj ae.length ak, .slice aq af.length au]] ?_;(with_reducible refine(impl_Problem_all.calls _ _ ae _ _ af aI _ ?av ?aw ?ax ?ay A5.out).mono ?_);(case av=>exact cb_ HR0_0.out HB.out);(case aw=>exact HC0_0.out);(case ax=>exact cb_ HR0_1.out HB.out);(case ay=>exact HC0_1.out);rintro e w20 ⟨rfl,hb⟩;refine⟨_,rfl,?_⟩;replace aa:=Bb_ aa hb;replace HB:=Bs_ hb;(try clear hb);(try clear hk);obtain⟨bP,bQ,bR,bS⟩:=c2_ aa) | ((with_reducible refine gate_callee (f:=47) rfl ?_);refine gL_ 25 Try.func47 #[.agg #[.slice aj ae.length ak, .slice aq af.length au], .int .i64 a1] ?_;(with_reducible refine(impl_pivotOf.calls k _ _ ae _ _ af a1 aK aM aT aN _ ?av ?aw ?ax ?ay A12.out).mono ?_);(case av=>exact cb_ HR0_0.out HB.out);(case aw=>exact HC0_0.out);(case ax=>exact cb_ HR0_1.out HB.out);(case ay=>exact HC0_1.out);rintro e w22 ⟨bu,bv,rfl,ho0,ho1,hb⟩;refine⟨_,rfl,?_⟩;have az:=q_ (Kd.S_lower ho0 bz_);have aC:=q_ (Kd.R_lower ho1 bz_);replace aa:=Bb_ aa hb;replace HB:=Bs_ hb;(try clear hb);(try clear hk);(try clear ho0);(try clear ho1)) | ((with_reducible refine gate_dst (N:=8) rfl ?_);refine be_ 8 #[.int .i64 0, .slice none 0 0, .slice none 0 0] 49 ?_;intro ai hg w23 hbox hb;replace az:=q_ (Kd.S_below (so_ az.out) hb);replace aC:=Rb_ aC hb;have ah:=q_ (hbox);have bh:=gz_ w hg;have bk:=gz_ w hg;have aG:=lz_ hg aa;have aQ:=mz_ hg aa;replace aa:=Bb_ aa hb;replace HB:=Bs_ hb;clear hb hbox hg;have di:=aQ.out;have dl:=aG.out;obtain⟨bT,bU,bV,bW,bX,bY⟩:=c3_ ah;obtain⟨aU,aV,bw⟩:=Kd.S_slice az.out;subst bw;obtain⟨aY,aZ,bz⟩:=Kd.R_slice aC.out;subst bz;obtain⟨bZ,cf,cg,cm⟩:=c2_ aa) | ((with_reducible refine gate_callee (f:=46) rfl ?_);refine gL_ 32 Try.func46 #[.agg #[.slice aj ae.length ak, .slice aq af.length au]] ?_;(with_reducible refine(impl_Problem_all.calls _ _ ae _ _ af aA _ ?av ?aw ?ax ?ay A14.out).mono ?_);(case av=>exact Kd.C_below HR0_0.out hb_);(case aw=>exact HC0_0.out);(case ax=>exact Kd.C_below HR0_1.out hb_);(case ay=>exact HC0_1.out);rintro e w29 ⟨rfl,hb⟩;refine⟨_,rfl,?_⟩;replace az:=q_ (Kd.S_below ((kS_ (sf3_ az.out ah.out) (fun _ h_=>h_.1))) hb);replace aC:=q_ (Kd.R_below ((kR_ (rf3_ aC.out ah.out) (fun _ h_=>h_.1))) hb);replace aa:=q_ (blk_below (g:=ag) (o:= .cells #[.slice aj ae.length ak, .slice aq af.length au] 27 (0,0)) (bw_) hb);replace HB:=Bs_ hb;replace ah:=q_ (blk_below (g:=ai) (o:= .cells #[.int .i64 aK, .slice aU aM.length aV, .slice aY aT.length aZ] 49 (0,0)) (bw_) hb);(try clear hb);(try clear hk)))
    replace az:=q_ (Kd.S_drew az.out);replace aC:=q_ (Kd.R_drew aC.out);replace aa:=q_ (blk_drew aa.out);replace ah:=q_ (blk_drew ah.out);replace HB:=q_ (below_drew1 HB.out);refine st_ (n:=10) (S:=fun w'=>w'.cell? ⟨ai,0,none⟩=some (.int .i64 aK)∧w'.cell? ⟨ai,1,none⟩=some (.slice aU aM.length aV)∧w'.cell? ⟨ai,2,none⟩=some (.slice aY aT.length aZ)) (ds:= []) ⟨(blk_cell ah.out 0).trans rfl,(blk_cell ah.out 1).trans rfl,(blk_cell ah.out 2).trans rfl⟩ (fun hHeld=>?_);refine with_tabW impl_ComplementOf.tab10 impl_ComplementOf.bits10 (fun HT_ HW_=>?_)
    generalize w29.drew=w30 at az aC aa ah HB hHeld ⊢
    refine p4_ 0 36 2 38 3 39 5 41 ?_;refine tk_ 1 37 ?_;refine tk_ 6 42 ?_
    refine on_ 4 (some 40) (fun K hK=>?_)
    refine goes_ Try.func48 (by kernel_rfl) rfl #[.slice aU aM.length aV, .int .i64 (wrap64 ((wrap64 (aA - 1)) - a1)), .int .i64 (wrap64 ((wrap64 (aA - 1)) - a1))] (by rfl) rfl rfl (by(try simp only [List.map_toArray,List.map_cons,List.map_nil]);first | done | rfl | (simp only [List.length_drop,List.length_take];rfl)) ?_
    with_reducible refine(impl_part.calls k _ _ aM (wrap64 ((wrap64 (aA - 1)) - a1)) (wrap64 ((wrap64 (aA - 1)) - a1)) aJ _ ?av ?aw A15.out).mono ?_
    (case av=>exact cS_)
    (case aw=>exact(Kd.S_reads' az.out).2.1)
    rintro e w31 ⟨dw,rfl,ho0,hb⟩;refine⟨_,rfl,?_⟩
    have bq:=q_ (Kd.S_lower (Kd.S_new' (Kd.S_new' ho0 (Kd.S_lt (so_ az.out))) (Kd.R_lt (ro_ aC.out))) bz_);replace aa:=Bb_ aa hb;replace ah:=Bb_ ah hb;replace az:=q_ (Kd.S_elder' (so_ az.out) (Kd.S_base ho0) hb);replace aC:=Rb_ aC hb;replace HB:=Bs_ hb;(try clear hb)
    
    (try clear hk)
    
    (try clear ho0);refine hK.out _ _ ⟨(blk_cell ah.out 0).trans rfl,(blk_cell ah.out 1).trans rfl,(blk_cell ah.out 2).trans rfl⟩ (fun hHeld=>?_)
    clear hK K;refine norm_ (a':=?_) ?_ ?_
    rotate_left
    ·show Act.put _ (some 40) _=_
     simp only [Act.put,List.setIfInBounds_toArray,List.set_cons_zero,List.set_cons_succ,i64_w,i32_w]
     rfl
    refine p3_ 7 4 8 5 9 6 ?_
    refine done_ (done_of HT_.out (by kernel_rfl)) ?_
    try go_wp2
    go_ret3
    exact⟨_,ew_,kS_ bq.out (fun _ hk=>trivial),hb_⟩
   ·rw [if_neg c13] at H;have c13b0:=e3_ c13;have c13b1:=e4_ c13;simp only [Option.some.injEq,Prod.mk.injEq] at H;obtain⟨rfl,rfl,rfl⟩:=H
    go_enter Try.func10,Try.ntmps10
    go_wp2_with (first | ((with_reducible refine gate_dst (N:=2) rfl ?_);refine be_ 2 #[.slice aj ae.length ak, .slice aq af.length au] 27 ?_;intro ag hg w32 hbox hb;have aa:=q_ (hbox);have aW:=gz_ w hg;have aX:=gz_ w hg;replace HB:=Bs_ hb;clear hb hbox hg;obtain⟨cu,cz,cA,cB⟩:=c2_ aa) | ((with_reducible refine gate_callee (f:=45) rfl ?_);refine gL_ 13 Try.func45 #[.agg #[.slice aj ae.length ak, .slice aq af.length au], .int .i64 a1] ?_;(with_reducible refine(impl_setCode.calls _ _ ae _ _ af a1 aH _ ?av ?aw ?ax ?ay A3.out).mono ?_);(case av=>exact cb_ HR0_0.out HB.out);(case aw=>exact HC0_0.out);(case ax=>exact cb_ HR0_1.out HB.out);(case ay=>exact HC0_1.out);rintro e w34 ⟨rfl,hb⟩;refine⟨_,rfl,?_⟩;replace aa:=Bb_ aa hb;replace HB:=Bs_ hb;(try clear hb);(try clear hk);obtain⟨cC,cD,cE,cF⟩:=c2_ aa) | ((with_reducible refine gate_callee (f:=46) rfl ?_);refine gL_ 19 Try.func46 #[.agg #[.slice aj ae.length ak, .slice aq af.length au]] ?_;(with_reducible refine(impl_Problem_all.calls _ _ ae _ _ af aI _ ?av ?aw ?ax ?ay A5.out).mono ?_);(case av=>exact cb_ HR0_0.out HB.out);(case aw=>exact HC0_0.out);(case ax=>exact cb_ HR0_1.out HB.out);(case ay=>exact HC0_1.out);rintro e w36 ⟨rfl,hb⟩;refine⟨_,rfl,?_⟩;replace aa:=Bb_ aa hb;replace HB:=Bs_ hb;(try clear hb);(try clear hk);obtain⟨cG,cH,cI,cJ⟩:=c2_ aa) | ((with_reducible refine gate_callee (f:=47) rfl ?_);refine gL_ 25 Try.func47 #[.agg #[.slice aj ae.length ak, .slice aq af.length au], .int .i64 a1] ?_;(with_reducible refine(impl_pivotOf.calls k _ _ ae _ _ af a1 aK aM aT aN _ ?av ?aw ?ax ?ay A12.out).mono ?_);(case av=>exact cb_ HR0_0.out HB.out);(case aw=>exact HC0_0.out);(case ax=>exact cb_ HR0_1.out HB.out);(case ay=>exact HC0_1.out);rintro e w38 ⟨bu,bv,rfl,ho0,ho1,hb⟩;refine⟨_,rfl,?_⟩;have az:=q_ (Kd.S_lower ho0 bz_);have aC:=q_ (Kd.R_lower ho1 bz_);replace aa:=Bb_ aa hb;replace HB:=Bs_ hb;(try clear hb);(try clear hk);(try clear ho0);(try clear ho1)) | ((with_reducible refine gate_dst (N:=8) rfl ?_);refine be_ 8 #[.int .i64 0, .slice none 0 0, .slice none 0 0] 49 ?_;intro ai hg w39 hbox hb;replace az:=q_ (Kd.S_below (so_ az.out) hb);replace aC:=Rb_ aC hb;have ah:=q_ (hbox);have bh:=gz_ w hg;have bk:=gz_ w hg;have aG:=lz_ hg aa;have aQ:=mz_ hg aa;replace aa:=Bb_ aa hb;replace HB:=Bs_ hb;clear hb hbox hg;have dr:=aQ.out;have du:=aG.out;obtain⟨cK,cL,cN,cO,cP,cQ⟩:=c3_ ah;obtain⟨dx,dz,bA⟩:=Kd.S_slice az.out;subst bA;obtain⟨dA,dB,bC⟩:=Kd.R_slice aC.out;subst bC))
    go_ret3
    exact⟨_,ew_,by first | exact Kd.S_nil _ _ _ _ _ | exact Kd.N_nil _ _ _ _ _ | exact Kd.V_nil _ _ _ _ _ | exact Kd.Q_nil _ _ _ _ _ | exact Kd.R_nil _ _ _ _ _,hb_⟩
 ·rw [if_neg c4] at H;have c4b0:=e3_ c4;have c4b1:=e4_ c4;simp only [Option.some.injEq,Prod.mk.injEq] at H;obtain⟨rfl,rfl,rfl⟩:=H
  go_enter Try.func10,Try.ntmps10
  go_wp2_with (first | ((with_reducible refine gate_dst (N:=2) rfl ?_);refine be_ 2 #[.slice aj ae.length ak, .slice aq af.length au] 27 ?_;intro ag hg w44 hbox hb;have aa:=q_ (hbox);have aW:=gz_ w hg;have aX:=gz_ w hg;replace HB:=Bs_ hb;clear hb hbox hg;obtain⟨cR,cT,cU,cV⟩:=c2_ aa) | ((with_reducible refine gate_callee (f:=45) rfl ?_);refine gL_ 13 Try.func45 #[.agg #[.slice aj ae.length ak, .slice aq af.length au], .int .i64 a1] ?_;(with_reducible refine(impl_setCode.calls _ _ ae _ _ af a1 aH _ ?av ?aw ?ax ?ay A3.out).mono ?_);(case av=>exact cb_ HR0_0.out HB.out);(case aw=>exact HC0_0.out);(case ax=>exact cb_ HR0_1.out HB.out);(case ay=>exact HC0_1.out);rintro e w46 ⟨rfl,hb⟩;refine⟨_,rfl,?_⟩;replace aa:=Bb_ aa hb;replace HB:=Bs_ hb;(try clear hb);(try clear hk)))
  go_ret3
  exact⟨_,ew_,by first | exact Kd.S_nil _ _ _ _ _ | exact Kd.N_nil _ _ _ _ _ | exact Kd.V_nil _ _ _ _ _ | exact Kd.Q_nil _ _ _ _ _ | exact Kd.R_nil _ _ _ _ _,hb_⟩
end Go.Proofs.Ytbjljcpngbhkeaa.Pr
end
section
namespace Go.Proofs.Ytbjljcpngbhkeaa.Pr
open Go.RowKit Wz.PrintWords Wz.PrintLast Wz.PrintMore La Ma Hm Hd Hput Lw
def dvL (d:Int) (x:List Int):List Int:=x.map fun n=>wrap64 (Int.tdiv n d)
def dvI (d:Int) (x:List Int) (i:Nat):List Int:=(List.range x.length).map fun r=>if r < i then wrap64 (Int.tdiv (x.getD r 0) d) else x.getD r 0
theorem dvI_len (d:Int) (x:List Int) (i:Nat):(dvI d x i).length=x.length:=by simp [dvI]
theorem dvI_zero (d:Int) (x:List Int):dvI d x 0=x:=by
 apply List.ext_getElem
 ·simp [dvI]
 ·intro r h1 h2;simp [dvI,h2]
theorem dvI_all (d:Int) (x:List Int) (i:Nat) (h:i=x.length):dvI d x i=dvL d x:=by
 apply List.ext_getElem
 ·simp [dvI,dvL]
 ·intro r h1 h2
  have hr:r < x.length:=by simpa [dvI] using h1
  simp [dvI,dvL,hr,h]
theorem dvI_at (d:Int) (x:List Int) (i:Nat) (h:i < x.length):(dvI d x i).getD i 0=x.getD i 0:=by simp [dvI,h]
theorem dvI_set (d:Int) (x:List Int) (i:Nat) (h:i < x.length):(dvI d x i).set i (wrap64 (Int.tdiv (x.getD i 0) d))=dvI d x (i+1):=by
 apply List.ext_getElem
 ·simp [dvI]
 ·intro r h1 h2
  rw [List.getElem_set]
  simp only [dvI,List.getElem_map,List.getElem_range]
  by_cases e:i=r
  ·subst e;rw [if_pos rfl,if_pos (by omega)]
  ·rw [if_neg e]
   by_cases c:r < i
   ·rw [if_pos c,if_pos (by omega)]
   ·rw [if_neg c,if_neg (by omega)]
def dvR (d:Int) (R:List (List Int)) (i c:Nat):List (List Int):=(List.range R.length).map fun r=>if r < i then dvL d (R.getD r []) else if r=i then dvI d (R.getD r []) c else R.getD r []
theorem dvR_len (d:Int) (R:List (List Int)) (i c:Nat):(dvR d R i c).length=R.length:=by simp [dvR]
theorem dvR_zero (d:Int) (R:List (List Int)):dvR d R 0 0=R:=by
 apply List.ext_getElem
 ·simp [dvR]
 ·intro r h1 h2
  simp only [dvR,List.getElem_map,List.getElem_range,Nat.not_lt_zero,if_false,dvI_zero]
  split <;> simp [h2]
theorem dvR_next (d:Int) (R:List (List Int)) (i c:Nat) (h:c=(R.getD i []).length):dvR d R i c=dvR d R (i+1) 0:=by
 unfold dvR
 refine List.map_congr_left (fun r _=>?_)
 by_cases e:r=i
 ·subst e;rw [if_neg (by omega),if_pos rfl,if_pos (by omega),dvI_all d _ c h]
 ·by_cases q:r < i
  ·rw [if_pos q,if_pos (by omega)]
  ·rw [if_neg q,if_neg e,if_neg (by omega)]
   by_cases z:r=i+1
   ·rw [if_pos z,dvI_zero]
   ·rw [if_neg z]
theorem dvR_all (d:Int) (R:List (List Int)) (i:Nat) (h:i=R.length):dvR d R i 0=R.map (dvL d):=by
 apply List.ext_getElem
 ·simp [dvR]
 ·intro r h1 h2
  have hr:r < R.length:=by simpa [dvR] using h1
  simp [dvR,hr,h]
theorem dvR_row (d:Int) (R:List (List Int)) (i c:Nat) (h:i < (dvR d R i c).length):(dvR d R i c)[i]=dvI d (R.getD i []) c:=by
 simp only [dvR,List.getElem_map,List.getElem_range]
 rw [if_neg (by omega)]
 simp
theorem dvR_set (d:Int) (R:List (List Int)) (i c:Nat) (h:i < R.length) (hc:c < (R.getD i []).length):(dvR d R i c).set i ((dvI d (R.getD i []) c).set c (wrap64 (Int.tdiv ((R.getD i []).getD c 0) d)))=dvR d R i (c+1):=by
 apply List.ext_getElem
 ·simp [dvR]
 ·intro r h1 h2
  rw [List.getElem_set]
  simp only [dvR,List.getElem_map,List.getElem_range]
  by_cases e:i=r
  ·subst e;rw [if_pos rfl,if_neg (by omega),if_pos rfl,dvI_set d _ c hc]
  ·rw [if_neg e]
   by_cases q:r < i
   ·rw [if_pos q,if_pos q]
   ·rw [if_neg q,if_neg q,if_neg (Ne.symm e),if_neg (Ne.symm e)]
theorem limited_calls (A0:Option Addr) (c0:Nat) (M:List (List Int)) (A1:Option Addr) (c1:Nat) (Q:List Int) (t:Bool) (w:World) (hr0:Kd.C (Kd.slice 2 (Kd.int .i64)) w A0 M.length M) (hc0:M.length≤c0) (hr1:Kd.C (Kd.int .i64) w A1 Q.length Q) (hc1:Q.length≤c1) (ht:impl_IsProblem.f M Q=some t):
  Calls Try.prog 62 #[.agg #[.slice A0 M.length c0, .slice A1 Q.length c1]] w fun e w'=>e= .returned (if t=true then .tuple #[.agg #[.slice A0 M.length c0, .slice A1 Q.length c1], .int .i64 0] else .tuple #[.agg #[.slice none 0 0, .slice none 0 0], .int .i64 3])∧Below w.heap.size w w':=by
 have HR0:=q_ hr0;have HC0:=q_ hc0;have HR1:=q_ hr1;have HC1:=q_ hc1;have HT:=q_ ht;have HB:=q_ (Below.refl w.heap.size w);clear hr0 hc0 hr1 hc1 ht
 go_enter Try.func62,Try.ntmps62
 go_wp2_with (first | ((with_reducible refine gate_dst (N:=1) rfl ?_);refine be_ 1 #[.slice A0 M.length c0, .slice A1 Q.length c1] 27 ?_;intro gb hg w6 hbox hb;replace HB:=q_ (below_step HB.out hb);have hcz0:=cz_ (q_ hbox) 0;have hcz1:=cz_ (q_ hbox) 1;have BK:=q_ hbox;clear hb hbox hg) | ((with_reducible refine gate_dst (N:=2) rfl ?_);refine be_ 2 #[.slice none 0 0, .slice none 0 0] 27 ?_;intro g4 hg w7 hbox hb;have G4:Aside0 (w.heap.size≤g4):=⟨by have:=HB.out.size;omega⟩;have GN:Aside0 (gb < g4):=⟨by have:=blk_lt BK.out;omega⟩;clear hcz0 hcz1;replace HB:=q_ (below_step HB.out hb);replace BK:=q_ (blk_below BK.out hb);have B4:=q_ hbox;clear hb hbox hg;have hcz0:=cz_ BK 0;have hcz1:=cz_ BK 1))
 refine(impl_IsProblem.calls A0 c0 M A1 c1 Q t w7 (Kd.C_below HR0.out HB.out) HC0.out (Kd.C_below HR1.out HB.out) HC1.out HT.out).mono ?_
 rintro e w8 ⟨rfl,hb⟩;clear hcz0 hcz1;replace HB:=q_ (below_step HB.out hb);replace BK:=q_ (blk_below BK.out hb);replace B4:=q_ (blk_below B4.out hb);clear hb;obtain⟨hs0,hs1,hsf0,hsf1⟩:=c2_ B4;have hcz0:=cz_ BK 0;have hcz1:=cz_ BK 1;cases t with
 | true=>
  go_wp2_with (first | ((with_reducible refine gate_store (t:=27) (p:=2) rfl ?_);refine se_ 27 2 (((w8.setCell ⟨g4,0,none⟩ (.slice A0 M.length c0)).setCell ⟨g4,1,none⟩ (.slice A1 Q.length c1))) ?_;intro w9 hw;have hF:Frm w8 w9 g4 (g4+1):=(by rw [hw];exact(Frm.set _ _ _ _).trans ((Frm.set _ _ _ _)));have nb:=q_ (show w9.heap[g4]?=some (.cells #[.slice A0 M.length c0, .slice A1 Q.length c1] 27 (0,0)) from (by rw [hw];exact(blk_put (blk_put B4.out 0 _ rfl) 1 _ rfl)));have nB:=q_ (show Below w.heap.size w w9 from (by rw [hw];exact below_set (below_set (HB.out) G4.out) G4.out));replace BK:=q_ ((hF.same _ (blk_lt BK.out) (.inl (by have:=GN.out;omega))).trans BK.out);clear hw HB B4 hF;have HB:=nB;have B4:=nb;clear nB nb))
  refine bodyPost_ret (results_list (rs:= [.cell 2 27, .tmp 3]) rfl (by simp) (.cell g4 27 #[.slice A0 M.length c0, .slice A1 Q.length c1] (0,0) _ rfl B4.out Try.underlying27 rfl (by kernel_rfl) (.tmp .nil))) rfl ?_
  exact⟨rfl,HB.out⟩
 | false=>
  go_wp2_with (first | ((with_reducible refine gate_store (t:=27) (p:=2) rfl ?_);refine se_ 27 2 (((w8.setCell ⟨g4,0,none⟩ (.slice none 0 0)).setCell ⟨g4,1,none⟩ (.slice none 0 0))) ?_;intro w9 hw;have hF:Frm w8 w9 g4 (g4+1):=(by rw [hw];exact(Frm.set _ _ _ _).trans ((Frm.set _ _ _ _)));have nb:=q_ (show w9.heap[g4]?=some (.cells #[.slice none 0 0, .slice none 0 0] 27 (0,0)) from (by rw [hw];exact(blk_put (blk_put B4.out 0 _ rfl) 1 _ rfl)));have nB:=q_ (show Below w.heap.size w w9 from (by rw [hw];exact below_set (below_set (HB.out) G4.out) G4.out));replace BK:=q_ ((hF.same _ (blk_lt BK.out) (.inl (by have:=GN.out;omega))).trans BK.out);clear hw HB B4 hF;have HB:=nB;have B4:=nb;clear nB nb))
  refine bodyPost_ret (results_list (rs:= [.cell 2 27, .tmp 3]) rfl (by simp) (.cell g4 27 #[.slice none 0 0, .slice none 0 0] (0,0) _ rfl B4.out Try.underlying27 rfl (by kernel_rfl) (.tmp .nil))) rfl ?_
  exact⟨rfl,HB.out⟩
def impl_PivotedProblem.f (k:Nat) (aa:List (List Int)) (ae:List Int) (a1:Int):Option (List (List Int) × List Int × Int):=
 (impl_pivotOf.f k aa ae a1).bind fun p=>if p.2.2.2=0 then((impl_Pivot_isWhole.f p.1 p.2.1 p.2.2.1).bind fun t=>if t=true then(if 0 < p.2.1.length∧p.2.1.length≤1000∧p.2.2.1.length=p.2.1.length∧(p.2.1.all fun x=>x.length==p.2.1.length)=true then
  ((impl_IsProblem.f (p.2.1.map (dvL p.1)) (dvL p.1 p.2.2.1)).bind fun u=>some (if u=true then(p.2.1.map (dvL p.1),dvL p.1 p.2.2.1,0) else([], [],3))) else none) else some ([], [],5)) else some ([], [],p.2.2.2)
theorem impl_PivotedProblem.calls (k:Nat) (af:Option Addr) (ag:Nat) (aa:List (List Int)) (ah:Option Addr) (ai:Nat) (ae:List Int) (a1:Int) (r1:List (List Int)) (r2:List Int) (r3:Int) (w:World) (aj:Kd.C (Kd.slice 2 (Kd.int .i64)) w af aa.length aa) (ak:aa.length≤ag) (aq:Kd.C (Kd.int .i64) w ah ae.length ae) (au:ae.length≤ai) (h:impl_PivotedProblem.f k aa ae a1=some (r1,r2,r3)):
  Calls Try.prog 20 #[.agg #[.slice af aa.length ag, .slice ah ae.length ai], .int .i64 a1] w fun e w'=> ∃v0_ v1_:Value,e= .returned (.tuple #[.agg #[v0_,v1_], .int .i64 r3])∧Kd.S (Kd.slice 2 (Kd.int .i64)) 25 w' w.heap.size (fun k_=>some k_≠(v1_:Value).ownBlock) v0_ r1∧Kd.R (Kd.int .i64) 2 w' w.heap.size (fun _=>True) v1_ r2∧Below w.heap.size w w':=by
 unfold impl_PivotedProblem.f at h;obtain⟨⟨den,R,S,code⟩,h1,h⟩:=Option.bind_eq_some_iff.mp h
 dsimp only at h
 have HR0:=q_ aj;have HC0:=q_ ak;have HR1:=q_ aq;have HC1:=q_ au;have H1:=q_ h1;have H:=q_ h;have HB:=q_ (Below.refl w.heap.size w);clear aj ak aq au h h1
 go_enter Try.func20,Try.ntmps20
 go_wp2_with (first | ((with_reducible refine gate_dst (N:=2) rfl ?_);refine be_ 2 #[.slice af aa.length ag, .slice ah ae.length ai] 27 ?_;intro gb hg w6 hbox hb;replace HB:=q_ (below_step HB.out hb);have BK:=q_ hbox;clear hb hbox hg) | ((with_reducible refine gate_dst (N:=4) rfl ?_);refine be_ 4 #[.slice none 0 0, .slice none 0 0] 27 ?_;intro g4 hg w7 hbox hb;have G4:Aside0 (w.heap.size≤g4):=⟨by have:=HB.out.size;omega⟩;have GN:Aside0 (gb < g4):=⟨by have:=blk_lt BK.out;omega⟩;replace HB:=q_ (below_step HB.out hb);replace BK:=q_ (blk_below BK.out hb);have B4:=q_ hbox;clear hb hbox hg;have hcz0:=cz_ BK 0;have hcz1:=cz_ BK 1))
 refine(impl_pivotOf.calls k af ag aa ah ai ae a1 den R S code w7 (Kd.C_below HR0.out HB.out) HC0.out (Kd.C_below HR1.out HB.out) HC1.out H1.out).mono ?_
 rintro e w8 ⟨v1,v2,rfl,hS,hR,hb⟩;have HP:=q_ (UP.of (w0:=w) hS hR HB.out.size);have G4L:Aside0 (g4 < w7.heap.size):=⟨blk_lt B4.out⟩
 have HLH:Aside0 (w7.heap.size≤w8.heap.size):=⟨hb.size⟩
 clear hcz0 hcz1 hS hR H1;replace HB:=q_ (below_step HB.out hb);replace BK:=q_ (blk_below BK.out hb);replace B4:=q_ (blk_below B4.out hb);clear hb;obtain⟨As,cs,At,ct,rfl,rfl⟩:=HP.out.slices;have HHI:Aside0 (w8.heap.size≤w8.heap.size):=⟨Nat.le_refl _⟩
 generalize hlo:w7.heap.size=lo at*
 generalize hhi:w8.heap.size=hi at HP HLH HHI
 have HHI2:Aside0 (hi=w8.heap.size):=⟨hhi.symm⟩
 clear hlo hhi HHI
 by_cases c0:code=0
 ·have h:=H.out;rw [if_pos c0] at h;obtain⟨t,h2,h⟩:=Option.bind_eq_some_iff.mp h;have H2:=q_ h2;have H:=q_ h;have hden:Aside0 (den≠0):=⟨by unfold impl_Pivot_isWhole.f at h2;split at h2;(rename_i hq;exact hq.1);cases h2⟩
  subst c0;clear h h2
  go_wp2_with (first | ((with_reducible refine gate_dst (N:=6) rfl ?_);refine be_ 6 #[.int .i64 0, .slice none 0 0, .slice none 0 0] 49 ?_;intro g6 hg w9 hbox hb;have G6:Aside0 (w.heap.size≤g6):=⟨by have:=HB.out.size;omega⟩;have G6H:Aside0 (hi≤g6):=⟨by have:=HHI2.out;omega⟩;replace HB:=q_ (below_step HB.out hb);replace BK:=q_ (blk_below BK.out hb);replace B4:=q_ (blk_below B4.out hb);replace HP:=q_ (HP.out.mvB (Frm.below hb));have B6:=q_ hbox;clear hb hbox hg;obtain⟨hs0,hs1,hs2,hsf0,hsf1,hsf2⟩:=c3_ B6) | ((with_reducible refine gate_store (t:=49) (p:=6) rfl ?_);refine store_event (t:=49) (p:=6) (v:=?vo3) (w1:=(((w9.setCell ⟨g6,0,none⟩ (.int .i64 den)).setCell ⟨g6,1,none⟩ (.slice As R.length cs)).setCell ⟨g6,2,none⟩ (.slice At S.length ct))) ?hg ?ho ?hn ?hr ?_;(case ho=>rfl);(case hg=>rfl);(case hn=>rfl);(case hr=>first | (go_simp;done) | (go_simp;rfl));intro w10 hw;have hF:Frm w9 w10 g6 (g6+1):=(by rw [hw];exact(Frm.set _ _ _ _).trans ((Frm.set _ _ _ _).trans ((Frm.set _ _ _ _))));have nb:=q_ (show w10.heap[g6]?=some (.cells #[.int .i64 den, .slice As R.length cs, .slice At S.length ct] 49 (0,0)) from (by rw [hw];exact(blk_put (blk_put (blk_put B6.out 0 _ rfl) 1 _ rfl) 2 _ rfl)));have nB:=q_ (show Below w.heap.size w w10 from (by rw [hw];exact below_set (below_set (below_set (HB.out) G6.out) G6.out) G6.out));replace BK:=q_ ((hF.same _ (blk_lt BK.out) (.inl (by have:=G6H.out;have:=HLH.out;have:=G4L.out;have:=GN.out;omega))).trans BK.out);replace B4:=q_ ((hF.same _ (blk_lt B4.out) (.inl (by have:=G6H.out;have:=HLH.out;have:=G4L.out;have:=GN.out;omega))).trans B4.out);replace HP:=q_ (HP.out.mv hF (.inl G6H.out));clear hw HB B6 hF;have HB:=nB;have B6:=nb;clear nB nb hs0 hs1 hs2 hsf0 hsf1 hsf2;have hs0:=cz_ B6 0;have hs1:=cz_ B6 1;have hs2:=cz_ B6 2;obtain⟨hf0,hf1,hff0,hff1⟩:=c2_ B4))
  refine(impl_Pivot_isWhole.calls den As cs R At ct S t w10 (HP.out.C0) HP.out.cap0 (HP.out.C1) HP.out.cap1 H2.out).mono ?_
  rintro e w11 ⟨rfl,hb⟩;clear hs0 hs1 hs2 hf0 hf1 hff0 hff1;replace HB:=q_ (below_step HB.out hb);replace BK:=q_ (blk_below BK.out hb);replace B4:=q_ (blk_below B4.out hb);replace HP:=q_ (HP.out.mvB (Frm.below hb));replace B6:=q_ (blk_below B6.out hb);clear hb H2;have hs0:=cz_ B6 0;have hs1:=cz_ B6 1;have hs2:=cz_ B6 2;obtain⟨hf0,hf1,hff0,hff1⟩:=c2_ B4;cases t with
  | false=>
   have h:=H.out;rw [if_neg (by simp)] at h;cases h
   go_wp2_with (first | ((with_reducible refine gate_store (t:=27) (p:=4) rfl ?_);refine se_ 27 4 (((w11.setCell ⟨g4,0,none⟩ (.slice none 0 0)).setCell ⟨g4,1,none⟩ (.slice none 0 0))) ?_;intro w12 hw;have hF:Frm w11 w12 g4 (g4+1):=(by rw [hw];exact(Frm.set _ _ _ _).trans ((Frm.set _ _ _ _)));have nb:=q_ (show w12.heap[g4]?=some (.cells #[.slice none 0 0, .slice none 0 0] 27 (0,0)) from (by rw [hw];exact(blk_put (blk_put B4.out 0 _ rfl) 1 _ rfl)));have nB:=q_ (show Below w.heap.size w w12 from (by rw [hw];exact below_set (below_set (HB.out) G4.out) G4.out));replace BK:=q_ ((hF.same _ (blk_lt BK.out) (.inl (by have:=GN.out;omega))).trans BK.out);replace HP:=q_ (HP.out.mv hF (.inr (by have:=G4L.out;omega)));replace B6:=q_ ((hF.same _ (blk_lt B6.out) (.inr (by have:=HLH.out;have:=G6H.out;have:=G4L.out;omega))).trans B6.out);clear hw HB B4 hF;have HB:=nB;have B4:=nb;clear nB nb))
   refine bodyPost_ret (results_list (rs:= [.cell 4 27, .tmp 5]) rfl (by simp) (.cell g4 27 #[.slice none 0 0, .slice none 0 0] (0,0) _ rfl B4.out Try.underlying27 rfl (by kernel_rfl) (.tmp .nil))) rfl ?_
   exact⟨_,_,rfl,Kd.S_nil _ _ _ _ _,Kd.R_nil _ _ _ _ _,HB.out⟩
  | true=>
   have h:=H.out;rw [if_pos rfl] at h
   by_cases cq:0 < R.length∧R.length≤1000∧S.length=R.length∧(R.all fun x=>x.length==R.length)=true
   ·rw [if_pos cq] at h;obtain⟨u,h3,h⟩:=Option.bind_eq_some_iff.mp h;obtain⟨q1,q2,q3,q4⟩:=cq;have HROW:Aside0 (∀i,i < R.length→(R.getD i []).length=R.length):=⟨fun i hi=>by
     have:=List.all_eq_true.1 q4 (R.getD i []) (by rw [List.getD_eq_getElem?_getD,List.getElem?_eq_getElem hi];exact List.getElem_mem hi)
     simpa using this⟩
    have H3:=q_ h3;have H:=q_ (Option.some.inj h);have HS:=q_ q3;have HPO:=q_ q1;have HN:=q_ q2;rw [q3] at HP B6 hs2 ⊢;obtain⟨g,cap,e1,_⟩:=Kd.S_form HP.out.m q1;injection e1 with e1 e3 e2
    clear e3;subst e1;subst e2;obtain⟨gs,caps,e1,_⟩:=Kd.R_form HP.out.q (by have:=HS.out;have:=HPO.out;omega);injection e1 with e1 e3 e2
    clear e3;subst e1;subst e2;have GLO:Aside0 (lo≤gs∧gs < hi):=⟨HP.out.q.1 gs rfl⟩
    clear h h3 q1 q3 q4
    go_wp2_with (first | ((with_reducible refine gate_dst (N:=8) rfl ?_);refine be_ 8 #[.slice none 0 0, .slice none 0 0] 27 ?_;intro g8 hg w12 hbox hb;have G8:Aside0 (w.heap.size≤g8):=⟨by have:=HB.out.size;omega⟩;have G8H:Aside0 (hi≤g8):=⟨by have:=G6H.out;have:=blk_lt B6.out;omega⟩;have G86:Aside0 (g6 < g8):=⟨by have:=blk_lt B6.out;omega⟩;clear hs0 hs1 hs2 hf0 hf1 hff0 hff1;replace HB:=q_ (below_step HB.out hb);replace BK:=q_ (blk_below BK.out hb);replace B4:=q_ (blk_below B4.out hb);replace HP:=q_ (HP.out.mvB (Frm.below hb));replace B6:=q_ (blk_below B6.out hb);have B8:=q_ hbox;clear hb hbox hg;obtain⟨hs0,hs1,hsf0,hsf1⟩:=c2_ B8) | ((with_reducible refine gate_store (t:=27) (p:=8) rfl ?_);refine store_event (t:=27) (p:=8) (v:=?vo5) (w1:=((w12.setCell ⟨g8,0,none⟩ (.slice (some ⟨g,0,none⟩) R.length cs)).setCell ⟨g8,1,none⟩ (.slice (some ⟨gs,0,none⟩) R.length ct))) ?hg ?ho ?hn ?hr ?_;(case ho=>rfl);(case hg=>rfl);(case hn=>rfl);(case hr=>first | (go_simp;done) | (go_simp;rfl));intro w13 hw;have hF:Frm w12 w13 g8 (g8+1):=(by rw [hw];exact(Frm.set _ _ _ _).trans ((Frm.set _ _ _ _)));have nb:=q_ (show w13.heap[g8]?=some (.cells #[.slice (some ⟨g,0,none⟩) R.length cs, .slice (some ⟨gs,0,none⟩) R.length ct] 27 (0,0)) from (by rw [hw];exact(blk_put (blk_put B8.out 0 _ rfl) 1 _ rfl)));have nB:=q_ (show Below w.heap.size w w13 from (by rw [hw];exact below_set (below_set (HB.out) G8.out) G8.out));replace BK:=q_ ((hF.same _ (blk_lt BK.out) (.inl (by have:=G8H.out;have:=HLH.out;have:=G4L.out;have:=GN.out;omega))).trans BK.out);replace B4:=q_ ((hF.same _ (blk_lt B4.out) (.inl (by have:=G8H.out;have:=HLH.out;have:=G4L.out;have:=GN.out;omega))).trans B4.out);replace HP:=q_ (HP.out.mv hF (.inl G8H.out));replace B6:=q_ ((hF.same _ (blk_lt B6.out) (.inl G86.out)).trans B6.out);clear hw HB B8 hF;have HB:=nB;have B8:=nb;clear nB nb hs0 hs1 hsf0 hsf1;have hs0:=cz_ B8 0;have hs1:=cz_ B8 1))
    have HW8:=q_ HS.out
    go_loopg [34] R.length (fun gg v34 wr=> ∃i:Nat,i≤R.length∧R.length - i≤gg∧v34= .int .i64 (i:Int)∧Aside0 (Below w.heap.size w wr)∧Aside0 (wr.heap[g4]?=some (.cells #[.slice none 0 0, .slice none 0 0] 27 (0,0)))∧Aside0 (wr.heap[g6]?=some (.cells #[.int .i64 den, .slice (some ⟨g,0,none⟩) R.length cs, .slice (some ⟨gs,0,none⟩) R.length ct] 49 (0,0)))∧Aside0 (wr.heap[g8]?=some (.cells #[.slice (some ⟨g,0,none⟩) R.length cs, .slice (some ⟨gs,0,none⟩) R.length ct] 27 (0,0)))∧Aside0 (UP w wr lo hi (.slice (some ⟨g,0,none⟩) R.length cs) (.slice (some ⟨gs,0,none⟩) R.length ct) (dvR den R i 0) (dvI den S i)))
    case atStart=>exact⟨0,Nat.zero_le _,by omega,rfl,HB,B4,B6,B8,⟨by rw [dvR_zero,dvI_zero];exact HP.out⟩⟩
    case round=>
     clear HB B4 B6 B8 HP hs0 hs1 BK;obtain⟨i,hi_,hgg,rfl,HB,B4,B6,B8,HP⟩:=hrel;have HG:=q_ hgg
     by_cases hin:i < R.length
     ·have HIN:=q_ hin;have hiz:(i:Int) < (R.length:Int):=by omega
      have h0i:(0:Int)≤(i:Int):=by omega
      have hi1:IntKind.i64.wrap ((i:Int)+1)=((i+1:Nat):Int):=by rw [IntWalk.i64_in _ (by have:=HN.out;omega)];rfl
      have HI1:=q_ hi1;have hrow:=dvR_row den R i 0 (by rw [dvR_len];exact hin);have hpr:=put_row (w0:=w) (g:=g) (cap:=cs) HB.out (l:=dvR den R i 0) (by rw [dvR_len];exact HP.out.m) i (by rw [dvR_len];exact hin) 0 (by rw [hrow,dvI_len,HROW.out i hin];omega);rw [hrow,dvI_len,HROW.out i hin] at hpr;obtain⟨b,cj,hcellg,_,_,_⟩:=hpr;have HCG:=q_ hcellg;have hat:=Kd.R_celln 0 HP.out.q (i:Int) (by omega) hiz;rw [Int.toNat_natCast] at hat;have hatv:wr.cell? ⟨gs,i,none⟩=some (.int .i64 (S.getD i 0)):=by
       have e:=hat.1;rw [show rdOf 0 (dvI den S i) (i:Int)=S.getD i 0 from by unfold rdOf;rw [Int.toNat_natCast];exact dvI_at den S i (by rw [HS.out];exact hin)] at e;exact e
      have hatf:=hat.2;have hd0: ¬ den=0:=hden.out;have hput:=Kd.R_putg HP.out.q (i:Int) (wrap64 (Int.tdiv (S.getD i 0) den));rw [Int.toNat_natCast,dvI_set den S i (by rw [HS.out];exact hin)] at hput;have HQ2:=q_ hput.1
      generalize hxs:S.getD i 0=xs at hatv HQ2
      have hc80:=cz_ B8 0;have hc81:=cz_ B8 1;have hc60:=cz_ B6 0;clear hrow hin hgg hi_ hat hput hxs;go_wp2
      have hcd0:wr.drew.cell? ⟨g8,1,none⟩=some (.slice (some ⟨gs,0,none⟩) R.length ct):=hc81;have hcd1:wr.drew.cell? ⟨gs,i,none⟩=some (.int .i64 xs):=hatv;have hcd2:wr.drew.cell? ⟨g6,0,none⟩=some (.int .i64 den):=hc60;have hcd3:wr.drew.frozen? ⟨gs,i,none⟩=false:=hatf;refine st_ (n:=10) (S:=fun w'=>w'.cell? ⟨g8,1,none⟩=some (.slice (some ⟨gs,0,none⟩) R.length ct)∧w'.cell? ⟨gs,i,none⟩=some (.int .i64 xs)∧w'.cell? ⟨g6,0,none⟩=some (.int .i64 den)) (ds:= [9]) ⟨hcd0,hcd1,hcd2⟩ (fun hHeld=>?_)
      refine pu_ 0 39 ?_;refine tk_ 1 40 ?_;refine p2_ 2 41 3 42 ?_;refine tk_ 4 43 ?_;refine pu_ 5 44 ?_;refine tk_ 6 45 ?_;refine p2_ 7 46 8 47 ?_
      refine la_ 9 none (fun K hK=>?_)
      refine skip_ (w1:=?_) (by rfl) rfl ?_ ?_
      rotate_left
      ·go_simp
       rfl
      refine hK.out _ _ ?_
      clear hK K;refine done_ (by kernel_rfl) ?_
      have hw:wr.drew.setCell ⟨gs,i,none⟩ (.int .i64 (wrap64 (Int.tdiv xs den)))=(wr.setCell ⟨gs,i,none⟩ (.int .i64 (wrap64 (Int.tdiv xs den)))).drew:=rfl;have hF:Frm wr (wr.setCell ⟨gs,i,none⟩ (.int .i64 (wrap64 (Int.tdiv xs den)))) gs (gs+1):=Frm.set _ _ _ _;have nP:Aside0 (UP w (wr.setCell ⟨gs,i,none⟩ (.int .i64 (wrap64 (Int.tdiv xs den)))) lo hi (.slice (some ⟨g,0,none⟩) R.length cs) (.slice (some ⟨gs,0,none⟩) R.length ct) (dvR den R i 0) (dvI den S (i+1))):=⟨⟨Kd.S_step HP.out.m (fun k hk hlt=>hF.same k hlt (by have:=hk.2;simp [Value.ownBlock] at this;omega)),HQ2.out⟩⟩
      have nB:Aside0 (Below w.heap.size w (wr.setCell ⟨gs,i,none⟩ (.int .i64 (wrap64 (Int.tdiv xs den))))):=⟨below_set HB.out (Kd.R_base HP.out.q gs rfl)⟩
      have n4:=q_ ((hF.same g4 (blk_lt B4.out) (.inl (by have:=G4L.out;have:=GLO.out.1;omega))).trans B4.out);have n6:=q_ ((hF.same g6 (blk_lt B6.out) (.inr (by have:=G6H.out;have:=GLO.out.2;omega))).trans B6.out);have n8:=q_ ((hF.same g8 (blk_lt B8.out) (.inr (by have:=G8H.out;have:=GLO.out.2;omega))).trans B8.out);have nC:Aside0 ((wr.setCell ⟨gs,i,none⟩ (.int .i64 (wrap64 (Int.tdiv xs den)))).cell? ⟨g,i,none⟩=some (.slice (some ⟨b,0,none⟩) R.length cj)):=⟨by rw [cset_other (by intro q;have:=congrArg Addr.block q;exact((Kd.S_R HP.out.m).1 g rfl).2 (by simp [Value.ownBlock];exact this.symm))];exact HCG.out⟩
      clear HP HB B4 B6 B8 HCG HQ2 hcd0 hcd1 hcd2 hcd3 hc80 hc81 hc60 hatv hatf hcellg hF hHeld;have HP:=nP;have HB:=nB;have B4:=n4;have B6:=n6;have B8:=n8;have HCG:=nC;clear nP nB n4 n6 n8 nC
      generalize wr.drew.setCell ⟨gs,i,none⟩ (.int .i64 (wrap64 (Int.tdiv xs den)))=w20 at hw
      generalize wr.setCell ⟨gs,i,none⟩ (.int .i64 (wrap64 (Int.tdiv xs den)))=w19 at*
      subst hw;replace HP:=q_ (HP.out.mvB (Frm.below (below_drew (Below.refl _ _))));replace HB:=q_ (below_drew HB.out);replace B4:=q_ (blk_drew B4.out);replace B6:=q_ (blk_drew B6.out);replace B8:=q_ (blk_drew B8.out);replace HCG:Aside0 (w19.drew.cell? ⟨g,i,none⟩=some (.slice (some ⟨b,0,none⟩) R.length cj)):=⟨HCG.out⟩
      generalize w19.drew=w20 at*
      go_wp2
      go_loopg [50] R.length (fun gg v50 w30=> ∃c:Nat,c≤R.length∧R.length - c≤gg∧v50= .int .i64 (c:Int)∧Aside0 (Below w.heap.size w w30)∧Aside0 (w30.heap[g4]?=some (.cells #[.slice none 0 0, .slice none 0 0] 27 (0,0)))∧Aside0 (w30.heap[g6]?=some (.cells #[.int .i64 den, .slice (some ⟨g,0,none⟩) R.length cs, .slice (some ⟨gs,0,none⟩) R.length ct] 49 (0,0)))∧Aside0 (w30.heap[g8]?=some (.cells #[.slice (some ⟨g,0,none⟩) R.length cs, .slice (some ⟨gs,0,none⟩) R.length ct] 27 (0,0)))∧Aside0 (UP w w30 lo hi (.slice (some ⟨g,0,none⟩) R.length cs) (.slice (some ⟨gs,0,none⟩) R.length ct) (dvR den R i c) (dvI den S (i+1)))∧Aside0 (w30.cell? ⟨g,i,none⟩=some (.slice (some ⟨b,0,none⟩) R.length cj)))
      case atStart=>exact⟨0,Nat.zero_le _,by omega,rfl,HB,B4,B6,B8,HP,HCG⟩
      case round=>
       clear HB B4 B6 B8 HP HCG;obtain⟨c,hc_,hgg,rfl,HB,B4,B6,B8,HP,HCG⟩:=hrel;have HG2:=q_ hgg
       by_cases hcn:c < R.length
       ·have HCN:=q_ hcn;have hcz:(c:Int) < (R.length:Int):=by omega
        have h0c:(0:Int)≤(c:Int):=by omega
        have hc1:IntKind.i64.wrap ((c:Int)+1)=((c+1:Nat):Int):=by rw [IntWalk.i64_in _ (by have:=HN.out;omega)];rfl
        have HC1':=q_ hc1;have hrow:=dvR_row den R i c (by rw [dvR_len];exact HIN.out);have hpr:=put_row (w0:=w) (g:=g) (cap:=cs) HB.out (l:=dvR den R i c) (by rw [dvR_len];exact HP.out.m) i (by rw [dvR_len];exact HIN.out) c (by rw [hrow,dvI_len,HROW.out i HIN.out];exact hcn);rw [hrow,dvI_len,HROW.out i HIN.out,dvR_len] at hpr;obtain⟨b',cj',hcell',hold,hfr,hset⟩:=hpr;have ebb:b'=b:=by
         have:=hcell'.symm.trans HCG.out;injection this with this
         injection this with this
         injection this with this
         exact congrArg Addr.block this
        subst ebb;have hset2:=hset (wrap64 (Int.tdiv ((R.getD i []).getD c 0) den));rw [dvR_set den R i c HIN.out (by rw [HROW.out i HIN.out];exact hcn)] at hset2;have HSET:=q_ hset2;rw [dvI_at den _ c (by rw [HROW.out i HIN.out];exact hcn)] at hold
        generalize (R.getD i []).getD c 0=xv at hold HSET
        have hd0: ¬ den=0:=hden.out;have hc60:=cz_ B6 0;clear hset hset2 hrow hcn hc_ hgg hcell';go_wp2
        have hcd1:wr.drew.cell? ⟨b',c,none⟩=some (.int .i64 xv):=hold;have hcd2:wr.drew.cell? ⟨g6,0,none⟩=some (.int .i64 den):=hc60;have hcd3:wr.drew.frozen? ⟨b',c,none⟩=false:=hfr;refine st_ (n:=9) (S:=fun w'=>w'.cell? ⟨b',c,none⟩=some (.int .i64 xv)∧w'.cell? ⟨g6,0,none⟩=some (.int .i64 den)) (ds:= [8]) ⟨hcd1,hcd2⟩ (fun hHeld=>?_)
        refine p3_ 0 53 1 54 2 55 ?_;refine tk_ 3 56 ?_;refine pu_ 4 57 ?_;refine tk_ 5 58 ?_;refine p2_ 6 59 7 60 ?_
        refine la_ 8 none (fun K hK=>?_)
        refine skip_ (w1:=?_) (by rfl) rfl ?_ ?_
        rotate_left
        ·go_simp
         rfl
        refine hK.out _ _ ?_
        clear hK K;refine done_ (by kernel_rfl) ?_
        have hw:wr.drew.setCell ⟨b',c,none⟩ (.int .i64 (wrap64 (Int.tdiv xv den)))=(wr.setCell ⟨b',c,none⟩ (.int .i64 (wrap64 (Int.tdiv xv den)))).drew:=rfl;have hok:=HSET.out.2.2;have hF:Frm wr (wr.setCell ⟨b',c,none⟩ (.int .i64 (wrap64 (Int.tdiv xv den)))) lo hi:=Frm.kept hok (fun k hk=>hk.1);have nP:Aside0 (UP w (wr.setCell ⟨b',c,none⟩ (.int .i64 (wrap64 (Int.tdiv xv den)))) lo hi (.slice (some ⟨g,0,none⟩) R.length cs) (.slice (some ⟨gs,0,none⟩) R.length ct) (dvR den R i (c+1)) (dvI den S (i+1))):=⟨⟨HSET.out.1,Kd.R_step (ok:=fun k=>(lo≤k∧k < hi)∧k=gs) (Kd.R_mono (Kd.R_tight rfl HP.out.q) (fun k hk=>by have e:k=gs:=(by simpa [Value.ownBlock] using hk);subst e;exact⟨GLO.out,rfl⟩)) (fun k hk hlt=>hok.2 k hlt (fun q=>q.2 (by rw [hk.2];rfl))) |> fun z=>Kd.R_mono z (fun k hk=>hk.1)⟩⟩
        have nB:=q_ HSET.out.2.1;have n4:=q_ ((hF.same g4 (blk_lt B4.out) (.inl G4L.out)).trans B4.out);have n6:=q_ ((hF.same g6 (blk_lt B6.out) (.inr G6H.out)).trans B6.out);have n8:=q_ ((hF.same g8 (blk_lt B8.out) (.inr G8H.out)).trans B8.out);have nC:Aside0 ((wr.setCell ⟨b',c,none⟩ (.int .i64 (wrap64 (Int.tdiv xv den)))).cell? ⟨g,i,none⟩=some (.slice (some ⟨b',0,none⟩) R.length cj)):=by
         by_cases q:g=b'
         ·subst q;exact⟨by
           obtain⟨_,_,e1,_,_,cells,hc⟩:=Kd.S_form HP.out.m (by rw [dvR_len];exact HPO.out);injection e1 with e1 _ _
           injection e1 with e1
           have e1:=congrArg Addr.block e1
           exfalso
           have hx:=HCG.out
           by_cases q2:i=c
           ·rw [q2] at hx;rw [hold] at hx;cases hx
           ·obtain⟨bb,cc,hcc,hold2,_,_⟩:=put_row (w0:=w) (g:=g) (cap:=cs) HB.out (l:=dvR den R i c) (by rw [dvR_len];exact HP.out.m) i (by rw [dvR_len];exact HIN.out) i (by rw [dvR_row den R i c (by rw [dvR_len];exact HIN.out),dvI_len,HROW.out i HIN.out];exact HIN.out);have:=hcc.symm.trans hx;injection this with this
            injection this with this
            injection this with this
            have hbb:bb=g:=congrArg Addr.block this;rw [hbb] at hold2;rw [hx] at hold2;cases hold2⟩
         ·exact⟨by rw [cset_other (by intro e;exact q (congrArg Addr.block e).symm)];exact HCG.out⟩
        clear HP HB B4 B6 B8 HCG HSET hcd1 hcd2 hcd3 hc60 hold hfr hok hF hHeld;have HP:=nP;have HB:=nB;have B4:=n4;have B6:=n6;have B8:=n8;have HCG:=nC;clear nP nB n4 n6 n8 nC
        generalize wr.drew.setCell ⟨b',c,none⟩ (.int .i64 (wrap64 (Int.tdiv xv den)))=w40 at hw
        generalize wr.setCell ⟨b',c,none⟩ (.int .i64 (wrap64 (Int.tdiv xv den)))=w39 at*
        subst hw;replace HP:=q_ (HP.out.mvB (Frm.below (below_drew (Below.refl _ _))));replace HB:=q_ (below_drew HB.out);replace B4:=q_ (blk_drew B4.out);replace B6:=q_ (blk_drew B6.out);replace B8:=q_ (blk_drew B8.out);replace HCG:Aside0 (w39.drew.cell? ⟨g,i,none⟩=some (.slice (some ⟨b',0,none⟩) R.length cj)):=⟨HCG.out⟩
        go_wp2
        go_roundg (R.length - (c+1))
        case measure=>have:=HG2.out;have:=HCN.out;omega
        case rel=>exact⟨c+1,by have:=HCN.out;omega,by omega,by first | rfl | (rw [HC1'.out]) | (simp [HC1'.out]),HB,B4,B6,B8,HP,HCG⟩
       ·have hcz: ¬ (c:Int) < (R.length:Int):=by omega
        have hce:c=R.length:=by omega
        have HP2:Aside0 (UP w wr lo hi (.slice (some ⟨g,0,none⟩) R.length cs) (.slice (some ⟨gs,0,none⟩) R.length ct) (dvR den R (i+1) 0) (dvI den S (i+1))):=⟨by rw [← dvR_next den R i c (by rw [HROW.out i HIN.out];exact hce)];exact HP.out⟩
        clear HP;go_wp2
        go_roundg (R.length - (i+1))
        case measure=>have:=HG.out;have:=HIN.out;omega
        case rel=>exact⟨i+1,by have:=HIN.out;omega,by omega,by first | rfl | (rw [HI1.out]) | (simp [HI1.out]),HB,B4,B6,B8,HP2⟩
     ·have hiz: ¬ (i:Int) < (R.length:Int):=by omega
      obtain rfl:i=R.length:=by omega
      rw [dvR_all den R R.length rfl,dvI_all den S R.length HS.out.symm] at HP;have hs0:=cz_ B8 0;have hs1:=cz_ B8 1
      go_wp2_with fail
      have hm1:(R.map (dvL den)).length=R.length:=by simp
      have hm2:(dvL den S).length=R.length:=by simp [dvL,HS.out]
      have hlim:=limited_calls (some ⟨g,0,none⟩) cs (R.map (dvL den)) (some ⟨gs,0,none⟩) ct (dvL den S) u wr HP.out.C0 HP.out.cap0 HP.out.C1 HP.out.cap1 H3.out;rw [hm1,hm2] at hlim;refine hlim.mono ?_
      rintro e w50 ⟨rfl,hb⟩;clear hlim hs0 hs1;replace HB:=q_ (below_step HB.out hb);replace B4:=q_ (blk_below B4.out hb);replace HP:=q_ (HP.out.mvB (Frm.below hb));clear hb B6 B8;obtain⟨hf0,hf1,hff0,hff1⟩:=c2_ B4;cases u with
      | true=>
       have h:=H.out;rw [if_pos rfl] at h;cases h
       rw [if_pos rfl]
       go_wp2_with (first | ((with_reducible refine gate_store (t:=27) (p:=4) rfl ?_);refine store_event (t:=27) (p:=4) (v:=?vo6) (w1:=((w50.setCell ⟨g4,0,none⟩ (.slice (some ⟨g,0,none⟩) R.length cs)).setCell ⟨g4,1,none⟩ (.slice (some ⟨gs,0,none⟩) R.length ct))) ?hg ?ho ?hn ?hr ?_;(case ho=>rfl);(case hg=>rfl);(case hn=>rfl);(case hr=>first | (go_simp;done) | (go_simp;rfl));intro w51 hw;have hF:Frm w50 w51 g4 (g4+1):=(by rw [hw];exact(Frm.set _ _ _ _).trans ((Frm.set _ _ _ _)));have nb:=q_ (show w51.heap[g4]?=some (.cells #[.slice (some ⟨g,0,none⟩) R.length cs, .slice (some ⟨gs,0,none⟩) R.length ct] 27 (0,0)) from (by rw [hw];exact(blk_put (blk_put B4.out 0 _ rfl) 1 _ rfl)));have nB:=q_ (show Below w.heap.size w w51 from (by rw [hw];exact below_set (below_set (HB.out) G4.out) G4.out));replace HP:=q_ (HP.out.mv hF (.inr (by have:=G4L.out;omega)));clear hw HB B4 hF;have HB:=nB;have B4:=nb;clear nB nb))
       refine bodyPost_ret (results_list (rs:= [.cell 4 27, .tmp 5]) rfl (by simp) (.cell g4 27 #[.slice (some ⟨g,0,none⟩) R.length cs, .slice (some ⟨gs,0,none⟩) R.length ct] (0,0) _ rfl B4.out Try.underlying27 rfl (by kernel_rfl) (.tmp .nil))) rfl ?_
       exact⟨_,_,rfl,Kd.S_mono HP.out.m (fun k hk=>hk.2),Kd.R_mono HP.out.q (fun _ _=>trivial),HB.out⟩
      | false=>
       have h:=H.out;rw [if_neg (by simp)] at h;cases h
       rw [if_neg (by simp)]
       go_wp2_with (first | ((with_reducible refine gate_store (t:=27) (p:=4) rfl ?_);refine se_ 27 4 (((w50.setCell ⟨g4,0,none⟩ (.slice none 0 0)).setCell ⟨g4,1,none⟩ (.slice none 0 0))) ?_;intro w51 hw;have hF:Frm w50 w51 g4 (g4+1):=(by rw [hw];exact(Frm.set _ _ _ _).trans ((Frm.set _ _ _ _)));have nb:=q_ (show w51.heap[g4]?=some (.cells #[.slice none 0 0, .slice none 0 0] 27 (0,0)) from (by rw [hw];exact(blk_put (blk_put B4.out 0 _ rfl) 1 _ rfl)));have nB:=q_ (show Below w.heap.size w w51 from (by rw [hw];exact below_set (below_set (HB.out) G4.out) G4.out));replace HP:=q_ (HP.out.mv hF (.inr (by have:=G4L.out;omega)));clear hw HB B4 hF;have HB:=nB;have B4:=nb;clear nB nb))
       refine bodyPost_ret (results_list (rs:= [.cell 4 27, .tmp 5]) rfl (by simp) (.cell g4 27 #[.slice none 0 0, .slice none 0 0] (0,0) _ rfl B4.out Try.underlying27 rfl (by kernel_rfl) (.tmp .nil))) rfl ?_
       exact⟨_,_,rfl,Kd.S_nil _ _ _ _ _,Kd.R_nil _ _ _ _ _,HB.out⟩
   ·rw [if_neg cq] at h;cases h
 ·have h:=H.out;rw [if_neg c0] at h;cases h
  have hc0:(r3==0)=false:=by simpa using c0
  have hc1:(r3 !=0)=true:=by simpa using c0
  go_wp2_with (first | ((with_reducible refine gate_dst (N:=6) rfl ?_);refine be_ 6 #[.int .i64 0, .slice none 0 0, .slice none 0 0] 49 ?_;intro g6 hg w9 hbox hb;have G6:Aside0 (w.heap.size≤g6):=⟨by have:=HB.out.size;omega⟩;have G6H:Aside0 (hi≤g6):=⟨by have:=HHI2.out;omega⟩;replace HB:=q_ (below_step HB.out hb);replace BK:=q_ (blk_below BK.out hb);replace B4:=q_ (blk_below B4.out hb);replace HP:=q_ (HP.out.mvB (Frm.below hb));have B6:=q_ hbox;clear hb hbox hg;obtain⟨hs0,hs1,hs2,hsf0,hsf1,hsf2⟩:=c3_ B6) | ((with_reducible refine gate_store (t:=49) (p:=6) rfl ?_);refine store_event (t:=49) (p:=6) (v:=?vo8) (w1:=(((w9.setCell ⟨g6,0,none⟩ (.int .i64 den)).setCell ⟨g6,1,none⟩ (.slice As R.length cs)).setCell ⟨g6,2,none⟩ (.slice At S.length ct))) ?hg ?ho ?hn ?hr ?_;(case ho=>rfl);(case hg=>rfl);(case hn=>rfl);(case hr=>first | (go_simp;done) | (go_simp;rfl));intro w10 hw;have hF:Frm w9 w10 g6 (g6+1):=(by rw [hw];exact(Frm.set _ _ _ _).trans ((Frm.set _ _ _ _).trans ((Frm.set _ _ _ _))));have nb:=q_ (show w10.heap[g6]?=some (.cells #[.int .i64 den, .slice As R.length cs, .slice At S.length ct] 49 (0,0)) from (by rw [hw];exact(blk_put (blk_put (blk_put B6.out 0 _ rfl) 1 _ rfl) 2 _ rfl)));have nB:=q_ (show Below w.heap.size w w10 from (by rw [hw];exact below_set (below_set (below_set (HB.out) G6.out) G6.out) G6.out));replace BK:=q_ ((hF.same _ (blk_lt BK.out) (.inl (by have:=G6H.out;have:=HLH.out;have:=G4L.out;have:=GN.out;omega))).trans BK.out);replace B4:=q_ ((hF.same _ (blk_lt B4.out) (.inl (by have:=G6H.out;have:=HLH.out;have:=G4L.out;have:=GN.out;omega))).trans B4.out);replace HP:=q_ (HP.out.mv hF (.inl G6H.out));clear hw HB B6 hF;have HB:=nB;have B6:=nb;clear nB nb hs0 hs1 hs2 hsf0 hsf1 hsf2;obtain⟨hf0,hf1,hff0,hff1⟩:=c2_ B4) | ((with_reducible refine gate_store (t:=27) (p:=4) rfl ?_);refine se_ 27 4 (((w10.setCell ⟨g4,0,none⟩ (.slice none 0 0)).setCell ⟨g4,1,none⟩ (.slice none 0 0))) ?_;intro w12 hw;have hF:Frm w10 w12 g4 (g4+1):=(by rw [hw];exact(Frm.set _ _ _ _).trans ((Frm.set _ _ _ _)));have nb:=q_ (show w12.heap[g4]?=some (.cells #[.slice none 0 0, .slice none 0 0] 27 (0,0)) from (by rw [hw];exact(blk_put (blk_put B4.out 0 _ rfl) 1 _ rfl)));have nB:=q_ (show Below w.heap.size w w12 from (by rw [hw];exact below_set (below_set (HB.out) G4.out) G4.out));replace BK:=q_ ((hF.same _ (blk_lt BK.out) (.inl (by have:=GN.out;omega))).trans BK.out);replace HP:=q_ (HP.out.mv hF (.inr (by have:=G4L.out;omega)));replace B6:=q_ ((hF.same _ (blk_lt B6.out) (.inr (by have:=HLH.out;have:=G6H.out;have:=G4L.out;omega))).trans B6.out);clear hw HB B4 hF;have HB:=nB;have B4:=nb;clear nB nb))
  refine bodyPost_ret (results_list (rs:= [.cell 4 27, .tmp 5]) rfl (by simp) (.cell g4 27 #[.slice none 0 0, .slice none 0 0] (0,0) _ rfl B4.out Try.underlying27 rfl (by kernel_rfl) (.tmp .nil))) rfl ?_
  exact⟨_,_,rfl,Kd.S_nil _ _ _ _ _,Kd.R_nil _ _ _ _ _,HB.out⟩
end Go.Proofs.Ytbjljcpngbhkeaa.Pr
end
section
namespace Go.Proofs.Ytbjljcpngbhkeaa.Bz
open Go.RowKit Wz.PrintWords Wz.PrintMore Ma Dt Bd
theorem det_scal (L:Int): ∀n,det n (fun a b=>if a=b then L else 0)=L ^ n:=by
 intro n
 induction n with
 | zero=>simp [det]
 | succ n ih=>
  rw [det_succ,sm_one (k:=0) (by omega) (fun i _ h=>by rw [if_neg (by omega)];simp)]
  rw [det_congr (A:=mnr 0 (fun a b=>if a=b then L else 0)) (B:=fun a b=>if a=b then L else 0) (fun i j _ _=>by simp [mnr,up]),ih]
  rw [if_pos rfl,Int.pow_succ,show sg 0=1 from rfl]
  grind
theorem det_zero_col {n c:Nat} (hc:c < n) {A:Mat} (h: ∀i,i < n→A i c=0):det n A=0:=by
 have:=det_col_lin (A:=A) (B:=A) (C:=A) (s:=0) (t:=0) hc (fun i hi=>by rw [h i hi];simp) (fun i j _ _ _=>⟨rfl,rfl⟩)
 simpa using this
theorem det_1 (A:Mat):det 1 A=A 0 0:=by simp [det,sm,sg]
theorem det_2 (A:Mat):det 2 A=A 0 0*A 1 1 - A 0 1*A 1 0:=by
 simp [det,sm,sg,mnr,up]
 omega
def rs (i:Nat) (A:Mat) (r c:Nat):Int:=det i A*A r c - sm i (fun t=>det i (rset t (A r) A)*A t c)
theorem rs_zero (i:Nat) (A:Mat) (r:Nat) {j:Nat} (hj:j < i):rs i A r j=0:=by
 unfold rs
 rw [adj_row A (A r) hj];omega
theorem block_elim (i d:Nat) (A:Mat):det i A ^ d*det (i+d) A=det i A*det d (fun a b=>rs i A (i+a) (i+b)):=by
 let E:Mat:=fun a b=>if a < i then one a b else if b < i then - det i (rset b (A a) A) else if a=b then det i A else 0
 have hE:det (i+d) E=det i A ^ d:=by
  rw [det_block d i E (fun a b ha hb _=>by simp only [E,if_pos ha,one];rw [if_neg (by omega)])]
  rw [det_congr (A:=E) (B:=one) (fun a b ha _=>by simp only [E,if_pos ha]),det_one,Int.one_mul, ← det_scal]
  exact det_congr (fun a b _ _=>by simp only [sh,E];rw [if_neg (by omega),if_neg (by omega)];simp)
 have hlow (a b:Nat) (ha:i≤a) (ha2:a < i+d):mul (i+d) E A a b=rs i A a b:=by
  unfold mul
  rw [sm_split,sm_congr (f:=fun k=>E a k*A k b) (g:=fun k=>(-1)*(det i (rset k (A a) A)*A k b)) (fun k hk=>by simp only [E];rw [if_neg (by omega),if_pos hk];grind),sm_mul]
  rw [sm_one (n:=d) (k:=a - i) (by omega) (fun k hk hne=>by simp only [E];rw [if_neg (by omega),if_neg (by omega),if_neg (by omega)];simp)]
  simp only [E]
  rw [if_neg (by omega),if_neg (by omega),if_pos (by omega),show i+(a - i)=a from by omega]
  unfold rs
  omega
 have hup (a b:Nat) (ha:a < i):mul (i+d) E A a b=A a b:=by
  unfold mul
  rw [sm_one (k:=a) (by omega) (fun k hk hne=>by simp only [E,if_pos ha,one];rw [if_neg (by omega)];simp)]
  simp [E,ha,one]
 rw [← hE, ← det_mul,det_block' d i (mul (i+d) E A) (fun a b h1 h2 h3=>by rw [hlow a b h1 h2,rs_zero i A a h3])]
 rw [det_congr (A:=mul (i+d) E A) (B:=A) (fun a b ha _=>hup a b ha)]
 congr 1
 exact det_congr (fun a b ha _=>by simp only [sh];exact hlow _ _ (by omega) (by omega))
def bord (i r c:Nat) (A:Mat):Mat:=fun a b=>A (if a < i then a else r) (if b < i then b else c)
def bm (i r c:Nat) (A:Mat):Int:=det (i+1) (bord i r c A)
theorem rs_re (i:Nat) (A B:Mat) (r c r' c':Nat) (h1: ∀a b,a < i→b < i→B a b=A a b) (h2: ∀b,b < i→B r' b=A r b) (h3: ∀a,a < i→B a c'=A a c) (h4:B r' c'=A r c):rs i B r' c'=rs i A r c:=by
 unfold rs
 rw [det_congr (A:=B) (B:=A) h1,h4]
 congr 1
 refine sm_congr (fun t ht=>?_)
 rw [h3 t ht,det_congr (A:=rset t (B r') B) (B:=rset t (A r) A) (fun a b ha hb=>by
  unfold rset
  split
  ·exact h2 b hb
  ·exact h1 a b ha hb)]
theorem bm_rs {i:Nat} {A:Mat} (hL:det i A≠0) (r c:Nat):bm i r c A=rs i A r c:=by
 have h:=block_elim i 1 (bord i r c A)
 rw [det_1,det_congr (A:=bord i r c A) (B:=A) (n:=i) (fun a b ha hb=>by simp [bord,ha,hb]),Int.pow_succ,Int.pow_zero,Int.one_mul] at h
 rw [rs_re i A (bord i r c A) r c (i+0) (i+0) (fun a b ha hb=>by simp [bord,ha,hb]) (fun b hb=>by simp [bord,hb]) (fun a ha=>by simp [bord,ha]) (by simp [bord])] at h
 exact Int.eq_of_mul_eq_mul_left hL h
theorem sylv {i:Nat} {A:Mat} (hL:det i A≠0) (r c:Nat):det i A*bm (i+1) r c A=bm i i i A*bm i r c A - bm i i c A*bm i r i A:=by
 have h:=block_elim i 2 (bord (i+1) r c A)
 rw [det_2,det_congr (A:=bord (i+1) r c A) (B:=A) (n:=i) (fun a b ha hb=>by unfold bord;rw [if_pos (by omega),if_pos (by omega)])] at h
 have q (a b r' c':Nat) (ha:(if a < i+1 then a else r)=r') (hb:(if b < i+1 then b else c)=c'):rs i (bord (i+1) r c A) a b=rs i A r' c':=
  rs_re i A (bord (i+1) r c A) r' c' a b (fun x y hx hy=>by unfold bord;rw [if_pos (by omega),if_pos (by omega)]) (fun y hy=>by unfold bord;rw [ha,if_pos (by omega)]) (fun x hx=>by unfold bord;rw [hb,if_pos (by omega)]) (by unfold bord;rw [ha,hb])
 rw [q (i+0) (i+0) i i (by simp) (by simp),q (i+1) (i+1) r c (by simp) (by simp),q (i+0) (i+1) i c (by simp) (by simp),q (i+1) (i+0) r i (by simp) (by simp)] at h
 rw [← bm_rs hL, ← bm_rs hL, ← bm_rs hL, ← bm_rs hL] at h
 have e:det i A ^ 2*det (i+2) (bord (i+1) r c A)=det i A*(det i A*bm (i+1) r c A):=by unfold bm;grind
 rw [e] at h
 exact Int.eq_of_mul_eq_mul_left hL h
def fact:Nat→Nat
 | 0=>1
 | n+1=>(n+1)*fact n
def b20 (n:Nat):Nat:=fact n*20 ^ n
theorem sm_abs {n B:Nat} {f:Nat→Int} (h: ∀i,i < n→(f i).natAbs≤B):(sm n f).natAbs≤n*B:=by
 induction n with
 | zero=>simp [sm]
 | succ n ih=>
  have h1:=ih (fun i hi=>h i (by omega))
  have h2:=h n (by omega)
  have h3:=Int.natAbs_add_le (sm n f) (f n)
  simp only [sm]
  rw [Nat.add_mul,Nat.one_mul]
  omega
theorem sg_abs (k:Nat):(sg k).natAbs=1:=by unfold sg;split <;> rfl
theorem det_abs20: ∀(n:Nat) (A:Mat),(∀i j,i < n→j < n→(A i j).natAbs≤20)→(det n A).natAbs≤b20 n:=by
 intro n
 induction n with
 | zero=>intro A _;show (1:Int).natAbs≤1;decide
 | succ n ih=>
  intro A h
  rw [det_succ]
  refine Nat.le_trans (sm_abs (B:=20*b20 n) (fun k hk=>?_)) ?_
  ·rw [Int.natAbs_mul,Int.natAbs_mul,sg_abs,Nat.one_mul]
   exact Nat.mul_le_mul (h 0 k (by omega) hk) (ih (mnr k A) (fun i j hi hj=>h _ _ (by omega) (up_lt hj)))
  ·unfold b20;rw [fact,Nat.pow_succ]
   exact Nat.le_of_eq (by grind)
def Bk (n k:Nat) (A:Mat):Prop:= ∀i j,i < n→j < n→(A i j).natAbs≤if j=k then 100 else 20
theorem det_absk: ∀(n k:Nat) (A:Mat),Bk n k A→(det n A).natAbs≤5*b20 n:=by
 intro n
 induction n with
 | zero=>intro k A _;show (1:Int).natAbs≤5*1;decide
 | succ n ih=>
  intro k A h
  rw [det_succ]
  refine Nat.le_trans (sm_abs (B:=100*b20 n) (fun c hc=>?_)) ?_
  ·rw [Int.natAbs_mul,Int.natAbs_mul,sg_abs,Nat.one_mul]
   have h0:=h 0 c (by omega) hc
   by_cases e:c=k
   ·subst e
    rw [if_pos rfl] at h0
    exact Nat.mul_le_mul h0 (det_abs20 n (mnr c A) (fun i j hi hj=>by have:=h (i+1) (up c j) (by omega) (up_lt hj);rwa [if_neg (up_ne c j)] at this))
   ·rw [if_neg e] at h0
    have:=ih (dn c k) (mnr c A) (fun i j hi hj=>by
     have:=h (i+1) (up c j) (by omega) (up_lt hj)
     unfold mnr
     by_cases q:up c j=k
     ·rw [if_pos q] at this
      rw [if_pos (by rw [← q,dn_up])];exact this
     ·rw [if_neg q] at this
      split <;> omega)
    calc (A 0 c).natAbs*(det n (mnr c A)).natAbs≤20*(5*b20 n):=Nat.mul_le_mul h0 this
     _=100*b20 n:=by omega
  ·unfold b20;rw [fact,Nat.pow_succ]
   exact Nat.le_of_eq (by grind)
theorem b20_le: ∀n,n≤5→5*b20 n≤1920000000:=by
 intro n h
 match n,h with
 | 0,_=>decide
 | 1,_=>decide
 | 2,_=>decide
 | 3,_=>decide
 | 4,_=>decide
 | 5,_=>decide
 | n+6,h=>omega
theorem bm_abs {n k:Nat} (hn:n≤5) {A:Mat} (h:Bk n k A) {i r c:Nat} (hi:i < n) (hr:r < n) (hic:i≤c) (hc:c < n): -1920000000≤bm i r c A∧bm i r c A≤1920000000:=by
 have h1:(bm i r c A).natAbs≤5*b20 (i+1):=det_absk (i+1) (if k < i then k else i) _ (fun a b ha hb=>by
  unfold bord
  have:=h (if a < i then a else r) (if b < i then b else c) (by split <;> omega) (by split <;> omega)
  refine Nat.le_trans this ?_
  grind)
 have h2:=b20_le (i+1) (by omega)
 omega
theorem prod_b {x y:Int} (hx: -1920000000≤x∧x≤1920000000) (hy: -1920000000≤y∧y≤1920000000): -3686400000000000000≤x*y∧x*y≤3686400000000000000:=by
 have h:(x*y).natAbs≤1920000000*1920000000:=by rw [Int.natAbs_mul];exact Nat.mul_le_mul (by omega) (by omega)
 omega
structure Inv (n k i:Nat) (M:Mat) (last turn:Int) (A A0:Mat):Prop where
 le:i≤n
 small:Bk n k A
 num: ∀r c,i≤r→r < n→i≤c→c < n→M r c=bm i r c A
 last_:last=det i A
 nz:last≠0
 turn_:turn=1∨turn= -1
 det_:turn*det n A=det n A0
section
variable {n k:Nat} (hn:n≤5) {A0:Mat}
include hn
theorem Inv.step {i:Nat} {M A:Mat} {last turn:Int} (h:Inv n k i M last turn A A0) (hi:i < n) (hp:M i i≠0):Inv n k (i+1) (el M i last) (M i i) turn A A0:=by
 have hL:det i A≠0:=by rw [← h.last_];exact h.nz
 have hpi:=h.num i i (Nat.le_refl _) hi (Nat.le_refl _) hi
 refine⟨by omega,h.small,fun r c hr hrn hc hcn=>?_,?_,hp,h.turn_,h.det_⟩
 ·unfold el ev
  rw [if_pos (by omega),h.num r c (by omega) hrn (by omega) hcn,hpi,h.num r i (by omega) hrn (Nat.le_refl _) hi,h.num i c (Nat.le_refl _) hi (by omega) hcn]
  have p1:=prod_b (bm_abs hn h.small hi hrn (by omega) hcn) (bm_abs hn h.small hi hi (Nat.le_refl _) hi)
  have p2:=prod_b (bm_abs hn h.small hi hrn (Nat.le_refl _) hi) (bm_abs hn h.small hi hi (by omega) hcn)
  have s:=sylv hL r c
  have e:bm i r c A*bm i i i A - bm i r i A*bm i i c A=det i A*bm (i+1) r c A:=by rw [s];grind
  have b:=bm_abs hn h.small (i:=i+1) (r:=r) (c:=c) (by omega) hrn hc hcn
  rw [w64 (x:=bm i r c A*bm i i i A) (by omega) (by omega),w64 (x:=bm i r i A*bm i i c A) (by omega) (by omega),w64 (x:=bm i r c A*bm i i i A - bm i r i A*bm i i c A) (by omega) (by omega),e,h.last_,Int.mul_tdiv_cancel_left _ hL]
  exact w64 (by omega) (by omega)
 ·rw [hpi];unfold bm
  exact det_congr (fun a b ha hb=>by
   unfold bord
   have e1:(if a < i then a else i)=a:=by split <;> omega
   have e2:(if b < i then b else i)=b:=by split <;> omega
   rw [e1,e2])
theorem Inv.none_ {i:Nat} {M A:Mat} {last turn:Int} (h:Inv n k i M last turn A A0) (hi:i < n) (hz: ∀r,i≤r→r < n→M r i=0):det n A0=0:=by
 have _h:=hn
 have hL:det i A≠0:=by rw [← h.last_];exact h.nz
 have b:=block_elim i (n - i) A
 rw [show i+(n - i)=n from by omega,det_zero_col (c:=0) (A:=fun a b=>rs i A (i+a) (i+b)) (by omega) (fun a ha=>by
  rw [← bm_rs hL,Nat.add_zero, ← h.num (i+a) i (by omega) (by omega) (Nat.le_refl _) hi];exact hz _ (by omega) (by omega)),Int.mul_zero] at b
 have:det n A=0:=by
  rcases Int.mul_eq_zero.1 b with b | b
  ·exact absurd b (Int.pow_ne_zero hL)
  ·exact b
 rw [← h.det_,this,Int.mul_zero]
theorem Inv.swap {i s:Nat} {M A:Mat} {last turn:Int} (h:Inv n k i M last turn A A0) (his:i < s) (hs:s < n):Inv n k i (swp M i s) last (wrap64 (-turn)) (swp A i s) A0:=by
 have _h:=hn
 have hsr (r:Nat) (hr:r < n):(if r=i then s else if r=s then i else r) < n:=by grind
 have hlow (a:Nat) (ha:a < i):(if a=i then s else if a=s then i else a)=a:=by rw [if_neg (by omega),if_neg (by omega)]
 have w:wrap64 (-turn)= -turn:=w64 (by have:=h.turn_;omega) (by have:=h.turn_;omega)
 refine⟨h.le,fun a b ha hb=>h.small _ _ (hsr a ha) hb,fun r c hr hrn hc hcn=>?_,?_,h.nz,by rw [w];have:=h.turn_;omega,?_⟩
 ·unfold swp
  rw [h.num _ c (by grind) (hsr r hrn) hc hcn]
  unfold bm
  refine det_congr (fun a b _ _=>?_)
  unfold bord
  by_cases ha:a < i
  ·simp only [if_pos ha];rw [hlow a ha]
  ·simp only [if_neg ha]
 ·rw [h.last_]
  exact det_congr (fun a b ha _=>by unfold swp;rw [hlow a ha])
 ·have e:=(det_form n).swap (r:=i) (q:=s) (A:=A) (B:=swp A i s) (by omega) hs (by omega) (fun j _=>⟨by unfold swp;rw [if_pos rfl],by unfold swp;rw [if_neg (by omega),if_pos rfl]⟩) (fun a b _ _ h1 h2=>by unfold swp;rw [if_neg h1,if_neg h2])
  rw [e,w, ← h.det_]
  grind
theorem dgo_inv: ∀(q i:Nat),i+q=n→ ∀(M A:Mat) (last turn:Int),Inv n k i M last turn A A0→dgo n q i M last turn=det n A0:=by
 intro q
 induction q with
 | zero=>
  intro i hi M A last turn h
  obtain rfl:i=n:=by omega
  show wrap64 (turn*last)=_
  rw [h.last_,h.det_]
  have b:=det_absk i k A h.small
  have b2:=b20_le i hn
  have t:=h.turn_
  have e:=h.det_
  have:(det i A0).natAbs=(det i A).natAbs:=by
   rw [← e,Int.natAbs_mul]
   rcases t with t | t <;> rw [t] <;> simp
  exact w64 (by omega) (by omega)
 | succ q ih=>
  intro i hi M A last turn h
  unfold dgo
  cases hf:fnd M i (n - i) 0 with
  | none=>
   have hz:=fnd_none hf
   exact(h.none_ hn (by omega) (fun r h1 h2=>by have:=hz (r - i) (Nat.zero_le _) (by omega);rwa [show i+(r - i)=r from by omega] at this)).symm
  | some kk=>
   obtain⟨_,h2,h3,_⟩:=fnd_some hf
   cases kk with
   | zero=>exact ih (i+1) (by omega) _ A _ _ (h.step hn (by omega) h3)
   | succ kk=>
    have hs:=h.swap hn (s:=i+(kk+1)) (by omega) (by omega)
    exact ih (i+1) (by omega) _ _ _ _ (hs.step hn (by omega) (by unfold swp;rw [if_pos rfl];exact h3))
end
theorem dgo_det {n k:Nat} (hn:n≤5) (A:Mat) (h:Bk n k A):dgo n n 0 A 1 1=det n A:=by
 refine dgo_inv hn (k:=k) n 0 (by omega) A A 1 1 ⟨Nat.zero_le _,h,fun r c _ _ _ _=>?_,rfl,by decide, .inl rfl,Int.one_mul _⟩
 unfold bm
 rw [det_1];simp [bord]
end Go.Proofs.Ytbjljcpngbhkeaa.Bz
end
section
namespace Go.Proofs.Ytbjljcpngbhkeaa.Un
open Go.RowKit Wz.PrintWords Wz.PrintMore Ma Dt Bz
theorem det_unit_row {n k:Nat} (hk:k < n+1) (A:Mat) (h: ∀j,j < n+1→A k j=if j=k then 1 else 0):det (n+1) A=det n (fun i j=>A (up k i) (up k j)):=by
 have e1:det (n+1) A=det (n+1) (mv k k (A k) A):=det_congr (fun i j _ _=>by
  unfold mv up
  by_cases c:i < k
  ·simp [c]
  ·by_cases c2:i=k
   ·subst c2;simp
   ·rw [if_neg c,if_neg c2,if_neg (by omega),show i - 1+1=i from by omega])
 rw [e1,mv_sg k (A k) A k hk,det_succ,sm_one hk (fun j hj hne=>by
  have:mv 0 k (A k) A 0 j=A k j:=by simp [mv]
  rw [this,h j hj,if_neg hne];simp)]
 have e2:mv 0 k (A k) A 0 k=1:=by
  have:mv 0 k (A k) A 0 k=A k k:=by simp [mv]
  rw [this,h k hk,if_pos rfl]
 rw [e2,det_congr (A:=mnr k (mv 0 k (A k) A)) (B:=fun i j=>A (up k i) (up k j)) (fun i j _ _=>by simp [mnr,mv])]
 have:=sg_sq k
 grind
theorem det_unit_col {n k:Nat} (hk:k < n+1) (A:Mat) (h: ∀i,i < n+1→A i k=if i=k then 1 else 0):det (n+1) A=det n (fun i j=>A (up k i) (up k j)):=by
 rw [← det_tr (n+1) A,det_unit_row hk (tr A) h, ← det_tr n]
 rfl
def subm (L:List Nat) (A:Mat):Mat:=fun i j=>A (L.getD i 0) (L.getD j 0)
theorem getD_up (pre suf:List Nat) (k i:Nat):(pre++k::suf).getD (up pre.length i) 0=(pre++suf).getD i 0:=by
 unfold up
 rw [List.getD_eq_getElem?_getD,List.getD_eq_getElem?_getD]
 by_cases c:i < pre.length
 ·rw [if_pos c,List.getElem?_append_left c,List.getElem?_append_left c]
 ·rw [if_neg c,List.getElem?_append_right (by omega),List.getElem?_append_right (by omega),show i+1 - pre.length=(i - pre.length)+1 from by omega,List.getElem?_cons_succ]
theorem getD_at (pre suf:List Nat) (k:Nat):(pre++k::suf).getD pre.length 0=k:=by simp
theorem det_sel (P:Nat→Bool) (C:Mat) (hC: ∀i k,P k=false→C i k=if i=k then 1 else 0): ∀(suf pre:List Nat),(pre++suf).Nodup→det (pre++suf).length (subm (pre++suf) C)=det (pre++suf.filter P).length (subm (pre++suf.filter P) C):=by
 intro suf
 induction suf with
 | nil=>intro pre _;rfl
 | cons k suf ih=>
  intro pre hn
  cases hk:P k with
  | true=>
   have h:=ih (pre++ [k]) (by rw [List.append_assoc];exact hn)
   rw [List.filter_cons_of_pos hk]
   simpa [List.append_assoc] using h
  | false=>
   rw [List.filter_cons_of_neg (by simp [hk])]
   have hn2:(pre++suf).Nodup:=hn.sublist (List.Sublist.append (List.Sublist.refl _) (List.sublist_cons_self _ _))
   rw [← ih pre hn2]
   have hlen:(pre++k::suf).length=(pre++suf).length+1:=by simp;omega
   rw [hlen,det_unit_col (k:=pre.length) (by simp;omega) (subm (pre++k::suf) C) (fun i hi=>?_)]
   ·exact det_congr (fun i j _ _=>by simp only [subm,getD_up])
   ·simp only [subm]
    rw [getD_at,hC _ k hk]
    have hi':i < (pre++k::suf).length:=by omega
    have hp:pre.length < (pre++k::suf).length:=by simp
    have e:(pre++k::suf).getD i 0=(pre++k::suf)[i]:=by rw [List.getD_eq_getElem?_getD,List.getElem?_eq_getElem hi'];rfl
    rw [e]
    by_cases c:i=pre.length
    ·subst c;simp
    ·rw [if_neg c,if_neg]
     intro q
     have q2:(pre++k::suf)[i]=(pre++k::suf)[pre.length]:=by rw [q];simp
     exact c ((List.getElem_inj hn).1 q2)
def sel (n:Nat) (P:Nat→Bool):List Nat:=(List.range n).filter P
theorem det_units (n:Nat) (P:Nat→Bool) (C:Mat) (hC: ∀i k,P k=false→C i k=if i=k then 1 else 0):det n C=det (sel n P).length (subm (sel n P) C):=by
 have h:=det_sel P C hC (List.range n) [] (by simp;exact List.nodup_range)
 simp only [List.nil_append,List.length_range] at h
 rw [← show det n (subm (List.range n) C)=det n C from det_congr (fun i j hi hj=>by simp [subm,hi,hj]),h]
 rfl
theorem det_neg (n:Nat) (A:Mat):det n (fun i j=> - A i j)=(-1) ^ n*det n A:=by
 rw [← det_scal, ← det_mul]
 refine det_congr (fun i j hi _=>?_)
 unfold mul
 rw [sm_one hi (fun k _ h=>by simp [Ne.symm h])]
 simp
def colM (P:Nat→Bool) (M:Mat):Mat:=fun i k=>if P k=true then - M i k else if i=k then 1 else 0
theorem det_colM (n:Nat) (P:Nat→Bool) (M:Mat):det n (colM P M)=(-1) ^ (sel n P).length*det (sel n P).length (subm (sel n P) M):=by
 rw [det_units n P (colM P M) (fun i k h=>by unfold colM;rw [if_neg (by simp [h])]), ← det_neg]
 refine det_congr (fun i j hi hj=>?_)
 have hP:P ((sel n P).getD j 0)=true:=by
  rw [List.getD_eq_getElem?_getD,List.getElem?_eq_getElem hj]
  exact(List.mem_filter.1 (List.getElem_mem hj)).2
 simp only [subm,colM]
 rw [if_pos hP]
theorem det_colM_zero (n:Nat) (P:Nat→Bool) (M:Mat):det n (colM P M)=0↔det (sel n P).length (subm (sel n P) M)=0:=by
 rw [det_colM]
 constructor
 ·intro h
  rcases Int.mul_eq_zero.1 h with h | h
  ·exact absurd h (Int.pow_ne_zero (by decide))
  ·exact h
 ·intro h;rw [h,Int.mul_zero]
end Go.Proofs.Ytbjljcpngbhkeaa.Un
end
section
namespace Go.Proofs.Ytbjljcpngbhkeaa.Pr
open Go.RowKit Wz.PrintWords Wz.PrintLast Wz.PrintMore
attribute [local go_sem] max2_int min2_int max_two min_two max_three min_three max_four min_four
mutual
def spec_l01Columns.l0:Nat→List (List Int)→Int→List (List Int)→Int→Option ((List (List Int)))
 | 0,_,_,_,_=>none
 | k+1,x0,x1,x5,x6=>if x6 < (x0.length:Int) then(spec_l01Columns.l1 k x0 x1 x5 x6 (([]:List Int)) 0) else(some x5)
def spec_l01Columns.l1:Nat→List (List Int)→Int→List (List Int)→Int→List Int→Int→Option ((List (List Int)))
 | 0,_,_,_,_,_,_=>none
 | k+1,x0,x1,x5,x6,x7,x8=>if x8 < (x0.length:Int) then(if 0≤(IntKind.u64.wrap (x8)) then(if(Go.bits .and .i64 (shr .i64 x1 (IntKind.u64.wrap (x8))) 1)=1 then(if 0≤x6 then(if x6 < (x0.length:Int) then(if 0≤x8 then(if x8 < ((rd_L2 x0 x6).length:Int) then(if x7.length < 17592186044416 then(spec_l01Columns.l1 k x0 x1 x5 x6 (x7++ [wrap64 (-(rd (rd_L2 x0 x6) x8))]) (wrap64 (x8+1))) else(none)) else(none)) else(none)) else(none)) else(none)) else(if x6=x8 then(if x7.length < 17592186044416 then(spec_l01Columns.l1 k x0 x1 x5 x6 (x7++ [1]) (wrap64 (x8+1))) else(none)) else(if x7.length < 17592186044416 then(spec_l01Columns.l1 k x0 x1 x5 x6 (x7++ [0]) (wrap64 (x8+1))) else(none)))) else(none)) else(if x5.length < 5864062014805 then(spec_l01Columns.l0 k x0 x1 (x5++ [x7]) (wrap64 (x6+1))) else(none))
end
def spec_l01Columns.f (k:Nat) (l0:List (List Int)) (a1:Int):Option ((List (List Int))):=spec_l01Columns.l0 k l0 a1 (([]:List (List Int))) 0
theorem spec_l01Columns.calls (k:Nat) (A0:Option Addr) (c0:Nat) (l0:List (List Int)) (a1:Int) (r:List (List Int)) (w:World) (hr0:Kd.C (Kd.slice 2 (Kd.int .i64)) w A0 l0.length l0) (hc0:l0.length≤c0) (h:spec_l01Columns.f k l0 a1=some r):
  Calls Try.prog 57 #[.slice A0 l0.length c0, .int .i64 a1] w fun e w'=> ∃v0_:Value,e= .returned (v0_)∧Kd.S (Kd.slice 2 (Kd.int .i64)) 25 w' w.heap.size (fun _=>True) v0_ r∧Below w.heap.size w w':=by
 have HR0:=q_ hr0;have HC0:=q_ hc0;clear hr0 hc0;have HB:=q_ (Below.refl w.heap.size w);have H:(spec_l01Columns.l0 k l0 a1 (([]:List (List Int))) 0)=some r:=h;clear h;obtain⟨aq,hy⟩: ∃y_:List (List Int),y_=(([]:List (List Int))):=⟨_,rfl⟩
 replace H:(spec_l01Columns.l0 k l0 a1 aq 0)=some r:=hh_;have aj:=q_ hy;clear hy;have H':=q_ H;clear H
 go_enter Try.func57,Try.ntmps57
 go_wp2_with (first | ((with_reducible refine gate_dst (N:=9) rfl ?_);refine Kd.S_lit (Kd.slice 2 (Kd.int .i64)) _ 25 ?hg (N:=9) ?hd (xs:=([]:List (List Int))) (inner:= []) (ok:=fun _=>True) (okp:=fun _=>True) ?hr ?hp (fun _ hk=>hk) trivial (Below.refl _ _) (Nat.le_refl _) (by simp) ?_;(case hd=>rfl);(case hg=>rfl);(case hr=>first | (go_simp;done) | (go_simp;rfl));(case hp=>exact(Reps.none _ _));intro bf w3 ho4 hb hg_ hnew_;clear hg_ hnew_;(first | rw [← aj.out] at ho4 | (simp only [Int.reduceToNat] at ho4;rw [← aj.out] at ho4));have aC:=q_ (Kd.S_lower ho4 bz_);replace HB:=Bs_ hb;clear hb ho4))
 go_loopg [5,6] k (fun kq v5 v6 w'=> ∃(ag:List (List Int)) (aa:Int),v6= .int .i64 aa∧Aside0 (spec_l01Columns.l0 kq l0 a1 ag aa=some r)∧Aside0 (kq≤k)∧Aside0 (Kd.S (Kd.slice 2 (Kd.int .i64)) 25 w' w.heap.size (fun _=>True) v5 ag)∧Aside0 (Below w.heap.size w w'))
 case atStart=>exact⟨(aq),(0),rs_,H',⟨Nat.le_refl _⟩,⟨so_ aC.out⟩,⟨hb_⟩⟩
 case round=>
  clear H';obtain⟨ag,aa,rfl,HA,HK1,ah,HB⟩:=hrel;cases gk with
  | zero=>exact absurd HA.out (by simp [spec_l01Columns.l0])
  | succ k1=>
   have H:=HA.out;clear HA;simp only [spec_l01Columns.l0] at H
   by_cases c5:aa < (l0.length:Int)
   ·rw [if_pos c5] at H;have c5b0:=decide_eq_true c5;clear c5;obtain⟨au,hy⟩: ∃y_:List Int,y_=(([]:List Int)):=⟨_,rfl⟩
    replace H:(spec_l01Columns.l1 k1 l0 a1 ag aa au 0)=some r:=hh_;have ak:=q_ hy;clear hy;have H':=q_ H;clear H
    go_wp2_with (first | ((with_reducible refine gate_dst (N:=16) rfl ?_);refine Kd.R_lit (Kd.int .i64) _ 2 ?hg (N:=16) ?hd (xs:=([]:List Int)) (inner:= []) (ok:=fun _=>True) (okp:=fun _=>True) ?hr ?hp (fun _ hk=>hk) trivial (Below.refl _ _) (Nat.le_refl _) (by simp) ?_;(case hd=>rfl);(case hg=>rfl);(case hr=>first | (go_simp;done) | (go_simp;rfl));(case hp=>exact(Reps.none _ _));intro bg w6 ho7 hb hg_ hnew_;clear hg_ hnew_;(first | rw [← ak.out] at ho7 | (simp only [Int.reduceToNat] at ho7;rw [← ak.out] at ho7));replace ah:=q_ (Kd.S_elder' (so_ ah.out) (Kd.R_base ho7) hb);have aD:=q_ (Kd.R_lower ho7 bz_);replace HB:=Bs_ hb;clear hb ho7))
    go_loopg [7,8] k1 (fun kq v7 v8 w'=> ∃(af:List Int) (ae:Int),v8= .int .i64 ae∧Aside0 (spec_l01Columns.l1 kq l0 a1 ag aa af ae=some r)∧Aside0 (kq≤k1)∧Aside0 (Kd.S (Kd.slice 2 (Kd.int .i64)) 25 w' w.heap.size (fun k_=>some k_≠(v7:Value).ownBlock) u5 ag)∧Aside0 (Kd.R (Kd.int .i64) 2 w' w.heap.size (fun _=>True) v7 af)∧Aside0 (Below w.heap.size w w'))
    case atStart=>exact⟨(au),(0),rs_,H',⟨Nat.le_refl _⟩,⟨kS_ ah.out (fun _ hk=>hk.2)⟩,⟨ro_ aD.out⟩,⟨hb_⟩⟩
    case round=>
     clear H';(try clear c5b0);obtain⟨af,ae,rfl,HA,HK2,ah,ai,HB⟩:=hrel;cases gk with
     | zero=>exact absurd HA.out (by simp [spec_l01Columns.l1])
     | succ k2=>
      have H:=HA.out;clear HA;simp only [spec_l01Columns.l1] at H
      by_cases c8:ae < (l0.length:Int)
      ·rw [if_pos c8] at H;have c8b0:=decide_eq_true c8;clear c8;obtain⟨ji9,hji9⟩: ∃j_:Int,(IntKind.u64.wrap (ae))=j_:=⟨_,rfl⟩
       replace H:(if 0≤(ji9) then(if(Go.bits .and .i64 (shr .i64 a1 (ji9)) 1)=1 then(if 0≤aa then(if aa < (l0.length:Int) then(if 0≤ae then(if ae < ((rd_L2 l0 aa).length:Int) then(if af.length < 17592186044416 then(spec_l01Columns.l1 k2 l0 a1 ag aa (af++ [wrap64 (-(rd (rd_L2 l0 aa) ae))]) (wrap64 (ae+1))) else(none)) else(none)) else(none)) else(none)) else(none)) else(if aa=ae then(if af.length < 17592186044416 then(spec_l01Columns.l1 k2 l0 a1 ag aa (af++ [1]) (wrap64 (ae+1))) else(none)) else(if af.length < 17592186044416 then(spec_l01Columns.l1 k2 l0 a1 ag aa (af++ [0]) (wrap64 (ae+1))) else(none)))) else(none))=some r:=by first | (rw [hji9] at H;exact H) | (simp only [hji9] at H ⊢;exact H)
       by_cases c10:0≤(ji9)
       ·rw [if_pos c10] at H;have c10b0:=eq_true c10;have c10b1:=decide_eq_true c10;clear c10;obtain⟨ji11,hji11⟩: ∃j_:Int,(shr .i64 a1 (ji9))=j_:=⟨_,rfl⟩
        replace H:(if(Go.bits .and .i64 (ji11) 1)=1 then(if 0≤aa then(if aa < (l0.length:Int) then(if 0≤ae then(if ae < ((rd_L2 l0 aa).length:Int) then(if af.length < 17592186044416 then(spec_l01Columns.l1 k2 l0 a1 ag aa (af++ [wrap64 (-(rd (rd_L2 l0 aa) ae))]) (wrap64 (ae+1))) else(none)) else(none)) else(none)) else(none)) else(none)) else(if aa=ae then(if af.length < 17592186044416 then(spec_l01Columns.l1 k2 l0 a1 ag aa (af++ [1]) (wrap64 (ae+1))) else(none)) else(if af.length < 17592186044416 then(spec_l01Columns.l1 k2 l0 a1 ag aa (af++ [0]) (wrap64 (ae+1))) else(none))))=some r:=by first | (rw [hji11] at H;exact H) | (simp only [hji11] at H ⊢;exact H)
        have hji11_:(a1 / 2 ^ min (ji9).toNat 64)=ji11:=hji11;have hji11z:(ji9)≤64→(a1 / 2 ^ (ji9).toNat)=ji11:=shr_small hji11
        by_cases c12:(Go.bits .and .i64 (ji11) 1)=1
        ·rw [if_pos c12] at H;have c12b0:=e1_ c12;have c12b1:=e2_ c12;clear c12
         by_cases c13:0≤aa
         ·rw [if_pos c13] at H;have c13b0:=decide_eq_true c13;clear c13
          by_cases c14:aa < (l0.length:Int)
          ·rw [if_pos c14] at H;have c14b0:=decide_eq_true c14;clear c14
           by_cases c15:0≤ae
           ·rw [if_pos c15] at H;have c15b0:=decide_eq_true c15;clear c15
            by_cases c16:ae < ((rd_L2 l0 aa).length:Int)
            ·rw [if_pos c16] at H;have c16b0:=decide_eq_true c16;clear c16
             by_cases c17:af.length < 17592186044416
             ·rw [if_pos c17] at H;have aG:=q_ c17;clear c17;obtain⟨av,hy⟩: ∃y_:List Int,y_=(af++ [wrap64 (-(rd (rd_L2 l0 aa) ae))]):=⟨_,rfl⟩
              replace H:(spec_l01Columns.l1 k2 l0 a1 ag aa av (wrap64 (ae+1)))=some r:=hh_;have aH:=q_ hy;clear hy;have H':=q_ H;clear H;have p360:0≤(aa:Int):=od_;have q360:aa < (l0.length:Int):=od_;obtain⟨a9,aY,aZ,e360,hx360_0,hl360_0,hi360_0⟩:=at_L2 HR0.out aa p360 q360;cases e360
              replace hx360_0:=bc_ HB.out hx360_0;have HR360_0:=q_ hi360_0;have HC360_0:=q_ hl360_0;clear hi360_0 hl360_0;replace p360:=eq_true p360;replace q360:=eq_true q360;have p361:0≤(ae:Int):=od_;have q361:ae < ((rd_L2 l0 aa).length:Int):=od_;obtain⟨ba,e361,hx361_0⟩:=Kd.at_int HR360_0.out ae p361 q361;cases e361
              replace hx361_0:=bc_ HB.out hx361_0;replace p361:=eq_true p361;replace q361:=eq_true q361
              go_wp2_with (first | ((with_reducible refine gate_builtin (b:= .append) (xs:= #[.tmp 33, .tmp 42]) rfl ?_);at_builtin;refine Kd.R_append (Kd.int .i64) (w0:=w) w.heap.size rfl (.tmp 33) (.tmp 42) 25 2 (.int .i64 0) 8 rfl Try.underlying25 info2 rfl (by decide) (by omega) u7 af (wrap64 (-(rd (rd_L2 l0 aa) ae))) [.int .i64 (wrap64 (-(rd (rd_L2 l0 aa) ae)))] (fun _=>True) (fun _=>False) rfl rfl ?aP (fun _ hk=>hk.elim) ?aF ?aO ?aB ?aS ?aL ?_;(case aP=>exact rfl);(case aB=>exact hb_);(case aF=>exact(fun _ _=>trivial));(case aO=>exact(ro_ ai.out));(case aS=>exact bz_);(case aL=>have:=aG.out;omega);intro bh w18 ho hb hg hat;rw [← aH.out] at ho;replace ah:=q_ (Kd.S_after (ok:=(fun _=>True)) (kS_ ah.out (fun _ hk=>⟨trivial,hk⟩)) hg hat);replace HB:=q_ (hb);have aI:=q_ (ho);clear ai ho hb hg hat))
              go_roundg k2
              case measure=>have:=HK1.out;have:=HK2.out;omega
              case rel=>exact⟨(av),(wrap64 (ae+1)),rs_,H',⟨by have:=HK1.out;have:=HK2.out;omega⟩,⟨kS_ ah.out (fun _ hk=>hk.2)⟩,⟨ro_ aI.out⟩,⟨hb_⟩⟩
             ·rw [if_neg c17] at H;exact absurd H (by simp)
            ·rw [if_neg c16] at H;exact absurd H (by simp)
           ·rw [if_neg c15] at H;exact absurd H (by simp)
          ·rw [if_neg c14] at H;exact absurd H (by simp)
         ·rw [if_neg c13] at H;exact absurd H (by simp)
        ·rw [if_neg c12] at H;have c12b0:=e3_ c12;have c12b1:=e4_ c12
         by_cases c19:aa=ae
         ·rw [if_pos c19] at H;have c19b0:=e1_ c19;have c19b1:=e2_ c19;clear c19
          by_cases c20:af.length < 17592186044416
          ·rw [if_pos c20] at H;have aJ:=q_ c20;clear c20;obtain⟨aw,hy⟩: ∃y_:List Int,y_=(af++ [1]):=⟨_,rfl⟩
           replace H:(spec_l01Columns.l1 k2 l0 a1 ag aa aw (wrap64 (ae+1)))=some r:=hh_;have aK:=q_ hy;clear hy;have H':=q_ H;clear H
           go_wp2_with (first | ((with_reducible refine gate_builtin (b:= .append) (xs:= #[.tmp 48, .tmp 49]) rfl ?_);at_builtin;refine Kd.R_append (Kd.int .i64) (w0:=w) w.heap.size rfl (.tmp 48) (.tmp 49) 25 2 (.int .i64 0) 8 rfl Try.underlying25 info2 rfl (by decide) (by omega) u7 af 1 [.int .i64 1] (fun _=>True) (fun _=>False) rfl rfl ?aP (fun _ hk=>hk.elim) ?aF ?aO ?aB ?aS ?aL ?_;(case aP=>exact rfl);(case aB=>exact hb_);(case aF=>exact(fun _ _=>trivial));(case aO=>exact(ro_ ai.out));(case aS=>exact bz_);(case aL=>have:=aJ.out;omega);intro bk w21 ho hb hg hat;rw [← aK.out] at ho;replace ah:=q_ (Kd.S_after (ok:=(fun _=>True)) (kS_ ah.out (fun _ hk=>⟨trivial,hk⟩)) hg hat);replace HB:=q_ (hb);have aM:=q_ (ho);clear ai ho hb hg hat))
           go_roundg k2
           case measure=>have:=HK1.out;have:=HK2.out;omega
           case rel=>exact⟨(aw),(wrap64 (ae+1)),rs_,H',⟨by have:=HK1.out;have:=HK2.out;omega⟩,⟨kS_ ah.out (fun _ hk=>hk.2)⟩,⟨ro_ aM.out⟩,⟨hb_⟩⟩
          ·rw [if_neg c20] at H;exact absurd H (by simp)
         ·rw [if_neg c19] at H;have c19b0:=e3_ c19;have c19b1:=e4_ c19
          by_cases c22:af.length < 17592186044416
          ·rw [if_pos c22] at H;have aN:=q_ c22;clear c22;obtain⟨ax,hy⟩: ∃y_:List Int,y_=(af++ [0]):=⟨_,rfl⟩
           replace H:(spec_l01Columns.l1 k2 l0 a1 ag aa ax (wrap64 (ae+1)))=some r:=hh_;have aQ:=q_ hy;clear hy;have H':=q_ H;clear H
           go_wp2_with (first | ((with_reducible refine gate_builtin (b:= .append) (xs:= #[.tmp 23, .tmp 24]) rfl ?_);at_builtin;refine Kd.R_append (Kd.int .i64) (w0:=w) w.heap.size rfl (.tmp 23) (.tmp 24) 25 2 (.int .i64 0) 8 rfl Try.underlying25 info2 rfl (by decide) (by omega) u7 af 0 [.int .i64 0] (fun _=>True) (fun _=>False) rfl rfl ?aP (fun _ hk=>hk.elim) ?aF ?aO ?aB ?aS ?aL ?_;(case aP=>exact rfl);(case aB=>exact hb_);(case aF=>exact(fun _ _=>trivial));(case aO=>exact(ro_ ai.out));(case aS=>exact bz_);(case aL=>have:=aN.out;omega);intro bq w23 ho hb hg hat;rw [← aQ.out] at ho;replace ah:=q_ (Kd.S_after (ok:=(fun _=>True)) (kS_ ah.out (fun _ hk=>⟨trivial,hk⟩)) hg hat);replace HB:=q_ (hb);have aT:=q_ (ho);clear ai ho hb hg hat))
           go_roundg k2
           case measure=>have:=HK1.out;have:=HK2.out;omega
           case rel=>exact⟨(ax),(wrap64 (ae+1)),rs_,H',⟨by have:=HK1.out;have:=HK2.out;omega⟩,⟨kS_ ah.out (fun _ hk=>hk.2)⟩,⟨ro_ aT.out⟩,⟨hb_⟩⟩
          ·rw [if_neg c22] at H;exact absurd H (by simp)
       ·rw [if_neg c10] at H;exact absurd H (by simp)
      ·rw [if_neg c8] at H;have c8b0:=decide_eq_false c8;clear c8
       by_cases c24:ag.length < 5864062014805
       ·rw [if_pos c24] at H;have aU:=q_ c24;clear c24;obtain⟨ay,hy⟩: ∃y_:List (List Int),y_=(ag++ [af]):=⟨_,rfl⟩
        replace H:(spec_l01Columns.l0 k2 l0 a1 ay (wrap64 (aa+1)))=some r:=hh_;have aV:=q_ hy;clear hy;have H':=q_ H;clear H;obtain⟨az,aA,aX⟩:=Kd.R_slice ai.out;subst aX
        go_wp2_with (first | ((with_reducible refine gate_builtin (b:= .append) (xs:= #[.tmp 51, .tmp 53]) rfl ?_);at_builtin;refine Kd.S_append (Kd.slice 2 (Kd.int .i64)) (w0:=w) w.heap.size rfl (.tmp 51) (.tmp 53) 24 25 (.slice none 0 0) 24 rfl Try.underlying24 info25 rfl (by decide) (by omega) u5 ag af [.slice az af.length aA] (fun _=>True) (fun k_=>some k_=(.slice az af.length aA:Value).ownBlock) rfl rfl ?aP (fun k_ hk_=>((Kd.R_mono (ok':=fun k_=>((fun _=>True)) k_∧some k_≠(u5:Value).ownBlock) (Kd.R_apart' (ai.out) (Kd.S_typed ah.out) (by decide)) (fun k_ hk=>⟨trivial,hk.2⟩))).1 k_ hk_.symm) ?aF ?aO ?aB ?aS ?aL ?_;(case aP=>exact Kd.M_row (Kd.R_mono (Kd.R_tight rfl (Kd.R_mono (ok':=fun k_=>((fun _=>True)) k_∧some k_≠(u5:Value).ownBlock) (Kd.R_apart' (ai.out) (Kd.S_typed ah.out) (by decide)) (fun k_ hk=>⟨trivial,hk.2⟩))) (fun _ h_=>h_)));(case aB=>exact hb_);(case aF=>exact(fun _ _=>trivial));(case aO=>exact(kS_ ah.out (fun k_ hk=>⟨trivial,fun e_=>hk e_⟩)));(case aS=>exact bz_);(case aL=>have:=aU.out;omega);intro bu w25 ho hb hg hat;rw [← aV.out] at ho;replace HB:=q_ (hb);have aW:=q_ (ho);clear ah ai ho hb hg hat))
        go_roundg k2
        case measure=>have:=HK1.out;have:=HK2.out;omega
        case rel=>exact⟨(ay),(wrap64 (aa+1)),rs_,H',⟨by have:=HK1.out;have:=HK2.out;omega⟩,⟨so_ aW.out⟩,⟨hb_⟩⟩
       ·rw [if_neg c24] at H;exact absurd H (by simp)
   ·rw [if_neg c5] at H;have c5b0:=decide_eq_false c5;clear c5;obtain rfl:=Option.some.inj H;go_wp2
    go_ret
    exact⟨_,ew_,so_ ah.out,hb_⟩
end Go.Proofs.Ytbjljcpngbhkeaa.Pr
end
section
namespace Go.Proofs.Ytbjljcpngbhkeaa.Cz
open Go.RowKit Wz.PrintWords Wz.PrintMore Ma Pr Dt Bz Un
def en (l:List (List Int)):Mat:=fun i j=>(l.getD i []).getD j 0
structure Sq (n:Nat) (l:List (List Int)):Prop where
 len:l.length=n
 row: ∀i,i < n→(l.getD i []).length=n
 num: ∀i j,i < n→j < n→(en l i j).natAbs≤20
theorem rdL1 (l:List (List Int)) (i:Nat):rd_L2 l (i:Int)=l.getD i []:=by simp [rd_L2]
def rw1 (m:Nat) (f:Nat→Int):List Int:=(List.range m).map f
theorem rw1_len (m:Nat) (f:Nat→Int):(rw1 m f).length=m:=by simp [rw1]
theorem rw1_succ (m:Nat) (f:Nat→Int):rw1 (m+1) f=rw1 m f++ [f m]:=by simp [rw1,List.range_succ]
def mk (r m:Nat) (f:Nat→Nat→Int):List (List Int):=(List.range r).map fun i=>rw1 m (f i)
theorem mk_len (r m:Nat) (f:Nat→Nat→Int):(mk r m f).length=r:=by simp [mk]
theorem mk_succ (r m:Nat) (f:Nat→Nat→Int):mk (r+1) m f=mk r m f++ [rw1 m (f r)]:=by simp [mk,List.range_succ]
theorem mk_row (r m:Nat) (f:Nat→Nat→Int) (i:Nat) (hi:i < r):(mk r m f).getD i []=rw1 m (f i):=by simp [mk,hi]
theorem mk_en (r m:Nat) (f:Nat→Nat→Int) (i j:Nat) (hi:i < r) (hj:j < m):en (mk r m f) i j=f i j:=by
 unfold en;rw [mk_row r m f i hi];simp [rw1,hj]
theorem mk_rows (r m:Nat) (f:Nat→Nat→Int): ∀x ∈ mk r m f,x.length=m:=by
 intro x hx
 obtain⟨i,_,rfl⟩:=List.mem_map.1 hx
 exact rw1_len _ _
def partL (l:List (List Int)) (R L:List Nat):List (List Int):=R.map fun i=>L.map fun j=>en l i j
theorem has_eq' (s:Int) (c:Nat) (hc:c < 64):impl_has.f s (c:Int)=some (bB s c):=by
 unfold impl_has.f
 rw [if_pos (by omega),shr_and_one s hc]
 congr 1
 cases hb:bB s c <;> simp
theorem impl_part_eq' {n:Nat} {l:List (List Int)} (hn:n≤5) (hl:l.length=n) (hrow: ∀i,i < n→(l.getD i []).length=n) (s:Int):Ev (fun k=>impl_part.f k l s s) (partL l (sel n (bB s)) (sel n (bB s))):=by
 have sel_succ (i:Nat):sel (i+1) (bB s)=if bB s i=true then sel i (bB s)++ [i] else sel i (bB s):=by
  unfold sel;rw [List.range_succ,List.filter_append]
  by_cases b:bB s i=true
  ·simp [b]
  ·simp [b]
 have sel_len (i:Nat):(sel i (bB s)).length≤i:=by unfold sel;have:=List.length_filter_le (bB s) (List.range i);simpa using this
 have rows: ∀q i,i+q=n→Ev (fun k=>impl_part.l0 k s s (partL l (sel i (bB s)) (sel n (bB s))) l (n:Int) i) (partL l (sel n (bB s)) (sel n (bB s))):=by
  intro q
  induction q with
  | zero=>
   intro i hi
   obtain rfl:i=n:=by omega
   exact evstep (fun k=>by rw [impl_part.l0]) (evneg (by omega) (evc rfl))
  | succ q ih=>
   intro i hi
   have nx:=ih (i+1) (by omega)
   rw [sel_succ] at nx
   have hr:=hrow i (by omega)
   refine evstep (fun k=>by rw [impl_part.l0]) (evpos (by omega) (evpos (by omega) (evpos (by omega) (evsome (has_eq' s i (by omega)) ?_))))
   rw [w64 (x:=(i:Int)+1) (by omega) (by omega)]
   by_cases b:bB s i=true
   ·refine evpos b ?_
    rw [if_pos b] at nx
    rw [rdL1]
    have cols: ∀p c,c+p=n→Ev (fun k=>impl_part.l1 k s s (partL l (sel i (bB s)) (sel n (bB s))) ((sel c (bB s)).map fun j=>en l i j) l (n:Int) i (l.getD i []) ((l.getD i []).length:Int) c) (partL l (sel n (bB s)) (sel n (bB s))):=by
     intro p
     induction p with
     | zero=>
      intro c hc
      obtain rfl:c=n:=by omega
      refine evstep (fun k=>by rw [impl_part.l1]) (evneg (by omega) (evpos ?_ ?_))
      ·unfold partL;rw [List.length_map];have:=sel_len i;omega
      ·rw [w64 (x:=(i:Int)+1) (by omega) (by omega)]
       unfold partL at nx ⊢
       rw [List.map_append] at nx
       exact nx
     | succ p ihp=>
      intro c hc
      have nx2:=ihp (c+1) (by omega)
      rw [sel_succ] at nx2
      refine evstep (fun k=>by rw [impl_part.l1]) (evpos (by omega) (evpos (by omega) (evpos (by omega) (evsome (has_eq' s c (by omega)) ?_))))
      rw [w64 (x:=(c:Int)+1) (by omega) (by omega)]
      by_cases b2:bB s c=true
      ·rw [if_pos b2,List.map_append] at nx2
       refine evpos b2 (evpos (by rw [List.length_map];have:=sel_len c;omega) ?_)
       rw [rd_nat]
       exact nx2
      ·rw [if_neg b2] at nx2
       exact evneg b2 nx2
    have:=cols n 0 (by omega)
    exact this
   ·rw [if_neg b] at nx
    exact evneg b nx
 have:=rows n 0 (by omega)
 unfold impl_part.f
 rw [hl]
 exact this
section
variable {n:Nat} {l:List (List Int)} (h:Sq n l) (hn:n≤5) (s:Int)
include h hn
theorem spec_cols:Ev (fun k=>spec_l01Columns.f k l s) (mk n n (colM (bB s) (en l))):=by
 have hl:=h.len
 have rows: ∀q i,i+q=n→Ev (fun k=>spec_l01Columns.l0 k l s (mk i n (colM (bB s) (en l))) i) (mk n n (colM (bB s) (en l))):=by
  intro q
  induction q with
  | zero=>
   intro i hi
   obtain rfl:i=n:=by omega
   exact evstep (fun k=>by rw [spec_l01Columns.l0]) (evneg (by omega) (evc rfl))
  | succ q ih=>
   intro i hi
   have nx:=ih (i+1) (by omega)
   have hr:=h.row i (by omega)
   have cols: ∀p c,c+p=n→Ev (fun k=>spec_l01Columns.l1 k l s (mk i n (colM (bB s) (en l))) i (rw1 c (colM (bB s) (en l) i)) c) (mk n n (colM (bB s) (en l))):=by
    intro p
    induction p with
    | zero=>
     intro c hc
     obtain rfl:c=n:=by omega
     refine evstep (fun k=>by rw [spec_l01Columns.l1]) (evneg (by omega) (evpos (by rw [mk_len];omega) ?_))
     rw [w64 (x:=(i:Int)+1) (by omega) (by omega), ← mk_succ]
     exact nx
    | succ p ihp=>
     intro c hc
     have nx2:=ihp (c+1) (by omega)
     rw [rw1_succ] at nx2
     have hnum:=h.num i c (by omega) (by omega)
     refine evstep (fun k=>by rw [spec_l01Columns.l1]) (evpos (by omega) ?_)
     rw [u64w (x:=(c:Int)) (by omega) (by omega),shr_and_one s (by omega)]
     refine evpos (by omega) ?_
     have ce:colM (bB s) (en l) i c=if bB s c=true then - en l i c else if i=c then 1 else 0:=rfl
     by_cases b:bB s c=true
     ·rw [if_pos b] at ce
      rw [ce] at nx2
      rw [rdL1]
      refine evpos (by rw [if_pos b]) (evpos (by omega) (evpos (by omega) (evpos (by omega) (evpos (by omega) (evpos (by rw [rw1_len];omega) ?_)))))
      rw [rd_nat,show (l.getD i []).getD c 0=en l i c from rfl,w64 (x:= - en l i c) (by omega) (by omega),w64 (x:=(c:Int)+1) (by omega) (by omega)]
      exact nx2
     ·rw [if_neg b] at ce
      refine evneg (by rw [if_neg b];decide) ?_
      rw [w64 (x:=(c:Int)+1) (by omega) (by omega)]
      by_cases e:i=c
      ·rw [if_pos e] at ce
       rw [ce] at nx2
       exact evpos (by omega) (evpos (by rw [rw1_len];omega) nx2)
      ·rw [if_neg e] at ce
       rw [ce] at nx2
       exact evneg (by omega) (evpos (by rw [rw1_len];omega) nx2)
   refine evstep (fun k=>by rw [spec_l01Columns.l0]) (evpos (by omega) ?_)
   exact cols n 0 (by omega)
 exact rows n 0 (by omega)
theorem has_eq (c:Nat) (hc:c < 64):impl_has.f s (c:Int)=some (bB s c):=by
 have _h:=h
 have _h2:=hn
 unfold impl_has.f
 rw [if_pos (by omega),shr_and_one s hc]
 congr 1
 cases hb:bB s c <;> simp
theorem impl_part_eq:Ev (fun k=>impl_part.f k l s s) (partL l (sel n (bB s)) (sel n (bB s))):=impl_part_eq' hn h.len h.row s
end
end Go.Proofs.Ytbjljcpngbhkeaa.Cz
end
section
namespace Go.Proofs.Ytbjljcpngbhkeaa.Pb
open Go.RowKit Wz.PrintWords Wz.PrintMore Ma Pr Dt Bz Cz
theorem sin_eq (x a b:Int):spec_l01In.f x a b=some (decide (a≤x∧x≤b)):=by
 unfold spec_l01In.f
 by_cases h:x ≥ a
 ·rw [if_pos h];congr 1;rw [Bool.eq_iff_iff];simp;omega
 ·rw [if_neg h];congr 1;rw [Bool.eq_iff_iff];simp;omega
theorem head_step {P:Nat→Prop} {i d:Nat} (h:i < d):(∀j,i≤j→j < d→P j)↔P i∧ ∀j,i+1≤j→j < d→P j:=
 ⟨fun q=>⟨q i (Nat.le_refl _) h,fun j h1 h2=>q j (by omega) h2⟩,fun q j h1 h2=>by
  by_cases e:j=i
  ·subst e;exact q.1
  ·exact q.2 j (by omega) h2⟩
theorem no_iff {b:Bool} {p:Prop} (h:b=true↔p) (hp: ¬ p):b=false:=by
 cases b with
 | false=>rfl
 | true=>exact absurd (h.1 rfl) hp
def N20 (x:Int):Prop:= -20≤x∧x≤20
def N100 (x:Int):Prop:= -100≤x∧x≤100
def RowM (M:List (List Int)) (i:Nat):Prop:=(M.getD i []).length=M.length∧ ∀j,0≤j→j < M.length→N20 (en M i j)
structure MatOK (M:List (List Int)):Prop where
 n1:1≤M.length
 n5:M.length≤5
 rows: ∀i,0≤i→i < M.length→RowM M i
structure POK (M:List (List Int)) (q:List Int):Prop where
 mat:MatOK M
 len:q.length=M.length
 num: ∀i,0≤i→i < q.length→N100 (q.getD i 0)
theorem MatOK.sq {M:List (List Int)} (h:MatOK M):Sq M.length M:=⟨rfl,fun i hi=>(h.rows i (Nat.zero_le _) hi).1,fun i j hi hj=>by have:=(h.rows i (Nat.zero_le _) hi).2 j (Nat.zero_le _) hj;unfold N20 at this;omega⟩
section
variable {M:List (List Int)} (hM:M.length≤5)
include hM
theorem spec_mrows: ∀m i,i+m=M.length→ ∀t:Bool,(t=true↔ ∀u,i≤u→u < M.length→RowM M u)→Ev (fun k=>spec_l01Matrix.l0 k M (M.length:Int) i) t:=by
 intro m
 induction m with
 | zero=>
  intro i hi t ht
  obtain rfl:t=true:=ht.2 (fun u h1 h2=>by omega)
  exact evstep (fun k=>by rw [spec_l01Matrix.l0]) (evneg (by omega) (evc rfl))
 | succ m ih=>
  intro i hi t ht
  have hs:=head_step (P:=RowM M) (i:=i) (d:=M.length) (by omega)
  have ht2:=ht.trans hs
  refine evstep (fun k=>by rw [spec_l01Matrix.l0]) (evpos (by omega) (evpos (by omega) (evpos (by omega) ?_)))
  rw [rdL1]
  by_cases c:(M.getD i []).length=M.length
  ·refine evpos (by omega) ?_
   have cols: ∀p j,j+p=M.length→ ∀t:Bool,(t=true↔(∀v,j≤v→v < M.length→N20 (en M i v))∧ ∀u,i+1≤u→u < M.length→RowM M u)→Ev (fun k=>spec_l01Matrix.l1 k M (M.length:Int) i j) t:=by
    intro p
    induction p with
    | zero=>
     intro j hj t ht
     refine evstep (fun k=>by rw [spec_l01Matrix.l1]) (evneg (by omega) ?_)
     rw [w64 (x:=(i:Int)+1) (by omega) (by omega)]
     exact ih (i+1) (by omega) t (ht.trans ⟨fun h=>h.2,fun h=>⟨fun v h1 h2=>by omega,h⟩⟩)
    | succ p ihp=>
     intro j hj t ht
     have hs2:=head_step (P:=fun v=>N20 (en M i v)) (i:=j) (d:=M.length) (by omega)
     refine evstep (fun k=>by rw [spec_l01Matrix.l1]) ?_
     rw [rdL1]
     refine evpos (by omega) (evpos (by omega) (evpos (by omega) (evpos (by omega) (evpos (by omega) (evsome (sin_eq _ _ _) ?_)))))
     rw [rd_nat,show (M.getD i []).getD j 0=en M i j from rfl,w64 (x:=(j:Int)+1) (by omega) (by omega)]
     by_cases d: -20≤en M i j∧en M i j≤20
     ·exact evpos (decide_eq_true d) (ihp (j+1) (by omega) t (ht.trans ⟨fun h=>⟨(hs2.1 h.1).2,h.2⟩,fun h=>⟨hs2.2 ⟨d,h.1⟩,h.2⟩⟩))
     ·rw [no_iff ht (fun h=>d ((hs2.1 h.1).1))]
      exact evneg (by simpa using d) (evc rfl)
   exact cols M.length 0 (by omega) t (ht2.trans ⟨fun h=>⟨fun v h1 h2=>h.1.2 v h1 h2,h.2⟩,fun h=>⟨⟨c,fun v h1 h2=>h.1 v h1 h2⟩,h.2⟩⟩)
  ·rw [no_iff ht2 (fun h=>c h.1.1)]
   exact evneg (by omega) (evc rfl)
end
theorem spec_mat (M:List (List Int)) (t:Bool) (ht:t=true↔MatOK M):Ev (fun k=>spec_l01Matrix.f k M) t:=by
 unfold spec_l01Matrix.f
 by_cases c1:(M.length:Int) < 1
 ·rw [no_iff ht (fun h=>by have:=h.n1;omega)]
  exact evpos c1 (evstep (fun k=>by rw [spec_l01Matrix.j0]) (evpos rfl (evc rfl)))
 ·refine evneg c1 (evstep (fun k=>by rw [spec_l01Matrix.j0]) ?_)
  by_cases c2:(M.length:Int) > 5
  ·rw [no_iff ht (fun h=>by have:=h.n5;omega)]
   exact evpos (decide_eq_true c2) (evc rfl)
  ·refine evneg (by simpa using c2) ?_
   exact spec_mrows (by omega) M.length 0 (by omega) t (ht.trans ⟨fun h=>h.rows,fun h=>⟨by omega,by omega,h⟩⟩)
open Classical in
theorem spec_is (M:List (List Int)) (q:List Int) (hq:q.length≤1048576) (t:Bool) (ht:t=true↔POK M q):Ev (fun k=>spec_l01Is.f k M q) t:=by
 unfold spec_l01Is.f
 refine evbind (spec_mat M (decide (MatOK M)) (by simp)) ?_
 by_cases m:MatOK M
 ·refine evpos (by simpa using m) (evstep (fun k=>by rw [spec_l01Is.j0]) ?_)
  by_cases c:q.length=M.length
  ·refine evneg (by simp [c]) ?_
   have loop: ∀p i,i+p=q.length→ ∀t:Bool,(t=true↔ ∀u,i≤u→u < q.length→N100 (q.getD u 0))→Ev (fun k=>spec_l01Is.l0 k i M q) t:=by
    intro p
    induction p with
    | zero=>
     intro i hi t ht
     obtain rfl:t=true:=ht.2 (fun u h1 h2=>by omega)
     exact evstep (fun k=>by rw [spec_l01Is.l0]) (evneg (by omega) (evc rfl))
    | succ p ih=>
     intro i hi t ht
     have hs:=head_step (P:=fun u=>N100 (q.getD u 0)) (i:=i) (d:=q.length) (by omega)
     refine evstep (fun k=>by rw [spec_l01Is.l0]) (evpos (by omega) (evpos (by omega) (evsome (sin_eq _ _ _) ?_)))
     rw [rd_nat,w64 (x:=(i:Int)+1) (by omega) (by omega)]
     by_cases d: -100≤q.getD i 0∧q.getD i 0≤100
     ·exact evpos (decide_eq_true d) (ih (i+1) (by omega) t (ht.trans (hs.trans ⟨fun h=>h.2,fun h=>⟨d,h⟩⟩)))
     ·rw [no_iff (ht.trans hs) (fun h=>d h.1)]
      exact evneg (by simpa using d) (evc rfl)
   exact loop q.length 0 (by omega) t (ht.trans ⟨fun h=>h.num,fun h=>⟨m,c,h⟩⟩)
  ·rw [no_iff ht (fun h=>c h.len)]
   exact evpos (by simp;omega) (evc rfl)
 ·rw [no_iff ht (fun h=>m h.mat)]
  exact evneg (by simpa using m) (evstep (fun k=>by rw [spec_l01Is.j0]) (evpos rfl (evc rfl)))
theorem any_false {α:Type} (p:α→Bool) (l:List α):l.any p=false↔ ∀i (h:i < l.length),p l[i]=false:=by
 rw [List.any_eq_false]
 constructor
 ·intro h i hi
  have:=h l[i] (List.getElem_mem hi)
  simpa using this
 ·intro h x hx
  obtain⟨i,hi,rfl⟩:=List.getElem_of_mem hx
  simp [h i hi]
theorem badU_iff (a n:Int):badU a n=false↔ -a≤n∧n≤a:=by unfold badU;simp
theorem any_badU (a:Int) (l:List Int):l.any (badU a)=false↔ ∀i,0≤i→i < l.length→ -a≤l.getD i 0∧l.getD i 0≤a:=by
 rw [any_false]
 constructor
 ·intro h i _ hi
  have:=(badU_iff a _).1 (h i hi)
  simpa [hi] using this
 ·intro h i hi
  have:=h i (Nat.zero_le _) hi
  exact(badU_iff a _).2 (by simpa [hi] using this)
theorem gD {M:List (List Int)} {i:Nat} (h:i < M.length):M.getD i []=M[i]:=by simp [h]
open Classical in
theorem impl_mat (M:List (List Int)):impl_IsMatrix.f M=some (decide (MatOK M)):=by
 unfold impl_IsMatrix.f
 congr 1
 rw [Bool.eq_iff_iff]
 simp only [Bool.and_eq_true,decide_eq_true_eq,Bool.not_eq_true']
 rw [any_false,any_false]
 constructor
 ·rintro ⟨⟨h1,h2⟩,h3⟩
  refine⟨by omega,by omega,fun i _ hi=>?_⟩
  have r1:=h2 i hi
  have r2:=h3 i hi
  unfold badL at r1
  unfold badM at r2
  have e:M[i].length=M.length:=by simp at r1;omega
  refine⟨by rw [gD hi];exact e,fun j _ hj=>?_⟩
  have:=(any_badU 20 M[i]).1 r2 j (Nat.zero_le _) (by omega)
  rw [← gD hi] at this
  exact this
 ·intro h
  refine⟨⟨⟨by have:=h.n1;omega,by have:=h.n5;omega⟩,fun i hi=>?_⟩,fun i hi=>?_⟩
  ·have:=(h.rows i (Nat.zero_le _) hi).1
   rw [gD hi] at this
   unfold badL;simp [this]
  ·have:=h.rows i (Nat.zero_le _) hi
   unfold badM
   refine(any_badU 20 M[i]).2 (fun j h0 hj=>?_)
   have e:=this.1
   rw [gD hi] at e
   have:=this.2 j h0 (by omega)
   unfold N20 en at this
   rwa [gD hi] at this
open Classical in
theorem impl_is (M:List (List Int)) (q:List Int) (t:Bool) (ht:t=true↔POK M q):impl_IsProblem.f M q=some t:=by
 unfold impl_IsProblem.f
 rw [impl_mat,Option.bind_some]
 by_cases m:MatOK M
 ·rw [if_pos (by simpa using m)]
  by_cases c:q.length=M.length
  ·rw [if_pos (by omega)]
   unfold impl_allUpTo.f
   rw [if_pos (by decide),Option.bind_some]
   congr 1
   rw [Bool.eq_iff_iff,ht,Bool.not_eq_true',any_badU]
   exact⟨fun h=>⟨m,c,h⟩,fun h=>h.num⟩
  ·rw [if_neg (by omega),no_iff ht (fun h=>c h.len)]
 ·rw [if_neg (by simpa using m),no_iff ht (fun h=>m h.mat)]
end Go.Proofs.Ytbjljcpngbhkeaa.Pb
end
section
namespace Go.Proofs.Ytbjljcpngbhkeaa.Sd
open Go.RowKit Wz.PrintWords Wz.PrintMore Ma Pr Dt Bz
def en (l:List (List Int)):Mat:=fun i j=>(l.getD i []).getD j 0
def SB (n:Nat) (A:Mat):Prop:= ∃k,Bk n k A
theorem SB.mnr {n c:Nat} {A:Mat} (h:SB (n+1) A) (hc:c < n+1):SB n (mnr c A):=by
 obtain⟨k,h⟩:=h
 by_cases e:c=k
 ·subst e
  refine⟨n,fun i j hi hj=>?_⟩
  have:=h (i+1) (up c j) (by omega) (up_lt hj)
  rw [if_neg (up_ne c j)] at this
  unfold Dt.mnr
  split <;> omega
 ·refine⟨dn c k,fun i j hi hj=>?_⟩
  have:=h (i+1) (up c j) (by omega) (up_lt hj)
  unfold Dt.mnr
  by_cases q:up c j=k
  ·rw [if_pos q] at this
   rw [if_pos (by rw [← q,dn_up])];exact this
  ·rw [if_neg q] at this
   split <;> omega
theorem SB.det {n:Nat} {A:Mat} (h:SB n A) (hn:n≤5): -1920000000≤det n A∧det n A≤1920000000:=by
 obtain⟨k,h⟩:=h
 have h1:=det_absk n k A h
 have h2:=b20_le n hn
 omega
theorem SB.num {n:Nat} {A:Mat} (h:SB n A) {i j:Nat} (hi:i < n) (hj:j < n): -100≤A i j∧A i j≤100:=by
 obtain⟨k,h⟩:=h
 have:=h i j hi hj
 split at this <;> omega
def mrow (l:List (List Int)) (c r:Nat):List (List Int):=(List.range r).map fun i=>((l.getD (i+1) []).take c)++((l.getD (i+1) []).drop (c+1))
theorem mrow_len (l:List (List Int)) (c r:Nat):(mrow l c r).length=r:=by simp [mrow]
theorem mrow_succ (l:List (List Int)) (c r:Nat):mrow l c (r+1)=mrow l c r++ [((l.getD (r+1) []).take c)++((l.getD (r+1) []).drop (c+1))]:=by simp [mrow,List.range_succ]
theorem mrow_en (l:List (List Int)) (c r n:Nat) (hl: ∀x ∈ l,x.length=n+1) (hn:l.length=n+1) (hc:c < n+1) (i j:Nat) (hi:i < r) (hr:r≤n) (hj:j < n):en (mrow l c r) i j=Dt.mnr c (en l) i j:=by
 have hx:(l.getD (i+1) []).length=n+1:=by
  rw [List.getD_eq_getElem?_getD,List.getElem?_eq_getElem (show i+1 < l.length by omega)];exact hl _ (List.getElem_mem _)
 unfold en Dt.mnr mrow
 rw [List.getD_eq_getElem?_getD (l:=List.map _ _),List.getElem?_map,List.getElem?_range hi]
 simp only [Option.map_some,Option.getD_some]
 show _=(l.getD (i+1) []).getD (up c j) 0
 generalize l.getD (i+1) []=x at hx ⊢
 rw [List.getD_eq_getElem?_getD,List.getD_eq_getElem?_getD]
 congr 1
 unfold up
 by_cases q:j < c
 ·rw [if_pos q,List.getElem?_append_left (by rw [List.length_take];omega),List.getElem?_take_of_lt q]
 ·rw [if_neg q,List.getElem?_append_right (by rw [List.length_take];omega),List.length_take,Nat.min_eq_left (by omega),List.getElem?_drop,show c+1+(j - c)=j+1 from by omega]
theorem own_eq (x:List Int) (h:x.length < 17592186044416):spec_l01Own.f x=some x:=by
 unfold spec_l01Own.f
 simp only [Option.bind_some,List.length_nil,Nat.zero_add,List.nil_append]
 rw [if_pos h]
theorem rdL1 (l:List (List Int)) (i:Nat):rd_L2 l (i:Int)=l.getD i []:=by simp [rd_L2]
theorem odd_sg (c:Nat) (x:Int):(if Int.tmod (c:Int) 2=1 then -x else x)=sg c*x:=by
 have e:Int.tmod (c:Int) 2=((c % 2:Nat):Int):=by rw [Int.tmod_eq_emod_of_nonneg (by omega)];omega
 unfold sg
 by_cases q:c % 2=1
 ·rw [if_pos (by rw [e,q];rfl),if_pos q];omega
 ·rw [if_neg (by rw [e];omega),if_neg q];omega
theorem spec_det: ∀(n:Nat) (l:List (List Int)),n≤5→l.length=n→(∀x ∈ l,x.length=n)→SB n (en l)→Ev (fun k=>spec_l01Det.f k l) (det n (en l)):=by
 intro n
 induction n with
 | zero=>
  intro l _ hn _ _
  show Ev _ (1:Int)
  exact evstep (fun k=>by rw [spec_l01Det.f]) (evpos (by omega) (evc rfl))
 | succ n ih=>
  intro l h5 hn hl hs
  have hrow (i:Nat) (hi:i < n+1):(l.getD i []).length=n+1:=by
   rw [List.getD_eq_getElem?_getD,List.getElem?_eq_getElem (show i < l.length by omega)];exact hl _ (List.getElem_mem _)
  let F:Nat→Int:=fun k=>sg k*(en l 0 k*det n (Dt.mnr k (en l)))
  have hF (k:Nat) (hk:k < n+1): -192000000000≤F k∧F k≤192000000000:=by
   have h1:=(hs.mnr hk).det (by omega)
   have h2:=hs.num (i:=0) (j:=k) (by omega) hk
   have:(F k).natAbs≤100*1920000000:=by
    show (sg k*(en l 0 k*det n (Dt.mnr k (en l)))).natAbs≤_
    rw [Int.natAbs_mul,Int.natAbs_mul,sg_abs,Nat.one_mul]
    exact Nat.mul_le_mul (by omega) (by omega)
   omega
  have hS: ∀c,c≤n+1→ -192000000000*(c:Int)≤sm c F∧sm c F≤192000000000*(c:Int):=by
   intro c
   induction c with
   | zero=>intro _;simp [sm]
   | succ c ihc=>
    intro hc
    have h1:=ihc (by omega)
    have h2:=hF c (by omega)
    simp only [sm]
    push_cast
    omega
  have key: ∀q c,c+q=n+1→Ev (fun k=>spec_l01Det.l0 k l (sm c F) c) (sm (n+1) F):=by
   intro q
   induction q with
   | zero=>
    intro c hc
    obtain rfl:c=n+1:=by omega
    exact evstep (fun k=>by rw [spec_l01Det.l0]) (evneg (by omega) (evc rfl))
   | succ q ihq=>
    intro c hc
    have nx:=ihq (c+1) (by omega)
    have hr0:=hrow 0 (by omega)
    have e0:rd (rd_L2 l 0) (c:Int)=en l 0 c:=by
     rw [show rd_L2 l 0=l.getD 0 [] from rdL1 l 0,rd_nat];rfl
    have hr0':(rd_L2 l 0).length=n+1:=by rw [show rd_L2 l 0=l.getD 0 [] from rdL1 l 0];exact hr0
    have f1:=hF c (by omega)
    have s1:=hS c (by omega)
    have s2:=hS (c+1) (by omega)
    refine evstep (fun k=>by rw [spec_l01Det.l0]) (evpos (by omega) (evpos (by omega) (evpos (by omega) (evpos (by omega) ?_))))
    rw [e0]
    by_cases z:en l 0 c=0
    ·refine evpos z ?_
     rw [w64 (x:=(c:Int)+1) (by omega) (by omega)]
     have e:sm (c+1) F=sm c F:=by
      show sm c F+sg c*(en l 0 c*det n (Dt.mnr c (en l)))=_
      rw [z];simp
     rw [e] at nx
     exact nx
    ·refine evneg z ?_
     have build: ∀p r,r+p=n→Ev (fun k=>spec_l01Det.l1 k l (sm c F) c (mrow l c r) ((r+1:Nat):Int)) (sm (n+1) F):=by
      intro p
      induction p with
      | zero=>
       intro r hr
       obtain rfl:r=n:=by omega
       refine evstep (fun k=>by rw [spec_l01Det.l1]) (evneg (by omega) (evpos (by omega) (evpos (by omega) (evpos (by omega) ?_))))
       have hm:=ih (mrow l c r) (by omega) (mrow_len l c r) (fun x hx=>by
        obtain⟨i,hi,rfl⟩:=List.mem_map.1 hx
        have:=hrow (i+1) (by have:=List.mem_range.1 hi;omega)
        rw [List.length_append,List.length_take,List.length_drop];omega) (by
        obtain⟨k',hk'⟩:=hs.mnr (c:=c) (by omega)
        exact⟨k',fun i j hi hj=>by rw [mrow_en l c r r hl hn (by omega) i j hi (Nat.le_refl _) hj];exact hk' i j hi hj⟩)
       rw [det_congr (A:=en (mrow l c r)) (B:=Dt.mnr c (en l)) (fun i j hi hj=>mrow_en l c r r hl hn (by omega) i j hi (Nat.le_refl _) hj)] at hm
       have hd:=(hs.mnr (c:=c) (by omega)).det (by omega)
       have ha:=hs.num (i:=0) (j:=c) (by omega) (by omega)
       refine evbind hm ?_
       rw [e0]
       have hp: -192000000000≤en l 0 c*det r (Dt.mnr c (en l))∧en l 0 c*det r (Dt.mnr c (en l))≤192000000000:=by
        have:(en l 0 c*det r (Dt.mnr c (en l))).natAbs≤100*1920000000:=by
         rw [Int.natAbs_mul];exact Nat.mul_le_mul (by omega) (by omega)
        omega
       have o:=odd_sg c (en l 0 c*det r (Dt.mnr c (en l)))
       have fe:F c=sg c*(en l 0 c*det r (Dt.mnr c (en l))):=rfl
       have se:sm (c+1) F=sm c F+F c:=rfl
       rw [w64 (x:=en l 0 c*det r (Dt.mnr c (en l))) (by omega) (by omega)]
       by_cases od:Int.tmod (c:Int) 2=1
       ·refine evpos od ?_
        rw [if_pos od] at o
        rw [w64 (x:= -(en l 0 c*det r (Dt.mnr c (en l)))) (by omega) (by omega),o, ← fe, ← se,w64 (x:=sm (c+1) F) (by omega) (by omega),w64 (x:=(c:Int)+1) (by omega) (by omega)]
        exact nx
       ·refine evneg od ?_
        rw [if_neg od] at o
        rw [o, ← fe, ← se,w64 (x:=sm (c+1) F) (by omega) (by omega),w64 (x:=(c:Int)+1) (by omega) (by omega)]
        exact nx
      | succ p ihp=>
       intro r hr
       have hx:=hrow (r+1) (by omega)
       have nx2:=ihp (r+1) (by omega)
       rw [mrow_succ] at nx2
       refine evstep (fun k=>by rw [spec_l01Det.l1]) ?_
       rw [rdL1]
       refine evpos (by omega) (evpos (by omega) (evpos (by omega) (evpos (by omega) ?_)))
       rw [Int.toNat_natCast,w64 (x:=(c:Int)+1) (by omega) (by omega)]
       refine evsome (a:=(l.getD (r+1) []).take c) (own_eq _ (by rw [List.length_take];omega)) (evpos (by omega) (evpos (by omega) (evpos ?_ (evpos (by rw [mrow_len];omega) ?_))))
       ·rw [List.length_take,List.length_drop];omega
       ·rw [show ((c:Int)+1).toNat=c+1 from by omega,w64 (x:=((r+1:Nat):Int)+1) (by omega) (by omega)]
        exact nx2
     have:=build n 0 (by omega)
     exact this
  refine evstep (fun k=>by rw [spec_l01Det.f]) (evneg (by omega) ?_)
  exact key (n+1) 0 (by omega)
end Go.Proofs.Ytbjljcpngbhkeaa.Sd
end
section
namespace Go.Proofs.Ytbjljcpngbhkeaa.Mn
open Go.RowKit Wz.PrintWords Wz.PrintMore Ma Pr Dt Bz Bd Un Cz
section
variable {n:Nat} {l:List (List Int)} (h:Sq n l) (hn:n≤5) (s:Int)
include h hn
theorem colM_small (i j:Nat) (hi:i < n) (hj:j < n):(colM (bB s) (en l) i j).natAbs≤20:=by
 have _h:=hn
 have:=h.num i j hi hj
 unfold colM
 split
 ·omega
 ·split <;> decide
theorem cols_det:Ev (fun k=>spec_l01Det.f k (mk n n (colM (bB s) (en l)))) (det n (colM (bB s) (en l))):=by
 have he (i j:Nat) (hi:i < n) (hj:j < n):en (mk n n (colM (bB s) (en l))) i j=colM (bB s) (en l) i j:=mk_en n n _ i j hi hj
 have:=Sd.spec_det n (mk n n (colM (bB s) (en l))) hn (mk_len _ _ _) (mk_rows _ _ _) ⟨0,fun i j hi hj=>by
  show (en (mk n n (colM (bB s) (en l))) i j).natAbs≤_
  rw [he i j hi hj]
  have:=colM_small h hn s i j hi hj
  split <;> omega⟩
 have e:det n (Sd.en (mk n n (colM (bB s) (en l))))=det n (colM (bB s) (en l)):=det_congr he
 rw [e] at this
 exact this
end
end Go.Proofs.Ytbjljcpngbhkeaa.Mn
end
section
namespace Go.Proofs.Ytbjljcpngbhkeaa.Pr
open Go.RowKit Wz.PrintWords Wz.PrintLast Wz.PrintMore
attribute [local go_sem] max2_int min2_int max_two min_two max_three min_three max_four min_four
mutual
def spec_l01Solve.l0:Nat→List (List Int)→List Int→List Int→Int→Option (List Int × Int)
 | 0,_,_,_,_=>none
 | k+1,x0,x1,x6,x7=>if x7 < (x0.length:Int) then(spec_l01Solve.l1 k x0 x1 x6 x7 (([]:List (List Int))) 0) else((spec_l01Det.f k x0).bind fun ae=>(some (x6,ae)))
def spec_l01Solve.l1:Nat→List (List Int)→List Int→List Int→Int→List (List Int)→Int→Option (List Int × Int)
 | 0,_,_,_,_,_,_=>none
 | k+1,x0,x1,x6,x7,x8,x9=>if x9 < (x0.length:Int) then(if 0≤x9 then((spec_l01Own.f (rd_L2 x0 x9)).bind fun aa=>(if x9 < (x1.length:Int) then(if 0≤x7 then(if x7 < (aa.length:Int) then(if x8.length < 5864062014805 then(spec_l01Solve.l1 k x0 x1 x6 x7 (x8++ [(aa.set (x7:Int).toNat (rd x1 x9))]) (wrap64 (x9+1))) else(none)) else(none)) else(none)) else(none))) else(none)) else((spec_l01Det.f k x8).bind fun af=>(if x6.length < 17592186044416 then(spec_l01Solve.l0 k x0 x1 (x6++ [af]) (wrap64 (x7+1))) else(none)))
end
def spec_l01Solve.f (k:Nat) (l0:List (List Int)) (l1:List Int):Option (List Int × Int):=spec_l01Solve.l0 k l0 l1 (([]:List Int)) 0
theorem spec_l01Solve.calls (k:Nat) (A0:Option Addr) (c0:Nat) (l0:List (List Int)) (A1:Option Addr) (c1:Nat) (l1:List Int) (r1:List Int) (r2:Int) (w:World) (hr0:Kd.C (Kd.slice 2 (Kd.int .i64)) w A0 l0.length l0) (hc0:l0.length≤c0) (hr1:Kd.C (Kd.int .i64) w A1 l1.length l1) (hc1:l1.length≤c1) (h:spec_l01Solve.f k l0 l1=some (r1,r2)):
  Calls Try.prog 74 #[.slice A0 l0.length c0, .slice A1 l1.length c1] w fun e w'=> ∃v0_:Value,e= .returned (.tuple #[v0_, .int .i64 r2])∧Kd.R (Kd.int .i64) 2 w' w.heap.size (fun _=>True) v0_ r1∧Below w.heap.size w w':=by
 have HR0:=q_ hr0;have HC0:=q_ hc0;clear hr0 hc0;have HR1:=q_ hr1;have HC1:=q_ hc1;clear hr1 hc1;have HB:=q_ (Below.refl w.heap.size w);have H:(spec_l01Solve.l0 k l0 l1 (([]:List Int)) 0)=some (r1,r2):=h;clear h;obtain⟨aC,hy⟩: ∃y_:List Int,y_=(([]:List Int)):=⟨_,rfl⟩
 replace H:(spec_l01Solve.l0 k l0 l1 aC 0)=some (r1,r2):=hh_;have az:=q_ hy;clear hy;have H':=q_ H;clear H
 go_enter Try.func74,Try.ntmps74
 go_wp2_with (first | ((with_reducible refine gate_dst (N:=11) rfl ?_);refine Kd.R_lit (Kd.int .i64) _ 2 ?hg (N:=11) ?hd (xs:=([]:List Int)) (inner:= []) (ok:=fun _=>True) (okp:=fun _=>True) ?hr ?hp (fun _ hk=>hk) trivial (Below.refl _ _) (Nat.le_refl _) (by simp) ?_;(case hd=>rfl);(case hg=>rfl);(case hr=>first | (go_simp;done) | (go_simp;rfl));(case hp=>exact(Reps.none _ _));intro bq w3 ho4 hb hg_ hnew_;clear hg_ hnew_;(first | rw [← az.out] at ho4 | (simp only [Int.reduceToNat] at ho4;rw [← az.out] at ho4));have aQ:=q_ (Kd.R_lower ho4 bz_);replace HB:=Bs_ hb;clear hb ho4))
 go_loopg [6,7] k (fun kq v6 v7 w'=> ∃(aw:List Int) (aa:Int),v7= .int .i64 aa∧Aside0 (spec_l01Solve.l0 kq l0 l1 aw aa=some (r1,r2))∧Aside0 (kq≤k)∧Aside0 (Kd.R (Kd.int .i64) 2 w' w.heap.size (fun _=>True) v6 aw)∧Aside0 (Below w.heap.size w w'))
 case atStart=>exact⟨(aC),(0),rs_,H',⟨Nat.le_refl _⟩,⟨ro_ aQ.out⟩,⟨hb_⟩⟩
 case round=>
  clear H';(try clear c1);obtain⟨aw,aa,rfl,HA,HK1,af,HB⟩:=hrel;cases gk with
  | zero=>exact absurd HA.out (by simp [spec_l01Solve.l0])
  | succ k1=>
   have H:=HA.out;clear HA;simp only [spec_l01Solve.l0] at H
   by_cases c5:aa < (l0.length:Int)
   ·rw [if_pos c5] at H;have c5b0:=decide_eq_true c5;clear c5;obtain⟨aD,hy⟩: ∃y_:List (List Int),y_=(([]:List (List Int))):=⟨_,rfl⟩
    replace H:(spec_l01Solve.l1 k1 l0 l1 aw aa aD 0)=some (r1,r2):=hh_;have aA:=q_ hy;clear hy;have H':=q_ H;clear H
    go_wp2_with (first | ((with_reducible refine gate_dst (N:=18) rfl ?_);refine Kd.S_lit (Kd.slice 2 (Kd.int .i64)) _ 25 ?hg (N:=18) ?hd (xs:=([]:List (List Int))) (inner:= []) (ok:=fun _=>True) (okp:=fun _=>True) ?hr ?hp (fun _ hk=>hk) trivial (Below.refl _ _) (Nat.le_refl _) (by simp) ?_;(case hd=>rfl);(case hg=>rfl);(case hr=>first | (go_simp;done) | (go_simp;rfl));(case hp=>exact(Reps.none _ _));intro bu w6 ho7 hb hg_ hnew_;clear hg_ hnew_;(first | rw [← aA.out] at ho7 | (simp only [Int.reduceToNat] at ho7;rw [← aA.out] at ho7));have aT:=q_ (Kd.S_lower (Kd.S_new' ho7 (Kd.R_lt (ro_ af.out))) bz_);replace af:=Rb_ af hb;replace HB:=Bs_ hb;clear hb ho7))
    go_loopg [8,9] k1 (fun kq v8 v9 w'=> ∃(aj:List Int) (ak:List (List Int)) (ae:Int),v9= .int .i64 ae∧Aside0 (spec_l01Solve.l1 kq l0 l1 aj aa ak ae=some (r1,r2))∧Aside0 (kq≤k1)∧Aside0 (Kd.R (Kd.int .i64) 2 w' w.heap.size (fun _=>True) u6 aj)∧Aside0 (Kd.S (Kd.slice 2 (Kd.int .i64)) 25 w' w.heap.size (fun k_=>some k_≠(u6:Value).ownBlock) v8 ak)∧Aside0 (Below w.heap.size w w'))
    case atStart=>exact⟨(aw),(aD),(0),rs_,H',⟨Nat.le_refl _⟩,⟨ro_ af.out⟩,⟨kS_ aT.out (fun _ hk=>hk.2)⟩,⟨hb_⟩⟩
    case round=>
     clear H';(try clear c1);(try clear c5b0);obtain⟨aj,ak,ae,rfl,HA,HK2,af,ag,HB⟩:=hrel;cases gk with
     | zero=>exact absurd HA.out (by simp [spec_l01Solve.l1])
     | succ k2=>
      have H:=HA.out;clear HA;simp only [spec_l01Solve.l1] at H
      by_cases c8:ae < (l0.length:Int)
      ·rw [if_pos c8] at H;have c8b0:=decide_eq_true c8;clear c8
       by_cases c9:0≤ae
       ·rw [if_pos c9] at H;have c9b0:=decide_eq_true c9;clear c9;replace H:=Option.bind_eq_some_iff.mp H;obtain⟨ah,A100,H⟩:=H;replace H:(if ae < (l1.length:Int) then(if 0≤aa then(if aa < (ah.length:Int) then(if ak.length < 5864062014805 then(spec_l01Solve.l1 k2 l0 l1 aj aa (ak++ [(ah.set (aa:Int).toNat (rd l1 ae))]) (wrap64 (ae+1))) else(none)) else(none)) else(none)) else(none))=some (r1,r2):=H;have A10:=q_ A100;clear A100
        by_cases c11:ae < (l1.length:Int)
        ·rw [if_pos c11] at H;have c11b0:=decide_eq_true c11;clear c11
         by_cases c12:0≤aa
         ·rw [if_pos c12] at H;have c12b0:=decide_eq_true c12;clear c12
          by_cases c13:aa < (ah.length:Int)
          ·rw [if_pos c13] at H;have c13b0:=decide_eq_true c13;clear c13;obtain⟨ay,hy⟩: ∃y_:List Int,y_=(ah.set (aa:Int).toNat (rd l1 ae)):=⟨_,rfl⟩
           replace H:(if ak.length < 5864062014805 then(spec_l01Solve.l1 k2 l0 l1 aj aa (ak++ [ay]) (wrap64 (ae+1))) else(none))=some (r1,r2):=hh_;have aU:=q_ hy;clear hy
           by_cases c15:ak.length < 5864062014805
           ·rw [if_pos c15] at H;have aV:=q_ c15;clear c15;obtain⟨aG,hy⟩: ∃y_:List (List Int),y_=(ak++ [ay]):=⟨_,rfl⟩
            replace H:(spec_l01Solve.l1 k2 l0 l1 aj aa aG (wrap64 (ae+1)))=some (r1,r2):=hh_;have aW:=q_ hy;clear hy;have H':=q_ H;clear H;have p378:0≤(ae:Int):=od_;have q378:ae < (l0.length:Int):=od_;obtain⟨bh,aH,aI,e378,hx378_0,hl378_0,hi378_0⟩:=at_L2 HR0.out ae p378 q378;cases e378
            replace hx378_0:=bc_ HB.out hx378_0;have HR378_0:=q_ hi378_0;have HC378_0:=q_ hl378_0;clear hi378_0 hl378_0;replace p378:=eq_true p378;replace q378:=eq_true q378
            go_wp2_with (first | ((with_reducible refine gate_callee (f:=71) rfl ?_);refine gL_ 29 Try.func71 #[.slice aH (rd_L2 l0 ae).length aI] ?_;(with_reducible refine(spec_l01Own.calls _ _ (rd_L2 l0 ae) ah _ ?au ?av A10.out).mono ?_);(case au=>exact cb_ HR378_0.out HB.out);(case av=>exact HC378_0.out);rintro e w16 ⟨bv,rfl,ho0,hb⟩;refine⟨_,rfl,?_⟩;replace ag:=q_ (Kd.S_elder' (so_ ag.out) (Kd.R_base ho0) hb);have ai:=q_ (Kd.R_lower (Kd.R_new' ho0 (Kd.R_lt (ro_ af.out))) bz_);replace af:=q_ (Kd.R_elder' (ro_ af.out) (Kd.R_base ho0) hb);replace HB:=Bs_ hb;(try clear hb);(try clear hk);(try clear ho0);have p382:0≤(ae:Int):=od_;have q382:ae < (l1.length:Int):=od_;obtain⟨bk,e382,hx382_0⟩:=Kd.at_int HR1.out ae p382 q382;cases e382;replace hx382_0:=bc_ HB.out hx382_0;replace p382:=eq_true p382;replace q382:=eq_true q382;have p14:0≤(aa:Int):=od_;have q14:(aa:Int) < ((ah.length:Int):Int):=od_;obtain⟨go14,aq,aJ,aK,gl14,cl14,HG14⟩:=Kd.R_form ai.out (by omega);(first | cases aJ | (injection aJ with ea_ en_ ec_;(first | subst ea_ | (injection ea_ with ea_;subst ea_));subst ec_;clear en_));have GB14:=q_ aK;have GG14:=q_ HG14;clear aK gl14 HG14;obtain⟨hx14_0,hf14_0⟩:=Kd.R_celln 0 ai.out (aa:Int) p14 q14;replace p14:=eq_true p14;replace q14:=eq_true q14;have n_:=q_ (Kd.R_mono (ok':=(fun k_=>some k_≠(u6:Value).ownBlock)) ai.out (fun k_ hk=>hk.2));clear ai;have ai:=n_;clear n_;obtain⟨hy17_,hz17_⟩:=Kd.R_celln 0 ai.out (aa:Int) od_ od_;have HP17:=Kd.R_putg ai.out (aa:Int) (rd l1 ae)) | ((with_reducible refine gate_store (t:=2) (p:=36) rfl ?_);refine se_ 2 36 ((w16.setCell ⟨go14,(aa:Int).toNat,none⟩ (.int .i64 (rd l1 ae)))) ?_;intro w18 hw;have hg:w16.grownBy w18 (some go14):=(by rw [hw];exact HP17.2);have hp_:Kd.R (Kd.int .i64) 2 w18 w.heap.size (fun k_=>some k_≠(u6:Value).ownBlock) (.slice (some ⟨go14,0,none⟩) ah.length aq) ay:=(by rw [hw,aU.out];exact HP17.1);clear HP17;replace af:=q_ (Kd.R_after (v:=(.slice (some ⟨go14,0,none⟩) ah.length aq)) (v1:=(.slice (some ⟨go14,0,none⟩) ah.length aq)) (ok:=(fun _=>True)) (ro_ af.out) hg (.inl rfl));replace ag:=q_ (Kd.S_after (v:=(.slice (some ⟨go14,0,none⟩) ah.length aq)) (v1:=(.slice (some ⟨go14,0,none⟩) ah.length aq)) (ok:=(fun k_=>some k_≠(u6:Value).ownBlock)) (so_ ag.out) hg (.inl rfl));replace ai:=q_ (hp_);replace HB:=q_ ((by rw [hw];exact below_set (HB.out) GB14.out:Below w.heap.size w w18));clear hg hw hp_) | ((with_reducible refine gate_builtin (b:= .append) (xs:= #[.tmp 37, .tmp 39]) rfl ?_);at_builtin;refine Kd.S_append (Kd.slice 2 (Kd.int .i64)) (w0:=w) w.heap.size rfl (.tmp 37) (.tmp 39) 24 25 (.slice none 0 0) 24 rfl Try.underlying24 info25 rfl (by decide) (by omega) u8 ak ay [.slice (some ⟨go14,0,none⟩) ah.length aq] (fun k_=>some k_≠(u6:Value).ownBlock) (fun k_=>some k_=(.slice (some ⟨go14,0,none⟩) ah.length aq:Value).ownBlock) rfl rfl ?aP (fun k_ hk_=>((Kd.R_mono (ok':=fun k_=>((fun k_=>some k_≠(u6:Value).ownBlock)) k_∧some k_≠(u8:Value).ownBlock) (Kd.R_apart' (ai.out) (Kd.S_typed ag.out) (by decide)) (fun k_ hk=>⟨hk.1,hk.2⟩))).1 k_ hk_.symm) ?aF ?aO ?aB ?aS ?aL ?_;(case aP=>exact Kd.M_row (Kd.R_mono (Kd.R_tight rfl (Kd.R_mono (ok':=fun k_=>((fun k_=>some k_≠(u6:Value).ownBlock)) k_∧some k_≠(u8:Value).ownBlock) (Kd.R_apart' (ai.out) (Kd.S_typed ag.out) (by decide)) (fun k_ hk=>⟨hk.1,hk.2⟩))) (fun _ h_=>h_)));(case aB=>exact hb_);(case aF=>exact(fun k_ hk=>Kd.fresh' (Kd.R_lt (ro_ af.out)) k_ hk));(case aO=>exact(kS_ ag.out (fun k_ hk=>⟨hk.1,fun e_=>hk.2 e_⟩)));(case aS=>exact bz_);(case aL=>have:=aV.out;omega);intro bw w19 ho hb hg hat;rw [← aW.out] at ho;replace af:=q_ (Kd.R_over' (ro_ af.out) (Kd.S_typed (so_ ag.out)) (by decide) hg);replace HB:=q_ (hb);have aX:=q_ (ho);clear ag ai ho hb hg hat))
            go_roundg k2
            case measure=>have:=HK1.out;have:=HK2.out;omega
            case rel=>exact⟨(aj),(aG),(wrap64 (ae+1)),rs_,H',⟨by have:=HK1.out;have:=HK2.out;omega⟩,⟨kR_ af.out (fun _ hk=>trivial)⟩,⟨so_ aX.out⟩,⟨hb_⟩⟩
           ·rw [if_neg c15] at H;exact absurd H (by simp)
          ·rw [if_neg c13] at H;exact absurd H (by simp)
         ·rw [if_neg c12] at H;exact absurd H (by simp)
        ·rw [if_neg c11] at H;exact absurd H (by simp)
       ·rw [if_neg c9] at H;exact absurd H (by simp)
      ·rw [if_neg c8] at H;have c8b0:=decide_eq_false c8;clear c8;replace H:=Option.bind_eq_some_iff.mp H;obtain⟨ax,A200,H⟩:=H;replace H:(if aj.length < 17592186044416 then(spec_l01Solve.l0 k2 l0 l1 (aj++ [ax]) (wrap64 (aa+1))) else(none))=some (r1,r2):=H;have A20:=q_ A200;clear A200
       by_cases c21:aj.length < 17592186044416
       ·rw [if_pos c21] at H;have aY:=q_ c21;clear c21;obtain⟨aM,hy⟩: ∃y_:List Int,y_=(aj++ [ax]):=⟨_,rfl⟩
        replace H:(spec_l01Solve.l0 k2 l0 l1 aM (wrap64 (aa+1)))=some (r1,r2):=hh_;have aZ:=q_ hy;clear hy;have H':=q_ H;clear H;obtain⟨ba,bf,bg⟩:=Kd.S_slice ag.out;subst bg
        go_wp2_with (first | ((with_reducible refine gate_callee (f:=43) rfl ?_);refine gL_ 43 Try.func43 #[.slice ba ak.length bf] ?_;(with_reducible refine(spec_l01Det.calls k2 _ _ ak ax _ ?au ?av A20.out).mono ?_);(case au=>exact cS_);(case av=>exact(Kd.S_reads' ag.out).2.1);rintro e w23 ⟨rfl,hb⟩;refine⟨_,rfl,?_⟩;replace af:=Rb_ af hb;replace ag:=q_ (Kd.S_below (so_ ag.out) hb);replace HB:=Bs_ hb;(try clear hb);(try clear hk)) | ((with_reducible refine gate_builtin (b:= .append) (xs:= #[.tmp 41, .tmp 44]) rfl ?_);at_builtin;refine Kd.R_append (Kd.int .i64) (w0:=w) w.heap.size rfl (.tmp 41) (.tmp 44) 25 2 (.int .i64 0) 8 rfl Try.underlying25 info2 rfl (by decide) (by omega) u6 aj ax [.int .i64 ax] (fun _=>True) (fun _=>False) rfl rfl ?aP (fun _ hk=>hk.elim) ?aF ?aO ?aB ?aS ?aL ?_;(case aP=>exact rfl);(case aB=>exact hb_);(case aF=>exact(fun _ _=>trivial));(case aO=>exact(ro_ af.out));(case aS=>exact bz_);(case aL=>have:=aY.out;omega);intro bz w24 ho hb hg hat;rw [← aZ.out] at ho;replace ag:=q_ (Kd.S_after (ok:=(fun _=>True)) (kS_ ag.out (fun _ hk=>⟨trivial,hk⟩)) hg hat);replace HB:=q_ (hb);have a9:=q_ (ho);clear af ho hb hg hat))
        go_roundg k2
        case measure=>have:=HK1.out;have:=HK2.out;omega
        case rel=>exact⟨(aM),(wrap64 (aa+1)),rs_,H',⟨by have:=HK1.out;have:=HK2.out;omega⟩,⟨ro_ a9.out⟩,⟨hb_⟩⟩
       ·rw [if_neg c21] at H;exact absurd H (by simp)
   ·rw [if_neg c5] at H;have c5b0:=decide_eq_false c5;clear c5;replace H:=Option.bind_eq_some_iff.mp H;obtain⟨aN,A250,H⟩:=H;replace H:(some (aw,aN))=some (r1,r2):=H;have A25:=q_ A250;clear A250;simp only [Option.some.injEq,Prod.mk.injEq] at H;obtain⟨rfl,rfl⟩:=H
    go_wp2_with (first | ((with_reducible refine gate_callee (f:=43) rfl ?_);refine gL_ 48 Try.func43 #[.slice A0 l0.length c0] ?_;(with_reducible refine(spec_l01Det.calls k1 _ _ l0 aN _ ?au ?av A25.out).mono ?_);(case au=>exact cb_ HR0.out HB.out);(case av=>exact HC0.out);rintro e w26 ⟨rfl,hb⟩;refine⟨_,rfl,?_⟩;replace af:=Rb_ af hb;replace HB:=Bs_ hb;(try clear hb);(try clear hk)))
    go_ret2
    exact⟨_,ew_,ro_ af.out,hb_⟩
end Go.Proofs.Ytbjljcpngbhkeaa.Pr
end
section
namespace Go.Proofs.Ytbjljcpngbhkeaa.Sv
open Go.RowKit Wz.PrintWords Wz.PrintMore Ma Pr Dt Bz Bd Un Cz Mn
open Hd (dO cM pcol rowsFrom rowsFrom_len sl slL)
def dc (n:Nat) (C:Mat) (x:List Int) (i:Nat):Int:=det n (cset i (fun r=>x.getD r 0) C)
def sgn (d:Int):Int:=if d < 0 then -1 else if d > 0 then 1 else 0
section
variable {n:Nat} {l:List (List Int)} (h:Sq n l) (hn:n≤5) (s:Int)
include h hn
theorem col_t (Q:List Int) (hQ:Q.length=n) (i:Nat) (hi:i < n):Ev (fun k=>impl_Problem_column.f k l Q (i:Int) true) (rw1 n (fun r=> - en l r i)):=by
 have hl:=h.len
 have at_ (r:Nat) (hr:r < n):((List.range n).map fun u=>if u < r then - en l u i else 0).set r (- en l r i)=(List.range n).map fun u=>if u < r+1 then - en l u i else 0:=by
  apply List.ext_getElem
  ·simp
  ·intro k h1 h2
   have hk:k < n:=by simpa using h2
   rw [List.getElem_set]
   simp only [List.getElem_map,List.getElem_range]
   by_cases e:r=k
   ·subst e;rw [if_pos rfl,if_pos (by omega)]
   ·rw [if_neg e]
    by_cases c:k < r
    ·rw [if_pos c,if_pos (by omega)]
    ·rw [if_neg c,if_neg (by omega)]
 have loop: ∀q r,r+q=n→Ev (fun k=>impl_Problem_column.l0 k (i:Int) true ((List.range n).map fun u=>if u < r then - en l u i else 0) l (n:Int) r) (rw1 n (fun r=> - en l r i)):=by
  intro q
  induction q with
  | zero=>
   intro r hr
   obtain rfl:r=n:=by omega
   refine evstep (fun k=>by rw [impl_Problem_column.l0]) (evneg (by omega) (evpos rfl (evc ?_)))
   congr 1
   exact List.map_congr_left (fun u hu=>by rw [if_pos (List.mem_range.1 hu)])
  | succ q ih=>
   intro r hr
   have nx:=ih (r+1) (by omega)
   have hrow:=h.row r (by omega)
   have hnum:=h.num r i (by omega) hi
   refine evstep (fun k=>by rw [impl_Problem_column.l0]) ?_
   rw [rdL1]
   refine evpos (by omega) (evpos (by omega) (evpos (by omega) (evpos rfl (evpos (by omega) (evpos (by omega) (evpos (by simp;omega) ?_))))))
   rw [rd_nat,show (l.getD r []).getD i 0=en l r i from rfl,w64 (x:= - en l r i) (by omega) (by omega),Int.toNat_natCast,at_ r (by omega),w64 (x:=(r:Int)+1) (by omega) (by omega)]
   exact nx
 unfold impl_Problem_column.f
 rw [hQ,hl]
 refine evpos (by omega) (evpos (by omega) ?_)
 have:=loop n 0 (by omega)
 rw [show ((List.range n).map fun u=>if u < 0 then - en l u i else 0)=List.replicate ((n:Int)).toNat 0 from by
  apply List.ext_getElem
  ·simp
  ·intro k h1 h2;simp] at this
 exact this
theorem col_f (Q:List Int) (hQ:Q.length=n) (i:Nat) (hi:i < n):Ev (fun k=>impl_Problem_column.f k l Q (i:Int) false) (rw1 n (fun r=>if r=i then 1 else 0)):=by
 have hl:=h.len
 have loop: ∀q r,r+q=n→Ev (fun k=>impl_Problem_column.l0 k (i:Int) false (List.replicate n 0) l (n:Int) r) (rw1 n (fun r=>if r=i then 1 else 0)):=by
  intro q
  induction q with
  | zero=>
   intro r hr
   obtain rfl:r=n:=by omega
   refine evstep (fun k=>by rw [impl_Problem_column.l0]) (evneg (by omega) (evneg (by simp) (evpos (by omega) (evpos (by simp;omega) (evc ?_)))))
   congr 1
   rw [Int.toNat_natCast]
   apply List.ext_getElem
   ·simp [rw1]
   ·intro k h1 h2
    rw [List.getElem_set]
    simp only [rw1,List.getElem_map,List.getElem_range,List.getElem_replicate]
    by_cases e:i=k
    ·subst e;simp
    ·rw [if_neg e,if_neg (Ne.symm e)]
  | succ q ih=>
   intro r hr
   have nx:=ih (r+1) (by omega)
   refine evstep (fun k=>by rw [impl_Problem_column.l0]) (evpos (by omega) (evpos (by omega) (evpos (by omega) (evneg (by simp) ?_))))
   rw [w64 (x:=(r:Int)+1) (by omega) (by omega)]
   exact nx
 unfold impl_Problem_column.f
 rw [hQ,hl]
 refine evpos (by omega) (evpos (by omega) ?_)
 have:=loop n 0 (by omega)
 rw [Int.toNat_natCast]
 exact this
theorem colF_eq (Q:List Int) (hQ:Q.length=n) (i:Nat) (hi:i < n):Ev (fun k=>colF k l Q s i) (rw1 n (fun r=>colM (bB s) (en l) r i)):=by
 unfold colF
 refine evsome (has_eq h hn s i (by omega)) ?_
 cases hb:bB s i with
 | true=>
  have:=col_t h hn Q hQ i hi
  have e:(fun r=>colM (bB s) (en l) r i)=fun r=> - en l r i:=by funext r;unfold colM;rw [if_pos hb]
  rw [e];exact this
 | false=>
  have:=col_f h hn Q hQ i hi
  have e:(fun r=>colM (bB s) (en l) r i)=fun r=>if r=i then 1 else 0:=by funext r;unfold colM;rw [if_neg (by simp [hb])]
  rw [e];exact this
theorem cols_all (Q:List Int) (hQ:Q.length=n): ∃K, ∀k,K≤k→ ∀i,i < n→colF k l Q s i=some (rw1 n (fun r=>colM (bB s) (en l) r i)):=by
 have key: ∀m,m≤n→ ∃K, ∀k,K≤k→ ∀i,i < m→colF k l Q s i=some (rw1 n (fun r=>colM (bB s) (en l) r i)):=by
  intro m
  induction m with
  | zero=>intro _;exact⟨0,fun k _ i hi=>by omega⟩
  | succ m ih=>
   intro hm
   obtain⟨K1,h1⟩:=ih (by omega)
   obtain⟨K2,h2⟩:=colF_eq h hn s Q hQ m (by omega)
   refine⟨K1+K2,fun k hk i hi=>?_⟩
   by_cases e:i=m
   ·subst e;exact h2 k (by omega)
   ·exact h1 k (by omega) i (by omega)
 exact key n (Nat.le_refl _)
end
theorem en_rows (M:Mat) (n a d:Nat) (ha:a < n) (hd:d < n):Hd.en (rowsFrom M n 0) a d=M a d:=by
 unfold Hd.en rowsFrom
 simp [ha,hd]
theorem dO_det {n k:Nat} (hn:n≤5) (M:Mat) (hb:Bk n k M):dO n M=det n M:=by
 unfold dO
 rw [dgo_det hn (k:=k) (Hd.en (rowsFrom M n 0)) (fun i j hi hj=>by rw [en_rows M n i j hi hj];exact hb i j hi hj)]
 exact det_congr (fun i j hi hj=>en_rows M n i j hi hj)
theorem sgn_mul (d x:Int) (hx: -1920000000≤x∧x≤1920000000):wrap64 (sgn d*x)=sgn d*x:=by
 unfold sgn
 split
 ·exact w64 (by omega) (by omega)
 ·split
  ·exact w64 (by omega) (by omega)
  ·exact w64 (by omega) (by omega)
section
variable {n:Nat} {l:List (List Int)} (h:Sq n l) (hn:n≤5) (s:Int)
include h hn
theorem D_b: -1920000000≤det n (colM (bB s) (en l))∧det n (colM (bB s) (en l))≤1920000000:=by
 have h1:=det_abs20 n (colM (bB s) (en l)) (fun i j hi hj=>colM_small h hn s i j hi hj)
 have h2:=b20_le n hn
 omega
end
section
variable {n:Nat} {l:List (List Int)} (h:Sq n l) (hn:n≤5) (s:Int) (x:List Int) (hx: ∀r,r < n→(x.getD r 0).natAbs≤100)
include h hn hx
theorem cset_small (i:Nat):Bk n i (cset i (fun r=>x.getD r 0) (colM (bB s) (en l))):=by
 intro a d ha hd
 unfold cset
 by_cases e:d=i
 ·rw [if_pos e,if_pos e];exact hx a ha
 ·rw [if_neg e,if_neg e];exact colM_small h hn s a d ha hd
theorem dc_b (i:Nat): -1920000000≤dc n (colM (bB s) (en l)) x i∧dc n (colM (bB s) (en l)) x i≤1920000000:=by
 have h1:=det_absk n i _ (cset_small h hn s x hx i)
 have h2:=b20_le n hn
 unfold dc
 omega
def solR (n:Nat) (C:Mat) (x:List Int):List Int × Int × Bool:=if det n C=0 then([],0,false) else((List.range n).map fun i=>sgn (det n C)*dc n C x i,(if det n C < 0 then - det n C else det n C),true)
theorem impl_solve (Q:List Int) (hQ:Q.length=n) (hxl:x.length=n) (hp:0 < n):Ev (fun k=>impl_Problem_solve.f k l Q s x) (solR n (colM (bB s) (en l)) x):=by
 obtain⟨K,hK⟩:=cols_all h hn s Q hQ
 refine⟨K,fun k hk=>?_⟩
 have hc:=hK k hk
 have hL (i:Nat) (hi:i < n):colL k l Q s i=rw1 n (fun r=>colM (bB s) (en l) r i):=by unfold colL;rw [hc i hi];rfl
 have hcM (a d:Nat) (ha:a < n) (hd:d < n):cM (colL k l Q s) n a d=colM (bB s) (en l) a d:=by
  unfold cM
  rw [if_pos hd,hL d hd]
  simp [rw1,ha]
 have hD:dO n (cM (colL k l Q s) n)=det n (colM (bB s) (en l)):=by
  rw [dO_det hn (k:=0) _ (fun i j hi hj=>by rw [hcM i j hi hj];have:=colM_small h hn s i j hi hj;split <;> omega)]
  exact det_congr hcM
 have db:=D_b h hn s
 show impl_Problem_solve.f k l Q s x=_
 unfold impl_Problem_solve.f
 rw [hQ]
 rw [if_pos ⟨hp,by omega,hxl,by
  unfold colOK
  rw [List.all_eq_true]
  intro i hi
  rw [hc i (List.mem_range.1 hi)]
  simp [rw1]⟩]
 rw [hD]
 have e1:impl_sign.f (det n (colM (bB s) (en l)))=some (sgn (det n (colM (bB s) (en l)))):=by
  unfold impl_sign.f sgn
  split
  ·rfl
  ·split <;> rfl
 have e2:impl_size.f (det n (colM (bB s) (en l)))=some (if det n (colM (bB s) (en l)) < 0 then - det n (colM (bB s) (en l)) else det n (colM (bB s) (en l))):=by
  unfold impl_size.f mx
  rw [w64 (x:= - det n (colM (bB s) (en l))) (by omega) (by omega)]
  congr 1
  split <;> split <;> omega
 rw [e1,e2,Option.bind_some,Option.bind_some]
 congr 1
 unfold solR
 by_cases d:det n (colM (bB s) (en l))=0
 ·rw [if_pos d,if_pos d]
 ·rw [if_neg d,if_neg d]
  congr 1
  unfold slL
  refine List.map_congr_left (fun i hi=>?_)
  have hi:=List.mem_range.1 hi
  rw [if_pos hi]
  unfold sl
  have hY (a d:Nat) (ha:a < n) (hd:d < n):pcol (Hd.en (rowsFrom (cM (colL k l Q s) n) n 0)) i x n a d=cset i (fun r=>x.getD r 0) (colM (bB s) (en l)) a d:=by
   unfold pcol cset
   by_cases e:d=i
   ·rw [if_pos ⟨e,ha⟩,if_pos e]
   ·rw [if_neg (fun q=>e q.1),if_neg e,en_rows _ n a d ha hd,hcM a d ha hd]
  rw [dO_det hn (k:=i) _ (fun a d ha hd=>by rw [hY a d ha hd];exact cset_small h hn s x hx i a d ha hd),det_congr hY]
  exact sgn_mul _ _ (dc_b h hn s x hx i)
theorem spec_solve (hxl:x.length=n):Ev (fun k=>spec_l01Solve.f k (mk n n (colM (bB s) (en l))) x) ((List.range n).map (dc n (colM (bB s) (en l)) x),det n (colM (bB s) (en l))):=by
 have hml:=mk_len n n (colM (bB s) (en l))
 have rows: ∀q c,c+q=n→Ev (fun k=>spec_l01Solve.l0 k (mk n n (colM (bB s) (en l))) x ((List.range c).map (dc n (colM (bB s) (en l)) x)) c) ((List.range n).map (dc n (colM (bB s) (en l)) x),det n (colM (bB s) (en l))):=by
  intro q
  induction q with
  | zero=>
   intro c hc
   obtain rfl:c=n:=by omega
   exact evstep (fun k=>by rw [spec_l01Solve.l0]) (evneg (by omega) (evbind (cols_det h hn s) (evc rfl)))
  | succ q ih=>
   intro c hc
   have nx:=ih (c+1) (by omega)
   rw [List.range_succ,List.map_append] at nx
   have build: ∀p r,r+p=n→Ev (fun k=>spec_l01Solve.l1 k (mk n n (colM (bB s) (en l))) x ((List.range c).map (dc n (colM (bB s) (en l)) x)) c (mk r n (cset c (fun r=>x.getD r 0) (colM (bB s) (en l)))) r) ((List.range n).map (dc n (colM (bB s) (en l)) x),det n (colM (bB s) (en l))):=by
    intro p
    induction p with
    | zero=>
     intro r hr
     obtain rfl:r=n:=by omega
     have he (i j:Nat) (hi:i < r) (hj:j < r):en (mk r r (cset c (fun r=>x.getD r 0) (colM (bB s) (en l)))) i j=cset c (fun r=>x.getD r 0) (colM (bB s) (en l)) i j:=mk_en r r _ i j hi hj
     have hd:=Sd.spec_det r (mk r r (cset c (fun r=>x.getD r 0) (colM (bB s) (en l)))) hn (mk_len _ _ _) (mk_rows _ _ _) ⟨c,fun i j hi hj=>by
      show (en (mk r r (cset c (fun r=>x.getD r 0) (colM (bB s) (en l)))) i j).natAbs≤_
      rw [he i j hi hj];exact cset_small h hn s x hx c i j hi hj⟩
     have e:det r (Sd.en (mk r r (cset c (fun r=>x.getD r 0) (colM (bB s) (en l)))))=dc r (colM (bB s) (en l)) x c:=det_congr he
     rw [e] at hd
     refine evstep (fun k=>by rw [spec_l01Solve.l1]) (evneg (by omega) (evbind hd ?_))
     refine evpos (by rw [List.length_map,List.length_range];omega) ?_
     rw [w64 (x:=(c:Int)+1) (by omega) (by omega)]
     exact nx
    | succ p ihp=>
     intro r hr
     have nx2:=ihp (r+1) (by omega)
     rw [mk_succ] at nx2
     refine evstep (fun k=>by rw [spec_l01Solve.l1]) ?_
     rw [rdL1,mk_row n n _ r (by omega)]
     refine evpos (by omega) (evpos (by omega) (evsome (Sd.own_eq _ (by rw [rw1_len];omega)) (evpos (by omega) (evpos (by omega) (evpos (by rw [rw1_len];omega) (evpos (by rw [mk_len];omega) ?_))))))
     rw [rd_nat,Int.toNat_natCast,w64 (x:=(r:Int)+1) (by omega) (by omega),show (rw1 n (colM (bB s) (en l) r)).set c (x.getD r 0)=rw1 n (cset c (fun r=>x.getD r 0) (colM (bB s) (en l)) r) from by
      apply List.ext_getElem
      ·simp [rw1]
      ·intro k h1 h2
       rw [List.getElem_set]
       simp only [rw1,List.getElem_map,List.getElem_range,cset]
       by_cases e:c=k
       ·subst e;simp
       ·rw [if_neg e,if_neg (Ne.symm e)]]
     exact nx2
   refine evstep (fun k=>by rw [spec_l01Solve.l0]) (evpos (by omega) ?_)
   exact build n 0 (by omega)
 exact rows n 0 (by omega)
end
end Go.Proofs.Ytbjljcpngbhkeaa.Sv
end
section
namespace Go.Proofs.Ytbjljcpngbhkeaa.Pr
open Go.RowKit Wz.PrintWords Wz.PrintLast Wz.PrintMore
attribute [local go_sem] max2_int min2_int max_two min_two max_three min_three max_four min_four
mutual
def spec_l04Pivot.j0:Nat→Int→Int→List (List Int)→List Int→Int→Int→List (List Int)→List Int→Option (Int × (List (List Int)) × List Int × Bool)
 | 0,_,_,_,_,_,_,_,_=>none
 | k+1,x1,x6,x7,x8,x9,x10,aa,af=>spec_l04Pivot.l0 k x1 x6 x7 x8 x10 0 aa af (wrap64 (x10*x9)) (([]:List (List Int))) (([]:List Int))
def spec_l04Pivot.l0:Nat→Int→Int→List (List Int)→List Int→Int→Int→List (List Int)→List Int→Int→List (List Int)→List Int→Option (Int × (List (List Int)) × List Int × Bool)
 | 0,_,_,_,_,_,_,_,_,_,_,_=>none
 | k+1,x1,x6,x7,x8,x10,x12,aa,af,ah,ae,ag=>if x12 < x6 then(if 0≤x6 then(if(x6:Int).toNat≤35184372088832 then(if ae.length < 5864062014805 then(if 0≤x12 then(if x12 < (x8.length:Int) then(if ag.length < 17592186044416 then(spec_l04Pivot.l0 k x1 x6 x7 x8 x10 (wrap64 (x12+1)) aa af ah (ae++ [(List.replicate (x6:Int).toNat 0)]) (ag++ [wrap64 (x10*(rd x8 x12))])) else(none)) else(none)) else(none)) else(none)) else(none)) else(none)) else(spec_l04Pivot.l1 k x1 x6 x7 x10 0 aa af ah ae ag)
def spec_l04Pivot.l1:Nat→Int→Int→List (List Int)→Int→Int→List (List Int)→List Int→Int→List (List Int)→List Int→Option (Int × (List (List Int)) × List Int × Bool)
 | 0,_,_,_,_,_,_,_,_,_,_=>none
 | k+1,x1,x6,x7,x10,x13,aa,af,ah,ae,ag=>if x13 < x6 then(if 0≤x6 then(if(x6:Int).toNat≤35184372088832 then(spec_l04Pivot.l2 k x1 x6 x7 x10 x13 (List.replicate (x6:Int).toNat 0) 0 aa af ah ae ag) else(none)) else(none)) else(some (ah,ae,ag,true))
def spec_l04Pivot.l2:Nat→Int→Int→List (List Int)→Int→Int→List Int→Int→List (List Int)→List Int→Int→List (List Int)→List Int→Option (Int × (List (List Int)) × List Int × Bool)
 | 0,_,_,_,_,_,_,_,_,_,_,_,_=>none
 | k+1,x1,x6,x7,x10,x13,x14,x15,aa,af,ah,ae,ag=>if x15 < x6 then(if 0≤(IntKind.u64.wrap (x13)) then(if(Go.bits .and .i64 (shr .i64 x1 (IntKind.u64.wrap (x13))) 1)=0 then(if 0≤x15 then(if x15 < (aa.length:Int) then(if 0≤x13 then(if x13 < ((rd_L2 aa x15).length:Int) then(if x15 < (x14.length:Int) then(spec_l04Pivot.l2 k x1 x6 x7 x10 x13 (x14.set (x15:Int).toNat (rd (rd_L2 aa x15) x13)) (wrap64 (x15+1)) aa af ah ae ag) else(none)) else(none)) else(none)) else(none)) else(none)) else(spec_l04Pivot.l2 k x1 x6 x7 x10 x13 x14 (wrap64 (x15+1)) aa af ah ae ag)) else(none)) else(if 0≤(IntKind.u64.wrap (x13)) then(if(Go.bits .and .i64 (shr .i64 x1 (IntKind.u64.wrap (x13))) 1)=1 then(if 0≤x13 then(if x13 < (x14.length:Int) then(spec_l04Pivot.j4 k x1 x6 x7 x10 x13 (x14.set (x13:Int).toNat (-1)) aa af ah ae ag) else(none)) else(none)) else(spec_l04Pivot.j4 k x1 x6 x7 x10 x13 x14 aa af ah ae ag)) else(none))
def spec_l04Pivot.j4:Nat→Int→Int→List (List Int)→Int→Int→List Int→List (List Int)→List Int→Int→List (List Int)→List Int→Option (Int × (List (List Int)) × List Int × Bool)
 | 0,_,_,_,_,_,_,_,_,_,_,_=>none
 | k+1,x1,x6,x7,x10,x13,x14,aa,af,ah,ae,ag=>(spec_l01Solve.f k x7 x14).bind fun ai=>(spec_l04Pivot.l3 k x1 x6 x7 x10 x13 ai.1 0 aa af ah ae ag)
def spec_l04Pivot.l3:Nat→Int→Int→List (List Int)→Int→Int→List Int→Int→List (List Int)→List Int→Int→List (List Int)→List Int→Option (Int × (List (List Int)) × List Int × Bool)
 | 0,_,_,_,_,_,_,_,_,_,_,_,_=>none
 | k+1,x1,x6,x7,x10,x13,x16,x18,aa,af,ah,ae,ag=>if x18 < x6 then(if 0≤x18 then(if x18 < (ae.length:Int) then(if x18 < (x16.length:Int) then(if 0≤x13 then(if x13 < ((rd_L2 ae x18).length:Int) then(spec_l04Pivot.l3 k x1 x6 x7 x10 x13 x16 (wrap64 (x18+1)) aa af ah (ae.set (x18:Int).toNat ((rd_L2 ae x18).set (x13:Int).toNat (wrap64 (x10*(rd x16 x18))))) ag) else(none)) else(none)) else(none)) else(none)) else(none)) else(spec_l04Pivot.l1 k x1 x6 x7 x10 (wrap64 (x13+1)) aa af ah ae ag)
end
def spec_l04Pivot.f (k:Nat) (af:List (List Int)) (ae:List Int) (a1:Int):Option (Int × (List (List Int)) × List Int × Bool):=(spec_l01Columns.f k af a1).bind fun l9=>((spec_l01Solve.f k l9 ae).bind fun aa=>(if aa.2=0 then(some (0,([]:List (List Int)),([]:List Int),false)) else(if aa.2 < 0 then(spec_l04Pivot.j0 k a1 (ae.length:Int) l9 aa.1 aa.2 (-1) af ae) else(spec_l04Pivot.j0 k a1 (ae.length:Int) l9 aa.1 aa.2 1 af ae))))
def spec_l04Pivot.T1:Bool × List (List Nat × List Nat):=(true, [([], []),([0], [0]),([1], [1]),([], []),([3], [3]),([], []),([4,5], [4,5]),([2,6,0,1,2], [2]),([6,7,0,1,2,3,4,5,6,7], [6])])
def spec_l04Pivot.B1:List Nat:= [0,1,3,0,8,0,56,127,255]
theorem spec_l04Pivot.tab1:rtab .any (opsOf Try.f49 1)=spec_l04Pivot.T1:=by kernel_rfl
theorem spec_l04Pivot.bits1:waitsOk spec_l04Pivot.T1.2 spec_l04Pivot.B1=true:=by kernel_rfl
def spec_l04Pivot.T12:Bool × List (List Nat × List Nat):=(true, [([], []),([0], [0]),([], []),([2,2], [2]),([3], [3]),([1,4], [1,4]),([0,1,2,3,4,5], []),([6,5,5,0,1,2,3,4,5], [5,6])])
def spec_l04Pivot.B12:List Nat:= [0,1,0,4,12,31,63,127]
theorem spec_l04Pivot.tab12:rtab .any (opsOf Try.f49 12)=spec_l04Pivot.T12:=by kernel_rfl
theorem spec_l04Pivot.bits12:waitsOk spec_l04Pivot.T12.2 spec_l04Pivot.B12=true:=by kernel_rfl
def spec_l04Pivot.T13:Bool × List (List Nat × List Nat):=(true, [([], []),([0], [0]),([], []),([], []),([], []),([3,4], [3,4]),([5], [5]),([2,6], [2,6]),([7], [7]),([1,8], [1,8]),([0,1,2,3,4,5,6,7,8,9], []),([10,9,9,0,1,2,3,4,5,6,7,8,9], [9,10])])
def spec_l04Pivot.B13:List Nat:= [0,1,0,0,0,24,56,124,252,511,1023,2047]
theorem spec_l04Pivot.tab13:rtab .any (opsOf Try.f49 13)=spec_l04Pivot.T13:=by kernel_rfl
theorem spec_l04Pivot.bits13:waitsOk spec_l04Pivot.T13.2 spec_l04Pivot.B13=true:=by kernel_rfl
theorem spec_l04Pivot.calls (k:Nat) (aW:Option Addr) (aZ:Nat) (au:List (List Int)) (aX:Option Addr) (a9:Nat) (ae:List Int) (a1:Int) (r1:Int) (r2:List (List Int)) (r3:List Int) (r4:Bool) (w:World) (dC:Kd.C (Kd.slice 2 (Kd.int .i64)) w aW au.length au) (dD:au.length≤aZ) (dE:Kd.C (Kd.int .i64) w aX ae.length ae) (dF:ae.length≤a9) (h:spec_l04Pivot.f k au ae a1=some (r1,r2,r3,r4)):
  Calls Try.prog 49 #[.agg #[.slice aW au.length aZ, .slice aX ae.length a9], .int .i64 a1] w fun e w'=> ∃v1_ v2_:Value,e= .returned (.tuple #[.agg #[.int .i64 r1,v1_,v2_], .bool r4])∧Kd.S (Kd.slice 2 (Kd.int .i64)) 25 w' w.heap.size (fun k_=>some k_≠(v2_:Value).ownBlock) v1_ r2∧Kd.R (Kd.int .i64) 2 w' w.heap.size (fun _=>True) v2_ r3∧Below w.heap.size w w':=by
 have hu27:=Try.underlying27;have hu49:=Try.underlying49;have HR0_0:=q_ dC;have HC0_0:=q_ dD;clear dC dD;have HR0_1:=q_ dE;have HC0_1:=q_ dF;clear dE dF;have HB:=q_ (Below.refl w.heap.size w);have H:((spec_l01Columns.f k au a1).bind fun l9=>((spec_l01Solve.f k l9 ae).bind fun bf=>(if bf.2=0 then(some (0,([]:List (List Int)),([]:List Int),false)) else(if bf.2 < 0 then(spec_l04Pivot.j0 k a1 (ae.length:Int) l9 bf.1 bf.2 (-1) au ae) else(spec_l04Pivot.j0 k a1 (ae.length:Int) l9 bf.1 bf.2 1 au ae)))))=some (r1,r2,r3,r4):=h;clear h;replace H:=Option.bind_eq_some_iff.mp H;obtain⟨l9,A30,H⟩:=H;replace H:((spec_l01Solve.f k l9 ae).bind fun bf=>(if bf.2=0 then(some (0,([]:List (List Int)),([]:List Int),false)) else(if bf.2 < 0 then(spec_l04Pivot.j0 k a1 (ae.length:Int) l9 bf.1 bf.2 (-1) au ae) else(spec_l04Pivot.j0 k a1 (ae.length:Int) l9 bf.1 bf.2 1 au ae))))=some (r1,r2,r3,r4):=H;have A3:=q_ A30;clear A30;replace H:=Option.bind_eq_some_iff.mp H;obtain⟨⟨aQ,aw⟩,A40,H⟩:=H;replace H:(if aw=0 then(some (0,([]:List (List Int)),([]:List Int),false)) else(if aw < 0 then(spec_l04Pivot.j0 k a1 (ae.length:Int) l9 aQ aw (-1) au ae) else(spec_l04Pivot.j0 k a1 (ae.length:Int) l9 aQ aw 1 au ae)))=some (r1,r2,r3,r4):=H;have A4:=q_ A40;clear A40
 by_cases c5:aw=0
 ·rw [if_pos c5] at H;have c5b0:=e1_ c5;have c5b1:=e2_ c5;clear c5;simp only [Option.some.injEq,Prod.mk.injEq] at H;obtain⟨rfl,rfl,rfl,rfl⟩:=H
  go_enter Try.func49,Try.ntmps49
  try go_wp2_with (first | ((with_reducible refine gate_dst (N:=2) rfl ?_);refine be_ 2 #[.slice aW au.length aZ, .slice aX ae.length a9] 27 ?_;intro aI hg w6 hbox hb;have af:=q_ (hbox);have eB:=gz_ w hg;have eC:=gz_ w hg;replace HB:=Bs_ hb;clear hb hbox hg) | ((with_reducible refine gate_dst (N:=4) rfl ?_);refine be_ 4 #[.int .i64 0, .slice none 0 0, .slice none 0 0] 49 ?_;intro aH hg w7 hbox hb;have aj:=q_ (hbox);have eF:=gz_ w hg;have eG:=gz_ w hg;have bv:=lz_ hg af;have bw:=mz_ hg af;replace af:=Bb_ af hb;replace HB:=Bs_ hb;clear hb hbox hg))
  replace af:=q_ (blk_drew af.out);replace aj:=q_ (blk_drew aj.out);replace HB:=q_ (below_drew1 HB.out);refine st_ (n:=9) (S:=fun w'=>w'.cell? ⟨aI,0,none⟩=some (.slice aW au.length aZ)∧w'.cell? ⟨aI,1,none⟩=some (.slice aX ae.length a9)) (ds:= []) ⟨(blk_cell af.out 0).trans rfl,(blk_cell af.out 1).trans rfl⟩ (fun hHeld=>?_);refine with_tabW spec_l04Pivot.tab1 spec_l04Pivot.bits1 (fun HT_ HW_=>?_)
  generalize w7.drew=w8 at af aj HB hHeld ⊢
  refine p3_ 0 20 3 23 5 25 ?_;refine tk_ 1 21 ?_;refine pu_ 2 22 ?_;refine tk_ 4 24 ?_
  refine on_ 6 (some 26) (fun K hK=>?_)
  refine goes_ Try.func57 (by kernel_rfl) rfl #[.slice aW au.length aZ, .int .i64 a1] (by rfl) rfl rfl (by(try simp only [List.map_toArray,List.map_cons,List.map_nil]);first | done | rfl | (simp only [List.length_drop,List.length_take];rfl)) ?_
  with_reducible refine(spec_l01Columns.calls k _ _ au a1 l9 _ ?bA ?bC A3.out).mono ?_
  (case bA=>exact cb_ HR0_0.out HB.out)
  (case bC=>exact HC0_0.out)
  rintro e w9 ⟨v9_,rfl,ho0,hb⟩;obtain⟨A9,c9,e9_⟩:=Kd.S_slice ho0;subst e9_;refine⟨_,rfl,?_⟩
  have HR9:=q_ (Kd.S_lower ho0 bz_);replace af:=Bb_ af hb;replace aj:=Bb_ aj hb;replace HB:=Bs_ hb;(try clear hb)
  
  (try clear hk)
  
  (try clear ho0);refine hK.out _ _ ⟨(blk_cell af.out 0).trans rfl,(blk_cell af.out 1).trans rfl⟩ (fun hHeld=>?_)
  clear hK K;refine norm_ (a':=?_) ?_ ?_
  rotate_left
  ·show Act.put _ (some 26) _=_
   simp only [Act.put,List.setIfInBounds_toArray,List.set_cons_zero,List.set_cons_succ,i64_w,i32_w]
   rfl
  refine p2_ 7 6 8 7 ?_
  refine done_ (done_of HT_.out (by kernel_rfl)) ?_
  have HBo0:=HB;have HS9:=HR9;have HR00:=HR0_0;have HR01:=HR0_1;clear HB HR9 HR0_0 HR0_1;obtain⟨wO,hwO⟩: ∃x:World,x=w:=⟨_,rfl⟩
  subst hwO;obtain⟨w,hw⟩: ∃x:World,x=w9:=⟨_,rfl⟩
  have HB:Aside0 (Below w.heap.size w w9):=⟨by rw [hw];exact Below.refl _ _⟩
  have HBo:Aside0 (Below wO.heap.size wO w):=⟨by rw [hw];exact HBo0.out⟩
  have HR9:Aside0 (Kd.C (Kd.slice 2 (Kd.int .i64)) w A9 l9.length l9):=⟨by rw [hw];exact(Kd.S_reads' HS9.out).2.2⟩
  have HC9:Aside0 (l9.length≤c9):=⟨(Kd.S_reads' HS9.out).2.1⟩
  have HR0_0:Aside0 (Kd.C (Kd.slice 2 (Kd.int .i64)) w aW au.length au):=⟨by rw [hw];exact Kd.C_below HR00.out HBo0.out⟩
  have HR0_1:Aside0 (Kd.C (Kd.int .i64) w aX ae.length ae):=⟨by rw [hw];exact Kd.C_below HR01.out HBo0.out⟩
  clear HBo0 HS9 HR00 HR01 hw;have fW:=bv.out;have fZ:=bw.out;obtain⟨bD,bE,bF,bG⟩:=c2_ af
  try go_wp2_with (first | ((with_reducible refine gate_callee (f:=74) rfl ?_);refine gL_ 31 Try.func74 #[.slice A9 l9.length c9, .slice aX ae.length a9] ?_;(with_reducible refine(spec_l01Solve.calls k _ _ l9 _ _ ae aQ aw _ ?bA ?bC ?cz ?cA A4.out).mono ?_);(case bA=>exact cb_ HR9.out HB.out);(case bC=>exact HC9.out);(case cz=>exact cb_ HR0_1.out HB.out);(case cA=>exact HC0_1.out);rintro e w12 ⟨bR,rfl,ho0,hb⟩;refine⟨_,rfl,?_⟩;have cV:=q_ (Kd.R_lower ho0 bz_);replace af:=Bb_ af hb;replace aj:=Bb_ aj hb;replace HB:=Bs_ hb;(try clear hb);(try clear hk);(try clear ho0);obtain⟨bH,bI,bJ,bK,bL,bM⟩:=c3_ aj))
  have HB:=q_ (below_step HBo.out HB.out);refine bodyPost_ret (results_ct rfl _ _ aH 49 #[.int .i64 0, .slice none 0 0, .slice none 0 0] (0,0) _ rfl (bw_) Try.underlying49 rfl (by kernel_rfl)) rfl ?_
  exact⟨_,_,ew_,by first | exact Kd.S_nil _ _ _ _ _ | exact Kd.N_nil _ _ _ _ _ | exact Kd.V_nil _ _ _ _ _ | exact Kd.Q_nil _ _ _ _ _ | exact Kd.R_nil _ _ _ _ _,by first | exact Kd.R_nil _ _ _ _ _ | exact Kd.N_nil _ _ _ _ _ | exact Kd.V_nil _ _ _ _ _ | exact Kd.Q_nil _ _ _ _ _ | exact Kd.S_nil _ _ _ _ _,hb_⟩
 ·rw [if_neg c5] at H;have c5b0:=e3_ c5;have c5b1:=e4_ c5;have HC14:=q_ H;clear H
  go_enter Try.func49,Try.ntmps49
  try go_wp2_with (first | ((with_reducible refine gate_dst (N:=2) rfl ?_);refine be_ 2 #[.slice aW au.length aZ, .slice aX ae.length a9] 27 ?_;intro aI hg w15 hbox hb;have af:=q_ (hbox);have eB:=gz_ w hg;have eC:=gz_ w hg;replace HB:=Bs_ hb;clear hb hbox hg) | ((with_reducible refine gate_dst (N:=4) rfl ?_);refine be_ 4 #[.int .i64 0, .slice none 0 0, .slice none 0 0] 49 ?_;intro aH hg w16 hbox hb;have aj:=q_ (hbox);have eF:=gz_ w hg;have eG:=gz_ w hg;have bv:=lz_ hg af;have bw:=mz_ hg af;replace af:=Bb_ af hb;replace HB:=Bs_ hb;clear hb hbox hg))
  replace af:=q_ (blk_drew af.out);replace aj:=q_ (blk_drew aj.out);replace HB:=q_ (below_drew1 HB.out);refine st_ (n:=9) (S:=fun w'=>w'.cell? ⟨aI,0,none⟩=some (.slice aW au.length aZ)∧w'.cell? ⟨aI,1,none⟩=some (.slice aX ae.length a9)) (ds:= []) ⟨(blk_cell af.out 0).trans rfl,(blk_cell af.out 1).trans rfl⟩ (fun hHeld=>?_);refine with_tabW spec_l04Pivot.tab1 spec_l04Pivot.bits1 (fun HT_ HW_=>?_)
  generalize w16.drew=w17 at af aj HB hHeld ⊢
  refine p3_ 0 20 3 23 5 25 ?_;refine tk_ 1 21 ?_;refine pu_ 2 22 ?_;refine tk_ 4 24 ?_
  refine on_ 6 (some 26) (fun K hK=>?_)
  refine goes_ Try.func57 (by kernel_rfl) rfl #[.slice aW au.length aZ, .int .i64 a1] (by rfl) rfl rfl (by(try simp only [List.map_toArray,List.map_cons,List.map_nil]);first | done | rfl | (simp only [List.length_drop,List.length_take];rfl)) ?_
  with_reducible refine(spec_l01Columns.calls k _ _ au a1 l9 _ ?bA ?bC A3.out).mono ?_
  (case bA=>exact cb_ HR0_0.out HB.out)
  (case bC=>exact HC0_0.out)
  rintro e w18 ⟨v9_,rfl,ho0,hb⟩;obtain⟨A9,c9,e9_⟩:=Kd.S_slice ho0;subst e9_;refine⟨_,rfl,?_⟩
  have HR9:=q_ (Kd.S_lower ho0 bz_);replace af:=Bb_ af hb;replace aj:=Bb_ aj hb;replace HB:=Bs_ hb;(try clear hb)
  
  (try clear hk)
  
  (try clear ho0);refine hK.out _ _ ⟨(blk_cell af.out 0).trans rfl,(blk_cell af.out 1).trans rfl⟩ (fun hHeld=>?_)
  clear hK K;refine norm_ (a':=?_) ?_ ?_
  rotate_left
  ·show Act.put _ (some 26) _=_
   simp only [Act.put,List.setIfInBounds_toArray,List.set_cons_zero,List.set_cons_succ,i64_w,i32_w]
   rfl
  refine p2_ 7 6 8 7 ?_
  refine done_ (done_of HT_.out (by kernel_rfl)) ?_
  have HBo0:=HB;have HS9:=HR9;have HR00:=HR0_0;have HR01:=HR0_1;clear HB HR9 HR0_0 HR0_1;obtain⟨wO,hwO⟩: ∃x:World,x=w:=⟨_,rfl⟩
  subst hwO;obtain⟨w,hw⟩: ∃x:World,x=w18:=⟨_,rfl⟩
  have HB:Aside0 (Below w.heap.size w w18):=⟨by rw [hw];exact Below.refl _ _⟩
  have HBo:Aside0 (Below wO.heap.size wO w):=⟨by rw [hw];exact HBo0.out⟩
  have HR9:Aside0 (Kd.C (Kd.slice 2 (Kd.int .i64)) w A9 l9.length l9):=⟨by rw [hw];exact(Kd.S_reads' HS9.out).2.2⟩
  have HC9:Aside0 (l9.length≤c9):=⟨(Kd.S_reads' HS9.out).2.1⟩
  have HR0_0:Aside0 (Kd.C (Kd.slice 2 (Kd.int .i64)) w aW au.length au):=⟨by rw [hw];exact Kd.C_below HR00.out HBo0.out⟩
  have HR0_1:Aside0 (Kd.C (Kd.int .i64) w aX ae.length ae):=⟨by rw [hw];exact Kd.C_below HR01.out HBo0.out⟩
  clear HBo0 HS9 HR00 HR01 hw;have f7:=bv.out;have f8:=bw.out;obtain⟨bN,bO,bP,bQ⟩:=c2_ af
  go_upto_if 38 with (first | ((with_reducible refine gate_callee (f:=74) rfl ?_);refine gL_ 31 Try.func74 #[.slice A9 l9.length c9, .slice aX ae.length a9] ?_;(with_reducible refine(spec_l01Solve.calls k _ _ l9 _ _ ae aQ aw _ ?bA ?bC ?cz ?cA A4.out).mono ?_);(case bA=>exact cb_ HR9.out HB.out);(case bC=>exact HC9.out);(case cz=>exact cb_ HR0_1.out HB.out);(case cA=>exact HC0_1.out);rintro e w21 ⟨bR,rfl,ho0,hb⟩;refine⟨_,rfl,?_⟩;have cV:=q_ (Kd.R_lower ho0 bz_);replace af:=Bb_ af hb;replace aj:=Bb_ aj hb;replace HB:=Bs_ hb;(try clear hb);(try clear hk);(try clear ho0)))
  (try simp only [Act.put,List.setIfInBounds_toArray,List.set_cons_zero,List.set_cons_succ])
  go_cut [10] (fun v10 wc=> ∃(kq:Nat) (aa:Int),v10= .int .i64 aa∧Aside0 (spec_l04Pivot.j0 kq a1 (ae.length:Int) l9 aQ aw aa au ae=some (r1,r2,r3,r4))∧Aside0 (kq≤k)∧Aside0 (Kd.R (Kd.int .i64) 2 wc w.heap.size (fun _=>True) bR aQ)∧Aside0 (wc.heap[aI]?=some (.cells #[(.slice aW au.length aZ),(.slice aX ae.length a9)] 27 (0,0)))∧Aside0 (wc.heap[aH]?=some (.cells #[.int .i64 0,(.slice none 0 0),(.slice none 0 0)] 49 (0,0)))∧Aside0 (Below w.heap.size w wc))
  case first=>
   have H:=HC14.out;clear HC14
   by_cases c22:aw < 0
   ·rw [if_pos c22] at H;have c22b0:=decide_eq_true c22;clear c22
    (first | rw [c22b0] | (simp only [i64_w,i32_w];rw [c22b0]) | skip)
    have H':=q_ H;clear H;go_wp2
    go_meet
    case rel=>exact⟨_,((-1)),rs_,H',⟨by first | omega | exact Nat.le_refl _⟩,⟨ro_ cV.out⟩,⟨bk_⟩,⟨bk_⟩,⟨hb_⟩⟩
   ·rw [if_neg c22] at H;have c22b0:=decide_eq_false c22;clear c22
    (first | rw [c22b0] | (simp only [i64_w,i32_w];rw [c22b0]) | skip)
    have H':=q_ H;clear H;go_wp2
    go_meet
    case rel=>exact⟨_,(1),rs_,H',⟨by first | omega | exact Nat.le_refl _⟩,⟨ro_ cV.out⟩,⟨bk_⟩,⟨bk_⟩,⟨hb_⟩⟩
  case rest=>
   clear HC14;(try clear c5);(try clear c5b0);(try clear c5b1);(try clear c9);(try clear c22b0);(try clear bD);(try clear bE);(try clear bH);(try clear bI);(try clear bJ);(try clear bN);(try clear bO);(try clear bF);(try clear bG);(try clear bK);(try clear bL);(try clear bM);(try clear bP);(try clear bQ);obtain⟨kq,aa,rfl,HA,HJ13,aM,af,aj,HB⟩:=hcut;cases kq with
   | zero=>exact absurd HA.out (by simp [spec_l04Pivot.j0])
   | succ kj13=>
    have H:=HA.out;clear HA;simp only [spec_l04Pivot.j0] at H;obtain⟨bY,hy⟩: ∃y_:List (List Int),y_=(([]:List (List Int))):=⟨_,rfl⟩
    replace H:(spec_l04Pivot.l0 kj13 a1 (ae.length:Int) l9 aQ aa 0 au ae (wrap64 (aa*aw)) bY (([]:List Int)))=some (r1,r2,r3,r4):=hh_;have dG:=q_ hy;clear hy;obtain⟨cC,hy⟩: ∃y_:List Int,y_=(([]:List Int)):=⟨_,rfl⟩
    replace H:(spec_l04Pivot.l0 kj13 a1 (ae.length:Int) l9 aQ aa 0 au ae (wrap64 (aa*aw)) bY cC)=some (r1,r2,r3,r4):=hh_;have dH:=q_ hy;clear hy;have H':=q_ H;clear H
    go_wp2_with (first | ((with_reducible refine gate_dst (N:=42) rfl ?_);refine Kd.S_lit (Kd.slice 2 (Kd.int .i64)) _ 25 ?hg (N:=42) ?hd (xs:=([]:List (List Int))) (inner:= []) (ok:=fun _=>True) (okp:=fun _=>True) ?hr ?hp (fun _ hk=>hk) trivial (Below.refl _ _) (Nat.le_refl _) (by simp) ?_;(case hd=>rfl);(case hg=>rfl);(case hr=>first | (go_simp;done) | (go_simp;rfl));(case hp=>exact(Reps.none _ _));intro gI w23 cJ hb hg_ hnew_;clear hg_ hnew_;(first | rw [← dG.out] at cJ | (simp only [Int.reduceToNat] at cJ;rw [← dG.out] at cJ));have cg:=q_ (Kd.S_lower (Kd.S_new' cJ (Kd.R_lt (ro_ aM.out))) bz_);replace af:=Bb_ af hb;replace aj:=Bb_ aj hb;replace aM:=Rb_ aM hb;replace HB:=Bs_ hb;clear hb cJ) | ((with_reducible refine gate_dst (N:=43) rfl ?_);refine Kd.R_lit (Kd.int .i64) _ 2 ?hg (N:=43) ?hd (xs:=([]:List Int)) (inner:= []) (ok:=fun _=>True) (okp:=fun _=>True) ?hr ?hp (fun _ hk=>hk) trivial (Below.refl _ _) (Nat.le_refl _) (by simp) ?_;(case hd=>rfl);(case hg=>rfl);(case hr=>first | (go_simp;done) | (go_simp;rfl));(case hp=>exact(Reps.none _ _));intro gJ w25 cm hb hg_ hnew_;clear hg_ hnew_;(first | rw [← dH.out] at cm | (simp only [Int.reduceToNat] at cm;rw [← dH.out] at cm));replace cg:=q_ (Kd.S_elder' (so_ cg.out) (Kd.R_base cm) hb);have cF:=q_ (Kd.R_lower (Kd.R_new' cm (Kd.R_lt (ro_ aM.out))) bz_);replace af:=Bb_ af hb;replace aj:=Bb_ aj hb;replace aM:=q_ (Kd.R_elder' (ro_ aM.out) (Kd.R_base cm) hb);replace HB:=Bs_ hb;clear hb cm;obtain⟨cZ,da,eW⟩:=Kd.R_slice cF.out;subst eW;obtain⟨cK,cL,eX⟩:=Kd.S_slice cg.out;subst eX) | ((with_reducible refine gate_dst (N:=11) rfl ?_);refine be_ 11 #[.int .i64 0, .slice none 0 0, .slice none 0 0] 49 ?_;intro av hg w29 hbox hb;replace aM:=Rb_ aM hb;replace cg:=q_ (Kd.S_below (so_ cg.out) hb);replace cF:=Rb_ cF hb;have ah:=q_ (hbox);have f9:=gz_ w hg;have ga:=gz_ w hg;have aT:=lz_ hg af;have bq:=mz_ hg af;have aU:=lz_ hg aj;have bz:=mz_ hg aj;replace af:=Bb_ af hb;replace aj:=Bb_ aj hb;replace HB:=Bs_ hb;clear hb hbox hg;have gh:=bq.out;have gi:=aT.out;have gj:=bz.out;have gp:=aU.out;obtain⟨bS,bT,bU,bV,bW,bX⟩:=c3_ ah))
    go_loopg [12] kj13 (fun kq v12 w'=> ∃(aJ:Int) (aV:List (List Int)) (aN:List Int) (aC:Value) (aq:Value),v12= .int .i64 aJ∧Aside0 (spec_l04Pivot.l0 kq a1 (ae.length:Int) l9 aQ aa aJ au ae (wrap64 (aa*aw)) aV aN=some (r1,r2,r3,r4))∧Aside0 (kq≤kj13)∧Aside0 (Kd.R (Kd.int .i64) 2 w' w.heap.size (fun k_=>some k_≠(aq:Value).ownBlock) bR aQ)∧Aside0 (Kd.S (Kd.slice 2 (Kd.int .i64)) 25 w' w.heap.size (fun k_=>some k_≠(bR:Value).ownBlock∧some k_≠(aq:Value).ownBlock) aC aV)∧Aside0 (Kd.R (Kd.int .i64) 2 w' w.heap.size (fun k_=>some k_≠(bR:Value).ownBlock) aq aN)∧Aside0 (w'.heap[aI]?=some (.cells #[(.slice aW au.length aZ),(.slice aX ae.length a9)] 27 (0,0)))∧Aside0 (w'.heap[aH]?=some (.cells #[.int .i64 0,(.slice none 0 0),(.slice none 0 0)] 49 (0,0)))∧Aside0 (w'.heap[av]?=some (.cells #[.int .i64 (wrap64 (aa*aw)),aC,aq] 49 (0,0)))∧Aside0 (Below w.heap.size w w'))
    case atStart=>exact⟨(0),(bY),(cC),(.slice cK bY.length cL),(.slice cZ cC.length da),rs_,H',⟨Nat.le_refl _⟩,⟨kR_ (rf3_ aM.out ah.out) (fun _ hk=>hk.1.2)⟩,⟨kS_ (sf3_ cg.out ah.out) (fun _ hk=>⟨hk.1.1.2,hk.1.2⟩)⟩,⟨kR_ (rf3_ cF.out ah.out) (fun _ hk=>hk.1.2)⟩,⟨bw_⟩,⟨bw_⟩,⟨bw_⟩,⟨hb_⟩⟩
    case round=>
     clear H';(try clear c5);(try clear c5b0);(try clear c5b1);(try clear c9);(try clear c22b0);(try clear bD);(try clear bE);(try clear bH);(try clear bI);(try clear bJ);(try clear bN);(try clear bO);(try clear bS);(try clear bT);(try clear bU);(try clear bF);(try clear bG);(try clear bK);(try clear bL);(try clear bM);(try clear bP);(try clear bQ);(try clear bV);(try clear bW);(try clear bX);obtain⟨aJ,aV,aN,aC,aq,rfl,HA,HK2,aM,ai,ag,af,aj,ah,HB⟩:=hrel;cases gk with
     | zero=>exact absurd HA.out (by simp [spec_l04Pivot.l0])
     | succ k2=>
      have H:=HA.out;clear HA;simp only [spec_l04Pivot.l0] at H
      by_cases c33:aJ < (ae.length:Int)
      ·rw [if_pos c33] at H;have c33b0:=decide_eq_true c33;clear c33
       by_cases c34:0≤(ae.length:Int)
       ·rw [if_pos c34] at H;have c34b0:=eq_true c34;have c34b1:=decide_eq_true c34;clear c34
        by_cases c35:((ae.length:Int):Int).toNat≤35184372088832
        ·rw [if_pos c35] at H;have c35b0:=eq_true c35;have c35b1:=decide_eq_true c35;clear c35;obtain⟨cN,hy⟩: ∃y_:List Int,y_=(List.replicate ((ae.length:Int):Int).toNat 0):=⟨_,rfl⟩
         replace H:(if aV.length < 5864062014805 then(if 0≤aJ then(if aJ < (aQ.length:Int) then(if aN.length < 17592186044416 then(spec_l04Pivot.l0 k2 a1 (ae.length:Int) l9 aQ aa (wrap64 (aJ+1)) au ae (wrap64 (aa*aw)) (aV++ [cN]) (aN++ [wrap64 (aa*(rd aQ aJ))])) else(none)) else(none)) else(none)) else(none))=some (r1,r2,r3,r4):=hh_;have dI:=q_ hy;clear hy
         by_cases c36:aV.length < 5864062014805
         ·rw [if_pos c36] at H;have eH:=q_ c36;clear c36;obtain⟨aY,hy⟩: ∃y_:List (List Int),y_=(aV++ [cN]):=⟨_,rfl⟩
          replace H:(if 0≤aJ then(if aJ < (aQ.length:Int) then(if aN.length < 17592186044416 then(spec_l04Pivot.l0 k2 a1 (ae.length:Int) l9 aQ aa (wrap64 (aJ+1)) au ae (wrap64 (aa*aw)) aY (aN++ [wrap64 (aa*(rd aQ aJ))])) else(none)) else(none)) else(none))=some (r1,r2,r3,r4):=hh_;have eI:=q_ hy;clear hy
          by_cases c37:0≤aJ
          ·rw [if_pos c37] at H;have c37b0:=decide_eq_true c37;clear c37
           by_cases c38:aJ < (aQ.length:Int)
           ·rw [if_pos c38] at H;have c38b0:=decide_eq_true c38;clear c38
            by_cases c39:aN.length < 17592186044416
            ·rw [if_pos c39] at H;have eJ:=q_ c39;clear c39;obtain⟨cD,hy⟩: ∃y_:List Int,y_=(aN++ [wrap64 (aa*(rd aQ aJ))]):=⟨_,rfl⟩
             replace H:(spec_l04Pivot.l0 k2 a1 (ae.length:Int) l9 aQ aa (wrap64 (aJ+1)) au ae (wrap64 (aa*aw)) aY cD)=some (r1,r2,r3,r4):=hh_;have eK:=q_ hy;clear hy;have H':=q_ H;clear H
             try go_wp2
             replace aM:=q_ (Kd.R_drew aM.out);replace ai:=q_ (Kd.S_drew ai.out);replace ag:=q_ (Kd.R_drew ag.out);replace af:=q_ (blk_drew af.out);replace aj:=q_ (blk_drew aj.out);replace ah:=q_ (blk_drew ah.out);replace HB:=q_ (below_drew1 HB.out);refine st_ (n:=8) (S:=fun w'=>w'.cell? ⟨av,0,none⟩=some (.int .i64 (wrap64 (aa*aw)))∧w'.cell? ⟨av,1,none⟩=some (aC)∧w'.cell? ⟨av,2,none⟩=some (aq)) (ds:= [7]) ⟨(blk_cell ah.out 0).trans rfl,(blk_cell ah.out 1).trans rfl,(blk_cell ah.out 2).trans rfl⟩ (fun hHeld=>?_);refine with_tabW spec_l04Pivot.tab12 spec_l04Pivot.bits12 (fun HT_ HW_=>?_)
             generalize wr.drew=w40 at aM ai ag af aj ah HB hHeld ⊢
             refine p2_ 0 50 2 52 ?_;refine tk_ 1 51 ?_
             refine on_ 3 (some 53) (fun K hK=>?_)
             refine Kd.R_make_step (Kd.int .i64) _ 2 (by rfl) (N:=53) rfl 25 _ _ rfl (ae.length:Int) rfl rfl Try.underlying25 (.int .i64 0) 8 info2 rfl (by decide) (by omega) 0 (ok:=fun _=>True) (okp:=fun _=>True) rfl (fun _ hk=>hk) trivial od_ (Nat.le_trans (Nat.mul_le_mul_right _ (od_:(ae.length:Int).toNat≤35184372088832)) (by omega)) (Below.refl _ _) (Nat.le_refl _) ?_
             intro gK w41 bZ hb hg_ hnew_;clear hg_ hnew_
             (first | rw [← dI.out] at bZ | (simp only [Int.reduceToNat] at bZ;rw [← dI.out] at bZ))
             replace ai:=q_ (Kd.S_elder' (so_ ai.out) (Kd.R_base bZ) hb);have cG:=q_ (Kd.R_lower (Kd.R_new' (Kd.R_new' bZ (Kd.R_lt (ro_ aM.out))) (Kd.R_lt (ro_ ag.out))) bz_);replace af:=Bb_ af hb;replace aj:=Bb_ aj hb;replace ah:=Bb_ ah hb;replace aM:=q_ (Kd.R_elder' (ro_ aM.out) (Kd.R_base bZ) hb);replace ag:=q_ (Kd.R_elder' (ro_ ag.out) (Kd.R_base bZ) hb);replace HB:=Bs_ hb;clear hb bZ;obtain⟨dM,dN,dP⟩:=Kd.R_slice cG.out
             (first | subst dP | (injection dP with f1_ f2_ f3_;have f4_:=f1_.symm;have f5_:=f3_.symm;clear f1_ f2_ f3_;subst f4_;subst f5_))
             refine hK.out _ _ ⟨(blk_cell ah.out 0).trans rfl,(blk_cell ah.out 1).trans rfl,(blk_cell ah.out 2).trans rfl⟩ (fun hHeld=>?_)
             clear hK K;refine norm_ (a':=?_) ?_ ?_
             rotate_left
             ·show Act.put _ (some 53) _=_
              simp only [Act.put,List.setIfInBounds_toArray,List.set_cons_zero,List.set_cons_succ,i64_w,i32_w]
              rfl
             refine on_ 4 (some 54) (fun K hK=>?_)
             refine value_ (w1:=?_) (v:=?_) (by rfl) rfl ?_ ?_
             rotate_left 2
             ·go_simp
              constructor
              ·rfl
              ·rfl
             refine hK.out _ _ ⟨(blk_cell (blk_alloc ah.out _) 0).trans rfl,(blk_cell (blk_alloc ah.out _) 1).trans rfl,(blk_cell (blk_alloc ah.out _) 2).trans rfl⟩ (fun hHeld=>?_)
             clear hK K;refine norm_ (a':=?_) ?_ ?_
             rotate_left
             ·show Act.put _ (some 54) _=_
              simp only [Act.put,List.setIfInBounds_toArray,List.set_cons_zero,List.set_cons_succ,i64_w,i32_w]
              rfl
             refine on_ 5 (some 55) (fun K hK=>?_)
             refine Kd.S_append_step (Kd.slice 2 (Kd.int .i64)) (w0:=w) w.heap.size (by rfl) (.tmp 51) (.tmp 54) 24 25 (.slice none 0 0) 24 rfl Try.underlying24 info25 rfl (by decide) (by omega) aC aV cN [.slice dM cN.length dN] (fun k_=>some k_≠(bR:Value).ownBlock∧some k_≠(aq:Value).ownBlock) (fun k_=>some k_=(.slice dM cN.length dN:Value).ownBlock) rfl rfl ?aP (fun k_ hk_=>((Kd.R_mono (ok':=fun k_=>((fun k_=>some k_≠(bR:Value).ownBlock∧some k_≠(aq:Value).ownBlock)) k_∧some k_≠(aC:Value).ownBlock) (Kd.R_apart' (cG.out) (Kd.S_typed ai.out) (by decide)) (fun k_ hk=>⟨⟨hk.1.1.2,hk.1.2⟩,hk.2⟩))).1 k_ hk_.symm) ?aF ?aO ?aB ?aS ?aL ?_
             (case aP=>exact Kd.M_row (Kd.R_mono (Kd.R_tight rfl (Kd.R_mono (ok':=fun k_=>((fun k_=>some k_≠(bR:Value).ownBlock∧some k_≠(aq:Value).ownBlock)) k_∧some k_≠(aC:Value).ownBlock) (Kd.R_apart' (cG.out) (Kd.S_typed ai.out) (by decide)) (fun k_ hk=>⟨⟨hk.1.1.2,hk.1.2⟩,hk.2⟩))) (fun _ h_=>h_)))
             (case aB=>exact hb_)
             (case aF=>exact(fun k_ hk=>⟨Kd.fresh' (Kd.R_lt (ro_ aM.out)) k_ hk,Kd.fresh' (Kd.R_lt (ro_ ag.out)) k_ hk⟩))
             (case aO=>exact(kS_ ai.out (fun k_ hk=>⟨⟨hk.1.1,hk.1.2⟩,fun e_=>hk.2 e_⟩)))
             (case aS=>exact bz_)
             (case aL=>have:=eH.out;omega)
             intro gL w43 ho hb hg hat;rw [← eI.out] at ho;replace aM:=q_ (Kd.R_over' (ro_ aM.out) (Kd.S_typed (so_ ai.out)) (by decide) hg);replace ag:=q_ (Kd.R_over' (ro_ ag.out) (Kd.S_typed (so_ ai.out)) (by decide) hg);replace af:=q_ (bg_ af.out hg (Kd.S_ne ai.out af.out (by decide)));replace aj:=q_ (bg_ aj.out hg (Kd.S_ne ai.out aj.out (by decide)));replace ah:=q_ (bg_ ah.out hg (Kd.S_ne ai.out ah.out (by decide)));replace HB:=q_ (hb);have bu:=q_ (ho);clear ai cG ho hb hg hat;obtain⟨bh,bk,dQ⟩:=Kd.S_slice bu.out
             (first | subst dQ | (injection dQ with f1_ f2_ f3_;have f4_:=f1_.symm;have f5_:=f3_.symm;clear f1_ f2_ f3_;subst f4_;subst f5_))
             refine hK.out _ _ ⟨(blk_cell ah.out 0).trans rfl,(blk_cell ah.out 1).trans rfl,(blk_cell ah.out 2).trans rfl⟩ (fun hHeld=>?_)
             clear hK K;refine norm_ (a':=?_) ?_ ?_
             rotate_left
             ·show Act.put _ (some 55) _=_
              simp only [Act.put,List.setIfInBounds_toArray,List.set_cons_zero,List.set_cons_succ,i64_w,i32_w]
              rfl
             refine pu_ 6 56 ?_
             refine la_ 7 none (fun K hK=>?_)
             have hs46:=cz_ ah 1;have hfs46:=blk_frozen ah.out 1;have hns46_0:=aT.out;have hns46_1:=aU.out;have hms46_0:=bq.out;have hms46_1:=bz.out;refine skip_ (w1:=?_) (by rfl) rfl ?_ ?_
             rotate_left
             ·go_simp
              rfl
             refine hK.out _ _ ?_
             clear hK K;refine done_ (done_of HT_.out (by kernel_rfl)) ?_
             try go_wp2
             have n0_:Aside0 (Kd.R (Kd.int .i64) 2 (w43.setCell ⟨av,1,none⟩ (.slice bh aY.length bk)) w.heap.size (fun k_=>some k_≠(aq:Value).ownBlock) bR aQ):=⟨kR_ (Kd.R_far (p:=⟨av,1,none⟩) (Kd.R_types aM.out ah.out (by decide)) (fun _ hk=>hk.2) (.slice bh aY.length bk)) (fun _ hk=>hk.1.1)⟩
             have n1_:Aside0 (Kd.R (Kd.int .i64) 2 (w43.setCell ⟨av,1,none⟩ (.slice bh aY.length bk)) w.heap.size (fun k_=>some k_≠(bR:Value).ownBlock) aq aN):=⟨kR_ (Kd.R_far (p:=⟨av,1,none⟩) (Kd.R_types ag.out ah.out (by decide)) (fun _ hk=>hk.2) (.slice bh aY.length bk)) (fun _ hk=>hk.1.1)⟩
             have n2_:Aside0 (Kd.S (Kd.slice 2 (Kd.int .i64)) 25 (w43.setCell ⟨av,1,none⟩ (.slice bh aY.length bk)) w.heap.size (fun k_=>some k_≠(bR:Value).ownBlock∧some k_≠(aq:Value).ownBlock) (.slice bh aY.length bk) aY):=⟨kS_ (Kd.S_far (p:=⟨av,1,none⟩) (Kd.S_types bu.out ah.out (by decide)) (fun _ hk=>hk.2) (.slice bh aY.length bk)) (fun _ hk=>⟨hk.1.1,hk.1.2⟩)⟩
             have n3_:Aside0 ((w43.setCell ⟨av,1,none⟩ (.slice bh aY.length bk)).heap[aI]?=some (.cells #[.slice aW au.length aZ, .slice aX ae.length a9] 27 (0,0))):=⟨bw_⟩
             have n4_:Aside0 ((w43.setCell ⟨av,1,none⟩ (.slice bh aY.length bk)).heap[aH]?=some (.cells #[.int .i64 0, .slice none 0 0, .slice none 0 0] 49 (0,0))):=⟨bw_⟩
             have n5_:Aside0 ((w43.setCell ⟨av,1,none⟩ (.slice bh aY.length bk)).heap[av]?=some (.cells #[.int .i64 (wrap64 (aa*aw)), .slice bh aY.length bk,aq] 49 (0,0))):=⟨bw_⟩
             have n6_:Aside0 (Below w.heap.size w (w43.setCell ⟨av,1,none⟩ (.slice bh aY.length bk))):=⟨hb_⟩
             (try clear aM);(try clear ag);(try clear bu);(try clear af);(try clear aj);(try clear ah);(try clear HB)
             generalize (w43.setCell ⟨av,1,none⟩ (.slice bh aY.length bk))=w47 at n0_ n1_ n2_ n3_ n4_ n5_ n6_ ⊢
             have aM:=n0_;have ag:=n1_;have bu:=n2_;have af:=n3_;have aj:=n4_;have ah:=n5_;have HB:=n6_;clear n0_ n1_ n2_ n3_ n4_ n5_ n6_;replace aM:=q_ (Kd.R_drew aM.out);replace ag:=q_ (Kd.R_drew ag.out);replace bu:=q_ (Kd.S_drew bu.out);replace af:=q_ (blk_drew af.out);replace aj:=q_ (blk_drew aj.out);replace ah:=q_ (blk_drew ah.out);replace HB:=q_ (below_drew1 HB.out);obtain⟨gM,dU,dV⟩:=Kd.R_slice aM.out
             (first | subst dV | (injection dV with f1_ f2_ f3_;have f4_:=f1_.symm;have f5_:=f3_.symm;clear f1_ f2_ f3_;subst f4_;subst f5_))
             have p410:0≤(aJ:Int):=od_;have q410:aJ < (aQ.length:Int):=od_;obtain⟨df,e410,hx410_0⟩:=Kd.at_int (Kd.R_reads' aM.out).2.2 aJ p410 q410;cases e410
             replace p410:=eq_true p410;replace q410:=eq_true q410;refine st_ (n:=12) (S:=fun w'=>w'.cell? ⟨av,0,none⟩=some (.int .i64 (wrap64 (aa*aw)))∧w'.cell? ⟨av,1,none⟩=some (.slice bh aY.length bk)∧w'.cell? ⟨av,2,none⟩=some (aq)∧w'.cell? (df.add (aJ).toNat)=some (.int .i64 (rd aQ aJ))) (ds:= [9,11]) ⟨(blk_cell ah.out 0).trans rfl,(blk_cell ah.out 1).trans rfl,(blk_cell ah.out 2).trans rfl,hx410_0⟩ (fun hHeld=>?_);refine with_tabW spec_l04Pivot.tab13 spec_l04Pivot.bits13 (fun HT_ HW_=>?_)
             generalize w47.drew=w48 at aM ag bu af aj ah HB hx410_0 hHeld ⊢
             refine p4_ 0 57 2 59 3 60 4 61 ?_;refine pu_ 5 62 ?_;refine tk_ 1 58 ?_;refine tk_ 6 63 ?_;refine pu_ 7 64 ?_
             refine on_ 8 (some 65) (fun K hK=>?_)
             refine value_ (w1:=?_) (v:=?_) (by rfl) rfl ?_ ?_
             rotate_left 2
             ·go_simp
              constructor
              ·rfl
              ·rfl
             refine hK.out _ _ ⟨(blk_cell (blk_alloc ah.out _) 0).trans rfl,(blk_cell (blk_alloc ah.out _) 1).trans rfl,(blk_cell (blk_alloc ah.out _) 2).trans rfl,(World.cell?_alloc_lt _ _ _ (World.block_lt_of_cell? _ _ (hHeld.2.2.2))).trans (hHeld.2.2.2)⟩ (fun hHeld=>?_)
             clear hK K;refine norm_ (a':=?_) ?_ ?_
             rotate_left
             ·show Act.put _ (some 65) _=_
              simp only [Act.put,List.setIfInBounds_toArray,List.set_cons_zero,List.set_cons_succ,i64_w,i32_w]
              rfl
             refine la_ 9 (some 66) (fun K hK=>?_)
             refine Kd.R_append_step (Kd.int .i64) (w0:=w) w.heap.size (by rfl) (.tmp 58) (.tmp 65) 25 2 (.int .i64 0) 8 rfl Try.underlying25 info2 rfl (by decide) (by omega) aq aN (wrap64 (aa*(rd aQ aJ))) [.int .i64 (wrap64 (aa*(rd aQ aJ)))] (fun k_=>some k_≠(.slice (some df) aQ.length dU:Value).ownBlock) (fun _=>False) rfl rfl ?aP (fun _ hk=>hk.elim) ?aF ?aO ?aB ?aS ?aL ?_
             (case aP=>exact rfl)
             (case aB=>exact hb_)
             (case aF=>exact(fun k_ hk=>Kd.fresh' (Kd.R_lt (ro_ aM.out)) k_ hk))
             (case aO=>exact(ro_ ag.out))
             (case aS=>exact bz_)
             (case aL=>have:=eJ.out;omega)
             intro gN w50 ho hb hg hat;rw [← eK.out] at ho;replace aM:=q_ (Kd.R_after (ok:=(fun _=>True)) (kR_ aM.out (fun _ hk=>⟨trivial,hk⟩)) hg hat);replace af:=q_ (bg_ af.out hg (Kd.R_ne ag.out af.out (by decide)));replace aj:=q_ (bg_ aj.out hg (Kd.R_ne ag.out aj.out (by decide)));replace ah:=q_ (bg_ ah.out hg (Kd.R_ne ag.out ah.out (by decide)));replace bu:=q_ (Kd.S_after (ok:=(fun k_=>some k_≠(.slice (some df) aQ.length dU:Value).ownBlock)) (so_ bu.out) hg hat);replace HB:=q_ (hb);have dJ:=q_ (ho);clear ag ho hb hg hat;obtain⟨dh,di,dW⟩:=Kd.R_slice dJ.out
             (first | subst dW | (injection dW with f1_ f2_ f3_;have f4_:=f1_.symm;have f5_:=f3_.symm;clear f1_ f2_ f3_;subst f4_;subst f5_))
             refine hK.out _ _ ?_
             clear hK K;refine norm_ (a':=?_) ?_ ?_
             rotate_left
             ·show Act.put _ (some 66) _=_
              simp only [Act.put,List.setIfInBounds_toArray,List.set_cons_zero,List.set_cons_succ,i64_w,i32_w]
              rfl
             refine pu_ 10 67 ?_
             refine la_ 11 none (fun K hK=>?_)
             have hs52:=cz_ ah 2;have hfs52:=blk_frozen ah.out 2;have hns52_0:=aT.out;have hns52_1:=aU.out;have hms52_0:=bq.out;have hms52_1:=bz.out;refine skip_ (w1:=?_) (by rfl) rfl ?_ ?_
             rotate_left
             ·go_simp
              rfl
             refine hK.out _ _ ?_
             clear hK K;refine done_ (done_of HT_.out (by kernel_rfl)) ?_
             try go_wp2
             go_roundg k2
             case measure=>have:=HJ13.out;have:=HK2.out;omega
             case rel=>exact⟨(wrap64 (aJ+1)),(aY),(cD),(.slice bh aY.length bk),(.slice dh cD.length di),rs_,H',⟨by have:=HJ13.out;have:=HK2.out;omega⟩,⟨kR_ (Kd.R_far (p:=⟨av,2,none⟩) (Kd.R_types aM.out ah.out (by decide)) (fun _ hk=>hk.2) (.slice dh cD.length di)) (fun _ hk=>hk.1.2)⟩,⟨kS_ (Kd.S_far (p:=⟨av,2,none⟩) (Kd.S_types bu.out ah.out (by decide)) (fun _ hk=>hk.2) (.slice dh cD.length di)) (fun _ hk=>⟨hk.1.1,hk.1.2⟩)⟩,⟨kR_ (Kd.R_far (p:=⟨av,2,none⟩) (Kd.R_types dJ.out ah.out (by decide)) (fun _ hk=>hk.2) (.slice dh cD.length di)) (fun _ hk=>hk.1)⟩,⟨bw_⟩,⟨bw_⟩,⟨bw_⟩,⟨hb_⟩⟩
            ·rw [if_neg c39] at H;exact absurd H (by simp)
           ·rw [if_neg c38] at H;exact absurd H (by simp)
          ·rw [if_neg c37] at H;exact absurd H (by simp)
         ·rw [if_neg c36] at H;exact absurd H (by simp)
        ·rw [if_neg c35] at H;exact absurd H (by simp)
       ·rw [if_neg c34] at H;exact absurd H (by simp)
      ·rw [if_neg c33] at H;have c33b0:=decide_eq_false c33;clear c33;have H':=q_ H;clear H;go_wp2
       go_loopg [13] k2 (fun kq v13 w'=> ∃(ak:Int) (ay:List (List Int)) (az:List Int) (aC:Value) (aq:Value),v13= .int .i64 ak∧Aside0 (spec_l04Pivot.l1 kq a1 (ae.length:Int) l9 aa ak au ae (wrap64 (aa*aw)) ay az=some (r1,r2,r3,r4))∧Aside0 (kq≤k2)∧Aside0 (Kd.S (Kd.slice 2 (Kd.int .i64)) 25 w' w.heap.size (fun k_=>some k_≠(aq:Value).ownBlock) aC ay)∧Aside0 (Kd.R (Kd.int .i64) 2 w' w.heap.size (fun _=>True) aq az)∧Aside0 (w'.heap[aI]?=some (.cells #[(.slice aW au.length aZ),(.slice aX ae.length a9)] 27 (0,0)))∧Aside0 (w'.heap[aH]?=some (.cells #[.int .i64 0,(.slice none 0 0),(.slice none 0 0)] 49 (0,0)))∧Aside0 (w'.heap[av]?=some (.cells #[.int .i64 (wrap64 (aa*aw)),aC,aq] 49 (0,0)))∧Aside0 (Below w.heap.size w w'))
       case atStart=>exact⟨(0),(aV),(aN),(aC),(aq),rs_,H',⟨Nat.le_refl _⟩,⟨kS_ ai.out (fun _ hk=>hk.2)⟩,⟨kR_ ag.out (fun _ hk=>trivial)⟩,⟨bk_⟩,⟨bk_⟩,⟨bk_⟩,⟨hb_⟩⟩
       case round=>
        clear H';(try clear c5);(try clear c5b0);(try clear c5b1);(try clear c9);(try clear c22b0);(try clear c33b0);(try clear c34);(try clear c34b0);(try clear c34b1);(try clear c35);(try clear c35b0);(try clear c35b1);(try clear c36);(try clear c37);(try clear c37b0);(try clear c38);(try clear c38b0);(try clear c39);(try clear bD);(try clear bE);(try clear bH);(try clear bI);(try clear bJ);(try clear bN);(try clear bO);(try clear bS);(try clear bT);(try clear bU);(try clear bF);(try clear bG);(try clear bK);(try clear bL);(try clear bM);(try clear bP);(try clear bQ);(try clear bV);(try clear bW);(try clear bX);(try clear hx410_0);(try clear p410);(try clear q410);obtain⟨ak,ay,az,aC,aq,rfl,HA,HK3,ai,ag,af,aj,ah,HB⟩:=hrel;cases gk with
        | zero=>exact absurd HA.out (by simp [spec_l04Pivot.l1])
        | succ k3=>
         have H:=HA.out;clear HA;simp only [spec_l04Pivot.l1] at H
         by_cases c53:ak < (ae.length:Int)
         ·rw [if_pos c53] at H;have c53b0:=decide_eq_true c53;clear c53
          by_cases c54:0≤(ae.length:Int)
          ·rw [if_pos c54] at H;have c54b0:=eq_true c54;have c54b1:=decide_eq_true c54;clear c54
           by_cases c55:((ae.length:Int):Int).toNat≤35184372088832
           ·rw [if_pos c55] at H;have c55b0:=eq_true c55;have c55b1:=decide_eq_true c55;clear c55;obtain⟨dX,hy⟩: ∃y_:List Int,y_=(List.replicate ((ae.length:Int):Int).toNat 0):=⟨_,rfl⟩
            replace H:(spec_l04Pivot.l2 k3 a1 (ae.length:Int) l9 aa ak dX 0 au ae (wrap64 (aa*aw)) ay az)=some (r1,r2,r3,r4):=hh_;have dK:=q_ hy;clear hy;have H':=q_ H;clear H
            go_wp2_with (first | ((with_reducible refine gate_dst (N:=74) rfl ?_);refine Kd.R_make (Kd.int .i64) _ 2 rfl (N:=74) rfl 25 _ _ rfl (ae.length:Int) rfl rfl Try.underlying25 (.int .i64 0) 8 info2 rfl (by decide) (by omega) 0 (ok:=fun _=>True) (okp:=fun _=>True) rfl (fun _ hk=>hk) trivial od_ (Nat.le_trans (Nat.mul_le_mul_right _ (od_:(ae.length:Int).toNat≤35184372088832)) (by omega)) (Below.refl _ _) (Nat.le_refl _) ?_;intro cE w56 cu hb hg_ hnew_;clear hg_ hnew_;(first | rw [← dK.out] at cu | (simp only [Int.reduceToNat] at cu;rw [← dK.out] at cu));replace ai:=q_ (Kd.S_elder' (so_ ai.out) (Kd.R_base cu) hb);have eL:=q_ (Kd.R_lower (Kd.R_new' cu (Kd.R_lt (ro_ ag.out))) bz_);replace af:=Bb_ af hb;replace aj:=Bb_ aj hb;replace ah:=Bb_ ah hb;replace ag:=q_ (Kd.R_elder' (ro_ ag.out) (Kd.R_base cu) hb);replace HB:=Bs_ hb;clear hb cu))
            go_loopg [15] k3 (fun kq v15 w'=> ∃(aG:List Int) (ax:Int),v15= .int .i64 ax∧Aside0 (spec_l04Pivot.l2 kq a1 (ae.length:Int) l9 aa ak aG ax au ae (wrap64 (aa*aw)) ay az=some (r1,r2,r3,r4))∧Aside0 (kq≤k3)∧Aside0 (Kd.R (Kd.int .i64) 2 w' w.heap.size (fun k_=>some k_≠(aq:Value).ownBlock) cE aG)∧Aside0 (Kd.S (Kd.slice 2 (Kd.int .i64)) 25 w' w.heap.size (fun k_=>some k_≠(cE:Value).ownBlock∧some k_≠(aq:Value).ownBlock) aC ay)∧Aside0 (Kd.R (Kd.int .i64) 2 w' w.heap.size (fun k_=>some k_≠(cE:Value).ownBlock) aq az)∧Aside0 (w'.heap[aI]?=some (.cells #[(.slice aW au.length aZ),(.slice aX ae.length a9)] 27 (0,0)))∧Aside0 (w'.heap[aH]?=some (.cells #[.int .i64 0,(.slice none 0 0),(.slice none 0 0)] 49 (0,0)))∧Aside0 (w'.heap[av]?=some (.cells #[.int .i64 (wrap64 (aa*aw)),aC,aq] 49 (0,0)))∧Aside0 (Below w.heap.size w w'))
            case atStart=>exact⟨(dX),(0),rs_,H',⟨Nat.le_refl _⟩,⟨kR_ eL.out (fun _ hk=>hk.2)⟩,⟨kS_ ai.out (fun _ hk=>⟨hk.2,hk.1⟩)⟩,⟨kR_ ag.out (fun _ hk=>hk.2)⟩,⟨bk_⟩,⟨bk_⟩,⟨bk_⟩,⟨hb_⟩⟩
            case round=>
             clear H';(try clear c5);(try clear c5b0);(try clear c5b1);(try clear c9);(try clear c22b0);(try clear c33b0);(try clear c34);(try clear c34b0);(try clear c34b1);(try clear c35);(try clear c35b0);(try clear c35b1);(try clear c36);(try clear c37);(try clear c37b0);(try clear c38);(try clear c38b0);(try clear c39);(try clear c53b0);(try clear c54);(try clear c54b0);(try clear c54b1);(try clear c55);(try clear c55b0);(try clear c55b1);(try clear bD);(try clear bE);(try clear bH);(try clear bI);(try clear bJ);(try clear bN);(try clear bO);(try clear bS);(try clear bT);(try clear bU);(try clear bF);(try clear bG);(try clear bK);(try clear bL);(try clear bM);(try clear bP);(try clear bQ);(try clear bV);(try clear bW);(try clear bX);(try clear hx410_0);(try clear p410);(try clear q410);obtain⟨aG,ax,rfl,HA,HK4,aK,ai,ag,af,aj,ah,HB⟩:=hrel;cases gk with
             | zero=>exact absurd HA.out (by simp [spec_l04Pivot.l2])
             | succ k4=>
              have H:=HA.out;clear HA;simp only [spec_l04Pivot.l2] at H
              by_cases c58:ax < (ae.length:Int)
              ·rw [if_pos c58] at H;have c58b0:=decide_eq_true c58;clear c58;obtain⟨ji59,hji59⟩: ∃j_:Int,(IntKind.u64.wrap (ak))=j_:=⟨_,rfl⟩
               replace H:(if 0≤(ji59) then(if(Go.bits .and .i64 (shr .i64 a1 (ji59)) 1)=0 then(if 0≤ax then(if ax < (au.length:Int) then(if 0≤ak then(if ak < ((rd_L2 au ax).length:Int) then(if ax < (aG.length:Int) then(spec_l04Pivot.l2 k4 a1 (ae.length:Int) l9 aa ak (aG.set (ax:Int).toNat (rd (rd_L2 au ax) ak)) (wrap64 (ax+1)) au ae (wrap64 (aa*aw)) ay az) else(none)) else(none)) else(none)) else(none)) else(none)) else(spec_l04Pivot.l2 k4 a1 (ae.length:Int) l9 aa ak aG (wrap64 (ax+1)) au ae (wrap64 (aa*aw)) ay az)) else(none))=some (r1,r2,r3,r4):=by first | (rw [hji59] at H;exact H) | (simp only [hji59] at H ⊢;exact H)
               by_cases c60:0≤(ji59)
               ·rw [if_pos c60] at H;have c60b0:=eq_true c60;have c60b1:=decide_eq_true c60;clear c60;obtain⟨ji61,hji61⟩: ∃j_:Int,(shr .i64 a1 (ji59))=j_:=⟨_,rfl⟩
                replace H:(if(Go.bits .and .i64 (ji61) 1)=0 then(if 0≤ax then(if ax < (au.length:Int) then(if 0≤ak then(if ak < ((rd_L2 au ax).length:Int) then(if ax < (aG.length:Int) then(spec_l04Pivot.l2 k4 a1 (ae.length:Int) l9 aa ak (aG.set (ax:Int).toNat (rd (rd_L2 au ax) ak)) (wrap64 (ax+1)) au ae (wrap64 (aa*aw)) ay az) else(none)) else(none)) else(none)) else(none)) else(none)) else(spec_l04Pivot.l2 k4 a1 (ae.length:Int) l9 aa ak aG (wrap64 (ax+1)) au ae (wrap64 (aa*aw)) ay az))=some (r1,r2,r3,r4):=by first | (rw [hji61] at H;exact H) | (simp only [hji61] at H ⊢;exact H)
                have hji61_:(a1 / 2 ^ min (ji59).toNat 64)=ji61:=hji61;have hji61z:(ji59)≤64→(a1 / 2 ^ (ji59).toNat)=ji61:=shr_small hji61
                by_cases c62:(Go.bits .and .i64 (ji61) 1)=0
                ·rw [if_pos c62] at H;have c62b0:=e1_ c62;have c62b1:=e2_ c62;clear c62
                 by_cases c63:0≤ax
                 ·rw [if_pos c63] at H;have c63b0:=decide_eq_true c63;clear c63
                  by_cases c64:ax < (au.length:Int)
                  ·rw [if_pos c64] at H;have c64b0:=decide_eq_true c64;clear c64
                   by_cases c65:0≤ak
                   ·rw [if_pos c65] at H;have c65b0:=decide_eq_true c65;clear c65
                    by_cases c66:ak < ((rd_L2 au ax).length:Int)
                    ·rw [if_pos c66] at H;have c66b0:=decide_eq_true c66;clear c66
                     by_cases c67:ax < (aG.length:Int)
                     ·rw [if_pos c67] at H;have c67b0:=decide_eq_true c67;clear c67;obtain⟨du,hy⟩: ∃y_:List Int,y_=(aG.set (ax:Int).toNat (rd (rd_L2 au ax) ak)):=⟨_,rfl⟩
                      replace H:(spec_l04Pivot.l2 k4 a1 (ae.length:Int) l9 aa ak du (wrap64 (ax+1)) au ae (wrap64 (aa*aw)) ay az)=some (r1,r2,r3,r4):=hh_;have eM:=q_ hy;clear hy;have H':=q_ H;clear H;have gu:=bv.out;have gx:=bw.out;have gy:=aT.out;have gz:=bq.out;obtain⟨cQ,cR,cT,cU⟩:=c2_ af;have p417:0≤(ax:Int):=od_;have q417:ax < (au.length:Int):=od_;obtain⟨gA,fN,fO,e417,hx417_0,hl417_0,hi417_0⟩:=at_L2 HR0_0.out ax p417 q417;cases e417
                      replace hx417_0:=bc_ HB.out hx417_0;have HR417_0:=q_ hi417_0;have HC417_0:=q_ hl417_0;clear hi417_0 hl417_0;replace p417:=eq_true p417;replace q417:=eq_true q417;have p418:0≤(ak:Int):=od_;have q418:ak < ((rd_L2 au ax).length:Int):=od_;obtain⟨gB,e418,hx418_0⟩:=Kd.at_int HR417_0.out ak p418 q418;cases e418
                      replace hx418_0:=bc_ HB.out hx418_0;replace p418:=eq_true p418;replace q418:=eq_true q418;have p68:0≤(ax:Int):=od_;have q68:(ax:Int) < ((aG.length:Int):Int):=od_;obtain⟨go68,cO,dY,dZ,gl68,cl68,HG68⟩:=Kd.R_form aK.out (by omega)
                      (first | cases dY | (injection dY with ea_ en_ ec_;(first | subst ea_ | (injection ea_ with ea_;subst ea_));subst ec_;clear en_))
                      have GB68:=q_ dZ;have GG68:=q_ HG68;clear dZ gl68 HG68;obtain⟨hx68_0,hf68_0⟩:=Kd.R_celln 0 aK.out (ax:Int) p68 q68;replace p68:=eq_true p68;replace q68:=eq_true q68;have HP72:=Kd.R_putg aK.out (ax:Int) (rd (rd_L2 au ax) ak)
                      go_wp2_with (first | ((with_reducible refine gate_store (t:=2) (p:=96) rfl ?_);refine store_event (t:=2) (p:=96) (v:=?vo_w73) (w1:=(wr.setCell ⟨go68,(ax:Int).toNat,none⟩ (.int .i64 (rd (rd_L2 au ax) ak)))) ?hg ?ho ?hn ?hr ?_;(case ho=>rfl);(case hg=>rfl);(case hn=>rfl);(case hr=>first | (go_simp;done) | (go_simp;rfl));intro w73 hw;have hg:wr.grownBy w73 (some go68):=(by rw [hw];exact HP72.2);have hp_:Kd.R (Kd.int .i64) 2 w73 w.heap.size (fun k_=>some k_≠(aq:Value).ownBlock) (.slice (some ⟨go68,0,none⟩) aG.length cO) du:=(by rw [hw,eM.out];exact HP72.1);clear HP72;replace ai:=q_ (Kd.S_after (v:=(.slice (some ⟨go68,0,none⟩) aG.length cO)) (v1:=(.slice (some ⟨go68,0,none⟩) aG.length cO)) (ok:=(fun k_=>some k_≠(aq:Value).ownBlock)) (kS_ ai.out (fun _ hk=>⟨hk.2,hk.1⟩)) hg (.inl rfl));replace ag:=q_ (Kd.R_after (v:=(.slice (some ⟨go68,0,none⟩) aG.length cO)) (v1:=(.slice (some ⟨go68,0,none⟩) aG.length cO)) (ok:=(fun _=>True)) (kR_ ag.out (fun _ hk=>⟨trivial,hk⟩)) hg (.inl rfl));replace af:=q_ (bg_ af.out hg (Kd.R_ne aK.out af.out (by decide)));replace aj:=q_ (bg_ aj.out hg (Kd.R_ne aK.out aj.out (by decide)));replace ah:=q_ (bg_ ah.out hg (Kd.R_ne aK.out ah.out (by decide)));replace HB:=q_ ((by rw [hw];exact below_set (HB.out) GB68.out:Below w.heap.size w w73));replace aK:=q_ (hp_);clear hg hw hp_))
                      go_roundg k4
                      case measure=>have:=HJ13.out;have:=HK2.out;have:=HK3.out;have:=HK4.out;omega
                      case rel=>exact⟨(du),(wrap64 (ax+1)),rs_,H',⟨by have:=HJ13.out;have:=HK2.out;have:=HK3.out;have:=HK4.out;omega⟩,⟨ro_ aK.out⟩,⟨kS_ ai.out (fun _ hk=>⟨hk.2,hk.1⟩)⟩,⟨kR_ ag.out (fun _ hk=>hk.2)⟩,⟨bk_⟩,⟨bk_⟩,⟨bk_⟩,⟨hb_⟩⟩
                     ·rw [if_neg c67] at H;exact absurd H (by simp)
                    ·rw [if_neg c66] at H;exact absurd H (by simp)
                   ·rw [if_neg c65] at H;exact absurd H (by simp)
                  ·rw [if_neg c64] at H;exact absurd H (by simp)
                 ·rw [if_neg c63] at H;exact absurd H (by simp)
                ·rw [if_neg c62] at H;have c62b0:=e3_ c62;have c62b1:=e4_ c62;have H':=q_ H;clear H;go_wp2
                 go_roundg k4
                 case measure=>have:=HJ13.out;have:=HK2.out;have:=HK3.out;have:=HK4.out;omega
                 case rel=>exact⟨(aG),(wrap64 (ax+1)),rs_,H',⟨by have:=HJ13.out;have:=HK2.out;have:=HK3.out;have:=HK4.out;omega⟩,⟨ro_ aK.out⟩,⟨so_ ai.out⟩,⟨ro_ ag.out⟩,⟨bk_⟩,⟨bk_⟩,⟨bk_⟩,⟨hb_⟩⟩
               ·rw [if_neg c60] at H;exact absurd H (by simp)
              ·rw [if_neg c58] at H;have c58b0:=decide_eq_false c58;clear c58;(try clear hji59);obtain⟨ji74,hji74⟩: ∃j_:Int,(IntKind.u64.wrap (ak))=j_:=⟨_,rfl⟩
               replace H:(if 0≤(ji74) then(if(Go.bits .and .i64 (shr .i64 a1 (ji74)) 1)=1 then(if 0≤ak then(if ak < (aG.length:Int) then(spec_l04Pivot.j4 k4 a1 (ae.length:Int) l9 aa ak (aG.set (ak:Int).toNat (-1)) au ae (wrap64 (aa*aw)) ay az) else(none)) else(none)) else(spec_l04Pivot.j4 k4 a1 (ae.length:Int) l9 aa ak aG au ae (wrap64 (aa*aw)) ay az)) else(none))=some (r1,r2,r3,r4):=by first | (rw [hji74] at H;exact H) | (simp only [hji74] at H ⊢;exact H)
               by_cases c75:0≤(ji74)
               ·rw [if_pos c75] at H;have c75b0:=eq_true c75;have c75b1:=decide_eq_true c75;clear c75;obtain⟨ji76,hji76⟩: ∃j_:Int,(shr .i64 a1 (ji74))=j_:=⟨_,rfl⟩
                replace H:(if(Go.bits .and .i64 (ji76) 1)=1 then(if 0≤ak then(if ak < (aG.length:Int) then(spec_l04Pivot.j4 k4 a1 (ae.length:Int) l9 aa ak (aG.set (ak:Int).toNat (-1)) au ae (wrap64 (aa*aw)) ay az) else(none)) else(none)) else(spec_l04Pivot.j4 k4 a1 (ae.length:Int) l9 aa ak aG au ae (wrap64 (aa*aw)) ay az))=some (r1,r2,r3,r4):=by first | (rw [hji76] at H;exact H) | (simp only [hji76] at H ⊢;exact H)
                have hji76_:(a1 / 2 ^ min (ji74).toNat 64)=ji76:=hji76;have hji76z:(ji74)≤64→(a1 / 2 ^ (ji74).toNat)=ji76:=shr_small hji76;have HC77:=q_ H;clear H
                go_upto_if 102 with (fail)
                go_cut [] (fun wc=> ∃(kq:Nat) (cf:List Int),Aside0 (spec_l04Pivot.j4 kq a1 (ae.length:Int) l9 aa ak cf au ae (wrap64 (aa*aw)) ay az=some (r1,r2,r3,r4))∧Aside0 (kq≤k4)∧Aside0 (Kd.R (Kd.int .i64) 2 wc w.heap.size (fun k_=>some k_≠(aq:Value).ownBlock) cE cf)∧Aside0 (Kd.S (Kd.slice 2 (Kd.int .i64)) 25 wc w.heap.size (fun k_=>some k_≠(cE:Value).ownBlock∧some k_≠(aq:Value).ownBlock) aC ay)∧Aside0 (Kd.R (Kd.int .i64) 2 wc w.heap.size (fun k_=>some k_≠(cE:Value).ownBlock) aq az)∧Aside0 (wc.heap[aI]?=some (.cells #[(.slice aW au.length aZ),(.slice aX ae.length a9)] 27 (0,0)))∧Aside0 (wc.heap[aH]?=some (.cells #[.int .i64 0,(.slice none 0 0),(.slice none 0 0)] 49 (0,0)))∧Aside0 (wc.heap[av]?=some (.cells #[.int .i64 (wrap64 (aa*aw)),aC,aq] 49 (0,0)))∧Aside0 (Below w.heap.size w wc))
                case first=>
                 have H:=HC77.out;clear HC77
                 by_cases c78:(Go.bits .and .i64 (ji76) 1)=1
                 ·rw [if_pos c78] at H;have c78b0:=e1_ c78;have c78b1:=e2_ c78;clear c78
                  (first | rw [c78b0] | (simp only [i64_w,i32_w];rw [c78b0]) | skip)
                  by_cases c79:0≤ak
                  ·rw [if_pos c79] at H;have c79b0:=decide_eq_true c79;clear c79
                   by_cases c80:ak < (aG.length:Int)
                   ·rw [if_pos c80] at H;have c80b0:=decide_eq_true c80;clear c80;obtain⟨dw,hy⟩: ∃y_:List Int,y_=(aG.set (ak:Int).toNat (-1)):=⟨_,rfl⟩
                    replace H:(spec_l04Pivot.j4 k4 a1 (ae.length:Int) l9 aa ak dw au ae (wrap64 (aa*aw)) ay az)=some (r1,r2,r3,r4):=hh_;have eO:=q_ hy;clear hy;have H':=q_ H;clear H;have p81:0≤(ak:Int):=od_;have q81:(ak:Int) < ((aG.length:Int):Int):=od_;obtain⟨go81,cP,d9,ed,gl81,cl81,HG81⟩:=Kd.R_form aK.out (by omega)
                    (first | cases d9 | (injection d9 with ea_ en_ ec_;(first | subst ea_ | (injection ea_ with ea_;subst ea_));subst ec_;clear en_))
                    have GB81:=q_ ed;have GG81:=q_ HG81;clear ed gl81 HG81;obtain⟨hx81_0,hf81_0⟩:=Kd.R_celln 0 aK.out (ak:Int) p81 q81;replace p81:=eq_true p81;replace q81:=eq_true q81;have HP82:=Kd.R_putg aK.out (ak:Int) (-1)
                    go_wp2_with (first | ((with_reducible refine gate_store (t:=2) (p:=105) rfl ?_);refine se_ 2 105 ((wr.setCell ⟨go81,(ak:Int).toNat,none⟩ (.int .i64 (-1)))) ?_;intro w83 hw;have hg:wr.grownBy w83 (some go81):=(by rw [hw];exact HP82.2);have hp_:Kd.R (Kd.int .i64) 2 w83 w.heap.size (fun k_=>some k_≠(aq:Value).ownBlock) (.slice (some ⟨go81,0,none⟩) aG.length cP) dw:=(by rw [hw,eO.out];exact HP82.1);clear HP82;replace ai:=q_ (Kd.S_after (v:=(.slice (some ⟨go81,0,none⟩) aG.length cP)) (v1:=(.slice (some ⟨go81,0,none⟩) aG.length cP)) (ok:=(fun k_=>some k_≠(aq:Value).ownBlock)) (kS_ ai.out (fun _ hk=>⟨hk.2,hk.1⟩)) hg (.inl rfl));replace ag:=q_ (Kd.R_after (v:=(.slice (some ⟨go81,0,none⟩) aG.length cP)) (v1:=(.slice (some ⟨go81,0,none⟩) aG.length cP)) (ok:=(fun _=>True)) (kR_ ag.out (fun _ hk=>⟨trivial,hk⟩)) hg (.inl rfl));replace af:=q_ (bg_ af.out hg (Kd.R_ne aK.out af.out (by decide)));replace aj:=q_ (bg_ aj.out hg (Kd.R_ne aK.out aj.out (by decide)));replace ah:=q_ (bg_ ah.out hg (Kd.R_ne aK.out ah.out (by decide)));replace HB:=q_ ((by rw [hw];exact below_set (HB.out) GB81.out:Below w.heap.size w w83));replace aK:=q_ (hp_);clear hg hw hp_))
                    go_meet
                    case rel=>exact⟨_,(dw),H',⟨by have:=HJ13.out;have:=HK2.out;have:=HK3.out;have:=HK4.out;first | omega | exact Nat.le_refl _⟩,⟨ro_ aK.out⟩,⟨kS_ ai.out (fun _ hk=>⟨hk.2,hk.1⟩)⟩,⟨kR_ ag.out (fun _ hk=>hk.2)⟩,⟨bk_⟩,⟨bk_⟩,⟨bk_⟩,⟨hb_⟩⟩
                   ·rw [if_neg c80] at H;exact absurd H (by simp)
                  ·rw [if_neg c79] at H;exact absurd H (by simp)
                 ·rw [if_neg c78] at H;have c78b0:=e3_ c78;have c78b1:=e4_ c78
                  (first | rw [c78b0] | (simp only [i64_w,i32_w];rw [c78b0]) | skip)
                  have H':=q_ H;clear H;go_wp2
                  go_meet
                  case rel=>exact⟨_,(aG),H',⟨by have:=HJ13.out;have:=HK2.out;have:=HK3.out;have:=HK4.out;first | omega | exact Nat.le_refl _⟩,⟨ro_ aK.out⟩,⟨so_ ai.out⟩,⟨ro_ ag.out⟩,⟨bk_⟩,⟨bk_⟩,⟨bk_⟩,⟨hb_⟩⟩
                case rest=>
                 clear HC77;(try clear c5);(try clear c5b0);(try clear c5b1);(try clear c9);(try clear c22b0);(try clear c33b0);(try clear c34);(try clear c34b0);(try clear c34b1);(try clear c35);(try clear c35b0);(try clear c35b1);(try clear c36);(try clear c37);(try clear c37b0);(try clear c38);(try clear c38b0);(try clear c39);(try clear c53b0);(try clear c54);(try clear c54b0);(try clear c54b1);(try clear c55);(try clear c55b0);(try clear c55b1);(try clear c58b0);(try clear c60);(try clear c60b0);(try clear c60b1);(try clear c62);(try clear c62b0);(try clear c62b1);(try clear c63);(try clear c63b0);(try clear c64);(try clear c64b0);(try clear c65);(try clear c65b0);(try clear c66);(try clear c66b0);(try clear c67);(try clear c67b0);(try clear p68);(try clear q68);(try clear c75);(try clear c75b0);(try clear c75b1);(try clear c78);(try clear c78b0);(try clear c78b1);(try clear c79);(try clear c79b0);(try clear c80);(try clear c80b0);(try clear p81);(try clear q81);(try clear bD);(try clear bE);(try clear bH);(try clear bI);(try clear bJ);(try clear bN);(try clear bO);(try clear bS);(try clear bT);(try clear bU);(try clear cQ);(try clear cR);(try clear bF);(try clear bG);(try clear bK);(try clear bL);(try clear bM);(try clear bP);(try clear bQ);(try clear bV);(try clear bW);(try clear bX);(try clear cT);(try clear cU);(try clear hx410_0);(try clear hx417_0);(try clear hx418_0);(try clear hx68_0);(try clear hx81_0);(try clear p410);(try clear p417);(try clear p418);(try clear p68);(try clear p81);(try clear q410);(try clear q417);(try clear q418);(try clear q68);(try clear q81);obtain⟨kq,cf,HA,HJ76,aK,ai,ag,af,aj,ah,HB⟩:=hcut;cases kq with
                 | zero=>exact absurd HA.out (by simp [spec_l04Pivot.j4])
                 | succ kj76=>
                  have H:=HA.out;clear HA;simp only [spec_l04Pivot.j4] at H;replace H:=Option.bind_eq_some_iff.mp H;obtain⟨⟨dx,eY⟩,A840,H⟩:=H;replace H:(spec_l04Pivot.l3 kj76 a1 (ae.length:Int) l9 aa ak dx 0 au ae (wrap64 (aa*aw)) ay az)=some (r1,r2,r3,r4):=H;have A84:=q_ A840;clear A840;have H':=q_ H;clear H;obtain⟨eZ,fa,fc⟩:=Kd.R_slice aK.out;subst fc
                  go_wp2_with (first | ((with_reducible refine gate_callee (f:=74) rfl ?_);refine gL_ 109 Try.func74 #[.slice A9 l9.length c9, .slice eZ cf.length fa] ?_;(with_reducible refine(spec_l01Solve.calls kj76 _ _ l9 _ _ cf dx eY _ ?bA ?bC ?cz ?cA A84.out).mono ?_);(case bA=>exact cb_ HR9.out HB.out);(case bC=>exact HC9.out);(case cz=>exact cR_);(case cA=>exact(Kd.R_reads' aK.out).2.1);rintro e w86 ⟨dz,rfl,ho0,hb⟩;refine⟨_,rfl,?_⟩;replace ai:=q_ (Kd.S_elder' (so_ ai.out) (Kd.R_base ho0) hb);have eP:=q_ (Kd.R_lower (Kd.R_new' (Kd.R_new' ho0 (Kd.R_lt (ro_ aK.out))) (Kd.R_lt (ro_ ag.out))) bz_);replace af:=Bb_ af hb;replace aj:=Bb_ aj hb;replace ah:=Bb_ ah hb;replace aK:=q_ (Kd.R_elder' (ro_ aK.out) (Kd.R_base ho0) hb);replace ag:=q_ (Kd.R_elder' (ro_ ag.out) (Kd.R_base ho0) hb);replace HB:=Bs_ hb;(try clear hb);(try clear hk);(try clear ho0)))
                  go_loopg [18] kj76 (fun kq v18 w'=> ∃(bg:List Int) (aA:Int) (aD:List (List Int)) (ba:List Int) (aC:Value) (aq:Value),v18= .int .i64 aA∧Aside0 (spec_l04Pivot.l3 kq a1 (ae.length:Int) l9 aa ak bg aA au ae (wrap64 (aa*aw)) aD ba=some (r1,r2,r3,r4))∧Aside0 (kq≤kj76)∧Aside0 (Kd.R (Kd.int .i64) 2 w' w.heap.size (fun k_=>some k_≠(aq:Value).ownBlock) dz bg)∧Aside0 (Kd.S (Kd.slice 2 (Kd.int .i64)) 25 w' w.heap.size (fun k_=>some k_≠(dz:Value).ownBlock∧some k_≠(aq:Value).ownBlock) aC aD)∧Aside0 (Kd.R (Kd.int .i64) 2 w' w.heap.size (fun k_=>some k_≠(dz:Value).ownBlock) aq ba)∧Aside0 (w'.heap[aI]?=some (.cells #[(.slice aW au.length aZ),(.slice aX ae.length a9)] 27 (0,0)))∧Aside0 (w'.heap[aH]?=some (.cells #[.int .i64 0,(.slice none 0 0),(.slice none 0 0)] 49 (0,0)))∧Aside0 (w'.heap[av]?=some (.cells #[.int .i64 (wrap64 (aa*aw)),aC,aq] 49 (0,0)))∧Aside0 (Below w.heap.size w w'))
                  case atStart=>exact⟨(dx),(0),(ay),(az),(aC),(aq),rs_,H',⟨Nat.le_refl _⟩,⟨kR_ eP.out (fun _ hk=>hk.2)⟩,⟨kS_ ai.out (fun _ hk=>⟨hk.2,hk.1.2⟩)⟩,⟨kR_ ag.out (fun _ hk=>hk.2)⟩,⟨bk_⟩,⟨bk_⟩,⟨bk_⟩,⟨hb_⟩⟩
                  case round=>
                   clear H';(try clear c5);(try clear c5b0);(try clear c5b1);(try clear c9);(try clear c22b0);(try clear c33b0);(try clear c34);(try clear c34b0);(try clear c34b1);(try clear c35);(try clear c35b0);(try clear c35b1);(try clear c36);(try clear c37);(try clear c37b0);(try clear c38);(try clear c38b0);(try clear c39);(try clear c53b0);(try clear c54);(try clear c54b0);(try clear c54b1);(try clear c55);(try clear c55b0);(try clear c55b1);(try clear c58b0);(try clear c60);(try clear c60b0);(try clear c60b1);(try clear c62);(try clear c62b0);(try clear c62b1);(try clear c63);(try clear c63b0);(try clear c64);(try clear c64b0);(try clear c65);(try clear c65b0);(try clear c66);(try clear c66b0);(try clear c67);(try clear c67b0);(try clear p68);(try clear q68);(try clear c75);(try clear c75b0);(try clear c75b1);(try clear c78);(try clear c78b0);(try clear c78b1);(try clear c79);(try clear c79b0);(try clear c80);(try clear c80b0);(try clear p81);(try clear q81);(try clear bD);(try clear bE);(try clear bH);(try clear bI);(try clear bJ);(try clear bN);(try clear bO);(try clear bS);(try clear bT);(try clear bU);(try clear cQ);(try clear cR);(try clear bF);(try clear bG);(try clear bK);(try clear bL);(try clear bM);(try clear bP);(try clear bQ);(try clear bV);(try clear bW);(try clear bX);(try clear cT);(try clear cU);(try clear hx410_0);(try clear hx417_0);(try clear hx418_0);(try clear hx68_0);(try clear hx81_0);(try clear p410);(try clear p417);(try clear p418);(try clear p68);(try clear p81);(try clear q410);(try clear q417);(try clear q418);(try clear q68);(try clear q81);obtain⟨bg,aA,aD,ba,aC,aq,rfl,HA,HK6,cB,ai,ag,af,aj,ah,HB⟩:=hrel;cases gk with
                   | zero=>exact absurd HA.out (by simp [spec_l04Pivot.l3])
                   | succ k6=>
                    have H:=HA.out;clear HA;simp only [spec_l04Pivot.l3] at H
                    by_cases c87:aA < (ae.length:Int)
                    ·rw [if_pos c87] at H;have c87b0:=decide_eq_true c87;clear c87
                     by_cases c88:0≤aA
                     ·rw [if_pos c88] at H;have c88b0:=decide_eq_true c88;clear c88
                      by_cases c89:aA < (aD.length:Int)
                      ·rw [if_pos c89] at H;have c89b0:=decide_eq_true c89;clear c89
                       by_cases c90:aA < (bg.length:Int)
                       ·rw [if_pos c90] at H;have c90b0:=decide_eq_true c90;clear c90
                        by_cases c91:0≤ak
                        ·rw [if_pos c91] at H;have c91b0:=decide_eq_true c91;clear c91
                         by_cases c92:ak < ((rd_L2 aD aA).length:Int)
                         ·rw [if_pos c92] at H;have c92b0:=decide_eq_true c92;clear c92;obtain⟨dA,hy⟩: ∃y_:List Int,y_=((rd_L2 aD aA).set (ak:Int).toNat (wrap64 (aa*(rd bg aA)))):=⟨_,rfl⟩
                          replace H:(spec_l04Pivot.l3 k6 a1 (ae.length:Int) l9 aa ak bg (wrap64 (aA+1)) au ae (wrap64 (aa*aw)) (aD.set (aA:Int).toNat dA) ba)=some (r1,r2,r3,r4):=hh_;have eQ:=q_ hy;clear hy;obtain⟨dB,hy⟩: ∃y_:List (List Int),y_=(aD.set (aA:Int).toNat dA):=⟨_,rfl⟩
                          replace H:(spec_l04Pivot.l3 k6 a1 (ae.length:Int) l9 aa ak bg (wrap64 (aA+1)) au ae (wrap64 (aa*aw)) dB ba)=some (r1,r2,r3,r4):=hh_;have eS:=q_ hy;clear hy;have H':=q_ H;clear H;have gC:=bq.out;have gF:=aT.out;have gG:=bz.out;have gH:=aU.out;obtain⟨fH,fI,fJ,fK,fL,fM⟩:=c3_ ah;obtain⟨gO,ek,fg⟩:=Kd.S_slice ai.out;subst fg;have p425:0≤(aA:Int):=od_;have q425:aA < (aD.length:Int):=od_;obtain⟨dL,fP,ep,e425,hx425_0,hl425_0,hi425_0⟩:=at_L2 (Kd.S_reads' ai.out).2.2 aA p425 q425;cases e425
                          obtain⟨ce425,hce425,hMe425,hcc425⟩:=Kd.S_get ai.out [] aA p425 (by first | exact q425 | exact od_ | (have e_:=(Kd.S_reads' ai.out).1;omega));obtain⟨ve425_0,rfl,ge425_0⟩:=hMe425;have hv425_0:=hcc425 0 _ rfl;rw [Nat.add_zero,show ((Kd.slice 2 (Kd.int .i64))).sz=1 from rfl,Nat.mul_one] at hv425_0;replace hv425_0:=Option.some.inj (hv425_0.symm.trans hx425_0);rw [hv425_0] at ge425_0;have HL425_0:=q_ (show Kd.R (Kd.int .i64) 2 _ _ _ _ (rd_L2 aD aA) from ge425_0);clear hv425_0 ge425_0;have HX425_0:=q_ hx425_0;clear hcc425 hce425;have HR425_0:=q_ hi425_0;have HC425_0:=q_ hl425_0;clear hi425_0 hl425_0;replace p425:=eq_true p425;replace q425:=eq_true q425;obtain⟨gP,fj,fk⟩:=Kd.R_slice cB.out;subst fk;have p426:0≤(aA:Int):=od_;have q426:aA < (bg.length:Int):=od_;obtain⟨eT,e426,hx426_0⟩:=Kd.at_int (Kd.R_reads' cB.out).2.2 aA p426 q426;cases e426
                          replace p426:=eq_true p426;replace q426:=eq_true q426;have p93:0≤(ak:Int):=od_;have q93:(ak:Int) < (((rd_L2 aD aA).length:Int):Int):=od_;obtain⟨go93,gQ,eu,ez,gl93,cl93,HG93⟩:=Kd.R_form HL425_0.out (by omega)
                          (first | cases eu | (injection eu with ea_ en_ ec_;(first | subst ea_ | (injection ea_ with ea_;subst ea_));subst ec_;clear en_))
                          have GB93:=q_ ez;have GG93:=q_ HG93;clear ez gl93 HG93;obtain⟨hx93_0,hf93_0⟩:=Kd.R_celln 0 HL425_0.out (ak:Int) p93 q93;replace p93:=eq_true p93;replace q93:=eq_true q93;have hq99:(aA:Int) < (aD.length:Int):=(by have h_:(aA:Int) < ((aD.length:Int):Int):=od_;first | exact h_ | (have e_:=(Kd.S_reads' ai.out).1;omega) | simpa only [List.length_set,List.length_set] using h_)
                          obtain⟨oki99,ce99,hcl99,hM99,hcc99,hok99,hbk99⟩:=Kd.S_borrow ai.out [] (aA:Int) od_ hq99;obtain⟨ve99_0,rfl,ge99_0⟩:=hM99;have hv99:=hcc99 0 _ rfl;rw [Nat.add_zero,show ((Kd.slice 2 (Kd.int .i64))).sz=1 from rfl,Nat.mul_one] at hv99;replace hv99:=Option.some.inj (hv99.symm.trans HX425_0.out);subst hv99;clear hcc99 hcl99;replace ge99_0:=(show Kd.R (Kd.int .i64) 2 _ _ _ _ (rd_L2 aD aA) from ge99_0)
                          have HP99:=Kd.R_putg ge99_0 (ak:Int) (wrap64 (aa*(rd bg aA)))
                          go_wp2_with (first | ((with_reducible refine gate_store (t:=2) (p:=130) rfl ?_);refine store_event (t:=2) (p:=130) (v:=?vo_w100) (w1:=(wr.setCell ⟨go93,(ak:Int).toNat,none⟩ (.int .i64 (wrap64 (aa*(rd bg aA)))))) ?hg ?ho ?hn ?hr ?_;(case ho=>rfl);(case hg=>rfl);(case hn=>rfl);(case hr=>first | (go_simp;done) | (go_simp;rfl));intro w100 hw;have hg:wr.grownBy w100 (some go93):=(by rw [hw];exact HP99.2);have hz_:Kd.R (Kd.int .i64) 2 w100 w.heap.size oki99 (.slice (some ⟨go93,0,none⟩) (rd_L2 aD aA).length ep) dA:=(by rw [hw,eQ.out];exact HP99.1);have hp_:Kd.S (Kd.slice 2 (Kd.int .i64)) 25 w100 w.heap.size (fun k_=>some k_≠(.slice (some eT) bg.length fj:Value).ownBlock∧some k_≠(aq:Value).ownBlock) (.slice (some dL) aD.length ek) dB:=(by rw [eS.out];exact hbk99 hg (fun k_ e_=>by injection e_ with e_;subst e_;exact ge99_0.1 _ rfl) (Kd.M_row hz_));have hm_:=Kd.R_mono hz_ hok99;clear HP99 hbk99;replace cB:=q_ (Kd.R_grown1 (ro_ cB.out) rfl hg ((HL425_0.out.1 _ rfl).1.1));replace ai:=q_ (hp_);replace ag:=q_ (Kd.R_grown1 (ro_ ag.out) rfl hg ((HL425_0.out.1 _ rfl).1.2));replace af:=q_ (bg_ af.out hg (Kd.R_ne HL425_0.out af.out (by decide)));replace aj:=q_ (bg_ aj.out hg (Kd.R_ne HL425_0.out aj.out (by decide)));replace ah:=q_ (bg_ ah.out hg (Kd.R_ne HL425_0.out ah.out (by decide)));replace HB:=q_ ((by rw [hw];exact below_set (HB.out) GB93.out:Below w.heap.size w w100));have HL430:=q_ (hm_);have HC428:=q_ ((Kd.R_reads' hm_).2.1);clear HL425_0 hg hw hp_ hz_ hm_ hok99))
                          go_roundg k6
                          case measure=>have:=HJ13.out;have:=HK2.out;have:=HK3.out;have:=HK4.out;have:=HJ76.out;have:=HK6.out;omega
                          case rel=>exact⟨(bg),(wrap64 (aA+1)),(dB),(ba),(.slice (some dL) aD.length ek),(aq),rs_,H',⟨by have:=HJ13.out;have:=HK2.out;have:=HK3.out;have:=HK4.out;have:=HJ76.out;have:=HK6.out;omega⟩,⟨ro_ cB.out⟩,⟨so_ ai.out⟩,⟨ro_ ag.out⟩,⟨bk_⟩,⟨bk_⟩,⟨bk_⟩,⟨hb_⟩⟩
                         ·rw [if_neg c92] at H;exact absurd H (by simp)
                        ·rw [if_neg c91] at H;exact absurd H (by simp)
                       ·rw [if_neg c90] at H;exact absurd H (by simp)
                      ·rw [if_neg c89] at H;exact absurd H (by simp)
                     ·rw [if_neg c88] at H;exact absurd H (by simp)
                    ·rw [if_neg c87] at H;have c87b0:=decide_eq_false c87;clear c87;have H':=q_ H;clear H;go_wp2
                     go_roundg k6
                     case measure=>have:=HJ13.out;have:=HK2.out;have:=HK3.out;have:=HK4.out;have:=HJ76.out;have:=HK6.out;omega
                     case rel=>exact⟨(wrap64 (ak+1)),(aD),(ba),(aC),(aq),rs_,H',⟨by have:=HJ13.out;have:=HK2.out;have:=HK3.out;have:=HK4.out;have:=HJ76.out;have:=HK6.out;omega⟩,⟨kS_ ai.out (fun _ hk=>hk.2)⟩,⟨kR_ ag.out (fun _ hk=>trivial)⟩,⟨bk_⟩,⟨bk_⟩,⟨bk_⟩,⟨hb_⟩⟩
               ·rw [if_neg c75] at H;exact absurd H (by simp)
           ·rw [if_neg c55] at H;exact absurd H (by simp)
          ·rw [if_neg c54] at H;exact absurd H (by simp)
         ·rw [if_neg c53] at H;have c53b0:=decide_eq_false c53;clear c53;simp only [Option.some.injEq,Prod.mk.injEq] at H;obtain⟨rfl,rfl,rfl,rfl⟩:=H;have fQ:=bq.out;have fR:=aT.out;have fS:=bz.out;have fT:=aU.out;obtain⟨fo,fp,fq,fu,fw,fA⟩:=c3_ ah;have fU:=bw.out;have fV:=bv.out;obtain⟨fB,fC,fD,fE,fF,fG⟩:=c3_ aj;obtain⟨cH,cI,eU⟩:=Kd.S_slice ai.out;subst eU;obtain⟨dl,dr,eV⟩:=Kd.R_slice ag.out;subst eV;go_wp2
          have HB:=q_ (below_step HBo.out HB.out);have ag:=q_ (Kd.R_lower ag.out (below_size HBo.out));have ai:=q_ (Kd.S_lower ai.out (below_size HBo.out));refine bodyPost_ret (results_ct rfl _ _ aH 49 #[.int .i64 (wrap64 (aa*aw)), .slice cH ay.length cI, .slice dl az.length dr] (0,0) _ rfl (bw_) Try.underlying49 rfl (by kernel_rfl)) rfl ?_
          exact⟨_,_,ew_,kS_ (sf3_ ai.out aj.out) (fun _ hk=>hk.1),kR_ (rf3_ ag.out aj.out) (fun _ hk=>trivial),hb_⟩
end Go.Proofs.Ytbjljcpngbhkeaa.Pr
end
section
namespace Go.Proofs.Ytbjljcpngbhkeaa.Pp
open Go.RowKit Wz.PrintWords Wz.PrintMore Ma Pr Dt Bz Un Cz Pb Mn Sv Pv
def cW (s:Int) (M:Mat) (j:Nat) (i:Nat):Int:=if bB s j then(if i=j then 1 else 0) else - M i j
def Cm (s:Int) (l:List (List Int)):Mat:=colM (bB s) (en l)
def pvl (n:Nat) (l:List (List Int)) (s:Int) (j:Nat):List Int:=(List.range n).map fun i=>sgn (det n (Cm s l))*dc n (Cm s l) (rw1 n (cW s (en l) j)) i
def ab (d:Int):Int:=if d < 0 then - d else d
def pvS (n:Nat) (l:List (List Int)) (s:Int) (x:List Int):List Int:=(List.range n).map fun i=>sgn (det n (Cm s l))*dc n (Cm s l) x i
def Zr (n:Nat):List (List Int):=List.replicate n (List.replicate n 0)
def pvR (n:Nat) (l:List (List Int)) (s:Int):List (List Int):=pR (Zr n) (pvl n l s) n n 0
def pvA (n:Nat) (l:List (List Int)) (s:Int) (x:List Int):Int × List (List Int) × List Int × Bool:=if det n (Cm s l)=0 then(0, [], [],false) else(ab (det n (Cm s l)),pvR n l s,pvS n l s x,true)
theorem pR_full (l l':List (List Int)) (cs:Nat→List Int) (n:Nat):pR l cs n n 0=pR l' cs n n 0:=by
 unfold pR
 refine List.map_congr_left (fun r _=>List.map_congr_left (fun c hc=>?_))
 unfold pE
 rw [if_pos (.inl (List.mem_range.1 hc)),if_pos (.inl (List.mem_range.1 hc))]
theorem pR_getD (l:List (List Int)) (cs:Nat→List Int) (n k i r:Nat) (h:r < n):(pR l cs n k i).getD r []=(List.range n).map (pE l cs k i r):=by
 simp [pR,h]
theorem Zr_zero (n:Nat) (cs:Nat→List Int):pR (Zr n) cs n 0 0=Zr n:=pR_zero _ cs n (by simp [Zr]) (fun x hx=>by rw [(List.mem_replicate.1 hx).2];simp)
section
variable {n:Nat} {l:List (List Int)} (h:Sq n l) (hn:n≤5) (s:Int)
include h hn
theorem cW_b (j:Nat) (hj:j < n) (i:Nat) (hi:i < n):(cW s (en l) j i).natAbs≤20:=by
 have _h:=hn
 have:=h.num i j hi hj
 unfold cW
 split
 ·split <;> decide
 ·omega
theorem cW_x (j:Nat) (hj:j < n) (r:Nat) (hr:r < n):((rw1 n (cW s (en l) j)).getD r 0).natAbs≤100:=by
 have:=cW_b h hn s j hj r hr
 rw [show (rw1 n (cW s (en l) j)).getD r 0=cW s (en l) j r from by simp [rw1,hr]]
 omega
theorem cW_y (j:Nat) (hj:j < n) (r:Nat) (hr:r < n):((rw1 n (fun i=> - cW s (en l) j i)).getD r 0).natAbs≤100:=by
 have:=cW_b h hn s j hj r hr
 rw [show (rw1 n (fun i=> - cW s (en l) j i)).getD r 0= - cW s (en l) j r from by simp [rw1,hr]]
 omega
theorem col_eq (Q:List Int) (hQ:Q.length=n) (j:Nat) (hj:j < n):Ev (fun k=>impl_Problem_column.f k l Q (j:Int) (!bB s j)) (rw1 n (cW s (en l) j)):=by
 cases hb:bB s j with
 | true=>
  have:=col_f h hn Q hQ j hj
  have e:cW s (en l) j=fun r=>if r=j then 1 else 0:=by funext r;unfold cW;rw [if_pos hb]
  rw [e];exact this
 | false=>
  have:=col_t h hn Q hQ j hj
  have e:cW s (en l) j=fun r=> - en l r j:=by funext r;unfold cW;rw [if_neg (by simp [hb])]
  rw [e];exact this
theorem pvC_eq (Q:List Int) (hQ:Q.length=n) (hp:0 < n) (d:det n (Cm s l)≠0) (j:Nat) (hj:j < n):Ev (fun k=>pvC k l Q s j) (pvl n l s j):=by
 have si:=impl_solve h hn s (rw1 n (cW s (en l) j)) (cW_x h hn s j hj) Q hQ (rw1_len _ _) hp
 unfold solR at si
 rw [if_neg (show ¬ det n (colM (bB s) (en l))=0 from d)] at si
 unfold pvC
 exact evsome (has_eq h hn s j (by omega)) (evbind (col_eq h hn s Q hQ j hj) (evbind si (evc rfl)))
theorem pv_all (Q:List Int) (hQ:Q.length=n) (hp:0 < n) (d:det n (Cm s l)≠0): ∃K, ∀k,K≤k→ ∀i,i < n→pvC k l Q s i=some (pvl n l s i):=by
 have key: ∀m,m≤n→ ∃K, ∀k,K≤k→ ∀i,i < m→pvC k l Q s i=some (pvl n l s i):=by
  intro m
  induction m with
  | zero=>intro _;exact⟨0,fun k _ i hi=>by omega⟩
  | succ m ih=>
   intro hm
   obtain⟨K1,h1⟩:=ih (by omega)
   obtain⟨K2,h2⟩:=pvC_eq h hn s Q hQ hp d m (by omega)
   refine⟨K1+K2,fun k hk i hi=>?_⟩
   by_cases e:i=m
   ·subst e;exact h2 k (by omega)
   ·exact h1 k (by omega) i (by omega)
 exact key n (Nat.le_refl _)
theorem impl_pivot (Q:List Int) (hQ:Q.length=n) (hx: ∀r,r < n→(Q.getD r 0).natAbs≤100) (hp:0 < n) (hrows: ∀x ∈ l,x.length=n):Ev (fun k=>impl_Problem_pivot.f k l Q s) (pvA n l s Q):=by
 have si:=impl_solve h hn s Q hx Q hQ hQ hp
 unfold solR at si
 unfold impl_Problem_pivot.f impl_Problem_point.f pvA
 by_cases d:det n (Cm s l)=0
 ·rw [if_pos d]
  unfold Cm at d
  rw [if_pos d] at si
  exact evbind (evbind si (evc rfl)) (evneg (by simp) (evc rfl))
 ·rw [if_neg d]
  obtain⟨K1,k1⟩:=pv_all h hn s Q hQ hp d
  obtain⟨K2,k2⟩:=Cp.copy_eq l (by have:=h.len;omega) (fun x hx=>by have:=hrows x hx;omega)
  have d':=d
  unfold Cm at d'
  rw [if_neg d'] at si
  refine evbind (evbind si (evc rfl)) (evpos rfl ?_)
  refine⟨K1+K2,fun k hk=>?_⟩
  dsimp only
  have hc:=k1 k (by omega)
  have hL (i:Nat) (hi:i < n):pvL k l Q s i=pvl n l s i:=by unfold pvL;rw [hc i hi];rfl
  rw [hQ]
  rw [if_pos ⟨hp,by omega,h.len,by
   rw [List.all_eq_true]
   intro x hx
   simpa using hrows x hx,by simp,k2 k (by omega),by
   unfold pvOK
   rw [List.all_eq_true]
   intro i hi
   rw [hc i (List.mem_range.1 hi)]
   simp [pvl]⟩]
  rw [pR_congr _ _ _ _ hL,pR_full l (Zr n)]
  rfl
theorem dc_neg (j:Nat) (i:Nat) (hi:i < n):dc n (Cm s l) (rw1 n (fun i=> - cW s (en l) j i)) i= - dc n (Cm s l) (rw1 n (cW s (en l) j)) i:=by
 have _h:=h
 have _hn:=hn
 have e:=det_cadd hi (fun r=>(rw1 n (cW s (en l) j)).getD r 0) (fun _=>0) (Cm s l) (-1) 0
 unfold dc
 rw [show det n (cset i (fun r=>(rw1 n (fun i=> - cW s (en l) j i)).getD r 0) (Cm s l))=det n (cset i (fun r=> -1*(rw1 n (cW s (en l) j)).getD r 0+0*0) (Cm s l)) from det_congr (fun a b ha hb=>by
  unfold cset
  split
  ·simp [rw1,ha]
  ·rfl)]
 rw [e]
 omega
end
theorem sgn_ne {d:Int} (h:d≠0):sgn d=if d < 0 then -1 else 1:=by
 unfold sgn
 by_cases c:d < 0
 ·rw [if_pos c,if_pos c]
 ·rw [if_neg c,if_neg c,if_pos (by omega)]
section
variable {n:Nat} {l:List (List Int)} (h:Sq n l) (hn:n≤5) (s:Int) (Q:List Int) (hQ:Q.length=n)
include h hn hQ
theorem loop3 (sg:Int) (hsg:sg=sgn (det n (Cm s l))) (X:List (List Int)) (den:Int) (side:List Int) (j:Nat) (hj:j < n) (R:Int × List (List Int) × List Int × Bool) (nx1:Ev (fun k=>spec_l04Pivot.l1 k s (n:Int) X sg ((j+1:Nat):Int) l Q den (pR (Zr n) (pvl n l s) n (j+1) 0) side) R):
  ∀q i,i+q=n→Ev (fun k=>spec_l04Pivot.l3 k s (n:Int) X sg (j:Int) ((List.range n).map (dc n (Cm s l) (rw1 n (fun i=> - cW s (en l) j i)))) (i:Int) l Q den (pR (Zr n) (pvl n l s) n j i) side) R:=by
 intro q
 induction q with
 | zero=>
  intro i hi
  obtain rfl:i=n:=by omega
  refine evstep (fun k=>by rw [spec_l04Pivot.l3]) (evneg (by omega) ?_)
  rw [w64 (x:=(j:Int)+1) (by omega) (by omega),pR_col]
  exact nx1
 | succ q ih=>
  intro i hi
  have nx:=ih (i+1) (by omega)
  refine evstep (fun k=>by rw [spec_l04Pivot.l3]) ?_
  rw [rdL1,pR_getD _ _ _ _ _ _ (by omega)]
  refine evpos (by omega) (evpos (by omega) (evpos (by rw [pR_len];omega) (evpos (by simp;omega) (evpos (by omega) (evpos (by simp;omega) ?_)))))
  rw [rd_nat,show ((List.range n).map (dc n (Cm s l) (rw1 n (fun i=> - cW s (en l) j i)))).getD i 0=dc n (Cm s l) (rw1 n (fun i=> - cW s (en l) j i)) i from by simp [show i < n by omega]]
  rw [dc_neg h hn s j i (by omega),hsg,show sgn (det n (Cm s l))* - dc n (Cm s l) (rw1 n (cW s (en l) j)) i= -(pvl n l s j).getD i 0 from by
   rw [show (pvl n l s j).getD i 0=sgn (det n (Cm s l))*dc n (Cm s l) (rw1 n (cW s (en l) j)) i from by simp [pvl,show i < n by omega],Int.mul_neg]]
  rw [Int.toNat_natCast,Int.toNat_natCast,pR_set _ _ _ _ _ (by omega) hj,w64 (x:=(i:Int)+1) (by omega) (by omega), ← hsg]
  exact nx
theorem loop2 (sg:Int) (hsg:sg=sgn (det n (Cm s l))) (den:Int) (side:List Int) (j:Nat) (hj:j < n) (R:Int × List (List Int) × List Int × Bool) (nx1:Ev (fun k=>spec_l04Pivot.l1 k s (n:Int) (mk n n (Cm s l)) sg ((j+1:Nat):Int) l Q den (pR (Zr n) (pvl n l s) n (j+1) 0) side) R):
  ∀q i,i+q=n→Ev (fun k=>spec_l04Pivot.l2 k s (n:Int) (mk n n (Cm s l)) sg (j:Int) ((List.range n).map fun u=>if u < i then(if bB s j then 0 else en l u j) else 0) (i:Int) l Q den (pR (Zr n) (pvl n l s) n j 0) side) R:=by
 have hl:=h.len
 have ss:=spec_solve h hn s (rw1 n (fun i=> - cW s (en l) j i)) (cW_y h hn s j hj) (rw1_len _ _)
 have l3:=loop3 h hn s Q hQ sg hsg (mk n n (Cm s l)) den side j hj R nx1 n 0 (by omega)
 have j4:Ev (fun k=>spec_l04Pivot.j4 k s (n:Int) (mk n n (Cm s l)) sg (j:Int) (rw1 n (fun i=> - cW s (en l) j i)) l Q den (pR (Zr n) (pvl n l s) n j 0) side) R:=by
  refine evstep (fun k=>by rw [spec_l04Pivot.j4]) ?_
  exact evbind ss l3
 have hu:IntKind.u64.wrap (j:Int)=(j:Int):=u64w (by omega) (by omega)
 intro q
 induction q with
 | zero=>
  intro i hi
  obtain rfl:i=n:=by omega
  refine evstep (fun k=>by rw [spec_l04Pivot.l2]) (evneg (by omega) ?_)
  rw [hu,shr_and_one s (by omega)]
  refine evpos (by omega) ?_
  cases hb:bB s j with
  | true=>
   refine evpos rfl (evpos (by omega) (evpos (by simp;omega) ?_))
   rw [Int.toNat_natCast]
   rw [show ((List.range i).map fun u=>if u < i then(if true=true then(0:Int) else en l u j) else 0).set j (-1)=rw1 i (fun i=> - cW s (en l) j i) from by
    apply List.ext_getElem
    ·simp [rw1]
    ·intro k h1 h2
     rw [List.getElem_set]
     simp only [rw1,List.getElem_map,List.getElem_range,cW,hb]
     by_cases e:j=k
     ·subst e;simp
     ·simp [e,Ne.symm e]]
   exact j4
  | false=>
   refine evneg (by simp) ?_
   rw [show ((List.range i).map fun u=>if u < i then(if false=true then(0:Int) else en l u j) else 0)=rw1 i (fun i=> - cW s (en l) j i) from by
    unfold rw1
    refine List.map_congr_left (fun u hu=>?_)
    rw [if_pos (List.mem_range.1 hu)]
    simp [cW,hb]]
   exact j4
 | succ q ih=>
  intro i hi
  have nx:=ih (i+1) (by omega)
  have hrow:=h.row i (by omega)
  refine evstep (fun k=>by rw [spec_l04Pivot.l2]) (evpos (by omega) ?_)
  rw [hu,shr_and_one s (by omega),w64 (x:=(i:Int)+1) (by omega) (by omega),rdL1]
  refine evpos (by omega) ?_
  have at_:((List.range n).map fun u=>if u < i then(if bB s j then 0 else en l u j) else 0).set i (if bB s j then 0 else en l i j)=(List.range n).map fun u=>if u < i+1 then(if bB s j then 0 else en l u j) else 0:=by
   apply List.ext_getElem
   ·simp
   ·intro k h1 h2
    have hk:k < n:=by simpa using h2
    rw [List.getElem_set]
    simp only [List.getElem_map,List.getElem_range]
    by_cases e:i=k
    ·subst e;rw [if_pos rfl,if_pos (show i < i+1 by omega)]
    ·rw [if_neg e]
     by_cases c:k < i
     ·rw [if_pos c,if_pos (show k < i+1 by omega)]
     ·rw [if_neg c,if_neg (show ¬ k < i+1 by omega)]
  cases hb:bB s j with
  | true=>
   refine evneg (by simp) ?_
   rw [hb] at nx at_
   have:((List.range n).map fun u=>if u < i then(if true=true then(0:Int) else en l u j) else 0)=(List.range n).map fun u=>if u < i+1 then(if true=true then(0:Int) else en l u j) else 0:=by
    refine List.map_congr_left (fun u _=>?_)
    simp
   rw [this]
   exact nx
  | false=>
   rw [hb] at nx at_
   refine evpos (by simp) (evpos (by omega) (evpos (by omega) (evpos (by omega) (evpos (by omega) (evpos (by simp;omega) ?_)))))
   rw [rd_nat,show (l.getD i []).getD j 0=en l i j from rfl,Int.toNat_natCast]
   have e:(if false=true then(0:Int) else en l i j)=en l i j:=by simp
   rw [e] at at_
   rw [at_]
   exact nx
theorem loop1 (sg:Int) (hsg:sg=sgn (det n (Cm s l))) (den:Int) (side:List Int): ∀q j,j+q=n→Ev (fun k=>spec_l04Pivot.l1 k s (n:Int) (mk n n (Cm s l)) sg (j:Int) l Q den (pR (Zr n) (pvl n l s) n j 0) side) (den,pvR n l s,side,true):=by
 intro q
 induction q with
 | zero=>
  intro j hj
  obtain rfl:j=n:=by omega
  refine evstep (fun k=>by rw [spec_l04Pivot.l1]) ?_
  exact evneg (by omega) (evc rfl)
 | succ q ih=>
  intro j hj
  have nx:=ih (j+1) (by omega)
  have l2:=loop2 h hn s Q hQ sg hsg den side j (by omega) _ nx n 0 (by omega)
  refine evstep (fun k=>by rw [spec_l04Pivot.l1]) (evpos (by omega) (evpos (by omega) (evpos (by omega) ?_)))
  rw [show List.replicate ((n:Int)).toNat (0:Int)=(List.range n).map fun u=>if u < 0 then(if bB s j then 0 else en l u j) else 0 from by
   apply List.ext_getElem
   ·simp
   ·intro k h1 h2;simp]
  exact l2
theorem loop0 (hx: ∀r,r < n→(Q.getD r 0).natAbs≤100) (sg:Int) (hsg:sg=sgn (det n (Cm s l))) (den:Int): ∀q i,i+q=n→Ev (fun k=>spec_l04Pivot.l0 k s (n:Int) (mk n n (Cm s l)) ((List.range n).map (dc n (Cm s l) Q)) sg (i:Int) l Q den (List.replicate i (List.replicate n 0)) ((List.range i).map fun i=>sgn (det n (Cm s l))*dc n (Cm s l) Q i)) (den,pvR n l s,pvS n l s Q,true):=by
 intro q
 induction q with
 | zero=>
  intro i hi
  obtain rfl:i=n:=by omega
  have l1:=loop1 h hn s Q hQ sg hsg den (pvS i l s Q) i 0 (by omega)
  rw [Zr_zero] at l1
  refine evstep (fun k=>by rw [spec_l04Pivot.l0]) ?_
  exact evneg (by omega) l1
 | succ q ih=>
  intro i hi
  have nx:=ih (i+1) (by omega)
  rw [List.range_succ,List.map_append,List.replicate_succ'] at nx
  refine evstep (fun k=>by rw [spec_l04Pivot.l0]) (evpos (by omega) (evpos (by omega) (evpos (by omega) (evpos (by simp;omega) (evpos (by omega) (evpos (by simp;omega) (evpos (by simp;omega) ?_)))))))
  rw [rd_nat,show ((List.range n).map (dc n (Cm s l) Q)).getD i 0=dc n (Cm s l) Q i from by simp [show i < n by omega],hsg,show wrap64 (sgn (det n (Cm s l))*dc n (Cm s l) Q i)=sgn (det n (Cm s l))*dc n (Cm s l) Q i from sgn_mul _ _ (dc_b h hn s Q hx i),w64 (x:=(i:Int)+1) (by omega) (by omega),Int.toNat_natCast, ← hsg]
  rw [hsg] at nx ⊢
  exact nx
theorem spec_pivot (hx: ∀r,r < n→(Q.getD r 0).natAbs≤100):Ev (fun k=>spec_l04Pivot.f k l Q s) (pvA n l s Q):=by
 unfold spec_l04Pivot.f pvA
 have db: -1920000000≤det n (Cm s l)∧det n (Cm s l)≤1920000000:=D_b h hn s
 refine evbind (spec_cols h hn s) (evbind (spec_solve h hn s Q hx hQ) ?_)
 by_cases d:det n (Cm s l)=0
 ·rw [if_pos d]
  exact evpos d (evc rfl)
 ·rw [if_neg d,hQ]
  refine evneg d ?_
  have e0:=sgn_ne d
  by_cases c:det n (Cm s l) < 0
  ·rw [if_pos c] at e0
   refine evpos c (evstep (fun k=>by rw [spec_l04Pivot.j0]) ?_)
   have:=loop0 h hn s Q hQ hx (-1) e0.symm (ab (det n (Cm s l))) n 0 (by omega)
   show Ev (fun k=>spec_l04Pivot.l0 k s (n:Int) (mk n n (Cm s l)) ((List.range n).map (dc n (Cm s l) Q)) (-1) 0 l Q (wrap64 (-1*det n (Cm s l))) [] []) _
   rw [show wrap64 (-1*det n (Cm s l))=ab (det n (Cm s l)) from by unfold ab;rw [if_pos c,w64 (by omega) (by omega)];omega]
   exact this
  ·rw [if_neg c] at e0
   refine evneg c (evstep (fun k=>by rw [spec_l04Pivot.j0]) ?_)
   have:=loop0 h hn s Q hQ hx 1 e0.symm (ab (det n (Cm s l))) n 0 (by omega)
   show Ev (fun k=>spec_l04Pivot.l0 k s (n:Int) (mk n n (Cm s l)) ((List.range n).map (dc n (Cm s l) Q)) 1 0 l Q (wrap64 (1*det n (Cm s l))) [] []) _
   rw [show wrap64 (1*det n (Cm s l))=ab (det n (Cm s l)) from by unfold ab;rw [if_neg c,w64 (by omega) (by omega)];omega]
   exact this
end
end Go.Proofs.Ytbjljcpngbhkeaa.Pp
end
section
namespace Go.Proofs.Ytbjljcpngbhkeaa.Pr
open Go.RowKit Wz.PrintWords Wz.PrintLast Wz.PrintMore
attribute [local go_sem] max2_int min2_int max_two min_two max_three min_three max_four min_four
def laws_likeInts.l0:Nat→List Int→List Int→Int→Option (Bool)
 | 0,_,_,_=>none
 | k+1,x0,x1,x5=>if x5 < (x0.length:Int) then(if 0≤x5 then(if x5 < (x1.length:Int) then(if(rd x0 x5)=(rd x1 x5) then(laws_likeInts.l0 k x0 x1 (wrap64 (x5+1))) else(some false)) else(none)) else(none)) else(some true)
def laws_likeInts.f (k:Nat) (l0:List Int) (l1:List Int):Option (Bool):=if(l0.length:Int)=(l1.length:Int) then(laws_likeInts.l0 k l0 l1 0) else(some false)
theorem laws_likeInts.calls (k:Nat) (A0:Option Addr) (c0:Nat) (l0:List Int) (A1:Option Addr) (c1:Nat) (l1:List Int) (r:Bool) (w:World) (hr0:Kd.C (Kd.int .i64) w A0 l0.length l0) (hc0:l0.length≤c0) (hr1:Kd.C (Kd.int .i64) w A1 l1.length l1) (hc1:l1.length≤c1) (h:laws_likeInts.f k l0 l1=some r):
  Calls Try.prog 16 #[.slice A0 l0.length c0, .slice A1 l1.length c1] w fun e w'=>e= .returned (.bool r)∧Drawn0 w w':=by
 have HR0:=q_ hr0;have HC0:=q_ hc0;clear hr0 hc0;have HR1:=q_ hr1;have HC1:=q_ hc1;clear hr1 hc1;have H:(if(l0.length:Int)=(l1.length:Int) then(laws_likeInts.l0 k l0 l1 0) else(some false))=some r:=h;clear h
 by_cases c3:(l0.length:Int)=(l1.length:Int)
 ·rw [if_pos c3] at H;have c3b0:=e1_ c3;have c3b1:=e2_ c3;have c3b2:(l0.length==l1.length)=true:=by first | simpa using c3 | (simp at c3 ⊢;omega)
  clear c3;have H':=q_ H;clear H
  go_enter Try.func16,Try.ntmps16
  go_wp2
  repeat (go_quiet (fail);try go_wp2)
  go_loopg [5] k (fun kq v5 w'=> ∃(aa:Int),v5= .int .i64 aa∧Aside0 (laws_likeInts.l0 kq l0 l1 aa=some r)∧Aside0 (kq≤k)∧Drawn0 w w')
  case atStart=>exact⟨(0),(by first | rfl | (simp;done) | (simp [*];done)),H',⟨Nat.le_refl _⟩,by repeat (first | exact Drawn0.refl _ | apply Drawn0.step)⟩
  case round=>
   clear H';(try clear c1);(try clear c3);(try clear c3b0);(try clear c3b1);(try clear c3b2);obtain⟨aa,rfl,HA,HK1,⟨m1,rfl⟩⟩:=hrel;cases gk with
   | zero=>exact absurd HA.out (by simp [laws_likeInts.l0])
   | succ k1=>
    have H:=HA.out;clear HA;simp only [laws_likeInts.l0] at H
    by_cases c4:aa < (l0.length:Int)
    ·rw [if_pos c4] at H;have c4b0:=decide_eq_true c4;clear c4
     by_cases c5:0≤aa
     ·rw [if_pos c5] at H;have c5b0:=decide_eq_true c5;clear c5
      by_cases c6:aa < (l1.length:Int)
      ·rw [if_pos c6] at H;have c6b0:=decide_eq_true c6;clear c6
       by_cases c7:(rd l0 aa)=(rd l1 aa)
       ·rw [if_pos c7] at H;have c7b0:=e1_ c7;have c7b1:=e2_ c7;clear c7;have H':=q_ H;clear H;have p456:0≤(aa:Int):=of_decide_eq_true (by first | (with_reducible assumption) | assumption);have q456:aa < (l0.length:Int):=of_decide_eq_true (by first | (with_reducible assumption) | assumption);obtain⟨ae,e456,hx456_0⟩:=Kd.at_int HR0.out aa p456 q456;cases e456
        replace p456:=eq_true p456;replace q456:=eq_true q456;have p457:0≤(aa:Int):=of_decide_eq_true (by first | (with_reducible assumption) | assumption);have q457:aa < (l1.length:Int):=of_decide_eq_true (by first | (with_reducible assumption) | assumption);obtain⟨af,e457,hx457_0⟩:=Kd.at_int HR1.out aa p457 q457;cases e457
        replace p457:=eq_true p457;replace q457:=eq_true q457;go_wp2
        repeat (go_quiet (fail);try go_wp2)
        go_roundg k1
        case measure=>have:=HK1.out;omega
        case rel=>exact⟨(wrap64 (aa+1)),(by first | rfl | (simp;done) | (simp [*];done)),H',⟨by have:=HK1.out;omega⟩,by repeat (first | exact Drawn0.refl _ | apply Drawn0.step)⟩
       ·rw [if_neg c7] at H;have c7b0:=e3_ c7;have c7b1:=e4_ c7;obtain rfl:=Option.some.inj H;have p456:0≤(aa:Int):=of_decide_eq_true (by first | (with_reducible assumption) | assumption);have q456:aa < (l0.length:Int):=of_decide_eq_true (by first | (with_reducible assumption) | assumption);obtain⟨ae,e456,hx456_0⟩:=Kd.at_int HR0.out aa p456 q456;cases e456
        replace p456:=eq_true p456;replace q456:=eq_true q456;have p457:0≤(aa:Int):=of_decide_eq_true (by first | (with_reducible assumption) | assumption);have q457:aa < (l1.length:Int):=of_decide_eq_true (by first | (with_reducible assumption) | assumption);obtain⟨af,e457,hx457_0⟩:=Kd.at_int HR1.out aa p457 q457;cases e457
        replace p457:=eq_true p457;replace q457:=eq_true q457;go_wp2
        repeat (go_quiet (fail);try go_wp2)
        go_ret
        exact⟨by first | rfl | (simp;done) | (simp [*];done),by repeat (first | exact Drawn0.refl _ | apply Drawn0.step)⟩
      ·rw [if_neg c6] at H;exact absurd H (by simp)
     ·rw [if_neg c5] at H;exact absurd H (by simp)
    ·rw [if_neg c4] at H;have c4b0:=decide_eq_false c4;clear c4;obtain rfl:=Option.some.inj H;go_wp2
     repeat (go_quiet (fail);try go_wp2)
     go_ret
     exact⟨by first | rfl | (simp;done) | (simp [*];done),by repeat (first | exact Drawn0.refl _ | apply Drawn0.step)⟩
 ·rw [if_neg c3] at H;have c3b0:=e3_ c3;have c3b1:=e4_ c3;have c3b2:(l0.length==l1.length)=false:=by first | simpa using c3 | (simp at c3 ⊢;omega)
  obtain rfl:=Option.some.inj H
  go_enter Try.func16,Try.ntmps16
  go_wp2
  repeat (go_quiet (fail);try go_wp2)
  go_ret
  exact⟨by first | rfl | (simp;done) | (simp [*];done),by repeat (first | exact Drawn0.refl _ | apply Drawn0.step)⟩
def laws_rows9.l0:Nat→List (List Int)→List (List Int)→Int→Option (Bool)
 | 0,_,_,_=>none
 | k+1,x0,x1,x5=>if x5 < (x0.length:Int) then(if 0≤x5 then(if x5 < (x1.length:Int) then((laws_likeInts.f k (rd_L2 x0 x5) (rd_L2 x1 x5)).bind fun aa=>(if aa=true then(laws_rows9.l0 k x0 x1 (wrap64 (x5+1))) else(some false))) else(none)) else(none)) else(some true)
def laws_rows9.f (k:Nat) (l0:List (List Int)) (l1:List (List Int)):Option (Bool):=if(l0.length:Int)=(l1.length:Int) then(laws_rows9.l0 k l0 l1 0) else(some false)
theorem laws_rows9.calls (k:Nat) (A0:Option Addr) (c0:Nat) (l0:List (List Int)) (A1:Option Addr) (c1:Nat) (l1:List (List Int)) (r:Bool) (w:World) (hr0:Kd.C (Kd.slice 2 (Kd.int .i64)) w A0 l0.length l0) (hc0:l0.length≤c0) (hr1:Kd.C (Kd.slice 2 (Kd.int .i64)) w A1 l1.length l1) (hc1:l1.length≤c1) (h:laws_rows9.f k l0 l1=some r):
  Calls Try.prog 12 #[.slice A0 l0.length c0, .slice A1 l1.length c1] w fun e w'=>e= .returned (.bool r)∧Drawn0 w w':=by
 have HR0:=q_ hr0;have HC0:=q_ hc0;clear hr0 hc0;have HR1:=q_ hr1;have HC1:=q_ hc1;clear hr1 hc1;have H:(if(l0.length:Int)=(l1.length:Int) then(laws_rows9.l0 k l0 l1 0) else(some false))=some r:=h;clear h
 by_cases c3:(l0.length:Int)=(l1.length:Int)
 ·rw [if_pos c3] at H;have c3b0:=e1_ c3;have c3b1:=e2_ c3;have c3b2:(l0.length==l1.length)=true:=by first | simpa using c3 | (simp at c3 ⊢;omega)
  clear c3;have H':=q_ H;clear H
  go_enter Try.func12,Try.ntmps12
  go_wp2
  repeat (go_quiet (fail);try go_wp2)
  go_loopg [5] k (fun kq v5 w'=> ∃(aa:Int),v5= .int .i64 aa∧Aside0 (laws_rows9.l0 kq l0 l1 aa=some r)∧Aside0 (kq≤k)∧Drawn0 w w')
  case atStart=>exact⟨(0),(by first | rfl | (simp;done) | (simp [*];done)),H',⟨Nat.le_refl _⟩,by repeat (first | exact Drawn0.refl _ | apply Drawn0.step)⟩
  case round=>
   clear H';(try clear c1);(try clear c3);(try clear c3b0);(try clear c3b1);(try clear c3b2);obtain⟨aa,rfl,HA,HK1,⟨m1,rfl⟩⟩:=hrel;cases gk with
   | zero=>exact absurd HA.out (by simp [laws_rows9.l0])
   | succ k1=>
    have H:=HA.out;clear HA;simp only [laws_rows9.l0] at H
    by_cases c4:aa < (l0.length:Int)
    ·rw [if_pos c4] at H;have c4b0:=decide_eq_true c4;clear c4
     by_cases c5:0≤aa
     ·rw [if_pos c5] at H;have c5b0:=decide_eq_true c5;clear c5
      by_cases c6:aa < (l1.length:Int)
      ·rw [if_pos c6] at H;have c6b0:=decide_eq_true c6;clear c6;replace H:=Option.bind_eq_some_iff.mp H;obtain⟨ai,A70,H⟩:=H;replace H:(if ai=true then(laws_rows9.l0 k1 l0 l1 (wrap64 (aa+1))) else(some false))=some r:=H;have A7:=q_ A70;clear A70
       by_cases c8:ai=true
       ·subst c8;have H1:(laws_rows9.l0 k1 l0 l1 (wrap64 (aa+1)))=some r:=by rw [if_pos rfl] at H;exact H
        clear H;have H:=H1;clear H1;have H':=q_ H;clear H;have p458:0≤(aa:Int):=of_decide_eq_true (by first | (with_reducible assumption) | assumption);have q458:aa < (l0.length:Int):=of_decide_eq_true (by first | (with_reducible assumption) | assumption);obtain⟨av,aj,ak,e458,hx458_0,hl458_0,hi458_0⟩:=at_L2 HR0.out aa p458 q458;cases e458
        have HR458_0:=q_ hi458_0;have HC458_0:=q_ hl458_0;clear hi458_0 hl458_0;replace p458:=eq_true p458;replace q458:=eq_true q458;have p459:0≤(aa:Int):=of_decide_eq_true (by first | (with_reducible assumption) | assumption);have q459:aa < (l1.length:Int):=of_decide_eq_true (by first | (with_reducible assumption) | assumption);obtain⟨aw,aq,au,e459,hx459_0,hl459_0,hi459_0⟩:=at_L2 HR1.out aa p459 q459;cases e459
        have HR459_0:=q_ hi459_0;have HC459_0:=q_ hl459_0;clear hi459_0 hl459_0;replace p459:=eq_true p459;replace q459:=eq_true q459
        go_wp2_with (first | (go_at_call 16;(with_reducible refine(laws_likeInts.calls k1 _ _ (rd_L2 l0 aa) _ _ (rd_L2 l1 aa) true _ ?ae ?af ?ag ?ah A7.out).mono ?_);(case ae=>repeat (first | exact HR458_0.out | (with_reducible refine Kd.C_alloc ?_ _) | (with_reducible refine Kd.C_drewN ?_ _) | (with_reducible refine Kd.C_drew ?_)));(case af=>exact HC458_0.out);(case ag=>repeat (first | exact HR459_0.out | (with_reducible refine Kd.C_alloc ?_ _) | (with_reducible refine Kd.C_drewN ?_ _) | (with_reducible refine Kd.C_drew ?_)));(case ah=>exact HC459_0.out);rintro e w' ⟨rfl,⟨nd,rfl⟩⟩;(try first | exact⟨rfl,_,World.drewN_drewN _ _ _⟩ | exact⟨rfl,_,Eq.trans (World.drewN_drewN _ _ _) (congrArg (World.drewN _) (Nat.add_assoc _ _ _))⟩)))
        repeat (go_quiet (first | (go_at_call 16;(with_reducible refine(laws_likeInts.calls k1 _ _ (rd_L2 l0 aa) _ _ (rd_L2 l1 aa) true _ ?ae ?af ?ag ?ah A7.out).mono ?_);(case ae=>repeat (first | exact HR458_0.out | (with_reducible refine Kd.C_alloc ?_ _) | (with_reducible refine Kd.C_drewN ?_ _) | (with_reducible refine Kd.C_drew ?_)));(case af=>exact HC458_0.out);(case ag=>repeat (first | exact HR459_0.out | (with_reducible refine Kd.C_alloc ?_ _) | (with_reducible refine Kd.C_drewN ?_ _) | (with_reducible refine Kd.C_drew ?_)));(case ah=>exact HC459_0.out);rintro e w' ⟨rfl,⟨nd,rfl⟩⟩;(try first | exact⟨rfl,_,World.drewN_drewN _ _ _⟩ | exact⟨rfl,_,Eq.trans (World.drewN_drewN _ _ _) (congrArg (World.drewN _) (Nat.add_assoc _ _ _))⟩)));try go_wp2_with (first | (go_at_call 16;(with_reducible refine(laws_likeInts.calls k1 _ _ (rd_L2 l0 aa) _ _ (rd_L2 l1 aa) true _ ?ae ?af ?ag ?ah A7.out).mono ?_);(case ae=>repeat (first | exact HR458_0.out | (with_reducible refine Kd.C_alloc ?_ _) | (with_reducible refine Kd.C_drewN ?_ _) | (with_reducible refine Kd.C_drew ?_)));(case af=>exact HC458_0.out);(case ag=>repeat (first | exact HR459_0.out | (with_reducible refine Kd.C_alloc ?_ _) | (with_reducible refine Kd.C_drewN ?_ _) | (with_reducible refine Kd.C_drew ?_)));(case ah=>exact HC459_0.out);rintro e w' ⟨rfl,⟨nd,rfl⟩⟩;(try first | exact⟨rfl,_,World.drewN_drewN _ _ _⟩ | exact⟨rfl,_,Eq.trans (World.drewN_drewN _ _ _) (congrArg (World.drewN _) (Nat.add_assoc _ _ _))⟩))))
        go_roundg k1
        case measure=>have:=HK1.out;omega
        case rel=>exact⟨(wrap64 (aa+1)),(by first | rfl | (simp;done) | (simp [*];done)),H',⟨by have:=HK1.out;omega⟩,by repeat (first | exact Drawn0.refl _ | apply Drawn0.step)⟩
       ·replace c8:=Bool.eq_false_iff.mpr c8;subst c8;have H1:(some false)=some r:=by rw [if_neg (show ¬ (false=true) by decide)] at H;exact H
        clear H;have H:=H1;clear H1;obtain rfl:=Option.some.inj H;have p458:0≤(aa:Int):=of_decide_eq_true (by first | (with_reducible assumption) | assumption);have q458:aa < (l0.length:Int):=of_decide_eq_true (by first | (with_reducible assumption) | assumption);obtain⟨av,aj,ak,e458,hx458_0,hl458_0,hi458_0⟩:=at_L2 HR0.out aa p458 q458;cases e458
        have HR458_0:=q_ hi458_0;have HC458_0:=q_ hl458_0;clear hi458_0 hl458_0;replace p458:=eq_true p458;replace q458:=eq_true q458;have p459:0≤(aa:Int):=of_decide_eq_true (by first | (with_reducible assumption) | assumption);have q459:aa < (l1.length:Int):=of_decide_eq_true (by first | (with_reducible assumption) | assumption);obtain⟨aw,aq,au,e459,hx459_0,hl459_0,hi459_0⟩:=at_L2 HR1.out aa p459 q459;cases e459
        have HR459_0:=q_ hi459_0;have HC459_0:=q_ hl459_0;clear hi459_0 hl459_0;replace p459:=eq_true p459;replace q459:=eq_true q459
        go_wp2_with (first | (go_at_call 16;(with_reducible refine(laws_likeInts.calls k1 _ _ (rd_L2 l0 aa) _ _ (rd_L2 l1 aa) false _ ?ae ?af ?ag ?ah A7.out).mono ?_);(case ae=>repeat (first | exact HR458_0.out | (with_reducible refine Kd.C_alloc ?_ _) | (with_reducible refine Kd.C_drewN ?_ _) | (with_reducible refine Kd.C_drew ?_)));(case af=>exact HC458_0.out);(case ag=>repeat (first | exact HR459_0.out | (with_reducible refine Kd.C_alloc ?_ _) | (with_reducible refine Kd.C_drewN ?_ _) | (with_reducible refine Kd.C_drew ?_)));(case ah=>exact HC459_0.out);rintro e w' ⟨rfl,⟨nd,rfl⟩⟩;(try first | exact⟨rfl,_,World.drewN_drewN _ _ _⟩ | exact⟨rfl,_,Eq.trans (World.drewN_drewN _ _ _) (congrArg (World.drewN _) (Nat.add_assoc _ _ _))⟩)))
        repeat (go_quiet (first | (go_at_call 16;(with_reducible refine(laws_likeInts.calls k1 _ _ (rd_L2 l0 aa) _ _ (rd_L2 l1 aa) false _ ?ae ?af ?ag ?ah A7.out).mono ?_);(case ae=>repeat (first | exact HR458_0.out | (with_reducible refine Kd.C_alloc ?_ _) | (with_reducible refine Kd.C_drewN ?_ _) | (with_reducible refine Kd.C_drew ?_)));(case af=>exact HC458_0.out);(case ag=>repeat (first | exact HR459_0.out | (with_reducible refine Kd.C_alloc ?_ _) | (with_reducible refine Kd.C_drewN ?_ _) | (with_reducible refine Kd.C_drew ?_)));(case ah=>exact HC459_0.out);rintro e w' ⟨rfl,⟨nd,rfl⟩⟩;(try first | exact⟨rfl,_,World.drewN_drewN _ _ _⟩ | exact⟨rfl,_,Eq.trans (World.drewN_drewN _ _ _) (congrArg (World.drewN _) (Nat.add_assoc _ _ _))⟩)));try go_wp2_with (first | (go_at_call 16;(with_reducible refine(laws_likeInts.calls k1 _ _ (rd_L2 l0 aa) _ _ (rd_L2 l1 aa) false _ ?ae ?af ?ag ?ah A7.out).mono ?_);(case ae=>repeat (first | exact HR458_0.out | (with_reducible refine Kd.C_alloc ?_ _) | (with_reducible refine Kd.C_drewN ?_ _) | (with_reducible refine Kd.C_drew ?_)));(case af=>exact HC458_0.out);(case ag=>repeat (first | exact HR459_0.out | (with_reducible refine Kd.C_alloc ?_ _) | (with_reducible refine Kd.C_drewN ?_ _) | (with_reducible refine Kd.C_drew ?_)));(case ah=>exact HC459_0.out);rintro e w' ⟨rfl,⟨nd,rfl⟩⟩;(try first | exact⟨rfl,_,World.drewN_drewN _ _ _⟩ | exact⟨rfl,_,Eq.trans (World.drewN_drewN _ _ _) (congrArg (World.drewN _) (Nat.add_assoc _ _ _))⟩))))
        go_ret
        exact⟨by first | rfl | (simp;done) | (simp [*];done),by repeat (first | exact Drawn0.refl _ | apply Drawn0.step)⟩
      ·rw [if_neg c6] at H;exact absurd H (by simp)
     ·rw [if_neg c5] at H;exact absurd H (by simp)
    ·rw [if_neg c4] at H;have c4b0:=decide_eq_false c4;clear c4;obtain rfl:=Option.some.inj H;go_wp2
     repeat (go_quiet (fail);try go_wp2)
     go_ret
     exact⟨by first | rfl | (simp;done) | (simp [*];done),by repeat (first | exact Drawn0.refl _ | apply Drawn0.step)⟩
 ·rw [if_neg c3] at H;have c3b0:=e3_ c3;have c3b1:=e4_ c3;have c3b2:(l0.length==l1.length)=false:=by first | simpa using c3 | (simp at c3 ⊢;omega)
  obtain rfl:=Option.some.inj H
  go_enter Try.func12,Try.ntmps12
  go_wp2
  repeat (go_quiet (fail);try go_wp2)
  go_ret
  exact⟨by first | rfl | (simp;done) | (simp [*];done),by repeat (first | exact Drawn0.refl _ | apply Drawn0.step)⟩
end Go.Proofs.Ytbjljcpngbhkeaa.Pr
end
