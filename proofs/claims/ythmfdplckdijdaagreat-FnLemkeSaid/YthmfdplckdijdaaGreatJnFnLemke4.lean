/- Texts of one claim (the words of the kit's print that the claim uses, printed functions, and this session's own texts), joined in the order of their imports by this session's own program (merge.py). -/
import Derived.Laws.CopyOwn
import Derived.Test.YthmfdplckdijdaaGreatJnFnLemke0
import Derived.Test.YthmfdplckdijdaaGreatJnFnLemke1
import Derived.Test.YthmfdplckdijdaaGreatJnFnLemke2
import Derived.Test.YthmfdplckdijdaaGreatJnFnLemke3
set_option linter.unusedVariables false
set_option linter.unusedSimpArgs false
set_option maxHeartbeats 8000000
set_option maxRecDepth 100000
section
namespace Go.Proofs.YthmfdplckdijdaaGreat.uF
open Go.RowKit Wz.cw Wz.cX Ma Pr Dt Lk Lt Lq Lp Fr
def su (s:TS) (pU x:Nat):Nat→Option Int
 | 0=>none
 | i+1=>if s.bs.getD i 0=(x:Int) then some (wrap64 (-(s.T i pU))) else su s pU x i
theorem Jc (s:TS) (n pU x:Nat) (hx:x < 2*n+1) (hnn: ∀i,i < n→0≤s.bs.getD i 0): ∀i,i≤n→(ud s n pU i).getD x 0=(su s pU x i).getD (if x=pU then s.den else 0)
 | 0,_=>by
  simp only [ud,su,Option.getD_none]
  rw [List.getD_eq_getElem?_getD,List.getElem?_set]
  by_cases e:pU=x
  ·subst e;rw [if_pos rfl,if_pos (by simp;omega),if_pos rfl];rfl
  ·rw [if_neg e,if_neg (Ne.symm e)];simp [List.getElem?_replicate,hx]
 | i+1,hi=>by
  have ih:=Jc s n pU x hx hnn i (by omega)
  have h0:=hnn i (by omega)
  simp only [ud,su]
  rw [List.getD_eq_getElem?_getD,List.getElem?_set]
  by_cases e:s.bs.getD i 0=(x:Int)
  ·rw [if_pos e,e,Int.toNat_natCast,if_pos rfl,if_pos (by rw [zV];exact hx)];rfl
  ·rw [if_neg e,if_neg (by omega), ← List.getD_eq_getElem?_getD]
   exact ih
section
variable {n m:Nat} {s:TS} (hm:m=2*n+2) (hn:n≤5) (hn0:0 < n) (hT: ∀a c,a < n→c < m→uN (s.T a c)) (hd:0 < s.den) (hd2:s.den≤1920000000) (hl:s.bs.length=n) (hnn: ∀i,i < n→0≤s.bs.getD i 0) {pU:Nat} (hr:pU < 2*n+1)
include hm hn hn0 hT hd hd2 hl hnn hr
theorem acR (M:List (List Int)) (Q:List Int) (hQ:Q.length=n):Ev (fun k=>lO.l0 k (pU:Int) [] 0 M Q (nP n m s.T) s.den s.bs) (uO (fun x=>pP ((ud s n pU n).getD x 0) s.den) (2*n+1) 0 []):=by
 have hbd:xK s.den:=⟨by omega,by omega⟩
 have neg: ∀i,i < n→wrap64 (-(s.T i pU))= -(s.T i pU)∧xK (-(s.T i pU)):=fun i hi=>by
  have:=hT i pU hi (by omega)
  unfold uN at this
  exact⟨nH (by omega) (by omega),by omega,by omega⟩
 have loop: ∀q x acc,x+q=2*n+1→acc.length≤x→Ev (fun k=>lO.l0 k (pU:Int) acc (x:Int) M Q (nP n m s.T) s.den s.bs) (uO (fun x=>pP ((ud s n pU n).getD x 0) s.den) q x acc):=by
  intro q
  induction q with
  | zero=>
   intro x acc h1 h2
   refine mC (fun k=>by rw [lO.l0]) ?_
   rw [hQ,nH (x:=2*(n:Int)) (by omega) (by omega)]
   exact lV (by omega) (oK rfl)
  | succ q ih=>
   intro x acc h1 h2
   have fin:Ev (fun k=>(pS.f k (match su s pU x n with | some v=>fV v s.den | none=>if x=pU then(1,1) else(0,1)).1 (match su s pU x n with | some v=>fV v s.den | none=>if x=pU then(1,1) else(0,1)).2).bind fun aa=>(if aa.2.2=0 then(if acc.length < 8796093022208 then(lO.l0 k (pU:Int) (acc++ [(⟨aa.1,aa.2.1⟩:mh)]) (wrap64 ((x:Int)+1)) M Q (nP n m s.T) s.den s.bs) else(none)) else(some (([]:List (mh)),aa.2.2)))) (uO (fun x=>pP ((ud s n pU n).getD x 0) s.den) (q+1) x acc):=by
    refine oH (X8 _ _) ?_
    have e:xM (match su s pU x n with | some v=>fV v s.den | none=>if x=pU then(1,1) else(0,1))=pP ((ud s n pU n).getD x 0) s.den:=by
     rw [Jc s n pU x (by omega) hnn n (Nat.le_refl _)]
     cases hb:su s pU x n with
     | some v=>rfl
     | none=>
      by_cases c:x=pU
      ·show xM (if x=pU then(1,1) else(0,1))=pP (if x=pU then s.den else 0) s.den
       rw [if_pos c,if_pos c,acK,ac1 hd (by omega)]
      ·show xM (if x=pU then(1,1) else(0,1))=pP (if x=pU then s.den else 0) s.den
       rw [if_neg c,if_neg c,aaP,H8 hd (by omega)]
    rw [show (((match su s pU x n with | some v=>fV v s.den | none=>if x=pU then(1,1) else(0,1)):Int × Int).1,((match su s pU x n with | some v=>fV v s.den | none=>if x=pU then(1,1) else(0,1)):Int × Int).2)=(match su s pU x n with | some v=>fV v s.den | none=>if x=pU then(1,1) else(0,1)) from rfl,e]
    unfold uO
    by_cases c:(pP ((ud s n pU n).getD x 0) s.den).2.2=0
    ·rw [if_pos c]
     refine cY c (cY (by omega) ?_)
     rw [nH (x:=(x:Int)+1) (by omega) (by omega)]
     exact ih (x+1) _ (by omega) (by simp;omega)
    ·rw [if_neg c]
     exact lV c (oK rfl)
   have inner: ∀p i,i+p=n→ ∀o:Int × Int,o=(match su s pU x i with | some v=>fV v s.den | none=>if x=pU then(1,1) else(0,1))→Ev (fun k=>lO.l1 k (pU:Int) acc (x:Int) (i:Int) M Q (nP n m s.T) s.den s.bs o.1 o.2) (uO (fun x=>pP ((ud s n pU n).getD x 0) s.den) (q+1) x acc):=by
    intro p
    induction p with
    | zero=>
     intro i hi o ho
     obtain rfl:i=n:=by omega
     subst ho
     refine mC (fun k=>by rw [lO.l1]) (lV (by rw [hl];omega) ?_)
     exact fin
    | succ p Bq=>
     intro i hi o ho
     refine mC (fun k=>by rw [lO.l1]) (cY (by rw [hl];omega) (cY (by omega) ?_))
     rw [rT,nH (x:=(i:Int)+1) (by omega) (by omega)]
     by_cases c:s.bs.getD i 0=(x:Int)
     ·refine cY c (cY (by rw [sA];omega) (cY (by omega) (cY (by rw [zB (by omega),qh];omega) ?_)))
      rw [zB (show i < n by omega),Cy (by omega),(neg i (by omega)).1]
      refine oH (UR _ _ (neg i (by omega)).2 hbd hd) (Bq (i+1) (by omega) _ ?_)
      simp only [su]
      rw [if_pos c,(neg i (by omega)).1]
     ·refine lV c (Bq (i+1) (by omega) o ?_)
      rw [ho]
      simp only [su]
      rw [if_neg c]
   refine mC (fun k=>by rw [lO.l0]) ?_
   rw [hQ,nH (x:=2*(n:Int)) (by omega) (by omega)]
   refine cY (by omega) ?_
   by_cases c:(x:Int)=(pU:Int)
   ·refine cY c (mC (fun k=>by rw [lO.j1]) ?_)
    exact inner n 0 (by omega) (1,1) (by simp only [su];rw [if_pos (by omega)])
   ·refine lV c (mC (fun k=>by rw [lO.j1]) ?_)
    exact inner n 0 (by omega) (0,1) (by simp only [su];rw [if_neg (by omega)])
 exact loop (2*n+1) 0 [] (by omega) (Nat.le_refl _)
theorem Vo:Ev (fun k=>ow.f k (ud s n pU n) s.den) (uO (fun x=>pP ((ud s n pU n).getD x 0) s.den) (2*n+1) 0 []):=by
 have h:=QV (ud s n pU n) s.den (by rw [zV];omega) hd ⟨by omega,by omega⟩ (fun x hx=>?_)
 ·rw [zV] at h;exact h
 ·rw [zV] at hx
  rw [Jc s n pU x hx hnn n (Nat.le_refl _)]
  have key: ∀i,i≤n→xK ((su s pU x i).getD (if x=pU then s.den else 0)):=by
   intro i
   induction i with
   | zero=>
    intro _
    simp only [su,Option.getD_none]
    split
    ·exact⟨by omega,by omega⟩
    ·exact⟨by omega,by omega⟩
   | succ i ih=>
    intro hi
    simp only [su]
    split
    ·have:=hT i pU (by omega) (by omega)
     unfold uN at this
     simp only [Option.getD_some]
     rw [nH (by omega) (by omega)]
     exact⟨by omega,by omega⟩
    ·exact ih (by omega)
  exact key n (Nat.le_refl _)
end
theorem ac2 (M:List (List Int)) (Q cv:List Int) (hQ:Q.length≤1048576) (hcv:cv.length≤1048576): ∃R:List mh × Int,Ev (fun k=>lO.f k M Q cv) R∧Ev (fun k=>qN.f k M Q cv) R∧R.1.length≤11:=by
 by_cases c:pV M Q cv=0
 ·obtain⟨S,h1,h2⟩:=Bs c 201 (by omega)
  have hpc:=rM c
  obtain⟨hok,hr0,hr1⟩:=xY hpc 201
  obtain⟨R,hR⟩: ∃R,nI M Q cv 201=R:=⟨_,rfl⟩
  rw [hR] at h2 hok hr0 hr1
  have hA:=pY (n:=Q.length) (M:=m9 M) (cv:=fun i=>cv.getD i 0) (q:=fun i=>Q.getD i 0) hpc.Mb (fun i hi=>by have:=hpc.cb i hi;omega) hpc.qb
  have hT: ∀a c,a < Q.length→c < 2*Q.length+2→uN (R.1.T a c):=fun a c ha hc=>hok.abs hpc.le hA ha hc
  have hden:=hok.Cx hpc.le hA
  unfold lO.f qN.f O8
  rw [hR]
  rcases h2 with ⟨e1,e2⟩ | ⟨e1,e2,e3,e4,e5,e6⟩
  ·refine⟨([],3),?_,?_,by simp⟩
   ·refine oH (zy M Q cv hQ hcv) (cY c (oH h1 ?_))
    exact cY (by show (S.2.1.length:Int) > 200;omega) (oK rfl)
   ·refine cY c (lV (by rw [e1];decide) (oK ?_))
    rw [e1]
  ·by_cases d:R.2.2.1=true
   ·refine⟨([],4),?_,?_,by simp⟩
    ·refine oH (zy M Q cv hQ hcv) (cY c (oH h1 (lV (by show ¬ (S.2.1.length:Int) > 200;omega) ?_)))
     exact cY (by show S.2.2.2=true;rw [e5];exact d) (oK rfl)
    ·exact cY c (cY e1 (cY d (oK rfl)))
   ·obtain⟨rn,hrn⟩:=Int.eq_ofNat_of_zero_le hr0
    have d':R.2.2.1=false:=by cases h:R.2.2.1 with | true=>exact absurd h d | false=>rfl
    have anB:=e6 rfl d'
    refine⟨_,?_,cY c (cY e1 (lV d (Vo (s:=R.1) rfl hpc.le hpc.pos hT hden.1 hden.2 hok.len hok.nn (show R.2.2.2.1.toNat < 2*Q.length+1 by omega)))),?_⟩
    ·refine oH (zy M Q cv hQ hcv) (cY c (oH h1 (lV (by show ¬ (S.2.1.length:Int) > 200;omega) (lV (by show ¬ S.2.2.2=true;rw [e5];exact d) ?_))))
     show Ev (fun k=>lO.l0 k S.2.2.1 [] 0 M Q (nP Q.length (2*Q.length+2) S.1.T) S.1.den S.1.bs) _
     rw [anB,e3,hrn,Int.toNat_natCast]
     exact acR rfl hpc.le hpc.pos hT hden.1 hden.2 hok.len hok.nn (by omega) M Q rfl
    ·have:=U4 (fun x=>pP ((ud R.1 Q.length R.2.2.2.1.toNat Q.length).getD x 0) R.1.den) (2*Q.length+1) 0 []
     have:=hpc.le
     simp at*;omega
 ·refine⟨([],pV M Q cv),?_,?_,by simp⟩
  ·unfold lO.f
   exact oH (zy M Q cv hQ hcv) (lV c (oK rfl))
  ·unfold qN.f O8
   exact lV c (oK rfl)
end Go.Proofs.YthmfdplckdijdaaGreat.uF
end
section
namespace Go.Proofs.YthmfdplckdijdaaGreat.Pr
open Go.RowKit Wz.cw Wz.fX Wz.cX Ma
theorem aaK (n a b:Int):oZ.f n a b=some (decide (a≤n∧n≤b)):=by
 unfold oZ.f
 by_cases h:a≤n
 ·rw [if_pos (by omega)];simp [h]
 ·rw [if_neg (by omega)];simp [h]
end Go.Proofs.YthmfdplckdijdaaGreat.Pr
end
section
namespace Go.Proofs.YthmfdplckdijdaaGreat.Pr
open Go.RowKit Wz.cw Wz.fX Wz.cX
def RM (g:Nat) (lb:Array Value) (p:mh→Bool) (w:World) (l:List mh):Prop:=
 ∀(W:World) (x:mh),x ∈ l→Below w.heap.size w W→Calls Tryz.prog g (#[.agg #[.int .i64 x.f0, .int .i64 x.f1]]++lb) W fun e w'=>e= .returned (.bool (p x))∧Below W.heap.size W w'
theorem Qp (p:mh→Bool) (g:Nat) (lb:Array Value) (eg: ∀args w,(callFunc g args).run Tryz.prog w= .ok (.enter g args) w) (A:Option Addr) (c:Nat) (l:List mh) (w:World)
  (hr:Kd.C rU w A l.length l) (hp:RM g lb p w l):
  Calls Tryz.prog 163 #[.slice A l.length c, .func (.func g) #[] lb] w fun e w'=>e= .returned (.int .i64 (z7 p l 0))∧Below w.heap.size w w':=by
 have HR:=q_ hr;have HP:=q_ hp;have ael:l.length≤9223372036854775807:=hr.2.1;clear hr hp
 go_enter Tryz.func163,Tryz.ntmps163
 go_wp2
 go_loopg [5,8] l.length (fun gg _ s8 wr=> ∃kk:Nat,kk≤l.length∧l.length - kk≤gg∧s8= .int .i64 kk∧aE (Below w.heap.size w wr)∧aE (∀j (hj:j < l.length),j < kk→p l[j]=false))
 case atStart=>exact⟨0,Nat.zero_le _,by omega,rfl,⟨Below.refl _ w⟩,⟨fun j _ hj=>absurd hj (Nat.not_lt_zero _)⟩⟩
 case round=>
  obtain⟨kk,hkk,hg,rfl,BW,F⟩:=hrel
  by_cases hlt:kk < l.length
  ·obtain⟨ad,e,hx,hz⟩:=ze HR.out kk (by omega) (by omega);cases e
   rw [Int.toNat_natCast] at hx hz;have hx':=bc_ BW.out hx;have hz':=bc_ BW.out hz;clear hx hz;have hel:kB l (kk:Int)=l[kk]:=by simp [kB,hlt]
   have hcall:=HP.out wr l[kk] (List.getElem_mem hlt) BW.out;rw [hel] at hx' hz';clear hel;have pZ:(kk:Int) < (l.length:Int):=by omega
   have h0z:(0:Int)≤(kk:Int):=by omega
   generalize hy:l[kk]=y at hx' hz' hcall
   have HY:=q_ hy;clear hy;cases hq:p y with
   | true=>
    rw [hq] at hcall;have HQ:=q_ hq;clear hq
    go_wp2_with fail
    refine hcall.mono ?_
    rintro e w' ⟨rfl,hb'⟩;clear hcall;go_wp2
    go_ret
    refine⟨?_,Below.trans BW.out (hb'.mono BW.out.size)⟩
    rw [GJ p l kk hlt F.out (by rw [HY.out];exact HQ.out)]
    rfl
   | false=>
    rw [hq] at hcall;have HQ:=q_ hq;clear hq
    go_wp2_with fail
    refine hcall.mono ?_
    rintro e w' ⟨rfl,hb'⟩;clear hcall;go_wp2
    go_roundg (l.length - (kk+1))
    case measure=>omega
    case rel=>
     refine⟨kk+1,by omega,by omega,by go_num,⟨Below.trans BW.out (hb'.mono BW.out.size)⟩,⟨fun j hj hjk=>?_⟩⟩
     by_cases e:j=kk
     ·subst e;rw [HY.out];exact HQ.out
     ·exact F.out j hj (by omega)
  ·have pZ: ¬ (kk:Int) < (l.length:Int):=by omega
   obtain rfl:kk=l.length:=by omega
   go_wp2
   go_ret
   refine⟨?_,BW.out⟩
   rw [EZ p l (fun i hi=>F.out i hi hi)]
   rfl
theorem Jw (p:mh→Bool) (g:Nat) (lb:Array Value) (eg: ∀args w,(callFunc g args).run Tryz.prog w= .ok (.enter g args) w) (A:Option Addr) (c:Nat) (l:List mh) (w:World)
  (hr:Kd.C rU w A l.length l) (hp:RM g lb p w l):
  Calls Tryz.prog 152 #[.slice A l.length c, .func (.func g) #[] lb] w fun e w'=>e= .returned (.bool (l.any p))∧Below w.heap.size w w':=by
 rw [← Fc p l 0 (Int.le_refl _)];have HR:=q_ hr;have HP:=q_ hp;clear hr hp
 go_enter Tryz.func152,Tryz.ntmps152
 go_wp2_with fail
 refine(Qp p g lb eg A c l _ HR.out HP.out).mono ?_
 rintro e w' ⟨rfl,hb'⟩;go_wp2
 go_ret
 exact⟨rfl,hb'⟩
def K2 (x:mh):Bool:=!(Fr.AW 1000000000 x.f0 x.f1)
theorem ab5 (x:mh) (w:World):Calls Tryz.prog 153 (#[.agg #[.int .i64 x.f0, .int .i64 x.f1]]++ #[]) w fun e w'=>e= .returned (.bool (K2 x))∧Below w.heap.size w w':=by
 obtain⟨k,hk⟩:=Ev.rounds (Fr.Vr x.f0 x.f1);have HK:=q_ hk;clear hk;unfold K2
 show Calls Tryz.prog 153 #[.agg #[.int .i64 x.f0, .int .i64 x.f1]] w _
 generalize Fr.AW 1000000000 x.f0 x.f1=b at HK ⊢
 go_enter Tryz.func153,Tryz.ntmps153
 go_wp2_with fail
 refine(qG.calls k x.f0 x.f1 _ _ HK.out).mono ?_
 rintro e w' ⟨rfl,hb⟩;go_wp2
 go_ret
 exact⟨rfl,((Below.refl _ _).alloc (Nat.le_refl _) _).trans (hb.mono (by simp))⟩
theorem K3: ∀args w,(callFunc 153 args).run Tryz.prog w= .ok (.enter 153 args) w:=vB Tryz.func153 (by kernel_rfl) rfl
def rF.f (l0:List mh):Option Bool:=some (!(l0.any K2))
theorem rF.calls (A0:Option Addr) (c0:Nat) (l0:List mh) (r:Bool) (w:World) (hr0:Kd.C rU w A0 l0.length l0) (hc0:l0.length≤c0) (h:rF.f l0=some r):
  Calls Tryz.prog 115 #[.slice A0 l0.length c0] w fun e w'=>e= .returned (.bool r)∧Below w.heap.size w w':=by
 have HV:=q_ (Option.some.inj h);have hcall:=Jw K2 153 #[] K3 A0 c0 l0 w hr0 (fun W x _ _=>ab5 x W);have HC:=q_ hcall;clear hr0 hc0 h hcall
 generalize l0.any K2=b at HV HC
 go_enter Tryz.func115,Tryz.ntmps115
 go_wp2_with fail
 refine HC.out.mono ?_
 rintro e w' ⟨rfl,hb⟩;go_wp2
 go_ret
 exact⟨by rw [← HV.out];rfl,hb⟩
end Go.Proofs.YthmfdplckdijdaaGreat.Pr
end
section
namespace Go.Proofs.YthmfdplckdijdaaGreat.Pr
open Go.RowKit Wz.cw Wz.fX Wz.cX
attribute [local go_sem] nV nT oF oD nC nB nU nS
def nG.j0:Nat→List (mh)→Bool→List (List Int)→List Int→Option (Int)
 | 0,_,_,_,_=>none
 | k+1,x1,x5,ae,aa=>if x5=true then(some 1) else(if(x1.length:Int)=(aa.length:Int) then(some 0) else(some 2))
def nG.f (k:Nat) (aa:List (List Int)) (ae:List Int) (l1:List (mh)):Option (Int):=(nZ.f aa ae).bind fun af=>(if af=true then((rF.f l1).bind fun ag=>(nG.j0 k l1 (!ag) aa ae)) else(nG.j0 k l1 true aa ae))
theorem nG.calls (k:Nat) (ah:Option Addr) (ai:Nat) (af:List (List Int)) (aj:Option Addr) (ak:Nat) (aa:List Int) (A1:Option Addr) (c1:Nat) (l1:List (mh)) (r:Int) (w:World) (aA:Kd.C (Kd.slice 2 (Kd.int .i64)) w ah af.length af) (aC:af.length≤ai) (aD:Kd.C (Kd.int .i64) w aj aa.length aa) (aG:aa.length≤ak) (hr1:Kd.C rU w A1 l1.length l1) (hc1:l1.length≤c1) (h:nG.f k af aa l1=some r):
  Calls Tryz.prog 69 #[.agg #[.slice ah af.length ai, .slice aj aa.length ak], .slice A1 l1.length c1] w fun e w'=>e= .returned (.int .i64 r)∧Below w.heap.size w w':=by
 have CY:=Tryz.underlying34;have mR:=q_ aA;have oh:=q_ aC;clear aA aC;have ox:=q_ aD;have oR:=q_ aG;clear aD aG;have pR:=q_ hr1;have qy:=q_ hc1;clear hr1 hc1;have HB:=q_ (Below.refl w.heap.size w);have H:((nZ.f af aa).bind fun aw=>(if aw=true then((rF.f l1).bind fun aq=>(nG.j0 k l1 (!aq) af aa)) else(nG.j0 k l1 true af aa)))=some r:=h;clear h;have HC3:=q_ H;clear H
 go_enter Tryz.func69,Tryz.ntmps69
 go_upto_region 1 with (first | ((with_reducible refine dg (N:=2) rfl ?_);refine nR 2 #[.slice ah af.length ai, .slice aj aa.length ak] 34 ?_;intro ag hg w4 cM hb;have ae:=q_ (cM);have bh:=mq w hg;have bi:=mq w hg;replace HB:=lT hb;clear hb cM hg))
 (try simp only [Act.put,List.setIfInBounds_toArray,List.set_cons_zero,List.set_cons_succ])
 go_cut [5] (fun v5 wc=> ∃(kq:Nat) (ax:Bool),v5= .bool ax∧aE (nG.j0 kq l1 ax af aa=some r)∧aE (kq≤k)∧aE (wc.heap[ag]?=some (.cells #[(.slice ah af.length ai),(.slice aj aa.length ak)] 34 (0,0)))∧aE (Below w.heap.size w wc))
 case first=>
  have H:=HC3.out;clear HC3;replace H:=Option.bind_eq_some_iff.mp H;obtain⟨aw,xL,H⟩:=H;replace H:(if aw=true then((rF.f l1).bind fun aq=>(nG.j0 k l1 (!aq) af aa)) else(nG.j0 k l1 true af aa))=some r:=H;have A5:=q_ xL;clear xL
  by_cases c6:aw=true
  ·subst c6;have H1:((rF.f l1).bind fun aq=>(nG.j0 k l1 (!aq) af aa))=some r:=by rw [if_pos rfl] at H;exact H
   clear H;have H:=H1;clear H1;replace H:=Option.bind_eq_some_iff.mp H;obtain⟨aq,CD,H⟩:=H;replace H:(nG.j0 k l1 (!aq) af aa)=some r:=H;have A7:=q_ CD;clear CD;have H':=q_ H;clear H;obtain⟨aM,aN,aT,aU⟩:=nF ae
   go_wp2_with (first | ((with_reducible refine d8 (f:=48) rfl ?_);refine oJ 7 Tryz.func48 #[.agg #[.slice ah af.length ai, .slice aj aa.length ak]] ?_;(with_reducible refine(nZ.calls _ _ af _ _ aa true _ ?au ?av ?ay ?az A5.out).mono ?_);(case au=>exact ni mR.out HB.out);(case av=>exact oh.out);(case ay=>exact ni ox.out HB.out);(case az=>exact oR.out);rintro e w9 ⟨rfl,hb⟩;refine⟨_,rfl,?_⟩;replace ae:=lZ ae hb;replace HB:=lT hb;(try clear hb)) | (go_at_call 115;(with_reducible refine(rF.calls _ _ l1 aq _ ?au ?av A7.out).mono ?_);(case au=>exact ni pR.out HB.out);(case av=>exact qy.out);rintro e tE ⟨rfl,hb⟩;replace ae:=lZ ae hb;replace HB:=lT hb;(try clear hb)))
   go_meet
   case rel=>exact⟨_,(!aq),nM,H',⟨by first | omega | exact Nat.le_refl _⟩,⟨nj⟩,⟨hb_⟩⟩
  ·replace c6:=Bool.eq_false_iff.mpr c6;subst c6;have H1:(nG.j0 k l1 true af aa)=some r:=by rw [if_neg (show ¬ (false=true) by decide)] at H;exact H
   clear H;have H:=H1;clear H1;have H':=q_ H;clear H;obtain⟨aH,aI,aJ,aK⟩:=nF ae
   go_wp2_with (first | ((with_reducible refine d8 (f:=48) rfl ?_);refine oJ 7 Tryz.func48 #[.agg #[.slice ah af.length ai, .slice aj aa.length ak]] ?_;(with_reducible refine(nZ.calls _ _ af _ _ aa false _ ?au ?av ?ay ?az A5.out).mono ?_);(case au=>exact ni mR.out HB.out);(case av=>exact oh.out);(case ay=>exact ni ox.out HB.out);(case az=>exact oR.out);rintro e tX ⟨rfl,hb⟩;refine⟨_,rfl,?_⟩;replace ae:=lZ ae hb;replace HB:=lT hb;(try clear hb)))
   go_meet
   case rel=>exact⟨_,(true),nM,H',⟨by first | omega | exact Nat.le_refl _⟩,⟨nj⟩,⟨hb_⟩⟩
 case rest=>
  clear HC3;(try clear c1);(try clear c6);(try clear aH);(try clear aI);(try clear aM);(try clear aN);(try clear aJ);(try clear aK);(try clear aT);(try clear aU);obtain⟨kq,ax,rfl,HA,HJ2,ae,HB⟩:=hcut;cases kq with
  | zero=>exact absurd HA.out (by simp [nG.j0])
  | succ kj2=>
   have H:=HA.out;clear HA;simp only [nG.j0] at H
   by_cases rz:ax=true
   ·subst rz;have H1:(some 1)=some r:=by rw [if_pos rfl] at H;exact H
    clear H;have H:=H1;clear H1;obtain rfl:=Option.some.inj H;go_wp2
    go_ret
    exact⟨pH,hb_⟩
   ·replace rz:=Bool.eq_false_iff.mpr rz;subst rz;have H1:(if(l1.length:Int)=(aa.length:Int) then(some 0) else(some 2))=some r:=by rw [if_neg (show ¬ (false=true) by decide)] at H;exact H
    clear H;have H:=H1;clear H1
    by_cases tI:(l1.length:Int)=(aa.length:Int)
    ·rw [if_pos tI] at H;have GX:=yh tI;have Sw:=yg tI;have alv:(l1.length==aa.length)=true:=by first | simpa using tI | (simp at tI ⊢;omega)
     clear tI;obtain rfl:=Option.some.inj H;obtain⟨aV,aW,aX,aY⟩:=nF ae;go_wp2
     go_ret
     exact⟨pH,hb_⟩
    ·rw [if_neg tI] at H;have GX:=uJ tI;have Sw:=uI tI;have alv:(l1.length==aa.length)=false:=by first | simpa using tI | (simp at tI ⊢;omega)
     obtain rfl:=Option.some.inj H;obtain⟨aZ,a9,ba,bg⟩:=nF ae;go_wp2
     go_ret
     exact⟨pH,hb_⟩
mutual
def kA.l0:Nat→List (mh)→Int→Int→Int→List (mh)→Int→Int→Option (List Int × Int × Bool)
 | 0,_,_,_,_,_,_,_=>none
 | k+1,x0,x1,x2,x9,wO,x17,x18=>if x18 < x17 then(if 0≤x18 then(if x18 < (wO.length:Int) then((nK.f k x9 ((kB wO x18).f1)).bind fun aa=>(if aa=0 then(none) else(if(wrap64 ((wrap64 (Int.tdiv x9 aa))*((kB wO x18).f1))) > x1 then(some (([]:List Int),0,false)) else(kA.l0 k x0 x1 x2 (wrap64 ((wrap64 (Int.tdiv x9 aa))*((kB wO x18).f1))) wO x17 (wrap64 (x18+1)))))) else(none)) else(none)) else(kA.l1 k x2 x9 ([]:List Int) x0 (x0.length:Int) 0)
def kA.l1:Nat→Int→Int→List Int→List (mh)→Int→Int→Option (List Int × Int × Bool)
 | 0,_,_,_,_,_,_=>none
 | k+1,x2,x9,tC,UG,x36,OQ=>if OQ < x36 then(if 0≤OQ then(if OQ < (UG.length:Int) then(if((kB UG OQ).f1)=0 then(none) else((rN.f (wrap64 (((kB UG OQ).f0)*(wrap64 (Int.tdiv x9 ((kB UG OQ).f1))))) x2).bind fun ae=>(if ae=true then(if tC.length < 17592186044416 then(kA.l1 k x2 x9 (tC++ [wrap64 (((kB UG OQ).f0)*(wrap64 (Int.tdiv x9 ((kB UG OQ).f1))))]) UG x36 (wrap64 (OQ+1))) else(none)) else(some (([]:List Int),0,false))))) else(none)) else(none)) else(some (tC,x9,true))
end
def kA.f (k:Nat) (l0:List (mh)) (a1:Int) (a2:Int):Option (List Int × Int × Bool):=kA.l0 k l0 a1 a2 1 l0 (l0.length:Int) 0
def kA.T5:Bool × List (List Nat × List Nat):=(true, [([], []),([], []),([], []),([2], [2]),([1,3], [1,3]),([0,4], [0,4]),([], []),([6], [6]),([5,7], [5,7]),([8,4,0,1,2,3,4,5,6,7,8], [0,1,8])])
def kA.B5:List Nat:= [0,0,0,4,14,31,0,64,255,511]
theorem kA.xO:sy .any (opsOf Tryz.f70 5)=kA.T5:=by kernel_rfl
theorem kA.vo:tD kA.T5.2 kA.B5=true:=by kernel_rfl
def kA.T13:Bool × List (List Nat × List Nat):=(true, [([], []),([0], [0]),([], []),([], []),([3], [3]),([2,4], [2,4]),([1,5], [1,5]),([6,0,1,2,3,4,5,6], [6])])
def kA.B13:List Nat:= [0,1,0,0,8,28,63,127]
theorem kA.aft:sy .any (opsOf Tryz.f70 13)=kA.T13:=by kernel_rfl
theorem kA.ab0:tD kA.T13.2 kA.B13=true:=by kernel_rfl
theorem kA.calls (k:Nat) (A0:Option Addr) (c0:Nat) (l0:List (mh)) (a1:Int) (a2:Int) (r1:List Int) (r2:Int) (r3:Bool) (w:World) (hr0:Kd.C rU w A0 l0.length l0) (hc0:l0.length≤c0) (h:kA.f k l0 a1 a2=some (r1,r2,r3)):
  Calls Tryz.prog 70 #[.slice A0 l0.length c0, .int .i64 a1, .int .i64 a2] w fun e w'=> ∃qg:Value,e= .returned (.tuple #[qg, .int .i64 r2, .bool r3])∧Kd.R (Kd.int .i64) 2 w' w.heap.size (fun _=>True) qg r1∧Below w.heap.size w w':=by
 have DV:=Tryz.underlying58;have qE:=q_ hr0;have uG:=q_ hc0;clear hr0 hc0;have HB:=q_ (Below.refl w.heap.size w);have H:(kA.l0 k l0 a1 a2 1 l0 (l0.length:Int) 0)=some (r1,r2,r3):=h;clear h;have H':=q_ H;clear H
 go_enter Tryz.func70,Tryz.ntmps70
 go_wp2
 go_loopg [9,18] k (fun kq v9 v18 w'=> ∃(aj:Int) (ae:Int),v9= .int .i64 aj∧v18= .int .i64 ae∧aE (kA.l0 kq l0 a1 a2 aj l0 (l0.length:Int) ae=some (r1,r2,r3))∧aE (kq≤k)∧aE (Below w.heap.size w w'))
 case atStart=>exact⟨(1),(0),nM,nM,H',⟨Nat.le_refl _⟩,⟨hb_⟩⟩
 case round=>
  clear H';obtain⟨aj,ae,rfl,rfl,HA,nA,HB⟩:=hrel;cases gk with
  | zero=>exact absurd HA.out (by simp [kA.l0])
  | succ k1=>
   have H:=HA.out;clear HA;simp only [kA.l0] at H
   by_cases c4:ae < (l0.length:Int)
   ·rw [if_pos c4] at H;have qv:=decide_eq_true c4;clear c4
    by_cases c5:0≤ae
    ·rw [if_pos c5] at H;have uP:=decide_eq_true c5;clear c5
     by_cases c6:ae < (l0.length:Int)
     ·rw [if_pos c6] at H;have uj:=decide_eq_true c6;clear c6;replace H:=Option.bind_eq_some_iff.mp H;obtain⟨au,CD,H⟩:=H;replace H:(if au=0 then(none) else(if(wrap64 ((wrap64 (Int.tdiv aj au))*((kB l0 ae).f1))) > a1 then(some (([]:List Int),0,false)) else(kA.l0 k1 l0 a1 a2 (wrap64 ((wrap64 (Int.tdiv aj au))*((kB l0 ae).f1))) l0 (l0.length:Int) (wrap64 (ae+1)))))=some (r1,r2,r3):=H;have A7:=q_ CD;clear CD
      by_cases c8:au=0
      ·rw [if_pos c8] at H;exact absurd H (by simp)
      ·rw [if_neg c8] at H;have IG:=uJ c8;have V8:=uI c8
       by_cases c9:(wrap64 ((wrap64 (Int.tdiv aj au))*((kB l0 ae).f1))) > a1
       ·rw [if_pos c9] at H;have Ab:=decide_eq_true c9;clear c9;simp only [Option.some.injEq,Prod.mk.injEq] at H;obtain⟨rfl,rfl,rfl⟩:=H;have Ie:0≤(ae:Int):=l7;have Ia:ae < (l0.length:Int):=l7;obtain⟨aI,aes,Ar,Ap⟩:=ze qE.out ae Ie Ia;cases aes
        replace Ar:=bc_ HB.out Ar;replace Ap:=bc_ HB.out Ap;replace Ie:=eq_true Ie;replace Ia:=eq_true Ia
        try go_wp2_with (first | ((with_reducible refine dg (N:=11) rfl ?_);refine nR 11 #[.int .i64 0, .int .i64 0] 58 ?_;intro ai hg tE cM hb;have ag:=q_ (cM);have aJ:=mq w hg;have aK:=mq w hg;replace HB:=lT hb;clear hb cM hg;obtain⟨av,aw,ax,ay⟩:=nF ag))
        have rE:aE (((tE.setCell ⟨ai,0,none⟩ (.int .i64 ((kB l0 ae).f0))).setCell ⟨ai,1,none⟩ (.int .i64 ((kB l0 ae).f1))).heap[ai]?=some (.cells #[.int .i64 ((kB l0 ae).f0), .int .i64 ((kB l0 ae).f1)] 58 (0,0))):=⟨oX⟩
        have rD:aE (Below w.heap.size w ((tE.setCell ⟨ai,0,none⟩ (.int .i64 ((kB l0 ae).f0))).setCell ⟨ai,1,none⟩ (.int .i64 ((kB l0 ae).f1)))):=⟨hb_⟩
        (try clear ag);(try clear HB)
        generalize ((tE.setCell ⟨ai,0,none⟩ (.int .i64 ((kB l0 ae).f0))).setCell ⟨ai,1,none⟩ (.int .i64 ((kB l0 ae).f1)))=tX at rE rD ⊢
        have ag:=rE;have HB:=rD;clear rE rD;replace ag:=q_ (mI ag.out);replace HB:=q_ (mS HB.out);refine qx (n:=10) (S:=fun w'=>w'.cell? ⟨ai,0,none⟩=some (.int .i64 ((kB l0 ae).f0))∧w'.cell? ⟨ai,1,none⟩=some (.int .i64 ((kB l0 ae).f1))) (ds:= []) ⟨(bp ag.out 0).trans rfl,(bp ag.out 1).trans rfl⟩ (fun hHeld=>?_);refine o9 kA.xO kA.vo (fun pL xA=>?_)
        generalize tX.drew=Ah at ag HB hHeld ⊢
        refine sB 0 22 1 23 2 24 6 28 ?_;refine mg 3 25 ?_;refine mg 7 29 ?_
        refine pz 4 (some 26) (fun K hK=>?_)
        refine sH Tryz.func116 (by kernel_rfl) rfl #[.int .i64 aj, .int .i64 ((kB l0 ae).f1)] (by rfl) rfl rfl (by(try simp only [List.map_toArray,List.map_cons,List.map_nil]);first | done | rfl | (simp only [List.length_drop,List.length_take];rfl)) ?_
        with_reducible refine(nK.calls k1 aj ((kB l0 ae).f1) au _ A7.out).mono ?_
        rintro e Cg ⟨rfl,hb⟩;refine⟨_,rfl,?_⟩
        replace ag:=lZ ag hb;replace HB:=lT hb;(try clear hb)
        
        (try clear hk)
        
        refine hK.out _ _ ⟨(bp ag.out 0).trans rfl,(bp ag.out 1).trans rfl⟩ (fun hHeld=>?_)
        clear hK K;refine mP (a':=?_) ?_ ?_
        rotate_left
        ·show Act.put _ (some 26) _=_
         simp only [Act.put,List.setIfInBounds_toArray,List.set_cons_zero,List.set_cons_succ,mT,nr]
         rfl
        refine rm 5 27 8 30 9 9 ?_
        refine oA (qj pL.out (by kernel_rfl)) ?_
        try go_wp2
        go_ret3
        exact⟨_,pH,by first | exact Kd.qT _ _ _ _ _ | exact Kd.uy _ _ _ _ _ | exact Kd.uw _ _ _ _ _ | exact Kd.ux _ _ _ _ _ | exact Kd.sJ _ _ _ _ _,hb_⟩
       ·rw [if_neg c9] at H;have Ab:=decide_eq_false c9;clear c9;have H':=q_ H;clear H;have Ie:0≤(ae:Int):=l7;have Ia:ae < (l0.length:Int):=l7;obtain⟨aI,aes,Ar,Ap⟩:=ze qE.out ae Ie Ia;cases aes
        replace Ar:=bc_ HB.out Ar;replace Ap:=bc_ HB.out Ap;replace Ie:=eq_true Ie;replace Ia:=eq_true Ia
        try go_wp2_with (first | ((with_reducible refine dg (N:=11) rfl ?_);refine nR 11 #[.int .i64 0, .int .i64 0] 58 ?_;intro ai hg vu cM hb;have ag:=q_ (cM);have aJ:=mq w hg;have aK:=mq w hg;replace HB:=lT hb;clear hb cM hg;obtain⟨az,aA,aC,aD⟩:=nF ag))
        have rE:aE (((vu.setCell ⟨ai,0,none⟩ (.int .i64 ((kB l0 ae).f0))).setCell ⟨ai,1,none⟩ (.int .i64 ((kB l0 ae).f1))).heap[ai]?=some (.cells #[.int .i64 ((kB l0 ae).f0), .int .i64 ((kB l0 ae).f1)] 58 (0,0))):=⟨oX⟩
        have rD:aE (Below w.heap.size w ((vu.setCell ⟨ai,0,none⟩ (.int .i64 ((kB l0 ae).f0))).setCell ⟨ai,1,none⟩ (.int .i64 ((kB l0 ae).f1)))):=⟨hb_⟩
        (try clear ag);(try clear HB)
        generalize ((vu.setCell ⟨ai,0,none⟩ (.int .i64 ((kB l0 ae).f0))).setCell ⟨ai,1,none⟩ (.int .i64 ((kB l0 ae).f1)))=Bp at rE rD ⊢
        have ag:=rE;have HB:=rD;clear rE rD;replace ag:=q_ (mI ag.out);replace HB:=q_ (mS HB.out);refine qx (n:=10) (S:=fun w'=>w'.cell? ⟨ai,0,none⟩=some (.int .i64 ((kB l0 ae).f0))∧w'.cell? ⟨ai,1,none⟩=some (.int .i64 ((kB l0 ae).f1))) (ds:= []) ⟨(bp ag.out 0).trans rfl,(bp ag.out 1).trans rfl⟩ (fun hHeld=>?_);refine o9 kA.xO kA.vo (fun pL xA=>?_)
        generalize Bp.drew=Rg at ag HB hHeld ⊢
        refine sB 0 22 1 23 2 24 6 28 ?_;refine mg 3 25 ?_;refine mg 7 29 ?_
        refine pz 4 (some 26) (fun K hK=>?_)
        refine sH Tryz.func116 (by kernel_rfl) rfl #[.int .i64 aj, .int .i64 ((kB l0 ae).f1)] (by rfl) rfl rfl (by(try simp only [List.map_toArray,List.map_cons,List.map_nil]);first | done | rfl | (simp only [List.length_drop,List.length_take];rfl)) ?_
        with_reducible refine(nK.calls k1 aj ((kB l0 ae).f1) au _ A7.out).mono ?_
        rintro e ER ⟨rfl,hb⟩;refine⟨_,rfl,?_⟩
        replace ag:=lZ ag hb;replace HB:=lT hb;(try clear hb)
        
        (try clear hk)
        
        refine hK.out _ _ ⟨(bp ag.out 0).trans rfl,(bp ag.out 1).trans rfl⟩ (fun hHeld=>?_)
        clear hK K;refine mP (a':=?_) ?_ ?_
        rotate_left
        ·show Act.put _ (some 26) _=_
         simp only [Act.put,List.setIfInBounds_toArray,List.set_cons_zero,List.set_cons_succ,mT,nr]
         rfl
        refine rm 5 27 8 30 9 9 ?_
        refine oA (qj pL.out (by kernel_rfl)) ?_
        try go_wp2
        go_roundg k1
        case measure=>have:=nA.out;omega
        case rel=>exact⟨(wrap64 ((wrap64 (Int.tdiv aj au))*((kB l0 ae).f1))),(wrap64 (ae+1)),nM,nM,H',⟨by have:=nA.out;omega⟩,⟨hb_⟩⟩
     ·rw [if_neg c6] at H;exact absurd H (by simp)
    ·rw [if_neg c5] at H;exact absurd H (by simp)
   ·rw [if_neg c4] at H;have qv:=decide_eq_false c4;clear c4;have H':=q_ H;clear H;go_wp2
    go_loopg [12,37] k1 (fun kq Di v37 w'=> ∃(aq:List Int) (aa:Int),v37= .int .i64 aa∧aE (kA.l1 kq a2 aj aq l0 (l0.length:Int) aa=some (r1,r2,r3))∧aE (kq≤k1)∧aE (Kd.R (Kd.int .i64) 2 w' w.heap.size (fun _=>True) Di aq)∧aE (Below w.heap.size w w'))
    case atStart=>exact⟨(([]:List Int)),(0),nM,H',⟨Nat.le_refl _⟩,⟨by first | exact Kd.qT _ _ _ _ _ | exact Kd.uy _ _ _ _ _ | exact Kd.uw _ _ _ _ _ | exact Kd.ux _ _ _ _ _ | exact Kd.sJ _ _ _ _ _⟩,⟨hb_⟩⟩
    case round=>
     clear H';(try clear qv);(try clear c5);(try clear uP);(try clear c6);(try clear uj);(try clear c8);(try clear IG);(try clear V8);(try clear Ab);(try clear av);(try clear aw);(try clear az);(try clear aA);(try clear ax);(try clear ay);(try clear aC);(try clear aD);(try clear Ar);(try clear Ap);(try clear Ie);(try clear Ia);obtain⟨aq,aa,rfl,HA,rA,ak,HB⟩:=hrel;cases gk with
     | zero=>exact absurd HA.out (by simp [kA.l1])
     | succ k2=>
      have H:=HA.out;clear HA;simp only [kA.l1] at H
      by_cases wL:aa < (l0.length:Int)
      ·rw [if_pos wL] at H;have PJ:=decide_eq_true wL;clear wL
       by_cases wK:0≤aa
       ·rw [if_pos wK] at H;have PI:=decide_eq_true wK;clear wK
        by_cases uz:aa < (l0.length:Int)
        ·rw [if_pos uz] at H;have GW:=decide_eq_true uz;clear uz
         by_cases uY:((kB l0 aa).f1)=0
         ·rw [if_pos uY] at H;exact absurd H (by simp)
         ·rw [if_neg uY] at H;have Jr:=uJ uY;have alq:=uI uY;replace H:=Option.bind_eq_some_iff.mp H;obtain⟨aG,Xf,H⟩:=H;replace H:(if aG=true then(if aq.length < 17592186044416 then(kA.l1 k2 a2 aj (aq++ [wrap64 (((kB l0 aa).f0)*(wrap64 (Int.tdiv aj ((kB l0 aa).f1))))]) l0 (l0.length:Int) (wrap64 (aa+1))) else(none)) else(some (([]:List Int),0,false)))=some (r1,r2,r3):=H;have A24:=q_ Xf;clear Xf
          by_cases PG:aG=true
          ·subst PG;have H1:(if aq.length < 17592186044416 then(kA.l1 k2 a2 aj (aq++ [wrap64 (((kB l0 aa).f0)*(wrap64 (Int.tdiv aj ((kB l0 aa).f1))))]) l0 (l0.length:Int) (wrap64 (aa+1))) else(none))=some (r1,r2,r3):=by rw [if_pos rfl] at H;exact H
           clear H;have H:=H1;clear H1
           by_cases Y7:aq.length < 17592186044416
           ·rw [if_pos Y7] at H;have aM:=q_ Y7;clear Y7;obtain⟨aH,hy⟩: ∃y_:List Int,y_=(aq++ [wrap64 (((kB l0 aa).f0)*(wrap64 (Int.tdiv aj ((kB l0 aa).f1))))]):=⟨_,rfl⟩
            replace H:(kA.l1 k2 a2 aj aH l0 (l0.length:Int) (wrap64 (aa+1)))=some (r1,r2,r3):=hh_;have aN:=q_ hy;clear hy;have H':=q_ H;clear H;have Kn:0≤(aa:Int):=l7;have JU:aa < (l0.length:Int):=l7;obtain⟨aT,aer,BG,BF⟩:=ze qE.out aa Kn JU;cases aer
            replace BG:=bc_ HB.out BG;replace BF:=bc_ HB.out BF;replace Kn:=eq_true Kn;replace JU:=eq_true JU
            try go_wp2_with (first | ((with_reducible refine dg (N:=14) rfl ?_);refine nR 14 #[.int .i64 0, .int .i64 0] 58 ?_;intro af hg Rf cM hb;replace ak:=rK ak hb;have ah:=q_ (cM);have aU:=mq w hg;have aV:=mq w hg;replace HB:=lT hb;clear hb cM hg;obtain⟨aX,aY,aZ,a9⟩:=nF ah))
            have rE:aE (Kd.R (Kd.int .i64) 2 ((Rf.setCell ⟨af,0,none⟩ (.int .i64 ((kB l0 aa).f0))).setCell ⟨af,1,none⟩ (.int .i64 ((kB l0 aa).f1))) w.heap.size (fun _=>True) u12 aq):=⟨kR_ (H7 ak.out ah.out) (fun _ hk=>trivial)⟩
            have rD:aE (((Rf.setCell ⟨af,0,none⟩ (.int .i64 ((kB l0 aa).f0))).setCell ⟨af,1,none⟩ (.int .i64 ((kB l0 aa).f1))).heap[af]?=some (.cells #[.int .i64 ((kB l0 aa).f0), .int .i64 ((kB l0 aa).f1)] 58 (0,0))):=⟨oX⟩
            have tN:aE (Below w.heap.size w ((Rf.setCell ⟨af,0,none⟩ (.int .i64 ((kB l0 aa).f0))).setCell ⟨af,1,none⟩ (.int .i64 ((kB l0 aa).f1)))):=⟨hb_⟩
            (try clear ak);(try clear ah);(try clear HB)
            generalize ((Rf.setCell ⟨af,0,none⟩ (.int .i64 ((kB l0 aa).f0))).setCell ⟨af,1,none⟩ (.int .i64 ((kB l0 aa).f1)))=UJ at rE rD tN ⊢
            have ak:=rE;have ah:=rD;have HB:=tN;clear rE rD tN;replace ak:=q_ (Kd.mF ak.out);replace ah:=q_ (mI ah.out);replace HB:=q_ (mS HB.out);refine qx (n:=8) (S:=fun w'=>w'.cell? ⟨af,0,none⟩=some (.int .i64 ((kB l0 aa).f0))∧w'.cell? ⟨af,1,none⟩=some (.int .i64 ((kB l0 aa).f1))) (ds:= []) ⟨(bp ah.out 0).trans rfl,(bp ah.out 1).trans rfl⟩ (fun hHeld=>?_);refine o9 kA.aft kA.ab0 (fun pL xA=>?_)
            generalize UJ.drew=Fo at ak ah HB hHeld ⊢
            refine rm 0 41 2 43 3 44 ?_;refine mg 1 42 ?_;refine mg 4 45 ?_;refine rm 5 46 6 47 7 15 ?_
            refine oA (qj pL.out (by kernel_rfl)) ?_
            try go_wp2_with (first | ((with_reducible refine d8 (f:=117) rfl ?_);refine oJ 50 Tryz.func117 #[.int .i64 (wrap64 (((kB l0 aa).f0)*(wrap64 (Int.tdiv aj ((kB l0 aa).f1))))), .int .i64 a2] ?_;(with_reducible refine(rN.calls (wrap64 (((kB l0 aa).f0)*(wrap64 (Int.tdiv aj ((kB l0 aa).f1))))) a2 true _ A24.out).mono ?_);rintro e w' ⟨rfl,⟨nd,rfl⟩⟩;refine⟨_,rfl,?_⟩) | ((with_reducible refine nL (b:= .append) (xs:= #[.tmp 52, .tmp 54]) rfl ?_);at_builtin;refine Kd.qo (Kd.int .i64) (w0:=w) w.heap.size rfl (.tmp 52) (.tmp 54) 24 2 (.int .i64 0) 8 rfl Tryz.underlying24 q6 rfl (by decide) (by omega) u12 aq (wrap64 (((kB l0 aa).f0)*(wrap64 (Int.tdiv aj ((kB l0 aa).f1))))) [.int .i64 (wrap64 (((kB l0 aa).f0)*(wrap64 (Int.tdiv aj ((kB l0 aa).f1)))))] (fun _=>True) (fun _=>False) rfl rfl ?aP (fun _ hk=>hk.elim) ?aF ?aO ?aB ?aS ?aL ?_;(case aP=>exact rfl);(case aB=>exact hb_);(case aF=>exact(fun _ _=>trivial));(case aO=>exact(m5 ak.out));(case aS=>exact oI);(case aL=>have:=aM.out;omega);intro bn w31 ho hb hg hat;rw [← aN.out] at ho;replace ah:=q_ (tU ah.out hg (Kd.pJ ak.out ah.out (by decide)));replace HB:=q_ (hb);have aW:=q_ (ho);clear ak ho hb hg hat))
            go_roundg k2
            case measure=>have:=nA.out;have:=rA.out;omega
            case rel=>exact⟨(aH),(wrap64 (aa+1)),nM,H',⟨by have:=nA.out;have:=rA.out;omega⟩,⟨m5 aW.out⟩,⟨hb_⟩⟩
           ·rw [if_neg Y7] at H;exact absurd H (by simp)
          ·replace PG:=Bool.eq_false_iff.mpr PG;subst PG;have H1:(some (([]:List Int),0,false))=some (r1,r2,r3):=by rw [if_neg (show ¬ (false=true) by decide)] at H;exact H
           clear H;have H:=H1;clear H1;simp only [Option.some.injEq,Prod.mk.injEq] at H;obtain⟨rfl,rfl,rfl⟩:=H;have Kn:0≤(aa:Int):=l7;have JU:aa < (l0.length:Int):=l7;obtain⟨aT,aer,BG,BF⟩:=ze qE.out aa Kn JU;cases aer
           replace BG:=bc_ HB.out BG;replace BF:=bc_ HB.out BF;replace Kn:=eq_true Kn;replace JU:=eq_true JU
           try go_wp2_with (first | ((with_reducible refine dg (N:=14) rfl ?_);refine nR 14 #[.int .i64 0, .int .i64 0] 58 ?_;intro af hg Rc cM hb;replace ak:=rK ak hb;have ah:=q_ (cM);have aU:=mq w hg;have aV:=mq w hg;replace HB:=lT hb;clear hb cM hg;obtain⟨ba,bg,bh,bi⟩:=nF ah))
           have rE:aE (Kd.R (Kd.int .i64) 2 ((Rc.setCell ⟨af,0,none⟩ (.int .i64 ((kB l0 aa).f0))).setCell ⟨af,1,none⟩ (.int .i64 ((kB l0 aa).f1))) w.heap.size (fun _=>True) u12 aq):=⟨kR_ (H7 ak.out ah.out) (fun _ hk=>trivial)⟩
           have rD:aE (((Rc.setCell ⟨af,0,none⟩ (.int .i64 ((kB l0 aa).f0))).setCell ⟨af,1,none⟩ (.int .i64 ((kB l0 aa).f1))).heap[af]?=some (.cells #[.int .i64 ((kB l0 aa).f0), .int .i64 ((kB l0 aa).f1)] 58 (0,0))):=⟨oX⟩
           have tN:aE (Below w.heap.size w ((Rc.setCell ⟨af,0,none⟩ (.int .i64 ((kB l0 aa).f0))).setCell ⟨af,1,none⟩ (.int .i64 ((kB l0 aa).f1)))):=⟨hb_⟩
           (try clear ak);(try clear ah);(try clear HB)
           generalize ((Rc.setCell ⟨af,0,none⟩ (.int .i64 ((kB l0 aa).f0))).setCell ⟨af,1,none⟩ (.int .i64 ((kB l0 aa).f1)))=w34 at rE rD tN ⊢
           have ak:=rE;have ah:=rD;have HB:=tN;clear rE rD tN;replace ak:=q_ (Kd.mF ak.out);replace ah:=q_ (mI ah.out);replace HB:=q_ (mS HB.out);refine qx (n:=8) (S:=fun w'=>w'.cell? ⟨af,0,none⟩=some (.int .i64 ((kB l0 aa).f0))∧w'.cell? ⟨af,1,none⟩=some (.int .i64 ((kB l0 aa).f1))) (ds:= []) ⟨(bp ah.out 0).trans rfl,(bp ah.out 1).trans rfl⟩ (fun hHeld=>?_);refine o9 kA.aft kA.ab0 (fun pL xA=>?_)
           generalize w34.drew=w35 at ak ah HB hHeld ⊢
           refine rm 0 41 2 43 3 44 ?_;refine mg 1 42 ?_;refine mg 4 45 ?_;refine rm 5 46 6 47 7 15 ?_
           refine oA (qj pL.out (by kernel_rfl)) ?_
           try go_wp2_with (first | ((with_reducible refine d8 (f:=117) rfl ?_);refine oJ 50 Tryz.func117 #[.int .i64 (wrap64 (((kB l0 aa).f0)*(wrap64 (Int.tdiv aj ((kB l0 aa).f1))))), .int .i64 a2] ?_;(with_reducible refine(rN.calls (wrap64 (((kB l0 aa).f0)*(wrap64 (Int.tdiv aj ((kB l0 aa).f1))))) a2 false _ A24.out).mono ?_);rintro e w' ⟨rfl,⟨nd,rfl⟩⟩;refine⟨_,rfl,?_⟩))
           go_ret3
           exact⟨_,pH,by first | exact Kd.qT _ _ _ _ _ | exact Kd.uy _ _ _ _ _ | exact Kd.uw _ _ _ _ _ | exact Kd.ux _ _ _ _ _ | exact Kd.sJ _ _ _ _ _,hb_⟩
        ·rw [if_neg uz] at H;exact absurd H (by simp)
       ·rw [if_neg wK] at H;exact absurd H (by simp)
      ·rw [if_neg wL] at H;have PJ:=decide_eq_false wL;clear wL;simp only [Option.some.injEq,Prod.mk.injEq] at H;obtain⟨rfl,rfl,rfl⟩:=H;go_wp2
       go_ret3
       exact⟨_,pH,m5 ak.out,hb_⟩
def sO.l0:Nat→List Int→Int→List Int→Int→Int→Option (Int)
 | 0,_,_,_,_,_=>none
 | k+1,x1,x5,x8,x9,x10=>if x10 < x9 then(if 0≤x10 then(if x10 < (x8.length:Int) then(if x10 < (x1.length:Int) then(sO.l0 k x1 (wrap64 (x5+(wrap64 ((rd x8 x10)*(rd x1 x10))))) x8 x9 (wrap64 (x10+1))) else(none)) else(none)) else(none)) else(some x5)
def sO.f (k:Nat) (l0:List Int) (l1:List Int):Option (Int):=sO.l0 k l1 0 l0 (l0.length:Int) 0
theorem sO.calls (k:Nat) (A0:Option Addr) (c0:Nat) (l0:List Int) (A1:Option Addr) (c1:Nat) (l1:List Int) (r:Int) (w:World) (hr0:Kd.C (Kd.int .i64) w A0 l0.length l0) (hc0:l0.length≤c0) (hr1:Kd.C (Kd.int .i64) w A1 l1.length l1) (hc1:l1.length≤c1) (h:sO.f k l0 l1=some r):
  Calls Tryz.prog 118 #[.slice A0 l0.length c0, .slice A1 l1.length c1] w fun e w'=>e= .returned (.int .i64 r)∧lP w w':=by
 have qE:=q_ hr0;have uG:=q_ hc0;clear hr0 hc0;have pR:=q_ hr1;have qy:=q_ hc1;clear hr1 hc1;have H:(sO.l0 k l1 0 l0 (l0.length:Int) 0)=some r:=h;clear h;have H':=q_ H;clear H
 go_enter Tryz.func118,Tryz.ntmps118
 go_wp2
 go_loopg [5,10] k (fun kq v5 v10 w'=> ∃(ae:Int) (aa:Int),v5= .int .i64 ae∧v10= .int .i64 aa∧aE (sO.l0 kq l1 ae l0 (l0.length:Int) aa=some r)∧aE (kq≤k)∧lP w w')
 case atStart=>exact⟨(0),(0),(by first | rfl | (simp;done) | (simp [*];done)),(by first | rfl | (simp;done) | (simp [*];done)),H',⟨Nat.le_refl _⟩,by repeat (first | exact lP.refl _ | apply lP.step)⟩
 case round=>
  clear H';(try clear c1);obtain⟨ae,aa,rfl,rfl,HA,nA,⟨m1,rfl⟩⟩:=hrel;cases gk with
  | zero=>exact absurd HA.out (by simp [sO.l0])
  | succ k1=>
   have H:=HA.out;clear HA;simp only [sO.l0] at H
   by_cases c3:aa < (l0.length:Int)
   ·rw [if_pos c3] at H;have qP:=decide_eq_true c3;clear c3
    by_cases c4:0≤aa
    ·rw [if_pos c4] at H;have qv:=decide_eq_true c4;clear c4
     by_cases c5:aa < (l0.length:Int)
     ·rw [if_pos c5] at H;have uP:=decide_eq_true c5;clear c5
      by_cases c6:aa < (l1.length:Int)
      ·rw [if_pos c6] at H;have uj:=decide_eq_true c6;clear c6;have H':=q_ H;clear H;have adz:0≤(aa:Int):=of_decide_eq_true (by first | (with_reducible assumption) | assumption);have ac7:aa < (l0.length:Int):=of_decide_eq_true (by first | (with_reducible assumption) | assumption);obtain⟨af,anT,aoI⟩:=Kd.mA qE.out aa adz ac7;cases anT
       replace adz:=eq_true adz;replace ac7:=eq_true ac7;have ady:0≤(aa:Int):=of_decide_eq_true (by first | (with_reducible assumption) | assumption);have ac6:aa < (l1.length:Int):=of_decide_eq_true (by first | (with_reducible assumption) | assumption);obtain⟨ag,anS,aoH⟩:=Kd.mA pR.out aa ady ac6;cases anS
       replace ady:=eq_true ady;replace ac6:=eq_true ac6;go_wp2
       go_roundg k1
       case measure=>have:=nA.out;omega
       case rel=>exact⟨(wrap64 (ae+(wrap64 ((rd l0 aa)*(rd l1 aa))))),(wrap64 (aa+1)),(by first | rfl | (simp;done) | (simp [*];done)),(by first | rfl | (simp;done) | (simp [*];done)),H',⟨by have:=nA.out;omega⟩,by repeat (first | exact lP.refl _ | apply lP.step)⟩
      ·rw [if_neg c6] at H;exact absurd H (by simp)
     ·rw [if_neg c5] at H;exact absurd H (by simp)
    ·rw [if_neg c4] at H;exact absurd H (by simp)
   ·rw [if_neg c3] at H;have qP:=decide_eq_false c3;clear c3;obtain rfl:=Option.some.inj H;go_wp2
    go_ret
    exact⟨by first | rfl | (simp;done) | (simp [*];done),by repeat (first | exact lP.refl _ | apply lP.step)⟩
def l6.l0:Nat→List Int→Int→List Int→List (List Int)→Int→Int→List (List Int)→List Int→Option (List Int)
 | 0,_,_,_,_,_,_,_,_=>none
 | k+1,x1,x2,x7,rQ,tB,wO,ae,aa=>if wO < tB then(if 0≤wO then(if wO < (rQ.length:Int) then(if wO < (aa.length:Int) then((sO.f k (d5 rQ wO) x1).bind fun af=>(if wO < (x7.length:Int) then(l6.l0 k x1 x2 (x7.set (wO:Int).toNat (wrap64 ((wrap64 ((rd aa wO)*x2))+af))) rQ tB (wrap64 (wO+1)) ae aa) else(none))) else(none)) else(none)) else(none)) else(some x7)
def l6.f (k:Nat) (aa:List (List Int)) (ae:List Int) (l1:List Int) (a2:Int):Option (List Int):=if 0≤(l1.length:Int) then(if((l1.length:Int):Int).toNat≤35184372088832 then(l6.l0 k l1 a2 (List.replicate ((l1.length:Int):Int).toNat 0) aa (aa.length:Int) 0 aa ae) else(none)) else(none)
def l6.T5:Bool × List (List Nat × List Nat):=(true, [([], []),([], []),([], []),([2], [2]),([], []),([3,4], [3,4]),([5], [5]),([], []),([6,7], [6,7]),([], []),([], []),([9,10], [9,10]),([8,11], [8,11]),([0,1,0,1,2,3,4,5,6,7,8,9,10,11,12], [0,1]),([13,12,11,0,1,2,3,4,5,6,7,8,9,10,11,12], [12,13])])
def l6.B5:List Nat:= [0,0,0,4,0,28,60,0,252,0,0,1536,4092,8191,16383]
theorem l6.xO:sy .any (opsOf Tryz.f71 5)=l6.T5:=by kernel_rfl
theorem l6.vo:tD l6.T5.2 l6.B5=true:=by kernel_rfl
theorem l6.calls (k:Nat) (av:Option Addr) (aq:Nat) (ae:List (List Int)) (aw:Option Addr) (au:Nat) (af:List Int) (A1:Option Addr) (c1:Nat) (l1:List Int) (a2:Int) (r:List Int) (w:World) (ay:Kd.C (Kd.slice 2 (Kd.int .i64)) w av ae.length ae) (az:ae.length≤aq) (aA:Kd.C (Kd.int .i64) w aw af.length af) (aC:af.length≤au) (hr1:Kd.C (Kd.int .i64) w A1 l1.length l1) (hc1:l1.length≤c1) (h:l6.f k ae af l1 a2=some r):
  Calls Tryz.prog 71 #[.agg #[.slice av ae.length aq, .slice aw af.length au], .slice A1 l1.length c1, .int .i64 a2] w fun e w'=> ∃qg:Value,e= .returned (qg)∧Kd.R (Kd.int .i64) 2 w' w.heap.size (fun _=>True) qg r∧Below w.heap.size w w':=by
 have CY:=Tryz.underlying34;have mR:=q_ ay;have oh:=q_ az;clear ay az;have ox:=q_ aA;have oR:=q_ aC;clear aA aC;have pR:=q_ hr1;have qy:=q_ hc1;clear hr1 hc1;have HB:=q_ (Below.refl w.heap.size w);have H:(if 0≤(l1.length:Int) then(if((l1.length:Int):Int).toNat≤35184372088832 then(l6.l0 k l1 a2 (List.replicate ((l1.length:Int):Int).toNat 0) ae (ae.length:Int) 0 ae af) else(none)) else(none))=some r:=h;clear h
 by_cases c4:0≤(l1.length:Int)
 ·rw [if_pos c4] at H;have qv:=eq_true c4;have zK:=decide_eq_true c4;clear c4
  by_cases c5:((l1.length:Int):Int).toNat≤35184372088832
  ·rw [if_pos c5] at H;have uP:=eq_true c5;have QS:=decide_eq_true c5;clear c5;obtain⟨aH,hy⟩: ∃y_:List Int,y_=(List.replicate ((l1.length:Int):Int).toNat 0):=⟨_,rfl⟩
   replace H:(l6.l0 k l1 a2 aH ae (ae.length:Int) 0 ae af)=some r:=hh_;have aD:=q_ hy;clear hy;have H':=q_ H;clear H
   go_enter Tryz.func71,Tryz.ntmps71
   go_wp2_with (first | ((with_reducible refine dg (N:=3) rfl ?_);refine nR 3 #[.slice av ae.length aq, .slice aw af.length au] 34 ?_;intro ah hg w6 cM hb;have ag:=q_ (cM);have bn:=mq w hg;have bq:=mq w hg;replace HB:=lT hb;clear hb cM hg) | ((with_reducible refine dg (N:=12) rfl ?_);refine Kd.Ge (Kd.int .i64) _ 2 rfl (N:=12) rfl 24 _ _ rfl (l1.length:Int) rfl rfl Tryz.underlying24 (.int .i64 0) 8 q6 rfl (by decide) (by omega) 0 (ok:=fun _=>True) (oC:=fun _=>True) rfl (fun _ hk=>hk) trivial l7 (Nat.le_trans (Nat.mul_le_mul_right _ (l7:(l1.length:Int).toNat≤35184372088832)) (by omega)) (Below.refl _ _) (Nat.le_refl _) ?_;intro bi w7 ho8 hb hg_ om;clear hg_ om;(first | rw [← aD.out] at ho8 | (simp only [Int.reduceToNat] at ho8;rw [← aD.out] at ho8));have aX:=q_ (Kd.ng ho8 oI);replace ag:=lZ ag hb;replace HB:=lT hb;clear hb ho8;obtain⟨aI,aJ,aK,aM⟩:=nF ag))
   go_loopg [16] k (fun kq OU w'=> ∃(ai:List Int) (aa:Int),OU= .int .i64 aa∧aE (l6.l0 kq l1 a2 ai ae (ae.length:Int) aa ae af=some r)∧aE (kq≤k)∧aE (Kd.R (Kd.int .i64) 2 w' w.heap.size (fun _=>True) bi ai)∧aE (w'.heap[ah]?=some (.cells #[(.slice av ae.length aq),(.slice aw af.length au)] 34 (0,0)))∧aE (Below w.heap.size w w'))
   case atStart=>exact⟨(aH),(0),nM,H',⟨Nat.le_refl _⟩,⟨m5 aX.out⟩,⟨nj⟩,⟨hb_⟩⟩
   case round=>
    clear H';(try clear c1);(try clear c4);(try clear qv);(try clear zK);(try clear c5);(try clear uP);(try clear QS);(try clear aI);(try clear aJ);(try clear aK);(try clear aM);obtain⟨ai,aa,rfl,HA,nA,aj,ag,HB⟩:=hrel;cases gk with
    | zero=>exact absurd HA.out (by simp [l6.l0])
    | succ k1=>
     have H:=HA.out;clear HA;simp only [l6.l0] at H
     by_cases qF:aa < (ae.length:Int)
     ·rw [if_pos qF] at H;have xU:=decide_eq_true qF;clear qF
      by_cases yp:0≤aa
      ·rw [if_pos yp] at H;have PS:=decide_eq_true yp;clear yp
       by_cases qQ:aa < (ae.length:Int)
       ·rw [if_pos qQ] at H;have GZ:=decide_eq_true qQ;clear qQ
        by_cases rz:aa < (af.length:Int)
        ·rw [if_pos rz] at H;have GY:=decide_eq_true rz;clear rz;replace H:=Option.bind_eq_some_iff.mp H;obtain⟨ax,Xg,H⟩:=H;replace H:(if aa < (ai.length:Int) then(l6.l0 k1 l1 a2 (ai.set (aa:Int).toNat (wrap64 ((wrap64 ((rd af aa)*a2))+ax))) ae (ae.length:Int) (wrap64 (aa+1)) ae af) else(none))=some r:=H;have Zt:=q_ Xg;clear Xg
         by_cases xq:aa < (ai.length:Int)
         ·rw [if_pos xq] at H;have alu:=decide_eq_true xq;clear xq;obtain⟨aN,hy⟩: ∃y_:List Int,y_=(ai.set (aa:Int).toNat (wrap64 ((wrap64 ((rd af aa)*a2))+ax))):=⟨_,rfl⟩
          replace H:(l6.l0 k1 l1 a2 aN ae (ae.length:Int) (wrap64 (aa+1)) ae af)=some r:=hh_;have aY:=q_ hy;clear hy;have H':=q_ H;clear H;have adx:0≤(aa:Int):=l7;have ac5:aa < (ae.length:Int):=l7;obtain⟨aZ,aT,aU,anR,Qs,Yz,YG⟩:=pI mR.out aa adx ac5;cases anR
          replace Qs:=bc_ HB.out Qs;have ahV:=q_ YG;have ah1:=q_ Yz;clear YG Yz;replace adx:=eq_true adx;replace ac5:=eq_true ac5
          try go_wp2
          replace aj:=q_ (Kd.mF aj.out);replace ag:=q_ (mI ag.out);replace HB:=q_ (mS HB.out);have adw:0≤(aa:Int):=l7;have ac4:aa < (af.length:Int):=l7;obtain⟨aG,anQ,FB⟩:=Kd.mA ox.out aa adw ac4;have ak:=FB;cases anQ
          replace FB:=bc_ HB.out FB;replace adw:=eq_true adw;replace ac4:=eq_true ac4;refine qx (n:=15) (S:=fun w'=>w'.cell? ⟨ah,0,none⟩=some (.slice (some aZ) ae.length aq)∧w'.cell? ⟨ah,1,none⟩=some (.slice (some aG) af.length au)∧w'.cell? (aG.add (aa).toNat)=some (.int .i64 (rd af aa))) (ds:= [14]) ⟨(bp ag.out 0).trans rfl,(bp ag.out 1).trans rfl,((bc_ HB.out ak:))⟩ (fun hHeld=>?_);refine o9 l6.xO l6.vo (fun pL xA=>?_)
          generalize wr.drew=Bp at aj ag HB FB hHeld ⊢
          refine sB 0 21 1 22 2 23 4 25 ?_;refine rm 7 28 9 30 10 31 ?_;refine mg 3 24 ?_;refine lX 5 26 ?_;refine mg 6 27 ?_;refine lX 8 29 ?_
          refine pz 11 (some 32) (fun K hK=>?_)
          refine sH Tryz.func118 (by kernel_rfl) rfl #[.slice aT (d5 ae aa).length aU, .slice A1 l1.length c1] (by rfl) rfl rfl (by(try simp only [List.map_toArray,List.map_cons,List.map_nil]);first | done | rfl | (simp only [List.length_drop,List.length_take];rfl)) ?_
          with_reducible refine(sO.calls k1 _ _ (d5 ae aa) _ _ l1 ax _ ?a9 ?ba ?bg ?bh Zt.out).mono ?_
          (case a9=>exact ni ahV.out HB.out)
          (case ba=>exact ah1.out)
          (case bg=>exact ni pR.out HB.out)
          (case bh=>exact qy.out)
          rintro e w' ⟨rfl,⟨nd,rfl⟩⟩;refine⟨_,rfl,?_⟩
          have p16:0≤(aa:Int):=l7;have q16:(aa:Int) < ((ai.length:Int):Int):=l7;obtain⟨as0,bu,aV,aW,anO,as1,akl⟩:=Kd.rX aj.out (by omega)
          (first | cases aV | (injection aV with vC D3 D4;(first | subst vC | (injection vC with vC;subst vC));subst D4;clear D3))
          have as6:=q_ aW;have as5:=q_ akl;clear aW anO akl;obtain⟨aqi,aqv⟩:=Kd.tW 0 aj.out (aa:Int) p16 q16;replace p16:=eq_true p16;replace q16:=eq_true q16;have afd:=Kd.ajJ aj.out (aa:Int) (wrap64 ((wrap64 ((rd af aa)*a2))+ax));rw [← aY.out] at afd;have aox:=q_ afd;clear afd;refine hK.out _ _ ⟨(bp ag.out 0).trans rfl,(bp ag.out 1).trans rfl,((bc_ HB.out ak:))⟩ (fun hHeld=>?_)
          clear hK K;refine mP (a':=?_) ?_ ?_
          rotate_left
          ·show Act.put _ (some 32) _=_
           simp only [Act.put,List.setIfInBounds_toArray,List.set_cons_zero,List.set_cons_succ,mT,nr]
           rfl
          refine sU 12 33 13 34 ?_
          refine DU 14 none (fun K hK=>?_)
          refine rL (w1:=?_) (by rfl) rfl ?_ ?_
          rotate_left
          ·go_simp
           rfl
          refine hK.out _ _ ?_
          clear hK K;refine oA (qj pL.out (by kernel_rfl)) ?_
          try go_wp2
          go_roundg k1
          case measure=>have:=nA.out;omega
          case rel=>exact⟨(aN),(wrap64 (aa+1)),nM,H',⟨by have:=nA.out;omega⟩,⟨m5 aox.out⟩,⟨by(with_reducible repeat (first | refine tJ ?_ _ | refine mI ?_ | refine mY ?_ _));refine vJ ?_ (by have h_:=Kd.pJ aj.out ag.out (by decide);intro e_;exact h_ (by rw [e_];rfl)) _;(with_reducible repeat (first | refine tJ ?_ _ | refine mI ?_ | refine mY ?_ _));exact ag.out⟩,⟨hb_⟩⟩
         ·rw [if_neg xq] at H;exact absurd H (by simp)
        ·rw [if_neg rz] at H;exact absurd H (by simp)
       ·rw [if_neg qQ] at H;exact absurd H (by simp)
      ·rw [if_neg yp] at H;exact absurd H (by simp)
     ·rw [if_neg qF] at H;have xU:=decide_eq_false qF;clear qF;obtain rfl:=Option.some.inj H;go_wp2
      go_ret
      exact⟨_,pH,m5 aj.out,hb_⟩
  ·rw [if_neg c5] at H;exact absurd H (by simp)
 ·rw [if_neg c4] at H;exact absurd H (by simp)
def ny.l0:Nat→List Int→List Int→Int→Int→Option (Bool × Int)
 | 0,_,_,_,_=>none
 | k+1,x7,x29,x30,Ce=>if Ce < x30 then(if 0≤Ce then(if Ce < (x29.length:Int) then(if(rd x29 Ce) < 0 then(some (false,0)) else(if Ce < (x7.length:Int) then(if(rd x7 Ce) < 0 then(some (false,0)) else(if(rd x29 Ce) > 0 then(if(rd x7 Ce) > 0 then(some (false,0)) else(ny.l0 k x7 x29 x30 (wrap64 (Ce+1)))) else(ny.l0 k x7 x29 x30 (wrap64 (Ce+1))))) else(none))) else(none)) else(none)) else(some (true,0))
def ny.f (k:Nat) (ae:List (List Int)) (af:List Int) (l1:List (mh)):Option (Bool × Int):=(nG.f k ae af l1).bind fun ag=>(if ag=0 then((kA.f k l1 1000000000 1000000000000).bind fun aa=>(if aa.2.2=true then((l6.f k ae af aa.1 aa.2.1).bind fun ah=>(ny.l0 k aa.1 ah (ah.length:Int) 0)) else(some (false,3)))) else(some (false,ag)))
theorem ny.calls (k:Nat) (ak:Option Addr) (aq:Nat) (ah:List (List Int)) (au:Option Addr) (av:Nat) (ai:List Int) (A1:Option Addr) (c1:Nat) (l1:List (mh)) (r1:Bool) (r2:Int) (w:World) (aW:Kd.C (Kd.slice 2 (Kd.int .i64)) w ak ah.length ah) (aX:ah.length≤aq) (aY:Kd.C (Kd.int .i64) w au ai.length ai) (aZ:ai.length≤av) (hr1:Kd.C rU w A1 l1.length l1) (hc1:l1.length≤c1) (h:ny.f k ah ai l1=some (r1,r2)):
  Calls Tryz.prog 30 #[.agg #[.slice ak ah.length aq, .slice au ai.length av], .slice A1 l1.length c1] w fun e w'=>e= .returned (.tuple #[.bool r1, .int .i64 r2])∧Below w.heap.size w w':=by
 have CY:=Tryz.underlying34;have mR:=q_ aW;have oh:=q_ aX;clear aW aX;have ox:=q_ aY;have oR:=q_ aZ;clear aY aZ;have pR:=q_ hr1;have qy:=q_ hc1;clear hr1 hc1;have HB:=q_ (Below.refl w.heap.size w);have H:((nG.f k ah ai l1).bind fun ay=>(if ay=0 then((kA.f k l1 1000000000 1000000000000).bind fun az=>(if az.2.2=true then((l6.f k ah ai az.1 az.2.1).bind fun af=>(ny.l0 k az.1 af (af.length:Int) 0)) else(some (false,3)))) else(some (false,ay))))=some (r1,r2):=h;clear h;replace H:=Option.bind_eq_some_iff.mp H;obtain⟨ay,sW,H⟩:=H;replace H:(if ay=0 then((kA.f k l1 1000000000 1000000000000).bind fun az=>(if az.2.2=true then((l6.f k ah ai az.1 az.2.1).bind fun af=>(ny.l0 k az.1 af (af.length:Int) 0)) else(some (false,3)))) else(some (false,ay)))=some (r1,r2):=H;have A3:=q_ sW;clear sW
 by_cases c4:ay=0
 ·rw [if_pos c4] at H;have qv:=yh c4;have zK:=yg c4;clear c4;replace H:=Option.bind_eq_some_iff.mp H;obtain⟨⟨ag,aM,bu⟩,xL,H⟩:=H;replace H:(if bu=true then((l6.f k ah ai ag aM).bind fun af=>(ny.l0 k ag af (af.length:Int) 0)) else(some (false,3)))=some (r1,r2):=H;have A5:=q_ xL;clear xL
  by_cases c6:bu=true
  ·subst c6;have H1:((l6.f k ah ai ag aM).bind fun af=>(ny.l0 k ag af (af.length:Int) 0))=some (r1,r2):=by rw [if_pos rfl] at H;exact H
   clear H;have H:=H1;clear H1;replace H:=Option.bind_eq_some_iff.mp H;obtain⟨af,CD,H⟩:=H;replace H:(ny.l0 k ag af (af.length:Int) 0)=some (r1,r2):=H;have A7:=q_ CD;clear CD;have H':=q_ H;clear H
   go_enter Tryz.func30,Tryz.ntmps30
   go_wp2_with (first | ((with_reducible refine dg (N:=2) rfl ?_);refine nR 2 #[.slice ak ah.length aq, .slice au ai.length av] 34 ?_;intro aj hg w8 cM hb;have ae:=q_ (cM);have a9:=mq w hg;have ba:=mq w hg;replace HB:=lT hb;clear hb cM hg;obtain⟨bv,bw,bz,bA⟩:=nF ae) | ((with_reducible refine d8 (f:=69) rfl ?_);refine oJ 14 Tryz.func69 #[.agg #[.slice ak ah.length aq, .slice au ai.length av], .slice A1 l1.length c1] ?_;(with_reducible refine(nG.calls k _ _ ah _ _ ai _ _ l1 ay _ ?aw ?ax ?aC ?aD ?aG ?aH A3.out).mono ?_);(case aw=>exact ni mR.out HB.out);(case ax=>exact oh.out);(case aC=>exact ni ox.out HB.out);(case aD=>exact oR.out);(case aG=>exact ni pR.out HB.out);(case aH=>exact qy.out);rintro e tE ⟨rfl,hb⟩;refine⟨_,rfl,?_⟩;replace ae:=lZ ae hb;replace HB:=lT hb;(try clear hb);(try clear hk)) | ((with_reducible refine d8 (f:=70) rfl ?_);refine oJ 20 Tryz.func70 #[.slice A1 l1.length c1, .int .i64 1000000000, .int .i64 1000000000000] ?_;(with_reducible refine(kA.calls k _ _ l1 1000000000 1000000000000 ag aM true _ ?aw ?ax A5.out).mono ?_);(case aw=>exact ni pR.out HB.out);(case ax=>exact qy.out);rintro e rB ⟨bE,rfl,ho0,hb⟩;refine⟨_,rfl,?_⟩;have aA:=q_ (Kd.ng ho0 oI);replace ae:=lZ ae hb;replace HB:=lT hb;(try clear hb);(try clear hk);(try clear ho0);obtain⟨bh,bi,bn,bq⟩:=nF ae;obtain⟨aU,aV,bF⟩:=Kd.mE aA.out;subst bF) | ((with_reducible refine d8 (f:=71) rfl ?_);refine oJ 29 Tryz.func71 #[.agg #[.slice ak ah.length aq, .slice au ai.length av], .slice aU ag.length aV, .int .i64 aM] ?_;(with_reducible refine(l6.calls k _ _ ah _ _ ai _ _ ag aM af _ ?aw ?ax ?aC ?aD ?aG ?aH A7.out).mono ?_);(case aw=>exact ni mR.out HB.out);(case ax=>exact oh.out);(case aC=>exact ni ox.out HB.out);(case aD=>exact oR.out);(case aG=>exact F9);(case aH=>exact(Kd.lU aA.out).2.1);rintro e Cg ⟨bP,rfl,ho0,hb⟩;refine⟨_,rfl,?_⟩;have bg:=q_ (Kd.ng (Kd.wo ho0 (Kd.qw (m5 aA.out))) oI);replace ae:=lZ ae hb;replace aA:=q_ (Kd.tV (m5 aA.out) (Kd.o8 ho0) hb);replace HB:=lT hb;(try clear hb);(try clear hk);(try clear ho0);obtain⟨bC,bD,bG⟩:=Kd.mE bg.out;subst bG))
   go_loopg [31] k (fun kq v31 w'=> ∃(aa:Int),v31= .int .i64 aa∧aE (ny.l0 kq ag af (af.length:Int) aa=some (r1,r2))∧aE (kq≤k)∧aE (Kd.R (Kd.int .i64) 2 w' w.heap.size (fun k_=>some k_≠((.slice bC af.length bD):Value).ownBlock) (.slice aU ag.length aV) ag)∧aE (Kd.R (Kd.int .i64) 2 w' w.heap.size (fun k_=>some k_≠((.slice aU ag.length aV):Value).ownBlock) (.slice bC af.length bD) af)∧aE (w'.heap[aj]?=some (.cells #[(.slice ak ah.length aq),(.slice au ai.length av)] 34 (0,0)))∧aE (Below w.heap.size w w'))
   case atStart=>exact⟨(0),nM,H',⟨Nat.le_refl _⟩,⟨kR_ aA.out (fun _ hk=>hk.2)⟩,⟨kR_ bg.out (fun _ hk=>hk.2)⟩,⟨nj⟩,⟨hb_⟩⟩
   case round=>
    clear H';(try clear c1);(try clear c4);(try clear qv);(try clear zK);(try clear c6);(try clear bh);(try clear bi);(try clear bv);(try clear bw);(try clear bn);(try clear bq);(try clear bz);(try clear bA);obtain⟨aa,rfl,HA,nA,aJ,aI,ae,HB⟩:=hrel;cases gk with
    | zero=>exact absurd HA.out (by simp [ny.l0])
    | succ k1=>
     have H:=HA.out;clear HA;simp only [ny.l0] at H
     by_cases sL:aa < (af.length:Int)
     ·rw [if_pos sL] at H;have Ba:=decide_eq_true sL;clear sL
      by_cases uD:0≤aa
      ·rw [if_pos uD] at H;have Sv:=decide_eq_true uD;clear uD
       by_cases uZ:aa < (af.length:Int)
       ·rw [if_pos uZ] at H;have PK:=decide_eq_true uZ;clear uZ
        by_cases ru:(rd af aa) < 0
        ·rw [if_pos ru] at H;have Cd:=decide_eq_true ru;clear ru;simp only [Option.some.injEq,Prod.mk.injEq] at H;obtain⟨rfl,rfl⟩:=H;have xQ:0≤(aa:Int):=l7;have xP:aa < (af.length:Int):=l7;obtain⟨aN,GR,Je⟩:=Kd.mA (Kd.lU aI.out).2.2 aa xQ xP;cases GR
         replace xQ:=eq_true xQ;replace xP:=eq_true xP;go_wp2
         go_ret2
         exact⟨pH,hb_⟩
        ·rw [if_neg ru] at H;have Cd:=decide_eq_false ru;clear ru
         by_cases wL:aa < (ag.length:Int)
         ·rw [if_pos wL] at H;have PJ:=decide_eq_true wL;clear wL
          by_cases wK:(rd ag aa) < 0
          ·rw [if_pos wK] at H;have PI:=decide_eq_true wK;clear wK;simp only [Option.some.injEq,Prod.mk.injEq] at H;obtain⟨rfl,rfl⟩:=H;have xQ:0≤(aa:Int):=l7;have xP:aa < (af.length:Int):=l7;obtain⟨aN,GR,Je⟩:=Kd.mA (Kd.lU aI.out).2.2 aa xQ xP;cases GR
           replace xQ:=eq_true xQ;replace xP:=eq_true xP;have zZ:0≤(aa:Int):=l7;have zW:aa < (ag.length:Int):=l7;obtain⟨aK,KZ,Qr⟩:=Kd.mA (Kd.lU aJ.out).2.2 aa zZ zW;cases KZ
           replace zZ:=eq_true zZ;replace zW:=eq_true zW;go_wp2
           go_ret2
           exact⟨pH,hb_⟩
          ·rw [if_neg wK] at H;have PI:=decide_eq_false wK;clear wK
           by_cases uz:(rd af aa) > 0
           ·rw [if_pos uz] at H;have GW:=decide_eq_true uz;clear uz
            by_cases uY:(rd ag aa) > 0
            ·rw [if_pos uY] at H;have Jr:=decide_eq_true uY;clear uY;simp only [Option.some.injEq,Prod.mk.injEq] at H;obtain⟨rfl,rfl⟩:=H;have xQ:0≤(aa:Int):=l7;have xP:aa < (af.length:Int):=l7;obtain⟨aN,GR,Je⟩:=Kd.mA (Kd.lU aI.out).2.2 aa xQ xP;cases GR
             replace xQ:=eq_true xQ;replace xP:=eq_true xP;have zZ:0≤(aa:Int):=l7;have zW:aa < (ag.length:Int):=l7;obtain⟨aK,KZ,Qr⟩:=Kd.mA (Kd.lU aJ.out).2.2 aa zZ zW;cases KZ
             replace zZ:=eq_true zZ;replace zW:=eq_true zW;have Km:0≤(aa:Int):=l7;have JT:aa < (ag.length:Int):=l7;obtain⟨aT,aep,aha⟩:=Kd.mA (Kd.lU aJ.out).2.2 aa Km JT;obtain rfl:aK=aT:=(by injection aep)
             replace Km:=eq_true Km;replace JT:=eq_true JT;go_wp2
             go_ret2
             exact⟨pH,hb_⟩
            ·rw [if_neg uY] at H;have Jr:=decide_eq_false uY;clear uY;have H':=q_ H;clear H;have xQ:0≤(aa:Int):=l7;have xP:aa < (af.length:Int):=l7;obtain⟨aN,GR,Je⟩:=Kd.mA (Kd.lU aI.out).2.2 aa xQ xP;cases GR
             replace xQ:=eq_true xQ;replace xP:=eq_true xP;have zZ:0≤(aa:Int):=l7;have zW:aa < (ag.length:Int):=l7;obtain⟨aK,KZ,Qr⟩:=Kd.mA (Kd.lU aJ.out).2.2 aa zZ zW;cases KZ
             replace zZ:=eq_true zZ;replace zW:=eq_true zW;have Km:0≤(aa:Int):=l7;have JT:aa < (ag.length:Int):=l7;obtain⟨aT,aep,aha⟩:=Kd.mA (Kd.lU aJ.out).2.2 aa Km JT;obtain rfl:aK=aT:=(by injection aep)
             replace Km:=eq_true Km;replace JT:=eq_true JT;go_wp2
             go_roundg k1
             case measure=>have:=nA.out;omega
             case rel=>exact⟨(wrap64 (aa+1)),nM,H',⟨by have:=nA.out;omega⟩,⟨m5 aJ.out⟩,⟨m5 aI.out⟩,⟨nj⟩,⟨hb_⟩⟩
           ·rw [if_neg uz] at H;have GW:=decide_eq_false uz;clear uz;have H':=q_ H;clear H;have xQ:0≤(aa:Int):=l7;have xP:aa < (af.length:Int):=l7;obtain⟨aN,GR,Je⟩:=Kd.mA (Kd.lU aI.out).2.2 aa xQ xP;cases GR
            replace xQ:=eq_true xQ;replace xP:=eq_true xP;have zZ:0≤(aa:Int):=l7;have zW:aa < (ag.length:Int):=l7;obtain⟨aK,KZ,Qr⟩:=Kd.mA (Kd.lU aJ.out).2.2 aa zZ zW;cases KZ
            replace zZ:=eq_true zZ;replace zW:=eq_true zW;go_wp2
            go_roundg k1
            case measure=>have:=nA.out;omega
            case rel=>exact⟨(wrap64 (aa+1)),nM,H',⟨by have:=nA.out;omega⟩,⟨m5 aJ.out⟩,⟨m5 aI.out⟩,⟨nj⟩,⟨hb_⟩⟩
         ·rw [if_neg wL] at H;exact absurd H (by simp)
       ·rw [if_neg uZ] at H;exact absurd H (by simp)
      ·rw [if_neg uD] at H;exact absurd H (by simp)
     ·rw [if_neg sL] at H;have Ba:=decide_eq_false sL;clear sL;simp only [Option.some.injEq,Prod.mk.injEq] at H;obtain⟨rfl,rfl⟩:=H;go_wp2
      go_ret2
      exact⟨pH,hb_⟩
  ·replace c6:=Bool.eq_false_iff.mpr c6;subst c6;have H1:(some (false,3))=some (r1,r2):=by rw [if_neg (show ¬ (false=true) by decide)] at H;exact H
   clear H;have H:=H1;clear H1;simp only [Option.some.injEq,Prod.mk.injEq] at H;obtain⟨rfl,rfl⟩:=H
   go_enter Tryz.func30,Tryz.ntmps30
   go_wp2_with (first | ((with_reducible refine dg (N:=2) rfl ?_);refine nR 2 #[.slice ak ah.length aq, .slice au ai.length av] 34 ?_;intro aj hg w24 cM hb;have ae:=q_ (cM);have a9:=mq w hg;have ba:=mq w hg;replace HB:=lT hb;clear hb cM hg;obtain⟨bH,bI,bJ,bK⟩:=nF ae) | ((with_reducible refine d8 (f:=69) rfl ?_);refine oJ 14 Tryz.func69 #[.agg #[.slice ak ah.length aq, .slice au ai.length av], .slice A1 l1.length c1] ?_;(with_reducible refine(nG.calls k _ _ ah _ _ ai _ _ l1 ay _ ?aw ?ax ?aC ?aD ?aG ?aH A3.out).mono ?_);(case aw=>exact ni mR.out HB.out);(case ax=>exact oh.out);(case aC=>exact ni ox.out HB.out);(case aD=>exact oR.out);(case aG=>exact ni pR.out HB.out);(case aH=>exact qy.out);rintro e w26 ⟨rfl,hb⟩;refine⟨_,rfl,?_⟩;replace ae:=lZ ae hb;replace HB:=lT hb;(try clear hb);(try clear hk)) | ((with_reducible refine d8 (f:=70) rfl ?_);refine oJ 20 Tryz.func70 #[.slice A1 l1.length c1, .int .i64 1000000000, .int .i64 1000000000000] ?_;(with_reducible refine(kA.calls k _ _ l1 1000000000 1000000000000 ag aM false _ ?aw ?ax A5.out).mono ?_);(case aw=>exact ni pR.out HB.out);(case ax=>exact qy.out);rintro e Rf ⟨bE,rfl,ho0,hb⟩;refine⟨_,rfl,?_⟩;have aA:=q_ (Kd.ng ho0 oI);replace ae:=lZ ae hb;replace HB:=lT hb;(try clear hb);(try clear hk);(try clear ho0)))
   go_ret2
   exact⟨pH,hb_⟩
 ·rw [if_neg c4] at H;have qv:=uJ c4;have zK:=uI c4;simp only [Option.some.injEq,Prod.mk.injEq] at H;obtain⟨rfl,rfl⟩:=H
  go_enter Tryz.func30,Tryz.ntmps30
  go_wp2_with (first | ((with_reducible refine dg (N:=2) rfl ?_);refine nR 2 #[.slice ak ah.length aq, .slice au ai.length av] 34 ?_;intro aj hg w28 cM hb;have ae:=q_ (cM);have a9:=mq w hg;have ba:=mq w hg;replace HB:=lT hb;clear hb cM hg;obtain⟨bL,bM,bN,bO⟩:=nF ae) | ((with_reducible refine d8 (f:=69) rfl ?_);refine oJ 14 Tryz.func69 #[.agg #[.slice ak ah.length aq, .slice au ai.length av], .slice A1 l1.length c1] ?_;(with_reducible refine(nG.calls k _ _ ah _ _ ai _ _ l1 ay _ ?aw ?ax ?aC ?aD ?aG ?aH A3.out).mono ?_);(case aw=>exact ni mR.out HB.out);(case ax=>exact oh.out);(case aC=>exact ni ox.out HB.out);(case aD=>exact oR.out);(case aG=>exact ni pR.out HB.out);(case aH=>exact qy.out);rintro e Fo ⟨rfl,hb⟩;refine⟨_,rfl,?_⟩;replace ae:=lZ ae hb;replace HB:=lT hb;(try clear hb);(try clear hk)))
  go_ret2
  exact⟨pH,hb_⟩
def zA.f (a0:Int) (a1:Int):Option (Int × Int):=some (IntKind.u64.wrap ((IntKind.u64.wrap ((IntKind.u64.wrap ((a0 / 4294967296)*(a1 / 4294967296)))+((IntKind.u64.wrap ((IntKind.u64.wrap ((a0 / 4294967296)*(Go.bits .and .u64 a1 4294967295)))+((IntKind.u64.wrap ((Go.bits .and .u64 a0 4294967295)*(Go.bits .and .u64 a1 4294967295))) / 4294967296))) / 4294967296)))+((IntKind.u64.wrap ((Go.bits .and .u64 (IntKind.u64.wrap ((IntKind.u64.wrap ((a0 / 4294967296)*(Go.bits .and .u64 a1 4294967295)))+((IntKind.u64.wrap ((Go.bits .and .u64 a0 4294967295)*(Go.bits .and .u64 a1 4294967295))) / 4294967296))) 4294967295)+(IntKind.u64.wrap ((Go.bits .and .u64 a0 4294967295)*(a1 / 4294967296))))) / 4294967296)),IntKind.u64.wrap (a0*a1))
theorem zA.calls (a0:Int) (a1:Int) (r1:Int) (r2:Int) (w:World) (h:zA.f a0 a1=some (r1,r2)):
  Calls Tryz.prog 155 #[.int .u64 a0, .int .u64 a1] w fun e w'=>e= .returned (.tuple #[.int .u64 r1, .int .u64 r2])∧lP w w':=by
 have H:(some (IntKind.u64.wrap ((IntKind.u64.wrap ((IntKind.u64.wrap ((a0 / 4294967296)*(a1 / 4294967296)))+((IntKind.u64.wrap ((IntKind.u64.wrap ((a0 / 4294967296)*(Go.bits .and .u64 a1 4294967295)))+((IntKind.u64.wrap ((Go.bits .and .u64 a0 4294967295)*(Go.bits .and .u64 a1 4294967295))) / 4294967296))) / 4294967296)))+((IntKind.u64.wrap ((Go.bits .and .u64 (IntKind.u64.wrap ((IntKind.u64.wrap ((a0 / 4294967296)*(Go.bits .and .u64 a1 4294967295)))+((IntKind.u64.wrap ((Go.bits .and .u64 a0 4294967295)*(Go.bits .and .u64 a1 4294967295))) / 4294967296))) 4294967295)+(IntKind.u64.wrap ((Go.bits .and .u64 a0 4294967295)*(a1 / 4294967296))))) / 4294967296)),IntKind.u64.wrap (a0*a1)))=some (r1,r2):=h;clear h;simp only [Option.some.injEq,Prod.mk.injEq] at H;obtain⟨rfl,rfl⟩:=H
 go_enter Tryz.func155,Tryz.ntmps155
 go_wp2
 go_ret2
 exact⟨by first | rfl | (simp;done) | (simp [*];done),by repeat (first | exact lP.refl _ | apply lP.step)⟩
def BQ.f (a0:Int) (a1:Int):Option (Int × Int):=(zA.f a0 a1).bind fun aa=>(some (aa.1,aa.2))
theorem BQ.calls (a0:Int) (a1:Int) (r1:Int) (r2:Int) (w:World) (h:BQ.f a0 a1=some (r1,r2)):
  Calls Tryz.prog 121 #[.int .u64 a0, .int .u64 a1] w fun e w'=>e= .returned (.tuple #[.int .u64 r1, .int .u64 r2])∧lP w w':=by
 have H:((zA.f a0 a1).bind fun aa=>(some (aa.1,aa.2)))=some (r1,r2):=h;clear h;replace H:=Option.bind_eq_some_iff.mp H;obtain⟨⟨ae,af⟩,sW,H⟩:=H;replace H:(some (ae,af))=some (r1,r2):=H;have A3:=q_ sW;clear sW;simp only [Option.some.injEq,Prod.mk.injEq] at H;obtain⟨rfl,rfl⟩:=H
 go_enter Tryz.func121,Tryz.ntmps121
 go_wp2_with (first | ((with_reducible refine d8 (f:=155) rfl ?_);refine oJ 25 Tryz.func155 #[.int .u64 a0, .int .u64 a1] ?_;(with_reducible refine(zA.calls a0 a1 ae af _ A3.out).mono ?_);rintro e w' ⟨rfl,⟨nd,rfl⟩⟩;refine⟨_,rfl,?_⟩))
 go_ret2
 exact⟨by first | rfl | (simp;done) | (simp [*];done),by repeat (first | exact lP.refl _ | apply lP.step)⟩
end Go.Proofs.YthmfdplckdijdaaGreat.Pr
end
section
namespace Go.Proofs.YthmfdplckdijdaaGreat.Pr
open Go.RowKit Wz.cw Wz.fX Wz.cX
theorem mul_one (n:Int) (h0:0≤n) (h1:n≤1048576):BQ.f 1 n=some (0,n):=by
 have e1:Go.bits .and .u64 n 4294967295=n:=by
  obtain⟨m,rfl⟩:=Int.eq_ofNat_of_zero_le h0
  have:m≤1048576:=by omega
  show IntKind.u64.wrap ((BitVec.ofInt 64 (m:Int) &&& BitVec.ofInt 64 4294967295).toNat:Int)=(m:Int)
  rw [show (BitVec.ofInt 64 (m:Int) &&& BitVec.ofInt 64 4294967295)=BitVec.ofNat 64 m from ?_]
  ·rw [BitVec.toNat_ofNat,Nat.mod_eq_of_lt (by omega:m < 2 ^ 64)]
   exact Ma.acI h0 (by omega)
  ·apply BitVec.eq_of_toNat_eq
   simp only [BitVec.toNat_and,BitVec.ofInt_natCast,BitVec.toNat_ofNat]
   rw [Nat.mod_eq_of_lt (by omega:m < 2 ^ 64),show (BitVec.ofInt 64 4294967295).toNat=2 ^ 32 - 1 from rfl,Nat.and_two_pow_sub_one_eq_mod,Nat.mod_eq_of_lt (by omega)]
 have e2:Go.bits .and .u64 1 4294967295=1:=by decide
 have e3:Go.bits .and .u64 0 4294967295=0:=by decide
 have d0:n / 4294967296=0:=by omega
 have d1:(1:Int) / 4294967296=0:=by decide
 have w0:IntKind.u64.wrap 0=0:=by decide
 have wn:IntKind.u64.wrap n=n:=Ma.acI h0 (by omega)
 unfold BQ.f zA.f
 simp only [e1,e2,d0,d1,Int.mul_zero,Int.zero_mul,Int.one_mul,w0,wn,Int.zero_add,Int.add_zero,Int.mul_one,e3,Option.bind_some]
 simp [w0]
def xV.f (l0:List Int) (a1:Int):Option (List Int):=if l0.length=1∧0≤a1∧a1≤1048576 then some (List.replicate a1.toNat (rd l0 0)) else none
theorem aaQ {α:Type} (v:α) (cur:List α) (k m:Nat) (h:cur.take k=List.replicate k v) (hk:k≤cur.length) (hm:m≤k):(splice cur k (List.replicate m v)).take (k+m)=List.replicate (k+m) v:=by
 unfold splice
 rw [h, ← List.append_assoc,List.replicate_append_replicate,List.take_append_of_le_length (by simp),List.take_of_length_le (by simp)]
theorem agT {v:Int} {w:World} {base g n cap:Nat} {cur:List Value} (hb:base≤g) (hg:w.heap[g]?=some (.cells cur.toArray 2 (0,0))) (hn:n≤cap) (hc:cap≤maxLen) (hl:cur.length=cap) (ht:cur.take n=List.replicate n (.int .i64 v)):
  Kd.R (Kd.int .i64) 2 w base (fun _=>True) (.slice (some ⟨g,0,none⟩) n cap) (List.replicate n v):=
 Kd.K8 ⟨by simp [s7], .inr ⟨g,cap,cur.toArray,by simp,hb,hg,by simpa using hn,hc,by simpa using hl,by simp [s7,ht]⟩⟩ (fun _ _=>trivial)
theorem aal {w:World} {g k m e:Nat} {cur:List Value} {v:Value} (hg:w.heap[g]?=some (.cells cur.toArray e (0,0))) (hk:k≤cur.length) (ht:cur.take k=List.replicate k v) (hm:m≤k) (j:Nat) (u:Value) (hj:(List.replicate m v)[j]?=some u):w.cell? ((⟨g,0,none⟩:Addr).add j)=some u:=by
 obtain⟨hjm,e⟩:=List.getElem?_eq_some_iff.1 hj
 rw [List.length_replicate] at hjm
 rw [List.getElem_replicate] at e
 subst e
 have h1:(cur.take k)[j]?=some v:=by rw [ht,List.getElem?_replicate,if_pos (by omega)]
 rw [List.getElem?_take,if_pos (by omega)] at h1
 have ha:((⟨g,0,none⟩:Addr).add j)=⟨g,j,none⟩:=by unfold Addr.add;split <;> simp_all
 rw [ha]
 simp [World.cell?,hg,h1]
theorem ag7 {n:Nat} (h:0 < n):1=Nat.min 1 n:=(Nat.min_eq_left (by omega:1≤n)).symm
theorem ae0 {w:World} {ad:Addr} {v:Value} (j:Nat) (u:Value) (hj: [v][j]?=some u) (h:w.cell? (ad.add (Int.toNat 0))=some v):w.cell? (ad.add j)=some u:=by
 cases j with
 | zero=>simp at hj;subst hj;exact h
 | succ j=>simp at hj
theorem Vd {w:World} {base n:Nat} {v:Value} (h:Kd.R (Kd.int .i64) 2 w base (fun _=>True) v (List.replicate n 0)):
  ∃A c,v= .slice A n c∧n≤c∧(0 < n→ ∃g cur,A=some ⟨g,0,none⟩∧base≤g∧w.heap[g]?=some (.cells (List.toArray cur) 2 (0,0))∧c≤maxLen∧cur.length=c):=by
 have ho:=Kd.Gy h
 rw [List.length_replicate] at ho
 rcases ho.2 with ⟨rfl,rfl⟩ | ⟨g,cap,cur,rfl,hb,hg,h1,h2,h3,h4⟩
 ·exact⟨none,0,rfl,Nat.le_refl _,fun h=>absurd h (by omega)⟩
 ·exact⟨_,cap,rfl,h1,fun _=>⟨g,cur.toList,rfl,hb,by simpa using hg,h2,by simpa using h3⟩⟩
theorem xV.calls (A0:Option Addr) (c0:Nat) (l0:List Int) (a1:Int) (r:List Int) (w:World) (hr0:Kd.C (Kd.int .i64) w A0 l0.length l0) (hc0:l0.length≤c0) (h:xV.f l0 a1=some r):
  Calls Tryz.prog 75 #[.slice A0 l0.length c0, .int .i64 a1] w fun e w'=> ∃qg:Value,e= .returned (qg)∧Kd.R (Kd.int .i64) 2 w' w.heap.size (fun _=>True) qg r∧Below w.heap.size w w':=by
 unfold xV.f at h
 split at h
 case isFalse=>cases h
 rename_i hh
 obtain⟨h1,h2,h3⟩:=hh;obtain⟨n,rfl⟩:=Int.eq_ofNat_of_zero_le h2;injection h with h
 rw [Int.toNat_natCast] at h;obtain⟨ad,rfl,hx⟩:=Kd.mA hr0 0 (by omega) (by omega);rw [h1];have HM:=q_ (mul_one n h2 h3);have HX:=q_ hx;clear hx hr0 hc0
 generalize rd l0 0=v at h HX
 subst h;have HN:=q_ h3;have wu:IntKind.u64.wrap (n:Int)=n:=Ma.acI h2 (by omega);have w2:IntKind.i64.wrap (n:Int)=n:=IntWalk.i64_in _ (by omega);have hgt: ¬ (9223372036854775807:Int) < n:=by omega
 clear h1 h3
 by_cases hn:n=0
 ·subst hn;clear wu w2 hgt h2
  go_enter Tryz.func75,Tryz.ntmps75
  go_wp2_with fail
  refine(BQ.calls 1 0 _ _ _ HM.out).mono ?_
  rintro e w1 ⟨rfl,hb1⟩;have HB:=q_ hb1;clear hb1
  go_wp2_with (first | ((with_reducible refine dg (N:=30) rfl ?_);refine Kd.Ge (Kd.int .i64) _ 2 rfl (N:=30) rfl 24 _ _ rfl (0:Int) rfl rfl Tryz.underlying24 (.int .i64 0) 8 q6 rfl (by decide) (by omega) 0 (ok:=fun _=>True) (oC:=fun _=>True) rfl (fun _ hk=>hk) trivial (by omega) (by have:=HN.out;omega) (Below.refl _ _) (Nat.le_refl _) ?_;intro aa w4 ho5 hb hg_ om;clear hg_ om;obtain⟨A4,c4,rfl,hc4,hrow⟩:=Vd (n:=0) ho5;have HO:=q_ ho5;have JO:=q_ hb;clear ho5 hb hrow hc4) | ((with_reducible refine dg (N:=33) rfl ?_);refine wpList_copy_nothing rfl (.tmp 31) (.tmp 32) 24 24 rfl 2 Tryz.underlying24 rfl _ _ _ _ _ _ (by rfl) (by rfl) (by simp) ?_))
  go_loopg [8] 0 (fun kq v8 w'=>v8= .int .i64 0∧w'=w4)
  case atStart=>exact⟨rfl,rfl⟩
  case round=>
   obtain⟨rfl,rfl⟩:=hrel;go_wp2
   go_ret
   exact⟨_,rfl,Kd.ng HO.out HB.out.below.size,HB.out.below.trans (JO.out.mono HB.out.below.size)⟩
 ·have hpos:0 < n:=by omega
  go_enter Tryz.func75,Tryz.ntmps75
  go_wp2_with fail
  refine(BQ.calls 1 n _ _ _ HM.out).mono ?_
  rintro e w1 ⟨rfl,hb1⟩;have HB:=q_ hb1;clear hb1
  go_wp2_with (first | ((with_reducible refine dg (N:=30) rfl ?_);refine Kd.Ge (Kd.int .i64) _ 2 rfl (N:=30) rfl 24 _ _ rfl (n:Int) rfl rfl Tryz.underlying24 (.int .i64 0) 8 q6 rfl (by decide) (by omega) 0 (ok:=fun _=>True) (oC:=fun _=>True) rfl (fun _ hk=>hk) trivial (by omega) (by have:=HN.out;omega) (Below.refl _ _) (Nat.le_refl _) ?_;intro aa w4 ho5 hb hg_ om;clear hg_ om;rw [Int.toNat_natCast] at ho5;obtain⟨A4,c4,rfl,hc4,hrow⟩:=Vd ho5;obtain⟨g,cur,rfl,hg1,hg2,hcm,hcl⟩:=hrow (by omega);have JO:=q_ hb;have HG2:=q_ hg2;have HG1:=q_ hg1;have Qd:=q_ hcm;have HCL:=q_ hcl;have Zq:=q_ hc4;clear ho5 hb hrow hg1 hg2 hcm hcl hc4) | ((with_reducible refine dg (N:=33) rfl ?_);go_loud (refine wpList_copy_splice rfl (.tmp 31) (.tmp 32) 24 24 rfl 2 Tryz.underlying24 rfl _ _ _ _ _ _ (by rfl) (by rfl) g 0 cur 2 HG2.out [.int .i64 v] (ag7 hpos) (fun _=>⟨by rfl,ad,by rfl,fun j u hj=>ae0 j u hj ((HB.out.below.trans (JO.out.mono HB.out.below.size)).cell (World.block_lt_of_cell? w _ HX.out) |>.trans HX.out)⟩) (by have:=HCL.out;have:=Zq.out;simp;omega) (by simp [Value.oneCell']) w.heap.size w (HB.out.below.trans (JO.out.mono HB.out.below.size)) (by have:=HB.out.below.size;have:=HG1.out;omega) ?_;intro w5 HG5 I7;obtain⟨aag,Ss⟩: ∃c,c=splice cur 0 [Value.int .i64 v]:=⟨_,rfl⟩;have hl5:aag.length=c4:=(by rw [Ss,length_splice _ _ _ (by have:=HCL.out;have:=Zq.out;simp;omega),HCL.out]);have ht5:aag.take 1=List.replicate 1 (Value.int .i64 v):=(by rw [Ss];simp [splice]);have JN:aE (w5.heap[g]?=some (.cells aag.toArray 2 (0,0))):=(by rw [Ss];exact⟨HG5⟩);have HL:=q_ hl5;have HT:=q_ ht5;have HB7:=q_ I7;clear HG5 Ss hl5 ht5 I7 HG2)))
  have HG0:=q_ (show w.heap.size≤g by have:=HB.out.below.size;have:=HG1.out;omega);clear HG1 JO HX HB
  go_loopg [8] n (fun kq v8 w'=> ∃(x8:Nat) (IC:List Value),v8= .int .i64 (x8:Int)∧aE (1≤x8)∧aE (x8≤n)∧aE (n - x8≤kq)∧aE (IC.length=c4)∧aE (IC.take x8=List.replicate x8 (.int .i64 v))∧aE (w'.heap[g]?=some (.cells IC.toArray 2 (0,0)))∧aE (Below w.heap.size w w'))
  case atStart=>exact⟨1,aag,rfl,⟨Nat.le_refl _⟩,⟨by omega⟩,⟨by omega⟩,HL,HT,JN,HB7⟩
  case round=>
   obtain⟨x8,IC,rfl,X1,X2,X3,XL,XT,XG,XB⟩:=hrel
   by_cases hlt:x8 < n
   ·have k1:(x8:Int) < (n:Int):=by omega
    have k2:(0:Int)≤(x8:Int):=by omega
    have k3:(x8:Int)≤(n:Int):=by omega
    have k4:x8≤n:=by omega
    have k5:x8≤c4:=by have:=Zq.out;omega
    have k6:(x8:Int)≤(c4:Int):=by omega
    have k7: ¬ c4=x8:=by have:=Zq.out;omega
    have k8: ¬ x8=0:=by have:=X1.out;omega
    have k9:IntKind.i64.wrap ((x8:Int)+(Nat.min x8 (n - x8):Nat))=((x8+Nat.min x8 (n - x8):Nat):Int):=by
     have:Nat.min x8 (n - x8)≤n:=Nat.le_trans (Nat.min_le_right _ _) (by omega);rw [IntWalk.i64_in _ (by have:=HN.out;omega)];omega
    go_wp2
    have XB1:Below w.heap.size w wr.drew:=XB.out.drew;have XG1:aE (wr.drew.heap[g]?=some (.cells IC.toArray 2 (0,0))):=XG;obtain⟨cs,hcs⟩: ∃c,c=List.replicate (Nat.min x8 (n - x8)) (Value.int .i64 v):=⟨_,rfl⟩
    have XS:=q_ hcs;clear hcs;have XC:aE (∀j u,cs[j]?=some u→wr.drew.cell? ((⟨g,0,none⟩:Addr).add j)=some u):=⟨fun j u hj=>aal XG1.out (by rw [XL.out];omega) XT.out (Nat.min_le_left _ _) j u (by rw [XS.out] at hj;exact hj)⟩
    have XF:aE (x8+cs.length≤IC.length):=⟨by rw [XS.out,XL.out,List.length_replicate];have:=Zq.out;have:Nat.min x8 (n - x8)≤n - x8:=Nat.min_le_right _ _;omega⟩
    have XO:aE (∀u ∈ cs,u.oneCell'=true):=⟨fun u hu=>by rw [XS.out] at hu;rw [List.eq_of_mem_replicate hu];rfl⟩
    have XN:aE (cs.length=Nat.min x8 (n - x8)):=⟨by rw [XS.out];simp⟩
    have XM:aE (0 < Nat.min x8 (n - x8)):=⟨by have:=X1.out;exact Nat.lt_min.2 ⟨by omega,by omega⟩⟩
    have XM2:aE (Nat.min x8 (n - x8)≤n - x8):=⟨Nat.min_le_right _ _⟩
    go_region_law (refine step_copy_splice rfl (.tmp 41) (.tmp 44) 24 24 rfl 2 Tryz.underlying24 rfl (some ⟨g,x8,none⟩) (some ⟨g,0,none⟩) (n - x8) (c4 - x8) x8 c4 (by simp [Act.eval,Act.put]) (by simp [Act.eval,Act.put]) g x8 IC 2 XG1.out cs XN.out (fun _=>⟨rfl,⟨g,0,none⟩,rfl,XC.out⟩) XF.out XO.out w.heap.size w XB1 HG0.out ?_;intro w6 hg6 hb6;rw [XN.out])
    go_wp2
    go_roundg (n - (x8+Nat.min x8 (n - x8)))
    case measure=>have:=XM.out;have:=X3.out;omega
    case rel=>exact⟨x8+Nat.min x8 (n - x8),splice IC x8 cs,by first | rfl | simp [k9],⟨by have:=X1.out;omega⟩,⟨by have:=XM2.out;omega⟩,⟨Nat.le_refl _⟩,⟨by rw [length_splice _ _ _ XF.out,XL.out]⟩,⟨by rw [XS.out];exact aaQ _ _ _ _ XT.out (by rw [XL.out];omega) (Nat.min_le_left _ _)⟩,⟨hg6⟩,⟨hb6⟩⟩
   ·obtain rfl:x8=n:=by have:=X2.out;omega
    go_wp2
    go_ret
    exact⟨_,rfl,agT HG0.out XG.out Zq.out Qd.out XL.out XT.out,XB.out⟩
end Go.Proofs.YthmfdplckdijdaaGreat.Pr
end
section
namespace Go.Proofs.YthmfdplckdijdaaGreat.Pr
open Go.RowKit Wz.cw Wz.fX Wz.cX Ma Dt Lk Lt Lq
def wH (most:Int):Nat→List Int→List Int × Bool
 | 0,c=>(c,false)
 | i+1,c=>if c.getD i 0=most then wH most i (c.set i 1) else(c.set i (c.getD i 0+1),true)
theorem E1 (most:Int) (i:Nat) (c:List Int):wH most (i+1) c=if c.getD i 0=most then wH most i (c.set i 1) else(c.set i (c.getD i 0+1),true):=rfl
def QL (M:List (List Int)) (Q:List Int) (most:Int):Nat→List Int→Int→Int→Option (Int × Int × Int)
  | 0,_,_,_=>none
  | k+1,c,so,ra=>
    if(nI M Q c 201).2.2.2.2=0 then
      (if(wH most Q.length c).2=true then QL M Q most k (wH most Q.length c).1 (if(nI M Q c 201).2.2.1=true then wrap64 (so+1) else so) (if(nI M Q c 201).2.2.1=true then ra else wrap64 (ra+1))
       else some (if(nI M Q c 201).2.2.1=true then wrap64 (so+1) else so,if(nI M Q c 201).2.2.1=true then ra else wrap64 (ra+1),0))
    else some (0,0,(nI M Q c 201).2.2.2.2)
def qm.f (k:Nat) (ae:List (List Int)) (aa:List Int) (a1:Int):Option (Int × Int × Int):=if nZ.f ae aa=some true then(if(1≤a1∧a1≤3)∧aa.length≤4 then QL ae aa a1 k (List.replicate aa.length 1) 0 0 else some (0,0,2)) else some (0,0,1)
structure Br (n:Nat) (most:Int) (c:List Int):Prop where
 len:c.length=n
 num: ∀x ∈ c,1≤x∧x≤most
theorem Br.set {n:Nat} {most:Int} {c:List Int} (h:Br n most c) {i:Nat} {x:Int} (hx:1≤x∧x≤most):Br n most (c.set i x):=
 ⟨by rw [List.length_set];exact h.len,fun y hy=>by
  rcases List.mem_or_eq_of_mem_set hy with h1 | h1
  ·exact h.num y h1
  ·rw [h1];exact hx⟩
theorem Br.get {n:Nat} {most:Int} {c:List Int} (h:Br n most c) {i:Nat} (hi:i < n):1≤c.getD i 0∧c.getD i 0≤most:=by
 have hl:=h.len
 rw [List.getD_eq_getElem?_getD,List.getElem?_eq_getElem (by omega)]
 exact h.num _ (List.getElem_mem _)
theorem Br.zN {n:Nat} {most:Int} {c:List Int} (h:Br n most c) (hm:most≤20):zN (n:Int) c=true:=by
 unfold Pr.zN
 rw [Bool.and_eq_true]
 refine⟨decide_eq_true (by rw [h.len]),?_⟩
 rw [Bool.not_eq_true',(Pb.any_false Ad c)]
 intro i hi
 have:=h.num _ (List.getElem_mem hi)
 unfold Ad
 rw [decide_eq_true this.1,decide_eq_true (show c[i]≤20 by omega)];rfl
theorem qm.calls (k:Nat) (af:Option Addr) (ag:Nat) (ae:List (List Int)) (ah:Option Addr) (ai:Nat) (aa:List Int) (a1:Int) (r1:Int) (r2:Int) (r3:Int) (w:World) (aj:Kd.C (Kd.slice 2 (Kd.int .i64)) w af ae.length ae) (ak:ae.length≤ag) (aq:Kd.C (Kd.int .i64) w ah aa.length aa) (au:aa.length≤ai) (h:qm.f k ae aa a1=some (r1,r2,r3)):
    Calls Tryz.prog 32 #[.agg #[.slice af ae.length ag, .slice ah aa.length ai], .int .i64 a1] w fun e w'=>e= .returned (.tuple #[.int .i64 r1, .int .i64 r2, .int .i64 r3])∧Below w.heap.size w w':=by
  have HB:=q_ (Below.refl w.heap.size w);obtain⟨b,hb⟩: ∃b,nZ.f ae aa=some b:=by
    classical
    exact⟨_,Pb.DC ae aa (decide (Pb.Eu ae aa)) (by simp)⟩
  have hip:=fun W (hw:Below w.heap.size w W)=>nZ.calls af ag ae ah ai aa b W (Kd.nW aj hw) ak (Kd.nW aq hw) au hb
  have HIP:=q_ hip;have hrun:b=true→ ∀(A2:Option Addr) (c2:Nat) (cv:List Int),Br aa.length a1 cv→a1≤20→ ∀W,Below w.heap.size w W→Kd.C (Kd.int .i64) W A2 cv.length cv→cv.length≤c2→_:=fun hbt A2 c2 cv hcv h20 W hw hC2 hc2=>
    Rj af ag ae ah ai aa A2 c2 cv 201 W aa.length (Kd.nW aj hw) (Kd.nW aq hw) hC2 ak au hc2 (Dn (xZ (hb.trans (by rw [hbt]))) (hcv.zN h20)).lM rfl (Dn (xZ (hb.trans (by rw [hbt]))) (hcv.zN h20)).rows (Dn (xZ (hb.trans (by rw [hbt]))) (hcv.zN h20)).pos (Dn (xZ (hb.trans (by rw [hbt]))) (hcv.zN h20)).le (Dn (xZ (hb.trans (by rw [hbt]))) (hcv.zN h20)).lcv (Dn (xZ (hb.trans (by rw [hbt]))) (hcv.zN h20)).Mb (Dn (xZ (hb.trans (by rw [hbt]))) (hcv.zN h20)).cb (Dn (xZ (hb.trans (by rw [hbt]))) (hcv.zN h20)).qb (nI ae aa cv 201) (by unfold nI;rfl)
  have I4:=q_ hrun;unfold qm.f at h;rw [hb] at h;have hpos:b=true→0 < aa.length:=fun hbt=>by
    have:=(xZ (hb.trans (by rw [hbt]))).JF.n1;have:=(xZ (hb.trans (by rw [hbt]))).len
    omega
  have afc:=q_ hpos;clear hip hrun aj ak aq au hb hpos;obtain⟨F,hF⟩: ∃F:List Int→TS × List (List Int) × Bool × Int × Int,F=fun c=>nI ae aa c 201:=⟨_,rfl⟩
  have HF:=q_ hF;clear hF;obtain⟨G,hG⟩: ∃G:Nat→List Int→Int→Int→Option (Int × Int × Int),G=QL ae aa a1:=⟨_,rfl⟩
  have hgs: ∀k c so ra,G (k+1) c so ra=if(F c).2.2.2.2=0 then
      (if(wH a1 aa.length c).2=true then G k (wH a1 aa.length c).1 (if(F c).2.2.1=true then wrap64 (so+1) else so) (if(F c).2.2.1=true then ra else wrap64 (ra+1))
       else some (if(F c).2.2.1=true then wrap64 (so+1) else so,if(F c).2.2.1=true then ra else wrap64 (ra+1),0))
    else some (0,0,(F c).2.2.2.2):=fun k c so ra=>by rw [hG,HF.out];rfl
  have hg0: ∀c so ra,G 0 c so ra=none:=fun c so ra=>by rw [hG];rfl
  have HGS:=q_ hgs;have HG0:=q_ hg0;rw [← hG] at h;clear hG hgs hg0;have afG:b=true→ ∀(A2:Option Addr) (c2:Nat) (cv:List Int),Br aa.length a1 cv→a1≤20→ ∀W,Below w.heap.size w W→Kd.C (Kd.int .i64) W A2 cv.length cv→cv.length≤c2→Calls Tryz.prog 76 #[.agg #[.slice af ae.length ag, .slice ah aa.length ai], .slice A2 cv.length c2, .int .i64 201] W fun e w'=> ∃p,e= .returned (.pointer (some ⟨p,0,none⟩))∧P8 W w' p aa.length (2*aa.length+2) (F cv).1 (F cv).2.1 (F cv).2.2.1 (F cv).2.2.2.1 (F cv).2.2.2.2∧Below W.heap.size W w':=fun hbt A2 c2 cv hcv h20 W hw hC2 hc2=>by
    have h:=I4.out hbt A2 c2 cv hcv h20 W hw hC2 hc2;rw [HF.out];exact h
  have Bm:=q_ afG;clear afG I4 HF
  generalize ae.length=m0 at HIP Bm ⊢
  obtain⟨n,hn⟩: ∃n,aa.length=n:=⟨_,rfl⟩
  rw [hn] at HIP Bm HGS afc h ⊢;clear hn;have H:=q_ h;clear h
  go_enter Tryz.func32,Tryz.ntmps32
  go_wp2_with (first | ((with_reducible refine dg (N:=2) rfl ?_);refine nR 2 #[.slice af m0 ag, .slice ah n ai] 34 ?_;intro g2 hg w2 cM hb;replace HB:=q_ (eE HB.out hb);have B2:=q_ cM;have hz0:=lS B2 0;have hz1:=lS B2 1;clear hb cM hg))
  refine(HIP.out w2 HB.out).mono ?_
  rintro e w3 ⟨rfl,hb⟩;replace HB:=q_ (eE HB.out hb);replace B2:=q_ (ke B2.out hb);clear hb hz0 hz1 HIP;cases b with
  | false=>
    have e:=H.out;rw [if_neg (by simp)] at e;injection e with e
    injection e with e1 e
    injection e with e2 e3
    subst e1 e2 e3;clear H Bm;go_wp2
    go_ret3
    exact⟨rfl,HB.out⟩
  | true=>
    have e:=H.out;rw [if_pos rfl] at e;have H2:=q_ e;clear H e;obtain⟨z,hz⟩: ∃z,decide (1≤a1∧a1≤3)=z:=⟨_,rfl⟩
    have HW:=q_ ((aaK a1 1 3).trans (by rw [hz]));have HZ:=q_ hz;have HP0:=q_ (afc.out rfl);clear hz afc
    go_wp2_with fail
    refine(oZ.calls a1 1 3 z _ HW.out).mono ?_
    rintro e w4 ⟨rfl,⟨nd,rfl⟩⟩;replace HB:=q_ (eE HB.out (oO (Below.refl w3.heap.size w3) nd));replace B2:=q_ (ke B2.out (oO (Below.refl w3.heap.size w3) nd));clear HW
    generalize w3.drewN nd=w4 at HB B2 ⊢
    have hz1:=lS B2 1;cases z with
    | false=>
      have e:=H2.out;rw [if_neg (fun q=>of_decide_eq_false HZ.out q.1)] at e;injection e with e
      injection e with e1 e
      injection e with e2 e3
      subst e1 e2 e3;clear H2 Bm;go_wp2
      go_ret3
      exact⟨rfl,HB.out⟩
    | true=>
      have hk:=of_decide_eq_true HZ.out
      by_cases h4:n≤4
      · have h4z:decide (4 < (n:Int))=false:=decide_eq_false (by omega);have h4y: ¬ (4:Int) < (n:Int):=by omega
        have e:=H2.out;rw [if_pos ⟨hk,h4⟩] at e;have H3:=q_ e;have HN:=q_ h4;have HK:=q_ hk;clear H2 e h4 hk HZ
        go_wp2_with (first | ((with_reducible refine dg (N:=26) rfl ?_);refine Kd.tu (Kd.int .i64) (w0:=w4) w4.heap.size 2 ?hg (N:=26) ?hd (xs:= [(1:Int)]) (inner:= [.int .i64 1]) (ok:=fun _=>True) (oC:=fun _=>True) ?hr ?hp (fun _ hk=>hk) trivial (Below.refl _ _) (Nat.le_refl _) (by simp) ?_;(case hd=>rfl);(case hg=>rfl);(case hr=>first | (go_simp;done) | (go_simp;rfl));(case hp=>exact mV.one rfl (mV.none _ _));intro v26 w5 hr hb hg_ DW;clear hg_ DW;have afb:=q_ hr;replace HB:=q_ (eE HB.out hb);replace B2:=q_ (ke B2.out hb);clear hr hb hz1;obtain⟨A26,Y7,e26⟩:=Kd.mE afb.out;subst e26;have hz1:=lS B2 1))
        have HRD:=(Kd.lU afb.out)
        refine(xV.calls A26 Y7 [1] (n:Int) (List.replicate n 1) w5 HRD.2.2 HRD.2.1 (by unfold xV.f;rw [if_pos ⟨rfl,by omega,by have:=HN.out;omega⟩,Int.toNat_natCast];rfl)).mono ?_
        clear HRD;rintro e w6 ⟨v9,rfl,hR9,hb⟩;have Zf:=q_ (Kd.ng hR9 HB.out.size);replace HB:=q_ (eE HB.out hb);replace B2:=q_ (ke B2.out hb);have AE:aE (Br n a1 (List.replicate n 1)):=⟨⟨List.length_replicate,fun x hx=>by rw [(List.mem_replicate.1 hx).2];exact⟨Int.le_refl _,HK.out.1⟩⟩⟩
        obtain⟨g9,c9,e9,_,_,_⟩:=Kd.rX hR9 (by rw [List.length_replicate];exact HP0.out);rw [List.length_replicate] at e9;subst e9;clear hR9 hb hz1 afb;go_wp2
        go_loopg [7,8] k (fun gg v7 v8 wr=> ∃(c:List Int) (so ra:Int),v7= .int .i64 so∧v8= .int .i64 ra∧aE (G gg c so ra=some (r1,r2,r3))∧aE (Br n a1 c)∧aE (Kd.R (Kd.int .i64) 2 wr w.heap.size (fun _=>True) (.slice (some ⟨g9,0,none⟩) n c9) c)∧aE (Below w.heap.size w wr)∧aE (wr.heap[g2]?=some (.cells #[.slice af m0 ag, .slice ah n ai] 34 (0,0))))
        case atStart=>exact⟨List.replicate n 1,0,0,rfl,rfl,H3,AE,Zf,HB,B2⟩
        case round=>
          clear H3 AE Zf HB B2;obtain⟨c,so,ra,rfl,rfl,HA,AE,HR,HB,B2⟩:=hrel;cases gk with
          | zero=>exact absurd HA.out (by rw [HG0.out];simp)
          | succ k1=>
            have hrun:=Bm.out (by first | exact rfl | trivial) (some ⟨g9,0,none⟩) c9 c AE.out (by have:=HK.out;omega) wr HB.out (Kd.lU HR.out).2.2 (by rw [AE.out.len];exact(Kd.lU HR.out).2.1);rw [AE.out.len] at hrun;have hgs:=HA.out;rw [HGS.out] at hgs;obtain⟨R,hR⟩: ∃R,F c=R:=⟨_,rfl⟩
            rw [hR] at hrun hgs;obtain⟨s,st,sv,pU,cR⟩:=R;simp only at hrun hgs;have I4:=q_ hrun;have HE:=q_ hgs;have hz0:=lS B2 0;have hz1:=lS B2 1;clear hrun hgs hR HA
            go_wp2_with fail
            refine I4.out.mono ?_
            rintro e w7 ⟨p,rfl,hP,hb⟩;replace HB:=q_ (eE HB.out hb);replace B2:=q_ (ke B2.out hb);replace HR:=q_ (Kd.oQ HR.out hb);have hq:w7.cell? ⟨p,2,none⟩=some (.bool sv)∧w7.cell? ⟨p,4,none⟩=some (.int .i64 cR):=by
              obtain⟨lo,hi,t,u1,h1,h2,h3,hT,hBp,hS⟩:=hP;exact⟨lS ⟨hBp⟩ 2,lS ⟨hBp⟩ 4⟩
            obtain⟨hq2,hq4⟩:=hq;clear hP hb hz0 hz1 I4
            by_cases hc0:cR=0
            · subst hc0;have hn1:wrap64 ((n:Int) - 1)=(n:Int) - 1:=by have:=HN.out;have:=HP0.out;exact nH (by omega) (by omega)
              have Hs:=q_ hn1;have e:=HE.out;rw [if_pos rfl] at e;cases sv
              all_goals
                simp only [reduceIte,Bool.false_eq_true] at e;have HE2:=q_ e;clear HE e;go_wp2
                clear hq2 hq4
                go_loopg [11] n (fun gg v11 wr=> ∃(j:Nat) (c':List Int),j≤n∧j≤gg∧v11= .int .i64 ((j:Int) - 1)∧aE (Br n a1 c')∧aE (wH a1 j c'=wH a1 n c)∧aE (Kd.R (Kd.int .i64) 2 wr w.heap.size (fun _=>True) (.slice (some ⟨g9,0,none⟩) n c9) c')∧aE (Below w.heap.size w wr)∧aE (wr.heap[g2]?=some (.cells #[.slice af m0 ag, .slice ah n ai] 34 (0,0))))
                case atStart=>exact⟨n,c,Nat.le_refl _,Nat.le_refl _,by first | rfl | (rw [Hs.out]) | (simp [Hs.out]),AE,⟨rfl⟩,HR,HB,B2⟩
                case round=>
                  clear AE HR HB B2 hn1;obtain⟨j,c',hj,hg,rfl,AE,HCA,HR,HB,B2⟩:=hrel;have HG:=q_ hg;have HJ:=q_ hj;clear hg hj;cases j with
                  | zero=>
                    have hm1:((0:Nat):Int) - 1= -1:=rfl;have e:=HE2.out;rw [← HCA.out] at e;simp only [wH,Bool.false_eq_true,reduceIte] at e;injection e with e
                    injection e with e1 e
                    injection e with e2 e3
                    subst e1 e2 e3;clear HE2;go_wp2
                    go_ret3
                    exact⟨rfl,HB.out⟩
                  | succ j=>
                    have hji:((j+1:Nat):Int) - 1=(j:Int):=by omega
                    have h0j:(0:Int)≤(j:Int):=by omega
                    have hjn:(j:Int) < (n:Int):=by have:=HJ.out;omega
                    have arN: ¬ (j:Int) < 0:=by omega
                    have hat:=Kd.tW 0 HR.out (j:Int) (by omega) hjn;rw [Int.toNat_natCast] at hat;have hcell:wr.cell? ⟨g9,j,none⟩=some (.int .i64 (c'.getD j 0)):=by simpa [Fb] using hat.1
                    have hfr:=hat.2;have hwj:wrap64 ((j:Int) - 1)=(j:Int) - 1:=by have:=HN.out;have:=HJ.out;exact nH (by omega) (by omega)
                    have HWJ:=q_ hwj;clear hat;rw [hji];obtain⟨x,hx⟩: ∃x,c'.getD j 0=x:=⟨_,rfl⟩
                    rw [hx] at hcell;have HX:=q_ hx;clear hx
                    by_cases hxm:x=a1
                    · have hxb:(x==a1)=true:=by simp [hxm]
                      have anI:wH a1 j (c'.set j 1)=wH a1 n c:=by
                        have hca:=HCA.out;rw [E1] at hca;rw [if_pos (HX.out.trans hxm)] at hca;exact hca
                      clear hxm;go_wp2
                      have hput:=Kd.zl HR.out (j:Int) 1;rw [Int.toNat_natCast] at hput;have hg9:=Kd.o8 HR.out g9 (by simp [Value.ownBlock])
                      go_roundg j
                      case measure=>have:=HG.out;omega
                      case rel=>exact⟨j,c'.set j 1,by have:=HJ.out;omega,Nat.le_refl _,by first | rfl | (rw [HWJ.out]) | (simp [HWJ.out]),⟨AE.out.set ⟨Int.le_refl _,HK.out.1⟩⟩,⟨anI⟩,⟨hput.1⟩,⟨HB.out.setCell hg9 _⟩,⟨m8 B2.out hput.2 (Kd.pJ HR.out B2.out (by decide))⟩⟩
                    · have hxb:(x==a1)=false:=by simpa using hxm
                      have hcv:=AE.out.get (i:=j) (by have:=HJ.out;omega);have e:=HE2.out;have hca:=HCA.out;rw [E1] at hca;rw [if_neg (fun q=>hxm (HX.out.symm.trans q))] at hca;rw [← hca] at e;simp only [reduceIte] at e;have HE3:=q_ e;have hwx:wrap64 (x+1)=x+1:=by rw [HX.out] at hcv;have:=HK.out;exact nH (by omega) (by omega)
                      have wv:aE (Br n a1 (c'.set j (x+1))):=⟨AE.out.set ⟨by rw [HX.out] at hcv;omega,by rw [HX.out] at hcv;omega⟩⟩
                      clear hcv e hca HE2 hxm AE;go_wp2
                      have hput:=Kd.zl HR.out (j:Int) (x+1);rw [Int.toNat_natCast] at hput;have hg9:=Kd.o8 HR.out g9 (by simp [Value.ownBlock])
                      go_roundg k1
                      case measure=>omega
                      case rel=>exact⟨c'.set j (x+1),_,_,rfl,rfl,⟨by have e:=HE3.out;rw [HX.out] at e;exact e⟩,wv,⟨hput.1⟩,⟨HB.out.setCell hg9 _⟩,⟨m8 B2.out hput.2 (Kd.pJ HR.out B2.out (by decide))⟩⟩
            · have hcb:(cR==0)=false:=by simpa using hc0
              have e:=HE.out;rw [if_neg hc0] at e;injection e with e
              injection e with e1 e
              injection e with e2 e3
              subst e1 e2 e3;clear HE;go_wp2
              replace HB:=q_ (eE HB.out (mH (Below.refl w7.heap.size w7)));refine qx (n:=7) (S:=fun w'=>w'.cell? ⟨p,4,none⟩=some (.int .i64 cR)) (ds:= []) hq4 (fun hHeld=>?_)
              generalize w7.drew=w8 at HB hHeld ⊢
              refine rm 0 42 1 43 2 44 ?_;refine mg 3 45 ?_;refine rm 4 4 5 5 6 6 ?_
              refine oA (by kernel_rfl) ?_
              go_wp2
              go_ret3
              exact⟨rfl,HB.out⟩
      · have h4z:decide (4 < (n:Int))=true:=decide_eq_true (by omega);have h4y:(4:Int) < (n:Int):=by omega
        have e:=H2.out;rw [if_neg (fun q=>h4 q.2)] at e;injection e with e
        injection e with e1 e
        injection e with e2 e3
        subst e1 e2 e3;clear H2 Bm h4 hk;go_wp2
        go_ret3
        exact⟨rfl,HB.out⟩
end Go.Proofs.YthmfdplckdijdaaGreat.Pr
end
section
namespace Go.Proofs.YthmfdplckdijdaaGreat.Pr
open Go.RowKit Wz.cw Wz.fX Wz.cX
attribute [local go_sem] nV nT oF oD nC nB nU nS
mutual
def lR.l0:Nat→Int→Int→Int→Int→Int→List (List Int)→List Int→Option (Int × Int × Int)
 | 0,_,_,_,_,_,_,_=>none
 | k+1,x1,x7,x8,x9,x10,ae,aa=>if x10 < (aa.length:Int) then(lR.l0 k x1 (wrap64 (x7*x1)) x8 x9 (wrap64 (x10+1)) ae aa) else(lR.l1 k x1 x7 x8 x9 0 ae aa)
def lR.l1:Nat→Int→Int→Int→Int→Int→List (List Int)→List Int→Option (Int × Int × Int)
 | 0,_,_,_,_,_,_,_=>none
 | k+1,x1,x7,x8,x9,sS,ae,aa=>if sS < x7 then(lR.l2 k x1 x7 x8 x9 sS (([]:List Int)) sS 0 ae aa) else(some (x8,x9,0))
def lR.l2:Nat→Int→Int→Int→Int→Int→List Int→Int→Int→List (List Int)→List Int→Option (Int × Int × Int)
 | 0,_,_,_,_,_,_,_,_,_,_=>none
 | k+1,x1,x7,x8,x9,sS,tC,wP,rQ,ae,aa=>if rQ < (aa.length:Int) then(if x1=0 then(none) else(if tC.length < 17592186044416 then(lR.l2 k x1 x7 x8 x9 sS (tC++ [wrap64 (1+(Int.tmod wP x1))]) (wrap64 (Int.tdiv wP x1)) (wrap64 (rQ+1)) ae aa) else(none))) else((d7.f k ae aa tC 201).bind fun af=>(if(af.2.2.2.1.length:Int) > 200 then(some (0,0,3)) else(if af.2.2.2.2.2=true then(lR.l1 k x1 x7 (wrap64 (x8+1)) x9 (wrap64 (sS+1)) ae aa) else(lR.l1 k x1 x7 x8 (wrap64 (x9+1)) (wrap64 (sS+1)) ae aa))))
end
def lR.f (k:Nat) (ae:List (List Int)) (aa:List Int) (a1:Int):Option (Int × Int × Int):=(m6.f k ae aa).bind fun af=>(if af=true then((nX.f a1 1 3).bind fun ag=>(if ag=true then(if(aa.length:Int) > 4 then(some (0,0,2)) else(lR.l0 k a1 1 0 0 0 ae aa)) else(some (0,0,2)))) else(some (0,0,1)))
theorem lR.calls (k:Nat) (aj:Option Addr) (ak:Nat) (ag:List (List Int)) (aq:Option Addr) (au:Nat) (ae:List Int) (a1:Int) (r1:Int) (r2:Int) (r3:Int) (w:World) (bY:Kd.C (Kd.slice 2 (Kd.int .i64)) w aj ag.length ag) (bZ:ag.length≤ak) (cn:Kd.C (Kd.int .i64) w aq ae.length ae) (ct:ae.length≤au) (h:lR.f k ag ae a1=some (r1,r2,r3)):
  Calls Tryz.prog 33 #[.agg #[.slice aj ag.length ak, .slice aq ae.length au], .int .i64 a1] w fun e w'=>e= .returned (.tuple #[.int .i64 r1, .int .i64 r2, .int .i64 r3])∧Below w.heap.size w w':=by
 have CY:=Tryz.underlying34;have Dp:=Tryz.underlying107;have mR:=q_ bY;have oh:=q_ bZ;clear bY bZ;have ox:=q_ cn;have oR:=q_ ct;clear cn ct;have HB:=q_ (Below.refl w.heap.size w);have H:((m6.f k ag ae).bind fun bP=>(if bP=true then((nX.f a1 1 3).bind fun aX=>(if aX=true then(if(ae.length:Int) > 4 then(some (0,0,2)) else(lR.l0 k a1 1 0 0 0 ag ae)) else(some (0,0,2)))) else(some (0,0,1))))=some (r1,r2,r3):=h;clear h;replace H:=Option.bind_eq_some_iff.mp H;obtain⟨bP,sW,H⟩:=H;replace H:(if bP=true then((nX.f a1 1 3).bind fun aX=>(if aX=true then(if(ae.length:Int) > 4 then(some (0,0,2)) else(lR.l0 k a1 1 0 0 0 ag ae)) else(some (0,0,2)))) else(some (0,0,1)))=some (r1,r2,r3):=H;have A3:=q_ sW;clear sW
 by_cases c4:bP=true
 ·subst c4;have H1:((nX.f a1 1 3).bind fun aX=>(if aX=true then(if(ae.length:Int) > 4 then(some (0,0,2)) else(lR.l0 k a1 1 0 0 0 ag ae)) else(some (0,0,2))))=some (r1,r2,r3):=by rw [if_pos rfl] at H;exact H
  clear H;have H:=H1;clear H1;replace H:=Option.bind_eq_some_iff.mp H;obtain⟨aX,xL,H⟩:=H;replace H:(if aX=true then(if(ae.length:Int) > 4 then(some (0,0,2)) else(lR.l0 k a1 1 0 0 0 ag ae)) else(some (0,0,2)))=some (r1,r2,r3):=H;have A5:=q_ xL;clear xL
  by_cases c6:aX=true
  ·subst c6;have H1:(if(ae.length:Int) > 4 then(some (0,0,2)) else(lR.l0 k a1 1 0 0 0 ag ae))=some (r1,r2,r3):=by rw [if_pos rfl] at H;exact H
   clear H;have H:=H1;clear H1
   by_cases c7:(ae.length:Int) > 4
   ·rw [if_pos c7] at H;have za:=decide_eq_true c7;have Fh:decide (4 < ae.length)=true:=decide_eq_true (by omega);clear c7;simp only [Option.some.injEq,Prod.mk.injEq] at H;obtain⟨rfl,rfl,rfl⟩:=H
    go_enter Tryz.func33,Tryz.ntmps33
    go_wp2_with (first | ((with_reducible refine dg (N:=2) rfl ?_);(try (refine sI (by rfl) ?_;dsimp only));refine nR 2 #[.slice aj ag.length ak, .slice aq ae.length au] 34 ?_;intro af hg w8 cM hb;have aa:=q_ (cM);have bQ:=mq w hg;have bS:=mq w hg;replace HB:=lT hb;clear hb cM hg;obtain⟨bC,bD,bE,bF⟩:=nF aa) | ((with_reducible refine d8 (f:=46) rfl ?_);refine oJ 21 Tryz.func46 #[.agg #[.slice aj ag.length ak, .slice aq ae.length au]] ?_;(with_reducible refine(m6.calls k _ _ ag _ _ ae true _ ?ay ?az ?aA ?aC A3.out).mono ?_);(case ay=>exact ni mR.out HB.out);(case az=>exact oh.out);(case aA=>exact ni ox.out HB.out);(case aC=>exact oR.out);rintro e tE ⟨rfl,hb⟩;refine⟨_,rfl,?_⟩;replace aa:=lZ aa hb;replace HB:=lT hb;(try clear hb);(try clear hk)) | ((with_reducible refine d8 (f:=43) rfl ?_);refine oJ 25 Tryz.func43 #[.int .i64 a1, .int .i64 1, .int .i64 3] ?_;(with_reducible refine(nX.calls a1 1 3 true _ A5.out).mono ?_);rintro e w' ⟨rfl,⟨nd,rfl⟩⟩;refine⟨_,rfl,?_⟩;obtain⟨a9,ba,bg,bh⟩:=nF aa))
    go_ret3
    exact⟨pH,hb_⟩
   ·rw [if_neg c7] at H;have za:=decide_eq_false c7;have Fh:decide (4 < ae.length)=false:=decide_eq_false (by omega);clear c7;have H':=q_ H;clear H
    go_enter Tryz.func33,Tryz.ntmps33
    go_wp2_with (first | ((with_reducible refine dg (N:=2) rfl ?_);(try (refine sI (by rfl) ?_;dsimp only));refine nR 2 #[.slice aj ag.length ak, .slice aq ae.length au] 34 ?_;intro af hg tX cM hb;have aa:=q_ (cM);have bQ:=mq w hg;have bS:=mq w hg;replace HB:=lT hb;clear hb cM hg;obtain⟨bi,bn,bq,bu⟩:=nF aa) | ((with_reducible refine d8 (f:=46) rfl ?_);refine oJ 21 Tryz.func46 #[.agg #[.slice aj ag.length ak, .slice aq ae.length au]] ?_;(with_reducible refine(m6.calls k _ _ ag _ _ ae true _ ?ay ?az ?aA ?aC A3.out).mono ?_);(case ay=>exact ni mR.out HB.out);(case az=>exact oh.out);(case aA=>exact ni ox.out HB.out);(case aC=>exact oR.out);rintro e Cg ⟨rfl,hb⟩;refine⟨_,rfl,?_⟩;replace aa:=lZ aa hb;replace HB:=lT hb;(try clear hb);(try clear hk)) | ((with_reducible refine d8 (f:=43) rfl ?_);refine oJ 25 Tryz.func43 #[.int .i64 a1, .int .i64 1, .int .i64 3] ?_;(with_reducible refine(nX.calls a1 1 3 true _ A5.out).mono ?_);rintro e w' ⟨rfl,⟨nd,rfl⟩⟩;refine⟨_,rfl,?_⟩;obtain⟨bv,bw,bz,bA⟩:=nF aa))
    go_loopg [7,10] k (fun kq v7 v10 w'=> ∃(aG:Int) (aV:Int),v7= .int .i64 aG∧v10= .int .i64 aV∧aE (lR.l0 kq a1 aG 0 0 aV ag ae=some (r1,r2,r3))∧aE (kq≤k)∧aE (w'.heap[af]?=some (.cells #[(.slice aj ag.length ak),(.slice aq ae.length au)] 34 (0,0)))∧aE (Below w.heap.size w w'))
    case atStart=>exact⟨(1),(0),nM,nM,H',⟨Nat.le_refl _⟩,⟨nj⟩,⟨hb_⟩⟩
    case round=>
     clear H';(try clear c4);(try clear c6);(try clear za);(try clear Fh);(try clear a9);(try clear ba);(try clear bi);(try clear bn);(try clear bv);(try clear bw);(try clear bC);(try clear bD);(try clear bg);(try clear bh);(try clear bq);(try clear bu);(try clear bz);(try clear bA);(try clear bE);(try clear bF);obtain⟨aG,aV,rfl,rfl,HA,nA,aa,HB⟩:=hrel;cases gk with
     | zero=>exact absurd HA.out (by simp [lR.l0])
     | succ k1=>
      have H:=HA.out;clear HA;simp only [lR.l0] at H
      by_cases sL:aV < (ae.length:Int)
      ·rw [if_pos sL] at H;have Ba:=decide_eq_true sL;clear sL;have H':=q_ H;clear H;obtain⟨bH,bI,bJ,bK⟩:=nF aa;go_wp2
       go_roundg k1
       case measure=>have:=nA.out;omega
       case rel=>exact⟨(wrap64 (aG*a1)),(wrap64 (aV+1)),nM,nM,H',⟨by have:=nA.out;omega⟩,⟨nj⟩,⟨hb_⟩⟩
      ·rw [if_neg sL] at H;have Ba:=decide_eq_false sL;clear sL;have H':=q_ H;clear H;obtain⟨bL,bM,bN,bO⟩:=nF aa;go_wp2
       go_loopg [8,9,11] k1 (fun kq v8 v9 v11 w'=> ∃(aM:Int) (aN:Int) (ax:Int),v8= .int .i64 aM∧v9= .int .i64 aN∧v11= .int .i64 ax∧aE (lR.l1 kq a1 aG aM aN ax ag ae=some (r1,r2,r3))∧aE (kq≤k1)∧aE (w'.heap[af]?=some (.cells #[(.slice aj ag.length ak),(.slice aq ae.length au)] 34 (0,0)))∧aE (Below w.heap.size w w'))
       case atStart=>exact⟨(0),(0),(0),nM,nM,nM,H',⟨Nat.le_refl _⟩,⟨nj⟩,⟨hb_⟩⟩
       case round=>
        clear H';(try clear c4);(try clear c6);(try clear za);(try clear Fh);(try clear Ba);(try clear a9);(try clear ba);(try clear bi);(try clear bn);(try clear bv);(try clear bw);(try clear bH);(try clear bI);(try clear bL);(try clear bM);(try clear bC);(try clear bD);(try clear bg);(try clear bh);(try clear bq);(try clear bu);(try clear bz);(try clear bA);(try clear bJ);(try clear bK);(try clear bN);(try clear bO);(try clear bE);(try clear bF);obtain⟨aM,aN,ax,rfl,rfl,rfl,HA,rA,aa,HB⟩:=hrel;cases gk with
        | zero=>exact absurd HA.out (by simp [lR.l1])
        | succ k2=>
         have H:=HA.out;clear HA;simp only [lR.l1] at H
         by_cases ru:ax < aG
         ·rw [if_pos ru] at H;have Cd:=decide_eq_true ru;clear ru;obtain⟨cC,hy⟩: ∃y_:List Int,y_=(([]:List Int)):=⟨_,rfl⟩
          replace H:(lR.l2 k2 a1 aG aM aN ax cC ax 0 ag ae)=some (r1,r2,r3):=hh_;have cz:=q_ hy;clear hy;have H':=q_ H;clear H
          go_wp2_with (first | ((with_reducible refine dg (N:=48) rfl ?_);(try (refine sI (by rfl) ?_;dsimp only));refine Kd.tu (Kd.int .i64) _ 2 ?hg (N:=48) ?hd (xs:=([]:List Int)) (inner:= []) (ok:=fun _=>True) (oC:=fun _=>True) ?hr ?hp (fun _ hk=>hk) trivial (Below.refl _ _) (Nat.le_refl _) (by simp) ?_;(case hd=>rfl);(case hg=>rfl);(case hr=>first | (go_simp;done) | (go_simp;rfl));(case hp=>exact(mV.none _ _));intro eY X4 bG hb hg_ om;clear hg_ om;(first | rw [← cz.out] at bG | (simp only [Int.reduceToNat] at bG;rw [← cz.out] at bG));have cH:=q_ (Kd.ng bG oI);replace aa:=lZ aa hb;replace HB:=lT hb;clear hb bG))
          go_loopg [12,13,14] k2 (fun kq Di Fp DH w'=> ∃(aD:List Int) (aT:Int) (aU:Int),Fp= .int .i64 aT∧DH= .int .i64 aU∧aE (lR.l2 kq a1 aG aM aN ax aD aT aU ag ae=some (r1,r2,r3))∧aE (kq≤k2)∧aE (Kd.R (Kd.int .i64) 2 w' w.heap.size (fun _=>True) Di aD)∧aE (w'.heap[af]?=some (.cells #[(.slice aj ag.length ak),(.slice aq ae.length au)] 34 (0,0)))∧aE (Below w.heap.size w w'))
          case atStart=>exact⟨(cC),(ax),(0),nM,nM,H',⟨Nat.le_refl _⟩,⟨m5 cH.out⟩,⟨nj⟩,⟨hb_⟩⟩
          case round=>
           clear H';(try clear c4);(try clear c6);(try clear za);(try clear Fh);(try clear Ba);(try clear Cd);(try clear a9);(try clear ba);(try clear bi);(try clear bn);(try clear bv);(try clear bw);(try clear bH);(try clear bI);(try clear bL);(try clear bM);(try clear bC);(try clear bD);(try clear bg);(try clear bh);(try clear bq);(try clear bu);(try clear bz);(try clear bA);(try clear bJ);(try clear bK);(try clear bN);(try clear bO);(try clear bE);(try clear bF);obtain⟨aD,aT,aU,rfl,rfl,HA,yE,ah,aa,HB⟩:=hrel;cases gk with
           | zero=>exact absurd HA.out (by simp [lR.l2])
           | succ k3=>
            have H:=HA.out;clear HA;simp only [lR.l2] at H
            by_cases uz:aU < (ae.length:Int)
            ·rw [if_pos uz] at H;have GW:=decide_eq_true uz;clear uz
             by_cases uY:a1=0
             ·rw [if_pos uY] at H;exact absurd H (by simp)
             ·rw [if_neg uY] at H;have Jr:=uJ uY;have alq:=uI uY
              by_cases A8:aD.length < 17592186044416
              ·rw [if_pos A8] at H;have cI:=q_ A8;clear A8;obtain⟨cD,hy⟩: ∃y_:List Int,y_=(aD++ [wrap64 (1+(Int.tmod aT a1))]):=⟨_,rfl⟩
               replace H:(lR.l2 k3 a1 aG aM aN ax cD (wrap64 (Int.tdiv aT a1)) (wrap64 (aU+1)) ag ae)=some (r1,r2,r3):=hh_;have cJ:=q_ hy;clear hy;have H':=q_ H;clear H;obtain⟨dx,dz,dA,dB⟩:=nF aa
               go_wp2_with (first | ((with_reducible refine nL (b:= .append) (xs:= #[.tmp 57, .tmp 62]) rfl ?_);(try (refine sI (by rfl) ?_;dsimp only));at_builtin;refine Kd.qo (Kd.int .i64) (w0:=w) w.heap.size rfl (.tmp 57) (.tmp 62) 24 2 (.int .i64 0) 8 rfl Tryz.underlying24 q6 rfl (by decide) (by omega) u12 aD (wrap64 (1+(Int.tmod aT a1))) [.int .i64 (wrap64 (1+(Int.tmod aT a1)))] (fun _=>True) (fun _=>False) rfl rfl ?aP (fun _ hk=>hk.elim) ?aF ?aO ?aB ?aS ?aL ?_;(case aP=>exact rfl);(case aB=>exact hb_);(case aF=>exact(fun _ _=>trivial));(case aO=>exact(m5 ah.out));(case aS=>exact oI);(case aL=>have:=cI.out;omega);intro eZ w26 ho hb hg hat;rw [← cJ.out] at ho;replace aa:=q_ (tU aa.out hg (Kd.pJ ah.out aa.out (by decide)));replace HB:=q_ (hb);have cK:=q_ (ho);clear ah ho hb hg hat))
               go_roundg k3
               case measure=>have:=nA.out;have:=rA.out;have:=yE.out;omega
               case rel=>exact⟨(cD),(wrap64 (Int.tdiv aT a1)),(wrap64 (aU+1)),nM,nM,H',⟨by have:=nA.out;have:=rA.out;have:=yE.out;omega⟩,⟨m5 cK.out⟩,⟨nj⟩,⟨hb_⟩⟩
              ·rw [if_neg A8] at H;exact absurd H (by simp)
            ·rw [if_neg uz] at H;have GW:=decide_eq_false uz;clear uz;replace H:=Option.bind_eq_some_iff.mp H;obtain⟨⟨bT,bU,bV,aW,bW,bX⟩,akD,H⟩:=H;replace H:(if(aW.length:Int) > 200 then(some (0,0,3)) else(if bX=true then(lR.l1 k3 a1 aG (wrap64 (aM+1)) aN (wrap64 (ax+1)) ag ae) else(lR.l1 k3 a1 aG aM (wrap64 (aN+1)) (wrap64 (ax+1)) ag ae)))=some (r1,r2,r3):=H;have A27:=q_ akD;clear akD
             by_cases Y6:(aW.length:Int) > 200
             ·rw [if_pos Y6] at H;have alp:=decide_eq_true Y6;have alo:decide (200 < aW.length)=true:=decide_eq_true (by omega);clear Y6;simp only [Option.some.injEq,Prod.mk.injEq] at H;obtain⟨rfl,rfl,rfl⟩:=H;obtain⟨dC,dD,dE,dF⟩:=nF aa;obtain⟨cL,cN,cO⟩:=Kd.mE ah.out;subst cO
              go_wp2_with (first | ((with_reducible refine d8 (f:=65) rfl ?_);refine oJ 70 Tryz.func65 #[.agg #[.slice aj ag.length ak, .slice aq ae.length au], .slice cL aD.length cN, .int .i64 201] ?_;(with_reducible refine(d7.calls k3 _ _ ag _ _ ae _ _ aD 201 bT bU bV aW bW bX _ ?ay ?az ?aA ?aC ?aY ?aZ A27.out).mono ?_);(case ay=>exact ni mR.out HB.out);(case az=>exact oh.out);(case aA=>exact ni ox.out HB.out);(case aC=>exact oR.out);(case aY=>exact F9);(case aZ=>exact(Kd.lU ah.out).2.1);rintro e w31 ⟨cE,cF,cG,rfl,ho0,ho1,ho2,hb⟩;refine⟨_,rfl,?_⟩;have aH:=q_ (Kd.oP (Kd.tK ho0 (Kd.qw (m5 ah.out))) oI);have aI:=q_ (Kd.ng (Kd.wo ho1 (Kd.qw (m5 ah.out))) oI);have aJ:=q_ (Kd.oP (Kd.tK ho2 (Kd.qw (m5 ah.out))) oI);replace aa:=lZ aa hb;replace ah:=q_ (Kd.tV (m5 ah.out) (Kd.o8 ho1) hb);replace HB:=lT hb;(try clear hb);(try clear hk);(try clear ho0);(try clear ho1);(try clear ho2)) | ((with_reducible refine dg (N:=15) rfl ?_);(try (refine sI (by rfl) ?_;dsimp only));refine nR 15 #[.slice none 0 0, .int .i64 0, .slice none 0 0] 107 ?_;intro ai hg Rc cM hb;replace ah:=rK ah hb;replace aH:=q_ (Kd.mQ (nw aH.out) hb);replace aI:=rK aI hb;replace aJ:=q_ (Kd.mQ (nw aJ.out) hb);have aw:=q_ (cM);have cA:=mq w hg;have cB:=mq w hg;have av:=r7 hg aa;have aK:=rY hg aa;replace aa:=lZ aa hb;replace HB:=lT hb;clear hb cM hg;obtain⟨fa,fc,cQ⟩:=Kd.nk aH.out;subst cQ;have eS:=aK.out;have eT:=av.out;obtain⟨dG,dH,dJ,dK,dL,dM⟩:=qI aw;obtain⟨fe,fg,cT⟩:=Kd.mE aI.out;subst cT;obtain⟨fj,fk,cU⟩:=Kd.nk aJ.out;subst cU))
              go_ret3
              exact⟨pH,hb_⟩
             ·rw [if_neg Y6] at H;have alp:=decide_eq_false Y6;have alo:decide (200 < aW.length)=false:=decide_eq_false (by omega);clear Y6
              by_cases c38:bX=true
              ·subst c38;have H1:(lR.l1 k3 a1 aG (wrap64 (aM+1)) aN (wrap64 (ax+1)) ag ae)=some (r1,r2,r3):=by rw [if_pos rfl] at H;exact H
               clear H;have H:=H1;clear H1;have H':=q_ H;clear H;obtain⟨dN,dO,dP,dQ⟩:=nF aa;obtain⟨cV,cW,cZ⟩:=Kd.mE ah.out;subst cZ
               go_wp2_with (first | ((with_reducible refine d8 (f:=65) rfl ?_);refine oJ 70 Tryz.func65 #[.agg #[.slice aj ag.length ak, .slice aq ae.length au], .slice cV aD.length cW, .int .i64 201] ?_;(with_reducible refine(d7.calls k3 _ _ ag _ _ ae _ _ aD 201 bT bU bV aW bW true _ ?ay ?az ?aA ?aC ?aY ?aZ A27.out).mono ?_);(case ay=>exact ni mR.out HB.out);(case az=>exact oh.out);(case aA=>exact ni ox.out HB.out);(case aC=>exact oR.out);(case aY=>exact F9);(case aZ=>exact(Kd.lU ah.out).2.1);rintro e w41 ⟨cE,cF,cG,rfl,ho0,ho1,ho2,hb⟩;refine⟨_,rfl,?_⟩;have aH:=q_ (Kd.oP (Kd.tK ho0 (Kd.qw (m5 ah.out))) oI);have aI:=q_ (Kd.ng (Kd.wo ho1 (Kd.qw (m5 ah.out))) oI);have aJ:=q_ (Kd.oP (Kd.tK ho2 (Kd.qw (m5 ah.out))) oI);replace aa:=lZ aa hb;replace ah:=q_ (Kd.tV (m5 ah.out) (Kd.o8 ho1) hb);replace HB:=lT hb;(try clear hb);(try clear hk);(try clear ho0);(try clear ho1);(try clear ho2)) | ((with_reducible refine dg (N:=15) rfl ?_);(try (refine sI (by rfl) ?_;dsimp only));refine nR 15 #[.slice none 0 0, .int .i64 0, .slice none 0 0] 107 ?_;intro ai hg w42 cM hb;replace ah:=rK ah hb;replace aH:=q_ (Kd.mQ (nw aH.out) hb);replace aI:=rK aI hb;replace aJ:=q_ (Kd.mQ (nw aJ.out) hb);have aw:=q_ (cM);have cA:=mq w hg;have cB:=mq w hg;have av:=r7 hg aa;have aK:=rY hg aa;replace aa:=lZ aa hb;replace HB:=lT hb;clear hb cM hg;obtain⟨fo,fp,da⟩:=Kd.nk aH.out;subst da;have eU:=aK.out;have eV:=av.out;obtain⟨dR,dU,dV,dW,dX,dY⟩:=qI aw;obtain⟨fq,fu,db⟩:=Kd.mE aI.out;subst db;obtain⟨fw,fA,df⟩:=Kd.nk aJ.out;subst df))
               go_roundg k3
               case measure=>have:=nA.out;have:=rA.out;have:=yE.out;omega
               case rel=>exact⟨(wrap64 (aM+1)),(aN),(wrap64 (ax+1)),nM,nM,nM,H',⟨by have:=nA.out;have:=rA.out;have:=yE.out;omega⟩,⟨oX⟩,⟨hb_⟩⟩
              ·replace c38:=Bool.eq_false_iff.mpr c38;subst c38;have H1:(lR.l1 k3 a1 aG aM (wrap64 (aN+1)) (wrap64 (ax+1)) ag ae)=some (r1,r2,r3):=by rw [if_neg (show ¬ (false=true) by decide)] at H;exact H
               clear H;have H:=H1;clear H1;have H':=q_ H;clear H;obtain⟨dZ,d9,ep,eu⟩:=nF aa;obtain⟨dh,di,dl⟩:=Kd.mE ah.out;subst dl
               go_wp2_with (first | ((with_reducible refine d8 (f:=65) rfl ?_);refine oJ 70 Tryz.func65 #[.agg #[.slice aj ag.length ak, .slice aq ae.length au], .slice dh aD.length di, .int .i64 201] ?_;(with_reducible refine(d7.calls k3 _ _ ag _ _ ae _ _ aD 201 bT bU bV aW bW false _ ?ay ?az ?aA ?aC ?aY ?aZ A27.out).mono ?_);(case ay=>exact ni mR.out HB.out);(case az=>exact oh.out);(case aA=>exact ni ox.out HB.out);(case aC=>exact oR.out);(case aY=>exact F9);(case aZ=>exact(Kd.lU ah.out).2.1);rintro e w50 ⟨cE,cF,cG,rfl,ho0,ho1,ho2,hb⟩;refine⟨_,rfl,?_⟩;have aH:=q_ (Kd.oP (Kd.tK ho0 (Kd.qw (m5 ah.out))) oI);have aI:=q_ (Kd.ng (Kd.wo ho1 (Kd.qw (m5 ah.out))) oI);have aJ:=q_ (Kd.oP (Kd.tK ho2 (Kd.qw (m5 ah.out))) oI);replace aa:=lZ aa hb;replace ah:=q_ (Kd.tV (m5 ah.out) (Kd.o8 ho1) hb);replace HB:=lT hb;(try clear hb);(try clear hk);(try clear ho0);(try clear ho1);(try clear ho2)) | ((with_reducible refine dg (N:=15) rfl ?_);(try (refine sI (by rfl) ?_;dsimp only));refine nR 15 #[.slice none 0 0, .int .i64 0, .slice none 0 0] 107 ?_;intro ai hg w51 cM hb;replace ah:=rK ah hb;replace aH:=q_ (Kd.mQ (nw aH.out) hb);replace aI:=rK aI hb;replace aJ:=q_ (Kd.mQ (nw aJ.out) hb);have aw:=q_ (cM);have cA:=mq w hg;have cB:=mq w hg;have av:=r7 hg aa;have aK:=rY hg aa;replace aa:=lZ aa hb;replace HB:=lT hb;clear hb cM hg;obtain⟨fB,fC,dr⟩:=Kd.nk aH.out;subst dr;have eW:=aK.out;have eX:=av.out;obtain⟨eB,eC,eD,eF,eG,eH⟩:=qI aw;obtain⟨fD,fE,du⟩:=Kd.mE aI.out;subst du;obtain⟨fF,fG,dw⟩:=Kd.nk aJ.out;subst dw))
               go_roundg k3
               case measure=>have:=nA.out;have:=rA.out;have:=yE.out;omega
               case rel=>exact⟨(aM),(wrap64 (aN+1)),(wrap64 (ax+1)),nM,nM,nM,H',⟨by have:=nA.out;have:=rA.out;have:=yE.out;omega⟩,⟨oX⟩,⟨hb_⟩⟩
         ·rw [if_neg ru] at H;have Cd:=decide_eq_false ru;clear ru;simp only [Option.some.injEq,Prod.mk.injEq] at H;obtain⟨rfl,rfl,rfl⟩:=H;go_wp2
          go_ret3
          exact⟨pH,hb_⟩
  ·replace c6:=Bool.eq_false_iff.mpr c6;subst c6;have H1:(some (0,0,2))=some (r1,r2,r3):=by rw [if_neg (show ¬ (false=true) by decide)] at H;exact H
   clear H;have H:=H1;clear H1;simp only [Option.some.injEq,Prod.mk.injEq] at H;obtain⟨rfl,rfl,rfl⟩:=H
   go_enter Tryz.func33,Tryz.ntmps33
   go_wp2_with (first | ((with_reducible refine dg (N:=2) rfl ?_);(try (refine sI (by rfl) ?_;dsimp only));refine nR 2 #[.slice aj ag.length ak, .slice aq ae.length au] 34 ?_;intro af hg w57 cM hb;have aa:=q_ (cM);have bQ:=mq w hg;have bS:=mq w hg;replace HB:=lT hb;clear hb cM hg;obtain⟨eI,eJ,eK,eL⟩:=nF aa) | ((with_reducible refine d8 (f:=46) rfl ?_);refine oJ 21 Tryz.func46 #[.agg #[.slice aj ag.length ak, .slice aq ae.length au]] ?_;(with_reducible refine(m6.calls k _ _ ag _ _ ae true _ ?ay ?az ?aA ?aC A3.out).mono ?_);(case ay=>exact ni mR.out HB.out);(case az=>exact oh.out);(case aA=>exact ni ox.out HB.out);(case aC=>exact oR.out);rintro e w59 ⟨rfl,hb⟩;refine⟨_,rfl,?_⟩;replace aa:=lZ aa hb;replace HB:=lT hb;(try clear hb);(try clear hk)) | ((with_reducible refine d8 (f:=43) rfl ?_);refine oJ 25 Tryz.func43 #[.int .i64 a1, .int .i64 1, .int .i64 3] ?_;(with_reducible refine(nX.calls a1 1 3 false _ A5.out).mono ?_);rintro e w' ⟨rfl,⟨nd,rfl⟩⟩;refine⟨_,rfl,?_⟩))
   go_ret3
   exact⟨pH,hb_⟩
 ·replace c4:=Bool.eq_false_iff.mpr c4;subst c4;have H1:(some (0,0,1))=some (r1,r2,r3):=by rw [if_neg (show ¬ (false=true) by decide)] at H;exact H
  clear H;have H:=H1;clear H1;simp only [Option.some.injEq,Prod.mk.injEq] at H;obtain⟨rfl,rfl,rfl⟩:=H
  go_enter Tryz.func33,Tryz.ntmps33
  go_wp2_with (first | ((with_reducible refine dg (N:=2) rfl ?_);(try (refine sI (by rfl) ?_;dsimp only));refine nR 2 #[.slice aj ag.length ak, .slice aq ae.length au] 34 ?_;intro af hg w60 cM hb;have aa:=q_ (cM);have bQ:=mq w hg;have bS:=mq w hg;replace HB:=lT hb;clear hb cM hg;obtain⟨eM,eO,eP,eQ⟩:=nF aa) | ((with_reducible refine d8 (f:=46) rfl ?_);refine oJ 21 Tryz.func46 #[.agg #[.slice aj ag.length ak, .slice aq ae.length au]] ?_;(with_reducible refine(m6.calls k _ _ ag _ _ ae false _ ?ay ?az ?aA ?aC A3.out).mono ?_);(case ay=>exact ni mR.out HB.out);(case az=>exact oh.out);(case aA=>exact ni ox.out HB.out);(case aC=>exact oR.out);rintro e w62 ⟨rfl,hb⟩;refine⟨_,rfl,?_⟩;replace aa:=lZ aa hb;replace HB:=lT hb;(try clear hb);(try clear hk)))
  go_ret3
  exact⟨pH,hb_⟩
end Go.Proofs.YthmfdplckdijdaaGreat.Pr
end
section
namespace Go.Proofs.YthmfdplckdijdaaGreat.uF
open Go.RowKit Wz.cw Wz.cX Ma Pr Dt Lk Lt Lq Lp
theorem Ye (b:Nat) (f:Nat→Int): ∀a,sm (b+a) f=sm b f+sm a (fun r=>f (b+r))
 | 0=>by simp [sm]
 | a+1=>by
  rw [← Nat.add_assoc]
  simp only [sm]
  rw [Ye b f a];omega
theorem JR (b:Nat) (f:Nat→Int): ∀a,sm (a*b) f=sm a (fun i=>sm b (fun r=>f (i*b+r)))
 | 0=>by simp [sm]
 | a+1=>by
  rw [Nat.succ_mul,Ye,JR b f a];rfl
def dI (m:Nat):Nat→Nat→List Int
 | 0,_=> []
 | n+1,k=>(1+((k / m ^ n:Nat):Int))::dI m n (k % m ^ n)
def dS (m:Nat):Nat→Nat→List Int
 | 0,_=> []
 | n+1,k=>(1+((k % m:Nat):Int))::dS m n (k / m)
theorem F7 (m n k:Nat):dI m (n+1) k=(1+((k / m ^ n:Nat):Int))::dI m n (k % m ^ n):=rfl
theorem QK (m n k:Nat):dS m (n+1) k=(1+((k % m:Nat):Int))::dS m n (k / m):=rfl
def tot (m:Nat):Nat→(List Int→Int)→Int
 | 0,h=>h []
 | n+1,h=>sm m (fun a=>tot m n (fun c=>h ((1+(a:Int))::c)))
theorem aaS {m:Nat} (hm:0 < m): ∀n h,sm (m ^ n) (fun k=>h (dI m n k))=tot m n h
 | 0,h=>by simp [sm,dI,tot]
 | n+1,h=>by
  have hp:0 < m ^ n:=Nat.pow_pos hm
  rw [Nat.pow_succ,Nat.mul_comm,JR]
  refine nE (fun a ha=>?_)
  rw [← aaS hm n]
  refine nE (fun r hr=>?_)
  show h (dI m (n+1) (a*m ^ n+r))=h ((1+(a:Int))::dI m n r)
  rw [F7,show (a*m ^ n+r) / m ^ n=a from by rw [Nat.mul_comm,Nat.mul_add_div hp,Nat.div_eq_of_lt hr];omega,show (a*m ^ n+r) % m ^ n=r from by rw [Nat.mul_comm,Nat.mul_add_mod,Nat.mod_eq_of_lt hr]]
theorem aaR {m:Nat} (hm:0 < m): ∀n h,sm (m ^ n) (fun k=>h (dS m n k))=tot m n h
 | 0,h=>by simp [sm,dS,tot]
 | n+1,h=>by
  rw [Nat.pow_succ,JR,Dt.Jb]
  refine nE (fun a ha=>?_)
  rw [← aaR hm n]
  refine nE (fun q hq=>?_)
  show h (dS m (n+1) (q*m+a))=h ((1+(a:Int))::dS m n q)
  rw [QK,show (q*m+a) / m=q from by rw [Nat.mul_comm,Nat.mul_add_div hm,Nat.div_eq_of_lt ha];omega,show (q*m+a) % m=a from by rw [Nat.mul_comm,Nat.mul_add_mod,Nat.mod_eq_of_lt ha]]
theorem Pw {m:Nat} (hm:0 < m): ∀n k,k < m ^ n→Br n (m:Int) (dI m n k)
 | 0,k,_=>⟨rfl,fun x hx=>by cases hx⟩
 | n+1,k,hk=>by
  have hp:0 < m ^ n:=Nat.pow_pos hm
  have ih:=Pw hm n (k % m ^ n) (Nat.mod_lt _ hp)
  have hq:k / m ^ n < m:=by rw [Nat.div_lt_iff_lt_mul hp,Nat.mul_comm, ← Nat.pow_succ];exact hk
  refine⟨by simp [dI,ih.len],fun x hx=>?_⟩
  rw [F7] at hx
  generalize k / m ^ n=q at hq hx
  rcases List.mem_cons.1 hx with rfl | hx
  ·omega
  ·exact ih.num x hx
theorem V2 {m:Nat} (hm:0 < m): ∀n k,Br n (m:Int) (dS m n k)
 | 0,k=>⟨rfl,fun x hx=>by cases hx⟩
 | n+1,k=>by
  have ih:=V2 hm n (k / m)
  have hq:k % m < m:=Nat.mod_lt _ hm
  refine⟨by simp [dS,ih.len],fun x hx=>?_⟩
  rw [QK] at hx
  generalize k % m=q at hq hx
  rcases List.mem_cons.1 hx with rfl | hx
  ·omega
  ·exact ih.num x hx
theorem RG (most a:Int): ∀i c,i≤c.length→wH most (i+1) (a::c)=if(wH most i c).2=true then(a::(wH most i c).1,true) else(if a=most then(1::(wH most i c).1,false) else((a+1)::(wH most i c).1,true))
 | 0,c,_=>by
  rw [E1]
  simp only [wH,List.getD_cons_zero,List.set_cons_zero,Bool.false_eq_true,if_false]
 | i+1,c,h=>by
  rw [E1 most i c]
  show (if c.getD i 0=most then wH most (i+1) (a::c.set i 1) else(a::c.set i (c.getD i 0+1),true))=_
  by_cases e:c.getD i 0=most
  ·rw [if_pos e,if_pos e]
   exact RG most a i (c.set i 1) (by rw [List.length_set];omega)
  ·rw [if_neg e,if_neg e];rfl
theorem YW (m n:Nat) (hm:0 < m):dI m n 0=List.replicate n 1:=by
 induction n with
 | zero=>rfl
 | succ n ih=>unfold dI;rw [Nat.zero_div,Nat.zero_mod,ih];rfl
theorem QN {m:Nat} (hm:0 < m): ∀n k,k < m ^ n→wH (m:Int) n (dI m n k)=if k+1 < m ^ n then(dI m n (k+1),true) else(dI m n 0,false)
 | 0,k,hk=>by
  rw [if_neg (by rw [Nat.pow_zero];omega)];rfl
 | n+1,k,hk=>by
  have hp:0 < m ^ n:=Nat.pow_pos hm
  have hq:k / m ^ n < m:=by rw [Nat.div_lt_iff_lt_mul hp,Nat.mul_comm, ← Nat.pow_succ];exact hk
  have hr:k % m ^ n < m ^ n:=Nat.mod_lt _ hp
  have hk2:=Nat.div_add_mod k (m ^ n)
  have ih:=QN hm n (k % m ^ n) hr
  have hlen:=(Pw hm n _ hr).len
  have Vv:m ^ (n+1)=m ^ n*m:=Nat.pow_succ ..
  show wH (m:Int) (n+1) ((1+((k / m ^ n:Nat):Int))::dI m n (k % m ^ n))=_
  rw [RG _ _ n _ (by omega),ih]
  obtain⟨q,hqq⟩: ∃q,k / m ^ n=q:=⟨_,rfl⟩
  obtain⟨r,hrr⟩: ∃r,k % m ^ n=r:=⟨_,rfl⟩
  obtain⟨P,hP⟩: ∃P,m ^ n=P:=⟨_,rfl⟩
  rw [hqq,hrr] at hk2
  rw [hqq] at hq ⊢
  rw [hrr] at hr ⊢
  rw [Vv]
  rw [hP] at hk2 hr hp ⊢
  have hPq:P*q+P≤P*m:=by rw [← Nat.mul_succ];exact Nat.mul_le_mul_left _ hq
  by_cases c:r+1 < P
  ·rw [if_pos c]
   rw [if_pos rfl,if_pos (show k+1 < P*m by omega)]
   show ((1+(q:Int))::dI m n (r+1),true)=(dI m (n+1) (k+1),true)
   rw [F7,hP, ← hk2,Nat.add_assoc,Nat.mul_add_div hp,Nat.div_eq_of_lt c,Nat.mul_add_mod,Nat.mod_eq_of_lt c]
   rfl
  ·rw [if_neg c]
   simp only [Bool.false_eq_true,if_false]
   have e1:k+1=P*(q+1):=by rw [Nat.mul_succ];omega
   by_cases d:q+1=m
   ·rw [if_pos (by omega),if_neg (show ¬ k+1 < P*m by rw [e1,d];omega)]
    show (1::dI m n 0,false)=(dI m (n+1) 0,false)
    rw [F7,Nat.zero_div,Nat.zero_mod];rfl
   ·rw [if_neg (by omega),if_pos (show k+1 < P*m by rw [e1];exact Nat.mul_lt_mul_of_pos_left (by omega) hp)]
    show ((1+(q:Int)+1)::dI m n 0,true)=(dI m (n+1) (k+1),true)
    rw [F7,hP,e1,Nat.mul_div_cancel_left _ hp,Nat.mul_mod_right,show (1+(q:Int)+1)=1+((q+1:Nat):Int) from by omega]
def proc (g:Nat→Bool × Int):Nat→Nat→Int→Int→Int × Int × Int
 | 0,_,so,ra=>(so,ra,0)
 | q+1,k,so,ra=>if(g k).2=0 then proc g q (k+1) (if(g k).1=true then so+1 else so) (if(g k).1=true then ra else ra+1) else(0,0,(g k).2)
def eN (x:Bool × Int):Int:=if x.2=0 then 0 else 1
def sN (x:Bool × Int):Int:=if x.1=true then 1 else 0
theorem Ri (f:Nat→Int) (h: ∀i,0≤f i): ∀n,0≤sm n f
 | 0=>by simp [sm]
 | n+1=>by have:=Ri f h n;have:=h n;simp only [sm];omega
theorem Qm (g:Nat→Bool × Int) (hg: ∀k,(g k).2=0∨(g k).2=3): ∀q k so ra,proc g q k so ra=if sm q (fun i=>eN (g (k+i)))=0 then(so+sm q (fun i=>sN (g (k+i))),ra+sm q (fun i=>1 - sN (g (k+i))),0) else(0,0,3)
 | 0,k,so,ra=>by simp [proc,sm]
 | q+1,k,so,ra=>by
  have ih:=Qm g hg q (k+1)
  have e1:sm (q+1) (fun i=>eN (g (k+i)))=eN (g k)+sm q (fun i=>eN (g (k+1+i))):=by rw [Dt.Bu];simp only [Nat.add_zero];congr 1;exact nE (fun i _=>by rw [show k+(i+1)=k+1+i from by omega])
  have e2:sm (q+1) (fun i=>sN (g (k+i)))=sN (g k)+sm q (fun i=>sN (g (k+1+i))):=by rw [Dt.Bu];simp only [Nat.add_zero];congr 1;exact nE (fun i _=>by rw [show k+(i+1)=k+1+i from by omega])
  have e3:sm (q+1) (fun i=>1 - sN (g (k+i)))=(1 - sN (g k))+sm q (fun i=>1 - sN (g (k+1+i))):=by rw [Dt.Bu];simp only [Nat.add_zero];congr 1;exact nE (fun i _=>by rw [show k+(i+1)=k+1+i from by omega])
  have hnn:=Ri (fun i=>eN (g (k+1+i))) (fun i=>by show 0≤eN (g (k+1+i));unfold eN;split <;> omega) q
  unfold proc
  rw [e1,e2,e3]
  by_cases c:(g k).2=0
  ·rw [if_pos c,ih]
   have e4:eN (g k)=0:=if_pos c
   rw [e4,Int.zero_add]
   by_cases d:(g k).1=true
   ·have e5:sN (g k)=1:=if_pos d
    rw [if_pos d,if_pos d,e5]
    split
    ·congr 1
     ·omega
     ·congr 1;omega
    ·rfl
   ·have e5:sN (g k)=0:=if_neg d
    rw [if_neg d,if_neg d,e5]
    split
    ·congr 1
     ·omega
     ·congr 1;omega
    ·rfl
  ·rw [if_neg c]
   have e4:eN (g k)=1:=if_neg c
   rw [e4,if_neg (by omega)]
   rcases hg k with h | h
   ·exact absurd h c
   ·rw [h]
section
variable {M:List (List Int)} {Q:List Int} (hP:nZ.f M Q=some true) {m n:Nat} (hn:Q.length=n) (hm:0 < m) (hm3:m≤3) (hn4:n≤4)
def uH (M:List (List Int)) (Q c:List Int):Bool × Int:=((nI M Q c 201).2.2.1,(nI M Q c 201).2.2.2.2)
include hn hm hm3 hn4 in
theorem Vs: ∀q k,k+(q+1)=m ^ n→ ∀so ra:Int,0≤so→0≤ra→so+ra≤(k:Int)→Ev (fun f=>QL M Q (m:Int) f (dI m n k) so ra) (proc (fun k=>uH M Q (dI m n k)) (q+1) k so ra):=by
 have Vv:m ^ n≤81:=Nat.le_trans (Nat.pow_le_pow_left hm3 n) (Nat.le_trans (Nat.pow_le_pow_right (by decide) hn4) (by decide))
 intro q
 induction q with
 | zero=>
  intro k hk so ra h1 h2 h3
  refine mC (fun f=>by rw [QL]) ?_
  rw [hn,QN hm n k (by omega),if_neg (by omega),nH (x:=so+1) (by omega) (by omega),nH (x:=ra+1) (by omega) (by omega)]
  unfold proc
  show Ev _ (if(uH M Q (dI m n k)).2=0 then _ else(0,0,(uH M Q (dI m n k)).2))
  by_cases c:(uH M Q (dI m n k)).2=0
  ·rw [if_pos c]
   exact cY c (lV (by simp) (oK rfl))
  ·rw [if_neg c]
   exact lV c (oK rfl)
 | succ q ih=>
  intro k hk so ra h1 h2 h3
  refine mC (fun f=>by rw [QL]) ?_
  rw [hn,QN hm n k (by omega),if_pos (by omega),nH (x:=so+1) (by omega) (by omega),nH (x:=ra+1) (by omega) (by omega)]
  unfold proc
  show Ev _ (if(uH M Q (dI m n k)).2=0 then _ else(0,0,(uH M Q (dI m n k)).2))
  by_cases c:(uH M Q (dI m n k)).2=0
  ·rw [if_pos c]
   refine cY c (cY rfl (ih (k+1) (by omega) _ _ ?_ ?_ ?_))
   ·split <;> omega
   ·split <;> omega
   ·split <;> omega
  ·rw [if_neg c]
   exact lV c (oK rfl)
include hP hn hm hm3
theorem lk0 {c:List Int} (hc:Br n (m:Int) c):pV M Q c=0:=by
 unfold pV
 rw [if_pos hP,if_pos (by rw [hn];exact hc.zN (by omega))]
theorem VG {c:List Int} (hc:Br n (m:Int) c):(uH M Q c).2=0∨(uH M Q c).2=3:=by
 obtain⟨S,_,h⟩:=Bs (lk0 hP hn hm hm3 hc) 201 (by omega)
 rcases h with h | h
 ·exact .inr h.1
 ·exact .inl h.1
theorem ZI:proc (fun k=>uH M Q (dI m n k)) (m ^ n) 0 0 0=proc (fun k=>uH M Q (dS m n k)) (m ^ n) 0 0 0:=by
 have key: ∀(d:Nat→List Int),(∀k,k < m ^ n→Br n (m:Int) (d k))→(∀h,sm (m ^ n) (fun k=>h (d k))=tot m n h)→proc (fun k=>uH M Q (d k)) (m ^ n) 0 0 0=if tot m n (fun c=>eN (uH M Q c))=0 then(0+tot m n (fun c=>sN (uH M Q c)),0+tot m n (fun c=>1 - sN (uH M Q c)),0) else(0,0,3):=by
  intro d hd ht
  obtain⟨g,hg⟩: ∃g:Nat→Bool × Int,g=fun k=>if k < m ^ n then uH M Q (d k) else(false,0):=⟨_,rfl⟩
  have hgc: ∀k,(g k).2=0∨(g k).2=3:=fun k=>by
   rw [hg]
   show (if k < m ^ n then uH M Q (d k) else(false,0)).2=0∨_
   by_cases c:k < m ^ n
   ·simp only [if_pos c];exact VG hP hn hm hm3 (hd k c)
   ·simp only [if_neg c];exact .inl trivial
  have hpc: ∀q k so ra,k+q≤m ^ n→proc (fun k=>uH M Q (d k)) q k so ra=proc g q k so ra:=by
   intro q
   induction q with
   | zero=>intro k so ra _;rfl
   | succ q ih=>
    intro k so ra hk
    have e:g k=uH M Q (d k):=by rw [hg];exact if_pos (by omega)
    unfold proc
    rw [e]
    show (if(uH M Q (d k)).2=0 then _ else _)=_
    rw [ih (k+1) _ _ (by omega)]
  have hs: ∀h:Bool × Int→Int,sm (m ^ n) (fun i=>h (g (0+i)))=tot m n (fun c=>h (uH M Q c)):=fun h=>by
   rw [← ht]
   refine nE (fun i hi=>?_)
   show h (g (0+i))=h (uH M Q (d i))
   rw [Nat.zero_add,hg]
   congr 1
   exact if_pos hi
  rw [hpc _ _ _ _ (by omega),Qm g hgc,hs eN,hs sN,hs (fun x=>1 - sN x)]
 rw [key (dI m n) (fun k hk=>Pw hm n k hk) (aaS hm n),key (dS m n) (fun k _=>V2 hm n k) (aaR hm n)]
include hn4
theorem acU: ∀q k,k+q=m ^ n→ ∀so ra:Int,0≤so→0≤ra→so+ra≤(k:Int)→Ev (fun f=>lR.l1 f (m:Int) ((m ^ n:Nat):Int) so ra (k:Int) M Q) (proc (fun k=>uH M Q (dS m n k)) q k so ra):=by
 have Vv:m ^ n≤81:=Nat.le_trans (Nat.pow_le_pow_left hm3 n) (Nat.le_trans (Nat.pow_le_pow_right (by decide) hn4) (by decide))
 intro q
 induction q with
 | zero=>
  intro k hk so ra h1 h2 h3
  refine mC (fun f=>by rw [lR.l1]) ?_
  exact lV (by omega) (oK rfl)
 | succ q ih=>
  intro k hk so ra h1 h2 h3
  refine mC (fun f=>by rw [lR.l1]) (cY (by omega) ?_)
  have inner: ∀p i,i+p=n→ ∀(acc:List Int) (rest:Nat),acc.length=i→rest≤k→acc++dS m p rest=dS m n k→Ev (fun f=>lR.l2 f (m:Int) ((m ^ n:Nat):Int) so ra (k:Int) acc (rest:Int) (i:Int) M Q) (proc (fun k=>uH M Q (dS m n k)) (q+1) k so ra):=by
   intro p
   induction p with
   | zero=>
    intro i hi acc rest hl hr ha
    have hacc:acc=dS m n k:=by rw [← ha];simp [dS]
    refine mC (fun f=>by rw [lR.l2]) (lV (by omega) ?_)
    obtain⟨S,hS,hrel⟩:=Bs (lk0 hP hn hm hm3 (V2 hm n k)) 201 (by omega)
    rw [hacc]
    refine oH hS ?_
    unfold proc
    show Ev _ (if(uH M Q (dS m n k)).2=0 then _ else(0,0,(uH M Q (dS m n k)).2))
    rw [nH (x:=so+1) (by omega) (by omega),nH (x:=ra+1) (by omega) (by omega),nH (x:=(k:Int)+1) (by omega) (by omega)]
    rcases hrel with ⟨e1,e2⟩ | ⟨e1,e2,e3,e4,e5,_⟩
    ·have e1':(uH M Q (dS m n k)).2=3:=e1
     rw [e1',if_neg (by decide)]
     exact cY (by show (S.2.1.length:Int) > 200;omega) (oK rfl)
    ·have e1':(uH M Q (dS m n k)).2=0:=e1
     have e5':S.2.2.2=(uH M Q (dS m n k)).1:=e5
     rw [if_pos e1']
     refine lV (by show ¬ (S.2.1.length:Int) > 200;omega) ?_
     by_cases d:(uH M Q (dS m n k)).1=true
     ·rw [if_pos d,if_pos d]
      exact cY (by show S.2.2.2=true;rw [e5'];exact d) (ih (k+1) (by omega) _ _ (by omega) (by omega) (by omega))
     ·rw [if_neg d,if_neg d]
      exact lV (by show ¬ S.2.2.2=true;rw [e5'];exact d) (ih (k+1) (by omega) _ _ (by omega) (by omega) (by omega))
   | succ p Bq=>
    intro i hi acc rest hl hr ha
    refine mC (fun f=>by rw [lR.l2]) (cY (by omega) (lV (by omega) (cY (by omega) ?_)))
    have hmm:rest % m < m:=Nat.mod_lt _ hm
    have hdd:rest / m≤rest:=Nat.div_le_self _ _
    rw [QK] at ha
    rw [show Int.tmod (rest:Int) (m:Int)=((rest % m:Nat):Int) from rfl,show Int.tdiv (rest:Int) (m:Int)=((rest / m:Nat):Int) from rfl]
    generalize rest % m=r2 at hmm ha ⊢
    generalize rest / m=q2 at hdd ha ⊢
    rw [nH (x:=1+(r2:Int)) (by omega) (by omega),nH (x:=(q2:Int)) (by omega) (by omega),nH (x:=(i:Int)+1) (by omega) (by omega)]
    refine Bq (i+1) (by omega) _ _ (by simp [hl]) (by omega) ?_
    rw [← ha]
    simp
  exact inner n 0 (by omega) [] k rfl (Nat.le_refl _) rfl
theorem acV: ∀q i,i+q=n→Ev (fun f=>lR.l0 f (m:Int) ((m ^ i:Nat):Int) 0 0 (i:Int) M Q) (proc (fun k=>uH M Q (dS m n k)) (m ^ n) 0 0 0):=by
 have Vv: ∀i,i≤4→m ^ i≤81:=fun i hi=>Nat.le_trans (Nat.pow_le_pow_left hm3 i) (Nat.le_trans (Nat.pow_le_pow_right (by decide) hi) (by decide))
 intro q
 induction q with
 | zero=>
  intro i hi
  obtain rfl:i=n:=by omega
  refine mC (fun f=>by rw [lR.l0]) (lV (by omega) ?_)
  exact acU hP hn hm hm3 hn4 (m ^ i) 0 (by omega) 0 0 (by omega) (by omega) (by omega)
 | succ q ih=>
  intro i hi
  refine mC (fun f=>by rw [lR.l0]) (cY (by omega) ?_)
  have hp:=Vv (i+1) (by omega)
  have e:((m ^ i:Nat):Int)*(m:Int)=((m ^ (i+1):Nat):Int):=by rw [Nat.pow_succ,Int.natCast_mul]
  rw [e,nH (x:=((m ^ (i+1):Nat):Int)) (by omega) (by omega),nH (x:=(i:Int)+1) (by omega) (by omega)]
  exact ih (i+1) (by omega)
end
theorem aai (M:List (List Int)) (Q:List Int) (a1:Int) (hQ:Q.length≤1048576): ∃R:Int × Int × Int,Ev (fun k=>lR.f k M Q a1) R∧Ev (fun k=>qm.f k M Q a1) R:=by
 classical
 unfold lR.f qm.f
 have hsp:=Pb.Yc M Q hQ (decide (Pb.Eu M Q)) (by simp)
 have him:=Pb.DC M Q (decide (Pb.Eu M Q)) (by simp)
 by_cases p:Pb.Eu M Q
 ·rw [decide_eq_true p] at hsp him
  by_cases c:1≤a1∧a1≤3
  ·by_cases d:Q.length≤4
   ·obtain⟨m,rfl⟩:=Int.eq_ofNat_of_zero_le (show 0≤a1 by omega)
    have hm:0 < m:=by omega
    have hm3:m≤3:=by omega
    refine⟨proc (fun k=>uH M Q (dS m Q.length k)) (m ^ Q.length) 0 0 0,?_,?_⟩
    ·refine oH hsp (cY rfl (qW (Pb.Ft _ _ _) (cY (decide_eq_true c) (lV (by omega) ?_))))
     have:=acV him rfl hm hm3 d Q.length 0 (by omega)
     simpa using this
    ·rw [him]
     refine cY rfl (cY ⟨c,d⟩ ?_)
     rw [← ZI him rfl hm hm3, ← YW m _ hm]
     have hp:0 < m ^ Q.length:=Nat.pow_pos hm
     obtain⟨q,hq⟩: ∃q,m ^ Q.length=q+1:=⟨m ^ Q.length - 1,by omega⟩
     have:=Vs (M:=M) rfl hm hm3 d q 0 (by omega) 0 0 (by omega) (by omega) (by omega)
     rw [hq]
     exact this
   ·refine⟨(0,0,2),oH hsp (cY rfl (qW (Pb.Ft _ _ _) (cY (decide_eq_true c) (cY (by omega) (oK rfl))))),?_⟩
    rw [him]
    exact cY rfl (lV (fun q=>d q.2) (oK rfl))
  ·refine⟨(0,0,2),oH hsp (cY rfl (qW (Pb.Ft _ _ _) (lV (by simpa using c) (oK rfl)))),?_⟩
   rw [him]
   exact cY rfl (lV (fun q=>c q.1) (oK rfl))
 ·rw [decide_eq_false p] at hsp him
  refine⟨(0,0,1),oH hsp (lV (by decide) (oK rfl)),?_⟩
  rw [him]
  exact lV (by simp) (oK rfl)
end Go.Proofs.YthmfdplckdijdaaGreat.uF
end
section
namespace Go.Proofs.YthmfdplckdijdaaGreat.zm
open Go.RowKit Wz.cw Wz.cX Ma Dt Bz Lk Lt Pr Lq uF Fr
theorem V7 {n:Nat}: ∀ {l:List (List Int)},Chain n l→ ∀i,i+1 < l.length→(l.getD (i+1) []).getD 0 0=((l.getD i []).getD 1 0+n) % (2*(n:Int))
 | [],_,i,h=>by simp at h
 | [a],_,i,h=>by simp at h
 | a::b::l,hc,0,_=>hc.1
 | a::b::l,hc,i+1,h=>V7 hc.2 i (by simpa using h)
def Rng (n:Nat) (x:List Int):Prop:=x.length=2∧0≤x.getD 1 0∧x.getD 1 0≤2*(n:Int)
section
variable {n m:Nat} {A:lE} (hn:n≤5) (hm:m=2*n+2) (hA:Small n m A)
include hn hm hA
theorem ahx: ∀(q:Nat) (s:TS) (v r:Nat) (st:List (List Int)),Ok n m A s→r < n→v+1 < m→s.T r v≠0→(∀x ∈ st,Rng n x)→ ∀x ∈ (goI n m q s v r st).2.1,Rng n x:=by
 intro q
 induction q with
 | zero=>intro s v r st _ _ _ _ h;exact h
 | succ q ih=>
  intro s v r st hok hr hv hp h
  have Iu:=hok.step hn hA hr hv hp
  have h0:=hok.nn r hr
  have h3:=hok.lt r hr
  have hs: ∀x ∈ st++ [[(v:Int),s.bs.getD r 0]],Rng n x:=fun x hx=>by
   rcases List.mem_append.1 hx with g | g
   ·exact h x g
   ·rw [List.mem_singleton.1 g]
    exact⟨rfl,h0,by show s.bs.getD r 0≤_;omega⟩
  unfold goI
  split
  ·exact h
  ·split
   ·exact hs
   ·rename_i hz
    cases e:qC n m (s.step r v) (fun i=>(s.step r v).T i (partner n (s.bs.getD r 0).toNat)) with
    | none=>exact hs
    | some r'=>
     have h4:=tY e
     have hlt:(s.bs.getD r 0).toNat < 2*n:=by omega
     exact ih _ _ _ _ Iu h4.1 (by have:=DS hlt;omega) (by have:=h4.2;omega) hs
end
theorem Zz {M:List (List Int)} {Q cv:List Int} (h:PC M Q cv Q.length):Chain Q.length (nI M Q cv 201).2.1∧(∀x ∈ (nI M Q cv 201).2.1,Rng Q.length x)∧(0 < (nI M Q cv 201).2.1.length→((nI M Q cv 201).2.1.getD 0 []).getD 0 0=2*(Q.length:Int)):=by
 have hn0:=h.pos
 have hA:=pY (n:=Q.length) (M:=m9 M) (cv:=fun i=>cv.getD i 0) (q:=fun i=>Q.getD i 0) h.Mb (fun i hi=>by have:=h.cb i hi;omega) h.qb
 have hok:=wF (n:=Q.length) (M:=m9 M) (cv:=fun i=>cv.getD i 0) (q:=fun i=>Q.getD i 0)
 unfold nI zU
 by_cases hf:yJ Q.length (fun i=>Q.getD i 0)=true
 ·rw [if_pos hf]
  exact⟨trivial,fun x hx=>(by cases hx),fun q=>absurd q (Nat.lt_irrefl 0)⟩
 ·rw [if_neg hf]
  cases hrow:qC Q.length (2*Q.length+2) (first Q.length (m9 M) (fun i=>cv.getD i 0) (fun i=>Q.getD i 0)) (fun i=>cv.getD i 0) with
  | none=>exact⟨trivial,fun x hx=>(by cases hx),fun q=>absurd q (Nat.lt_irrefl 0)⟩
  | some r=>
   have hr:=(tY hrow).1
   have hp:(first Q.length (m9 M) (fun i=>cv.getD i 0) (fun i=>Q.getD i 0)).T r (2*Q.length)≠0:=by
    show nD Q.length (m9 M) (fun i=>cv.getD i 0) (fun i=>Q.getD i 0) r (2*Q.length)≠0
    rw [Ai]
    have h3:=(h.cb r hr).1
    show - cv.getD r 0≠0
    omega
   refine⟨abE h.le rfl hA 201 _ _ _ _ hok hr (by omega) hp trivial (fun a ha=>by cases ha),ahx h.le rfl hA 201 _ _ _ _ hok hr (by omega) hp (fun x hx=>(by cases hx)),fun _=>?_⟩
   show ((goI Q.length (2*Q.length+2) (200+1) (first Q.length (m9 M) (fun i=>cv.getD i 0) (fun i=>Q.getD i 0)) (2*Q.length) r []).2.1.getD 0 []).getD 0 0=_
   unfold goI
   have hbr:(first Q.length (m9 M) (fun i=>cv.getD i 0) (fun i=>Q.getD i 0)).bs.getD r 0=(r:Int):=by simp [first,pE,hr]
   rw [if_neg (by simp),hbr,if_neg (by omega)]
   split
   ·rw [List.nil_append];show ((2*Q.length:Nat):Int)=_;omega
   ·obtain⟨e,he⟩:=YN (n:=Q.length) (m:=2*Q.length+2) 200 ((first Q.length (m9 M) (fun i=>cv.getD i 0) (fun i=>Q.getD i 0)).step r (2*Q.length)) (partner Q.length ((r:Int)).toNat) ‹_› ([]++ [[((2*Q.length:Nat):Int),(r:Int)]])
    rw [he]
    show ((2*Q.length:Nat):Int)=_;omega
theorem aiG {M:List (List Int)} {Q cv:List Int} (h:PC M Q cv Q.length) (hs:(nI M Q cv 201).2.2.1=false) (x:Nat) (hx:x < 2*Q.length+1):0≤(ud (nI M Q cv 201).1 Q.length (nI M Q cv 201).2.2.2.1.toNat Q.length).getD x 0∧(ud (nI M Q cv 201).1 Q.length (nI M Q cv 201).2.2.2.1.toNat Q.length).getD x 0≤4611686018427387904:=by
 have hn0:=h.pos
 have hA:=pY (n:=Q.length) (M:=m9 M) (cv:=fun i=>cv.getD i 0) (q:=fun i=>Q.getD i 0) h.Mb (fun i hi=>by have:=h.cb i hi;omega) h.qb
 have hfo:=wF (n:=Q.length) (M:=m9 M) (cv:=fun i=>cv.getD i 0) (q:=fun i=>Q.getD i 0)
 obtain⟨hok,hr0,hr1⟩:=xY h 201
 have hl2:=GA h 201
 have hT: ∀i,i < Q.length→(nI M Q cv 201).1.T i (nI M Q cv 201).2.2.2.1.toNat≤0:=by
  revert hs hl2
  unfold nI zU
  by_cases hf:yJ Q.length (fun i=>Q.getD i 0)=true
  ·rw [if_pos hf];intro h2;cases h2
  ·rw [if_neg hf]
   cases hrow:qC Q.length (2*Q.length+2) (first Q.length (m9 M) (fun i=>cv.getD i 0) (fun i=>Q.getD i 0)) (fun i=>cv.getD i 0) with
   | none=>
    intro _ _ i hi
    have:=yX hrow i hi
    have:=(h.cb i hi).1
    omega
   | some r=>
    have hr:=(tY hrow).1
    have hp:(first Q.length (m9 M) (fun i=>cv.getD i 0) (fun i=>Q.getD i 0)).T r (2*Q.length)≠0:=by
     show nD Q.length (m9 M) (fun i=>cv.getD i 0) (fun i=>Q.getD i 0) r (2*Q.length)≠0
     rw [Ai]
     have h3:=(h.cb r hr).1
     show - cv.getD r 0≠0
     omega
    exact ahy h.le hn0 rfl hA 201 _ _ _ _ rfl (Nat.zero_le _) hfo hr (by omega) hp
 rw [Jc _ _ _ x hx hok.nn _ (Nat.le_refl _)]
 have hden:=hok.Cx h.le hA
 have key: ∀i,i≤Q.length→0≤(su (nI M Q cv 201).1 (nI M Q cv 201).2.2.2.1.toNat x i).getD (if x=(nI M Q cv 201).2.2.2.1.toNat then(nI M Q cv 201).1.den else 0)∧(su (nI M Q cv 201).1 (nI M Q cv 201).2.2.2.1.toNat x i).getD (if x=(nI M Q cv 201).2.2.2.1.toNat then(nI M Q cv 201).1.den else 0)≤4611686018427387904:=by
  intro i
  induction i with
  | zero=>
   intro _
   simp only [su,Option.getD_none]
   split <;> omega
  | succ i ih=>
   intro hi
   simp only [su]
   split
   ·have h1:=hT i (by omega)
    have h2:=hok.abs h.le hA (i:=i) (c:=(nI M Q cv 201).2.2.2.1.toNat) (by omega) (by omega)
    rw [Option.getD_some,nH (by omega) (by omega)]
    omega
   ·exact ih (by omega)
 exact key _ (Nat.le_refl _)
theorem ag1 {f:Nat→Int × Int × Int}: ∀(q x:Nat) (acc:List mh),(∀y,x≤y→y < x+q→0≤(f y).1)→(∀z ∈ acc,0≤z.f0)→ ∀z ∈ (uO f q x acc).1,0≤z.f0:=by
 intro q
 induction q with
 | zero=>intro x acc _ h;exact h
 | succ q ih=>
  intro x acc h1 h2
  unfold uO
  split
  ·refine ih (x+1) _ (fun y a b=>h1 y (by omega) (by omega)) (fun z hz=>?_)
   rcases List.mem_append.1 hz with g | g
   ·exact h2 z g
   ·rw [List.mem_singleton.1 g];exact h1 x (Nat.le_refl _) (by omega)
  ·intro z hz;cases hz
theorem ac0 {a d:Int} (ha: -4000000000≤a∧a≤4000000000) (hd:0 < d∧d≤4000000000) (h:(pP a d).2.2=0):(pP a d).1*d=a*(pP a d).2.1∧1≤(pP a d).2.1∧AW 1000000000 (pP a d).1 (pP a d).2.1=true:=by
  have hg:=Cu (a:=a) hd.1
  have e1:gc a d ∣ a:=by unfold gc;exact Int.gcd_dvd_left ..
  have e2:gc a d ∣ d:=by unfold gc;exact Int.gcd_dvd_right ..
  obtain⟨x,hx⟩:=e1
  obtain⟨y,hy⟩:=e2
  have big: ∀g z:Int,0 < g→(z≤g*z∧0≤z)∨(g*z≤z∧z < 0):=fun g z h=>by
    rcases Int.lt_or_le z 0 with c | c
    · have:=Int.mul_le_mul_of_nonpos_right (show 1≤g by omega) (show z≤0 by omega)
      rw [Int.one_mul] at this
      exact .inr ⟨this,c⟩
    · have:=Int.mul_le_mul_of_nonneg_right (show 1≤g by omega) c
      rw [Int.one_mul] at this
      exact .inl ⟨this,c⟩
  have bx:=big _ x hg
  have by_:=big _ y hg
  rw [← hx] at bx
  rw [← hy] at by_
  have t1:Int.tdiv a (gc a d)=x:=by
    have h9:Int.tdiv (gc a d*x) (gc a d)=x:=Int.mul_tdiv_cancel_left x (by omega)
    rwa [← hx] at h9
  have t2:Int.tdiv d (gc a d)=y:=by
    have h9:Int.tdiv (gc a d*y) (gc a d)=y:=Int.mul_tdiv_cancel_left y (by omega)
    rwa [← hy] at h9
  have e:pP a d=xM (x,y):=by unfold pP fV;rw [t1,t2,nH (by omega) (by omega),nH (by omega) (by omega)]
  have hxy:x*d=a*y:=by
    have a1:x*d=x*(gc a d*y):=congrArg (x* ·) hy
    have a2:a*y=gc a d*x*y:=congrArg (· *y) hx
    rw [a1,a2, ← Int.mul_assoc,Int.mul_comm x]
  rw [e] at h ⊢
  revert h
  unfold xM
  split
  · rename_i c
    intro _
    refine⟨hxy,?_,c⟩
    have c2:AW 1000000000 x y=true:=c
    unfold AW at c2
    simp only [Bool.and_eq_true,decide_eq_true_eq] at c2
    exact c2.1.1
  · intro h;cases h
theorem acW {n:Nat} {M:lE} {q val nm:Nat→Int} {den D:Int} (hd:0 < den) (hD:0 < D) (hv: ∀x,0≤val x) (he: ∀k,k < n→val k=sm n (fun j=>M k j*val (n+j))+den*q k) (hc: ∀k,k < n→val k=0∨val (n+k)=0) (hn: ∀j,j < n→nm j*den=val (n+j)*D) {k:Nat} (hk:k < n):
  0≤q k*D+sm n (fun j=>M k j*nm j)∧0≤nm k∧ ¬ (0 < q k*D+sm n (fun j=>M k j*nm j)∧0 < nm k):=by
 have e1:(q k*D+sm n (fun j=>M k j*nm j))*den=val k*D:=by
  rw [Int.add_mul, ← Bt,nE (g:=fun j=>M k j*val (n+j)*D) (fun j hj=>by rw [Int.mul_assoc,hn j hj,Int.mul_assoc]),Bt,he k hk,Int.add_mul,Int.add_comm]
  congr 1
  rw [Int.mul_assoc,Int.mul_comm D den, ← Int.mul_assoc,Int.mul_comm (q k) den]
 have nn: ∀x v:Int,x*den=v*D→0≤v→0≤x:=fun x v h h2=>by
  rcases Int.lt_or_le x 0 with c | c
  ·have a1:=Int.mul_neg_of_neg_of_pos c hd
   have a2:=Int.mul_nonneg h2 (Int.le_of_lt hD)
   omega
  ·exact c
 have zz: ∀x v:Int,x*den=v*D→v=0→x=0:=fun x v h h2=>by
  rw [h2,Int.zero_mul] at h
  rcases Int.mul_eq_zero.1 h with c | c
  ·exact c
  ·omega
 refine⟨nn _ _ e1 (hv k),nn _ _ (hn k hk) (hv _),fun⟨p1,p2⟩=>?_⟩
 rcases hc k hk with c | c
 ·have:=zz _ _ e1 c;omega
 ·have:=zz _ _ (hn k hk) c;omega
end Go.Proofs.YthmfdplckdijdaaGreat.zm
end
section
namespace Go.Proofs.YthmfdplckdijdaaGreat.zm
open Go.RowKit Wz.cw Wz.cX Ma Dt Bz Lk Lt
structure Seq (n m:Nat) (A:lE) (D:Nat) (s:Nat→TS) (v r:Nat→Nat):Prop where
 ok: ∀t,t≤D→Ok n m A (s t)
 lex: ∀t,t≤D→uM n m (s t)
 comp: ∀t,t≤D→Bn n (s t).bs (v t)
 least: ∀t,t < D→wN (s t).T n (qL n m) (fun i=>(s t).T i (v t)) (r t)
 bk: ∀t,t < D→Bk n m (s t) (v t) (r t) (s (t+1)) (v (t+1))
 bs: ∀t,t < D→(s (t+1)).bs=(s t).bs.set (r t) (v t:Int)
 leave: ∀t,t < D→v (t+1)=partner n ((s t).bs.getD (r t) 0).toNat∧((s t).bs.getD (r t) 0).toNat < 2*n
section
variable {n m:Nat} {A:lE} (hn0:0 < n) (hm:m=2*n+2) (hI: ∀i j,i < n→j < n→A i j=if i=j then 1 else 0)
theorem abR {n:Nat} {bs bs':List Int} {v v':Nat} (h:Bn n bs v) (h':Bn n bs' v') (e: ∀x,rV n bs x↔rV n bs' x):v'=v∨v'=partner n v:=by
 apply Classical.byContradiction
 intro c
 have h1:=h.one v' h'.lt (fun q=>c (.inl q)) (fun q=>c (.inr q))
 exact h'.out ((e v').1 (h1.2 (fun q=>h'.CX ((e _).1 q))))
include hn0 hm hI
theorem ad0 {D:Nat} {s:Nat→TS} {v r:Nat→Nat} (h:Seq n m A D s v r) (h0: ∀i,i < n→(s 0).T i (partner n (v 0))≤0): ∀j,j≤D→ ∀i,i < j→ ¬ SE n (s i) (s j):=by
 intro j
 induction j using Nat.strongRecOn with
 | _ j ih=>
 intro hj i hij e
 obtain⟨j,rfl⟩: ∃p,j=p+1:=⟨j - 1,by omega⟩
 have hoi:=h.ok i (by omega)
 have hoj:=h.ok (j+1) hj
 have hbj:=h.bk j (by omega)
 have hci:=h.comp i (by omega)
 have hcj:=h.comp (j+1) hj
 rcases abR hci hcj e with c | c
 ·by_cases c0:i=0
  ·subst c0
   have hr2:=hbj.least.1
   have hp:0 < (s (j+1)).T (r j) (partner n (v (j+1))):=hbj.least.2.1
   have hnn:=hoj.nn _ hr2
   obtain⟨k,hk,ek⟩:=(e ((s (j+1)).bs.getD (r j) 0).toNat).2 ⟨_,hr2,by omega⟩
   have hrow:=Bv hm hI hoi hoj e hk hr2 (show partner n (v 0) < m by have:=DS hci.lt;omega) (by rw [ek];omega)
   rw [c] at hp
   have h1:=Int.mul_pos hp hoi.tab.pos
   have h2:=h0 k hk
   rw [← hrow] at h1
   have h4:(s 0).T k (partner n (v 0))*(s (j+1)).den≤0:=Int.mul_nonpos_of_nonpos_of_nonneg h2 (Int.le_of_lt hoj.tab.pos)
   omega
  ·obtain⟨i,rfl⟩: ∃p,i=p+1:=⟨i - 1,by omega⟩
   have hbi:=h.bk i (by omega)
   rw [c] at hbj
   have ji:J n m A (s i) (v i) (r i):=⟨h.ok i (by omega),h.lex i (by omega),h.comp i (by omega),h.least i (by omega)⟩
   have jj:J n m A (s j) (v j) (r j):=⟨h.ok j (by omega),h.lex j (by omega),h.comp j (by omega),h.least j (by omega)⟩
   have g:=Wf hm hI ji jj hoi hoj hci.lt hbi hbj e
   exact ih j (by omega) (by omega) i (by omega) g.1
 ·have hli:=h.least i (by omega)
  have hbs:=h.bs i (by omega)
  have hlv:=h.leave i (by omega)
  have hri:=hli.1
  have hnn:=hoi.nn _ hri
  have hb0:(s i).bs.getD (r i) 0=(((s i).bs.getD (r i) 0).toNat:Int):=(Int.toNat_of_nonneg hnn).symm
  have hpv:partner n (v (j+1))=v i:=by rw [c];exact sF hci.lt
  have hLj:=hbj.least
  rw [hpv] at hLj
  obtain⟨k,hk,ek⟩:=(e ((s i).bs.getD (r i) 0).toNat).1 ⟨_,hri,hb0⟩
  have hL:=UW hm hI hoi hoj e (show v i < m by have:=hci.lt;omega) hli hk (by rw [ek];exact hb0)
  have hkr:=Im hL hLj
  have hlj:((s i).bs.getD (r i) 0).toNat=v j:=by
   have h1:=hbj.ent
   rw [← hkr,ek] at h1
   omega
  have hfw: ∀x,rV n (s (i+1)).bs x↔x=v i∨(rV n (s i).bs x∧x≠v j):=fun x=>by
   rw [hbs,Ao (l:=v j) hoi.len hri (by rw [hb0,hlj]) (fun a b ha hb q=>Fy hoi a b ha hb q)]
  by_cases c1:i=j
  ·subst c1
   exact hci.out ((e _).2 ((hfw _).2 (.inl rfl)))
  ·have hse:SE n (s (i+1)) (s j):=fun x=>by
    rw [hfw,hbj.mem,hpv,e x]
   by_cases c2:i+1=j
   ·have h1:=hlv.1
    rw [c2,hlj] at h1
    exact aa8 hn0 (show v j < 2*n by rw [← hlj];exact hlv.2) h1.symm
   ·exact ih j (by omega) (by omega) (i+1) (by omega) hse
end
section
variable {n m:Nat} {A:lE} (hn:n≤5) (hn0:0 < n) (hm:m=2*n+2) (hA:Small n m A)
include hn hn0 hm hA
theorem aiy {s:TS} {v r:Nat} (h:J n m A s v r) (hz:s.bs.getD r 0≠2*(n:Int)):
  Ok n m A (s.step r v)∧uM n m (s.step r v)∧Bn n (s.step r v).bs (partner n (s.bs.getD r 0).toNat)∧Bk n m s v r (s.step r v) (partner n (s.bs.getD r 0).toNat)∧(s.bs.getD r 0).toNat < 2*n:=by
 have hr:=h.least.1
 have hp:0 < s.T r v:=h.least.2.1
 have hv:v+1 < m:=by have:=h.comp.lt;omega
 have hnn:=h.ok.nn r hr
 have hlt:=h.ok.lt r hr
 have hs2:=h.ok.step hn hA hr hv (show s.T r v≠0 by omega)
 have inj:=Fy h.ok
 obtain⟨l,hl⟩: ∃l:Nat,s.bs.getD r 0=(l:Int):=⟨(s.bs.getD r 0).toNat,by omega⟩
 rw [hl,Int.toNat_natCast]
 rw [hl,Int.toNat_natCast] at hlt
 have hl2:l < 2*n:=by omega
 have hb:s.bs.length=n:=h.ok.len
 refine⟨hs2,JQ hn (by omega) hA h.ok hv h.lex h.least,RE hn0 hb hr hl inj hl2 h.comp,⟨?_,?_,fun x=>?_⟩,hl2⟩
 ·rw [sF hl2]
  have:=Rh hn (by omega) hA h.ok hv h.lex hr hp
  rw [hl,Int.toNat_natCast] at this
  exact this
 ·show (s.bs.set r (v:Int)).getD r 0=v
  rw [z8 (by omega),if_pos rfl]
 ·rw [sF hl2]
  show _↔x=l∨(rV n (s.bs.set r (v:Int)) x∧x≠v)
  rw [Ao hb hr hl inj]
  constructor
  ·intro hx
   by_cases d:x=l
   ·exact .inl d
   ·exact .inr ⟨.inr ⟨hx,d⟩,fun q=>h.comp.out (q ▸ hx)⟩
  ·rintro (d | ⟨d | d,hne⟩)
   ·exact d ▸ ⟨r,hr,hl⟩
   ·exact absurd d hne
   ·exact d.1
theorem ajj (hI: ∀i j,i < n→j < n→A i j=if i=j then 1 else 0): ∀(q:Nat) (s:TS) (v r:Nat) (st:List (List Int)),st.length+q=201→st.length≤200→J n m A s v r→(goI n m q s v r st).2.2.1=false→(goI n m q s v r st).2.2.2.2=0→
  ∃(D:Nat) (s':Nat→TS) (v' r':Nat→Nat),Seq n m A D s' v' r'∧0 < D∧s' 0=s∧v' 0=v∧s' D=(goI n m q s v r st).1∧v' D=(goI n m q s v r st).2.2.2.1.toNat∧ ∀i,i < n→(s' D).T i (v' D)≤0:=by
 intro q
 induction q with
 | zero=>intro s v r st h1 h2;omega
 | succ q ih=>
  intro s v r st h1 h2 h
  unfold goI
  split
  ·intro _ h;cases h
  ·rename_i as2
   split
   ·intro h;cases h
   ·rename_i hz
    obtain⟨k1,k2,k3,k4,k5⟩:=aiy hn hn0 hm hA h hz
    have cons: ∀(D:Nat) (s':Nat→TS) (v' r':Nat→Nat),Seq n m A D s' v' r'→s' 0=s.step r v→v' 0=partner n (s.bs.getD r 0).toNat→Seq n m A (D+1) (fun t=>if t=0 then s else s' (t - 1)) (fun t=>if t=0 then v else v' (t - 1)) (fun t=>if t=0 then r else r' (t - 1)):=fun D s' v' r' hq e1 e2=>by
     refine⟨fun t ht=>?_,fun t ht=>?_,fun t ht=>?_,fun t ht=>?_,fun t ht=>?_,fun t ht=>?_,fun t ht=>?_⟩
     all_goals cases t with
      | zero=>simp only [if_true,Nat.zero_add,Nat.one_ne_zero,if_false,Nat.sub_self];first | exact h.ok | exact h.lex | exact h.comp | exact h.least | (rw [e1,e2];exact k4) | (rw [e1];rfl) | (rw [e2];exact⟨rfl,k5⟩)
      | succ t=>simp only [Nat.add_sub_cancel,Nat.succ_ne_zero,if_false];first | exact hq.ok t (by omega) | exact hq.lex t (by omega) | exact hq.comp t (by omega) | exact hq.least t (by omega) | exact hq.bk t (by omega) | exact hq.bs t (by omega) | exact hq.leave t (by omega)
    cases e:qC n m (s.step r v) (fun i=>(s.step r v).T i (partner n (s.bs.getD r 0).toNat)) with
    | none=>
     intro _ _
     have adZ:Seq n m A 0 (fun _=>s.step r v) (fun _=>partner n (s.bs.getD r 0).toNat) (fun _=>0):=⟨fun _ _=>k1,fun _ _=>k2,fun _ _=>k3,fun t ht=>absurd ht (by omega),fun t ht=>absurd ht (by omega),fun t ht=>absurd ht (by omega),fun t ht=>absurd ht (by omega)⟩
     exact⟨1,_,_,_,cons 0 _ _ _ adZ rfl rfl,by decide,rfl,rfl,rfl,rfl,yX e⟩
    | some r2=>
     intro g1 g2
     have hx:nx n m s v r=some (s.step r v,partner n (s.bs.getD r 0).toNat,r2):=by
      unfold nx;rw [if_neg hz,e]
     obtain⟨D,s',v',r',a1,a2,a3,a4,a5,a6,a7⟩:=ih _ _ _ _ (by simp only [List.length_append,List.length_cons,List.length_nil];omega) (by simp only [List.length_append,List.length_cons,List.length_nil];omega) (ZX hn hn0 hm hA hI h hx).1 g1 g2
     refine⟨D+1,_,_,_,cons D s' v' r' a1 a3 a4,by omega,rfl,rfl,?_,?_,?_⟩
     ·simp only [Nat.add_sub_cancel,Nat.succ_ne_zero,if_false];exact a5
     ·simp only [Nat.add_sub_cancel,Nat.succ_ne_zero,if_false];exact a6
     ·simp only [Nat.add_sub_cancel,Nat.succ_ne_zero,if_false];exact a7
end
end Go.Proofs.YthmfdplckdijdaaGreat.zm
end
section
namespace Go.Proofs.YthmfdplckdijdaaGreat.P9
open Dt Lk
def GF (M:lE) (T:Nat→Bool):lE:=fun i j=>if T j then M i j else if i=j then 1 else 0
def PM (n:Nat) (M:lE):Prop:= ∀T:Nat→Bool,0 < lY n (GF M T)
def mx (M:lE) (S T:Nat→Bool) (x c:Nat→Int) (m:Nat):lE:=fun i j=>if j < m then(if S j then x j*M i j+c j*(if i=j then 1 else 0) else if i=j then 1 else 0) else GF M T i j
def Hx (S:Nat→Bool) (x:Nat→Int):Nat→Int
 | 0=>1
 | m+1=>Hx S x m*(if S m then x m else 1)
def put (T:Nat→Bool) (m:Nat) (b:Bool):Nat→Bool:=fun j=>if j=m then b else T j
theorem mixed {n:Nat} {M:lE} (h:PM n M) (S:Nat→Bool) (x c:Nat→Int) (hx: ∀j,S j=true→x j≠0) (hc: ∀j,S j=true→0≤x j*c j): ∀m,m≤n→ ∀T,0 < Hx S x m*lY n (mx M S T x c m):=by
 intro m
 induction m with
 | zero=>
  intro _ T
  have e:lY n (mx M S T x c 0)=lY n (GF M T):=mX (fun i j _ _=>by unfold mx;rw [if_neg (by omega)])
  rw [e]
  show 0 < 1*_
  rw [Int.one_mul];exact h T
 | succ m ih=>
  intro hm T
  have h1:=ih (by omega) (put T m true)
  have h0:=ih (by omega) (put T m false)
  have B0:lY n (ot m (fun i=>if i=m then 1 else 0) (mx M S T x c m))=lY n (mx M S (put T m false) x c m):=mX (fun i j _ _=>by
   unfold ot mx GF put
   by_cases e:j=m
   ·subst e;simp
   ·simp [e])
  by_cases hS:S m=true
  ·have e:lY n (mx M S T x c (m+1))=x m*lY n (mx M S (put T m true) x c m)+c m*lY n (mx M S (put T m false) x c m):=by
    rw [← B0]
    have e1:lY n (ot m (fun i=>M i m) (mx M S T x c m))=lY n (mx M S (put T m true) x c m):=mX (fun i j _ _=>by
     unfold ot mx GF put
     by_cases e:j=m
     ·subst e;simp
     ·simp [e])
    rw [← e1, ← GU (by omega)]
    refine mX (fun i j _ _=>?_)
    unfold ot mx
    by_cases e:j=m
    ·subst e
     rw [if_pos (by omega),if_pos hS,if_pos rfl]
    ·rw [if_neg e]
     by_cases d:j < m
     ·rw [if_pos (by omega),if_pos d]
     ·rw [if_neg (by omega),if_neg d]
   have e2:Hx S x (m+1)=Hx S x m*x m:=by show Hx S x m*(if S m then x m else 1)=_;rw [if_pos hS]
   have hx2:0 < x m*x m:=by
    have:=hx m hS
    rcases Int.lt_or_gt_of_ne this with q | q
    ·exact Int.mul_pos_of_neg_of_neg q q
    ·exact Int.mul_pos q q
   have g1:=Int.mul_pos hx2 h1
   have g0:=Int.mul_nonneg (hc m hS) (Int.le_of_lt h0)
   have:Hx S x (m+1)*lY n (mx M S T x c (m+1))=x m*x m*(Hx S x m*lY n (mx M S (put T m true) x c m))+x m*c m*(Hx S x m*lY n (mx M S (put T m false) x c m)):=by
    rw [e,e2];grind
   rw [this];omega
  ·have e:lY n (mx M S T x c (m+1))=lY n (mx M S (put T m false) x c m):=by
    rw [← B0]
    refine mX (fun i j _ _=>?_)
    unfold ot mx
    by_cases e:j=m
    ·subst e
     rw [if_pos (by omega),if_neg hS,if_pos rfl]
    ·rw [if_neg e]
     by_cases d:j < m
     ·rw [if_pos (by omega),if_pos d]
     ·rw [if_neg (by omega),if_neg d]
   have e2:Hx S x (m+1)=Hx S x m:=by show Hx S x m*(if S m then x m else 1)=_;rw [if_neg hS,Int.mul_one]
   rw [e,e2];exact h0
theorem ag3 {n:Nat} {M:lE} (h:PM n M) {x:Nat→Int} (hx: ∀i,i < n→x i*sm n (fun j=>M i j*x j)≤0): ∀i,i < n→x i=0:=by
 intro k hk
 apply Classical.byContradiction
 intro hne
 let S:Nat→Bool:=fun j=>decide (x j≠0∧j < n)
 let c:Nat→Int:=fun j=> - sm n (fun t=>M j t*x t)
 have hpos:=mixed h S x c (fun j hj=>by have:=of_decide_eq_true hj;exact this.1) (fun j hj=>by
  have:=of_decide_eq_true hj
  have h2:=hx j this.2
  show 0≤x j* - sm n (fun t=>M j t*x t)
  rw [Int.mul_neg];omega) n (Nat.le_refl _) (fun _=>false)
 have hz:lY n (mx M S (fun _=>false) x c n)=0:=by
  generalize hN:mx M S (fun _=>false) x c n=N
  have anF: ∀i j,i < n→j < n→N i j=if S j then x j*M i j+c j*(if i=j then 1 else 0) else if i=j then 1 else 0:=fun i j _ hj=>by
   rw [← hN];unfold mx;rw [if_pos hj]
  have Z4: ∀i,i < n→sm n (fun j=>(if S j then 1 else c j)*N i j)=0:=fun i hi=>by
   have e:sm n (fun j=>(if S j then 1 else c j)*N i j)=sm n (fun j=>M i j*x j+(if i=j then c j else 0)):=nE (fun j hj=>by
    rw [anF i j hi hj]
    by_cases d:S j=true
    ·rw [if_pos d,if_pos d];split <;> grind
    ·have hx0:x j=0:=by
      apply Classical.byContradiction
      intro q
      exact d (decide_eq_true ⟨q,hj⟩)
     rw [if_neg d,if_neg d,hx0];split <;> omega)
   rw [e,Ci,tG (f:=fun j=>if i=j then c j else 0) (k:=i) hi (fun j _ hj=>if_neg (Ne.symm hj)),if_pos rfl]
   show _+ - sm n (fun t=>M i t*x t)=0
   omega
  have hSk:S k=true:=decide_eq_true ⟨hne,hk⟩
  have h1:=GS hk N n (fun j=>if S j then 1 else c j) (fun j i=>N i j)
  have h2:lY n (ot k (fun i=>sm n (fun j=>(if S j then 1 else c j)*N i j)) N)=0:=by
   rw [mX (B:=ot k (fun i=>0*N i k) N) (fun i j hi _=>by unfold ot;split;exact(Z4 i hi).trans (Int.zero_mul _).symm;rfl),Po hk,Int.zero_mul]
  have h3:sm n (fun j=>(if S j then 1 else c j)*lY n (ot k (fun i=>N i j) N))=lY n N:=by
   rw [tG (k:=k) hk (fun j hj hjk=>by
    rw [zM (c:=k) (d:=j) hk hj (Ne.symm hjk) (fun i _=>by unfold ot;rw [if_pos rfl,if_neg hjk]),Int.mul_zero])]
   show (if S k then 1 else c k)*lY n (ot k (fun i=>N i k) N)=lY n N
   rw [if_pos hSk,R3,Int.one_mul]
  rw [h2,h3] at h1
  exact h1.symm
 rw [hz,Int.mul_zero] at hpos
 omega
end Go.Proofs.YthmfdplckdijdaaGreat.P9
end
section
namespace Go.Proofs.YthmfdplckdijdaaGreat.zm
open Go.RowKit Wz.cw Wz.cX Ma Dt Bz Lk Lt
def ur (s:TS) (n v x:Nat):Int:=(if x=v then s.den else 0)+sm n (fun i=>if s.bs.getD i 0=(x:Int) then - s.T i v else 0)
section
variable {n m:Nat} {A:lE} {s:TS} {v:Nat} (hm:m=2*n+2) (hok:Ok n m A s) (hc:Bn n s.bs v) (hneg: ∀i,i < n→s.T i v≤0)
theorem Hw {x:Nat} (h1:x≠v) (h2: ¬ rV n s.bs x):ur s n v x=0:=by
 unfold ur
 rw [if_neg h1,Dz (fun i hi=>if_neg (fun q=>h2 ⟨i,hi,q⟩))]
 rfl
theorem aiB {n:Nat} {f:Nat→Int} (h: ∀i,i < n→0≤f i):0≤sm n f:=by
 induction n with
 | zero=>exact Int.le_refl _
 | succ n ih=>
  have h1:=ih (fun i hi=>h i (by omega))
  have h2:=h n (by omega)
  show 0≤sm n f+f n
  omega
include hok hneg in
theorem Zu (x:Nat):0≤ur s n v x:=by
 unfold ur
 have h1:=hok.tab.pos
 have h2:0≤sm n (fun i=>if s.bs.getD i 0=(x:Int) then - s.T i v else 0):=aiB (fun i hi=>by
  have:=hneg i hi
  show 0≤(if s.bs.getD i 0=(x:Int) then - s.T i v else 0)
  split <;> omega)
 split <;> omega
include hc in
theorem amS:ur s n v v=s.den:=by
 unfold ur
 rw [if_pos rfl,Dz (fun i hi=>if_neg (fun q=>hc.out ⟨i,hi,q⟩)),Int.add_zero]
include hm hok hc in
theorem air {k:Nat} (hk:k < n):sm (2*n+1) (fun x=>A k x*ur s n v x)=0:=by
 have hv:=hc.lt
 have e:sm (2*n+1) (fun x=>A k x*ur s n v x)=sm (2*n+1) (fun x=>A k x*(if x=v then s.den else 0))+sm (2*n+1) (fun x=>sm n (fun i=>A k x*(if s.bs.getD i 0=(x:Int) then - s.T i v else 0))):=by
  rw [← Ci]
  exact nE (fun x _=>by unfold ur;rw [Int.mul_add, ← sZ])
 rw [e,Jb,tG (k:=v) (by omega) (fun x _ hx=>by rw [if_neg hx,Int.mul_zero]),if_pos rfl]
 have e2:sm n (fun i=>sm (2*n+1) (fun x=>A k x*(if s.bs.getD i 0=(x:Int) then - s.T i v else 0)))=sm n (fun i=> -1*(A k (s.bs.getD i 0).toNat*s.T i v)):=nE (fun i hi=>by
  have h1:=hok.nn i hi
  have h2:=hok.lt i hi
  rw [tG (k:=(s.bs.getD i 0).toNat) (by omega) (fun x _ hx=>by rw [if_neg (by omega),Int.mul_zero]),if_pos (by omega),Int.mul_neg]
  omega)
 have h3:=hok.tab.V3 hk (show v < m by omega)
 rw [e2,sZ]
 have h4:sm n (fun i=>A k (s.bs.getD i 0).toNat*s.T i v)=s.den*A k v:=h3
 rw [h4,Int.mul_comm]
 omega
end
section
variable {n m:Nat} {M:lE} {cv q:Nat→Int} {s:TS} {v:Nat} (hn0:0 < n) (hok:Ok n (2*n+2) (nD n M cv q) s) (hc:Bn n s.bs v) (hneg: ∀i,i < n→s.T i v≤0) (hP:P9.PM n M) (hcv: ∀i,i < n→0 < cv i)
include hok hc in
theorem afp {k:Nat} (hk:k < n):ur s n v k=sm n (fun j=>M k j*ur s n v (n+j))+cv k*ur s n v (2*n):=by
 have h:=air rfl hok hc hk
 have e:sm (2*n+1) (fun x=>nD n M cv q k x*ur s n v x)=sm (n+n) (fun x=>nD n M cv q k x*ur s n v x)+nD n M cv q k (2*n)*ur s n v (2*n):=by
  rw [show n+n=2*n from by omega];rfl
 rw [e,DJ] at h
 have e1:sm n (fun x=>nD n M cv q k x*ur s n v x)=ur s n v k:=by
  rw [tG (k:=k) hk (fun x hx hxk=>by unfold nD;rw [if_pos hx,if_neg hxk,Int.zero_mul])]
  unfold nD;rw [if_pos hk,if_pos rfl,Int.one_mul]
 have e2:sm n (fun i=>nD n M cv q k (n+i)*ur s n v (n+i))=sm n (fun j=> -1*(M k j*ur s n v (n+j))):=nE (fun j hj=>by
  unfold nD
  rw [if_neg (by omega),if_pos (by omega),Nat.add_sub_cancel_left]
  grind)
 have e3:nD n M cv q k (2*n)= - cv k:=by unfold nD;rw [if_neg (by omega),if_neg (by omega),if_pos rfl]
 have e4: - cv k*ur s n v (2*n)= - (cv k*ur s n v (2*n)):=Int.neg_mul _ _
 rw [e1,e2,e3,sZ,e4] at h
 omega
include hn0 hc in
theorem agH {j:Nat} (hj:j < n):ur s n v j=0∨ur s n v (n+j)=0:=by
 have hp:partner n j=n+j:=by unfold partner;rw [if_pos hj];omega
 have hpp:partner n (n+j)=j:=by unfold partner;rw [if_neg (by omega)];omega
 by_cases c:j=v
 ·right
  subst c
  exact Hw (by omega) (by rw [← hp];exact hc.CX)
 ·by_cases d:n+j=v
  ·left
   refine Hw c ?_
   have:=hc.CX
   rw [← d,hpp] at this
   exact this
  ·have h1:=hc.one j (by omega) c (fun q=>d (by have:=sF (n:=n) hc.lt;rw [← q,hp] at this;exact this))
   rw [hp] at h1
   by_cases g:rV n s.bs j
   ·exact .inr (Hw d (h1.1 g))
   ·exact .inl (Hw c g)
include hn0 hok hc hneg hP hcv
theorem aiq {j:Nat} (hj:j < n):ur s n v (n+j)=0:=by
 refine P9.ag3 hP (x:=fun j=>ur s n v (n+j)) (fun i hi=>?_) j hj
 have h0:=Zu hok hneg (2*n)
 have hz:=Zu hok hneg (n+i)
 have e:=afp hok hc hi
 rcases agH hn0 hc hi with g | g
 ·rw [g] at e
  have h1:sm n (fun j=>M i j*ur s n v (n+j))= - (cv i*ur s n v (2*n)):=by omega
  show ur s n v (n+i)*sm n (fun j=>M i j*ur s n v (n+j))≤0
  rw [h1,Int.mul_neg]
  have:=Int.mul_nonneg hz (Int.mul_nonneg (Int.le_of_lt (hcv i hi)) h0)
  omega
 ·show ur s n v (n+i)*_≤0
  rw [g,Int.zero_mul];exact Int.le_refl _
theorem Rn:v < n∧ ∀x,rV n s.bs x↔x=2*n∨(x < n∧x≠v):=by
 have hd:=hok.tab.pos
 have hvv:=amS hc
 have hvn:v < n:=by
  apply Classical.byContradiction
  intro c
  have hl:=hc.lt
  have:=aiq hn0 hok hc hneg hP hcv (show v - n < n by omega)
  rw [show n+(v - n)=v from by omega,hvv] at this
  omega
 have hw: ∀k,k < n→ur s n v k=cv k*ur s n v (2*n):=fun k hk=>by
  rw [afp hok hc hk,Dz (fun j hj=>by rw [aiq hn0 hok hc hneg hP hcv hj,Int.mul_zero]),Int.zero_add]
 have h0:0 < ur s n v (2*n):=by
  have h1:=Zu hok hneg (2*n)
  have h2:=hw v hvn
  rcases Int.lt_or_eq_of_le h1 with g | g
  ·exact g
  ·rw [hvv, ← g,Int.mul_zero] at h2;omega
 have hin: ∀k,k < n→k≠v→rV n s.bs k:=fun k hk hkv=>by
  apply Classical.byContradiction
  intro c
  have h1:=Hw hkv c
  have h2:=Int.mul_pos (hcv k hk) h0
  rw [← hw k hk,h1] at h2
  omega
 refine⟨hvn,fun x=>⟨fun hx=>?_,?_⟩⟩
 ·obtain⟨i,hi,e⟩:=hx
  have hl:=hok.lt i hi
  rw [e,Int.toNat_natCast] at hl
  by_cases c:x=2*n
  ·exact .inl c
  ·right
   by_cases d:x < n
   ·exact⟨d,fun q=>hc.out (q ▸ ⟨i,hi,e⟩)⟩
   ·exfalso
    by_cases g:x=n+v
    ·have:=hc.CX
     have hp:partner n v=n+v:=by unfold partner;rw [if_pos hvn];omega
     rw [hp] at this
     exact this (g ▸ ⟨i,hi,e⟩)
    ·have hpx:partner n x=x - n:=by unfold partner;rw [if_neg d]
     have hp:partner n v=n+v:=by unfold partner;rw [if_pos hvn];omega
     have h1:=(hc.one x (by omega) (by omega) (by omega)).1 ⟨i,hi,e⟩
     rw [hpx] at h1
     exact h1 (hin (x - n) (by omega) (by omega))
 ·rintro (c | ⟨c,d⟩)
  ·rw [c];exact hc.z0
  ·exact hin x c d
end
end Go.Proofs.YthmfdplckdijdaaGreat.zm
end
section
namespace Go.Proofs.YthmfdplckdijdaaGreat.zm
open Go.RowKit Wz.cw Wz.cX Ma Dt Bz Lk Lt Pr Lq
theorem ahB {M:List (List Int)} {Q cv:List Int} (h:PC M Q cv Q.length) (hf: ¬ yJ Q.length (fun i=>Q.getD i 0)=true) {r:Nat} (hrow:qC Q.length (2*Q.length+2) (first Q.length (m9 M) (fun i=>cv.getD i 0) (fun i=>Q.getD i 0)) (fun i=>cv.getD i 0)=some r):
  Ok Q.length (2*Q.length+2) (nD Q.length (m9 M) (fun i=>cv.getD i 0) (fun i=>Q.getD i 0)) ((first Q.length (m9 M) (fun i=>cv.getD i 0) (fun i=>Q.getD i 0)).step r (2*Q.length))∧
  Bn Q.length ((first Q.length (m9 M) (fun i=>cv.getD i 0) (fun i=>Q.getD i 0)).step r (2*Q.length)).bs (partner Q.length r)∧
  (∀x,rV Q.length ((first Q.length (m9 M) (fun i=>cv.getD i 0) (fun i=>Q.getD i 0)).step r (2*Q.length)).bs x↔x=2*Q.length∨(x < Q.length∧x≠r))∧
  wN (nD Q.length (m9 M) (fun i=>cv.getD i 0) (fun i=>Q.getD i 0)) Q.length (qL Q.length (2*Q.length+2)) (fun i=>cv.getD i 0) r∧
  ∀i,i < Q.length→((first Q.length (m9 M) (fun i=>cv.getD i 0) (fun i=>Q.getD i 0)).step r (2*Q.length)).T i r < 0:=by
 have hn0:=h.pos
 have hA:=pY (n:=Q.length) (M:=m9 M) (cv:=fun i=>cv.getD i 0) (q:=fun i=>Q.getD i 0) h.Mb (fun i hi=>by have:=h.cb i hi;omega) h.qb
 have hok:=wF (n:=Q.length) (M:=m9 M) (cv:=fun i=>cv.getD i 0) (q:=fun i=>Q.getD i 0)
 have hI: ∀i j,i < Q.length→j < Q.length→nD Q.length (m9 M) (fun i=>cv.getD i 0) (fun i=>Q.getD i 0) i j=if i=j then 1 else 0:=fun i j hi hj=>wj hi hj
 have hcv: ∀i,i < Q.length→0 < (fun i=>cv.getD i 0) i:=fun i hi=>(h.cb i hi).1
 have hl:=zu (BR (by omega) hI hok) hrow
 have hl':wN (nD Q.length (m9 M) (fun i=>cv.getD i 0) (fun i=>Q.getD i 0)) Q.length (qL Q.length (2*Q.length+2)) (fun i=>cv.getD i 0) r:=hl
 have hr:=hl.1
 have hbr:(first Q.length (m9 M) (fun i=>cv.getD i 0) (fun i=>Q.getD i 0)).bs.getD r 0=(r:Int):=by simp [first,pE,hr]
 obtain⟨s1,hs1⟩: ∃s1,(first Q.length (m9 M) (fun i=>cv.getD i 0) (fun i=>Q.getD i 0)).step r (2*Q.length)=s1:=⟨_,rfl⟩
 rw [hs1]
 have KS:uM Q.length (2*Q.length+2) s1:=by rw [← hs1];exact Iz h.le hA hcv hl' hf
 have KR:Ok Q.length (2*Q.length+2) (nD Q.length (m9 M) (fun i=>cv.getD i 0) (fun i=>Q.getD i 0)) s1:=by
  rw [← hs1]
  refine hok.step h.le hA hr (by omega) ?_
  show nD Q.length (m9 M) (fun i=>cv.getD i 0) (fun i=>Q.getD i 0) r (2*Q.length)≠0
  rw [Ai]
  have h3:0 < cv.getD r 0:=hcv r hr
  show - cv.getD r 0≠0
  omega
 have Vz: ∀x,rV Q.length (pE Q.length) x↔x < Q.length:=fun x=>by
  constructor
  ·rintro ⟨i,hi,e⟩
   simp [pE,hi] at e;omega
  ·intro hx;exact⟨x,hx,by simp [pE,hx]⟩
 have VB:(pE Q.length).getD r 0=(r:Int):=by simp [pE,hr]
 have hbs:s1.bs=(pE Q.length).set r ((2*Q.length:Nat):Int):=by rw [← hs1];rfl
 have hS: ∀x,rV Q.length s1.bs x↔x=2*Q.length∨(x < Q.length∧x≠r):=fun x=>by
  rw [hbs,Ao (l:=r) (by simp [pE]) hr VB (fun i j hi hj e=>by simp [pE,hi,hj] at e;omega),Vz]
 have hp:partner Q.length r=r+Q.length:=by unfold partner;rw [if_pos hr]
 have hpp:partner Q.length (partner Q.length r)=r:=sF (by omega)
 have hcomp:Bn Q.length s1.bs (partner Q.length r):=by
  refine⟨by rw [hp];omega,(hS _).2 (.inl rfl),fun q=>?_,fun q=>?_,fun x hx h1 h2=>?_⟩
  ·rw [hS,hp] at q;omega
  ·rw [hpp,hS] at q;omega
  ·rw [hpp] at h2
   rw [hp] at h1
   rw [hS,hS]
   have hx2:partner Q.length x=if x < Q.length then x+Q.length else x - Q.length:=rfl
   by_cases c:x < Q.length
   ·rw [hx2,if_pos c];omega
   ·rw [hx2,if_neg c];omega
 exact⟨KR,hcomp,hS,hl',fun i hi=>by rw [← hs1];exact Ry h.le hA hcv hl' hi⟩
theorem Qo {n:Nat} {M:lE} {cv q:Nat→Int} (hn:n≤5) (hn0:0 < n) (hA:Small n (2*n+2) (nD n M cv q)) (hcv: ∀i,i < n→0 < cv i) {s:TS} {v:Nat} (hok:Ok n (2*n+2) (nD n M cv q) s) (KS:uM n (2*n+2) s) (hv:v < n) (hb: ∀x,rV n s.bs x↔x=2*n∨(x < n∧x≠v)):
  wN (nD n M cv q) n (qL n (2*n+2)) cv v:=by
 have hf:Ok n (2*n+2) (nD n M cv q) (first n M cv q):=wF
 have hI: ∀i j,i < n→j < n→nD n M cv q i j=if i=j then 1 else 0:=fun i j hi hj=>wj hi hj
 have Iw: ∀i,(first n M cv q).T i (2*n)= - cv i:=fun i=>Ai
 have Iu:=hf.step hn hA hv (show 2*n+1 < 2*n+2 by omega) (by rw [Iw];have:=hcv v hv;omega)
 have hbr:(pE n).getD v 0=(v:Int):=by simp [pE,hv]
 have hb2: ∀x,rV n ((first n M cv q).step v (2*n)).bs x↔x=2*n∨(x < n∧x≠v):=fun x=>by
  show rV n ((pE n).set v ((2*n:Nat):Int)) x↔_
  rw [Ao (l:=v) (by simp [pE]) hv hbr (fun i j hi hj e=>by simp [pE,hi,hj] at e;omega)]
  have:rV n (pE n) x↔x < n:=⟨fun⟨i,hi,e⟩=>by simp [pE,hi] at e;omega,fun hx=>⟨x,hx,by simp [pE,hx]⟩⟩
  rw [this]
 have hse:SE n s ((first n M cv q).step v (2*n)):=fun x=>by rw [hb,hb2]
 refine⟨hv,hcv v hv,fun i hi hiv hci=>?_⟩
 obtain⟨k,hk,ek⟩:=(hb i).2 (.inr ⟨hi,hiv⟩)
 have e2:((first n M cv q).step v (2*n)).bs.getD i 0=(i:Int):=by
  show ((pE n).set v ((2*n:Nat):Int)).getD i 0=_
  rw [z8 (by simp [pE];exact hv),if_neg hiv]
  simp [pE,hi]
 have row:=fun c (hc:c < 2*n+2)=>Bv rfl hI hok Iu hse hk hi hc (by rw [ek,e2])
 have val: ∀c,c < 2*n+2→((first n M cv q).step v (2*n)).T i c=nD n M cv q i c*cv v - nD n M cv q v c*cv i:=fun c hc=>by
  have h1:=(yG hn hA hf hv (show 2*n+1 < 2*n+2 by omega) hi hc).2 hiv
  rw [Iw,Iw,if_pos (by have:=hcv v hv;omega)] at h1
  have h2:(first n M cv q).den=1:=rfl
  have h3: ∀a b,(first n M cv q).T a b=nD n M cv q a b:=fun _ _=>rfl
  rw [h2,h3,h3] at h1
  grind
 have g1:=oY.mul (Iu.tab.pos) (KS k hk)
 have g2:oY (fun c=>s.den*((first n M cv q).step v (2*n)).T i c) (qL n (2*n+2)):=g1.congr (fun c hc=>by
  have:=row c (zx (by omega) hc)
  rw [Int.mul_comm,this,Int.mul_comm])
 exact(oY.Ii hok.tab.pos g2).congr (fun c hc=>val c (zx (by omega) hc))
theorem adv {M:List (List Int)} {Q cv:List Int} (h:PC M Q cv Q.length) (hP:P9.PM Q.length (m9 M)):(nI M Q cv 201).2.2.1=true:=by
 have hn0:=h.pos
 have hA:=pY (n:=Q.length) (M:=m9 M) (cv:=fun i=>cv.getD i 0) (q:=fun i=>Q.getD i 0) h.Mb (fun i hi=>by have:=h.cb i hi;omega) h.qb
 have hI: ∀i j,i < Q.length→j < Q.length→nD Q.length (m9 M) (fun i=>cv.getD i 0) (fun i=>Q.getD i 0) i j=if i=j then 1 else 0:=fun i j hi hj=>wj hi hj
 have hcv: ∀i,i < Q.length→0 < (fun i=>cv.getD i 0) i:=fun i hi=>(h.cb i hi).1
 have hnl:=GA h 201
 revert hnl
 unfold nI zU
 by_cases hf:yJ Q.length (fun i=>Q.getD i 0)=true
 ·rw [if_pos hf];intro _;rfl
 ·rw [if_neg hf]
  cases hrow:qC Q.length (2*Q.length+2) (first Q.length (m9 M) (fun i=>cv.getD i 0) (fun i=>Q.getD i 0)) (fun i=>cv.getD i 0) with
  | none=>
   exfalso
   have h1:cv.getD 0 0≤0:=yX hrow 0 hn0
   have h2:0 < cv.getD 0 0:=hcv 0 hn0
   omega
  | some r=>
   have hr:=(tY hrow).1
   obtain⟨h1,h2⟩:=YR h hf hrow
   obtain⟨c1,c2,c3,c4,c5⟩:=ahB h hf hrow
   have hbr:(first Q.length (m9 M) (fun i=>cv.getD i 0) (fun i=>Q.getD i 0)).bs.getD r 0=(r:Int):=by simp [first,pE,hr]
   have hpr:partner Q.length r=r+Q.length:=by unfold partner;rw [if_pos hr]
   show (goI Q.length (2*Q.length+2) (200+1) _ (2*Q.length) r []).2.2.2.2=0→(goI Q.length (2*Q.length+2) (200+1) _ (2*Q.length) r []).2.2.1=true
   unfold goI
   rw [if_neg (by simp),hbr,if_neg (by omega),Int.toNat_natCast]
   cases yO:qC Q.length (2*Q.length+2) ((first Q.length (m9 M) (fun i=>cv.getD i 0) (fun i=>Q.getD i 0)).step r (2*Q.length)) (fun i=>((first Q.length (m9 M) (fun i=>cv.getD i 0) (fun i=>Q.getD i 0)).step r (2*Q.length)).T i (partner Q.length r)) with
   | none=>
    exfalso
    have:=(Rn hn0 c1 c2 (yX yO) hP hcv).1
    omega
   | some r1=>
    intro hnl
    apply Classical.byContradiction
    intro hne
    have hfalse: ∀b:Bool, ¬ b=true→b=false:=fun b hb=>by cases b <;> simp_all
    obtain⟨D,s',v',r',a1,a2,a3,a4,a5,a6,a7⟩:=ajj h.le hn0 rfl hA hI 200 _ _ _ _ (by simp) (by simp) (h2 r1 yO) (hfalse _ hne) hnl
    obtain⟨g1,g2⟩:=Rn hn0 (a1.ok D (Nat.le_refl _)) (a1.comp D (Nat.le_refl _)) a7 hP hcv
    have hl:=Qo h.le hn0 hA hcv (a1.ok D (Nat.le_refl _)) (a1.lex D (Nat.le_refl _)) g1 g2
    have hvr:=Im hl c4
    refine ad0 hn0 rfl hI a1 (fun i hi=>?_) D (Nat.le_refl _) 0 a2 (fun x=>?_)
    ·rw [a3,a4,sF (by omega)]
     exact Int.le_of_lt (c5 i hi)
    ·rw [g2,a3,c3,hvr]
end Go.Proofs.YthmfdplckdijdaaGreat.zm
end
section
namespace Go.Proofs.YthmfdplckdijdaaGreat.Pr
open Go.RowKit Wz.cw Wz.fX Wz.cX
attribute [local go_sem] nV nT oF oD nC nB nU nS
theorem alb (d:Nat) (w:World) (x0 y0:Int) (x1 y1:Int):
  (Op.equalIn (d+2) 58 (.agg #[.int .i64 x0, .int .i64 x1]) (.agg #[.int .i64 y0, .int .i64 y1])).run Tryz.prog w= .ok (x0==y0 && (x1==y1)) w:=by
 refine ajp Tryz.underlying58 (by kernel_rfl) ?_
 refine aeo (by rfl) (by go_simp;rfl) (by go_simp;rfl) (by go_simp) ?_
 exact aen (by rfl) (by go_simp;rfl) (by go_simp;rfl) (by go_simp)
end Go.Proofs.YthmfdplckdijdaaGreat.Pr
end
section
namespace Go.Proofs.YthmfdplckdijdaaGreat.Pr
open Go.RowKit Wz.cw Wz.fX Wz.cX
attribute [local go_sem] nV nT oF oD nC nB nU nS
def oN.l0:Nat→List Int→List Int→Int→Option (Bool)
 | 0,_,_,_=>none
 | k+1,x0,x1,x5=>if x5 < (x0.length:Int) then(if 0≤x5 then(if x5 < (x1.length:Int) then(if(rd x0 x5)=(rd x1 x5) then(oN.l0 k x0 x1 (wrap64 (x5+1))) else(some false)) else(none)) else(none)) else(some true)
def oN.f (k:Nat) (l0:List Int) (l1:List Int):Option (Bool):=if(l0.length:Int)=(l1.length:Int) then(oN.l0 k l0 l1 0) else(some false)
theorem oN.calls (k:Nat) (A0:Option Addr) (c0:Nat) (l0:List Int) (A1:Option Addr) (c1:Nat) (l1:List Int) (r:Bool) (w:World) (hr0:Kd.C (Kd.int .i64) w A0 l0.length l0) (hc0:l0.length≤c0) (hr1:Kd.C (Kd.int .i64) w A1 l1.length l1) (hc1:l1.length≤c1) (h:oN.f k l0 l1=some r):
  Calls Tryz.prog 9 #[.slice A0 l0.length c0, .slice A1 l1.length c1] w fun e w'=>e= .returned (.bool r)∧lP w w':=by
 have qE:=q_ hr0;have uG:=q_ hc0;clear hr0 hc0;have pR:=q_ hr1;have qy:=q_ hc1;clear hr1 hc1;have H:(if(l0.length:Int)=(l1.length:Int) then(oN.l0 k l0 l1 0) else(some false))=some r:=h;clear h
 by_cases c3:(l0.length:Int)=(l1.length:Int)
 ·rw [if_pos c3] at H;have qP:=yh c3;have vV:=yg c3;have IJ:(l0.length==l1.length)=true:=by first | simpa using c3 | (simp at c3 ⊢;omega)
  clear c3;have H':=q_ H;clear H
  go_enter Tryz.func9,Tryz.ntmps9
  go_wp2
  repeat (go_quiet (fail);try go_wp2)
  go_loopg [5] k (fun kq v5 w'=> ∃(aa:Int),v5= .int .i64 aa∧aE (oN.l0 kq l0 l1 aa=some r)∧aE (kq≤k)∧lP w w')
  case atStart=>exact⟨(0),(by first | rfl | (simp;done) | (simp [*];done)),H',⟨Nat.le_refl _⟩,by repeat (first | exact lP.refl _ | apply lP.step)⟩
  case round=>
   clear H';(try clear c1);(try clear c3);(try clear qP);(try clear vV);(try clear IJ);obtain⟨aa,rfl,HA,nA,⟨m1,rfl⟩⟩:=hrel;cases gk with
   | zero=>exact absurd HA.out (by simp [oN.l0])
   | succ k1=>
    have H:=HA.out;clear HA;simp only [oN.l0] at H
    by_cases c4:aa < (l0.length:Int)
    ·rw [if_pos c4] at H;have qv:=decide_eq_true c4;clear c4
     by_cases c5:0≤aa
     ·rw [if_pos c5] at H;have uP:=decide_eq_true c5;clear c5
      by_cases c6:aa < (l1.length:Int)
      ·rw [if_pos c6] at H;have uj:=decide_eq_true c6;clear c6
       by_cases c7:(rd l0 aa)=(rd l1 aa)
       ·rw [if_pos c7] at H;have za:=yh c7;have Fh:=yg c7;clear c7;have H':=q_ H;clear H;have KN:0≤(aa:Int):=of_decide_eq_true (by first | (with_reducible assumption) | assumption);have Kl:aa < (l0.length:Int):=of_decide_eq_true (by first | (with_reducible assumption) | assumption);obtain⟨ae,aeW,ahm⟩:=Kd.mA qE.out aa KN Kl;cases aeW
        replace KN:=eq_true KN;replace Kl:=eq_true Kl;have KM:0≤(aa:Int):=of_decide_eq_true (by first | (with_reducible assumption) | assumption);have Kk:aa < (l1.length:Int):=of_decide_eq_true (by first | (with_reducible assumption) | assumption);obtain⟨af,aeV,ahl⟩:=Kd.mA pR.out aa KM Kk;cases aeV
        replace KM:=eq_true KM;replace Kk:=eq_true Kk;go_wp2
        repeat (go_quiet (fail);try go_wp2)
        go_roundg k1
        case measure=>have:=nA.out;omega
        case rel=>exact⟨(wrap64 (aa+1)),(by first | rfl | (simp;done) | (simp [*];done)),H',⟨by have:=nA.out;omega⟩,by repeat (first | exact lP.refl _ | apply lP.step)⟩
       ·rw [if_neg c7] at H;have za:=uJ c7;have Fh:=uI c7;obtain rfl:=Option.some.inj H;have KN:0≤(aa:Int):=of_decide_eq_true (by first | (with_reducible assumption) | assumption);have Kl:aa < (l0.length:Int):=of_decide_eq_true (by first | (with_reducible assumption) | assumption);obtain⟨ae,aeW,ahm⟩:=Kd.mA qE.out aa KN Kl;cases aeW
        replace KN:=eq_true KN;replace Kl:=eq_true Kl;have KM:0≤(aa:Int):=of_decide_eq_true (by first | (with_reducible assumption) | assumption);have Kk:aa < (l1.length:Int):=of_decide_eq_true (by first | (with_reducible assumption) | assumption);obtain⟨af,aeV,ahl⟩:=Kd.mA pR.out aa KM Kk;cases aeV
        replace KM:=eq_true KM;replace Kk:=eq_true Kk;go_wp2
        repeat (go_quiet (fail);try go_wp2)
        go_ret
        exact⟨by first | rfl | (simp;done) | (simp [*];done),by repeat (first | exact lP.refl _ | apply lP.step)⟩
      ·rw [if_neg c6] at H;exact absurd H (by simp)
     ·rw [if_neg c5] at H;exact absurd H (by simp)
    ·rw [if_neg c4] at H;have qv:=decide_eq_false c4;clear c4;obtain rfl:=Option.some.inj H;go_wp2
     repeat (go_quiet (fail);try go_wp2)
     go_ret
     exact⟨by first | rfl | (simp;done) | (simp [*];done),by repeat (first | exact lP.refl _ | apply lP.step)⟩
 ·rw [if_neg c3] at H;have qP:=uJ c3;have vV:=uI c3;have IJ:(l0.length==l1.length)=false:=by first | simpa using c3 | (simp at c3 ⊢;omega)
  obtain rfl:=Option.some.inj H
  go_enter Tryz.func9,Tryz.ntmps9
  go_wp2
  repeat (go_quiet (fail);try go_wp2)
  go_ret
  exact⟨by first | rfl | (simp;done) | (simp [*];done),by repeat (first | exact lP.refl _ | apply lP.step)⟩
end Go.Proofs.YthmfdplckdijdaaGreat.Pr
end
section
namespace Go.Proofs.YthmfdplckdijdaaGreat.Pr
open Go.RowKit Wz.cw Wz.fX Wz.cX
attribute [local go_sem] nV nT oF oD nC nB nU nS
attribute [local go_sem high] alb
def pX.l0:Nat→List (mh)→List (mh)→Int→Option (Bool)
 | 0,_,_,_=>none
 | k+1,x0,x1,x5=>if x5 < (x0.length:Int) then(if 0≤x5 then(if x5 < (x1.length:Int) then(if(!(((kB x0 x5).f0)==((kB x1 x5).f0)) || (!(((kB x0 x5).f1)==((kB x1 x5).f1))))=true then(some false) else(pX.l0 k x0 x1 (wrap64 (x5+1)))) else(none)) else(none)) else(some true)
def pX.f (k:Nat) (l0:List (mh)) (l1:List (mh)):Option (Bool):=if(l0.length:Int)=(l1.length:Int) then(pX.l0 k l0 l1 0) else(some false)
theorem pX.calls (k:Nat) (A0:Option Addr) (c0:Nat) (l0:List (mh)) (A1:Option Addr) (c1:Nat) (l1:List (mh)) (r:Bool) (w:World) (hr0:Kd.C rU w A0 l0.length l0) (hc0:l0.length≤c0) (hr1:Kd.C rU w A1 l1.length l1) (hc1:l1.length≤c1) (h:pX.f k l0 l1=some r):
  Calls Tryz.prog 28 #[.slice A0 l0.length c0, .slice A1 l1.length c1] w fun e w'=>e= .returned (.bool r)∧lP w w':=by
 have DV:=Tryz.underlying58;have qE:=q_ hr0;have uG:=q_ hc0;clear hr0 hc0;have pR:=q_ hr1;have qy:=q_ hc1;clear hr1 hc1;have H:(if(l0.length:Int)=(l1.length:Int) then(pX.l0 k l0 l1 0) else(some false))=some r:=h;clear h
 by_cases c3:(l0.length:Int)=(l1.length:Int)
 ·rw [if_pos c3] at H;have qP:=yh c3;have vV:=yg c3;have IJ:(l0.length==l1.length)=true:=by first | simpa using c3 | (simp at c3 ⊢;omega)
  clear c3;have H':=q_ H;clear H
  go_enter Tryz.func28,Tryz.ntmps28
  go_wp2
  repeat (go_quiet (fail);try go_wp2)
  go_loopg [5] k (fun kq v5 w'=> ∃(aa:Int),v5= .int .i64 aa∧aE (pX.l0 kq l0 l1 aa=some r)∧aE (kq≤k)∧lP w w')
  case atStart=>exact⟨(0),(by first | rfl | (simp;done) | (simp [*];done)),H',⟨Nat.le_refl _⟩,by repeat (first | exact lP.refl _ | apply lP.step)⟩
  case round=>
   clear H';(try clear c1);(try clear c3);(try clear qP);(try clear vV);(try clear IJ);obtain⟨aa,rfl,HA,nA,⟨m1,rfl⟩⟩:=hrel;cases gk with
   | zero=>exact absurd HA.out (by simp [pX.l0])
   | succ k1=>
    have H:=HA.out;clear HA;simp only [pX.l0] at H
    by_cases c4:aa < (l0.length:Int)
    ·rw [if_pos c4] at H;have qv:=decide_eq_true c4;clear c4
     by_cases c5:0≤aa
     ·rw [if_pos c5] at H;have uP:=decide_eq_true c5;clear c5
      by_cases c6:aa < (l1.length:Int)
      ·rw [if_pos c6] at H;have uj:=decide_eq_true c6;clear c6
       by_cases c7:(!(((kB l0 aa).f0)==((kB l1 aa).f0)) || (!(((kB l0 aa).f1)==((kB l1 aa).f1))))=true
       ·rw [if_pos c7] at H;have za:(!(((kB l0 aa).f0)==((kB l1 aa).f0)) || (!(((kB l0 aa).f1)==((kB l1 aa).f1))))=true:=c7;clear c7;obtain rfl:=Option.some.inj H;have Kr:0≤(aa:Int):=of_decide_eq_true (by first | (with_reducible assumption) | assumption);have JY:aa < (l0.length:Int):=of_decide_eq_true (by first | (with_reducible assumption) | assumption);obtain⟨ae,aex,ahg,ahf⟩:=ze qE.out aa Kr JY;cases aex
        replace Kr:=eq_true Kr;replace JY:=eq_true JY;have Kq:0≤(aa:Int):=of_decide_eq_true (by first | (with_reducible assumption) | assumption);have JX:aa < (l1.length:Int):=of_decide_eq_true (by first | (with_reducible assumption) | assumption);obtain⟨af,aew,ahe,ahd⟩:=ze pR.out aa Kq JX;cases aew
        replace Kq:=eq_true Kq;replace JX:=eq_true JX;go_wp2
        repeat (go_quiet (fail);try go_wp2)
        go_ret
        exact⟨by first | rfl | (simp;done) | (simp [*];done),by repeat (first | exact lP.refl _ | apply lP.step)⟩
       ·rw [if_neg c7] at H;have za:(!(((kB l0 aa).f0)==((kB l1 aa).f0)) || (!(((kB l0 aa).f1)==((kB l1 aa).f1))))=false:=by simpa using c7
        clear c7;have H':=q_ H;clear H;have Kr:0≤(aa:Int):=of_decide_eq_true (by first | (with_reducible assumption) | assumption);have JY:aa < (l0.length:Int):=of_decide_eq_true (by first | (with_reducible assumption) | assumption);obtain⟨ae,aex,ahg,ahf⟩:=ze qE.out aa Kr JY;cases aex
        replace Kr:=eq_true Kr;replace JY:=eq_true JY;have Kq:0≤(aa:Int):=of_decide_eq_true (by first | (with_reducible assumption) | assumption);have JX:aa < (l1.length:Int):=of_decide_eq_true (by first | (with_reducible assumption) | assumption);obtain⟨af,aew,ahe,ahd⟩:=ze pR.out aa Kq JX;cases aew
        replace Kq:=eq_true Kq;replace JX:=eq_true JX;go_wp2
        repeat (go_quiet (fail);try go_wp2)
        go_roundg k1
        case measure=>have:=nA.out;omega
        case rel=>exact⟨(wrap64 (aa+1)),(by first | rfl | (simp;done) | (simp [*];done)),H',⟨by have:=nA.out;omega⟩,by repeat (first | exact lP.refl _ | apply lP.step)⟩
      ·rw [if_neg c6] at H;exact absurd H (by simp)
     ·rw [if_neg c5] at H;exact absurd H (by simp)
    ·rw [if_neg c4] at H;have qv:=decide_eq_false c4;clear c4;obtain rfl:=Option.some.inj H;go_wp2
     repeat (go_quiet (fail);try go_wp2)
     go_ret
     exact⟨by first | rfl | (simp;done) | (simp [*];done),by repeat (first | exact lP.refl _ | apply lP.step)⟩
 ·rw [if_neg c3] at H;have qP:=uJ c3;have vV:=uI c3;have IJ:(l0.length==l1.length)=false:=by first | simpa using c3 | (simp at c3 ⊢;omega)
  obtain rfl:=Option.some.inj H
  go_enter Tryz.func28,Tryz.ntmps28
  go_wp2
  repeat (go_quiet (fail);try go_wp2)
  go_ret
  exact⟨by first | rfl | (simp;done) | (simp [*];done),by repeat (first | exact lP.refl _ | apply lP.step)⟩
def qt.l0:Nat→List (List Int)→List (List Int)→Int→Option (Bool)
 | 0,_,_,_=>none
 | k+1,x0,x1,x5=>if x5 < (x0.length:Int) then(if 0≤x5 then(if x5 < (x1.length:Int) then((oN.f k (d5 x0 x5) (d5 x1 x5)).bind fun aa=>(if aa=true then(qt.l0 k x0 x1 (wrap64 (x5+1))) else(some false))) else(none)) else(none)) else(some true)
def qt.f (k:Nat) (l0:List (List Int)) (l1:List (List Int)):Option (Bool):=if(l0.length:Int)=(l1.length:Int) then(qt.l0 k l0 l1 0) else(some false)
theorem qt.calls (k:Nat) (A0:Option Addr) (c0:Nat) (l0:List (List Int)) (A1:Option Addr) (c1:Nat) (l1:List (List Int)) (r:Bool) (w:World) (hr0:Kd.C (Kd.slice 2 (Kd.int .i64)) w A0 l0.length l0) (hc0:l0.length≤c0) (hr1:Kd.C (Kd.slice 2 (Kd.int .i64)) w A1 l1.length l1) (hc1:l1.length≤c1) (h:qt.f k l0 l1=some r):
  Calls Tryz.prog 29 #[.slice A0 l0.length c0, .slice A1 l1.length c1] w fun e w'=>e= .returned (.bool r)∧lP w w':=by
 have qE:=q_ hr0;have uG:=q_ hc0;clear hr0 hc0;have pR:=q_ hr1;have qy:=q_ hc1;clear hr1 hc1;have H:(if(l0.length:Int)=(l1.length:Int) then(qt.l0 k l0 l1 0) else(some false))=some r:=h;clear h
 by_cases c3:(l0.length:Int)=(l1.length:Int)
 ·rw [if_pos c3] at H;have qP:=yh c3;have vV:=yg c3;have IJ:(l0.length==l1.length)=true:=by first | simpa using c3 | (simp at c3 ⊢;omega)
  clear c3;have H':=q_ H;clear H
  go_enter Tryz.func29,Tryz.ntmps29
  go_wp2
  repeat (go_quiet (fail);try go_wp2)
  go_loopg [5] k (fun kq v5 w'=> ∃(aa:Int),v5= .int .i64 aa∧aE (qt.l0 kq l0 l1 aa=some r)∧aE (kq≤k)∧lP w w')
  case atStart=>exact⟨(0),(by first | rfl | (simp;done) | (simp [*];done)),H',⟨Nat.le_refl _⟩,by repeat (first | exact lP.refl _ | apply lP.step)⟩
  case round=>
   clear H';(try clear c1);(try clear c3);(try clear qP);(try clear vV);(try clear IJ);obtain⟨aa,rfl,HA,nA,⟨m1,rfl⟩⟩:=hrel;cases gk with
   | zero=>exact absurd HA.out (by simp [qt.l0])
   | succ k1=>
    have H:=HA.out;clear HA;simp only [qt.l0] at H
    by_cases c4:aa < (l0.length:Int)
    ·rw [if_pos c4] at H;have qv:=decide_eq_true c4;clear c4
     by_cases c5:0≤aa
     ·rw [if_pos c5] at H;have uP:=decide_eq_true c5;clear c5
      by_cases c6:aa < (l1.length:Int)
      ·rw [if_pos c6] at H;have uj:=decide_eq_true c6;clear c6;replace H:=Option.bind_eq_some_iff.mp H;obtain⟨ai,CD,H⟩:=H;replace H:(if ai=true then(qt.l0 k1 l0 l1 (wrap64 (aa+1))) else(some false))=some r:=H;have A7:=q_ CD;clear CD
       by_cases c8:ai=true
       ·subst c8;have H1:(qt.l0 k1 l0 l1 (wrap64 (aa+1)))=some r:=by rw [if_pos rfl] at H;exact H
        clear H;have H:=H1;clear H1;have H':=q_ H;clear H;have Kp:0≤(aa:Int):=of_decide_eq_true (by first | (with_reducible assumption) | assumption);have JW:aa < (l0.length:Int):=of_decide_eq_true (by first | (with_reducible assumption) | assumption);obtain⟨av,aj,ak,aev,ahc,FI,FU⟩:=pI qE.out aa Kp JW;cases aev
        have BU:=q_ FU;have BZ:=q_ FI;clear FU FI;replace Kp:=eq_true Kp;replace JW:=eq_true JW;have Ko:0≤(aa:Int):=of_decide_eq_true (by first | (with_reducible assumption) | assumption);have JV:aa < (l1.length:Int):=of_decide_eq_true (by first | (with_reducible assumption) | assumption);obtain⟨aw,aq,au,aeu,ahb,FH,FT⟩:=pI pR.out aa Ko JV;cases aeu
        have BS:=q_ FT;have BX:=q_ FH;clear FT FH;replace Ko:=eq_true Ko;replace JV:=eq_true JV
        go_wp2_with (first | (go_at_call 9;(with_reducible refine(oN.calls k1 _ _ (d5 l0 aa) _ _ (d5 l1 aa) true _ ?ae ?af ?ag ?ah A7.out).mono ?_);(case ae=>repeat (first | exact BU.out | (with_reducible refine Kd.sY ?_ _) | (with_reducible refine Kd.sX ?_ _) | (with_reducible refine Kd.uc ?_)));(case af=>exact BZ.out);(case ag=>repeat (first | exact BS.out | (with_reducible refine Kd.sY ?_ _) | (with_reducible refine Kd.sX ?_ _) | (with_reducible refine Kd.uc ?_)));(case ah=>exact BX.out);rintro e w' ⟨rfl,⟨nd,rfl⟩⟩;(try first | exact⟨rfl,_,World.drewN_drewN _ _ _⟩ | exact⟨rfl,_,Eq.trans (World.drewN_drewN _ _ _) (congrArg (World.drewN _) (Nat.add_assoc _ _ _))⟩)))
        repeat (go_quiet (first | (go_at_call 9;(with_reducible refine(oN.calls k1 _ _ (d5 l0 aa) _ _ (d5 l1 aa) true _ ?ae ?af ?ag ?ah A7.out).mono ?_);(case ae=>repeat (first | exact BU.out | (with_reducible refine Kd.sY ?_ _) | (with_reducible refine Kd.sX ?_ _) | (with_reducible refine Kd.uc ?_)));(case af=>exact BZ.out);(case ag=>repeat (first | exact BS.out | (with_reducible refine Kd.sY ?_ _) | (with_reducible refine Kd.sX ?_ _) | (with_reducible refine Kd.uc ?_)));(case ah=>exact BX.out);rintro e w' ⟨rfl,⟨nd,rfl⟩⟩;(try first | exact⟨rfl,_,World.drewN_drewN _ _ _⟩ | exact⟨rfl,_,Eq.trans (World.drewN_drewN _ _ _) (congrArg (World.drewN _) (Nat.add_assoc _ _ _))⟩)));try go_wp2_with (first | (go_at_call 9;(with_reducible refine(oN.calls k1 _ _ (d5 l0 aa) _ _ (d5 l1 aa) true _ ?ae ?af ?ag ?ah A7.out).mono ?_);(case ae=>repeat (first | exact BU.out | (with_reducible refine Kd.sY ?_ _) | (with_reducible refine Kd.sX ?_ _) | (with_reducible refine Kd.uc ?_)));(case af=>exact BZ.out);(case ag=>repeat (first | exact BS.out | (with_reducible refine Kd.sY ?_ _) | (with_reducible refine Kd.sX ?_ _) | (with_reducible refine Kd.uc ?_)));(case ah=>exact BX.out);rintro e w' ⟨rfl,⟨nd,rfl⟩⟩;(try first | exact⟨rfl,_,World.drewN_drewN _ _ _⟩ | exact⟨rfl,_,Eq.trans (World.drewN_drewN _ _ _) (congrArg (World.drewN _) (Nat.add_assoc _ _ _))⟩))))
        go_roundg k1
        case measure=>have:=nA.out;omega
        case rel=>exact⟨(wrap64 (aa+1)),(by first | rfl | (simp;done) | (simp [*];done)),H',⟨by have:=nA.out;omega⟩,by repeat (first | exact lP.refl _ | apply lP.step)⟩
       ·replace c8:=Bool.eq_false_iff.mpr c8;subst c8;have H1:(some false)=some r:=by rw [if_neg (show ¬ (false=true) by decide)] at H;exact H
        clear H;have H:=H1;clear H1;obtain rfl:=Option.some.inj H;have Kp:0≤(aa:Int):=of_decide_eq_true (by first | (with_reducible assumption) | assumption);have JW:aa < (l0.length:Int):=of_decide_eq_true (by first | (with_reducible assumption) | assumption);obtain⟨av,aj,ak,aev,ahc,FI,FU⟩:=pI qE.out aa Kp JW;cases aev
        have BU:=q_ FU;have BZ:=q_ FI;clear FU FI;replace Kp:=eq_true Kp;replace JW:=eq_true JW;have Ko:0≤(aa:Int):=of_decide_eq_true (by first | (with_reducible assumption) | assumption);have JV:aa < (l1.length:Int):=of_decide_eq_true (by first | (with_reducible assumption) | assumption);obtain⟨aw,aq,au,aeu,ahb,FH,FT⟩:=pI pR.out aa Ko JV;cases aeu
        have BS:=q_ FT;have BX:=q_ FH;clear FT FH;replace Ko:=eq_true Ko;replace JV:=eq_true JV
        go_wp2_with (first | (go_at_call 9;(with_reducible refine(oN.calls k1 _ _ (d5 l0 aa) _ _ (d5 l1 aa) false _ ?ae ?af ?ag ?ah A7.out).mono ?_);(case ae=>repeat (first | exact BU.out | (with_reducible refine Kd.sY ?_ _) | (with_reducible refine Kd.sX ?_ _) | (with_reducible refine Kd.uc ?_)));(case af=>exact BZ.out);(case ag=>repeat (first | exact BS.out | (with_reducible refine Kd.sY ?_ _) | (with_reducible refine Kd.sX ?_ _) | (with_reducible refine Kd.uc ?_)));(case ah=>exact BX.out);rintro e w' ⟨rfl,⟨nd,rfl⟩⟩;(try first | exact⟨rfl,_,World.drewN_drewN _ _ _⟩ | exact⟨rfl,_,Eq.trans (World.drewN_drewN _ _ _) (congrArg (World.drewN _) (Nat.add_assoc _ _ _))⟩)))
        repeat (go_quiet (first | (go_at_call 9;(with_reducible refine(oN.calls k1 _ _ (d5 l0 aa) _ _ (d5 l1 aa) false _ ?ae ?af ?ag ?ah A7.out).mono ?_);(case ae=>repeat (first | exact BU.out | (with_reducible refine Kd.sY ?_ _) | (with_reducible refine Kd.sX ?_ _) | (with_reducible refine Kd.uc ?_)));(case af=>exact BZ.out);(case ag=>repeat (first | exact BS.out | (with_reducible refine Kd.sY ?_ _) | (with_reducible refine Kd.sX ?_ _) | (with_reducible refine Kd.uc ?_)));(case ah=>exact BX.out);rintro e w' ⟨rfl,⟨nd,rfl⟩⟩;(try first | exact⟨rfl,_,World.drewN_drewN _ _ _⟩ | exact⟨rfl,_,Eq.trans (World.drewN_drewN _ _ _) (congrArg (World.drewN _) (Nat.add_assoc _ _ _))⟩)));try go_wp2_with (first | (go_at_call 9;(with_reducible refine(oN.calls k1 _ _ (d5 l0 aa) _ _ (d5 l1 aa) false _ ?ae ?af ?ag ?ah A7.out).mono ?_);(case ae=>repeat (first | exact BU.out | (with_reducible refine Kd.sY ?_ _) | (with_reducible refine Kd.sX ?_ _) | (with_reducible refine Kd.uc ?_)));(case af=>exact BZ.out);(case ag=>repeat (first | exact BS.out | (with_reducible refine Kd.sY ?_ _) | (with_reducible refine Kd.sX ?_ _) | (with_reducible refine Kd.uc ?_)));(case ah=>exact BX.out);rintro e w' ⟨rfl,⟨nd,rfl⟩⟩;(try first | exact⟨rfl,_,World.drewN_drewN _ _ _⟩ | exact⟨rfl,_,Eq.trans (World.drewN_drewN _ _ _) (congrArg (World.drewN _) (Nat.add_assoc _ _ _))⟩))))
        go_ret
        exact⟨by first | rfl | (simp;done) | (simp [*];done),by repeat (first | exact lP.refl _ | apply lP.step)⟩
      ·rw [if_neg c6] at H;exact absurd H (by simp)
     ·rw [if_neg c5] at H;exact absurd H (by simp)
    ·rw [if_neg c4] at H;have qv:=decide_eq_false c4;clear c4;obtain rfl:=Option.some.inj H;go_wp2
     repeat (go_quiet (fail);try go_wp2)
     go_ret
     exact⟨by first | rfl | (simp;done) | (simp [*];done),by repeat (first | exact lP.refl _ | apply lP.step)⟩
 ·rw [if_neg c3] at H;have qP:=uJ c3;have vV:=uI c3;have IJ:(l0.length==l1.length)=false:=by first | simpa using c3 | (simp at c3 ⊢;omega)
  obtain rfl:=Option.some.inj H
  go_enter Tryz.func29,Tryz.ntmps29
  go_wp2
  repeat (go_quiet (fail);try go_wp2)
  go_ret
  exact⟨by first | rfl | (simp;done) | (simp [*];done),by repeat (first | exact lP.refl _ | apply lP.step)⟩
end Go.Proofs.YthmfdplckdijdaaGreat.Pr
end
section
namespace Go.Proofs.YthmfdplckdijdaaGreat.uF
open Go.RowKit Wz.cw Wz.cX Ma Pr
theorem abp (l:List Int) (hl:l.length≤1048576):Ev (fun k=>oN.f k l l) true:=by
 unfold oN.f
 refine cY rfl ?_
 have key: ∀m i,i+m=l.length→Ev (fun k=>oN.l0 k l l (i:Int)) true:=by
  intro m
  induction m with
  | zero=>
   intro i hi
   refine mC (fun k=>by rw [oN.l0]) ?_
   exact lV (by omega) (oK rfl)
  | succ m ih=>
   intro i hi
   refine mC (fun k=>by rw [oN.l0]) ?_
   refine cY (by omega) (cY (by omega) (cY (by omega) (cY rfl ?_)))
   rw [nH (x:=(i:Int)+1) (by omega) (by omega)]
   exact ih (i+1) (by omega)
 exact key l.length 0 (by omega)
theorem Pk (l:List mh) (hl:l.length≤1048576):Ev (fun k=>pX.f k l l) true:=by
 unfold pX.f
 refine cY rfl ?_
 have key: ∀m i,i+m=l.length→Ev (fun k=>pX.l0 k l l (i:Int)) true:=by
  intro m
  induction m with
  | zero=>
   intro i hi
   refine mC (fun k=>by rw [pX.l0]) ?_
   exact lV (by omega) (oK rfl)
  | succ m ih=>
   intro i hi
   refine mC (fun k=>by rw [pX.l0]) ?_
   refine cY (by omega) (cY (by omega) (cY (by omega) (lV (by simp) ?_)))
   rw [nH (x:=(i:Int)+1) (by omega) (by omega)]
   exact ih (i+1) (by omega)
 exact key l.length 0 (by omega)
end Go.Proofs.YthmfdplckdijdaaGreat.uF
end
section
namespace Go.Proofs.YthmfdplckdijdaaGreat.Pr
open Go.RowKit Wz.cw Wz.fX Wz.cX
attribute [local go_sem] nV nT oF oD nC nB nU nS
def mW.l0:Nat→List (mh)→Int→List (List Int)→Int→List Int→Option ((List (mh)) × Int)
 | 0,_,_,_,_,_=>none
 | k+1,x4,x5,aa,af,ah=>if x5 < (aa.length:Int) then(if 0≤x5 then(if 0≤(wrap64 (((d5 aa x5).length:Int) - 1)) then(if(wrap64 (((d5 aa x5).length:Int) - 1)) < ((d5 aa x5).length:Int) then((oM.f k (rd (d5 aa x5) (wrap64 (((d5 aa x5).length:Int) - 1))) af).bind fun ag=>((pS.f k ag.1 ag.2).bind fun ae=>(if ae.2.2=0 then(if x4.length < 8796093022208 then(mW.l0 k (x4++ [(⟨ae.1,ae.2.1⟩:mh)]) (wrap64 (x5+1)) aa af ah) else(none)) else(some (([]:List (mh)),ae.2.2))))) else(none)) else(none)) else(none)) else(some (x4,0))
def mW.f (k:Nat) (aa:List (List Int)) (lW:Int) (ae:List Int):Option ((List (mh)) × Int):=mW.l0 k (([]:List (mh))) 0 aa lW ae
def mW.T5:Bool × List (List Nat × List Nat):=(true, [([], []),([0], [0]),([], []),([1,2], [1,2]),([3], [3]),([], []),([5], [5]),([], []),([6,7], [6,7]),([8], [8]),([9], [9]),([10], [10]),([4,11], [4,11]),([12], [12]),([], []),([14], [14]),([13,15], [13,15]),([16,16], [16]),([17], [17]),([18], [18]),([18], [18]),([], []),([21,19,17,0,1,2,3,4,5,6,7,8,9,10,11,12,13,14,15,16,17,18,19,21], [19,21]),([20,22,0,1,2,3,4,5,6,7,8,9,10,11,12,13,14,15,16,17,18,19,20,21,22], [20])])
def mW.B5:List Nat:= [0,1,0,7,15,0,32,0,224,480,992,2016,4095,8191,0,16384,65535,131071,262143,524287,524287,0,3145727,8388607]
theorem mW.xO:sy .any (opsOf Tryz.f112 5)=mW.T5:=by kernel_rfl
theorem mW.vo:tD mW.T5.2 mW.B5=true:=by kernel_rfl
theorem mW.calls (k:Nat) (aW:Option Addr) (aK:Nat) (aq:List (List Int)) (lW:Int) (aM:Option Addr) (aN:Nat) (az:List Int) (r1:List (mh)) (r2:Int) (w:World) (aY:Kd.C (Kd.slice 2 (Kd.int .i64)) w aW aq.length aq) (aZ:aq.length≤aK) (a9:Kd.C (Kd.int .i64) w aM az.length az) (ba:az.length≤aN) (h:mW.f k aq lW az=some (r1,r2)):
  Calls Tryz.prog 112 #[.agg #[.slice aW aq.length aK, .int .i64 lW, .slice aM az.length aN]] w fun e w'=> ∃qg:Value,e= .returned (.tuple #[qg, .int .i64 r2])∧Kd.R rU 58 w' w.heap.size (fun _=>True) qg r1∧Below w.heap.size w w':=by
 have Dp:=Tryz.underlying107;have DV:=Tryz.underlying58;have mR:=q_ aY;have oh:=q_ aZ;clear aY aZ;have Dy:=q_ a9;have Hf:=q_ ba;clear a9 ba;have HB:=q_ (Below.refl w.heap.size w);have H:(mW.l0 k (([]:List (mh))) 0 aq lW az)=some (r1,r2):=h;clear h;obtain⟨bi,hy⟩: ∃y_:List (mh),y_=(([]:List (mh))):=⟨_,rfl⟩
 replace H:(mW.l0 k bi 0 aq lW az)=some (r1,r2):=hh_;have bg:=q_ hy;clear hy;have H':=q_ H;clear H
 go_enter Tryz.func112,Tryz.ntmps112
 go_wp2_with (first | ((with_reducible refine dg (N:=1) rfl ?_);refine nR 1 #[.slice aW aq.length aK, .int .i64 lW, .slice aM az.length aN] 107 ?_;intro au hg w2 cM hb;have aa:=q_ (cM);have cn:=mq w hg;have ct:=mq w hg;replace HB:=lT hb;clear hb cM hg) | ((with_reducible refine dg (N:=8) rfl ?_);refine Kd.tu rU _ 58 ?hg (N:=8) ?hd (xs:=([]:List (mh))) (inner:= []) (ok:=fun _=>True) (oC:=fun _=>True) ?hr ?hp (fun _ hk=>hk) trivial (Below.refl _ _) (Nat.le_refl _) (by simp) ?_;(case hd=>rfl);(case hg=>rfl);(case hr=>first | (go_simp;done) | (go_simp;rfl));(case hp=>exact(mV.none _ _));intro cB w3 ho4 hb hg_ om;clear hg_ om;(first | rw [← bg.out] at ho4 | (simp only [Int.reduceToNat] at ho4;rw [← bg.out] at ho4));have bw:=q_ (Kd.ng ho4 oI);replace aa:=lZ aa hb;replace HB:=lT hb;clear hb ho4))
 go_loopg [4,5] k (fun kq v4 v5 w'=> ∃(aU:List (mh)) (ak:Int),v5= .int .i64 ak∧aE (mW.l0 kq aU ak aq lW az=some (r1,r2))∧aE (kq≤k)∧aE (Kd.R rU 58 w' w.heap.size (fun _=>True) v4 aU)∧aE (w'.heap[au]?=some (.cells #[(.slice aW aq.length aK), .int .i64 lW,(.slice aM az.length aN)] 107 (0,0)))∧aE (Below w.heap.size w w'))
 case atStart=>exact⟨(bi),(0),nM,H',⟨Nat.le_refl _⟩,⟨m5 bw.out⟩,⟨nj⟩,⟨hb_⟩⟩
 case round=>
  clear H';obtain⟨aU,ak,rfl,HA,nA,av,aa,HB⟩:=hrel;cases gk with
  | zero=>exact absurd HA.out (by simp [mW.l0])
  | succ k1=>
   have H:=HA.out;clear HA;simp only [mW.l0] at H
   by_cases c5:ak < (aq.length:Int)
   ·rw [if_pos c5] at H;have uP:=decide_eq_true c5;clear c5
    by_cases c6:0≤ak
    ·rw [if_pos c6] at H;have uj:=decide_eq_true c6;clear c6;obtain⟨vw,Iv⟩: ∃j_:Int,(wrap64 (((d5 aq ak).length:Int) - 1))=j_:=⟨_,rfl⟩
     replace H:(if 0≤(vw) then(if(vw) < ((d5 aq ak).length:Int) then((oM.f k1 (rd (d5 aq ak) (vw)) lW).bind fun bh=>((pS.f k1 bh.1 bh.2).bind fun aV=>(if aV.2.2=0 then(if aU.length < 8796093022208 then(mW.l0 k1 (aU++ [(⟨aV.1,aV.2.1⟩:mh)]) (wrap64 (ak+1)) aq lW az) else(none)) else(some (([]:List (mh)),aV.2.2))))) else(none)) else(none))=some (r1,r2):=by first | (rw [Iv] at H;exact H) | (simp only [Iv] at H ⊢;exact H)
     have arP:(IntKind.i64.wrap (((d5 aq ak).length:Int) - 1))=vw:=(mT _).trans Iv
     by_cases c8:0≤(vw)
     ·rw [if_pos c8] at H;have IG:=decide_eq_true c8;clear c8
      by_cases c9:(vw) < ((d5 aq ak).length:Int)
      ·rw [if_pos c9] at H;have Ab:=decide_eq_true c9;clear c9;replace H:=Option.bind_eq_some_iff.mp H;obtain⟨⟨aH,aI⟩,Xi,H⟩:=H;replace H:((pS.f k1 aH aI).bind fun aV=>(if aV.2.2=0 then(if aU.length < 8796093022208 then(mW.l0 k1 (aU++ [(⟨aV.1,aV.2.1⟩:mh)]) (wrap64 (ak+1)) aq lW az) else(none)) else(some (([]:List (mh)),aV.2.2))))=some (r1,r2):=H;have EA:=q_ Xi;clear Xi;replace H:=Option.bind_eq_some_iff.mp H;obtain⟨⟨aC,aD,aJ⟩,Ez,H⟩:=H;replace H:(if aJ=0 then(if aU.length < 8796093022208 then(mW.l0 k1 (aU++ [(⟨aC,aD⟩:mh)]) (wrap64 (ak+1)) aq lW az) else(none)) else(some (([]:List (mh)),aJ)))=some (r1,r2):=H;have Gp:=q_ Ez;clear Ez
       by_cases qQ:aJ=0
       ·rw [if_pos qQ] at H;have GZ:=yh qQ;have agj:=yg qQ;clear qQ
        by_cases rz:aU.length < 8796093022208
        ·rw [if_pos rz] at H;have bz:=q_ rz;clear rz;obtain⟨bn,hy⟩: ∃y_:List (mh),y_=(aU++ [(⟨aC,aD⟩:mh)]):=⟨_,rfl⟩
         replace H:(mW.l0 k1 bn (wrap64 (ak+1)) aq lW az)=some (r1,r2):=hh_;have bA:=q_ hy;clear hy;have H':=q_ H;clear H;obtain⟨bD,bE,bF,bG,bH,bI⟩:=qI aa
         try go_wp2
         replace av:=q_ (Kd.mF av.out);replace aa:=q_ (mI aa.out);replace HB:=q_ (mS HB.out);have Kw:0≤(ak:Int):=l7;have J3:ak < (aq.length:Int):=l7;obtain⟨ay,bq,aG,aeC,vF,FL,FW⟩:=pI mR.out ak Kw J3;have af:=vF;cases aeC
         replace vF:=bc_ HB.out vF;have Gi:=q_ FW;have ah3:=q_ FL;clear FW FL;replace Kw:=eq_true Kw;replace J3:=eq_true J3;have Kv:0≤(ak:Int):=l7;have J2:ak < (aq.length:Int):=l7;obtain⟨aX,bu,bv,aeB,vE,FJ,FV⟩:=pI mR.out ak Kv J2;have ag:=vE;obtain rfl:ay=aX:=(by injection aeB)
         replace vE:=bc_ HB.out vE;have QZ:=q_ FV;have ah2:=q_ FJ;clear FV FJ;replace Kv:=eq_true Kv;replace J2:=eq_true J2;have vC:=Option.some.inj (vF.symm.trans vE);injection vC with vC D3 D4
         subst vC;subst D4;clear D3;have Ku:0≤((vw):Int):=l7;have J1:(vw) < ((d5 aq ak).length:Int):=l7;obtain⟨aA,aeA,wS⟩:=Kd.mA Gi.out (vw) Ku J1;have ah:=wS;cases aeA
         replace wS:=bc_ HB.out wS;replace Ku:=eq_true Ku;replace J1:=eq_true J1;refine qx (n:=24) (S:=fun w'=>w'.cell? ⟨au,0,none⟩=some (.slice (some ay) aq.length aK)∧w'.cell? ⟨au,1,none⟩=some (.int .i64 lW)∧w'.cell? ⟨au,2,none⟩=some (.slice aM az.length aN)∧w'.cell? (ay.add (ak).toNat)=some (.slice (some aA) (d5 aq ak).length aG)∧w'.cell? (ay.add (ak).toNat)=some (.slice (some aA) (d5 aq ak).length aG)∧w'.cell? (aA.add ((vw)).toNat)=some (.int .i64 (rd (d5 aq ak) (vw)))) (ds:= []) ⟨(bp aa.out 0).trans rfl,(bp aa.out 1).trans rfl,(bp aa.out 2).trans rfl,((bc_ HB.out af:)),((bc_ HB.out ag:)),((bc_ HB.out ah:))⟩ (fun hHeld=>?_);refine o9 mW.xO mW.vo (fun pL xA=>?_)
         generalize wr.drew=vu at av aa HB Gi QZ vF vE wS hHeld ⊢
         refine sB 0 17 2 19 5 22 7 24 ?_;refine lX 14 31 ?_;refine mg 1 18 ?_;refine lX 3 20 ?_;refine mg 4 21 ?_;refine mg 6 23 ?_;refine lX 8 25 ?_;refine mg 9 26 ?_;refine rm 10 27 11 28 12 29 ?_;refine mg 13 30 ?_;refine mg 15 32 ?_
         refine zR (σ:=Nat) 2 (fm 24 4194303) (fun s_=> [(33, .agg #[.int .i64 aH, .int .i64 aI]),(34, .tuple #[.agg #[.int .i64 aC, .int .i64 aD], .int .i64 aJ]),(6, .pointer (some ⟨s_,0,none⟩)),(16, .tuple #[.agg #[.int .i64 aC, .int .i64 aD], .int .i64 aJ]),(35, .agg #[.int .i64 aC, .int .i64 aD]),(36, .int .i64 aJ)]) (fun s_ w'=>(w'.cell? ⟨au,0,none⟩=some (.slice (some ay) aq.length aK)∧w'.cell? ⟨au,1,none⟩=some (.int .i64 lW)∧w'.cell? ⟨au,2,none⟩=some (.slice aM az.length aN)∧w'.cell? (ay.add (ak).toNat)=some (.slice (some aA) (d5 aq ak).length aG)∧w'.cell? (ay.add (ak).toNat)=some (.slice (some aA) (d5 aq ak).length aG)∧w'.cell? (aA.add ((vw)).toNat)=some (.int .i64 (rd (d5 aq ak) (vw))))∧(Kd.R rU 58 w' w.heap.size (fun k_=>k_≠s_) u4 aU)∧(w'.heap[au]?=some (.cells #[.slice (some ay) aq.length aK, .int .i64 lW, .slice aM az.length aN] 107 (0,0)))∧(w'.heap[s_]?=some (.cells #[.int .i64 0, .int .i64 0] 58 (0,0)))∧(w.heap.size≤s_)∧(w.heap.size≤s_)∧(au≠s_)∧(s_≠au)∧(Below w.heap.size w w')) ?_ ?_
         rotate_left
         ·intro GN;refine Gq (i:=16) (j:=21) (Ni:=some 33) (Nj:=some 6) (fm 24 131071) (fm 24 2162687) rfl rfl rfl rfl (yS pL.out (by kernel_rfl)) (by decide) (by decide) (fun K hK=>?_) (fun K hK=>?_)
          ·skip
           refine sH Tryz.func67 (by kernel_rfl) rfl #[.int .i64 (rd (d5 aq ak) (vw)), .int .i64 lW] (by rfl) rfl rfl (by(try simp only [List.map_toArray,List.map_cons,List.map_nil]);first | done | (simp only [Iv];rfl) | rfl | (simp only [List.length_drop,List.length_take];rfl)) ?_
           with_reducible refine(oM.calls k1 (rd (d5 aq ak) (vw)) lW aH aI _ EA.out).mono ?_
           rintro e Jx ⟨rfl,hb⟩;refine⟨_,rfl,?_⟩
           replace av:=rK av hb;replace aa:=lZ aa hb;replace HB:=lT hb;(try clear hb)
           
           (try clear hk)
           
           refine hK.out _ _ ⟨(bp aa.out 0).trans rfl,(bp aa.out 1).trans rfl,(bp aa.out 2).trans rfl,((bc_ HB.out af:)),((bc_ HB.out ag:)),((bc_ HB.out ah:))⟩ (fun hHeld=>?_)
           clear hK K;refine mP (a':=?_) ?_ ?_
           rotate_left
           ·show Act.put _ (some 33) _=_
            simp only [Act.put,List.setIfInBounds_toArray,List.set_cons_zero,List.set_cons_succ,mT,nr]
            rfl
           refine Gq (i:=17) (j:=21) (Ni:=some 34) (Nj:=some 6) (fm 24 262143) (fm 24 2228223) rfl rfl rfl rfl (yS pL.out (by kernel_rfl)) (by decide) (by decide) (fun K hK=>?_) (fun K hK=>?_)
           ·skip
            refine sH Tryz.func68 (by kernel_rfl) rfl #[.agg #[.int .i64 aH, .int .i64 aI]] (by rfl) rfl rfl (by(try simp only [List.map_toArray,List.map_cons,List.map_nil]);first | done | rfl | (simp only [List.length_drop,List.length_take];rfl)) ?_
            with_reducible refine(pS.calls k1 aH aI aC aD aJ _ Gp.out).mono ?_
            rintro e Bp ⟨rfl,hb⟩;refine⟨_,rfl,?_⟩
            replace av:=rK av hb;replace aa:=lZ aa hb;replace HB:=lT hb;(try clear hb)
            
            (try clear hk)
            
            refine hK.out _ _ ⟨(bp aa.out 0).trans rfl,(bp aa.out 1).trans rfl,(bp aa.out 2).trans rfl,((bc_ HB.out af:)),((bc_ HB.out ag:)),((bc_ HB.out ah:))⟩ (fun hHeld=>?_)
            clear hK K;refine mP (a':=?_) ?_ ?_
            rotate_left
            ·show Act.put _ (some 34) _=_
             simp only [Act.put,List.setIfInBounds_toArray,List.set_cons_zero,List.set_cons_succ,mT,nr]
             rfl
            refine rm 18 16 19 35 20 36 ?_
            refine pz 21 (some 6) (fun K hK=>?_)
            refine rP ?hg (N:=6) ?hd (cs:= #[.int .i64 0, .int .i64 0]) (t:=58) ?hr ?_;(case hd=>rfl);(case hg=>rfl);(case hr=>first | (go_simp;done) | (go_simp;rfl))
            intro ae hg Rg cM hb;replace av:=q_ (Kd.oQ (Kd.um (m5 av.out) ae (Nat.le_of_eq hg.symm)) hb);have aw:=q_ (cM);have ai:=mq w hg;have aT:=mq w hg;have aj:=r7 hg aa;have ax:=rY hg aa;replace aa:=lZ aa hb;replace HB:=lT hb;clear hb cM hg;refine hK.out _ _ ⟨(bp aa.out 0).trans rfl,(bp aa.out 1).trans rfl,(bp aa.out 2).trans rfl,((bc_ HB.out af:)),((bc_ HB.out ag:)),((bc_ HB.out ah:))⟩ (fun hHeld=>?_)
            clear hK K;refine mP (a':=?_) ?_ ?_
            rotate_left
            ·show Act.put _ (some 6) _=_
             simp only [Act.put,List.setIfInBounds_toArray,List.set_cons_zero,List.set_cons_succ,mT,nr]
             rfl
            exact mP (by simp only [nY,Act.put,List.setIfInBounds_toArray,List.set_cons_zero,List.set_cons_succ]) (GN (ae) _ ⟨hHeld,(kR_ av.out (fun _ hk=>hk.2)),nj,nj,ai.out,aT.out,aj.out,ax.out,hb_⟩)
           ·skip
            refine rP ?hg (N:=6) ?hd (cs:= #[.int .i64 0, .int .i64 0]) (t:=58) ?hr ?_;(case hd=>rfl);(case hg=>rfl);(case hr=>first | (go_simp;done) | (go_simp;rfl))
            intro ae hg Bp cM hb;replace av:=q_ (Kd.oQ (Kd.um (m5 av.out) ae (Nat.le_of_eq hg.symm)) hb);have aw:=q_ (cM);have ai:=mq w hg;have aT:=mq w hg;have aj:=r7 hg aa;have ax:=rY hg aa;replace aa:=lZ aa hb;replace HB:=lT hb;clear hb cM hg;refine hK.out _ _ ⟨(bp aa.out 0).trans rfl,(bp aa.out 1).trans rfl,(bp aa.out 2).trans rfl,((bc_ HB.out af:)),((bc_ HB.out ag:)),((bc_ HB.out ah:))⟩ (fun hHeld=>?_)
            clear hK K;refine mP (a':=?_) ?_ ?_
            rotate_left
            ·show Act.put _ (some 6) _=_
             simp only [Act.put,List.setIfInBounds_toArray,List.set_cons_zero,List.set_cons_succ,mT,nr]
             rfl
            refine pz 17 (some 34) (fun K hK=>?_)
            refine sH Tryz.func68 (by kernel_rfl) rfl #[.agg #[.int .i64 aH, .int .i64 aI]] (by rfl) rfl rfl (by(try simp only [List.map_toArray,List.map_cons,List.map_nil]);first | done | rfl | (simp only [List.length_drop,List.length_take];rfl)) ?_
            with_reducible refine(pS.calls k1 aH aI aC aD aJ _ Gp.out).mono ?_
            rintro e Rg ⟨rfl,hb⟩;refine⟨_,rfl,?_⟩
            replace av:=rK av hb;replace aa:=lZ aa hb;replace aw:=lZ aw hb;replace HB:=lT hb;(try clear hb)
            
            (try clear hk)
            
            refine hK.out _ _ ⟨(bp aa.out 0).trans rfl,(bp aa.out 1).trans rfl,(bp aa.out 2).trans rfl,((bc_ HB.out af:)),((bc_ HB.out ag:)),((bc_ HB.out ah:))⟩ (fun hHeld=>?_)
            clear hK K;refine mP (a':=?_) ?_ ?_
            rotate_left
            ·show Act.put _ (some 34) _=_
             simp only [Act.put,List.setIfInBounds_toArray,List.set_cons_zero,List.set_cons_succ,mT,nr]
             rfl
            refine rm 18 16 19 35 20 36 ?_
            exact mP (by simp only [nY,Act.put,List.setIfInBounds_toArray,List.set_cons_zero,List.set_cons_succ]) (GN (ae) _ ⟨hHeld,(kR_ av.out (fun _ hk=>hk.2)),nj,nj,ai.out,aT.out,aj.out,ax.out,hb_⟩)
          ·skip
           refine rP ?hg (N:=6) ?hd (cs:= #[.int .i64 0, .int .i64 0]) (t:=58) ?hr ?_;(case hd=>rfl);(case hg=>rfl);(case hr=>first | (go_simp;done) | (go_simp;rfl))
           intro ae hg Jx cM hb;replace av:=q_ (Kd.oQ (Kd.um (m5 av.out) ae (Nat.le_of_eq hg.symm)) hb);have aw:=q_ (cM);have ai:=mq w hg;have aT:=mq w hg;have aj:=r7 hg aa;have ax:=rY hg aa;replace aa:=lZ aa hb;replace HB:=lT hb;clear hb cM hg;refine hK.out _ _ ⟨(bp aa.out 0).trans rfl,(bp aa.out 1).trans rfl,(bp aa.out 2).trans rfl,((bc_ HB.out af:)),((bc_ HB.out ag:)),((bc_ HB.out ah:))⟩ (fun hHeld=>?_)
           clear hK K;refine mP (a':=?_) ?_ ?_
           rotate_left
           ·show Act.put _ (some 6) _=_
            simp only [Act.put,List.setIfInBounds_toArray,List.set_cons_zero,List.set_cons_succ,mT,nr]
            rfl
           refine pz 16 (some 33) (fun K hK=>?_)
           refine sH Tryz.func67 (by kernel_rfl) rfl #[.int .i64 (rd (d5 aq ak) (vw)), .int .i64 lW] (by rfl) rfl rfl (by(try simp only [List.map_toArray,List.map_cons,List.map_nil]);first | done | (simp only [Iv];rfl) | rfl | (simp only [List.length_drop,List.length_take];rfl)) ?_
           with_reducible refine(oM.calls k1 (rd (d5 aq ak) (vw)) lW aH aI _ EA.out).mono ?_
           rintro e Bp ⟨rfl,hb⟩;refine⟨_,rfl,?_⟩
           replace av:=rK av hb;replace aa:=lZ aa hb;replace aw:=lZ aw hb;replace HB:=lT hb;(try clear hb)
           
           (try clear hk)
           
           refine hK.out _ _ ⟨(bp aa.out 0).trans rfl,(bp aa.out 1).trans rfl,(bp aa.out 2).trans rfl,((bc_ HB.out af:)),((bc_ HB.out ag:)),((bc_ HB.out ah:))⟩ (fun hHeld=>?_)
           clear hK K;refine mP (a':=?_) ?_ ?_
           rotate_left
           ·show Act.put _ (some 33) _=_
            simp only [Act.put,List.setIfInBounds_toArray,List.set_cons_zero,List.set_cons_succ,mT,nr]
            rfl
           refine pz 17 (some 34) (fun K hK=>?_)
           refine sH Tryz.func68 (by kernel_rfl) rfl #[.agg #[.int .i64 aH, .int .i64 aI]] (by rfl) rfl rfl (by(try simp only [List.map_toArray,List.map_cons,List.map_nil]);first | done | rfl | (simp only [List.length_drop,List.length_take];rfl)) ?_
           with_reducible refine(pS.calls k1 aH aI aC aD aJ _ Gp.out).mono ?_
           rintro e Rg ⟨rfl,hb⟩;refine⟨_,rfl,?_⟩
           replace av:=rK av hb;replace aa:=lZ aa hb;replace aw:=lZ aw hb;replace HB:=lT hb;(try clear hb)
           
           (try clear hk)
           
           refine hK.out _ _ ⟨(bp aa.out 0).trans rfl,(bp aa.out 1).trans rfl,(bp aa.out 2).trans rfl,((bc_ HB.out af:)),((bc_ HB.out ag:)),((bc_ HB.out ah:))⟩ (fun hHeld=>?_)
           clear hK K;refine mP (a':=?_) ?_ ?_
           rotate_left
           ·show Act.put _ (some 34) _=_
            simp only [Act.put,List.setIfInBounds_toArray,List.set_cons_zero,List.set_cons_succ,mT,nr]
            rfl
           refine rm 18 16 19 35 20 36 ?_
           exact mP (by simp only [nY,Act.put,List.setIfInBounds_toArray,List.set_cons_zero,List.set_cons_succ]) (GN (ae) _ ⟨hHeld,(kR_ av.out (fun _ hk=>hk.2)),nj,nj,ai.out,aT.out,aj.out,ax.out,hb_⟩)
         rintro ae ER ⟨hS_,h0_,h1_,h2_,h3_,h4_,h5_,h6_,h7_⟩;have rE:aE (Kd.R rU 58 ER w.heap.size (fun k_=>k_≠ae) u4 aU):=⟨h0_⟩
         have rD:aE (ER.heap[au]?=some (.cells #[.slice (some ay) aq.length aK, .int .i64 lW, .slice aM az.length aN] 107 (0,0))):=⟨h1_⟩
         have tN:aE (ER.heap[ae]?=some (.cells #[.int .i64 0, .int .i64 0] 58 (0,0))):=⟨h2_⟩
         have vv:aE (w.heap.size≤ae):=⟨h3_⟩
         have wk:aE (w.heap.size≤ae):=⟨h4_⟩
         have xG:aE (au≠ae):=⟨h5_⟩
         have y5:aE (ae≠au):=⟨h6_⟩
         have y4:aE (Below w.heap.size w ER):=⟨h7_⟩
         clear av aa HB h0_ h1_ h2_ h3_ h4_ h5_ h6_ h7_;have av:=rE;have aa:=rD;have aw:=tN;have ai:=vv;have aT:=wk;have aj:=xG;have ax:=y5;have HB:=y4;clear rE rD tN vv wk xG y5 y4;have hHeld:ER.cell? ⟨au,0,none⟩=some (.slice (some ay) aq.length aK)∧ER.cell? ⟨au,1,none⟩=some (.int .i64 lW)∧ER.cell? ⟨au,2,none⟩=some (.slice aM az.length aN)∧ER.cell? (ay.add (ak).toNat)=some (.slice (some aA) (d5 aq ak).length aG)∧ER.cell? (ay.add (ak).toNat)=some (.slice (some aA) (d5 aq ak).length aG)∧ER.cell? (aA.add ((vw)).toNat)=some (.int .i64 (rd (d5 aq ak) (vw))):=hS_;refine mP (a':=?_) ?_ ?_
         rotate_left
         ·simp only [nY,Act.put,List.setIfInBounds_toArray,List.set_cons_zero,List.set_cons_succ]
          rfl
         refine pz 22 none (fun K hK=>?_)
         have asN:=lS aw 0;have ar7:=gE aw.out 0;have ao4:=aj.out;have apw:=ax.out;have asM:=lS aw 1;have ar6:=gE aw.out 1;have ao3:=aj.out;have apv:=ax.out;refine rL (w1:=?_) (by rfl) rfl ?_ ?_
         rotate_left
         ·go_simp
          rfl
         refine hK.out _ _ ⟨((cell_far (p:=⟨ae,_,none⟩) aj.out _).trans (((cell_far (p:=⟨ae,_,none⟩) aj.out _).trans (hHeld.1)))),((cell_far (p:=⟨ae,_,none⟩) aj.out _).trans (((cell_far (p:=⟨ae,_,none⟩) aj.out _).trans (hHeld.2.1)))),((cell_far (p:=⟨ae,_,none⟩) aj.out _).trans (((cell_far (p:=⟨ae,_,none⟩) aj.out _).trans (hHeld.2.2.1)))),((cell_far (p:=⟨ae,_,none⟩) (by first | exact Nat.ne_of_lt (Nat.lt_of_lt_of_le (by have:=World.block_lt_of_cell? _ _ af;first | rwa [kf] at this | exact this) ai.out) | (rw [kf];exact Nat.ne_of_lt (Nat.lt_of_lt_of_le (by have:=World.block_lt_of_cell? _ _ af;first | rwa [kf] at this | exact this) ai.out)) | (show (Addr.add _ _).block≠_;rw [kf];exact Nat.ne_of_lt (Nat.lt_of_lt_of_le (by have:=World.block_lt_of_cell? _ _ af;first | rwa [kf] at this | exact this) ai.out)) | (dsimp only;exact Nat.ne_of_lt (Nat.lt_of_lt_of_le (by have:=World.block_lt_of_cell? _ _ af;first | rwa [kf] at this | exact this) ai.out))) _).trans (((cell_far (p:=⟨ae,_,none⟩) (by first | exact Nat.ne_of_lt (Nat.lt_of_lt_of_le (by have:=World.block_lt_of_cell? _ _ af;first | rwa [kf] at this | exact this) ai.out) | (rw [kf];exact Nat.ne_of_lt (Nat.lt_of_lt_of_le (by have:=World.block_lt_of_cell? _ _ af;first | rwa [kf] at this | exact this) ai.out)) | (show (Addr.add _ _).block≠_;rw [kf];exact Nat.ne_of_lt (Nat.lt_of_lt_of_le (by have:=World.block_lt_of_cell? _ _ af;first | rwa [kf] at this | exact this) ai.out)) | (dsimp only;exact Nat.ne_of_lt (Nat.lt_of_lt_of_le (by have:=World.block_lt_of_cell? _ _ af;first | rwa [kf] at this | exact this) ai.out))) _).trans (hHeld.2.2.2.1)))),((cell_far (p:=⟨ae,_,none⟩) (by first | exact Nat.ne_of_lt (Nat.lt_of_lt_of_le (by have:=World.block_lt_of_cell? _ _ ag;first | rwa [kf] at this | exact this) ai.out) | (rw [kf];exact Nat.ne_of_lt (Nat.lt_of_lt_of_le (by have:=World.block_lt_of_cell? _ _ ag;first | rwa [kf] at this | exact this) ai.out)) | (show (Addr.add _ _).block≠_;rw [kf];exact Nat.ne_of_lt (Nat.lt_of_lt_of_le (by have:=World.block_lt_of_cell? _ _ ag;first | rwa [kf] at this | exact this) ai.out)) | (dsimp only;exact Nat.ne_of_lt (Nat.lt_of_lt_of_le (by have:=World.block_lt_of_cell? _ _ ag;first | rwa [kf] at this | exact this) ai.out))) _).trans (((cell_far (p:=⟨ae,_,none⟩) (by first | exact Nat.ne_of_lt (Nat.lt_of_lt_of_le (by have:=World.block_lt_of_cell? _ _ ag;first | rwa [kf] at this | exact this) ai.out) | (rw [kf];exact Nat.ne_of_lt (Nat.lt_of_lt_of_le (by have:=World.block_lt_of_cell? _ _ ag;first | rwa [kf] at this | exact this) ai.out)) | (show (Addr.add _ _).block≠_;rw [kf];exact Nat.ne_of_lt (Nat.lt_of_lt_of_le (by have:=World.block_lt_of_cell? _ _ ag;first | rwa [kf] at this | exact this) ai.out)) | (dsimp only;exact Nat.ne_of_lt (Nat.lt_of_lt_of_le (by have:=World.block_lt_of_cell? _ _ ag;first | rwa [kf] at this | exact this) ai.out))) _).trans (hHeld.2.2.2.2.1)))),((cell_far (p:=⟨ae,_,none⟩) (by first | exact Nat.ne_of_lt (Nat.lt_of_lt_of_le (by have:=World.block_lt_of_cell? _ _ ah;first | rwa [kf] at this | exact this) ai.out) | (rw [kf];exact Nat.ne_of_lt (Nat.lt_of_lt_of_le (by have:=World.block_lt_of_cell? _ _ ah;first | rwa [kf] at this | exact this) ai.out)) | (show (Addr.add _ _).block≠_;rw [kf];exact Nat.ne_of_lt (Nat.lt_of_lt_of_le (by have:=World.block_lt_of_cell? _ _ ah;first | rwa [kf] at this | exact this) ai.out)) | (dsimp only;exact Nat.ne_of_lt (Nat.lt_of_lt_of_le (by have:=World.block_lt_of_cell? _ _ ah;first | rwa [kf] at this | exact this) ai.out))) _).trans (((cell_far (p:=⟨ae,_,none⟩) (by first | exact Nat.ne_of_lt (Nat.lt_of_lt_of_le (by have:=World.block_lt_of_cell? _ _ ah;first | rwa [kf] at this | exact this) ai.out) | (rw [kf];exact Nat.ne_of_lt (Nat.lt_of_lt_of_le (by have:=World.block_lt_of_cell? _ _ ah;first | rwa [kf] at this | exact this) ai.out)) | (show (Addr.add _ _).block≠_;rw [kf];exact Nat.ne_of_lt (Nat.lt_of_lt_of_le (by have:=World.block_lt_of_cell? _ _ ah;first | rwa [kf] at this | exact this) ai.out)) | (dsimp only;exact Nat.ne_of_lt (Nat.lt_of_lt_of_le (by have:=World.block_lt_of_cell? _ _ ah;first | rwa [kf] at this | exact this) ai.out))) _).trans (hHeld.2.2.2.2.2))))⟩ (fun hHeld=>?_)
         clear hK K;refine lX 23 7 ?_
         refine oA (qj pL.out (by kernel_rfl)) ?_
         have cz:=ax.out;have cA:=aj.out;obtain⟨bJ,bK,bL,bM⟩:=nF aw
         try go_wp2_with (first | ((with_reducible refine nL (b:= .append) (xs:= #[.tmp 40, .tmp 42]) rfl ?_);at_builtin;refine Kd.qo rU (w0:=w) w.heap.size rfl (.tmp 40) (.tmp 42) 49 58 (.agg #[(.int .i64 0),(.int .i64 0)]) 16 rfl Tryz.underlying49 Ip rfl (by decide) (by omega) u4 aU (⟨aC,aD⟩:mh) [.int .i64 aC, .int .i64 aD] (fun k_=>k_≠ae) (fun _=>False) rfl (by first | (go_simp;done) | (go_simp;rfl)) ?aP (fun _ hk=>hk.elim) ?aF ?aO ?aB ?aS ?aL ?_;(case aP=>exact Fz _ _ _ (⟨aC,aD⟩:mh));(case aB=>exact hb_);(case aF=>exact(fun k_ hk=>Kd.F6 (g:=ae) (o:= .cells #[.int .i64 aC, .int .i64 aD] 58 (0,0)) (oX) k_ hk));(case aO=>exact(kR_ (Kd.nN (p:=⟨ae,1,none⟩) (Kd.nN (p:=⟨ae,0,none⟩) (Kd.fY av.out (fun k_ hk=>(⟨hk,hk⟩:_∧k_≠ae))) (fun _ hk=>hk.2) (.int .i64 aC)) (fun _ hk=>hk.2) (.int .i64 aD)) (fun _ hk=>hk.1)));(case aS=>exact oI);(case aL=>have:=bz.out;omega);intro cC w24 ho hb hg hat;rw [← bA.out] at ho;replace aa:=q_ (m8 (g:=au) (o:= .cells #[.slice (some ay) aq.length aK, .int .i64 lW, .slice aM az.length aN] 107 (0,0)) (oX) hg (Kd.pJ av.out aa.out (by decide)));replace aw:=q_ (m8 (g:=ae) (o:= .cells #[.int .i64 aC, .int .i64 aD] 58 (0,0)) (oX) hg (Kd.I0 av.out (fun _ hk=>hk)));replace HB:=q_ (hb);have bC:=q_ (ho);clear av ho hb hg hat))
         go_roundg k1
         case measure=>have:=nA.out;omega
         case rel=>exact⟨(bn),(wrap64 (ak+1)),nM,H',⟨by have:=nA.out;omega⟩,⟨kR_ bC.out (fun _ hk=>trivial)⟩,⟨nj⟩,⟨hb_⟩⟩
        ·rw [if_neg rz] at H;exact absurd H (by simp)
       ·rw [if_neg qQ] at H;have GZ:=uJ qQ;have agj:=uI qQ;simp only [Option.some.injEq,Prod.mk.injEq] at H;obtain⟨rfl,rfl⟩:=H;obtain⟨bN,bO,bP,bQ,bS,bT⟩:=qI aa
        try go_wp2
        replace av:=q_ (Kd.mF av.out);replace aa:=q_ (mI aa.out);replace HB:=q_ (mS HB.out);have Kw:0≤(ak:Int):=l7;have J3:ak < (aq.length:Int):=l7;obtain⟨ay,bq,aG,aeC,vF,FL,FW⟩:=pI mR.out ak Kw J3;have af:=vF;cases aeC
        replace vF:=bc_ HB.out vF;have Gi:=q_ FW;have ah3:=q_ FL;clear FW FL;replace Kw:=eq_true Kw;replace J3:=eq_true J3;have Kv:0≤(ak:Int):=l7;have J2:ak < (aq.length:Int):=l7;obtain⟨aX,bu,bv,aeB,vE,FJ,FV⟩:=pI mR.out ak Kv J2;have ag:=vE;obtain rfl:ay=aX:=(by injection aeB)
        replace vE:=bc_ HB.out vE;have QZ:=q_ FV;have ah2:=q_ FJ;clear FV FJ;replace Kv:=eq_true Kv;replace J2:=eq_true J2;have vC:=Option.some.inj (vF.symm.trans vE);injection vC with vC D3 D4
        subst vC;subst D4;clear D3;have Ku:0≤((vw):Int):=l7;have J1:(vw) < ((d5 aq ak).length:Int):=l7;obtain⟨aA,aeA,wS⟩:=Kd.mA Gi.out (vw) Ku J1;have ah:=wS;cases aeA
        replace wS:=bc_ HB.out wS;replace Ku:=eq_true Ku;replace J1:=eq_true J1;refine qx (n:=24) (S:=fun w'=>w'.cell? ⟨au,0,none⟩=some (.slice (some ay) aq.length aK)∧w'.cell? ⟨au,1,none⟩=some (.int .i64 lW)∧w'.cell? ⟨au,2,none⟩=some (.slice aM az.length aN)∧w'.cell? (ay.add (ak).toNat)=some (.slice (some aA) (d5 aq ak).length aG)∧w'.cell? (ay.add (ak).toNat)=some (.slice (some aA) (d5 aq ak).length aG)∧w'.cell? (aA.add ((vw)).toNat)=some (.int .i64 (rd (d5 aq ak) (vw)))) (ds:= []) ⟨(bp aa.out 0).trans rfl,(bp aa.out 1).trans rfl,(bp aa.out 2).trans rfl,((bc_ HB.out af:)),((bc_ HB.out ag:)),((bc_ HB.out ah:))⟩ (fun hHeld=>?_);refine o9 mW.xO mW.vo (fun pL xA=>?_)
        generalize wr.drew=w26 at av aa HB Gi QZ vF vE wS hHeld ⊢
        refine sB 0 17 2 19 5 22 7 24 ?_;refine lX 14 31 ?_;refine mg 1 18 ?_;refine lX 3 20 ?_;refine mg 4 21 ?_;refine mg 6 23 ?_;refine lX 8 25 ?_;refine mg 9 26 ?_;refine rm 10 27 11 28 12 29 ?_;refine mg 13 30 ?_;refine mg 15 32 ?_
        refine zR (σ:=Nat) 2 (fm 24 4194303) (fun s_=> [(33, .agg #[.int .i64 aH, .int .i64 aI]),(34, .tuple #[.agg #[.int .i64 aC, .int .i64 aD], .int .i64 aJ]),(6, .pointer (some ⟨s_,0,none⟩)),(16, .tuple #[.agg #[.int .i64 aC, .int .i64 aD], .int .i64 aJ]),(35, .agg #[.int .i64 aC, .int .i64 aD]),(36, .int .i64 aJ)]) (fun s_ w'=>(w'.cell? ⟨au,0,none⟩=some (.slice (some ay) aq.length aK)∧w'.cell? ⟨au,1,none⟩=some (.int .i64 lW)∧w'.cell? ⟨au,2,none⟩=some (.slice aM az.length aN)∧w'.cell? (ay.add (ak).toNat)=some (.slice (some aA) (d5 aq ak).length aG)∧w'.cell? (ay.add (ak).toNat)=some (.slice (some aA) (d5 aq ak).length aG)∧w'.cell? (aA.add ((vw)).toNat)=some (.int .i64 (rd (d5 aq ak) (vw))))∧(Kd.R rU 58 w' w.heap.size (fun k_=>k_≠s_) u4 aU)∧(w'.heap[au]?=some (.cells #[.slice (some ay) aq.length aK, .int .i64 lW, .slice aM az.length aN] 107 (0,0)))∧(w'.heap[s_]?=some (.cells #[.int .i64 0, .int .i64 0] 58 (0,0)))∧(w.heap.size≤s_)∧(w.heap.size≤s_)∧(au≠s_)∧(s_≠au)∧(Below w.heap.size w w')) ?_ ?_
        rotate_left
        ·intro GN;refine Gq (i:=16) (j:=21) (Ni:=some 33) (Nj:=some 6) (fm 24 131071) (fm 24 2162687) rfl rfl rfl rfl (yS pL.out (by kernel_rfl)) (by decide) (by decide) (fun K hK=>?_) (fun K hK=>?_)
         ·skip
          refine sH Tryz.func67 (by kernel_rfl) rfl #[.int .i64 (rd (d5 aq ak) (vw)), .int .i64 lW] (by rfl) rfl rfl (by(try simp only [List.map_toArray,List.map_cons,List.map_nil]);first | done | (simp only [Iv];rfl) | rfl | (simp only [List.length_drop,List.length_take];rfl)) ?_
          with_reducible refine(oM.calls k1 (rd (d5 aq ak) (vw)) lW aH aI _ EA.out).mono ?_
          rintro e Rf ⟨rfl,hb⟩;refine⟨_,rfl,?_⟩
          replace av:=rK av hb;replace aa:=lZ aa hb;replace HB:=lT hb;(try clear hb)
          
          (try clear hk)
          
          refine hK.out _ _ ⟨(bp aa.out 0).trans rfl,(bp aa.out 1).trans rfl,(bp aa.out 2).trans rfl,((bc_ HB.out af:)),((bc_ HB.out ag:)),((bc_ HB.out ah:))⟩ (fun hHeld=>?_)
          clear hK K;refine mP (a':=?_) ?_ ?_
          rotate_left
          ·show Act.put _ (some 33) _=_
           simp only [Act.put,List.setIfInBounds_toArray,List.set_cons_zero,List.set_cons_succ,mT,nr]
           rfl
          refine Gq (i:=17) (j:=21) (Ni:=some 34) (Nj:=some 6) (fm 24 262143) (fm 24 2228223) rfl rfl rfl rfl (yS pL.out (by kernel_rfl)) (by decide) (by decide) (fun K hK=>?_) (fun K hK=>?_)
          ·skip
           refine sH Tryz.func68 (by kernel_rfl) rfl #[.agg #[.int .i64 aH, .int .i64 aI]] (by rfl) rfl rfl (by(try simp only [List.map_toArray,List.map_cons,List.map_nil]);first | done | rfl | (simp only [List.length_drop,List.length_take];rfl)) ?_
           with_reducible refine(pS.calls k1 aH aI aC aD aJ _ Gp.out).mono ?_
           rintro e w28 ⟨rfl,hb⟩;refine⟨_,rfl,?_⟩
           replace av:=rK av hb;replace aa:=lZ aa hb;replace HB:=lT hb;(try clear hb)
           
           (try clear hk)
           
           refine hK.out _ _ ⟨(bp aa.out 0).trans rfl,(bp aa.out 1).trans rfl,(bp aa.out 2).trans rfl,((bc_ HB.out af:)),((bc_ HB.out ag:)),((bc_ HB.out ah:))⟩ (fun hHeld=>?_)
           clear hK K;refine mP (a':=?_) ?_ ?_
           rotate_left
           ·show Act.put _ (some 34) _=_
            simp only [Act.put,List.setIfInBounds_toArray,List.set_cons_zero,List.set_cons_succ,mT,nr]
            rfl
           refine rm 18 16 19 35 20 36 ?_
           refine pz 21 (some 6) (fun K hK=>?_)
           refine rP ?hg (N:=6) ?hd (cs:= #[.int .i64 0, .int .i64 0]) (t:=58) ?hr ?_;(case hd=>rfl);(case hg=>rfl);(case hr=>first | (go_simp;done) | (go_simp;rfl))
           intro ae hg UJ cM hb;replace av:=q_ (Kd.oQ (Kd.um (m5 av.out) ae (Nat.le_of_eq hg.symm)) hb);have aw:=q_ (cM);have ai:=mq w hg;have aT:=mq w hg;have aj:=r7 hg aa;have ax:=rY hg aa;replace aa:=lZ aa hb;replace HB:=lT hb;clear hb cM hg;refine hK.out _ _ ⟨(bp aa.out 0).trans rfl,(bp aa.out 1).trans rfl,(bp aa.out 2).trans rfl,((bc_ HB.out af:)),((bc_ HB.out ag:)),((bc_ HB.out ah:))⟩ (fun hHeld=>?_)
           clear hK K;refine mP (a':=?_) ?_ ?_
           rotate_left
           ·show Act.put _ (some 6) _=_
            simp only [Act.put,List.setIfInBounds_toArray,List.set_cons_zero,List.set_cons_succ,mT,nr]
            rfl
           exact mP (by simp only [nY,Act.put,List.setIfInBounds_toArray,List.set_cons_zero,List.set_cons_succ]) (GN (ae) _ ⟨hHeld,(kR_ av.out (fun _ hk=>hk.2)),nj,nj,ai.out,aT.out,aj.out,ax.out,hb_⟩)
          ·skip
           refine rP ?hg (N:=6) ?hd (cs:= #[.int .i64 0, .int .i64 0]) (t:=58) ?hr ?_;(case hd=>rfl);(case hg=>rfl);(case hr=>first | (go_simp;done) | (go_simp;rfl))
           intro ae hg w28 cM hb;replace av:=q_ (Kd.oQ (Kd.um (m5 av.out) ae (Nat.le_of_eq hg.symm)) hb);have aw:=q_ (cM);have ai:=mq w hg;have aT:=mq w hg;have aj:=r7 hg aa;have ax:=rY hg aa;replace aa:=lZ aa hb;replace HB:=lT hb;clear hb cM hg;refine hK.out _ _ ⟨(bp aa.out 0).trans rfl,(bp aa.out 1).trans rfl,(bp aa.out 2).trans rfl,((bc_ HB.out af:)),((bc_ HB.out ag:)),((bc_ HB.out ah:))⟩ (fun hHeld=>?_)
           clear hK K;refine mP (a':=?_) ?_ ?_
           rotate_left
           ·show Act.put _ (some 6) _=_
            simp only [Act.put,List.setIfInBounds_toArray,List.set_cons_zero,List.set_cons_succ,mT,nr]
            rfl
           refine pz 17 (some 34) (fun K hK=>?_)
           refine sH Tryz.func68 (by kernel_rfl) rfl #[.agg #[.int .i64 aH, .int .i64 aI]] (by rfl) rfl rfl (by(try simp only [List.map_toArray,List.map_cons,List.map_nil]);first | done | rfl | (simp only [List.length_drop,List.length_take];rfl)) ?_
           with_reducible refine(pS.calls k1 aH aI aC aD aJ _ Gp.out).mono ?_
           rintro e UJ ⟨rfl,hb⟩;refine⟨_,rfl,?_⟩
           replace av:=rK av hb;replace aa:=lZ aa hb;replace aw:=lZ aw hb;replace HB:=lT hb;(try clear hb)
           
           (try clear hk)
           
           refine hK.out _ _ ⟨(bp aa.out 0).trans rfl,(bp aa.out 1).trans rfl,(bp aa.out 2).trans rfl,((bc_ HB.out af:)),((bc_ HB.out ag:)),((bc_ HB.out ah:))⟩ (fun hHeld=>?_)
           clear hK K;refine mP (a':=?_) ?_ ?_
           rotate_left
           ·show Act.put _ (some 34) _=_
            simp only [Act.put,List.setIfInBounds_toArray,List.set_cons_zero,List.set_cons_succ,mT,nr]
            rfl
           refine rm 18 16 19 35 20 36 ?_
           exact mP (by simp only [nY,Act.put,List.setIfInBounds_toArray,List.set_cons_zero,List.set_cons_succ]) (GN (ae) _ ⟨hHeld,(kR_ av.out (fun _ hk=>hk.2)),nj,nj,ai.out,aT.out,aj.out,ax.out,hb_⟩)
         ·skip
          refine rP ?hg (N:=6) ?hd (cs:= #[.int .i64 0, .int .i64 0]) (t:=58) ?hr ?_;(case hd=>rfl);(case hg=>rfl);(case hr=>first | (go_simp;done) | (go_simp;rfl))
          intro ae hg Rf cM hb;replace av:=q_ (Kd.oQ (Kd.um (m5 av.out) ae (Nat.le_of_eq hg.symm)) hb);have aw:=q_ (cM);have ai:=mq w hg;have aT:=mq w hg;have aj:=r7 hg aa;have ax:=rY hg aa;replace aa:=lZ aa hb;replace HB:=lT hb;clear hb cM hg;refine hK.out _ _ ⟨(bp aa.out 0).trans rfl,(bp aa.out 1).trans rfl,(bp aa.out 2).trans rfl,((bc_ HB.out af:)),((bc_ HB.out ag:)),((bc_ HB.out ah:))⟩ (fun hHeld=>?_)
          clear hK K;refine mP (a':=?_) ?_ ?_
          rotate_left
          ·show Act.put _ (some 6) _=_
           simp only [Act.put,List.setIfInBounds_toArray,List.set_cons_zero,List.set_cons_succ,mT,nr]
           rfl
          refine pz 16 (some 33) (fun K hK=>?_)
          refine sH Tryz.func67 (by kernel_rfl) rfl #[.int .i64 (rd (d5 aq ak) (vw)), .int .i64 lW] (by rfl) rfl rfl (by(try simp only [List.map_toArray,List.map_cons,List.map_nil]);first | done | (simp only [Iv];rfl) | rfl | (simp only [List.length_drop,List.length_take];rfl)) ?_
          with_reducible refine(oM.calls k1 (rd (d5 aq ak) (vw)) lW aH aI _ EA.out).mono ?_
          rintro e w28 ⟨rfl,hb⟩;refine⟨_,rfl,?_⟩
          replace av:=rK av hb;replace aa:=lZ aa hb;replace aw:=lZ aw hb;replace HB:=lT hb;(try clear hb)
          
          (try clear hk)
          
          refine hK.out _ _ ⟨(bp aa.out 0).trans rfl,(bp aa.out 1).trans rfl,(bp aa.out 2).trans rfl,((bc_ HB.out af:)),((bc_ HB.out ag:)),((bc_ HB.out ah:))⟩ (fun hHeld=>?_)
          clear hK K;refine mP (a':=?_) ?_ ?_
          rotate_left
          ·show Act.put _ (some 33) _=_
           simp only [Act.put,List.setIfInBounds_toArray,List.set_cons_zero,List.set_cons_succ,mT,nr]
           rfl
          refine pz 17 (some 34) (fun K hK=>?_)
          refine sH Tryz.func68 (by kernel_rfl) rfl #[.agg #[.int .i64 aH, .int .i64 aI]] (by rfl) rfl rfl (by(try simp only [List.map_toArray,List.map_cons,List.map_nil]);first | done | rfl | (simp only [List.length_drop,List.length_take];rfl)) ?_
          with_reducible refine(pS.calls k1 aH aI aC aD aJ _ Gp.out).mono ?_
          rintro e UJ ⟨rfl,hb⟩;refine⟨_,rfl,?_⟩
          replace av:=rK av hb;replace aa:=lZ aa hb;replace aw:=lZ aw hb;replace HB:=lT hb;(try clear hb)
          
          (try clear hk)
          
          refine hK.out _ _ ⟨(bp aa.out 0).trans rfl,(bp aa.out 1).trans rfl,(bp aa.out 2).trans rfl,((bc_ HB.out af:)),((bc_ HB.out ag:)),((bc_ HB.out ah:))⟩ (fun hHeld=>?_)
          clear hK K;refine mP (a':=?_) ?_ ?_
          rotate_left
          ·show Act.put _ (some 34) _=_
           simp only [Act.put,List.setIfInBounds_toArray,List.set_cons_zero,List.set_cons_succ,mT,nr]
           rfl
          refine rm 18 16 19 35 20 36 ?_
          exact mP (by simp only [nY,Act.put,List.setIfInBounds_toArray,List.set_cons_zero,List.set_cons_succ]) (GN (ae) _ ⟨hHeld,(kR_ av.out (fun _ hk=>hk.2)),nj,nj,ai.out,aT.out,aj.out,ax.out,hb_⟩)
        rintro ae Fo ⟨hS_,h0_,h1_,h2_,h3_,h4_,h5_,h6_,h7_⟩;have rE:aE (Kd.R rU 58 Fo w.heap.size (fun k_=>k_≠ae) u4 aU):=⟨h0_⟩
        have rD:aE (Fo.heap[au]?=some (.cells #[.slice (some ay) aq.length aK, .int .i64 lW, .slice aM az.length aN] 107 (0,0))):=⟨h1_⟩
        have tN:aE (Fo.heap[ae]?=some (.cells #[.int .i64 0, .int .i64 0] 58 (0,0))):=⟨h2_⟩
        have vv:aE (w.heap.size≤ae):=⟨h3_⟩
        have wk:aE (w.heap.size≤ae):=⟨h4_⟩
        have xG:aE (au≠ae):=⟨h5_⟩
        have y5:aE (ae≠au):=⟨h6_⟩
        have y4:aE (Below w.heap.size w Fo):=⟨h7_⟩
        clear av aa HB h0_ h1_ h2_ h3_ h4_ h5_ h6_ h7_;have av:=rE;have aa:=rD;have aw:=tN;have ai:=vv;have aT:=wk;have aj:=xG;have ax:=y5;have HB:=y4;clear rE rD tN vv wk xG y5 y4;have hHeld:Fo.cell? ⟨au,0,none⟩=some (.slice (some ay) aq.length aK)∧Fo.cell? ⟨au,1,none⟩=some (.int .i64 lW)∧Fo.cell? ⟨au,2,none⟩=some (.slice aM az.length aN)∧Fo.cell? (ay.add (ak).toNat)=some (.slice (some aA) (d5 aq ak).length aG)∧Fo.cell? (ay.add (ak).toNat)=some (.slice (some aA) (d5 aq ak).length aG)∧Fo.cell? (aA.add ((vw)).toNat)=some (.int .i64 (rd (d5 aq ak) (vw))):=hS_;refine mP (a':=?_) ?_ ?_
        rotate_left
        ·simp only [nY,Act.put,List.setIfInBounds_toArray,List.set_cons_zero,List.set_cons_succ]
         rfl
        refine pz 22 none (fun K hK=>?_)
        have asI:=lS aw 0;have ar2:=gE aw.out 0;have aoY:=aj.out;have apq:=ax.out;have asH:=lS aw 1;have ar1:=gE aw.out 1;have aoX:=aj.out;have apo:=ax.out;refine rL (w1:=?_) (by rfl) rfl ?_ ?_
        rotate_left
        ·go_simp
         rfl
        refine hK.out _ _ ⟨((cell_far (p:=⟨ae,_,none⟩) aj.out _).trans (((cell_far (p:=⟨ae,_,none⟩) aj.out _).trans (hHeld.1)))),((cell_far (p:=⟨ae,_,none⟩) aj.out _).trans (((cell_far (p:=⟨ae,_,none⟩) aj.out _).trans (hHeld.2.1)))),((cell_far (p:=⟨ae,_,none⟩) aj.out _).trans (((cell_far (p:=⟨ae,_,none⟩) aj.out _).trans (hHeld.2.2.1)))),((cell_far (p:=⟨ae,_,none⟩) (by first | exact Nat.ne_of_lt (Nat.lt_of_lt_of_le (by have:=World.block_lt_of_cell? _ _ af;first | rwa [kf] at this | exact this) ai.out) | (rw [kf];exact Nat.ne_of_lt (Nat.lt_of_lt_of_le (by have:=World.block_lt_of_cell? _ _ af;first | rwa [kf] at this | exact this) ai.out)) | (show (Addr.add _ _).block≠_;rw [kf];exact Nat.ne_of_lt (Nat.lt_of_lt_of_le (by have:=World.block_lt_of_cell? _ _ af;first | rwa [kf] at this | exact this) ai.out)) | (dsimp only;exact Nat.ne_of_lt (Nat.lt_of_lt_of_le (by have:=World.block_lt_of_cell? _ _ af;first | rwa [kf] at this | exact this) ai.out))) _).trans (((cell_far (p:=⟨ae,_,none⟩) (by first | exact Nat.ne_of_lt (Nat.lt_of_lt_of_le (by have:=World.block_lt_of_cell? _ _ af;first | rwa [kf] at this | exact this) ai.out) | (rw [kf];exact Nat.ne_of_lt (Nat.lt_of_lt_of_le (by have:=World.block_lt_of_cell? _ _ af;first | rwa [kf] at this | exact this) ai.out)) | (show (Addr.add _ _).block≠_;rw [kf];exact Nat.ne_of_lt (Nat.lt_of_lt_of_le (by have:=World.block_lt_of_cell? _ _ af;first | rwa [kf] at this | exact this) ai.out)) | (dsimp only;exact Nat.ne_of_lt (Nat.lt_of_lt_of_le (by have:=World.block_lt_of_cell? _ _ af;first | rwa [kf] at this | exact this) ai.out))) _).trans (hHeld.2.2.2.1)))),((cell_far (p:=⟨ae,_,none⟩) (by first | exact Nat.ne_of_lt (Nat.lt_of_lt_of_le (by have:=World.block_lt_of_cell? _ _ ag;first | rwa [kf] at this | exact this) ai.out) | (rw [kf];exact Nat.ne_of_lt (Nat.lt_of_lt_of_le (by have:=World.block_lt_of_cell? _ _ ag;first | rwa [kf] at this | exact this) ai.out)) | (show (Addr.add _ _).block≠_;rw [kf];exact Nat.ne_of_lt (Nat.lt_of_lt_of_le (by have:=World.block_lt_of_cell? _ _ ag;first | rwa [kf] at this | exact this) ai.out)) | (dsimp only;exact Nat.ne_of_lt (Nat.lt_of_lt_of_le (by have:=World.block_lt_of_cell? _ _ ag;first | rwa [kf] at this | exact this) ai.out))) _).trans (((cell_far (p:=⟨ae,_,none⟩) (by first | exact Nat.ne_of_lt (Nat.lt_of_lt_of_le (by have:=World.block_lt_of_cell? _ _ ag;first | rwa [kf] at this | exact this) ai.out) | (rw [kf];exact Nat.ne_of_lt (Nat.lt_of_lt_of_le (by have:=World.block_lt_of_cell? _ _ ag;first | rwa [kf] at this | exact this) ai.out)) | (show (Addr.add _ _).block≠_;rw [kf];exact Nat.ne_of_lt (Nat.lt_of_lt_of_le (by have:=World.block_lt_of_cell? _ _ ag;first | rwa [kf] at this | exact this) ai.out)) | (dsimp only;exact Nat.ne_of_lt (Nat.lt_of_lt_of_le (by have:=World.block_lt_of_cell? _ _ ag;first | rwa [kf] at this | exact this) ai.out))) _).trans (hHeld.2.2.2.2.1)))),((cell_far (p:=⟨ae,_,none⟩) (by first | exact Nat.ne_of_lt (Nat.lt_of_lt_of_le (by have:=World.block_lt_of_cell? _ _ ah;first | rwa [kf] at this | exact this) ai.out) | (rw [kf];exact Nat.ne_of_lt (Nat.lt_of_lt_of_le (by have:=World.block_lt_of_cell? _ _ ah;first | rwa [kf] at this | exact this) ai.out)) | (show (Addr.add _ _).block≠_;rw [kf];exact Nat.ne_of_lt (Nat.lt_of_lt_of_le (by have:=World.block_lt_of_cell? _ _ ah;first | rwa [kf] at this | exact this) ai.out)) | (dsimp only;exact Nat.ne_of_lt (Nat.lt_of_lt_of_le (by have:=World.block_lt_of_cell? _ _ ah;first | rwa [kf] at this | exact this) ai.out))) _).trans (((cell_far (p:=⟨ae,_,none⟩) (by first | exact Nat.ne_of_lt (Nat.lt_of_lt_of_le (by have:=World.block_lt_of_cell? _ _ ah;first | rwa [kf] at this | exact this) ai.out) | (rw [kf];exact Nat.ne_of_lt (Nat.lt_of_lt_of_le (by have:=World.block_lt_of_cell? _ _ ah;first | rwa [kf] at this | exact this) ai.out)) | (show (Addr.add _ _).block≠_;rw [kf];exact Nat.ne_of_lt (Nat.lt_of_lt_of_le (by have:=World.block_lt_of_cell? _ _ ah;first | rwa [kf] at this | exact this) ai.out)) | (dsimp only;exact Nat.ne_of_lt (Nat.lt_of_lt_of_le (by have:=World.block_lt_of_cell? _ _ ah;first | rwa [kf] at this | exact this) ai.out))) _).trans (hHeld.2.2.2.2.2))))⟩ (fun hHeld=>?_)
        clear hK K;refine lX 23 7 ?_
        refine oA (qj pL.out (by kernel_rfl)) ?_
        try go_wp2
        go_ret2
        exact⟨_,by first | rfl | (simp [qY,qX] <;> rfl) | (simp only [← Iv];first | rfl | (simp [qY,qX] <;> rfl)) | (simp [*,qY,qX] <;> rfl),by first | exact Kd.qT _ _ _ _ _ | exact Kd.uy _ _ _ _ _ | exact Kd.uw _ _ _ _ _ | exact Kd.ux _ _ _ _ _ | exact Kd.sJ _ _ _ _ _,hb_⟩
      ·rw [if_neg c9] at H;exact absurd H (by simp)
     ·rw [if_neg c8] at H;exact absurd H (by simp)
    ·rw [if_neg c6] at H;exact absurd H (by simp)
   ·rw [if_neg c5] at H;have uP:=decide_eq_false c5;clear c5;simp only [Option.some.injEq,Prod.mk.injEq] at H;obtain⟨rfl,rfl⟩:=H;obtain⟨bU,bV,bW,bX,bY,bZ⟩:=qI aa;go_wp2
    go_ret2
    exact⟨_,pH,m5 av.out,hb_⟩
end Go.Proofs.YthmfdplckdijdaaGreat.Pr
end
section
namespace Go.Proofs.YthmfdplckdijdaaGreat.uF
open Go.RowKit Wz.cw Wz.cX Ma Pr Dt Lk Lt Lq Lp Fr
theorem ZC {n m:Nat} {s:TS} (hm:m=2*n+2) (hn:n≤5) (hT: ∀a c,a < n→c < m→uN (s.T a c)) (hd:0 < s.den) (hd2:s.den≤1920000000):Ev (fun k=>mW.f k (nP n m s.T) s.den s.bs) (uO (fun i=>pP (s.T i (2*n+1)) s.den) n 0 []):=by
 have hbd:xK s.den:=⟨by omega,by omega⟩
 have big: ∀i,i < n→xK (s.T i (2*n+1)):=fun i hi=>by
  have:=hT i (2*n+1) hi (by omega)
  unfold uN at this
  exact⟨by omega,by omega⟩
 have loop: ∀q x acc,x+q=n→acc.length≤x→Ev (fun k=>mW.l0 k acc (x:Int) (nP n m s.T) s.den s.bs) (uO (fun i=>pP (s.T i (2*n+1)) s.den) q x acc):=by
  intro q
  induction q with
  | zero=>
   intro x acc h1 h2
   refine mC (fun k=>by rw [mW.l0]) ?_
   exact lV (by rw [sA];omega) (oK rfl)
  | succ q ih=>
   intro x acc h1 h2
   refine mC (fun k=>by rw [mW.l0]) ?_
   refine cY (by rw [sA];omega) (cY (by omega) ?_)
   rw [zB (show x < n by omega),qh,nH (x:=((m:Nat):Int) - 1) (by omega) (by omega),show ((m:Nat):Int) - 1=((2*n+1:Nat):Int) from by omega,Cy (by omega),nH (x:=(x:Int)+1) (by omega) (by omega)]
   refine cY (by omega) (cY (by omega) (oH (UR _ _ (big x (by omega)) hbd hd) (oH (X8 _ _) ?_)))
   unfold uO
   by_cases c:(pP (s.T x (2*n+1)) s.den).2.2=0
   ·rw [if_pos c]
    exact cY c (cY (by omega) (ih (x+1) _ (by omega) (by simp;omega)))
   ·rw [if_neg c]
    exact lV c (oK rfl)
 exact loop n 0 [] (by omega) (Nat.le_refl _)
end Go.Proofs.YthmfdplckdijdaaGreat.uF
end
section
namespace Go.Proofs.YthmfdplckdijdaaGreat.Pr
open Go.RowKit Wz.cw Wz.fX Wz.cX
attribute [local go_sem] nV nT oF oD nC nB nU nS
mutual
def oo.l0:Nat→List (mh)→Int→List (mh)→Int→List (List Int)→Int→List Int→Option ((List (mh)) × Int)
 | 0,_,_,_,_,_,_,_=>none
 | k+1,x4,x6,x7,x8,ae,af,aa=>if x8 < x6 then(oo.l1 k x4 x6 x7 x8 0 ae af aa 0 1) else(some (x7,0))
def oo.l1:Nat→List (mh)→Int→List (mh)→Int→Int→List (List Int)→Int→List Int→Int→Int→Option ((List (mh)) × Int)
 | 0,_,_,_,_,_,_,_,_,_,_=>none
 | k+1,x4,x6,x7,x8,x10,ae,af,aa,ag,ah=>if x10 < (aa.length:Int) then(if 0≤x10 then(if(rd aa x10)=(wrap64 (x6+x8)) then(if x10 < (x4.length:Int) then(oo.l1 k x4 x6 x7 x8 (wrap64 (x10+1)) ae af aa ((kB x4 x10).f0) ((kB x4 x10).f1)) else(none)) else(oo.l1 k x4 x6 x7 x8 (wrap64 (x10+1)) ae af aa ag ah)) else(none)) else(if x7.length < 8796093022208 then(oo.l0 k x4 x6 (x7++ [(⟨ag,ah⟩:mh)]) (wrap64 (x8+1)) ae af aa) else(none))
end
def oo.f (k:Nat) (ae:List (List Int)) (lW:Int) (af:List Int):Option ((List (mh)) × Int):=(mW.f k ae lW af).bind fun aa=>(if aa.2=0 then(oo.l0 k aa.1 (ae.length:Int) (([]:List (mh))) 0 ae lW af) else(some (([]:List (mh)),aa.2)))
theorem oo.calls (k:Nat) (aw:Option Addr) (ax:Nat) (af:List (List Int)) (lW:Int) (ay:Option Addr) (az:Nat) (ah:List Int) (r1:List (mh)) (r2:Int) (w:World) (bv:Kd.C (Kd.slice 2 (Kd.int .i64)) w aw af.length af) (bw:af.length≤ax) (bz:Kd.C (Kd.int .i64) w ay ah.length ah) (bA:ah.length≤az) (h:oo.f k af lW ah=some (r1,r2)):
  Calls Tryz.prog 66 #[.agg #[.slice aw af.length ax, .int .i64 lW, .slice ay ah.length az]] w fun e w'=> ∃qg:Value,e= .returned (.tuple #[qg, .int .i64 r2])∧Kd.R rU 58 w' w.heap.size (fun _=>True) qg r1∧Below w.heap.size w w':=by
 have Dp:=Tryz.underlying107;have DV:=Tryz.underlying58;have mR:=q_ bv;have oh:=q_ bw;clear bv bw;have Dy:=q_ bz;have Hf:=q_ bA;clear bz bA;have HB:=q_ (Below.refl w.heap.size w);have H:((mW.f k af lW ah).bind fun aM=>(if aM.2=0 then(oo.l0 k aM.1 (af.length:Int) (([]:List (mh))) 0 af lW ah) else(some (([]:List (mh)),aM.2))))=some (r1,r2):=h;clear h;replace H:=Option.bind_eq_some_iff.mp H;obtain⟨⟨av,aH⟩,E9,H⟩:=H;replace H:(if aH=0 then(oo.l0 k av (af.length:Int) (([]:List (mh))) 0 af lW ah) else(some (([]:List (mh)),aH)))=some (r1,r2):=H;have A2:=q_ E9;clear E9
 by_cases c3:aH=0
 ·rw [if_pos c3] at H;have qP:=yh c3;have vV:=yg c3;clear c3;obtain⟨bH,hy⟩: ∃y_:List (mh),y_=(([]:List (mh))):=⟨_,rfl⟩
  replace H:(oo.l0 k av (af.length:Int) bH 0 af lW ah)=some (r1,r2):=hh_;have bC:=q_ hy;clear hy;have H':=q_ H;clear H
  go_enter Tryz.func66,Tryz.ntmps66
  go_wp2_with (first | ((with_reducible refine dg (N:=1) rfl ?_);refine nR 1 #[.slice aw af.length ax, .int .i64 lW, .slice ay ah.length az] 107 ?_;intro ai hg w4 cM hb;have aa:=q_ (cM);have bJ:=mq w hg;have bK:=mq w hg;replace HB:=lT hb;clear hb cM hg;obtain⟨aW,aX,aY,aZ,a9,ba⟩:=qI aa) | ((with_reducible refine d8 (f:=112) rfl ?_);refine oJ 13 Tryz.func112 #[.agg #[.slice aw af.length ax, .int .i64 lW, .slice ay ah.length az]] ?_;(with_reducible refine(mW.calls k _ _ af lW _ _ ah av aH _ ?aN ?aT ?aU ?aV A2.out).mono ?_);(case aN=>exact ni mR.out HB.out);(case aT=>exact oh.out);(case aU=>exact ni Dy.out HB.out);(case aV=>exact Hf.out);rintro e w6 ⟨aK,rfl,ho0,hb⟩;refine⟨_,rfl,?_⟩;have aJ:=q_ (Kd.ng ho0 oI);replace aa:=lZ aa hb;replace HB:=lT hb;(try clear hb);(try clear hk);(try clear ho0);obtain⟨bg,bh,bi,bn,bq,bu⟩:=qI aa) | ((with_reducible refine dg (N:=22) rfl ?_);refine Kd.tu rU _ 58 ?hg (N:=22) ?hd (xs:=([]:List (mh))) (inner:= []) (ok:=fun _=>True) (oC:=fun _=>True) ?hr ?hp (fun _ hk=>hk) trivial (Below.refl _ _) (Nat.le_refl _) (by simp) ?_;(case hd=>rfl);(case hg=>rfl);(case hr=>first | (go_simp;done) | (go_simp;rfl));(case hp=>exact(mV.none _ _));intro dB w8 ho9 hb hg_ om;clear hg_ om;(first | rw [← bC.out] at ho9 | (simp only [Int.reduceToNat] at ho9;rw [← bC.out] at ho9));have bL:=q_ (Kd.ng (Kd.wo ho9 (Kd.qw (m5 aJ.out))) oI);replace aa:=lZ aa hb;replace aJ:=q_ (Kd.tV (m5 aJ.out) (Kd.o8 ho9) hb);replace HB:=lT hb;clear hb ho9))
  go_loopg [7,8] k (fun kq v7 v8 w'=> ∃(aI:List (mh)) (aA:Int),v8= .int .i64 aA∧aE (oo.l0 kq av (af.length:Int) aI aA af lW ah=some (r1,r2))∧aE (kq≤k)∧aE (Kd.R rU 58 w' w.heap.size (fun k_=>some k_≠(v7:Value).ownBlock) aK av)∧aE (Kd.R rU 58 w' w.heap.size (fun k_=>some k_≠(aK:Value).ownBlock) v7 aI)∧aE (w'.heap[ai]?=some (.cells #[(.slice aw af.length ax), .int .i64 lW,(.slice ay ah.length az)] 107 (0,0)))∧aE (Below w.heap.size w w'))
  case atStart=>exact⟨(bH),(0),nM,H',⟨Nat.le_refl _⟩,⟨kR_ aJ.out (fun _ hk=>hk.2)⟩,⟨kR_ bL.out (fun _ hk=>hk.2)⟩,⟨nj⟩,⟨hb_⟩⟩
  case round=>
   clear H';(try clear c3);(try clear qP);(try clear vV);(try clear aW);(try clear aX);(try clear aY);(try clear bg);(try clear bh);(try clear bi);(try clear aZ);(try clear a9);(try clear ba);(try clear bn);(try clear bq);(try clear bu);obtain⟨aI,aA,rfl,HA,nA,aC,aD,aa,HB⟩:=hrel;cases gk with
   | zero=>exact absurd HA.out (by simp [oo.l0])
   | succ k1=>
    have H:=HA.out;clear HA;simp only [oo.l0] at H
    by_cases qF:aA < (af.length:Int)
    ·rw [if_pos qF] at H;have xU:=decide_eq_true qF;clear qF;have H':=q_ H;clear H
     go_wp2_with (first | ((with_reducible refine dg (N:=9) rfl ?_);refine nR 9 #[.int .i64 0, .int .i64 0] 58 ?_;intro ag hg rB cM hb;replace aC:=q_ (Kd.oQ (Kd.um (m5 aC.out) ag (Nat.le_of_eq hg.symm)) hb);replace aD:=q_ (Kd.oQ (Kd.um (m5 aD.out) ag (Nat.le_of_eq hg.symm)) hb);have aq:=q_ (cM);have db:=mq w hg;have df:=mq w hg;have au:=r7 hg aa;have aG:=rY hg aa;replace aa:=lZ aa hb;replace HB:=lT hb;clear hb cM hg;have dh:=aG.out;have di:=au.out;obtain⟨bD,bE,bF,bG⟩:=nF aq))
     go_loopg [10] k1 (fun kq v10 w'=> ∃(ae:Int) (ak:Int) (aj:Int),v10= .int .i64 ae∧aE (oo.l1 kq av (af.length:Int) aI aA ae af lW ah ak aj=some (r1,r2))∧aE (kq≤k1)∧aE (Kd.R rU 58 w' w.heap.size (fun k_=>some k_≠(u7:Value).ownBlock∧k_≠ag) aK av)∧aE (Kd.R rU 58 w' w.heap.size (fun k_=>some k_≠(aK:Value).ownBlock∧k_≠ag) u7 aI)∧aE (w'.heap[ai]?=some (.cells #[(.slice aw af.length ax), .int .i64 lW,(.slice ay ah.length az)] 107 (0,0)))∧aE (w'.heap[ag]?=some (.cells #[.int .i64 ak, .int .i64 aj] 58 (0,0)))∧aE (Below w.heap.size w w'))
     case atStart=>exact⟨(0),(0),(1),nM,H',⟨Nat.le_refl _⟩,⟨kR_ (Kd.nN (p:=⟨ag,1,none⟩) (Kd.nN (p:=⟨ag,0,none⟩) (Kd.fY aC.out (fun k_ hk=>(⟨hk,hk.2⟩:_∧k_≠ag))) (fun _ hk=>hk.2) (.int .i64 0)) (fun _ hk=>hk.2) (.int .i64 1)) (fun _ hk=>⟨hk.1.1,hk.1.2⟩)⟩,⟨kR_ (Kd.nN (p:=⟨ag,1,none⟩) (Kd.nN (p:=⟨ag,0,none⟩) (Kd.fY aD.out (fun k_ hk=>(⟨hk,hk.2⟩:_∧k_≠ag))) (fun _ hk=>hk.2) (.int .i64 0)) (fun _ hk=>hk.2) (.int .i64 1)) (fun _ hk=>⟨hk.1.1,hk.1.2⟩)⟩,⟨oX⟩,⟨oX⟩,⟨hb_⟩⟩
     case round=>
      clear H';(try clear c3);(try clear qP);(try clear vV);(try clear xU);(try clear bD);(try clear bE);(try clear aW);(try clear aX);(try clear aY);(try clear bg);(try clear bh);(try clear bi);(try clear bF);(try clear bG);(try clear aZ);(try clear a9);(try clear ba);(try clear bn);(try clear bq);(try clear bu);obtain⟨ae,ak,aj,rfl,HA,rA,aC,aD,aa,aq,HB⟩:=hrel;cases gk with
      | zero=>exact absurd HA.out (by simp [oo.l1])
      | succ k2=>
       have H:=HA.out;clear HA;simp only [oo.l1] at H
       by_cases tI:ae < (ah.length:Int)
       ·rw [if_pos tI] at H;have GX:=decide_eq_true tI;clear tI
        by_cases xq:0≤ae
        ·rw [if_pos xq] at H;have alu:=decide_eq_true xq;clear xq
         by_cases sL:(rd ah ae)=(wrap64 ((af.length:Int)+aA))
         ·rw [if_pos sL] at H;have Ba:=yh sL;have als:=yg sL;clear sL
          by_cases uD:ae < (av.length:Int)
          ·rw [if_pos uD] at H;have Sv:=decide_eq_true uD;clear uD;have H':=q_ H;clear H;have dl:=au.out;have dr:=aG.out;obtain⟨bS,bT,bU,bV,bW,bX⟩:=qI aa;have Kt:0≤(ae:Int):=l7;have J0:ae < (ah.length:Int):=l7;obtain⟨bM,aez,BH⟩:=Kd.mA Dy.out ae Kt J0;cases aez
           replace BH:=bc_ HB.out BH;replace Kt:=eq_true Kt;replace J0:=eq_true J0;obtain⟨dC,dD,bQ⟩:=Kd.mE aC.out;subst bQ;have adB:0≤(ae:Int):=l7;have ac9:ae < (av.length:Int):=l7;obtain⟨du,anW,aoK,aoJ⟩:=ze (Kd.lU aC.out).2.2 ae adB ac9;cases anW
           replace adB:=eq_true adB;replace ac9:=eq_true ac9;obtain⟨bY,bZ,cn,ct⟩:=nF aq;go_wp2
           go_roundg k2
           case measure=>have:=nA.out;have:=rA.out;omega
           case rel=>exact⟨(wrap64 (ae+1)),((kB av ae).f0),((kB av ae).f1),nM,H',⟨by have:=nA.out;have:=rA.out;omega⟩,⟨kR_ (Kd.nN (p:=⟨ag,1,none⟩) (Kd.nN (p:=⟨ag,0,none⟩) (Kd.fY aC.out (fun k_ hk=>(⟨hk,hk.2⟩:_∧k_≠ag))) (fun _ hk=>hk.2) (.int .i64 ((kB av ae).f0))) (fun _ hk=>hk.2) (.int .i64 ((kB av ae).f1))) (fun _ hk=>⟨hk.1.1,hk.1.2⟩)⟩,⟨kR_ (Kd.nN (p:=⟨ag,1,none⟩) (Kd.nN (p:=⟨ag,0,none⟩) (Kd.fY aD.out (fun k_ hk=>(⟨hk,hk.2⟩:_∧k_≠ag))) (fun _ hk=>hk.2) (.int .i64 ((kB av ae).f0))) (fun _ hk=>hk.2) (.int .i64 ((kB av ae).f1))) (fun _ hk=>⟨hk.1.1,hk.1.2⟩)⟩,⟨oX⟩,⟨oX⟩,⟨hb_⟩⟩
          ·rw [if_neg uD] at H;exact absurd H (by simp)
         ·rw [if_neg sL] at H;have Ba:=uJ sL;have als:=uI sL;have H':=q_ H;clear H;have dw:=au.out;have dx:=aG.out;obtain⟨cz,cA,cB,cC,cD,cE⟩:=qI aa;have Kt:0≤(ae:Int):=l7;have J0:ae < (ah.length:Int):=l7;obtain⟨bM,aez,BH⟩:=Kd.mA Dy.out ae Kt J0;cases aez
          replace BH:=bc_ HB.out BH;replace Kt:=eq_true Kt;replace J0:=eq_true J0;go_wp2
          go_roundg k2
          case measure=>have:=nA.out;have:=rA.out;omega
          case rel=>exact⟨(wrap64 (ae+1)),(ak),(aj),nM,H',⟨by have:=nA.out;have:=rA.out;omega⟩,⟨m5 aC.out⟩,⟨m5 aD.out⟩,⟨nj⟩,⟨nj⟩,⟨hb_⟩⟩
        ·rw [if_neg xq] at H;exact absurd H (by simp)
       ·rw [if_neg tI] at H;have GX:=decide_eq_false tI;clear tI
        by_cases A8:aI.length < 8796093022208
        ·rw [if_pos A8] at H;have bN:=q_ A8;clear A8;obtain⟨bI,hy⟩: ∃y_:List (mh),y_=(aI++ [(⟨ak,aj⟩:mh)]):=⟨_,rfl⟩
         replace H:(oo.l0 k2 av (af.length:Int) bI (wrap64 (aA+1)) af lW ah)=some (r1,r2):=hh_;have bO:=q_ hy;clear hy;have H':=q_ H;clear H;have dz:=au.out;have dA:=aG.out;obtain⟨cF,cG,cH,cI,cJ,cK⟩:=qI aa;obtain⟨cL,cN,cO,cQ⟩:=nF aq
         go_wp2_with (first | ((with_reducible refine nL (b:= .append) (xs:= #[.tmp 49, .tmp 51]) rfl ?_);at_builtin;refine Kd.qo rU (w0:=w) w.heap.size rfl (.tmp 49) (.tmp 51) 49 58 (.agg #[(.int .i64 0),(.int .i64 0)]) 16 rfl Tryz.underlying49 Ip rfl (by decide) (by omega) u7 aI (⟨ak,aj⟩:mh) [.int .i64 ak, .int .i64 aj] (fun k_=>some k_≠(aK:Value).ownBlock∧k_≠ag) (fun _=>False) rfl rfl ?aP (fun _ hk=>hk.elim) ?aF ?aO ?aB ?aS ?aL ?_;(case aP=>exact Fz _ _ _ (⟨ak,aj⟩:mh));(case aB=>exact hb_);(case aF=>exact(fun k_ hk=>⟨Kd.tZ (Kd.qw (m5 aC.out)) k_ hk,Kd.F6 (g:=ag) (o:= .cells #[.int .i64 ak, .int .i64 aj] 58 (0,0)) nj k_ hk⟩));(case aO=>exact(m5 aD.out));(case aS=>exact oI);(case aL=>have:=bN.out;omega);intro dE w28 ho hb hg hat;rw [← bO.out] at ho;replace aC:=q_ (Kd.yI (ok:=(fun k_=>k_≠ag)) (kR_ aC.out (fun _ hk=>⟨hk.2,hk.1⟩)) hg hat);replace aa:=q_ (tU aa.out hg (Kd.pJ aD.out aa.out (by decide)));replace aq:=q_ (tU aq.out hg (Kd.I0 aD.out (fun _ hk=>hk.2)));replace HB:=q_ (hb);have bP:=q_ (ho);clear aD ho hb hg hat))
         go_roundg k2
         case measure=>have:=nA.out;have:=rA.out;omega
         case rel=>exact⟨(bI),(wrap64 (aA+1)),nM,H',⟨by have:=nA.out;have:=rA.out;omega⟩,⟨kR_ aC.out (fun _ hk=>hk.2)⟩,⟨kR_ bP.out (fun _ hk=>hk.1)⟩,⟨nj⟩,⟨hb_⟩⟩
        ·rw [if_neg A8] at H;exact absurd H (by simp)
    ·rw [if_neg qF] at H;have xU:=decide_eq_false qF;clear qF;simp only [Option.some.injEq,Prod.mk.injEq] at H;obtain⟨rfl,rfl⟩:=H;go_wp2
     go_ret2
     exact⟨_,pH,kR_ aD.out (fun _ hk=>trivial),hb_⟩
 ·rw [if_neg c3] at H;have qP:=uJ c3;have vV:=uI c3;simp only [Option.some.injEq,Prod.mk.injEq] at H;obtain⟨rfl,rfl⟩:=H
  go_enter Tryz.func66,Tryz.ntmps66
  go_wp2_with (first | ((with_reducible refine dg (N:=1) rfl ?_);refine nR 1 #[.slice aw af.length ax, .int .i64 lW, .slice ay ah.length az] 107 ?_;intro ai hg UJ cM hb;have aa:=q_ (cM);have bJ:=mq w hg;have bK:=mq w hg;replace HB:=lT hb;clear hb cM hg;obtain⟨cT,cU,cV,cW,cZ,da⟩:=qI aa) | ((with_reducible refine d8 (f:=112) rfl ?_);refine oJ 13 Tryz.func112 #[.agg #[.slice aw af.length ax, .int .i64 lW, .slice ay ah.length az]] ?_;(with_reducible refine(mW.calls k _ _ af lW _ _ ah av aH _ ?aN ?aT ?aU ?aV A2.out).mono ?_);(case aN=>exact ni mR.out HB.out);(case aT=>exact oh.out);(case aU=>exact ni Dy.out HB.out);(case aV=>exact Hf.out);rintro e w31 ⟨aK,rfl,ho0,hb⟩;refine⟨_,rfl,?_⟩;have aJ:=q_ (Kd.ng ho0 oI);replace aa:=lZ aa hb;replace HB:=lT hb;(try clear hb);(try clear hk);(try clear ho0)))
  go_ret2
  exact⟨_,pH,by first | exact Kd.qT _ _ _ _ _ | exact Kd.uy _ _ _ _ _ | exact Kd.uw _ _ _ _ _ | exact Kd.ux _ _ _ _ _ | exact Kd.sJ _ _ _ _ _,hb_⟩
def m7.l0:Nat→List (mh)→Int→List (List Int)→List Int→Option ((List (mh)) × Int)
 | 0,_,_,_,_=>none
 | k+1,sS,tC,ae,aa=>if tC < (aa.length:Int) then(if sS.length < 8796093022208 then(m7.l0 k (sS++ [(⟨0,1⟩:mh)]) (wrap64 (tC+1)) ae aa) else(none)) else(some (sS,0))
def m7.f (k:Nat) (ae:List (List Int)) (af:List Int) (l1:List Int):Option ((List (mh)) × Int):=(mU.f k ae af l1).bind fun ah=>(if ah=0 then((d7.f k ae af l1 201).bind fun aa=>(if(aa.2.2.2.1.length:Int) > 200 then(some (([]:List (mh)),3)) else(if aa.2.2.2.2.2=true then(if(aa.2.2.2.1.length:Int)=0 then(m7.l0 k (([]:List (mh))) 0 ae af) else((oo.f k aa.1 aa.2.1 aa.2.2.1).bind fun ag=>(some (ag.1,ag.2)))) else(some (([]:List (mh)),4))))) else(some (([]:List (mh)),ah)))
theorem m7.calls (k:Nat) (ak:Option Addr) (aq:Nat) (ai:List (List Int)) (au:Option Addr) (av:Nat) (ag:List Int) (A1:Option Addr) (c1:Nat) (l1:List Int) (r1:List (mh)) (r2:Int) (w:World) (bJ:Kd.C (Kd.slice 2 (Kd.int .i64)) w ak ai.length ai) (bK:ai.length≤aq) (bL:Kd.C (Kd.int .i64) w au ag.length ag) (bM:ag.length≤av) (hr1:Kd.C (Kd.int .i64) w A1 l1.length l1) (hc1:l1.length≤c1) (h:m7.f k ai ag l1=some (r1,r2)):
  Calls Tryz.prog 23 #[.agg #[.slice ak ai.length aq, .slice au ag.length av], .slice A1 l1.length c1] w fun e w'=> ∃qg:Value,e= .returned (.tuple #[qg, .int .i64 r2])∧Kd.R rU 58 w' w.heap.size (fun _=>True) qg r1∧Below w.heap.size w w':=by
 have CY:=Tryz.underlying34;have Dp:=Tryz.underlying107;have DV:=Tryz.underlying58;have mR:=q_ bJ;have oh:=q_ bK;clear bJ bK;have ox:=q_ bL;have oR:=q_ bM;clear bL bM;have pR:=q_ hr1;have qy:=q_ hc1;clear hr1 hc1;have HB:=q_ (Below.refl w.heap.size w);have H:((mU.f k ai ag l1).bind fun aU=>(if aU=0 then((d7.f k ai ag l1 201).bind fun aT=>(if(aT.2.2.2.1.length:Int) > 200 then(some (([]:List (mh)),3)) else(if aT.2.2.2.2.2=true then(if(aT.2.2.2.1.length:Int)=0 then(m7.l0 k (([]:List (mh))) 0 ai ag) else((oo.f k aT.1 aT.2.1 aT.2.2.1).bind fun aV=>(some (aV.1,aV.2)))) else(some (([]:List (mh)),4))))) else(some (([]:List (mh)),aU))))=some (r1,r2):=h;clear h;replace H:=Option.bind_eq_some_iff.mp H;obtain⟨aU,sW,H⟩:=H;replace H:(if aU=0 then((d7.f k ai ag l1 201).bind fun aT=>(if(aT.2.2.2.1.length:Int) > 200 then(some (([]:List (mh)),3)) else(if aT.2.2.2.2.2=true then(if(aT.2.2.2.1.length:Int)=0 then(m7.l0 k (([]:List (mh))) 0 ai ag) else((oo.f k aT.1 aT.2.1 aT.2.2.1).bind fun aV=>(some (aV.1,aV.2)))) else(some (([]:List (mh)),4))))) else(some (([]:List (mh)),aU)))=some (r1,r2):=H;have A3:=q_ sW;clear sW
 by_cases c4:aU=0
 ·rw [if_pos c4] at H;have qv:=yh c4;have zK:=yg c4;clear c4;replace H:=Option.bind_eq_some_iff.mp H;obtain⟨⟨ay,aM,az,aN,bC,bF⟩,xL,H⟩:=H;replace H:(if(aN.length:Int) > 200 then(some (([]:List (mh)),3)) else(if bF=true then(if(aN.length:Int)=0 then(m7.l0 k (([]:List (mh))) 0 ai ag) else((oo.f k ay aM az).bind fun aV=>(some (aV.1,aV.2)))) else(some (([]:List (mh)),4))))=some (r1,r2):=H;have A5:=q_ xL;clear xL
  by_cases c6:(aN.length:Int) > 200
  ·rw [if_pos c6] at H;have uj:=decide_eq_true c6;have Fj:decide (200 < aN.length)=true:=decide_eq_true (by omega);clear c6;simp only [Option.some.injEq,Prod.mk.injEq] at H;obtain⟨rfl,rfl⟩:=H
   go_enter Tryz.func23,Tryz.ntmps23
   go_wp2_with (first | ((with_reducible refine dg (N:=2) rfl ?_);refine nR 2 #[.slice ak ai.length aq, .slice au ag.length av] 34 ?_;intro af hg w7 cM hb;have aa:=q_ (cM);have bw:=mq w hg;have bz:=mq w hg;replace HB:=lT hb;clear hb cM hg;obtain⟨cK,cL,cN,cO⟩:=nF aa) | ((with_reducible refine d8 (f:=64) rfl ?_);refine oJ 17 Tryz.func64 #[.agg #[.slice ak ai.length aq, .slice au ag.length av], .slice A1 l1.length c1] ?_;(with_reducible refine(mU.calls k _ _ ai _ _ ag _ _ l1 aU _ ?aA ?aC ?aD ?aG ?aI ?aJ A3.out).mono ?_);(case aA=>exact ni mR.out HB.out);(case aC=>exact oh.out);(case aD=>exact ni ox.out HB.out);(case aG=>exact oR.out);(case aI=>exact ni pR.out HB.out);(case aJ=>exact qy.out);rintro e w9 ⟨rfl,hb⟩;refine⟨_,rfl,?_⟩;replace aa:=lZ aa hb;replace HB:=lT hb;(try clear hb);(try clear hk);obtain⟨bO,bP,bQ,bS⟩:=nF aa) | ((with_reducible refine d8 (f:=65) rfl ?_);refine oJ 24 Tryz.func65 #[.agg #[.slice ak ai.length aq, .slice au ag.length av], .slice A1 l1.length c1, .int .i64 201] ?_;(with_reducible refine(d7.calls k _ _ ai _ _ ag _ _ l1 201 ay aM az aN bC bF _ ?aA ?aC ?aD ?aG ?aI ?aJ A5.out).mono ?_);(case aA=>exact ni mR.out HB.out);(case aC=>exact oh.out);(case aD=>exact ni ox.out HB.out);(case aG=>exact oR.out);(case aI=>exact ni pR.out HB.out);(case aJ=>exact qy.out);rintro e rB ⟨bG,bH,bI,rfl,ho0,ho1,ho2,hb⟩;refine⟨_,rfl,?_⟩;have aw:=q_ (Kd.oP ho0 oI);have ax:=q_ (Kd.ng ho1 oI);have aH:=q_ (Kd.oP ho2 oI);replace aa:=lZ aa hb;replace HB:=lT hb;(try clear hb);(try clear hk);(try clear ho0);(try clear ho1);(try clear ho2)) | ((with_reducible refine dg (N:=7) rfl ?_);refine nR 7 #[.slice none 0 0, .int .i64 0, .slice none 0 0] 107 ?_;intro ae hg tX cM hb;replace aw:=q_ (Kd.mQ (nw aw.out) hb);replace ax:=rK ax hb;replace aH:=q_ (Kd.mQ (nw aH.out) hb);have ah:=q_ (cM);have bD:=mq w hg;have bE:=mq w hg;have aj:=r7 hg aa;have aK:=rY hg aa;replace aa:=lZ aa hb;replace HB:=lT hb;clear hb cM hg;obtain⟨fw,fA,dh⟩:=Kd.nk aw.out;subst dh;have eY:=aK.out;have eZ:=aj.out;obtain⟨bT,bU,bV,bW,bX,bY⟩:=qI ah;obtain⟨fB,fC,di⟩:=Kd.mE ax.out;subst di;obtain⟨fD,fE,dl⟩:=Kd.nk aH.out;subst dl))
   go_ret2
   exact⟨_,pH,by first | exact Kd.qT _ _ _ _ _ | exact Kd.uy _ _ _ _ _ | exact Kd.uw _ _ _ _ _ | exact Kd.ux _ _ _ _ _ | exact Kd.sJ _ _ _ _ _,hb_⟩
  ·rw [if_neg c6] at H;have uj:=decide_eq_false c6;have Fj:decide (200 < aN.length)=false:=decide_eq_false (by omega);clear c6
   by_cases uZ:bF=true
   ·subst uZ;have H1:(if(aN.length:Int)=0 then(m7.l0 k (([]:List (mh))) 0 ai ag) else((oo.f k ay aM az).bind fun aV=>(some (aV.1,aV.2))))=some (r1,r2):=by rw [if_pos rfl] at H;exact H
    clear H;have H:=H1;clear H1
    by_cases ru:(aN.length:Int)=0
    ·rw [if_pos ru] at H;have Cd:=yh ru;have agi:=yg ru;clear ru;obtain⟨cQ,hy⟩: ∃y_:List (mh),y_=(([]:List (mh))):=⟨_,rfl⟩
     replace H:(m7.l0 k cQ 0 ai ag)=some (r1,r2):=hh_;have bN:=q_ hy;clear hy;have H':=q_ H;clear H
     go_enter Tryz.func23,Tryz.ntmps23
     go_wp2_with (first | ((with_reducible refine dg (N:=2) rfl ?_);refine nR 2 #[.slice ak ai.length aq, .slice au ag.length av] 34 ?_;intro af hg X4 cM hb;have aa:=q_ (cM);have bw:=mq w hg;have bz:=mq w hg;replace HB:=lT hb;clear hb cM hg;obtain⟨bZ,cn,ct,cz⟩:=nF aa) | ((with_reducible refine d8 (f:=64) rfl ?_);refine oJ 17 Tryz.func64 #[.agg #[.slice ak ai.length aq, .slice au ag.length av], .slice A1 l1.length c1] ?_;(with_reducible refine(mU.calls k _ _ ai _ _ ag _ _ l1 aU _ ?aA ?aC ?aD ?aG ?aI ?aJ A3.out).mono ?_);(case aA=>exact ni mR.out HB.out);(case aC=>exact oh.out);(case aD=>exact ni ox.out HB.out);(case aG=>exact oR.out);(case aI=>exact ni pR.out HB.out);(case aJ=>exact qy.out);rintro e w22 ⟨rfl,hb⟩;refine⟨_,rfl,?_⟩;replace aa:=lZ aa hb;replace HB:=lT hb;(try clear hb);(try clear hk);obtain⟨cA,cB,cC,cD⟩:=nF aa) | ((with_reducible refine d8 (f:=65) rfl ?_);refine oJ 24 Tryz.func65 #[.agg #[.slice ak ai.length aq, .slice au ag.length av], .slice A1 l1.length c1, .int .i64 201] ?_;(with_reducible refine(d7.calls k _ _ ai _ _ ag _ _ l1 201 ay aM az aN bC true _ ?aA ?aC ?aD ?aG ?aI ?aJ A5.out).mono ?_);(case aA=>exact ni mR.out HB.out);(case aC=>exact oh.out);(case aD=>exact ni ox.out HB.out);(case aG=>exact oR.out);(case aI=>exact ni pR.out HB.out);(case aJ=>exact qy.out);rintro e w24 ⟨bG,bH,bI,rfl,ho0,ho1,ho2,hb⟩;refine⟨_,rfl,?_⟩;have aw:=q_ (Kd.oP ho0 oI);have ax:=q_ (Kd.ng ho1 oI);have aH:=q_ (Kd.oP ho2 oI);replace aa:=lZ aa hb;replace HB:=lT hb;(try clear hb);(try clear hk);(try clear ho0);(try clear ho1);(try clear ho2)) | ((with_reducible refine dg (N:=7) rfl ?_);refine nR 7 #[.slice none 0 0, .int .i64 0, .slice none 0 0] 107 ?_;intro ae hg w25 cM hb;replace aw:=q_ (Kd.mQ (nw aw.out) hb);replace ax:=rK ax hb;replace aH:=q_ (Kd.mQ (nw aH.out) hb);have ah:=q_ (cM);have bD:=mq w hg;have bE:=mq w hg;have aj:=r7 hg aa;have aK:=rY hg aa;replace aa:=lZ aa hb;replace HB:=lT hb;clear hb cM hg;obtain⟨ba,bg,dr⟩:=Kd.nk aw.out;subst dr;have fa:=aK.out;have fc:=aj.out;obtain⟨cE,cF,cG,cH,cI,cJ⟩:=qI ah;obtain⟨bu,bv,du⟩:=Kd.mE ax.out;subst du;obtain⟨fF,fG,dw⟩:=Kd.nk aH.out;subst dw) | ((with_reducible refine dg (N:=37) rfl ?_);refine Kd.tu rU _ 58 ?hg (N:=37) ?hd (xs:=([]:List (mh))) (inner:= []) (ok:=fun _=>True) (oC:=fun _=>True) ?hr ?hp (fun _ hk=>hk) trivial (Below.refl _ _) (Nat.le_refl _) (by simp) ?_;(case hd=>rfl);(case hg=>rfl);(case hr=>first | (go_simp;done) | (go_simp;rfl));(case hp=>exact(mV.none _ _));intro fH w31 bA hb hg_ om;clear hg_ om;(first | rw [← bN.out] at bA | (simp only [Int.reduceToNat] at bA;rw [← bN.out] at bA));replace aw:=q_ (Kd.mQ ((kS_ (wR aw.out ah.out) (fun _ h_=>h_.1))) hb);replace ax:=q_ (Kd.oQ ((kR_ (DN ax.out ah.out) (fun _ h_=>h_.1))) hb);replace aH:=q_ (Kd.mQ ((kS_ (wR aH.out ah.out) (fun _ h_=>h_.1))) hb);have cW:=q_ (Kd.ng bA oI);replace aa:=q_ (ke (g:=af) (o:= .cells #[.slice ak ai.length aq, .slice au ag.length av] 34 (0,0)) (oX) hb);replace ah:=q_ (ke (g:=ae) (o:= .cells #[.slice ba ay.length bg, .int .i64 aM, .slice bu az.length bv] 107 (0,0)) (oX) hb);replace HB:=lT hb;clear hb bA))
     go_loopg [11,12] k (fun kq v11 Di w'=> ∃(bq:List (mh)) (aW:Int),Di= .int .i64 aW∧aE (m7.l0 kq bq aW ai ag=some (r1,r2))∧aE (kq≤k)∧aE (Kd.R rU 58 w' w.heap.size (fun _=>True) v11 bq)∧aE (Kd.S (Kd.slice 2 (Kd.int .i64)) 24 w' w.heap.size (fun k_=>some k_≠((.slice bu az.length bv):Value).ownBlock) (.slice ba ay.length bg) ay)∧aE (Kd.R (Kd.int .i64) 2 w' w.heap.size (fun _=>True) (.slice bu az.length bv) az)∧aE (w'.heap[af]?=some (.cells #[(.slice ak ai.length aq),(.slice au ag.length av)] 34 (0,0)))∧aE (w'.heap[ae]?=some (.cells #[(.slice ba ay.length bg), .int .i64 aM,(.slice bu az.length bv)] 107 (0,0)))∧aE (Below w.heap.size w w'))
     case atStart=>exact⟨(cQ),(0),nM,H',⟨Nat.le_refl _⟩,⟨m5 cW.out⟩,⟨kS_ aw.out (fun _ hk=>hk.1)⟩,⟨m5 ax.out⟩,⟨nj⟩,⟨nj⟩,⟨hb_⟩⟩
     case round=>
      clear H';(try clear c1);(try clear c4);(try clear qv);(try clear zK);(try clear uj);(try clear Fj);(try clear uZ);(try clear ru);(try clear Cd);(try clear agi);(try clear bO);(try clear bP);(try clear bT);(try clear bU);(try clear bV);(try clear bZ);(try clear cn);(try clear cA);(try clear cB);(try clear cE);(try clear cF);(try clear cG);(try clear cK);(try clear cL);(try clear bQ);(try clear bS);(try clear bW);(try clear bX);(try clear bY);(try clear ct);(try clear cz);(try clear cC);(try clear cD);(try clear cH);(try clear cI);(try clear cJ);(try clear cN);(try clear cO);obtain⟨bq,aW,rfl,HA,nA,aY,bh,bi,aa,ah,HB⟩:=hrel;cases gk with
      | zero=>exact absurd HA.out (by simp [m7.l0])
      | succ k1=>
       have H:=HA.out;clear HA;simp only [m7.l0] at H
       by_cases IL:aW < (ag.length:Int)
       ·rw [if_pos IL] at H;have agb:=decide_eq_true IL;clear IL
        by_cases IK:bq.length < 8796093022208
        ·rw [if_pos IK] at H;have cZ:=q_ IK;clear IK;obtain⟨cT,hy⟩: ∃y_:List (mh),y_=(bq++ [(⟨0,1⟩:mh)]):=⟨_,rfl⟩
         replace H:(m7.l0 k1 cT (wrap64 (aW+1)) ai ag)=some (r1,r2):=hh_;have da:=q_ hy;clear hy;have H':=q_ H;clear H;have fe:=aj.out;have fg:=aK.out;obtain⟨dG,dH,dJ,dK⟩:=nF aa
         go_wp2_with (first | ((with_reducible refine nL (b:= .append) (xs:= #[.tmp 45, .tmp 47]) rfl ?_);at_builtin;refine Kd.qo rU (w0:=w) w.heap.size rfl (.tmp 45) (.tmp 47) 49 58 (.agg #[(.int .i64 0),(.int .i64 0)]) 16 rfl Tryz.underlying49 Ip rfl (by decide) (by omega) u11 bq (⟨0,1⟩:mh) [.int .i64 0, .int .i64 1] (fun _=>True) (fun _=>False) rfl rfl ?aP (fun _ hk=>hk.elim) ?aF ?aO ?aB ?aS ?aL ?_;(case aP=>exact Fz _ _ _ (⟨0,1⟩:mh));(case aB=>exact hb_);(case aF=>exact(fun _ _=>trivial));(case aO=>exact(m5 aY.out));(case aS=>exact oI);(case aL=>have:=cZ.out;omega);intro fI w37 ho hb hg hat;rw [← da.out] at ho;replace bh:=q_ (Kd.Gc (nw bh.out) (Kd.AB (m5 aY.out)) (by decide) hg);replace bi:=q_ (Kd.wh (m5 bi.out) (Kd.AB (m5 aY.out)) (by decide) hg);replace aa:=q_ (tU aa.out hg (Kd.pJ aY.out aa.out (by decide)));replace ah:=q_ (tU ah.out hg (Kd.pJ aY.out ah.out (by decide)));replace HB:=q_ (hb);have db:=q_ (ho);clear aY ho hb hg hat))
         go_roundg k1
         case measure=>have:=nA.out;omega
         case rel=>exact⟨(cT),(wrap64 (aW+1)),nM,H',⟨by have:=nA.out;omega⟩,⟨m5 db.out⟩,⟨nw bh.out⟩,⟨m5 bi.out⟩,⟨nj⟩,⟨nj⟩,⟨hb_⟩⟩
        ·rw [if_neg IK] at H;exact absurd H (by simp)
       ·rw [if_neg IL] at H;have agb:=decide_eq_false IL;clear IL;simp only [Option.some.injEq,Prod.mk.injEq] at H;obtain⟨rfl,rfl⟩:=H;have fj:=aj.out;have fk:=aK.out;obtain⟨dL,dM,dN,dO⟩:=nF aa;go_wp2
        go_ret2
        exact⟨_,pH,m5 aY.out,hb_⟩
    ·rw [if_neg ru] at H;have Cd:=uJ ru;have agi:=uI ru;have aso: ¬ (aN= []):=fun h_=>ru (by rw [h_];rfl)
     replace H:=Option.bind_eq_some_iff.mp H;obtain⟨⟨cU,cV⟩,akB,H⟩:=H;replace H:(some (cU,cV))=some (r1,r2):=H;have Bo:=q_ akB;clear akB;simp only [Option.some.injEq,Prod.mk.injEq] at H;obtain⟨rfl,rfl⟩:=H
     go_enter Tryz.func23,Tryz.ntmps23
     go_wp2_with (first | ((with_reducible refine dg (N:=2) rfl ?_);refine nR 2 #[.slice ak ai.length aq, .slice au ag.length av] 34 ?_;intro af hg w41 cM hb;have aa:=q_ (cM);have bw:=mq w hg;have bz:=mq w hg;replace HB:=lT hb;clear hb cM hg;obtain⟨dP,dQ,dR,dU⟩:=nF aa) | ((with_reducible refine d8 (f:=64) rfl ?_);refine oJ 17 Tryz.func64 #[.agg #[.slice ak ai.length aq, .slice au ag.length av], .slice A1 l1.length c1] ?_;(with_reducible refine(mU.calls k _ _ ai _ _ ag _ _ l1 aU _ ?aA ?aC ?aD ?aG ?aI ?aJ A3.out).mono ?_);(case aA=>exact ni mR.out HB.out);(case aC=>exact oh.out);(case aD=>exact ni ox.out HB.out);(case aG=>exact oR.out);(case aI=>exact ni pR.out HB.out);(case aJ=>exact qy.out);rintro e w43 ⟨rfl,hb⟩;refine⟨_,rfl,?_⟩;replace aa:=lZ aa hb;replace HB:=lT hb;(try clear hb);(try clear hk);obtain⟨dV,dW,dX,dY⟩:=nF aa) | ((with_reducible refine d8 (f:=65) rfl ?_);refine oJ 24 Tryz.func65 #[.agg #[.slice ak ai.length aq, .slice au ag.length av], .slice A1 l1.length c1, .int .i64 201] ?_;(with_reducible refine(d7.calls k _ _ ai _ _ ag _ _ l1 201 ay aM az aN bC true _ ?aA ?aC ?aD ?aG ?aI ?aJ A5.out).mono ?_);(case aA=>exact ni mR.out HB.out);(case aC=>exact oh.out);(case aD=>exact ni ox.out HB.out);(case aG=>exact oR.out);(case aI=>exact ni pR.out HB.out);(case aJ=>exact qy.out);rintro e w45 ⟨bG,bH,bI,rfl,ho0,ho1,ho2,hb⟩;refine⟨_,rfl,?_⟩;have aw:=q_ (Kd.oP ho0 oI);have ax:=q_ (Kd.ng ho1 oI);have aH:=q_ (Kd.oP ho2 oI);replace aa:=lZ aa hb;replace HB:=lT hb;(try clear hb);(try clear hk);(try clear ho0);(try clear ho1);(try clear ho2)) | ((with_reducible refine dg (N:=7) rfl ?_);refine nR 7 #[.slice none 0 0, .int .i64 0, .slice none 0 0] 107 ?_;intro ae hg w46 cM hb;replace aw:=q_ (Kd.mQ (nw aw.out) hb);replace ax:=rK ax hb;replace aH:=q_ (Kd.mQ (nw aH.out) hb);have ah:=q_ (cM);have bD:=mq w hg;have bE:=mq w hg;have aj:=r7 hg aa;have aK:=rY hg aa;replace aa:=lZ aa hb;replace HB:=lT hb;clear hb cM hg;obtain⟨aZ,aX,dx⟩:=Kd.nk aw.out;subst dx;have fo:=aK.out;have fp:=aj.out;obtain⟨dZ,d9,ep,eu,eB,eC⟩:=qI ah;obtain⟨bn,a9,dz⟩:=Kd.mE ax.out;subst dz;obtain⟨dA,dB,dC⟩:=Kd.nk aH.out;subst dC) | ((with_reducible refine d8 (f:=66) rfl ?_);refine oJ 52 Tryz.func66 #[.agg #[.slice aZ ay.length aX, .int .i64 aM, .slice bn az.length a9]] ?_;(with_reducible refine(oo.calls k _ _ ay aM _ _ az cU cV _ ?aA ?aC ?aD ?aG Bo.out).mono ?_);(case aA=>refine(Kd.qH (e:=24) (base:=w.heap.size) (ok:=fun k_=>(some k_≠(.slice bn az.length a9:Value).ownBlock∧some k_≠(.slice dA aN.length dB:Value).ownBlock)) (n:=ay.length) (c:=aX) ?_).2.2;exact((kS_ (wR aw.out ah.out) (fun _ h_=>h_.1))));(case aC=>exact(Kd.qH aw.out).2.1);(case aD=>refine(Kd.lU (e:=2) (base:=w.heap.size) (ok:=fun k_=>True) (n:=az.length) (c:=a9) ?_).2.2;exact((kR_ (DN ax.out ah.out) (fun _ h_=>h_.1))));(case aG=>exact(Kd.lU ax.out).2.1);rintro e w52 ⟨fJ,rfl,ho0,hb⟩;refine⟨_,rfl,?_⟩;replace aw:=q_ (Kd.mQ ((kS_ (wR aw.out ah.out) (fun _ h_=>h_.1))) hb);replace ax:=q_ (Kd.oQ ((kR_ (DN ax.out ah.out) (fun _ h_=>h_.1))) hb);replace aH:=q_ (Kd.mQ ((kS_ (wR aH.out ah.out) (fun _ h_=>h_.1))) hb);have df:=q_ (Kd.ng ho0 oI);replace aa:=q_ (ke (g:=af) (o:= .cells #[.slice ak ai.length aq, .slice au ag.length av] 34 (0,0)) (oX) hb);replace ah:=q_ (ke (g:=ae) (o:= .cells #[.slice aZ ay.length aX, .int .i64 aM, .slice bn az.length a9] 107 (0,0)) (oX) hb);replace HB:=lT hb;(try clear hb);(try clear hk);(try clear ho0)))
     go_ret2
     exact⟨_,pH,m5 df.out,hb_⟩
   ·replace uZ:=Bool.eq_false_iff.mpr uZ;subst uZ;have H1:(some (([]:List (mh)),4))=some (r1,r2):=by rw [if_neg (show ¬ (false=true) by decide)] at H;exact H
    clear H;have H:=H1;clear H1;simp only [Option.some.injEq,Prod.mk.injEq] at H;obtain⟨rfl,rfl⟩:=H
    go_enter Tryz.func23,Tryz.ntmps23
    go_wp2_with (first | ((with_reducible refine dg (N:=2) rfl ?_);refine nR 2 #[.slice ak ai.length aq, .slice au ag.length av] 34 ?_;intro af hg w53 cM hb;have aa:=q_ (cM);have bw:=mq w hg;have bz:=mq w hg;replace HB:=lT hb;clear hb cM hg;obtain⟨eD,eF,eG,eH⟩:=nF aa) | ((with_reducible refine d8 (f:=64) rfl ?_);refine oJ 17 Tryz.func64 #[.agg #[.slice ak ai.length aq, .slice au ag.length av], .slice A1 l1.length c1] ?_;(with_reducible refine(mU.calls k _ _ ai _ _ ag _ _ l1 aU _ ?aA ?aC ?aD ?aG ?aI ?aJ A3.out).mono ?_);(case aA=>exact ni mR.out HB.out);(case aC=>exact oh.out);(case aD=>exact ni ox.out HB.out);(case aG=>exact oR.out);(case aI=>exact ni pR.out HB.out);(case aJ=>exact qy.out);rintro e w55 ⟨rfl,hb⟩;refine⟨_,rfl,?_⟩;replace aa:=lZ aa hb;replace HB:=lT hb;(try clear hb);(try clear hk);obtain⟨eI,eJ,eK,eL⟩:=nF aa) | ((with_reducible refine d8 (f:=65) rfl ?_);refine oJ 24 Tryz.func65 #[.agg #[.slice ak ai.length aq, .slice au ag.length av], .slice A1 l1.length c1, .int .i64 201] ?_;(with_reducible refine(d7.calls k _ _ ai _ _ ag _ _ l1 201 ay aM az aN bC false _ ?aA ?aC ?aD ?aG ?aI ?aJ A5.out).mono ?_);(case aA=>exact ni mR.out HB.out);(case aC=>exact oh.out);(case aD=>exact ni ox.out HB.out);(case aG=>exact oR.out);(case aI=>exact ni pR.out HB.out);(case aJ=>exact qy.out);rintro e w57 ⟨bG,bH,bI,rfl,ho0,ho1,ho2,hb⟩;refine⟨_,rfl,?_⟩;have aw:=q_ (Kd.oP ho0 oI);have ax:=q_ (Kd.ng ho1 oI);have aH:=q_ (Kd.oP ho2 oI);replace aa:=lZ aa hb;replace HB:=lT hb;(try clear hb);(try clear hk);(try clear ho0);(try clear ho1);(try clear ho2)) | ((with_reducible refine dg (N:=7) rfl ?_);refine nR 7 #[.slice none 0 0, .int .i64 0, .slice none 0 0] 107 ?_;intro ae hg w58 cM hb;replace aw:=q_ (Kd.mQ (nw aw.out) hb);replace ax:=rK ax hb;replace aH:=q_ (Kd.mQ (nw aH.out) hb);have ah:=q_ (cM);have bD:=mq w hg;have bE:=mq w hg;have aj:=r7 hg aa;have aK:=rY hg aa;replace aa:=lZ aa hb;replace HB:=lT hb;clear hb cM hg;obtain⟨fK,fL,dD⟩:=Kd.nk aw.out;subst dD;have fq:=aK.out;have fu:=aj.out;obtain⟨eM,eO,eP,eQ,eS,eT⟩:=qI ah;obtain⟨fM,fN,dE⟩:=Kd.mE ax.out;subst dE;obtain⟨fO,fP,dF⟩:=Kd.nk aH.out;subst dF))
    go_ret2
    exact⟨_,pH,by first | exact Kd.qT _ _ _ _ _ | exact Kd.uy _ _ _ _ _ | exact Kd.uw _ _ _ _ _ | exact Kd.ux _ _ _ _ _ | exact Kd.sJ _ _ _ _ _,hb_⟩
 ·rw [if_neg c4] at H;have qv:=uJ c4;have zK:=uI c4;simp only [Option.some.injEq,Prod.mk.injEq] at H;obtain⟨rfl,rfl⟩:=H
  go_enter Tryz.func23,Tryz.ntmps23
  go_wp2_with (first | ((with_reducible refine dg (N:=2) rfl ?_);refine nR 2 #[.slice ak ai.length aq, .slice au ag.length av] 34 ?_;intro af hg nH cM hb;have aa:=q_ (cM);have bw:=mq w hg;have bz:=mq w hg;replace HB:=lT hb;clear hb cM hg;obtain⟨eU,eV,eW,eX⟩:=nF aa) | ((with_reducible refine d8 (f:=64) rfl ?_);refine oJ 17 Tryz.func64 #[.agg #[.slice ak ai.length aq, .slice au ag.length av], .slice A1 l1.length c1] ?_;(with_reducible refine(mU.calls k _ _ ai _ _ ag _ _ l1 aU _ ?aA ?aC ?aD ?aG ?aI ?aJ A3.out).mono ?_);(case aA=>exact ni mR.out HB.out);(case aC=>exact oh.out);(case aD=>exact ni ox.out HB.out);(case aG=>exact oR.out);(case aI=>exact ni pR.out HB.out);(case aJ=>exact qy.out);rintro e w66 ⟨rfl,hb⟩;refine⟨_,rfl,?_⟩;replace aa:=lZ aa hb;replace HB:=lT hb;(try clear hb);(try clear hk)))
  go_ret2
  exact⟨_,pH,by first | exact Kd.qT _ _ _ _ _ | exact Kd.uy _ _ _ _ _ | exact Kd.uw _ _ _ _ _ | exact Kd.ux _ _ _ _ _ | exact Kd.sJ _ _ _ _ _,hb_⟩
def tQ.f (k:Nat) (ae:List (List Int)) (af:List Int) (l1:List Int):Option ((List (List Int)) × Bool × Int):=(mU.f k ae af l1).bind fun ag=>(if ag=0 then((d7.f k ae af l1 201).bind fun aa=>(if(aa.2.2.2.1.length:Int) > 200 then(some (([]:List (List Int)),false,3)) else(some (aa.2.2.2.1,aa.2.2.2.2.2,0)))) else(some (([]:List (List Int)),false,ag)))
theorem tQ.calls (k:Nat) (aj:Option Addr) (ak:Nat) (af:List (List Int)) (aq:Option Addr) (au:Nat) (ag:List Int) (A1:Option Addr) (c1:Nat) (l1:List Int) (r1:List (List Int)) (r2:Bool) (r3:Int) (w:World) (aW:Kd.C (Kd.slice 2 (Kd.int .i64)) w aj af.length af) (aX:af.length≤ak) (aY:Kd.C (Kd.int .i64) w aq ag.length ag) (aZ:ag.length≤au) (hr1:Kd.C (Kd.int .i64) w A1 l1.length l1) (hc1:l1.length≤c1) (h:tQ.f k af ag l1=some (r1,r2,r3)):
  Calls Tryz.prog 25 #[.agg #[.slice aj af.length ak, .slice aq ag.length au], .slice A1 l1.length c1] w fun e w'=> ∃qg:Value,e= .returned (.tuple #[qg, .bool r2, .int .i64 r3])∧Kd.S (Kd.slice 2 (Kd.int .i64)) 24 w' w.heap.size (fun _=>True) qg r1∧Below w.heap.size w w':=by
 have CY:=Tryz.underlying34;have Dp:=Tryz.underlying107;have mR:=q_ aW;have oh:=q_ aX;clear aW aX;have ox:=q_ aY;have oR:=q_ aZ;clear aY aZ;have pR:=q_ hr1;have qy:=q_ hc1;clear hr1 hc1;have HB:=q_ (Below.refl w.heap.size w);have H:((mU.f k af ag l1).bind fun av=>(if av=0 then((d7.f k af ag l1 201).bind fun aG=>(if(aG.2.2.2.1.length:Int) > 200 then(some (([]:List (List Int)),false,3)) else(some (aG.2.2.2.1,aG.2.2.2.2.2,0)))) else(some (([]:List (List Int)),false,av))))=some (r1,r2,r3):=h;clear h;replace H:=Option.bind_eq_some_iff.mp H;obtain⟨av,sW,H⟩:=H;replace H:(if av=0 then((d7.f k af ag l1 201).bind fun aG=>(if(aG.2.2.2.1.length:Int) > 200 then(some (([]:List (List Int)),false,3)) else(some (aG.2.2.2.1,aG.2.2.2.2.2,0)))) else(some (([]:List (List Int)),false,av)))=some (r1,r2,r3):=H;have A3:=q_ sW;clear sW
 by_cases c4:av=0
 ·rw [if_pos c4] at H;have qv:=yh c4;have zK:=yg c4;clear c4;replace H:=Option.bind_eq_some_iff.mp H;obtain⟨⟨aN,aT,aU,aH,bg,aV⟩,xL,H⟩:=H;replace H:(if(aH.length:Int) > 200 then(some (([]:List (List Int)),false,3)) else(some (aH,aV,0)))=some (r1,r2,r3):=H;have A5:=q_ xL;clear xL
  by_cases c6:(aH.length:Int) > 200
  ·rw [if_pos c6] at H;have uj:=decide_eq_true c6;have Fj:decide (200 < aH.length)=true:=decide_eq_true (by omega);clear c6;simp only [Option.some.injEq,Prod.mk.injEq] at H;obtain⟨rfl,rfl,rfl⟩:=H
   go_enter Tryz.func25,Tryz.ntmps25
   go_wp2_with (first | ((with_reducible refine dg (N:=2) rfl ?_);refine nR 2 #[.slice aj af.length ak, .slice aq ag.length au] 34 ?_;intro ae hg w7 cM hb;have aa:=q_ (cM);have a9:=mq w hg;have ba:=mq w hg;replace HB:=lT hb;clear hb cM hg;obtain⟨cI,cJ,cK,cL⟩:=nF aa) | ((with_reducible refine d8 (f:=64) rfl ?_);refine oJ 14 Tryz.func64 #[.agg #[.slice aj af.length ak, .slice aq ag.length au], .slice A1 l1.length c1] ?_;(with_reducible refine(mU.calls k _ _ af _ _ ag _ _ l1 av _ ?aw ?ax ?ay ?az ?aA ?aC A3.out).mono ?_);(case aw=>exact ni mR.out HB.out);(case ax=>exact oh.out);(case ay=>exact ni ox.out HB.out);(case az=>exact oR.out);(case aA=>exact ni pR.out HB.out);(case aC=>exact qy.out);rintro e w9 ⟨rfl,hb⟩;refine⟨_,rfl,?_⟩;replace aa:=lZ aa hb;replace HB:=lT hb;(try clear hb);(try clear hk);obtain⟨bI,bJ,bK,bL⟩:=nF aa) | ((with_reducible refine d8 (f:=65) rfl ?_);refine oJ 21 Tryz.func65 #[.agg #[.slice aj af.length ak, .slice aq ag.length au], .slice A1 l1.length c1, .int .i64 201] ?_;(with_reducible refine(d7.calls k _ _ af _ _ ag _ _ l1 201 aN aT aU aH bg aV _ ?aw ?ax ?ay ?az ?aA ?aC A5.out).mono ?_);(case aw=>exact ni mR.out HB.out);(case ax=>exact oh.out);(case ay=>exact ni ox.out HB.out);(case az=>exact oR.out);(case aA=>exact ni pR.out HB.out);(case aC=>exact qy.out);rintro e rB ⟨bn,bq,bu,rfl,ho0,ho1,ho2,hb⟩;refine⟨_,rfl,?_⟩;have aI:=q_ (Kd.oP ho0 oI);have aJ:=q_ (Kd.ng ho1 oI);have aD:=q_ (Kd.oP ho2 oI);replace aa:=lZ aa hb;replace HB:=lT hb;(try clear hb);(try clear hk);(try clear ho0);(try clear ho1);(try clear ho2)) | ((with_reducible refine dg (N:=8) rfl ?_);refine nR 8 #[.slice none 0 0, .int .i64 0, .slice none 0 0] 107 ?_;intro ah hg tX cM hb;replace aI:=q_ (Kd.mQ (nw aI.out) hb);replace aJ:=rK aJ hb;replace aD:=q_ (Kd.mQ (nw aD.out) hb);have ai:=q_ (cM);have bh:=mq w hg;have bi:=mq w hg;have aK:=r7 hg aa;have aM:=rY hg aa;replace aa:=lZ aa hb;replace HB:=lT hb;clear hb cM hg;obtain⟨cU,cV,bv⟩:=Kd.nk aI.out;subst bv;have cN:=aM.out;have cO:=aK.out;obtain⟨bM,bN,bO,bP,bQ,bS⟩:=qI ai;obtain⟨cW,cZ,bw⟩:=Kd.mE aJ.out;subst bw;obtain⟨da,db,bz⟩:=Kd.nk aD.out;subst bz))
   go_ret3
   exact⟨_,pH,by first | exact Kd.sJ _ _ _ _ _ | exact Kd.uy _ _ _ _ _ | exact Kd.uw _ _ _ _ _ | exact Kd.ux _ _ _ _ _ | exact Kd.qT _ _ _ _ _,hb_⟩
  ·rw [if_neg c6] at H;have uj:=decide_eq_false c6;have Fj:decide (200 < aH.length)=false:=decide_eq_false (by omega);clear c6;simp only [Option.some.injEq,Prod.mk.injEq] at H;obtain⟨rfl,rfl,rfl⟩:=H
   go_enter Tryz.func25,Tryz.ntmps25
   go_wp2_with (first | ((with_reducible refine dg (N:=2) rfl ?_);refine nR 2 #[.slice aj af.length ak, .slice aq ag.length au] 34 ?_;intro ae hg Rg cM hb;have aa:=q_ (cM);have a9:=mq w hg;have ba:=mq w hg;replace HB:=lT hb;clear hb cM hg;obtain⟨bT,bU,bV,bW⟩:=nF aa) | ((with_reducible refine d8 (f:=64) rfl ?_);refine oJ 14 Tryz.func64 #[.agg #[.slice aj af.length ak, .slice aq ag.length au], .slice A1 l1.length c1] ?_;(with_reducible refine(mU.calls k _ _ af _ _ ag _ _ l1 av _ ?aw ?ax ?ay ?az ?aA ?aC A3.out).mono ?_);(case aw=>exact ni mR.out HB.out);(case ax=>exact oh.out);(case ay=>exact ni ox.out HB.out);(case az=>exact oR.out);(case aA=>exact ni pR.out HB.out);(case aC=>exact qy.out);rintro e X4 ⟨rfl,hb⟩;refine⟨_,rfl,?_⟩;replace aa:=lZ aa hb;replace HB:=lT hb;(try clear hb);(try clear hk);obtain⟨bX,bY,bZ,cn⟩:=nF aa) | ((with_reducible refine d8 (f:=65) rfl ?_);refine oJ 21 Tryz.func65 #[.agg #[.slice aj af.length ak, .slice aq ag.length au], .slice A1 l1.length c1, .int .i64 201] ?_;(with_reducible refine(d7.calls k _ _ af _ _ ag _ _ l1 201 aN aT aU aH bg aV _ ?aw ?ax ?ay ?az ?aA ?aC A5.out).mono ?_);(case aw=>exact ni mR.out HB.out);(case ax=>exact oh.out);(case ay=>exact ni ox.out HB.out);(case az=>exact oR.out);(case aA=>exact ni pR.out HB.out);(case aC=>exact qy.out);rintro e w22 ⟨bn,bq,bu,rfl,ho0,ho1,ho2,hb⟩;refine⟨_,rfl,?_⟩;have aI:=q_ (Kd.oP ho0 oI);have aJ:=q_ (Kd.ng ho1 oI);have aD:=q_ (Kd.oP ho2 oI);replace aa:=lZ aa hb;replace HB:=lT hb;(try clear hb);(try clear hk);(try clear ho0);(try clear ho1);(try clear ho2)) | ((with_reducible refine dg (N:=8) rfl ?_);refine nR 8 #[.slice none 0 0, .int .i64 0, .slice none 0 0] 107 ?_;intro ah hg w23 cM hb;replace aI:=q_ (Kd.mQ (nw aI.out) hb);replace aJ:=rK aJ hb;replace aD:=q_ (Kd.mQ (nw aD.out) hb);have ai:=q_ (cM);have bh:=mq w hg;have bi:=mq w hg;have aK:=r7 hg aa;have aM:=rY hg aa;replace aa:=lZ aa hb;replace HB:=lT hb;clear hb cM hg;obtain⟨bA,bC,bD⟩:=Kd.nk aI.out;subst bD;have cQ:=aM.out;have cT:=aK.out;obtain⟨ct,cz,cA,cB,cC,cD⟩:=qI ai;obtain⟨bE,bF,bG⟩:=Kd.mE aJ.out;subst bG;obtain⟨df,dh,bH⟩:=Kd.nk aD.out;subst bH))
   go_ret3
   exact⟨_,pH,kS_ (wR aD.out ai.out) (fun _ hk=>trivial),hb_⟩
 ·rw [if_neg c4] at H;have qv:=uJ c4;have zK:=uI c4;simp only [Option.some.injEq,Prod.mk.injEq] at H;obtain⟨rfl,rfl,rfl⟩:=H
  go_enter Tryz.func25,Tryz.ntmps25
  go_wp2_with (first | ((with_reducible refine dg (N:=2) rfl ?_);refine nR 2 #[.slice aj af.length ak, .slice aq ag.length au] 34 ?_;intro ae hg UJ cM hb;have aa:=q_ (cM);have a9:=mq w hg;have ba:=mq w hg;replace HB:=lT hb;clear hb cM hg;obtain⟨cE,cF,cG,cH⟩:=nF aa) | ((with_reducible refine d8 (f:=64) rfl ?_);refine oJ 14 Tryz.func64 #[.agg #[.slice aj af.length ak, .slice aq ag.length au], .slice A1 l1.length c1] ?_;(with_reducible refine(mU.calls k _ _ af _ _ ag _ _ l1 av _ ?aw ?ax ?ay ?az ?aA ?aC A3.out).mono ?_);(case aw=>exact ni mR.out HB.out);(case ax=>exact oh.out);(case ay=>exact ni ox.out HB.out);(case az=>exact oR.out);(case aA=>exact ni pR.out HB.out);(case aC=>exact qy.out);rintro e w31 ⟨rfl,hb⟩;refine⟨_,rfl,?_⟩;replace aa:=lZ aa hb;replace HB:=lT hb;(try clear hb);(try clear hk)))
  go_ret3
  exact⟨_,pH,by first | exact Kd.sJ _ _ _ _ _ | exact Kd.uy _ _ _ _ _ | exact Kd.uw _ _ _ _ _ | exact Kd.ux _ _ _ _ _ | exact Kd.qT _ _ _ _ _,hb_⟩
end Go.Proofs.YthmfdplckdijdaaGreat.Pr
end
