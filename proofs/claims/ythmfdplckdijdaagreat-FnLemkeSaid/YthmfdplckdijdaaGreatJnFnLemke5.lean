/- Texts of one claim (the words of the kit's print that the claim uses, printed functions, and this session's own texts), joined in the order of their imports by this session's own program (merge.py). -/
import Derived.SizedLaws
import Derived.ChangeSlices
import Derived.Deep.Slices
import Derived.Deep.Fields
import Derived.Lib.SmallJoins
import Derived.Test.YthmfdplckdijdaaGreatRows
import Derived.WalkKit
import Derived.ProofKit
import Derived.OpenShut
import Derived.ShutString
import Derived.ChangeOld
import Derived.Below
import Derived.Test.YthmfdplckdijdaaGreatJnFnLemke0
import Derived.Test.YthmfdplckdijdaaGreatJnFnLemke1
import Derived.Test.YthmfdplckdijdaaGreatJnFnLemke2
import Derived.Test.YthmfdplckdijdaaGreatJnFnLemke3
import Derived.Test.YthmfdplckdijdaaGreatJnFnLemke4
set_option linter.unusedVariables false
set_option linter.unusedSimpArgs false
set_option maxHeartbeats 8000000
set_option maxRecDepth 100000
section
namespace Go.Proofs.YthmfdplckdijdaaGreat.uF
open Go.RowKit Wz.cw Wz.cX Ma Pr Dt Lk Lt Lq Lp Fr
section
variable {M:List (List Int)} {Q cv:List Int} (h:PC M Q cv Q.length)
include h
theorem aiA (k0:Nat):Ev (fun k=>oo.f k (nP Q.length (2*Q.length+2) (nI M Q cv k0).1.T) (nI M Q cv k0).1.den (nI M Q cv k0).1.bs) (Fl (nI M Q cv k0).1 Q.length,0):=by
 have hok:=(xY h k0).1
 have hA:=pY (n:=Q.length) (M:=m9 M) (cv:=fun i=>cv.getD i 0) (q:=fun i=>Q.getD i 0) h.Mb (fun i hi=>by have:=h.cb i hi;omega) h.qb
 have hT: ∀i j,i < Q.length→j < 2*Q.length+2→uN ((nI M Q cv k0).1.T i j):=fun i j hi hj=>hok.abs h.le hA hi hj
 have hden:=hok.Cx h.le hA
 have hr:=ZC (s:=(nI M Q cv k0).1) rfl h.le hT hden.1 hden.2
 rw [ZK h k0] at hr
 have h5:=h.le
 have hl:=hok.len
 have hrl:=agR (nI M Q cv k0).1 Q.length
 have hd0:0 < (nI M Q cv k0).1.den:=hden.1
 have hd2:(nI M Q cv k0).1.den≤1920000000:=hden.2
 generalize hs:(nI M Q cv k0).1=s at hr hl hrl hd0 hd2 ⊢
 generalize hn:Q.length=n at hr h5 hl hrl ⊢
 have aom: ∀i,i < n→kB (Rk s n) (i:Int)=Fg (pP (s.T i (2*n+1)) s.den):=fun i hi=>by
  unfold Rk
  simp [kB,Fg,hi]
 have z0:pP 0 s.den=(0,1,0):=H8 hd0 (by omega)
 unfold oo.f
 refine oH hr (cY rfl ?_)
 show Ev (fun k=>oo.l0 k (Rk s n) ((nP n (2*n+2) s.T).length:Int) [] 0 (nP n (2*n+2) s.T) s.den s.bs) _
 rw [sA]
 have loop: ∀q j acc,j+q=n→acc.length≤j→Ev (fun k=>oo.l0 k (Rk s n) (n:Int) acc (j:Int) (nP n (2*n+2) s.T) s.den s.bs) (acc++(List.range' j q).map (fun j=>Fg (pP (num s n (sG s (n+j) n)) s.den)),0):=by
  intro q
  induction q with
  | zero=>
   intro j acc h1 h2
   refine mC (fun k=>by rw [oo.l0]) ?_
   exact lV (by omega) (oK (by simp))
  | succ q ih=>
   intro j acc h1 h2
   have inner: ∀p i,i+p=n→ ∀o:mh,o=(match sG s (n+j) i with | some r=>Fg (pP (s.T r (2*n+1)) s.den) | none=>⟨0,1⟩)→Ev (fun k=>oo.l1 k (Rk s n) (n:Int) acc (j:Int) (i:Int) (nP n (2*n+2) s.T) s.den s.bs o.f0 o.f1) (acc++(List.range' j (q+1)).map (fun j=>Fg (pP (num s n (sG s (n+j) n)) s.den)),0):=by
    intro p
    induction p with
    | zero=>
     intro i hi o ho
     obtain rfl:i=n:=by omega
     refine mC (fun k=>by rw [oo.l1]) ?_
     refine lV (by rw [hl];omega) (cY (by omega) ?_)
     rw [nH (x:=(j:Int)+1) (by omega) (by omega)]
     have e:(⟨o.f0,o.f1⟩:mh)=Fg (pP (num s i (sG s (i+j) i)) s.den):=by
      show o=_
      rw [ho]
      cases sG s (i+j) i with
      | some r=>rfl
      | none=>show _=Fg (pP 0 s.den);rw [z0];rfl
     have hi2:=ih (j+1) (acc++ [(⟨o.f0,o.f1⟩:mh)]) (by omega) (by simp;omega)
     rw [List.append_assoc,e] at hi2
     rw [List.range'_succ,List.map_cons,e]
     exact hi2
    | succ p Bq=>
     intro i hi o ho
     refine mC (fun k=>by rw [oo.l1]) ?_
     refine cY (by rw [hl];omega) (cY (by omega) ?_)
     rw [rT,nH (x:=(i:Int)+1) (by omega) (by omega),nH (x:=(n:Int)+(j:Int)) (by omega) (by omega)]
     by_cases c:s.bs.getD i 0=(n:Int)+(j:Int)
     ·refine cY c (cY (by rw [hrl];omega) ?_)
      rw [aom i (by omega)]
      exact Bq (i+1) (by omega) _ (by simp only [sG];rw [if_pos (by omega)])
     ·refine lV c (Bq (i+1) (by omega) o ?_)
      rw [ho]
      simp only [sG]
      rw [if_neg (by omega)]
   refine mC (fun k=>by rw [oo.l0]) ?_
   refine cY (by omega) ?_
   exact inner n 0 (by omega) ⟨0,1⟩ rfl
 have hfin:=loop n 0 [] (by omega) (Nat.le_refl _)
 exact hfin
end
theorem acX (M:List (List Int)) (Q cv:List Int) (hQ:Q.length≤1048576) (hcv:cv.length≤1048576): ∃R:List mh × Int,Ev (fun k=>m7.f k M Q cv) R∧Ev (fun k=>pW.f k M Q cv) R∧R.1.length≤5:=by
 by_cases c:pV M Q cv=0
 ·obtain⟨S,h1,h2⟩:=Bs c 201 (by omega)
  have hpc:=rM c
  have hl2:=zm.GA hpc 201
  have hok:=(xY hpc 201).1
  have hz:=aiA hpc 201
  have hzl:=aaw hpc 201
  have hA:=pY (n:=Q.length) (M:=m9 M) (cv:=fun i=>cv.getD i 0) (q:=fun i=>Q.getD i 0) hpc.Mb (fun i hi=>by have:=hpc.cb i hi;omega) hpc.qb
  have hT: ∀a c,a < Q.length→c < 2*Q.length+2→uN ((nI M Q cv 201).1.T a c):=fun a c ha hc=>hok.abs hpc.le hA ha hc
  have hden:=hok.Cx hpc.le hA
  have hnone:=XE (M:=M) (Q:=Q) (cv:=cv) (k:=201)
  have hzf:=acC (s:=(nI M Q cv 201).1) (n:=Q.length)
  have h5:=hpc.le
  unfold m7.f pW.f Rq
  obtain⟨R,hR⟩: ∃R,nI M Q cv 201=R:=⟨_,rfl⟩
  rw [hR] at h2 hl2 hok hz hzl hT hden hnone hzf ⊢
  rcases h2 with ⟨e1,e2⟩ | ⟨e1,e2,e3,e4,e5,e6⟩
  ·rw [hl2] at e1;cases e1
  ·by_cases d:R.2.2.1=true
   ·refine⟨(Fl R.1 Q.length,0),?_,cY c (cY e1 (cY d ?_)),by show (Fl R.1 Q.length).length≤5;rw [X0];exact h5⟩
    ·refine oH (zy M Q cv hQ hcv) (cY c (oH h1 (lV (by show ¬ (S.2.1.length:Int) > 200;omega) (cY (by show S.2.2.2=true;rw [e5];exact d) ?_))))
     by_cases z:S.2.1.length=0
     ·refine cY (by show (S.2.1.length:Int)=0;omega) ?_
      have hz0:=hnone d (List.length_eq_zero_iff.1 (e4 ▸ z))
      rw [hzf hz0.1 hz0.2]
      have loop: ∀q j (acc:List mh),j+q=Q.length→acc.length≤j→Ev (fun k=>m7.l0 k acc (j:Int) M Q) (acc++List.replicate q ⟨0,1⟩,0):=by
       intro q
       induction q with
       | zero=>
        intro j acc a1 a2
        refine mC (fun k=>by rw [m7.l0]) ?_
        exact lV (by omega) (oK (by simp))
       | succ q ih=>
        intro j acc a1 a2
        refine mC (fun k=>by rw [m7.l0]) ?_
        refine cY (by omega) (cY (by omega) ?_)
        rw [nH (x:=(j:Int)+1) (by omega) (by omega)]
        have hi:=ih (j+1) (acc++ [(⟨0,1⟩:mh)]) (by omega) (by simp;omega)
        rw [List.append_assoc] at hi
        exact hi
      exact loop Q.length 0 [] (by omega) (Nat.le_refl _)
     ·refine lV (by show ¬ (S.2.1.length:Int)=0;omega) ?_
      show Ev (fun k=>(oo.f k (nP Q.length (2*Q.length+2) S.1.T) S.1.den S.1.bs).bind _) _
      rw [e3]
      exact oH hz (oK rfl)
    ·have h:=QV ((wz R.1 Q.length Q.length).drop Q.length) R.1.den (by rw [List.length_drop,vL];omega) hden.1 ⟨by have:=hden.2;omega,by have:=hden.2;omega⟩ (fun i hi=>by
      rw [List.length_drop,vL] at hi
      rw [List.getD_eq_getElem?_getD,List.getElem?_drop, ← List.getD_eq_getElem?_getD,I8 _ _ _ (by omega) hok.nn _ (Nat.le_refl _)]
      cases e:sG R.1 (Q.length+i) Q.length with
      | some r=>
       have:=hT r (2*Q.length+1) (xR e).1 (by omega)
       unfold uN at this
       exact⟨by show -4611686018427387904≤R.1.T r (2*Q.length+1);omega,by show R.1.T r (2*Q.length+1)≤4611686018427387904;omega⟩
      | none=>exact⟨by show (-4611686018427387904:Int)≤0;decide,by show (0:Int)≤4611686018427387904;decide⟩)
     rw [List.length_drop,vL,show 2*Q.length - Q.length=Q.length from by omega,hzl] at h
     exact h
   ·refine⟨([],4),?_,cY c (cY e1 (lV d (oK rfl))),by simp⟩
    refine oH (zy M Q cv hQ hcv) (cY c (oH h1 (lV (by show ¬ (S.2.1.length:Int) > 200;omega) ?_)))
    exact lV (by show ¬ S.2.2.2=true;rw [e5];exact d) (oK rfl)
 ·refine⟨([],pV M Q cv),?_,?_,by simp⟩
  ·unfold m7.f
   exact oH (zy M Q cv hQ hcv) (lV c (oK rfl))
  ·unfold pW.f Rq
   exact lV c (oK rfl)
end Go.Proofs.YthmfdplckdijdaaGreat.uF
end
section
namespace Go.Proofs.YthmfdplckdijdaaGreat.Mi
open Go.RowKit Wz.cw Wz.cX Ma Pr Fr
abbrev FS:=List mh
def nu (l:FS) (i:Nat):Int:=(l.getD i z58).f0
def dn (l:FS) (i:Nat):Int:=(l.getD i z58).f1
theorem akQ (l:FS) (i:Nat):(kB l (i:Int)).f0=nu l i:=by simp [kB,nu]
theorem afx (l:FS) (i:Nat):(kB l (i:Int)).f1=dn l i:=by simp [kB,dn]
def Ok (l:FS):Prop:= ∀i,i < l.length→1≤dn l i∧dn l i≤1000000000∧ -1000000000≤nu l i∧nu l i≤1000000000
def lc (d b:Int):Int:=Int.tdiv d (gc d b)*b
def D7 (l:FS):Nat→Nat→Int→Option Int
 | 0,_,d=>some d
 | m+1,i,d=>if lc d (dn l i) > 1000000000 then none else D7 l m (i+1) (lc d (dn l i))
theorem Cu {d b:Int} (hd:1≤d):1≤gc d b∧gc d b≤d:=by
 unfold gc
 have h1:0 < Int.gcd d b:=Int.gcd_pos_of_ne_zero_left b (by omega)
 have h2:Int.gcd d b ∣ d.natAbs:=Nat.gcd_dvd_left _ _
 have h3:=Nat.le_of_dvd (by omega) h2
 omega
theorem ajm (d b:Int):gc d b ∣ d∧gc d b ∣ b:=⟨Int.gcd_dvd_left d b,Int.gcd_dvd_right d b⟩
theorem Vh {d b:Int} (hd:1≤d) (hd2:d≤1000000000) (hb:1≤b) (hb2:b≤1000000000):d ∣ lc d b∧b ∣ lc d b∧1≤lc d b∧lc d b≤1000000000000000000∧0≤Int.tdiv d (gc d b)∧Int.tdiv d (gc d b)≤1000000000:=by
 obtain⟨g1,g2⟩:=Cu (b:=b) hd
 obtain⟨⟨q,hq⟩,⟨p,hp⟩⟩:=ajm d b
 have hq0:Int.tdiv d (gc d b)=q:=by
  have h9:Int.tdiv (gc d b*q) (gc d b)=q:=Int.mul_tdiv_cancel_left q (by omega)
  rwa [← hq] at h9
 have hq1:1≤q:=by
  by_cases h:1≤q
  ·exact h
  ·exfalso
   have:gc d b*q≤0:=Int.mul_nonpos_of_nonneg_of_nonpos (by omega) (by omega)
   omega
 have hq2:q≤d:=by
  have:1*q≤gc d b*q:=Int.mul_le_mul_of_nonneg_right g1 (by omega)
  omega
 unfold lc
 rw [hq0]
 refine⟨⟨p,?_⟩,⟨q,Int.mul_comm _ _⟩,?_,?_,by omega,by omega⟩
 ·have h9:q*b=gc d b*q*p:=by
   conv=>lhs;rw [hp]
   rw [← Int.mul_assoc,Int.mul_comm q (gc d b)]
  rwa [← hq] at h9
 ·have:1*1≤q*b:=Int.mul_le_mul hq1 hb (by decide) (by omega)
  omega
 ·have:q*b≤1000000000*1000000000:=Int.mul_le_mul (by omega) hb2 (by omega) (by decide)
  omega
theorem Pv {l:FS} (h:Ok l): ∀m i d D,i+m=l.length→1≤d→d≤1000000000→D7 l m i d=some D→1≤D∧D≤1000000000∧d ∣ D∧ ∀j,i≤j→j < l.length→dn l j ∣ D:=by
 intro m
 induction m with
 | zero=>
  intro i d D hi h1 h2 e
  cases e
  exact⟨h1,h2,Int.dvd_refl _,fun j a b=>by omega⟩
 | succ m ih=>
  intro i d D hi h1 h2 e
  obtain⟨b1,b2,_,_⟩:=h i (by omega)
  obtain⟨f1,f2,f3,f4,_,_⟩:=Vh h1 h2 b1 b2
  unfold D7 at e
  split at e
  ·cases e
  ·obtain⟨g1,g2,g3,g4⟩:=ih (i+1) _ D (by omega) f3 (by omega) e
   refine⟨g1,g2,Int.dvd_trans f1 g3,fun j a b=>?_⟩
   by_cases q:i=j
   ·subst q;exact Int.dvd_trans f2 g3
   ·exact g4 j (by omega) b
def nm (l:FS) (D:Int) (i:Nat):Int:=nu l i*Int.tdiv D (dn l i)
def yZ (l:FS) (D:Int) (n:Nat):List Int:=(List.range n).map (nm l D)
def Fits (l:FS) (D:Int) (i:Nat):Prop:= -1000000000000≤nm l D i∧nm l D i≤1000000000000
open Classical in
noncomputable def DI (l:FS):List Int × Int × Bool:=match D7 l l.length 0 1 with
 | none=>([],0,false)
 | some D=>if ∀i,0≤i→i < l.length→Fits l D i then(yZ l D l.length,D,true) else([],0,false)
theorem abl (l:FS) (D:Int) (n:Nat):yZ l D (n+1)=yZ l D n++ [nm l D n]:=by simp [yZ,List.range_succ]
theorem U6 (l:FS) (D:Int) (n:Nat):(yZ l D n).length=n:=by simp [yZ]
theorem ad1 {l:FS} (h:Ok l) {D:Int} (h1:1≤D) (h2:D≤1000000000) (i:Nat) (hi:i < l.length):0≤Int.tdiv D (dn l i)∧Int.tdiv D (dn l i)≤1000000000∧ -1000000000000000000≤nm l D i∧nm l D i≤1000000000000000000:=by
 obtain⟨b1,b2,b3,b4⟩:=h i hi
 have q0:0≤Int.tdiv D (dn l i):=Int.tdiv_nonneg (by omega) (by omega)
 have q1:Int.tdiv D (dn l i)≤1000000000:=by
  rw [Int.tdiv_eq_ediv_of_nonneg (by omega)]
  exact Int.le_trans (Int.ediv_le_self _ (by omega)) h2
 have p1:nu l i*Int.tdiv D (dn l i)≤1000000000*1000000000:=by
  by_cases c:0≤nu l i
  ·exact Int.mul_le_mul b4 q1 q0 (by decide)
  ·have:nu l i*Int.tdiv D (dn l i)≤0:=Int.mul_nonpos_of_nonpos_of_nonneg (by omega) q0
   omega
 have p2:(-nu l i)*Int.tdiv D (dn l i)≤1000000000*1000000000:=by
  by_cases c:0≤ -nu l i
  ·exact Int.mul_le_mul (by omega) q1 q0 (by decide)
  ·have:(-nu l i)*Int.tdiv D (dn l i)≤0:=Int.mul_nonpos_of_nonpos_of_nonneg (by omega) q0
   omega
 rw [Int.neg_mul] at p2
 unfold nm
 exact⟨q0,q1,by omega,by omega⟩
theorem Ct {P:Nat→Prop} {i d:Nat} (h:i < d):(∀j,i≤j→j < d→P j)↔P i∧ ∀j,i+1≤j→j < d→P j:=
 ⟨fun f=>⟨f i (Nat.le_refl _) h,fun j h1 h2=>f j (by omega) h2⟩,fun⟨a,f⟩ j h1 h2=>by
  by_cases e:i=j
  ·subst e;exact a
  ·exact f j (by omega) h2⟩
section
variable {l:FS} (h:Ok l) (hl:l.length≤1048576)
include h hl
theorem abA {D:Int} (h1:1≤D) (h2:D≤1000000000) (R:List Int × Int × Bool): ∀m i,i+m=l.length→((∀j,i≤j→j < l.length→Fits l D j)→R=(yZ l D l.length,D,true))→(¬ (∀j,i≤j→j < l.length→Fits l D j)→R=([],0,false))→
  Ev (fun k=>kA.l1 k 1000000000000 D (yZ l D i) l (l.length:Int) i) R:=by
 intro m
 induction m with
 | zero=>
  intro i hi r1 r2
  obtain rfl:i=l.length:=by omega
  refine mC (fun k=>by rw [kA.l1]) (lV (by omega) (oK ?_))
  rw [r1 (fun j a b=>by omega)]
 | succ m ih=>
  intro i hi r1 r2
  obtain⟨q0,q1,p1,p2⟩:=ad1 h h1 h2 i (by omega)
  obtain⟨b1,b2,b3,b4⟩:=h i (by omega)
  rw [Ct (P:=Fits l D) (by omega)] at r1 r2
  refine mC (fun k=>by rw [kA.l1]) ?_
  rw [akQ,afx,nH (x:=Int.tdiv D (dn l i)) (by omega) (by omega),show nu l i*Int.tdiv D (dn l i)=nm l D i from rfl,nH (x:=nm l D i) (by omega) (by omega)]
  refine cY (by omega) (cY (by omega) (cY (by omega) (lV (by omega) ?_)))
  unfold rN.f
  rw [nH (x:= -1000000000000) (by decide) (by decide),Z2]
  refine qW rfl ?_
  by_cases c:Fits l D i
  ·refine cY (by unfold Fits at c;simp;omega) (cY (by rw [U6];omega) ?_)
   rw [← abl,nH (by omega) (by omega)]
   exact ih (i+1) (by omega) (fun q=>r1 ⟨c,q⟩) (fun q=>r2 (fun q'=>q q'.2))
  ·refine lV (by unfold Fits at c;simp;omega) (oK ?_)
   rw [r2 (fun q=>c q.1)]
theorem abC (R:List Int × Int × Bool) (next: ∀D,D7 l l.length 0 1=some D→Ev (fun k=>kA.l1 k 1000000000000 D [] l (l.length:Int) 0) R) (none_:D7 l l.length 0 1=none→R=([],0,false)):
  ∀m i d,i+m=l.length→1≤d→d≤1000000000→D7 l m i d=D7 l l.length 0 1→Ev (fun k=>kA.l0 k l 1000000000 1000000000000 d l (l.length:Int) i) R:=by
 intro m
 induction m with
 | zero=>
  intro i d hi h1 h2 e
  refine mC (fun k=>by rw [kA.l0]) (lV (by omega) ?_)
  exact next d e.symm
 | succ m ih=>
  intro i d hi h1 h2 e
  obtain⟨b1,b2,_,_⟩:=h i (by omega)
  obtain⟨f1,f2,f3,f4,f5,f6⟩:=Vh h1 h2 b1 b2
  obtain⟨g1,g2⟩:=Cu (b:=dn l i) h1
  refine mC (fun k=>by rw [kA.l0]) ?_
  rw [afx]
  refine cY (by omega) (cY (by omega) (cY (by omega) (oH (KQ d (dn l i) (by unfold xK;omega) (by unfold xK;omega)) (lV (by omega) ?_))))
  rw [nH (x:=Int.tdiv d (gc d (dn l i))) (by omega) (by omega),show Int.tdiv d (gc d (dn l i))*dn l i=lc d (dn l i) from rfl,nH (x:=lc d (dn l i)) (by omega) (by omega),nH (x:=(i:Int)+1) (by omega) (by omega)]
  rw [show D7 l (m+1) i d=if lc d (dn l i) > 1000000000 then none else D7 l m (i+1) (lc d (dn l i)) from rfl] at e
  by_cases c:lc d (dn l i) > 1000000000
  ·rw [if_pos c] at e
   rw [none_ e.symm]
   exact cY c (oK rfl)
  ·rw [if_neg c] at e
   exact lV c (ih (i+1) _ (by omega) f3 (by omega) e)
theorem aea:Ev (fun k=>kA.f k l 1000000000 1000000000000) (DI l):=by
 unfold kA.f
 refine abC h hl (DI l) (fun D e=>?_) (fun e=>?_) l.length 0 1 (by omega) (by decide) (by decide) rfl
 ·obtain⟨d1,d2,_,_⟩:=Pv h l.length 0 1 D (by omega) (by decide) (by decide) e
  refine abA h hl d1 d2 _ l.length 0 (by omega) (fun q=>?_) (fun q=>?_)
  ·unfold DI;rw [e];exact if_pos q
  ·unfold DI;rw [e];exact if_neg q
 ·unfold DI;rw [e]
end
end Go.Proofs.YthmfdplckdijdaaGreat.Mi
end
section
namespace Go.Proofs.YthmfdplckdijdaaGreat.uF
open Go.RowKit Wz.cw Wz.cX Ma Pr Lk Lt Lq Lp Fr zm Mi
open Dt hiding dn
theorem aiL {l:FS} (h: ∀i,i < l.length→AW 1000000000 (nu l i) (dn l i)=true):l.any K2=false:=by
 rw [List.any_eq_false]
 intro x hx
 obtain⟨i,hi,rfl⟩:=List.getElem_of_mem hx
 have:=h i hi
 simpa [K2,nu,dn,hi] using this
theorem ala {l:FS} (h: ∀i,i < l.length→AW 1000000000 (nu l i) (dn l i)=true):Ok l:=by
 intro i hi
 have:=h i hi
 unfold AW at this
 simp only [Bool.and_eq_true,decide_eq_true_eq] at this
 omega
theorem aix {x z:List Int} (hl:x.length≤5) (hz:x.length≤z.length) (hx: ∀k,k < x.length→(x.getD k 0).natAbs≤20) (hb: ∀k,k < z.length→(z.getD k 0).natAbs≤1000000000000):Ev (fun k=>sO.f k x z) (sm x.length (fun k=>x.getD k 0*z.getD k 0))∧(sm x.length (fun k=>x.getD k 0*z.getD k 0)).natAbs≤100000000000000:=by
 have hp: ∀k,k < x.length→(x.getD k 0*z.getD k 0).natAbs≤20000000000000:=fun k hk=>by
  rw [Int.natAbs_mul]
  exact Nat.mul_le_mul (hx k hk) (hb k (by omega))
 have hs: ∀i,i≤x.length→(sm i (fun k=>x.getD k 0*z.getD k 0)).natAbs≤20000000000000*i:=by
  intro i
  induction i with
  | zero=>intro _;simp [sm]
  | succ i ih=>
   intro hi
   have h1:=ih (by omega)
   have h2:=hp i (by omega)
   show (sm i _+x.getD i 0*z.getD i 0).natAbs≤_
   omega
 constructor
 ·unfold sO.f
  have key: ∀q i,i+q=x.length→Ev (fun k=>sO.l0 k z (sm i (fun k=>x.getD k 0*z.getD k 0)) x (x.length:Int) (i:Int)) (sm x.length (fun k=>x.getD k 0*z.getD k 0)):=by
   intro q
   induction q with
   | zero=>
    intro i hi
    obtain rfl:i=x.length:=by omega
    exact mC (fun k=>by rw [sO.l0]) (lV (by omega) (oK rfl))
   | succ q ih=>
    intro i hi
    have h1:=hp i (by omega)
    have h2:=hs i (by omega)
    have h3:=hs (i+1) (by omega)
    have e3:sm (i+1) (fun k=>x.getD k 0*z.getD k 0)=sm i (fun k=>x.getD k 0*z.getD k 0)+x.getD i 0*z.getD i 0:=rfl
    refine mC (fun k=>by rw [sO.l0]) (cY (by omega) (cY (by omega) (cY (by omega) (cY (by omega) ?_))))
    have e1:rd x (i:Int)*rd z (i:Int)=x.getD i 0*z.getD i 0:=by simp [rd]
    rw [e1,nH (x:=x.getD i 0*z.getD i 0) (by omega) (by omega), ← e3,nH (by omega) (by omega),nH (x:=(i:Int)+1) (by omega) (by omega)]
    exact ih (i+1) (by omega)
  exact key x.length 0 (by omega)
 ·have:=hs x.length (Nat.le_refl _)
  omega
def HU (M:List (List Int)) (Q z:List Int) (D:Int) (i:Nat):Int:=Q.getD i 0*D+sm Q.length (fun k=>m9 M i k*z.getD k 0)
theorem agV {M:List (List Int)} {Q cv z:List Int} (h:PC M Q cv Q.length) (hz:z.length=Q.length) (hb: ∀k,k < z.length→(z.getD k 0).natAbs≤1000000000000) {D:Int} (hD:0≤D∧D≤1000000000):Ev (fun k=>l6.f k M Q z D) ((List.range Q.length).map (HU M Q z D)):=by
 have h5:=h.le
 unfold l6.f
 refine cY (by omega) (cY (by omega) ?_)
 have ZH: ∀i,i < Q.length→((List.range i).map (HU M Q z D)++List.replicate (Q.length - i) 0).set i (HU M Q z D i)=(List.range (i+1)).map (HU M Q z D)++List.replicate (Q.length - (i+1)) 0:=fun i hi=>by
  rw [List.set_append_right (h:=by simp),List.length_map,List.length_range,Nat.sub_self,show Q.length - i=(Q.length - (i+1))+1 by omega,List.replicate_succ,List.set_cons_zero,List.range_succ,List.map_append,List.append_assoc]
  rfl
 have key: ∀q i,i+q=Q.length→Ev (fun k=>l6.l0 k z D ((List.range i).map (HU M Q z D)++List.replicate (Q.length - i) 0) M (M.length:Int) (i:Int) M Q) ((List.range Q.length).map (HU M Q z D)):=by
  intro q
  induction q with
  | zero=>
   intro i hi
   obtain rfl:i=Q.length:=by omega
   refine mC (fun k=>by rw [l6.l0]) (lV (by rw [h.lM];omega) (oK ?_))
   simp
  | succ q ih=>
   intro i hi
   have hrow:d5 M (i:Int)=M.getD i []:=by simp [d5]
   have hmem:M.getD i [] ∈ M:=by
    rw [List.getD_eq_getElem?_getD,List.getElem?_eq_getElem (by rw [h.lM];omega)]
    exact List.getElem_mem _
   have hrl:=h.rows _ hmem
   obtain⟨s1,s2⟩:=aix (x:=M.getD i []) (z:=z) (by omega) (by omega) (fun k hk=>h.Mb i k (by omega) (by omega)) hb
   rw [hrl] at s1 s2
   have hq:=h.qb i (by omega)
   have hqd:(Q.getD i 0*D).natAbs≤100*1000000000:=by
    rw [Int.natAbs_mul]
    exact Nat.mul_le_mul hq (by omega)
   refine mC (fun k=>by rw [l6.l0]) (cY (by rw [h.lM];omega) (cY (by omega) (cY (by rw [h.lM];omega) (cY (by omega) ?_))))
   rw [hrow]
   refine oH s1 (cY (by simp;omega) ?_)
   have e1:rd Q (i:Int)=Q.getD i 0:=by simp [rd]
   have e2:Q.getD i 0*D+sm Q.length (fun k=>(M.getD i []).getD k 0*z.getD k 0)=HU M Q z D i:=rfl
   rw [e1,nH (x:=Q.getD i 0*D) (by omega) (by omega),e2,nH (x:=HU M Q z D i) (by rw [← e2];omega) (by rw [← e2];omega),Int.toNat_natCast,ZH i (by omega),nH (x:=(i:Int)+1) (by omega) (by omega)]
   exact ih (i+1) (by omega)
 have:=key Q.length 0 (by omega)
 rw [hz]
 simpa using this
theorem acJ {M:List (List Int)} {Q cv:List Int} (h:PC M Q cv Q.length) {l:FS} (hlen:l.length=Q.length) {D:Int} (c: ∀i,i < l.length→Fits l D i) (d1:1≤D) (d2:D≤1000000000) (sg: ∀k,k < Q.length→0≤Q.getD k 0*D+sm Q.length (fun j=>m9 M k j*nm l D j)∧0≤nm l D k∧ ¬ (0 < Q.getD k 0*D+sm Q.length (fun j=>m9 M k j*nm l D j)∧0 < nm l D k)):
  Ev (fun k=>(l6.f k M Q (yZ l D l.length) D).bind fun t=>ny.l0 k (yZ l D l.length) t (t.length:Int) 0) (true,0):=by
 have h5:=h.le
 have hnl:(yZ l D l.length).length=Q.length:=by rw [U6,hlen]
 have hna: ∀i,i < Q.length→(yZ l D l.length).getD i 0=nm l D i:=fun i hi=>by simp [yZ,hlen,hi]
 have hrs: ∀i,i < Q.length→HU M Q (yZ l D l.length) D i=Q.getD i 0*D+sm Q.length (fun j=>m9 M i j*nm l D j):=fun i hi=>by
  unfold HU
  congr 1
  exact nE (fun j hj=>by rw [hna j hj])
 refine oH (agV (z:=yZ l D l.length) h hnl (fun k hk=>?_) ⟨by omega,d2⟩) ?_
 ·have hk2:k < Q.length:=by rw [hnl] at hk;exact hk
  rw [hna k hk2]
  have:=c k (by omega)
  unfold Fits at this
  omega
 ·obtain⟨N,hN⟩: ∃N,yZ l D l.length=N:=⟨_,rfl⟩
  rw [hN] at hnl hna hrs ⊢
  obtain⟨R,hR⟩: ∃R,(List.range Q.length).map (HU M Q N D)=R:=⟨_,rfl⟩
  have hRl:R.length=Q.length:=by rw [← hR];simp
  have hRa: ∀i,i < Q.length→rd R (i:Int)=Q.getD i 0*D+sm Q.length (fun j=>m9 M i j*nm l D j):=fun i hi=>by
   rw [← hrs i hi, ← hR]
   unfold rd
   rw [Int.toNat_natCast,List.getD_eq_getElem?_getD,List.getElem?_map,List.getElem?_range hi]
   rfl
  have hNa: ∀i,i < Q.length→rd N (i:Int)=nm l D i:=fun i hi=>by
   unfold rd
   rw [Int.toNat_natCast,hna i hi]
  rw [hR]
  have key: ∀q i,i+q=Q.length→Ev (fun k=>ny.l0 k N R (R.length:Int) (i:Int)) (true,0):=by
   intro q
   induction q with
   | zero=>
    intro i hi
    exact mC (fun k=>by rw [ny.l0]) (lV (by omega) (oK rfl))
   | succ q ih=>
    intro i hi
    obtain⟨g1,g2,g3⟩:=sg i (by omega)
    have nx:=ih (i+1) (by omega)
    have w1:wrap64 ((i:Int)+1)=((i+1:Nat):Int):=by rw [nH (by omega) (by omega)];rfl
    refine mC (fun k=>by rw [ny.l0]) ?_
    rw [hRa i (by omega),hNa i (by omega),w1]
    generalize Q.getD i 0*D+sm Q.length (fun j=>m9 M i j*nm l D j)=x at g1 g3 ⊢
    generalize nm l D i=y at g2 g3 ⊢
    refine cY (by omega) (cY (by omega) (cY (by omega) (lV (by omega) (cY (by omega) (lV (by omega) ?_)))))
    by_cases p1:x > 0
    ·exact cY p1 (lV (fun p2=>g3 ⟨p1,p2⟩) nx)
    ·exact lV p1 nx
  exact key Q.length 0 (by omega)
theorem aiS {M:List (List Int)} {Q cv:List Int} (hc:pV M Q cv=0) (hs:(nI M Q cv 201).2.2.1=true): ∃(y:Bool) (c:Int),Ev (fun k=>ny.f k M Q (Fl (nI M Q cv 201).1 Q.length)) (y,c)∧(c=0→y=true):=by
  have h:=rM hc
  have hp:nZ.f M Q=some true:=by
    unfold pV at hc
    by_cases e:nZ.f M Q=some true
    · exact e
    · rw [if_neg e] at hc;cases hc
  have h5:=h.le
  have hD:=XH h hs
  have hok:=(xY h 201).1
  have hA:=pY (n:=Q.length) (M:=m9 M) (cv:=fun i=>cv.getD i 0) (q:=fun i=>Q.getD i 0) h.Mb (fun i hi=>by have:=h.cb i hi;omega) h.qb
  have hden:=hok.Cx h.le hA
  obtain⟨S,hS⟩: ∃S,(nI M Q cv 201).1=S:=⟨_,rfl⟩
  have hz:=aic h 201
  rw [hS] at hD hok hden hz ⊢
  obtain⟨l,hl⟩: ∃l,Fl S Q.length=l:=⟨_,rfl⟩
  have hlen:l.length=Q.length:=by rw [← hl];exact X0 S Q.length
  have hval: ∀x, -4000000000≤vl S Q.length x∧vl S Q.length x≤4000000000:=fun x=>by
    unfold vl
    cases e:sG S x Q.length with
    | none=>exact⟨(by decide:(-4000000000:Int)≤0),(by decide:(0:Int)≤4000000000)⟩
    | some r=>
      have:=hok.abs h.le hA (i:=r) (c:=2*Q.length+1) (xR e).1 (by omega)
      show -4000000000≤S.T r (2*Q.length+1)∧S.T r (2*Q.length+1)≤4000000000
      omega
  have hat: ∀i,i < Q.length→nu l i=(pP (vl S Q.length (Q.length+i)) S.den).1∧dn l i=(pP (vl S Q.length (Q.length+i)) S.den).2.1:=fun i hi=>by
    have e:l.getD i z58=Fg (pP (vl S Q.length (Q.length+i)) S.den):=by
      rw [← hl]
      unfold Fl vl
      rw [List.getD_eq_getElem?_getD,List.getElem?_map,List.getElem?_range' (by omega)]
      simp
    unfold nu dn
    rw [e]
    exact⟨rfl,rfl⟩
  have aiY: ∀i,i < Q.length→nu l i*S.den=vl S Q.length (Q.length+i)*dn l i∧1≤dn l i∧AW 1000000000 (nu l i) (dn l i)=true:=fun i hi=>by
    rw [(hat i hi).1,(hat i hi).2]
    exact ac0 (hval _) ⟨hden.1,by omega⟩ (hz _)
  have hF: ∀i,i < l.length→AW 1000000000 (nu l i) (dn l i)=true:=fun i hi=>(aiY i (by omega)).2.2
  have hO:=ala hF
  rw [hl]
  unfold ny.f nG.f
  have code:Ev (fun k=>(nZ.f M Q).bind fun t=>if t=true then((rF.f l).bind fun t2=>nG.j0 k l (!t2) M Q) else nG.j0 k l true M Q) 0:=by
    refine qW hp (cY rfl (qW (show rF.f l=some true by unfold rF.f;rw [aiL hF];rfl) ?_))
    exact mC (fun k=>by rw [nG.j0]) (lV (by decide) (cY (by omega) (oK rfl)))
  have X9:=aea hO (by omega)
  have hgo: ∀(y:Bool) (c:Int),Ev (fun k=>(kA.f k l 1000000000 1000000000000).bind fun b=>if b.2.2=true then((l6.f k M Q b.1 b.2.1).bind fun t=>ny.l0 k b.1 t (t.length:Int) 0) else some (false,3)) (y,c)→Ev (fun k=>((nZ.f M Q).bind fun t=>if t=true then((rF.f l).bind fun t2=>nG.j0 k l (!t2) M Q) else nG.j0 k l true M Q).bind fun t=>if t=0 then((kA.f k l 1000000000 1000000000000).bind fun b=>if b.2.2=true then((l6.f k M Q b.1 b.2.1).bind fun t=>ny.l0 k b.1 t (t.length:Int) 0) else some (false,3)) else some (false,t)) (y,c):=fun y c hh=>oH code (cY rfl hh)
  cases ed:D7 l l.length 0 1 with
  | none=>
    have et:DI l=([],0,false):=by unfold DI;rw [ed]
    rw [et] at X9
    exact⟨false,3,hgo _ _ (oH X9 (lV (by simp) (oK rfl))),fun e=>by cases e⟩
  | some D=>
    obtain⟨d1,d2,_,d4⟩:=Pv hO l.length 0 1 D (by omega) (by decide) (by decide) ed
    by_cases c: ∀i,0≤i→i < l.length→Fits l D i
    · have et:DI l=(yZ l D l.length,D,true):=by unfold DI;rw [ed];exact if_pos c
      rw [et] at X9
      have hnm: ∀j,j < Q.length→nm l D j*S.den=vl S Q.length (Q.length+j)*D:=fun j hj=>by
        obtain⟨r1,r2,_⟩:=aiY j hj
        obtain⟨t,ht⟩:=d4 j (Nat.zero_le _) (by omega)
        have q:Int.tdiv D (dn l j)=t:=by
          have h9:Int.tdiv (dn l j*t) (dn l j)=t:=Int.mul_tdiv_cancel_left t (by omega)
          rwa [← ht] at h9
        unfold nm
        rw [q,Int.mul_assoc,Int.mul_comm t S.den, ← Int.mul_assoc,r1,Int.mul_assoc]
        exact congrArg (vl S Q.length (Q.length+j)* ·) ht.symm
      have sg:=fun k hk=>acW (n:=Q.length) (M:=m9 M) (q:=fun i=>Q.getD i 0) (val:=vl S Q.length) (nm:=nm l D) (den:=S.den) (D:=D) hden.1 (by omega) (akJ hD) (fun k hk=>akK hok hD h.pos hk) (fun k hk=>agG hD hk) hnm (k:=k) hk
      exact⟨true,0,hgo _ _ (oH X9 (cY rfl (acJ h hlen (fun i hi=>c i (Nat.zero_le _) hi) d1 d2 sg))),fun _=>rfl⟩
    · have et:DI l=([],0,false):=by unfold DI;rw [ed];exact if_neg c
      rw [et] at X9
      exact⟨false,3,hgo _ _ (oH X9 (lV (by simp) (oK rfl))),fun e=>by cases e⟩
theorem aa4 (l:List (List Int)) (hl:l.length≤1000) (hr: ∀x ∈ l,x.length≤1000):Ev (fun k=>qt.f k l l) true:=by
 unfold qt.f
 refine cY rfl ?_
 have key: ∀m i,i+m=l.length→Ev (fun k=>qt.l0 k l l (i:Int)) true:=by
  intro m
  induction m with
  | zero=>
   intro i hi
   refine mC (fun k=>by rw [qt.l0]) ?_
   exact lV (by omega) (oK rfl)
  | succ m ih=>
   intro i hi
   have hrow:d5 l (i:Int)=l.getD i []:=by simp [d5]
   have hm:l.getD i [] ∈ l:=by
    rw [List.getD_eq_getElem?_getD,List.getElem?_eq_getElem (by omega)]
    exact List.getElem_mem _
   have:=hr _ hm
   refine mC (fun k=>by rw [qt.l0]) ?_
   refine cY (by omega) (cY (by omega) (cY (by omega) ?_))
   rw [hrow]
   refine oH (abp _ (by omega)) (cY rfl ?_)
   rw [nH (x:=(i:Int)+1) (by omega) (by omega)]
   exact ih (i+1) (by omega)
 exact key l.length 0 (by omega)
end Go.Proofs.YthmfdplckdijdaaGreat.uF
end
section
namespace Go.Proofs.YthmfdplckdijdaaGreat.Pr
open Go.RowKit Wz.cw Wz.fX Wz.cX Ma Dt Lk Lt Lq
def O7 (R:TS × List (List Int) × Bool × Int × Int) (c:Int):List (List Int) × Bool × Int:=if c=0 then(if R.2.2.2.2=0 then(R.2.1,R.2.2.1,0) else([],false,R.2.2.2.2)) else([],false,c)
def rW.f (aa:List (List Int)) (ae l1:List Int):Option (List (List Int) × Bool × Int):=some (O7 (nI aa ae l1 201) (pV aa ae l1))
theorem rW.calls (af:Option Addr) (ag:Nat) (aa:List (List Int)) (ah:Option Addr) (ai:Nat) (ae:List Int) (A1:Option Addr) (c1:Nat) (l1:List Int) (r1:List (List Int)) (r2:Bool) (r3:Int) (w:World) (aj:Kd.C (Kd.slice 2 (Kd.int .i64)) w af aa.length aa) (ak:aa.length≤ag) (aq:Kd.C (Kd.int .i64) w ah ae.length ae) (au:ae.length≤ai) (hr1:Kd.C (Kd.int .i64) w A1 l1.length l1) (hc1:l1.length≤c1) (h:rW.f aa ae l1=some (r1,r2,r3)):
  Calls Tryz.prog 24 #[.agg #[.slice af aa.length ag, .slice ah ae.length ai], .slice A1 l1.length c1] w fun e w'=> ∃qg:Value,e= .returned (.tuple #[qg, .bool r2, .int .i64 r3])∧Kd.S (Kd.slice 2 (Kd.int .i64)) 24 w' w.heap.size (fun _=>True) qg r1∧Below w.heap.size w w':=by
 unfold rW.f at h;have HB:=q_ (Below.refl w.heap.size w);have hcall:=fun W (hb:Below w.heap.size w W)=>Fa af ag aa ah ai ae A1 c1 l1 W (Kd.nW aj hb) ak (Kd.nW aq hb) au (Kd.nW hr1 hb) hc1
 have HL:=q_ hcall;clear hcall aj ak aq au hr1 hc1;obtain⟨R,hR⟩: ∃R,nI aa ae l1 201=R:=⟨_,rfl⟩
 rw [hR] at h HL;clear hR;obtain⟨c,hc⟩: ∃c,pV aa ae l1=c:=⟨_,rfl⟩
 rw [hc] at h HL;clear hc;have H:=q_ (Option.some.inj h);clear h
 generalize aa.length=m0 at HL ⊢
 generalize ae.length=m1 at HL ⊢
 generalize l1.length=m2 at HL ⊢
 go_enter Tryz.func24,Tryz.ntmps24
 go_wp2_with (first | ((with_reducible refine dg (N:=2) rfl ?_);refine nR 2 #[.slice af m0 ag, .slice ah m1 ai] 34 ?_;intro g2 hg w2 cM hb;replace HB:=q_ (eE HB.out hb);have B2:=q_ cM;have hz0:=lS B2 0;have hz1:=lS B2 1;clear hb cM hg))
 refine(HL.out w2 HB.out).mono ?_
 rintro e w3 ⟨hor,hb⟩;have HBS:=q_ HB.out.size;replace HB:=q_ (eE HB.out hb);clear hb hz0 hz1 HL;rcases hor with ⟨hc,rfl⟩ | ⟨rfl,p,rfl,hP⟩
 ·have hcb:(c==0)=false:=by simpa using hc
  have H2:aE (([],false,c)=(r1,r2,r3)):=⟨by rw [← H.out];unfold O7;rw [if_neg hc]⟩
  clear H;go_wp2
  go_ret3
  have e:=H2.out;injection e with e1 e
  injection e with e2 e3
  subst e1 e2 e3;exact⟨_,rfl,Kd.sJ _ _ _ _ _,HB.out⟩
 ·obtain⟨cR,hcR⟩: ∃c,R.2.2.2.2=c:=⟨_,rfl⟩
  have H2:aE ((if cR=0 then(R.2.1,R.2.2.1,0) else([],false,cR))=(r1,r2,r3)):=⟨by rw [← H.out, ← hcR];unfold O7;rw [if_pos rfl]⟩
  rw [hcR] at hP ⊢;clear H hcR
  by_cases hc0:cR=0
  ·subst hc0;have Zj:=q_ ((hP.base HBS.out).mv (mH (Below.refl w3.heap.size w3)));replace HB:=q_ (eE HB.out (mH (Below.refl w3.heap.size w3)));clear hP;have e:=H2.out;rw [if_pos rfl] at e;injection e with e1 e
   injection e with e2 e3
   subst e1 e2 e3;clear H2;go_wp2
   obtain⟨lo,hi,t,u1,h1,h2,h3,hT,hB,hS⟩:=Zj.out;obtain⟨A9,c9,rfl⟩:=Kd.nk hS;have hq1:=lS ⟨hB⟩ 1;have hq2:=lS ⟨hB⟩ 2;have HS:=q_ (Kd.oP hS (Nat.le_trans h1 h2));clear h1 h2 h3 hT hB hS Zj;obtain⟨sv,hsv⟩: ∃x,R.2.2.1=x:=⟨_,rfl⟩
   obtain⟨st,hst⟩: ∃x,R.2.1=x:=⟨_,rfl⟩
   rw [hsv] at hq2;rw [hst] at hq1 HS;have HSV:=q_ hsv;have HST:=q_ hst;clear hsv hst;refine qx (n:=11) (S:=fun w'=>w'.cell? ⟨p,1,none⟩=some (.slice A9 st.length c9)∧w'.cell? ⟨p,2,none⟩=some (.bool sv)) (ds:= []) ⟨hq1,hq2⟩ (fun hHeld=>?_)
   generalize w3.drew=w6 at HB HS hHeld ⊢
   clear hq1 hq2;refine rm 0 18 1 19 2 20 ?_;refine mg 3 21 ?_;refine rm 4 22 5 23 6 24 ?_;refine mg 7 25 ?_;refine rm 8 4 9 5 10 6 ?_
   refine oA (by kernel_rfl) ?_
   go_wp2
   go_ret3
   exact⟨_,by rw [HSV.out];rfl,by rw [HST.out];exact HS.out,HB.out⟩
  ·have hcb:(cR==0)=false:=by simpa using hc0
   have e:=H2.out;rw [if_neg hc0] at e;injection e with e1 e
   injection e with e2 e3
   subst e1 e2 e3;clear H2 hP;go_wp2
   go_ret3
   exact⟨_,rfl,Kd.sJ _ _ _ _ _,HB.out⟩
end Go.Proofs.YthmfdplckdijdaaGreat.Pr
end
section
namespace Go.Proofs.YthmfdplckdijdaaGreat.uF
open Go.RowKit Wz.cw Wz.cX Ma Pr Dt Lk Lt Lq Lp
theorem ZA (M:List (List Int)) (Q cv:List Int) (hQ:Q.length≤1048576) (hcv:cv.length≤1048576): ∃R:List (List Int) × Bool × Int,Ev (fun k=>tQ.f k M Q cv) R∧rW.f M Q cv=some R∧R.1.length≤200∧(∀x ∈ R.1,x.length=2):=by
 unfold rW.f
 refine⟨_,?_,rfl,?_⟩
 all_goals by_cases c:pV M Q cv=0
 ·obtain⟨S,h1,h2⟩:=Bs c 201 (by omega)
  unfold tQ.f O7
  refine oH (zy M Q cv hQ hcv) (cY c (oH h1 ?_))
  rw [if_pos c]
  rcases h2 with ⟨e1,e2⟩ | ⟨e1,e2,e3,e4,e5,_⟩
  ·refine cY (by show (S.2.1.length:Int) > 200;omega) (oK ?_)
   rw [e1];rfl
  ·refine lV (by show ¬ (S.2.1.length:Int) > 200;omega) (oK ?_)
   rw [if_pos e1, ← e4, ← e5];rfl
 ·unfold tQ.f O7
  rw [if_neg c]
  exact oH (zy M Q cv hQ hcv) (lV c (oK rfl))
 ·obtain⟨S,h1,h2⟩:=Bs c 201 (by omega)
  unfold O7
  rw [if_pos c]
  rcases h2 with ⟨e1,e2⟩ | ⟨e1,e2,e3,e4,e5,_⟩
  ·rw [if_neg (by rw [e1];decide)]
   exact⟨by simp,fun x hx=>by cases hx⟩
  ·rw [if_pos e1]
   exact⟨by show (nI M Q cv 201).2.1.length≤200;rw [← e4];exact e2,agP (rM c)⟩
 ·unfold O7
  rw [if_neg c]
  exact⟨by simp,fun x hx=>by cases hx⟩
end Go.Proofs.YthmfdplckdijdaaGreat.uF
end
section
namespace Go.Proofs.YthmfdplckdijdaaGreat.Pr
open Go.RowKit Wz.cw Wz.fX Wz.cX
attribute [local go_sem] nV nT oF oD nC nB nU nS
end Go.Proofs.YthmfdplckdijdaaGreat.Pr
end
section
namespace Go.Proofs.YthmfdplckdijdaaGreat.Sd
open Go.RowKit Wz.cw Wz.cX Ma Pr Dt Bz
def en (l:List (List Int)):lE:=fun i j=>(l.getD i []).getD j 0
def SB (n:Nat) (A:lE):Prop:= ∃k,Bk n k A
theorem SB.rZ {n c:Nat} {A:lE} (h:SB (n+1) A) (hc:c < n+1):SB n (rZ c A):=by
 obtain⟨k,h⟩:=h
 by_cases e:c=k
 ·subst e
  refine⟨n,fun i j hi hj=>?_⟩
  have:=h (i+1) (up c j) (by omega) (Dl hj)
  rw [if_neg (OV c j)] at this
  unfold Dt.rZ
  split <;> omega
 ·refine⟨dn c k,fun i j hi hj=>?_⟩
  have:=h (i+1) (up c j) (by omega) (Dl hj)
  unfold Dt.rZ
  by_cases q:up c j=k
  ·rw [if_pos q] at this
   rw [if_pos (by rw [← q,aad])];exact this
  ·rw [if_neg q] at this
   split <;> omega
theorem SB.lY {n:Nat} {A:lE} (h:SB n A) (hn:n≤5): -1920000000≤lY n A∧lY n A≤1920000000:=by
 obtain⟨k,h⟩:=h
 have h1:=D6 n k A h
 have h2:=IV n hn
 omega
theorem SB.num {n:Nat} {A:lE} (h:SB n A) {i j:Nat} (hi:i < n) (hj:j < n): -100≤A i j∧A i j≤100:=by
 obtain⟨k,h⟩:=h
 have:=h i j hi hj
 split at this <;> omega
theorem ZM (l:List (List Int)) (i:Nat):d5 l (i:Int)=l.getD i []:=by simp [d5]
end Go.Proofs.YthmfdplckdijdaaGreat.Sd
end
section
namespace Go.Proofs.YthmfdplckdijdaaGreat.Mn
open Go.RowKit Wz.cw Wz.cX Ma Pr Dt Bz Bd Un Cz
section
variable {n:Nat} {l:List (List Int)} (h:Sq n l) (hn:n≤5) (s:Int)
include h hn
end
end Go.Proofs.YthmfdplckdijdaaGreat.Mn
end
section

end
section
namespace Go.Proofs.YthmfdplckdijdaaGreat.Mn
open Go.RowKit Wz.cw Wz.cX Ma Pr Dt Bz Bd Un Cz
theorem ald {n:Nat} {l:List (List Int)} (hn:n≤5) (hl:l.length=n) (hr: ∀x ∈ l,x.length=n) (hs:Sd.SB n (en l)):q7.f l=some (lY n (en l)):=by
 unfold q7.f
 rw [if_pos ⟨by omega,fun x hx=>by rw [hr x hx,hl]⟩,hl]
 obtain⟨k,hk⟩:=hs
 congr 1
 exact ahG hn (k:=k) (en l) hk
section
variable {n:Nat} {l:List (List Int)} (h:Sq n l) (hn:n≤5) (s:Int)
include h hn
theorem ad5:Ev (fun k=>xS.f k l s) (lY (sel n (bB s)).length (yT (sel n (bB s)) (en l))):=by
 have sl:(sel n (bB s)).length≤n:=by unfold sel;have:=List.length_filter_le (bB s) (List.range n);simpa using this
 have hsel (i:Nat) (hi:i < (sel n (bB s)).length):(sel n (bB s)).getD i 0 < n:=by
  rw [List.getD_eq_getElem?_getD,List.getElem?_eq_getElem hi]
  exact List.mem_range.1 (List.mem_filter.1 (List.getElem_mem hi)).1
 have he (i j:Nat) (hi:i < (sel n (bB s)).length) (hj:j < (sel n (bB s)).length):en (zQ l (sel n (bB s)) (sel n (bB s))) i j=yT (sel n (bB s)) (en l) i j:=by
  show ((zQ l (sel n (bB s)) (sel n (bB s))).getD i []).getD j 0=_
  unfold zQ yT
  simp [hi,hj]
 unfold xS.f
 refine oH (Vp h hn s) ?_
 refine oK ?_
 rw [ald (n:=(sel n (bB s)).length) (by omega) (by simp [zQ]) (fun x hx=>by
  obtain⟨i,_,rfl⟩:=List.mem_map.1 hx
  simp) ⟨0,fun i j hi hj=>by
   rw [he i j hi hj]
   have:=h.num _ _ (hsel i hi) (hsel j hj)
   unfold yT
   split <;> omega⟩]
 exact congrArg some (mX he)
end
end Go.Proofs.YthmfdplckdijdaaGreat.Mn
end
section
namespace Go.Proofs.YthmfdplckdijdaaGreat.Pc
open Go.RowKit Wz.cw Wz.cX Ma Pr Dt Bz Un Cz Pb Mn
theorem agO (T:Nat→Bool): ∀n, ∃s,s < 2 ^ n∧ ∀i,i < n→s.testBit i=T i:=by
 intro n
 induction n with
 | zero=>exact⟨0,by decide,fun i hi=>by omega⟩
 | succ n ih=>
  obtain⟨s,h1,h2⟩:=ih
  have hp:(2:Nat) ^ (n+1)=2 ^ n+2 ^ n:=by rw [Nat.pow_succ];omega
  by_cases c:T n=true
  ·refine⟨s ||| 2 ^ n,Nat.or_lt_two_pow (by omega) (by omega),fun i hi=>?_⟩
   rw [Nat.testBit_or,Nat.testBit_two_pow]
   by_cases e:n=i
   ·subst e;rw [decide_eq_true rfl,Bool.or_true,c]
   ·rw [decide_eq_false e,Bool.or_false];exact h2 i (by omega)
  ·refine⟨s,by omega,fun i hi=>?_⟩
   by_cases e:n=i
   ·subst e
    rw [Nat.testBit_lt_two_pow h1]
    cases hT:T n with
    | false=>rfl
    | true=>exact absurd hT c
   ·exact h2 i (by omega)
theorem akT {n:Nat} {M:List (List Int)} (h: ∀s:Nat,s < 2 ^ n→1≤lY (sel n (bB (s:Int))).length (yT (sel n (bB (s:Int))) (en M))) (h5:n≤5):P9.PM n (en M):=by
 intro T
 obtain⟨s,hs,hb⟩:=agO T n
 have e:sel n (bB (s:Int))=sel n T:=by
  unfold sel
  refine List.filter_congr (fun i hi=>?_)
  rw [ajC _ _ (by have:=List.mem_range.1 hi;omega)]
  exact hb i (List.mem_range.1 hi)
 have h1:=h s hs
 rw [e] at h1
 rw [abM n T (P9.GF (en M) T) (fun i k hk=>by unfold P9.GF;rw [if_neg (by simp [hk])])]
 have:lY (sel n T).length (yT (sel n T) (P9.GF (en M) T))=lY (sel n T).length (yT (sel n T) (en M)):=by
  refine mX (fun i j hi hj=>?_)
  have hP:T ((sel n T).getD j 0)=true:=by
   rw [List.getD_eq_getElem?_getD,List.getElem?_eq_getElem hj]
   exact(List.mem_filter.1 (List.getElem_mem hj)).2
  simp only [yT,P9.GF]
  rw [if_pos hP]
 rw [this]
 omega
end Go.Proofs.YthmfdplckdijdaaGreat.Pc
end
section
namespace Go.Proofs.YthmfdplckdijdaaGreat.Pr
open Go.RowKit Wz.cw Wz.fX Wz.cX
attribute [local go_sem] nV nT oF oD nC nB nU nS
def nJ.l0:Nat→List Int→Int→Int→Option (Int)
 | 0,_,_,_=>none
 | k+1,x0,x3,x4=>if x4 < (x0.length:Int) then(if 0≤x4 then(nJ.l0 k x0 (mn x3 (rd x0 x4)) (wrap64 (x4+1))) else(none)) else(some x3)
def nJ.f (k:Nat) (l0:List Int):Option (Int):=if(l0.length:Int) < 1 then(none) else(if 0 < (l0.length:Int) then(nJ.l0 k l0 (rd l0 0) 1) else(none))
theorem nJ.calls (k:Nat) (A0:Option Addr) (c0:Nat) (l0:List Int) (r:Int) (w:World) (hr0:Kd.C (Kd.int .i64) w A0 l0.length l0) (hc0:l0.length≤c0) (h:nJ.f k l0=some r):
  Calls Tryz.prog 142 #[.slice A0 l0.length c0] w fun e w'=>e= .returned (.int .i64 r)∧Below w.heap.size w w':=by
 have qE:=q_ hr0;have uG:=q_ hc0;clear hr0 hc0;have HB:=q_ (Below.refl w.heap.size w);have H:(if(l0.length:Int) < 1 then(none) else(if 0 < (l0.length:Int) then(nJ.l0 k l0 (rd l0 0) 1) else(none)))=some r:=h;clear h
 by_cases c2:(l0.length:Int) < 1
 ·rw [if_pos c2] at H;exact absurd H (by simp)
 ·rw [if_neg c2] at H;have Wc:=decide_eq_false c2;have aog:decide (l0.length < 1)=false:=decide_eq_false (by omega);clear c2
  by_cases c3:0 < (l0.length:Int)
  ·rw [if_pos c3] at H;have qP:=decide_eq_true c3;have vV:decide (0 < l0.length)=true:=decide_eq_true (by omega);clear c3;have H':=q_ H;clear H;have ZV:0≤(0:Int):=(by omega)
   have ZP:0 < (l0.length:Int):=l7;obtain⟨af,an7,QC⟩:=Kd.mA qE.out 0 ZV ZP;cases an7
   have arK:(0 < l0.length)=True:=eq_true (by omega)
   (try rw [show ((0:Int)).toNat=0 from rfl] at QC)
   (try rw [Addr.add_zero'] at QC)
   replace ZV:=eq_true ZV;replace ZP:=eq_true ZP
   go_enter Tryz.func142,Tryz.ntmps142
   go_wp2
   go_loopg [3,4] k (fun kq v3 v4 w'=> ∃(ae:Int) (aa:Int),v3= .int .i64 ae∧v4= .int .i64 aa∧aE (nJ.l0 kq l0 ae aa=some r)∧aE (kq≤k)∧aE (Below w.heap.size w w'))
   case atStart=>exact⟨(rd l0 0),(1),nM,nM,H',⟨Nat.le_refl _⟩,⟨hb_⟩⟩
   case round=>
    clear H';(try clear c2);(try clear Wc);(try clear aog);(try clear c3);(try clear qP);(try clear vV);(try clear QC);(try clear ZV);(try clear ZP);obtain⟨ae,aa,rfl,rfl,HA,nA,HB⟩:=hrel;cases gk with
    | zero=>exact absurd HA.out (by simp [nJ.l0])
    | succ k1=>
     have H:=HA.out;clear HA;simp only [nJ.l0] at H
     by_cases c4:aa < (l0.length:Int)
     ·rw [if_pos c4] at H;have qv:=decide_eq_true c4;clear c4
      by_cases c5:0≤aa
      ·rw [if_pos c5] at H;have uP:=decide_eq_true c5;clear c5;obtain⟨ji6,Z7⟩: ∃j_:Int,(mn ae (rd l0 aa))=j_:=⟨_,rfl⟩
       replace H:(nJ.l0 k1 l0 ji6 (wrap64 (aa+1)))=some r:=by first | (rw [Z7] at H;exact H) | (simp only [Z7] at H ⊢;exact H)
       have arQ:(if(rd l0 aa) < ae then(rd l0 aa) else ae)=ji6:=Z7;have H':=q_ H;clear H;have adL:0≤(aa:Int):=l7;have adn:aa < (l0.length:Int):=l7;obtain⟨ag,an6,QB⟩:=Kd.mA qE.out aa adL adn;obtain rfl:af=ag:=(by injection an6)
       replace QB:=bc_ HB.out QB;replace adL:=eq_true adL;replace adn:=eq_true adn;go_wp2
       go_roundg k1
       case measure=>have:=nA.out;omega
       case rel=>exact⟨(ji6),(wrap64 (aa+1)),(by first | rfl | (simp;done) | (simp only [← Z7] <;> (first | rfl | simp)) | (simp [*];done)),nM,H',⟨by have:=nA.out;omega⟩,⟨hb_⟩⟩
      ·rw [if_neg c5] at H;exact absurd H (by simp)
     ·rw [if_neg c4] at H;have qv:=decide_eq_false c4;clear c4;obtain rfl:=Option.some.inj H;go_wp2
      go_ret
      exact⟨pH,hb_⟩
  ·rw [if_neg c3] at H;exact absurd H (by simp)
end Go.Proofs.YthmfdplckdijdaaGreat.Pr
end
section
namespace Go.Proofs.YthmfdplckdijdaaGreat.Pr
open Go.RowKit Wz.cw Wz.fX Wz.cX Ma
theorem akN {n:Nat} (h:n≤12):wrap64 (2 ^ min n 64)=((2 ^ n:Nat):Int):=by
 have hp:2 ^ n≤2 ^ 12:=Nat.pow_le_pow_right (by decide) h
 have e:(2:Int) ^ n=((2 ^ n:Nat):Int):=by rw [Int.natCast_pow];rfl
 rw [Nat.min_eq_left (by omega),e]
 generalize 2 ^ n=p at hp
 rw [nH (by omega) (by omega)]
def Dj (mn:Nat→Int) (m s:Nat):List Int:=(List.range m).map fun i=>if i < s then mn i else 0
theorem Yp (mn:Nat→Int) (m s:Nat):(Dj mn m s).length=m:=by simp [Dj]
theorem ad4 (mn:Nat→Int) (m:Nat):Dj mn m 0=List.replicate m 0:=by
 apply List.ext_getElem
 ·simp [Dj]
 ·intro k h1 h2;simp [Dj]
theorem ag5 (mn:Nat→Int) {m s:Nat} (h:s < m):(Dj mn m s).set s (mn s)=Dj mn m (s+1):=by
 apply List.ext_getElem
 ·simp [Dj]
 ·intro k h1 h2
  rw [List.getElem_set]
  simp only [Dj,List.getElem_map,List.getElem_range]
  by_cases e:s=k
  ·subst e;simp
  ·rw [if_neg e]
   by_cases c:k < s
   ·rw [if_pos c,if_pos (by omega)]
   ·rw [if_neg c,if_neg (by omega)]
theorem ag6 (mn:Nat→Int) {m s:Nat} (h:s < m):mn s ∈ Dj mn m m:=by
 unfold Dj
 exact List.mem_map.2 ⟨s,List.mem_range.2 h,by rw [if_pos h]⟩
theorem aiN (l:List Int) (h:0 < l.length) (h2:l.length≤1000): ∃v,Ev (fun k=>nJ.f k l) v∧ ∀x ∈ l,v≤x:=by
 have amZ: ∀a b:Int,mn a b≤a∧mn a b≤b:=by intro a b;unfold mn;split <;> omega
 have loop: ∀q i (a:Int),i+q=l.length→(∀j,j < i→a≤l.getD j 0)→ ∃v,Ev (fun k=>nJ.l0 k l a (i:Int)) v∧ ∀x ∈ l,v≤x:=by
  intro q
  induction q with
  | zero=>
   intro i a hi ha
   refine⟨a,mC (fun k=>by rw [nJ.l0]) (lV (by omega) (oK rfl)),fun x hx=>?_⟩
   obtain⟨j,hj,rfl⟩:=List.getElem_of_mem hx
   have:=ha j (by omega)
   rw [List.getD_eq_getElem?_getD,List.getElem?_eq_getElem hj] at this
   exact this
  | succ q ih=>
   intro i a hi ha
   obtain⟨v,e1,e2⟩:=ih (i+1) (mn a (rd l (i:Int))) (by omega) (fun j hj=>by
    have m:=amZ a (rd l (i:Int))
    by_cases e:j=i
    ·subst e;have h:=m.2;rw [rT] at h ⊢;exact h
    ·exact Int.le_trans m.1 (ha j (by omega)))
   refine⟨v,mC (fun k=>by rw [nJ.l0]) (cY (by omega) (cY (by omega) ?_)),e2⟩
   rw [nH (x:=(i:Int)+1) (by omega) (by omega)]
   exact e1
 obtain⟨v,e1,e2⟩:=loop (l.length - 1) 1 (rd l 0) (by omega) (fun j hj=>by
  obtain rfl:j=0:=by omega
  exact Int.le_refl _)
 exact⟨v,by unfold nJ.f;exact lV (by omega) (cY (by omega) e1),e2⟩
theorem Vb (n:Nat) (mn:Nat→Int) (A:Option Addr) (c:Nat) (M:List (List Int)) (w:World) (hr:Kd.C (Kd.slice 2 (Kd.int .i64)) w A M.length M) (hc:M.length≤c) (hn:M.length=n) (h5:n≤5) (hm: ∀s:Nat,s < 2 ^ n→ ∃k,xS.f k M (s:Int)=some (mn s)):
  Calls Tryz.prog 143 #[.slice A M.length c] w fun e w'=> ∃qg:Value,e= .returned (qg)∧Kd.R (Kd.int .i64) 2 w' w.heap.size (fun _=>True) qg (Dj mn (2 ^ n) (2 ^ n))∧Below w.heap.size w w':=by
 have HMN:=q_ (fun(W:World) (hW:Below w.heap.size w W) (s:Nat) (hs:s < 2 ^ n)=>(by
  obtain⟨k,h⟩:=hm s hs;exact xS.calls k A c M (s:Int) (mn s) W (Kd.nW hr hW) hc h:Calls Tryz.prog 162 #[.slice A M.length c, .int .i64 (s:Int)] W fun e w'=>e= .returned (.int .i64 (mn s))∧Below W.heap.size W w'))
 clear hr hc hm;rw [hn] at HMN ⊢;have hs:wrap64 (2 ^ min n 64)=((2 ^ n:Nat):Int):=akN (by omega);have hp:2 ^ n≤2 ^ 5:=Nat.pow_le_pow_right (by decide) h5;have hp0:0 < 2 ^ n:=Nat.pow_pos (by decide)
 generalize 2 ^ n=m at HMN hs hp hp0 ⊢
 have HM0:=q_ hp0;have HM5:=q_ hp;have HB:=q_ (Below.refl w.heap.size w);clear hn h5 hp hp0
 go_enter Tryz.func143,Tryz.ntmps143
 go_wp2_with (first | ((with_reducible refine dg (N:=8) rfl ?_);refine Kd.Ge (Kd.int .i64) _ 2 rfl (N:=8) rfl 24 _ _ rfl (wrap64 (2 ^ min n 64)) rfl rfl Tryz.underlying24 (.int .i64 0) 8 q6 rfl (by decide) (by omega) 0 (ok:=fun _=>True) (oC:=fun _=>True) rfl (fun _ hk=>hk) trivial (by rw [hs];omega) (by rw [hs];have:=HM5.out;omega) (Below.refl _ _) (Nat.le_refl _) ?_;intro v8 w2 ho hb hg_ om;(rw [hs,Int.toNat_natCast] at ho);(obtain⟨go,co,rfl,ai5,anw,cells,hbc⟩:=Kd.rX ho (by have:=HM0.out;simp;omega));have HO:=q_ ho;replace HB:=q_ hb;have GO1:=q_ ai5;clear ho hb hg_ om ai5 anw hbc;(simp only [List.length_replicate] at HO ⊢)))
 clear hs;have aa:aE (Kd.R (Kd.int .i64) 2 w2 w.heap.size (fun _=>True) (.slice (some ⟨go,0,none⟩) m co) (Dj mn m 0)):=⟨by rw [ad4];exact HO.out⟩
 clear HO
 go_loopg [11] m (fun gg v11 wr=> ∃s:Nat,s≤m∧m - s≤gg∧v11= .int .i64 (s:Int)∧aE (Kd.R (Kd.int .i64) 2 wr w.heap.size (fun _=>True) (.slice (some ⟨go,0,none⟩) m co) (Dj mn m s))∧aE (Below w.heap.size w wr))
 case atStart=>exact⟨0,Nat.zero_le _,by omega,rfl,aa,HB⟩
 case round=>
  clear aa HB;obtain⟨s,hsm,hg,rfl,HO,HB⟩:=hrel
  by_cases hlt:s < m
  ·have pZ:(s:Int) < (m:Int):=by omega
   have h0z:(0:Int)≤(s:Int):=by omega
   have hw:wrap64 ((s:Int)+1)=((s+1:Nat):Int):=by rw [nH (by omega) (by have:=HM5.out;omega)];rfl
   have HG:=q_ hg;have mG:=q_ hlt;have HW:=q_ hw;clear hsm hg hlt hw
   go_wp2_with fail
   refine(HMN.out wr HB.out s mG.out).mono ?_
   rintro e w3 ⟨rfl,hb⟩;replace HO:=q_ (Kd.oQ HO.out hb);replace HB:=q_ (eE HB.out hb);obtain⟨hcs,hfs⟩:=Kd.tW 0 HO.out (s:Int) (by omega) (by have:=mG.out;omega);rw [Int.toNat_natCast] at hcs hfs;clear hb;go_wp2
   go_roundg (m - (s+1))
   case measure=>have:=HG.out;have:=mG.out;omega
   case rel=>
    have hput:=(Kd.zl HO.out (s:Int) (mn s)).1;rw [Int.toNat_natCast,ag5 mn mG.out] at hput;exact⟨s+1,mG.out,by omega,by first | rfl | exact congrArg (Value.int .i64) HW.out,⟨hput⟩,⟨HB.out.setCell GO1.out _⟩⟩
  ·have pZ: ¬ (s:Int) < (m:Int):=by omega
   obtain rfl:s=m:=by omega
   clear hsm hg hlt;go_wp2
   go_ret
   exact⟨_,rfl,HO.out,HB.out⟩
theorem abt (n:Nat) (mn:Nat→Int) (A:Option Addr) (c:Nat) (M:List (List Int)) (w:World) (hr:Kd.C (Kd.slice 2 (Kd.int .i64)) w A M.length M) (hc:M.length≤c) (hn:M.length=n) (h5:n≤5) (hm: ∀s:Nat,s < 2 ^ n→ ∃k,xS.f k M (s:Int)=some (mn s)):
  ∃b:Bool,(b=true→ ∀s,s < 2 ^ n→1≤mn s)∧ ∀W,Below w.heap.size w W→Calls Tryz.prog 93 #[.slice A M.length c, .int .i64 1] W fun e w'=>e= .returned (.bool b)∧Below W.heap.size W w':=by
 have hp:2 ^ n≤2 ^ 5:=Nat.pow_le_pow_right (by decide) h5;have hp0:0 < 2 ^ n:=Nat.pow_pos (by decide);obtain⟨v,⟨kv,hv⟩,hv2⟩:=aiN (Dj mn (2 ^ n) (2 ^ n)) (by rw [Yp];exact hp0) (by rw [Yp];omega);refine⟨decide (v ≥ 1),fun h s hs=>?_,fun W hW=>?_⟩
 ·have:=hv2 _ (ag6 mn hs);have:=of_decide_eq_true h
  omega
 ·have HMI:=q_ (Vb n mn A c M W (Kd.nW hr hW) hc hn h5 hm);have HV:=q_ (hv kv (Nat.le_refl _));clear hr hc hm hv hv2 hp hp0 hW
  generalize Dj mn (2 ^ n) (2 ^ n)=l at HMI HV
  generalize M.length=ml at HMI ⊢
  go_enter Tryz.func93,Tryz.ntmps93
  go_wp2_with fail
  refine HMI.out.mono ?_
  rintro e w2 ⟨v0,rfl,ho,hb⟩;obtain⟨A2,c2,rfl⟩:=Kd.mE ho;have HO:=q_ (Kd.lU ho).2;have HB:=q_ hb;clear ho hb HMI
  go_wp2_with fail
  refine(nJ.calls kv A2 c2 l v w2 HO.out.2 HO.out.1 HV.out).mono ?_
  rintro e w3 ⟨rfl,hb⟩;go_wp2
  go_ret
  exact⟨rfl,eE HB.out hb⟩
theorem Vl (b:Bool) (A:Option Addr) (c:Nat) (m:List (List Int)) (w:World) (hr:Kd.C (Kd.slice 2 (Kd.int .i64)) w A m.length m) (hc:m.length≤c) (h0:rH.f m=some true) (h: ∀W,Below w.heap.size w W→Calls Tryz.prog 93 #[.slice A m.length c, .int .i64 1] W fun e w'=>e= .returned (.bool b)∧Below W.heap.size W w'):
  Calls Tryz.prog 20 #[.slice A m.length c, .int .i64 0] w fun e w'=>e= .returned (.tuple #[.bool b, .int .i64 0])∧Below w.heap.size w w':=by
 have H0:=q_ (rH.calls A c m true w hr hc h0);have vU:=q_ (fun(W:World) (hW:Below w.heap.size w W)=>(by
  have wv:=q_ (fun(W2:World) (h2:Below W.heap.size W W2)=>h W2 (eE hW h2));clear hr hc h h0 hW H0
  generalize m.length=n at wv ⊢
  go_enter Tryz.func59,Tryz.ntmps59
  go_wp2_with fail
  refine(wv.out _ ((Below.refl _ _).alloc (Nat.le_refl _) _)).mono ?_
  rintro e w2 ⟨rfl,hb⟩;go_wp2
  go_ret
  exact⟨rfl,eE ((Below.refl _ _).alloc (Nat.le_refl _) _) hb⟩:Calls Tryz.prog 59 #[.slice A m.length c, .int .i64 0] W fun e w'=>e= .returned (.bool b)∧Below W.heap.size W w'))
 clear hr hc h h0
 generalize m.length=n at H0 vU ⊢
 go_enter Tryz.func20,Tryz.ntmps20
 go_wp2_with fail
 refine H0.out.mono ?_
 rintro e w2 ⟨rfl,hb⟩;have HB:aE (Below w.heap.size w w2):=⟨by first | exact hb | exact Al.wG hb⟩
 clear hb H0
 go_wp2_with fail
 refine(oZ.calls 0 0 11 true _ (by decide)).mono ?_
 rintro e w3 ⟨rfl,hd⟩;replace HB:=q_ (eE HB.out (Al.wG hd));clear hd
 go_wp2_with fail
 refine(vU.out _ HB.out).mono ?_
 rintro e w4 ⟨rfl,hb⟩;go_wp2
 go_ret2
 exact⟨rfl,eE HB.out hb⟩
end Go.Proofs.YthmfdplckdijdaaGreat.Pr
end
section
namespace Go.Proofs.YthmfdplckdijdaaGreat.uF
open Go.RowKit Wz.cw Wz.cX Ma Pr Dt Lk Lt Lq Lp Fr zm
theorem AZ {α:Type} {f:Nat→Option α} {a b:α} (h:Ev f a) (h2:Ev f b):a=b:=by
 obtain⟨k1,e1⟩:=h
 obtain⟨k2,e2⟩:=h2
 have a1:=e1 (max k1 k2) (by omega)
 have a2:=e2 (max k1 k2) (by omega)
 rw [a1] at a2
 exact Option.some.inj a2
def P5 (n:Nat) (st:List (List Int)) (i:Nat):Prop:= ∃a b:Int,st.getD i []= [a,b]∧(i=0→a=2*(n:Int))∧(0 < i→ ∃a2 b2:Int,st.getD (i - 1) []= [a2,b2]∧0≤b2∧b2≤2*(n:Int)∧a=(b2+n) % (2*(n:Int)))
theorem yS {x:List Int} (h:x.length=2):x= [x.getD 0 0,x.getD 1 0]:=by
 match x,h with
 | [a,b],_=>rfl
theorem yG {M:List (List Int)} {Q cv:List Int} (h:PC M Q cv Q.length) {i:Nat} (hi:i < (nI M Q cv 201).2.1.length):P5 Q.length (nI M Q cv 201).2.1 i:=by
 obtain⟨h1,h2,h3⟩:=Zz h
 obtain⟨st,hst⟩: ∃st,(nI M Q cv 201).2.1=st:=⟨_,rfl⟩
 rw [hst] at h1 h2 h3 hi ⊢
 have mem: ∀j,j < st.length→st.getD j [] ∈ st:=fun j hj=>by
  rw [List.getD_eq_getElem?_getD,List.getElem?_eq_getElem hj]
  exact List.getElem_mem _
 have r:=h2 _ (mem i hi)
 refine⟨_,_,yS r.1,fun e=>?_,fun e=>?_⟩
 ·subst e;exact h3 hi
 ·obtain⟨j,rfl⟩: ∃j,i=j+1:=⟨i - 1,by omega⟩
  have r2:=h2 _ (mem j (by omega))
  exact⟨_,_,yS r2.1,r2.2.1,r2.2.2,V7 h1 j hi⟩
structure Lem (k:Nat) (M:List (List Int)) (Q cv:List Int) (z:List mh) (c1:Int) (st:List (List Int)) (sv:Bool) (c2:Int) (ry:List mh) (c3:Int):Prop where
 s1:m7.f k M Q cv=some (z,c1)
 i1:pW.f k M Q cv=some (z,c1)
 s2:tQ.f k M Q cv=some (st,sv,c2)
 i2:rW.f M Q cv=some (st,sv,c2)
 s3:lO.f k M Q cv=some (ry,c3)
 i3:qN.f k M Q cv=some (ry,c3)
 q1:pX.f k z z=some true
 q2:qt.f k st st=some true
 q3:pX.f k ry ry=some true
 sol:c1=0→ ∃(y:Bool) (c:Int),ny.f k M Q z=some (y,c)∧(c=0→y=true)∧sv=true∧c3=4
 kind:c2=0→ ∀(A:Option Addr) (c:Nat) (w:World),Kd.C (Kd.slice 2 (Kd.int .i64)) w A M.length M→M.length≤c→ ∃b:Bool,(b && !sv)=false∧Calls Tryz.prog 20 #[.slice A M.length c, .int .i64 0] w fun e w'=>e= .returned (.tuple #[.bool b, .int .i64 0])∧Below w.heap.size w w'
 tell:c2=0→0 < Q.length∧Q.length≤5∧ ∀i,i < st.length→P5 Q.length st i
 ZF:st.length≤200
 rlen:ry.length≤11
 rnn:c3=0→ ∀i:Nat,i < ry.length→0≤(kB ry (i:Int)).f0
theorem aiQ {M:List (List Int)} {Q cv:List Int} (hc:pV M Q cv=0) (A:Option Addr) (c:Nat) (w:World) (hr:Kd.C (Kd.slice 2 (Kd.int .i64)) w A M.length M) (hcc:M.length≤c):
  ∃b:Bool,(b && !(nI M Q cv 201).2.2.1)=false∧Calls Tryz.prog 20 #[.slice A M.length c, .int .i64 0] w fun e w'=>e= .returned (.tuple #[.bool b, .int .i64 0])∧Below w.heap.size w w':=by
 have h:=rM hc
 have hp:nZ.f M Q=some true:=by
  unfold pV at hc
  by_cases e:nZ.f M Q=some true
  ·exact e
  ·rw [if_neg e] at hc;cases hc
 have p:=xZ hp
 have h5:=p.JF.n5
 obtain⟨b,h1,h2⟩:=abt M.length (fun s=>lY (Un.sel M.length (bB (s:Int))).length (Un.yT (Un.sel M.length (bB (s:Int))) (Cz.en M))) A c M w hr hcc rfl h5 (fun s _=>by
  obtain⟨k,hk⟩:=Mn.ad5 p.JF.sq h5 (s:Int)
  exact⟨k,hk k (Nat.le_refl _)⟩)
 refine⟨b,?_,Vl b A c M w hr hcc (by classical exact(Pb.Vq M).trans (congrArg some (decide_eq_true p.JF))) h2⟩
 cases hb:b with
 | false=>rfl
 | true=>
  have hpm:=Pc.akT (h1 hb) h5
  have:=adv h (by rw [h.lM] at hpm;exact hpm)
  rw [this];rfl
theorem ahN (M:List (List Int)) (Q cv:List Int) (hQ:Q.length≤1048576) (hcv:cv.length≤1048576): ∃(k:Nat) (z:List mh) (c1:Int) (st:List (List Int)) (sv:Bool) (c2:Int) (ry:List mh) (c3:Int),Lem k M Q cv z c1 st sv c2 ry c3:=by
 obtain⟨⟨z,c1⟩,es1,VL,hz⟩:=acX M Q cv hQ hcv
 obtain⟨⟨st,sv,c2⟩,es2,ei2,hst,QE⟩:=ZA M Q cv hQ hcv
 obtain⟨⟨ry,c3⟩,es3,RB,hry⟩:=ac2 M Q cv hQ hcv
 replace hz:z.length≤5:=hz
 replace hst:st.length≤200:=hst
 replace QE: ∀x ∈ st,x.length=2:=QE
 replace hry:ry.length≤11:=hry
 have eq1:=Pk z (by omega)
 have eq2:=aa4 st (by omega) (fun x hx=>by have:=QE x hx;omega)
 have eq3:=Pk ry (by omega)
 have key:(∃(y:Bool) (c:Int),(c1=0→Ev (fun k=>ny.f k M Q z) (y,c)∧(c=0→y=true)∧sv=true∧c3=4))∧(c2=0→pV M Q cv=0∧sv=(nI M Q cv 201).2.2.1∧st=(nI M Q cv 201).2.1)∧(c3=0→ ∀x ∈ ry,0≤x.f0):=by
  by_cases c:pV M Q cv=0
  ·have hpc:=rM c
   have hl2:=GA hpc 201
   have e2:(st,sv,c2)=((nI M Q cv 201).2.1,(nI M Q cv 201).2.2.1,0):=by
    have:=ei2
    unfold rW.f O7 at this
    rw [if_pos c,if_pos hl2] at this
    exact(Option.some.inj this).symm
   injection e2 with e2a e2b
   injection e2b with e2b e2c
   refine⟨?_,fun _=>⟨c,e2b,e2a⟩,?_⟩
   ·by_cases d:(nI M Q cv 201).2.2.1=true
    ·obtain⟨y,cc,g1,g2⟩:=aiS c d
     refine⟨y,cc,fun _=>?_⟩
     have ez:(z,c1)=(Fl (nI M Q cv 201).1 Q.length,0):=by
      refine AZ VL ?_
      have hok:=(xY hpc 201).1
      have hA:=pY (n:=Q.length) (M:=m9 M) (cv:=fun i=>cv.getD i 0) (q:=fun i=>Q.getD i 0) hpc.Mb (fun i hi=>by have:=hpc.cb i hi;omega) hpc.qb
      have hT: ∀a c,a < Q.length→c < 2*Q.length+2→uN ((nI M Q cv 201).1.T a c):=fun a c ha hc=>hok.abs hpc.le hA ha hc
      have hden:=hok.Cx hpc.le hA
      have h5:=hpc.le
      unfold pW.f Rq
      refine cY c (cY hl2 (cY d ?_))
      have h:=QV ((wz (nI M Q cv 201).1 Q.length Q.length).drop Q.length) (nI M Q cv 201).1.den (by rw [List.length_drop,vL];omega) hden.1 ⟨by have:=hden.2;omega,by have:=hden.2;omega⟩ (fun i hi=>by
       rw [List.length_drop,vL] at hi
       rw [List.getD_eq_getElem?_getD,List.getElem?_drop, ← List.getD_eq_getElem?_getD,I8 _ _ _ (by omega) hok.nn _ (Nat.le_refl _)]
       cases e:sG (nI M Q cv 201).1 (Q.length+i) Q.length with
       | some r=>
        have:=hT r (2*Q.length+1) (xR e).1 (by omega)
        unfold uN at this
        exact⟨by show -4611686018427387904≤(nI M Q cv 201).1.T r (2*Q.length+1);omega,by show (nI M Q cv 201).1.T r (2*Q.length+1)≤4611686018427387904;omega⟩
       | none=>exact⟨by show (-4611686018427387904:Int)≤0;decide,by show (0:Int)≤4611686018427387904;decide⟩)
      rw [List.length_drop,vL,show 2*Q.length - Q.length=Q.length from by omega,aaw hpc 201] at h
      exact h
     injection ez with ez1 ez2
     have e3:(ry,c3)=([],4):=by
      refine AZ RB ?_
      unfold qN.f O8
      exact cY c (cY hl2 (cY d (oK rfl)))
     injection e3 with _ e3
     exact⟨by rw [ez1];exact g1,g2,e2b.trans d,e3⟩
    ·refine⟨true,0,fun e=>?_⟩
     have ez:(z,c1)=([],4):=by
      refine AZ VL ?_
      unfold pW.f Rq
      exact cY c (cY hl2 (lV d (oK rfl)))
     injection ez with _ ez
     rw [ez] at e;cases e
   ·intro e
    by_cases d:(nI M Q cv 201).2.2.1=true
    ·have e3:(ry,c3)=([],4):=by
      refine AZ RB ?_
      unfold qN.f O8
      exact cY c (cY hl2 (cY d (oK rfl)))
     injection e3 with _ e3
     rw [e3] at e;cases e
    ·have d':(nI M Q cv 201).2.2.1=false:=by simpa using d
     obtain⟨hok,hr0,hr1⟩:=xY hpc 201
     have hA:=pY (n:=Q.length) (M:=m9 M) (cv:=fun i=>cv.getD i 0) (q:=fun i=>Q.getD i 0) hpc.Mb (fun i hi=>by have:=hpc.cb i hi;omega) hpc.qb
     have hT: ∀a c,a < Q.length→c < 2*Q.length+2→uN ((nI M Q cv 201).1.T a c):=fun a c ha hc=>hok.abs hpc.le hA ha hc
     have hden:=hok.Cx hpc.le hA
     have e3:(ry,c3)=uO (fun x=>pP ((ud (nI M Q cv 201).1 Q.length (nI M Q cv 201).2.2.2.1.toNat Q.length).getD x 0) (nI M Q cv 201).1.den) (2*Q.length+1) 0 []:=by
      refine AZ RB ?_
      unfold qN.f O8
      exact cY c (cY hl2 (lV d (Vo rfl hpc.le hpc.pos hT hden.1 hden.2 hok.len hok.nn (show (nI M Q cv 201).2.2.2.1.toNat < 2*Q.length+1 by omega))))
     have e4:ry=(uO (fun x=>pP ((ud (nI M Q cv 201).1 Q.length (nI M Q cv 201).2.2.2.1.toNat Q.length).getD x 0) (nI M Q cv 201).1.den) (2*Q.length+1) 0 []).1:=congrArg Prod.fst e3
     rw [e4]
     refine ag1 (2*Q.length+1) 0 [] (fun y _ hy=>?_) (fun z hz=>by cases hz)
     obtain⟨r1,r2⟩:=aiG hpc d' y (by omega)
     exact agW r1 r2 hden.1
  ·have hz2:(z,c1)=([],pV M Q cv):=by
    refine AZ VL ?_
    unfold pW.f Rq
    exact lV c (oK rfl)
   have h22:(st,sv,c2)=([],false,pV M Q cv):=by
    have:=ei2
    unfold rW.f O7 at this
    rw [if_neg c] at this
    exact(Option.some.inj this).symm
   have h32:(ry,c3)=([],pV M Q cv):=by
    refine AZ RB ?_
    unfold qN.f O8
    exact lV c (oK rfl)
   injection hz2 with _ hz2
   injection h22 with _ h22
   injection h22 with _ h22
   injection h32 with _ h32
   exact⟨⟨true,0,fun e=>absurd (hz2.symm.trans e) c⟩,fun e=>absurd (h22.symm.trans e) c,fun e=>absurd (h32.symm.trans e) c⟩
 obtain⟨⟨y,cc,k1⟩,k2,k3⟩:=key
 have rn:c3=0→ ∀i:Nat,i < ry.length→0≤(kB ry (i:Int)).f0:=fun e i hi=>by
  have:kB ry (i:Int)=ry[i]:=by simp [kB,hi]
  rw [this]
  exact k3 e _ (List.getElem_mem hi)
 have kd:c2=0→ ∀(A:Option Addr) (c:Nat) (w:World),Kd.C (Kd.slice 2 (Kd.int .i64)) w A M.length M→M.length≤c→ ∃b:Bool,(b && !sv)=false∧Calls Tryz.prog 20 #[.slice A M.length c, .int .i64 0] w fun e w'=>e= .returned (.tuple #[.bool b, .int .i64 0])∧Below w.heap.size w w':=fun e A c w h1 h2=>by
  obtain⟨g1,g2,g3⟩:=k2 e
  rw [g2]
  exact aiQ g1 A c w h1 h2
 have tl:c2=0→0 < Q.length∧Q.length≤5∧ ∀i,i < st.length→P5 Q.length st i:=fun e=>by
  obtain⟨g1,g2,g3⟩:=k2 e
  have hpc:=rM g1
  rw [g3]
  exact⟨hpc.pos,hpc.le,fun i hi=>yG hpc hi⟩
 obtain⟨n1,es1⟩:=es1
 obtain⟨n2,VL⟩:=VL
 obtain⟨n3,es2⟩:=es2
 obtain⟨n4,es3⟩:=es3
 obtain⟨n5,RB⟩:=RB
 obtain⟨n6,eq1⟩:=eq1
 obtain⟨n7,eq2⟩:=eq2
 obtain⟨n8,eq3⟩:=eq3
 by_cases h0:c1=0
 ·obtain⟨⟨n9,e9⟩,g2,g3,g4⟩:=k1 h0
  exact⟨n1+n2+n3+n4+n5+n6+n7+n8+n9,z,c1,st,sv,c2,ry,c3,es1 _ (by omega),VL _ (by omega),es2 _ (by omega),ei2,es3 _ (by omega),RB _ (by omega),eq1 _ (by omega),eq2 _ (by omega),eq3 _ (by omega),fun _=>⟨y,cc,e9 _ (by omega),g2,g3,g4⟩,kd,tl,hst,hry,rn⟩
 ·exact⟨n1+n2+n3+n4+n5+n6+n7+n8,z,c1,st,sv,c2,ry,c3,es1 _ (by omega),VL _ (by omega),es2 _ (by omega),ei2,es3 _ (by omega),RB _ (by omega),eq1 _ (by omega),eq2 _ (by omega),eq3 _ (by omega),fun e=>absurd e h0,kd,tl,hst,hry,rn⟩
structure Cnt (k:Nat) (M:List (List Int)) (Q:List Int) (m a b c:Int):Prop where
 s:lR.f k M Q m=some (a,b,c)
 i:qm.f k M Q m=some (a,b,c)
 all:c=0→ ∃t:Nat,m=(t:Int)∧t≤3∧Q.length≤4∧0≤a∧0≤b∧a+b=((t ^ Q.length:Nat):Int)
theorem ZS {g h:Nat→Bool × Int}: ∀(q k:Nat) (so ra:Int),(∀i,k≤i→i < k+q→g i=h i)→proc g q k so ra=proc h q k so ra:=by
 intro q
 induction q with
 | zero=>intro k so ra _;rfl
 | succ q ih=>
  intro k so ra e
  unfold proc
  rw [e k (Nat.le_refl _) (by omega),ih (k+1) _ _ (fun i a b=>e i (by omega) (by omega))]
theorem adu (g:Nat→Bool × Int) (q:Nat) (hg: ∀k,k < q→(g k).2=0∨(g k).2=3):(proc g q 0 0 0).2.2=0→0≤(proc g q 0 0 0).1∧0≤(proc g q 0 0 0).2.1∧(proc g q 0 0 0).1+(proc g q 0 0 0).2.1=(q:Int):=by
 obtain⟨g2,hg2⟩: ∃g2:Nat→Bool × Int,(fun k=>if k < q then g k else(false,0))=g2:=⟨_,rfl⟩
 have e1:proc g q 0 0 0=proc g2 q 0 0 0:=ZS q 0 0 0 (fun i _ hi=>by rw [← hg2];simp [show i < q by omega])
 have e2: ∀k,(g2 k).2=0∨(g2 k).2=3:=fun k=>by
  rw [← hg2]
  by_cases c:k < q
  ·simp only [if_pos c];exact hg k c
  ·exact .inl (by simp [c])
 rw [e1,Qm g2 e2]
 clear hg2 e1 e2
 split
 ·intro _
  have h1: ∀f:Nat→Int,(∀i,f i=0∨f i=1)→ ∀n,0≤sm n f∧0≤sm n (fun i=>1 - f i)∧sm n f+sm n (fun i=>1 - f i)=(n:Int):=fun f hf n=>by
   induction n with
   | zero=>simp [sm]
   | succ n ih=>
    have:=hf n
    show 0≤sm n f+f n∧0≤sm n (fun i=>1 - f i)+(1 - f n)∧sm n f+f n+(sm n (fun i=>1 - f i)+(1 - f n))=((n+1:Nat):Int)
    omega
  have:=h1 (fun i=>sN (g2 (0+i))) (fun i=>by show sN _=0∨sN _=1;unfold sN;split <;> simp) q
  show 0≤0+_∧0≤0+_∧0+_+(0+_)=_
  omega
 ·intro h;exact absurd h (by decide)
theorem ahO (M:List (List Int)) (Q:List Int) (m:Int) (hQ:Q.length≤1048576): ∃(k:Nat) (a b c:Int),Cnt k M Q m a b c:=by
 classical
 obtain⟨⟨a,b,c⟩,⟨k1,e1⟩,⟨k2,e2⟩⟩:=aai M Q m hQ
 refine⟨max k1 k2,a,b,c,e1 _ (by omega),e2 _ (by omega),fun hc=>?_⟩
 have him:=Pb.DC M Q (decide (Pb.Eu M Q)) (by simp)
 have e3:Ev (fun k=>qm.f k M Q m) (a,b,c):=⟨k2,e2⟩
 by_cases p:Pb.Eu M Q
 ·rw [decide_eq_true p] at him
  by_cases rz:1≤m∧m≤3
  ·by_cases d:Q.length≤4
   ·obtain⟨t,rfl⟩:=Int.eq_ofNat_of_zero_le (show 0≤m by omega)
    have hm:0 < t:=by omega
    have hm3:t≤3:=by omega
    have e4:(a,b,c)=proc (fun k=>uH M Q (dI t Q.length k)) (t ^ Q.length) 0 0 0:=by
     refine AZ e3 ?_
     unfold qm.f
     rw [him]
     refine cY rfl (cY ⟨rz,d⟩ ?_)
     rw [← YW t _ hm]
     have hp:0 < t ^ Q.length:=Nat.pow_pos hm
     obtain⟨q,hq⟩: ∃q,t ^ Q.length=q+1:=⟨t ^ Q.length - 1,by omega⟩
     have:=Vs (M:=M) rfl hm hm3 d q 0 (by omega) 0 0 (by omega) (by omega) (by omega)
     rw [hq]
     exact this
    have hs:=adu (fun k=>uH M Q (dI t Q.length k)) (t ^ Q.length) (fun k hk=>VG him rfl hm hm3 (Pw hm _ k hk))
    rw [← e4] at hs
    obtain⟨g1,g2,g3⟩:=hs hc
    exact⟨t,rfl,hm3,d,g1,g2,g3⟩
   ·have:(a,b,c)=(0,0,2):=by
     refine AZ e3 ?_
     unfold qm.f
     rw [him]
     exact cY rfl (lV (fun q=>d q.2) (oK rfl))
    injection this with _ this
    injection this with _ this
    rw [this] at hc;cases hc
  ·have:(a,b,c)=(0,0,2):=by
    refine AZ e3 ?_
    unfold qm.f
    rw [him]
    exact cY rfl (lV (fun q=>rz q.1) (oK rfl))
   injection this with _ this
   injection this with _ this
   rw [this] at hc;cases hc
 ·rw [decide_eq_false p] at him
  have:(a,b,c)=(0,0,1):=by
   refine AZ e3 ?_
   unfold qm.f
   rw [him]
   exact lV (by decide) (oK rfl)
  injection this with _ this
  injection this with _ this
  rw [this] at hc;cases hc
end Go.Proofs.YthmfdplckdijdaaGreat.uF
end
section
namespace Go.Proofs.YthmfdplckdijdaaGreat.Pr
open Go.RowKit Wz.cw Wz.fX Wz.cX Al Dr Ma
noncomputable def oT.ae5:Code:=((Tryz.f4.body.bind (ET 204)).getD .skip)
theorem oT.R4 {A0:Option Addr} {c0:Nat} {l0:List Int}  {w wc:World} {z1_ z2_ z3_ z4_ z5_ z6_ z7_ z8_ z9_ acE acD UF UE UD amQ amP UC UA Uz Uy Ux Uw Uv Uu Ut Us Ur Uq Uo Um Ul Uk Uj Ui Uh Ug Uf Ue Ud Uc Ub Ua T9 T8 T6 T2 TY TX TW TV TU TT TR TQ TP TN TM TL TK TJ TI TH TG TF TD TB TA Tz Tx Tw Tv Tt Ts Tq Tp Tn Tk Tj Ti Tg Tf Te Td Tc Tb Ta S9 S1 S0 SZ SY SX SW SV SR SQ SN SM SL OP OO OM OL OJ OI OH OG OE OD OC OB OA Oz Oy Ox Ow Ov Ou Ot Oq Oo Om Ol Oj Oi Oh Og Oe Od Oc Ob Oa N9 N8 N7 NZ NY NX NW NV NU NS NQ NP NM NK NJ NI NH NG ND NC NA Nz Ny Nx Nw Nv Nu Ns Nq Np Nn Nm Nl Nh Ng Nf Nd Nc Nb Na M9 M8 M7 M6 M5 M4 M0 MZ MY MX MW MV MU MS MR MQ MP MO MN ML MK MJ MI MH MG MF ME MD MC MB MA Mz Mx Mw Mv Mu Mt Ms Mr Mq Mp Ml Mk Mj Mh Mg Mf Me Md Mc L9 L7 L6 L3 L0 LZ LY LX LV LU LS LR LQ LP LN LM LL LK LJ LI LH LG LD LC LB LA Lz Ly Lx Lw Lv Lu Lr Lo Ln Lm Ll Lj Li Lh Lg Lf Le:Value} (qE:aE (Kd.C (Kd.int .u8) w A0 l0.length l0)) (uG:aE (l0.length≤c0)) (RK:aE (∀i:Nat,0≤l0.getD i 0∧l0.getD i 0≤255)) (Gn:aE (l0.length≤4096)) (HB:aE (Below w.heap.size w wc)):
  Code.wp Tryz.prog oT.ae5 (bodyPost Tryz.prog Tryz.f4 fun e w'=>e=Ending.returned (.bool true)∧Below w.heap.size w w') ⟨#[.slice A0 l0.length c0,z1_,z2_,z3_,z4_,z5_,z6_,z7_,z8_,z9_,acE,acD,UF,UE,UD,amQ,amP,UC,UA,Uz,Uy,Ux,Uw,Uv,Uu,Ut,Us,Ur,Uq,Uo,Um,Ul,Uk,Uj,Ui,Uh,Ug,Uf,Ue,Ud,Uc,Ub,Ua,T9,T8,T6,T2,TY,TX,TW,TV,TU,TT,TR,TQ,TP,TN,TM,TL,TK,TJ,TI,TH,TG,TF,TD,TB,TA,Tz,Tx,Tw,Tv,Tt,Ts,Tq,Tp,Tn,Tk,Tj,Ti,Tg,Tf,Te,Td,Tc,Tb,Ta,S9,S1,S0,SZ,SY,SX,SW,SV,SR,SQ,SN,SM,SL,OP,OO,OM,OL,OJ,OI,OH,OG,OE,OD,OC,OB,OA,Oz,Oy,Ox,Ow,Ov,Ou,Ot,Oq,Oo,Om,Ol,Oj,Oi,Oh,Og,Oe,Od,Oc,Ob,Oa,N9,N8,N7,NZ,NY,NX,NW,NV,NU,NS,NQ,NP,NM,NK,NJ,NI,NH,NG,ND,NC,NA,Nz,Ny,Nx,Nw,Nv,Nu,Ns,Nq,Np,Nn,Nm,Nl,Nh,Ng,Nf,Nd,Nc,Nb,Na,M9,M8,M7,M6,M5,M4,M0,MZ,MY,MX,MW,MV,MU,MS,MR,MQ,MP,MO,MN,ML,MK,MJ,MI,MH,MG,MF,ME,MD,MC,MB,MA,Mz,Mx,Mw,Mv,Mu,Mt,Ms,Mr,Mq,Mp,Ml,Mk,Mj,Mh,Mg,Mf,Me,Md,Mc,L9,L7,L6,L3,L0,LZ,LY,LX,LV,LU,LS,LR,LQ,LP,LN,LM,LL,LK,LJ,LI,LH,LG,LD,LC,LB,LA,Lz,Ly,Lx,Lw,Lv,Lu,Lr,Lo,Ln,Lm,Ll,Lj,Li,Lh,Lg,Lf,Le], []⟩ wc:=by
 have AL:=q_ (Al.nil wc)
 conv=>arg 2;whnf
 go_wp2_with fail
 refine(alf (Kd.nW qE.out HB.out) uG.out RK.out Gn.out).mono ?_
 rintro e w1 ⟨_,M,Q,m,rfl,⟨Am,cm,Aq,cq,rfl,hM,hMc,hQ,hQc⟩,hM5,hQ6,hm0,hm4,hb⟩;replace AL:=q_ (AL.out.mv hb);replace HB:=q_ (eE HB.out hb);replace AL:=q_ ((AL.out.Ed hM).Ed hQ);obtain⟨kc,a,b,c,hcn⟩:=uF.ahO M Q m (by omega);have I6:=q_ hcn;have CM:=q_ hMc;have CQ:=q_ hQc;clear hcn hM hMc hQ hQc hM5 hQ6 hm0 hm4 hb
 go_wp2_with (first | ((with_reducible refine dg (N:=26) rfl ?_);refine nR 26 #[.slice none 0 0, .slice none 0 0] 34 ?_;intro g26 hg w2 cM hb;have Bx:=q_ cM;have HBx:=q_ hb;have Gx:aE (w1.heap.size≤g26):=⟨by rw [hg];exact Nat.le_refl _⟩;have hx0:=lS Bx 0;have hx1:=lS Bx 1;have QG:=gE cM 0;have KV:=gE cM 1;clear hb cM hg) | ((with_reducible refine q8 (t:=34) (p:=26) rfl ?_);refine DK 34 26 ((w2.setCell ⟨g26,0,none⟩ (.slice Am M.length cm)).setCell ⟨g26,1,none⟩ (.slice Aq Q.length cq)) ?_;intro w3 hw;have nb:=q_ (show w3.heap[g26]?=some (.cells #[.slice Am M.length cm, .slice Aq Q.length cq] 34 (0,0)) from (by rw [hw];exact mD (mD Bx.out 0 _ rfl) 1 _ rfl));have hb:Below w1.heap.size w1 w3:=(by rw [hw];exact(HBx.out.setCell Gx.out _).setCell Gx.out _);replace AL:=q_ ((AL.out.mv hb).ajG nb.out);replace HB:=q_ (eE HB.out hb);clear hw hb nb hx0 hx1 QG KV Bx HBx Gx;have Pf:=lS (q_ (AL.out.now.1)) 0;have Pa:=lS (q_ (AL.out.now.1)) 1))
 refine(qm.calls kc _ _ M _ _ Q m a b c _ (AL.out.now.2.2.1) CM.out (AL.out.now.2.1) CQ.out I6.out.i).mono ?_
 rintro e w4 ⟨rfl,hb⟩;clear Pf Pa;replace AL:=q_ (AL.out.mv hb);replace HB:=q_ (eE HB.out hb);clear hb;have Pf:=lS (q_ (AL.out.now.1)) 0;have Pa:=lS (q_ (AL.out.now.1)) 1
 go_wp2_with fail
 refine(lR.calls kc _ _ M _ _ Q m a b c _ (AL.out.now.2.2.1) CM.out (AL.out.now.2.1) CQ.out I6.out.s).mono ?_
 rintro e w5 ⟨rfl,hb⟩;clear Pf Pa;replace AL:=q_ (AL.out.mv hb);replace HB:=q_ (eE HB.out hb);clear hb
 by_cases cc:c=0
 ·subst cc;obtain⟨t,rfl,t3,n4,a0,b0,hab⟩:=I6.out.all rfl;have HAB:=q_ hab;have T3:=q_ t3;have N4:=q_ n4;have A0_:=q_ a0;have B0_:=q_ b0;clear hab t3 n4 a0 b0;have HPW:aE (∀i,i≤4→t ^ i≤81):=⟨fun i hi=>Nat.le_trans (Nat.pow_le_pow_left T3.out i) (Nat.le_trans (Nat.pow_le_pow_right (by decide) hi) (by decide))⟩
  go_wp2
  go_loopg [34,35] Q.length (fun gg v34 v35 wr=> ∃i:Nat,i≤Q.length∧Q.length - i≤gg∧v35= .int .i64 (i:Int)∧v34= .int .i64 ((t ^ i:Nat):Int)∧aE (Al (fun W_=>(W_.heap[g26]?=some (.cells #[.slice Am M.length cm, .slice Aq Q.length cq] 34 (0,0)))∧(Kd.C (Kd.int .i64) W_ Aq Q.length Q)∧(Kd.C (Kd.slice 2 (Kd.int .i64)) W_ Am M.length M)∧True) wr)∧aE (Below w.heap.size w wr))
  case atStart=>exact⟨0,Nat.zero_le _,by omega,rfl,rfl,AL,HB⟩
  case round=>
   clear AL HB;obtain⟨i,hi,hg,rfl,rfl,AL,HB⟩:=hrel;have Pf:=lS (q_ (AL.out.now.1)) 0;have Pa:=lS (q_ (AL.out.now.1)) 1
   by_cases hlt:i < Q.length
   ·have pZ:(i:Int) < (Q.length:Int):=by omega
    have hw:IntKind.i64.wrap ((i:Int)+1)=((i+1:Nat):Int):=by rw [IntWalk.i64_in _ (by have:=N4.out;omega)];rfl
    obtain⟨p_,hp_⟩: ∃p_:Int,((t ^ i:Nat):Int)=p_:=⟨_,rfl⟩
    have hw2:IntKind.i64.wrap (p_*(t:Int))=((t ^ (i+1):Nat):Int):=by rw [← hp_, ← Int.natCast_mul, ← Nat.pow_succ];exact IntWalk.i64_in _ (by have h_:t ^ i.succ≤81:=HPW.out (i+1) (by have:=N4.out;omega);omega)
    have HG:=q_ hg;have mG:=q_ hlt;have Zc:=q_ hw2;clear hi hg hlt hw2;rw [hp_];clear hp_;go_wp2
    go_roundg (Q.length - (i+1))
    case measure=>have:=HG.out;have:=mG.out;omega
    case rel=>exact⟨i+1,mG.out,by omega,by first | rfl | (rw [hw]) | (simp [hw]),by first | exact congrArg (Value.int .i64) Zc.out | (have h_:=Zc.out;rw [mT] at h_;exact congrArg (Value.int .i64) h_),AL,HB⟩
   ·have pZ: ¬ (i:Int) < (Q.length:Int):=by omega
    obtain rfl:i=Q.length:=by omega
    clear hi hg hlt;have Z4:IntKind.i64.wrap (a+b)=((t ^ Q.length:Nat):Int):=by rw [HAB.out];exact IntWalk.i64_in _ (by have:=HPW.out Q.length N4.out;omega)
    have ak1:wrap64 (a+b)=((t ^ Q.length:Nat):Int):=(mT _).symm.trans Z4
    generalize ((t ^ Q.length:Nat):Int)=p_ at Z4 ak1 ⊢
    go_wp2
    go_ret
    exact⟨rfl,HB.out⟩
 ·have c1:(c==0)=false:=by simpa using cc
  go_wp2
  go_ret
  exact⟨rfl,HB.out⟩
end Go.Proofs.YthmfdplckdijdaaGreat.Pr
end
section
namespace Go.Proofs.YthmfdplckdijdaaGreat.Pr
open Go.RowKit Wz.cw Wz.fX Wz.cX Al Dr Ma
noncomputable def oT.ae6:Code:=((Tryz.f4.body.bind (ET 140)).getD .skip)
theorem oT.R6 {A0:Option Addr} {c0:Nat} {l0:List Int} {c3:Int} {ry:List mh} {CF:Option Addr} {xq:Nat} {w wc:World} {z1_ z2_ z3_ z4_ z5_ z6_ z7_ z8_ z9_ acE acD UF UE UD UC UA Uz Uy Ux Uw Uv Uu Ut Us Ur Uq Uo Um Ul Uk Uj Ui Uh Ug Uf Ue Ud Uc Ub Ua T9 T8 T6 T2 TY TX TW TV TU TT TR TQ TP TN TM TL TK TJ TI TH TG TF TD TB TA Tz Tx Tw Tv Tt Ts Tq Tp Tn Tk Tj Ti Tg Tf Te Td Tc Tb Ta S9 S1 S0 SZ SY SX SW SV SR SQ SN SM SL OP OO OM OL OJ OI OH OG OE OD OC OB OA Oz Oy Ox Ow Ov Ou Ot Oq Oo Om Ol Oj Oi Oh Og Oe Od Oc Ob Oa N9 N8 N7 NZ NY NX NW NV NU NS NQ NP NM NK NJ NI NH NG ND NC NA Nz Ny Nx Nw Nv Nu Ns Nq Np Nn Nm Nl Nh Ng Nf Nd Nc Nb Na M9 M8 M7 M6 M5 M4 M0 MZ MY MX MW MV MU MS MR MQ MP MO MN ML MK MJ MI MH MG MF ME MD MC MB MA Mz Mx Mw Mv Mu Mt Ms Mr Mq Mp Ml Mk Mj Mh Mg Mf Me Md Mc L9 L7 L6 L3 L0 LZ LY LX LV LU LS LR LQ LP LN LM LL LK LJ LI LH LG LD LC LB LA Lz Ly Lx Lw Lv Lu Lr Lo Ln Lm Ll Lj Li Lh Lg Lf Le:Value} (qE:aE (Kd.C (Kd.int .u8) w A0 l0.length l0)) (uG:aE (l0.length≤c0)) (RK:aE (∀i:Nat,0≤l0.getD i 0∧l0.getD i 0≤255)) (Gn:aE (l0.length≤4096)) (Qa:aE (c3=0→ ∀i:Nat,i < ry.length→0≤(kB ry (i:Int)).f0)) (HRL:aE (ry.length≤11)) (AL:aE (Al (fun W_=>(Kd.C rU W_ CF ry.length ry)∧True) wc)) (HB:aE (Below w.heap.size w wc)):
  Code.wp Tryz.prog oT.ae6 (bodyPost Tryz.prog Tryz.f4 fun e w'=>e=Ending.returned (.bool true)∧Below w.heap.size w w') ⟨#[.slice A0 l0.length c0,z1_,z2_,z3_,z4_,z5_,z6_,z7_,z8_,z9_,acE,acD,UF,UE,UD, .slice CF ry.length xq, .int .i64 c3,UC,UA,Uz,Uy,Ux,Uw,Uv,Uu,Ut,Us,Ur,Uq,Uo,Um,Ul,Uk,Uj,Ui,Uh,Ug,Uf,Ue,Ud,Uc,Ub,Ua,T9,T8,T6,T2,TY,TX,TW,TV,TU,TT,TR,TQ,TP,TN,TM,TL,TK,TJ,TI,TH,TG,TF,TD,TB,TA,Tz,Tx,Tw,Tv,Tt,Ts,Tq,Tp,Tn,Tk,Tj,Ti,Tg,Tf,Te,Td,Tc,Tb,Ta,S9,S1,S0,SZ,SY,SX,SW,SV,SR,SQ,SN,SM,SL,OP,OO,OM,OL,OJ,OI,OH,OG,OE,OD,OC,OB,OA,Oz,Oy,Ox,Ow,Ov,Ou,Ot,Oq,Oo,Om,Ol,Oj,Oi,Oh,Og,Oe,Od,Oc,Ob,Oa,N9,N8,N7,NZ,NY,NX,NW,NV,NU,NS,NQ,NP,NM,NK,NJ,NI,NH,NG,ND,NC,NA,Nz,Ny,Nx,Nw,Nv,Nu,Ns,Nq,Np,Nn,Nm,Nl,Nh,Ng,Nf,Nd,Nc,Nb,Na,M9,M8,M7,M6,M5,M4,M0,MZ,MY,MX,MW,MV,MU,MS,MR,MQ,MP,MO,MN,ML,MK,MJ,MI,MH,MG,MF,ME,MD,MC,MB,MA,Mz,Mx,Mw,Mv,Mu,Mt,Ms,Mr,Mq,Mp,Ml,Mk,Mj,Mh,Mg,Mf,Me,Md,Mc,L9,L7,L6,L3,L0,LZ,LY,LX,LV,LU,LS,LR,LQ,LP,LN,LM,LL,LK,LJ,LI,LH,LG,LD,LC,LB,LA,Lz,Ly,Lx,Lw,Lv,Lu,Lr,Lo,Ln,Lm,Ll,Lj,Li,Lh,Lg,Lf,Le], []⟩ wc:=by
 conv=>arg 2;whnf
 go_upto_if 204 with (fail)
 go_cut [25] from 203 to 217 (fun v25 wc=>aE (Al (fun W_=>True) wc)∧aE (Below w.heap.size w wc))
 case first=>
  by_cases cc:c3=0
  ·subst cc;go_wp2
   go_loopg [25] ry.length (fun gg v25 wr=> ∃i:Nat,i≤ry.length∧ry.length - i≤gg∧v25= .int .i64 (i:Int)∧aE (Al (fun W_=>(Kd.C rU W_ CF ry.length ry)∧True) wr)∧aE (Below w.heap.size w wr))
   case atStart=>exact⟨0,Nat.zero_le _,by omega,rfl,AL,HB⟩
   case round=>
    clear AL HB;obtain⟨i,hi,hg,rfl,AL,HB⟩:=hrel
    by_cases hlt:i < ry.length
    ·have pZ:(i:Int) < (ry.length:Int):=by omega
     have h0z:(0:Int)≤(i:Int):=by omega
     have hw:IntKind.i64.wrap ((i:Int)+1)=((i+1:Nat):Int):=by rw [IntWalk.i64_in _ (by have:=HRL.out;omega)];rfl
     obtain⟨adR,ea,hxR,hyR⟩:=ze (AL.out.now.1) (i:Int) h0z pZ;have q1:decide ((kB ry (i:Int)).f0 < 0)=false:=decide_eq_false (by have:=Qa.out (by first | rfl | trivial) i hlt;omega);have HG:=q_ hg;have mG:=q_ hlt;clear hi hg hlt;subst ea;rw [Int.toNat_natCast] at hxR hyR;go_wp2
     go_roundg (ry.length - (i+1))
     case measure=>have:=HG.out;have:=mG.out;omega
     case rel=>exact⟨i+1,mG.out,by omega,by first | rfl | (rw [hw]) | (simp [hw]),AL,HB⟩
    ·have pZ: ¬ (i:Int) < (ry.length:Int):=by omega
     clear hi hg hlt;go_wp2
     go_meet
     case rel=>exact⟨⟨⟨fun _ _=>trivial⟩⟩,HB⟩
  ·have c5b:(c3==0)=false:=by simpa using cc
   go_wp2
   go_meet
   case rel=>exact⟨⟨⟨fun _ _=>trivial⟩⟩,HB⟩
 case rest=>
  clear AL HB;obtain⟨AL,HB⟩:=hcut
  rename_i hk
  exact hk _ _ (oT.R4 qE uG RK Gn HB)
end Go.Proofs.YthmfdplckdijdaaGreat.Pr
end
section
namespace Go.Proofs.YthmfdplckdijdaaGreat.Pr
open Go.RowKit Wz.cw Wz.fX Wz.cX Al Dr Ma
noncomputable def oT.ae7:Code:=((Tryz.f4.body.bind (ET 118)).getD .skip)
theorem oT.R7 {A0:Option Addr} {c0:Nat} {l0:List Int} {k:Nat} {c1 c2 c3:Int} {sv:Bool} {z ry:List mh} {st M:List (List Int)} {Q cv:List Int} {A9 CF Am Aq:Option Addr} {c9 xq cm cq g3:Nat} {w wc:World} {z1_ z2_ z4_ z5_ z6_ z7_ z8_ UF UE UD UC UA Uz Uy Ux Uw Uv Uu Ut Us Ur Uq Uo Um Ul Uk Uj Ui Uh Ug Uf Ue Ud Uc Ub Ua T9 T8 T6 T2 TY TX TW TV TU TT TR TQ TP TN TM TL TK TJ TI TH TG TF TD TB TA Tz Tx Tw Tv Tt Ts Tq Tp Tn Tk Tj Ti Tg Tf Te Td Tc Tb Ta S9 S1 S0 SZ SY SX SW SV SR SQ SN SM SL OP OO OM OL OJ OI OH OG OE OD OC OB OA Oz Oy Ox Ow Ov Ou Ot Oq Oo Om Ol Oj Oi Oh Og Oe Od Oc Ob Oa N9 N8 N7 NZ NY NX NW NV NU NS NQ NP NM NK NJ NI NH NG ND NC NA Nz Ny Nx Nw Nv Nu Ns Nq Np Nn Nm Nl Nh Ng Nf Nd Nc Nb Na M9 M8 M7 M6 M5 M4 M0 MZ MY MX MW MV MU MS MR MQ MP MO MN ML MK MJ MI MH MG MF ME MD MC MB MA Mz Mx Mw Mv Mu Mt Ms Mr Mq Mp Ml Mk Mj Mh Mg Mf Me Md Mc L9 L7 L6 L3 L0 LZ LY LX LV LU LS LR LQ LP LN LM LL LK LJ LI LH LG LD LC LB LA Lz Ly Lx Lw Lv Lu Lr Lo Ln Lm Ll Lj Li Lh Lg Lf Le:Value} (qE:aE (Kd.C (Kd.int .u8) w A0 l0.length l0)) (uG:aE (l0.length≤c0)) (RK:aE (∀i:Nat,0≤l0.getD i 0∧l0.getD i 0≤255)) (Gn:aE (l0.length≤4096)) (HL:aE (uF.Lem k M Q cv z c1 st sv c2 ry c3)) (CM:aE (M.length≤cm)) (CQ:aE (Q.length≤cq)) (C9:aE (st.length≤c9)) (AL:aE (Al (fun W_=>(W_.heap[g3]?=some (.cells #[.slice Am M.length cm, .slice Aq Q.length cq] 34 (0,0)))∧(Kd.C (Kd.slice 2 (Kd.int .i64)) W_ A9 st.length st)∧(Kd.C rU W_ CF ry.length ry)∧(Kd.C (Kd.int .i64) W_ Aq Q.length Q)∧(Kd.C (Kd.slice 2 (Kd.int .i64)) W_ Am M.length M)∧True) wc)) (HB:aE (Below w.heap.size w wc)):
  Code.wp Tryz.prog oT.ae7 (bodyPost Tryz.prog Tryz.f4 fun e w'=>e=Ending.returned (.bool true)∧Below w.heap.size w w') ⟨#[.slice A0 l0.length c0,z1_,z2_, .pointer (some ⟨g3,0,none⟩),z4_,z5_,z6_,z7_,z8_, .slice A9 st.length c9, .bool sv, .int .i64 c2,UF,UE,UD, .slice CF ry.length xq, .int .i64 c3,UC,UA,Uz,Uy,Ux,Uw,Uv,Uu,Ut,Us,Ur,Uq,Uo,Um,Ul,Uk,Uj,Ui,Uh,Ug,Uf,Ue,Ud,Uc,Ub,Ua,T9,T8,T6,T2,TY,TX,TW,TV,TU,TT,TR,TQ,TP,TN,TM,TL,TK,TJ,TI,TH,TG,TF,TD,TB,TA,Tz,Tx,Tw,Tv,Tt,Ts,Tq,Tp,Tn,Tk,Tj,Ti,Tg,Tf,Te,Td,Tc,Tb,Ta,S9,S1,S0,SZ,SY,SX,SW,SV,SR,SQ,SN,SM,SL,OP,OO,OM,OL,OJ,OI,OH,OG,OE,OD,OC,OB,OA,Oz,Oy,Ox,Ow,Ov,Ou,Ot,Oq,Oo,Om,Ol,Oj,Oi,Oh,Og,Oe,Od,Oc,Ob,Oa,N9,N8,N7,NZ,NY,NX,NW,NV,NU,NS,NQ,NP,NM,NK,NJ,NI,NH,NG,ND,NC,NA,Nz,Ny,Nx,Nw,Nv,Nu,Ns,Nq,Np,Nn,Nm,Nl,Nh,Ng,Nf,Nd,Nc,Nb,Na,M9,M8,M7,M6,M5,M4,M0,MZ,MY,MX,MW,MV,MU,MS,MR,MQ,MP,MO,MN,ML,MK,MJ,MI,MH,MG,MF,ME,MD,MC,MB,MA,Mz,Mx,Mw,Mv,Mu,Mt,Ms,Mr,Mq,Mp,Ml,Mk,Mj,Mh,Mg,Mf,Me,Md,Mc,L9,L7,L6,L3,L0,LZ,LY,LX,LV,LU,LS,LR,LQ,LP,LN,LM,LL,LK,LJ,LI,LH,LG,LD,LC,LB,LA,Lz,Ly,Lx,Lw,Lv,Lu,Lr,Lo,Ln,Lm,Ll,Lj,Li,Lh,Lg,Lf,Le], []⟩ wc:=by
 conv=>arg 2;whnf
 go_upto_if 140 with (fail)
 go_cut [21,22,23,24] from 139 to 203 (fun v21 v22 v23 v24 wc=>aE (Al (fun W_=>(Kd.C rU W_ CF ry.length ry)∧True) wc)∧aE (Below w.heap.size w wc))
 case first=>
  by_cases cc:c2=0
  ·subst cc;obtain⟨hq0,hq5,afF⟩:=HL.out.tell (by first | rfl | trivial);have HQ0:=q_ hq0;have Zi:=q_ hq5;have HTL:=q_ afF;clear hq0 hq5 afF;have vn:=lS (q_ (AL.out.now.1)) 0;have vm:=lS (q_ (AL.out.now.1)) 1
   go_wp2_with fail
   obtain⟨b,hbv,hbc⟩:=HL.out.kind (by first | rfl | trivial) _ _ _ (AL.out.now.2.2.2.2.1) CM.out;have HBC:=q_ hbc;clear hbc;refine(HBC.out).mono ?_
   rintro e w1 ⟨rfl,hb⟩;clear vn vm;replace AL:=q_ (AL.out.mv hb);replace HB:=q_ (eE HB.out hb);clear hb;cases b with
   | false=>
    clear hbv;have vn:=lS (q_ (AL.out.now.1)) 0;have vm:=lS (q_ (AL.out.now.1)) 1;go_wp2
    clear vn vm;obtain⟨m2,hm2⟩: ∃m2,2*(Q.length:Int)=m2:=⟨_,rfl⟩
    have h2n:IntKind.i64.wrap (2*(Q.length:Int))=m2:=by rw [← hm2];exact IntWalk.i64_in _ (by have:=Zi.out;omega)
    have GP:wrap64 (2*(Q.length:Int))=m2:=(mT _).symm.trans h2n;have wM:=q_ hm2;have H2N:=q_ h2n;have Xe:=q_ GP;clear hm2 h2n GP
    go_loopg [24] st.length (fun gg v24 wr=> ∃i:Nat,i≤st.length∧st.length - i≤gg∧v24= .int .i64 (i:Int)∧aE (Al (fun W_=>(W_.heap[g3]?=some (.cells #[.slice Am M.length cm, .slice Aq Q.length cq] 34 (0,0)))∧(Kd.C (Kd.slice 2 (Kd.int .i64)) W_ A9 st.length st)∧(Kd.C rU W_ CF ry.length ry)∧(Kd.C (Kd.int .i64) W_ Aq Q.length Q)∧(Kd.C (Kd.slice 2 (Kd.int .i64)) W_ Am M.length M)∧True) wr)∧aE (Below w.heap.size w wr))
    case atStart=>exact⟨0,Nat.zero_le _,by omega,rfl,AL,HB⟩
    case round=>
     clear AL HB;obtain⟨i,hi,hg,rfl,AL,HB⟩:=hrel
     by_cases hlt:i < st.length
     ·have pZ:(i:Int) < (st.length:Int):=by omega
      have h0z:(0:Int)≤(i:Int):=by omega
      have hw:IntKind.i64.wrap ((i:Int)+1)=((i+1:Nat):Int):=by rw [IntWalk.i64_in _ (by have:=HL.out.ZF;omega)];rfl
      obtain⟨a,b2,hab,hz,hs⟩:=HTL.out i hlt;have hrow:d5 st (i:Int)= [a,b2]:=by unfold d5;rw [Int.toNat_natCast];exact hab
      have HG:=q_ hg;have mG:=q_ hlt;have xB:=q_ hrow;clear hi hg hlt hab hrow
      by_cases e0:i=0
      ·have ha:=hz e0;rw [wM.out] at ha;subst ha;clear hz hs;have z1:((i:Int)==0)=true:=by simp [e0]
       have z2:decide ((i:Int) > 0)=false:=decide_eq_false (by omega);have z3:decide (0 < (i:Int))=false:=decide_eq_false (by omega);have z4: ¬ 0 < i:=by omega
       have h2n:=H2N.out;have GP:=Xe.out;clear e0
       go_wp2_with fail
       have hb:Below wr.heap.size wr wr.drew:=mH (Below.refl _ _);replace AL:=q_ (AL.out.mv hb);replace HB:=q_ (eE HB.out hb);clear hb;obtain⟨P0,AS,cS,eb,hxS,hlS,hiS⟩:=pI (AL.out.now.2.1) (i:Int) h0z pZ;subst eb;rw [xB.out] at hxS hlS hiS;rw [Int.toNat_natCast] at hxS;have AX:([a,b2]:List Int).length=2:=rfl;rw [AX] at hxS hlS hiS;obtain⟨Ee,eb,hxT⟩:=Kd.mA hiS 0 (by omega) (by omega);subst eb;replace hxT:wr.drew.cell? Ee=some (.int .i64 a):=hxT;clear hiS hlS AX;refine qx (n:=38) (S:=fun w'=>w'.cell? (P0.add i)=some (.slice (some Ee) 2 cS)∧w'.cell? Ee=some (.int .i64 a)) (ds:= []) ⟨hxS,hxT⟩ (fun hHeld=>?_)
       clear hxS hxT
       generalize wr.drew=w81 at AL HB hHeld ⊢
       refine lX 0 165 ?_
       refine lX 1 166 ?_
       refine lX 2 167 ?_
       refine lX 3 168 ?_
       refine lX 4 169 ?_
       refine lX 5 170 ?_
       refine lX 9 174 ?_
       refine lX 10 175 ?_
       refine mg 6 171 ?_
       refine lX 7 172 ?_
       refine mg 8 173 ?_
       refine lX 11 176 ?_
       refine lX 12 177 ?_
       refine lX 13 178 ?_
       refine lX 14 179 ?_
       refine lX 15 180 ?_
       refine lX 16 181 ?_
       refine oB 17 182 ?_
       refine oB 18 183 ?_
       refine oB 19 184 ?_
       refine oB 20 185 ?_
       refine oB 21 186 ?_
       refine oB 22 187 ?_
       refine oB 23 188 ?_
       refine oB 24 189 ?_
       refine oB 25 190 ?_
       refine oB 26 191 ?_
       refine oB 27 192 ?_
       refine oB 28 193 ?_
       refine oB 29 194 ?_
       refine oB 30 195 ?_
       refine oB 31 196 ?_
       refine oB 32 197 ?_
       refine oB 33 198 ?_
       refine oB 34 199 ?_
       refine oB 35 200 ?_
       refine lX 36 201 ?_
       refine lX 37 202 ?_
       refine oA (by kernel_rfl) ?_
       clear hHeld;go_wp2
       go_roundg (st.length - (i+1))
       case measure=>have:=HG.out;have:=mG.out;omega
       case rel=>exact⟨i+1,mG.out,by omega,by first | rfl | (rw [hw]) | (simp [hw]),AL,HB⟩
      ·obtain⟨a2,b3,hp,hb0,hb1,ha⟩:=hs (by omega);clear hz hs;have yO:d5 st ((i:Int) - 1)= [a2,b3]:=by unfold d5;rw [show ((i:Int) - 1).toNat=i - 1 by omega];exact hp
       have aar:=q_ yO;clear yO hp;have z1:((i:Int)==0)=false:=by simp [e0]
       have z2:decide ((i:Int) > 0)=true:=decide_eq_true (by omega);have z3:decide (0 < (i:Int))=true:=decide_eq_true (by omega);have z4:0 < i:=by omega
       have hwi:IntKind.i64.wrap ((i:Int) - 1)=(i:Int) - 1:=IntWalk.i64_in _ (by have:=mG.out;have:=HL.out.ZF;omega);have am4:wrap64 ((i:Int) - 1)=(i:Int) - 1:=(mT _).symm.trans hwi;have hi0:(0:Int)≤(i:Int) - 1:=by omega
       have hi1:(i:Int) - 1 < (st.length:Int):=by omega
       have hi2:(1:Int)≤(i:Int):=by omega
       have htn:((i:Int) - 1).toNat=i - 1:=by omega
       obtain⟨s_,hs_⟩: ∃s_,b3+(Q.length:Int)=s_:=⟨_,rfl⟩
       have hwa:IntKind.i64.wrap (b3+(Q.length:Int))=s_:=by rw [hs_];exact IntWalk.i64_in _ (by have:=Zi.out;omega)
       have am5:wrap64 (b3+(Q.length:Int))=s_:=(mT _).symm.trans hwa;have aef: ¬ m2=0:=by have:=wM.out;have:=HQ0.out;omega
       have aed:Int.tmod s_ m2=a:=by rw [Int.tmod_eq_emod_of_nonneg (by omega),ha,hs_,wM.out]
       have QH:0≤a∧a < 10:=by have h1:=wM.out;have h2:=Zi.out;have h3:=HQ0.out;rw [ha,h1];have h4:=Int.emod_nonneg (b3+(Q.length:Int)) aef;have h5:=Int.emod_lt_of_pos (b3+(Q.length:Int)) (show 0 < m2 by omega);omega
       have Z6:IntKind.i64.wrap (Int.tmod s_ m2)=a:=by rw [aed];exact IntWalk.i64_in _ (by omega)
       have ak2:wrap64 (Int.tmod s_ m2)=a:=(mT _).symm.trans Z6;have h2n:=H2N.out;have GP:=Xe.out;clear e0 hb0 hb1 ha hs_ QH
       go_wp2_with fail
       have hb:Below wr.heap.size wr wr.drew:=mH (Below.refl _ _);replace AL:=q_ (AL.out.mv hb);replace HB:=q_ (eE HB.out hb);clear hb;obtain⟨P0,AS,cS,eb,hxS,hlS,hiS⟩:=pI (AL.out.now.2.1) (i:Int) h0z pZ;subst eb;rw [xB.out] at hxS hlS hiS;rw [Int.toNat_natCast] at hxS;have AX:([a,b2]:List Int).length=2:=rfl;rw [AX] at hxS hlS hiS;obtain⟨Ee,eb,hxT⟩:=Kd.mA hiS 0 (by omega) (by omega);subst eb;replace hxT:wr.drew.cell? Ee=some (.int .i64 a):=hxT;obtain⟨adP,AP,cP,eb,hxP,hlP,hiP⟩:=pI (AL.out.now.2.1) ((i:Int) - 1) hi0 hi1;injection eb with eb;subst eb
       rw [aar.out] at hxP hlP hiP;rw [htn] at hxP;have Ph:([a2,b3]:List Int).length=2:=rfl;rw [Ph] at hxP hlP hiP;obtain⟨IX,eb,hxU⟩:=Kd.mA hiP 1 (by omega) (by omega);subst eb;replace hxU:wr.drew.cell? ⟨IX.block,IX.off+1,none⟩=some (.int .i64 b3):=hxU;clear hiS hlS AX hiP hlP Ph;refine qx (n:=38) (S:=fun w'=>w'.cell? (P0.add i)=some (.slice (some Ee) 2 cS)∧w'.cell? Ee=some (.int .i64 a)∧w'.cell? (P0.add (i - 1))=some (.slice (some IX) 2 cP)∧w'.cell? ⟨IX.block,IX.off+1,none⟩=some (.int .i64 b3)) (ds:= []) ⟨hxS,hxT,hxP,hxU⟩ (fun hHeld=>?_)
       clear hxS hxT hxP hxU
       generalize wr.drew=w81 at AL HB hHeld ⊢
       refine lX 0 165 ?_
       refine lX 1 166 ?_
       refine lX 2 167 ?_
       refine oB 3 168 ?_
       refine oB 4 169 ?_
       refine oB 5 170 ?_
       refine oB 6 171 ?_
       refine oB 7 172 ?_
       refine oB 8 173 ?_
       refine oB 9 174 ?_
       refine oB 10 175 ?_
       refine oB 11 176 ?_
       refine lX 12 177 ?_
       refine lX 13 178 ?_
       refine lX 14 179 ?_
       refine lX 15 180 ?_
       refine lX 16 181 ?_
       refine lX 17 182 ?_
       refine lX 18 183 ?_
       refine lX 19 184 ?_
       refine lX 23 188 ?_
       refine lX 24 189 ?_
       refine lX 25 190 ?_
       refine lX 26 191 ?_
       refine lX 30 195 ?_
       refine lX 32 197 ?_
       refine lX 33 198 ?_
       refine mg 20 185 ?_
       refine lX 21 186 ?_
       refine mg 22 187 ?_
       refine mg 27 192 ?_
       refine lX 28 193 ?_
       refine mg 29 194 ?_
       refine lX 31 196 ?_
       refine lX 34 199 ?_
       refine lX 35 200 ?_
       refine lX 36 201 ?_
       refine lX 37 202 ?_
       refine oA (by kernel_rfl) ?_
       clear hHeld;go_wp2
       go_roundg (st.length - (i+1))
       case measure=>have:=HG.out;have:=mG.out;omega
       case rel=>exact⟨i+1,mG.out,by omega,by first | rfl | (rw [hw]) | (simp [hw]),AL,HB⟩
     ·have pZ: ¬ (i:Int) < (st.length:Int):=by omega
      clear hi hg hlt;go_wp2
      go_meet
      case rel=>exact⟨⟨⟨fun w2 h2=>⟨(AL.out.all w2 h2).2.2.1,trivial⟩⟩⟩,HB⟩
   | true=>
    cases sv with
    | false=>exact absurd hbv (by decide)
    | true=>
     clear hbv;have vn:=lS (q_ (AL.out.now.1)) 0;have vm:=lS (q_ (AL.out.now.1)) 1;go_wp2
     clear vn vm;obtain⟨m2,hm2⟩: ∃m2,2*(Q.length:Int)=m2:=⟨_,rfl⟩
     have h2n:IntKind.i64.wrap (2*(Q.length:Int))=m2:=by rw [← hm2];exact IntWalk.i64_in _ (by have:=Zi.out;omega)
     have GP:wrap64 (2*(Q.length:Int))=m2:=(mT _).symm.trans h2n;have wM:=q_ hm2;have H2N:=q_ h2n;have Xe:=q_ GP;clear hm2 h2n GP
     go_loopg [24] st.length (fun gg v24 wr=> ∃i:Nat,i≤st.length∧st.length - i≤gg∧v24= .int .i64 (i:Int)∧aE (Al (fun W_=>(W_.heap[g3]?=some (.cells #[.slice Am M.length cm, .slice Aq Q.length cq] 34 (0,0)))∧(Kd.C (Kd.slice 2 (Kd.int .i64)) W_ A9 st.length st)∧(Kd.C rU W_ CF ry.length ry)∧(Kd.C (Kd.int .i64) W_ Aq Q.length Q)∧(Kd.C (Kd.slice 2 (Kd.int .i64)) W_ Am M.length M)∧True) wr)∧aE (Below w.heap.size w wr))
     case atStart=>exact⟨0,Nat.zero_le _,by omega,rfl,AL,HB⟩
     case round=>
      clear AL HB;obtain⟨i,hi,hg,rfl,AL,HB⟩:=hrel
      by_cases hlt:i < st.length
      ·have pZ:(i:Int) < (st.length:Int):=by omega
       have h0z:(0:Int)≤(i:Int):=by omega
       have hw:IntKind.i64.wrap ((i:Int)+1)=((i+1:Nat):Int):=by rw [IntWalk.i64_in _ (by have:=HL.out.ZF;omega)];rfl
       obtain⟨a,b2,hab,hz,hs⟩:=HTL.out i hlt;have hrow:d5 st (i:Int)= [a,b2]:=by unfold d5;rw [Int.toNat_natCast];exact hab
       have HG:=q_ hg;have mG:=q_ hlt;have xB:=q_ hrow;clear hi hg hlt hab hrow
       by_cases e0:i=0
       ·have ha:=hz e0;rw [wM.out] at ha;subst ha;clear hz hs;have z1:((i:Int)==0)=true:=by simp [e0]
        have z2:decide ((i:Int) > 0)=false:=decide_eq_false (by omega);have z3:decide (0 < (i:Int))=false:=decide_eq_false (by omega);have z4: ¬ 0 < i:=by omega
        have h2n:=H2N.out;have GP:=Xe.out;clear e0
        go_wp2_with fail
        have hb:Below wr.heap.size wr wr.drew:=mH (Below.refl _ _);replace AL:=q_ (AL.out.mv hb);replace HB:=q_ (eE HB.out hb);clear hb;obtain⟨P0,AS,cS,eb,hxS,hlS,hiS⟩:=pI (AL.out.now.2.1) (i:Int) h0z pZ;subst eb;rw [xB.out] at hxS hlS hiS;rw [Int.toNat_natCast] at hxS;have AX:([a,b2]:List Int).length=2:=rfl;rw [AX] at hxS hlS hiS;obtain⟨Ee,eb,hxT⟩:=Kd.mA hiS 0 (by omega) (by omega);subst eb;replace hxT:wr.drew.cell? Ee=some (.int .i64 a):=hxT;clear hiS hlS AX;refine qx (n:=38) (S:=fun w'=>w'.cell? (P0.add i)=some (.slice (some Ee) 2 cS)∧w'.cell? Ee=some (.int .i64 a)) (ds:= []) ⟨hxS,hxT⟩ (fun hHeld=>?_)
        clear hxS hxT
        generalize wr.drew=w81 at AL HB hHeld ⊢
        refine lX 0 165 ?_
        refine lX 1 166 ?_
        refine lX 2 167 ?_
        refine lX 3 168 ?_
        refine lX 4 169 ?_
        refine lX 5 170 ?_
        refine lX 9 174 ?_
        refine lX 10 175 ?_
        refine mg 6 171 ?_
        refine lX 7 172 ?_
        refine mg 8 173 ?_
        refine lX 11 176 ?_
        refine lX 12 177 ?_
        refine lX 13 178 ?_
        refine lX 14 179 ?_
        refine lX 15 180 ?_
        refine lX 16 181 ?_
        refine oB 17 182 ?_
        refine oB 18 183 ?_
        refine oB 19 184 ?_
        refine oB 20 185 ?_
        refine oB 21 186 ?_
        refine oB 22 187 ?_
        refine oB 23 188 ?_
        refine oB 24 189 ?_
        refine oB 25 190 ?_
        refine oB 26 191 ?_
        refine oB 27 192 ?_
        refine oB 28 193 ?_
        refine oB 29 194 ?_
        refine oB 30 195 ?_
        refine oB 31 196 ?_
        refine oB 32 197 ?_
        refine oB 33 198 ?_
        refine oB 34 199 ?_
        refine oB 35 200 ?_
        refine lX 36 201 ?_
        refine lX 37 202 ?_
        refine oA (by kernel_rfl) ?_
        clear hHeld;go_wp2
        go_roundg (st.length - (i+1))
        case measure=>have:=HG.out;have:=mG.out;omega
        case rel=>exact⟨i+1,mG.out,by omega,by first | rfl | (rw [hw]) | (simp [hw]),AL,HB⟩
       ·obtain⟨a2,b3,hp,hb0,hb1,ha⟩:=hs (by omega);clear hz hs;have yO:d5 st ((i:Int) - 1)= [a2,b3]:=by unfold d5;rw [show ((i:Int) - 1).toNat=i - 1 by omega];exact hp
        have aar:=q_ yO;clear yO hp;have z1:((i:Int)==0)=false:=by simp [e0]
        have z2:decide ((i:Int) > 0)=true:=decide_eq_true (by omega);have z3:decide (0 < (i:Int))=true:=decide_eq_true (by omega);have z4:0 < i:=by omega
        have hwi:IntKind.i64.wrap ((i:Int) - 1)=(i:Int) - 1:=IntWalk.i64_in _ (by have:=mG.out;have:=HL.out.ZF;omega);have am4:wrap64 ((i:Int) - 1)=(i:Int) - 1:=(mT _).symm.trans hwi;have hi0:(0:Int)≤(i:Int) - 1:=by omega
        have hi1:(i:Int) - 1 < (st.length:Int):=by omega
        have hi2:(1:Int)≤(i:Int):=by omega
        have htn:((i:Int) - 1).toNat=i - 1:=by omega
        obtain⟨s_,hs_⟩: ∃s_,b3+(Q.length:Int)=s_:=⟨_,rfl⟩
        have hwa:IntKind.i64.wrap (b3+(Q.length:Int))=s_:=by rw [hs_];exact IntWalk.i64_in _ (by have:=Zi.out;omega)
        have am5:wrap64 (b3+(Q.length:Int))=s_:=(mT _).symm.trans hwa;have aef: ¬ m2=0:=by have:=wM.out;have:=HQ0.out;omega
        have aed:Int.tmod s_ m2=a:=by rw [Int.tmod_eq_emod_of_nonneg (by omega),ha,hs_,wM.out]
        have QH:0≤a∧a < 10:=by have h1:=wM.out;have h2:=Zi.out;have h3:=HQ0.out;rw [ha,h1];have h4:=Int.emod_nonneg (b3+(Q.length:Int)) aef;have h5:=Int.emod_lt_of_pos (b3+(Q.length:Int)) (show 0 < m2 by omega);omega
        have Z6:IntKind.i64.wrap (Int.tmod s_ m2)=a:=by rw [aed];exact IntWalk.i64_in _ (by omega)
        have ak2:wrap64 (Int.tmod s_ m2)=a:=(mT _).symm.trans Z6;have h2n:=H2N.out;have GP:=Xe.out;clear e0 hb0 hb1 ha hs_ QH
        go_wp2_with fail
        have hb:Below wr.heap.size wr wr.drew:=mH (Below.refl _ _);replace AL:=q_ (AL.out.mv hb);replace HB:=q_ (eE HB.out hb);clear hb;obtain⟨P0,AS,cS,eb,hxS,hlS,hiS⟩:=pI (AL.out.now.2.1) (i:Int) h0z pZ;subst eb;rw [xB.out] at hxS hlS hiS;rw [Int.toNat_natCast] at hxS;have AX:([a,b2]:List Int).length=2:=rfl;rw [AX] at hxS hlS hiS;obtain⟨Ee,eb,hxT⟩:=Kd.mA hiS 0 (by omega) (by omega);subst eb;replace hxT:wr.drew.cell? Ee=some (.int .i64 a):=hxT;obtain⟨adP,AP,cP,eb,hxP,hlP,hiP⟩:=pI (AL.out.now.2.1) ((i:Int) - 1) hi0 hi1;injection eb with eb;subst eb
        rw [aar.out] at hxP hlP hiP;rw [htn] at hxP;have Ph:([a2,b3]:List Int).length=2:=rfl;rw [Ph] at hxP hlP hiP;obtain⟨IX,eb,hxU⟩:=Kd.mA hiP 1 (by omega) (by omega);subst eb;replace hxU:wr.drew.cell? ⟨IX.block,IX.off+1,none⟩=some (.int .i64 b3):=hxU;clear hiS hlS AX hiP hlP Ph;refine qx (n:=38) (S:=fun w'=>w'.cell? (P0.add i)=some (.slice (some Ee) 2 cS)∧w'.cell? Ee=some (.int .i64 a)∧w'.cell? (P0.add (i - 1))=some (.slice (some IX) 2 cP)∧w'.cell? ⟨IX.block,IX.off+1,none⟩=some (.int .i64 b3)) (ds:= []) ⟨hxS,hxT,hxP,hxU⟩ (fun hHeld=>?_)
        clear hxS hxT hxP hxU
        generalize wr.drew=w81 at AL HB hHeld ⊢
        refine lX 0 165 ?_
        refine lX 1 166 ?_
        refine lX 2 167 ?_
        refine oB 3 168 ?_
        refine oB 4 169 ?_
        refine oB 5 170 ?_
        refine oB 6 171 ?_
        refine oB 7 172 ?_
        refine oB 8 173 ?_
        refine oB 9 174 ?_
        refine oB 10 175 ?_
        refine oB 11 176 ?_
        refine lX 12 177 ?_
        refine lX 13 178 ?_
        refine lX 14 179 ?_
        refine lX 15 180 ?_
        refine lX 16 181 ?_
        refine lX 17 182 ?_
        refine lX 18 183 ?_
        refine lX 19 184 ?_
        refine lX 23 188 ?_
        refine lX 24 189 ?_
        refine lX 25 190 ?_
        refine lX 26 191 ?_
        refine lX 30 195 ?_
        refine lX 32 197 ?_
        refine lX 33 198 ?_
        refine mg 20 185 ?_
        refine lX 21 186 ?_
        refine mg 22 187 ?_
        refine mg 27 192 ?_
        refine lX 28 193 ?_
        refine mg 29 194 ?_
        refine lX 31 196 ?_
        refine lX 34 199 ?_
        refine lX 35 200 ?_
        refine lX 36 201 ?_
        refine lX 37 202 ?_
        refine oA (by kernel_rfl) ?_
        clear hHeld;go_wp2
        go_roundg (st.length - (i+1))
        case measure=>have:=HG.out;have:=mG.out;omega
        case rel=>exact⟨i+1,mG.out,by omega,by first | rfl | (rw [hw]) | (simp [hw]),AL,HB⟩
      ·have pZ: ¬ (i:Int) < (st.length:Int):=by omega
       clear hi hg hlt;go_wp2
       go_meet
       case rel=>exact⟨⟨⟨fun w2 h2=>⟨(AL.out.all w2 h2).2.2.1,trivial⟩⟩⟩,HB⟩
  ·have c5b:(c2==0)=false:=by simpa using cc
   go_wp2
   go_meet
   case rel=>exact⟨⟨⟨fun w2 h2=>⟨(AL.out.all w2 h2).2.2.1,trivial⟩⟩⟩,HB⟩
 case rest=>
  have Qa:aE (c3=0→ ∀i:Nat,i < ry.length→0≤(kB ry (i:Int)).f0):=⟨HL.out.rnn⟩
  have HRL:aE (ry.length≤11):=⟨HL.out.rlen⟩
  clear AL HB;obtain⟨AL,HB⟩:=hcut
  rename_i hk
  exact hk _ _ (oT.R6 qE uG RK Gn Qa HRL AL HB)
end Go.Proofs.YthmfdplckdijdaaGreat.Pr
end
section
namespace Go.Proofs.YthmfdplckdijdaaGreat.Pr
open Go.RowKit Wz.cw Wz.fX Wz.cX Al Dr Ma
theorem oT.walk {A0:Option Addr} {c0:Nat} {l0:List Int} {w:World} (qE:aE (Kd.C (Kd.int .u8) w A0 l0.length l0)) (uG:aE (l0.length≤c0)) (RK:aE (∀i:Nat,0≤l0.getD i 0∧l0.getD i 0≤255)) (Gn:aE (l0.length≤4096)):
  Calls Tryz.prog 4 #[.slice A0 l0.length c0] w fun e w'=>e= .returned (.bool true)∧Below w.heap.size w w':=by
 have HB:=q_ (Below.refl w.heap.size w);have AL:=q_ (Al.nil w)
 go_enter Tryz.func4,Tryz.ntmps4
 go_wp2_with fail
 refine(BD.calls A0 c0 l0 false _ (Kd.nW qE.out HB.out) uG.out (by unfold BD.f;rw [decide_eq_false (show ¬ (l0.length:Int) > 4096 by have:=Gn.out;omega)])).mono ?_
 rintro e w1 ⟨rfl,hd⟩;have hb:=Al.wG hd;replace AL:=q_ (AL.out.mv hb);replace HB:=q_ (eE HB.out hb);clear hb hd
 go_wp2_with fail
 refine(alc (Kd.nW qE.out HB.out) uG.out RK.out Gn.out).mono ?_
 rintro e w2 ⟨_,M,Q,Ac,cc,cv,rfl,⟨Am,cm,Aq,cq,rfl,hM,hMc,hQ,hQc⟩,hM5,hQ6,hV,hVc,hV6,hb⟩;replace AL:=q_ (AL.out.mv hb);replace HB:=q_ (eE HB.out hb);replace AL:=q_ (((AL.out.Ed hM).Ed hQ).Ed hV);obtain⟨k,z,c1,st,sv,c2,ry,c3,ai2⟩:=uF.ahN M Q cv (by omega) (by omega);have HL:=q_ ai2;have CM:=q_ hMc;have CQ:=q_ hQc;have CV:=q_ hVc;clear ai2 hM hMc hQ hQc hM5 hQ6 hV hVc hV6 hb
 go_wp2_with (first | ((with_reducible refine dg (N:=3) rfl ?_);refine nR 3 #[.slice none 0 0, .slice none 0 0] 34 ?_;intro g3 hg w3 cM hb;have Bx:=q_ cM;have HBx:=q_ hb;have Gx:aE (w2.heap.size≤g3):=⟨by rw [hg];exact Nat.le_refl _⟩;have hx0:=lS Bx 0;have hx1:=lS Bx 1;have QG:=gE cM 0;have KV:=gE cM 1;clear hb cM hg) | ((with_reducible refine q8 (t:=34) (p:=3) rfl ?_);refine DK 34 3 ((w3.setCell ⟨g3,0,none⟩ (.slice Am M.length cm)).setCell ⟨g3,1,none⟩ (.slice Aq Q.length cq)) ?_;intro w4 hw;have nb:=q_ (show w4.heap[g3]?=some (.cells #[.slice Am M.length cm, .slice Aq Q.length cq] 34 (0,0)) from (by rw [hw];exact mD (mD Bx.out 0 _ rfl) 1 _ rfl));have hb:Below w2.heap.size w2 w4:=(by rw [hw];exact(HBx.out.setCell Gx.out _).setCell Gx.out _);replace AL:=q_ ((AL.out.mv hb).ajG nb.out);replace HB:=q_ (eE HB.out hb);clear hw hb nb hx0 hx1 QG KV Bx HBx Gx;have vn:=lS (q_ (AL.out.now.1)) 0;have vm:=lS (q_ (AL.out.now.1)) 1))
 refine(pW.calls k _ _ M _ _ Q _ _ cv z c1 _ (AL.out.now.2.2.2.1) CM.out (AL.out.now.2.2.1) CQ.out (AL.out.now.2.1) CV.out HL.out.i1).mono ?_
 rintro e w5 ⟨v5,rfl,ho,hb⟩;clear vn vm;replace AL:=q_ (AL.out.mv hb);replace HB:=q_ (eE HB.out hb);obtain⟨A5,c5,rfl⟩:=Kd.mE ho;have C5:=q_ (Kd.lU ho).2.1;replace AL:=q_ (AL.out.Ed (Kd.lU ho).2.2);clear hb ho;have vn:=lS (q_ (AL.out.now.2.1)) 0;have vm:=lS (q_ (AL.out.now.2.1)) 1
 go_wp2_with fail
 refine(m7.calls k _ _ M _ _ Q _ _ cv z c1 _ (AL.out.now.2.2.2.2.1) CM.out (AL.out.now.2.2.2.1) CQ.out (AL.out.now.2.2.1) CV.out HL.out.s1).mono ?_
 rintro e w6 ⟨v7,rfl,ho,hb⟩;clear vn vm;replace AL:=q_ (AL.out.mv hb);replace HB:=q_ (eE HB.out hb);obtain⟨A7,c7,rfl⟩:=Kd.mE ho;have C7:=q_ (Kd.lU ho).2.1;replace AL:=q_ (AL.out.Ed (Kd.lU ho).2.2);clear hb ho;have vn:=lS (q_ (AL.out.now.2.2.1)) 0;have vm:=lS (q_ (AL.out.now.2.2.1)) 1
 go_wp2_with fail
 refine(rW.calls _ _ M _ _ Q _ _ cv st sv c2 _ (AL.out.now.2.2.2.2.2.1) CM.out (AL.out.now.2.2.2.2.1) CQ.out (AL.out.now.2.2.2.1) CV.out HL.out.i2).mono ?_
 rintro e w7 ⟨v9,rfl,ho,hb⟩;clear vn vm;replace AL:=q_ (AL.out.mv hb);replace HB:=q_ (eE HB.out hb);obtain⟨A9,c9,rfl⟩:=Kd.nk ho;have C9:=q_ (Kd.qH ho).2.1;replace AL:=q_ (AL.out.Ed (Kd.qH ho).2.2);clear hb ho;have vn:=lS (q_ (AL.out.now.2.2.2.1)) 0;have vm:=lS (q_ (AL.out.now.2.2.2.1)) 1
 go_wp2_with fail
 refine(tQ.calls k _ _ M _ _ Q _ _ cv st sv c2 _ (AL.out.now.2.2.2.2.2.2.1) CM.out (AL.out.now.2.2.2.2.2.1) CQ.out (AL.out.now.2.2.2.2.1) CV.out HL.out.s2).mono ?_
 rintro e w8 ⟨Di,rfl,ho,hb⟩;clear vn vm;replace AL:=q_ (AL.out.mv hb);replace HB:=q_ (eE HB.out hb);obtain⟨Ey,qQ,rfl⟩:=Kd.nk ho;have C12:=q_ (Kd.qH ho).2.1;replace AL:=q_ (AL.out.Ed (Kd.qH ho).2.2);clear hb ho;have vn:=lS (q_ (AL.out.now.2.2.2.2.1)) 0;have vm:=lS (q_ (AL.out.now.2.2.2.2.1)) 1
 go_wp2_with fail
 refine(qN.calls k _ _ M _ _ Q _ _ cv ry c3 _ (AL.out.now.2.2.2.2.2.2.2.1) CM.out (AL.out.now.2.2.2.2.2.2.1) CQ.out (AL.out.now.2.2.2.2.2.1) CV.out HL.out.i3).mono ?_
 rintro e w9 ⟨Jy,rfl,ho,hb⟩;clear vn vm;replace AL:=q_ (AL.out.mv hb);replace HB:=q_ (eE HB.out hb);obtain⟨CF,xq,rfl⟩:=Kd.mE ho;have C15:=q_ (Kd.lU ho).2.1;replace AL:=q_ (AL.out.Ed (Kd.lU ho).2.2);clear hb ho;have vn:=lS (q_ (AL.out.now.2.2.2.2.2.1)) 0;have vm:=lS (q_ (AL.out.now.2.2.2.2.2.1)) 1
 go_wp2_with fail
 refine(lO.calls k _ _ M _ _ Q _ _ cv ry c3 _ (AL.out.now.2.2.2.2.2.2.2.2.1) CM.out (AL.out.now.2.2.2.2.2.2.2.1) CQ.out (AL.out.now.2.2.2.2.2.2.1) CV.out HL.out.s3).mono ?_
 rintro e tE ⟨v17,rfl,ho,hb⟩;clear vn vm;replace AL:=q_ (AL.out.mv hb);replace HB:=q_ (eE HB.out hb);obtain⟨Zr,uD,rfl⟩:=Kd.mE ho;have C17:=q_ (Kd.lU ho).2.1;replace AL:=q_ (AL.out.Ed (Kd.lU ho).2.2);clear hb ho
 go_wp2_with fail
 refine(pX.calls k _ _ z _ _ z true _ (AL.out.now.2.2.2.2.2.1) C5.out (AL.out.now.2.2.2.2.1) C7.out HL.out.q1).mono ?_
 rintro e rB ⟨rfl,hd⟩;have hb:=Al.wG hd;replace AL:=q_ (AL.out.mv hb);replace HB:=q_ (eE HB.out hb);clear hb hd
 go_wp2_with fail
 refine(qt.calls k _ _ st _ _ st true _ (AL.out.now.2.2.2.1) C9.out (AL.out.now.2.2.1) C12.out HL.out.q2).mono ?_
 rintro e tX ⟨rfl,hd⟩;have hb:=Al.wG hd;replace AL:=q_ (AL.out.mv hb);replace HB:=q_ (eE HB.out hb);clear hb hd
 go_wp2_with fail
 refine(pX.calls k _ _ ry _ _ ry true _ (AL.out.now.2.1) C15.out (AL.out.now.1) C17.out HL.out.q3).mono ?_
 rintro e Ah ⟨rfl,hd⟩;have hb:=Al.wG hd;replace AL:=q_ (AL.out.mv hb);replace HB:=q_ (eE HB.out hb);clear hb hd
 go_upto_if 118 with (fail)
 have AF:=q_ (show Al (fun W_=>(W_.heap[g3]?=some (.cells #[.slice Am M.length cm, .slice Aq Q.length cq] 34 (0,0)))∧(Kd.C (Kd.slice 2 (Kd.int .i64)) W_ A9 st.length st)∧(Kd.C rU W_ CF ry.length ry)∧(Kd.C (Kd.int .i64) W_ Aq Q.length Q)∧(Kd.C (Kd.slice 2 (Kd.int .i64)) W_ Am M.length M)∧True) _ from ⟨fun w2 h2=>⟨(AL.out.all w2 h2).2.2.2.2.2.2.1,(AL.out.all w2 h2).2.2.2.1,(AL.out.all w2 h2).2.1,(AL.out.all w2 h2).2.2.2.2.2.2.2.2.1,(AL.out.all w2 h2).2.2.2.2.2.2.2.2.2.1,trivial⟩⟩)
 go_cut [19,20] from 117 to 139 (fun v19 v20 wc=>aE (Al (fun W_=>(W_.heap[g3]?=some (.cells #[.slice Am M.length cm, .slice Aq Q.length cq] 34 (0,0)))∧(Kd.C (Kd.slice 2 (Kd.int .i64)) W_ A9 st.length st)∧(Kd.C rU W_ CF ry.length ry)∧(Kd.C (Kd.int .i64) W_ Aq Q.length Q)∧(Kd.C (Kd.slice 2 (Kd.int .i64)) W_ Am M.length M)∧True) wc)∧aE (Below w.heap.size w wc))
 case first=>
  by_cases ck:c1=0
  ·subst ck;obtain⟨y,cs,g1,g2,g3,g4⟩:=HL.out.sol (by first | rfl | trivial);have G1:=q_ g1;clear g1;clear AF;have vn:=lS (q_ (AL.out.now.2.2.2.2.2.2.1)) 0;have vm:=lS (q_ (AL.out.now.2.2.2.2.2.2.1)) 1
   go_wp2_with fail
   refine(ny.calls k _ _ M _ _ Q _ _ z y cs _ (AL.out.now.2.2.2.2.2.2.2.2.2.1) CM.out (AL.out.now.2.2.2.2.2.2.2.2.1) CQ.out (AL.out.now.2.2.2.2.2.1) C5.out G1.out).mono ?_
   rintro e Cg ⟨rfl,hb⟩;clear vn vm;replace AL:=q_ (AL.out.mv hb);replace HB:=q_ (eE HB.out hb);clear hb;subst g3;subst g4
   by_cases cy:cs=0
   ·subst cy;have hy_:=g2 rfl;subst hy_;clear g2;go_wp2;go_meet;case rel=>exact⟨⟨⟨fun w2 h2=>⟨(AL.out.all w2 h2).2.2.2.2.2.2.1,(AL.out.all w2 h2).2.2.2.1,(AL.out.all w2 h2).2.1,(AL.out.all w2 h2).2.2.2.2.2.2.2.2.1,(AL.out.all w2 h2).2.2.2.2.2.2.2.2.2.1,trivial⟩⟩⟩,HB⟩
   ·have cy1:(cs==0)=false:=by simpa using cy
    clear g2;go_wp2;go_meet;case rel=>exact⟨⟨⟨fun w2 h2=>⟨(AL.out.all w2 h2).2.2.2.2.2.2.1,(AL.out.all w2 h2).2.2.2.1,(AL.out.all w2 h2).2.1,(AL.out.all w2 h2).2.2.2.2.2.2.2.2.1,(AL.out.all w2 h2).2.2.2.2.2.2.2.2.2.1,trivial⟩⟩⟩,HB⟩
  ·have ck1:(c1==0)=false:=by simpa using ck
   go_wp2
   go_meet
   case rel=>exact⟨AF,HB⟩
 case rest=>
  clear AL HB AF;obtain⟨AL,HB⟩:=hcut
  rename_i hk
  exact hk _ _ (oT.R7 qE uG RK Gn HL CM CQ C9 AL HB)
theorem oT.small (A0:Option Addr) (c0:Nat) (l0:List Int) (w:World) (hr0:Kd.C (Kd.int .u8) w A0 l0.length l0) (hc0:l0.length≤c0) (h0:(l0.length:Int) > 4096):
  Calls Tryz.prog 4 #[.slice A0 l0.length c0] w fun e w'=>e= .returned (.bool true)∧Below w.heap.size w w':=by
 have qE:=q_ hr0;have uG:=q_ hc0;have H0:=q_ h0;clear hr0 hc0 h0
 go_enter Tryz.func4,Tryz.ntmps4
 go_wp2_with fail
 refine(BD.calls A0 c0 l0 true _ qE.out uG.out (by unfold BD.f;rw [decide_eq_true H0.out])).mono ?_
 rintro e w2 ⟨rfl,hd⟩;have hb:=q_ (Al.wG hd);clear hd;go_wp2
 go_ret
 exact⟨rfl,hb.out⟩
open Classical in
noncomputable def oT.f (k:Nat) (l0:List Int):Option Bool:=if(l0.length:Int) > 4096∨(∀i:Nat,0≤l0.getD i 0∧l0.getD i 0≤255) then some true else none
theorem oT.calls (k:Nat) (A0:Option Addr) (c0:Nat) (l0:List Int) (r:Bool) (w:World) (hr0:Kd.C (Kd.int .u8) w A0 l0.length l0) (hc0:l0.length≤c0) (h:oT.f k l0=some r):
  Calls Tryz.prog 4 #[.slice A0 l0.length c0] w fun e w'=>e= .returned (.bool r)∧Below w.heap.size w w':=by
 unfold oT.f at h
 split at h
 case isFalse=>cases h
 rename_i hok
 cases h
 by_cases h1:(l0.length:Int) > 4096
 ·exact oT.small A0 c0 l0 w hr0 hc0 h1
 ·exact oT.walk ⟨hr0⟩ ⟨hc0⟩ ⟨hok.resolve_left h1⟩ ⟨by omega⟩
end Go.Proofs.YthmfdplckdijdaaGreat.Pr
end
section
namespace Go.Proofs.Wz.cw
open Go.ChangeShapes Go.WideShapes
end Go.Proofs.Wz.cw
end
section
namespace Go.Proofs.YthmfdplckdijdaaGreat.Op
open Go.ChangeShapes Go.WideShapes Go.ChangeAt Go.RowKit Go.Deep Go.Joins Wz.cw
def Opens (P:Program) (t:TypeId) {α:Type} (d:Kd α) (G:α→Prop):Prop:=
 ∀(H:Type) (enc:TypeId × Value→H) (w:World) (base:Nat) (held:Bool) (fuel:Nat) (cs:List Value) (x:DataW H × List MemPlace),
  DataW.trod enc P w base (fun _=>true) held fuel t cs=some x→ ∃a,d.K w a cs∧G a
def Rb (k:IntKind) (n:Int):Prop:=(Lit.int k n).wf=true
def Hg {α:Type} (G:α→Prop) (l:List α):Prop:=l.length≤maxLen∧ ∀x ∈ l,G x
theorem abf {P:Program} {t:TypeId} {k:IntKind} (ht:P.underlying t=some (.int k)):Opens P t (Kd.int k) (Rb k):=by
 intro H enc w base held fuel cs x h
 obtain⟨n,rfl,_,hw⟩:=DataW.trod_int ht h
 exact⟨n,rfl,hw⟩
theorem XR {P:Program} {t e:TypeId} {α:Type} [Inhabited α] {d:Kd α} {G:α→Prop} (ht:P.underlying t=some (.slice e)) (hc:P.cellsOf e=d.sz) (he:Opens P e d G):
  Opens P t (Kd.slice e d) (Hg G):=by
 intro H enc w base held fuel cs x h
 rcases open_slice ht h with ⟨rfl,_⟩ | ⟨a,len,cap,m,n,D,Pl,rfl,hb,hl,hm,hmm,_,hx⟩
 ·exact⟨[],⟨none,0,rfl,Nat.le_refl _,⟨rfl,Nat.zero_le _,fun hn=>absurd hn (Nat.lt_irrefl 0)⟩⟩,⟨Nat.zero_le _,fun x hx=>by cases hx⟩⟩
 ·simp only [if_true] at hmm
  subst hmm
  have each: ∀i,i < m→ ∃y:α,(∃c,c.length=d.sz∧d.K w y c∧ ∀j u,c[j]?=some u→w.cell? (a.add (i*d.sz+j))=some u)∧G y:=by
   intro i hi
   obtain⟨cs',h1,h2⟩:=hx i hi
   obtain⟨_,hlen,hcell⟩:=World.cells?_some h1
   obtain⟨y,hy,hg⟩:=he H enc w base held n cs' _ h2
   rw [hc] at hlen hcell
   refine⟨y,⟨cs',hlen,hy,fun j u hu=>?_⟩,hg⟩
   have hj:j < d.sz:=by rw [← hlen];exact(List.getElem?_eq_some_iff.1 hu).1
   rw [← hu, ← hcell j hj]
   congr 1
   unfold Addr.add
   by_cases h1:i*d.sz=0 <;> by_cases h2:j=0 <;> simp [h1,h2,Nat.add_assoc]
  obtain⟨Y,hY⟩:=choose_lt each
  have hmax:m≤9223372036854775807:=by unfold maxLen at hm;omega
  refine⟨(List.range len).map Y,⟨some a,m,by simp,by simpa using hl,?_⟩,by simp;omega,?_⟩
  ·refine⟨rfl,by simp;omega,fun _=>⟨a,rfl,fun j p hj=>?_⟩⟩
   have hjl:j < len:=by have:=(List.getElem?_eq_some_iff.1 hj).1;simpa using this
   have hp:p=Y j:=by
    rw [List.getElem?_map,List.getElem?_range hjl] at hj
    simpa using hj.symm
   subst hp
   exact(hY j (by omega)).1
  ·intro y hy
   obtain⟨j,hj,rfl⟩:=List.mem_map.1 hy
   exact(hY j (by have:=List.mem_range.1 hj;omega)).2
section
variable {P:Program} {W:World} {H:Type} {enc:TypeId × Value→H} {base:Nat} {held:Bool} {t:TypeId} {v:Value} {dd:DataW H} {ps:List MemPlace} {r:Reach} {b0:Nat}
theorem ab4 {e:TypeId} {α:Type} [Inhabited α] {d:Kd α} {G:α→Prop} (ht:P.underlying t=some (.slice e)) (hc:P.cellsOf e=d.sz) (he:Opens P e d G) (hv:Value.okWide P W r b0 t v) (h:DataW.Trod enc P W base (fun _=>true) held t v dd ps):
  ∃A c l,v= .slice A l.length c∧l.length≤c∧d.C W A l.length l∧Hg G l:=by
 obtain⟨A,len,cap,rfl⟩:=okWide_slice ht hv
 obtain⟨fuel,hf⟩:=h
 obtain⟨l,⟨A',c',hcs,hl,hr⟩,hg⟩:=XR ht hc he H enc W base held fuel _ _ hf
 simp [Value.cells] at hcs
 obtain⟨rfl,rfl,rfl⟩:=hcs
 exact⟨_,_,l,rfl,hl,hr,hg⟩
theorem XA (h:DataW.Trod enc P W base (fun _=>true) held t v dd ps): ∀x ∈ ps,x.block < W.heap.size:=by
 obtain⟨m,hm⟩:=h
 exact DataW.trod_lt m _ _ _ hm
end
end Go.Proofs.YthmfdplckdijdaaGreat.Op
end
section
namespace Go.Proofs.YthmfdplckdijdaaGreat.Say
open Go.Proofs.YthmfdplckdijdaaGreat.Op Pr
def FnLemke:Prop:= ∀(l0:List Int),Hg (Rb .u8) l0→ ∃k,oT.f k l0=some true
end Go.Proofs.YthmfdplckdijdaaGreat.Say
end
section
namespace Go.Proofs.YthmfdplckdijdaaGreat.Pure
open Go.RowKit Wz.cw Wz.cX Pr Go.Proofs.YthmfdplckdijdaaGreat.Op
theorem ae1 {l:List Int} (h:Hg (Rb .u8) l): ∀i:Nat,0≤l.getD i 0∧l.getD i 0≤255:=fun i=>by
 by_cases c:i < l.length
 ·have hm:=h.2 l[i] (List.getElem_mem c)
  replace hm:(decide (IntKind.u8.min≤l[i]) && decide (l[i]≤IntKind.u8.max))=true:=hm
  have h2:IntKind.u8.min=0∧IntKind.u8.max=255:=by decide
  rw [h2.1,h2.2,Bool.and_eq_true,decide_eq_true_eq,decide_eq_true_eq] at hm
  rw [List.getD_eq_getElem?_getD,List.getElem?_eq_getElem c]
  exact hm
 ·rw [List.getD_eq_getElem?_getD,List.getElem?_eq_none (by omega)]
  exact⟨by decide,by decide⟩
theorem FnLemke:Say.FnLemke:=fun l0 hg=>⟨0,by
 classical
 unfold oT.f
 rw [if_pos (.inr (ae1 hg))]⟩
end Go.Proofs.YthmfdplckdijdaaGreat.Pure
end
section
namespace Go.Proofs.YthmfdplckdijdaaGreat.fnLemke
open Go.ChangeShapes Go.WideShapes Go.ChangeAt Go.RowKit Go.Proofs.YthmfdplckdijdaaGreat.Op Wz.cw
theorem own:ownKnob Tryz.prog.godebug=none:=by kernel_rfl
theorem laidOut:laidOutB Tryz.prog=true:=by kernel_rfl
theorem lifted (os:Os) (started:os.Started) (H:Type) (enc:TypeId × Value→H):
  ReturnsInHanded {} Tryz.checked os 4 .any (Rows.fnLemkeSpec.pre6 enc Tryz.prog Tryz.f4 Rows.fnLemkeRow.domain false) (Rows.fnLemkeSpec.post enc Tryz.prog Tryz.f4 false true false false):=by
 refine returnsInHanded_of_change_sized (C:=Tryz.checked) own started (by kernel_rfl) Tryz.func4
  (ChangeSpec.witness6 (enc:=enc) (C:=Tryz.checked) false ⟨#[], #[.slice none 0 0], []⟩ 8 (by kernel_rfl) (by kernel_rfl) (by kernel_rfl) (by kernel_rfl)) ?_
 intro W base args ds gs before afE hW hcnd am6 _
 have hval: ∀(j:Nat) t v,Tryz.f4.params[j]?=some t→args[j]?=some v→Value.okWide Tryz.prog W .any base t v:=afE
 have hW':=hW
 obtain⟨p,q,hA0,hV,rfl,hfz,hnd⟩:=hW
 have hA:DataW.TrodAll enc Tryz.prog W 0 (fun _=>true) true Tryz.f4.params.toList args.toList ds p:=hA0
 rw [Tryz.params4] at hA hval
 obtain⟨v0,vs0,d0,ds0,p0,q0,hargs,rfl,rfl,h0,r0⟩:=trodAll_cons hA
 obtain⟨rfl,rfl,rfl⟩:=trodAll_nil r0
 obtain rfl:args= #[v0]:=by cases args;simp_all
 obtain⟨rfl,rfl⟩:=trodVars_none hV
 have k0:=h0
 have lt0:=XA k0
 obtain⟨A0,c0,l0,rfl,amX,amW,g0⟩:=ab4 (d:=(Kd.int .u8)) Tryz.underlying22 (by kernel_rfl) (abf Tryz.underlying5) (hval 0 22 v0 rfl rfl) h0
 obtain⟨k,h⟩:=Pure.FnLemke l0 g0
 clear hA0 afE am6
 refine(Pr.oT.calls k A0 c0 l0 true W amW amX h).mono ?_
 rintro e W' ⟨rfl,ajB⟩
 have bel:Below W.heap.size W W':=by first | exact ajB | exact ajB.below
 exact⟨_,rfl,_,_,_, [],_, [],hW',trodAll_mk1 (shut_bool Tryz.underlying4 _),(trodAll_cons_mk (Below.trod laidOut (by kernel_rfl) (of_decide_eq_true (by kernel_rfl)) k0 bel lt0) trodAll_mk0),rfl,bel.frame _,fun h=>by cases h⟩
theorem over:Rows.fnLemkeRow.holds Tryz.pinned (OpenSpec.ofChange Rows.fnLemkeSpec):=
 OpenClaim.holds_of_wide 4 Tryz.f4 rfl rfl rfl rfl rfl rfl rfl ⟨rfl,rfl,rfl,rfl,rfl⟩ rfl rfl rfl rfl rfl (by kernel_rfl) Tryz.func4 (by kernel_rfl)
  (of_decide_eq_true (by kernel_rfl)) (by unfold Func.isWrapper;first | (rw [if_pos (by decide+kernel)];kernel_rfl) | (rw [if_neg (by decide+kernel)];exact⟨rfl,rfl⟩))
  (fun os started H enc _=>lifted os started H enc)
theorem proved:Rows.FnLemkeSaid:=over
#print axioms proved
end Go.Proofs.YthmfdplckdijdaaGreat.fnLemke
namespace Go.Proofs.YthmfdplckdijdaaGreat
theorem fnLemke_holds:Rows.FnLemkeSaid:=fnLemke.proved
end Go.Proofs.YthmfdplckdijdaaGreat
end
