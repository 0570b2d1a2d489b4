/- Texts of one claim (the words of the kit's print that the claim uses, printed functions, and this session's own texts), joined in the order of their imports by this session's own program (merge.py). -/
import Derived.Test.YthmfdplckdijdaaGreatJnFnLemke0
set_option linter.unusedVariables false
set_option linter.unusedSimpArgs false
set_option maxHeartbeats 8000000
set_option maxRecDepth 100000
section
namespace Go.Proofs.YthmfdplckdijdaaGreat.Bz
open Go.RowKit Wz.cw Wz.cX Ma Dt Bd
theorem aeY (L:Int): ∀n,lY n (fun a b=>if a=b then L else 0)=L ^ n:=by
 intro n
 induction n with
 | zero=>simp [lY]
 | succ n ih=>
  rw [z9,tG (k:=0) (by omega) (fun i _ h=>by rw [if_neg (by omega)];simp)]
  rw [mX (A:=rZ 0 (fun a b=>if a=b then L else 0)) (B:=fun a b=>if a=b then L else 0) (fun i j _ _=>by simp [rZ,up]),ih]
  rw [if_pos rfl,Int.pow_succ,show sg 0=1 from rfl]
  grind
theorem VU {n c:Nat} (hc:c < n) {A:lE} (h: ∀i,i < n→A i c=0):lY n A=0:=by
 have:=Cc (A:=A) (B:=A) (C:=A) (s:=0) (t:=0) hc (fun i hi=>by rw [h i hi];simp) (fun i j _ _ _=>⟨rfl,rfl⟩)
 simpa using this
theorem afQ (A:lE):lY 1 A=A 0 0:=by simp [lY,sm,sg]
theorem ale (A:lE):lY 2 A=A 0 0*A 1 1 - A 0 1*A 1 0:=by
 simp [lY,sm,sg,rZ,up]
 omega
def rs (i:Nat) (A:lE) (r c:Nat):Int:=lY i A*A r c - sm i (fun t=>lY i (p8 t (A r) A)*A t c)
theorem agS (i:Nat) (A:lE) (r:Nat) {j:Nat} (hj:j < i):rs i A r j=0:=by
 unfold rs
 rw [Y8 A (A r) hj];omega
theorem G0 (i d:Nat) (A:lE):lY i A ^ d*lY (i+d) A=lY i A*lY d (fun a b=>rs i A (i+a) (i+b)):=by
 let E:lE:=fun a b=>if a < i then one a b else if b < i then - lY i (p8 b (A a) A) else if a=b then lY i A else 0
 have hE:lY (i+d) E=lY i A ^ d:=by
  rw [RD d i E (fun a b ha hb _=>by simp only [E,if_pos ha,one];rw [if_neg (by omega)])]
  rw [mX (A:=E) (B:=one) (fun a b ha _=>by simp only [E,if_pos ha]),Jm,Int.one_mul, ← aeY]
  exact mX (fun a b _ _=>by simp only [sh,E];rw [if_neg (by omega),if_neg (by omega)];simp)
 have hlow (a b:Nat) (ha:i≤a) (ha2:a < i+d):mul (i+d) E A a b=rs i A a b:=by
  unfold mul
  rw [DJ,nE (f:=fun k=>E a k*A k b) (g:=fun k=>(-1)*(lY i (p8 k (A a) A)*A k b)) (fun k hk=>by simp only [E];rw [if_neg (by omega),if_pos hk];grind),sZ]
  rw [tG (n:=d) (k:=a - i) (by omega) (fun k hk hne=>by simp only [E];rw [if_neg (by omega),if_neg (by omega),if_neg (by omega)];simp)]
  simp only [E]
  rw [if_neg (by omega),if_neg (by omega),if_pos (by omega),show i+(a - i)=a from by omega]
  unfold rs
  omega
 have hup (a b:Nat) (ha:a < i):mul (i+d) E A a b=A a b:=by
  unfold mul
  rw [tG (k:=a) (by omega) (fun k hk hne=>by simp only [E,if_pos ha,one];rw [if_neg (by omega)];simp)]
  simp [E,ha,one]
 rw [← hE, ← ahI,aaf d i (mul (i+d) E A) (fun a b h1 h2 h3=>by rw [hlow a b h1 h2,agS i A a h3])]
 rw [mX (A:=mul (i+d) E A) (B:=A) (fun a b ha _=>hup a b ha)]
 congr 1
 exact mX (fun a b ha _=>by simp only [sh];exact hlow _ _ (by omega) (by omega))
def vQ (i r c:Nat) (A:lE):lE:=fun a b=>A (if a < i then a else r) (if b < i then b else c)
def bm (i r c:Nat) (A:lE):Int:=lY (i+1) (vQ i r c A)
theorem afw (i:Nat) (A B:lE) (r c r' c':Nat) (h1: ∀a b,a < i→b < i→B a b=A a b) (h2: ∀b,b < i→B r' b=A r b) (h3: ∀a,a < i→B a c'=A a c) (h4:B r' c'=A r c):rs i B r' c'=rs i A r c:=by
 unfold rs
 rw [mX (A:=B) (B:=A) h1,h4]
 congr 1
 refine nE (fun t ht=>?_)
 rw [h3 t ht,mX (A:=p8 t (B r') B) (B:=p8 t (A r) A) (fun a b ha hb=>by
  unfold p8
  split
  ·exact h2 b hb
  ·exact h1 a b ha hb)]
theorem PV {i:Nat} {A:lE} (hL:lY i A≠0) (r c:Nat):bm i r c A=rs i A r c:=by
 have h:=G0 i 1 (vQ i r c A)
 rw [afQ,mX (A:=vQ i r c A) (B:=A) (n:=i) (fun a b ha hb=>by simp [vQ,ha,hb]),Int.pow_succ,Int.pow_zero,Int.one_mul] at h
 rw [afw i A (vQ i r c A) r c (i+0) (i+0) (fun a b ha hb=>by simp [vQ,ha,hb]) (fun b hb=>by simp [vQ,hb]) (fun a ha=>by simp [vQ,ha]) (by simp [vQ])] at h
 exact Int.eq_of_mul_eq_mul_left hL h
theorem amU {i:Nat} {A:lE} (hL:lY i A≠0) (r c:Nat):lY i A*bm (i+1) r c A=bm i i i A*bm i r c A - bm i i c A*bm i r i A:=by
 have h:=G0 i 2 (vQ (i+1) r c A)
 rw [ale,mX (A:=vQ (i+1) r c A) (B:=A) (n:=i) (fun a b ha hb=>by unfold vQ;rw [if_pos (by omega),if_pos (by omega)])] at h
 have q (a b r' c':Nat) (ha:(if a < i+1 then a else r)=r') (hb:(if b < i+1 then b else c)=c'):rs i (vQ (i+1) r c A) a b=rs i A r' c':=
  afw i A (vQ (i+1) r c A) r' c' a b (fun x y hx hy=>by unfold vQ;rw [if_pos (by omega),if_pos (by omega)]) (fun y hy=>by unfold vQ;rw [ha,if_pos (by omega)]) (fun x hx=>by unfold vQ;rw [hb,if_pos (by omega)]) (by unfold vQ;rw [ha,hb])
 rw [q (i+0) (i+0) i i (by simp) (by simp),q (i+1) (i+1) r c (by simp) (by simp),q (i+0) (i+1) i c (by simp) (by simp),q (i+1) (i+0) r i (by simp) (by simp)] at h
 rw [← PV hL, ← PV hL, ← PV hL, ← PV hL] at h
 have e:lY i A ^ 2*lY (i+2) (vQ (i+1) r c A)=lY i A*(lY i A*bm (i+1) r c A):=by unfold bm;grind
 rw [e] at h
 exact Int.eq_of_mul_eq_mul_left hL h
def fact:Nat→Nat
 | 0=>1
 | n+1=>(n+1)*fact n
def b20 (n:Nat):Nat:=fact n*20 ^ n
theorem aaY {n B:Nat} {f:Nat→Int} (h: ∀i,i < n→(f i).natAbs≤B):(sm n f).natAbs≤n*B:=by
 induction n with
 | zero=>simp [sm]
 | succ n ih=>
  have h1:=ih (fun i hi=>h i (by omega))
  have h2:=h n (by omega)
  have h3:=Int.natAbs_add_le (sm n f) (f n)
  simp only [sm]
  rw [Nat.add_mul,Nat.one_mul]
  omega
theorem aa0 (k:Nat):(sg k).natAbs=1:=by unfold sg;split <;> rfl
theorem abP: ∀(n:Nat) (A:lE),(∀i j,i < n→j < n→(A i j).natAbs≤20)→(lY n A).natAbs≤b20 n:=by
 intro n
 induction n with
 | zero=>intro A _;show (1:Int).natAbs≤1;decide
 | succ n ih=>
  intro A h
  rw [z9]
  refine Nat.le_trans (aaY (B:=20*b20 n) (fun k hk=>?_)) ?_
  ·rw [Int.natAbs_mul,Int.natAbs_mul,aa0,Nat.one_mul]
   exact Nat.mul_le_mul (h 0 k (by omega) hk) (ih (rZ k A) (fun i j hi hj=>h _ _ (by omega) (Dl hj)))
  ·unfold b20;rw [fact,Nat.pow_succ]
   exact Nat.le_of_eq (by grind)
def Bk (n k:Nat) (A:lE):Prop:= ∀i j,i < n→j < n→(A i j).natAbs≤if j=k then 100 else 20
theorem D6: ∀(n k:Nat) (A:lE),Bk n k A→(lY n A).natAbs≤5*b20 n:=by
 intro n
 induction n with
 | zero=>intro k A _;show (1:Int).natAbs≤5*1;decide
 | succ n ih=>
  intro k A h
  rw [z9]
  refine Nat.le_trans (aaY (B:=100*b20 n) (fun c hc=>?_)) ?_
  ·rw [Int.natAbs_mul,Int.natAbs_mul,aa0,Nat.one_mul]
   have h0:=h 0 c (by omega) hc
   by_cases e:c=k
   ·subst e
    rw [if_pos rfl] at h0
    exact Nat.mul_le_mul h0 (abP n (rZ c A) (fun i j hi hj=>by have:=h (i+1) (up c j) (by omega) (Dl hj);rwa [if_neg (OV c j)] at this))
   ·rw [if_neg e] at h0
    have:=ih (dn c k) (rZ c A) (fun i j hi hj=>by
     have:=h (i+1) (up c j) (by omega) (Dl hj)
     unfold rZ
     by_cases q:up c j=k
     ·rw [if_pos q] at this
      rw [if_pos (by rw [← q,aad])];exact this
     ·rw [if_neg q] at this
      split <;> omega)
    calc (A 0 c).natAbs*(lY n (rZ c A)).natAbs≤20*(5*b20 n):=Nat.mul_le_mul h0 this
     _=100*b20 n:=by omega
  ·unfold b20;rw [fact,Nat.pow_succ]
   exact Nat.le_of_eq (by grind)
theorem IV: ∀n,n≤5→5*b20 n≤1920000000:=by
 intro n h
 match n,h with
 | 0,_=>decide
 | 1,_=>decide
 | 2,_=>decide
 | 3,_=>decide
 | 4,_=>decide
 | 5,_=>decide
 | n+6,h=>omega
theorem IQ {n k:Nat} (hn:n≤5) {A:lE} (h:Bk n k A) {i r c:Nat} (hi:i < n) (hr:r < n) (hic:i≤c) (hc:c < n): -1920000000≤bm i r c A∧bm i r c A≤1920000000:=by
 have h1:(bm i r c A).natAbs≤5*b20 (i+1):=D6 (i+1) (if k < i then k else i) _ (fun a b ha hb=>by
  unfold vQ
  have:=h (if a < i then a else r) (if b < i then b else c) (by split <;> omega) (by split <;> omega)
  refine Nat.le_trans this ?_
  grind)
 have h2:=IV (i+1) (by omega)
 omega
theorem O2 {x y:Int} (hx: -1920000000≤x∧x≤1920000000) (hy: -1920000000≤y∧y≤1920000000): -3686400000000000000≤x*y∧x*y≤3686400000000000000:=by
 have h:(x*y).natAbs≤1920000000*1920000000:=by rw [Int.natAbs_mul];exact Nat.mul_le_mul (by omega) (by omega)
 omega
structure Inv (n k i:Nat) (M:lE) (last turn:Int) (A A0:lE):Prop where
 le:i≤n
 small:Bk n k A
 num: ∀r c,i≤r→r < n→i≤c→c < n→M r c=bm i r c A
 GI:last=lY i A
 nz:last≠0
 OW:turn=1∨turn= -1
 V0:turn*lY n A=lY n A0
section
variable {n k:Nat} (hn:n≤5) {A0:lE}
include hn
theorem Inv.step {i:Nat} {M A:lE} {last turn:Int} (h:Inv n k i M last turn A A0) (hi:i < n) (hp:M i i≠0):Inv n k (i+1) (el M i last) (M i i) turn A A0:=by
 have hL:lY i A≠0:=by rw [← h.GI];exact h.nz
 have hpi:=h.num i i (Nat.le_refl _) hi (Nat.le_refl _) hi
 refine⟨by omega,h.small,fun r c hr hrn hc hcn=>?_,?_,hp,h.OW,h.V0⟩
 ·unfold el ev
  rw [if_pos (by omega),h.num r c (by omega) hrn (by omega) hcn,hpi,h.num r i (by omega) hrn (Nat.le_refl _) hi,h.num i c (Nat.le_refl _) hi (by omega) hcn]
  have p1:=O2 (IQ hn h.small hi hrn (by omega) hcn) (IQ hn h.small hi hi (Nat.le_refl _) hi)
  have p2:=O2 (IQ hn h.small hi hrn (Nat.le_refl _) hi) (IQ hn h.small hi hi (by omega) hcn)
  have s:=amU hL r c
  have e:bm i r c A*bm i i i A - bm i r i A*bm i i c A=lY i A*bm (i+1) r c A:=by rw [s];grind
  have b:=IQ hn h.small (i:=i+1) (r:=r) (c:=c) (by omega) hrn hc hcn
  rw [nH (x:=bm i r c A*bm i i i A) (by omega) (by omega),nH (x:=bm i r i A*bm i i c A) (by omega) (by omega),nH (x:=bm i r c A*bm i i i A - bm i r i A*bm i i c A) (by omega) (by omega),e,h.GI,Int.mul_tdiv_cancel_left _ hL]
  exact nH (by omega) (by omega)
 ·rw [hpi];unfold bm
  exact mX (fun a b ha hb=>by
   unfold vQ
   have e1:(if a < i then a else i)=a:=by split <;> omega
   have e2:(if b < i then b else i)=b:=by split <;> omega
   rw [e1,e2])
theorem Inv.none_ {i:Nat} {M A:lE} {last turn:Int} (h:Inv n k i M last turn A A0) (hi:i < n) (hz: ∀r,i≤r→r < n→M r i=0):lY n A0=0:=by
 have _h:=hn
 have hL:lY i A≠0:=by rw [← h.GI];exact h.nz
 have b:=G0 i (n - i) A
 rw [show i+(n - i)=n from by omega,VU (c:=0) (A:=fun a b=>rs i A (i+a) (i+b)) (by omega) (fun a ha=>by
  rw [← PV hL,Nat.add_zero, ← h.num (i+a) i (by omega) (by omega) (Nat.le_refl _) hi];exact hz _ (by omega) (by omega)),Int.mul_zero] at b
 have:lY n A=0:=by
  rcases Int.mul_eq_zero.1 b with b | b
  ·exact absurd b (Int.pow_ne_zero hL)
  ·exact b
 rw [← h.V0,this,Int.mul_zero]
theorem Inv.swap {i s:Nat} {M A:lE} {last turn:Int} (h:Inv n k i M last turn A A0) (his:i < s) (hs:s < n):Inv n k i (swp M i s) last (wrap64 (-turn)) (swp A i s) A0:=by
 have _h:=hn
 have hsr (r:Nat) (hr:r < n):(if r=i then s else if r=s then i else r) < n:=by grind
 have hlow (a:Nat) (ha:a < i):(if a=i then s else if a=s then i else a)=a:=by rw [if_neg (by omega),if_neg (by omega)]
 have w:wrap64 (-turn)= -turn:=nH (by have:=h.OW;omega) (by have:=h.OW;omega)
 refine⟨h.le,fun a b ha hb=>h.small _ _ (hsr a ha) hb,fun r c hr hrn hc hcn=>?_,?_,h.nz,by rw [w];have:=h.OW;omega,?_⟩
 ·unfold swp
  rw [h.num _ c (by grind) (hsr r hrn) hc hcn]
  unfold bm
  refine mX (fun a b _ _=>?_)
  unfold vQ
  by_cases ha:a < i
  ·simp only [if_pos ha];rw [hlow a ha]
  ·simp only [if_neg ha]
 ·rw [h.GI]
  exact mX (fun a b ha _=>by unfold swp;rw [hlow a ha])
 ·have e:=(D5 n).swap (r:=i) (q:=s) (A:=A) (B:=swp A i s) (by omega) hs (by omega) (fun j _=>⟨by unfold swp;rw [if_pos rfl],by unfold swp;rw [if_neg (by omega),if_pos rfl]⟩) (fun a b _ _ h1 h2=>by unfold swp;rw [if_neg h1,if_neg h2])
  rw [e,w, ← h.V0]
  grind
theorem ahF: ∀(q i:Nat),i+q=n→ ∀(M A:lE) (last turn:Int),Inv n k i M last turn A A0→JJ n q i M last turn=lY n A0:=by
 intro q
 induction q with
 | zero=>
  intro i hi M A last turn h
  obtain rfl:i=n:=by omega
  show wrap64 (turn*last)=_
  rw [h.GI,h.V0]
  have b:=D6 i k A h.small
  have b2:=IV i hn
  have t:=h.OW
  have e:=h.V0
  have:(lY i A0).natAbs=(lY i A).natAbs:=by
   rw [← e,Int.natAbs_mul]
   rcases t with t | t <;> rw [t] <;> simp
  exact nH (by omega) (by omega)
 | succ q ih=>
  intro i hi M A last turn h
  unfold JJ
  cases hf:JH M i (n - i) 0 with
  | none=>
   have hz:=KX hf
   exact(h.none_ hn (by omega) (fun r h1 h2=>by have:=hz (r - i) (Nat.zero_le _) (by omega);rwa [show i+(r - i)=r from by omega] at this)).symm
  | some kk=>
   obtain⟨_,h2,h3,_⟩:=BO hf
   cases kk with
   | zero=>exact ih (i+1) (by omega) _ A _ _ (h.step hn (by omega) h3)
   | succ kk=>
    have hs:=h.swap hn (s:=i+(kk+1)) (by omega) (by omega)
    exact ih (i+1) (by omega) _ _ _ _ (hs.step hn (by omega) (by unfold swp;rw [if_pos rfl];exact h3))
end
theorem ahG {n k:Nat} (hn:n≤5) (A:lE) (h:Bk n k A):JJ n n 0 A 1 1=lY n A:=by
 refine ahF hn (k:=k) n 0 (by omega) A A 1 1 ⟨Nat.zero_le _,h,fun r c _ _ _ _=>?_,rfl,by decide, .inl rfl,Int.one_mul _⟩
 unfold bm
 rw [afQ];simp [vQ]
end Go.Proofs.YthmfdplckdijdaaGreat.Bz
end
section
namespace Go.Proofs.YthmfdplckdijdaaGreat.Lk
open Go.RowKit Wz.cw Wz.cX Ma Dt Bz
theorem GS {n c:Nat} (hc:c < n) (B:lE) (m:Nat) (a:Nat→Int) (v:Nat→Nat→Int):lY n (ot c (fun i=>sm m (fun k=>a k*v k i)) B)=sm m (fun k=>a k*lY n (ot c (v k) B)):=by
 induction m with
 | zero=>
  have:=GU hc (fun _=>0) (fun _=>0) B 0 0
  simp only [sm] at*
  simpa using this
 | succ m ih=>
  simp only [sm]
  have:=GU hc (fun i=>sm m (fun k=>a k*v k i)) (v m) B 1 (a m)
  simp only [Int.one_mul] at this
  rw [this,ih]
theorem Po {n c:Nat} (hc:c < n) (B:lE) (a:Int) (v:Nat→Int):lY n (ot c (fun i=>a*v i) B)=a*lY n (ot c v B):=by
 have:=GS hc B 1 (fun _=>a) (fun _=>v)
 simpa [sm] using this
theorem abN {n r q:Nat} (hr:r < n) (hq:q < n) (hrq:r≠q) {A B:lE} (h: ∀i,i < n→B i r=A i q∧B i q=A i r) (ho: ∀i j,i < n→j < n→j≠r→j≠q→B i j=A i j):lY n B= - lY n A:=by
 rw [← xk n B, ← xk n A]
 exact(D5 n).swap hr hq hrq (A:=tr A) (B:=tr B) (fun j hj=>h j hj) (fun i j hi hj h1 h2=>ho j i hj hi h1 h2)
theorem akU {n i r:Nat} (hi:i < n) (hr:r < n) (hir:i≠r) (B:lE) (x y:Nat→Int):
  lY n (ot i x B)*lY n (ot r y B) - lY n (ot i y B)*lY n (ot r x B)=lY n B*lY n (ot i x (ot r y B)):=by
 have e1:lY n B*lY n (ot i x (ot r y B))=sm n (fun t=>lY n (ot t x B)*lY n (ot i (fun k=>B k t) (ot r y B))):=by
  rw [← GS hi, ← Po hi]
  refine mX (fun a b ha hb=>?_)
  by_cases e:b=i
  ·subst e
   show (if b=b then lY n B*x a else _)=(if b=b then sm n (fun t=>lY n (ot t x B)*B a t) else _)
   rw [if_pos rfl,if_pos rfl, ← QW B x ha]
   exact nE (fun t _=>Int.mul_comm _ _)
  ·show (if b=i then _ else ot r y B a b)=(if b=i then _ else ot r y B a b)
   rw [if_neg e,if_neg e]
 rw [e1,aaX hi hr hir]
 ·have e2:lY n (ot i (fun k=>B k i) (ot r y B))=lY n (ot r y B):=mX (fun a b _ _=>by
   simp only [ot]
   by_cases e:b=i
   ·subst e;rw [if_pos rfl,if_neg hir]
   ·rw [if_neg e])
  have e3:lY n (ot i (fun k=>B k r) (ot r y B))= - lY n (ot i y B):=abN hi hr hir (fun a _=>by
   simp only [ot]
   simp [Ne.symm hir]) (fun a b _ _ h1 h2=>by simp only [ot];simp [h1,h2])
  rw [e2,e3]
  grind
 ·intro t ht h1 h2
  have z:lY n (ot i (fun k=>B k t) (ot r y B))=0:=zM (c:=i) (d:=t) hi ht (Ne.symm h1) (fun a _=>by simp only [ot];rw [if_neg h1,if_neg h2];simp)
  rw [z,Int.mul_zero]
def yq (A:lE) (bs:Nat→Nat):lE:=fun i j=>A i (bs j)
def Bw (bs:Nat→Nat) (r v:Nat):Nat→Nat:=fun j=>if j=r then v else bs j
def cd (n:Nat) (A:lE) (bs:Nat→Nat) (i c:Nat):Int:=lY n (ot i (fun k=>A k c) (yq A bs))
structure Tab (n m:Nat) (A:lE) (bs:Nat→Nat) (T:lE) (den:Int):Prop where
 pos:0 < den
 num: ∃s:Int,(s=1∨s= -1)∧den=s*lY n (yq A bs)∧ ∀i c,i < n→c < m→T i c=s*cd n A bs i c
theorem VY {n i:Nat} (hi:i < n) (v:Nat→Int):lY n (ot i v one)=v i:=by
 have h:=QW (n:=n) one v hi
 rw [Jm,Int.one_mul,tG (k:=i) hi (fun t _ h=>by unfold one;rw [if_neg (Ne.symm h)];simp)] at h
 rw [← h];simp [one]
theorem G6 (A:lE) (bs:Nat→Nat) (r v:Nat):yq A (Bw bs r v)=ot r (fun k=>A k v) (yq A bs):=by
 funext i j;unfold yq Bw ot;split <;> rfl
theorem aah (r:Nat) (x y:Nat→Int) (B:lE):ot r x (ot r y B)=ot r x B:=by
 funext i j;unfold ot;split <;> rfl
theorem Tab.first {n m:Nat} {A:lE} (h: ∀i j,i < n→j < n→A i j=if i=j then 1 else 0):Tab n m A (fun j=>j) A 1:=by
 have e: ∀i j,i < n→j < n→yq A (fun j=>j) i j=one i j:=fun i j hi hj=>by unfold yq one;exact h i j hi hj
 refine⟨by decide,1, .inl rfl,?_,fun i c hi _=>?_⟩
 ·rw [mX e,Jm];rfl
 ·unfold cd
  rw [mX (B:=ot i (fun k=>A k c) one) (fun a b ha hb=>by unfold ot;split;rfl;exact e a b ha hb),VY hi];omega
def Hj (T:lE) (den:Int) (r v i c:Nat):Int:=if i=r then T r c else Int.tdiv (T i c*T r v - T i v*T r c) den
section
variable {n m:Nat} {A:lE} {bs:Nat→Nat} {T:lE} {den:Int} (h:Tab n m A bs T den)
include h
theorem Tab.nz:lY n (yq A bs)≠0:=by
 obtain⟨s,_,hd,_⟩:=h.num
 intro e
 have:=h.pos
 rw [hd,e,Int.mul_zero] at this
 omega
theorem Tab.V3 {k c:Nat} (hk:k < n) (hc:c < m):sm n (fun i=>A k (bs i)*T i c)=den*A k c:=by
 obtain⟨s,_,hd,hT⟩:=h.num
 have e:=QW (yq A bs) (fun k=>A k c) hk
 rw [hd,Int.mul_assoc, ← e, ← sZ]
 refine nE (fun i hi=>?_)
 rw [hT i c hi hc]
 unfold cd yq
 grind
theorem Tab.UN {r v i c:Nat} (hr:r < n) (hv:v < m) (hi:i < n) (hc:c < m):
  ∃s:Int,(s=1∨s= -1)∧T r v=s*lY n (yq A (Bw bs r v))∧den=s*lY n (yq A bs)∧(i≠r→T i c*T r v - T i v*T r c=den*(s*cd n A (Bw bs r v) i c))∧Hj T den r v i c=s*cd n A (Bw bs r v) i c:=by
 obtain⟨s,hs,hd,hT⟩:=h.num
 have hss:s*s=1:=by rcases hs with rfl | rfl <;> rfl
 have key:i≠r→T i c*T r v - T i v*T r c=den*(s*cd n A (Bw bs r v) i c):=by
  intro hir
  rw [hT i c hi hc,hT r v hr hv,hT i v hi hv,hT r c hr hc,hd]
  have e:=akU hi hr hir (yq A bs) (fun k=>A k c) (fun k=>A k v)
  unfold cd at*
  rw [G6]
  grind
 refine⟨s,hs,?_,hd,key,?_⟩
 ·rw [hT r v hr hv,G6];rfl
 ·unfold Hj
  by_cases e:i=r
  ·subst e
   rw [if_pos rfl,hT i c hi hc]
   unfold cd
   rw [G6,aah]
  ·rw [if_neg e,key e,Int.mul_tdiv_cancel_left _ (by have:=h.pos;omega)]
end
theorem Tab.step {n m:Nat} {A:lE} {bs:Nat→Nat} {T T':lE} {den:Int} (h:Tab n m A bs T den) {r v:Nat} (hr:r < n) (hv:v < m) (hp:T r v≠0)
  (hT': ∀i c,i < n→c < m→T' i c=if T r v < 0 then - Hj T den r v i c else Hj T den r v i c):Tab n m A (Bw bs r v) T' (if T r v < 0 then - T r v else T r v):=by
 obtain⟨s,hs,hd,hT⟩:=h.num
 have e0:T r v=s*lY n (yq A (Bw bs r v)):=by rw [hT r v hr hv,G6];rfl
 have all: ∀i c,i < n→c < m→Hj T den r v i c=s*cd n A (Bw bs r v) i c:=by
  intro i c hi hc
  obtain⟨s',hs',h1,h2,_,h4⟩:=h.UN hr hv hi hc
  have:s'=s:=by
   have hz:=h.nz
   rw [hd] at h2
   exact(Int.eq_of_mul_eq_mul_right hz h2).symm
  rw [h4,this]
 by_cases q:T r v < 0
 ·refine⟨by rw [if_pos q];omega, -s,by omega,by rw [if_pos q,e0];grind,fun i c hi hc=>?_⟩
  rw [hT' i c hi hc,if_pos q,all i c hi hc];grind
 ·refine⟨by rw [if_neg q];omega,s,hs,by rw [if_neg q,e0],fun i c hi hc=>?_⟩
  rw [hT' i c hi hc,if_neg q,all i c hi hc]
def Small (n m:Nat) (A:lE):Prop:= ∀i c,i < n→c < m→(A i c).natAbs≤if c+1=m then 100 else 20
theorem abX {n m:Nat} (hn:n≤5) {A:lE} (hA:Small n m A) {bs:Nat→Nat} (hb: ∀j,j < n→bs j+1 < m) {i c:Nat} (hc:c < m):(cd n A bs i c).natAbs≤1920000000:=by
 refine Nat.le_trans (D6 n i _ (fun a b ha hb'=>?_)) (IV n hn)
 unfold ot
 by_cases e:b=i
 ·rw [if_pos e,if_pos e]
  have:=hA a c ha hc
  show (A a c).natAbs≤100
  split at this <;> omega
 ·rw [if_neg e,if_neg e]
  have:=hA a (bs b) ha (by have:=hb b hb';omega)
  rw [if_neg (by have:=hb b hb';omega)] at this
  exact this
theorem Tab.abs {n m:Nat} (hn:n≤5) {A:lE} (hA:Small n m A) {bs:Nat→Nat} (hb: ∀j,j < n→bs j+1 < m) {T:lE} {den:Int} (h:Tab n m A bs T den) {i c:Nat} (hi:i < n) (hc:c < m): -1920000000≤T i c∧T i c≤1920000000:=by
 obtain⟨s,hs,_,hT⟩:=h.num
 have:=abX hn hA hb (i:=i) hc
 rw [hT i c hi hc]
 rcases hs with rfl | rfl <;> omega
theorem Tab.ahJ {n m:Nat} (hn:n≤5) {A:lE} (hA:Small n m A) {bs:Nat→Nat} (hb: ∀j,j < n→bs j+1 < m) {T:lE} {den:Int} (h:Tab n m A bs T den):den≤1920000000:=by
 obtain⟨s,hs,hd,_⟩:=h.num
 have:(lY n (yq A bs)).natAbs≤1920000000:=by
  refine Nat.le_trans (D6 n n _ (fun a b ha hb'=>?_)) (IV n hn)
  have:=hA a (bs b) ha (by have:=hb b hb';omega)
  rw [if_neg (by have:=hb b hb';omega)] at this
  rw [if_neg (by omega)]
  exact this
 rcases hs with rfl | rfl <;> omega
end Go.Proofs.YthmfdplckdijdaaGreat.Lk
end
section
namespace Go.Proofs.YthmfdplckdijdaaGreat.Lt
open Go.RowKit Wz.cw Wz.cX Ma Dt Bz Lk
def VI (T:lE) (den:Int) (r v i c:Nat):Int:=wrap64 (Int.tdiv (wrap64 (wrap64 (T i c*T r v) - wrap64 (T i v*T r c))) den)
def Fq (T:lE) (den:Int) (r v:Nat):lE:=fun i c=>if i=r then T r c else VI T den r v i c
def AJ (T:lE) (den:Int) (r v:Nat):lE:=fun i c=>if T r v < 0 then wrap64 (- Fq T den r v i c) else Fq T den r v i c
def Ch (T:lE) (r v:Nat):Int:=if T r v < 0 then wrap64 (- T r v) else T r v
def kl (T:lE) (i k:Nat) (x y:Int):List Nat→Bool
 | []=>false
 | c::l=>if T i c*y < T k c*x then true else if T k c*x < T i c*y then false else kl T i k x y l
def qL (n m:Nat):List Nat:=(m - 1)::List.range n
def Hq (less:Nat→Nat→Bool) (i:Nat):Option Nat→Bool
 | none=>true
 | some j=>less i j
def xH (b:Nat→Int) (less:Nat→Nat→Bool):List Nat→Option Nat→Option Nat
 | [],o=>o
 | i::l,o=>xH b less l (if 0 < b i∧Hq less i o=true then some i else o)
def pE (n:Nat):List Int:=(List.range n).map (fun(i:Nat)=>(i:Int))
structure TS where
 T:lE
 den:Int
 bs:List Int
def TS.step (s:TS) (r v:Nat):TS:=⟨AJ s.T s.den r v,Ch s.T r v,s.bs.set r (v:Int)⟩
def qC (n m:Nat) (s:TS) (b:Nat→Int):Option Nat:=xH b (fun i j=>kl s.T i j (b i) (b j) (qL n m)) (List.range n) none
def partner (n v:Nat):Nat:=if v < n then v+n else v - n
def goI (n m:Nat):Nat→TS→Nat→Nat→List (List Int)→TS × List (List Int) × Bool × Int × Int
 | 0,s,_,_,st=>(s,st,false,0,0)
 | q+1,s,v,r,st=>
  if st.length=200 then(s,st,false,0,3)
  else if s.bs.getD r 0=2*(n:Int) then(s.step r v,st++ [[(v:Int),s.bs.getD r 0]],true,0,0)
  else match qC n m (s.step r v) (fun i=>(s.step r v).T i (partner n (s.bs.getD r 0).toNat)) with
   | none=>(s.step r v,st++ [[(v:Int),s.bs.getD r 0]],false,(partner n (s.bs.getD r 0).toNat:Nat),0)
   | some r'=>goI n m q (s.step r v) (partner n (s.bs.getD r 0).toNat) r' (st++ [[(v:Int),s.bs.getD r 0]])
def nD (n:Nat) (M:lE) (cv q:Nat→Int):lE:=fun i c=>if c < n then(if c=i then 1 else 0) else if c < 2*n then - M i (c - n) else if c=2*n then - cv i else q i
def first (n:Nat) (M:lE) (cv q:Nat→Int):TS:=⟨nD n M cv q,1,pE n⟩
def yJ (n:Nat) (q:Nat→Int):Bool:=(List.range n).all (fun i=>decide (0≤q i))
def zU (n:Nat) (M:lE) (cv q:Nat→Int) (most:Nat):TS × List (List Int) × Bool × Int × Int:=
 if yJ n q=true then(first n M cv q, [],true,0,0)
 else match qC n (2*n+2) (first n M cv q) cv with
  | none=>(first n M cv q, [],false,0,0)
  | some r=>goI n (2*n+2) most (first n M cv q) (2*n) r []
theorem Vf {b:Nat→Int} {less:Nat→Nat→Bool} {n:Nat}: ∀ {l:List Nat} {o:Option Nat} {r:Nat},(∀i ∈ l,i < n)→(∀j,o=some j→j < n∧0 < b j)→xH b less l o=some r→r < n∧0 < b r
 | [],o,r,_,ho,h=>ho r h
 | i::l,o,r,hl,ho,h=>by
  unfold xH at h
  refine Vf (fun j hj=>hl j (List.mem_cons_of_mem _ hj)) (fun j hj=>?_) h
  by_cases c:0 < b i∧Hq less i o=true
  ·rw [if_pos c] at hj
   cases hj
   exact⟨hl i List.mem_cons_self,c.1⟩
  ·rw [if_neg c] at hj
   exact ho j hj
theorem Ve {b:Nat→Int} {less:Nat→Nat→Bool}: ∀ {l:List Nat} {o:Option Nat},xH b less l o=none→o=none∧ ∀i ∈ l,b i≤0
 | [],o,h=>⟨h,fun i hi=>by cases hi⟩
 | i::l,o,h=>by
  unfold xH at h
  obtain⟨h1,h2⟩:=Ve h
  by_cases c:0 < b i∧Hq less i o=true
  ·rw [if_pos c] at h1;cases h1
  ·rw [if_neg c] at h1
   subst h1
   refine⟨rfl,fun k hk=>?_⟩
   rcases List.mem_cons.1 hk with rfl | hk
   ·simp [Hq] at c;omega
   ·exact h2 k hk
theorem tY {n m:Nat} {s:TS} {b:Nat→Int} {r:Nat} (h:qC n m s b=some r):r < n∧0 < b r:=Vf (fun i hi=>List.mem_range.1 hi) (fun j hj=>by cases hj) h
theorem yX {n m:Nat} {s:TS} {b:Nat→Int} (h:qC n m s b=none): ∀i,i < n→b i≤0:=fun i hi=>(Ve h).2 i (List.mem_range.2 hi)
structure Ok (n m:Nat) (A:lE) (s:TS):Prop where
 tab:Tab n m A (fun j=>(s.bs.getD j 0).toNat) s.T s.den
 len:s.bs.length=n
 nn: ∀j,j < n→0≤s.bs.getD j 0
 lt: ∀j,j < n→(s.bs.getD j 0).toNat+1 < m
section
variable {n m:Nat} (hn:n≤5) {A:lE} (hA:Small n m A) {s:TS} (h:Ok n m A s)
include hn hA h
theorem Ok.abs {i c:Nat} (hi:i < n) (hc:c < m): -1920000000≤s.T i c∧s.T i c≤1920000000:=h.tab.abs hn hA h.lt hi hc
theorem Ok.Cx:0 < s.den∧s.den≤1920000000:=⟨h.tab.pos,h.tab.ahJ hn hA h.lt⟩
theorem Ok.Qj {r v i c:Nat} (hr:r < n) (hv:v+1 < m) (hi:i < n) (hc:c < m): -1920000000≤Hj s.T s.den r v i c∧Hj s.T s.den r v i c≤1920000000:=by
 obtain⟨g,hg,_,_,_,h4⟩:=h.tab.UN (v:=v) hr (by omega) hi hc
 have:=abX hn hA (bs:=Bw (fun j=>(s.bs.getD j 0).toNat) r v) (fun j hj=>by unfold Bw;split;exact hv;exact h.lt j hj) (i:=i) hc
 rw [h4]
 rcases hg with rfl | rfl <;> omega
theorem Ok.aaV {r v i c:Nat} (hr:r < n) (hv:v+1 < m) (hi:i < n) (hc:c < m):Fq s.T s.den r v i c=Hj s.T s.den r v i c:=by
 unfold Fq Hj
 by_cases e:i=r
 ·rw [if_pos e,if_pos e]
 ·rw [if_neg e,if_neg e]
  unfold VI
  have b1:=O2 (h.abs hn hA hi hc) (h.abs hn hA hr (c:=v) (by omega))
  have b2:=O2 (h.abs hn hA hi (c:=v) (by omega)) (h.abs hn hA hr hc)
  have b3:=h.Qj hn hA hr hv hi hc
  unfold Hj at b3
  rw [if_neg e] at b3
  rw [nH (x:=s.T i c*s.T r v) (by omega) (by omega),nH (x:=s.T i v*s.T r c) (by omega) (by omega),nH (x:=s.T i c*s.T r v - s.T i v*s.T r c) (by omega) (by omega)]
  exact nH (by omega) (by omega)
theorem Ok.step {r v:Nat} (hr:r < n) (hv:v+1 < m) (hp:s.T r v≠0):Ok n m A (s.step r v):=by
 have hb:=h.abs hn hA hr (c:=v) (by omega)
 have hset (j:Nat):((s.bs.set r (v:Int)).getD j 0)=if j=r then(v:Int) else s.bs.getD j 0:=by
  have hl:=h.len
  rw [List.getD_eq_getElem?_getD,List.getElem?_set]
  by_cases e:r=j
  ·subst e;rw [if_pos rfl,if_pos (by omega),if_pos rfl];rfl
  ·rw [if_neg e,if_neg (Ne.symm e),List.getD_eq_getElem?_getD]
 have hbs:(fun j=>((s.bs.set r (v:Int)).getD j 0).toNat)=Bw (fun j=>(s.bs.getD j 0).toNat) r v:=by
  funext j
  rw [hset j];unfold Bw
  split <;> simp
 refine⟨?_,by show (s.bs.set r (v:Int)).length=n;rw [List.length_set];exact h.len,fun j hj=>?_,fun j hj=>?_⟩
 ·show Tab n m A (fun j=>((s.bs.set r (v:Int)).getD j 0).toNat) (AJ s.T s.den r v) (Ch s.T r v)
  rw [hbs]
  have e:Ch s.T r v=if s.T r v < 0 then - s.T r v else s.T r v:=by
   unfold Ch
   split
   ·exact nH (by omega) (by omega)
   ·rfl
  rw [e]
  refine h.tab.step hr (by omega) hp (fun i c hi hc=>?_)
  have b:=h.Qj hn hA hr hv hi hc
  unfold AJ
  rw [h.aaV hn hA hr hv hi hc]
  split
  ·exact nH (by omega) (by omega)
  ·rfl
 ·show 0≤(s.bs.set r (v:Int)).getD j 0
  rw [hset j]
  split
  ·omega
  ·exact h.nn j hj
 ·show ((s.bs.set r (v:Int)).getD j 0).toNat+1 < m
  rw [hset j]
  split
  ·simp;exact hv
  ·exact h.lt j hj
end
theorem pY {n:Nat} {M:lE} {cv q:Nat→Int} (hM: ∀i k,i < n→k < n→(M i k).natAbs≤20) (hc: ∀i,i < n→(cv i).natAbs≤20) (hq: ∀i,i < n→(q i).natAbs≤100):Small n (2*n+2) (nD n M cv q):=by
 intro i c hi hcm
 unfold nD
 by_cases e1:c < n
 ·rw [if_pos e1,if_neg (show ¬ c+1=2*n+2 by omega)]
  split <;> decide
 ·rw [if_neg e1]
  by_cases e2:c < 2*n
  ·rw [if_pos e2,if_neg (by omega)]
   have:=hM i (c - n) hi (by omega)
   rw [Int.natAbs_neg];exact this
  ·rw [if_neg e2]
   by_cases e3:c=2*n
   ·rw [if_pos e3,if_neg (by omega)]
    rw [Int.natAbs_neg];exact hc i hi
   ·rw [if_neg e3,if_pos (by omega)]
    exact hq i hi
theorem wF {n:Nat} {M:lE} {cv q:Nat→Int}:Ok n (2*n+2) (nD n M cv q) (first n M cv q):=by
 have g: ∀j,j < n→(pE n).getD j 0=(j:Int):=fun j hj=>by simp [pE,hj]
 refine⟨?_,by simp [first,pE],fun j hj=>?_,fun j hj=>?_⟩
 ·have h:=Tab.first (n:=n) (m:=2*n+2) (A:=nD n M cv q) (fun i j hi hj=>by unfold nD;rw [if_pos hj];by_cases e:i=j <;> simp [e,eq_comm])
  refine⟨Int.one_pos,?_⟩
  obtain⟨s,hs,hd,hT⟩:=h.num
  have e: ∀i j,i < n→j < n→yq (nD n M cv q) (fun j=>((first n M cv q).bs.getD j 0).toNat) i j=yq (nD n M cv q) (fun j=>j) i j:=fun i j hi hj=>by
   unfold yq
   show nD n M cv q i ((pE n).getD j 0).toNat=_
   rw [g j hj];rfl
  refine⟨s,hs,by rw [mX e];exact hd,fun i c hi hc=>?_⟩
  rw [show (first n M cv q).T i c=nD n M cv q i c from rfl,hT i c hi hc]
  unfold cd
  congr 1
  exact mX (fun a b ha hb=>by unfold ot;split;rfl;exact(e a b ha hb).symm)
 ·show 0≤(pE n).getD j 0
  rw [g j hj];omega
 ·show ((pE n).getD j 0).toNat+1 < 2*n+2
  rw [g j hj];simp;omega
end Go.Proofs.YthmfdplckdijdaaGreat.Lt
end
section
namespace Go.Proofs.YthmfdplckdijdaaGreat.Lq
open Go.RowKit Wz.cw Wz.fX Wz.cX Pr Ma Dt Lk Lt
theorem JD {P:Program} {ops:Array Oper} {Q:Exit→Act→World→Prop} {md:Region.Mode} {S:World→Prop} {ds:List Nat} {fuel:Nat} {l:Array Bool} {a a':Act} {w:World} {dst:Option Tmp} {v:Value} (N:Tmp) (h:mw P md ops Q S ds fuel l a' w) (hN:dst=some N:=by rfl) (ha:a.put (some N) v=a':=by(simp only [Act.put,List.setIfInBounds_toArray,List.set_cons_zero,List.set_cons_succ,mT,nr];rfl)):mw P md ops Q S ds fuel l (a.put dst v) w:=by
 subst hN;rw [ha];exact h
structure Out (w w':World) (a b:Nat):Prop where
 os:w'.os=w.os
 tape:w'.tape=w.tape
 output:w'.output=w.output
 size:w.heap.size≤w'.heap.size
 same: ∀k,k < w.heap.size→k < a∨b≤k→w'.heap[k]?=w.heap[k]?
theorem Out.below {w w':World} (h:Below w.heap.size w w') (a b:Nat):Out w w' a b:=⟨h.os,h.tape,h.output,h.size,fun k hk _=>h.block k hk⟩
theorem Out.refl (w:World) (a b:Nat):Out w w a b:=⟨rfl,rfl,rfl,Nat.le_refl _,fun _ _ _=>rfl⟩
theorem Out.drew (w:World) (a b:Nat):Out w w.drew a b:=⟨rfl,rfl,rfl,Nat.le_refl _,fun _ _ _=>rfl⟩
theorem Out.trans {w w1 w2:World} {a b:Nat} (h:Out w w1 a b) (k:Out w1 w2 a b):Out w w2 a b:=
 ⟨k.os.trans h.os,k.tape.trans h.tape,k.output.trans h.output,Nat.le_trans h.size k.size,fun i hi hn=>(k.same i (Nat.lt_of_lt_of_le hi h.size) hn).trans (h.same i hi hn)⟩
theorem Out.set (w:World) {g:Nat} (i:Nat) (u:Value) {a b:Nat} (h:a≤g∧g < b):Out w (w.setCell ⟨g,i,none⟩ u) a b:=
 ⟨rfl,rfl,rfl,by simp,fun k _ hk=>Below.heap_setCell w ⟨g,i,none⟩ u k (by simp;omega)⟩
theorem Out.mono {w w':World} {a b c d:Nat} (h:Out w w' a b) (h1:c≤a) (h2:b≤d):Out w w' c d:=⟨h.os,h.tape,h.output,h.size,fun k hk hn=>h.same k hk (by omega)⟩
theorem Out.blk {w w':World} {a b g:Nat} {o:Obj} (h:Out w w' a b) (hg:w.heap[g]?=some o) (hn:g < a∨b≤g):w'.heap[g]?=some o:=(h.same g (pq hg) hn).trans hg
theorem Out.toBelow {w0 w w':World} {a b:Nat} (h:Out w w' a b) (h0:Below w0.heap.size w0 w) (ha:w0.heap.size≤a):Below w0.heap.size w0 w':=
 h0.trans ⟨h.os,h.tape,h.output,h.size,fun k hk=>h.same k (Nat.lt_of_lt_of_le hk h0.size) (by omega)⟩
theorem Out.cell {w w':World} {a b:Nat} (h:Out w w' a b) {p:Addr} {v:Value} (hp:w.cell? p=some v) (hn:p.block < a∨b≤p.block):w'.cell? p=some v:=by
 have:=World.block_lt_of_cell? w _ hp
 rw [← hp]
 unfold World.cell?
 rw [h.same _ this hn]
theorem Out.VH {w w':World} {a b:Nat} (h:Out w w' a b) {p:Addr} (hl:p.block < w.heap.size) (hn:p.block < a∨b≤p.block):w'.frozen? p=w.frozen? p:=by
 unfold World.frozen?
 rw [h.same _ hl hn]
def BA (M:lE) (r c:Nat) (x:Int):lE:=fun i j=>if i=r∧j=c then x else M i j
structure Tm (w:World) (lo hi t g gb n m cg cb:Nat) (b cp:Nat→Nat) (s:TS):Prop where
 size:hi≤w.heap.size
 tR:lo≤t∧t < hi
 gR:lo≤g∧g < hi
 bR:lo≤gb∧gb < hi
 rR: ∀j,j < n→lo≤b j∧b j < hi
 inj: ∀i j,i < n→j < n→b i=b j→i=j
 ne: ∀j,j < n→b j≠g∧b j≠t∧b j≠gb
 tg:t≠g
 tb:t≠gb
 gg:g≠gb
 cap: ∀j,j < n→m≤cp j
 len:s.bs.length=n
 nc:n≤cg∧n≤cb
 h0:w.cell? ⟨t,0,none⟩=some (.slice (some ⟨g,0,none⟩) n cg)
 h1:w.cell? ⟨t,1,none⟩=some (.int .i64 s.den)∧w.frozen? ⟨t,1,none⟩=false
 h2:w.cell? ⟨t,2,none⟩=some (.slice (some ⟨gb,0,none⟩) n cb)
 h3:w.cell? ⟨t,3,none⟩=some (.int .i64 n)
 og: ∀j,j < n→w.cell? ⟨g,j,none⟩=some (.slice (some ⟨b j,0,none⟩) m (cp j))
 ob: ∀j c,j < n→c < m→w.cell? ⟨b j,c,none⟩=some (.int .i64 (s.T j c))∧w.frozen? ⟨b j,c,none⟩=false
 oq: ∀j,j < n→w.cell? ⟨gb,j,none⟩=some (.int .i64 (s.bs.getD j 0))∧w.frozen? ⟨gb,j,none⟩=false
theorem vk {w:World} {p:Addr} {v:Value} (h:w.cell? p=some v):p.block < w.heap.size:=World.block_lt_of_cell? w _ h
theorem vD {w:World} {p:Addr} {u v:Value} (h:w.cell? p=some u):(w.setCell p v).cell? p=some v:=World.cell?_setCell_same w p v h
theorem qD {w:World} {p q:Addr} {v:Value} (h:p≠q):(w.setCell p v).cell? q=w.cell? q:=World.cell?_setCell_other w p q v h
theorem xT {w:World} {p q:Addr} {v:Value}:(w.setCell p v).frozen? q=w.frozen? q:=World.frozen?_setCell w p q v
theorem q9 {w:World} {g i h j:Nat} {v:Value} (e:g≠h):(w.setCell ⟨g,i,none⟩ v).cell? ⟨h,j,none⟩=w.cell? ⟨h,j,none⟩:=qD (fun q=>e (congrArg Addr.block q))
theorem D8 {w:World} {g i h j:Nat} {v:Value} (e:i≠j):(w.setCell ⟨g,i,none⟩ v).cell? ⟨h,j,none⟩=w.cell? ⟨h,j,none⟩:=qD (fun q=>e (congrArg Addr.off q))
theorem uK (g i j:Nat):(⟨g,i,none⟩:Addr).add j=⟨g,i+j,none⟩:=by unfold Addr.add;split <;> simp_all
def qU (T:lE) (i m:Nat):List Int:=(List.range m).map (T i)
theorem qh (T:lE) (i m:Nat):(qU T i m).length=m:=by simp [qU]
section
variable {w w':World} {lo hi t g gb n m cg cb:Nat} {b cp:Nat→Nat} {s:TS} (h:Tm w lo hi t g gb n m cg cb b cp s)
include h
theorem Tm.mv {x y:Nat} (F:Out w w' x y) (hd:hi≤x∨y≤lo):Tm w' lo hi t g gb n m cg cb b cp s:=by
 have ht:t < x∨y≤t:=by have:=h.tR;omega
 have hg:g < x∨y≤g:=by have:=h.gR;omega
 have hq:gb < x∨y≤gb:=by have:=h.bR;omega
 have hb: ∀j,j < n→b j < x∨y≤b j:=fun j hj=>by have:=h.rR j hj;omega
 have hs:=h.size
 have sz:=F.size
 exact⟨by omega,h.tR,h.gR,h.bR,h.rR,h.inj,h.ne,h.tg,h.tb,h.gg,h.cap,h.len,h.nc,F.cell h.h0 ht,⟨F.cell h.h1.1 ht,(F.VH (vk h.h1.1) ht).trans h.h1.2⟩,F.cell h.h2 ht,F.cell h.h3 ht,
  fun j hj=>F.cell (h.og j hj) hg,fun j c hj hc=>⟨F.cell (h.ob j c hj hc).1 (hb j hj),(F.VH (vk (h.ob j c hj hc).1) (hb j hj)).trans (h.ob j c hj hc).2⟩,
  fun j hj=>⟨F.cell (h.oq j hj).1 hq,(F.VH (vk (h.oq j hj).1) hq).trans (h.oq j hj).2⟩⟩
theorem Tm.tT (hb:Below w.heap.size w w'):Tm w' lo hi t g gb n m cg cb b cp s:=h.mv (Out.below hb 0 0) (.inr (Nat.zero_le _))
theorem Tm.congr {s':TS} (e: ∀i j,i < n→j < m→s.T i j=s'.T i j) (e2:s'.den=s.den) (e3:s'.bs=s.bs):Tm w lo hi t g gb n m cg cb b cp s':=
 ⟨h.size,h.tR,h.gR,h.bR,h.rR,h.inj,h.ne,h.tg,h.tb,h.gg,h.cap,by rw [e3];exact h.len,h.nc,h.h0,by rw [e2];exact h.h1,h.h2,h.h3,h.og,fun j c hj hc=>by rw [← e j c hj hc];exact h.ob j c hj hc,fun j hj=>by rw [e3];exact h.oq j hj⟩
theorem Tm.put {r c:Nat} (hr:r < n) (hc:c < m) (x:Int):Tm (w.setCell ⟨b r,c,none⟩ (.int .i64 x)) lo hi t g gb n m cg cb b cp ⟨BA s.T r c x,s.den,s.bs⟩:=by
 have hn:=h.ne r hr
 refine⟨by simpa using h.size,h.tR,h.gR,h.bR,h.rR,h.inj,h.ne,h.tg,h.tb,h.gg,h.cap,h.len,h.nc,(q9 hn.2.1).trans h.h0,⟨(q9 hn.2.1).trans h.h1.1,xT.trans h.h1.2⟩,(q9 hn.2.1).trans h.h2,(q9 hn.2.1).trans h.h3,fun j hj=>(q9 hn.1).trans (h.og j hj),fun j d hj hd=>⟨?_,xT.trans (h.ob j d hj hd).2⟩,fun j hj=>⟨(q9 hn.2.2).trans (h.oq j hj).1,xT.trans (h.oq j hj).2⟩⟩
 show World.cell? _ _=some (Value.int .i64 (BA s.T r c x j d))
 unfold BA
 by_cases e:j=r∧d=c
 ·obtain⟨rfl,rfl⟩:=e
  rw [if_pos ⟨rfl,rfl⟩]
  exact vD (h.ob j d hj hd).1
 ·rw [if_neg e,qD (fun q=>e ⟨(h.inj r j hr hj (congrArg Addr.block q)).symm,(congrArg Addr.off q).symm⟩)]
  exact(h.ob j d hj hd).1
theorem Tm.adt (x:Int):Tm (w.setCell ⟨t,1,none⟩ (.int .i64 x)) lo hi t g gb n m cg cb b cp ⟨s.T,x,s.bs⟩:=
 ⟨by simpa using h.size,h.tR,h.gR,h.bR,h.rR,h.inj,h.ne,h.tg,h.tb,h.gg,h.cap,h.len,h.nc,(D8 (by decide)).trans h.h0,⟨vD h.h1.1,xT.trans h.h1.2⟩,(D8 (by decide)).trans h.h2,(D8 (by decide)).trans h.h3,fun j hj=>(q9 h.tg).trans (h.og j hj),fun j d hj hd=>⟨(q9 (Ne.symm (h.ne j hj).2.1)).trans (h.ob j d hj hd).1,xT.trans (h.ob j d hj hd).2⟩,fun j hj=>⟨(q9 h.tb).trans (h.oq j hj).1,xT.trans (h.oq j hj).2⟩⟩
theorem Tm.ZQ {r:Nat} (hr:r < n) (x:Int):Tm (w.setCell ⟨gb,r,none⟩ (.int .i64 x)) lo hi t g gb n m cg cb b cp ⟨s.T,s.den,s.bs.set r x⟩:=by
 refine⟨by simpa using h.size,h.tR,h.gR,h.bR,h.rR,h.inj,h.ne,h.tg,h.tb,h.gg,h.cap,by simpa using h.len,h.nc,(q9 (Ne.symm h.tb)).trans h.h0,⟨(q9 (Ne.symm h.tb)).trans h.h1.1,xT.trans h.h1.2⟩,(q9 (Ne.symm h.tb)).trans h.h2,(q9 (Ne.symm h.tb)).trans h.h3,fun j hj=>(q9 (Ne.symm h.gg)).trans (h.og j hj),fun j d hj hd=>⟨(q9 (Ne.symm (h.ne j hj).2.2)).trans (h.ob j d hj hd).1,xT.trans (h.ob j d hj hd).2⟩,fun j hj=>⟨?_,xT.trans (h.oq j hj).2⟩⟩
 show World.cell? _ _=some (Value.int .i64 ((s.bs.set r x).getD j 0))
 rw [List.getD_eq_getElem?_getD,List.getElem?_set]
 by_cases e:r=j
 ·subst e
  rw [if_pos rfl,if_pos (by rw [h.len];exact hr)]
  exact vD (h.oq r hr).1
 ·rw [if_neg e,D8 e,(h.oq j hj).1,List.getD_eq_getElem?_getD]
theorem Tm.C {j:Nat} (hj:j < n) (k:Nat) (hk:k≤m) (hm:m≤1099511627776):Kd.C (Kd.int .i64) w (some ⟨b j,0,none⟩) (qU s.T j k).length (qU s.T j k):=by
 have hl:=qh s.T j k
 refine⟨rfl,by rw [hl];omega,fun _=>⟨_,rfl,fun c p hp=>?_⟩⟩
 have hc:c < k:=by have:=(List.getElem?_eq_some_iff.1 hp).1;omega
 have hpe:p=s.T j c:=by
  rw [qU,List.getElem?_map,List.getElem?_range hc] at hp
  exact(Option.some.inj hp).symm
 subst hpe
 refine⟨[.int .i64 (s.T j c)],rfl,rfl,fun u v hv=>?_⟩
 have hu:u=0:=by cases u with
  | zero=>rfl
  | succ u=>simp at hv
 subst hu
 have hv:Value.int .i64 (s.T j c)=v:=by simpa using hv
 rw [← hv]
 have e:(⟨b j,0,none⟩:Addr).add (c*(Kd.int .i64).sz+0)=⟨b j,c,none⟩:=by
  show (⟨b j,0,none⟩:Addr).add (c*1+0)=_
  rw [Nat.mul_one,Nat.add_zero,uK];try rw [Nat.zero_add]
 rw [e];exact(h.ob j c hj (by omega)).1
end
end Go.Proofs.YthmfdplckdijdaaGreat.Lq
end
section
namespace Go.Proofs.YthmfdplckdijdaaGreat.Lq
open Go.RowKit Wz.cw Wz.fX Wz.cX Pr Ma Dt Lk Lt
theorem afD:(Tryz.prog.info? 3).map (fun i=>(i.zero,i.size,i.bytes))=some (some (.int .i64 0),1,8):=by kernel_rfl
structure Nt (w wr:World) (g6 n:Nat) (u0 u2:Value) (L:List (List Int)) (Q:List Int):Prop where
 below:Below w.heap.size w wr
 g:w.heap.size≤g6
 blk:wr.heap[g6]?=some (.cells #[u0, .int .i64 1,u2, .int .i64 n] 104 (0,0))
 S:Kd.S (Kd.slice 2 (Kd.int .i64)) 24 wr w.heap.size (fun _=>True) u0 L
 R:Kd.R (Kd.int .i64) 3 wr w.heap.size (fun _=>True) u2 Q
structure Nr (w wr:World) (g6 n:Nat) (u0 u2:Value) (L:List (List Int)) (Q:List Int) (v8:Value) (X:List Int):Prop where
 below:Below w.heap.size w wr
 g:w.heap.size≤g6
 blk:wr.heap[g6]?=some (.cells #[u0, .int .i64 1,u2, .int .i64 n] 104 (0,0))
 S:Kd.S (Kd.slice 2 (Kd.int .i64)) 24 wr w.heap.size (fun k=>True∧some k≠v8.ownBlock) u0 L
 R:Kd.R (Kd.int .i64) 3 wr w.heap.size (fun _=>True) u2 Q
 X:Kd.R (Kd.int .i64) 2 wr w.heap.size (fun _=>True) v8 X
section
variable {w wr w1:World} {g6 n:Nat} {u0 u2 v8 v1:Value} {L:List (List Int)} {Q X Y:List Int}
theorem Nt.mv (h:Nt w wr g6 n u0 u2 L Q) (hb:Below wr.heap.size wr w1):Nt w w1 g6 n u0 u2 L Q:=
 ⟨eE h.below hb,h.g,ke h.blk hb,Kd.mQ h.S hb,Kd.oQ h.R hb⟩
theorem Nr.mv (h:Nr w wr g6 n u0 u2 L Q v8 X) (hb:Below wr.heap.size wr w1):Nr w w1 g6 n u0 u2 L Q v8 X:=
 ⟨eE h.below hb,h.g,ke h.blk hb,Kd.mQ h.S hb,Kd.oQ h.R hb,Kd.oQ h.X hb⟩
theorem Nr.new (h:Nt w wr g6 n u0 u2 L Q) (hb:Below wr.heap.size wr w1) (hX:Kd.R (Kd.int .i64) 2 w1 wr.heap.size (fun _=>True) v8 X):Nr w w1 g6 n u0 u2 L Q v8 X:=
 ⟨eE h.below hb,h.g,ke h.blk hb,Kd.tA h.S (Kd.o8 hX) hb,Kd.oQ h.R hb,Kd.ng hX h.below.size⟩
theorem Nr.grow (h:Nr w wr g6 n u0 u2 L Q v8 X) (hb:Below w.heap.size w w1) (hg:wr.grownBy w1 v8.ownBlock) (hat:v1.ownBlock=v8.ownBlock∨ ∃b,v1.ownBlock=some b∧wr.heap.size≤b) (hX:Kd.R (Kd.int .i64) 2 w1 w.heap.size (fun _=>True) v1 Y):Nr w w1 g6 n u0 u2 L Q v1 Y:=
 ⟨hb,h.g,m8 h.blk hg (Kd.pJ h.X h.blk (by decide)),Kd.uL h.S hg hat,Kd.wh h.R (Kd.AB h.X) (by decide) hg,hX⟩
theorem Nr.put {g8 c l:Nat} (h:Nr w wr g6 n u0 u2 L Q (.slice (some ⟨g8,0,none⟩) l c) X) (j:Nat) (x:Int):Nr w (wr.setCell ⟨g8,j,none⟩ (.int .i64 x)) g6 n u0 u2 L Q (.slice (some ⟨g8,0,none⟩) l c) (X.set j x):=by
 have hp:=Kd.zl h.X (j:Int) x
 rw [Int.toNat_natCast] at hp
 exact h.grow (h.below.setCell (Kd.o8 h.X g8 (by simp [Value.ownBlock])) _) hp.2 (.inl rfl) hp.1
theorem aiu (uh:wr.heap[g6]?=some (.cells #[u0, .int .i64 1,u2, .int .i64 n] 104 (0,0))) (j:Nat) (v:Value): ∀k,k≠g6→(wr.setCell ⟨g6,j,none⟩ v).heap[k]?=wr.heap[k]?:=fun k hk=>Below.heap_setCell wr ⟨g6,j,none⟩ v k (by simp;exact hk)
theorem Nt.rows {u:Value} (hb:Below w.heap.size w wr) (hg:w.heap.size≤g6) (uh:wr.heap[g6]?=some (.cells #[u0, .int .i64 1,u2, .int .i64 n] 104 (0,0)))
  (hS:Kd.S (Kd.slice 2 (Kd.int .i64)) 24 wr w.heap.size (fun _=>True) u L) (hR:Kd.R (Kd.int .i64) 3 wr w.heap.size (fun _=>True) u2 Q):Nt w (wr.setCell ⟨g6,0,none⟩ u) g6 n u u2 L Q:=by
 have hst:=aiu uh 0 u
 refine⟨hb.setCell hg _,hg,mD uh 0 u rfl,?_,?_⟩
 ·refine Kd.mB (Kd.zP (Kd.xw hS) (fun k hk hlt=>hst k (fun e=>?_))) (fun _ _=>trivial)
  obtain⟨_,_,_,q,hq,cells,hc⟩:=hk
  rw [e,uh] at hc
  injection hc with hc;injection hc with _ ht _
  subst ht
  revert hq;decide
 ·refine Kd.fY (Kd.Et (Kd.vK hR) (fun k hk hlt=>hst k (fun e=>?_))) (fun _ _=>trivial)
  obtain⟨_,_,_,q,hq,cells,hc⟩:=hk
  rw [e,uh] at hc
  injection hc with hc;injection hc with _ ht _
  subst ht
  revert hq;decide
theorem Nt.basis {u:Value} (hb:Below w.heap.size w wr) (hg:w.heap.size≤g6) (uh:wr.heap[g6]?=some (.cells #[u0, .int .i64 1,u2, .int .i64 n] 104 (0,0)))
  (hS:Kd.S (Kd.slice 2 (Kd.int .i64)) 24 wr w.heap.size (fun _=>True) u0 L) (hR:Kd.R (Kd.int .i64) 3 wr w.heap.size (fun _=>True) u Q):Nt w (wr.setCell ⟨g6,2,none⟩ u) g6 n u0 u L Q:=by
 have hst:=aiu uh 2 u
 refine⟨hb.setCell hg _,hg,mD uh 2 u rfl,?_,?_⟩
 ·refine Kd.mB (Kd.zP (Kd.xw hS) (fun k hk hlt=>hst k (fun e=>?_))) (fun _ _=>trivial)
  obtain⟨_,_,_,q,hq,cells,hc⟩:=hk
  rw [e,uh] at hc
  injection hc with hc;injection hc with _ ht _
  subst ht
  revert hq;decide
 ·refine Kd.fY (Kd.Et (Kd.vK hR) (fun k hk hlt=>hst k (fun e=>?_))) (fun _ _=>trivial)
  obtain⟨_,_,_,q,hq,cells,hc⟩:=hk
  rw [e,uh] at hc
  injection hc with hc;injection hc with _ ht _
  subst ht
  revert hq;decide
end
theorem Gc {α:Type} {d:Kd α} {e e' base:Nat} {ok:Nat→Prop} {W w1:World} {u v:Value} {xs:List α} (h:Kd.S d e W base ok u xs) (hty: ∀k,v.ownBlock=some k→ ∃cells,W.heap[k]?=some (.cells cells e' (0,0))) (ht: ∀q,q ∈ e::d.E→q≠e') (hg:W.grownBy w1 v.ownBlock):Kd.S d e w1 base ok u xs:=
 Kd.mB (Kd.zP (Kd.xw h) (fun k hk hlt=>hg.block k hlt (fun e1=>by
  obtain⟨_,_,_,q,hq,cells,hc⟩:=hk
  obtain⟨cells',hc'⟩:=hty k e1.symm
  rw [hc] at hc'
  injection hc' with h1
  injection h1 with _ h2 _
  exact ht q hq h2))) (fun _ hk=>hk.1)
def m9 (l:List (List Int)):lE:=fun i j=>(l.getD i []).getD j 0
theorem Nt.done {w wr:World} {g6 n m:Nat} {u0 u2:Value} {L:List (List Int)} {Q:List Int} (h:Nt w wr g6 n u0 u2 L Q) (hL:L.length=n) (hQ:Q.length=n) (hn:0 < n) (hm:0 < m) (hr: ∀x ∈ L,x.length=m):
  ∃g gb cg cb b cp,Tm wr w.heap.size wr.heap.size g6 g gb n m cg cb b cp ⟨m9 L,1,Q⟩:=by
 subst hL
 obtain⟨g,cap,hu0,hg0,hg1,cells,hgc⟩:=Kd.IZ h.S hn
 obtain⟨gb,cb,hu2,hq0,hq1,aqK,hqc⟩:=Kd.rX h.R (by omega)
 have hrd:=Kd.qH (hu0 ▸ h.S)
 have hrq:=Kd.lU (hu2 ▸ h.R)
 have uh:=h.blk
 obtain⟨f,h0,hO⟩:=Kd.xw (hu0 ▸ h.S)
 obtain⟨A,c,hv,hc,_,_,Pg⟩:=hO.reads
 injection hv with hA _ _
 subst hA
 rw [List.length_zipIdx] at Pg
 obtain⟨ad,had,hj⟩:=Pg hn
 injection had with had
 subst had
 have key: ∀j, ∃p:Nat × Nat,j < L.length→wr.cell? ⟨g,j,none⟩=some (.slice (some ⟨p.1,0,none⟩) m p.2)∧m≤p.2∧w.heap.size≤p.1∧f p.1=j∧p.1≠g∧(∃cs,wr.heap[p.1]?=some (.cells cs 2 (0,0)))∧ ∀d,d < m→wr.cell? ⟨p.1,d,none⟩=some (.int .i64 (m9 L j d))∧wr.frozen? ⟨p.1,d,none⟩=false:=by
  intro j
  by_cases hjl:j < L.length
  ·obtain⟨cs,hcs,hM,hcell⟩:=hj j (L[j],j) (Kd.Fm (List.getElem?_eq_getElem hjl))
   obtain⟨u,rfl,hR⟩:=(show ∃u,cs= [u]∧Kd.R (Kd.int .i64) 2 wr w.heap.size _ u L[j] from hM)
   have hlen:=hr L[j] (List.getElem_mem hjl)
   obtain⟨bj,cj,rfl,hb1,hb2,ajx,hbc⟩:=Kd.rX hR (by omega)
   have hcj:=(Kd.lU hR).2.1
   have hown:=hR.1 bj (by simp [Value.ownBlock])
   refine⟨(bj,cj),fun _=>⟨?_,by simpa [hlen] using hcj,hb1,hown.2,?_,⟨_,hbc⟩,fun d hd=>?_⟩⟩
   ·have:=hcell 0 _ rfl
    have e:(⟨g,0,none⟩:Addr).add (j*(Kd.tag f (Kd.slice 2 (Kd.int .i64))).sz+0)=⟨g,j,none⟩:=by
     show (⟨g,0,none⟩:Addr).add (j*1+0)=_
     rw [Nat.mul_one,Nat.add_zero,uK];try rw [Nat.zero_add]
    rw [e,hlen] at this
    exact this
   ·intro e
    have e:bj=g:=e
    subst e
    exact hown.1.2 (by simp [Value.ownBlock])
   ·have hat:=Kd.tW 0 hR (d:Int) (by omega) (by omega)
    rw [Int.toNat_natCast] at hat
    have e2:m9 L j d=L[j].getD d 0:=by unfold m9;rw [List.getD_eq_getElem?_getD (l:=L),List.getElem?_eq_getElem hjl];rfl
    rw [e2]
    exact⟨by simpa [Fb] using hat.1,hat.2⟩
  ·exact⟨(0,0),fun hh=>absurd hh hjl⟩
 obtain⟨p,hp2⟩:=Classical.skolem.1 key
 have Jz: ∀ {a c:Nat} {x y:Array Value} {tx ty:TypeId},wr.heap[a]?=some (.cells x tx (0,0))→wr.heap[c]?=some (.cells y ty (0,0))→tx≠ty→a≠c:=by
  intro a c x y tx ty h1 h2 h3 e
  subst e
  rw [h1] at h2
  injection h2 with h2;injection h2 with _ h4 _
  exact h3 h4
 refine⟨g,gb,cap,cb,fun j=>(p j).1,fun j=>(p j).2,Nat.le_refl _,⟨h.g,pq uh⟩,⟨hg0,pq hgc⟩,⟨hq0,pq hqc⟩,fun j hj=>⟨(hp2 j hj).2.2.1,?_⟩,fun i j hi hj e=>?_,fun j hj=>?_,Jz uh hgc (by decide),Jz uh hqc (by decide),Jz hgc hqc (by decide),fun j hj=>(hp2 j hj).2.1,hQ,⟨hrd.2.1,hQ ▸ hrq.2.1⟩,?_,⟨(bp uh 1).trans rfl,gE uh 1⟩,?_,(bp uh 3).trans rfl,fun j hj=>(hp2 j hj).1,fun j d hj hd=>(hp2 j hj).2.2.2.2.2.2 d hd,fun j hj=>?_⟩
 ·obtain⟨cs,hcs⟩:=(hp2 j hj).2.2.2.2.2.1
  exact pq hcs
 ·have h1:=(hp2 i hi).2.2.2.1
  have h2:=(hp2 j hj).2.2.2.1
  rw [← h1, ← h2]
  exact congrArg f e
 ·obtain⟨cs,hcs⟩:=(hp2 j hj).2.2.2.2.2.1
  exact⟨(hp2 j hj).2.2.2.2.1,Jz hcs uh (by decide),Jz hcs hqc (by decide)⟩
 ·rw [← hu0];exact(bp uh 0).trans rfl
 ·rw [← hQ, ← hu2];exact(bp uh 2).trans rfl
 ·have hat:=Kd.tW 0 (hu2 ▸ h.R) (j:Int) (by omega) (by omega)
  rw [Int.toNat_natCast] at hat
  exact⟨by simpa [Fb] using hat.1,hat.2⟩
end Go.Proofs.YthmfdplckdijdaaGreat.Lq
end
section
namespace Go.Proofs.YthmfdplckdijdaaGreat.Lq
open Go.RowKit Wz.cw Wz.fX Wz.cX Pr Ma Dt Lk Lt
theorem JA {w:World} {lo hi t g gb n m cg cb:Nat} {b cp:Nat→Nat} {s:TS} (h:Tm w lo hi t g gb n m cg cb b cp s) (i:Nat) (hin:i < n) (hm:0 < m) (hm2:m≤1000):
  Calls Tryz.prog 106 #[.pointer (some ⟨t,0,none⟩), .int .i64 (i:Int)] w fun e w'=>e= .returned (.int .i64 (s.T i (m - 1)))∧Below w.heap.size w w':=by
 have h':=h.mv (Out.drew w 0 0) (.inr (Nat.zero_le _));have BN:=h'.h0;have VA:=h'.og i hin;have xg:=(h'.ob i (m - 1) hin (by omega)).1;have hiz:(i:Int) < (n:Int):=by omega
 have h0z:(0:Int)≤(i:Int):=by omega
 have hmz:((m - 1:Nat):Int) < (m:Int):=by omega
 have hm0:(0:Int)≤((m - 1:Nat):Int):=by omega
 have hm1:IntKind.i64.wrap ((m:Int) - 1)=((m - 1:Nat):Int):=by rw [IntWalk.i64_in _ (by omega)];omega
 have yR:=q_ (mH (Below.refl w.heap.size w))
 generalize s.T i (m - 1)=x at xg ⊢
 generalize m - 1=q at xg hm1 hmz hm0
 clear h h' hin hm hm2
 go_enter Tryz.func106,Tryz.ntmps106
 go_wp2
 refine qx (n:=19) (S:=fun w'=>w'.cell? ⟨t,0,none⟩=some (.slice (some ⟨g,0,none⟩) n cg)∧w'.cell? ⟨g,i,none⟩=some (.slice (some ⟨b i,0,none⟩) m (cp i))∧w'.cell? ⟨b i,q,none⟩=some (.int .i64 x)) (ds:= []) ⟨BN,VA,xg⟩ (fun hHeld=>?_)
 generalize w.drew=w1 at yR BN VA xg hHeld ⊢
 refine rm 0 5 1 6 2 7 ?_;refine mg 3 8 ?_;refine sU 4 9 5 10 ?_;refine mg 6 11 ?_
 refine rm 7 12 8 13 9 14 ?_;refine mg 10 15 ?_;refine sU 11 16 12 17 ?_;refine mg 13 18 ?_
 refine rm 14 19 15 20 16 21 ?_;refine mg 17 22 ?_;refine lX 18 4 ?_
 refine oA (by kernel_rfl) ?_
 go_wp2
 go_ret
 exact⟨rfl,yR.out⟩
theorem Ru {w:World} {lo hi t g gb n m cg cb:Nat} {b cp:Nat→Nat} {s:TS} (h:Tm w lo hi t g gb n m cg cb b cp s) (i:Nat) (hin:i < n) (hm:n < m) (hm2:m≤1000):
  Calls Tryz.prog 165 #[.pointer (some ⟨t,0,none⟩), .int .i64 (i:Int)] w fun e w'=> ∃v,e= .returned v∧Kd.R (Kd.int .i64) 2 w' w.heap.size (fun _=>True) v (s.T i (m - 1)::qU s.T i n)∧Below w.heap.size w w':=by
 have HB:=q_ (mH (Below.refl w.heap.size w));have H:=q_ h;have HI:=q_ hin;have HM:=q_ hm;have wM:=q_ hm2;have hiz:(i:Int) < (n:Int):=by omega
 have h0z:(0:Int)≤(i:Int):=by omega
 have hnz:(0:Int)≤(n:Int):=by omega
 have hcap:(n:Int)≤(cp i:Int):=by have:=h.cap i hin;omega
 clear h hin hm hm2
 go_enter Tryz.func165,Tryz.ntmps165
 go_wp2
 refine qx (n:=18) (S:=fun w'=>w'.cell? ⟨t,0,none⟩=some (.slice (some ⟨g,0,none⟩) n cg)∧w'.cell? ⟨g,i,none⟩=some (.slice (some ⟨b i,0,none⟩) m (cp i))∧w'.cell? ⟨t,3,none⟩=some (.int .i64 n)) (ds:= []) ⟨(H.out.tT HB.out).h0,(H.out.tT HB.out).og i HI.out,(H.out.tT HB.out).h3⟩ (fun hHeld=>?_)
 generalize w.drew=w1 at HB hHeld ⊢
 refine sU 0 5 1 6 ?_
 refine rm 4 9 5 10 6 11 ?_;refine mg 7 12 ?_;refine sU 8 13 9 14 ?_;refine mg 10 15 ?_
 refine rm 11 16 12 17 13 18 ?_;refine mg 14 19 ?_;refine lX 15 20 ?_
 refine pz 2 (some 7) (fun K hK=>?_)
 refine IE Tryz.func106 #[.pointer (some ⟨t,0,none⟩), .int .i64 (i:Int)] ?_
 refine(JA (H.out.tT HB.out) i HI.out (by have:=HM.out;omega) wM.out).mono ?_
 rintro e w2 ⟨rfl,hb⟩;refine⟨_,rfl,?_⟩
 have AG:=q_ (eE HB.out hb);clear HB hb hHeld;refine hK.out _ _ ⟨(H.out.tT AG.out).h0,(H.out.tT AG.out).og i HI.out,(H.out.tT AG.out).h3⟩ (fun hHeld=>?_)
 clear hK K;refine AU ?_
 obtain⟨x,hx⟩: ∃x,s.T i (m - 1)=x:=⟨_,rfl⟩
 rw [hx];refine pz 3 (some 8) (fun K hK=>?_)
 refine Kd.Dx (Kd.int .i64) w.heap.size 2 (by rfl) (N:=8) rfl (xs:= [x]) (inner:= [.int .i64 x]) (ok:=fun _=>True) (oC:=fun _=>True) (by first | (go_simp;done) | (go_simp;rfl)) (mV.one (show Kd.M (Kd.int .i64) _ _ _ x [.int .i64 x] from rfl) (mV.none _ _)) (fun _ h=>h) trivial AG.out AG.out.size (by simp) ?_
 intro v w3 ho hb hg hat;have q4:=q_ hb;have HO:=q_ ho;clear AG ho hb hg hat hHeld;refine hK.out _ _ ⟨(H.out.tT q4.out).h0,(H.out.tT q4.out).og i HI.out,(H.out.tT q4.out).h3⟩ (fun hHeld=>?_)
 clear hK K;refine JD 8 ?_
 refine pz 16 (some 21) (fun K hK=>?_)
 refine Kd.I3 (Kd.int .i64) (w0:=w) w.heap.size (by rfl) (.tmp 8) (.tmp 20) 24 2 (.int .i64 0) 8 rfl Tryz.underlying24 q6 rfl (by decide) (by omega) v [x] (qU s.T i n) _ _ _ (fun _=>True) (fun _=>False) rfl rfl HO.out ?aR (fun _ _ h=>h) (fun _ h=>h.elim) (fun _ _=>trivial) q4.out q4.out.size ?aL ?_
 case aR=>have hC:=(H.out.tT q4.out).C HI.out n (by have:=HM.out;omega) (by have:=wM.out;omega);rw [qh] at hC;exact hC
 case aL=>have:=HM.out;have:=wM.out;simp;omega
 intro v4 w4 ho hb hg hat;have JO:=q_ hb;have aa:=q_ ho;clear HO q4 ho hb hg hat hHeld;refine hK.out _ _ ⟨(H.out.tT JO.out).h0,(H.out.tT JO.out).og i HI.out,(H.out.tT JO.out).h3⟩ (fun hHeld=>?_)
 clear hK K;refine JD 21 ?_
 refine lX 17 4 ?_
 refine oA (by kernel_rfl) ?_
 go_wp2
 go_ret
 exact⟨_,rfl,by rw [hx];exact aa.out,JO.out⟩
end Go.Proofs.YthmfdplckdijdaaGreat.Lq
end
section
namespace Go.Proofs.YthmfdplckdijdaaGreat.Lq
open Go.RowKit Wz.cw Wz.fX Wz.cX Pr
def Ea (c:Int→Int→Int):List (Int × Int)→Int
 | []=>0
 | x::l=>if c x.1 x.2=0 then Ea c l else c x.1 x.2
theorem V5 (c:Int→Int→Int): ∀(l:List (Int × Int)) (j:Nat) (hj:j < l.length),(∀i (hi:i < l.length),i < j→c l[i].1 l[i].2=0)→c l[j].1 l[j].2≠0→Ea c l=c l[j].1 l[j].2
 | [],j,hj,_,_=>absurd hj (Nat.not_lt_zero _)
 | x::l,0,_,_,h=>by simp at h;simp [Ea,h]
 | x::l,j+1,hj,h0,h=>by
  have:=h0 0 (by simp) (by omega)
  simp at this
  rw [Ea,if_pos this]
  simpa using V5 c l j (by simpa using hj) (fun i hi hij=>by have:=h0 (i+1) (by simpa using hi) (by omega);simpa using this) (by simpa using h)
theorem RF (c:Int→Int→Int): ∀(l:List (Int × Int)),(∀i (hi:i < l.length),c l[i].1 l[i].2=0)→Ea c l=0
 | [],_=>rfl
 | x::l,h=>by
  have:=h 0 (by simp)
  simp at this
  rw [Ea,if_pos this]
  exact RF c l (fun i hi=>by have:=h (i+1) (by simpa using hi);simpa using this)
def aks (g:Nat) (lb:Array Value) (c:Int→Int→Int) (w:World):Prop:=
 ∀(W:World) (x y:Int),Below w.heap.size w W→Calls Tryz.prog g (#[.int .i64 x, .int .i64 y]++lb) W fun e w'=>e= .returned (.int .i64 (c x y))∧Below W.heap.size W w'
theorem XY (c:Int→Int→Int) (g:Nat) (lb:Array Value) (eg: ∀args w,(callFunc g args).run Tryz.prog w= .ok (.enter g args) w) (A1 A2:Option Addr) (c1 c2:Nat) (l1 l2:List Int) (w:World) (hl:l2.length=l1.length)
  (hr1:Kd.C (Kd.int .i64) w A1 l1.length l1) (hr2:Kd.C (Kd.int .i64) w A2 l2.length l2) (hp:aks g lb c w):
  Calls Tryz.prog 164 #[.slice A1 l1.length c1, .slice A2 l2.length c2, .func (.func g) #[] lb] w fun e w'=>e= .returned (.int .i64 (Ea c (l1.zip l2)))∧Below w.heap.size w w':=by
 have pR:=q_ hr1;have Bm:=q_ hr2;have HP:=q_ hp;have HL:=q_ hl;have ael:l1.length≤9223372036854775807:=hr1.2.1;have hz:(l1.zip l2).length=l1.length:=by rw [List.length_zip,hl,Nat.min_self]
 have HZ:=q_ hz;have hz2:(l2.length:Int)=(l1.length:Int):=by rw [hl]
 clear hr1 hr2 hp hl hz
 go_enter Tryz.func164,Tryz.ntmps164
 go_wp2
 go_loopg [7,8,9,10,13] l1.length (fun gg _ _ _ _ s13 wr=> ∃kk:Nat,kk≤l1.length∧l1.length - kk≤gg∧s13= .int .i64 kk∧aE (Below w.heap.size w wr)∧aE (∀j (hj:j < (l1.zip l2).length),j < kk→c (l1.zip l2)[j].1 (l1.zip l2)[j].2=0))
 case atStart=>exact⟨0,Nat.zero_le _,by omega,rfl,⟨Below.refl _ w⟩,⟨fun j _ hj=>absurd hj (Nat.not_lt_zero _)⟩⟩
 case round=>
  obtain⟨kk,hkk,hg,rfl,BW,F⟩:=hrel
  by_cases hlt:kk < l1.length
  ·obtain⟨aa,e1,hx1⟩:=Kd.mA pR.out kk (by omega) (by omega);obtain⟨ae,e2,hx2⟩:=Kd.mA Bm.out kk (by omega) (by have:=HL.out;omega);cases e1;cases e2
   rw [Int.toNat_natCast] at hx1 hx2;have hy1:=bc_ BW.out hx1;have hy2:=bc_ BW.out hx2;have ai0:kk < l2.length:=by have:=HL.out;omega
   have ai8:rd l1 (kk:Int)=((l1.zip l2)[kk]'(by have:=HZ.out;omega)).1:=by simp [rd,hlt]
   have ai7:rd l2 (kk:Int)=((l1.zip l2)[kk]'(by have:=HZ.out;omega)).2:=by simp [rd,ai0]
   rw [ai8] at hy1;rw [ai7] at hy2;clear hx1 hx2 ai8 ai7 ai0;obtain⟨x,hx⟩: ∃x,((l1.zip l2)[kk]'(by have:=HZ.out;omega)).1=x:=⟨_,rfl⟩
   obtain⟨y,hy⟩: ∃y,((l1.zip l2)[kk]'(by have:=HZ.out;omega)).2=y:=⟨_,rfl⟩
   rw [hx] at hy1;rw [hy] at hy2;have hcall:=HP.out wr x y BW.out;have HX:=q_ hx;have HY:=q_ hy;have pZ:(kk:Int) < (l1.length:Int):=by omega
   have h0z:(0:Int)≤(kk:Int):=by omega
   have hw:IntKind.i64.wrap ((kk:Int)+1)=((kk+1:Nat):Int):=by rw [IntWalk.i64_in _ (by omega)];rfl
   clear hx hy;obtain⟨q,hq⟩: ∃q,c x y=q:=⟨_,rfl⟩
   rw [hq] at hcall
   by_cases hz:q=0
   ·subst hz;have HQ:=q_ hq;clear hq
    go_wp2_with fail
    refine hcall.mono ?_
    rintro e w' ⟨rfl,hb'⟩;clear hcall;go_wp2
    go_roundg (l1.length - (kk+1))
    case measure=>omega
    case rel=>
     refine⟨kk+1,by omega,by omega,by first | rfl | simp [hw],⟨Below.trans BW.out (hb'.mono BW.out.size)⟩,⟨fun j hj hjk=>?_⟩⟩
     by_cases e:j=kk
     ·subst e;rw [HX.out,HY.out];exact HQ.out
     ·exact F.out j hj (by omega)
   ·have HQ:=q_ hq;have hqd:decide (q=0)=false:=decide_eq_false hz;clear hq
    go_wp2_with fail
    refine hcall.mono ?_
    rintro e w' ⟨rfl,hb'⟩;clear hcall;go_wp2
    go_ret
    refine⟨?_,Below.trans BW.out (hb'.mono BW.out.size)⟩
    rw [V5 c _ kk (by have:=HZ.out;omega) F.out (by rw [HX.out,HY.out,HQ.out];exact hz),HX.out,HY.out,HQ.out]
    rfl
  ·have pZ: ¬ (kk:Int) < (l1.length:Int):=by omega
   obtain rfl:kk=l1.length:=by omega
   go_wp2
   go_ret
   refine⟨?_,BW.out⟩
   rw [RF c _ (fun i hi=>F.out i hi (by have:=HZ.out;omega))]
   rfl
end Go.Proofs.YthmfdplckdijdaaGreat.Lq
end
section
namespace Go.Proofs.YthmfdplckdijdaaGreat.Pr
open Go.RowKit Wz.cw Wz.fX Wz.cX
attribute [local go_sem] nV nT oF oD nC nB nU nS
def oZ.f (a0:Int) (a1:Int) (a2:Int):Option (Bool):=if a0 ≥ a1 then(some (decide (a0≤a2))) else(some false)
theorem oZ.calls (a0:Int) (a1:Int) (a2:Int) (r:Bool) (w:World) (h:oZ.f a0 a1 a2=some r):
  Calls Tryz.prog 39 #[.int .i64 a0, .int .i64 a1, .int .i64 a2] w fun e w'=>e= .returned (.bool r)∧lP w w':=by
 have H:(if a0 ≥ a1 then(some (decide (a0≤a2))) else(some false))=some r:=h;clear h
 by_cases c4:a0 ≥ a1
 ·rw [if_pos c4] at H;have qv:=decide_eq_true c4;clear c4;obtain rfl:=Option.some.inj H
  go_enter Tryz.func39,Tryz.ntmps39
  go_wp2
  go_ret
  exact⟨by first | rfl | (simp;done) | (simp [*];done),by repeat (first | exact lP.refl _ | apply lP.step)⟩
 ·rw [if_neg c4] at H;have qv:=decide_eq_false c4;clear c4;obtain rfl:=Option.some.inj H
  go_enter Tryz.func39,Tryz.ntmps39
  go_wp2
  go_ret
  exact⟨by first | rfl | (simp;done) | (simp [*];done),by repeat (first | exact lP.refl _ | apply lP.step)⟩
def wC.f (a0:Int) (a1:Int):Option (Bool):=if 0≤a1 then(some ((Go.bits .and .i64 (shr .i64 a0 a1) 1)==1)) else(none)
theorem wC.calls (a0:Int) (a1:Int) (r:Bool) (w:World) (h:wC.f a0 a1=some r):
  Calls Tryz.prog 53 #[.int .i64 a0, .int .i64 a1] w fun e w'=>e= .returned (.bool r)∧lP w w':=by
 have H:(if 0≤a1 then(some ((Go.bits .and .i64 (shr .i64 a0 a1) 1)==1)) else(none))=some r:=h;clear h
 by_cases c3:0≤a1
 ·rw [if_pos c3] at H;have qP:=eq_true c3;have vV:=decide_eq_true c3;clear c3;obtain⟨Yv,Fe⟩: ∃j_:Int,(shr .i64 a0 a1)=j_:=⟨_,rfl⟩
  replace H:(some ((Go.bits .and .i64 (Yv) 1)==1))=some r:=by first | (rw [Fe] at H;exact H) | (simp only [Fe] at H ⊢;exact H)
  have ak3:(a0 / 2 ^ min a1.toNat 64)=Yv:=Fe;have arR:a1≤64→(a0 / 2 ^ a1.toNat)=Yv:=aaZ Fe;obtain rfl:=Option.some.inj H
  go_enter Tryz.func53,Tryz.ntmps53
  go_wp2
  go_ret
  exact⟨by first | rfl | (simp;done) | (simp only [← Fe] <;> (first | rfl | simp)) | (simp [*];done),by repeat (first | exact lP.refl _ | apply lP.step)⟩
 ·rw [if_neg c3] at H;exact absurd H (by simp)
def qR.f (l0:List Int):Option (List Int):=(some (([]:List Int):List Int)).bind fun aa=>(if aa.length+l0.length < 17592186044416 then(some (aa++l0)) else(none))
theorem qR.calls (A0:Option Addr) (c0:Nat) (l0:List Int) (r:List Int) (w:World) (hr0:Kd.C (Kd.int .i64) w A0 l0.length l0) (hc0:l0.length≤c0) (h:qR.f l0=some r):
  Calls Tryz.prog 137 #[.slice A0 l0.length c0] w fun e w'=> ∃qg:Value,e= .returned (qg)∧Kd.R (Kd.int .i64) 2 w' w.heap.size (fun _=>True) qg r∧Below w.heap.size w w':=by
 have qE:=q_ hr0;have uG:=q_ hc0;clear hr0 hc0;have HB:=q_ (Below.refl w.heap.size w);have H:((some (([]:List Int):List Int)).bind fun aa=>(if aa.length+l0.length < 17592186044416 then(some (aa++l0)) else(none)))=some r:=h;clear h;obtain⟨aa,hy⟩: ∃y_:List Int,y_=(([]:List Int)):=⟨_,rfl⟩
 replace H:(if aa.length+l0.length < 17592186044416 then(some (aa++l0)) else(none))=some r:=hh_;have ae:=q_ hy;clear hy
 by_cases c2:aa.length+l0.length < 17592186044416
 ·rw [if_pos c2] at H;have ai:=q_ c2;clear c2;obtain⟨aj,hy⟩: ∃y_:List Int,y_=(aa++l0):=⟨_,rfl⟩
  replace H:(some aj)=some r:=hh_;have ag:=q_ hy;clear hy;obtain rfl:=Option.some.inj H
  go_enter Tryz.func137,Tryz.ntmps137
  go_wp2_with (first | ((with_reducible refine dg (N:=3) rfl ?_);refine Kd.tu (Kd.int .i64) _ 2 ?hg (N:=3) ?hd (xs:=([]:List Int)) (inner:= []) (ok:=fun _=>True) (oC:=fun _=>True) ?hr ?hp (fun _ hk=>hk) trivial (Below.refl _ _) (Nat.le_refl _) (by simp) ?_;(case hd=>rfl);(case hg=>rfl);(case hr=>first | (go_simp;done) | (go_simp;rfl));(case hp=>exact(mV.none _ _));intro ak w3 ho4 hb hg_ om;clear hg_ om;(first | rw [← ae.out] at ho4 | (simp only [Int.reduceToNat] at ho4;rw [← ae.out] at ho4));have af:=q_ (Kd.ng ho4 oI);replace HB:=lT hb;clear hb ho4) | ((with_reducible refine nL (b:= .append) (xs:= #[.tmp 3, .tmp 4]) rfl ?_);at_builtin;refine Kd.Sn (Kd.int .i64) (w0:=w) w.heap.size rfl (.tmp 3) (.tmp 4) 24 2 (.int .i64 0) 8 rfl Tryz.underlying24 q6 rfl (by decide) (by omega) ak aa l0 _ _ _ (fun _=>True) (fun _=>False) rfl rfl ?aO ?aR (fun _ _ h=>h) (fun _ h=>h.elim) ?aF ?aB ?aS ?aL ?_;(case aR=>exact ni qE.out HB.out);(case aB=>exact hb_);(case aF=>exact(fun _ _=>trivial));(case aO=>exact(m5 af.out));(case aS=>exact oI);(case aL=>have:=ai.out;omega);intro aq w5 ho hb hg hat;rw [← ag.out] at ho;replace HB:=q_ (hb);have ah:=q_ (ho);clear af ho hb hg hat))
  go_ret
  exact⟨_,pH,m5 ah.out,hb_⟩
 ·rw [if_neg c2] at H;exact absurd H (by simp)
def Cr.f (a0:Int):Option (Int):=if a0 < 0 then(some (-1)) else(if a0 > 0 then(some 1) else(some 0))
theorem Cr.calls (a0:Int) (r:Int) (w:World) (h:Cr.f a0=some r):
  Calls Tryz.prog 135 #[.int .i64 a0] w fun e w'=>e= .returned (.int .i64 r)∧lP w w':=by
 have H:(if a0 < 0 then(some (-1)) else(if a0 > 0 then(some 1) else(some 0)))=some r:=h;clear h
 by_cases c2:a0 < 0
 ·rw [if_pos c2] at H;have Wc:=decide_eq_true c2;clear c2;obtain rfl:=Option.some.inj H
  go_enter Tryz.func135,Tryz.ntmps135
  go_wp2
  go_ret
  exact⟨by first | rfl | (simp;done) | (simp [*];done),by repeat (first | exact lP.refl _ | apply lP.step)⟩
 ·rw [if_neg c2] at H;have Wc:=decide_eq_false c2;clear c2
  by_cases c3:a0 > 0
  ·rw [if_pos c3] at H;have qP:=decide_eq_true c3;clear c3;obtain rfl:=Option.some.inj H
   go_enter Tryz.func135,Tryz.ntmps135
   go_wp2
   go_ret
   exact⟨by first | rfl | (simp;done) | (simp [*];done),by repeat (first | exact lP.refl _ | apply lP.step)⟩
  ·rw [if_neg c3] at H;have qP:=decide_eq_false c3;clear c3;obtain rfl:=Option.some.inj H
   go_enter Tryz.func135,Tryz.ntmps135
   go_wp2
   go_ret
   exact⟨by first | rfl | (simp;done) | (simp [*];done),by repeat (first | exact lP.refl _ | apply lP.step)⟩
def qV.f (a0:Int):Option (Int):=some (mx a0 (wrap64 (-a0)))
theorem qV.calls (a0:Int) (r:Int) (w:World) (h:qV.f a0=some r):
  Calls Tryz.prog 136 #[.int .i64 a0] w fun e w'=>e= .returned (.int .i64 r)∧Below w.heap.size w w':=by
 have HB:=q_ (Below.refl w.heap.size w);have H:(some (mx a0 (wrap64 (-a0))))=some r:=h;clear h;obtain⟨ji2,Z8⟩: ∃j_:Int,(mx a0 (wrap64 (-a0)))=j_:=⟨_,rfl⟩
 replace H:(some ji2)=some r:=by first | (rw [Z8] at H;exact H) | (simp only [Z8] at H ⊢;exact H)
 have arS:(if a0 < (wrap64 (-a0)) then(wrap64 (-a0)) else a0)=ji2:=Z8;obtain rfl:=Option.some.inj H
 go_enter Tryz.func136,Tryz.ntmps136
 go_wp2
 go_ret
 exact⟨by first | rfl | (simp [qY,qX] <;> rfl) | (simp only [← Z8];first | rfl | (simp [qY,qX] <;> rfl)) | (simp [*,qY,qX] <;> rfl),hb_⟩
def BD.f (l0:List Int):Option (Bool):=some (decide ((l0.length:Int) > 4096))
theorem BD.calls (A0:Option Addr) (c0:Nat) (l0:List Int) (r:Bool) (w:World) (hr0:Kd.C (Kd.int .u8) w A0 l0.length l0) (hc0:l0.length≤c0) (h:BD.f l0=some r):
  Calls Tryz.prog 5 #[.slice A0 l0.length c0] w fun e w'=>e= .returned (.bool r)∧lP w w':=by
 have qE:=q_ hr0;have uG:=q_ hc0;clear hr0 hc0;have H:(some (decide ((l0.length:Int) > 4096)))=some r:=h;clear h;obtain rfl:=Option.some.inj H
 go_enter Tryz.func5,Tryz.ntmps5
 go_wp2
 go_ret
 exact⟨by first | rfl | (simp;done) | (simp [*];done),by repeat (first | exact lP.refl _ | apply lP.step)⟩
end Go.Proofs.YthmfdplckdijdaaGreat.Pr
end
section
namespace Go.Proofs.YthmfdplckdijdaaGreat.Lq
open Go.RowKit Wz.cw Wz.fX Wz.cX Pr Ma Dt Lk Lt
def sgI (x:Int):Int:=if x < 0 then -1 else if x > 0 then 1 else 0
theorem sign_eq (x:Int):Cr.f x=some (sgI x):=by unfold Cr.f sgI;split;rfl;split <;> rfl
def lc (y x:Int) (p q:Int):Int:=sgI (wrap64 (wrap64 (p*y) - wrap64 (q*x)))
theorem akY (p9 p7:Nat) (y x:Int) (p q:Int) (w:World) (h9:w.cell? ⟨p9,0,none⟩=some (.int .i64 y)) (h7:w.cell? ⟨p7,0,none⟩=some (.int .i64 x)):
  Calls Tryz.prog 166 (#[.int .i64 p, .int .i64 q]++ #[.pointer (some ⟨p9,0,none⟩), .pointer (some ⟨p7,0,none⟩)]) w fun e w'=>e= .returned (.int .i64 (lc y x p q))∧Below w.heap.size w w':=by
 show Calls Tryz.prog 166 #[.int .i64 p, .int .i64 q, .pointer (some ⟨p9,0,none⟩), .pointer (some ⟨p7,0,none⟩)] w _
 go_enter Tryz.func166,Tryz.ntmps166
 go_wp2_with fail
 refine(Cr.calls _ _ _ (sign_eq _)).mono ?_
 rintro e w' ⟨rfl,hb⟩;go_wp2
 go_ret
 exact⟨rfl,hb.below⟩
theorem Vg: ∀args w,(callFunc 166 args).run Tryz.prog w= .ok (.enter 166 args) w:=vB Tryz.func166 (by kernel_rfl) rfl
def Rw (T:lE) (n m i k:Nat) (x y:Int):Bool:=decide (Ea (lc y x) ((T i (m - 1)::qU T i n).zip (T k (m - 1)::qU T k n)) < 0)
theorem Vm {w:World} {lo hi t g gb n m cg cb:Nat} {b cp:Nat→Nat} {s:TS} (h:Tm w lo hi t g gb n m cg cb b cp s) (i k:Nat) (x y:Int) (hi':i < n) (hk:k < n) (hm:n < m) (hm2:m≤1000):
  Calls Tryz.prog 156 #[.pointer (some ⟨t,0,none⟩), .int .i64 (i:Int), .int .i64 x, .int .i64 (k:Int), .int .i64 y] w fun e w'=>e= .returned (.bool (Rw s.T n m i k x y))∧Below w.heap.size w w':=by
 have HB:=q_ (Below.refl w.heap.size w);have H:=q_ h;have HI:=q_ hi';have HK:=q_ hk;have HM:=q_ hm;have wM:=q_ hm2;obtain⟨V,hV⟩: ∃V,Rw s.T n m i k x y=V:=⟨_,rfl⟩
 rw [hV];have HV:=q_ hV;clear h hi' hk hm hm2 hV
 go_enter Tryz.func156,Tryz.ntmps156
 go_wp2_with (first | ((with_reducible refine dg (N:=7) rfl ?_);refine nR 7 #[.int .i64 x] 2 ?_;intro g7 hg w7 cM hb;replace HB:=q_ (eE HB.out hb);have B7:=q_ cM;clear hb cM hg) | ((with_reducible refine dg (N:=9) rfl ?_);refine nR 9 #[.int .i64 y] 2 ?_;intro g9 hg w9 cM hb;replace HB:=q_ (eE HB.out hb);replace B7:=q_ (ke B7.out hb);have B9:=q_ cM;clear hb cM hg))
 refine(Ru (H.out.tT HB.out) i HI.out HM.out wM.out).mono ?_
 rintro e w1 ⟨v1,rfl,hR1,hb⟩;replace HB:=q_ (eE HB.out hb);replace B7:=q_ (ke B7.out hb);replace B9:=q_ (ke B9.out hb);obtain⟨l1,hl1⟩: ∃l,s.T i (m - 1)::qU s.T i n=l:=⟨_,rfl⟩
 rw [hl1] at hR1;obtain⟨A1,c1,rfl⟩:=Kd.mE hR1;have R1:=q_ (Kd.lU hR1).2.2;have L1:=q_ hl1;clear hR1 hb hl1
 go_wp2_with fail
 refine(Ru (H.out.tT HB.out) k HK.out HM.out wM.out).mono ?_
 rintro e w2 ⟨v2,rfl,hR2,hb⟩;replace HB:=q_ (eE HB.out hb);replace B7:=q_ (ke B7.out hb);replace B9:=q_ (ke B9.out hb);replace R1:=q_ (Kd.nW R1.out hb);obtain⟨l2,hl2⟩: ∃l,s.T k (m - 1)::qU s.T k n=l:=⟨_,rfl⟩
 rw [hl2] at hR2;obtain⟨A2,c2,rfl⟩:=Kd.mE hR2;have R2:=q_ (Kd.lU hR2).2.2;have L2:=q_ hl2;clear hR2 hb hl2
 go_wp2_with fail
 refine(XY (lc y x) 166 #[.pointer (some ⟨g9,0,none⟩), .pointer (some ⟨g7,0,none⟩)] Vg A1 A2 c1 c2 l1 l2 w2 (by rw [← L1.out, ← L2.out];simp [qh]) R1.out R2.out (fun W p q hb=>akY g9 g7 y x p q W ((bp (ke B9.out hb) 0).trans rfl) ((bp (ke B7.out hb) 0).trans rfl))).mono ?_
 rintro e w3 ⟨rfl,hb⟩;replace HB:=q_ (eE HB.out hb);clear hb;obtain⟨q,hq⟩: ∃q,Ea (lc y x) (l1.zip l2)=q:=⟨_,rfl⟩
 rw [hq];go_wp2
 go_ret
 refine⟨?_,HB.out⟩
 rw [← HV.out];unfold Rw;rw [L1.out,L2.out,hq]
 rfl
end Go.Proofs.YthmfdplckdijdaaGreat.Lq
end
section
namespace Go.Proofs.YthmfdplckdijdaaGreat.Lq
open Go.RowKit Wz.cw Wz.fX Wz.cX Pr Ma Dt Lk Lt
def aoo (g:Nat) (lb:Array Value) (b:Nat→Int) (w:World) (n:Nat):Prop:=
 ∀(W:World) (i:Nat),i < n→Below w.heap.size w W→Calls Tryz.prog g (#[.int .i64 (i:Int)]++lb) W fun e w'=>e= .returned (.int .i64 (b i))∧Below W.heap.size W w'
def KY:Option Nat→Int
 | none=> -1
 | some r=>(r:Int)
def AK (T:lE) (n m:Nat) (bf:Nat→Int) (k:Nat):Option Nat:=xH bf (fun i j=>Rw T n m i j (bf i) (bf j)) (List.range k) none
theorem ag8 (bf:Nat→Int) (less:Nat→Nat→Bool) (l l':List Nat) (o:Option Nat):xH bf less (l++l') o=xH bf less l' (xH bf less l o):=by
 induction l generalizing o with
 | nil=>rfl
 | cons x l ih=>simp only [List.cons_append,xH];exact ih _
theorem EX (T:lE) (n m:Nat) (bf:Nat→Int) (k:Nat):AK T n m bf (k+1)=if 0 < bf k∧Hq (fun i j=>Rw T n m i j (bf i) (bf j)) k (AK T n m bf k)=true then some k else AK T n m bf k:=by
 unfold AK
 rw [List.range_succ,ag8]
 rfl
theorem agU {T:lE} {n m:Nat} {bf:Nat→Int} {k r:Nat} (h:AK T n m bf k=some r):r < k∧0 < bf r:=Vf (fun i hi=>List.mem_range.1 hi) (fun j hj=>by cases hj) h
theorem JG {w:World} {lo hi t g gb n m cg cb:Nat} {b cp:Nat→Nat} {s:TS} (h:Tm w lo hi t g gb n m cg cb b cp s) (gf:Nat) (lb:Array Value) (bf:Nat→Int) (eg: ∀args w,(callFunc gf args).run Tryz.prog w= .ok (.enter gf args) w) (hp:aoo gf lb bf w n) (hn:n≤1000) (hm:n < m) (hm2:m≤1000):
  Calls Tryz.prog 123 #[.pointer (some ⟨t,0,none⟩), .func (.func gf) #[] lb] w fun e w'=>e= .returned (.int .i64 (KY (AK s.T n m bf n)))∧Below w.heap.size w w':=by
 have HB:=q_ (Below.refl w.heap.size w);have H:=q_ h;have HP:=q_ hp;have HN:=q_ hn;have HM:=q_ hm;have wM:=q_ hm2;have BN:=h.h0;clear h hp hm hm2 hn
 go_enter Tryz.func123,Tryz.ntmps123
 go_wp2
 clear BN HB
 go_loopg [5,6,12] n (fun gg v5 _ Di wr=> ∃kk:Nat,kk≤n∧n - kk≤gg∧Di= .int .i64 (kk:Int)∧v5= .int .i64 (KY (AK s.T n m bf kk))∧aE (Below w.heap.size w wr))
 case atStart=>exact⟨0,Nat.zero_le _,by omega,rfl,rfl,⟨Below.refl _ w⟩⟩
 case round=>
  obtain⟨kk,hkk,hg,rfl,rfl,HB⟩:=hrel;have HG:=q_ hg
  by_cases hlt:kk < n
  ·have pZ:(kk:Int) < (n:Int):=by omega
   have hw:IntKind.i64.wrap ((kk:Int)+1)=((kk+1:Nat):Int):=by rw [IntWalk.i64_in _ (by have:=HN.out;omega)];rfl
   have mG:=q_ hlt;obtain⟨o,ho⟩: ∃o,AK s.T n m bf kk=o:=⟨_,rfl⟩
   have HO:=q_ ho;rw [ho];obtain⟨x,hx⟩: ∃x,bf kk=x:=⟨_,rfl⟩
   have HX:=q_ hx;have hcall: ∀W,Below w.heap.size w W→Calls Tryz.prog gf (#[.int .i64 (kk:Int)]++lb) W fun e w'=>e= .returned (.int .i64 x)∧Below W.heap.size W w':=fun W hb=>by rw [← HX.out];exact HP.out W kk mG.out hb
   have HC:=q_ hcall;clear ho hx hcall hg hkk hlt
   by_cases hx0:0 < x
   ·cases o with
    | none=>
     go_wp2_with fail
     refine(HC.out wr HB.out).mono ?_
     rintro e w1 ⟨rfl,hb⟩;replace HB:=q_ (eE HB.out hb);clear hb;go_wp2
     go_roundg (n - (kk+1))
     case measure=>have:=HG.out;omega
     case rel=>
      refine⟨kk+1,by omega,by omega,by first | rfl | simp [hw],?_,HB⟩
      rw [EX,HO.out,HX.out,if_pos ⟨hx0,rfl⟩];rfl
    | some j=>
     have hj:=agU HO.out;have HJ:=q_ hj;have hj0: ¬ (j:Int) < 0:=by omega
     obtain⟨y,hy⟩: ∃y,bf j=y:=⟨_,rfl⟩
     have HY:=q_ hy;have hcall: ∀W,Below w.heap.size w W→Calls Tryz.prog gf (#[.int .i64 (j:Int)]++lb) W fun e w'=>e= .returned (.int .i64 y)∧Below W.heap.size W w':=fun W hb=>by rw [← HY.out];exact HP.out W j (by have:=HJ.out.1;have:=mG.out;omega) hb
     have wv:=q_ hcall;obtain⟨z,hz⟩: ∃z,Rw s.T n m kk j x y=z:=⟨_,rfl⟩
     have HZ:=q_ hz;clear hj hy hcall hz;simp only [KY]
     go_wp2_with fail
     refine(HC.out wr HB.out).mono ?_
     rintro e w1 ⟨rfl,hb⟩;replace HB:=q_ (eE HB.out hb);clear hb
     go_wp2_with fail
     refine(HC.out w1 HB.out).mono ?_
     rintro e w2 ⟨rfl,hb⟩;replace HB:=q_ (eE HB.out hb);clear hb
     go_wp2_with fail
     refine(wv.out w2 HB.out).mono ?_
     rintro e w3 ⟨rfl,hb⟩;replace HB:=q_ (eE HB.out hb);clear hb
     go_wp2_with fail
     refine(Vm (H.out.tT HB.out) kk j x y mG.out (by have:=HJ.out.1;have:=mG.out;omega) HM.out wM.out).mono ?_
     rw [HZ.out];rintro e w4 ⟨rfl,hb⟩;replace HB:=q_ (eE HB.out hb);clear hb;cases z with
     | true=>
      go_wp2
      go_roundg (n - (kk+1))
      case measure=>have:=HG.out;omega
      case rel=>
       refine⟨kk+1,by omega,by omega,by first | rfl | simp [hw],?_,HB⟩
       rw [EX,HO.out,HX.out,if_pos ⟨hx0,by simp only [Hq,HX.out,HY.out];exact HZ.out⟩];rfl
     | false=>
      go_wp2
      go_roundg (n - (kk+1))
      case measure=>have:=HG.out;omega
      case rel=>
       refine⟨kk+1,by omega,by omega,by first | rfl | simp [hw],?_,HB⟩
       rw [EX,HO.out,HX.out,if_neg (by simp only [Hq,HX.out,HY.out,HZ.out];simp)];rfl
   ·go_wp2_with fail
    refine(HC.out wr HB.out).mono ?_
    rintro e w1 ⟨rfl,hb⟩;replace HB:=q_ (eE HB.out hb);clear hb;go_wp2
    go_roundg (n - (kk+1))
    case measure=>have:=HG.out;omega
    case rel=>
     refine⟨kk+1,by omega,by omega,by first | rfl | simp [hw],?_,HB⟩
     rw [EX,HO.out,HX.out,if_neg (fun q=>by have:=q.1;omega)]
  ·have pZ: ¬ (kk:Int) < (n:Int):=by omega
   obtain rfl:kk=n:=by omega
   go_wp2
   go_ret
   exact⟨rfl,HB.out⟩
theorem RS {w:World} {lo hi t g gb n m cg cb:Nat} {b cp:Nat→Nat} {s:TS} (h:Tm w lo hi t g gb n m cg cb b cp s) (v:Nat) (hn:n≤1000) (hv:v < 2*n):
  Calls Tryz.prog 126 #[.pointer (some ⟨t,0,none⟩), .int .i64 (v:Int)] w fun e w'=>e= .returned (.int .i64 (partner n v:Nat))∧Below w.heap.size w w':=by
 have hcz:=h.h3;clear h
 by_cases hlt:v < n
 ·have hz:(v:Int) < (n:Int):=by omega
  have hw:IntKind.i64.wrap ((v:Int)+(n:Int))=((v+n:Nat):Int):=by rw [IntWalk.i64_in _ (by omega)];omega
  have e:partner n v=v+n:=by unfold partner;rw [if_pos hlt]
  have HE:=q_ e;clear hlt hn hv e
  go_enter Tryz.func126,Tryz.ntmps126
  go_wp2
  go_ret
  exact⟨by rw [HE.out];first | rfl | (rw [← hw];rfl),Below.refl _ _⟩
 ·have hz: ¬ (v:Int) < (n:Int):=by omega
  have hw:IntKind.i64.wrap ((v:Int) - (n:Int))=((v - n:Nat):Int):=by rw [IntWalk.i64_in _ (by omega)];omega
  have e:partner n v=v - n:=by unfold partner;rw [if_neg hlt]
  have HE:=q_ e;clear hlt hn hv e
  go_enter Tryz.func126,Tryz.ntmps126
  go_wp2
  go_ret
  exact⟨by rw [HE.out];first | rfl | (rw [← hw];rfl),Below.refl _ _⟩
theorem ajr {w:World} {lo hi t g gb n m cg cb:Nat} {b cp:Nat→Nat} {s:TS} (h:Tm w lo hi t g gb n m cg cb b cp s) (p2 p3:Nat) (v i:Nat) (hin:i < n) (hv:v < m) (h2:w.cell? ⟨p2,0,none⟩=some (.pointer (some ⟨t,0,none⟩))) (h3:w.cell? ⟨p3,0,none⟩=some (.int .i64 (v:Int))):
  Calls Tryz.prog 157 (#[.int .i64 (i:Int)]++ #[.pointer (some ⟨p2,0,none⟩), .pointer (some ⟨p3,0,none⟩)]) w fun e w'=>e= .returned (.int .i64 (s.T i v))∧Below w.heap.size w w':=by
 show Calls Tryz.prog 157 #[.int .i64 (i:Int), .pointer (some ⟨p2,0,none⟩), .pointer (some ⟨p3,0,none⟩)] w _
 have h':=h.mv (Out.drew w 0 0) (.inr (Nat.zero_le _));have BN:=h'.h0;have VA:=h'.og i hin;have xg:=(h'.ob i v hin hv).1;have hc2:w.drew.cell? ⟨p2,0,none⟩=some (.pointer (some ⟨t,0,none⟩)):=h2;have hc3:w.drew.cell? ⟨p3,0,none⟩=some (.int .i64 (v:Int)):=h3;have hiz:(i:Int) < (n:Int):=by omega
 have h0z:(0:Int)≤(i:Int):=by omega
 have hvz:(v:Int) < (m:Int):=by omega
 have h0v:(0:Int)≤(v:Int):=by omega
 have yR:=q_ (mH (Below.refl w.heap.size w))
 generalize s.T i v=x at xg ⊢
 clear h h' hin hv h2 h3
 go_enter Tryz.func157,Tryz.ntmps157
 go_wp2
 refine qx (n:=11) (S:=fun w'=>w'.cell? ⟨t,0,none⟩=some (.slice (some ⟨g,0,none⟩) n cg)∧w'.cell? ⟨g,i,none⟩=some (.slice (some ⟨b i,0,none⟩) m (cp i))∧w'.cell? ⟨b i,v,none⟩=some (.int .i64 x)∧w'.cell? ⟨p2,0,none⟩=some (.pointer (some ⟨t,0,none⟩))∧w'.cell? ⟨p3,0,none⟩=some (.int .i64 (v:Int))) (ds:= []) ⟨BN,VA,xg,hc2,hc3⟩ (fun hHeld=>?_)
 generalize w.drew=w1 at yR BN VA xg hc2 hc3 hHeld ⊢
 refine mg 0 5 ?_;refine sU 1 6 2 7 ?_;refine mg 3 8 ?_;refine sU 4 9 5 10 ?_;refine mg 6 11 ?_
 refine mg 7 12 ?_;refine lX 8 13 ?_;refine mg 9 14 ?_;refine lX 10 4 ?_
 refine oA (by kernel_rfl) ?_
 go_wp2
 go_ret
 exact⟨rfl,yR.out⟩
theorem RZ: ∀args w,(callFunc 157 args).run Tryz.prog w= .ok (.enter 157 args) w:=vB Tryz.func157 (by kernel_rfl) rfl
theorem RY {w:World} {lo hi t g gb n m cg cb:Nat} {b cp:Nat→Nat} {s:TS} (h:Tm w lo hi t g gb n m cg cb b cp s) (v:Nat) (hn:n≤1000) (hm:n < m) (hm2:m≤1000) (hv:v < m):
  Calls Tryz.prog 127 #[.pointer (some ⟨t,0,none⟩), .int .i64 (v:Int)] w fun e w'=>e= .returned (.int .i64 (KY (AK s.T n m (fun i=>s.T i v) n)))∧Below w.heap.size w w':=by
 have HB:=q_ (Below.refl w.heap.size w);have H:=q_ h;have HN:=q_ hn;have HM:=q_ hm;have wM:=q_ hm2;have HV:=q_ hv;clear h hn hm hm2 hv
 go_enter Tryz.func127,Tryz.ntmps127
 go_wp2_with (first | ((with_reducible refine dg (N:=2) rfl ?_);refine nR 2 #[.pointer (some ⟨t,0,none⟩)] 97 ?_;intro g2 hg w2 cM hb;replace HB:=q_ (eE HB.out hb);have B2:=q_ cM;clear hb cM hg) | ((with_reducible refine dg (N:=3) rfl ?_);refine nR 3 #[.int .i64 (v:Int)] 3 ?_;intro g3 hg w3 cM hb;replace HB:=q_ (eE HB.out hb);replace B2:=q_ (ke B2.out hb);have B3:=q_ cM;clear hb cM hg;have xg:=lS B2 0))
 refine(JG (H.out.tT HB.out) 157 #[.pointer (some ⟨g2,0,none⟩), .pointer (some ⟨g3,0,none⟩)] (fun i=>s.T i v) RZ (fun W i hi hb=>ajr (H.out.tT (eE HB.out hb)) g2 g3 v i hi HV.out ((bp (ke B2.out hb) 0).trans rfl) ((bp (ke B3.out hb) 0).trans rfl)) HN.out HM.out wM.out).mono ?_
 rintro e w4 ⟨rfl,hb⟩;replace HB:=q_ (eE HB.out hb);clear hb xg;go_wp2
 go_ret
 exact⟨rfl,HB.out⟩
end Go.Proofs.YthmfdplckdijdaaGreat.Lq
end
section
namespace Go.Proofs.YthmfdplckdijdaaGreat.Lq
open Go.RowKit Wz.cw Wz.fX Wz.cX Pr Ma Dt Lk Lt
def stP (T:lE) (den:Int) (r v i c:Nat):lE:=fun a d=>if a < i∨(a=i∧d < c) then Fq T den r v a d else T a d
def yM (X:lE) (i c:Nat):lE:=fun a d=>if a < i∨(a=i∧d < c) then wrap64 (- X a d) else X a d
theorem acO (T:lE) (den:Int) (r v a d:Nat):stP T den r v 0 0 a d=T a d:=by unfold stP;rw [if_neg (by omega)]
theorem aaU (T:lE) (den:Int) (r v i c a d:Nat) (h: ¬ (a < i∨(a=i∧d < c))):stP T den r v i c a d=T a d:=by unfold stP;rw [if_neg h]
theorem Qi (T:lE) (den:Int) (r v i c d:Nat):stP T den r v i c r d=T r d:=by unfold stP Fq;split <;> simp
theorem acQ (T:lE) (den:Int) (r v i c:Nat) (h:i≠r) (a d:Nat):BA (stP T den r v i c) i c (VI T den r v i c) a d=stP T den r v i (c+1) a d:=by
 unfold BA
 by_cases e:a=i∧d=c
 ·obtain⟨rfl,rfl⟩:=e
  rw [if_pos ⟨rfl,rfl⟩];unfold stP Fq;rw [if_pos (by omega),if_neg h]
 ·rw [if_neg e];unfold stP
  by_cases q:a < i∨(a=i∧d < c)
  ·rw [if_pos q,if_pos (by omega)]
  ·rw [if_neg q,if_neg (by omega)]
theorem agJ (T:lE) (den:Int) (r v i m a d:Nat) (h:d < m):stP T den r v i m a d=stP T den r v (i+1) 0 a d:=by
 unfold stP
 by_cases q:a < i+1
 ·rw [if_pos (by omega),if_pos (by omega)]
 ·rw [if_neg (by omega),if_neg (by omega)]
theorem acP (T:lE) (den:Int) (r v a d:Nat):stP T den r v r 0 a d=stP T den r v (r+1) 0 a d:=by
 by_cases e:a=r
 ·subst e;rw [Qi,Qi]
 ·unfold stP
  by_cases q:a < r
  ·rw [if_pos (by omega),if_pos (by omega)]
  ·rw [if_neg (by omega),if_neg (by omega)]
theorem agK (T:lE) (den:Int) (r v n a d:Nat) (h:a < n):stP T den r v n 0 a d=Fq T den r v a d:=by unfold stP;rw [if_pos (by omega)]
theorem U7 (X:lE) (a d:Nat):yM X 0 0 a d=X a d:=by unfold yM;rw [if_neg (by omega)]
theorem abm (X:lE) (i c a d:Nat) (h: ¬ (a < i∨(a=i∧d < c))):yM X i c a d=X a d:=by unfold yM;rw [if_neg h]
theorem U8 (X:lE) (i c a d:Nat):BA (yM X i c) i c (wrap64 (- X i c)) a d=yM X i (c+1) a d:=by
 unfold BA
 by_cases e:a=i∧d=c
 ·obtain⟨rfl,rfl⟩:=e
  rw [if_pos ⟨rfl,rfl⟩];unfold yM;rw [if_pos (by omega)]
 ·rw [if_neg e];unfold yM
  by_cases q:a < i∨(a=i∧d < c)
  ·rw [if_pos q,if_pos (by omega)]
  ·rw [if_neg q,if_neg (by omega)]
theorem Ym (X:lE) (i m a d:Nat) (h:d < m):yM X i m a d=yM X (i+1) 0 a d:=by
 unfold yM
 by_cases q:a < i+1
 ·rw [if_pos (by omega),if_pos (by omega)]
 ·rw [if_neg (by omega),if_neg (by omega)]
theorem Yn (X:lE) (n a d:Nat) (h:a < n):yM X n 0 a d=wrap64 (- X a d):=by unfold yM;rw [if_pos (by omega)]
theorem size_eq {x:Int} (h0: -9223372036854775808 < x) (h1:x < 9223372036854775808):qV.f x=some (if x < 0 then wrap64 (-x) else x):=by
 unfold qV.f
 rw [nH (by omega) (by omega)]
 congr 1
 unfold mx
 split <;> split <;> omega
theorem ZB {w:World} {lo hi t g gb n m cg cb:Nat} {b cp:Nat→Nat} {s:TS} (h:Tm w lo hi t g gb n m cg cb b cp s) (v r:Nat) (hr:r < n) (hv:v < m) (hn:n≤1000) (hm2:m≤1000) (hden:s.den≠0) (hb0: -9223372036854775808 < s.T r v) (hb1:s.T r v < 9223372036854775808):
  Calls Tryz.prog 125 #[.pointer (some ⟨t,0,none⟩), .int .i64 (v:Int), .int .i64 (r:Int)] w fun e w'=>e= .returned (.int .i64 (s.bs.getD r 0))∧Tm w' lo hi t g gb n m cg cb b cp (s.step r v)∧Out w w' lo hi:=by
 have HO:=q_ (Out.refl w lo hi);have H:=q_ h;have HR:=q_ hr;have HV:=q_ hv;have HN:=q_ hn;have wM:=q_ hm2;have HD:=q_ hden;obtain⟨p,hp⟩: ∃p,s.T r v=p:=⟨_,rfl⟩
 rw [hp] at hb0 hb1;have HP:=q_ hp;have HSZ:=q_ (size_eq hb0 hb1);have hrz:(r:Int) < (n:Int):=by omega
 have h0r:(0:Int)≤(r:Int):=by omega
 have hvz:(v:Int) < (m:Int):=by omega
 have h0v:(0:Int)≤(v:Int):=by omega
 have BN:=h.h0;have anD:=h.og r hr;have hcp:=(h.ob r v hr hv).1;rw [hp] at hcp;clear h hr hv hn hm2 hden hp hb0 hb1
 go_enter Tryz.func125,Tryz.ntmps125
 go_wp2
 clear BN anD hcp
 go_loopg [33] n (fun gg v33 wr=> ∃kk:Nat,kk≤n∧n - kk≤gg∧v33= .int .i64 (kk:Int)∧aE (Tm wr lo hi t g gb n m cg cb b cp ⟨stP s.T s.den r v kk 0,s.den,s.bs⟩)∧aE (Out w wr lo hi))
 case atStart=>exact⟨0,Nat.zero_le _,by omega,rfl,⟨H.out.congr (fun i j _ _=>(acO _ _ _ _ i j).symm) rfl rfl⟩,HO⟩
 case round=>
  clear HO;obtain⟨kk,hkk,hg,rfl,HT,HO⟩:=hrel;have HG:=q_ hg
  by_cases hlt:kk < n
  ·have pZ:(kk:Int) < (n:Int):=by omega
   have h0z:(0:Int)≤(kk:Int):=by omega
   have hw:IntKind.i64.wrap ((kk:Int)+1)=((kk+1:Nat):Int):=by rw [IntWalk.i64_in _ (by have:=HN.out;omega)];rfl
   have HW:=q_ hw;have mG:=q_ hlt;have hog:=HT.out.og kk hlt;have hf:=(HT.out.ob kk v hlt HV.out).1;rw [show (⟨stP s.T s.den r v kk 0,s.den,s.bs⟩:TS).T kk v=s.T kk v from aaU _ _ _ _ _ _ _ _ (by omega)] at hf;clear hkk hg hlt
   by_cases hir:kk=r
   ·subst hir;go_wp2
    go_roundg (n - (kk+1))
    case measure=>have:=HG.out;have:=mG.out;omega
    case rel=>exact⟨kk+1,mG.out,by omega,by first | rfl | (rw [HW.out]) | (simp [HW.out]),⟨HT.out.congr (fun i j _ _=>acP _ _ _ _ i j) rfl rfl⟩,HO⟩
   ·have ai4:((kk:Int)==(r:Int))=false:=by simp;omega
    have anr: ¬ (kk:Int)=(r:Int):=by omega
    have Zm:=q_ hir;clear hir;go_wp2
    clear hf
    go_loopg [47] m (fun gg v47 w4=> ∃c:Nat,c≤m∧m - c≤gg∧v47= .int .i64 (c:Int)∧aE (Tm w4 lo hi t g gb n m cg cb b cp ⟨stP s.T s.den r v kk c,s.den,s.bs⟩)∧aE (Out w w4 lo hi))
    case atStart=>exact⟨0,Nat.zero_le _,by omega,rfl,HT,HO⟩
    case round=>
     clear HT HO hog;obtain⟨c,hc,hg2,rfl,HT,HO⟩:=hrel;have HC:=q_ hc;have HG2:=q_ hg2
     by_cases hcm:c < m
     ·have hcz:(c:Int) < (m:Int):=by omega
      have h0c:(0:Int)≤(c:Int):=by omega
      have Qd:=q_ hcm;have W3:=q_ (HT.out.mv (Out.drew wr lo lo) (.inr (Nat.le_refl _)));have ae:=q_ (HO.out.trans (Out.drew wr lo hi));have h1:=(W3.out.ob kk c mG.out hcm).1;have h1f:=(W3.out.ob kk c mG.out hcm).2;have h2:=(W3.out.ob r c HR.out hcm).1;have h3:=W3.out.h1.1;rw [show (⟨stP s.T s.den r v kk c,s.den,s.bs⟩:TS).T kk c=s.T kk c from aaU _ _ _ _ _ _ _ _ (by omega)] at h1;rw [show (⟨stP s.T s.den r v kk c,s.den,s.bs⟩:TS).T r c=s.T r c from Qi _ _ _ _ _ _ _] at h2;have hd0:(s.den==0)=false:=by have:=HD.out;simpa using this
      have hd1: ¬ s.den=0:=HD.out;have hwc:IntKind.i64.wrap ((c:Int)+1)=((c+1:Nat):Int):=by rw [IntWalk.i64_in _ (by have:=wM.out;omega)];rfl
      have HWC:=q_ hwc;clear hc hg2 hcm HT HO;go_wp2
      refine qx (n:=22) (S:=fun w'=>w'.cell? ⟨b kk,c,none⟩=some (.int .i64 (s.T kk c))∧w'.cell? ⟨b r,c,none⟩=some (.int .i64 (s.T r c))∧w'.cell? ⟨t,1,none⟩=some (.int .i64 s.den)) (ds:= [21]) ⟨h1,h2,h3⟩ (fun hHeld=>?_)
      generalize wr.drew=w5 at W3 ae h1 h1f h2 h3 hHeld ⊢
      refine sB 0 50 1 51 2 52 3 53 ?_;refine lX 4 54 ?_;refine mg 5 55 ?_;refine sB 6 56 7 57 8 58 9 59 ?_;refine sU 10 60 11 61 ?_;refine mg 12 62 ?_;refine sB 13 63 14 64 15 65 16 66 ?_;refine lX 17 67 ?_;refine mg 18 68 ?_;refine sU 19 69 20 70 ?_
      refine DU 21 none (fun K hK=>?_)
      refine rL (w1:=?_) (by rfl) rfl ?_ ?_
      rotate_left
      ·go_simp
       rfl
      refine hK.out _ _ ?_
      clear hK K;refine oA (by kernel_rfl) ?_
      go_wp2
      go_roundg (m - (c+1))
      case measure=>have:=HG2.out;have:=Qd.out;omega
      case rel=>
       have hput:=(W3.out.put mG.out Qd.out (VI s.T s.den r v kk c)).congr (s':=⟨stP s.T s.den r v kk (c+1),s.den,s.bs⟩) (fun a d _ _=>acQ s.T s.den r v kk c Zm.out a d) rfl rfl;unfold VI at hput;rw [HP.out] at hput;exact⟨c+1,Qd.out,by omega,by first | rfl | (rw [HWC.out]) | (simp [HWC.out]),⟨hput⟩,⟨ae.out.trans (Out.set _ _ _ (W3.out.rR kk mG.out))⟩⟩
     ·have hcz: ¬ (c:Int) < (m:Int):=by omega
      obtain rfl:c=m:=by have:=HC.out;omega
      clear hcm hc hg2;go_wp2
      go_roundg (n - (kk+1))
      case measure=>have:=HG.out;have:=mG.out;omega
      case rel=>exact⟨kk+1,mG.out,by omega,by first | rfl | (rw [HW.out]) | (simp [HW.out]),⟨HT.out.congr (fun i j _ hj=>agJ _ _ _ _ _ _ i j hj) rfl rfl⟩,HO⟩
  ·have pZ: ¬ (kk:Int) < (n:Int):=by omega
   obtain rfl:n=kk:=by omega
   clear hkk hg hlt;obtain⟨X,hX⟩: ∃X:lE,X=Fq s.T s.den r v:=⟨_,rfl⟩
   have HX:=q_ hX;have JM:=q_ (HT.out.congr (s':=⟨X,s.den,s.bs⟩) (fun i j hi _=>by rw [hX];exact agK _ _ _ _ _ i j hi) rfl rfl);clear HT hX;have hfz:=JM.out.h1.2;have hold:=JM.out.h1.1;obtain⟨d,hd⟩: ∃d,(if p < 0 then wrap64 (-p) else p)=d:=⟨_,rfl⟩
   have hsz:=HSZ.out;rw [hd] at hsz;have HD2:=q_ hd;have aot:=q_ hsz;clear hd hsz HSZ
   go_wp2_with fail
   refine(qV.calls p d wr aot.out).mono ?_
   rintro e w6 ⟨rfl,hb6⟩;have Zd:=q_ (JM.out.tT hb6);replace HO:=q_ (HO.out.trans (Out.below hb6 lo hi));clear JM hb6 hfz hold;have hfz:=Zd.out.h1.2;have hold:=Zd.out.h1.1;have W5:=q_ (Zd.out.adt d);have aa:=q_ (HO.out.trans (Out.set w6 1 (.int .i64 d) Zd.out.tR))
   by_cases hpn:p < 0
   ·have BN:=W5.out.h0;have RJ:=q_ hpn;have hpb:decide (p < 0)=true:=decide_eq_true hpn;go_wp2
    generalize w6.setCell ⟨t,1,none⟩ (.int .i64 d)=w7 at*
    clear Zd HO BN hfz hold
    go_loopg [85] n (fun gg v85 wr=> ∃kk:Nat,kk≤n∧n - kk≤gg∧v85= .int .i64 (kk:Int)∧aE (Tm wr lo hi t g gb n m cg cb b cp ⟨yM X kk 0,d,s.bs⟩)∧aE (Out w wr lo hi))
    case atStart=>exact⟨0,Nat.zero_le _,by omega,rfl,⟨W5.out.congr (fun i j _ _=>(U7 _ i j).symm) rfl rfl⟩,aa⟩
    case round=>
     clear aa W5;obtain⟨kk,hkk,hg,rfl,HT,HO⟩:=hrel;have HG:=q_ hg
     by_cases hlt:kk < n
     ·have pZ:(kk:Int) < (n:Int):=by omega
      have h0z:(0:Int)≤(kk:Int):=by omega
      have hw:IntKind.i64.wrap ((kk:Int)+1)=((kk+1:Nat):Int):=by rw [IntWalk.i64_in _ (by have:=HN.out;omega)];rfl
      have HW:=q_ hw;have mG:=q_ hlt;have hog:=HT.out.og kk hlt;clear hkk hg hlt;go_wp2
      go_loopg [91] m (fun gg v91 w4=> ∃c:Nat,c≤m∧m - c≤gg∧v91= .int .i64 (c:Int)∧aE (Tm w4 lo hi t g gb n m cg cb b cp ⟨yM X kk c,d,s.bs⟩)∧aE (Out w w4 lo hi))
      case atStart=>exact⟨0,Nat.zero_le _,by omega,rfl,HT,HO⟩
      case round=>
       clear HT HO hog;obtain⟨c,hc,hg2,rfl,HT,HO⟩:=hrel;have HC:=q_ hc;have HG2:=q_ hg2
       by_cases hcm:c < m
       ·have hcz:(c:Int) < (m:Int):=by omega
        have h0c:(0:Int)≤(c:Int):=by omega
        have Qd:=q_ hcm;have h1:=(HT.out.ob kk c mG.out hcm).1;have h1f:=(HT.out.ob kk c mG.out hcm).2;rw [show (⟨yM X kk c,d,s.bs⟩:TS).T kk c=X kk c from abm _ _ _ _ _ (by omega)] at h1;have hwc:IntKind.i64.wrap ((c:Int)+1)=((c+1:Nat):Int):=by rw [IntWalk.i64_in _ (by have:=wM.out;omega)];rfl
        have HWC:=q_ hwc;clear hc hg2 hcm;go_wp2
        go_roundg (m - (c+1))
        case measure=>have:=HG2.out;have:=Qd.out;omega
        case rel=>
         have hput:=(HT.out.put mG.out Qd.out (wrap64 (- X kk c))).congr (s':=⟨yM X kk (c+1),d,s.bs⟩) (fun a e _ _=>U8 X kk c a e) rfl rfl;exact⟨c+1,Qd.out,by omega,by first | rfl | (rw [HWC.out]) | (simp [HWC.out]),⟨hput⟩,⟨HO.out.trans (Out.set _ _ _ (HT.out.rR kk mG.out))⟩⟩
       ·have hcz: ¬ (c:Int) < (m:Int):=by omega
        obtain rfl:c=m:=by have:=HC.out;omega
        clear hcm hc hg2;go_wp2
        go_roundg (n - (kk+1))
        case measure=>have:=HG.out;have:=mG.out;omega
        case rel=>exact⟨kk+1,mG.out,by omega,by first | rfl | (rw [HW.out]) | (simp [HW.out]),⟨HT.out.congr (fun i j _ hj=>Ym _ _ _ i j hj) rfl rfl⟩,HO⟩
     ·have pZ: ¬ (kk:Int) < (n:Int):=by omega
      obtain rfl:n=kk:=by omega
      have xg:=HT.out.h2;have hbr:=(HT.out.oq r HR.out).1;have hbf:=(HT.out.oq r HR.out).2;go_wp2
      go_ret
      refine⟨rfl,((HT.out.ZQ HR.out (v:Int)).congr (s':=s.step r v) (fun i j hi _=>?_) ?_ rfl),HO.out.trans (Out.set _ _ _ HT.out.bR)⟩
      ·show yM X n 0 i j=AJ s.T s.den r v i j
       unfold AJ;rw [if_pos (by rw [HP.out];exact RJ.out),Yn _ _ _ _ hi,HX.out]
      ·show Ch s.T r v=d
       unfold Ch;rw [HP.out,HD2.out]
   ·have xg:=W5.out.h2;have hbr:=(W5.out.oq r HR.out).1;have hbf:=(W5.out.oq r HR.out).2;have RJ:=q_ hpn;go_wp2
    go_ret
    refine⟨rfl,((W5.out.ZQ HR.out (v:Int)).congr (s':=s.step r v) (fun i j _ _=>?_) ?_ rfl),aa.out.trans (Out.set _ _ _ Zd.out.bR)⟩
    ·show X i j=AJ s.T s.den r v i j
     unfold AJ;rw [if_neg (by rw [HP.out];omega),HX.out]
    ·show Ch s.T r v=d
     unfold Ch;rw [HP.out,HD2.out]
end Go.Proofs.YthmfdplckdijdaaGreat.Lq
end
section
namespace Go.Proofs.YthmfdplckdijdaaGreat.Lp
open Go.RowKit Wz.cw Wz.fX Wz.cX Pr Ma Dt Lk Lt Lq
theorem acM {w:World} {A0:Option Addr} {L:List (List Int)} {n m:Nat} (hC:Kd.C (Kd.slice 2 (Kd.int .i64)) w A0 L.length L) (hL:L.length=n) (hr: ∀x ∈ L,x.length=m) (hn:0 < n) (hm:0 < m):
  ∃(ad:Addr) (b:Nat→Addr) (cp:Nat→Nat),A0=some ad∧(∀i,i < n→w.cell? (ad.add i)=some (.slice (some (b i)) m (cp i)))∧ ∀i j,i < n→j < m→w.cell? ((b i).add j)=some (.int .i64 (m9 L i j)):=by
 subst hL
 have key: ∀i, ∃x:Addr × Addr × Nat,i < L.length→A0=some x.1∧w.cell? (x.1.add i)=some (.slice (some x.2.1) m x.2.2)∧ ∀j,j < m→w.cell? (x.2.1.add j)=some (.int .i64 (m9 L i j)):=by
  intro i
  by_cases hi:i < L.length
  ·obtain⟨ad,A',c',eA,hx,hc',hC'⟩:=pI hC (i:Int) (by omega) (by omega)
   have el:d5 L (i:Int)=L.getD i []:=by simp [d5]
   rw [el] at hx hc' hC'
   have RA:(L.getD i []).length=m:=hr _ (by rw [List.getD_eq_getElem?_getD,List.getElem?_eq_getElem hi];exact List.getElem_mem _)
   obtain⟨aa,eA2,_⟩:=Kd.mA hC' 0 (by omega) (by omega)
   subst eA2
   refine⟨(ad,aa,c'),fun _=>⟨eA,by rw [RA,Int.toNat_natCast] at hx;exact hx,fun j hj=>?_⟩⟩
   obtain⟨ae,eA3,hx3⟩:=Kd.mA hC' (j:Int) (by omega) (by omega)
   injection eA3 with eA3
   subst eA3
   rw [Int.toNat_natCast,rT] at hx3
   exact hx3
  ·exact⟨(⟨0,0,none⟩,⟨0,0,none⟩,0),fun h=>absurd h hi⟩
 obtain⟨f,hf⟩:=Classical.axiomOfChoice key
 refine⟨(f 0).1,fun i=>(f i).2.1,fun i=>(f i).2.2,(hf 0 hn).1,fun i hi=>?_,fun i j hi hj=>(hf i hi).2.2 j hj⟩
 have e1:=(hf 0 hn).1
 have e2:=(hf i hi).1
 rw [e1] at e2
 injection e2 with e2
 rw [e2];exact(hf i hi).2.1
def nP (n m:Nat) (Y:lE):List (List Int):=(List.range n).map (fun a=>qU Y a m)
theorem sA (n m:Nat) (Y:lE):(nP n m Y).length=n:=by simp [nP]
theorem OY (n m:Nat) (Y:lE):nP (n+1) m Y=nP n m Y++ [qU Y n m]:=by unfold nP;rw [List.range_succ,List.map_append];rfl
theorem yV (Y:lE) (i k:Nat):qU Y i (k+1)=qU Y i k++ [Y i k]:=by unfold qU;rw [List.range_succ,List.map_append];rfl
theorem yU {n m:Nat} {Y:lE} {i:Nat} (hi:i < n):(nP n m Y).getD i []=qU Y i m:=by unfold nP;rw [List.getD_eq_getElem?_getD,List.getElem?_map,List.getElem?_range hi];rfl
theorem Ql {m:Nat} {Y:lE} {i k:Nat} (hk:k < m):(qU Y i m).getD k 0=Y i k:=by unfold qU;rw [List.getD_eq_getElem?_getD,List.getElem?_map,List.getElem?_range hk];rfl
theorem yH {n m:Nat} {Y Z:lE} (h: ∀i j,i < n→j < m→Y i j=Z i j):nP n m Y=nP n m Z:=List.map_congr_left (fun i hi=>List.map_congr_left (fun j hj=>h i j (List.mem_range.1 hi) (List.mem_range.1 hj)))
theorem aa5 {n m:Nat} {Y:lE} {i k:Nat} (x:Int):(nP n m Y).set i ((qU Y i m).set k x)=nP n m (BA Y i k x):=by
 refine List.ext_getElem (by simp [nP]) (fun a h1 h2=>?_)
 rw [List.getElem_set]
 have ha:a < n:=by simpa [nP] using h2
 simp only [nP,List.getElem_map,List.getElem_range]
 by_cases e:i=a
 ·subst e
  rw [if_pos rfl]
  refine List.ext_getElem (by simp [qU]) (fun b h3 h4=>?_)
  rw [List.getElem_set]
  simp only [qU,List.getElem_map,List.getElem_range,BA]
  by_cases e2:k=b
  ·subst e2;simp
  ·rw [if_neg e2,if_neg (fun q=>e2 q.2.symm)]
 ·rw [if_neg e]
  refine List.map_congr_left (fun b _=>?_)
  unfold BA
  rw [if_neg (fun q=>e q.1.symm)]
structure Pt (w wr:World) (g7:Nat) (u0 u2:Value) (den:Int) (L:List (List Int)) (B:List Int):Prop where
 below:Below w.heap.size w wr
 g:w.heap.size≤g7
 blk:wr.heap[g7]?=some (.cells #[u0, .int .i64 den,u2] 107 (0,0))
 S:Kd.S (Kd.slice 2 (Kd.int .i64)) 24 wr w.heap.size (fun k=>some k≠u2.ownBlock) u0 L
 R:Kd.R (Kd.int .i64) 2 wr w.heap.size (fun _=>True) u2 B
structure Pu (w wr:World) (g7:Nat) (u0 u2:Value) (den:Int) (L:List (List Int)) (B:List Int) (v:Value) (X:List Int):Prop where
 below:Below w.heap.size w wr
 g:w.heap.size≤g7
 blk:wr.heap[g7]?=some (.cells #[u0, .int .i64 den,u2] 107 (0,0))
 S:Kd.S (Kd.slice 2 (Kd.int .i64)) 24 wr w.heap.size (fun k=>some k≠u2.ownBlock∧some k≠v.ownBlock) u0 L
 R:Kd.R (Kd.int .i64) 2 wr w.heap.size (fun k=>True∧some k≠v.ownBlock) u2 B
 X:Kd.R (Kd.int .i64) 2 wr w.heap.size (fun k=>some k≠u2.ownBlock) v X
section
variable {w wr w1:World} {g7:Nat} {u0 u2 v v1:Value} {den:Int} {L:List (List Int)} {B X Y:List Int}
theorem Pt.mv (h:Pt w wr g7 u0 u2 den L B) (hb:Below wr.heap.size wr w1):Pt w w1 g7 u0 u2 den L B:=
 ⟨eE h.below hb,h.g,ke h.blk hb,Kd.mQ h.S hb,Kd.oQ h.R hb⟩
theorem Pu.mv (h:Pu w wr g7 u0 u2 den L B v X) (hb:Below wr.heap.size wr w1):Pu w w1 g7 u0 u2 den L B v X:=
 ⟨eE h.below hb,h.g,ke h.blk hb,Kd.mQ h.S hb,Kd.oQ h.R hb,Kd.oQ h.X hb⟩
theorem Pu.new (h:Pt w wr g7 u0 u2 den L B) (hb:Below wr.heap.size wr w1) (hX:Kd.R (Kd.int .i64) 2 w1 wr.heap.size (fun _=>True) v X):Pu w w1 g7 u0 u2 den L B v X:=
 ⟨eE h.below hb,h.g,ke h.blk hb,Kd.tA h.S (Kd.o8 hX) hb,Kd.tV h.R (Kd.o8 hX) hb,Kd.fY (Kd.ng (Kd.wo hX (Kd.qw h.R)) h.below.size) (fun _ hk=>hk.2)⟩
theorem Pu.grow (h:Pu w wr g7 u0 u2 den L B v X) (hb:Below w.heap.size w w1) (hg:wr.grownBy w1 v.ownBlock) (hat:v1.ownBlock=v.ownBlock∨ ∃b,v1.ownBlock=some b∧wr.heap.size≤b) (hX:Kd.R (Kd.int .i64) 2 w1 w.heap.size (fun k=>some k≠u2.ownBlock) v1 Y):Pu w w1 g7 u0 u2 den L B v1 Y:=
 ⟨hb,h.g,m8 h.blk hg (Kd.pJ h.X h.blk (by decide)),Kd.uL h.S hg hat,Kd.yI h.R hg hat,hX⟩
theorem Pu.other (h:Pu w wr g7 u0 u2 den L B v X) (hg:wr.grownBy w1 v.ownBlock) {g:Nat} {cs:Array Value} (uh:wr.heap[g]?=some (.cells cs 107 (0,0))):w1.heap[g]?=some (.cells cs 107 (0,0)):=m8 uh hg (Kd.pJ h.X uh (by decide))
theorem Pt.ZQ {gb c l:Nat} (h:Pt w wr g7 u0 (.slice (some ⟨gb,0,none⟩) l c) den L B) (j:Nat) (x:Int):Pt w (wr.setCell ⟨gb,j,none⟩ (.int .i64 x)) g7 u0 (.slice (some ⟨gb,0,none⟩) l c) den L (B.set j x)∧wr.grownBy (wr.setCell ⟨gb,j,none⟩ (.int .i64 x)) (Value.slice (some ⟨gb,0,none⟩) l c).ownBlock:=by
 have hp:=Kd.zl h.R (j:Int) x
 rw [Int.toNat_natCast] at hp
 have ho:(Value.slice (some ⟨gb,0,none⟩) l c).ownBlock=some gb:=by simp [Value.ownBlock]
 refine⟨⟨h.below.setCell (Kd.o8 h.R gb ho) _,h.g,m8 h.blk hp.2 (ho ▸ Kd.pJ h.R h.blk (by decide)),?_,hp.1⟩,ho ▸ hp.2⟩
 refine Kd.mB (Kd.zP (Kd.xw h.S) (fun k hk hlt=>hp.2.block k hlt (ho ▸ hk.1))) (fun _ hk=>hk.1)
theorem AH {α:Type} {d:Kd α} {e base g t j:Nat} {ok:Nat→Prop} {W:World} {u x:Value} {xs:List α} {cs:Array Value} (h:d.R e W base ok u xs) (hg:W.heap[g]?=some (.cells cs t (0,0))) (ht: ∀q,q ∈ e::d.E→q≠t):d.R e (W.setCell ⟨g,j,none⟩ x) base ok u xs:=Kd.alE h hg ht j x
theorem ES {α:Type} {d:Kd α} {e base g t j:Nat} {ok:Nat→Prop} {W:World} {u x:Value} {xs:List α} {cs:Array Value} (h:Kd.S d e W base ok u xs) (hg:W.heap[g]?=some (.cells cs t (0,0))) (ht: ∀q,q ∈ e::d.E→q≠t):Kd.S d e (W.setCell ⟨g,j,none⟩ x) base ok u xs:=
 Kd.mB (Kd.zP (Kd.xw h) (fun k hk hlt=>Below.heap_setCell W ⟨g,j,none⟩ x k (fun e1=>by
  obtain⟨_,_,_,q,hq,cells,hc⟩:=hk
  have e2:k=g:=e1
  rw [e2,hg] at hc
  injection hc with h1
  injection h1 with _ h2 _
  exact ht q hq h2.symm))) (fun _ hk=>hk.1)
theorem Pt.adt (h:Pt w wr g7 u0 u2 den L B) (d:Int):Pt w (wr.setCell ⟨g7,1,none⟩ (.int .i64 d)) g7 u0 u2 d L B:=
 ⟨h.below.setCell h.g _,h.g,mD h.blk 1 _ rfl,ES h.S h.blk (by decide),AH h.R h.blk (by decide)⟩
theorem Pt.rows {u:Value} (hb:Below w.heap.size w wr) (hg:w.heap.size≤g7) (uh:wr.heap[g7]?=some (.cells #[u0, .int .i64 den,u2] 107 (0,0)))
  (hS:Kd.S (Kd.slice 2 (Kd.int .i64)) 24 wr w.heap.size (fun k=>some k≠u2.ownBlock) u L) (hR:Kd.R (Kd.int .i64) 2 wr w.heap.size (fun _=>True) u2 B):Pt w (wr.setCell ⟨g7,0,none⟩ u) g7 u u2 den L B:=
 ⟨hb.setCell hg _,hg,mD uh 0 _ rfl,ES hS uh (by decide),AH hR uh (by decide)⟩
theorem alz {e base n' cap i:Nat} {W:World} {ok:Nat→Prop} {ad:Addr} {Ls:List (List Int)} (h:Kd.S (Kd.slice 2 (Kd.int .i64)) e W base ok (.slice (some ad) n' cap) Ls) (hi:i < n'): ∃A c,W.cell? (ad.add i)=some (.slice A (Ls.getD i []).length c):=by
 obtain⟨wI,c,hcl,hM,hcc,_,_⟩:=Kd.K7 h ([]:List Int) (i:Int) (by omega) (by omega)
 rw [Int.toNat_natCast] at hM hcc
 obtain⟨v,hc,hR⟩:=hM
 subst hc
 have hv:=hcc 0 v rfl
 rw [show i*(Kd.slice 2 (Kd.int .i64)).sz+0=i from by show i*1+0=i;omega] at hv
 obtain⟨A,c,rfl⟩:=Kd.mE hR
 exact⟨A,c,hv⟩
theorem aan {e base n' cap i k:Nat} {W:World} {ok:Nat→Prop} {ad:Addr} {Ls:List (List Int)} {Fp:Value} (h:Kd.S (Kd.slice 2 (Kd.int .i64)) e W base ok (.slice (some ad) n' cap) Ls) (hi:i < n') (hcell:W.cell? (ad.add i)=some Fp) (hk:k < (Ls.getD i []).length):
  ∃g c,Fp= .slice (some ⟨g,0,none⟩) (Ls.getD i []).length c∧ok g∧some g≠(Value.slice (some ad) n' cap).ownBlock∧(∃cells,W.heap[g]?=some (.cells cells 2 (0,0)))∧W.cell? ⟨g,k,none⟩=some (.int .i64 ((Ls.getD i []).getD k 0))∧W.frozen? ⟨g,k,none⟩=false∧base≤g∧
   ∀x,W.grownBy (W.setCell ⟨g,k,none⟩ (.int .i64 x)) (some g)∧Kd.S (Kd.slice 2 (Kd.int .i64)) e (W.setCell ⟨g,k,none⟩ (.int .i64 x)) base ok (.slice (some ad) n' cap) (Ls.set i ((Ls.getD i []).set k x)):=by
 obtain⟨wI,c,hcl,hM,hcc,Vw,hback⟩:=Kd.K7 h ([]:List Int) (i:Int) (by omega) (by omega)
 rw [Int.toNat_natCast] at hM hcc hback
 obtain⟨v,hc,hR⟩:=hM
 subst hc
 have hv:=hcc 0 v rfl
 rw [show i*(Kd.slice 2 (Kd.int .i64)).sz+0=i from by show i*1+0=i;omega,hcell] at hv
 injection hv with hv
 subst hv
 obtain⟨g,aoe,hv8,hb8,hl8,cells,hc8⟩:=Kd.rX hR (by omega)
 have ho:Fp.ownBlock=some g:=by rw [hv8];simp [Value.ownBlock]
 have aee:=hR.1 g ho
 rw [hv8] at hR
 have hat:=Kd.tW 0 hR (k:Int) (by omega) (by omega)
 rw [Int.toNat_natCast] at hat
 refine⟨g,aoe,hv8,(Vw g aee).1,(Vw g aee).2,⟨cells,hc8⟩,by simpa [Fb] using hat.1,hat.2,hb8,fun x=>?_⟩
 have hp:=Kd.zl hR (k:Int) x
 rw [Int.toNat_natCast] at hp
 refine⟨hp.2,hback hp.2 (fun q hq=>by injection hq with hq;rw [← hq];exact aee) ⟨_,by rw [hv8],?_⟩⟩
 have e:=hp.1
 rw [show (Ls.getD i []).length=((Ls.getD i []).set k x).length from by simp] at e ⊢
 exact e
end
end Go.Proofs.YthmfdplckdijdaaGreat.Lp
end
section
namespace Go.Proofs.YthmfdplckdijdaaGreat.Dr
open Go.RowKit Wz.cw Wz.fX Wz.cX Ma Pr Lq Lp
theorem akL {w:World} {b n:Nat} (hn:n≤1099511627776) (f:Nat→Int) (hx: ∀k,k < n→w.cell? ⟨b,k,none⟩=some (.int .i64 (f k))):Kd.C (Kd.int .i64) w (some ⟨b,0,none⟩) ((List.range n).map f).length ((List.range n).map f):=by
 have hl:((List.range n).map f).length=n:=by simp
 refine⟨rfl,by rw [hl];omega,fun _=>⟨_,rfl,fun c p hp=>?_⟩⟩
 have hc:c < n:=by have:=(List.getElem?_eq_some_iff.1 hp).1;omega
 have hpe:p=f c:=by
  rw [List.getElem?_map,List.getElem?_range hc] at hp
  exact(Option.some.inj hp).symm
 subst hpe
 refine⟨[.int .i64 (f c)],rfl,rfl,fun u v hv=>?_⟩
 have hu:u=0:=by cases u with
  | zero=>rfl
  | succ u=>simp at hv
 subst hu
 have hv:Value.int .i64 (f c)=v:=by simpa using hv
 rw [← hv]
 have e:(⟨b,0,none⟩:Addr).add (c*(Kd.int .i64).sz+0)=⟨b,c,none⟩:=by
  show (⟨b,0,none⟩:Addr).add (c*1+0)=_
  rw [Nat.mul_one,Nat.add_zero,uK];try rw [Nat.zero_add]
 rw [e]
 exact hx c hc
structure Dm (w:World) (lo gm n c:Nat) (b cp:Nat→Nat):Prop where
 g0:lo≤gm∧gm < w.heap.size
 cap:n≤c
 row: ∀j,j < n→w.cell? ⟨gm,j,none⟩=some (.slice (some ⟨b j,0,none⟩) n (cp j))
 rr: ∀j,j < n→lo≤b j∧b j < w.heap.size∧b j≠gm∧n≤cp j
 ints: ∀j k,j < n→k < n→(∃x,w.cell? ⟨b j,k,none⟩=some (.int .i64 x))∧w.frozen? ⟨b j,k,none⟩=false
section
variable {w w':World} {lo gm n c:Nat} {b cp:Nat→Nat} (h:Dm w lo gm n c b cp)
include h
theorem Dm.down {Il:Nat} (hl:Il≤lo):Dm w Il gm n c b cp:=⟨⟨Nat.le_trans hl h.g0.1,h.g0.2⟩,h.cap,h.row,fun j hj=>⟨Nat.le_trans hl (h.rr j hj).1,(h.rr j hj).2⟩,h.ints⟩
theorem Dm.keep {g:Nat} (hk:mL w w' g none) (hg:g < lo):Dm w' lo gm n c b cp:=by
 have h0:=h.g0
 refine⟨⟨h0.1,Nat.lt_of_lt_of_le h0.2 hk.1⟩,h.cap,fun j hj=>xI hk (h.row j hj) (by show gm≠g;omega),fun j hj=>?_,fun j k hj hk2=>?_⟩
 ·have:=h.rr j hj;exact⟨this.1,Nat.lt_of_lt_of_le this.2.1 hk.1,this.2.2⟩
 ·have hr:=h.rr j hj
  obtain⟨⟨x,hx⟩,hf⟩:=h.ints j k hj hk2
  exact⟨⟨x,xI hk hx (by show b j≠g;omega)⟩,(Rv hk hr.2.1 (by show b j≠g;omega)).trans hf⟩
theorem Dm.set {d i:Nat} {v:Value} (hg:d≠gm) (hb: ∀j,j < n→d≠b j):Dm (w.setCell ⟨d,i,none⟩ v) lo gm n c b cp:=by
 have hs:(w.setCell ⟨d,i,none⟩ v).heap.size=w.heap.size:=by simp [World.setCell]
 refine⟨by rw [hs];exact h.g0,h.cap,fun j hj=>(q9 hg).trans (h.row j hj),fun j hj=>by rw [hs];exact h.rr j hj,fun j k hj hk=>?_⟩
 obtain⟨⟨x,hx⟩,hf⟩:=h.ints j k hj hk
 exact⟨⟨x,(q9 (hb j hj)).trans hx⟩,xT.trans hf⟩
theorem Dm.put {i k:Nat} (hi:i < n) (hk:k < n) (x:Int):Dm (w.setCell ⟨b i,k,none⟩ (.int .i64 x)) lo gm n c b cp:=by
 have hs:(w.setCell ⟨b i,k,none⟩ (.int .i64 x)).heap.size=w.heap.size:=by simp [World.setCell]
 refine⟨by rw [hs];exact h.g0,h.cap,fun j hj=>(q9 (h.rr i hi).2.2.1).trans (h.row j hj),fun j hj=>by rw [hs];exact h.rr j hj,fun j q hj hq=>?_⟩
 obtain⟨⟨y,hy⟩,hf⟩:=h.ints j q hj hq
 refine⟨?_,xT.trans hf⟩
 by_cases e:b i=b j∧k=q
 ·obtain⟨e1,rfl⟩:=e
  rw [← e1]
  obtain⟨⟨z,hz⟩,_⟩:=h.ints i k hi hk
  exact⟨x,vD hz⟩
 ·refine⟨y,?_⟩
  by_cases e1:b i=b j
  ·exact(D8 (fun q2=>e ⟨e1,q2⟩)).trans hy
  ·exact(q9 e1).trans hy
open Classical in
theorem Dm.C (hn:n≤1000): ∃M:List (List Int),M.length=n∧(∀x ∈ M,x.length=n)∧Kd.C (Kd.slice 2 (Kd.int .i64)) w (some ⟨gm,0,none⟩) M.length M:=by
 have hx: ∀j k, ∃x:Int,j < n→k < n→w.cell? ⟨b j,k,none⟩=some (.int .i64 x):=fun j k=>by
  by_cases q:j < n∧k < n
  ·obtain⟨x,hx⟩:=(h.ints j k q.1 q.2).1
   exact⟨x,fun _ _=>hx⟩
  ·exact⟨0,fun a b=>absurd ⟨a,b⟩ q⟩
 have hf: ∃f:Nat→Nat→Int, ∀j k,j < n→k < n→w.cell? ⟨b j,k,none⟩=some (.int .i64 (f j k)):=by
  refine⟨fun j k=>Classical.choose (hx j k),fun j k=>Classical.choose_spec (hx j k)⟩
 obtain⟨f,hf⟩:=hf
 refine⟨(List.range n).map (fun j=>(List.range n).map (f j)),by simp,fun x hm=>?_,?_⟩
 ·obtain⟨j,_,rfl⟩:=List.mem_map.1 hm
  simp
 ·have hl:((List.range n).map (fun j=>(List.range n).map (f j))).length=n:=by simp
  refine⟨rfl,by rw [hl];omega,fun _=>⟨_,rfl,fun q p hp=>?_⟩⟩
  have hc:q < n:=by have:=(List.getElem?_eq_some_iff.1 hp).1;omega
  have hpe:p=(List.range n).map (f q):=by
   rw [List.getElem?_map,List.getElem?_range hc] at hp
   exact(Option.some.inj hp).symm
  subst hpe
  have hlq:((List.range n).map (f q)).length=n:=by simp
  refine⟨[.slice (some ⟨b q,0,none⟩) ((List.range n).map (f q)).length (cp q)],rfl,⟨_,_,rfl,by rw [hlq];exact(h.rr q hc).2.2.2,akL (by omega) (f q) (fun k hk=>hf q k hc hk)⟩,fun u v hv=>?_⟩
  have hu:u=0:=by cases u with
   | zero=>rfl
   | succ u=>simp at hv
  subst hu
  have hv:Value.slice (some ⟨b q,0,none⟩) ((List.range n).map (f q)).length (cp q)=v:=by simpa using hv
  rw [← hv,hlq]
  have e:(⟨gm,0,none⟩:Addr).add (q*(Kd.slice 2 (Kd.int .i64)).sz+0)=⟨gm,q,none⟩:=by
   show (⟨gm,0,none⟩:Addr).add (q*1+0)=_
   rw [Nat.mul_one,Nat.add_zero,uK];try rw [Nat.zero_add]
  rw [e]
  exact h.row q hc
end
theorem alC {e base n' cap i:Nat} {W:World} {ok:Nat→Prop} {ad:Addr} {Ls:List (List Int)} (h:Kd.S (Kd.slice 2 (Kd.int .i64)) e W base ok (.slice (some ad) n' cap) Ls) (hi:i < n'): ∃A c,W.cell? (ad.add i)=some (.slice A (Ls.getD i []).length c)∧(Ls.getD i []).length≤c:=by
 obtain⟨wI,c,hcl,hM,hcc,_,_⟩:=Kd.K7 h ([]:List Int) (i:Int) (by omega) (by omega)
 rw [Int.toNat_natCast] at hM hcc
 obtain⟨v,hc,hR⟩:=hM
 subst hc
 have hv:=hcc 0 v rfl
 rw [show i*(Kd.slice 2 (Kd.int .i64)).sz+0=i from by show i*1+0=i;omega] at hv
 obtain⟨A,c,rfl⟩:=Kd.mE hR
 exact⟨A,c,hv,(Kd.lU hR).2.1⟩
theorem Dm.of {w:World} {e base:Nat} {ok:Nat→Prop} {v:Value} {M:List (List Int)} {n:Nat} (h:Kd.S (Kd.slice 2 (Kd.int .i64)) e w base ok v M) (hM:M.length=n) (hr: ∀x ∈ M,x.length=n) (hn:0 < n): ∃gm c b cp,v= .slice (some ⟨gm,0,none⟩) n c∧Dm w base gm n c b cp∧ok gm∧ ∀j,j < n→ok (b j):=by
 obtain⟨gm,c,rfl,hb,hl,cells,hc⟩:=Kd.IZ h (by omega)
 have hcap:=(Kd.qH h).2.1
 rw [hM] at hcap
 have rows: ∀j:Nat, ∃(p:Nat × Nat),j < n→w.cell? ⟨gm,j,none⟩=some (.slice (some ⟨p.1,0,none⟩) n p.2)∧base≤p.1∧p.1 < w.heap.size∧p.1≠gm∧n≤p.2∧(∀k,k < n→(∃x,w.cell? ⟨p.1,k,none⟩=some (.int .i64 x))∧w.frozen? ⟨p.1,k,none⟩=false)∧ok p.1:=fun j=>by
  by_cases hj:j < n
  ·have hlen:(M.getD j []).length=n:=by
    rw [List.getD_eq_getElem?_getD,List.getElem?_eq_getElem (by omega)]
    exact hr _ (List.getElem_mem _)
   obtain⟨A,cj,hcell,hcj⟩:=alC h (show j < M.length by omega)
   rw [uK,Nat.zero_add] at hcell
   obtain⟨g1,c1,e1,o1,n1,t1,x1,f1,b1,_⟩:=aan h (show j < M.length by omega) (by rw [uK,Nat.zero_add];exact hcell) (show 0 < (M.getD j []).length by omega)
   rw [hlen] at e1 hcell
   rw [e1] at hcell
   injection e1 with e1a e1b e1c
   refine⟨(g1,c1),fun _=>⟨hcell,b1,vk x1,fun q=>n1 (by rw [show g1=gm from q];simp [Value.ownBlock]),?_,fun k hk=>?_,o1⟩⟩
   ·show n≤c1
    omega
   ·obtain⟨g2,c2,e2,o2,n2,t2,x2,f2,b2,_⟩:=aan h (show j < M.length by omega) (by rw [uK,Nat.zero_add];exact hcell) (show k < (M.getD j []).length by omega)
    injection e2 with e3
    injection e3 with e3
    injection e3 with e3
    subst e3
    exact⟨⟨_,x2⟩,f2⟩
  ·exact⟨(0,0),fun q=>absurd q hj⟩
 obtain⟨f,hf⟩:=Classical.axiomOfChoice rows
 have hok:ok gm:=(Kd.Hr h).1 gm (by rw [hM];simp [Value.ownBlock])
 rw [hM]
 exact⟨gm,c,fun j=>(f j).1,fun j=>(f j).2,rfl,⟨⟨hb,hl⟩,hcap,fun j hj=>(hf j hj).1,fun j hj=>⟨(hf j hj).2.1,(hf j hj).2.2.1,(hf j hj).2.2.2.1,(hf j hj).2.2.2.2.1⟩,fun j k hj hk=>(hf j hj).2.2.2.2.2.1 k hk⟩,hok,fun j hj=>(hf j hj).2.2.2.2.2.2⟩
end Go.Proofs.YthmfdplckdijdaaGreat.Dr
end
section
namespace Go.Proofs.YthmfdplckdijdaaGreat.Dr
open Go.RowKit Wz.cw Wz.fX Wz.cX Ma Pr Lq
attribute [local go_sem] nV nT oF oD nC nB nU nS
theorem YV {w0 w:World} {g:Nat} (h:zO w0 w g) (hB:Below w0.heap.size w0 w) (n:Nat) (hn:n≤5) (hn0:0 < n) (most:Int):Calls Tryz.prog 82 #[.pointer (some ⟨g,0,none⟩), .int .i64 (n:Int), .int .i64 most] w fun e w'=> ∃gm c b cp,e= .returned (.slice (some ⟨gm,0,none⟩) n c)∧Dm w' w.heap.size gm n c b cp∧o7 w0 w g w':=by
 obtain⟨bs,a,hh,hI,hs⟩:=h
 obtain⟨r,⟨k,e⟩,p1,p2,p3⟩:=aeX hs hh most n hn
 refine(nh.calls k g bs a hh (n:Int) most r.1 r.2.1 r.2.2 w0 w hI hB (e k (Nat.le_refl _))).mono ?_
 rintro e w' ⟨v,rfl,hS,hI',hB',hK⟩
 obtain⟨gm,c,b,cp,rfl,hD,_⟩:=Dm.of hS p1 p2 hn0
 exact⟨gm,c,b,cp,rfl,hD,⟨⟨bs,_,_,hI',p3⟩,hB',hK⟩⟩
theorem ahE {w0 w:World} {g:Nat} (h:zO w0 w g) (hB:Below w0.heap.size w0 w) (n:Nat) (hn:n≤5) (hn0:0 < n):Calls Tryz.prog 47 #[.pointer (some ⟨g,0,none⟩), .int .i64 (n:Int)] w fun e w'=> ∃gm c b cp,e= .returned (.slice (some ⟨gm,0,none⟩) n c)∧Dm w' w.heap.size gm n c b cp∧o7 w0 w g w':=by
 have HM:=q_ (YV h hB n hn hn0 3);have HG:=q_ h.lt;have HE:=q_ hB.size;have HN:=q_ hn;clear h hB hn hn0
 go_enter Tryz.func47,Tryz.ntmps47
 go_wp2_with fail
 refine HM.out.mono ?_
 rintro e w1 ⟨gm,c,b,cp,rfl,hD,hS⟩;have DM:=q_ hD;have ST:=q_ hS;clear hD hS HM;go_wp2
 go_loopg [6] n (fun gg v6 wr=> ∃(i:Nat),i≤n∧n - i≤gg∧v6= .int .i64 (i:Int)∧aE (Dm wr w.heap.size gm n c b cp)∧aE (o7 w0 w g wr))
 case atStart=>exact⟨0,Nat.zero_le _,by omega,rfl,DM,ST⟩
 case round=>
  clear DM ST;obtain⟨i,hi',hg,rfl,DM,ST⟩:=hrel;have Xb:=q_ hg
  by_cases hlt:i < n
  ·have pZ:(i:Int) < (n:Int):=by omega
   have h0z:(0:Int)≤(i:Int):=by omega
   have hwi:IntKind.i64.wrap ((i:Int)+1)=((i+1:Nat):Int):=by rw [IntWalk.i64_in _ (by have:=HN.out;omega)];rfl
   have Bh:=q_ hwi;have mG:=q_ hlt;have hrow:=DM.out.row i hlt;obtain⟨⟨x,hx⟩,hfx⟩:=DM.out.ints i i hlt hlt;have hr:=DM.out.rr i hlt;have DM2:=q_ (DM.out.put hlt hlt 0);have ST2:=q_ (ST.out.set HE.out (b i) i (.int .i64 0) hr.1 (by have:=HG.out;omega));have HR:=q_ hr;clear hi' hg hlt DM ST hr;go_wp2
   clear hrow hx hfx
   generalize wr.setCell ⟨b i,i,none⟩ (.int .i64 0)=w2 at*
   go_loopg [8,9] n (fun gg v8 v9 wr2=> ∃(k:Nat) (s:Int),k≤n∧n - k≤gg∧v8= .int .i64 s∧v9= .int .i64 (k:Int)∧aE (Dm wr2 w.heap.size gm n c b cp)∧aE (o7 w0 w g wr2))
   case atStart=>exact⟨0,1,Nat.zero_le _,by omega,rfl,rfl,DM2,ST2⟩
   case round=>
    clear DM2 ST2;obtain⟨k,s,hk',hg2,rfl,rfl,DM,ST⟩:=hrel;have HG2:=q_ hg2
    by_cases hkn:k < n
    ·have ai3:(k:Int) < (n:Int):=by omega
     have h0k:(0:Int)≤(k:Int):=by omega
     have hwk:IntKind.i64.wrap ((k:Int)+1)=((k+1:Nat):Int):=by rw [IntWalk.i64_in _ (by have:=HN.out;omega)];rfl
     have Gf:=q_ hwk;have HKN:=q_ hkn;clear hk' hg2 hkn;go_wp2
     have hb:=mH (Below.refl wr.heap.size wr);replace ST:=q_ (ST.out.trans (o7.oy ST.out.src ST.out.below hb));replace DM:=q_ (DM.out.keep (mL.oy hb g none) HG.out);obtain⟨⟨x,hx⟩,hfx⟩:=DM.out.ints i k mG.out HKN.out;refine qx (n:=13) (S:=fun w'=>w'.cell? ⟨b i,k,none⟩=some (.int .i64 x)) (ds:= []) hx (fun hHeld=>?_)
     clear hb hx hfx
     generalize wr.drew=w3 at DM ST hHeld ⊢
     refine sB 0 30 1 31 2 32 3 33 ?_;refine rm 5 35 6 36 7 37 ?_;refine mg 4 34 ?_;refine mg 8 38 ?_;refine sB 9 39 10 40 11 41 12 8 ?_
     refine oA (by kernel_rfl) ?_
     clear hHeld;go_wp2
     all_goals (go_roundg (n - (k+1));(case measure=>have:=HG2.out;have:=HKN.out;omega);(case rel=>exact⟨k+1,_,HKN.out,by omega,rfl,by first | rfl | (rw [Gf.out]) | (simp [Gf.out]),DM,ST⟩))
    ·have ai3: ¬ (k:Int) < (n:Int):=by omega
     clear hk' hg2 hkn
     go_wp2_with fail
     refine(Cn ST.out.src ST.out.below 3).mono ?_
     rintro e w3 ⟨y,rfl,_,hS⟩;replace ST:=q_ (ST.out.trans hS);replace DM:=q_ (DM.out.keep hS.keep HG.out);obtain⟨⟨x,hx⟩,hfx⟩:=DM.out.ints i i mG.out mG.out;clear hS;go_wp2
     go_roundg (n - (i+1))
     case measure=>have:=Xb.out;have:=mG.out;omega
     case rel=>exact⟨i+1,mG.out,by omega,by first | rfl | (rw [Bh.out]) | (simp [Bh.out]),⟨DM.out.put mG.out mG.out _⟩,⟨ST.out.set HE.out (b i) i _ HR.out.1 (by have:=HG.out;have:=HR.out.1;omega)⟩⟩
  ·have pZ: ¬ (i:Int) < (n:Int):=by omega
   clear hi' hg hlt;go_wp2
   go_ret
   exact⟨_,_,rfl,⟨_,_,DM.out⟩,ST.out⟩
end Go.Proofs.YthmfdplckdijdaaGreat.Dr
end
section
namespace Go.Proofs.YthmfdplckdijdaaGreat.Dr
open Go.RowKit Wz.cw Wz.fX Wz.cX Ma Pr Lq
theorem vM {W:World} {base:Nat} {ok:Nat→Prop}: ∀xs:List Int,mV ((Kd.int .i64).M W base ok) (Kd.int .i64).sz xs (xs.map (fun x=>Value.int .i64 x))
 | []=>mV.none _ _
 | x::xs=>mV.one (show Kd.M (Kd.int .i64) _ _ _ x [.int .i64 x] from rfl) (vM xs)
theorem o7.lo {w0 wE W W1:World} {g:Nat} (h:o7 w0 wE g W) (hE:w0.heap.size≤wE.heap.size) (hg:g < wE.heap.size) (hb:Below wE.heap.size W W1):o7 w0 wE g W1:=
 ⟨h.src.keep (hb.block g hg),h.below.trans ⟨hb.os,hb.tape,hb.output,hb.size,fun i hi=>hb.block i (Nat.lt_of_lt_of_le hi hE)⟩,⟨Nat.le_trans h.keep.1 hb.size,fun i hi h1 h2=>(hb.block i hi).trans (h.keep.2 i hi h1 h2)⟩⟩
theorem Dm.grow {w w1:World} {lo gm n c:Nat} {b cp:Nat→Nat} (h:Dm w lo gm n c b cp) {row:Option Nat} (hg:w.grownBy w1 row) (hr:some gm≠row∧ ∀j,j < n→some (b j)≠row):Dm w1 lo gm n c b cp:=by
 have cell: ∀ {p:Addr} {v:Value},w.cell? p=some v→some p.block≠row→w1.cell? p=some v:=fun {p v} hp hn=>by
  have:=World.block_lt_of_cell? w _ hp
  rw [← hp];unfold World.cell?;rw [hg.block _ this hn]
 have VH: ∀ {p:Addr},p.block < w.heap.size→some p.block≠row→w1.frozen? p=w.frozen? p:=fun {p} hl hn=>by
  unfold World.frozen?;rw [hg.block _ hl hn]
 refine⟨⟨h.g0.1,Nat.lt_of_lt_of_le h.g0.2 hg.size⟩,h.cap,fun j hj=>cell (h.row j hj) hr.1,fun j hj=>?_,fun j k hj hk=>?_⟩
 ·have:=h.rr j hj;exact⟨this.1,Nat.lt_of_lt_of_le this.2.1 hg.size,this.2.2⟩
 ·obtain⟨⟨x,hx⟩,hf⟩:=h.ints j k hj hk
  exact⟨⟨x,cell hx (hr.2 j hj)⟩,(VH (h.rr j hj).2.1 (hr.2 j hj)).trans hf⟩
structure DQ (w0 w wr:World) (g g4 g5 n gm c:Nat) (b cp:Nat→Nat) (vq:Value):Prop where
 st:o7 w0 w g wr
 dm:Dm wr w.heap.size gm n c b cp
 b4:wr.heap[g4]?=some (.cells #[.slice none 0 0, .slice none 0 0] 34 (0,0))
 b5:wr.heap[g5]?=some (.cells #[.slice (some ⟨gm,0,none⟩) n c,vq] 34 (0,0))
 s4:w.heap.size≤g4∧g4≠g5∧g4≠gm∧ ∀j,j < n→g4≠b j
 s5:w.heap.size≤g5∧g5≠gm∧ ∀j,j < n→g5≠b j
 gl:g < w.heap.size
 el:w0.heap.size≤w.heap.size
def U5 (g g4 g5 n gm:Nat) (b:Nat→Nat) (k:Nat):Prop:=k≠g∧k≠g4∧k≠g5∧k≠gm∧ ∀j,j < n→k≠b j
structure DO (w0 w wr:World) (g g4 g5 n gm c:Nat) (b cp:Nat→Nat) (vq:Value) (Q:List Int):Prop where
 q:DQ w0 w wr g g4 g5 n gm c b cp vq
 rq:Kd.R (Kd.int .i64) 2 wr w.heap.size (U5 g g4 g5 n gm b) vq Q
section
variable {w0 w wr w1:World} {g g4 g5 n gm c:Nat} {b cp:Nat→Nat} {vq:Value} {Q:List Int} (h:DO w0 w wr g g4 g5 n gm c b cp vq Q)
include h
theorem DO.mv (hS:o7 w0 wr g w1):DO w0 w w1 g g4 g5 n gm c b cp vq Q:=by
 have h4:=h.q.s4;have h5:=h.q.s5;have hg:=h.q.gl
 exact⟨⟨h.q.st.trans hS,h.q.dm.keep hS.keep hg,hS.keep.blk h.q.b4 (by omega) (by simp),hS.keep.blk h.q.b5 (by omega) (by simp),h.q.s4,h.q.s5,h.q.gl,h.q.el⟩,Kd.wq h.rq hS.keep (fun k hk=>hk.1)⟩
theorem DO.below (hb:Below wr.heap.size wr w1):DO w0 w w1 g g4 g5 n gm c b cp vq Q:=h.mv (o7.oy h.q.st.src h.q.st.below hb)
theorem DO.put {j k:Nat} (hj:j < n) (hk:k < n) (x:Int):DO w0 w (wr.setCell ⟨b j,k,none⟩ (.int .i64 x)) g g4 g5 n gm c b cp vq Q:=by
 have h4:=h.q.s4;have h5:=h.q.s5;have hg:=h.q.gl;have hr:=h.q.dm.rr j hj
 exact⟨⟨h.q.st.set h.q.el (b j) k _ hr.1 (by omega),h.q.dm.put hj hk x,(Below.heap_setCell wr ⟨b j,k,none⟩ _ g4 (h4.2.2.2 j hj)).trans h.q.b4,(Below.heap_setCell wr ⟨b j,k,none⟩ _ g5 (h5.2.2 j hj)).trans h.q.b5,h4,h5,hg,h.q.el⟩,Kd.nN h.rq (p:=⟨b j,k,none⟩) (fun q hq=>hq.2.2.2.2 j hj) _⟩
theorem DO.fresh (k:Nat) (hk:wr.heap.size≤k):U5 g g4 g5 n gm b k:=by
 have l4:=pq h.q.b4;have l5:=pq h.q.b5;have hg:=h.q.gl;have hs:=h.q.st.keep.1;have hm:=h.q.dm.g0
 exact⟨by omega,by omega,by omega,by omega,fun j hj=>by have:=(h.q.dm.rr j hj).2.1;omega⟩
theorem DO.grow (hg:wr.grownBy w1 vq.ownBlock) (hb:Below w.heap.size wr w1):DQ w0 w w1 g g4 g5 n gm c b cp vq:=by
 have hn: ∀k, ¬ U5 g g4 g5 n gm b k→some k≠vq.ownBlock:=fun k hk e=>hk (h.rq.1 k e.symm)
 refine⟨h.q.st.lo h.q.el h.q.gl hb,h.q.dm.grow hg ⟨hn _ (fun q=>q.2.2.2.1 rfl),fun j hj=>hn _ (fun q=>q.2.2.2.2 j hj rfl)⟩,m8 h.q.b4 hg (hn _ (fun q=>q.2.1 rfl)),m8 h.q.b5 hg (hn _ (fun q=>q.2.2.1 rfl)),h.q.s4,h.q.s5,h.q.gl,h.q.el⟩
end
theorem DQ.store {w0 w w1:World} {g g4 g5 n gm c:Nat} {b cp:Nat→Nat} {vq v1:Value} {Q:List Int} (h:DQ w0 w w1 g g4 g5 n gm c b cp vq) (hr:Kd.R (Kd.int .i64) 2 w1 w.heap.size (U5 g g4 g5 n gm b) v1 Q):DO w0 w (w1.setCell ⟨g5,1,none⟩ v1) g g4 g5 n gm c b cp v1 Q:=by
 have h4:=h.s4;have h5:=h.s5;have hg:=h.gl
 exact⟨⟨h.st.set h.el g5 1 _ h5.1 (by omega),h.dm.set h5.2.1 (fun j hj=>h5.2.2 j hj),(Below.heap_setCell w1 ⟨g5,1,none⟩ _ g4 h4.2.1).trans h.b4,mD h.b5 1 v1 rfl,h4,h5,hg,h.el⟩,Kd.nN hr (p:=⟨g5,1,none⟩) (fun q hq=>hq.2.2.1) _⟩
theorem DO.new {w0 w w1 w2 w3:World} {g g4 g5 n gm c:Nat} {b cp:Nat→Nat} {vq:Value} {Q:List Int} (hE:w0.heap.size≤w.heap.size) (hg:g < w.heap.size) (h4:w.heap.size≤g4) (hl4:g4 < w1.heap.size) (st:o7 w0 w g w1) (hw1:w.heap.size≤w1.heap.size) (hS:o7 w0 w1 g w2) (dm:Dm w2 w1.heap.size gm n c b cp) (b4:w1.heap[g4]?=some (.cells #[.slice none 0 0, .slice none 0 0] 34 (0,0))) (hb:Below w2.heap.size w2 w3) (hr:Kd.R (Kd.int .i64) 2 w3 w2.heap.size (fun _=>True) vq Q) (h5:w2.heap.size≤g5) (cM:w3.heap[g5]?=some (.cells #[.slice none 0 0, .slice none 0 0] 34 (0,0))) (hq5: ∀k,vq.ownBlock=some k→k≠g5):
  DO w0 w ((w3.setCell ⟨g5,0,none⟩ (.slice (some ⟨gm,0,none⟩) n c)).setCell ⟨g5,1,none⟩ vq) g g4 g5 n gm c b cp vq Q:=by
 have s2:=hS.keep.1
 have ge:=fun k hk=>Kd.o8 hr k hk
 have hS3:o7 w0 w g w3:=(st.trans hS).trans (o7.oy hS.src hS.below hb)
 have dm3:=(dm.keep (mL.oy hb g none) (by omega)).down hw1
 have g0:=dm.g0
 have rr:=dm.rr
 have e5:g5≠gm∧ ∀j,j < n→g5≠b j:=⟨by omega,fun j hj=>by have:=rr j hj;omega⟩
 have e4:g4≠g5∧g4≠gm∧ ∀j,j < n→g4≠b j:=⟨by omega,by omega,fun j hj=>by have:=rr j hj;omega⟩
 have b43:=ke (hS.keep.blk b4 (by omega) (by simp)) hb
 have hok:Kd.R (Kd.int .i64) 2 w3 w.heap.size (U5 g g4 g5 n gm b) vq Q:=by
  refine Kd.ng (Kd.fY (Kd.q5 rfl hr) (fun k hk=>?_)) (by omega)
  have:=ge k hk.symm
  exact⟨by omega,by omega,hq5 k hk.symm,by omega,fun j hj=>by have:=rr j hj;omega⟩
 refine⟨⟨(hS3.set hE g5 0 _ (by omega) (by omega)).set hE g5 1 _ (by omega) (by omega),(dm3.set e5.1 e5.2).set e5.1 e5.2,?_,mD (mD cM 0 _ rfl) 1 _ rfl,⟨h4,e4⟩,⟨by omega,e5⟩,hg,hE⟩,?_⟩
 ·exact(Below.heap_setCell _ ⟨g5,1,none⟩ _ g4 e4.1).trans ((Below.heap_setCell w3 ⟨g5,0,none⟩ _ g4 e4.1).trans b43)
 ·exact Kd.nN (Kd.nN hok (p:=⟨g5,0,none⟩) (fun q hq=>hq.2.2.1) _) (p:=⟨g5,1,none⟩) (fun q hq=>hq.2.2.1) _
theorem DO.rows {w0 w wr w2:World} {g g4 g5 n gm c wJ c2:Nat} {b cp b2 y9:Nat→Nat} {vq:Value} {Q:List Int} (h:DO w0 w wr g g4 g5 n gm c b cp vq Q) (hS:o7 w0 wr g w2) (hd:Dm w2 wr.heap.size wJ n c2 b2 y9):DO w0 w (w2.setCell ⟨g5,0,none⟩ (.slice (some ⟨wJ,0,none⟩) n c2)) g g4 g5 n wJ c2 b2 y9 vq Q:=by
 have hm:=h.mv hS
 have h4:=h.q.s4;have h5:=h.q.s5;have hg:=h.q.gl
 have l4:=pq h.q.b4
 have l5:=pq h.q.b5
 have hk:=h.q.st.keep.1
 have old:Kd.R (Kd.int .i64) 2 w2 w.heap.size (U5 g g4 g5 n wJ b2) vq Q:=by
  refine Kd.fY (Kd.q5 rfl hm.rq) (fun k hk=>?_)
  have ho:=h.rq.1 k hk.symm
  have hl:=Kd.qw h.rq k hk.symm
  refine⟨ho.1,ho.2.1,ho.2.2.1,?_,fun j hj=>?_⟩
  ·have:=hd.g0.1;omega
  ·have:=(hd.rr j hj).1;omega
 have dq:DQ w0 w (w2.setCell ⟨g5,0,none⟩ (.slice (some ⟨wJ,0,none⟩) n c2)) g g4 g5 n wJ c2 b2 y9 vq:=by
  have hd5:g5≠wJ∧ ∀j,j < n→g5≠b2 j:=⟨by have:=hd.g0.1;omega,fun j hj=>by have:=(hd.rr j hj).1;omega⟩
  have hset:=hd.set (d:=g5) (i:=0) (v:= .slice (some ⟨wJ,0,none⟩) n c2) hd5.1 hd5.2
  refine⟨hm.q.st.set h.q.el g5 0 _ h5.1 (by omega),⟨⟨Nat.le_trans hk hset.g0.1,hset.g0.2⟩,hset.cap,hset.row,fun j hj=>?_,hset.ints⟩,(Below.heap_setCell w2 ⟨g5,0,none⟩ _ g4 h4.2.1).trans hm.q.b4,mD hm.q.b5 0 _ rfl,⟨h4.1,h4.2.1,by have:=hd.g0.1;omega,fun j hj=>by have:=(hd.rr j hj).1;omega⟩,⟨h5.1,hd5⟩,hg,h.q.el⟩
  have:=hset.rr j hj
  exact⟨Nat.le_trans hk this.1,this.2⟩
 exact⟨dq,Kd.nN old (p:=⟨g5,0,none⟩) (fun q hq=>hq.2.2.1) _⟩
end Go.Proofs.YthmfdplckdijdaaGreat.Dr
end
section
namespace Go.Proofs.YthmfdplckdijdaaGreat.Dr
open Go.RowKit Wz.cw Wz.fX Wz.cX Ma Pr Lq
def Prb (w0 w:World) (g n:Nat) (e:Value) (w':World):Prop:= ∃gm c b cp A c1 Q,e= .agg #[.slice (some ⟨gm,0,none⟩) n c, .slice A n c1]∧Q.length=n∧Dm w' w.heap.size gm n c b cp∧Kd.R (Kd.int .i64) 2 w' w.heap.size (fun k=>k≠g∧k≠gm∧ ∀j,j < n→k≠b j) (.slice A n c1) Q∧o7 w0 w g w'
theorem VT {w0 w:World} {g:Nat} (h:zO w0 w g) (hB:Below w0.heap.size w0 w) (n:Nat) (hn:n≤5) (hn0:0 < n):Calls Tryz.prog 120 #[.pointer (some ⟨g,0,none⟩), .int .i64 (n:Int)] w fun e w'=> ∃v,e= .returned v∧Prb w0 w g n v w':=by
 have ST:=q_ (o7.refl h hB);have HG:=q_ h.lt;have HE:=q_ hB.size;have HN:=q_ hn;have uq:=q_ hn0;clear h hB hn hn0
 go_enter Tryz.func120,Tryz.ntmps120
 go_wp2_with (first | ((with_reducible refine dg (N:=4) rfl ?_);refine nR 4 #[.slice none 0 0, .slice none 0 0] 34 ?_;intro g4 hg w2 cM hb;have G4:=q_ (show w.heap.size≤g4 by rw [hg];exact Nat.le_refl _);have B4:=q_ cM;replace ST:=q_ (ST.out.trans (o7.oy ST.out.src ST.out.below hb));clear hg cM hb) | ((with_reducible refine dg (N:=14) rfl ?_);refine Kd.tu (Kd.int .i64) _ 2 ?hg (N:=14) ?hd (xs:=([1,2,3,9,20]:List Int)) (inner:= [.int .i64 1, .int .i64 2, .int .i64 3, .int .i64 9, .int .i64 20]) (ok:=fun _=>True) (oC:=fun _=>True) ?hr ?hp (fun _ hk=>hk) trivial (Below.refl _ _) (Nat.le_refl _) (by simp) ?_;(case hd=>rfl);(case hg=>rfl);(case hr=>first | (go_simp;done) | (go_simp;rfl));(case hp=>exact vM [1,2,3,9,20]);intro DH w3 ho hb hg_ om;obtain⟨g14,tI,rfl,ajf,ano,_⟩:=Kd.rX ho (by simp);have G14:=q_ (Nat.lt_of_lt_of_le ST.out.src.lt ajf);replace ST:=q_ (ST.out.trans (o7.oy ST.out.src ST.out.below hb));replace B4:=q_ (ke B4.out hb);have R14:=q_ ho;clear hg_ om ho hb ajf ano))
 refine(Cm ST.out.src ST.out.below _ tI [1,2,3,9,20] (Kd.lU R14.out).2.2 (Kd.lU R14.out).2.1 (fun ad e _=>by injection e with e;subst e;show g14≠g;have:=G14.out;omega) (by decide)).mono ?_
 rintro e w4 ⟨x,rfl,_,hS⟩;replace ST:=q_ (ST.out.trans hS);replace B4:=q_ (hS.keep.blk B4.out (by have:=G4.out;have:=HG.out;omega) (by simp));clear hS R14 G14
 go_wp2_with fail
 refine(YV ST.out.src ST.out.below n HN.out uq.out x).mono ?_
 rintro e w5 ⟨gm,c,b,cp,rfl,hD,hS⟩;have DM:=q_ hD;have S5:=q_ hS;clear hD hS
 go_wp2_with (first | ((with_reducible refine dg (N:=17) rfl ?_);refine Kd.tu (Kd.int .i64) _ 2 ?hg (N:=17) ?hd (xs:=([]:List Int)) (inner:= []) (ok:=fun _=>True) (oC:=fun _=>True) ?hr ?hp (fun _ hk=>hk) trivial (Below.refl _ _) (Nat.le_refl _) (by simp) ?_;(case hd=>rfl);(case hg=>rfl);(case hr=>first | (go_simp;done) | (go_simp;rfl));(case hp=>exact vM []);intro v17 w6 ho hb hg_ om;have R17:=q_ ho;have B17:=q_ hb;obtain⟨Zr,uD,rfl⟩:=Kd.mE ho;clear hg_ om ho hb) | ((with_reducible refine dg (N:=5) rfl ?_);refine nR 5 #[.slice none 0 0, .slice none 0 0] 34 ?_;intro g5 hg w7 cM hb;have G5:=q_ (show w5.heap.size≤g5 by rw [hg];exact B17.out.size);have Q5:=q_ (fun k (hk:(Value.slice Zr ([]:List Int).length uD).ownBlock=some k)=>(show k≠g5 by rw [hg];have:=Kd.qw R17.out k hk;omega));have B5:=q_ cM;have B57:=q_ (eE B17.out hb);replace R17:=q_ (Kd.oQ R17.out hb);have hx0:=lS B5 0;have hx1:=lS B5 1;have QG:=gE cM 0;have KV:=gE cM 1;clear hg cM hb) | ((with_reducible refine q8 (t:=34) (p:=5) rfl ?_);refine DK 34 5 ((w7.setCell ⟨g5,0,none⟩ (.slice (some ⟨gm,0,none⟩) n c)).setCell ⟨g5,1,none⟩ (.slice Zr ([]:List Int).length uD)) ?_;intro w8 hw;have D:=q_ (DO.new HE.out HG.out G4.out (pq B4.out) ST.out ST.out.keep.1 S5.out DM.out B4.out B57.out R17.out G5.out B5.out Q5.out);rw [← hw] at D;clear hw hx0 hx1 QG KV))
 clear ST S5 DM B4 G4 R17 B17 G5 Q5 B5 B57;refine(Cn D.out.q.st.src D.out.q.st.below 4).mono ?_
 rintro e w9 ⟨y,rfl,_,hS⟩;replace D:=q_ (D.out.mv hS);have HL:=q_ D.out.q.gl;clear hS
 go_upto_block 0 with (fail)
 go_cut [5] (fun v5 wc=>v5= .pointer (some ⟨g5,0,none⟩)∧ ∃gm c b cp,aE (DO w0 w wc g g4 g5 n gm c b cp (.slice Zr 0 uD) []))
 case first=>
  by_cases y0:y=0
  ·have y0b:(y==0)=true:=by simpa using y0
   clear y0
   go_wp2_with fail
   refine(ahE D.out.q.st.src D.out.q.st.below n HN.out uq.out).mono ?_
   rintro e tE ⟨wJ,c2,b2,y9,rfl,hD,hS⟩;have D2:=q_ (D.out.rows hS hD);have B5:=q_ (D.out.mv hS).q.b5;have hx0:=lS B5 0;have QG:=gE B5.out 0;clear hD hS D;go_wp2
   go_meet
   case rel=>exact⟨rfl,_,_,_,_,D2⟩
  ·have y0b:(y==0)=false:=by simpa using y0
   clear y0
   by_cases y1:y=1
   ·have y1b:(y==1)=true:=by simpa using y1
    clear y1;go_wp2
    go_loopg [6] n (fun gg v6 wr=> ∃(i:Nat),i≤n∧n - i≤gg∧v6= .int .i64 (i:Int)∧aE (DO w0 w wr g g4 g5 n gm c b cp (.slice Zr 0 uD) []))
    case atStart=>exact⟨0,Nat.zero_le _,by omega,rfl,D⟩
    case round=>
     clear D;obtain⟨i,hi',hg,rfl,D⟩:=hrel;have Xb:=q_ hg
     by_cases hlt:i < n
     ·have pZ:(i:Int) < (n:Int):=by omega
      have h0z:(0:Int)≤(i:Int):=by omega
      have hwi:IntKind.i64.wrap ((i:Int)+1)=((i+1:Nat):Int):=by rw [IntWalk.i64_in _ (by have:=HN.out;omega)];rfl
      have Bh:=q_ hwi;have mG:=q_ hlt;have hx0:=lS (q_ D.out.q.b5) 0;have hrow:=D.out.q.dm.row i hlt;clear hi' hg hlt;go_wp2
      clear hx0 hrow
      go_loopg [8] i (fun gg v8 wr=> ∃(k:Nat),k≤i∧i - k≤gg∧v8= .int .i64 (k:Int)∧aE (DO w0 w wr g g4 g5 n gm c b cp (.slice Zr 0 uD) []))
      case atStart=>exact⟨0,Nat.zero_le _,by omega,rfl,D⟩
      case round=>
       clear D;obtain⟨k,hk',hg2,rfl,D⟩:=hrel;have HG2:=q_ hg2
       by_cases hki:k < i
       ·have anq:(k:Int) < (i:Int):=by omega
        have ai3:(k:Int) < (n:Int):=by omega
        have h0k:(0:Int)≤(k:Int):=by omega
        have hwk:IntKind.i64.wrap ((k:Int)+1)=((k+1:Nat):Int):=by rw [IntWalk.i64_in _ (by have:=HN.out;omega)];rfl
        have Gf:=q_ hwk;have HKI:=q_ hki;have hx0:=lS (q_ D.out.q.b5) 0;have hrow:=D.out.q.dm.row k (by have:=mG.out;omega);obtain⟨⟨x1,hx1⟩,_⟩:=D.out.q.dm.ints k i (by have:=mG.out;omega) mG.out;obtain⟨⟨x2,hx2⟩,asY⟩:=D.out.q.dm.ints i k mG.out (by have:=mG.out;omega);clear hk' hg2 hki;go_wp2
        go_roundg (i - (k+1))
        case measure=>have:=HG2.out;have:=HKI.out;omega
        case rel=>exact⟨k+1,HKI.out,by omega,by first | rfl | (rw [Gf.out]) | (simp [Gf.out]),⟨D.out.put mG.out (by have:=mG.out;have:=HKI.out;omega) _⟩⟩
       ·have anq: ¬ (k:Int) < (i:Int):=by omega
        clear hk' hg2 hki;go_wp2
        go_roundg (n - (i+1))
        case measure=>have:=Xb.out;have:=mG.out;omega
        case rel=>exact⟨i+1,mG.out,by omega,by first | rfl | (rw [Bh.out]) | (simp [Bh.out]),D⟩
     ·have pZ: ¬ (i:Int) < (n:Int):=by omega
      clear hi' hg hlt;go_wp2
      go_meet
      case rel=>exact⟨rfl,_,_,_,_,D⟩
   ·have y1b:(y==1)=false:=by simpa using y1
    clear y1;go_wp2
    go_meet
    case rel=>exact⟨rfl,_,_,_,_,D⟩
 case rest=>
  clear D;obtain⟨rfl,gm,c,b,cp,D⟩:=hcut
  go_wp2_with (first | ((with_reducible refine dg (N:=56) rfl ?_);refine Kd.tu (Kd.int .i64) _ 2 ?hg (N:=56) ?hd (xs:=([1,2,5,20,100]:List Int)) (inner:= [.int .i64 1, .int .i64 2, .int .i64 5, .int .i64 20, .int .i64 100]) (ok:=fun _=>True) (oC:=fun _=>True) ?hr ?hp (fun _ hk=>hk) trivial (Below.refl _ _) (Nat.le_refl _) (by simp) ?_;(case hd=>rfl);(case hg=>rfl);(case hr=>first | (go_simp;done) | (go_simp;rfl));(case hp=>exact vM [1,2,5,20,100]);intro v56 tX ho hb hg_ om;obtain⟨g56,Y1,rfl,ajb,ani,_⟩:=Kd.rX ho (by simp);have G56:=q_ (Nat.lt_of_lt_of_le D.out.q.st.src.lt ajb);replace D:=q_ (D.out.below hb);have R56:=q_ ho;clear hg_ om ho hb ajb ani))
  refine(Cm D.out.q.st.src D.out.q.st.below _ Y1 [1,2,5,20,100] (Kd.lU R56.out).2.2 (Kd.lU R56.out).2.1 (fun ad e _=>by injection e with e;subst e;show g56≠g;have:=G56.out;omega) (by decide)).mono ?_
  rintro e Ah ⟨mo,rfl,_,hS⟩;replace D:=q_ (D.out.mv hS);clear hS R56 G56;go_wp2
  go_loopg [10] n (fun gg v10 wr=> ∃(i:Nat) (A:Option Addr) (q:Nat) (Q:List Int),i≤n∧n - i≤gg∧v10= .int .i64 (i:Int)∧Q.length=i∧aE (DO w0 w wr g g4 g5 n gm c b cp (.slice A i q) Q))
  case atStart=>exact⟨0,_,_, [],Nat.zero_le _,by omega,rfl,rfl,D⟩
  case round=>
   clear D;obtain⟨i,A,q,Q,hi',hg,rfl,hQl,D⟩:=hrel;have Xb:=q_ hg;have HQ:=q_ hQl
   by_cases hlt:i < n
   ·have pZ:(i:Int) < (n:Int):=by omega
    have hwi:IntKind.i64.wrap ((i:Int)+1)=((i+1:Nat):Int):=by rw [IntWalk.i64_in _ (by have:=HN.out;omega)];rfl
    have Bh:=q_ hwi;have mG:=q_ hlt;clear hi' hg hlt hQl;go_wp2
    replace D:=q_ (D.out.below (mH (Below.refl wr.heap.size wr)));refine qx (n:=9) (S:=fun w'=>w'.cell? ⟨g5,1,none⟩=some (.slice A i q)) (ds:= [8]) (lS (q_ D.out.q.b5) 1) (fun hHeld=>?_)
    generalize wr.drew=Cg at D hHeld ⊢
    refine rm 0 63 2 65 3 66 ?_;refine mg 1 64 ?_
    refine pz 4 (some 67) (fun K hK=>?_)
    refine IE Tryz.func129 #[.pointer (some ⟨g,0,none⟩), .int .i64 mo] ?_
    refine(aiI D.out.q.st.src D.out.q.st.below mo).mono ?_
    rintro e vu ⟨x,rfl,hS⟩;refine⟨_,rfl,?_⟩
    replace D:=q_ (D.out.mv hS);clear hS hHeld;refine hK.out _ _ (lS (q_ D.out.q.b5) 1) (fun hHeld=>?_)
    clear hK K;refine AU ?_
    refine pz 5 (some 68) (fun K hK=>?_)
    refine X5 ?_
    refine hK.out _ _ ((bp (mY D.out.q.b5 _) 1).trans rfl) (fun hHeld=>?_)
    clear hK K;refine AU ?_
    refine pz 6 (some 69) (fun K hK=>?_)
    refine Kd.uX (Kd.int .i64) (w0:=vu) w.heap.size (by rfl) (.tmp 64) (.tmp 68) 24 2 (.int .i64 0) 8 rfl Tryz.underlying24 q6 rfl (by decide) (by omega) (.slice A i q) Q x [.int .i64 x] (U5 g g4 g5 n gm b) (fun _=>False) rfl rfl rfl (fun _ hk=>hk.elim) D.out.fresh D.out.rq (Below.refl _ _) D.out.q.st.keep.1 ?aL ?_
    case aL=>have:=HN.out;have:=mG.out;have:=HQ.out;omega
    intro v11 Jx ho hb hg hat;have DD:=q_ (D.out.grow hg hb);have RQ:=q_ ho;clear ho hb hg hat hHeld D;obtain⟨A9,c9,e9⟩:=Kd.mE RQ.out;have hl9:(Q++ [x]).length=i+1:=by have:=HQ.out;simp;omega
    rw [hl9] at e9;subst e9;have Hu:=q_ hl9;clear hl9;refine hK.out _ _ (lS (q_ DD.out.b5) 1) (fun hHeld=>?_)
    clear hK K;refine JD 69 ?_
    refine lX 7 70 ?_
    have hx1:=lS (q_ DD.out.b5) 1;have KV:=gE DD.out.b5 1;refine DU 8 none (fun K hK=>?_)
    refine rL (w1:=?_) (by rfl) rfl ?_ ?_
    rotate_left
    ·go_simp
     rfl
    refine hK.out _ _ ?_
    clear hK K hHeld hx1 KV;refine oA (by kernel_rfl) ?_
    have D2:=q_ (DD.out.store RQ.out);go_wp2
    go_roundg (n - (i+1))
    case measure=>have:=Xb.out;have:=mG.out;omega
    case rel=>exact⟨i+1,_,_,_,mG.out,by omega,by first | rfl | (rw [Bh.out]) | (simp [Bh.out]),Hu.out,D2⟩
   ·have pZ: ¬ (i:Int) < (n:Int):=by omega
    obtain rfl:n=i:=by omega
    have hx0:=lS (q_ D.out.q.b5) 0;have hx1:=lS (q_ D.out.q.b5) 1;have hy0:=lS (q_ D.out.q.b4) 0;have hy1:=lS (q_ D.out.q.b4) 1;have asX:=gE D.out.q.b4 0;have asW:=gE D.out.q.b4 1;clear hi' hg hlt;go_wp2
    refine bodyPost_ret (results_cell_row rfl _ _ g4 34 #[.slice (some ⟨gm,0,none⟩) n c, .slice A n q] (0,0) _ rfl (mD (mD D.out.q.b4 0 _ rfl) 1 _ rfl) Tryz.underlying34 rfl (by kernel_rfl)) rfl ?_
    have h4:=D.out.q.s4;have hg4:=D.out.q.gl;refine⟨_,rfl,gm,c,b,cp,A,q,Q,rfl,HQ.out,(D.out.q.dm.set h4.2.2.1 h4.2.2.2).set h4.2.2.1 h4.2.2.2,?_,(D.out.q.st.set HE.out g4 0 _ h4.1 (by omega)).set HE.out g4 1 _ h4.1 (by omega)⟩
    exact Kd.fY (Kd.nN (Kd.nN D.out.rq (p:=⟨g4,0,none⟩) (fun k hk=>hk.2.1) _) (p:=⟨g4,1,none⟩) (fun k hk=>hk.2.1) _) (fun k hk=>⟨hk.1,hk.2.2.2⟩)
end Go.Proofs.YthmfdplckdijdaaGreat.Dr
end
section
namespace Go.Proofs.YthmfdplckdijdaaGreat.Pr
open Go.RowKit Wz.cw Wz.fX Wz.cX
attribute [local go_sem] nV nT oF oD nC nB nU nS
def nQ.l0:Nat→Int→List (List Int)→List Int→List (List Int)→List Int→Option ((List (List Int)) × List Int)
 | 0,_,_,_,_,_=>none
 | k+1,x4,aa,ag,ae,af=>if x4 < (aa.length:Int) then(if 0≤x4 then((qR.f (d5 aa x4)).bind fun ah=>(if ae.length < 5864062014805 then(nQ.l0 k (wrap64 (x4+1)) aa ag (ae++ [ah]) af) else(none))) else(none)) else(some (ae,af))
def nQ.f (k:Nat) (ae:List (List Int)) (aa:List Int):Option ((List (List Int)) × List Int):=(qR.f aa).bind fun af=>(nQ.l0 k 0 ae aa (([]:List (List Int))) af)
def nQ.T5:Bool × List (List Nat × List Nat):=(true, [([], []),([0], [0]),([], []),([2], [2]),([], []),([3,4], [3,4]),([5], [5]),([6], [6]),([7], [7]),([1,8,7], [1,8]),([0,1,2,3,4,5,6,7,8,9], []),([10,9,9,0,1,2,3,4,5,6,7,8,9], [9,10])])
def nQ.B5:List Nat:= [0,1,0,4,0,28,60,124,252,511,1023,2047]
theorem nQ.xO:sy .any (opsOf Tryz.f119 5)=nQ.T5:=by kernel_rfl
theorem nQ.vo:tD nQ.T5.2 nQ.B5=true:=by kernel_rfl
theorem nQ.calls (k:Nat) (aV:Option Addr) (aK:Nat) (ak:List (List Int)) (aI:Option Addr) (aJ:Nat) (au:List Int) (r1:List (List Int)) (r2:List Int) (w:World) (bA:Kd.C (Kd.slice 2 (Kd.int .i64)) w aV ak.length ak) (bC:ak.length≤aK) (bD:Kd.C (Kd.int .i64) w aI au.length au) (bE:au.length≤aJ) (h:nQ.f k ak au=some (r1,r2)):
  Calls Tryz.prog 119 #[.agg #[.slice aV ak.length aK, .slice aI au.length aJ]] w fun e w'=> ∃qg v1_:Value,e= .returned (.agg #[qg,v1_])∧Kd.S (Kd.slice 2 (Kd.int .i64)) 24 w' w.heap.size (fun k_=>some k_≠(v1_:Value).ownBlock) qg r1∧Kd.R (Kd.int .i64) 2 w' w.heap.size (fun _=>True) v1_ r2∧Below w.heap.size w w':=by
 have CY:=Tryz.underlying34;have mR:=q_ bA;have oh:=q_ bC;clear bA bC;have ox:=q_ bD;have oR:=q_ bE;clear bD bE;have HB:=q_ (Below.refl w.heap.size w);have H:((qR.f au).bind fun aq=>(nQ.l0 k 0 ak au (([]:List (List Int))) aq))=some (r1,r2):=h;clear h;obtain⟨aW,hy⟩: ∃y_:List (List Int),y_=(([]:List (List Int))):=⟨_,rfl⟩
 replace H:((qR.f au).bind fun aq=>(nQ.l0 k 0 ak au aW aq))=some (r1,r2):=hh_;have bF:=q_ hy;clear hy;replace H:=Option.bind_eq_some_iff.mp H;obtain⟨aq,E9,H⟩:=H;replace H:(nQ.l0 k 0 ak au aW aq)=some (r1,r2):=H;have A2:=q_ E9;clear E9;have H':=q_ H;clear H
 go_enter Tryz.func119,Tryz.ntmps119
 go_wp2_with (first | ((with_reducible refine dg (N:=1) rfl ?_);refine nR 1 #[.slice aV ak.length aK, .slice aI au.length aJ] 34 ?_;intro av hg w3 cM hb;have aa:=q_ (cM);have cO:=mq w hg;have cQ:=mq w hg;replace HB:=lT hb;clear hb cM hg) | ((with_reducible refine dg (N:=2) rfl ?_);refine nR 2 #[.slice none 0 0, .slice none 0 0] 34 ?_;intro az hg w4 cM hb;have ag:=q_ (cM);have cT:=mq w hg;have cU:=mq w hg;have aM:=r7 hg aa;have aN:=rY hg aa;replace aa:=lZ aa hb;replace HB:=lT hb;clear hb cM hg) | ((with_reducible refine dg (N:=5) rfl ?_);refine Kd.agn (Kd.slice 2 (Kd.int .i64)) _ 24 ?hg (N:=5) ?hd (xs:=([]:List (List Int))) (inner:= []) (ok:=fun _=>True) (oC:=fun _=>True) ?hr ?hp (fun _ hk=>hk) trivial (Below.refl _ _) (Nat.le_refl _) (by simp) ?_;(case hd=>rfl);(case hg=>rfl);(case hr=>first | (go_simp;done) | (go_simp;rfl));(case hp=>exact(mV.none _ _));intro dC w5 ho6 hb hg_ om;clear hg_ om;(first | rw [← bF.out] at ho6 | (simp only [Int.reduceToNat] at ho6;rw [← bF.out] at ho6));have aU:=q_ (Kd.oP ho6 oI);replace aa:=lZ aa hb;replace ag:=lZ ag hb;replace HB:=lT hb;clear hb ho6;have dD:=aM.out;have dE:=aN.out;obtain⟨bM,bN,bO,bP⟩:=nF aa) | ((with_reducible refine d8 (f:=137) rfl ?_);refine oJ 8 Tryz.func137 #[.slice aI au.length aJ] ?_;(with_reducible refine(qR.calls _ _ au aq _ ?ba ?bg A2.out).mono ?_);(case ba=>exact ni ox.out HB.out);(case bg=>exact oR.out);rintro e w9 ⟨dF,rfl,ho0,hb⟩;refine⟨_,rfl,?_⟩;replace aU:=q_ (Kd.tA (nw aU.out) (Kd.o8 ho0) hb);have aY:=q_ (Kd.ng ho0 oI);replace aa:=lZ aa hb;replace ag:=lZ ag hb;replace HB:=lT hb;(try clear hb);(try clear hk);(try clear ho0);obtain⟨aD,aG,bX⟩:=Kd.mE aY.out;subst bX;obtain⟨bh,bi,bY⟩:=Kd.nk aU.out;subst bY) | ((with_reducible refine dg (N:=3) rfl ?_);refine nR 3 #[.slice none 0 0, .slice none 0 0] 34 ?_;intro aj hg tX cM hb;replace aU:=q_ (Kd.mQ (nw aU.out) hb);replace aY:=rK aY hb;have ae:=q_ (cM);have cV:=mq w hg;have cW:=mq w hg;have aA:=r7 hg aa;have aH:=rY hg aa;have aC:=r7 hg ag;have aT:=rY hg ag;replace aa:=lZ aa hb;replace ag:=lZ ag hb;replace HB:=lT hb;clear hb cM hg;have cZ:=aH.out;have da:=aA.out;have db:=aT.out;have df:=aC.out;obtain⟨bI,bJ,bK,bL⟩:=nF ae))
 go_loopg [4] k (fun kq v4 w'=> ∃(ay:Int) (ah:List (List Int)) (aw:Value),v4= .int .i64 ay∧aE (nQ.l0 kq ay ak au ah aq=some (r1,r2))∧aE (kq≤k)∧aE (Kd.S (Kd.slice 2 (Kd.int .i64)) 24 w' w.heap.size (fun k_=>some k_≠((.slice aD aq.length aG):Value).ownBlock) aw ah)∧aE (Kd.R (Kd.int .i64) 2 w' w.heap.size (fun _=>True) (.slice aD aq.length aG) aq)∧aE (w'.heap[av]?=some (.cells #[(.slice aV ak.length aK),(.slice aI au.length aJ)] 34 (0,0)))∧aE (w'.heap[az]?=some (.cells #[(.slice none 0 0),(.slice none 0 0)] 34 (0,0)))∧aE (w'.heap[aj]?=some (.cells #[aw,(.slice aD aq.length aG)] 34 (0,0)))∧aE (Below w.heap.size w w'))
 case atStart=>exact⟨(0),(aW),(.slice bh aW.length bi),nM,H',⟨Nat.le_refl _⟩,⟨kS_ (Qk aU.out ae.out) (fun _ hk=>hk.1.2)⟩,⟨kR_ (H7 aY.out ae.out) (fun _ hk=>trivial)⟩,⟨oX⟩,⟨oX⟩,⟨oX⟩,⟨hb_⟩⟩
 case round=>
  clear H';(try clear bI);(try clear bJ);(try clear bM);(try clear bN);(try clear bK);(try clear bL);(try clear bO);(try clear bP);obtain⟨ay,ah,aw,rfl,HA,nA,af,ai,aa,ag,ae,HB⟩:=hrel;cases gk with
  | zero=>exact absurd HA.out (by simp [nQ.l0])
  | succ k1=>
   have H:=HA.out;clear HA;simp only [nQ.l0] at H
   by_cases sL:ay < (ak.length:Int)
   ·rw [if_pos sL] at H;have Ba:=decide_eq_true sL;clear sL
    by_cases uD:0≤ay
    ·rw [if_pos uD] at H;have Sv:=decide_eq_true uD;clear uD;replace H:=Option.bind_eq_some_iff.mp H;obtain⟨aX,akF,H⟩:=H;replace H:(if ah.length < 5864062014805 then(nQ.l0 k1 (wrap64 (ay+1)) ak au (ah++ [aX]) aq) else(none))=some (r1,r2):=H;have A18:=q_ akF;clear akF
     by_cases ru:ah.length < 5864062014805
     ·rw [if_pos ru] at H;have bV:=q_ ru;clear ru;obtain⟨a9,hy⟩: ∃y_:List (List Int),y_=(ah++ [aX]):=⟨_,rfl⟩
      replace H:(nQ.l0 k1 (wrap64 (ay+1)) ak au a9 aq)=some (r1,r2):=hh_;have bW:=q_ hy;clear hy;have H':=q_ H;clear H;have dh:=aM.out;have di:=aN.out;have dl:=aA.out;have dr:=aH.out;obtain⟨cn,ct,cz,cA⟩:=nF aa
      try go_wp2
      replace af:=q_ (Kd.mM af.out);replace ai:=q_ (Kd.mF ai.out);replace aa:=q_ (mI aa.out);replace ag:=q_ (mI ag.out);replace ae:=q_ (mI ae.out);replace HB:=q_ (mS HB.out);have adN:0≤(ay:Int):=l7;have adp:ay < (ak.length:Int):=l7;obtain⟨bG,bu,bv,an9,FE,YF,YM⟩:=pI mR.out ay adN adp;have ax:=FE;cases an9
      replace FE:=bc_ HB.out FE;have Zh:=q_ YM;have aia:=q_ YF;clear YM YF;replace adN:=eq_true adN;replace adp:=eq_true adp;refine qx (n:=12) (S:=fun w'=>w'.cell? ⟨aj,0,none⟩=some (aw)∧w'.cell? ⟨aj,1,none⟩=some (.slice aD aq.length aG)∧w'.cell? ⟨av,0,none⟩=some (.slice (some bG) ak.length aK)∧w'.cell? ⟨av,1,none⟩=some (.slice aI au.length aJ)∧w'.cell? (bG.add (ay).toNat)=some (.slice bu (d5 ak ay).length bv)) (ds:= [11]) ⟨(bp ae.out 0).trans rfl,(bp ae.out 1).trans rfl,(bp aa.out 0).trans rfl,(bp aa.out 1).trans rfl,((bc_ HB.out ax:))⟩ (fun hHeld=>?_);refine o9 nQ.xO nQ.vo (fun pL xA=>?_)
      generalize wr.drew=w23 at af ai aa ag ae HB Zh FE hHeld ⊢
      refine rm 0 17 2 19 4 21 ?_;refine mg 1 18 ?_;refine mg 3 20 ?_;refine lX 5 22 ?_;refine mg 6 23 ?_
      refine pz 7 (some 24) (fun K hK=>?_)
      refine sH Tryz.func137 (by kernel_rfl) rfl #[.slice bu (d5 ak ay).length bv] (by rfl) rfl rfl (by(try simp only [List.map_toArray,List.map_cons,List.map_nil]);first | done | rfl | (simp only [List.length_drop,List.length_take];rfl)) ?_
      with_reducible refine(qR.calls _ _ (d5 ak ay) aX _ ?ba ?bg A18.out).mono ?_
      (case ba=>exact ni Zh.out HB.out)
      (case bg=>exact aia.out)
      rintro e w24 ⟨dG,rfl,ho0,hb⟩;refine⟨_,rfl,?_⟩
      replace af:=q_ (Kd.tA (nw af.out) (Kd.o8 ho0) hb);have aZ:=q_ (Kd.ng (Kd.wo ho0 (Kd.qw (m5 ai.out))) oI);replace aa:=lZ aa hb;replace ag:=lZ ag hb;replace ae:=lZ ae hb;replace ai:=q_ (Kd.tV (m5 ai.out) (Kd.o8 ho0) hb);replace HB:=lT hb;(try clear hb)
      
      (try clear hk)
      
      (try clear ho0);obtain⟨bQ,bS,bT⟩:=Kd.mE aZ.out
      (first | subst bT | (injection bT with sD vP sC;have vO:=sD.symm;have vN:=sC.symm;clear sD vP sC;subst vO;subst vN))
      refine hK.out _ _ ⟨(bp ae.out 0).trans rfl,(bp ae.out 1).trans rfl,(bp aa.out 0).trans rfl,(bp aa.out 1).trans rfl,((bc_ HB.out ax:))⟩ (fun hHeld=>?_)
      clear hK K;refine mP (a':=?_) ?_ ?_
      rotate_left
      ·show Act.put _ (some 24) _=_
       simp only [Act.put,List.setIfInBounds_toArray,List.set_cons_zero,List.set_cons_succ,mT,nr]
       rfl
      refine pz 8 (some 25) (fun K hK=>?_)
      refine DG (w1:=?_) (v:=?_) (by rfl) rfl ?_ ?_
      rotate_left 2
      ·go_simp
       constructor
       ·rfl
       ·rfl
      refine hK.out _ _ ⟨(bp (mY ae.out _) 0).trans rfl,(bp (mY ae.out _) 1).trans rfl,(bp (mY aa.out _) 0).trans rfl,(bp (mY aa.out _) 1).trans rfl,(World.cell?_alloc_lt _ _ _ (World.block_lt_of_cell? _ _ (((bc_ HB.out ax:))))).trans (((bc_ HB.out ax:)))⟩ (fun hHeld=>?_)
      clear hK K;refine mP (a':=?_) ?_ ?_
      rotate_left
      ·show Act.put _ (some 25) _=_
       simp only [Act.put,List.setIfInBounds_toArray,List.set_cons_zero,List.set_cons_succ,mT,nr]
       rfl
      refine pz 9 (some 26) (fun K hK=>?_)
      refine Kd.yD (Kd.slice 2 (Kd.int .i64)) (w0:=w) w.heap.size (by rfl) (.tmp 18) (.tmp 25) 32 24 (.slice none 0 0) 24 rfl Tryz.underlying32 yc rfl (by decide) (by omega) aw ah aX [.slice bQ aX.length bS] (fun k_=>some k_≠(.slice aD aq.length aG:Value).ownBlock) (fun k_=>some k_=(.slice bQ aX.length bS:Value).ownBlock) rfl rfl ?aP (fun k_ hk_=>((Kd.fY (ok':=fun k_=>((fun k_=>some k_≠(.slice aD aq.length aG:Value).ownBlock)) k_∧some k_≠(aw:Value).ownBlock) (Kd.qp (aZ.out) (Kd.pQ af.out) (by decide)) (fun k_ hk=>⟨hk.1.2,hk.2⟩))).1 k_ hk_.symm) ?aF ?aO ?aB ?aS ?aL ?_
      (case aP=>exact Kd.zT (Kd.fY (Kd.q5 rfl (Kd.fY (ok':=fun k_=>((fun k_=>some k_≠(.slice aD aq.length aG:Value).ownBlock)) k_∧some k_≠(aw:Value).ownBlock) (Kd.qp (aZ.out) (Kd.pQ af.out) (by decide)) (fun k_ hk=>⟨hk.1.2,hk.2⟩))) (fun _ h_=>h_)))
      (case aB=>exact hb_)
      (case aF=>exact(fun k_ hk=>Kd.tZ (Kd.qw (m5 ai.out)) k_ hk))
      (case aO=>exact(kS_ af.out (fun k_ hk=>⟨hk.1,fun e_=>hk.2 e_⟩)))
      (case aS=>exact oI)
      (case aL=>have:=bV.out;omega)
      intro dH w25 ho hb hg hat;rw [← bW.out] at ho;replace ai:=q_ (Kd.wh (m5 ai.out) (Kd.pQ (nw af.out)) (by decide) hg);replace aa:=q_ (tU aa.out hg (Kd.sP af.out aa.out (by decide)));replace ag:=q_ (tU ag.out hg (Kd.sP af.out ag.out (by decide)));replace ae:=q_ (tU ae.out hg (Kd.sP af.out ae.out (by decide)));replace HB:=q_ (hb);have bH:=q_ (ho);clear af aZ ho hb hg hat;obtain⟨bw,bz,bU⟩:=Kd.nk bH.out
      (first | subst bU | (injection bU with sD vP sC;have vO:=sD.symm;have vN:=sC.symm;clear sD vP sC;subst vO;subst vN))
      refine hK.out _ _ ⟨(bp ae.out 0).trans rfl,(bp ae.out 1).trans rfl,(bp aa.out 0).trans rfl,(bp aa.out 1).trans rfl,((bc_ HB.out ax:))⟩ (fun hHeld=>?_)
      clear hK K;refine mP (a':=?_) ?_ ?_
      rotate_left
      ·show Act.put _ (some 26) _=_
       simp only [Act.put,List.setIfInBounds_toArray,List.set_cons_zero,List.set_cons_succ,mT,nr]
       rfl
      refine lX 10 27 ?_
      refine DU 11 none (fun K hK=>?_)
      have asJ:=lS ae 0;have ar3:=gE ae.out 0;have ao0:=aA.out;have aoZ:=aC.out;have aps:=aH.out;have apr:=aT.out;refine rL (w1:=?_) (by rfl) rfl ?_ ?_
      rotate_left
      ·go_simp
       rfl
      refine hK.out _ _ ?_
      clear hK K;refine oA (qj pL.out (by kernel_rfl)) ?_
      try go_wp2
      go_roundg k1
      case measure=>have:=nA.out;omega
      case rel=>exact⟨(wrap64 (ay+1)),(a9),(.slice bw a9.length bz),nM,H',⟨by have:=nA.out;omega⟩,⟨kS_ (Kd.tM (p:=⟨aj,0,none⟩) (Kd.vZ bH.out ae.out (by decide)) (fun _ hk=>hk.2) (.slice bw a9.length bz)) (fun _ hk=>hk.1)⟩,⟨kR_ (Kd.nN (p:=⟨aj,0,none⟩) (Kd.wg ai.out ae.out (by decide)) (fun _ hk=>hk.2) (.slice bw a9.length bz)) (fun _ hk=>trivial)⟩,⟨oX⟩,⟨oX⟩,⟨oX⟩,⟨hb_⟩⟩
     ·rw [if_neg ru] at H;exact absurd H (by simp)
    ·rw [if_neg uD] at H;exact absurd H (by simp)
   ·rw [if_neg sL] at H;have Ba:=decide_eq_false sL;clear sL;simp only [Option.some.injEq,Prod.mk.injEq] at H;obtain⟨rfl,rfl⟩:=H;have du:=aM.out;have dw:=aN.out;have dx:=aA.out;have dz:=aH.out;obtain⟨cB,cC,cD,cE⟩:=nF aa;have dA:=aT.out;have dB:=aC.out;obtain⟨cF,cG,cH,cI⟩:=nF ae;obtain⟨bn,bq,bZ⟩:=Kd.nk af.out;subst bZ;obtain⟨cJ,cK,cL,cN⟩:=nF ag;go_wp2
    refine bodyPost_ret (results_cell_row rfl _ _ az 34 #[.slice bn ah.length bq, .slice aD aq.length aG] (0,0) _ rfl (oX) Tryz.underlying34 rfl (by kernel_rfl)) rfl ?_
    exact⟨_,_,pH,kS_ (Qk af.out ag.out) (fun _ hk=>hk.1),kR_ (H7 ai.out ag.out) (fun _ hk=>trivial),hb_⟩
end Go.Proofs.YthmfdplckdijdaaGreat.Pr
end
section
namespace Go.Proofs.YthmfdplckdijdaaGreat.Dr
open Go.RowKit Wz.cw Wz.fX Wz.cX Ma Pr Lq
theorem ahK {M:List (List Int)} {Q:List Int} {n:Nat} (hn:n≤5) (hM:M.length=n) (hr: ∀x ∈ M,x.length=n) (hQ:Q.length=n):Ex (fun k=>nQ.f k M Q) (fun r=>r.1.length=n∧(∀x ∈ r.1,x.length=n)∧r.2.length=n):=by
 have own: ∀B:List Int,B.length≤1000→qR.f B=some B:=fun B h=>by
  unfold qR.f
  simp
  omega
 unfold nQ.f
 refine abJ (own Q (by omega)) ?_
 have loop: ∀(q i:Nat) (acc:List (List Int)),i+q=n→acc.length=i→(∀x ∈ acc,x.length=n)→Ex (fun k=>nQ.l0 k (i:Int) M Q acc Q) (fun r=>r.1.length=n∧(∀x ∈ r.1,x.length=n)∧r.2.length=n):=by
  intro q
  induction q with
  | zero=>
   intro i acc hi hl hx
   refine Cv (fun k=>by rw [nQ.l0]) ?_
   exact St (by omega) (exc rfl ⟨by show acc.length=n;omega,hx,hQ⟩)
  | succ q ih=>
   intro i acc hi hl hx
   have hrow:(d5 M (i:Int)).length=n:=by
    have e:d5 M (i:Int)=M.getD i []:=by simp [d5]
    rw [e,List.getD_eq_getElem?_getD,List.getElem?_eq_getElem (by omega)]
    exact hr _ (List.getElem_mem _)
   refine Cv (fun k=>by rw [nQ.l0]) ?_
   rw [nH (x:=(i:Int)+1) (by omega) (by omega)]
   refine zS (by omega) (zS (by omega) (abJ (own _ (by omega)) (zS (by omega) (ih (i+1) _ (by omega) (by simp;omega) (fun x hm=>?_)))))
   rcases List.mem_append.1 hm with m | m
   ·exact hx x m
   ·rw [List.mem_singleton.1 m];exact hrow
 exact loop n 0 [] (by omega) rfl (by simp)
structure Pb (w:World) (g lo n gm c:Nat) (b cp:Nat→Nat) (A:Option Addr) (c1:Nat) (Q:List Int):Prop where
 dm:Dm w lo gm n c b cp
 rq:Kd.R (Kd.int .i64) 2 w lo (fun k=>k≠g∧k≠gm∧ ∀j,j < n→k≠b j) (.slice A Q.length c1) Q
 ql:n≤Q.length∧Q.length≤n+1
theorem Pb.mv {w0 w w1:World} {g lo n gm c:Nat} {b cp:Nat→Nat} {A:Option Addr} {c1:Nat} {Q:List Int} (h:Pb w g lo n gm c b cp A c1 Q) (hS:o7 w0 w g w1) (hg:g < lo):Pb w1 g lo n gm c b cp A c1 Q:=
 ⟨h.dm.keep hS.keep hg,Kd.wq h.rq hS.keep (fun k hk=>hk.1),h.ql⟩
def sx (w0 wE:World) (g lo n:Nat) (v:Value) (w':World):Prop:=(v= .agg #[.slice none 0 0, .slice none 0 0]∨ ∃gm c b cp A c1 Q,v= .agg #[.slice (some ⟨gm,0,none⟩) n c, .slice A Q.length c1]∧Pb w' g lo n gm c b cp A c1 Q)∧o7 w0 wE g w'
theorem V4 {w:World} {g lo n gm c:Nat} {b cp:Nat→Nat} {A:Option Addr} {c1:Nat} {Q:List Int} (h:Pb w g lo n gm c b cp A c1 Q) (hQ:Q.length=n) (hn:n≤5) (hn0:0 < n):Calls Tryz.prog 119 #[.agg #[.slice (some ⟨gm,0,none⟩) n c, .slice A n c1]] w fun e w'=> ∃wJ c2 b2 y9 A2 d2 Q2,e= .returned (.agg #[.slice (some ⟨wJ,0,none⟩) n c2, .slice A2 n d2])∧Q2.length=n∧Dm w' w.heap.size wJ n c2 b2 y9∧Kd.R (Kd.int .i64) 2 w' w.heap.size (fun k=>w.heap.size≤k∧k≠wJ∧ ∀j,j < n→k≠b2 j) (.slice A2 n d2) Q2∧Below w.heap.size w w':=by
 obtain⟨M,hM,hMr,hC⟩:=h.dm.C (by omega)
 obtain⟨r,⟨k,e⟩,p1,p2,p3⟩:=ahK hn hM hMr hQ
 have hR:=Kd.lU h.rq
 have hcall:=nQ.calls k (some ⟨gm,0,none⟩) c M A c1 Q r.1 r.2 w hC (by rw [hM];exact h.dm.cap) hR.2.2 hR.2.1 (e k (Nat.le_refl _))
 rw [hM,hQ] at hcall
 refine hcall.mono ?_
 rintro e w' ⟨v0,v1,rfl,hS,hR1,hb⟩
 obtain⟨wJ,c2,b2,y9,rfl,hD,ok1,ok2⟩:=Dm.of hS p1 p2 hn0
 obtain⟨A2,d2,rfl⟩:=Kd.mE hR1
 have hR2:Kd.R (Kd.int .i64) 2 w' w.heap.size (fun k=>w.heap.size≤k∧k≠wJ∧ ∀j,j < n→k≠b2 j) (.slice A2 r.2.length d2) r.2:=Kd.fY (Kd.q5 rfl hR1) (fun k hk=>⟨Kd.o8 hR1 k hk.symm,fun q=>ok1 (by rw [← q];exact hk),fun j hj q=>ok2 j hj (by rw [← q];exact hk)⟩)
 rw [p3] at hR2
 exact⟨wJ,c2,b2,y9,A2,d2,r.2,by rw [p3],p3,hD,hR2,hb⟩
structure Cp (w0 w wr:World) (g W g4 gb n gm c:Nat) (b cp:Nat→Nat) (vq:Value):Prop where
 st:o7 w0 w g wr
 dm:Dm wr W gm n c b cp
 b4:wr.heap[g4]?=some (.cells #[.slice none 0 0, .slice none 0 0] 34 (0,0))
 bb:wr.heap[gb]?=some (.cells #[.slice (some ⟨gm,0,none⟩) n c,vq] 34 (0,0))
 s4:w.heap.size≤g4∧g4 < W
 sb:W≤gb∧gb≠gm∧ ∀j,j < n→gb≠b j
 el:w0.heap.size≤w.heap.size∧g < w.heap.size
def okC (W gb n gm:Nat) (b:Nat→Nat) (k:Nat):Prop:=W≤k∧k≠gb∧k≠gm∧ ∀j,j < n→k≠b j
abbrev RC (wr:World) (W gb n gm:Nat) (b:Nat→Nat) (vq:Value) (Q:List Int):Prop:=Kd.R (Kd.int .i64) 2 wr W (okC W gb n gm b) vq Q
section
variable {w0 w wr w1:World} {g W g4 gb n gm c:Nat} {b cp:Nat→Nat} {vq:Value} {Q:List Int}
theorem Cp.new {w5 w6:World} {A2:Option Addr} {d2:Nat} (hE:w0.heap.size≤w.heap.size) (hg:g < w.heap.size) (st:o7 w0 w g w5) (h4:w.heap.size≤g4∧g4 < W) (b4:w5.heap[g4]?=some (.cells #[.slice none 0 0, .slice none 0 0] 34 (0,0))) (dm:Dm w5 W gm n c b cp) (hW:W≤w5.heap.size) (rq:Kd.R (Kd.int .i64) 2 w5 W (fun k=>W≤k∧k≠gm∧ ∀j,j < n→k≠b j) (.slice A2 Q.length d2) Q) (hb:Below w5.heap.size w5 w6) (h5:w5.heap.size≤gb) (cM:w6.heap[gb]?=some (.cells #[.slice none 0 0, .slice none 0 0] 34 (0,0))):
  Cp w0 w ((w6.setCell ⟨gb,0,none⟩ (.slice (some ⟨gm,0,none⟩) n c)).setCell ⟨gb,1,none⟩ (.slice A2 Q.length d2)) g W g4 gb n gm c b cp (.slice A2 Q.length d2)∧RC ((w6.setCell ⟨gb,0,none⟩ (.slice (some ⟨gm,0,none⟩) n c)).setCell ⟨gb,1,none⟩ (.slice A2 Q.length d2)) W gb n gm b (.slice A2 Q.length d2) Q:=by
 have lt:=fun k hk=>Kd.qw rq k hk
 have g0:=dm.g0
 have hs:=o7.oy st.src st.below hb
 have sg:=st.keep.1
 have e5:gb≠gm∧ ∀j,j < n→gb≠b j:=⟨by omega,fun j hj=>by have:=(dm.rr j hj).2.1;omega⟩
 have d6:=dm.keep hs.keep (by omega)
 have r6:Kd.R (Kd.int .i64) 2 w6 W (okC W gb n gm b) (.slice A2 Q.length d2) Q:=Kd.oQ (Kd.fY (Kd.q5 rfl rq) (fun k hk=>⟨(rq.1 k hk.symm).1,by have:=lt k hk.symm;omega,(rq.1 k hk.symm).2⟩)) hb
 have s6:=st.trans hs
 refine⟨⟨(s6.set hE gb 0 _ (by omega) (by omega)).set hE gb 1 _ (by omega) (by omega),(d6.set e5.1 e5.2).set e5.1 e5.2,?_,mD (mD cM 0 _ rfl) 1 _ rfl,h4,⟨by omega,e5⟩,hE,hg⟩,?_⟩
 ·exact(Below.heap_setCell _ ⟨gb,1,none⟩ _ g4 (by show g4≠gb;omega)).trans ((Below.heap_setCell w6 ⟨gb,0,none⟩ _ g4 (by show g4≠gb;omega)).trans (ke b4 hb))
 ·exact Kd.nN (Kd.nN r6 (p:=⟨gb,0,none⟩) (fun q hq=>hq.2.1) _) (p:=⟨gb,1,none⟩) (fun q hq=>hq.2.1) _
theorem Cp.mv (h:Cp w0 w wr g W g4 gb n gm c b cp vq) (hS:o7 w0 wr g w1):Cp w0 w w1 g W g4 gb n gm c b cp vq:=by
 have:=h.s4;have:=h.sb;have:=h.el
 exact⟨h.st.trans hS,h.dm.keep hS.keep (by omega),hS.keep.blk h.b4 (by omega) (by simp),hS.keep.blk h.bb (by omega) (by simp),h.s4,h.sb,h.el⟩
theorem RC.mv (h:Cp w0 w wr g W g4 gb n gm c b cp vq) (r:RC wr W gb n gm b vq Q) (hS:o7 w0 wr g w1):RC w1 W gb n gm b vq Q:=by
 have:=h.s4;have:=h.el
 exact Kd.wq r hS.keep (fun k hk=>by have:=hk.1;omega)
theorem Cp.put (h:Cp w0 w wr g W g4 gb n gm c b cp vq) (r:RC wr W gb n gm b vq Q) {j k:Nat} (hj:j < n) (hk:k < n) (x:Int):Cp w0 w (wr.setCell ⟨b j,k,none⟩ (.int .i64 x)) g W g4 gb n gm c b cp vq∧RC (wr.setCell ⟨b j,k,none⟩ (.int .i64 x)) W gb n gm b vq Q:=by
 have h4:=h.s4;have hb:=h.sb;have he:=h.el;have hr:=h.dm.rr j hj
 exact⟨⟨h.st.set he.1 (b j) k _ (by omega) (by omega),h.dm.put hj hk x,(Below.heap_setCell wr ⟨b j,k,none⟩ _ g4 (by show g4≠b j;omega)).trans h.b4,(Below.heap_setCell wr ⟨b j,k,none⟩ _ gb (hb.2.2 j hj)).trans h.bb,h4,hb,he⟩,Kd.nN r (p:=⟨b j,k,none⟩) (fun q hq=>hq.2.2.2 j hj) _⟩
theorem Cp.amY {gq c1:Nat} (h:Cp w0 w wr g W g4 gb n gm c b cp (.slice (some ⟨gq,0,none⟩) Q.length c1)) (r:RC wr W gb n gm b (.slice (some ⟨gq,0,none⟩) Q.length c1) Q) (hq:W≤gq∧gq≠gb∧gq≠gm∧ ∀j,j < n→gq≠b j) (i:Nat) (x:Int):Cp w0 w (wr.setCell ⟨gq,i,none⟩ (.int .i64 x)) g W g4 gb n gm c b cp (.slice (some ⟨gq,0,none⟩) Q.length c1)∧RC (wr.setCell ⟨gq,i,none⟩ (.int .i64 x)) W gb n gm b (.slice (some ⟨gq,0,none⟩) Q.length c1) (Q.set i x):=by
 have h4:=h.s4;have hb:=h.sb;have he:=h.el
 have hput:=Kd.zl r (i:Int) x
 rw [Int.toNat_natCast] at hput
 exact⟨⟨h.st.set he.1 gq i _ (by omega) (by omega),h.dm.set hq.2.2.1 hq.2.2.2,(Below.heap_setCell wr ⟨gq,i,none⟩ _ g4 (by show g4≠gq;omega)).trans h.b4,(Below.heap_setCell wr ⟨gq,i,none⟩ _ gb (Ne.symm hq.2.1)).trans h.bb,h4,hb,he⟩,hput.1⟩
theorem Cp.fresh (h:Cp w0 w wr g W g4 gb n gm c b cp vq):W≤wr.heap.size∧ ∀k,wr.heap.size≤k→okC W gb n gm b k:=by
 have lb:=pq h.bb;have g0:=h.dm.g0
 exact⟨by omega,fun k hk=>⟨by omega,by omega,by omega,fun j hj=>by have:=(h.dm.rr j hj).2.1;omega⟩⟩
theorem Cp.grow (h:Cp w0 w wr g W g4 gb n gm c b cp vq) (r:RC wr W gb n gm b vq Q) (hg:wr.grownBy w1 vq.ownBlock) (hb:Below W wr w1):Cp w0 w w1 g W g4 gb n gm c b cp vq:=by
 have hn: ∀k, ¬ okC W gb n gm b k→some k≠vq.ownBlock:=fun k hk e=>hk (r.1 k e.symm)
 have h4:=h.s4;have he:=h.el
 refine⟨h.st.lo he.1 he.2 ⟨hb.os,hb.tape,hb.output,hb.size,fun i hi=>hb.block i (by omega)⟩,h.dm.grow hg ⟨hn _ (fun q=>q.2.2.1 rfl),fun j hj=>hn _ (fun q=>q.2.2.2 j hj rfl)⟩,m8 h.b4 hg (hn _ (fun q=>by have:=q.1;omega)),m8 h.bb hg (hn _ (fun q=>q.2.1 rfl)),h.s4,h.sb,h.el⟩
theorem Cp.store {v1:Value} (h:Cp w0 w w1 g W g4 gb n gm c b cp vq) (r:RC w1 W gb n gm b v1 Q):Cp w0 w (w1.setCell ⟨gb,1,none⟩ v1) g W g4 gb n gm c b cp v1∧RC (w1.setCell ⟨gb,1,none⟩ v1) W gb n gm b v1 Q:=by
 have h4:=h.s4;have hb:=h.sb;have he:=h.el
 exact⟨⟨h.st.set he.1 gb 1 _ (by omega) (by omega),h.dm.set hb.2.1 hb.2.2,(Below.heap_setCell w1 ⟨gb,1,none⟩ _ g4 (by show g4≠gb;omega)).trans h.b4,mD h.bb 1 v1 rfl,h4,hb,he⟩,Kd.nN r (p:=⟨gb,1,none⟩) (fun q hq=>hq.2.1) _⟩
theorem Cp.out {lo c1:Nat} {A:Option Addr} (h:Cp w0 w wr g W g4 gb n gm c b cp (.slice A Q.length c1)) (r:RC wr W gb n gm b (.slice A Q.length c1) Q) (hg:g < lo) (hl:lo≤w.heap.size) (hq:n≤Q.length∧Q.length≤n+1):
  sx w0 w g lo n (.agg #[.slice (some ⟨gm,0,none⟩) n c, .slice A Q.length c1]) ((wr.setCell ⟨g4,0,none⟩ (.slice (some ⟨gm,0,none⟩) n c)).setCell ⟨g4,1,none⟩ (.slice A Q.length c1)):=by
 have h4:=h.s4;have hb:=h.sb;have he:=h.el;have g0:=h.dm.g0
 have q1:g4≠gm:=by omega
 have q2: ∀j,j < n→g4≠b j:=fun j hj=>by have:=(h.dm.rr j hj).1;omega
 refine⟨.inr ⟨gm,c,b,cp,A,c1,Q,rfl,⟨((h.dm.set q1 q2).set q1 q2).down (by omega),?_,hq⟩⟩,(h.st.set he.1 g4 0 _ h4.1 (by omega)).set he.1 g4 1 _ h4.1 (by omega)⟩
 have r2:=Kd.nN (Kd.nN r (p:=⟨g4,0,none⟩) (fun k hk=>by show k≠g4;have:=hk.1;omega) (.slice (some ⟨gm,0,none⟩) n c)) (p:=⟨g4,1,none⟩) (fun k hk=>by show k≠g4;have:=hk.1;omega) (.slice A Q.length c1)
 exact Kd.ng (Kd.fY r2 (fun k hk=>⟨by have:=hk.1;omega,hk.2.2⟩)) (by omega)
end
end Go.Proofs.YthmfdplckdijdaaGreat.Dr
end
section
namespace Go.Proofs.YthmfdplckdijdaaGreat.Dr
open Go.RowKit Wz.cw Wz.fX Wz.cX Ma Pr Lq
theorem PX {w0 w:World} {g lo n gm c:Nat} {b cp:Nat→Nat} {A:Option Addr} {c1:Nat} {Q:List Int} (h:zO w0 w g) (hB:Below w0.heap.size w0 w) (hP:Pb w g lo n gm c b cp A c1 Q) (hQ:Q.length=n) (hn:n≤5) (hn0:0 < n) (hg:g < lo) (hl:lo≤w.heap.size):Calls Tryz.prog 72 #[.pointer (some ⟨g,0,none⟩), .agg #[.slice (some ⟨gm,0,none⟩) n c, .slice A n c1]] w fun e w'=> ∃v,e= .returned v∧sx w0 w g lo n v w':=by
 have ST:=q_ (o7.refl h hB);have HE:=q_ hB.size;have P:=q_ hP;have PL:=q_ (show gm < w.heap.size∧ ∀j,j < n→b j < w.heap.size from ⟨hP.dm.g0.2,fun j hj=>(hP.dm.rr j hj).2.1⟩);have RP:aE (Kd.R (Kd.int .i64) 2 w lo (fun k=>(k≠g∧k≠gm∧ ∀j,j < n→k≠b j)∧k < w.heap.size) (.slice A Q.length c1) Q):=⟨Kd.fY (Kd.q5 rfl hP.rq) (fun k hk=>⟨hP.rq.1 k hk.symm,Kd.qw hP.rq k hk.symm⟩)⟩
 have HQ:=q_ hQ;have HN:=q_ hn;have uq:=q_ hn0;have HG:=q_ hg;have HL:=q_ hl;clear h hB hP hQ hn hn0 hg hl
 go_enter Tryz.func72,Tryz.ntmps72
 go_wp2_with (first | ((with_reducible refine dg (N:=3) rfl ?_);refine nR 3 #[.slice (some ⟨gm,0,none⟩) n c, .slice A n c1] 34 ?_;intro g3 hg w2 cM hb;have G3:=q_ (show w.heap.size≤g3 by rw [hg];exact Nat.le_refl _);have hs_:=o7.oy ST.out.src ST.out.below hb;replace ST:=q_ (ST.out.trans hs_);replace P:=q_ (P.out.mv hs_ HG.out);replace RP:=q_ (Kd.wq RP.out hs_.keep (fun k hk=>hk.1.1));have B3:=q_ cM;clear hs_ hg cM hb) | ((with_reducible refine dg (N:=4) rfl ?_);refine nR 4 #[.slice none 0 0, .slice none 0 0] 34 ?_;intro g4 hg w3 cM hb;have G4:=q_ (show w.heap.size≤g4∧g3≠g4 by rw [hg];exact⟨ST.out.keep.1,Nat.ne_of_lt (pq B3.out)⟩);have hs_:=o7.oy ST.out.src ST.out.below hb;replace ST:=q_ (ST.out.trans hs_);replace P:=q_ (P.out.mv hs_ HG.out);replace RP:=q_ (Kd.wq RP.out hs_.keep (fun k hk=>hk.1.1));replace B3:=q_ (ke B3.out hb);have B4:=q_ cM;clear hs_ hg cM hb))
 refine(Cn ST.out.src ST.out.below 50).mono ?_
 rintro e w4 ⟨y,rfl,_,hS⟩;replace ST:=q_ (ST.out.trans hS);replace P:=q_ (P.out.mv hS HG.out);replace RP:=q_ (Kd.wq RP.out hS.keep (fun k hk=>hk.1.1));replace B3:=q_ (hS.keep.blk B3.out (by have:=G3.out;have:=G4.out;have:=HG.out;have:=HL.out;omega) (by simp));replace B4:=q_ (hS.keep.blk B4.out (by have:=G3.out;have:=G4.out;have:=HG.out;have:=HL.out;omega) (by simp));clear hS
 by_cases y0:y=0
 ·have y0b:(y==0)=true:=by simpa using y0
  clear y0;obtain⟨x40,x41,f40,f41⟩:=nF B4;go_wp2
  refine bodyPost_ret (results_cell_row rfl _ _ g4 34 #[.slice none 0 0, .slice none 0 0] (0,0) _ rfl (mD (mD B4.out 0 _ rfl) 1 _ rfl) Tryz.underlying34 rfl (by kernel_rfl)) rfl ?_
  have g4a:=G4.out;have hl:=HL.out;have hgg:=HG.out;have S4:=(ST.out.set HE.out g4 0 (.slice none 0 0) g4a.1 (by omega)).set HE.out g4 1 (.slice none 0 0) g4a.1 (by omega);exact⟨_,rfl, .inl rfl,S4⟩
 have y0b:(y==0)=false:=by simpa using y0
 clear y0
 by_cases y1:y=1
 ·have y1b:(y==1)=true:=by simpa using y1
  clear y1;obtain⟨x30,Ce,YT,YS⟩:=nF B3
  go_wp2_with fail
  refine(V4 P.out HQ.out HN.out uq.out).mono ?_
  rintro e w5 ⟨wJ,c2,b2,y9,A2,d2,Q2,rfl,hQ2,hD,hR,hb⟩;clear x30 Ce YT YS;have D2:=q_ hD;have R2:=q_ hR;have L2:=q_ hQ2;have E8:=q_ hb;have GB4:=q_ (pq B4.out);have GL:=q_ ST.out.src.lt;have hs_:=o7.oy ST.out.src ST.out.below hb;replace ST:=q_ (ST.out.trans hs_);replace P:=q_ (P.out.mv hs_ HG.out);replace RP:=q_ (Kd.wq RP.out hs_.keep (fun k hk=>hk.1.1));replace B3:=q_ (hs_.keep.blk B3.out (by have:=G3.out;have:=G4.out;have:=HG.out;have:=HL.out;omega) (by simp));replace B4:=q_ (hs_.keep.blk B4.out (by have:=G3.out;have:=G4.out;have:=HG.out;have:=HL.out;omega) (by simp));clear hD hR hQ2 hb hs_;obtain⟨gq,dq,eq_,hbq,hlq,_⟩:=Kd.rX R2.out (by rw [L2.out];exact uq.out);injection eq_ with e1 e2 e3
  subst e1;have GQ:=q_ hbq;clear e2 e3 hbq hlq
  go_wp2_with (first | ((with_reducible refine dg (N:=5) rfl ?_);refine nR 5 #[.slice none 0 0, .slice none 0 0] 34 ?_;intro g5 hg w6 cM hb;have B5:=q_ cM;have G5:=q_ (show w5.heap.size≤g5 by rw [hg];exact Nat.le_refl _);have I7:=q_ hb;have hx0:=lS B5 0;have hx1:=lS B5 1;have Ix:=gE cM 0;have F5:=gE cM 1;clear hg cM hb) | ((with_reducible refine q8 (t:=34) (p:=5) rfl ?_);refine DK 34 5 ((w6.setCell ⟨g5,0,none⟩ (.slice (some ⟨wJ,0,none⟩) n c2)).setCell ⟨g5,1,none⟩ (.slice (some ⟨gq,0,none⟩) n d2)) ?_;intro w7 hw;have yP:=Cp.new (g4:=g4) (W:=w4.heap.size) HE.out (by have:=HG.out;have:=HL.out;omega) ST.out ⟨G4.out.1,GB4.out⟩ B4.out D2.out E8.out.size (by rw [L2.out];exact R2.out) I7.out G5.out B5.out;rw [L2.out, ← hw] at yP;have CP:=q_ yP.1;have RQ:=q_ yP.2;clear yP hw hx0 hx1 Ix F5;have hx0:=lS (q_ CP.out.bb) 0;have hx1:=lS (q_ CP.out.bb) 1))
  clear ST P RP D2 R2 B4 I7 G5 B5 E8 B3 hx0 hx1;have hs_:=o7.oy CP.out.st.src CP.out.st.below (mH (Below.refl w7.heap.size w7));replace RQ:=q_ (RC.mv CP.out RQ.out hs_);replace CP:=q_ (CP.out.mv hs_);clear hs_;refine qx (n:=10) (S:=fun w'=>w'.cell? ⟨g5,0,none⟩=some (.slice (some ⟨wJ,0,none⟩) n c2)∧ ∀j,j < n→w'.cell? ⟨wJ,j,none⟩=some (.slice (some ⟨b2 j,0,none⟩) n (y9 j))) (ds:= []) ⟨lS (q_ CP.out.bb) 0,CP.out.dm.row⟩ (fun hHeld=>?_)
  generalize w7.drew=w8 at CP RQ hHeld ⊢
  refine rm 0 18 2 20 3 21 ?_;refine mg 1 19 ?_;refine mg 4 22 ?_;refine lX 5 23 ?_
  refine pz 6 (some 24) (fun K hK=>?_)
  refine IE Tryz.func36 #[.pointer (some ⟨g,0,none⟩), .int .i64 (n:Int)] ?_
  refine(Cn CP.out.st.src CP.out.st.below (n:Int)).mono ?_
  rintro e w9 ⟨x,rfl,hx,hS⟩;obtain⟨j,rfl⟩:=Int.eq_ofNat_of_zero_le (hx (by have:=uq.out;omega)).1;have hjn:j < n:=by have:=(hx (by have:=uq.out;omega)).2;omega
  have HJ:=q_ hjn;have hjz:(j:Int) < (n:Int):=by omega
  have h0j:(0:Int)≤(j:Int):=by omega
  refine⟨_,rfl,?_⟩
  replace RQ:=q_ (RC.mv CP.out RQ.out hS);replace CP:=q_ (CP.out.mv hS);clear hS hx hHeld;refine hK.out _ _ ⟨lS (q_ CP.out.bb) 0,CP.out.dm.row⟩ (fun hHeld=>?_)
  clear hK K;refine AU ?_
  refine lX 7 25 ?_;refine mg 8 26 ?_;refine lX 9 6 ?_
  refine oA (by kernel_rfl) ?_
  clear hHeld hjn hjz h0j
  go_wp2_with (first | ((with_reducible refine dg (N:=29) rfl ?_);refine Kd.tu (Kd.int .i64) _ 2 ?hg (N:=29) ?hd (xs:=([21, -21,1099511627776]:List Int)) (inner:= [.int .i64 21, .int .i64 (-21), .int .i64 1099511627776]) (ok:=fun _=>True) (oC:=fun _=>True) ?hr ?hp (fun _ hk=>hk) trivial (Below.refl _ _) (Nat.le_refl _) (by simp) ?_;(case hd=>rfl);(case hg=>rfl);(case hr=>first | (go_simp;done) | (go_simp;rfl));(case hp=>exact vM [21, -21,1099511627776]);intro v29 tE ho hb hg_ om;obtain⟨g29,Gb,rfl,aje,anl,_⟩:=Kd.rX ho (by simp);have G29:=q_ (Nat.lt_of_lt_of_le CP.out.st.src.lt aje);have hs_:=o7.oy CP.out.st.src CP.out.st.below hb;replace RQ:=q_ (RC.mv CP.out RQ.out hs_);replace CP:=q_ (CP.out.mv hs_);have R29:=q_ ho;clear hs_ aje anl hg_ om ho hb))
  refine(Cm CP.out.st.src CP.out.st.below _ Gb [21, -21,1099511627776] (Kd.lU R29.out).2.2 (Kd.lU R29.out).2.1 (fun ad e _=>by injection e with e;subst e;show g29≠g;have:=G29.out;omega) (by decide)).mono ?_
  rintro e rB ⟨x,rfl,_,hS⟩;replace RQ:=q_ (RC.mv CP.out RQ.out hS);replace CP:=q_ (CP.out.mv hS);clear hS R29 G29;obtain⟨⟨z,hz⟩,fz⟩:=CP.out.dm.ints j 0 HJ.out uq.out;have asU:(0:Int) < (n:Int):=by have:=uq.out;omega
  go_wp2_with (first | ((with_reducible refine q8 (t:=2) (p:=31) rfl ?_);refine DK 2 31 (rB.setCell ⟨b2 j,0,none⟩ (.int .i64 x)) ?_;intro tX hw;have yP:=CP.out.put RQ.out HJ.out uq.out x;rw [← hw] at yP;replace RQ:=q_ yP.2;replace CP:=q_ yP.1;clear hz fz yP hw;have hx0:=lS (q_ CP.out.bb) 0;have hx1:=lS (q_ CP.out.bb) 1;have y40:=lS (q_ CP.out.b4) 0;have y41:=lS (q_ CP.out.b4) 1;have g40:=gE CP.out.b4 0;have g41:=gE CP.out.b4 1))
  go_wp2
  refine bodyPost_ret (results_cell_row rfl _ _ g4 34 #[.slice (some ⟨wJ,0,none⟩) n c2, .slice (some ⟨gq,0,none⟩) n d2] (0,0) _ rfl (mD (mD CP.out.b4 0 _ rfl) 1 _ rfl) Tryz.underlying34 rfl (by kernel_rfl)) rfl ?_
  have fin:=Cp.out (Q:=Q2) (by rw [L2.out];exact CP.out) (by rw [L2.out];exact RQ.out) HG.out HL.out (by rw [L2.out];omega);rw [L2.out] at fin;exact⟨_,rfl,fin⟩
 have y1b:(y==1)=false:=by simpa using y1
 clear y1
 by_cases y2:y=2
 ·have y2b:(y==2)=true:=by simpa using y2
  clear y2;obtain⟨x30,Ce,YT,YS⟩:=nF B3
  go_wp2_with fail
  refine(V4 P.out HQ.out HN.out uq.out).mono ?_
  rintro e w5 ⟨wJ,c2,b2,y9,A2,d2,Q2,rfl,hQ2,hD,hR,hb⟩;clear x30 Ce YT YS;have D2:=q_ hD;have R2:=q_ hR;have L2:=q_ hQ2;have E8:=q_ hb;have GB4:=q_ (pq B4.out);have GL:=q_ ST.out.src.lt;have hs_:=o7.oy ST.out.src ST.out.below hb;replace ST:=q_ (ST.out.trans hs_);replace P:=q_ (P.out.mv hs_ HG.out);replace RP:=q_ (Kd.wq RP.out hs_.keep (fun k hk=>hk.1.1));replace B3:=q_ (hs_.keep.blk B3.out (by have:=G3.out;have:=G4.out;have:=HG.out;have:=HL.out;omega) (by simp));replace B4:=q_ (hs_.keep.blk B4.out (by have:=G3.out;have:=G4.out;have:=HG.out;have:=HL.out;omega) (by simp));clear hD hR hQ2 hb hs_;obtain⟨gq,dq,eq_,hbq,hlq,_⟩:=Kd.rX R2.out (by rw [L2.out];exact uq.out);injection eq_ with e1 e2 e3
  subst e1;have GQ:=q_ hbq;clear e2 e3 hbq hlq
  go_wp2_with (first | ((with_reducible refine dg (N:=7) rfl ?_);refine nR 7 #[.slice none 0 0, .slice none 0 0] 34 ?_;intro g7 hg w6 cM hb;have B7:=q_ cM;have G7:=q_ (show w5.heap.size≤g7 by rw [hg];exact Nat.le_refl _);have I7:=q_ hb;have hx0:=lS B7 0;have hx1:=lS B7 1;have Ix:=gE cM 0;have F5:=gE cM 1;clear hg cM hb) | ((with_reducible refine q8 (t:=34) (p:=7) rfl ?_);refine DK 34 7 ((w6.setCell ⟨g7,0,none⟩ (.slice (some ⟨wJ,0,none⟩) n c2)).setCell ⟨g7,1,none⟩ (.slice (some ⟨gq,0,none⟩) n d2)) ?_;intro w7 hw;have yP:=Cp.new (g4:=g4) (W:=w4.heap.size) HE.out (by have:=HG.out;have:=HL.out;omega) ST.out ⟨G4.out.1,GB4.out⟩ B4.out D2.out E8.out.size (by rw [L2.out];exact R2.out) I7.out G7.out B7.out;rw [L2.out, ← hw] at yP;have CP:=q_ yP.1;have RQ:=q_ yP.2;clear yP hw hx0 hx1 Ix F5;have hx0:=lS (q_ CP.out.bb) 0;have hx1:=lS (q_ CP.out.bb) 1))
  clear ST P RP D2 R2 B4 I7 G7 B7 E8 B3 hx0 hx1;have hs_:=o7.oy CP.out.st.src CP.out.st.below (mH (Below.refl w7.heap.size w7));replace RQ:=q_ (RC.mv CP.out RQ.out hs_);replace CP:=q_ (CP.out.mv hs_);clear hs_;refine qx (n:=7) (S:=fun w'=>w'.cell? ⟨g7,1,none⟩=some (.slice (some ⟨gq,0,none⟩) n d2)) (ds:= [6]) (lS (q_ CP.out.bb) 1) (fun hHeld=>?_)
  generalize w7.drew=w8 at CP RQ hHeld ⊢
  refine sU 0 37 2 39 ?_;refine mg 1 38 ?_
  refine pz 3 (some 40) (fun K hK=>?_)
  refine Kd.Dx (Kd.int .i64) _ 2 (by rfl) (N:=40) rfl (xs:=([101, -101]:List Int)) (inner:= [.int .i64 101, .int .i64 (-101)]) (ok:=fun _=>True) (oC:=fun _=>True) (by first | (go_simp;done) | (go_simp;rfl)) (vM [101, -101]) (fun _ h=>h) trivial (Below.refl _ _) (Nat.le_refl _) (by simp) ?_
  intro v40 w9 ho hb hg_ DW;obtain⟨g40,PE,rfl,ajc,anj,_⟩:=Kd.rX ho (by simp);have G40:=q_ (Nat.lt_of_lt_of_le CP.out.st.src.lt ajc);have hs_:=o7.oy CP.out.st.src CP.out.st.below hb;replace RQ:=q_ (RC.mv CP.out RQ.out hs_);replace CP:=q_ (CP.out.mv hs_);have R40:=q_ ho;clear hs_ ajc anj ho hb hg_ DW hHeld;refine hK.out _ _ (lS (q_ CP.out.bb) 1) (fun hHeld=>?_)
  clear hK K;refine JD 40 ?_
  refine pz 4 (some 41) (fun K hK=>?_)
  refine IE Tryz.func74 #[.pointer (some ⟨g,0,none⟩), .slice (some ⟨g40,0,none⟩) ([101, -101]:List Int).length PE] ?_
  refine(Cm CP.out.st.src CP.out.st.below _ PE [101, -101] (Kd.lU R40.out).2.2 (Kd.lU R40.out).2.1 (fun ad e _=>by injection e with e;subst e;show g40≠g;have:=G40.out;omega) (by decide)).mono ?_
  rintro e rB ⟨x,rfl,_,hS⟩;refine⟨_,rfl,?_⟩
  replace RQ:=q_ (RC.mv CP.out RQ.out hS);replace CP:=q_ (CP.out.mv hS);clear hS R40 G40 hHeld;refine hK.out _ _ (lS (q_ CP.out.bb) 1) (fun hHeld=>?_)
  clear hK K;refine AU ?_
  have hn0:=uq.out;refine lX 5 42 ?_
  have hat:=Kd.tW 0 RQ.out 0 (by omega) (by omega);have hcell:=hat.1;have hfr:=hat.2;rw [show (0:Int).toNat=0 from rfl] at hcell hfr;have hown:=RQ.out.1 gq (by rw [← L2.out];have:=uq.out;simp [Value.ownBlock]);clear hat;refine DU 6 none (fun K hK=>?_)
  refine rL (w1:=?_) (by rfl) rfl ?_ ?_
  rotate_left
  ·go_simp
   rfl
  refine hK.out _ _ ?_
  clear hK K hHeld hcell hfr;refine oA (by kernel_rfl) ?_
  have cp0:=Cp.amY (Q:=Q2) (by rw [L2.out];exact CP.out) (by rw [L2.out];exact RQ.out) ⟨hown.1,hown.2.1,hown.2.2.1,hown.2.2.2⟩ 0 x;rw [L2.out] at cp0;have hl3:(Q2.set 0 x).length=n:=by rw [List.length_set];exact L2.out
  have W8:=q_ hl3;replace CP:=q_ cp0.1;replace RQ:=q_ cp0.2;clear cp0 hown hl3
  generalize rB.setCell ⟨gq,0,none⟩ (.int .i64 x)=tX at CP RQ ⊢
  have hx0:=lS (q_ CP.out.bb) 0;have hx1:=lS (q_ CP.out.bb) 1;have y40:=lS (q_ CP.out.b4) 0;have y41:=lS (q_ CP.out.b4) 1;have g40:=gE CP.out.b4 0;have g41:=gE CP.out.b4 1;go_wp2
  refine bodyPost_ret (results_cell_row rfl _ _ g4 34 #[.slice (some ⟨wJ,0,none⟩) n c2, .slice (some ⟨gq,0,none⟩) n d2] (0,0) _ rfl (mD (mD CP.out.b4 0 _ rfl) 1 _ rfl) Tryz.underlying34 rfl (by kernel_rfl)) rfl ?_
  have fin:=Cp.out (Q:=Q2.set 0 x) (by rw [W8.out];exact CP.out) (by rw [W8.out];exact RQ.out) HG.out HL.out (by rw [W8.out];omega);rw [W8.out] at fin;exact⟨_,rfl,fin⟩
 have y2b:(y==2)=false:=by simpa using y2
 clear y2
 by_cases y3:y=3
 ·have y3b:(y==3)=true:=by simpa using y3
  clear y3;obtain⟨x30,Ce,YT,YS⟩:=nF B3
  go_wp2_with fail
  refine(V4 P.out HQ.out HN.out uq.out).mono ?_
  rintro e w5 ⟨wJ,c2,b2,y9,A2,d2,Q2,rfl,hQ2,hD,hR,hb⟩;clear x30 Ce YT YS;have D2:=q_ hD;have R2:=q_ hR;have L2:=q_ hQ2;have E8:=q_ hb;have GB4:=q_ (pq B4.out);have GL:=q_ ST.out.src.lt;have hs_:=o7.oy ST.out.src ST.out.below hb;replace ST:=q_ (ST.out.trans hs_);replace P:=q_ (P.out.mv hs_ HG.out);replace RP:=q_ (Kd.wq RP.out hs_.keep (fun k hk=>hk.1.1));replace B3:=q_ (hs_.keep.blk B3.out (by have:=G3.out;have:=G4.out;have:=HG.out;have:=HL.out;omega) (by simp));replace B4:=q_ (hs_.keep.blk B4.out (by have:=G3.out;have:=G4.out;have:=HG.out;have:=HL.out;omega) (by simp));clear hD hR hQ2 hb hs_;obtain⟨gq,dq,eq_,hbq,hlq,_⟩:=Kd.rX R2.out (by rw [L2.out];exact uq.out);injection eq_ with e1 e2 e3
  subst e1;have GQ:=q_ hbq;clear e2 e3 hbq hlq
  go_wp2_with (first | ((with_reducible refine dg (N:=8) rfl ?_);refine nR 8 #[.slice none 0 0, .slice none 0 0] 34 ?_;intro g8 hg w6 cM hb;have B8:=q_ cM;have G8:=q_ (show w5.heap.size≤g8 by rw [hg];exact Nat.le_refl _);have I7:=q_ hb;have hx0:=lS B8 0;have hx1:=lS B8 1;have Ix:=gE cM 0;have F5:=gE cM 1;clear hg cM hb) | ((with_reducible refine q8 (t:=34) (p:=8) rfl ?_);refine DK 34 8 ((w6.setCell ⟨g8,0,none⟩ (.slice (some ⟨wJ,0,none⟩) n c2)).setCell ⟨g8,1,none⟩ (.slice (some ⟨gq,0,none⟩) n d2)) ?_;intro w7 hw;have yP:=Cp.new (g4:=g4) (W:=w4.heap.size) HE.out (by have:=HG.out;have:=HL.out;omega) ST.out ⟨G4.out.1,GB4.out⟩ B4.out D2.out E8.out.size (by rw [L2.out];exact R2.out) I7.out G8.out B8.out;rw [L2.out, ← hw] at yP;have CP:=q_ yP.1;have RQ:=q_ yP.2;clear yP hw hx0 hx1 Ix F5;have hx0:=lS (q_ CP.out.bb) 0;have hx1:=lS (q_ CP.out.bb) 1) | ((with_reducible refine nL (b:= .append) (xs:= #[.tmp 49, .tmp 50]) rfl ?_);at_builtin;refine Kd.qo (Kd.int .i64) (w0:=w7) w4.heap.size rfl (.tmp 49) (.tmp 50) 24 2 (.int .i64 0) 8 rfl Tryz.underlying24 q6 rfl (by decide) (by omega) (.slice (some ⟨gq,0,none⟩) n d2) Q2 0 [.int .i64 0] (okC w4.heap.size g8 n wJ b2) (fun _=>False) rfl rfl rfl (fun _ hk=>hk.elim) CP.out.fresh.2 RQ.out (Below.refl _ _) CP.out.fresh.1 ?aL ?_;(case aL=>have:=HN.out;have:=L2.out;omega);intro v51 w8 ho hb hg hat;replace CP:=q_ (CP.out.grow RQ.out hg hb);replace RQ:=q_ ho;clear ho hb hg hat hx0 hx1;obtain⟨A9,c9,e9⟩:=Kd.mE RQ.out;have hl9:(Q2++ [0]).length=n+1:=(by have:=L2.out;simp;omega);rw [hl9] at e9;subst e9;have Hu:=q_ hl9;clear hl9;have hx1:=lS (q_ CP.out.bb) 1;have F5:=gE CP.out.bb 1) | ((with_reducible refine q8 (t:=24) (p:=52) rfl ?_);refine DK 24 52 (w8.setCell ⟨g8,1,none⟩ (.slice A9 (n+1) c9)) ?_;intro w9 hw;have yP:=CP.out.store RQ.out;rw [← hw] at yP;replace RQ:=q_ yP.2;replace CP:=q_ yP.1;clear yP hw hx1 F5;have hx0:=lS (q_ CP.out.bb) 0;have hx1:=lS (q_ CP.out.bb) 1;have y40:=lS (q_ CP.out.b4) 0;have y41:=lS (q_ CP.out.b4) 1;have g40:=gE CP.out.b4 0;have g41:=gE CP.out.b4 1))
  clear ST P RP D2 R2 B4 I7 G8 B8 E8 B3;refine bodyPost_ret (results_cell_row rfl _ _ g4 34 #[.slice (some ⟨wJ,0,none⟩) n c2, .slice A9 (n+1) c9] (0,0) _ rfl (mD (mD CP.out.b4 0 _ rfl) 1 _ rfl) Tryz.underlying34 rfl (by kernel_rfl)) rfl ?_
  have fin:=Cp.out (Q:=Q2++ [0]) (by rw [Hu.out];exact CP.out) (by rw [Hu.out];exact RQ.out) HG.out HL.out (by rw [Hu.out];omega);rw [Hu.out] at fin;exact⟨_,rfl,fin⟩
 have y3b:(y==3)=false:=by simpa using y3
 clear y3;obtain⟨x30,Ce,YT,YS⟩:=nF B3;obtain⟨x40,x41,f40,f41⟩:=nF B4;go_wp2
 refine bodyPost_ret (results_cell_row rfl _ _ g4 34 #[.slice (some ⟨gm,0,none⟩) n c, .slice A n c1] (0,0) _ rfl (mD (mD B4.out 0 _ rfl) 1 _ rfl) Tryz.underlying34 rfl (by kernel_rfl)) rfl ?_
 have g4a:=G4.out;have hl:=HL.out;have hgg:=HG.out;have S4:=(ST.out.set HE.out g4 0 (.slice (some ⟨gm,0,none⟩) n c) g4a.1 (by omega)).set HE.out g4 1 (.slice A n c1) g4a.1 (by omega);have pl:=PL.out;have q1:g4≠gm:=by omega
 have q2: ∀j,j < n→g4≠b j:=fun j hj=>by have:=pl.2 j hj;omega
 exact⟨_,rfl, .inr ⟨gm,c,b,cp,A,c1,Q,by rw [HQ.out],⟨(P.out.dm.set q1 q2).set q1 q2,Kd.fY (Kd.nN (Kd.nN RP.out (p:=⟨g4,0,none⟩) (fun k hk=>by show k≠g4;have:=hk.2;omega) _) (p:=⟨g4,1,none⟩) (fun k hk=>by show k≠g4;have:=hk.2;omega) _) (fun k hk=>hk.1),P.out.ql⟩⟩,S4⟩
end Go.Proofs.YthmfdplckdijdaaGreat.Dr
end
section
namespace Go.Proofs.YthmfdplckdijdaaGreat.Dr
open Go.RowKit Wz.cw Wz.fX Wz.cX Ma Pr Lq
def ae8 (w0 wE:World) (g lo n:Nat) (v:Value) (w':World):Prop:=(∃gm c b cp A c1 Q,v= .agg #[.slice (some ⟨gm,0,none⟩) n c, .slice A n c1]∧Q.length=n∧Pb w' g lo n gm c b cp A c1 Q)∧o7 w0 wE g w'
theorem Prb.is {w0 w w':World} {g n:Nat} {v:Value} (h:Prb w0 w g n v w'):ae8 w0 w g w.heap.size n v w':=by
 obtain⟨gm,c,b,cp,A,c1,Q,rfl,hQ,hD,hR,hS⟩:=h
 exact⟨⟨gm,c,b,cp,A,c1,Q,rfl,hQ,hD,by rw [hQ];exact hR,by omega,by omega⟩,hS⟩
theorem Pb.far {w:World} {g lo n gm c:Nat} {b cp:Nat→Nat} {A:Option Addr} {c1:Nat} {Q:List Int} (h:Pb w g lo n gm c b cp A c1 Q) {p:Nat} (hp:p < lo) (i:Nat) (u:Value):Pb (w.setCell ⟨p,i,none⟩ u) g lo n gm c b cp A c1 Q:=by
 have g0:=h.dm.g0
 refine⟨h.dm.set (by omega) (fun j hj=>by have:=(h.dm.rr j hj).1;omega),?_,h.ql⟩
 have r2:=Kd.fY (ok':=fun k=>(k≠g∧k≠gm∧ ∀j,j < n→k≠b j)∧k≠p) (Kd.q5 rfl h.rq) (fun k hk=>⟨h.rq.1 k hk.symm,by have:=Kd.o8 h.rq k hk.symm;omega⟩)
 exact Kd.fY (Kd.nN r2 (p:=⟨p,i,none⟩) (fun k hk=>hk.2) u) (fun k hk=>hk.1)
theorem Pb.down {w:World} {g lo Il n gm c:Nat} {b cp:Nat→Nat} {A:Option Addr} {c1:Nat} {Q:List Int} (h:Pb w g lo n gm c b cp A c1 Q) (hl:Il≤lo):Pb w g Il n gm c b cp A c1 Q:=⟨h.dm.down hl,Kd.ng h.rq hl,h.ql⟩
theorem abL {w0 w:World} {g:Nat} (h:zO w0 w g) (hB:Below w0.heap.size w0 w):Calls Tryz.prog 80 #[.pointer (some ⟨g,0,none⟩)] w fun e w'=> ∃n v,0 < n∧n≤5∧e= .returned v∧ae8 w0 w g w.heap.size n v w':=by
 have ST:=q_ (o7.refl h hB);have HG:=q_ h.lt;have HE:=q_ hB.size;clear h hB
 go_enter Tryz.func80,Tryz.ntmps80
 go_wp2_with (first | ((with_reducible refine dg (N:=2) rfl ?_);refine nR 2 #[.slice none 0 0, .slice none 0 0] 34 ?_;intro g2 hg w2 cM hb;have G2:=q_ (show w.heap.size≤g2 by rw [hg];exact Nat.le_refl _);have B2:=q_ cM;replace ST:=q_ (ST.out.trans (o7.oy ST.out.src ST.out.below hb));clear hg cM hb) | ((with_reducible refine dg (N:=5) rfl ?_);refine Kd.tu (Kd.int .i64) _ 2 ?hg (N:=5) ?hd (xs:=([1,2,2,3,3,3,4,5]:List Int)) (inner:= [.int .i64 1, .int .i64 2, .int .i64 2, .int .i64 3, .int .i64 3, .int .i64 3, .int .i64 4, .int .i64 5]) (ok:=fun _=>True) (oC:=fun _=>True) ?hr ?hp (fun _ hk=>hk) trivial (Below.refl _ _) (Nat.le_refl _) (by simp) ?_;(case hd=>rfl);(case hg=>rfl);(case hr=>first | (go_simp;done) | (go_simp;rfl));(case hp=>exact vM [1,2,2,3,3,3,4,5]);intro v5 w3 ho hb hg_ om;obtain⟨g5,c5,rfl,hb5,hl5,_⟩:=Kd.rX ho (by simp);have G5:=q_ (Nat.lt_of_lt_of_le ST.out.src.lt hb5);replace ST:=q_ (ST.out.trans (o7.oy ST.out.src ST.out.below hb));replace B2:=q_ (ke B2.out hb);have R5:=q_ ho;clear hg_ om ho hb hb5 hl5))
 refine(Cm ST.out.src ST.out.below _ c5 [1,2,2,3,3,3,4,5] (Kd.lU R5.out).2.2 (Kd.lU R5.out).2.1 (fun ad e _=>by injection e with e;subst e;show g5≠g;have:=G5.out;omega) (by decide)).mono ?_
 rintro e w4 ⟨x,rfl,hx,hS⟩;obtain⟨n,rfl,hn1,hn5⟩: ∃n:Nat,x=(n:Int)∧0 < n∧n≤5:=by
  simp only [List.mem_cons,List.not_mem_nil,or_false] at hx;exact⟨x.toNat,by omega,by omega,by omega⟩
 have Hs:=q_ hn1;have HN5:=q_ hn5;replace ST:=q_ (ST.out.trans hS);replace B2:=q_ (hS.keep.blk B2.out (by have:=G2.out;have:=HG.out;omega) (by simp));clear hx hn1 hn5 hS R5 G5
 go_wp2_with fail
 refine(VT ST.out.src ST.out.below n HN5.out Hs.out).mono ?_
 rintro e w5 ⟨v,rfl,hP⟩;obtain⟨⟨gm,c,b,cp,A,c1,Q,rfl,hQ,hPb⟩,hS⟩:=hP.is;have L4:=q_ (pq B2.out);have W4:=q_ ST.out.keep.1;replace ST:=q_ (ST.out.trans hS);replace B2:=q_ (hS.keep.blk B2.out (by have:=G2.out;have:=HG.out;omega) (by simp));have HQ:=q_ hQ;have P:=q_ hPb;obtain⟨x0,x1,f0,f1⟩:=nF B2;clear hP hQ hPb hS;go_wp2
 refine bodyPost_ret (results_cell_row rfl _ _ g2 34 #[.slice (some ⟨gm,0,none⟩) n c, .slice A n c1] (0,0) _ rfl (mD (mD B2.out 0 _ rfl) 1 _ rfl) Tryz.underlying34 rfl (by kernel_rfl)) rfl ?_
 have y8:=G2.out;have hgg:=HG.out;exact⟨n,_,Hs.out,HN5.out,rfl,⟨gm,c,b,cp,A,c1,Q,rfl,HQ.out,((P.out.far L4.out 0 _).far L4.out 1 _).down W4.out⟩,(ST.out.set HE.out g2 0 _ y8 (by omega)).set HE.out g2 1 _ y8 (by omega)⟩
end Go.Proofs.YthmfdplckdijdaaGreat.Dr
end
section
namespace Go.Proofs.YthmfdplckdijdaaGreat.Dr
open Go.RowKit Wz.cw Wz.fX Wz.cX Ma Pr Lq
theorem sx.far {w0 wE w:World} {g lo n:Nat} {v:Value} (h:sx w0 wE g lo n v w) (hE:w0.heap.size≤wE.heap.size) {p:Nat} (hp:p < lo) (hw:wE.heap.size≤p) (hg:p≠g) (i:Nat) (u:Value):sx w0 wE g lo n v (w.setCell ⟨p,i,none⟩ u):=by
 obtain⟨h1,h2⟩:=h
 refine⟨?_,h2.set hE p i u hw hg⟩
 rcases h1 with h1 | ⟨gm,c,b,cp,A,c1,Q,h1,h3⟩
 ·exact .inl h1
 ·exact .inr ⟨gm,c,b,cp,A,c1,Q,h1,h3.far hp i u⟩
theorem sx.down {w0 wE w:World} {g lo Il n:Nat} {v:Value} (h:sx w0 wE g lo n v w) (hl:Il≤lo):sx w0 wE g Il n v w:=by
 obtain⟨h1,h2⟩:=h
 rcases h1 with h1 | ⟨gm,c,b,cp,A,c1,Q,h1,h3⟩
 ·exact⟨.inl h1,h2⟩
 ·exact⟨.inr ⟨gm,c,b,cp,A,c1,Q,h1,h3.down hl⟩,h2⟩
theorem sx.start {w0 wE w1 w:World} {g lo n:Nat} {v:Value} (h:sx w0 w1 g lo n v w) (hS:o7 w0 wE g w1):sx w0 wE g lo n v w:=⟨h.1,hS.trans h.2⟩
theorem sx.pair {w0 wE w:World} {g lo n:Nat} {v:Value} (h:sx w0 wE g lo n v w): ∃(A1 A2:Option Addr) (a b a2 b2:Nat),v= .agg #[.slice A1 a b, .slice A2 a2 b2]:=by
 rcases h.1 with h1 | ⟨gm,c,b,cp,A,c1,Q,h1,h3⟩
 ·exact⟨_,_,_,_,_,_,h1⟩
 ·exact⟨_,_,_,_,_,_,h1⟩
abbrev RV (w:World) (W g4:Nat) (v:Value) (l:List Int):Prop:=Kd.R (Kd.int .i64) 2 w W (fun k=>W≤k∧k≠g4) v l
theorem RV.mv {w0 w w1:World} {W g g4:Nat} {v:Value} {l:List Int} (h:RV w W g4 v l) (hS:o7 w0 w g w1) (hg:g < W):RV w1 W g4 v l:=Kd.wq h hS.keep (fun k hk=>by have:=hk.1;omega)
theorem aij {w0 w:World} {g:Nat} (h:zO w0 w g) (hB:Below w0.heap.size w0 w):Calls Tryz.prog 60 #[.pointer (some ⟨g,0,none⟩)] w fun e w'=> ∃n v A cc CV,e= .returned (.tuple #[v, .slice A (List.length CV) cc])∧0 < n∧n≤5∧sx w0 w g w.heap.size n v w'∧Kd.R (Kd.int .i64) 2 w' w.heap.size (fun k=>k≠g) (.slice A CV.length cc) CV∧CV.length≤6:=by
 have ST:=q_ (o7.refl h hB);have HG:=q_ h.lt;have HE:=q_ hB.size;clear h hB
 go_enter Tryz.func60,Tryz.ntmps60
 go_wp2_with (first | ((with_reducible refine dg (N:=2) rfl ?_);refine nR 2 #[.slice none 0 0, .slice none 0 0] 34 ?_;intro g2 hg w2 cM hb;have G2:=q_ (show w.heap.size≤g2 by rw [hg];exact Nat.le_refl _);have B2:=q_ cM;replace ST:=q_ (ST.out.trans (o7.oy ST.out.src ST.out.below hb));clear hg cM hb))
 refine(abL ST.out.src ST.out.below).mono ?_
 rintro e w3 ⟨n,v,hn0,hn5,rfl,⟨gm,c,b,cp,A,c1,Q,rfl,hQ,hP⟩,hS⟩;have LO:=q_ (show g2 < w2.heap.size∧w.heap.size≤w2.heap.size from ⟨pq B2.out,ST.out.keep.1⟩);have P:=q_ hP;have HQ:=q_ hQ;have HN:=q_ hn5;have uq:=q_ hn0;have LW:=q_ hS.keep.1;replace B2:=q_ (hS.keep.blk B2.out (by have:=G2.out;have:=HG.out;omega) (by simp));replace ST:=q_ (ST.out.trans hS);have SD:=q_ (o7.refl ST.out.src ST.out.below);have GD:=q_ ST.out.src.lt;have ED:=q_ ST.out.below.size;clear hS hP hQ hn0 hn5
 go_wp2_with (first | ((with_reducible refine dg (N:=10) rfl ?_);refine Kd.tu (Kd.int .i64) _ 2 ?hg (N:=10) ?hd (xs:=([]:List Int)) (inner:= []) (ok:=fun _=>True) (oC:=fun _=>True) ?hr ?hp (fun _ hk=>hk) trivial (Below.refl _ _) (Nat.le_refl _) (by simp) ?_;(case hd=>rfl);(case hg=>rfl);(case hr=>first | (go_simp;done) | (go_simp;rfl));(case hp=>exact vM []);intro v10 w4 ho hb hg_ om;have hs_:=o7.oy SD.out.src SD.out.below hb;have RV0:aE (Kd.R (Kd.int .i64) 2 w4 w3.heap.size (fun _=>True) v10 []):=⟨ho⟩;replace SD:=q_ (SD.out.trans hs_);clear hs_ hg_ om ho hb) | ((with_reducible refine dg (N:=12) rfl ?_);refine Kd.tu (Kd.int .i64) _ 2 ?hg (N:=12) ?hd (xs:=([1,1,3,20]:List Int)) (inner:= [.int .i64 1, .int .i64 1, .int .i64 3, .int .i64 20]) (ok:=fun _=>True) (oC:=fun _=>True) ?hr ?hp (fun _ hk=>hk) trivial (Below.refl _ _) (Nat.le_refl _) (by simp) ?_;(case hd=>rfl);(case hg=>rfl);(case hr=>first | (go_simp;done) | (go_simp;rfl));(case hp=>exact vM [1,1,3,20]);intro Di w5 ho hb hg_ om;obtain⟨g12,qQ,rfl,ajg,anp,_⟩:=Kd.rX ho (by simp);have G12:=q_ (Nat.lt_of_lt_of_le SD.out.src.lt ajg);have hs_:=o7.oy SD.out.src SD.out.below hb;replace RV0:=q_ (Kd.oQ RV0.out hb);replace SD:=q_ (SD.out.trans hs_);have R12:=q_ ho;clear hs_ ajg anp hg_ om ho hb))
 refine(Cm SD.out.src SD.out.below _ qQ [1,1,3,20] (Kd.lU R12.out).2.2 (Kd.lU R12.out).2.1 (fun ad e _=>by injection e with e;subst e;show g12≠g;have:=G12.out;omega) (by decide)).mono ?_
 rintro e w6 ⟨mo,rfl,_,hS⟩;have RV2:aE (Kd.R (Kd.int .i64) 2 w6 w3.heap.size (fun k=>w3.heap.size≤k) v10 []):=⟨Kd.wq (Kd.fY (Kd.q5 rfl RV0.out) (fun k hk=>Kd.o8 RV0.out k hk.symm)) hS.keep (fun k hk=>by have:=GD.out;omega)⟩
 replace SD:=q_ (SD.out.trans hS);clear hS RV0 R12 G12;obtain⟨EA,qF,rfl⟩:=Kd.mE RV2.out
 go_wp2_with (first | ((with_reducible refine dg (N:=4) rfl ?_);refine nR 4 #[.slice none 0 0, .slice none 0 0] 34 ?_;intro g4 hg w7 cM hb;have B4:=q_ cM;have G4:=q_ (show w3.heap.size≤g4 by rw [hg];exact SD.out.keep.1);have hs_:=o7.oy SD.out.src SD.out.below hb;have tO:aE (RV w7 w3.heap.size g4 (.slice EA ([]:List Int).length qF) []):=⟨Kd.oQ (Kd.fY (Kd.q5 rfl RV2.out) (fun k hk=>⟨RV2.out.1 k hk.symm,by rw [hg];have:=Kd.qw RV2.out k hk.symm;omega⟩)) hb⟩;replace SD:=q_ (SD.out.trans hs_);have hx0:=lS B4 0;have hx1:=lS B4 1;have Ix:=gE cM 0;have F5:=gE cM 1;clear hs_ RV2 hg cM hb) | ((with_reducible refine q8 (t:=34) (p:=4) rfl ?_);refine DK 34 4 ((w7.setCell ⟨g4,0,none⟩ (.slice (some ⟨gm,0,none⟩) n c)).setCell ⟨g4,1,none⟩ (.slice A n c1)) ?_;intro w8 hw;replace SD:=q_ (show o7 w0 w3 g w8 by rw [hw];exact(SD.out.set ED.out g4 0 _ G4.out (by have:=G4.out;have:=GD.out;omega)).set ED.out g4 1 _ G4.out (by have:=G4.out;have:=GD.out;omega));replace B4:=q_ (show w8.heap[g4]?=some (.cells #[.slice (some ⟨gm,0,none⟩) n c, .slice A n c1] 34 (0,0)) by rw [hw];exact mD (mD B4.out 0 _ rfl) 1 _ rfl);replace tO:=q_ (show RV w8 w3.heap.size g4 (.slice EA ([]:List Int).length qF) [] by rw [hw];exact Kd.nN (Kd.nN tO.out (p:=⟨g4,0,none⟩) (fun k hk=>hk.2) _) (p:=⟨g4,1,none⟩) (fun k hk=>hk.2) _);clear hw hx0 hx1 Ix F5))
 go_loopg [5,7] n (fun gg v5 v7 wr=> ∃(i:Nat) (Ac:Option Addr) (cc:Nat) (CV:List Int),i≤n∧n - i≤gg∧v5= .slice Ac i cc∧v7= .int .i64 (i:Int)∧CV.length=i∧aE (RV wr w3.heap.size g4 (.slice Ac i cc) CV)∧aE (wr.heap[g4]?=some (.cells #[.slice (some ⟨gm,0,none⟩) n c, .slice A n c1] 34 (0,0)))∧aE (o7 w0 w3 g wr))
 case atStart=>exact⟨0,_,_, [],Nat.zero_le _,by omega,rfl,rfl,rfl,tO,B4,SD⟩
 case round=>
  clear tO B4 SD;obtain⟨i,Ac,cc,CV,hi',hg,rfl,rfl,hl,tO,B4,SD⟩:=hrel;have Xb:=q_ hg;have HL:=q_ hl;have hx1:=lS B4 1
  by_cases hlt:i < n
  ·have pZ:(i:Int) < (n:Int):=by omega
   have hwi:IntKind.i64.wrap ((i:Int)+1)=((i+1:Nat):Int):=by rw [IntWalk.i64_in _ (by have:=HN.out;omega)];rfl
   have Bh:=q_ hwi;have mG:=q_ hlt;clear hi' hg hlt hl
   go_wp2_with fail
   refine(Cn SD.out.src SD.out.below mo).mono ?_
   rintro e w9 ⟨x,rfl,_,hS⟩;replace SD:=q_ (SD.out.trans hS);replace tO:=q_ (RV.mv tO.out hS GD.out);replace B4:=q_ (hS.keep.blk B4.out (by have:=G4.out;have:=GD.out;omega) (by simp));clear hS hx1
   go_wp2_with (first | ((with_reducible refine nL (b:= .append) (xs:= #[.tmp 21, .tmp 26]) rfl ?_);at_builtin;refine Kd.qo (Kd.int .i64) (w0:=w9) w3.heap.size rfl (.tmp 21) (.tmp 26) 24 2 (.int .i64 0) 8 rfl Tryz.underlying24 q6 rfl (by decide) (by omega) (.slice Ac i cc) CV (wrap64 (1+x)) [.int .i64 (wrap64 (1+x))] (fun k=>w3.heap.size≤k∧k≠g4) (fun _=>False) rfl rfl rfl (fun _ hk=>hk.elim) (fun k hk=>⟨Nat.le_trans SD.out.keep.1 hk,by have:=pq B4.out;omega⟩) tO.out (Below.refl _ _) SD.out.keep.1 ?aL ?_;(case aL=>have:=HN.out;have:=HL.out;omega);intro aa asq ho hb hg hat;replace B4:=q_ (m8 B4.out hg (fun e_=>(tO.out.1 g4 e_.symm).2 rfl));replace SD:=q_ (SD.out.lo ED.out GD.out hb);replace tO:=q_ ho;clear ho hb hg hat))
   obtain⟨A9,c9,e9⟩:=Kd.mE tO.out;have hl9:(CV++ [wrap64 (1+x)]).length=i+1:=by have:=HL.out;simp;omega
   rw [hl9] at e9;subst e9;have Hu:=q_ hl9;clear hl9
   go_roundg (n - (i+1))
   case measure=>have:=Xb.out;have:=mG.out;omega
   case rel=>exact⟨i+1,_,_,_,mG.out,by omega,rfl,by first | rfl | (rw [Bh.out]) | (simp [Bh.out]),Hu.out,tO,B4,SD⟩
  ·have pZ: ¬ (i:Int) < (n:Int):=by omega
   obtain rfl:n=i:=by omega
   clear hi' hg hlt hl
   go_wp2_with fail
   refine(Cn SD.out.src SD.out.below 24).mono ?_
   rintro e tE ⟨y,rfl,_,hS⟩;replace SD:=q_ (SD.out.trans hS);replace tO:=q_ (RV.mv tO.out hS GD.out);replace B4:=q_ (hS.keep.blk B4.out (by have:=G4.out;have:=GD.out;omega) (by simp));clear hS hx1;obtain⟨gc,dc,ec,hbc,hlc,_⟩:=Kd.rX tO.out (by rw [HL.out];exact uq.out);injection ec with e1 e2 e3
   subst e1;clear e2 e3;have hn0:=uq.out
   by_cases y0:y=0
   ·have y0b:(y==0)=true:=by simpa using y0
    clear y0
    go_wp2_with (first | ((with_reducible refine dg (N:=34) rfl ?_);refine Kd.tu (Kd.int .i64) _ 2 ?hg (N:=34) ?hd (xs:=([0,21, -1]:List Int)) (inner:= [.int .i64 0, .int .i64 21, .int .i64 (-1)]) (ok:=fun _=>True) (oC:=fun _=>True) ?hr ?hp (fun _ hk=>hk) trivial (Below.refl _ _) (Nat.le_refl _) (by simp) ?_;(case hd=>rfl);(case hg=>rfl);(case hr=>first | (go_simp;done) | (go_simp;rfl));(case hp=>exact vM [0,21, -1]);intro v34 rB ho hb hg_ om;obtain⟨g34,IK,rfl,ajd,ank,_⟩:=Kd.rX ho (by simp);have G34:=q_ (Nat.lt_of_lt_of_le SD.out.src.lt ajd);have hs_:=o7.oy SD.out.src SD.out.below hb;replace SD:=q_ (SD.out.trans hs_);replace tO:=q_ (RV.mv tO.out hs_ GD.out);replace B4:=q_ (hs_.keep.blk B4.out (by have:=G4.out;have:=GD.out;omega) (by simp));have R34:=q_ ho;clear hs_ ajd ank hg_ om ho hb))
    refine(Cm SD.out.src SD.out.below _ IK [0,21, -1] (Kd.lU R34.out).2.2 (Kd.lU R34.out).2.1 (fun ad e _=>by injection e with e;subst e;show g34≠g;have:=G34.out;omega) (by decide)).mono ?_
    rintro e tX ⟨x,rfl,_,hS⟩;replace SD:=q_ (SD.out.trans hS);replace tO:=q_ (RV.mv tO.out hS GD.out);replace B4:=q_ (hS.keep.blk B4.out (by have:=G4.out;have:=GD.out;omega) (by simp));clear hS R34 G34;have hat:=Kd.tW 0 tO.out 0 (by omega) (by omega);have hcell:=hat.1;have hfr:=hat.2;rw [show (0:Int).toNat=0 from rfl] at hcell hfr;have hput:=Kd.zl tO.out 0 x;rw [show (0:Int).toNat=0 from rfl] at hput;have hown:=tO.out.1 gc (by simp [Value.ownBlock])
    go_wp2_with (first | ((with_reducible refine q8 (t:=2) (p:=36) rfl ?_);refine DK 2 36 (tX.setCell ⟨gc,0,none⟩ (.int .i64 x)) ?_;intro Ah hw;have SD2:=q_ (show o7 w0 w3 g Ah by rw [hw];exact SD.out.set ED.out gc 0 _ hown.1 (by have:=hown.1;have:=GD.out;omega));replace B4:=q_ ((show Ah.heap[g4]?=tX.heap[g4]? by rw [hw];exact Below.heap_setCell tX ⟨gc,0,none⟩ _ g4 (Ne.symm hown.2)).trans B4.out);replace tO:aE (RV Ah w3.heap.size g4 (.slice (some ⟨gc,0,none⟩) n cc) (CV.set 0 x)):=⟨by rw [hw];exact hput.1⟩;replace SD:=SD2;clear SD2 hw hcell hfr hput hat hown;have hx0:=lS B4 0;have hx1:=lS B4 1))
    have hx0:=lS B4 0;have hx1:=lS B4 1
    go_wp2_with fail
    have PD:Pb _ g w2.heap.size n gm c b cp A c1 Q:=P.out.mv SD.out (by have:=LO.out;have:=HG.out;omega);refine(PX SD.out.src SD.out.below PD HQ.out HN.out uq.out (by have:=LO.out;have:=HG.out;omega) (Nat.le_trans LW.out SD.out.keep.1)).mono ?_
    rintro e vu ⟨Jy,rfl,hP⟩;have PO:=q_ (sx.start hP (ST.out.trans SD.out));obtain⟨pA,pB,pa,pb,pc,pd,rfl⟩:=hP.pair;have hS:=hP.2;replace B2:=q_ ((SD.out.trans hS).keep.blk B2.out (by have:=G2.out;have:=HG.out;omega) (by simp));replace tO:=q_ (RV.mv tO.out hS GD.out);clear hP hS hx0 hx1 PD;obtain⟨y0,y1,k0,k1⟩:=nF B2
    go_wp2_with (first | ((with_reducible refine q8 (t:=34) (p:=2) rfl ?_);refine DK 34 2 ((vu.setCell ⟨g2,0,none⟩ (.slice pA pa pb)).setCell ⟨g2,1,none⟩ (.slice pB pc pd)) ?_;intro Jx hw;subst hw;clear k0 k1))
    refine bodyPost_ret (tS rfl _ _ g2 34 #[.slice pA pa pb, .slice pB pc pd] (0,0) _ rfl (mD (mD B2.out 0 _ rfl) 1 _ rfl) Tryz.underlying34 rfl (by kernel_rfl)) rfl ?_
    have lo:=LO.out;have y8:=G2.out;have hgg:=HG.out;have lw:=LW.out;have rv:Kd.R (Kd.int .i64) 2 _ w.heap.size (fun k=>k≠g) _ (CV.set 0 x):=Kd.ng (Kd.fY (Kd.nN (Kd.nN tO.out (p:=⟨g2,0,none⟩) (fun k hk=>by show k≠g2;have:=hk.1;omega) (.slice pA pa pb)) (p:=⟨g2,1,none⟩) (fun k hk=>by show k≠g2;have:=hk.1;omega) (.slice pB pc pd)) (fun k hk=>by have:=hk.1;omega)) (by omega);exact⟨n,_,_,_,(CV.set 0 x),by rw [(show (CV.set 0 x).length=n by rw [List.length_set];exact HL.out)];rfl,uq.out,HN.out,(((PO.out.far HE.out lo.1 y8 (by omega) 0 (.slice pA pa pb)).far HE.out lo.1 y8 (by omega) 1 (.slice pB pc pd)).down lo.2),by rw [(show (CV.set 0 x).length=n by rw [List.length_set];exact HL.out)];exact rv,by rw [(show (CV.set 0 x).length=n by rw [List.length_set];exact HL.out)];have:=HN.out;omega⟩
   ·have y0b:(y==0)=false:=by simpa using y0
    by_cases y1:y=1
    ·have y1b:(y==1)=true:=by simpa using y1
     clear y0 y1
     go_wp2_with (first | ((with_reducible refine nL (b:= .append) (xs:= #[.tmp 39, .tmp 40]) rfl ?_);at_builtin;refine Kd.qo (Kd.int .i64) (w0:=tE) w3.heap.size rfl (.tmp 39) (.tmp 40) 24 2 (.int .i64 0) 8 rfl Tryz.underlying24 q6 rfl (by decide) (by omega) (.slice (some ⟨gc,0,none⟩) n cc) CV 1 [.int .i64 1] (fun k=>w3.heap.size≤k∧k≠g4) (fun _=>False) rfl rfl rfl (fun _ hk=>hk.elim) (fun k hk=>⟨Nat.le_trans SD.out.keep.1 hk,by have:=pq B4.out;omega⟩) tO.out (Below.refl _ _) SD.out.keep.1 ?aL ?_;(case aL=>have:=HN.out;have:=HL.out;omega);intro ae asp ho hb hg hat;replace B4:=q_ (m8 B4.out hg (fun e_=>(tO.out.1 g4 e_.symm).2 rfl));replace SD:=q_ (SD.out.lo ED.out GD.out hb);replace tO:=q_ ho;have hx0:=lS B4 0;have hx1:=lS B4 1;clear ho hb hg hat))
     obtain⟨A9,c9,e9⟩:=Kd.mE tO.out;have hl9:(CV++ [1]).length=n+1:=by have:=HL.out;simp;omega
     rw [hl9] at e9;subst e9;have Hu:=q_ hl9;clear hl9;have hx0:=lS B4 0;have hx1:=lS B4 1
     go_wp2_with fail
     have PD:Pb _ g w2.heap.size n gm c b cp A c1 Q:=P.out.mv SD.out (by have:=LO.out;have:=HG.out;omega);refine(PX SD.out.src SD.out.below PD HQ.out HN.out uq.out (by have:=LO.out;have:=HG.out;omega) (Nat.le_trans LW.out SD.out.keep.1)).mono ?_
     rintro e vu ⟨Jy,rfl,hP⟩;have PO:=q_ (sx.start hP (ST.out.trans SD.out));obtain⟨pA,pB,pa,pb,pc,pd,rfl⟩:=hP.pair;have hS:=hP.2;replace B2:=q_ ((SD.out.trans hS).keep.blk B2.out (by have:=G2.out;have:=HG.out;omega) (by simp));replace tO:=q_ (RV.mv tO.out hS GD.out);clear hP hS hx0 hx1 PD;obtain⟨y0,y1,k0,k1⟩:=nF B2
     go_wp2_with (first | ((with_reducible refine q8 (t:=34) (p:=2) rfl ?_);refine DK 34 2 ((vu.setCell ⟨g2,0,none⟩ (.slice pA pa pb)).setCell ⟨g2,1,none⟩ (.slice pB pc pd)) ?_;intro Jx hw;subst hw;clear k0 k1))
     refine bodyPost_ret (tS rfl _ _ g2 34 #[.slice pA pa pb, .slice pB pc pd] (0,0) _ rfl (mD (mD B2.out 0 _ rfl) 1 _ rfl) Tryz.underlying34 rfl (by kernel_rfl)) rfl ?_
     have lo:=LO.out;have y8:=G2.out;have hgg:=HG.out;have lw:=LW.out;have rv:Kd.R (Kd.int .i64) 2 _ w.heap.size (fun k=>k≠g) _ (CV++ [1]):=Kd.ng (Kd.fY (Kd.nN (Kd.nN tO.out (p:=⟨g2,0,none⟩) (fun k hk=>by show k≠g2;have:=hk.1;omega) (.slice pA pa pb)) (p:=⟨g2,1,none⟩) (fun k hk=>by show k≠g2;have:=hk.1;omega) (.slice pB pc pd)) (fun k hk=>by have:=hk.1;omega)) (by omega);exact⟨n,_,_,_,(CV++ [1]),by rw [Hu.out];rfl,uq.out,HN.out,(((PO.out.far HE.out lo.1 y8 (by omega) 0 (.slice pA pa pb)).far HE.out lo.1 y8 (by omega) 1 (.slice pB pc pd)).down lo.2),by rw [Hu.out];exact rv,by rw [Hu.out];have:=HN.out;omega⟩
    ·have y1b:(y==1)=false:=by simpa using y1
     clear y0 y1;have hx0:=lS B4 0;have hx1:=lS B4 1
     go_wp2_with fail
     have PD:Pb _ g w2.heap.size n gm c b cp A c1 Q:=P.out.mv SD.out (by have:=LO.out;have:=HG.out;omega);refine(PX SD.out.src SD.out.below PD HQ.out HN.out uq.out (by have:=LO.out;have:=HG.out;omega) (Nat.le_trans LW.out SD.out.keep.1)).mono ?_
     rintro e vu ⟨Jy,rfl,hP⟩;have PO:=q_ (sx.start hP (ST.out.trans SD.out));obtain⟨pA,pB,pa,pb,pc,pd,rfl⟩:=hP.pair;have hS:=hP.2;replace B2:=q_ ((SD.out.trans hS).keep.blk B2.out (by have:=G2.out;have:=HG.out;omega) (by simp));replace tO:=q_ (RV.mv tO.out hS GD.out);clear hP hS hx0 hx1 PD;obtain⟨y0,y1,k0,k1⟩:=nF B2
     go_wp2_with (first | ((with_reducible refine q8 (t:=34) (p:=2) rfl ?_);refine DK 34 2 ((vu.setCell ⟨g2,0,none⟩ (.slice pA pa pb)).setCell ⟨g2,1,none⟩ (.slice pB pc pd)) ?_;intro Jx hw;subst hw;clear k0 k1))
     refine bodyPost_ret (tS rfl _ _ g2 34 #[.slice pA pa pb, .slice pB pc pd] (0,0) _ rfl (mD (mD B2.out 0 _ rfl) 1 _ rfl) Tryz.underlying34 rfl (by kernel_rfl)) rfl ?_
     have lo:=LO.out;have y8:=G2.out;have hgg:=HG.out;have lw:=LW.out;have rv:Kd.R (Kd.int .i64) 2 _ w.heap.size (fun k=>k≠g) _ CV:=Kd.ng (Kd.fY (Kd.nN (Kd.nN tO.out (p:=⟨g2,0,none⟩) (fun k hk=>by show k≠g2;have:=hk.1;omega) (.slice pA pa pb)) (p:=⟨g2,1,none⟩) (fun k hk=>by show k≠g2;have:=hk.1;omega) (.slice pB pc pd)) (fun k hk=>by have:=hk.1;omega)) (by omega);exact⟨n,_,_,_,CV,by rw [HL.out];rfl,uq.out,HN.out,(((PO.out.far HE.out lo.1 y8 (by omega) 0 (.slice pA pa pb)).far HE.out lo.1 y8 (by omega) 1 (.slice pB pc pd)).down lo.2),by rw [HL.out];exact rv,by rw [HL.out];have:=HN.out;omega⟩
end Go.Proofs.YthmfdplckdijdaaGreat.Dr
end
section
namespace Go.Proofs.YthmfdplckdijdaaGreat.Dr
open Go.RowKit Wz.cw Wz.fX Wz.cX Ma Pr Lq
theorem sx.two {w0 wE w:World} {g lo n:Nat} {v:Value} (h:sx w0 wE g lo n v w): ∃(A1 A2:Option Addr) (a b a2 b2:Nat),v= .agg #[.slice A1 a b, .slice A2 a2 b2]:=by
 rcases h.1 with h1 | ⟨gm,c,b,cp,A,c1,Q,h1,h3⟩
 ·exact⟨_,_,_,_,_,_,h1⟩
 ·exact⟨_,_,_,_,_,_,h1⟩
theorem agL {w0 w:World} {g:Nat} (h:zO w0 w g) (hB:Below w0.heap.size w0 w):Calls Tryz.prog 45 #[.pointer (some ⟨g,0,none⟩)] w fun e w'=> ∃n v,0 < n∧n≤5∧e= .returned v∧sx w0 w g w.heap.size n v w':=by
 have ST:=q_ (o7.refl h hB);have HG:=q_ h.lt;have HE:=q_ hB.size;clear h hB
 go_enter Tryz.func45,Tryz.ntmps45
 go_wp2_with (first | ((with_reducible refine dg (N:=2) rfl ?_);refine nR 2 #[.slice none 0 0, .slice none 0 0] 34 ?_;intro g2 hg w2 cM hb;have G2:=q_ (show w.heap.size≤g2 by rw [hg];exact Nat.le_refl _);have B2:=q_ cM;replace ST:=q_ (ST.out.trans (o7.oy ST.out.src ST.out.below hb));clear hg cM hb))
 refine(abL ST.out.src ST.out.below).mono ?_
 rintro e w3 ⟨n,v,hn0,hn5,rfl,⟨gm,c,b,cp,A,c1,Q,rfl,hQ,hP⟩,hS⟩;have LO:=q_ (show g2 < w2.heap.size∧w.heap.size≤w2.heap.size from ⟨pq B2.out,ST.out.keep.1⟩);have P:=q_ hP;have HQ:=q_ hQ;have HN:=q_ hn5;have uq:=q_ hn0;have LW:=q_ hS.keep.1;have GD:=q_ ST.out.src.lt;replace B2:=q_ (hS.keep.blk B2.out (by have:=G2.out;have:=HG.out;omega) (by simp));replace ST:=q_ (ST.out.trans hS);clear hS hP hQ hn0 hn5
 go_wp2_with fail
 refine(PX ST.out.src ST.out.below P.out HQ.out HN.out uq.out GD.out LW.out).mono ?_
 rintro e w4 ⟨v,rfl,hO⟩;obtain⟨pA,pB,pa,pb,pc,pd,rfl⟩:=hO.two;replace B2:=q_ (hO.2.keep.blk B2.out (by have:=G2.out;have:=HG.out;omega) (by simp));replace ST:=q_ (ST.out.trans hO.2);have PO:=q_ hO;obtain⟨x0,x1,f0,f1⟩:=nF B2;clear hO P HQ;go_wp2
 refine bodyPost_ret (results_cell_row rfl _ _ g2 34 #[.slice pA pa pb, .slice pB pc pd] (0,0) _ rfl (mD (mD B2.out 0 _ rfl) 1 _ rfl) Tryz.underlying34 rfl (by kernel_rfl)) rfl ?_
 have y8:=G2.out;have hgg:=HG.out;have lo:=LO.out.1;refine⟨n,_,uq.out,HN.out,rfl,?_,(ST.out.set HE.out g2 0 _ y8 (by omega)).set HE.out g2 1 _ y8 (by omega)⟩
 rcases PO.out.1 with h1 | ⟨gm,c,b,cp,A,c1,Q,h1,h3⟩
 ·exact .inl h1
 ·exact .inr ⟨gm,c,b,cp,A,c1,Q,h1,((h3.far lo 0 _).far lo 1 _).down LO.out.2⟩
end Go.Proofs.YthmfdplckdijdaaGreat.Dr
end
section
namespace Go.Proofs.YthmfdplckdijdaaGreat.Dr
open Go.RowKit Wz.cw Wz.fX Wz.cX Ma Pr Lq
def Rd (w:World) (v:Value) (M:List (List Int)) (Q:List Int):Prop:= ∃A1 c1 A2 c2,v= .agg #[.slice A1 M.length c1, .slice A2 Q.length c2]∧Kd.C (Kd.slice 2 (Kd.int .i64)) w A1 M.length M∧M.length≤c1∧Kd.C (Kd.int .i64) w A2 Q.length Q∧Q.length≤c2
def E4 (lo n:Nat) (v:Value) (w:World):Prop:=v= .agg #[.slice none 0 0, .slice none 0 0]∨ ∃gm c b cp A c1 Q,v= .agg #[.slice (some ⟨gm,0,none⟩) n c, .slice A (List.length Q) c1]∧Dm w lo gm n c b cp∧Kd.R (Kd.int .i64) 2 w lo (fun k=>k≠gm∧ ∀j,j < n→k≠b j) (.slice A Q.length c1) Q∧n≤Q.length∧Q.length≤n+1
theorem sx.d {w0 wE w:World} {g lo n:Nat} {v:Value} (h:sx w0 wE g lo n v w):E4 lo n v w:=by
 rcases h.1 with h1 | ⟨gm,c,b,cp,A,c1,Q,h1,h3⟩
 ·exact .inl h1
 ·exact .inr ⟨gm,c,b,cp,A,c1,Q,h1,h3.dm,Kd.fY h3.rq (fun k hk=>hk.2),h3.ql⟩
theorem E4.down {lo Il n:Nat} {v:Value} {w:World} (h:E4 lo n v w) (hl:Il≤lo):E4 Il n v w:=by
 rcases h with h1 | ⟨gm,c,b,cp,A,c1,Q,h1,h2,h3,h4⟩
 ·exact .inl h1
 ·exact .inr ⟨gm,c,b,cp,A,c1,Q,h1,h2.down hl,Kd.ng h3 hl,h4⟩
theorem E4.far {lo n:Nat} {v:Value} {w:World} (h:E4 lo n v w) {p:Nat} (hp:p < lo) (i:Nat) (u:Value):E4 lo n v (w.setCell ⟨p,i,none⟩ u):=by
 rcases h with h1 | ⟨gm,c,b,cp,A,c1,Q,h1,h2,h3,h4⟩
 ·exact .inl h1
 ·refine .inr ⟨gm,c,b,cp,A,c1,Q,h1,h2.set (by have:=h2.g0;omega) (fun j hj=>by have:=(h2.rr j hj).1;omega),?_,h4⟩
  exact Kd.fY (Kd.nN (p:=⟨p,i,none⟩) (Kd.fY (Kd.q5 rfl h3) (fun k hk=>(⟨Kd.o8 h3 k hk.symm,h3.1 k hk.symm⟩:lo≤k∧_))) (fun k hk=>by show k≠p;have:=hk.1;omega) u) (fun k hk=>hk.2)
theorem E4.pair {lo n:Nat} {v:Value} {w:World} (h:E4 lo n v w): ∃(A1 A2:Option Addr) (a b a2 b2:Nat),v= .agg #[.slice A1 a b, .slice A2 a2 b2]:=by
 rcases h with h1 | ⟨gm,c,b,cp,A,c1,Q,h1,h3⟩
 ·exact⟨_,_,_,_,_,_,h1⟩
 ·exact⟨_,_,_,_,_,_,h1⟩
theorem E4.rd {lo n:Nat} {v:Value} {w:World} (h:E4 lo n v w) (hn:n≤5): ∃M Q,Rd w v M Q∧M.length≤5∧Q.length≤6:=by
 rcases h with h1 | ⟨gm,c,b,cp,A,c1,Q,h1,h2,h3,h4⟩
 ·exact⟨[], [],⟨none,0,none,0,h1,Kd.aau _ _,Nat.le_refl _,Kd.aau _ _,Nat.le_refl _⟩,by simp,by simp⟩
 ·obtain⟨M,m1,m2,m3⟩:=h2.C (by omega)
  obtain⟨q1,q2,q3⟩:=Kd.lU h3
  exact⟨M,Q,⟨_,c,A,c1,by rw [h1,m1],m3,by rw [m1];exact h2.cap,q3,q2⟩,by omega,by omega⟩
theorem sx.mv {w0 wE w w1:World} {g lo n:Nat} {v:Value} (h:sx w0 wE g lo n v w) (hS:o7 w0 w g w1) (hg:g < lo):sx w0 wE g lo n v w1:=by
 obtain⟨h1,h2⟩:=h
 rcases h1 with h1 | ⟨gm,c,b,cp,A,c1,Q,h1,h3⟩
 ·exact⟨.inl h1,h2.trans hS⟩
 ·exact⟨.inr ⟨gm,c,b,cp,A,c1,Q,h1,h3.mv hS hg⟩,h2.trans hS⟩
theorem o7.drew {w0 w wE:World} {g:Nat} (h:o7 w0 wE g w):o7 w0 wE g w.drew:=h.trans (o7.oy h.src h.below (mS (Below.refl _ _)))
theorem Dm.below {w w':World} {lo gm n c:Nat} {b cp:Nat→Nat} (h:Dm w lo gm n c b cp) (hb:Below w.heap.size w w'):Dm w' lo gm n c b cp:=by
 have h0:=h.g0
 have hk:=mL.oy hb w.heap.size none
 refine⟨⟨h0.1,Nat.lt_of_lt_of_le h0.2 hk.1⟩,h.cap,fun j hj=>xI hk (h.row j hj) (by show gm≠_;omega),fun j hj=>?_,fun j k hj hk'=>?_⟩
 ·have:=h.rr j hj
  exact⟨this.1,Nat.lt_of_lt_of_le this.2.1 hk.1,this.2.2⟩
 ·have hr:=h.rr j hj
  obtain⟨⟨x,hx⟩,hf⟩:=h.ints j k hj hk'
  exact⟨⟨x,xI hk hx (by show b j≠_;omega)⟩,(Rv hk (by show b j < _;omega) (by show b j≠_;omega)).trans hf⟩
theorem E4.below {lo n:Nat} {v:Value} {w w':World} (h:E4 lo n v w) (hb:Below w.heap.size w w'):E4 lo n v w':=by
 rcases h with h1 | ⟨gm,c,b,cp,A,c1,Q,h1,h2,h3,h4⟩
 ·exact .inl h1
 ·exact .inr ⟨gm,c,b,cp,A,c1,Q,h1,h2.below hb,Kd.oQ h3 hb,h4⟩
end Go.Proofs.YthmfdplckdijdaaGreat.Dr
end
section
namespace Go.Proofs.YthmfdplckdijdaaGreat.Al
open Go.RowKit Wz.cw Wz.fX Wz.cX Pr
structure Al (P:World→Prop) (w:World):Prop where
 all: ∀w',Below w.heap.size w w'→P w'
theorem Al.now {P:World→Prop} {w:World} (h:Al P w):P w:=h.all w (Below.refl _ _)
theorem Al.mv {P:World→Prop} {w w':World} (h:Al P w) (hb:Below w.heap.size w w'):Al P w':=⟨fun w2 h2=>h.all w2 (eE hb h2)⟩
theorem Al.nil (w:World):Al (fun _=>True) w:=⟨fun _ _=>trivial⟩
theorem Al.Ed {P:World→Prop} {w:World} (h:Al P w) {α:Type} {d:Kd α} {A:Option Addr} {n:Nat} {xs:List α} (k:d.C w A n xs):Al (fun W=>d.C W A n xs∧P W) w:=⟨fun w2 h2=>⟨Kd.nW k h2,h.all w2 h2⟩⟩
theorem Al.ajG {P:World→Prop} {w:World} (h:Al P w) {g:Nat} {o:Obj} (k:w.heap[g]?=some o):Al (fun W=>W.heap[g]?=some o∧P W) w:=⟨fun w2 h2=>⟨ke k h2,h.all w2 h2⟩⟩
theorem wG {w w':World} (h:lP w w'):Below w.heap.size w w':=by
 obtain⟨nd,rfl⟩:=h
 exact oO (Below.refl _ _) nd
def Jk (s:Tmp):Code→Bool
 | .seq a b=>Jk s a || Jk s b
 | .block _ c=>Jk s c
 | .cond (.tmp t) _ _=>t==s
 | _=>false
def ET (s:Tmp):Code→Option Code
 | .seq a b=>if Jk s a then some b else ET s b
 | _=>none
end Go.Proofs.YthmfdplckdijdaaGreat.Al
end
section
namespace Go.Proofs.YthmfdplckdijdaaGreat.Dr
open Go.RowKit Wz.cw Wz.fX Wz.cX Ma Pr Lq Al
theorem agM {w0 w:World} {g:Nat} (h:zO w0 w g) (hB:Below w0.heap.size w0 w):Calls Tryz.prog 73 #[.pointer (some ⟨g,0,none⟩)] w fun e w'=> ∃n v,0 < n∧n≤5∧e= .returned v∧ae8 w0 w g w.heap.size n v w':=by
 have ST:=q_ (o7.refl h hB);have HG:=q_ h.lt;have HE:=q_ hB.size;clear h hB
 go_enter Tryz.func73,Tryz.ntmps73
 go_wp2_with (first | ((with_reducible refine dg (N:=2) rfl ?_);refine nR 2 #[.slice none 0 0, .slice none 0 0] 34 ?_;intro g2 hg w2 cM hb;have G2:=q_ (show w.heap.size≤g2 by rw [hg];exact Nat.le_refl _);have B2:=q_ cM;replace ST:=q_ (ST.out.trans (o7.oy ST.out.src ST.out.below hb));clear hg cM hb))
 refine(Cn ST.out.src ST.out.below 3).mono ?_
 rintro e w4 ⟨x,rfl,hx,hS⟩;obtain⟨n,hn,hn1,hn5⟩: ∃n:Nat,x=(n:Int) - 1∧0 < n∧n≤5:=by
  have:=hx (by decide);exact⟨(x+1).toNat,by omega,by omega,by omega⟩
 subst hn;have Hs:=q_ hn1;have HN5:=q_ hn5;replace ST:=q_ (ST.out.trans hS);replace B2:=q_ (hS.keep.blk B2.out (by have:=G2.out;have:=HG.out;omega) (by simp));have hadd:IntKind.i64.wrap (1+((n:Int) - 1))=(n:Int):=by rw [show 1+((n:Int) - 1)=(n:Int) by omega];exact IntWalk.i64_in _ (by omega)
 have ak9:wrap64 (1+((n:Int) - 1))=(n:Int):=by rw [show 1+((n:Int) - 1)=(n:Int) by omega];exact nH (by omega) (by omega)
 clear hx hn1 hn5 hS
 go_wp2_with fail
 refine(VT ST.out.src ST.out.below n HN5.out Hs.out).mono ?_
 rintro e w5 ⟨v,rfl,hP⟩;obtain⟨⟨gm,c,b,cp,A,c1,Q,rfl,hQ,hPb⟩,hS⟩:=hP.is;have L4:=q_ (pq B2.out);have W4:=q_ ST.out.keep.1;replace ST:=q_ (ST.out.trans hS);replace B2:=q_ (hS.keep.blk B2.out (by have:=G2.out;have:=HG.out;omega) (by simp));have HQ:=q_ hQ;have P:=q_ hPb;obtain⟨x0,x1,f0,f1⟩:=nF B2;clear hP hQ hPb hS hadd ak9;go_wp2
 refine bodyPost_ret (results_cell_row rfl _ _ g2 34 #[.slice (some ⟨gm,0,none⟩) n c, .slice A n c1] (0,0) _ rfl (mD (mD B2.out 0 _ rfl) 1 _ rfl) Tryz.underlying34 rfl (by kernel_rfl)) rfl ?_
 have y8:=G2.out;have hgg:=HG.out;exact⟨n,_,Hs.out,HN5.out,rfl,⟨gm,c,b,cp,A,c1,Q,rfl,HQ.out,((P.out.far L4.out 0 _).far L4.out 1 _).down W4.out⟩,(ST.out.set HE.out g2 0 _ y8 (by omega)).set HE.out g2 1 _ y8 (by omega)⟩
theorem alc {w:World} {A0:Option Addr} {c0:Nat} {l0:List Int} (hr0:Kd.C (Kd.int .u8) w A0 l0.length l0) (hc0:l0.length≤c0) (hb: ∀i:Nat,0≤l0.getD i 0∧l0.getD i 0≤255) (hl:l0.length≤4096):Calls Tryz.prog 21 #[.slice A0 l0.length c0] w fun e w'=> ∃v M Q A cc CV,e= .returned (.tuple #[v, .slice A (List.length CV) cc])∧Rd w' v M Q∧M.length≤5∧Q.length≤6∧Kd.C (Kd.int .i64) w' A CV.length CV∧CV.length≤cc∧CV.length≤6∧Below w.heap.size w w':=by
 obtain⟨⟨rb,ra,rh⟩,⟨kk,hf⟩,hrb,hs⟩:=YP hb hl
 change rb=l0 at hrb
 subst hrb;have HF:=q_ (hf kk (Nat.le_refl _));have HS:=q_ hs;have HR:=q_ hr0;have HC:=q_ hc0;have HB:=q_ (Below.refl w.heap.size w);clear hf hs hr0 hc0 hb hl
 go_enter Tryz.func21,Tryz.ntmps21
 go_wp2_with (first | ((with_reducible refine dg (N:=2) rfl ?_);refine nR 2 #[.slice none 0 0, .slice none 0 0] 34 ?_;intro g2 hg w2 cM hb;have G2:=q_ (show w.heap.size≤g2 by rw [hg];exact Nat.le_refl _);have B2:=q_ cM;replace HB:=q_ (HB.out.trans hb);clear hg cM hb))
 refine(oG.calls kk A0 c0 _ _ _ _ w _ HB.out HR.out HC.out HF.out).mono ?_
 rintro e w3 ⟨g,rfl,hi,hb,hb2⟩;have NE:=q_ (Ne.symm (l9.abo hi (bb_ B2.out hb2) (by decide)));replace B2:=lZ B2 hb2;have SD:=q_ (o7.refl (show zO w w3 g from ⟨_,_,_,hi,HS.out⟩) hb);have GD:=q_ SD.out.src.lt;have ED:=q_ hb.size;have LO:=q_ (pq B2.out);clear hi hb hb2 HB
 go_wp2_with fail
 refine(aij SD.out.src SD.out.below).mono ?_
 rintro e w4 ⟨n,v,A,cc,CV,rfl,hn0,hn5,hP,hR,hl6⟩;obtain⟨pA,pB,pa,pb,pc,pd,rfl⟩:=hP.pair;replace B2:=q_ (hP.2.keep.blk B2.out NE.out (by simp));replace SD:=q_ hP.2;have PO:=q_ hP;have HN:=q_ hn5;have H6:=q_ hl6;have tO:aE (RV w4 w3.heap.size g (.slice A CV.length cc) CV):=⟨Kd.fY (Kd.q5 rfl hR) (fun k hk=>⟨Kd.o8 hR k hk.symm,hR.1 k hk.symm⟩)⟩
 have L4:=q_ hP.2.keep.1;clear hP hR hn0 hn5 hl6
 go_wp2_with (first | ((with_reducible refine dg (N:=4) rfl ?_);refine nR 4 #[.slice none 0 0, .slice none 0 0] 34 ?_;intro g4 hg w5 cM hb;have B4:=q_ cM;have G4:=q_ (show w4.heap.size≤g4 by rw [hg];exact Nat.le_refl _);have E8:=q_ hb;have hx0:=lS B4 0;have hx1:=lS B4 1;have Ix:=gE cM 0;have F5:=gE cM 1;clear hg cM hb) | ((with_reducible refine q8 (t:=34) (p:=4) rfl ?_);refine DK 34 4 ((w5.setCell ⟨g4,0,none⟩ (.slice pA pa pb)).setCell ⟨g4,1,none⟩ (.slice pB pc pd)) ?_;intro w6 hw;have hs_:o7 w w4 g w6:=o7.oy SD.out.src SD.out.below (by rw [hw];exact qM (qM E8.out G4.out) G4.out);replace B2:=q_ (hs_.keep.blk B2.out NE.out (by simp));replace B4:=q_ (show w6.heap[g4]?=some (.cells #[.slice pA pa pb, .slice pB pc pd] 34 (0,0)) by rw [hw];exact mD (mD B4.out 0 _ rfl) 1 _ rfl);replace PO:=q_ (PO.out.mv hs_ GD.out);replace tO:=q_ (RV.mv tO.out hs_ GD.out);replace SD:=q_ (SD.out.trans hs_);clear hs_ hw hx0 hx1 Ix F5 E8;have hx0:=lS B4 0;have hx1:=lS B4 1;obtain⟨y0,y1,k0,k1⟩:=nF B2))
 refine bodyPost_ret (tS rfl _ _ g2 34 #[.slice pA pa pb, .slice pB pc pd] (0,0) _ rfl (mD (mD B2.out 0 _ rfl) 1 _ rfl) Tryz.underlying34 rfl (by kernel_rfl)) rfl ?_
 have lo:=LO.out;have y8:=G2.out;have gd:=GD.out;have ne:=NE.out;have rv:=Kd.nN (Kd.nN tO.out (p:=⟨g2,0,none⟩) (fun k hk=>by show k≠g2;have:=hk.1;omega) (.slice pA pa pb)) (p:=⟨g2,1,none⟩) (fun k hk=>by show k≠g2;have:=hk.1;omega) (.slice pB pc pd);obtain⟨M,Q,m1,m2,m3⟩:=((PO.out.d.far lo 0 (.slice pA pa pb)).far lo 1 (.slice pB pc pd)).rd HN.out;obtain⟨q1,q2,q3⟩:=Kd.lU rv;exact⟨_,M,Q,_,_,CV,rfl,m1,m2,m3,q3,q2,H6.out,qM (qM SD.out.below y8) y8⟩
theorem alf {w:World} {A0:Option Addr} {c0:Nat} {l0:List Int} (hr0:Kd.C (Kd.int .u8) w A0 l0.length l0) (hc0:l0.length≤c0) (hb: ∀i:Nat,0≤l0.getD i 0∧l0.getD i 0≤255) (hl:l0.length≤4096):Calls Tryz.prog 31 #[.slice A0 l0.length c0] w fun e w'=> ∃v M Q k,e= .returned (.tuple #[v, .int .i64 k])∧Rd w' v M Q∧M.length≤5∧Q.length≤6∧0≤k∧k≤4∧Below w.heap.size w w':=by
 obtain⟨⟨rb,ra,rh⟩,⟨kk,hf⟩,hrb,hs⟩:=YP hb hl
 change rb=l0 at hrb
 subst hrb;have HF:=q_ (hf kk (Nat.le_refl _));have HS:=q_ hs;have HR:=q_ hr0;have HC:=q_ hc0;have HB:=q_ (Below.refl w.heap.size w);clear hf hs hr0 hc0 hb hl
 go_enter Tryz.func31,Tryz.ntmps31
 go_wp2_with (first | ((with_reducible refine dg (N:=2) rfl ?_);refine nR 2 #[.slice none 0 0, .slice none 0 0] 34 ?_;intro g2 hg w2 cM hb;have G2:=q_ (show w.heap.size≤g2 by rw [hg];exact Nat.le_refl _);have B2:=q_ cM;replace HB:=q_ (HB.out.trans hb);clear hg cM hb))
 refine(oG.calls kk A0 c0 _ _ _ _ w _ HB.out HR.out HC.out HF.out).mono ?_
 rintro e w3 ⟨g,rfl,hi,hb,hb2⟩;have NE:=q_ (Ne.symm (l9.abo hi (bb_ B2.out hb2) (by decide)));replace B2:=lZ B2 hb2;have SD:=q_ (o7.refl (show zO w w3 g from ⟨_,_,_,hi,HS.out⟩) hb);have GD:=q_ SD.out.src.lt;have ED:=q_ hb.size;have LO:=q_ (pq B2.out);clear hi hb hb2 HB
 go_wp2_with fail
 refine(agM SD.out.src SD.out.below).mono ?_
 rintro e w4 ⟨n,v,hn0,hn5,rfl,⟨gm,c,b,cp,A,c1,Q,rfl,hQ,hP⟩,hS⟩;have P:=q_ hP;have HQ:=q_ hQ;have HN:=q_ hn5;have uq:=q_ hn0;have LW:=q_ hS.keep.1;replace B2:=q_ (hS.keep.blk B2.out NE.out (by simp));replace SD:=q_ (SD.out.trans hS);clear hS hP hQ hn0 hn5
 go_wp2_with fail
 refine(PX SD.out.src SD.out.below P.out HQ.out HN.out uq.out GD.out LW.out).mono ?_
 rintro e w5 ⟨v,rfl,hO⟩;obtain⟨pA,pB,pa,pb,pc,pd,rfl⟩:=hO.pair;have PO:=q_ (sx.start hO SD.out);replace B2:=q_ (hO.2.keep.blk B2.out NE.out (by simp));replace SD:=q_ PO.out.2;have L5:=q_ SD.out.keep.1;clear hO P HQ LW
 go_wp2_with (first | ((with_reducible refine dg (N:=5) rfl ?_);refine nR 5 #[.slice none 0 0, .slice none 0 0] 34 ?_;intro g5 hg w6 cM hb;have B5:=q_ cM;have G5:=q_ (show w5.heap.size≤g5 by rw [hg];exact Nat.le_refl _);have E8:=q_ hb;have hx0:=lS B5 0;have hx1:=lS B5 1;have Ix:=gE cM 0;have F5:=gE cM 1;clear hg cM hb) | ((with_reducible refine q8 (t:=34) (p:=5) rfl ?_);refine DK 34 5 ((w6.setCell ⟨g5,0,none⟩ (.slice pA pa pb)).setCell ⟨g5,1,none⟩ (.slice pB pc pd)) ?_;intro w7 hw;have hs_:o7 w w5 g w7:=o7.oy SD.out.src SD.out.below (by rw [hw];exact qM (qM E8.out G5.out) G5.out);replace B2:=q_ (hs_.keep.blk B2.out NE.out (by simp));replace B5:=q_ (show w7.heap[g5]?=some (.cells #[.slice pA pa pb, .slice pB pc pd] 34 (0,0)) by rw [hw];exact mD (mD B5.out 0 _ rfl) 1 _ rfl);replace PO:=q_ (PO.out.mv hs_ GD.out);replace SD:=q_ (SD.out.trans hs_);clear hs_ hw hx0 hx1 Ix F5 E8))
 have N5:=q_ (show g5≠g by have:=G5.out;have:=GD.out;have:=L5.out;omega);have E5:=q_ (show w3.heap.size≤g5 by have:=G5.out;have:=L5.out;omega);refine(Cn SD.out.src SD.out.below 16).mono ?_
 rintro e w8 ⟨x,rfl,hx,hS⟩;replace PO:=q_ (PO.out.mv hS GD.out);replace B2:=q_ (hS.keep.blk B2.out NE.out (by simp));replace B5:=q_ (hS.keep.blk B5.out N5.out (by simp));replace SD:=q_ (SD.out.trans hS);clear hx hS
 go_upto_if 14 with (fail)
 go_cut [14] from 12 to 16 (fun DH wc=> ∃(n:Nat) (pA pB:Option Addr) (pa pb pc pd:Nat),n≤5∧aE (sx w w3 g w3.heap.size n (.agg #[.slice pA pa pb, .slice pB pc pd]) wc)∧aE (wc.heap[g2]?=some (.cells #[.slice none 0 0, .slice none 0 0] 34 (0,0)))∧aE (wc.heap[g5]?=some (.cells #[.slice pA pa pb, .slice pB pc pd] 34 (0,0))))
 case first=>
  by_cases hx0:x=0
  ·subst hx0
   go_wp2_with fail
   refine(agL SD.out.src SD.out.below).mono ?_
   rintro e w9 ⟨n2,v,hn0,hn5,rfl,hO⟩;obtain⟨qA,qB,qa,qb,qc,qd,rfl⟩:=hO.pair;have L8:=q_ (pq B5.out);replace B2:=q_ (hO.2.keep.blk B2.out NE.out (by simp));replace B5:=q_ (hO.2.keep.blk B5.out N5.out (by simp));have QO:=q_ (sx.start hO SD.out);have uo:=q_ hn5;have L38:=q_ SD.out.keep.1;clear hO hn0 hn5 PO SD;obtain⟨x0,x1,f0,f1⟩:=nF B5;go_wp2
   go_meet
   case rel=>
    have e5:=E5.out;have l8:=L8.out;have nn:g2≠g5:=by have:=LO.out;omega
    refine⟨n2,qA,qB,qa,qb,qc,qd,uo.out,⟨((QO.out.far ED.out l8 e5 N5.out 0 _).far ED.out l8 e5 N5.out 1 _).down L38.out⟩,⟨?_⟩,⟨mD (mD B5.out 0 _ rfl) 1 _ rfl⟩⟩
    rw [Below.heap_setCell _ ⟨g5,1,none⟩ _ g2 (by simpa using nn),Below.heap_setCell _ ⟨g5,0,none⟩ _ g2 (by simpa using nn)];exact B2.out
  ·have hxb:(x==0)=false:=by simpa using hx0
   go_wp2
   go_meet
   case rel=>exact⟨n,pA,pB,pa,pb,pc,pd,HN.out,⟨PO.out⟩,⟨B2.out⟩,⟨B5.out⟩⟩
 case rest=>
  clear SD PO B2 B5 HN;obtain⟨n,pA,pB,pa,pb,pc,pd,hn,PO,B2,B5⟩:=hcut;have HN:=q_ hn;have SD:=q_ PO.out.2;clear hn
  go_wp2_with fail
  have hs_:=o7.drew (o7.refl SD.out.src SD.out.below);replace PO:=q_ (PO.out.mv hs_ GD.out);replace SD:=q_ (SD.out.trans hs_);replace B2:=q_ (mI B2.out);replace B5:=q_ (mI B5.out);clear hs_;refine qx (n:=6) (S:=fun w'=>w'.cell? ⟨g5,0,none⟩=some (.slice pA pa pb)∧w'.cell? ⟨g5,1,none⟩=some (.slice pB pc pd)) (ds:= []) ⟨(bp B5.out 0).trans rfl,(bp B5.out 1).trans rfl⟩ (fun hHeld=>?_)
  generalize wc.drew=w7 at B2 B5 PO SD hHeld ⊢
  refine lX 1 18 ?_;refine mg 0 17 ?_
  refine pz 2 (some 19) (fun K hK=>?_)
  refine Kd.Dx (Kd.int .i64) _ 2 ?hg (N:=19) ?hd (xs:=([1,2,2,3,0,4]:List Int)) (inner:= [.int .i64 1, .int .i64 2, .int .i64 2, .int .i64 3, .int .i64 0, .int .i64 4]) (ok:=fun _=>True) (oC:=fun _=>True) ?hr ?hp (fun _ hk=>hk) trivial (Below.refl _ _) (Nat.le_refl _) (by simp) ?_;(case hd=>rfl);(case hg=>rfl);(case hr=>first | (go_simp;done) | (go_simp;rfl));(case hp=>exact vM [1,2,2,3,0,4])
  intro v18 w8 ho hb hg_ om;obtain⟨g18,uZ,rfl,anM,anm,_⟩:=Kd.rX ho (by simp);have N18:g18≠g:=by have:=SD.out.src.lt;omega
  have hs_:=o7.oy SD.out.src SD.out.below hb;replace PO:=q_ (PO.out.mv hs_ GD.out);replace SD:=q_ (SD.out.trans hs_);replace B2:=q_ (hs_.keep.blk B2.out NE.out (by simp));replace B5:=q_ (hs_.keep.blk B5.out N5.out (by simp));have R18:=q_ ho;clear hs_ hb hg_ om ho anM anm;refine hK.out _ _ ⟨(bp B5.out 0).trans rfl,(bp B5.out 1).trans rfl⟩ (fun hHeld=>?_)
  clear hK K;refine mP (a':=?_) ?_ ?_
  rotate_left
  ·show Act.put _ (some 19) _=_
   simp only [Act.put,List.setIfInBounds_toArray,List.set_cons_zero,List.set_cons_succ,mT,nr]
   rfl
  refine pz 3 (some 20) (fun K hK=>?_)
  refine sH Tryz.func74 (by kernel_rfl) rfl #[.pointer (some ⟨g,0,none⟩), .slice (some ⟨g18,0,none⟩) ([1,2,2,3,0,4]:List Int).length uZ] (by rfl) rfl rfl (by(try simp only [List.map_toArray,List.map_cons,List.map_nil]);first | done | rfl) ?_
  refine(Cm SD.out.src SD.out.below _ uZ [1,2,2,3,0,4] (Kd.lU R18.out).2.2 (Kd.lU R18.out).2.1 (fun ad e _=>by injection e with e;subst e;exact N18) (by decide)).mono ?_
  rintro e w9 ⟨x,rfl,hx,hS⟩;refine⟨_,rfl,?_⟩
  have HX:aE (0≤x∧x≤4):=⟨by simp only [List.mem_cons,List.not_mem_nil,or_false] at hx;omega⟩;clear hx;replace PO:=q_ (PO.out.mv hS GD.out);replace SD:=q_ (SD.out.trans hS);replace B2:=q_ (hS.keep.blk B2.out NE.out (by simp));replace B5:=q_ (hS.keep.blk B5.out N5.out (by simp));clear hS R18 N18;refine hK.out _ _ ⟨(bp B5.out 0).trans rfl,(bp B5.out 1).trans rfl⟩ (fun hHeld=>?_)
  clear hK K;refine mP (a':=?_) ?_ ?_
  rotate_left
  ·show Act.put _ (some 20) _=_
   simp only [Act.put,List.setIfInBounds_toArray,List.set_cons_zero,List.set_cons_succ,mT,nr]
   rfl
  refine pz 4 none (fun K hK=>?_)
  obtain⟨y0,y1,k0,k1⟩:=nF B2;refine rL (w1:=(w9.setCell ⟨g2,0,none⟩ (.slice pA pa pb)).setCell ⟨g2,1,none⟩ (.slice pB pc pd)) (by rfl) rfl ?_ ?_
  ·first | (go_simp;done) | (go_simp;rfl)
  clear k0 k1 y0 y1;have N26:g5≠g2:=by have:=E5.out;have:=LO.out;omega
  refine hK.out _ _ ⟨(cell_far (p:=⟨g2,_,none⟩) N26 _).trans ((cell_far (p:=⟨g2,_,none⟩) N26 _).trans hHeld.1),(cell_far (p:=⟨g2,_,none⟩) N26 _).trans ((cell_far (p:=⟨g2,_,none⟩) N26 _).trans hHeld.2)⟩ (fun hHeld=>?_)
  clear hK K;refine lX 5 3 ?_
  refine oA (by kernel_rfl) ?_
  try go_wp2
  refine bodyPost_ret (tS rfl _ _ g2 34 #[.slice pA pa pb, .slice pB pc pd] (0,0) _ rfl (mD (mD B2.out 0 _ rfl) 1 _ rfl) Tryz.underlying34 rfl (by kernel_rfl)) rfl ?_
  have lo:=LO.out;have y8:=G2.out;obtain⟨M,Q,m1,m2,m3⟩:=((PO.out.d.far lo 0 (.slice pA pa pb)).far lo 1 (.slice pB pc pd)).rd HN.out;exact⟨_,M,Q,x,rfl,m1,m2,m3,HX.out.1,HX.out.2,qM (qM SD.out.below y8) y8⟩
end Go.Proofs.YthmfdplckdijdaaGreat.Dr
end
section
namespace Go.Proofs.YthmfdplckdijdaaGreat.zm
open Go.RowKit Wz.cw Wz.cX Ma Dt Bz Lk Lt
section
variable {n m:Nat} {A:lE} {bs:Nat→Nat} {T:lE} {den:Int} (h:Tab n m A bs T den)
include h
theorem B0 {i j:Nat} (hi:i < n) (hj:j < n) (hb:bs j < m):T i (bs j)=if i=j then den else 0:=by
 obtain⟨s,hs,hd,hT⟩:=h.num
 rw [hT i (bs j) hi hb]
 by_cases e:i=j
 ·subst e
  rw [if_pos rfl,hd]
  unfold cd
  congr 1
  refine mX (fun a b _ _=>?_)
  unfold ot yq
  split
  ·rename_i e;rw [e]
  ·rfl
 ·rw [if_neg e]
  unfold cd
  rw [zM (c:=i) (d:=j) hi hj e (fun a _=>by unfold ot yq;rw [if_pos rfl,if_neg (Ne.symm e)]),Int.mul_zero]
theorem ZY (hA: ∀i j,i < n→j < n→A i j=if i=j then 1 else 0) (hnm:n≤m) {i x:Nat} (hi:i < n) (hx:x < m):T i x=sm n (fun c=>A c x*T i c):=by
 obtain⟨s,hs,hd,hT⟩:=h.num
 rw [hT i x hi hx]
 have e:cd n A bs i x=sm n (fun c=>A c x*cd n A bs i c):=by
  unfold cd
  rw [← GS hi]
  refine mX (fun a b ha hb=>?_)
  unfold ot
  split
  ·show A a x=sm n (fun k=>A k x*A a k)
   rw [tG (f:=fun k=>A k x*A a k) (k:=a) ha (fun c hc hne=>by rw [hA a c ha hc,if_neg (Ne.symm hne),Int.mul_zero]),hA a a ha ha,if_pos rfl,Int.mul_one]
  ·rfl
 rw [e, ← sZ]
 refine nE (fun c hc=>?_)
 rw [hT i c hi (by omega)]
 grind
theorem aiT {i j:Nat} (hi:i < n) (hj:j < n) (hb: ∀j,j < n→bs j < m) (e:bs i=bs j):i=j:=by
 have h1:=B0 h hi hi (hb i hi)
 have h2:=B0 h hi hj (hb j hj)
 rw [if_pos rfl] at h1
 rw [← e,h1] at h2
 by_cases c:i=j
 ·exact c
 ·rw [if_neg c] at h2
  have:=h.pos
  omega
theorem aa2 {bs':Nat→Nat} {T':lE} {V1:Int} (h':Tab n m A bs' T' V1) (hA: ∀i j,i < n→j < n→A i j=if i=j then 1 else 0) (hnm:n≤m) (hb: ∀j,j < n→bs j < m) (hb': ∀j,j < n→bs' j < m)
  (hs: ∀j',j' < n→ ∃j,j < n∧bs' j'=bs j) {i i' c:Nat} (hi:i < n) (hi':i' < n) (hc:c < m) (e:bs i=bs' i'):T i c*V1=T' i' c*den:=by
 have cr: ∀k,k < n→sm n (fun j=>A k (bs' j)*T' j c)=V1*A k c:=fun k hk=>h'.V3 hk hc
 have e1:T i c*V1=sm n (fun j=>T' j c*T i (bs' j)):=by
  rw [ZY h hA hnm hi hc, ← Bt]
  rw [show sm n (fun k=>A k c*T i k*V1)=sm n (fun k=>sm n (fun j=>T i k*(A k (bs' j)*T' j c))) from nE (fun k hk=>by rw [sZ,cr k hk];grind)]
  rw [Jb]
  refine nE (fun j hj=>?_)
  rw [ZY h hA hnm hi (hb' j hj), ← sZ]
  exact nE (fun k hk=>by grind)
 rw [e1,tG (k:=i') hi' (fun j hj hne=>?_)]
 ·rw [← e,B0 h hi hi (hb i hi),if_pos rfl]
 ·obtain⟨j2,hj2,e2⟩:=hs j hj
  rw [e2,B0 h hi hj2 (hb j2 hj2),if_neg (fun q=>?_),Int.mul_zero]
  exact hne (aiT h' hj hi' hb' (by rw [e2, ← q,e]))
end
def oY (f:Nat→Int):List Nat→Prop
 | []=>False
 | c::l=>0 < f c∨(f c=0∧oY f l)
theorem oY.congr {f g:Nat→Int}: ∀ {l:List Nat},(∀c ∈ l,f c=g c)→oY f l→oY g l
 | [],_,h=>h
 | c::l,e,h=>by
  have e1:=e c List.mem_cons_self
  rcases h with h | ⟨h1,h2⟩
  ·exact .inl (by omega)
  ·exact .inr ⟨by omega,oY.congr (fun d hd=>e d (List.mem_cons_of_mem _ hd)) h2⟩
theorem oY.add {f g:Nat→Int}: ∀ {l:List Nat},oY f l→oY g l→oY (fun c=>f c+g c) l
 | [],h,_=>h
 | c::l,h,k=>by
  rcases h with h | ⟨h1,h2⟩
  ·rcases k with k | ⟨k1,k2⟩
   ·exact .inl (by show 0 < f c+g c;omega)
   ·exact .inl (by show 0 < f c+g c;omega)
  ·rcases k with k | ⟨k1,k2⟩
   ·exact .inl (by show 0 < f c+g c;omega)
   ·exact .inr ⟨by show f c+g c=0;omega,h2.add k2⟩
theorem oY.mul {f:Nat→Int} {a:Int} (ha:0 < a): ∀ {l:List Nat},oY f l→oY (fun c=>a*f c) l
 | [],h=>h
 | c::l,h=>by
  rcases h with h | ⟨h1,h2⟩
  ·exact .inl (Int.mul_pos ha h)
  ·exact .inr ⟨by show a*f c=0;rw [h1,Int.mul_zero],oY.mul ha h2⟩
theorem oY.Ii {f:Nat→Int} {a:Int} (ha:0 < a): ∀ {l:List Nat},oY (fun c=>a*f c) l→oY f l
 | [],h=>h
 | c::l,h=>by
  rcases h with h | ⟨h1,h2⟩
  ·exact .inl (Int.pos_of_mul_pos_right (by simpa [Int.mul_comm] using h) ha)
  ·refine .inr ⟨?_,oY.Ii ha h2⟩
   rcases Int.mul_eq_zero.1 h1 with e | e
   ·omega
   ·exact e
theorem oY.not_neg {f:Nat→Int}: ∀ {l:List Nat},oY f l→ ¬ oY (fun c=> - f c) l
 | [],h,_=>h
 | c::l,h,k=>by
  rcases h with h | ⟨h1,h2⟩
  ·rcases k with k | ⟨k1,k2⟩ <;> simp at* <;> omega
  ·rcases k with k | ⟨k1,k2⟩
   ·simp at*;omega
   ·exact h2.not_neg k2
theorem Yt (f:Nat→Int): ∀l:List Nat,oY f l∨oY (fun c=> - f c) l∨ ∀c ∈ l,f c=0
 | []=> .inr (.inr (fun c hc=>by cases hc))
 | c::l=>by
  rcases Int.lt_trichotomy (f c) 0 with h | h | h
  ·exact .inr (.inl (.inl (by show 0 < - f c;omega)))
  ·rcases Yt f l with k | k | k
   ·exact .inl (.inr ⟨h,k⟩)
   ·exact .inr (.inl (.inr ⟨by show - f c=0;omega,k⟩))
   ·refine .inr (.inr (fun d hd=>?_))
    rcases List.mem_cons.1 hd with e | e
    ·rw [e];exact h
    ·exact k d e
  ·exact .inl (.inl h)
theorem Vi (T:lE) (i k:Nat) (x y:Int): ∀l:List Nat,kl T i k x y l=true↔oY (fun c=>T k c*x - T i c*y) l
 | []=>by simp [kl,oY]
 | c::l=>by
  have ih:=Vi T i k x y l
  unfold kl oY
  by_cases h1:T i c*y < T k c*x
  ·rw [if_pos h1];simp;left;omega
  ·rw [if_neg h1]
   by_cases h2:T k c*x < T i c*y
   ·rw [if_pos h2];simp;constructor;omega;intro e;omega
   ·rw [if_neg h2,ih]
    constructor
    ·intro h;exact .inr ⟨by omega,h⟩
    ·intro h
     rcases h with h | h
     ·omega
     ·exact h.2
def wN (T:lE) (n:Nat) (l:List Nat) (b:Nat→Int) (r:Nat):Prop:=r < n∧0 < b r∧ ∀i,i < n→i≠r→0 < b i→oY (fun c=>T i c*b r - T r c*b i) l
def Apart (T:lE) (n:Nat) (l:List Nat):Prop:= ∀i j (x y:Int),i < n→j < n→i≠j→0 < x→0 < y→ ¬ ∀c ∈ l,T i c*y=T j c*x
theorem Apart.or {T:lE} {n:Nat} {l:List Nat} (h:Apart T n l) {i j:Nat} {x y:Int} (hi:i < n) (hj:j < n) (hij:i≠j) (hx:0 < x) (hy:0 < y):oY (fun c=>T j c*x - T i c*y) l∨oY (fun c=>T i c*y - T j c*x) l:=by
 rcases Yt (fun c=>T j c*x - T i c*y) l with k | k | k
 ·exact .inl k
 ·exact .inr (k.congr (fun c _=>by omega))
 ·exact absurd (fun c hc=>by have:=k c hc;omega) (h i j x y hi hj hij hx hy)
theorem Rs {T:lE} {n:Nat} {cl:List Nat} {b:Nat→Int} (ha:Apart T n cl): ∀(l done:List Nat) (o:Option Nat) (r:Nat),(∀i ∈ l,i < n)→(∀i ∈ done,i < n)→
  (∀j,o=some j→j < n∧0 < b j∧ ∀i ∈ done,i≠j→0 < b i→oY (fun c=>T i c*b j - T j c*b i) cl)→(o=none→ ∀i ∈ done, ¬ 0 < b i)→xH b (fun i j=>kl T i j (b i) (b j) cl) l o=some r→
  r < n∧0 < b r∧ ∀i,i ∈ l∨i ∈ done→i≠r→0 < b i→oY (fun c=>T i c*b r - T r c*b i) cl
 | [],done,o,r,hl,hd,ho,hn,h=>by
  obtain⟨h1,h2,h3⟩:=ho r h
  refine⟨h1,h2,fun i hi=>?_⟩
  rcases hi with hi | hi
  ·cases hi
  ·exact h3 i hi
 | k::l,done,o,r,hl,hd,ho,hn,h=>by
  have hk:=hl k List.mem_cons_self
  have step: ∀o',xH b (fun i j=>kl T i j (b i) (b j) cl) l o'=some r→(∀j,o'=some j→j < n∧0 < b j∧ ∀i ∈ k::done,i≠j→0 < b i→oY (fun c=>T i c*b j - T j c*b i) cl)→(o'=none→ ∀i ∈ k::done, ¬ 0 < b i)→
    r < n∧0 < b r∧ ∀i,i ∈ k::l∨i ∈ done→i≠r→0 < b i→oY (fun c=>T i c*b r - T r c*b i) cl:=fun o' ho' h1 h2=>by
   obtain⟨g1,g2,g3⟩:=Rs ha l (k::done) o' r (fun i hi=>hl i (List.mem_cons_of_mem _ hi)) (fun i hi=>by rcases List.mem_cons.1 hi with e | e;rw [e];exact hk;exact hd i e) h1 h2 ho'
   refine⟨g1,g2,fun i hi=>g3 i ?_⟩
   rcases hi with hi | hi
   ·rcases List.mem_cons.1 hi with e | e
    ·exact .inr (by rw [e];exact List.mem_cons_self)
    ·exact .inl e
   ·exact .inr (List.mem_cons_of_mem _ hi)
  unfold xH at h
  by_cases c:0 < b k∧Hq (fun i j=>kl T i j (b i) (b j) cl) k o=true
  ·rw [if_pos c] at h
   refine step _ h (fun j hj=>?_) (fun e=>by cases e)
   injection hj with hj
   subst hj
   refine⟨hk,c.1,fun i hi hne hb=>?_⟩
   rcases List.mem_cons.1 hi with e | e
   ·exact absurd e hne
   ·cases o with
    | none=>exact absurd hb (hn rfl i e)
    | some j=>
     obtain⟨g1,g2,g3⟩:=ho j rfl
     have hkj:oY (fun c=>T j c*b k - T k c*b j) cl:=(Vi _ _ _ _ _ _).1 c.2
     by_cases eij:i=j
     ·rw [eij];exact hkj
     ·have hij:=g3 i e eij hb
      refine oY.Ii g2 ?_
      refine((hij.mul c.1).add (hkj.mul hb)).congr (fun d _=>?_)
      grind
  ·rw [if_neg c] at h
   refine step _ h (fun j hj=>?_) (fun e i hi=>?_)
   ·obtain⟨g1,g2,g3⟩:=ho j hj
    refine⟨g1,g2,fun i hi hne hb=>?_⟩
    rcases List.mem_cons.1 hi with e | e
    ·subst e
     rcases ha.or (x:=b j) (y:=b i) g1 hk (Ne.symm hne) g2 hb with q | q
     ·exact q
     ·exfalso
      apply c
      refine⟨hb,?_⟩
      rw [hj]
      exact(Vi _ _ _ _ _ _).2 q
    ·exact g3 i e hne hb
   ·rcases List.mem_cons.1 hi with e2 | e2
    ·subst e2
     intro hb
     exact c ⟨hb,by rw [e];rfl⟩
    ·exact hn e i e2
theorem zu {n m:Nat} {s:TS} {b:Nat→Int} {r:Nat} (ha:Apart s.T n (qL n m)) (h:qC n m s b=some r):wN s.T n (qL n m) b r:=by
 obtain⟨h1,h2,h3⟩:=Rs ha (List.range n) [] none r (fun i hi=>List.mem_range.1 hi) (fun i hi=>by cases hi) (fun j hj=>by cases hj) (fun _ i hi=>by cases hi) h
 exact⟨h1,h2,fun i hi hne hb=>h3 i (.inl (List.mem_range.2 hi)) hne hb⟩
theorem Im {T:lE} {n:Nat} {l:List Nat} {b:Nat→Int} {r r':Nat} (h:wN T n l b r) (h':wN T n l b r'):r=r':=by
 by_cases e:r=r'
 ·exact e
 ·have h1:=h.2.2 r' h'.1 (Ne.symm e) h'.2.1
  have h2:=h'.2.2 r h.1 e h.2.1
  exact absurd (h2.congr (fun c _=>by omega)) h1.not_neg
end Go.Proofs.YthmfdplckdijdaaGreat.zm
end
section
namespace Go.Proofs.YthmfdplckdijdaaGreat.zm
open Go.RowKit Wz.cw Wz.cX Ma Dt Bz Lk Lt
def uM (n m:Nat) (s:TS):Prop:= ∀i,i < n→oY (fun c=>s.T i c) (qL n m)
theorem zx {n m c:Nat} (hnm:n < m) (h:c ∈ qL n m):c < m:=by
 unfold qL at h
 rcases List.mem_cons.1 h with e | e
 ·omega
 ·have:=List.mem_range.1 e;omega
section
variable {n m:Nat} {A:lE} (hn:n≤5) (hnm:n < m) (hA:Small n m A) (hI: ∀i j,i < n→j < n→A i j=if i=j then 1 else 0) {s:TS} (hs:Ok n m A s)
include hnm hI hs in
theorem BR:Apart s.T n (qL n m):=by
 intro i j x y hi hj hij hx hy h
 have hb:=hs.lt i hi
 have h1:=ZY hs.tab hI (by omega) hi (show (s.bs.getD i 0).toNat < m by omega)
 have h2:=ZY hs.tab hI (by omega) hj (show (s.bs.getD i 0).toNat < m by omega)
 have u1:=B0 hs.tab hi hi (show (fun j=>(s.bs.getD j 0).toNat) i < m by show (s.bs.getD i 0).toNat < m;omega)
 have u2:=B0 hs.tab hj hi (show (fun j=>(s.bs.getD j 0).toNat) i < m by show (s.bs.getD i 0).toNat < m;omega)
 rw [if_pos rfl] at u1
 rw [if_neg (Ne.symm hij)] at u2
 have e:s.T i (s.bs.getD i 0).toNat*y=s.T j (s.bs.getD i 0).toNat*x:=by
  rw [h1,h2, ← Bt, ← Bt]
  refine nE (fun c hc=>?_)
  have:=h c (by unfold qL;exact List.mem_cons_of_mem _ (List.mem_range.2 hc))
  rw [Int.mul_assoc,this,Int.mul_assoc]
 rw [u1,u2,Int.zero_mul] at e
 have:=Int.mul_pos hs.tab.pos hy
 omega
include hn hA hs
theorem yG {r v i c:Nat} (hr:r < n) (hv:v+1 < m) (hi:i < n) (hc:c < m):
  (i=r→(s.step r v).T i c=(if s.T r v < 0 then -1 else 1)*s.T r c)∧(i≠r→s.den*(s.step r v).T i c=(if s.T r v < 0 then -1 else 1)*(s.T i c*s.T r v - s.T i v*s.T r c)):=by
 have hb:=hs.Qj hn hA hr hv hi hc
 have ha:=hs.aaV hn hA hr hv hi hc
 obtain⟨g,_,_,_,key,h4⟩:=hs.tab.UN hr (show v < m by omega) hi hc
 have e:(s.step r v).T i c=(if s.T r v < 0 then -1 else 1)*Hj s.T s.den r v i c:=by
  show AJ s.T s.den r v i c=_
  unfold AJ
  rw [ha]
  split
  ·rw [nH (by omega) (by omega)];omega
  ·omega
 refine⟨fun hir=>?_,fun hir=>?_⟩
 ·rw [e];unfold Hj;rw [if_pos hir]
 ·rw [e,key hir,h4];grind
include hnm in
theorem JQ {r v:Nat} (hv:v+1 < m) (hx:uM n m s) (hl:wN s.T n (qL n m) (fun i=>s.T i v) r):uM n m (s.step r v):=by
 obtain⟨hr,hp,hl⟩:=hl
 simp only at hp hl
 intro i hi
 by_cases e:i=r
 ·refine(hx r hr).congr (fun c hc=>?_)
  have:=(yG hn hA hs hr hv hi (zx hnm hc)).1 e
  rw [if_neg (by omega)] at this
  rw [this];omega
 ·refine oY.Ii hs.tab.pos ?_
  have hst: ∀c ∈ qL n m,s.den*(s.step r v).T i c=s.T i c*s.T r v - s.T i v*s.T r c:=fun c hc=>by
   have:=(yG hn hA hs hr hv hi (zx hnm hc)).2 e
   rw [if_neg (by omega)] at this
   rw [this];omega
  rcases Int.lt_trichotomy (s.T i v) 0 with h | h | h
  ·refine(((hx i hi).mul hp).add ((hx r hr).mul (show 0 < - s.T i v by omega))).congr (fun c hc=>?_)
   rw [hst c hc];grind
  ·refine((hx i hi).mul hp).congr (fun c hc=>?_)
   rw [hst c hc,h];grind
  ·refine(hl i hi e h).congr (fun c hc=>?_)
   rw [hst c hc];grind
include hnm in
theorem Rh {r v:Nat} (hv:v+1 < m) (hx:uM n m s) (hr:r < n) (hp:0 < s.T r v):wN (s.step r v).T n (qL n m) (fun i=>(s.step r v).T i (s.bs.getD r 0).toNat) r:=by
 have hd:=hs.tab.pos
 have hlt:=hs.lt r hr
 obtain⟨l,hl⟩: ∃l,(s.bs.getD r 0).toNat=l:=⟨_,rfl⟩
 rw [hl] at hlt ⊢
 have u: ∀i,i < n→s.T i l=if i=r then s.den else 0:=fun i hi=>by
  have h:=B0 hs.tab hi hr (show (fun j=>(s.bs.getD j 0).toNat) r < m by show (s.bs.getD r 0).toNat < m;omega)
  rw [hl] at h;exact h
 have e1:(s.step r v).T r l=s.den:=by
  have h:=(yG hn hA hs hr hv hr (show l < m by omega)).1 rfl
  rw [if_neg (by omega),u r hr,if_pos rfl] at h
  omega
 have e2: ∀i,i < n→i≠r→(s.step r v).T i l= - s.T i v:=fun i hi hne=>by
  have h:=(yG hn hA hs hr hv hi (show l < m by omega)).2 hne
  rw [if_neg (by omega),u i hi,u r hr,if_neg hne,if_pos rfl] at h
  have:s.den*(s.step r v).T i l=s.den* - s.T i v:=by rw [h];grind
  exact Int.eq_of_mul_eq_mul_left (by omega) this
 refine⟨hr,by show 0 < (s.step r v).T r l;omega,fun i hi hne hb=>?_⟩
 simp only at hb ⊢
 refine oY.congr (fun c hc=>?_) ((hx i hi).mul hp)
 have h1:=(yG hn hA hs hr hv hr (zx hnm hc)).1 rfl
 have h2:=(yG hn hA hs hr hv hi (zx hnm hc)).2 hne
 rw [if_neg (by omega)] at h1 h2
 rw [e1,e2 i hi hne,h1]
 have:(s.step r v).T i c*s.den=s.T i c*s.T r v - s.T i v*s.T r c:=by rw [Int.mul_comm,h2];omega
 rw [this];grind
end
section
variable {n:Nat} {M:lE} {cv q:Nat→Int} (hn:n≤5) (hA:Small n (2*n+2) (nD n M cv q)) (hcv: ∀i,i < n→0 < cv i) {r:Nat} (hl:wN (nD n M cv q) n (qL n (2*n+2)) cv r) (hf:yJ n q≠true)
theorem wj {i j:Nat} (hi:i < n) (hj:j < n):nD n M cv q i j=if i=j then 1 else 0:=by
 unfold nD
 rw [if_pos hj]
 by_cases e:i=j
 ·rw [if_pos e,if_pos e.symm]
 ·rw [if_neg e,if_neg (Ne.symm e)]
theorem Ai {i:Nat}:nD n M cv q i (2*n)= - cv i:=by
 unfold nD
 by_cases h:2*n < n
 ·omega
 ·rw [if_neg h,if_neg (by omega),if_pos rfl]
include hn hA hcv hl
theorem DY {i c:Nat} (hi:i < n) (hc:c < 2*n+2):((first n M cv q).step r (2*n)).T i c=if i=r then - nD n M cv q r c else nD n M cv q i c*cv r - cv i*nD n M cv q r c:=by
 have hok:=wF (n:=n) (M:=M) (cv:=cv) (q:=q)
 have hr:=hl.1
 have hc0:=hcv r hr
 have hs:=yG hn hA hok hr (show 2*n+1 < 2*n+2 by omega) hi hc
 have e:(first n M cv q).T=nD n M cv q:=rfl
 rw [e,Ai,Ai,if_pos (show - cv r < 0 by omega)] at hs
 by_cases h:i=r
 ·rw [if_pos h,hs.1 h];omega
 ·rw [if_neg h]
  have:=hs.2 h
  rw [show (first n M cv q).den=1 from rfl,Int.one_mul] at this
  rw [this];grind
theorem Ry {i:Nat} (hi:i < n):((first n M cv q).step r (2*n)).T i r < 0:=by
 have hr:=hl.1
 rw [DY hn hA hcv hl hi (by omega)]
 have:=hcv i hi
 by_cases h:i=r
 ·rw [if_pos h,wj hr hr,if_pos rfl];omega
 ·rw [if_neg h,wj hi hr,wj hr hr,if_neg h,if_pos rfl];omega
include hf in
theorem Iz:uM n (2*n+2) ((first n M cv q).step r (2*n)):=by
 have hr:=hl.1
 intro i hi
 by_cases h:i=r
 ·have hq:q r < 0:=by
   have hex: ∃j,j < n∧q j < 0:=by
    apply Classical.byContradiction
    intro hno
    apply hf
    unfold yJ
    rw [List.all_eq_true]
    intro j hj
    have hj:=List.mem_range.1 hj
    have: ¬ q j < 0:=fun h=>hno ⟨j,hj,h⟩
    simp;omega
   obtain⟨j,hj,hqj⟩:=hex
   by_cases e:j=r
   ·rw [← e];exact hqj
   ·have hlj:=hl.2.2 j hj e (hcv j hj)
    have e1: ∀i,nD n M cv q i (2*n+2 - 1)=q i:=fun i=>by
     unfold nD
     rw [if_neg (by omega),if_neg (by omega),if_neg (by omega)]
    have hge:0≤q j*cv r - q r*cv j:=by
     unfold qL oY at hlj
     simp only [e1] at hlj
     rcases hlj with h | h <;> omega
    have h1:q j*cv r < 0:=Int.mul_neg_of_neg_of_pos hqj (hcv r hr)
    have h2:q r*cv j < 0:=by omega
    apply Classical.byContradiction
    intro hneg
    have:=Int.mul_nonneg (show 0≤q r by omega) (Int.le_of_lt (hcv j hj))
    omega
  unfold qL oY
  left
  rw [DY hn hA hcv hl hi (by omega),if_pos h]
  unfold nD
  rw [if_neg (by omega),if_neg (by omega),if_neg (by omega)]
  omega
 ·refine(hl.2.2 i hi h (hcv i hi)).congr (fun c hc=>?_)
  rw [DY hn hA hcv hl hi (zx (by omega) hc),if_neg h]
  grind
end
end Go.Proofs.YthmfdplckdijdaaGreat.zm
end
section
namespace Go.Proofs.YthmfdplckdijdaaGreat.Lq
open Go.RowKit Wz.cw Wz.fX Wz.cX Pr Ma Dt Lk Lt
theorem Bb {w W:World} (h:Below w.heap.size w W) (o:Obj):Below w.heap.size w (W.alloc o):=h.alloc h.size o
theorem ahQ {P:Program} {ops:Array Oper} {Q:Exit→Act→World→Prop} {o:Oper} {rest:List Oper} {a:Act} {w0 W:World} (base e:Nat) (hgd:o.guard=none) {N:Tmp} (hd:o.dst=some N) (t:TypeId) (x y:Operand) (ho:o.op= .makeSlice t x y) (n c:Nat) {xi yi:Int} (hx:a.eval x= .int .i64 xi) (hy:a.eval y= .int .i64 yi) (hxi:xi=(n:Int)) (hyi:yi=(c:Int))
  (ht:P.underlying t=some (.slice e)) (hinfo:(P.info? e).map (fun i=>(i.zero,i.size,i.bytes))=some (some (.int .i64 0),1,8)) (hnc:n≤c) (hc:c≤1000000) (HB:Below base w0 W) (hbase:base≤W.heap.size)
  (h: ∀v1 w1,(Kd.int .i64).R e w1 base (fun _=>True) v1 (List.replicate n 0)→Below base w0 w1→Below W.heap.size W w1→wpList P ops Q rest (a.put (some N) v1) w1):wpList P ops Q (o::rest) a W:=by
 subst hxi hyi
 obtain⟨i0,hi,hzz⟩:=Option.map_eq_some_iff.1 hinfo
 simp only [Prod.mk.injEq] at hzz
 obtain⟨hz0,hz1,hz2⟩:=hzz
 have hr:=run_make (P:=P) W t e i0 (.int .i64 0) ht hi hz0 .i64 .i64 (n:Int) (c:Int) (by omega) (by omega) (by rw [hz2];omega) (by omega)
 simp only [Int.toNat_natCast] at hr
 rw [hz1] at hr
 have afH:=Kd.Rl (R:=(Kd.int .i64).M W base (fun _=>True)) (z:= .int .i64 0) (size:=1) (z0:=(0:Int)) rfl (by decide) rfl c
 have hsz:(madeCells (Value.int .i64 0).cells (c*1)).size=c:=by rw [size_madeCells];omega
 rw [← hd] at h
 generalize madeCells (Value.int .i64 0).cells (c*1)=mc at hr afH hsz
 have aiW:mc.toList.length=c:=by rw [Array.length_toList];exact hsz
 refine Kd.IB hgd (v:= .slice (some ⟨W.heap.size,0,none⟩) n c) (w1:=W.alloc (.cells mc e)) (by simp [execOp,ho,hx,hy,hr]) (h _ _ ⟨fun _ _=>trivial,mc.toList.take n,⟨?_, .inr ⟨W.heap.size,c,mc,?_,hbase,QT W _,?_,?_,?_,?_⟩⟩,?_,fun j p hj=>?_⟩ (HB.alloc hbase _) (pG (Below.refl _ _) _))
 ·show (mc.toList.take n).length=(List.replicate n (0:Int)).length*1
  rw [List.length_take,List.length_replicate,aiW,Nat.mul_one];omega
 ·rw [List.length_replicate]
 ·rw [List.length_replicate];exact hnc
 ·unfold maxLen;omega
 ·show mc.size=c*1;omega
 ·show mc.toList.take ((List.replicate n (0:Int)).length*1)=mc.toList.take n
  rw [List.length_replicate,Nat.mul_one]
 ·show (mc.toList.take n).length=(List.replicate n (0:Int)).length*1
  rw [List.length_take,List.length_replicate,aiW,Nat.mul_one];omega
 ·have hjn:j < n:=by have:=(List.getElem?_eq_some_iff.1 hj).1;simpa using this
  have hp:p=0:=by rw [List.getElem?_replicate,if_pos hjn] at hj;exact(Option.some.inj hj).symm
  subst hp
  have h2:=afH.2 j 0 (by rw [List.getElem?_replicate,if_pos (by omega)])
  have h3:(mc.toList.drop (j*1)).take 1= [Value.int .i64 0]:=h2
  show (((mc.toList.take n).drop (j*1)).take 1)= [Value.int .i64 0]
  rw [List.drop_take,List.take_take,Nat.min_eq_left (by omega)]
  exact h3
def zL (n i:Nat) (Mi:List Int) (j:Nat):List Int:=(List.range (2*n)).map (fun c=>if c < n then(if c=i then 1 else 0) else if c < n+j then wrap64 (- Mi.getD (c - n) 0) else 0)
theorem Ec (n i:Nat) (Mi:List Int) (j:Nat):(zL n i Mi j).length=2*n:=by simp [zL]
theorem ab1 (n i:Nat) (Mi:List Int) (hi:i < n):(List.replicate (2*n) (0:Int)).set i 1=zL n i Mi 0:=by
 apply List.ext_getElem
 ·simp [zL]
 ·intro c h1 h2
  rw [List.getElem_set]
  simp only [zL,List.getElem_map,List.getElem_range,List.getElem_replicate]
  by_cases e:i=c
  ·subst e;simp [hi]
  ·rw [if_neg e]
   by_cases q:c < n
   ·rw [if_pos q,if_neg (Ne.symm e)]
   ·rw [if_neg q,if_neg (by omega)]
theorem ab2 (n i:Nat) (Mi:List Int) (j:Nat) (hj:j < n):(zL n i Mi j).set (n+j) (wrap64 (- Mi.getD j 0))=zL n i Mi (j+1):=by
 apply List.ext_getElem
 ·simp [zL]
 ·intro c h1 h2
  rw [List.getElem_set]
  simp only [zL,List.getElem_map,List.getElem_range]
  by_cases e:n+j=c
  ·subst e;rw [if_pos rfl,if_neg (by omega),if_pos (by omega),show n+j - n=j from by omega]
  ·rw [if_neg e]
   by_cases q:c < n
   ·rw [if_pos q,if_pos q]
   ·rw [if_neg q,if_neg q]
    by_cases z:c < n+j
    ·rw [if_pos z,if_pos (by omega)]
    ·rw [if_neg z,if_neg (by omega)]
def TmE (w:World) (lo hi t n m:Nat) (s:TS):Prop:= ∃g gb cg cb b cp,Tm w lo hi t g gb n m cg cb b cp s
def Ik (n i:Nat) (Mi cv:List Int) (q:Int):List Int:=zL n i Mi n++(if cv.length=0 then [] else [wrap64 (- cv.getD i 0)])++ [q]
def vT (n:Nat) (M:List (List Int)) (cv Q:List Int) (i:Nat):List (List Int):=(List.range i).map (fun r=>Ik n r (M.getD r []) cv (Q.getD r 0))
theorem O5 (n:Nat) (M:List (List Int)) (cv Q:List Int) (i:Nat):vT n M cv Q (i+1)=vT n M cv Q i++ [Ik n i (M.getD i []) cv (Q.getD i 0)]:=by unfold vT;rw [List.range_succ,List.map_append];rfl
theorem Vt (i:Nat):pE (i+1)=pE i++ [(i:Int)]:=by unfold pE;rw [List.range_succ,List.map_append];rfl
theorem Qq (i:Nat):(pE i).length=i:=by simp [pE]
theorem Ij (n:Nat) (M:List (List Int)) (cv Q:List Int) (i:Nat):(vT n M cv Q i).length=i:=by simp [vT]
theorem Qn (A0:Option Addr) (c0:Nat) (M:List (List Int)) (A1:Option Addr) (c1:Nat) (Q:List Int) (A2:Option Addr) (c2:Nat) (cv:List Int) (w:World) (n:Nat)
  (hC0:Kd.C (Kd.slice 2 (Kd.int .i64)) w A0 M.length M) (hC1:Kd.C (Kd.int .i64) w A1 Q.length Q) (hC2:Kd.C (Kd.int .i64) w A2 cv.length cv) (hM:M.length=n) (hQ:Q.length=n) (hr: ∀x ∈ M,x.length=n) (hn:0 < n) (hn2:n≤100) (hcv:cv.length=0∨cv.length=n) (m:Nat) (hm:m=2*n+(if cv.length=0 then 0 else 1)+1):
  Calls Tryz.prog 122 #[.agg #[.slice A0 M.length c0, .slice A1 Q.length c1], .slice A2 cv.length c2] w fun e w'=> ∃t,e= .returned (.pointer (some ⟨t,0,none⟩))∧TmE w' w.heap.size w'.heap.size t n m ⟨m9 (vT n M cv Q n),1,pE n⟩∧Below w.heap.size w w':=by
 have HB:=q_ (Below.refl w.heap.size w);have uG:=q_ hC0;have qy:=q_ hC1;have wv:=q_ hC2;have HM:=q_ hM;have HQ:=q_ hQ;have HR:=q_ hr;have HN:=q_ hn;have uo:=q_ hn2;have AE:=q_ hcv;have HMM:=q_ hm;have hqz:(Q.length:Int)=(n:Int):=by omega
 clear hC0 hC1 hC2 hM hQ hr hn hn2 hcv hm
 go_enter Tryz.func122,Tryz.ntmps122
 go_wp2_with (first | ((with_reducible refine dg (N:=2) rfl ?_);refine nR 2 #[.slice A0 M.length c0, .slice A1 Q.length c1] 34 ?_;intro g2 hg w2 cM hb;replace HB:=q_ (eE HB.out hb);have B2:=q_ cM;have xg:=lS B2 1;clear hb cM hg) | ((with_reducible refine dg (N:=16) rfl ?_);refine nR 16 #[.slice none 0 0, .int .i64 1, .slice none 0 0, .int .i64 n] 104 ?_;intro g6 hg w6 cM hb;have JN:aE (w.heap.size≤g6):=⟨by rw [hg];exact HB.out.size⟩;replace HB:=q_ (eE HB.out hb);replace B2:=q_ (ke B2.out hb);have B6:=q_ cM;clear hb cM hg xg))
 have NT:aE (Nt w w6 g6 n (.slice none 0 0) (.slice none 0 0) (vT n M cv Q 0) (pE 0)):=⟨HB.out,JN.out,B6.out,Kd.sJ _ _ _ _ _,Kd.qT _ _ _ _ _⟩
 clear HB B6
 go_loopg [18] n (fun gg v18 wr=> ∃(i:Nat) (u0 u2:Value),i≤n∧n - i≤gg∧v18= .int .i64 (i:Int)∧aE (Nt w wr g6 n u0 u2 (vT n M cv Q i) (pE i))∧aE (wr.heap[g2]?=some (.cells #[.slice A0 M.length c0, .slice A1 Q.length c1] 34 (0,0))))
 case atStart=>exact⟨0,_,_,Nat.zero_le _,by omega,rfl,NT,B2⟩
 case round=>
  clear NT B2;obtain⟨i,u0,u2,hi,hg,rfl,NT,B2⟩:=hrel;have HG:=q_ hg
  by_cases hlt:i < n
  ·have pZ:(i:Int) < (n:Int):=by omega
   have h0z:(0:Int)≤(i:Int):=by omega
   have Vx:=uo.out;have hw:IntKind.i64.wrap ((i:Int)+1)=((i+1:Nat):Int):=by rw [IntWalk.i64_in _ (by omega)];rfl
   have hw2:IntKind.i64.wrap (2*(n:Int))=((2*n:Nat):Int):=by rw [IntWalk.i64_in _ (by omega)];omega
   have hw3:wrap64 (2*(n:Int)+2)=((2*n+2:Nat):Int):=by rw [nH (by omega) (by omega)];omega
   have HW3:=q_ hw3;have HW:=q_ hw;have mG:=q_ hlt;clear hi hg hlt Vx hw hw3
   go_wp2_with (first | ((with_reducible refine dg (N:=26) rfl ?_);refine ahQ (w0:=wr) wr.heap.size 2 rfl (N:=26) rfl 24 _ _ rfl (2*n) (2*n+2) rfl rfl (by omega) HW3.out Tryz.underlying24 q6 (by omega) (by have:=uo.out;omega) (Below.refl _ _) (Nat.le_refl _) ?_;intro v8 w8 ho hb hb2;obtain⟨g8,c8,hv8,hg8,_,abV,hbc⟩:=Kd.rX ho (by rw [List.length_replicate];have:=HN.out;omega);rw [List.length_replicate] at hv8;subst hv8;have NR:=q_ (Nr.new NT.out hb2 ho);have hcell:=(Kd.tW (W:=w8) (xs:=List.replicate (2*n) (0:Int)) 0 ho (i:Int) (by omega) (by have:=mG.out;omega));rw [Int.toNat_natCast] at hcell;have hfr:=hcell.2;replace hcell:=hcell.1;have akj:aE (g2≠g8):=⟨by have:=pq B2.out;omega⟩;replace B2:=q_ (ke B2.out hb2);have NR2:=q_ (NR.out.put i 1);rw [ab1 n i (M.getD i []) mG.out] at NR2;have B2':aE ((w8.setCell ⟨g8,i,none⟩ (.int .i64 1)).heap[g2]?=some (.cells #[.slice A0 M.length c0, .slice A1 Q.length c1] 34 (0,0))):=⟨(Below.heap_setCell w8 ⟨g8,i,none⟩ _ g2 (by simpa using akj.out)).trans B2.out⟩;have BN:=lS B2' 0;obtain⟨ad,A',c',eA,hx,hc',hC'⟩:=pI uG.out (i:Int) (by omega) (by have:=HM.out;omega);cases eA;rw [Int.toNat_natCast] at hx;have hx':=bc_ NR2.out.below hx;have el:d5 M (i:Int)=M.getD i []:=(by simp [d5]);rw [el] at hx';rw [el] at hc';have hC2:Kd.C (Kd.int .i64) w A' (M.getD i []).length (M.getD i []):=(by rw [← el];exact hC');have RA:(M.getD i []).length=n:=HR.out _ (by rw [List.getD_eq_getElem?_getD,List.getElem?_eq_getElem (by rw [HM.out];exact mG.out)];exact List.getElem_mem _);rw [RA] at hx';rw [RA] at hc';have HC':=q_ hC2;have aoz:=q_ RA;have hmz:(i:Int) < (M.length:Int):=(by rw [HM.out];exact pZ);have hi2:(i:Int) < ((2*n:Nat):Int):=(by omega);clear ho hb hb2 hg8 hbc hx hc' hC' hC2 el RA NR NT HW3 B2))
   generalize w8.setCell ⟨g8,i,none⟩ (.int .i64 1)=w9 at*
   clear hcell hfr BN hx' hmz hi2
   go_loopg [36] n (fun gg v36 wr2=> ∃j:Nat,j≤n∧n - j≤gg∧v36= .int .i64 (j:Int)∧aE (Nr w wr2 g6 n u0 u2 (vT n M cv Q i) (pE i) (.slice (some ⟨g8,0,none⟩) (2*n) c8) (zL n i (M.getD i []) j))∧aE (wr2.heap[g2]?=some (.cells #[.slice (some ad) M.length c0, .slice A1 Q.length c1] 34 (0,0))))
   case atStart=>exact⟨0,Nat.zero_le _,by omega,rfl,NR2,B2'⟩
   case round=>
    clear NR2 B2';obtain⟨j,hj,hg2,rfl,NR,B2⟩:=hrel;have HG2:=q_ hg2;have HJ0:=q_ hj
    by_cases hjn:j < n
    ·have hjz:(j:Int) < (n:Int):=by omega
     have h0j:(0:Int)≤(j:Int):=by omega
     have Vx:=uo.out;have hwj:IntKind.i64.wrap ((j:Int)+1)=((j+1:Nat):Int):=by rw [IntWalk.i64_in _ (by omega)];rfl
     have hwn:IntKind.i64.wrap ((n:Int)+(j:Int))=((n+j:Nat):Int):=by rw [IntWalk.i64_in _ (by omega)];omega
     have hnj:((n+j:Nat):Int) < ((2*n:Nat):Int):=by omega
     have HWJ:=q_ hwj;have HJN:=q_ hjn;obtain⟨ae,eA,hx⟩:=Kd.mA HC'.out (j:Int) (by omega) (by rw [aoz.out];omega);subst eA;rw [Int.toNat_natCast,rT] at hx;have hx':=bc_ NR.out.below hx;have hcell:=Kd.tW 0 NR.out.X ((n+j:Nat):Int) (by omega) (by omega);rw [Int.toNat_natCast] at hcell;have hfr:=hcell.2;replace hcell:=hcell.1;clear hj hg2 hjn Vx hx;go_wp2
     go_roundg (n - (j+1))
     case measure=>have:=HG2.out;have:=HJN.out;omega
     case rel=>
      have hput:=NR.out.put (n+j) (wrap64 (- (M.getD i []).getD j 0));rw [ab2 n i _ j HJN.out] at hput;exact⟨j+1,HJN.out,by omega,by first | rfl | (rw [HWJ.out]) | (simp [HWJ.out]),⟨hput⟩,⟨(Below.heap_setCell _ ⟨g8,n+j,none⟩ _ g2 (by simpa using akj.out)).trans B2.out⟩⟩
    ·have hjz: ¬ (j:Int) < (n:Int):=by omega
     obtain rfl:n=j:=by have:=HJ0.out;omega
     by_cases Iw:cv.length=0
     ·have hcz: ¬ (0:Int) < (cv.length:Int):=by omega
      have aat:=q_ Iw;clear Iw;go_wp2
      --aon A
      have hqi:(i:Int) < (Q.length:Int):=by rw [HQ.out];exact pZ
      obtain⟨aa,eA1,hx⟩:=Kd.mA qy.out (i:Int) (by omega) hqi;subst eA1;rw [Int.toNat_natCast,rT] at hx;obtain⟨q,hq⟩: ∃q,Q.getD i 0=q:=⟨_,rfl⟩
      rw [hq] at hx;have HX:=q_ hx;have HQI:=q_ hq;clear hx hq;replace NR:=q_ (NR.out.mv (mH (Below.refl wr.heap.size wr)));replace B2:=q_ (ke B2.out (mH (Below.refl wr.heap.size wr)));refine qx (n:=18) (S:=fun w'=>w'.cell? ⟨g6,0,none⟩=some u0∧w'.cell? ⟨g2,1,none⟩=some (.slice (some aa) Q.length c1)∧w'.cell? (aa.add i)=some (.int .i64 q)) (ds:= [17]) ⟨(bp (NR.out.blk) 0).trans rfl,(bp (B2.out) 1).trans rfl,(bc_ NR.out.below HX.out:)⟩ (fun hHeld=>?_)
      generalize wr.drew=tE at NR B2 hHeld ⊢
      refine sB 0 60 1 61 2 62 3 63 ?_;refine mg 4 64 ?_;refine sU 5 65 6 66 ?_;refine mg 7 67 ?_;refine sU 8 68 9 69 ?_;refine mg 10 70 ?_
      refine pz 11 (some 71) (fun K hK=>?_)
      refine X5 ?_
      refine hK.out _ _ ⟨(bp (mY NR.out.blk _) 0).trans rfl,(bp (mY B2.out _) 1).trans rfl,(Below.cell (Bb NR.out.below _) (World.block_lt_of_cell? w _ HX.out)).trans HX.out⟩ (fun hHeld=>?_)
      clear hK K;refine AU ?_
      refine pz 12 (some 72) (fun K hK=>?_)
      refine Kd.uX (Kd.int .i64) (w0:=w) w.heap.size (by rfl) (.tmp 65) (.tmp 71) 24 2 (.int .i64 0) 8 rfl Tryz.underlying24 q6 rfl (by decide) (by omega) (.slice (some ⟨g8,0,none⟩) (2*n) c8) (zL n i (M.getD i []) n) q [.int .i64 q] (fun _=>True) (fun _=>False) rfl rfl rfl (fun _ hk=>hk.elim) (fun _ _=>trivial) NR.out.X NR.out.below NR.out.below.size ?aL ?_
      case aL=>have:=uo.out;simp [Ec];omega
      intro v11 rB ho hb hg hat;replace B2:=q_ (m8 B2.out hg (Kd.pJ NR.out.X B2.out (by decide)));replace NR:=q_ (NR.out.grow hb hg hat ho);obtain⟨Y,hY⟩: ∃Y,(zL n i (M.getD i []) n)++ [q]=Y:=⟨_,rfl⟩
      rw [hY] at NR;have HY:=q_ hY;clear ho hb hg hat hY hHeld;obtain⟨A9,c9,rfl⟩:=Kd.mE NR.out.X;refine hK.out _ _ ⟨(bp (NR.out.blk) 0).trans rfl,(bp (B2.out) 1).trans rfl,(bc_ NR.out.below HX.out:)⟩ (fun hHeld=>?_)
      clear hK K;refine JD 72 ?_
      refine pz 13 (some 73) (fun K hK=>?_)
      refine X5 ?_
      refine hK.out _ _ ⟨(bp (mY NR.out.blk _) 0).trans rfl,(bp (mY B2.out _) 1).trans rfl,(Below.cell (Bb NR.out.below _) (World.block_lt_of_cell? w _ HX.out)).trans HX.out⟩ (fun hHeld=>?_)
      clear hK K;refine AU ?_
      have HA:=q_ (Kd.qp NR.out.X (Kd.pQ NR.out.S) (by decide));refine pz 14 (some 74) (fun K hK=>?_)
      refine Kd.yD (Kd.slice 2 (Kd.int .i64)) (w0:=w) w.heap.size (by rfl) (.tmp 64) (.tmp 73) 32 24 (.slice none 0 0) 24 rfl Tryz.underlying32 yc rfl (by decide) (by omega) u0 (vT n M cv Q i) Y [.slice A9 Y.length c9] (fun _=>True) (fun k=>some k=(.slice A9 Y.length c9:Value).ownBlock) rfl rfl (Kd.zT (Kd.fY (Kd.q5 rfl HA.out) (fun _ h=>h))) (fun k hk=>HA.out.1 k hk.symm) (fun _ _=>trivial) (Kd.mB NR.out.S (fun k hk=>⟨trivial,fun e=>hk.2 e⟩)) NR.out.below NR.out.below.size ?aL ?_
      case aL=>have:=uo.out;have:=mG.out;rw [Ij];omega
      intro u12 tX ho hb hg hat;replace B2:=q_ (m8 B2.out hg (Kd.sP NR.out.S B2.out (by decide)));have BK:=q_ (m8 NR.out.blk hg (Kd.sP NR.out.S NR.out.blk (by decide)));have Dk:=q_ (Kd.wh NR.out.R (Kd.pQ NR.out.S) (by decide) hg);obtain⟨L1,hL1⟩: ∃L1,vT n M cv Q i++ [Y]=L1:=⟨_,rfl⟩
      rw [hL1] at ho;have Zl:=q_ hL1;obtain⟨Ey,qQ,rfl⟩:=Kd.nk ho;have HS:=q_ ho;have HB:=q_ hb;have He:=q_ NR.out.g;clear ho hb hg hat hHeld HA NR hL1;refine hK.out _ _ ⟨(bp (BK.out) 0).trans rfl,(bp (B2.out) 1).trans rfl,(bc_ HB.out HX.out:)⟩ (fun hHeld=>?_)
      clear hK K;refine JD 74 ?_
      refine sU 15 75 16 76 ?_
      have hs0:=lS BK 0;have Z5:=gE BK.out 0;refine DU 17 none (fun K hK=>?_)
      refine rL (w1:=?_) (by rfl) rfl ?_ ?_
      rotate_left
      ·go_simp
       rfl
      refine hK.out _ _ ?_
      clear hK K hs0 Z5;refine oA (by kernel_rfl) ?_
      have NT:=q_ (Nt.rows HB.out He.out BK.out HS.out Dk.out);have KU:g2≠g6:=fun e=>by have h1:=B2.out;have h2:=BK.out;rw [e,h2] at h1;injection h1 with h1;injection h1 with _ h3 _;revert h3;decide
      replace B2:=q_ ((Below.heap_setCell tX ⟨g6,0,none⟩ (.slice Ey L1.length qQ) g2 (by simpa using KU)).trans B2.out);have aff:=q_ KU
      generalize tX.setCell ⟨g6,0,none⟩ (.slice Ey L1.length qQ)=Ah at NT B2 ⊢
      clear HB He BK HS Dk KU hHeld;have xg:Ah.cell? ⟨g6,2,none⟩=some u2:=(bp NT.out.blk 2).trans rfl
      go_wp2_with (first | ((with_reducible refine nL (b:= .append) (xs:= #[.tmp 81, .tmp 83]) rfl ?_);at_builtin;refine Kd.qo (Kd.int .i64) (w0:=w) w.heap.size rfl (.tmp 81) (.tmp 83) 102 3 (.int .i64 0) 8 rfl Tryz.underlying102 afD rfl (by decide) (by omega) u2 (pE i) (i:Int) [.int .i64 (i:Int)] (fun _=>True) (fun _=>False) rfl rfl ?aP (fun _ hk=>hk.elim) ?aF ?aO ?aB ?aS ?aL ?_;(case aP=>exact rfl);(case aF=>exact fun _ _=>trivial);(case aO=>exact NT.out.R);(case aB=>exact NT.out.below);(case aS=>exact NT.out.below.size);(case aL=>have:=uo.out;have:=mG.out;rw [Qq];omega);intro u14 Cg ho hb hg hat;rw [← Vt] at ho;obtain⟨Zt,tI,rfl⟩:=Kd.mE ho;replace B2:=q_ (m8 B2.out hg (Kd.pJ NT.out.R B2.out (by decide)));have BK:=q_ (m8 NT.out.blk hg (Kd.pJ NT.out.R NT.out.blk (by decide)));have HS:=q_ (Gc NT.out.S (Kd.AB NT.out.R) (by decide) hg);have Dk:=q_ ho;have HB:=q_ hb;have He:=q_ NT.out.g;clear ho hb hg hat NT xg;have hs2:=lS BK 2;have aec:=gE BK.out 2))
      have NT:=q_ (Nt.basis HB.out He.out BK.out HS.out Dk.out)
      go_roundg (n - (i+1))
      case measure=>have:=HG.out;have:=mG.out;omega
      case rel=>
       have h1:=NT.out;have e1:vT n M cv Q (i+1)=L1:=by
        rw [O5, ← Zl.out, ← HY.out];unfold Ik;rw [if_pos aat.out,List.append_nil,HQI.out]
       rw [← e1] at h1;exact⟨i+1,_,_,mG.out,by omega,by first | rfl | (rw [HW.out]) | (simp [HW.out,nH (x:=(i:Int)+1) (by omega) (by have:=uo.out;have:=mG.out;omega)]),⟨h1⟩,⟨(Below.heap_setCell Cg ⟨g6,2,none⟩ _ g2 (by simpa using aff.out)).trans B2.out⟩⟩
      --END A
     ·have hcz:(0:Int) < (cv.length:Int):=by omega
      have aat:=q_ Iw;clear Iw;have anE:(i:Int) < (cv.length:Int):=by have:=AE.out;have:=aat.out;have:=mG.out;omega
      obtain⟨af,eA3,hx⟩:=Kd.mA wv.out (i:Int) (by omega) anE;subst eA3;rw [Int.toNat_natCast,rT] at hx;have hx':=bc_ NR.out.below hx;obtain⟨x,hxx⟩: ∃x,cv.getD i 0=x:=⟨_,rfl⟩
      rw [hxx] at hx';have HCX:=q_ hxx;clear hx hxx
      go_wp2_with (first | ((with_reducible refine nL (b:= .append) (xs:= #[.tmp 52, .tmp 58]) rfl ?_);at_builtin;refine Kd.qo (Kd.int .i64) (w0:=w) w.heap.size rfl (.tmp 52) (.tmp 58) 24 2 (.int .i64 0) 8 rfl Tryz.underlying24 q6 rfl (by decide) (by omega) (.slice (some ⟨g8,0,none⟩) (2*n) c8) (zL n i (M.getD i []) n) (wrap64 (- x)) [.int .i64 (wrap64 (- x))] (fun _=>True) (fun _=>False) rfl rfl ?aP (fun _ hk=>hk.elim) ?aF ?aO ?aB ?aS ?aL ?_;(case aP=>exact rfl);(case aF=>exact fun _ _=>trivial);(case aO=>exact NR.out.X);(case aB=>exact NR.out.below);(case aS=>exact NR.out.below.size);(case aL=>have:=uo.out;rw [Ec];omega);intro Jy vu ho hb hg hat;obtain⟨X1,hX1⟩: ∃X1,zL n i (M.getD i []) n++ [wrap64 (- x)]=X1:=⟨_,rfl⟩;rw [hX1] at ho;have HX1:=q_ hX1;have aor:aE (X1.length=2*n+1):=⟨(by rw [← hX1,List.length_append,Ec];rfl)⟩;obtain⟨CF,xq,rfl⟩:=Kd.mE ho;replace B2:=q_ (m8 B2.out hg (Kd.pJ NR.out.X B2.out (by decide)));replace NR:=q_ (NR.out.grow hb hg hat ho);clear ho hb hg hat hX1 hx'))
      --aon B
      have hqi:(i:Int) < (Q.length:Int):=by rw [HQ.out];exact pZ
      obtain⟨aa,eA1,hx⟩:=Kd.mA qy.out (i:Int) (by omega) hqi;subst eA1;rw [Int.toNat_natCast,rT] at hx;obtain⟨q,hq⟩: ∃q,Q.getD i 0=q:=⟨_,rfl⟩
      rw [hq] at hx;have HX:=q_ hx;have HQI:=q_ hq;clear hx hq;replace NR:=q_ (NR.out.mv (mH (Below.refl vu.heap.size vu)));replace B2:=q_ (ke B2.out (mH (Below.refl vu.heap.size vu)));refine qx (n:=18) (S:=fun w'=>w'.cell? ⟨g6,0,none⟩=some u0∧w'.cell? ⟨g2,1,none⟩=some (.slice (some aa) Q.length c1)∧w'.cell? (aa.add i)=some (.int .i64 q)) (ds:= [17]) ⟨(bp (NR.out.blk) 0).trans rfl,(bp (B2.out) 1).trans rfl,(bc_ NR.out.below HX.out:)⟩ (fun hHeld=>?_)
      generalize vu.drew=tE at NR B2 hHeld ⊢
      refine sB 0 60 1 61 2 62 3 63 ?_;refine mg 4 64 ?_;refine sU 5 65 6 66 ?_;refine mg 7 67 ?_;refine sU 8 68 9 69 ?_;refine mg 10 70 ?_
      refine pz 11 (some 71) (fun K hK=>?_)
      refine X5 ?_
      refine hK.out _ _ ⟨(bp (mY NR.out.blk _) 0).trans rfl,(bp (mY B2.out _) 1).trans rfl,(Below.cell (Bb NR.out.below _) (World.block_lt_of_cell? w _ HX.out)).trans HX.out⟩ (fun hHeld=>?_)
      clear hK K;refine AU ?_
      refine pz 12 (some 72) (fun K hK=>?_)
      refine Kd.uX (Kd.int .i64) (w0:=w) w.heap.size (by rfl) (.tmp 65) (.tmp 71) 24 2 (.int .i64 0) 8 rfl Tryz.underlying24 q6 rfl (by decide) (by omega) (.slice CF X1.length xq) X1 q [.int .i64 q] (fun _=>True) (fun _=>False) rfl rfl rfl (fun _ hk=>hk.elim) (fun _ _=>trivial) NR.out.X NR.out.below NR.out.below.size ?aL ?_
      case aL=>have:=uo.out;have:=aor.out;omega
      intro v11 rB ho hb hg hat;replace B2:=q_ (m8 B2.out hg (Kd.pJ NR.out.X B2.out (by decide)));replace NR:=q_ (NR.out.grow hb hg hat ho);obtain⟨Y,hY⟩: ∃Y,X1++ [q]=Y:=⟨_,rfl⟩
      rw [hY] at NR;have HY:=q_ hY;clear ho hb hg hat hY hHeld;obtain⟨A9,c9,rfl⟩:=Kd.mE NR.out.X;refine hK.out _ _ ⟨(bp (NR.out.blk) 0).trans rfl,(bp (B2.out) 1).trans rfl,(bc_ NR.out.below HX.out:)⟩ (fun hHeld=>?_)
      clear hK K;refine JD 72 ?_
      refine pz 13 (some 73) (fun K hK=>?_)
      refine X5 ?_
      refine hK.out _ _ ⟨(bp (mY NR.out.blk _) 0).trans rfl,(bp (mY B2.out _) 1).trans rfl,(Below.cell (Bb NR.out.below _) (World.block_lt_of_cell? w _ HX.out)).trans HX.out⟩ (fun hHeld=>?_)
      clear hK K;refine AU ?_
      have HA:=q_ (Kd.qp NR.out.X (Kd.pQ NR.out.S) (by decide));refine pz 14 (some 74) (fun K hK=>?_)
      refine Kd.yD (Kd.slice 2 (Kd.int .i64)) (w0:=w) w.heap.size (by rfl) (.tmp 64) (.tmp 73) 32 24 (.slice none 0 0) 24 rfl Tryz.underlying32 yc rfl (by decide) (by omega) u0 (vT n M cv Q i) Y [.slice A9 Y.length c9] (fun _=>True) (fun k=>some k=(.slice A9 Y.length c9:Value).ownBlock) rfl rfl (Kd.zT (Kd.fY (Kd.q5 rfl HA.out) (fun _ h=>h))) (fun k hk=>HA.out.1 k hk.symm) (fun _ _=>trivial) (Kd.mB NR.out.S (fun k hk=>⟨trivial,fun e=>hk.2 e⟩)) NR.out.below NR.out.below.size ?aL ?_
      case aL=>have:=uo.out;have:=mG.out;rw [Ij];omega
      intro u12 tX ho hb hg hat;replace B2:=q_ (m8 B2.out hg (Kd.sP NR.out.S B2.out (by decide)));have BK:=q_ (m8 NR.out.blk hg (Kd.sP NR.out.S NR.out.blk (by decide)));have Dk:=q_ (Kd.wh NR.out.R (Kd.pQ NR.out.S) (by decide) hg);obtain⟨L1,hL1⟩: ∃L1,vT n M cv Q i++ [Y]=L1:=⟨_,rfl⟩
      rw [hL1] at ho;have Zl:=q_ hL1;obtain⟨Ey,qQ,rfl⟩:=Kd.nk ho;have HS:=q_ ho;have HB:=q_ hb;have He:=q_ NR.out.g;clear ho hb hg hat hHeld HA NR hL1;refine hK.out _ _ ⟨(bp (BK.out) 0).trans rfl,(bp (B2.out) 1).trans rfl,(bc_ HB.out HX.out:)⟩ (fun hHeld=>?_)
      clear hK K;refine JD 74 ?_
      refine sU 15 75 16 76 ?_
      have hs0:=lS BK 0;have Z5:=gE BK.out 0;refine DU 17 none (fun K hK=>?_)
      refine rL (w1:=?_) (by rfl) rfl ?_ ?_
      rotate_left
      ·go_simp
       rfl
      refine hK.out _ _ ?_
      clear hK K hs0 Z5;refine oA (by kernel_rfl) ?_
      have NT:=q_ (Nt.rows HB.out He.out BK.out HS.out Dk.out);have KU:g2≠g6:=fun e=>by have h1:=B2.out;have h2:=BK.out;rw [e,h2] at h1;injection h1 with h1;injection h1 with _ h3 _;revert h3;decide
      replace B2:=q_ ((Below.heap_setCell tX ⟨g6,0,none⟩ (.slice Ey L1.length qQ) g2 (by simpa using KU)).trans B2.out);have aff:=q_ KU
      generalize tX.setCell ⟨g6,0,none⟩ (.slice Ey L1.length qQ)=Ah at NT B2 ⊢
      clear HB He BK HS Dk KU hHeld;have xg:Ah.cell? ⟨g6,2,none⟩=some u2:=(bp NT.out.blk 2).trans rfl
      go_wp2_with (first | ((with_reducible refine nL (b:= .append) (xs:= #[.tmp 81, .tmp 83]) rfl ?_);at_builtin;refine Kd.qo (Kd.int .i64) (w0:=w) w.heap.size rfl (.tmp 81) (.tmp 83) 102 3 (.int .i64 0) 8 rfl Tryz.underlying102 afD rfl (by decide) (by omega) u2 (pE i) (i:Int) [.int .i64 (i:Int)] (fun _=>True) (fun _=>False) rfl rfl ?aP (fun _ hk=>hk.elim) ?aF ?aO ?aB ?aS ?aL ?_;(case aP=>exact rfl);(case aF=>exact fun _ _=>trivial);(case aO=>exact NT.out.R);(case aB=>exact NT.out.below);(case aS=>exact NT.out.below.size);(case aL=>have:=uo.out;have:=mG.out;rw [Qq];omega);intro u14 Cg ho hb hg hat;rw [← Vt] at ho;obtain⟨Zt,tI,rfl⟩:=Kd.mE ho;replace B2:=q_ (m8 B2.out hg (Kd.pJ NT.out.R B2.out (by decide)));have BK:=q_ (m8 NT.out.blk hg (Kd.pJ NT.out.R NT.out.blk (by decide)));have HS:=q_ (Gc NT.out.S (Kd.AB NT.out.R) (by decide) hg);have Dk:=q_ ho;have HB:=q_ hb;have He:=q_ NT.out.g;clear ho hb hg hat NT xg;have hs2:=lS BK 2;have aec:=gE BK.out 2))
      have NT:=q_ (Nt.basis HB.out He.out BK.out HS.out Dk.out)
      go_roundg (n - (i+1))
      case measure=>have:=HG.out;have:=mG.out;omega
      case rel=>
       have h1:=NT.out;have e1:vT n M cv Q (i+1)=L1:=by
        rw [O5, ← Zl.out, ← HY.out];unfold Ik;rw [if_neg aat.out,HCX.out,HX1.out,HQI.out]
       rw [← e1] at h1;exact⟨i+1,_,_,mG.out,by omega,by first | rfl | (rw [HW.out]) | (simp [HW.out,nH (x:=(i:Int)+1) (by omega) (by have:=uo.out;have:=mG.out;omega)]),⟨h1⟩,⟨(Below.heap_setCell Cg ⟨g6,2,none⟩ _ g2 (by simpa using aff.out)).trans B2.out⟩⟩
      --END B
  ·have pZ: ¬ (i:Int) < (n:Int):=by omega
   obtain rfl:n=i:=by omega
   go_wp2
   go_ret
   exact⟨_,rfl,NT.out.done (m:=m) (Ij _ _ _ _ _) (Qq _) HN.out (by rw [HMM.out];omega) (by
    intro x hx;obtain⟨r,_,rfl⟩:=List.mem_map.1 hx;unfold Ik;rw [List.length_append,List.length_append,Ec,HMM.out]
    split <;> rfl),NT.out.below⟩
end Go.Proofs.YthmfdplckdijdaaGreat.Lq
end
section
namespace Go.Proofs.YthmfdplckdijdaaGreat.Lq
open Go.RowKit Wz.cw Wz.fX Wz.cX Pr Ma Dt Lk Lt
def uN (x:Int):Prop:= -1920000000≤x∧x≤1920000000
theorem ZR {x y:Int} (hx:uN x) (hy:uN y): -3686400000000000000≤x*y∧x*y≤3686400000000000000:=by
 have h:(x*y).natAbs≤1920000000*1920000000:=by
  rw [Int.natAbs_mul]
  exact Nat.mul_le_mul (by have:=hx.1;have:=hx.2;omega) (by have:=hy.1;have:=hy.2;omega)
 omega
theorem akZ {x y p q:Int} (hx:uN x) (hy:uN y) (hp:uN p) (hq:uN q):lc y x p q=sgI (p*y - q*x):=by
 have b1:=ZR hp hy
 have b2:=ZR hq hx
 unfold lc
 rw [nH (x:=p*y) (by omega) (by omega),nH (x:=q*x) (by omega) (by omega),nH (by omega) (by omega)]
theorem abS {T:lE} {i k:Nat} {x y:Int} (hx:uN x) (hy:uN y): ∀(l:List Nat),(∀c ∈ l,uN (T i c)∧uN (T k c))→decide (Ea (lc y x) (l.map (fun c=>(T i c,T k c))) < 0)=kl T i k x y l
 | [],_=>rfl
 | c::l,h=>by
  have hc:=h c List.mem_cons_self
  have ih:=abS hx hy l (fun d hd=>h d (List.mem_cons_of_mem _ hd))
  simp only [List.map_cons,Ea,kl]
  rw [akZ hx hy hc.1 hc.2]
  unfold sgI
  by_cases h1:T i c*y - T k c*x < 0
  ·rw [if_pos h1,if_neg (by decide),if_pos (by omega)];rfl
  ·rw [if_neg h1,if_neg (show ¬ T i c*y < T k c*x by omega)]
   by_cases h2:T i c*y - T k c*x > 0
   ·rw [if_pos h2,if_neg (by decide),if_pos (by omega)];rfl
   ·rw [if_neg h2,if_pos rfl,if_neg (show ¬ T k c*x < T i c*y by omega)]
    exact ih
theorem aiU {T:lE} {n m i k:Nat} {x y:Int} (hx:uN x) (hy:uN y) (hT: ∀a c,a < n→c < m→uN (T a c)) (hi:i < n) (hk:k < n) (hm:n < m):Rw T n m i k x y=kl T i k x y (qL n m):=by
 have e:((T i (m - 1)::qU T i n).zip (T k (m - 1)::qU T k n))=(qL n m).map (fun c=>(T i c,T k c)):=by
  unfold qL qU
  rw [List.map_cons,List.zip_cons_cons,List.zip_map']
 unfold Rw
 rw [e]
 refine abS hx hy _ (fun c hc=>?_)
 have hcm:c < m:=by
  rcases List.mem_cons.1 hc with rfl | hc
  ·omega
  ·have:=List.mem_range.1 hc;omega
 exact⟨hT i c hi hcm,hT k c hk hcm⟩
theorem Rt {bf:Nat→Int} {f g:Nat→Nat→Bool} {n:Nat} (h: ∀i j,i < n→j < n→f i j=g i j): ∀(l:List Nat) (o:Option Nat),(∀i ∈ l,i < n)→(∀j,o=some j→j < n)→xH bf f l o=xH bf g l o
 | [],_,_,_=>rfl
 | i::l,o,hl,ho=>by
  have hi:=hl i List.mem_cons_self
  have e:Hq f i o=Hq g i o:=by
   cases o with
   | none=>rfl
   | some j=>exact h i j hi (ho j rfl)
  unfold xH
  rw [e]
  refine Rt h l _ (fun j hj=>hl j (List.mem_cons_of_mem _ hj)) (fun j hj=>?_)
  split at hj
  ·cases hj;exact hi
  ·exact ho j hj
theorem Yg {s:TS} {n m:Nat} {bf:Nat→Int} (hb: ∀i,i < n→uN (bf i)) (hT: ∀a c,a < n→c < m→uN (s.T a c)) (hm:n < m):AK s.T n m bf n=qC n m s bf:=by
 unfold AK qC
 exact Rt (n:=n) (fun i j hi hj=>aiU (hb i hi) (hb j hj) hT hi hj hm) _ _ (fun i hi=>List.mem_range.1 hi) (fun j hj=>by cases hj)
theorem ag4 {n i:Nat} {Mi cv:List Int} {q:Int} (hcv:cv.length≠0) (c:Nat) (hc:c < 2*n+2):(Ik n i Mi cv q).getD c 0=if c < n then(if c=i then 1 else 0) else if c < 2*n then wrap64 (- Mi.getD (c - n) 0) else if c=2*n then wrap64 (- cv.getD i 0) else q:=by
 unfold Ik
 rw [if_neg hcv,List.getD_eq_getElem?_getD,List.append_assoc,List.getElem?_append]
 rw [Ec]
 by_cases h1:c < 2*n
 ·rw [if_pos h1]
  unfold zL
  rw [List.getElem?_map,List.getElem?_range h1]
  show (if c < n then(if c=i then(1:Int) else 0) else if c < n+n then wrap64 (- Mi.getD (c - n) 0) else 0)=_
  by_cases h2:c < n
  ·rw [if_pos h2,if_pos h2]
  ·rw [if_neg h2,if_neg h2,if_pos (by omega),if_pos h1]
 ·rw [if_neg h1,if_neg (show ¬ c < n by omega),if_neg h1]
  by_cases h2:c=2*n
  ·subst h2;simp
  ·rw [if_neg h2,show c - 2*n=1 from by omega];rfl
theorem DY {n:Nat} {M:List (List Int)} {cv Q:List Int} (hcv:cv.length≠0) (hM: ∀i k,i < n→k < n→((m9 M) i k).natAbs≤20) (hc: ∀i,i < n→(cv.getD i 0).natAbs≤20) (i c:Nat) (hi:i < n) (hcm:c < 2*n+2):
  m9 (vT n M cv Q n) i c=nD n (m9 M) (fun i=>cv.getD i 0) (fun i=>Q.getD i 0) i c:=by
 have e:m9 (vT n M cv Q n) i c=(Ik n i (M.getD i []) cv (Q.getD i 0)).getD c 0:=by
  unfold m9 vT
  rw [List.getD_eq_getElem?_getD (l:=List.map _ _),List.getElem?_map,List.getElem?_range hi];rfl
 rw [e,ag4 hcv c hcm]
 unfold nD
 by_cases h1:c < n
 ·rw [if_pos h1,if_pos h1]
 ·rw [if_neg h1,if_neg h1]
  by_cases h2:c < 2*n
  ·rw [if_pos h2,if_pos h2]
   have:=hM i (c - n) hi (by omega)
   unfold m9 at this
   exact nH (by omega) (by omega)
  ·rw [if_neg h2,if_neg h2]
   by_cases h3:c=2*n
   ·rw [if_pos h3,if_pos h3]
    have:=hc i hi
    exact nH (by omega) (by omega)
   ·rw [if_neg h3,if_neg h3]
theorem ahC {n:Nat} {Q:List Int} (hQ:Q.length=n):yJ n (fun i=>Q.getD i 0)=!(Q.any (fun x=>decide (x < 0))):=by
 subst hQ
 unfold yJ
 rw [Bool.eq_iff_iff]
 simp only [List.all_eq_true,List.mem_range,decide_eq_true_eq,Bool.not_eq_true',List.any_eq_false]
 constructor
 ·intro h x hx
  obtain⟨i,hi,rfl⟩:=List.mem_iff_getElem.1 hx
  have:=h i hi
  rw [List.getD_eq_getElem?_getD,List.getElem?_eq_getElem hi] at this
  simpa using this
 ·intro h i hi
  have:=h Q[i] (List.getElem_mem hi)
  rw [List.getD_eq_getElem?_getD,List.getElem?_eq_getElem hi]
  simpa using this
end Go.Proofs.YthmfdplckdijdaaGreat.Lq
end
section
namespace Go.Proofs.YthmfdplckdijdaaGreat.Pr
open Go.RowKit Wz.cw Wz.fX Wz.cX
def W0 (g:Nat) (lb:Array Value) (p:Int→Bool) (w:World) (l:List Int):Prop:=
 ∀(W:World) (x:Int),x ∈ l→Below w.heap.size w W→Calls Tryz.prog g (#[.int .i64 x]++lb) W fun e w'=>e= .returned (.bool (p x))∧Below W.heap.size W w'
theorem RW (p:Int→Bool) (g:Nat) (lb:Array Value) (eg: ∀args w,(callFunc g args).run Tryz.prog w= .ok (.enter g args) w) (A:Option Addr) (c:Nat) (l:List Int) (w:World)
  (hr:Kd.C (Kd.int .i64) w A l.length l) (hp:W0 g lb p w l):
  Calls Tryz.prog 139 #[.slice A l.length c, .func (.func g) #[] lb] w fun e w'=>e= .returned (.int .i64 (z7 p l 0))∧Below w.heap.size w w':=by
 have HR:=q_ hr;have HP:=q_ hp;have ael:l.length≤9223372036854775807:=hr.2.1;clear hr hp
 go_enter Tryz.func139,Tryz.ntmps139
 go_wp2
 go_loopg [5,8] l.length (fun gg _ s8 wr=> ∃kk:Nat,kk≤l.length∧l.length - kk≤gg∧s8= .int .i64 kk∧aE (Below w.heap.size w wr)∧aE (∀j (hj:j < l.length),j < kk→p l[j]=false))
 case atStart=>exact⟨0,Nat.zero_le _,by omega,rfl,⟨Below.refl _ w⟩,⟨fun j _ hj=>absurd hj (Nat.not_lt_zero _)⟩⟩
 case round=>
  obtain⟨kk,hkk,hg,rfl,BW,F⟩:=hrel
  by_cases hlt:kk < l.length
  ·obtain⟨ad,e,hx⟩:=Kd.mA HR.out kk (by omega) (by omega);cases e
   rw [Int.toNat_natCast] at hx;have hx':=bc_ BW.out hx;clear hx;have hel:rd l (kk:Int)=l[kk]:=by simp [rd,hlt]
   have hcall:=HP.out wr l[kk] (List.getElem_mem hlt) BW.out;rw [hel] at hx';clear hel;have pZ:(kk:Int) < (l.length:Int):=by omega
   have h0z:(0:Int)≤(kk:Int):=by omega
   generalize hy:l[kk]=y at hx' hcall
   have HY:=q_ hy;clear hy;cases hq:p y with
   | true=>
    rw [hq] at hcall;have HQ:=q_ hq;clear hq
    go_wp2_with fail
    refine hcall.mono ?_
    rintro e w' ⟨rfl,hb'⟩;clear hcall;go_wp2
    go_ret
    refine⟨?_,Below.trans BW.out (hb'.mono BW.out.size)⟩
    rw [GJ p l kk hlt F.out (by rw [HY.out];exact HQ.out)]
    rfl
   | false=>
    rw [hq] at hcall;have HQ:=q_ hq;clear hq
    go_wp2_with fail
    refine hcall.mono ?_
    rintro e w' ⟨rfl,hb'⟩;clear hcall;go_wp2
    go_roundg (l.length - (kk+1))
    case measure=>omega
    case rel=>
     refine⟨kk+1,by omega,by omega,by go_num,⟨Below.trans BW.out (hb'.mono BW.out.size)⟩,⟨fun j hj hjk=>?_⟩⟩
     by_cases e:j=kk
     ·subst e;rw [HY.out];exact HQ.out
     ·exact F.out j hj (by omega)
  ·have pZ: ¬ (kk:Int) < (l.length:Int):=by omega
   obtain rfl:kk=l.length:=by omega
   go_wp2
   go_ret
   refine⟨?_,BW.out⟩
   rw [EZ p l (fun i hi=>F.out i hi hi)]
   rfl
theorem Aa (p:Int→Bool) (g:Nat) (lb:Array Value) (eg: ∀args w,(callFunc g args).run Tryz.prog w= .ok (.enter g args) w) (A:Option Addr) (c:Nat) (l:List Int) (w:World)
  (hr:Kd.C (Kd.int .i64) w A l.length l) (hp:W0 g lb p w l):
  Calls Tryz.prog 88 #[.slice A l.length c, .func (.func g) #[] lb] w fun e w'=>e= .returned (.bool (l.any p))∧Below w.heap.size w w':=by
 rw [← Fc p l 0 (Int.le_refl _)];have HR:=q_ hr;have HP:=q_ hp;clear hr hp
 go_enter Tryz.func88,Tryz.ntmps88
 go_wp2_with fail
 refine(RW p g lb eg A c l _ HR.out HP.out).mono ?_
 rintro e w' ⟨rfl,hb'⟩;go_wp2
 go_ret
 exact⟨rfl,hb'⟩
end Go.Proofs.YthmfdplckdijdaaGreat.Pr
end
section
namespace Go.Proofs.YthmfdplckdijdaaGreat.Pr
open Go.RowKit Wz.cw Wz.fX Wz.cX
def QU (n:Int):Bool:=decide (n < 0)
theorem XV (n:Int) (w:World):Calls Tryz.prog 89 (#[.int .i64 n]++ #[]) w fun e w'=>e= .returned (.bool (QU n))∧Below w.heap.size w w':=by
 unfold QU
 show Calls Tryz.prog 89 #[.int .i64 n] w _
 go_enter Tryz.func89,Tryz.ntmps89
 go_wp2
 go_ret
 exact⟨rfl,Below.refl _ _⟩
theorem Io: ∀args w,(callFunc 89 args).run Tryz.prog w= .ok (.enter 89 args) w:=vB Tryz.func89 (by kernel_rfl) rfl
def yN.f (l0:List Int):Option Bool:=some (!(l0.any QU))
theorem yN.calls (A0:Option Addr) (c0:Nat) (l0:List Int) (r:Bool) (w:World) (hr0:Kd.C (Kd.int .i64) w A0 l0.length l0) (hc0:l0.length≤c0) (h:yN.f l0=some r):
  Calls Tryz.prog 57 #[.slice A0 l0.length c0] w fun e w'=>e= .returned (.bool r)∧Below w.heap.size w w':=by
 have HV:=q_ (Option.some.inj h);have hcall:=Aa QU 89 #[] Io A0 c0 l0 w hr0 (fun W x _ _=>XV x W);have HC:=q_ hcall;clear hr0 hc0 h hcall
 generalize l0.any QU=b at HV HC
 go_enter Tryz.func57,Tryz.ntmps57
 go_wp2_with fail
 refine HC.out.mono ?_
 rintro e w' ⟨rfl,hb⟩;go_wp2
 go_ret
 exact⟨by rw [← HV.out];rfl,hb⟩
end Go.Proofs.YthmfdplckdijdaaGreat.Pr
end
