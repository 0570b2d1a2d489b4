/- Texts of one claim (the words of the kit's print that the claim uses, printed functions, and this session's own texts), joined in the order of their imports by this session's own program (merge.py). -/
import Derived.Test.YtmpkckiifeikkaaJnFnLemkeTables0
set_option linter.unusedVariables false
set_option linter.unusedSimpArgs false
set_option maxHeartbeats 8000000
set_option maxRecDepth 100000
section
namespace Go.Proofs.Ytmpkckiifeikkaa.Dt
abbrev Mat:=Nat→Nat→Int
def sm:Nat→(Nat→Int)→Int
 | 0,_=>0
 | n+1,f=>sm n f+f n
theorem sm_congr {n:Nat} {f g:Nat→Int} (h: ∀i,i < n→f i=g i):sm n f=sm n g:=by
 induction n with
 | zero=>rfl
 | succ n ih=>simp only [sm];rw [ih (fun i hi=>h i (by omega)),h n (by omega)]
theorem sm_add (n:Nat) (f g:Nat→Int):sm n (fun i=>f i+g i)=sm n f+sm n g:=by
 induction n with
 | zero=>rfl
 | succ n ih=>simp only [sm];rw [ih];omega
theorem sm_mul (n:Nat) (c:Int) (f:Nat→Int):sm n (fun i=>c*f i)=c*sm n f:=by
 induction n with
 | zero=>simp [sm]
 | succ n ih=>simp only [sm];rw [ih,Int.mul_add]
theorem sm_mulr (n:Nat) (c:Int) (f:Nat→Int):sm n (fun i=>f i*c)=sm n f*c:=by
 rw [Int.mul_comm, ← sm_mul];exact sm_congr (fun i _=>Int.mul_comm _ _)
theorem sm_zero (n:Nat):sm n (fun _=>0)=0:=by
 induction n with
 | zero=>rfl
 | succ n ih=>simp only [sm];rw [ih];rfl
theorem sm_none {n:Nat} {f:Nat→Int} (h: ∀i,i < n→f i=0):sm n f=0:=by rw [sm_congr h,sm_zero]
theorem sm_one {n:Nat} {f:Nat→Int} {k:Nat} (hk:k < n) (h: ∀i,i < n→i≠k→f i=0):sm n f=f k:=by
 induction n with
 | zero=>omega
 | succ n ih=>
  simp only [sm]
  by_cases c:k=n
  ·subst c
   rw [sm_none (fun i hi=>h i (by omega) (by omega))];omega
  ·rw [ih (by omega) (fun i hi=>h i (by omega)),h n (by omega) (by omega)];omega
theorem sm_two {n:Nat} {f:Nat→Int} {k l:Nat} (hk:k < n) (hl:l < n) (hkl:k≠l) (h: ∀i,i < n→i≠k→i≠l→f i=0):sm n f=f k+f l:=by
 have e:sm n f=sm n (fun i=>(if i=k then f i else 0)+(if i=k then 0 else f i)):=sm_congr (fun i _=>by split <;> omega)
 rw [e,sm_add,sm_one hk (fun i _ hi=>by simp [hi]),sm_one hl]
 ·simp [Ne.symm hkl]
 ·intro i hi hil
  by_cases c:i=k
  ·simp [c]
  ·simp [c,h i hi c hil]
theorem sm_swap (n m:Nat) (f:Nat→Nat→Int):sm n (fun i=>sm m (f i))=sm m (fun j=>sm n (fun i=>f i j)):=by
 induction n with
 | zero=>simp only [sm];rw [sm_zero]
 | succ n ih=>simp only [sm];rw [ih, ← sm_add]
theorem sm_cut {n m:Nat} {f:Nat→Int} (h: ∀i,n≤i→i < n+m→f i=0):sm (n+m) f=sm n f:=by
 induction m with
 | zero=>rfl
 | succ m ih=>
  rw [← Nat.add_assoc];simp only [sm]
  rw [ih (fun i h1 h2=>h i h1 (by omega)),h (n+m) (by omega) (by omega)];omega
theorem sm_split (n m:Nat) (f:Nat→Int):sm (n+m) f=sm n f+sm m (fun i=>f (n+i)):=by
 induction m with
 | zero=>simp [sm]
 | succ m ih=>rw [← Nat.add_assoc];simp only [sm];rw [ih];omega
theorem sm_first (n:Nat) (f:Nat→Int):sm (n+1) f=f 0+sm n (fun i=>f (i+1)):=by
 rw [Nat.add_comm,sm_split]
 simp only [sm]
 rw [sm_congr (f:=fun i=>f (1+i)) (g:=fun i=>f (i+1)) (fun i _=>by rw [Nat.add_comm])]
 omega
def up (k j:Nat):Nat:=if j < k then j else j+1
def dn (k j:Nat):Nat:=if j < k then j else j - 1
theorem up_ne (k j:Nat):up k j≠k:=by unfold up;split <;> omega
theorem up_dn {k j:Nat} (h:j≠k):up k (dn k j)=j:=by unfold up dn;grind
theorem dn_up (k j:Nat):dn k (up k j)=j:=by unfold up dn;grind
theorem up_lt {k j n:Nat} (h:j < n):up k j < n+1:=by unfold up;split <;> omega
theorem dn_lt {k j n:Nat} (h:j < n+1) (hk:k < n+1) (hj:j≠k):dn k j < n:=by unfold dn;split <;> omega
def mnr (k:Nat) (A:Mat):Mat:=fun i j=>A (i+1) (up k j)
def sg (k:Nat):Int:=if k % 2=1 then -1 else 1
theorem sg_succ (k:Nat):sg (k+1)= - sg k:=by unfold sg;split <;> split <;> omega
theorem sg_sq (k:Nat):sg k*sg k=1:=by unfold sg;split <;> rfl
def det:Nat→Mat→Int
 | 0,_=>1
 | n+1,A=>sm (n+1) (fun k=>sg k*(A 0 k*det n (mnr k A)))
theorem det_succ (n:Nat) (A:Mat):det (n+1) A=sm (n+1) (fun k=>sg k*(A 0 k*det n (mnr k A))):=rfl
theorem det_congr {n:Nat}: ∀ {A B:Mat},(∀i j,i < n→j < n→A i j=B i j)→det n A=det n B:=by
 induction n with
 | zero=>intro A B _;rfl
 | succ n ih=>
  intro A B h
  unfold det
  refine sm_congr (fun k hk=>?_)
  rw [h 0 k (by omega) hk,ih (A:=mnr k A) (B:=mnr k B) (fun i j hi hj=>h _ _ (by omega) (up_lt hj))]
theorem det_col_lin {n:Nat}: ∀ {A B C:Mat} {c:Nat} {s t:Int},c < n→(∀i,i < n→A i c=s*B i c+t*C i c)→(∀i j,i < n→j < n→j≠c→A i j=B i j∧A i j=C i j)→det n A=s*det n B+t*det n C:=by
 induction n with
 | zero=>intro A B C c s t hc;omega
 | succ n ih=>
  intro A B C c s t hc h ho
  unfold det
  rw [← sm_mul, ← sm_mul, ← sm_add]
  refine sm_congr (fun k hk=>?_)
  by_cases e:k=c
  ·subst e
   have e1:det n (mnr k A)=det n (mnr k B):=det_congr (fun i j hi hj=>(ho _ _ (by omega) (up_lt hj) (up_ne k j)).1)
   have e2:det n (mnr k A)=det n (mnr k C):=det_congr (fun i j hi hj=>(ho _ _ (by omega) (up_lt hj) (up_ne k j)).2)
   rw [h 0 (by omega), ← e1, ← e2]
   grind
  ·have key:=ih (A:=mnr k A) (B:=mnr k B) (C:=mnr k C) (c:=dn k c) (s:=s) (t:=t) (dn_lt hc hk (Ne.symm e)) (fun i hi=>by unfold mnr;rw [up_dn (Ne.symm e)];exact h _ (by omega)) (fun i j hi hj hjc=>ho _ _ (by omega) (up_lt hj) (fun hh=>hjc (by rw [← hh,dn_up])))
   have o:=ho 0 k (by omega) hk e
   rw [key, ← o.1, ← o.2]
   grind
def cset (c:Nat) (v:Nat→Int) (A:Mat):Mat:=fun i j=>if j=c then v i else A i j
def rset (r:Nat) (v:Nat→Int) (A:Mat):Mat:=fun i j=>if i=r then v j else A i j
def tr (A:Mat):Mat:=fun i j=>A j i
def one:Mat:=fun i j=>if i=j then 1 else 0
def mul (n:Nat) (A B:Mat):Mat:=fun i j=>sm n (fun k=>A i k*B k j)
theorem det_adj_eq {n:Nat}: ∀ {A:Mat} {c:Nat},c+1 < n→(∀i,i < n→A i c=A i (c+1))→det n A=0:=by
 induction n with
 | zero=>intro A c hc;omega
 | succ n ih=>
  intro A c hc h
  unfold det
  rw [sm_two (k:=c) (l:=c+1) (by omega) (by omega) (by omega)]
  ·have e:det n (mnr c A)=det n (mnr (c+1) A):=det_congr (fun i j hi hj=>by
    unfold mnr up
    by_cases e:j=c
    ·subst e
     simp only [Nat.lt_irrefl,if_false,Nat.lt_succ_self,if_true]
     exact(h _ (by omega)).symm
    ·by_cases e2:j < c
     ·rw [if_pos e2,if_pos (by omega)]
     ·rw [if_neg e2,if_neg (by omega)])
   rw [sg_succ, ← e, ← h 0 (by omega)]
   grind
  ·intro k hk h1 h2
   rw [ih (A:=mnr k A) (c:=dn k c) (by unfold dn;split <;> omega) (fun i hi=>?_)]
   ·simp
   ·unfold mnr
    rw [up_dn (Ne.symm h1),show dn k c+1=dn k (c+1) from by unfold dn;split <;> split <;> omega,up_dn (Ne.symm h2)]
    exact h _ (by omega)
theorem det_cadd {n c:Nat} (hc:c < n) (u v:Nat→Int) (A:Mat) (s t:Int):det n (cset c (fun i=>s*u i+t*v i) A)=s*det n (cset c u A)+t*det n (cset c v A):=
 det_col_lin hc (fun i _=>by simp [cset]) (fun i j _ _ h=>by simp [cset,h])
theorem det_adj_swap {n c:Nat} (hc:c+1 < n) {A B:Mat} (h: ∀i,i < n→B i c=A i (c+1)∧B i (c+1)=A i c) (ho: ∀i j,i < n→j < n→j≠c→j≠c+1→B i j=A i j):det n B= - det n A:=by
 let W (u v:Nat→Int):Mat:=cset c u (cset (c+1) v A)
 let x:Nat→Int:=fun i=>A i c
 let y:Nat→Int:=fun i=>A i (c+1)
 have z (u v:Nat→Int) (e: ∀i,u i=v i):det n (W u v)=0:=det_adj_eq hc (fun i hi=>by simp [W,cset,e])
 have l1 (u v w:Nat→Int):det n (W (fun i=>1*u i+1*v i) w)=1*det n (W u w)+1*det n (W v w):=det_cadd (by omega) u v _ 1 1
 have l2 (u v w:Nat→Int):det n (W w (fun i=>1*u i+1*v i))=1*det n (W w u)+1*det n (W w v):=
  det_col_lin (c:=c+1) hc (fun i _=>by simp [W,cset]) (fun i j _ _ h=>by by_cases e:j=c <;> simp [W,cset,h,e])
 have a:=z (fun i=>1*x i+1*y i) (fun i=>1*x i+1*y i) (fun _=>rfl)
 rw [l1,l2,l2,z x x (fun _=>rfl),z y y (fun _=>rfl)] at a
 have ea:det n (W x y)=det n A:=det_congr (fun i j _ _=>by by_cases e:j=c <;> by_cases e2:j=c+1 <;> simp [W,cset,x,y,e,e2])
 have eb:det n (W y x)=det n B:=det_congr (fun i j hi hj=>by
  by_cases e:j=c
  ·subst e;simp [W,cset,y,(h i hi).1]
  ·by_cases e2:j=c+1
   ·subst e2;simp [W,cset,x,(h i hi).2]
   ·simp [W,cset,e,e2,ho i j hi hj e e2])
 rw [ea,eb] at a
 omega
theorem det_col_eq {n:Nat}: ∀(q:Nat) {A:Mat} {c d:Nat},d=c+1+q→d < n→(∀i,i < n→A i c=A i d)→det n A=0:=by
 intro q
 induction q with
 | zero=>intro A c d e hd h;subst e;exact det_adj_eq hd h
 | succ q ih=>
  intro A c d e hd h
  have k:=ih (A:=fun i j=>if j=c+1+q then A i (c+1+q+1) else if j=c+1+q+1 then A i (c+1+q) else A i j) (c:=c) (d:=c+1+q) rfl (by omega) (fun i hi=>by
   simp only [if_neg (show ¬ c=c+1+q by omega),if_neg (show ¬ c=c+1+q+1 by omega),if_true]
   rw [h i hi,e];rfl)
  have s:=det_adj_swap (n:=n) (c:=c+1+q) (by omega) (A:=A) (B:=fun i j=>if j=c+1+q then A i (c+1+q+1) else if j=c+1+q+1 then A i (c+1+q) else A i j) (fun i hi=>⟨by simp,by simp⟩) (fun i j _ _ h1 h2=>by simp [h1,h2])
  omega
theorem det_col_alt {n c d:Nat} {A:Mat} (hc:c < n) (hd:d < n) (hcd:c≠d) (h: ∀i,i < n→A i c=A i d):det n A=0:=by
 by_cases e:c < d
 ·exact det_col_eq (d - c - 1) (by omega) hd h
 ·exact det_col_eq (c - d - 1) (by omega) hc (fun i hi=>(h i hi).symm)
structure Form (n:Nat) (f:Mat→Int):Prop where
 cong: ∀A B:Mat,(∀i j,i < n→j < n→A i j=B i j)→f A=f B
 lin: ∀(A:Mat) (r:Nat) (u v:Nat→Int) (s t:Int),r < n→f (rset r (fun j=>s*u j+t*v j) A)=s*f (rset r u A)+t*f (rset r v A)
 alt: ∀(A:Mat) (r q:Nat),r < n→q < n→r≠q→(∀j,j < n→A r j=A q j)→f A=0
theorem rset_self (r:Nat) (A:Mat):rset r (A r) A=A:=by funext i j;unfold rset;split <;> simp_all
theorem Form.sums {n:Nat} {f:Mat→Int} (F:Form n f) {r:Nat} (hr:r < n) (A:Mat) (m:Nat) (c:Nat→Int) (v:Nat→Nat→Int):f (rset r (fun j=>sm m (fun k=>c k*v k j)) A)=sm m (fun k=>c k*f (rset r (v k) A)):=by
 induction m with
 | zero=>
  have:=F.lin A r (fun _=>0) (fun _=>0) 0 0 hr
  simp only [sm] at*
  simpa using this
 | succ m ih=>
  simp only [sm]
  have:=F.lin A r (fun j=>sm m (fun k=>c k*v k j)) (v m) 1 (c m) hr
  simp only [Int.one_mul] at this
  rw [this,ih]
theorem Form.swap {n:Nat} {f:Mat→Int} (F:Form n f) {r q:Nat} (hr:r < n) (hq:q < n) (hrq:r≠q) {A B:Mat} (h: ∀j,j < n→B r j=A q j∧B q j=A r j) (ho: ∀i j,i < n→j < n→i≠r→i≠q→B i j=A i j):f B= - f A:=by
 let W (u v:Nat→Int):Mat:=rset r u (rset q v A)
 have z (u v:Nat→Int) (e: ∀i,u i=v i):f (W u v)=0:=F.alt _ r q hr hq hrq (fun j _=>by simp [W,rset,e,Ne.symm hrq])
 have l1 (u v w:Nat→Int):f (W (fun i=>1*u i+1*v i) w)=1*f (W u w)+1*f (W v w):=F.lin _ r u v 1 1 hr
 have c (u v:Nat→Int):W u v=rset q v (rset r u A):=by
  funext i j;simp only [W,rset]
  by_cases e:i=r
  ·subst e;simp [hrq]
  ·simp [e]
 have l2 (u v w:Nat→Int):f (W w (fun i=>1*u i+1*v i))=1*f (W w u)+1*f (W w v):=by
  rw [c,c,c];exact F.lin _ q u v 1 1 hq
 have a:=z (fun i=>1*A r i+1*A q i) (fun i=>1*A r i+1*A q i) (fun _=>rfl)
 rw [l1,l2,l2,z (A r) (A r) (fun _=>rfl),z (A q) (A q) (fun _=>rfl)] at a
 have ea:f (W (A r) (A q))=f A:=F.cong _ _ (fun i j _ _=>by simp only [W,rset];grind)
 have eb:f (W (A q) (A r))=f B:=F.cong _ _ (fun i j hi hj=>by
  by_cases e:i=r
  ·subst e;simp [W,rset,(h j hj).1]
  ·by_cases e2:i=q
   ·subst e2;simp [W,rset,(h j hj).2,e]
   ·simp [W,rset,e,e2,ho i j hi hj e e2])
 rw [ea,eb] at a
 omega
theorem Form.addrow {n:Nat} {f:Mat→Int} (F:Form n f) {r q:Nat} (hr:r < n) (hq:q < n) (hrq:r≠q) (A:Mat) (t:Int):f (rset r (fun j=>A r j+t*A q j) A)=f A:=by
 have l:=F.lin A r (A r) (A q) 1 t hr
 simp only [Int.one_mul] at l
 rw [l,rset_self,F.alt (rset r (A q) A) r q hr hq hrq (fun j _=>by simp [rset,Ne.symm hrq])]
 omega
def emb (k:Nat) (B:Mat):Mat
 | 0,j=>if j=k then 1 else 0
 | i+1,j=>if j=k then 0 else B i (dn k j)
theorem Form.clean {n:Nat} {f:Mat→Int} (F:Form (n+1) f) {k:Nat} (hk:k < n+1) (A:Mat): ∀m,m≤n→f (rset 0 (fun j=>if j=k then 1 else 0) A)=f (fun i j=>if i=0 then(if j=k then 1 else 0) else if i≤m∧j=k then 0 else A i j):=by
 intro m
 induction m with
 | zero=>intro _;exact F.cong _ _ (fun i j _ _=>by by_cases e:i=0 <;> simp [rset,e])
 | succ m ih=>
  intro hm
  rw [ih (by omega)]
  rw [← F.addrow (r:=m+1) (q:=0) (by omega) (by omega) (by omega) _ (- A (m+1) k)]
  refine F.cong _ _ (fun i j hi hj=>?_)
  by_cases e:i=m+1
  ·subst e
   by_cases e2:j=k
   ·subst e2;simp [rset];omega
   ·simp [rset,e2]
  ·by_cases e0:i=0
   ·simp [rset,e0]
   ·have:(i≤m∧j=k)↔(i≤m+1∧j=k):=by constructor <;> intro h <;> omega
    simp [rset,e,e0,this]
theorem Form.emb_sg {n:Nat} {f:Mat→Int} (F:Form (n+1) f): ∀k,k < n+1→f (emb k one)=sg k*f one:=by
 intro k
 induction k with
 | zero=>
  intro _
  rw [show sg 0=1 from rfl,Int.one_mul]
  refine F.cong _ _ (fun i j _ _=>?_)
  cases i with
  | zero=>unfold emb one;by_cases e:j=0 <;> simp [e,eq_comm]
  | succ i=>unfold emb one dn;cases j with
   | zero=>simp
   | succ j=>simp
 | succ k ih=>
  intro hk
  rw [F.swap (r:=0) (q:=k+1) (A:=emb k one) (by omega) (by omega) (by omega),ih (by omega),sg_succ]
  ·grind
  ·intro j hj
   refine⟨?_,?_⟩
   ·simp only [emb,one,dn];grind
   ·simp only [emb,one,dn];grind
  ·intro i j hi hj h0 h1
   cases i with
   | zero=>exact absurd rfl h0
   | succ i=>simp only [emb,one,dn];grind
theorem Form.uniq {n:Nat}: ∀ {f:Mat→Int},Form n f→ ∀A,f A=det n A*f one:=by
 induction n with
 | zero=>intro f F A;rw [show det 0 A=1 from rfl,Int.one_mul];exact F.cong _ _ (fun i j hi _=>absurd hi (Nat.not_lt_zero _))
 | succ n ih=>
  intro f F A
  have e0:f A=f (rset 0 (fun j=>sm (n+1) (fun k=>A 0 k*(if j=k then 1 else 0))) A):=F.cong _ _ (fun i j hi hj=>by
   by_cases e:i=0
   ·subst e
    simp only [rset,if_true]
    rw [sm_one hj (fun i _ h=>by simp [Ne.symm h])];simp
   ·simp [rset,e])
  rw [e0,F.sums (by omega) A (n+1) (A 0) (fun k j=>if j=k then 1 else 0)]
  unfold det
  rw [← sm_mulr]
  refine sm_congr (fun k hk=>?_)
  have G:Form n (fun B=>f (emb k B)):=by
   have er (B:Mat) (r:Nat) (v:Nat→Int):emb k (rset r v B)=rset (r+1) (fun j=>if j=k then 0 else v (dn k j)) (emb k B):=by
    funext i j
    cases i with
    | zero=>simp [emb,rset]
    | succ i=>by_cases e:i=r <;> simp [emb,rset,e]
   refine⟨fun B C h=>F.cong _ _ (fun i j hi hj=>?_),fun B r u v s t hr=>?_,fun B r q hr hq hrq h=>?_⟩
   ·cases i with
    | zero=>rfl
    | succ i=>
     unfold emb
     by_cases e:j=k
     ·simp [e]
     ·simp only [if_neg e];exact h _ _ (by omega) (dn_lt hj hk e)
   ·simp only [er]
    rw [← F.lin _ _ _ _ s t (by omega)]
    congr 2
    funext j
    by_cases e:j=k <;> simp [e]
   ·refine F.alt _ (r+1) (q+1) (by omega) (by omega) (by omega) (fun j hj=>?_)
    unfold emb
    by_cases e:j=k
    ·simp [e]
    ·simp only [if_neg e];exact h _ (dn_lt hj hk e)
  have e1:f (rset 0 (fun j=>if j=k then 1 else 0) A)=f (emb k (mnr k A)):=by
   rw [F.clean hk A n (Nat.le_refl _)]
   refine F.cong _ _ (fun i j hi hj=>?_)
   cases i with
   | zero=>simp [emb]
   | succ i=>
    unfold emb mnr
    by_cases e:j=k
    ·simp [e];omega
    ·simp [e,up_dn e]
  have e2:=ih G (mnr k A)
  rw [e1,e2,F.emb_sg k hk]
  grind
theorem det_one (n:Nat):det n one=1:=by
 induction n with
 | zero=>rfl
 | succ n ih=>
  unfold det
  rw [sm_one (k:=0) (by omega) (fun i _ h=>by simp [one,Ne.symm h])]
  rw [det_congr (A:=mnr 0 one) (B:=one) (fun i j _ _=>by simp [mnr,one,up]),ih]
  rfl
theorem tr_form (n:Nat):Form n (fun A=>det n (tr A)):=by
 refine⟨fun A B h=>det_congr (fun i j hi hj=>h j i hj hi),fun A r u v s t hr=>?_,fun A r q hr hq hrq h=>det_col_alt hr hq hrq h⟩
 exact det_col_lin (c:=r) hr (fun i _=>by simp [tr,rset]) (fun i j _ _ h=>by simp [tr,rset,h])
theorem det_tr (n:Nat) (A:Mat):det n (tr A)=det n A:=by
 have h:det n (tr A)=det n A*det n (tr one):=(tr_form n).uniq A
 rw [h,det_congr (A:=tr one) (B:=one) (fun i j _ _=>by simp [tr,one,eq_comm]),det_one,Int.mul_one]
theorem det_form (n:Nat):Form n (det n):=by
 have e:det n=fun A=>det n (tr A):=by funext A;exact(det_tr n A).symm
 rw [e];exact tr_form n
theorem mul_form (n:Nat) (B:Mat):Form n (fun A=>det n (mul n A B)):=by
 have er (A:Mat) (r:Nat) (v:Nat→Int):mul n (rset r v A) B=rset r (fun j=>sm n (fun k=>v k*B k j)) (mul n A B):=by
  funext i j;by_cases e:i=r <;> simp [mul,rset,e]
 refine⟨fun A C h=>det_congr (fun i j hi hj=>sm_congr (fun k hk=>by rw [h i k hi hk])),fun A r u v s t hr=>?_,fun A r q hr hq hrq h=>?_⟩
 ·simp only [er]
  rw [← (det_form n).lin _ _ _ _ s t hr]
  congr 2
  funext j
  rw [← sm_mul, ← sm_mul, ← sm_add]
  exact sm_congr (fun k _=>by grind)
 ·exact(det_form n).alt _ r q hr hq hrq (fun j hj=>sm_congr (fun k hk=>by rw [h k hk]))
theorem det_mul (n:Nat) (A B:Mat):det n (mul n A B)=det n A*det n B:=by
 have h:det n (mul n A B)=det n A*det n (mul n one B):=(mul_form n B).uniq A
 rw [h,det_congr (A:=mul n one B) (B:=B) (fun i j hi _=>?_)]
 unfold mul
 rw [sm_one (k:=i) hi (fun k _ h=>by simp [one,Ne.symm h])]
 simp [one]
def sh (l:Nat) (A:Mat):Mat:=fun i j=>A (l+i) (l+j)
theorem det_block (d:Nat): ∀(l:Nat) (A:Mat),(∀i j,i < l→l≤j→j < l+d→A i j=0)→det (l+d) A=det l A*det d (sh l A):=by
 intro l
 induction l with
 | zero=>intro A _;rw [Nat.zero_add,show det 0 A=1 from rfl,Int.one_mul];exact det_congr (fun i j _ _=>by simp [sh])
 | succ l ih=>
  intro A h
  rw [show l+1+d=(l+d)+1 from by omega,det_succ,det_succ]
  rw [show l+d+1=(l+1)+d from by omega,sm_cut (fun i h1 h2=>by rw [h 0 i (by omega) h1 h2];simp), ← sm_mulr]
  refine sm_congr (fun k hk=>?_)
  rw [ih (mnr k A) (fun i j hi h1 h2=>by
   unfold mnr up
   rw [if_neg (by omega)]
   exact h _ _ (by omega) (by omega) (by omega))]
  rw [det_congr (A:=sh l (mnr k A)) (B:=sh (l+1) A) (fun i j _ _=>by
   unfold sh mnr up
   rw [if_neg (by omega),show l+i+1=l+1+i from by omega,show l+j+1=l+1+j from by omega])]
  grind
theorem det_block' (d l:Nat) (A:Mat) (h: ∀i j,l≤i→i < l+d→j < l→A i j=0):det (l+d) A=det l A*det d (sh l A):=by
 rw [← det_tr (l+d) A,det_block d l (tr A) (fun i j h1 h2 h3=>h j i h2 h3 h1),det_tr l A, ← det_tr d (sh l A)]
 rfl
def mv (s t:Nat) (b:Nat→Int) (A:Mat):Mat:=fun i j=>if i < s then A (up t i) j else if i=s then b j else A (up t (i - 1)) j
theorem mv_sg {n:Nat} (t:Nat) (b:Nat→Int) (A:Mat): ∀s,s < n→det n (mv s t b A)=sg s*det n (mv 0 t b A):=by
 intro s
 induction s with
 | zero=>intro _;simp [sg]
 | succ s ih=>
  intro hs
  rw [(det_form n).swap (r:=s) (q:=s+1) (A:=mv s t b A) (by omega) (by omega) (by omega),ih (by omega),sg_succ]
  ·grind
  ·intro j _;refine⟨?_,?_⟩
   ·simp [mv];intro h;omega
   ·simp [mv]
  ·intro i j _ _ h1 h2
   unfold mv
   by_cases e:i < s
   ·rw [if_pos e,if_pos (by omega)]
   ·rw [if_neg e,if_neg (by omega),if_neg h1,if_neg h2]
theorem adj_row {n:Nat} (B:Mat) (b:Nat→Int) {j:Nat} (hj:j < n):sm n (fun t=>det n (rset t b B)*B t j)=det n B*b j:=by
 let X:Mat:=fun i c=>if i=0 then(if c=0 then b j else b (c - 1)) else(if c=0 then B (i - 1) j else B (i - 1) (c - 1))
 have z:det (n+1) X=0:=det_col_alt (c:=0) (d:=j+1) (by omega) (by omega) (by omega) (fun i _=>by simp [X])
 have e:=det_tr (n+1) X
 rw [z] at e
 unfold det at e
 rw [sm_first] at e
 have m0:det n (mnr 0 (tr X))=det n B:=by
  rw [← det_tr n B];exact det_congr (fun p q _ _=>by simp [mnr,tr,X,up])
 have mt (t:Nat) (ht:t < n):det n (mnr (t+1) (tr X))=sg t*det n (rset t b B):=by
  rw [← det_tr n (mnr (t+1) (tr X))]
  have e1:det n (tr (mnr (t+1) (tr X)))=det n (mv 0 t b B):=det_congr (fun p q _ _=>by
   cases p with
   | zero=>simp [mnr,tr,X,up,mv]
   | succ p=>
    simp only [mnr,tr,X,up,mv,Nat.not_lt_zero,if_false]
    by_cases c:p < t
    ·simp [c,Nat.succ_lt_succ c]
    ·simp [c,show ¬ p+1 < t+1 from by omega])
  have e2:det n (mv t t b B)=det n (rset t b B):=det_congr (fun p q _ _=>by
   unfold mv rset up
   by_cases c:p < t
   ·simp [c,show p≠t from by omega]
   ·by_cases c2:p=t
    ·simp [c2]
    ·rw [if_neg c,if_neg c2,if_neg c2,if_neg (by omega),show p - 1+1=p from by omega])
  rw [e1, ← e2,mv_sg t b B t ht]
  have:=sg_sq t
  grind
 have e3:sm n (fun i=>sg (i+1)*(tr X 0 (i+1)*det n (mnr (i+1) (tr X))))= - sm n (fun t=>det n (rset t b B)*B t j):=by
  rw [← Int.neg_one_mul, ← sm_mul]
  refine sm_congr (fun t ht=>?_)
  rw [mt t ht,sg_succ]
  have:=sg_sq t
  simp only [tr,X]
  simp
  grind
 rw [e3,m0] at e
 simp [tr,X,sg] at e
 grind
theorem adj_col {n:Nat} (B:Mat) (b:Nat→Int) {j:Nat} (hj:j < n):sm n (fun t=>B j t*det n (cset t b B))=det n B*b j:=by
 rw [← det_tr n B, ← adj_row (tr B) b hj]
 refine sm_congr (fun t _=>?_)
 rw [Int.mul_comm, ← det_tr n (cset t b B)]
 rfl
end Go.Proofs.Ytmpkckiifeikkaa.Dt
end
section
namespace Go.Proofs.Ytmpkckiifeikkaa.Bd
open Go.RowKit Go.Proofs.YtmpkckiifeikkaaW.PrintWords Go.Proofs.YtmpkckiifeikkaaW.PrintMore Go.Proofs.Ytmpkckiifeikkaa.Ma Go.Proofs.Ytmpkckiifeikkaa.Dt
def ev (M:Mat) (i:Nat) (last:Int) (r c:Nat):Int:=wrap64 (Int.tdiv (wrap64 (wrap64 (M r c*M i i) - wrap64 (M r i*M i c))) last)
def el (M:Mat) (i:Nat) (last:Int):Mat:=fun a b=>if i≤b∧i < a then ev M i last a b else M a b
def swp (M:Mat) (r q:Nat):Mat:=fun j=>M (if j=r then q else if j=q then r else j)
end Go.Proofs.Ytmpkckiifeikkaa.Bd
end
section
namespace Go.Proofs.Ytmpkckiifeikkaa.Bz
open Go.RowKit Go.Proofs.YtmpkckiifeikkaaW.PrintWords Go.Proofs.YtmpkckiifeikkaaW.PrintMore Go.Proofs.Ytmpkckiifeikkaa.Ma Go.Proofs.Ytmpkckiifeikkaa.Dt Go.Proofs.Ytmpkckiifeikkaa.Bd
theorem det_scal (L:Int): ∀n,det n (fun a b=>if a=b then L else 0)=L ^ n:=by
 intro n
 induction n with
 | zero=>simp [det]
 | succ n ih=>
  rw [det_succ,sm_one (k:=0) (by omega) (fun i _ h=>by rw [if_neg (by omega)];simp)]
  rw [det_congr (A:=mnr 0 (fun a b=>if a=b then L else 0)) (B:=fun a b=>if a=b then L else 0) (fun i j _ _=>by simp [mnr,up]),ih]
  rw [if_pos rfl,Int.pow_succ,show sg 0=1 from rfl]
  grind
theorem det_zero_col {n c:Nat} (hc:c < n) {A:Mat} (h: ∀i,i < n→A i c=0):det n A=0:=by
 have:=det_col_lin (A:=A) (B:=A) (C:=A) (s:=0) (t:=0) hc (fun i hi=>by rw [h i hi];simp) (fun i j _ _ _=>⟨rfl,rfl⟩)
 simpa using this
theorem det_1 (A:Mat):det 1 A=A 0 0:=by simp [det,sm,sg]
theorem det_2 (A:Mat):det 2 A=A 0 0*A 1 1 - A 0 1*A 1 0:=by
 simp [det,sm,sg,mnr,up]
 omega
def rs (i:Nat) (A:Mat) (r c:Nat):Int:=det i A*A r c - sm i (fun t=>det i (rset t (A r) A)*A t c)
theorem rs_zero (i:Nat) (A:Mat) (r:Nat) {j:Nat} (hj:j < i):rs i A r j=0:=by
 unfold rs
 rw [adj_row A (A r) hj];omega
theorem block_elim (i d:Nat) (A:Mat):det i A ^ d*det (i+d) A=det i A*det d (fun a b=>rs i A (i+a) (i+b)):=by
 let E:Mat:=fun a b=>if a < i then one a b else if b < i then - det i (rset b (A a) A) else if a=b then det i A else 0
 have hE:det (i+d) E=det i A ^ d:=by
  rw [det_block d i E (fun a b ha hb _=>by simp only [E,if_pos ha,one];rw [if_neg (by omega)])]
  rw [det_congr (A:=E) (B:=one) (fun a b ha _=>by simp only [E,if_pos ha]),det_one,Int.one_mul, ← det_scal]
  exact det_congr (fun a b _ _=>by simp only [sh,E];rw [if_neg (by omega),if_neg (by omega)];simp)
 have hlow (a b:Nat) (ha:i≤a) (ha2:a < i+d):mul (i+d) E A a b=rs i A a b:=by
  unfold mul
  rw [sm_split,sm_congr (f:=fun k=>E a k*A k b) (g:=fun k=>(-1)*(det i (rset k (A a) A)*A k b)) (fun k hk=>by simp only [E];rw [if_neg (by omega),if_pos hk];grind),sm_mul]
  rw [sm_one (n:=d) (k:=a - i) (by omega) (fun k hk hne=>by simp only [E];rw [if_neg (by omega),if_neg (by omega),if_neg (by omega)];simp)]
  simp only [E]
  rw [if_neg (by omega),if_neg (by omega),if_pos (by omega),show i+(a - i)=a from by omega]
  unfold rs
  omega
 have hup (a b:Nat) (ha:a < i):mul (i+d) E A a b=A a b:=by
  unfold mul
  rw [sm_one (k:=a) (by omega) (fun k hk hne=>by simp only [E,if_pos ha,one];rw [if_neg (by omega)];simp)]
  simp [E,ha,one]
 rw [← hE, ← det_mul,det_block' d i (mul (i+d) E A) (fun a b h1 h2 h3=>by rw [hlow a b h1 h2,rs_zero i A a h3])]
 rw [det_congr (A:=mul (i+d) E A) (B:=A) (fun a b ha _=>hup a b ha)]
 congr 1
 exact det_congr (fun a b ha _=>by simp only [sh];exact hlow _ _ (by omega) (by omega))
def bord (i r c:Nat) (A:Mat):Mat:=fun a b=>A (if a < i then a else r) (if b < i then b else c)
def bm (i r c:Nat) (A:Mat):Int:=det (i+1) (bord i r c A)
theorem rs_re (i:Nat) (A B:Mat) (r c r' c':Nat) (h1: ∀a b,a < i→b < i→B a b=A a b) (h2: ∀b,b < i→B r' b=A r b) (h3: ∀a,a < i→B a c'=A a c) (h4:B r' c'=A r c):rs i B r' c'=rs i A r c:=by
 unfold rs
 rw [det_congr (A:=B) (B:=A) h1,h4]
 congr 1
 refine sm_congr (fun t ht=>?_)
 rw [h3 t ht,det_congr (A:=rset t (B r') B) (B:=rset t (A r) A) (fun a b ha hb=>by
  unfold rset
  split
  ·exact h2 b hb
  ·exact h1 a b ha hb)]
theorem bm_rs {i:Nat} {A:Mat} (hL:det i A≠0) (r c:Nat):bm i r c A=rs i A r c:=by
 have h:=block_elim i 1 (bord i r c A)
 rw [det_1,det_congr (A:=bord i r c A) (B:=A) (n:=i) (fun a b ha hb=>by simp [bord,ha,hb]),Int.pow_succ,Int.pow_zero,Int.one_mul] at h
 rw [rs_re i A (bord i r c A) r c (i+0) (i+0) (fun a b ha hb=>by simp [bord,ha,hb]) (fun b hb=>by simp [bord,hb]) (fun a ha=>by simp [bord,ha]) (by simp [bord])] at h
 exact Int.eq_of_mul_eq_mul_left hL h
theorem sylv {i:Nat} {A:Mat} (hL:det i A≠0) (r c:Nat):det i A*bm (i+1) r c A=bm i i i A*bm i r c A - bm i i c A*bm i r i A:=by
 have h:=block_elim i 2 (bord (i+1) r c A)
 rw [det_2,det_congr (A:=bord (i+1) r c A) (B:=A) (n:=i) (fun a b ha hb=>by unfold bord;rw [if_pos (by omega),if_pos (by omega)])] at h
 have q (a b r' c':Nat) (ha:(if a < i+1 then a else r)=r') (hb:(if b < i+1 then b else c)=c'):rs i (bord (i+1) r c A) a b=rs i A r' c':=
  rs_re i A (bord (i+1) r c A) r' c' a b (fun x y hx hy=>by unfold bord;rw [if_pos (by omega),if_pos (by omega)]) (fun y hy=>by unfold bord;rw [ha,if_pos (by omega)]) (fun x hx=>by unfold bord;rw [hb,if_pos (by omega)]) (by unfold bord;rw [ha,hb])
 rw [q (i+0) (i+0) i i (by simp) (by simp),q (i+1) (i+1) r c (by simp) (by simp),q (i+0) (i+1) i c (by simp) (by simp),q (i+1) (i+0) r i (by simp) (by simp)] at h
 rw [← bm_rs hL, ← bm_rs hL, ← bm_rs hL, ← bm_rs hL] at h
 have e:det i A ^ 2*det (i+2) (bord (i+1) r c A)=det i A*(det i A*bm (i+1) r c A):=by unfold bm;grind
 rw [e] at h
 exact Int.eq_of_mul_eq_mul_left hL h
def fact:Nat→Nat
 | 0=>1
 | n+1=>(n+1)*fact n
def b20 (n:Nat):Nat:=fact n*20 ^ n
theorem sm_abs {n B:Nat} {f:Nat→Int} (h: ∀i,i < n→(f i).natAbs≤B):(sm n f).natAbs≤n*B:=by
 induction n with
 | zero=>simp [sm]
 | succ n ih=>
  have h1:=ih (fun i hi=>h i (by omega))
  have h2:=h n (by omega)
  have h3:=Int.natAbs_add_le (sm n f) (f n)
  simp only [sm]
  rw [Nat.add_mul,Nat.one_mul]
  omega
theorem sg_abs (k:Nat):(sg k).natAbs=1:=by unfold sg;split <;> rfl
theorem det_abs20: ∀(n:Nat) (A:Mat),(∀i j,i < n→j < n→(A i j).natAbs≤20)→(det n A).natAbs≤b20 n:=by
 intro n
 induction n with
 | zero=>intro A _;show (1:Int).natAbs≤1;decide
 | succ n ih=>
  intro A h
  rw [det_succ]
  refine Nat.le_trans (sm_abs (B:=20*b20 n) (fun k hk=>?_)) ?_
  ·rw [Int.natAbs_mul,Int.natAbs_mul,sg_abs,Nat.one_mul]
   exact Nat.mul_le_mul (h 0 k (by omega) hk) (ih (mnr k A) (fun i j hi hj=>h _ _ (by omega) (up_lt hj)))
  ·unfold b20;rw [fact,Nat.pow_succ]
   exact Nat.le_of_eq (by grind)
def Bk (n k:Nat) (A:Mat):Prop:= ∀i j,i < n→j < n→(A i j).natAbs≤if j=k then 100 else 20
theorem det_absk: ∀(n k:Nat) (A:Mat),Bk n k A→(det n A).natAbs≤5*b20 n:=by
 intro n
 induction n with
 | zero=>intro k A _;show (1:Int).natAbs≤5*1;decide
 | succ n ih=>
  intro k A h
  rw [det_succ]
  refine Nat.le_trans (sm_abs (B:=100*b20 n) (fun c hc=>?_)) ?_
  ·rw [Int.natAbs_mul,Int.natAbs_mul,sg_abs,Nat.one_mul]
   have h0:=h 0 c (by omega) hc
   by_cases e:c=k
   ·subst e
    rw [if_pos rfl] at h0
    exact Nat.mul_le_mul h0 (det_abs20 n (mnr c A) (fun i j hi hj=>by have:=h (i+1) (up c j) (by omega) (up_lt hj);rwa [if_neg (up_ne c j)] at this))
   ·rw [if_neg e] at h0
    have:=ih (dn c k) (mnr c A) (fun i j hi hj=>by
     have:=h (i+1) (up c j) (by omega) (up_lt hj)
     unfold mnr
     by_cases q:up c j=k
     ·rw [if_pos q] at this
      rw [if_pos (by rw [← q,dn_up])];exact this
     ·rw [if_neg q] at this
      split <;> omega)
    calc (A 0 c).natAbs*(det n (mnr c A)).natAbs≤20*(5*b20 n):=Nat.mul_le_mul h0 this
     _=100*b20 n:=by omega
  ·unfold b20;rw [fact,Nat.pow_succ]
   exact Nat.le_of_eq (by grind)
theorem b20_le: ∀n,n≤5→5*b20 n≤1920000000:=by
 intro n h
 match n,h with
 | 0,_=>decide
 | 1,_=>decide
 | 2,_=>decide
 | 3,_=>decide
 | 4,_=>decide
 | 5,_=>decide
 | n+6,h=>omega
theorem bm_abs {n k:Nat} (hn:n≤5) {A:Mat} (h:Bk n k A) {i r c:Nat} (hi:i < n) (hr:r < n) (hic:i≤c) (hc:c < n): -1920000000≤bm i r c A∧bm i r c A≤1920000000:=by
 have h1:(bm i r c A).natAbs≤5*b20 (i+1):=det_absk (i+1) (if k < i then k else i) _ (fun a b ha hb=>by
  unfold bord
  have:=h (if a < i then a else r) (if b < i then b else c) (by split <;> omega) (by split <;> omega)
  refine Nat.le_trans this ?_
  grind)
 have h2:=b20_le (i+1) (by omega)
 omega
theorem prod_b {x y:Int} (hx: -1920000000≤x∧x≤1920000000) (hy: -1920000000≤y∧y≤1920000000): -3686400000000000000≤x*y∧x*y≤3686400000000000000:=by
 have h:(x*y).natAbs≤1920000000*1920000000:=by rw [Int.natAbs_mul];exact Nat.mul_le_mul (by omega) (by omega)
 omega
structure Inv (n k i:Nat) (M:Mat) (last turn:Int) (A A0:Mat):Prop where
 le:i≤n
 small:Bk n k A
 num: ∀r c,i≤r→r < n→i≤c→c < n→M r c=bm i r c A
 last_:last=det i A
 nz:last≠0
 turn_:turn=1∨turn= -1
 det_:turn*det n A=det n A0
section
variable {n k:Nat} (hn:n≤5) {A0:Mat}
include hn
theorem Inv.step {i:Nat} {M A:Mat} {last turn:Int} (h:Inv n k i M last turn A A0) (hi:i < n) (hp:M i i≠0):Inv n k (i+1) (el M i last) (M i i) turn A A0:=by
 have hL:det i A≠0:=by rw [← h.last_];exact h.nz
 have hpi:=h.num i i (Nat.le_refl _) hi (Nat.le_refl _) hi
 refine⟨by omega,h.small,fun r c hr hrn hc hcn=>?_,?_,hp,h.turn_,h.det_⟩
 ·unfold el ev
  rw [if_pos (by omega),h.num r c (by omega) hrn (by omega) hcn,hpi,h.num r i (by omega) hrn (Nat.le_refl _) hi,h.num i c (Nat.le_refl _) hi (by omega) hcn]
  have p1:=prod_b (bm_abs hn h.small hi hrn (by omega) hcn) (bm_abs hn h.small hi hi (Nat.le_refl _) hi)
  have p2:=prod_b (bm_abs hn h.small hi hrn (Nat.le_refl _) hi) (bm_abs hn h.small hi hi (by omega) hcn)
  have s:=sylv hL r c
  have e:bm i r c A*bm i i i A - bm i r i A*bm i i c A=det i A*bm (i+1) r c A:=by rw [s];grind
  have b:=bm_abs hn h.small (i:=i+1) (r:=r) (c:=c) (by omega) hrn hc hcn
  rw [w64 (x:=bm i r c A*bm i i i A) (by omega) (by omega),w64 (x:=bm i r i A*bm i i c A) (by omega) (by omega),w64 (x:=bm i r c A*bm i i i A - bm i r i A*bm i i c A) (by omega) (by omega),e,h.last_,Int.mul_tdiv_cancel_left _ hL]
  exact w64 (by omega) (by omega)
 ·rw [hpi];unfold bm
  exact det_congr (fun a b ha hb=>by
   unfold bord
   have e1:(if a < i then a else i)=a:=by split <;> omega
   have e2:(if b < i then b else i)=b:=by split <;> omega
   rw [e1,e2])
theorem Inv.none_ {i:Nat} {M A:Mat} {last turn:Int} (h:Inv n k i M last turn A A0) (hi:i < n) (hz: ∀r,i≤r→r < n→M r i=0):det n A0=0:=by
 have _h:=hn
 have hL:det i A≠0:=by rw [← h.last_];exact h.nz
 have b:=block_elim i (n - i) A
 rw [show i+(n - i)=n from by omega,det_zero_col (c:=0) (A:=fun a b=>rs i A (i+a) (i+b)) (by omega) (fun a ha=>by
  rw [← bm_rs hL,Nat.add_zero, ← h.num (i+a) i (by omega) (by omega) (Nat.le_refl _) hi];exact hz _ (by omega) (by omega)),Int.mul_zero] at b
 have:det n A=0:=by
  rcases Int.mul_eq_zero.1 b with b | b
  ·exact absurd b (Int.pow_ne_zero hL)
  ·exact b
 rw [← h.det_,this,Int.mul_zero]
theorem Inv.swap {i s:Nat} {M A:Mat} {last turn:Int} (h:Inv n k i M last turn A A0) (his:i < s) (hs:s < n):Inv n k i (swp M i s) last (wrap64 (-turn)) (swp A i s) A0:=by
 have _h:=hn
 have hsr (r:Nat) (hr:r < n):(if r=i then s else if r=s then i else r) < n:=by grind
 have hlow (a:Nat) (ha:a < i):(if a=i then s else if a=s then i else a)=a:=by rw [if_neg (by omega),if_neg (by omega)]
 have w:wrap64 (-turn)= -turn:=w64 (by have:=h.turn_;omega) (by have:=h.turn_;omega)
 refine⟨h.le,fun a b ha hb=>h.small _ _ (hsr a ha) hb,fun r c hr hrn hc hcn=>?_,?_,h.nz,by rw [w];have:=h.turn_;omega,?_⟩
 ·unfold swp
  rw [h.num _ c (by grind) (hsr r hrn) hc hcn]
  unfold bm
  refine det_congr (fun a b _ _=>?_)
  unfold bord
  by_cases ha:a < i
  ·simp only [if_pos ha];rw [hlow a ha]
  ·simp only [if_neg ha]
 ·rw [h.last_]
  exact det_congr (fun a b ha _=>by unfold swp;rw [hlow a ha])
 ·have e:=(det_form n).swap (r:=i) (q:=s) (A:=A) (B:=swp A i s) (by omega) hs (by omega) (fun j _=>⟨by unfold swp;rw [if_pos rfl],by unfold swp;rw [if_neg (by omega),if_pos rfl]⟩) (fun a b _ _ h1 h2=>by unfold swp;rw [if_neg h1,if_neg h2])
  rw [e,w, ← h.det_]
  grind
end
end Go.Proofs.Ytmpkckiifeikkaa.Bz
end
section
namespace Go.Proofs.Ytmpkckiifeikkaa.Lk
open Go.RowKit Go.Proofs.YtmpkckiifeikkaaW.PrintWords Go.Proofs.YtmpkckiifeikkaaW.PrintMore Go.Proofs.Ytmpkckiifeikkaa.Ma Go.Proofs.Ytmpkckiifeikkaa.Dt Go.Proofs.Ytmpkckiifeikkaa.Bz
theorem det_csum {n c:Nat} (hc:c < n) (B:Mat) (m:Nat) (a:Nat→Int) (v:Nat→Nat→Int):det n (cset c (fun i=>sm m (fun k=>a k*v k i)) B)=sm m (fun k=>a k*det n (cset c (v k) B)):=by
 induction m with
 | zero=>
  have:=det_cadd hc (fun _=>0) (fun _=>0) B 0 0
  simp only [sm] at*
  simpa using this
 | succ m ih=>
  simp only [sm]
  have:=det_cadd hc (fun i=>sm m (fun k=>a k*v k i)) (v m) B 1 (a m)
  simp only [Int.one_mul] at this
  rw [this,ih]
theorem det_cscale {n c:Nat} (hc:c < n) (B:Mat) (a:Int) (v:Nat→Int):det n (cset c (fun i=>a*v i) B)=a*det n (cset c v B):=by
 have:=det_csum hc B 1 (fun _=>a) (fun _=>v)
 simpa [sm] using this
theorem det_cswap {n r q:Nat} (hr:r < n) (hq:q < n) (hrq:r≠q) {A B:Mat} (h: ∀i,i < n→B i r=A i q∧B i q=A i r) (ho: ∀i j,i < n→j < n→j≠r→j≠q→B i j=A i j):det n B= - det n A:=by
 rw [← det_tr n B, ← det_tr n A]
 exact(det_form n).swap hr hq hrq (A:=tr A) (B:=tr B) (fun j hj=>h j hj) (fun i j hi hj h1 h2=>ho j i hj hi h1 h2)
theorem pluck {n i r:Nat} (hi:i < n) (hr:r < n) (hir:i≠r) (B:Mat) (x y:Nat→Int):
  det n (cset i x B)*det n (cset r y B) - det n (cset i y B)*det n (cset r x B)=det n B*det n (cset i x (cset r y B)):=by
 have e1:det n B*det n (cset i x (cset r y B))=sm n (fun t=>det n (cset t x B)*det n (cset i (fun k=>B k t) (cset r y B))):=by
  rw [← det_csum hi, ← det_cscale hi]
  refine det_congr (fun a b ha hb=>?_)
  by_cases e:b=i
  ·subst e
   show (if b=b then det n B*x a else _)=(if b=b then sm n (fun t=>det n (cset t x B)*B a t) else _)
   rw [if_pos rfl,if_pos rfl, ← adj_col B x ha]
   exact sm_congr (fun t _=>Int.mul_comm _ _)
  ·show (if b=i then _ else cset r y B a b)=(if b=i then _ else cset r y B a b)
   rw [if_neg e,if_neg e]
 rw [e1,sm_two hi hr hir]
 ·have e2:det n (cset i (fun k=>B k i) (cset r y B))=det n (cset r y B):=det_congr (fun a b _ _=>by
   simp only [cset]
   by_cases e:b=i
   ·subst e;rw [if_pos rfl,if_neg hir]
   ·rw [if_neg e])
  have e3:det n (cset i (fun k=>B k r) (cset r y B))= - det n (cset i y B):=det_cswap hi hr hir (fun a _=>by
   simp only [cset]
   simp [Ne.symm hir]) (fun a b _ _ h1 h2=>by simp only [cset];simp [h1,h2])
  rw [e2,e3]
  grind
 ·intro t ht h1 h2
  have z:det n (cset i (fun k=>B k t) (cset r y B))=0:=det_col_alt (c:=i) (d:=t) hi ht (Ne.symm h1) (fun a _=>by simp only [cset];rw [if_neg h1,if_neg h2];simp)
  rw [z,Int.mul_zero]
def bas (A:Mat) (bs:Nat→Nat):Mat:=fun i j=>A i (bs j)
def nupd (bs:Nat→Nat) (r v:Nat):Nat→Nat:=fun j=>if j=r then v else bs j
def cd (n:Nat) (A:Mat) (bs:Nat→Nat) (i c:Nat):Int:=det n (cset i (fun k=>A k c) (bas A bs))
structure Tab (n m:Nat) (A:Mat) (bs:Nat→Nat) (T:Mat) (den:Int):Prop where
 pos:0 < den
 num: ∃s:Int,(s=1∨s= -1)∧den=s*det n (bas A bs)∧ ∀i c,i < n→c < m→T i c=s*cd n A bs i c
theorem det_cset_one {n i:Nat} (hi:i < n) (v:Nat→Int):det n (cset i v one)=v i:=by
 have h:=adj_col (n:=n) one v hi
 rw [det_one,Int.one_mul,sm_one (k:=i) hi (fun t _ h=>by unfold one;rw [if_neg (Ne.symm h)];simp)] at h
 rw [← h];simp [one]
theorem bas_nupd (A:Mat) (bs:Nat→Nat) (r v:Nat):bas A (nupd bs r v)=cset r (fun k=>A k v) (bas A bs):=by
 funext i j;unfold bas nupd cset;split <;> rfl
theorem cset_twice (r:Nat) (x y:Nat→Int) (B:Mat):cset r x (cset r y B)=cset r x B:=by
 funext i j;unfold cset;split <;> rfl
theorem Tab.first {n m:Nat} {A:Mat} (h: ∀i j,i < n→j < n→A i j=if i=j then 1 else 0):Tab n m A (fun j=>j) A 1:=by
 have e: ∀i j,i < n→j < n→bas A (fun j=>j) i j=one i j:=fun i j hi hj=>by unfold bas one;exact h i j hi hj
 refine⟨by decide,1, .inl rfl,?_,fun i c hi _=>?_⟩
 ·rw [det_congr e,det_one];rfl
 ·unfold cd
  rw [det_congr (B:=cset i (fun k=>A k c) one) (fun a b ha hb=>by unfold cset;split;rfl;exact e a b ha hb),det_cset_one hi];omega
def stE (T:Mat) (den:Int) (r v i c:Nat):Int:=if i=r then T r c else Int.tdiv (T i c*T r v - T i v*T r c) den
section
variable {n m:Nat} {A:Mat} {bs:Nat→Nat} {T:Mat} {den:Int} (h:Tab n m A bs T den)
include h
theorem Tab.nz:det n (bas A bs)≠0:=by
 obtain⟨s,_,hd,_⟩:=h.num
 intro e
 have:=h.pos
 rw [hd,e,Int.mul_zero] at this
 omega
theorem Tab.cramer {k c:Nat} (hk:k < n) (hc:c < m):sm n (fun i=>A k (bs i)*T i c)=den*A k c:=by
 obtain⟨s,_,hd,hT⟩:=h.num
 have e:=adj_col (bas A bs) (fun k=>A k c) hk
 rw [hd,Int.mul_assoc, ← e, ← sm_mul]
 refine sm_congr (fun i hi=>?_)
 rw [hT i c hi hc]
 unfold cd bas
 grind
theorem Tab.stE_eq {r v i c:Nat} (hr:r < n) (hv:v < m) (hi:i < n) (hc:c < m):
  ∃s:Int,(s=1∨s= -1)∧T r v=s*det n (bas A (nupd bs r v))∧den=s*det n (bas A bs)∧(i≠r→T i c*T r v - T i v*T r c=den*(s*cd n A (nupd bs r v) i c))∧stE T den r v i c=s*cd n A (nupd bs r v) i c:=by
 obtain⟨s,hs,hd,hT⟩:=h.num
 have hss:s*s=1:=by rcases hs with rfl | rfl <;> rfl
 have key:i≠r→T i c*T r v - T i v*T r c=den*(s*cd n A (nupd bs r v) i c):=by
  intro hir
  rw [hT i c hi hc,hT r v hr hv,hT i v hi hv,hT r c hr hc,hd]
  have e:=pluck hi hr hir (bas A bs) (fun k=>A k c) (fun k=>A k v)
  unfold cd at*
  rw [bas_nupd]
  grind
 refine⟨s,hs,?_,hd,key,?_⟩
 ·rw [hT r v hr hv,bas_nupd];rfl
 ·unfold stE
  by_cases e:i=r
  ·subst e
   rw [if_pos rfl,hT i c hi hc]
   unfold cd
   rw [bas_nupd,cset_twice]
  ·rw [if_neg e,key e,Int.mul_tdiv_cancel_left _ (by have:=h.pos;omega)]
end
theorem Tab.step {n m:Nat} {A:Mat} {bs:Nat→Nat} {T T':Mat} {den:Int} (h:Tab n m A bs T den) {r v:Nat} (hr:r < n) (hv:v < m) (hp:T r v≠0)
  (hT': ∀i c,i < n→c < m→T' i c=if T r v < 0 then - stE T den r v i c else stE T den r v i c):Tab n m A (nupd bs r v) T' (if T r v < 0 then - T r v else T r v):=by
 obtain⟨s,hs,hd,hT⟩:=h.num
 have e0:T r v=s*det n (bas A (nupd bs r v)):=by rw [hT r v hr hv,bas_nupd];rfl
 have all: ∀i c,i < n→c < m→stE T den r v i c=s*cd n A (nupd bs r v) i c:=by
  intro i c hi hc
  obtain⟨s',hs',h1,h2,_,h4⟩:=h.stE_eq hr hv hi hc
  have:s'=s:=by
   have hz:=h.nz
   rw [hd] at h2
   exact(Int.eq_of_mul_eq_mul_right hz h2).symm
  rw [h4,this]
 by_cases q:T r v < 0
 ·refine⟨by rw [if_pos q];omega, -s,by omega,by rw [if_pos q,e0];grind,fun i c hi hc=>?_⟩
  rw [hT' i c hi hc,if_pos q,all i c hi hc];grind
 ·refine⟨by rw [if_neg q];omega,s,hs,by rw [if_neg q,e0],fun i c hi hc=>?_⟩
  rw [hT' i c hi hc,if_neg q,all i c hi hc]
def Small (n m:Nat) (A:Mat):Prop:= ∀i c,i < n→c < m→(A i c).natAbs≤if c+1=m then 100 else 20
theorem cd_abs {n m:Nat} (hn:n≤5) {A:Mat} (hA:Small n m A) {bs:Nat→Nat} (hb: ∀j,j < n→bs j+1 < m) {i c:Nat} (hc:c < m):(cd n A bs i c).natAbs≤1920000000:=by
 refine Nat.le_trans (det_absk n i _ (fun a b ha hb'=>?_)) (b20_le n hn)
 unfold cset
 by_cases e:b=i
 ·rw [if_pos e,if_pos e]
  have:=hA a c ha hc
  show (A a c).natAbs≤100
  split at this <;> omega
 ·rw [if_neg e,if_neg e]
  have:=hA a (bs b) ha (by have:=hb b hb';omega)
  rw [if_neg (by have:=hb b hb';omega)] at this
  exact this
theorem Tab.abs {n m:Nat} (hn:n≤5) {A:Mat} (hA:Small n m A) {bs:Nat→Nat} (hb: ∀j,j < n→bs j+1 < m) {T:Mat} {den:Int} (h:Tab n m A bs T den) {i c:Nat} (hi:i < n) (hc:c < m): -1920000000≤T i c∧T i c≤1920000000:=by
 obtain⟨s,hs,_,hT⟩:=h.num
 have:=cd_abs hn hA hb (i:=i) hc
 rw [hT i c hi hc]
 rcases hs with rfl | rfl <;> omega
theorem Tab.den_abs {n m:Nat} (hn:n≤5) {A:Mat} (hA:Small n m A) {bs:Nat→Nat} (hb: ∀j,j < n→bs j+1 < m) {T:Mat} {den:Int} (h:Tab n m A bs T den):den≤1920000000:=by
 obtain⟨s,hs,hd,_⟩:=h.num
 have:(det n (bas A bs)).natAbs≤1920000000:=by
  refine Nat.le_trans (det_absk n n _ (fun a b ha hb'=>?_)) (b20_le n hn)
  have:=hA a (bs b) ha (by have:=hb b hb';omega)
  rw [if_neg (by have:=hb b hb';omega)] at this
  rw [if_neg (by omega)]
  exact this
 rcases hs with rfl | rfl <;> omega
end Go.Proofs.Ytmpkckiifeikkaa.Lk
end
section
namespace Go.Proofs.Ytmpkckiifeikkaa.Lt
open Go.RowKit Go.Proofs.YtmpkckiifeikkaaW.PrintWords Go.Proofs.YtmpkckiifeikkaaW.PrintMore Go.Proofs.Ytmpkckiifeikkaa.Ma Go.Proofs.Ytmpkckiifeikkaa.Dt Go.Proofs.Ytmpkckiifeikkaa.Bz Go.Proofs.Ytmpkckiifeikkaa.Lk
def evT (T:Mat) (den:Int) (r v i c:Nat):Int:=wrap64 (Int.tdiv (wrap64 (wrap64 (T i c*T r v) - wrap64 (T i v*T r c))) den)
def stA (T:Mat) (den:Int) (r v:Nat):Mat:=fun i c=>if i=r then T r c else evT T den r v i c
def stT (T:Mat) (den:Int) (r v:Nat):Mat:=fun i c=>if T r v < 0 then wrap64 (- stA T den r v i c) else stA T den r v i c
def stD (T:Mat) (r v:Nat):Int:=if T r v < 0 then wrap64 (- T r v) else T r v
def kl (T:Mat) (i k:Nat) (x y:Int):List Nat→Bool
 | []=>false
 | c::l=>if T i c*y < T k c*x then true else if T k c*x < T i c*y then false else kl T i k x y l
def cols (n m:Nat):List Nat:=(m - 1)::List.range n
def bet (less:Nat→Nat→Bool) (i:Nat):Option Nat→Bool
 | none=>true
 | some j=>less i j
def lst (b:Nat→Int) (less:Nat→Nat→Bool):List Nat→Option Nat→Option Nat
 | [],o=>o
 | i::l,o=>lst b less l (if 0 < b i∧bet less i o=true then some i else o)
def idl (n:Nat):List Int:=(List.range n).map (fun(i:Nat)=>(i:Int))
structure TS where
 T:Mat
 den:Int
 bs:List Int
def TS.step (s:TS) (r v:Nat):TS:=⟨stT s.T s.den r v,stD s.T r v,s.bs.set r (v:Int)⟩
def rowB (n m:Nat) (s:TS) (b:Nat→Int):Option Nat:=lst b (fun i j=>kl s.T i j (b i) (b j) (cols n m)) (List.range n) none
def partner (n v:Nat):Nat:=if v < n then v+n else v - n
def goI (n m:Nat):Nat→TS→Nat→Nat→List (List Int)→TS × List (List Int) × Bool × Int × Int
 | 0,s,_,_,st=>(s,st,false,0,0)
 | q+1,s,v,r,st=>
  if st.length=200 then(s,st,false,0,3)
  else if s.bs.getD r 0=2*(n:Int) then(s.step r v,st++ [[(v:Int),s.bs.getD r 0]],true,0,0)
  else match rowB n m (s.step r v) (fun i=>(s.step r v).T i (partner n (s.bs.getD r 0).toNat)) with
   | none=>(s.step r v,st++ [[(v:Int),s.bs.getD r 0]],false,(partner n (s.bs.getD r 0).toNat:Nat),0)
   | some r'=>goI n m q (s.step r v) (partner n (s.bs.getD r 0).toNat) r' (st++ [[(v:Int),s.bs.getD r 0]])
def tab0 (n:Nat) (M:Mat) (cv q:Nat→Int):Mat:=fun i c=>if c < n then(if c=i then 1 else 0) else if c < 2*n then - M i (c - n) else if c=2*n then - cv i else q i
def first (n:Nat) (M:Mat) (cv q:Nat→Int):TS:=⟨tab0 n M cv q,1,idl n⟩
def feas (n:Nat) (q:Nat→Int):Bool:=(List.range n).all (fun i=>decide (0≤q i))
def runI (n:Nat) (M:Mat) (cv q:Nat→Int) (most:Nat):TS × List (List Int) × Bool × Int × Int:=
 if feas n q=true then(first n M cv q, [],true,0,0)
 else match rowB n (2*n+2) (first n M cv q) cv with
  | none=>(first n M cv q, [],false,0,0)
  | some r=>goI n (2*n+2) most (first n M cv q) (2*n) r []
theorem lst_lt {b:Nat→Int} {less:Nat→Nat→Bool} {n:Nat}: ∀ {l:List Nat} {o:Option Nat} {r:Nat},(∀i ∈ l,i < n)→(∀j,o=some j→j < n∧0 < b j)→lst b less l o=some r→r < n∧0 < b r
 | [],o,r,_,ho,h=>ho r h
 | i::l,o,r,hl,ho,h=>by
  unfold lst at h
  refine lst_lt (fun j hj=>hl j (List.mem_cons_of_mem _ hj)) (fun j hj=>?_) h
  by_cases c:0 < b i∧bet less i o=true
  ·rw [if_pos c] at hj
   cases hj
   exact⟨hl i List.mem_cons_self,c.1⟩
  ·rw [if_neg c] at hj
   exact ho j hj
theorem lst_none {b:Nat→Int} {less:Nat→Nat→Bool}: ∀ {l:List Nat} {o:Option Nat},lst b less l o=none→o=none∧ ∀i ∈ l,b i≤0
 | [],o,h=>⟨h,fun i hi=>by cases hi⟩
 | i::l,o,h=>by
  unfold lst at h
  obtain⟨h1,h2⟩:=lst_none h
  by_cases c:0 < b i∧bet less i o=true
  ·rw [if_pos c] at h1;cases h1
  ·rw [if_neg c] at h1
   subst h1
   refine⟨rfl,fun k hk=>?_⟩
   rcases List.mem_cons.1 hk with rfl | hk
   ·simp [bet] at c;omega
   ·exact h2 k hk
theorem rowB_some {n m:Nat} {s:TS} {b:Nat→Int} {r:Nat} (h:rowB n m s b=some r):r < n∧0 < b r:=lst_lt (fun i hi=>List.mem_range.1 hi) (fun j hj=>by cases hj) h
theorem rowB_none {n m:Nat} {s:TS} {b:Nat→Int} (h:rowB n m s b=none): ∀i,i < n→b i≤0:=fun i hi=>(lst_none h).2 i (List.mem_range.2 hi)
structure Ok (n m:Nat) (A:Mat) (s:TS):Prop where
 tab:Tab n m A (fun j=>(s.bs.getD j 0).toNat) s.T s.den
 len:s.bs.length=n
 nn: ∀j,j < n→0≤s.bs.getD j 0
 lt: ∀j,j < n→(s.bs.getD j 0).toNat+1 < m
section
variable {n m:Nat} (hn:n≤5) {A:Mat} (hA:Small n m A) {s:TS} (h:Ok n m A s)
include hn hA h
theorem Ok.abs {i c:Nat} (hi:i < n) (hc:c < m): -1920000000≤s.T i c∧s.T i c≤1920000000:=h.tab.abs hn hA h.lt hi hc
theorem Ok.den_le:0 < s.den∧s.den≤1920000000:=⟨h.tab.pos,h.tab.den_abs hn hA h.lt⟩
theorem Ok.stE_abs {r v i c:Nat} (hr:r < n) (hv:v+1 < m) (hi:i < n) (hc:c < m): -1920000000≤stE s.T s.den r v i c∧stE s.T s.den r v i c≤1920000000:=by
 obtain⟨g,hg,_,_,_,h4⟩:=h.tab.stE_eq (v:=v) hr (by omega) hi hc
 have:=cd_abs hn hA (bs:=nupd (fun j=>(s.bs.getD j 0).toNat) r v) (fun j hj=>by unfold nupd;split;exact hv;exact h.lt j hj) (i:=i) hc
 rw [h4]
 rcases hg with rfl | rfl <;> omega
theorem Ok.stA_eq {r v i c:Nat} (hr:r < n) (hv:v+1 < m) (hi:i < n) (hc:c < m):stA s.T s.den r v i c=stE s.T s.den r v i c:=by
 unfold stA stE
 by_cases e:i=r
 ·rw [if_pos e,if_pos e]
 ·rw [if_neg e,if_neg e]
  unfold evT
  have b1:=prod_b (h.abs hn hA hi hc) (h.abs hn hA hr (c:=v) (by omega))
  have b2:=prod_b (h.abs hn hA hi (c:=v) (by omega)) (h.abs hn hA hr hc)
  have b3:=h.stE_abs hn hA hr hv hi hc
  unfold stE at b3
  rw [if_neg e] at b3
  rw [w64 (x:=s.T i c*s.T r v) (by omega) (by omega),w64 (x:=s.T i v*s.T r c) (by omega) (by omega),w64 (x:=s.T i c*s.T r v - s.T i v*s.T r c) (by omega) (by omega)]
  exact w64 (by omega) (by omega)
theorem Ok.step {r v:Nat} (hr:r < n) (hv:v+1 < m) (hp:s.T r v≠0):Ok n m A (s.step r v):=by
 have hb:=h.abs hn hA hr (c:=v) (by omega)
 have hset (j:Nat):((s.bs.set r (v:Int)).getD j 0)=if j=r then(v:Int) else s.bs.getD j 0:=by
  have hl:=h.len
  rw [List.getD_eq_getElem?_getD,List.getElem?_set]
  by_cases e:r=j
  ·subst e;rw [if_pos rfl,if_pos (by omega),if_pos rfl];rfl
  ·rw [if_neg e,if_neg (Ne.symm e),List.getD_eq_getElem?_getD]
 have hbs:(fun j=>((s.bs.set r (v:Int)).getD j 0).toNat)=nupd (fun j=>(s.bs.getD j 0).toNat) r v:=by
  funext j
  rw [hset j];unfold nupd
  split <;> simp
 refine⟨?_,by show (s.bs.set r (v:Int)).length=n;rw [List.length_set];exact h.len,fun j hj=>?_,fun j hj=>?_⟩
 ·show Tab n m A (fun j=>((s.bs.set r (v:Int)).getD j 0).toNat) (stT s.T s.den r v) (stD s.T r v)
  rw [hbs]
  have e:stD s.T r v=if s.T r v < 0 then - s.T r v else s.T r v:=by
   unfold stD
   split
   ·exact w64 (by omega) (by omega)
   ·rfl
  rw [e]
  refine h.tab.step hr (by omega) hp (fun i c hi hc=>?_)
  have b:=h.stE_abs hn hA hr hv hi hc
  unfold stT
  rw [h.stA_eq hn hA hr hv hi hc]
  split
  ·exact w64 (by omega) (by omega)
  ·rfl
 ·show 0≤(s.bs.set r (v:Int)).getD j 0
  rw [hset j]
  split
  ·omega
  ·exact h.nn j hj
 ·show ((s.bs.set r (v:Int)).getD j 0).toNat+1 < m
  rw [hset j]
  split
  ·simp;exact hv
  ·exact h.lt j hj
end
theorem first_small {n:Nat} {M:Mat} {cv q:Nat→Int} (hM: ∀i k,i < n→k < n→(M i k).natAbs≤20) (hc: ∀i,i < n→(cv i).natAbs≤20) (hq: ∀i,i < n→(q i).natAbs≤100):Small n (2*n+2) (tab0 n M cv q):=by
 intro i c hi hcm
 unfold tab0
 by_cases e1:c < n
 ·rw [if_pos e1,if_neg (show ¬ c+1=2*n+2 by omega)]
  split <;> decide
 ·rw [if_neg e1]
  by_cases e2:c < 2*n
  ·rw [if_pos e2,if_neg (by omega)]
   have:=hM i (c - n) hi (by omega)
   rw [Int.natAbs_neg];exact this
  ·rw [if_neg e2]
   by_cases e3:c=2*n
   ·rw [if_pos e3,if_neg (by omega)]
    rw [Int.natAbs_neg];exact hc i hi
   ·rw [if_neg e3,if_pos (by omega)]
    exact hq i hi
theorem first_ok {n:Nat} {M:Mat} {cv q:Nat→Int}:Ok n (2*n+2) (tab0 n M cv q) (first n M cv q):=by
 have g: ∀j,j < n→(idl n).getD j 0=(j:Int):=fun j hj=>by simp [idl,hj]
 refine⟨?_,by simp [first,idl],fun j hj=>?_,fun j hj=>?_⟩
 ·have h:=Tab.first (n:=n) (m:=2*n+2) (A:=tab0 n M cv q) (fun i j hi hj=>by unfold tab0;rw [if_pos hj];by_cases e:i=j <;> simp [e,eq_comm])
  refine⟨Int.one_pos,?_⟩
  obtain⟨s,hs,hd,hT⟩:=h.num
  have e: ∀i j,i < n→j < n→bas (tab0 n M cv q) (fun j=>((first n M cv q).bs.getD j 0).toNat) i j=bas (tab0 n M cv q) (fun j=>j) i j:=fun i j hi hj=>by
   unfold bas
   show tab0 n M cv q i ((idl n).getD j 0).toNat=_
   rw [g j hj];rfl
  refine⟨s,hs,by rw [det_congr e];exact hd,fun i c hi hc=>?_⟩
  rw [show (first n M cv q).T i c=tab0 n M cv q i c from rfl,hT i c hi hc]
  unfold cd
  congr 1
  exact det_congr (fun a b ha hb=>by unfold cset;split;rfl;exact(e a b ha hb).symm)
 ·show 0≤(idl n).getD j 0
  rw [g j hj];omega
 ·show ((idl n).getD j 0).toNat+1 < 2*n+2
  rw [g j hj];simp;omega
end Go.Proofs.Ytmpkckiifeikkaa.Lt
end
section
namespace Go.Proofs.Ytmpkckiifeikkaa.Lq
open Go.RowKit Go.Proofs.YtmpkckiifeikkaaW.PrintWords Go.Proofs.YtmpkckiifeikkaaW.PrintLast Go.Proofs.YtmpkckiifeikkaaW.PrintMore Go.Proofs.Ytmpkckiifeikkaa.Pr Go.Proofs.Ytmpkckiifeikkaa.Ma Go.Proofs.Ytmpkckiifeikkaa.Dt Go.Proofs.Ytmpkckiifeikkaa.Lk Go.Proofs.Ytmpkckiifeikkaa.Lt
theorem nd_ {P:Program} {ops:Array Oper} {Q:Exit→Act→World→Prop} {md:Region.Mode} {S:World→Prop} {ds:List Nat} {fuel:Nat} {l:Array Bool} {a a':Act} {w:World} {dst:Option Tmp} {v:Value} (N:Tmp) (h:wpAnyLast P md ops Q S ds fuel l a' w) (hN:dst=some N:=by rfl) (ha:a.put (some N) v=a':=by(simp only [Act.put,List.setIfInBounds_toArray,List.set_cons_zero,List.set_cons_succ,i64_w,i32_w];rfl)):wpAnyLast P md ops Q S ds fuel l (a.put dst v) w:=by
 subst hN;rw [ha];exact h
structure Out (w w':World) (a b:Nat):Prop where
 os:w'.os=w.os
 tape:w'.tape=w.tape
 output:w'.output=w.output
 size:w.heap.size≤w'.heap.size
 same: ∀k,k < w.heap.size→k < a∨b≤k→w'.heap[k]?=w.heap[k]?
theorem Out.below {w w':World} (h:Below w.heap.size w w') (a b:Nat):Out w w' a b:=⟨h.os,h.tape,h.output,h.size,fun k hk _=>h.block k hk⟩
theorem Out.refl (w:World) (a b:Nat):Out w w a b:=⟨rfl,rfl,rfl,Nat.le_refl _,fun _ _ _=>rfl⟩
theorem Out.drew (w:World) (a b:Nat):Out w w.drew a b:=⟨rfl,rfl,rfl,Nat.le_refl _,fun _ _ _=>rfl⟩
theorem Out.trans {w w1 w2:World} {a b:Nat} (h:Out w w1 a b) (k:Out w1 w2 a b):Out w w2 a b:=
 ⟨k.os.trans h.os,k.tape.trans h.tape,k.output.trans h.output,Nat.le_trans h.size k.size,fun i hi hn=>(k.same i (Nat.lt_of_lt_of_le hi h.size) hn).trans (h.same i hi hn)⟩
theorem Out.set (w:World) {g:Nat} (i:Nat) (u:Value) {a b:Nat} (h:a≤g∧g < b):Out w (w.setCell ⟨g,i,none⟩ u) a b:=
 ⟨rfl,rfl,rfl,by simp,fun k _ hk=>Below.heap_setCell w ⟨g,i,none⟩ u k (by simp;omega)⟩
theorem Out.mono {w w':World} {a b c d:Nat} (h:Out w w' a b) (h1:c≤a) (h2:b≤d):Out w w' c d:=⟨h.os,h.tape,h.output,h.size,fun k hk hn=>h.same k hk (by omega)⟩
theorem Out.blk {w w':World} {a b g:Nat} {o:Obj} (h:Out w w' a b) (hg:w.heap[g]?=some o) (hn:g < a∨b≤g):w'.heap[g]?=some o:=(h.same g (blk_lt hg) hn).trans hg
theorem Out.toBelow {w0 w w':World} {a b:Nat} (h:Out w w' a b) (h0:Below w0.heap.size w0 w) (ha:w0.heap.size≤a):Below w0.heap.size w0 w':=
 h0.trans ⟨h.os,h.tape,h.output,h.size,fun k hk=>h.same k (Nat.lt_of_lt_of_le hk h0.size) (by omega)⟩
theorem Out.cell {w w':World} {a b:Nat} (h:Out w w' a b) {p:Addr} {v:Value} (hp:w.cell? p=some v) (hn:p.block < a∨b≤p.block):w'.cell? p=some v:=by
 have:=World.block_lt_of_cell? w _ hp
 rw [← hp]
 unfold World.cell?
 rw [h.same _ this hn]
theorem Out.froz {w w':World} {a b:Nat} (h:Out w w' a b) {p:Addr} (hl:p.block < w.heap.size) (hn:p.block < a∨b≤p.block):w'.frozen? p=w.frozen? p:=by
 unfold World.frozen?
 rw [h.same _ hl hn]
def mset (M:Mat) (r c:Nat) (x:Int):Mat:=fun i j=>if i=r∧j=c then x else M i j
structure Tm (w:World) (lo hi t g gb n m cg cb:Nat) (b cp:Nat→Nat) (s:TS):Prop where
 size:hi≤w.heap.size
 tR:lo≤t∧t < hi
 gR:lo≤g∧g < hi
 bR:lo≤gb∧gb < hi
 rR: ∀j,j < n→lo≤b j∧b j < hi
 inj: ∀i j,i < n→j < n→b i=b j→i=j
 ne: ∀j,j < n→b j≠g∧b j≠t∧b j≠gb
 tg:t≠g
 tb:t≠gb
 gg:g≠gb
 cap: ∀j,j < n→m≤cp j
 len:s.bs.length=n
 nc:n≤cg∧n≤cb
 h0:w.cell? ⟨t,0,none⟩=some (.slice (some ⟨g,0,none⟩) n cg)
 h1:w.cell? ⟨t,1,none⟩=some (.int .i64 s.den)∧w.frozen? ⟨t,1,none⟩=false
 h2:w.cell? ⟨t,2,none⟩=some (.slice (some ⟨gb,0,none⟩) n cb)
 h3:w.cell? ⟨t,3,none⟩=some (.int .i64 n)
 og: ∀j,j < n→w.cell? ⟨g,j,none⟩=some (.slice (some ⟨b j,0,none⟩) m (cp j))
 ob: ∀j c,j < n→c < m→w.cell? ⟨b j,c,none⟩=some (.int .i64 (s.T j c))∧w.frozen? ⟨b j,c,none⟩=false
 oq: ∀j,j < n→w.cell? ⟨gb,j,none⟩=some (.int .i64 (s.bs.getD j 0))∧w.frozen? ⟨gb,j,none⟩=false
theorem lt_of_cell {w:World} {p:Addr} {v:Value} (h:w.cell? p=some v):p.block < w.heap.size:=World.block_lt_of_cell? w _ h
theorem cset_same {w:World} {p:Addr} {u v:Value} (h:w.cell? p=some u):(w.setCell p v).cell? p=some v:=World.cell?_setCell_same w p v h
theorem cset_other {w:World} {p q:Addr} {v:Value} (h:p≠q):(w.setCell p v).cell? q=w.cell? q:=World.cell?_setCell_other w p q v h
theorem fset {w:World} {p q:Addr} {v:Value}:(w.setCell p v).frozen? q=w.frozen? q:=World.frozen?_setCell w p q v
theorem cset_blk {w:World} {g i h j:Nat} {v:Value} (e:g≠h):(w.setCell ⟨g,i,none⟩ v).cell? ⟨h,j,none⟩=w.cell? ⟨h,j,none⟩:=cset_other (fun q=>e (congrArg Addr.block q))
theorem cset_off {w:World} {g i h j:Nat} {v:Value} (e:i≠j):(w.setCell ⟨g,i,none⟩ v).cell? ⟨h,j,none⟩=w.cell? ⟨h,j,none⟩:=cset_other (fun q=>e (congrArg Addr.off q))
theorem add_off (g i j:Nat):(⟨g,i,none⟩:Addr).add j=⟨g,i+j,none⟩:=by unfold Addr.add;split <;> simp_all
def rowN (T:Mat) (i m:Nat):List Int:=(List.range m).map (T i)
theorem rowN_len (T:Mat) (i m:Nat):(rowN T i m).length=m:=by simp [rowN]
section
variable {w w':World} {lo hi t g gb n m cg cb:Nat} {b cp:Nat→Nat} {s:TS} (h:Tm w lo hi t g gb n m cg cb b cp s)
include h
theorem Tm.mv {x y:Nat} (F:Out w w' x y) (hd:hi≤x∨y≤lo):Tm w' lo hi t g gb n m cg cb b cp s:=by
 have ht:t < x∨y≤t:=by have:=h.tR;omega
 have hg:g < x∨y≤g:=by have:=h.gR;omega
 have hq:gb < x∨y≤gb:=by have:=h.bR;omega
 have hb: ∀j,j < n→b j < x∨y≤b j:=fun j hj=>by have:=h.rR j hj;omega
 have hs:=h.size
 have sz:=F.size
 exact⟨by omega,h.tR,h.gR,h.bR,h.rR,h.inj,h.ne,h.tg,h.tb,h.gg,h.cap,h.len,h.nc,F.cell h.h0 ht,⟨F.cell h.h1.1 ht,(F.froz (lt_of_cell h.h1.1) ht).trans h.h1.2⟩,F.cell h.h2 ht,F.cell h.h3 ht,
  fun j hj=>F.cell (h.og j hj) hg,fun j c hj hc=>⟨F.cell (h.ob j c hj hc).1 (hb j hj),(F.froz (lt_of_cell (h.ob j c hj hc).1) (hb j hj)).trans (h.ob j c hj hc).2⟩,
  fun j hj=>⟨F.cell (h.oq j hj).1 hq,(F.froz (lt_of_cell (h.oq j hj).1) hq).trans (h.oq j hj).2⟩⟩
theorem Tm.mvB (hb:Below w.heap.size w w'):Tm w' lo hi t g gb n m cg cb b cp s:=h.mv (Out.below hb 0 0) (.inr (Nat.zero_le _))
theorem Tm.congr {s':TS} (e: ∀i j,i < n→j < m→s.T i j=s'.T i j) (e2:s'.den=s.den) (e3:s'.bs=s.bs):Tm w lo hi t g gb n m cg cb b cp s':=
 ⟨h.size,h.tR,h.gR,h.bR,h.rR,h.inj,h.ne,h.tg,h.tb,h.gg,h.cap,by rw [e3];exact h.len,h.nc,h.h0,by rw [e2];exact h.h1,h.h2,h.h3,h.og,fun j c hj hc=>by rw [← e j c hj hc];exact h.ob j c hj hc,fun j hj=>by rw [e3];exact h.oq j hj⟩
theorem Tm.put {r c:Nat} (hr:r < n) (hc:c < m) (x:Int):Tm (w.setCell ⟨b r,c,none⟩ (.int .i64 x)) lo hi t g gb n m cg cb b cp ⟨mset s.T r c x,s.den,s.bs⟩:=by
 have hn:=h.ne r hr
 refine⟨by simpa using h.size,h.tR,h.gR,h.bR,h.rR,h.inj,h.ne,h.tg,h.tb,h.gg,h.cap,h.len,h.nc,(cset_blk hn.2.1).trans h.h0,⟨(cset_blk hn.2.1).trans h.h1.1,fset.trans h.h1.2⟩,(cset_blk hn.2.1).trans h.h2,(cset_blk hn.2.1).trans h.h3,fun j hj=>(cset_blk hn.1).trans (h.og j hj),fun j d hj hd=>⟨?_,fset.trans (h.ob j d hj hd).2⟩,fun j hj=>⟨(cset_blk hn.2.2).trans (h.oq j hj).1,fset.trans (h.oq j hj).2⟩⟩
 show World.cell? _ _=some (Value.int .i64 (mset s.T r c x j d))
 unfold mset
 by_cases e:j=r∧d=c
 ·obtain⟨rfl,rfl⟩:=e
  rw [if_pos ⟨rfl,rfl⟩]
  exact cset_same (h.ob j d hj hd).1
 ·rw [if_neg e,cset_other (fun q=>e ⟨(h.inj r j hr hj (congrArg Addr.block q)).symm,(congrArg Addr.off q).symm⟩)]
  exact(h.ob j d hj hd).1
theorem Tm.putD (x:Int):Tm (w.setCell ⟨t,1,none⟩ (.int .i64 x)) lo hi t g gb n m cg cb b cp ⟨s.T,x,s.bs⟩:=
 ⟨by simpa using h.size,h.tR,h.gR,h.bR,h.rR,h.inj,h.ne,h.tg,h.tb,h.gg,h.cap,h.len,h.nc,(cset_off (by decide)).trans h.h0,⟨cset_same h.h1.1,fset.trans h.h1.2⟩,(cset_off (by decide)).trans h.h2,(cset_off (by decide)).trans h.h3,fun j hj=>(cset_blk h.tg).trans (h.og j hj),fun j d hj hd=>⟨(cset_blk (Ne.symm (h.ne j hj).2.1)).trans (h.ob j d hj hd).1,fset.trans (h.ob j d hj hd).2⟩,fun j hj=>⟨(cset_blk h.tb).trans (h.oq j hj).1,fset.trans (h.oq j hj).2⟩⟩
theorem Tm.putB {r:Nat} (hr:r < n) (x:Int):Tm (w.setCell ⟨gb,r,none⟩ (.int .i64 x)) lo hi t g gb n m cg cb b cp ⟨s.T,s.den,s.bs.set r x⟩:=by
 refine⟨by simpa using h.size,h.tR,h.gR,h.bR,h.rR,h.inj,h.ne,h.tg,h.tb,h.gg,h.cap,by simpa using h.len,h.nc,(cset_blk (Ne.symm h.tb)).trans h.h0,⟨(cset_blk (Ne.symm h.tb)).trans h.h1.1,fset.trans h.h1.2⟩,(cset_blk (Ne.symm h.tb)).trans h.h2,(cset_blk (Ne.symm h.tb)).trans h.h3,fun j hj=>(cset_blk (Ne.symm h.gg)).trans (h.og j hj),fun j d hj hd=>⟨(cset_blk (Ne.symm (h.ne j hj).2.2)).trans (h.ob j d hj hd).1,fset.trans (h.ob j d hj hd).2⟩,fun j hj=>⟨?_,fset.trans (h.oq j hj).2⟩⟩
 show World.cell? _ _=some (Value.int .i64 ((s.bs.set r x).getD j 0))
 rw [List.getD_eq_getElem?_getD,List.getElem?_set]
 by_cases e:r=j
 ·subst e
  rw [if_pos rfl,if_pos (by rw [h.len];exact hr)]
  exact cset_same (h.oq r hr).1
 ·rw [if_neg e,cset_off e,(h.oq j hj).1,List.getD_eq_getElem?_getD]
theorem Tm.C {j:Nat} (hj:j < n) (k:Nat) (hk:k≤m) (hm:m≤1099511627776):Kd.C (Kd.int .i64) w (some ⟨b j,0,none⟩) (rowN s.T j k).length (rowN s.T j k):=by
 have hl:=rowN_len s.T j k
 refine⟨rfl,by rw [hl];omega,fun _=>⟨_,rfl,fun c p hp=>?_⟩⟩
 have hc:c < k:=by have:=(List.getElem?_eq_some_iff.1 hp).1;omega
 have hpe:p=s.T j c:=by
  rw [rowN,List.getElem?_map,List.getElem?_range hc] at hp
  exact(Option.some.inj hp).symm
 subst hpe
 refine⟨[.int .i64 (s.T j c)],rfl,rfl,fun u v hv=>?_⟩
 have hu:u=0:=by cases u with
  | zero=>rfl
  | succ u=>simp at hv
 subst hu
 have hv:Value.int .i64 (s.T j c)=v:=by simpa using hv
 rw [← hv]
 have e:(⟨b j,0,none⟩:Addr).add (c*(Kd.int .i64).sz+0)=⟨b j,c,none⟩:=by
  show (⟨b j,0,none⟩:Addr).add (c*1+0)=_
  rw [Nat.mul_one,Nat.add_zero,add_off];try rw [Nat.zero_add]
 rw [e];exact(h.ob j c hj (by omega)).1
end
end Go.Proofs.Ytmpkckiifeikkaa.Lq
end
section
namespace Go.Proofs.Ytmpkckiifeikkaa.Lq
open Go.RowKit Go.Proofs.YtmpkckiifeikkaaW.PrintWords Go.Proofs.YtmpkckiifeikkaaW.PrintLast Go.Proofs.YtmpkckiifeikkaaW.PrintMore Go.Proofs.Ytmpkckiifeikkaa.Pr Go.Proofs.Ytmpkckiifeikkaa.Ma Go.Proofs.Ytmpkckiifeikkaa.Dt Go.Proofs.Ytmpkckiifeikkaa.Lk Go.Proofs.Ytmpkckiifeikkaa.Lt
theorem infoI:(Try.prog.info? 3).map (fun i=>(i.zero,i.size,i.bytes))=some (some (.int .i64 0),1,8):=by kernel_rfl
structure Nt (w wr:World) (g6 n:Nat) (u0 u2:Value) (L:List (List Int)) (Q:List Int):Prop where
 below:Below w.heap.size w wr
 g:w.heap.size≤g6
 blk:wr.heap[g6]?=some (.cells #[u0, .int .i64 1,u2, .int .i64 n] 110 (0,0))
 S:Kd.S (Kd.slice 2 (Kd.int .i64)) 23 wr w.heap.size (fun _=>True) u0 L
 R:Kd.R (Kd.int .i64) 3 wr w.heap.size (fun _=>True) u2 Q
structure Nr (w wr:World) (g6 n:Nat) (u0 u2:Value) (L:List (List Int)) (Q:List Int) (v8:Value) (X:List Int):Prop where
 below:Below w.heap.size w wr
 g:w.heap.size≤g6
 blk:wr.heap[g6]?=some (.cells #[u0, .int .i64 1,u2, .int .i64 n] 110 (0,0))
 S:Kd.S (Kd.slice 2 (Kd.int .i64)) 23 wr w.heap.size (fun k=>True∧some k≠v8.ownBlock) u0 L
 R:Kd.R (Kd.int .i64) 3 wr w.heap.size (fun _=>True) u2 Q
 X:Kd.R (Kd.int .i64) 2 wr w.heap.size (fun _=>True) v8 X
section
variable {w wr w1:World} {g6 n:Nat} {u0 u2 v8 v1:Value} {L:List (List Int)} {Q X Y:List Int}
theorem Nt.mv (h:Nt w wr g6 n u0 u2 L Q) (hb:Below wr.heap.size wr w1):Nt w w1 g6 n u0 u2 L Q:=
 ⟨below_step h.below hb,h.g,blk_below h.blk hb,Kd.S_below h.S hb,Kd.R_below h.R hb⟩
theorem Nr.mv (h:Nr w wr g6 n u0 u2 L Q v8 X) (hb:Below wr.heap.size wr w1):Nr w w1 g6 n u0 u2 L Q v8 X:=
 ⟨below_step h.below hb,h.g,blk_below h.blk hb,Kd.S_below h.S hb,Kd.R_below h.R hb,Kd.R_below h.X hb⟩
theorem Nr.new (h:Nt w wr g6 n u0 u2 L Q) (hb:Below wr.heap.size wr w1) (hX:Kd.R (Kd.int .i64) 2 w1 wr.heap.size (fun _=>True) v8 X):Nr w w1 g6 n u0 u2 L Q v8 X:=
 ⟨below_step h.below hb,h.g,blk_below h.blk hb,Kd.S_elder' h.S (Kd.R_base hX) hb,Kd.R_below h.R hb,Kd.R_lower hX h.below.size⟩
theorem Nr.grow (h:Nr w wr g6 n u0 u2 L Q v8 X) (hb:Below w.heap.size w w1) (hg:wr.grownBy w1 v8.ownBlock) (hat:v1.ownBlock=v8.ownBlock∨ ∃b,v1.ownBlock=some b∧wr.heap.size≤b) (hX:Kd.R (Kd.int .i64) 2 w1 w.heap.size (fun _=>True) v1 Y):Nr w w1 g6 n u0 u2 L Q v1 Y:=
 ⟨hb,h.g,blk_grown h.blk hg (Kd.R_ne h.X h.blk (by decide)),Kd.S_after h.S hg hat,Kd.R_over' h.R (Kd.R_typed h.X) (by decide) hg,hX⟩
theorem Nr.put {g8 c l:Nat} (h:Nr w wr g6 n u0 u2 L Q (.slice (some ⟨g8,0,none⟩) l c) X) (j:Nat) (x:Int):Nr w (wr.setCell ⟨g8,j,none⟩ (.int .i64 x)) g6 n u0 u2 L Q (.slice (some ⟨g8,0,none⟩) l c) (X.set j x):=by
 have hp:=Kd.R_putg h.X (j:Int) x
 rw [Int.toNat_natCast] at hp
 exact h.grow (h.below.setCell (Kd.R_base h.X g8 (by simp [Value.ownBlock])) _) hp.2 (.inl rfl) hp.1
theorem tset (hblk:wr.heap[g6]?=some (.cells #[u0, .int .i64 1,u2, .int .i64 n] 110 (0,0))) (j:Nat) (v:Value): ∀k,k≠g6→(wr.setCell ⟨g6,j,none⟩ v).heap[k]?=wr.heap[k]?:=fun k hk=>Below.heap_setCell wr ⟨g6,j,none⟩ v k (by simp;exact hk)
theorem Nt.rows {u:Value} (hb:Below w.heap.size w wr) (hg:w.heap.size≤g6) (hblk:wr.heap[g6]?=some (.cells #[u0, .int .i64 1,u2, .int .i64 n] 110 (0,0)))
  (hS:Kd.S (Kd.slice 2 (Kd.int .i64)) 23 wr w.heap.size (fun _=>True) u L) (hR:Kd.R (Kd.int .i64) 3 wr w.heap.size (fun _=>True) u2 Q):Nt w (wr.setCell ⟨g6,0,none⟩ u) g6 n u u2 L Q:=by
 have hst:=tset hblk 0 u
 refine⟨hb.setCell hg _,hg,blk_put hblk 0 u rfl,?_,?_⟩
 ·refine Kd.S_mono (Kd.S_step (Kd.S_bound hS) (fun k hk hlt=>hst k (fun e=>?_))) (fun _ _=>trivial)
  obtain⟨_,_,_,q,hq,cells,hc⟩:=hk
  rw [e,hblk] at hc
  injection hc with hc;injection hc with _ ht _
  subst ht
  revert hq;decide
 ·refine Kd.R_mono (Kd.R_step (Kd.R_bound hR) (fun k hk hlt=>hst k (fun e=>?_))) (fun _ _=>trivial)
  obtain⟨_,_,_,q,hq,cells,hc⟩:=hk
  rw [e,hblk] at hc
  injection hc with hc;injection hc with _ ht _
  subst ht
  revert hq;decide
theorem Nt.basis {u:Value} (hb:Below w.heap.size w wr) (hg:w.heap.size≤g6) (hblk:wr.heap[g6]?=some (.cells #[u0, .int .i64 1,u2, .int .i64 n] 110 (0,0)))
  (hS:Kd.S (Kd.slice 2 (Kd.int .i64)) 23 wr w.heap.size (fun _=>True) u0 L) (hR:Kd.R (Kd.int .i64) 3 wr w.heap.size (fun _=>True) u Q):Nt w (wr.setCell ⟨g6,2,none⟩ u) g6 n u0 u L Q:=by
 have hst:=tset hblk 2 u
 refine⟨hb.setCell hg _,hg,blk_put hblk 2 u rfl,?_,?_⟩
 ·refine Kd.S_mono (Kd.S_step (Kd.S_bound hS) (fun k hk hlt=>hst k (fun e=>?_))) (fun _ _=>trivial)
  obtain⟨_,_,_,q,hq,cells,hc⟩:=hk
  rw [e,hblk] at hc
  injection hc with hc;injection hc with _ ht _
  subst ht
  revert hq;decide
 ·refine Kd.R_mono (Kd.R_step (Kd.R_bound hR) (fun k hk hlt=>hst k (fun e=>?_))) (fun _ _=>trivial)
  obtain⟨_,_,_,q,hq,cells,hc⟩:=hk
  rw [e,hblk] at hc
  injection hc with hc;injection hc with _ ht _
  subst ht
  revert hq;decide
end
theorem S_over' {α:Type} {d:Kd α} {e e' base:Nat} {ok:Nat→Prop} {W w1:World} {u v:Value} {xs:List α} (h:Kd.S d e W base ok u xs) (hty: ∀k,v.ownBlock=some k→ ∃cells,W.heap[k]?=some (.cells cells e' (0,0))) (ht: ∀q,q ∈ e::d.E→q≠e') (hg:W.grownBy w1 v.ownBlock):Kd.S d e w1 base ok u xs:=
 Kd.S_mono (Kd.S_step (Kd.S_bound h) (fun k hk hlt=>hg.block k hlt (fun e1=>by
  obtain⟨_,_,_,q,hq,cells,hc⟩:=hk
  obtain⟨cells',hc'⟩:=hty k e1.symm
  rw [hc] at hc'
  injection hc' with h1
  injection h1 with _ h2 _
  exact ht q hq h2))) (fun _ hk=>hk.1)
def enL (l:List (List Int)):Mat:=fun i j=>(l.getD i []).getD j 0
theorem Nt.done {w wr:World} {g6 n m:Nat} {u0 u2:Value} {L:List (List Int)} {Q:List Int} (h:Nt w wr g6 n u0 u2 L Q) (hL:L.length=n) (hQ:Q.length=n) (hn:0 < n) (hm:0 < m) (hr: ∀x ∈ L,x.length=m):
  ∃g gb cg cb b cp,Tm wr w.heap.size wr.heap.size g6 g gb n m cg cb b cp ⟨enL L,1,Q⟩:=by
 subst hL
 obtain⟨g,cap,hu0,hg0,hg1,cells,hgc⟩:=Kd.S_form h.S hn
 obtain⟨gb,cb,hu2,hq0,hq1,cellsq,hqc⟩:=Kd.R_form h.R (by omega)
 have hrd:=Kd.S_reads' (hu0 ▸ h.S)
 have hrq:=Kd.R_reads' (hu2 ▸ h.R)
 have hblk:=h.blk
 obtain⟨f,h0,hO⟩:=Kd.S_bound (hu0 ▸ h.S)
 obtain⟨A,c,hv,hc,_,_,hread⟩:=hO.reads
 injection hv with hA _ _
 subst hA
 rw [List.length_zipIdx] at hread
 obtain⟨ad,had,hj⟩:=hread hn
 injection had with had
 subst had
 have key: ∀j, ∃p:Nat × Nat,j < L.length→wr.cell? ⟨g,j,none⟩=some (.slice (some ⟨p.1,0,none⟩) m p.2)∧m≤p.2∧w.heap.size≤p.1∧f p.1=j∧p.1≠g∧(∃cs,wr.heap[p.1]?=some (.cells cs 2 (0,0)))∧ ∀d,d < m→wr.cell? ⟨p.1,d,none⟩=some (.int .i64 (enL L j d))∧wr.frozen? ⟨p.1,d,none⟩=false:=by
  intro j
  by_cases hjl:j < L.length
  ·obtain⟨cs,hcs,hM,hcell⟩:=hj j (L[j],j) (Kd.zip_at (List.getElem?_eq_getElem hjl))
   obtain⟨u,rfl,hR⟩:=(show ∃u,cs= [u]∧Kd.R (Kd.int .i64) 2 wr w.heap.size _ u L[j] from hM)
   have hlen:=hr L[j] (List.getElem_mem hjl)
   obtain⟨bj,cj,rfl,hb1,hb2,cells2,hbc⟩:=Kd.R_form hR (by omega)
   have hcj:=(Kd.R_reads' hR).2.1
   have hown:=hR.1 bj (by simp [Value.ownBlock])
   refine⟨(bj,cj),fun _=>⟨?_,by simpa [hlen] using hcj,hb1,hown.2,?_,⟨_,hbc⟩,fun d hd=>?_⟩⟩
   ·have:=hcell 0 _ rfl
    have e:(⟨g,0,none⟩:Addr).add (j*(Kd.tag f (Kd.slice 2 (Kd.int .i64))).sz+0)=⟨g,j,none⟩:=by
     show (⟨g,0,none⟩:Addr).add (j*1+0)=_
     rw [Nat.mul_one,Nat.add_zero,add_off];try rw [Nat.zero_add]
    rw [e,hlen] at this
    exact this
   ·intro e
    have e:bj=g:=e
    subst e
    exact hown.1.2 (by simp [Value.ownBlock])
   ·have hat:=Kd.R_celln 0 hR (d:Int) (by omega) (by omega)
    rw [Int.toNat_natCast] at hat
    have e2:enL L j d=L[j].getD d 0:=by unfold enL;rw [List.getD_eq_getElem?_getD (l:=L),List.getElem?_eq_getElem hjl];rfl
    rw [e2]
    exact⟨by simpa [rdOf] using hat.1,hat.2⟩
  ·exact⟨(0,0),fun hh=>absurd hh hjl⟩
 obtain⟨p,hp2⟩:=Classical.skolem.1 key
 have tne: ∀ {a c:Nat} {x y:Array Value} {tx ty:TypeId},wr.heap[a]?=some (.cells x tx (0,0))→wr.heap[c]?=some (.cells y ty (0,0))→tx≠ty→a≠c:=by
  intro a c x y tx ty h1 h2 h3 e
  subst e
  rw [h1] at h2
  injection h2 with h2;injection h2 with _ h4 _
  exact h3 h4
 refine⟨g,gb,cap,cb,fun j=>(p j).1,fun j=>(p j).2,Nat.le_refl _,⟨h.g,blk_lt hblk⟩,⟨hg0,blk_lt hgc⟩,⟨hq0,blk_lt hqc⟩,fun j hj=>⟨(hp2 j hj).2.2.1,?_⟩,fun i j hi hj e=>?_,fun j hj=>?_,tne hblk hgc (by decide),tne hblk hqc (by decide),tne hgc hqc (by decide),fun j hj=>(hp2 j hj).2.1,hQ,⟨hrd.2.1,hQ ▸ hrq.2.1⟩,?_,⟨(blk_cell hblk 1).trans rfl,blk_frozen hblk 1⟩,?_,(blk_cell hblk 3).trans rfl,fun j hj=>(hp2 j hj).1,fun j d hj hd=>(hp2 j hj).2.2.2.2.2.2 d hd,fun j hj=>?_⟩
 ·obtain⟨cs,hcs⟩:=(hp2 j hj).2.2.2.2.2.1
  exact blk_lt hcs
 ·have h1:=(hp2 i hi).2.2.2.1
  have h2:=(hp2 j hj).2.2.2.1
  rw [← h1, ← h2]
  exact congrArg f e
 ·obtain⟨cs,hcs⟩:=(hp2 j hj).2.2.2.2.2.1
  exact⟨(hp2 j hj).2.2.2.2.1,tne hcs hblk (by decide),tne hcs hqc (by decide)⟩
 ·rw [← hu0];exact(blk_cell hblk 0).trans rfl
 ·rw [← hQ, ← hu2];exact(blk_cell hblk 2).trans rfl
 ·have hat:=Kd.R_celln 0 (hu2 ▸ h.R) (j:Int) (by omega) (by omega)
  rw [Int.toNat_natCast] at hat
  exact⟨by simpa [rdOf] using hat.1,hat.2⟩
end Go.Proofs.Ytmpkckiifeikkaa.Lq
end
section
namespace Go.Proofs.Ytmpkckiifeikkaa.Lq
open Go.RowKit Go.Proofs.YtmpkckiifeikkaaW.PrintWords Go.Proofs.YtmpkckiifeikkaaW.PrintLast Go.Proofs.YtmpkckiifeikkaaW.PrintMore Go.Proofs.Ytmpkckiifeikkaa.Pr Go.Proofs.Ytmpkckiifeikkaa.Ma Go.Proofs.Ytmpkckiifeikkaa.Dt Go.Proofs.Ytmpkckiifeikkaa.Lk Go.Proofs.Ytmpkckiifeikkaa.Lt
theorem right_calls {w:World} {lo hi t g gb n m cg cb:Nat} {b cp:Nat→Nat} {s:TS} (h:Tm w lo hi t g gb n m cg cb b cp s) (i:Nat) (hin:i < n) (hm:0 < m) (hm2:m≤1000):
  Calls Try.prog 89 #[.pointer (some ⟨t,0,none⟩), .int .i64 (i:Int)] w fun e w'=>e= .returned (.int .i64 (s.T i (m - 1)))∧Below w.heap.size w w':=by
 have h':=h.mv (Out.drew w 0 0) (.inr (Nat.zero_le _))
 have hcz0:=h'.h0
 have hcz1:=h'.og i hin
 have hcz2:=(h'.ob i (m - 1) hin (by omega)).1
 have hiz:(i:Int) < (n:Int):=by omega
 have h0z:(0:Int)≤(i:Int):=by omega
 have hmz:((m - 1:Nat):Int) < (m:Int):=by omega
 have hm0:(0:Int)≤((m - 1:Nat):Int):=by omega
 have hm1:IntKind.i64.wrap ((m:Int) - 1)=((m - 1:Nat):Int):=by rw [IntWalk.i64_in _ (by omega)];omega
 have HBW:=q_ (below_drew (Below.refl w.heap.size w))
 generalize s.T i (m - 1)=x at hcz2 ⊢
 generalize m - 1=q at hcz2 hm1 hmz hm0
 clear h h' hin hm hm2
 go_enter Try.func89,Try.ntmps89
 go_wp2
 refine st_ (n:=19) (S:=fun w'=>w'.cell? ⟨t,0,none⟩=some (.slice (some ⟨g,0,none⟩) n cg)∧w'.cell? ⟨g,i,none⟩=some (.slice (some ⟨b i,0,none⟩) m (cp i))∧w'.cell? ⟨b i,q,none⟩=some (.int .i64 x)) (ds:= []) ⟨hcz0,hcz1,hcz2⟩ (fun hHeld=>?_)
 generalize w.drew=w1 at HBW hcz0 hcz1 hcz2 hHeld ⊢
 refine pu_ 0 5 ?_;refine pu_ 1 6 ?_;refine pu_ 2 7 ?_;refine tk_ 3 8 ?_;refine pu_ 4 9 ?_;refine pu_ 5 10 ?_;refine tk_ 6 11 ?_
 refine pu_ 7 12 ?_;refine pu_ 8 13 ?_;refine pu_ 9 14 ?_;refine tk_ 10 15 ?_;refine pu_ 11 16 ?_;refine pu_ 12 17 ?_;refine tk_ 13 18 ?_
 refine pu_ 14 19 ?_;refine pu_ 15 20 ?_;refine pu_ 16 21 ?_;refine tk_ 17 22 ?_;refine pu_ 18 4 ?_
 refine done_ (by kernel_rfl) ?_
 go_wp2
 go_ret
 exact⟨rfl,HBW.out⟩
theorem key_calls {w:World} {lo hi t g gb n m cg cb:Nat} {b cp:Nat→Nat} {s:TS} (h:Tm w lo hi t g gb n m cg cb b cp s) (i:Nat) (hin:i < n) (hm:n < m) (hm2:m≤1000):
  Calls Try.prog 215 #[.pointer (some ⟨t,0,none⟩), .int .i64 (i:Int)] w fun e w'=> ∃v,e= .returned v∧Kd.R (Kd.int .i64) 2 w' w.heap.size (fun _=>True) v (s.T i (m - 1)::rowN s.T i n)∧Below w.heap.size w w':=by
 have HB:=q_ (below_drew (Below.refl w.heap.size w))
 have H:=q_ h
 have HI:=q_ hin
 have HM:=q_ hm
 have HM2:=q_ hm2
 have hiz:(i:Int) < (n:Int):=by omega
 have h0z:(0:Int)≤(i:Int):=by omega
 have hnz:(0:Int)≤(n:Int):=by omega
 have hcap:(n:Int)≤(cp i:Int):=by have:=h.cap i hin;omega
 clear h hin hm hm2
 go_enter Try.func215,Try.ntmps215
 go_wp2
 refine st_ (n:=18) (S:=fun w'=>w'.cell? ⟨t,0,none⟩=some (.slice (some ⟨g,0,none⟩) n cg)∧w'.cell? ⟨g,i,none⟩=some (.slice (some ⟨b i,0,none⟩) m (cp i))∧w'.cell? ⟨t,3,none⟩=some (.int .i64 n)) (ds:= []) ⟨(H.out.mvB HB.out).h0,(H.out.mvB HB.out).og i HI.out,(H.out.mvB HB.out).h3⟩ (fun hHeld=>?_)
 generalize w.drew=w1 at HB hHeld ⊢
 refine pu_ 0 5 ?_;refine pu_ 1 6 ?_
 refine pu_ 4 9 ?_;refine pu_ 5 10 ?_;refine pu_ 6 11 ?_;refine tk_ 7 12 ?_;refine pu_ 8 13 ?_;refine pu_ 9 14 ?_;refine tk_ 10 15 ?_
 refine pu_ 11 16 ?_;refine pu_ 12 17 ?_;refine pu_ 13 18 ?_;refine tk_ 14 19 ?_;refine pu_ 15 20 ?_
 refine on_ 2 (some 7) (fun K hK=>?_)
 refine ca_ Try.func89 #[.pointer (some ⟨t,0,none⟩), .int .i64 (i:Int)] ?_
 refine(right_calls (H.out.mvB HB.out) i HI.out (by have:=HM.out;omega) HM2.out).mono ?_
 rintro e w2 ⟨rfl,hb⟩
 refine⟨_,rfl,?_⟩
 have HB2:=q_ (below_step HB.out hb)
 clear HB hb hHeld
 refine hK.out _ _ ⟨(H.out.mvB HB2.out).h0,(H.out.mvB HB2.out).og i HI.out,(H.out.mvB HB2.out).h3⟩ (fun hHeld=>?_)
 clear hK K
 refine no_ ?_
 obtain⟨x,hx⟩: ∃x,s.T i (m - 1)=x:=⟨_,rfl⟩
 rw [hx]
 refine on_ 3 (some 8) (fun K hK=>?_)
 refine Kd.R_lit_step (Kd.int .i64) w.heap.size 2 (by rfl) (N:=8) rfl (xs:= [x]) (inner:= [.int .i64 x]) (ok:=fun _=>True) (okp:=fun _=>True) (by first | (go_simp;done) | (go_simp;rfl)) (Reps.one (show Kd.M (Kd.int .i64) _ _ _ x [.int .i64 x] from rfl) (Reps.none _ _)) (fun _ h=>h) trivial HB2.out HB2.out.size (by simp) ?_
 intro v w3 ho hb hg hat
 have HB3:=q_ hb
 have HO:=q_ ho
 clear HB2 ho hb hg hat hHeld
 refine hK.out _ _ ⟨(H.out.mvB HB3.out).h0,(H.out.mvB HB3.out).og i HI.out,(H.out.mvB HB3.out).h3⟩ (fun hHeld=>?_)
 clear hK K
 refine nd_ 8 ?_
 refine on_ 16 (some 21) (fun K hK=>?_)
 refine Kd.R_append_rows_step (Kd.int .i64) (w0:=w) w.heap.size (by rfl) (.tmp 8) (.tmp 20) 23 2 (.int .i64 0) 8 rfl Try.underlying23 info2 rfl (by decide) (by omega) v [x] (rowN s.T i n) _ _ _ (fun _=>True) (fun _=>False) rfl rfl HO.out ?aR (fun _ _ h=>h) (fun _ h=>h.elim) (fun _ _=>trivial) HB3.out HB3.out.size ?aL ?_
 case aR=>have hC:=(H.out.mvB HB3.out).C HI.out n (by have:=HM.out;omega) (by have:=HM2.out;omega);rw [rowN_len] at hC;exact hC
 case aL=>have:=HM.out;have:=HM2.out;simp;omega
 intro v4 w4 ho hb hg hat
 have HB4:=q_ hb
 have aa:=q_ ho
 clear HO HB3 ho hb hg hat hHeld
 refine hK.out _ _ ⟨(H.out.mvB HB4.out).h0,(H.out.mvB HB4.out).og i HI.out,(H.out.mvB HB4.out).h3⟩ (fun hHeld=>?_)
 clear hK K
 refine nd_ 21 ?_
 refine pu_ 17 4 ?_
 refine done_ (by kernel_rfl) ?_
 go_wp2
 go_ret
 exact⟨_,rfl,by rw [hx];exact aa.out,HB4.out⟩
end Go.Proofs.Ytmpkckiifeikkaa.Lq
end
section
namespace Go.Proofs.Ytmpkckiifeikkaa.Lq
open Go.RowKit Go.Proofs.YtmpkckiifeikkaaW.PrintWords Go.Proofs.YtmpkckiifeikkaaW.PrintLast Go.Proofs.YtmpkckiifeikkaaW.PrintMore Go.Proofs.Ytmpkckiifeikkaa.Pr
def cmpL (c:Int→Int→Int):List (Int × Int)→Int
 | []=>0
 | x::l=>if c x.1 x.2=0 then cmpL c l else c x.1 x.2
theorem cmpL_hit (c:Int→Int→Int): ∀(l:List (Int × Int)) (j:Nat) (hj:j < l.length),(∀i (hi:i < l.length),i < j→c l[i].1 l[i].2=0)→c l[j].1 l[j].2≠0→cmpL c l=c l[j].1 l[j].2
 | [],j,hj,_,_=>absurd hj (Nat.not_lt_zero _)
 | x::l,0,_,_,h=>by simp at h;simp [cmpL,h]
 | x::l,j+1,hj,h0,h=>by
  have:=h0 0 (by simp) (by omega)
  simp at this
  rw [cmpL,if_pos this]
  simpa using cmpL_hit c l j (by simpa using hj) (fun i hi hij=>by have:=h0 (i+1) (by simpa using hi) (by omega);simpa using this) (by simpa using h)
theorem cmpL_miss (c:Int→Int→Int): ∀(l:List (Int × Int)),(∀i (hi:i < l.length),c l[i].1 l[i].2=0)→cmpL c l=0
 | [],_=>rfl
 | x::l,h=>by
  have:=h 0 (by simp)
  simp at this
  rw [cmpL,if_pos this]
  exact cmpL_miss c l (fun i hi=>by have:=h (i+1) (by simpa using hi);simpa using this)
def CmpRel (g:Nat) (lb:Array Value) (c:Int→Int→Int) (w:World):Prop:=
 ∀(W:World) (x y:Int),Below w.heap.size w W→Calls Try.prog g (#[.int .i64 x, .int .i64 y]++lb) W fun e w'=>e= .returned (.int .i64 (c x y))∧Below W.heap.size W w'
theorem compareInts (c:Int→Int→Int) (g:Nat) (lb:Array Value) (eg: ∀args w,(callFunc g args).run Try.prog w= .ok (.enter g args) w) (A1 A2:Option Addr) (c1 c2:Nat) (l1 l2:List Int) (w:World) (hl:l2.length=l1.length)
  (hr1:Kd.C (Kd.int .i64) w A1 l1.length l1) (hr2:Kd.C (Kd.int .i64) w A2 l2.length l2) (hp:CmpRel g lb c w):
  Calls Try.prog 214 #[.slice A1 l1.length c1, .slice A2 l2.length c2, .func (.func g) #[] lb] w fun e w'=>e= .returned (.int .i64 (cmpL c (l1.zip l2)))∧Below w.heap.size w w':=by
 have HR1:=q_ hr1
 have HR2:=q_ hr2
 have HP:=q_ hp
 have HL:=q_ hl
 have hbig:l1.length≤9223372036854775807:=hr1.2.1
 have hz:(l1.zip l2).length=l1.length:=by rw [List.length_zip,hl,Nat.min_self]
 have HZ:=q_ hz
 have hz2:(l2.length:Int)=(l1.length:Int):=by rw [hl]
 clear hr1 hr2 hp hl hz
 go_enter Try.func214,Try.ntmps214
 go_wp2
 go_loopg [7,8,9,10,13] l1.length (fun gg _ _ _ _ s13 wr=> ∃kk:Nat,kk≤l1.length∧l1.length - kk≤gg∧s13= .int .i64 kk∧Aside0 (Below w.heap.size w wr)∧Aside0 (∀j (hj:j < (l1.zip l2).length),j < kk→c (l1.zip l2)[j].1 (l1.zip l2)[j].2=0))
 case atStart=>exact⟨0,Nat.zero_le _,by omega,rfl,⟨Below.refl _ w⟩,⟨fun j _ hj=>absurd hj (Nat.not_lt_zero _)⟩⟩
 case round=>
  obtain⟨kk,hkk,hg,rfl,BW,F⟩:=hrel
  by_cases hlt:kk < l1.length
  ·obtain⟨aa,e1,hx1⟩:=Kd.at_int HR1.out kk (by omega) (by omega)
   obtain⟨ae,e2,hx2⟩:=Kd.at_int HR2.out kk (by omega) (by have:=HL.out;omega)
   cases e1;cases e2
   rw [Int.toNat_natCast] at hx1 hx2
   have hy1:=(BW.out.cell (World.block_lt_of_cell? w _ hx1)).trans hx1
   have hy2:=(BW.out.cell (World.block_lt_of_cell? w _ hx2)).trans hx2
   have hlt2:kk < l2.length:=by have:=HL.out;omega
   have hel1:rd l1 (kk:Int)=((l1.zip l2)[kk]'(by have:=HZ.out;omega)).1:=by simp [rd,hlt]
   have hel2:rd l2 (kk:Int)=((l1.zip l2)[kk]'(by have:=HZ.out;omega)).2:=by simp [rd,hlt2]
   rw [hel1] at hy1
   rw [hel2] at hy2
   clear hx1 hx2 hel1 hel2 hlt2
   obtain⟨x,hx⟩: ∃x,((l1.zip l2)[kk]'(by have:=HZ.out;omega)).1=x:=⟨_,rfl⟩
   obtain⟨y,hy⟩: ∃y,((l1.zip l2)[kk]'(by have:=HZ.out;omega)).2=y:=⟨_,rfl⟩
   rw [hx] at hy1
   rw [hy] at hy2
   have hcall:=HP.out wr x y BW.out
   have HX:=q_ hx
   have HY:=q_ hy
   have hltz:(kk:Int) < (l1.length:Int):=by omega
   have h0z:(0:Int)≤(kk:Int):=by omega
   have hw:IntKind.i64.wrap ((kk:Int)+1)=((kk+1:Nat):Int):=by rw [IntWalk.i64_in _ (by omega)];rfl
   clear hx hy
   obtain⟨q,hq⟩: ∃q,c x y=q:=⟨_,rfl⟩
   rw [hq] at hcall
   by_cases hz:q=0
   ·subst hz
    have HQ:=q_ hq
    clear hq
    go_wp2_with fail
    refine hcall.mono ?_
    rintro e w' ⟨rfl,hb'⟩
    clear hcall
    go_wp2
    go_roundg (l1.length - (kk+1))
    case measure=>omega
    case rel=>
     refine⟨kk+1,by omega,by omega,by first | rfl | simp [hw],⟨Below.trans BW.out (hb'.mono BW.out.size)⟩,⟨fun j hj hjk=>?_⟩⟩
     by_cases e:j=kk
     ·subst e
      rw [HX.out,HY.out];exact HQ.out
     ·exact F.out j hj (by omega)
   ·have HQ:=q_ hq
    have hqd:decide (q=0)=false:=decide_eq_false hz
    clear hq
    go_wp2_with fail
    refine hcall.mono ?_
    rintro e w' ⟨rfl,hb'⟩
    clear hcall
    go_wp2
    go_ret
    refine⟨?_,Below.trans BW.out (hb'.mono BW.out.size)⟩
    rw [cmpL_hit c _ kk (by have:=HZ.out;omega) F.out (by rw [HX.out,HY.out,HQ.out];exact hz),HX.out,HY.out,HQ.out]
    rfl
  ·have hltz: ¬ (kk:Int) < (l1.length:Int):=by omega
   obtain rfl:kk=l1.length:=by omega
   go_wp2
   go_ret
   refine⟨?_,BW.out⟩
   rw [cmpL_miss c _ (fun i hi=>F.out i hi (by have:=HZ.out;omega))]
   rfl
end Go.Proofs.Ytmpkckiifeikkaa.Lq
end
section
namespace Go.Proofs.Ytmpkckiifeikkaa.Pr
open Go.RowKit Go.Proofs.YtmpkckiifeikkaaW.PrintWords Go.Proofs.YtmpkckiifeikkaaW.PrintLast Go.Proofs.YtmpkckiifeikkaaW.PrintMore
attribute [local go_sem] max2_int min2_int max_two min_two max_three min_three max_four min_four
def impl_sign.f (a0:Int):Option (Int):=if a0 < 0 then(some (-1)) else(if a0 > 0 then(some 1) else(some 0))
theorem impl_sign.calls (a0:Int) (r:Int) (w:World) (h:impl_sign.f a0=some r):
  Calls Try.prog 143 #[.int .i64 a0] w fun e w'=>e= .returned (.int .i64 r)∧Drawn0 w w':=by
 have H:(if a0 < 0 then(some (-1)) else(if a0 > 0 then(some 1) else(some 0)))=some r:=h
 clear h
 by_cases c2:a0 < 0
 ·rw [if_pos c2] at H
  have c2b0:decide (a0 < 0)=true:=decide_eq_true c2
  clear c2
  obtain rfl:=Option.some.inj H
  go_enter Try.func143,Try.ntmps143
  go_wp2
  go_ret
  exact⟨by first | rfl | (simp;done) | (simp [*];done),by repeat (first | exact Drawn0.refl _ | apply Drawn0.step)⟩
 ·rw [if_neg c2] at H
  have c2b0:decide (a0 < 0)=false:=decide_eq_false c2
  clear c2
  by_cases c3:a0 > 0
  ·rw [if_pos c3] at H
   have c3b0:decide (0 < a0)=true:=decide_eq_true c3
   clear c3
   obtain rfl:=Option.some.inj H
   go_enter Try.func143,Try.ntmps143
   go_wp2
   go_ret
   exact⟨by first | rfl | (simp;done) | (simp [*];done),by repeat (first | exact Drawn0.refl _ | apply Drawn0.step)⟩
  ·rw [if_neg c3] at H
   have c3b0:decide (0 < a0)=false:=decide_eq_false c3
   clear c3
   obtain rfl:=Option.some.inj H
   go_enter Try.func143,Try.ntmps143
   go_wp2
   go_ret
   exact⟨by first | rfl | (simp;done) | (simp [*];done),by repeat (first | exact Drawn0.refl _ | apply Drawn0.step)⟩
def spec_l01In.f (a0:Int) (a1:Int) (a2:Int):Option (Bool):=if a0 ≥ a1 then(some (decide (a0≤a2))) else(some false)
theorem spec_l01In.calls (a0:Int) (a1:Int) (a2:Int) (r:Bool) (w:World) (h:spec_l01In.f a0 a1 a2=some r):
  Calls Try.prog 119 #[.int .i64 a0, .int .i64 a1, .int .i64 a2] w fun e w'=>e= .returned (.bool r)∧Drawn0 w w':=by
 have H:(if a0 ≥ a1 then(some (decide (a0≤a2))) else(some false))=some r:=h
 clear h
 by_cases c4:a0 ≥ a1
 ·rw [if_pos c4] at H
  have c4b0:decide (a1≤a0)=true:=decide_eq_true c4
  clear c4
  obtain rfl:=Option.some.inj H
  go_enter Try.func119,Try.ntmps119
  go_wp2
  go_ret
  exact⟨by first | rfl | (simp;done) | (simp [*];done),by repeat (first | exact Drawn0.refl _ | apply Drawn0.step)⟩
 ·rw [if_neg c4] at H
  have c4b0:decide (a1≤a0)=false:=decide_eq_false c4
  clear c4
  obtain rfl:=Option.some.inj H
  go_enter Try.func119,Try.ntmps119
  go_wp2
  go_ret
  exact⟨by first | rfl | (simp;done) | (simp [*];done),by repeat (first | exact Drawn0.refl _ | apply Drawn0.step)⟩
end Go.Proofs.Ytmpkckiifeikkaa.Pr
end
section
namespace Go.Proofs.Ytmpkckiifeikkaa.Lq
open Go.RowKit Go.Proofs.YtmpkckiifeikkaaW.PrintWords Go.Proofs.YtmpkckiifeikkaaW.PrintLast Go.Proofs.YtmpkckiifeikkaaW.PrintMore Go.Proofs.Ytmpkckiifeikkaa.Pr Go.Proofs.Ytmpkckiifeikkaa.Ma Go.Proofs.Ytmpkckiifeikkaa.Dt Go.Proofs.Ytmpkckiifeikkaa.Lk Go.Proofs.Ytmpkckiifeikkaa.Lt
def sgI (x:Int):Int:=if x < 0 then -1 else if x > 0 then 1 else 0
theorem sign_eq (x:Int):impl_sign.f x=some (sgI x):=by unfold impl_sign.f sgI;split;rfl;split <;> rfl
def lc (y x:Int) (p q:Int):Int:=sgI (wrap64 (wrap64 (p*y) - wrap64 (q*x)))
theorem less1 (p9 p7:Nat) (y x:Int) (p q:Int) (w:World) (h9:w.cell? ⟨p9,0,none⟩=some (.int .i64 y)) (h7:w.cell? ⟨p7,0,none⟩=some (.int .i64 x)):
  Calls Try.prog 216 (#[.int .i64 p, .int .i64 q]++ #[.pointer (some ⟨p9,0,none⟩), .pointer (some ⟨p7,0,none⟩)]) w fun e w'=>e= .returned (.int .i64 (lc y x p q))∧Below w.heap.size w w':=by
 show Calls Try.prog 216 #[.int .i64 p, .int .i64 q, .pointer (some ⟨p9,0,none⟩), .pointer (some ⟨p7,0,none⟩)] w _
 go_enter Try.func216,Try.ntmps216
 go_wp2_with fail
 refine(impl_sign.calls _ _ _ (sign_eq _)).mono ?_
 rintro e w' ⟨rfl,hb⟩
 go_wp2
 go_ret
 exact⟨rfl,hb.below⟩
theorem less1_enters: ∀args w,(callFunc 216 args).run Try.prog w= .ok (.enter 216 args) w:=enters_fn Try.func216 (by kernel_rfl) rfl
def ilI (T:Mat) (n m i k:Nat) (x y:Int):Bool:=decide (cmpL (lc y x) ((T i (m - 1)::rowN T i n).zip (T k (m - 1)::rowN T k n)) < 0)
theorem isLess_calls {w:World} {lo hi t g gb n m cg cb:Nat} {b cp:Nat→Nat} {s:TS} (h:Tm w lo hi t g gb n m cg cb b cp s) (i k:Nat) (x y:Int) (hi':i < n) (hk:k < n) (hm:n < m) (hm2:m≤1000):
  Calls Try.prog 207 #[.pointer (some ⟨t,0,none⟩), .int .i64 (i:Int), .int .i64 x, .int .i64 (k:Int), .int .i64 y] w fun e w'=>e= .returned (.bool (ilI s.T n m i k x y))∧Below w.heap.size w w':=by
 have HB:=q_ (Below.refl w.heap.size w)
 have H:=q_ h
 have HI:=q_ hi'
 have HK:=q_ hk
 have HM:=q_ hm
 have HM2:=q_ hm2
 obtain⟨V,hV⟩: ∃V,ilI s.T n m i k x y=V:=⟨_,rfl⟩
 rw [hV]
 have HV:=q_ hV
 clear h hi' hk hm hm2 hV
 go_enter Try.func207,Try.ntmps207
 go_wp2_with (first | ((with_reducible refine gate_dst (N:=7) rfl ?_);refine box_event ?hg (N:=7) ?hd (cs:= #[.int .i64 x]) (t:=2) ?hr ?_;(case hd=>rfl);(case hg=>rfl);(case hr=>first | (go_simp;done) | (go_simp;rfl));intro g7 hg w7 hbox hb;replace HB:=q_ (below_step HB.out hb);have B7:=q_ hbox;clear hb hbox hg) | ((with_reducible refine gate_dst (N:=9) rfl ?_);refine box_event ?hg (N:=9) ?hd (cs:= #[.int .i64 y]) (t:=2) ?hr ?_;(case hd=>rfl);(case hg=>rfl);(case hr=>first | (go_simp;done) | (go_simp;rfl));intro g9 hg w9 hbox hb;replace HB:=q_ (below_step HB.out hb);replace B7:=q_ (blk_below B7.out hb);have B9:=q_ hbox;clear hb hbox hg))
 refine(key_calls (H.out.mvB HB.out) i HI.out HM.out HM2.out).mono ?_
 rintro e w1 ⟨v1,rfl,hR1,hb⟩
 replace HB:=q_ (below_step HB.out hb)
 replace B7:=q_ (blk_below B7.out hb)
 replace B9:=q_ (blk_below B9.out hb)
 obtain⟨l1,hl1⟩: ∃l,s.T i (m - 1)::rowN s.T i n=l:=⟨_,rfl⟩
 rw [hl1] at hR1
 obtain⟨A1,c1,rfl⟩:=Kd.R_slice hR1
 have R1:=q_ (Kd.R_reads' hR1).2.2
 have L1:=q_ hl1
 clear hR1 hb hl1
 go_wp2_with fail
 refine(key_calls (H.out.mvB HB.out) k HK.out HM.out HM2.out).mono ?_
 rintro e w2 ⟨v2,rfl,hR2,hb⟩
 replace HB:=q_ (below_step HB.out hb)
 replace B7:=q_ (blk_below B7.out hb)
 replace B9:=q_ (blk_below B9.out hb)
 replace R1:=q_ (Kd.C_below R1.out hb)
 obtain⟨l2,hl2⟩: ∃l,s.T k (m - 1)::rowN s.T k n=l:=⟨_,rfl⟩
 rw [hl2] at hR2
 obtain⟨A2,c2,rfl⟩:=Kd.R_slice hR2
 have R2:=q_ (Kd.R_reads' hR2).2.2
 have L2:=q_ hl2
 clear hR2 hb hl2
 go_wp2_with fail
 refine(compareInts (lc y x) 216 #[.pointer (some ⟨g9,0,none⟩), .pointer (some ⟨g7,0,none⟩)] less1_enters A1 A2 c1 c2 l1 l2 w2 (by rw [← L1.out, ← L2.out];simp [rowN_len]) R1.out R2.out (fun W p q hb=>less1 g9 g7 y x p q W ((blk_cell (blk_below B9.out hb) 0).trans rfl) ((blk_cell (blk_below B7.out hb) 0).trans rfl))).mono ?_
 rintro e w3 ⟨rfl,hb⟩
 replace HB:=q_ (below_step HB.out hb)
 clear hb
 obtain⟨q,hq⟩: ∃q,cmpL (lc y x) (l1.zip l2)=q:=⟨_,rfl⟩
 rw [hq]
 go_wp2
 go_ret
 refine⟨?_,HB.out⟩
 rw [← HV.out]
 unfold ilI
 rw [L1.out,L2.out,hq]
 rfl
end Go.Proofs.Ytmpkckiifeikkaa.Lq
end
section
namespace Go.Proofs.Ytmpkckiifeikkaa.Lq
open Go.RowKit Go.Proofs.YtmpkckiifeikkaaW.PrintWords Go.Proofs.YtmpkckiifeikkaaW.PrintLast Go.Proofs.YtmpkckiifeikkaaW.PrintMore Go.Proofs.Ytmpkckiifeikkaa.Pr Go.Proofs.Ytmpkckiifeikkaa.Ma Go.Proofs.Ytmpkckiifeikkaa.Dt Go.Proofs.Ytmpkckiifeikkaa.Lk Go.Proofs.Ytmpkckiifeikkaa.Lt
def RowF (g:Nat) (lb:Array Value) (b:Nat→Int) (w:World) (n:Nat):Prop:=
 ∀(W:World) (i:Nat),i < n→Below w.heap.size w W→Calls Try.prog g (#[.int .i64 (i:Int)]++lb) W fun e w'=>e= .returned (.int .i64 (b i))∧Below W.heap.size W w'
def encO:Option Nat→Int
 | none=> -1
 | some r=>(r:Int)
def rowJ (T:Mat) (n m:Nat) (bf:Nat→Int) (k:Nat):Option Nat:=lst bf (fun i j=>ilI T n m i j (bf i) (bf j)) (List.range k) none
theorem lst_app (bf:Nat→Int) (less:Nat→Nat→Bool) (l l':List Nat) (o:Option Nat):lst bf less (l++l') o=lst bf less l' (lst bf less l o):=by
 induction l generalizing o with
 | nil=>rfl
 | cons x l ih=>simp only [List.cons_append,lst];exact ih _
theorem rowJ_next (T:Mat) (n m:Nat) (bf:Nat→Int) (k:Nat):rowJ T n m bf (k+1)=if 0 < bf k∧bet (fun i j=>ilI T n m i j (bf i) (bf j)) k (rowJ T n m bf k)=true then some k else rowJ T n m bf k:=by
 unfold rowJ
 rw [List.range_succ,lst_app]
 rfl
theorem rowJ_lt {T:Mat} {n m:Nat} {bf:Nat→Int} {k r:Nat} (h:rowJ T n m bf k=some r):r < k∧0 < bf r:=lst_lt (fun i hi=>List.mem_range.1 hi) (fun j hj=>by cases hj) h
theorem least_calls {w:World} {lo hi t g gb n m cg cb:Nat} {b cp:Nat→Nat} {s:TS} (h:Tm w lo hi t g gb n m cg cb b cp s) (gf:Nat) (lb:Array Value) (bf:Nat→Int) (eg: ∀args w,(callFunc gf args).run Try.prog w= .ok (.enter gf args) w) (hp:RowF gf lb bf w n) (hn:n≤1000) (hm:n < m) (hm2:m≤1000):
  Calls Try.prog 188 #[.pointer (some ⟨t,0,none⟩), .func (.func gf) #[] lb] w fun e w'=>e= .returned (.int .i64 (encO (rowJ s.T n m bf n)))∧Below w.heap.size w w':=by
 have HB:=q_ (Below.refl w.heap.size w)
 have H:=q_ h
 have HP:=q_ hp
 have HN:=q_ hn
 have HM:=q_ hm
 have HM2:=q_ hm2
 have hcz0:=h.h0
 clear h hp hm hm2 hn
 go_enter Try.func188,Try.ntmps188
 go_wp2
 clear hcz0 HB
 go_loopg [5,6,12] n (fun gg v5 _ v12 wr=> ∃kk:Nat,kk≤n∧n - kk≤gg∧v12= .int .i64 (kk:Int)∧v5= .int .i64 (encO (rowJ s.T n m bf kk))∧Aside0 (Below w.heap.size w wr))
 case atStart=>exact⟨0,Nat.zero_le _,by omega,rfl,rfl,⟨Below.refl _ w⟩⟩
 case round=>
  obtain⟨kk,hkk,hg,rfl,rfl,HB⟩:=hrel
  have HG:=q_ hg
  by_cases hlt:kk < n
  ·have hltz:(kk:Int) < (n:Int):=by omega
   have hw:IntKind.i64.wrap ((kk:Int)+1)=((kk+1:Nat):Int):=by rw [IntWalk.i64_in _ (by have:=HN.out;omega)];rfl
   have HLT:=q_ hlt
   obtain⟨o,ho⟩: ∃o,rowJ s.T n m bf kk=o:=⟨_,rfl⟩
   have HO:=q_ ho
   rw [ho]
   obtain⟨x,hx⟩: ∃x,bf kk=x:=⟨_,rfl⟩
   have HX:=q_ hx
   have hcall: ∀W,Below w.heap.size w W→Calls Try.prog gf (#[.int .i64 (kk:Int)]++lb) W fun e w'=>e= .returned (.int .i64 x)∧Below W.heap.size W w':=fun W hb=>by rw [← HX.out];exact HP.out W kk HLT.out hb
   have HC:=q_ hcall
   clear ho hx hcall hg hkk hlt
   by_cases hx0:0 < x
   ·cases o with
    | none=>
     go_wp2_with fail
     refine(HC.out wr HB.out).mono ?_
     rintro e w1 ⟨rfl,hb⟩
     replace HB:=q_ (below_step HB.out hb)
     clear hb
     go_wp2
     go_roundg (n - (kk+1))
     case measure=>have:=HG.out;omega
     case rel=>
      refine⟨kk+1,by omega,by omega,by first | rfl | simp [hw],?_,HB⟩
      rw [rowJ_next,HO.out,HX.out,if_pos ⟨hx0,rfl⟩];rfl
    | some j=>
     have hj:=rowJ_lt HO.out
     have HJ:=q_ hj
     have hj0: ¬ (j:Int) < 0:=by omega
     obtain⟨y,hy⟩: ∃y,bf j=y:=⟨_,rfl⟩
     have HY:=q_ hy
     have hcall: ∀W,Below w.heap.size w W→Calls Try.prog gf (#[.int .i64 (j:Int)]++lb) W fun e w'=>e= .returned (.int .i64 y)∧Below W.heap.size W w':=fun W hb=>by rw [← HY.out];exact HP.out W j (by have:=HJ.out.1;have:=HLT.out;omega) hb
     have HC2:=q_ hcall
     obtain⟨z,hz⟩: ∃z,ilI s.T n m kk j x y=z:=⟨_,rfl⟩
     have HZ:=q_ hz
     clear hj hy hcall hz
     simp only [encO]
     go_wp2_with fail
     refine(HC.out wr HB.out).mono ?_
     rintro e w1 ⟨rfl,hb⟩
     replace HB:=q_ (below_step HB.out hb)
     clear hb
     go_wp2_with fail
     refine(HC.out w1 HB.out).mono ?_
     rintro e w2 ⟨rfl,hb⟩
     replace HB:=q_ (below_step HB.out hb)
     clear hb
     go_wp2_with fail
     refine(HC2.out w2 HB.out).mono ?_
     rintro e w3 ⟨rfl,hb⟩
     replace HB:=q_ (below_step HB.out hb)
     clear hb
     go_wp2_with fail
     refine(isLess_calls (H.out.mvB HB.out) kk j x y HLT.out (by have:=HJ.out.1;have:=HLT.out;omega) HM.out HM2.out).mono ?_
     rw [HZ.out]
     rintro e w4 ⟨rfl,hb⟩
     replace HB:=q_ (below_step HB.out hb)
     clear hb
     cases z with
     | true=>
      go_wp2
      go_roundg (n - (kk+1))
      case measure=>have:=HG.out;omega
      case rel=>
       refine⟨kk+1,by omega,by omega,by first | rfl | simp [hw],?_,HB⟩
       rw [rowJ_next,HO.out,HX.out,if_pos ⟨hx0,by simp only [bet,HX.out,HY.out];exact HZ.out⟩];rfl
     | false=>
      go_wp2
      go_roundg (n - (kk+1))
      case measure=>have:=HG.out;omega
      case rel=>
       refine⟨kk+1,by omega,by omega,by first | rfl | simp [hw],?_,HB⟩
       rw [rowJ_next,HO.out,HX.out,if_neg (by simp only [bet,HX.out,HY.out,HZ.out];simp)];rfl
   ·go_wp2_with fail
    refine(HC.out wr HB.out).mono ?_
    rintro e w1 ⟨rfl,hb⟩
    replace HB:=q_ (below_step HB.out hb)
    clear hb
    go_wp2
    go_roundg (n - (kk+1))
    case measure=>have:=HG.out;omega
    case rel=>
     refine⟨kk+1,by omega,by omega,by first | rfl | simp [hw],?_,HB⟩
     rw [rowJ_next,HO.out,HX.out,if_neg (fun q=>by have:=q.1;omega)]
  ·have hltz: ¬ (kk:Int) < (n:Int):=by omega
   obtain rfl:kk=n:=by omega
   go_wp2
   go_ret
   exact⟨rfl,HB.out⟩
theorem partner_calls {w:World} {lo hi t g gb n m cg cb:Nat} {b cp:Nat→Nat} {s:TS} (h:Tm w lo hi t g gb n m cg cb b cp s) (v:Nat) (hn:n≤1000) (hv:v < 2*n):
  Calls Try.prog 191 #[.pointer (some ⟨t,0,none⟩), .int .i64 (v:Int)] w fun e w'=>e= .returned (.int .i64 (partner n v:Nat))∧Below w.heap.size w w':=by
 have hcz:=h.h3
 clear h
 by_cases hlt:v < n
 ·have hz:(v:Int) < (n:Int):=by omega
  have hw:IntKind.i64.wrap ((v:Int)+(n:Int))=((v+n:Nat):Int):=by rw [IntWalk.i64_in _ (by omega)];omega
  have e:partner n v=v+n:=by unfold partner;rw [if_pos hlt]
  have HE:=q_ e
  clear hlt hn hv e
  go_enter Try.func191,Try.ntmps191
  go_wp2
  go_ret
  exact⟨by rw [HE.out];first | rfl | (rw [← hw];rfl),Below.refl _ _⟩
 ·have hz: ¬ (v:Int) < (n:Int):=by omega
  have hw:IntKind.i64.wrap ((v:Int) - (n:Int))=((v - n:Nat):Int):=by rw [IntWalk.i64_in _ (by omega)];omega
  have e:partner n v=v - n:=by unfold partner;rw [if_neg hlt]
  have HE:=q_ e
  clear hlt hn hv e
  go_enter Try.func191,Try.ntmps191
  go_wp2
  go_ret
  exact⟨by rw [HE.out];first | rfl | (rw [← hw];rfl),Below.refl _ _⟩
theorem enter1 {w:World} {lo hi t g gb n m cg cb:Nat} {b cp:Nat→Nat} {s:TS} (h:Tm w lo hi t g gb n m cg cb b cp s) (p2 p3:Nat) (v i:Nat) (hin:i < n) (hv:v < m) (h2:w.cell? ⟨p2,0,none⟩=some (.pointer (some ⟨t,0,none⟩))) (h3:w.cell? ⟨p3,0,none⟩=some (.int .i64 (v:Int))):
  Calls Try.prog 208 (#[.int .i64 (i:Int)]++ #[.pointer (some ⟨p2,0,none⟩), .pointer (some ⟨p3,0,none⟩)]) w fun e w'=>e= .returned (.int .i64 (s.T i v))∧Below w.heap.size w w':=by
 show Calls Try.prog 208 #[.int .i64 (i:Int), .pointer (some ⟨p2,0,none⟩), .pointer (some ⟨p3,0,none⟩)] w _
 have h':=h.mv (Out.drew w 0 0) (.inr (Nat.zero_le _))
 have hcz0:=h'.h0
 have hcz1:=h'.og i hin
 have hcz2:=(h'.ob i v hin hv).1
 have hc2:w.drew.cell? ⟨p2,0,none⟩=some (.pointer (some ⟨t,0,none⟩)):=h2
 have hc3:w.drew.cell? ⟨p3,0,none⟩=some (.int .i64 (v:Int)):=h3
 have hiz:(i:Int) < (n:Int):=by omega
 have h0z:(0:Int)≤(i:Int):=by omega
 have hvz:(v:Int) < (m:Int):=by omega
 have h0v:(0:Int)≤(v:Int):=by omega
 have HBW:=q_ (below_drew (Below.refl w.heap.size w))
 generalize s.T i v=x at hcz2 ⊢
 clear h h' hin hv h2 h3
 go_enter Try.func208,Try.ntmps208
 go_wp2
 refine st_ (n:=11) (S:=fun w'=>w'.cell? ⟨t,0,none⟩=some (.slice (some ⟨g,0,none⟩) n cg)∧w'.cell? ⟨g,i,none⟩=some (.slice (some ⟨b i,0,none⟩) m (cp i))∧w'.cell? ⟨b i,v,none⟩=some (.int .i64 x)∧w'.cell? ⟨p2,0,none⟩=some (.pointer (some ⟨t,0,none⟩))∧w'.cell? ⟨p3,0,none⟩=some (.int .i64 (v:Int))) (ds:= []) ⟨hcz0,hcz1,hcz2,hc2,hc3⟩ (fun hHeld=>?_)
 generalize w.drew=w1 at HBW hcz0 hcz1 hcz2 hc2 hc3 hHeld ⊢
 refine tk_ 0 5 ?_;refine pu_ 1 6 ?_;refine pu_ 2 7 ?_;refine tk_ 3 8 ?_;refine pu_ 4 9 ?_;refine pu_ 5 10 ?_;refine tk_ 6 11 ?_
 refine tk_ 7 12 ?_;refine pu_ 8 13 ?_;refine tk_ 9 14 ?_;refine pu_ 10 4 ?_
 refine done_ (by kernel_rfl) ?_
 go_wp2
 go_ret
 exact⟨rfl,HBW.out⟩
theorem enter1_enters: ∀args w,(callFunc 208 args).run Try.prog w= .ok (.enter 208 args) w:=enters_fn Try.func208 (by kernel_rfl) rfl
theorem enterBy_calls {w:World} {lo hi t g gb n m cg cb:Nat} {b cp:Nat→Nat} {s:TS} (h:Tm w lo hi t g gb n m cg cb b cp s) (v:Nat) (hn:n≤1000) (hm:n < m) (hm2:m≤1000) (hv:v < m):
  Calls Try.prog 192 #[.pointer (some ⟨t,0,none⟩), .int .i64 (v:Int)] w fun e w'=>e= .returned (.int .i64 (encO (rowJ s.T n m (fun i=>s.T i v) n)))∧Below w.heap.size w w':=by
 have HB:=q_ (Below.refl w.heap.size w)
 have H:=q_ h
 have HN:=q_ hn
 have HM:=q_ hm
 have HM2:=q_ hm2
 have HV:=q_ hv
 clear h hn hm hm2 hv
 go_enter Try.func192,Try.ntmps192
 go_wp2_with (first | ((with_reducible refine gate_dst (N:=2) rfl ?_);refine box_event ?hg (N:=2) ?hd (cs:= #[.pointer (some ⟨t,0,none⟩)]) (t:=105) ?hr ?_;(case hd=>rfl);(case hg=>rfl);(case hr=>first | (go_simp;done) | (go_simp;rfl));intro g2 hg w2 hbox hb;replace HB:=q_ (below_step HB.out hb);have B2:=q_ hbox;clear hb hbox hg) | ((with_reducible refine gate_dst (N:=3) rfl ?_);refine box_event ?hg (N:=3) ?hd (cs:= #[.int .i64 (v:Int)]) (t:=3) ?hr ?_;(case hd=>rfl);(case hg=>rfl);(case hr=>first | (go_simp;done) | (go_simp;rfl));intro g3 hg w3 hbox hb;replace HB:=q_ (below_step HB.out hb);replace B2:=q_ (blk_below B2.out hb);have B3:=q_ hbox;clear hb hbox hg;have hcz2:=cz_ B2 0))
 refine(least_calls (H.out.mvB HB.out) 208 #[.pointer (some ⟨g2,0,none⟩), .pointer (some ⟨g3,0,none⟩)] (fun i=>s.T i v) enter1_enters (fun W i hi hb=>enter1 (H.out.mvB (below_step HB.out hb)) g2 g3 v i hi HV.out ((blk_cell (blk_below B2.out hb) 0).trans rfl) ((blk_cell (blk_below B3.out hb) 0).trans rfl)) HN.out HM.out HM2.out).mono ?_
 rintro e w4 ⟨rfl,hb⟩
 replace HB:=q_ (below_step HB.out hb)
 clear hb hcz2
 go_wp2
 go_ret
 exact⟨rfl,HB.out⟩
end Go.Proofs.Ytmpkckiifeikkaa.Lq
end
section
namespace Go.Proofs.Ytmpkckiifeikkaa.Lq
open Go.RowKit Go.Proofs.YtmpkckiifeikkaaW.PrintWords Go.Proofs.YtmpkckiifeikkaaW.PrintLast Go.Proofs.YtmpkckiifeikkaaW.PrintMore Go.Proofs.Ytmpkckiifeikkaa.Pr Go.Proofs.Ytmpkckiifeikkaa.Ma Go.Proofs.Ytmpkckiifeikkaa.Dt Go.Proofs.Ytmpkckiifeikkaa.Lk Go.Proofs.Ytmpkckiifeikkaa.Lt
def stP (T:Mat) (den:Int) (r v i c:Nat):Mat:=fun a d=>if a < i∨(a=i∧d < c) then stA T den r v a d else T a d
def ngP (X:Mat) (i c:Nat):Mat:=fun a d=>if a < i∨(a=i∧d < c) then wrap64 (- X a d) else X a d
theorem stP_zero (T:Mat) (den:Int) (r v a d:Nat):stP T den r v 0 0 a d=T a d:=by unfold stP;rw [if_neg (by omega)]
theorem stP_at (T:Mat) (den:Int) (r v i c a d:Nat) (h: ¬ (a < i∨(a=i∧d < c))):stP T den r v i c a d=T a d:=by unfold stP;rw [if_neg h]
theorem stP_row (T:Mat) (den:Int) (r v i c d:Nat):stP T den r v i c r d=T r d:=by unfold stP stA;split <;> simp
theorem stP_next (T:Mat) (den:Int) (r v i c:Nat) (h:i≠r) (a d:Nat):mset (stP T den r v i c) i c (evT T den r v i c) a d=stP T den r v i (c+1) a d:=by
 unfold mset
 by_cases e:a=i∧d=c
 ·obtain⟨rfl,rfl⟩:=e
  rw [if_pos ⟨rfl,rfl⟩];unfold stP stA;rw [if_pos (by omega),if_neg h]
 ·rw [if_neg e];unfold stP
  by_cases q:a < i∨(a=i∧d < c)
  ·rw [if_pos q,if_pos (by omega)]
  ·rw [if_neg q,if_neg (by omega)]
theorem stP_end (T:Mat) (den:Int) (r v i m a d:Nat) (h:d < m):stP T den r v i m a d=stP T den r v (i+1) 0 a d:=by
 unfold stP
 by_cases q:a < i+1
 ·rw [if_pos (by omega),if_pos (by omega)]
 ·rw [if_neg (by omega),if_neg (by omega)]
theorem stP_skip (T:Mat) (den:Int) (r v a d:Nat):stP T den r v r 0 a d=stP T den r v (r+1) 0 a d:=by
 by_cases e:a=r
 ·subst e;rw [stP_row,stP_row]
 ·unfold stP
  by_cases q:a < r
  ·rw [if_pos (by omega),if_pos (by omega)]
  ·rw [if_neg (by omega),if_neg (by omega)]
theorem stP_all (T:Mat) (den:Int) (r v n a d:Nat) (h:a < n):stP T den r v n 0 a d=stA T den r v a d:=by unfold stP;rw [if_pos (by omega)]
theorem ngP_zero (X:Mat) (a d:Nat):ngP X 0 0 a d=X a d:=by unfold ngP;rw [if_neg (by omega)]
theorem ngP_at (X:Mat) (i c a d:Nat) (h: ¬ (a < i∨(a=i∧d < c))):ngP X i c a d=X a d:=by unfold ngP;rw [if_neg h]
theorem ngP_next (X:Mat) (i c a d:Nat):mset (ngP X i c) i c (wrap64 (- X i c)) a d=ngP X i (c+1) a d:=by
 unfold mset
 by_cases e:a=i∧d=c
 ·obtain⟨rfl,rfl⟩:=e
  rw [if_pos ⟨rfl,rfl⟩];unfold ngP;rw [if_pos (by omega)]
 ·rw [if_neg e];unfold ngP
  by_cases q:a < i∨(a=i∧d < c)
  ·rw [if_pos q,if_pos (by omega)]
  ·rw [if_neg q,if_neg (by omega)]
theorem ngP_end (X:Mat) (i m a d:Nat) (h:d < m):ngP X i m a d=ngP X (i+1) 0 a d:=by
 unfold ngP
 by_cases q:a < i+1
 ·rw [if_pos (by omega),if_pos (by omega)]
 ·rw [if_neg (by omega),if_neg (by omega)]
theorem ngP_all (X:Mat) (n a d:Nat) (h:a < n):ngP X n 0 a d=wrap64 (- X a d):=by unfold ngP;rw [if_pos (by omega)]
theorem size_eq {x:Int} (h0: -9223372036854775808 < x) (h1:x < 9223372036854775808):impl_size.f x=some (if x < 0 then wrap64 (-x) else x):=by
 unfold impl_size.f
 rw [w64 (by omega) (by omega)]
 congr 1
 unfold mx
 split <;> split <;> omega
theorem step_calls {w:World} {lo hi t g gb n m cg cb:Nat} {b cp:Nat→Nat} {s:TS} (h:Tm w lo hi t g gb n m cg cb b cp s) (v r:Nat) (hr:r < n) (hv:v < m) (hn:n≤1000) (hm2:m≤1000) (hden:s.den≠0) (hb0: -9223372036854775808 < s.T r v) (hb1:s.T r v < 9223372036854775808):
  Calls Try.prog 190 #[.pointer (some ⟨t,0,none⟩), .int .i64 (v:Int), .int .i64 (r:Int)] w fun e w'=>e= .returned (.int .i64 (s.bs.getD r 0))∧Tm w' lo hi t g gb n m cg cb b cp (s.step r v)∧Out w w' lo hi:=by
 have HO:=q_ (Out.refl w lo hi)
 have H:=q_ h
 have HR:=q_ hr
 have HV:=q_ hv
 have HN:=q_ hn
 have HM2:=q_ hm2
 have HD:=q_ hden
 obtain⟨p,hp⟩: ∃p,s.T r v=p:=⟨_,rfl⟩
 rw [hp] at hb0 hb1
 have HP:=q_ hp
 have HSZ:=q_ (size_eq hb0 hb1)
 have hrz:(r:Int) < (n:Int):=by omega
 have h0r:(0:Int)≤(r:Int):=by omega
 have hvz:(v:Int) < (m:Int):=by omega
 have h0v:(0:Int)≤(v:Int):=by omega
 have hcz0:=h.h0
 have hczr:=h.og r hr
 have hcp:=(h.ob r v hr hv).1
 rw [hp] at hcp
 clear h hr hv hn hm2 hden hp hb0 hb1
 go_enter Try.func190,Try.ntmps190
 go_wp2
 clear hcz0 hczr hcp
 go_loopg [33] n (fun gg v33 wr=> ∃kk:Nat,kk≤n∧n - kk≤gg∧v33= .int .i64 (kk:Int)∧Aside0 (Tm wr lo hi t g gb n m cg cb b cp ⟨stP s.T s.den r v kk 0,s.den,s.bs⟩)∧Aside0 (Out w wr lo hi))
 case atStart=>exact⟨0,Nat.zero_le _,by omega,rfl,⟨H.out.congr (fun i j _ _=>(stP_zero _ _ _ _ i j).symm) rfl rfl⟩,HO⟩
 case round=>
  clear HO
  obtain⟨kk,hkk,hg,rfl,HT,HO⟩:=hrel
  have HG:=q_ hg
  by_cases hlt:kk < n
  ·have hltz:(kk:Int) < (n:Int):=by omega
   have h0z:(0:Int)≤(kk:Int):=by omega
   have hw:IntKind.i64.wrap ((kk:Int)+1)=((kk+1:Nat):Int):=by rw [IntWalk.i64_in _ (by have:=HN.out;omega)];rfl
   have HW:=q_ hw
   have HLT:=q_ hlt
   have hog:=HT.out.og kk hlt
   have hf:=(HT.out.ob kk v hlt HV.out).1
   rw [show (⟨stP s.T s.den r v kk 0,s.den,s.bs⟩:TS).T kk v=s.T kk v from stP_at _ _ _ _ _ _ _ _ (by omega)] at hf
   clear hkk hg hlt
   by_cases hir:kk=r
   ·subst hir
    go_wp2
    go_roundg (n - (kk+1))
    case measure=>have:=HG.out;have:=HLT.out;omega
    case rel=>exact⟨kk+1,HLT.out,by omega,by first | rfl | (rw [HW.out]) | (simp [HW.out]),⟨HT.out.congr (fun i j _ _=>stP_skip _ _ _ _ i j) rfl rfl⟩,HO⟩
   ·have hirz:((kk:Int)==(r:Int))=false:=by simp;omega
    have hirn: ¬ (kk:Int)=(r:Int):=by omega
    have HIR:=q_ hir
    clear hir
    go_wp2
    clear hf
    go_loopg [47] m (fun gg v47 w4=> ∃c:Nat,c≤m∧m - c≤gg∧v47= .int .i64 (c:Int)∧Aside0 (Tm w4 lo hi t g gb n m cg cb b cp ⟨stP s.T s.den r v kk c,s.den,s.bs⟩)∧Aside0 (Out w w4 lo hi))
    case atStart=>exact⟨0,Nat.zero_le _,by omega,rfl,HT,HO⟩
    case round=>
     clear HT HO hog
     obtain⟨c,hc,hg2,rfl,HT,HO⟩:=hrel
     have HC:=q_ hc
     have HG2:=q_ hg2
     by_cases hcm:c < m
     ·have hcz:(c:Int) < (m:Int):=by omega
      have h0c:(0:Int)≤(c:Int):=by omega
      have HCM:=q_ hcm
      have HT5:=q_ (HT.out.mv (Out.drew wr lo lo) (.inr (Nat.le_refl _)))
      have ae:=q_ (HO.out.trans (Out.drew wr lo hi))
      have h1:=(HT5.out.ob kk c HLT.out hcm).1
      have h1f:=(HT5.out.ob kk c HLT.out hcm).2
      have h2:=(HT5.out.ob r c HR.out hcm).1
      have h3:=HT5.out.h1.1
      rw [show (⟨stP s.T s.den r v kk c,s.den,s.bs⟩:TS).T kk c=s.T kk c from stP_at _ _ _ _ _ _ _ _ (by omega)] at h1
      rw [show (⟨stP s.T s.den r v kk c,s.den,s.bs⟩:TS).T r c=s.T r c from stP_row _ _ _ _ _ _ _] at h2
      have hd0:(s.den==0)=false:=by have:=HD.out;simpa using this
      have hd1: ¬ s.den=0:=HD.out
      have hwc:IntKind.i64.wrap ((c:Int)+1)=((c+1:Nat):Int):=by rw [IntWalk.i64_in _ (by have:=HM2.out;omega)];rfl
      have HWC:=q_ hwc
      clear hc hg2 hcm HT HO
      go_wp2
      refine st_ (n:=22) (S:=fun w'=>w'.cell? ⟨b kk,c,none⟩=some (.int .i64 (s.T kk c))∧w'.cell? ⟨b r,c,none⟩=some (.int .i64 (s.T r c))∧w'.cell? ⟨t,1,none⟩=some (.int .i64 s.den)) (ds:= [21]) ⟨h1,h2,h3⟩ (fun hHeld=>?_)
      generalize wr.drew=w5 at HT5 ae h1 h1f h2 h3 hHeld ⊢
      refine pu_ 0 50 ?_;refine pu_ 1 51 ?_;refine pu_ 2 52 ?_;refine pu_ 3 53 ?_;refine pu_ 4 54 ?_;refine tk_ 5 55 ?_;refine pu_ 6 56 ?_;refine pu_ 7 57 ?_;refine pu_ 8 58 ?_;refine pu_ 9 59 ?_;refine pu_ 10 60 ?_;refine pu_ 11 61 ?_;refine tk_ 12 62 ?_;refine pu_ 13 63 ?_;refine pu_ 14 64 ?_;refine pu_ 15 65 ?_;refine pu_ 16 66 ?_;refine pu_ 17 67 ?_;refine tk_ 18 68 ?_;refine pu_ 19 69 ?_;refine pu_ 20 70 ?_
      refine la_ 21 none (fun K hK=>?_)
      refine skip_ (w1:=?_) (by rfl) rfl ?_ ?_
      rotate_left
      ·go_simp
       rfl
      refine hK.out _ _ ?_
      clear hK K
      refine done_ (by kernel_rfl) ?_
      go_wp2
      go_roundg (m - (c+1))
      case measure=>have:=HG2.out;have:=HCM.out;omega
      case rel=>
       have hput:=(HT5.out.put HLT.out HCM.out (evT s.T s.den r v kk c)).congr (s':=⟨stP s.T s.den r v kk (c+1),s.den,s.bs⟩) (fun a d _ _=>stP_next s.T s.den r v kk c HIR.out a d) rfl rfl
       unfold evT at hput
       rw [HP.out] at hput
       exact⟨c+1,HCM.out,by omega,by first | rfl | (rw [HWC.out]) | (simp [HWC.out]),⟨hput⟩,⟨ae.out.trans (Out.set _ _ _ (HT5.out.rR kk HLT.out))⟩⟩
     ·have hcz: ¬ (c:Int) < (m:Int):=by omega
      obtain rfl:c=m:=by have:=HC.out;omega
      clear hcm hc hg2
      go_wp2
      go_roundg (n - (kk+1))
      case measure=>have:=HG.out;have:=HLT.out;omega
      case rel=>exact⟨kk+1,HLT.out,by omega,by first | rfl | (rw [HW.out]) | (simp [HW.out]),⟨HT.out.congr (fun i j _ hj=>stP_end _ _ _ _ _ _ i j hj) rfl rfl⟩,HO⟩
  ·have hltz: ¬ (kk:Int) < (n:Int):=by omega
   obtain rfl:n=kk:=by omega
   clear hkk hg hlt
   obtain⟨X,hX⟩: ∃X:Mat,X=stA s.T s.den r v:=⟨_,rfl⟩
   have HX:=q_ hX
   have HT1:=q_ (HT.out.congr (s':=⟨X,s.den,s.bs⟩) (fun i j hi _=>by rw [hX];exact stP_all _ _ _ _ _ i j hi) rfl rfl)
   clear HT hX
   have hfz:=HT1.out.h1.2
   have hold:=HT1.out.h1.1
   obtain⟨d,hd⟩: ∃d,(if p < 0 then wrap64 (-p) else p)=d:=⟨_,rfl⟩
   have hsz:=HSZ.out
   rw [hd] at hsz
   have HD2:=q_ hd
   have HSZ2:=q_ hsz
   clear hd hsz HSZ
   go_wp2_with fail
   refine(impl_size.calls p d wr HSZ2.out).mono ?_
   rintro e w6 ⟨rfl,hb6⟩
   have HT2:=q_ (HT1.out.mvB hb6)
   replace HO:=q_ (HO.out.trans (Out.below hb6 lo hi))
   clear HT1 hb6 hfz hold
   have hfz:=HT2.out.h1.2
   have hold:=HT2.out.h1.1
   have HT3:=q_ (HT2.out.putD d)
   have aa:=q_ (HO.out.trans (Out.set w6 1 (.int .i64 d) HT2.out.tR))
   by_cases hpn:p < 0
   ·have hcz0:=HT3.out.h0
    have HPN:=q_ hpn
    have hpb:decide (p < 0)=true:=decide_eq_true hpn
    go_wp2
    generalize w6.setCell ⟨t,1,none⟩ (.int .i64 d)=w7 at*
    clear HT2 HO hcz0 hfz hold
    go_loopg [85] n (fun gg v85 wr=> ∃kk:Nat,kk≤n∧n - kk≤gg∧v85= .int .i64 (kk:Int)∧Aside0 (Tm wr lo hi t g gb n m cg cb b cp ⟨ngP X kk 0,d,s.bs⟩)∧Aside0 (Out w wr lo hi))
    case atStart=>exact⟨0,Nat.zero_le _,by omega,rfl,⟨HT3.out.congr (fun i j _ _=>(ngP_zero _ i j).symm) rfl rfl⟩,aa⟩
    case round=>
     clear aa HT3
     obtain⟨kk,hkk,hg,rfl,HT,HO⟩:=hrel
     have HG:=q_ hg
     by_cases hlt:kk < n
     ·have hltz:(kk:Int) < (n:Int):=by omega
      have h0z:(0:Int)≤(kk:Int):=by omega
      have hw:IntKind.i64.wrap ((kk:Int)+1)=((kk+1:Nat):Int):=by rw [IntWalk.i64_in _ (by have:=HN.out;omega)];rfl
      have HW:=q_ hw
      have HLT:=q_ hlt
      have hog:=HT.out.og kk hlt
      clear hkk hg hlt
      go_wp2
      go_loopg [91] m (fun gg v91 w4=> ∃c:Nat,c≤m∧m - c≤gg∧v91= .int .i64 (c:Int)∧Aside0 (Tm w4 lo hi t g gb n m cg cb b cp ⟨ngP X kk c,d,s.bs⟩)∧Aside0 (Out w w4 lo hi))
      case atStart=>exact⟨0,Nat.zero_le _,by omega,rfl,HT,HO⟩
      case round=>
       clear HT HO hog
       obtain⟨c,hc,hg2,rfl,HT,HO⟩:=hrel
       have HC:=q_ hc
       have HG2:=q_ hg2
       by_cases hcm:c < m
       ·have hcz:(c:Int) < (m:Int):=by omega
        have h0c:(0:Int)≤(c:Int):=by omega
        have HCM:=q_ hcm
        have h1:=(HT.out.ob kk c HLT.out hcm).1
        have h1f:=(HT.out.ob kk c HLT.out hcm).2
        rw [show (⟨ngP X kk c,d,s.bs⟩:TS).T kk c=X kk c from ngP_at _ _ _ _ _ (by omega)] at h1
        have hwc:IntKind.i64.wrap ((c:Int)+1)=((c+1:Nat):Int):=by rw [IntWalk.i64_in _ (by have:=HM2.out;omega)];rfl
        have HWC:=q_ hwc
        clear hc hg2 hcm
        go_wp2
        go_roundg (m - (c+1))
        case measure=>have:=HG2.out;have:=HCM.out;omega
        case rel=>
         have hput:=(HT.out.put HLT.out HCM.out (wrap64 (- X kk c))).congr (s':=⟨ngP X kk (c+1),d,s.bs⟩) (fun a e _ _=>ngP_next X kk c a e) rfl rfl
         exact⟨c+1,HCM.out,by omega,by first | rfl | (rw [HWC.out]) | (simp [HWC.out]),⟨hput⟩,⟨HO.out.trans (Out.set _ _ _ (HT.out.rR kk HLT.out))⟩⟩
       ·have hcz: ¬ (c:Int) < (m:Int):=by omega
        obtain rfl:c=m:=by have:=HC.out;omega
        clear hcm hc hg2
        go_wp2
        go_roundg (n - (kk+1))
        case measure=>have:=HG.out;have:=HLT.out;omega
        case rel=>exact⟨kk+1,HLT.out,by omega,by first | rfl | (rw [HW.out]) | (simp [HW.out]),⟨HT.out.congr (fun i j _ hj=>ngP_end _ _ _ i j hj) rfl rfl⟩,HO⟩
     ·have hltz: ¬ (kk:Int) < (n:Int):=by omega
      obtain rfl:n=kk:=by omega
      have hcz2:=HT.out.h2
      have hbr:=(HT.out.oq r HR.out).1
      have hbf:=(HT.out.oq r HR.out).2
      go_wp2
      go_ret
      refine⟨rfl,((HT.out.putB HR.out (v:Int)).congr (s':=s.step r v) (fun i j hi _=>?_) ?_ rfl),HO.out.trans (Out.set _ _ _ HT.out.bR)⟩
      ·show ngP X n 0 i j=stT s.T s.den r v i j
       unfold stT
       rw [if_pos (by rw [HP.out];exact HPN.out),ngP_all _ _ _ _ hi,HX.out]
      ·show stD s.T r v=d
       unfold stD
       rw [HP.out,HD2.out]
   ·have hcz2:=HT3.out.h2
    have hbr:=(HT3.out.oq r HR.out).1
    have hbf:=(HT3.out.oq r HR.out).2
    have HPN:=q_ hpn
    go_wp2
    go_ret
    refine⟨rfl,((HT3.out.putB HR.out (v:Int)).congr (s':=s.step r v) (fun i j _ _=>?_) ?_ rfl),aa.out.trans (Out.set _ _ _ HT2.out.bR)⟩
    ·show X i j=stT s.T s.den r v i j
     unfold stT
     rw [if_neg (by rw [HP.out];omega),HX.out]
    ·show stD s.T r v=d
     unfold stD
     rw [HP.out,HD2.out]
end Go.Proofs.Ytmpkckiifeikkaa.Lq
end
section
namespace Go.Proofs.Ytmpkckiifeikkaa.Lp
open Go.RowKit Go.Proofs.YtmpkckiifeikkaaW.PrintWords Go.Proofs.YtmpkckiifeikkaaW.PrintLast Go.Proofs.YtmpkckiifeikkaaW.PrintMore Go.Proofs.Ytmpkckiifeikkaa.Pr Go.Proofs.Ytmpkckiifeikkaa.Ma Go.Proofs.Ytmpkckiifeikkaa.Dt Go.Proofs.Ytmpkckiifeikkaa.Lk Go.Proofs.Ytmpkckiifeikkaa.Lt Go.Proofs.Ytmpkckiifeikkaa.Lq
theorem tb_reads {w:World} {A0:Option Addr} {L:List (List Int)} {n m:Nat} (hC:Kd.C (Kd.slice 2 (Kd.int .i64)) w A0 L.length L) (hL:L.length=n) (hr: ∀x ∈ L,x.length=m) (hn:0 < n) (hm:0 < m):
  ∃(ad:Addr) (b:Nat→Addr) (cp:Nat→Nat),A0=some ad∧(∀i,i < n→w.cell? (ad.add i)=some (.slice (some (b i)) m (cp i)))∧ ∀i j,i < n→j < m→w.cell? ((b i).add j)=some (.int .i64 (enL L i j)):=by
 subst hL
 have key: ∀i, ∃x:Addr × Addr × Nat,i < L.length→A0=some x.1∧w.cell? (x.1.add i)=some (.slice (some x.2.1) m x.2.2)∧ ∀j,j < m→w.cell? (x.2.1.add j)=some (.int .i64 (enL L i j)):=by
  intro i
  by_cases hi:i < L.length
  ·obtain⟨ad,A',c',eA,hx,hc',hC'⟩:=at_L1 hC (i:Int) (by omega) (by omega)
   have el:rd_L1 L (i:Int)=L.getD i []:=by simp [rd_L1]
   rw [el] at hx hc' hC'
   have eln:(L.getD i []).length=m:=hr _ (by rw [List.getD_eq_getElem?_getD,List.getElem?_eq_getElem hi];exact List.getElem_mem _)
   obtain⟨aa,eA2,_⟩:=Kd.at_int hC' 0 (by omega) (by omega)
   subst eA2
   refine⟨(ad,aa,c'),fun _=>⟨eA,by rw [eln,Int.toNat_natCast] at hx;exact hx,fun j hj=>?_⟩⟩
   obtain⟨ae,eA3,hx3⟩:=Kd.at_int hC' (j:Int) (by omega) (by omega)
   injection eA3 with eA3
   subst eA3
   rw [Int.toNat_natCast,rd_nat] at hx3
   exact hx3
  ·exact⟨(⟨0,0,none⟩,⟨0,0,none⟩,0),fun h=>absurd h hi⟩
 obtain⟨f,hf⟩:=Classical.axiomOfChoice key
 refine⟨(f 0).1,fun i=>(f i).2.1,fun i=>(f i).2.2,(hf 0 hn).1,fun i hi=>?_,fun i j hi hj=>(hf i hi).2.2 j hj⟩
 have e1:=(hf 0 hn).1
 have e2:=(hf i hi).1
 rw [e1] at e2
 injection e2 with e2
 rw [e2];exact(hf i hi).2.1
def rowsM (n m:Nat) (Y:Mat):List (List Int):=(List.range n).map (fun a=>rowN Y a m)
theorem rowsM_len (n m:Nat) (Y:Mat):(rowsM n m Y).length=n:=by simp [rowsM]
theorem rowsM_next (n m:Nat) (Y:Mat):rowsM (n+1) m Y=rowsM n m Y++ [rowN Y n m]:=by unfold rowsM;rw [List.range_succ,List.map_append];rfl
theorem rowN_next (Y:Mat) (i k:Nat):rowN Y i (k+1)=rowN Y i k++ [Y i k]:=by unfold rowN;rw [List.range_succ,List.map_append];rfl
theorem rowsM_at {n m:Nat} {Y:Mat} {i:Nat} (hi:i < n):(rowsM n m Y).getD i []=rowN Y i m:=by unfold rowsM;rw [List.getD_eq_getElem?_getD,List.getElem?_map,List.getElem?_range hi];rfl
theorem rowN_at {m:Nat} {Y:Mat} {i k:Nat} (hk:k < m):(rowN Y i m).getD k 0=Y i k:=by unfold rowN;rw [List.getD_eq_getElem?_getD,List.getElem?_map,List.getElem?_range hk];rfl
theorem rowsM_congr {n m:Nat} {Y Z:Mat} (h: ∀i j,i < n→j < m→Y i j=Z i j):rowsM n m Y=rowsM n m Z:=List.map_congr_left (fun i hi=>List.map_congr_left (fun j hj=>h i j (List.mem_range.1 hi) (List.mem_range.1 hj)))
theorem rowsM_set {n m:Nat} {Y:Mat} {i k:Nat} (x:Int):(rowsM n m Y).set i ((rowN Y i m).set k x)=rowsM n m (mset Y i k x):=by
 refine List.ext_getElem (by simp [rowsM]) (fun a h1 h2=>?_)
 rw [List.getElem_set]
 have ha:a < n:=by simpa [rowsM] using h2
 simp only [rowsM,List.getElem_map,List.getElem_range]
 by_cases e:i=a
 ·subst e
  rw [if_pos rfl]
  refine List.ext_getElem (by simp [rowN]) (fun b h3 h4=>?_)
  rw [List.getElem_set]
  simp only [rowN,List.getElem_map,List.getElem_range,mset]
  by_cases e2:k=b
  ·subst e2;simp
  ·rw [if_neg e2,if_neg (fun q=>e2 q.2.symm)]
 ·rw [if_neg e]
  refine List.map_congr_left (fun b _=>?_)
  unfold mset
  rw [if_neg (fun q=>e q.1.symm)]
structure Pt (w wr:World) (g7:Nat) (u0 u2:Value) (den:Int) (L:List (List Int)) (B:List Int):Prop where
 below:Below w.heap.size w wr
 g:w.heap.size≤g7
 blk:wr.heap[g7]?=some (.cells #[u0, .int .i64 den,u2] 100 (0,0))
 S:Kd.S (Kd.slice 2 (Kd.int .i64)) 23 wr w.heap.size (fun k=>some k≠u2.ownBlock) u0 L
 R:Kd.R (Kd.int .i64) 2 wr w.heap.size (fun _=>True) u2 B
structure Pu (w wr:World) (g7:Nat) (u0 u2:Value) (den:Int) (L:List (List Int)) (B:List Int) (v:Value) (X:List Int):Prop where
 below:Below w.heap.size w wr
 g:w.heap.size≤g7
 blk:wr.heap[g7]?=some (.cells #[u0, .int .i64 den,u2] 100 (0,0))
 S:Kd.S (Kd.slice 2 (Kd.int .i64)) 23 wr w.heap.size (fun k=>some k≠u2.ownBlock∧some k≠v.ownBlock) u0 L
 R:Kd.R (Kd.int .i64) 2 wr w.heap.size (fun k=>True∧some k≠v.ownBlock) u2 B
 X:Kd.R (Kd.int .i64) 2 wr w.heap.size (fun k=>some k≠u2.ownBlock) v X
section
variable {w wr w1:World} {g7:Nat} {u0 u2 v v1:Value} {den:Int} {L:List (List Int)} {B X Y:List Int}
theorem Pt.mv (h:Pt w wr g7 u0 u2 den L B) (hb:Below wr.heap.size wr w1):Pt w w1 g7 u0 u2 den L B:=
 ⟨below_step h.below hb,h.g,blk_below h.blk hb,Kd.S_below h.S hb,Kd.R_below h.R hb⟩
theorem Pu.mv (h:Pu w wr g7 u0 u2 den L B v X) (hb:Below wr.heap.size wr w1):Pu w w1 g7 u0 u2 den L B v X:=
 ⟨below_step h.below hb,h.g,blk_below h.blk hb,Kd.S_below h.S hb,Kd.R_below h.R hb,Kd.R_below h.X hb⟩
theorem Pu.new (h:Pt w wr g7 u0 u2 den L B) (hb:Below wr.heap.size wr w1) (hX:Kd.R (Kd.int .i64) 2 w1 wr.heap.size (fun _=>True) v X):Pu w w1 g7 u0 u2 den L B v X:=
 ⟨below_step h.below hb,h.g,blk_below h.blk hb,Kd.S_elder' h.S (Kd.R_base hX) hb,Kd.R_elder' h.R (Kd.R_base hX) hb,Kd.R_mono (Kd.R_lower (Kd.R_new' hX (Kd.R_lt h.R)) h.below.size) (fun _ hk=>hk.2)⟩
theorem Pu.grow (h:Pu w wr g7 u0 u2 den L B v X) (hb:Below w.heap.size w w1) (hg:wr.grownBy w1 v.ownBlock) (hat:v1.ownBlock=v.ownBlock∨ ∃b,v1.ownBlock=some b∧wr.heap.size≤b) (hX:Kd.R (Kd.int .i64) 2 w1 w.heap.size (fun k=>some k≠u2.ownBlock) v1 Y):Pu w w1 g7 u0 u2 den L B v1 Y:=
 ⟨hb,h.g,blk_grown h.blk hg (Kd.R_ne h.X h.blk (by decide)),Kd.S_after h.S hg hat,Kd.R_after h.R hg hat,hX⟩
theorem Pu.other (h:Pu w wr g7 u0 u2 den L B v X) (hg:wr.grownBy w1 v.ownBlock) {g:Nat} {cs:Array Value} (hblk:wr.heap[g]?=some (.cells cs 100 (0,0))):w1.heap[g]?=some (.cells cs 100 (0,0)):=blk_grown hblk hg (Kd.R_ne h.X hblk (by decide))
theorem Pt.putB {gb c l:Nat} (h:Pt w wr g7 u0 (.slice (some ⟨gb,0,none⟩) l c) den L B) (j:Nat) (x:Int):Pt w (wr.setCell ⟨gb,j,none⟩ (.int .i64 x)) g7 u0 (.slice (some ⟨gb,0,none⟩) l c) den L (B.set j x)∧wr.grownBy (wr.setCell ⟨gb,j,none⟩ (.int .i64 x)) (Value.slice (some ⟨gb,0,none⟩) l c).ownBlock:=by
 have hp:=Kd.R_putg h.R (j:Int) x
 rw [Int.toNat_natCast] at hp
 have ho:(Value.slice (some ⟨gb,0,none⟩) l c).ownBlock=some gb:=by simp [Value.ownBlock]
 refine⟨⟨h.below.setCell (Kd.R_base h.R gb ho) _,h.g,blk_grown h.blk hp.2 (ho ▸ Kd.R_ne h.R h.blk (by decide)),?_,hp.1⟩,ho ▸ hp.2⟩
 refine Kd.S_mono (Kd.S_step (Kd.S_bound h.S) (fun k hk hlt=>hp.2.block k hlt (ho ▸ hk.1))) (fun _ hk=>hk.1)
theorem tsetR {α:Type} {d:Kd α} {e base g t j:Nat} {ok:Nat→Prop} {W:World} {u x:Value} {xs:List α} {cs:Array Value} (h:d.R e W base ok u xs) (hg:W.heap[g]?=some (.cells cs t (0,0))) (ht: ∀q,q ∈ e::d.E→q≠t):d.R e (W.setCell ⟨g,j,none⟩ x) base ok u xs:=Kd.R_set h hg ht j x
theorem tsetS {α:Type} {d:Kd α} {e base g t j:Nat} {ok:Nat→Prop} {W:World} {u x:Value} {xs:List α} {cs:Array Value} (h:Kd.S d e W base ok u xs) (hg:W.heap[g]?=some (.cells cs t (0,0))) (ht: ∀q,q ∈ e::d.E→q≠t):Kd.S d e (W.setCell ⟨g,j,none⟩ x) base ok u xs:=
 Kd.S_mono (Kd.S_step (Kd.S_bound h) (fun k hk hlt=>Below.heap_setCell W ⟨g,j,none⟩ x k (fun e1=>by
  obtain⟨_,_,_,q,hq,cells,hc⟩:=hk
  have e2:k=g:=e1
  rw [e2,hg] at hc
  injection hc with h1
  injection h1 with _ h2 _
  exact ht q hq h2.symm))) (fun _ hk=>hk.1)
theorem Pt.putD (h:Pt w wr g7 u0 u2 den L B) (d:Int):Pt w (wr.setCell ⟨g7,1,none⟩ (.int .i64 d)) g7 u0 u2 d L B:=
 ⟨h.below.setCell h.g _,h.g,blk_put h.blk 1 _ rfl,tsetS h.S h.blk (by decide),tsetR h.R h.blk (by decide)⟩
theorem Pt.rows {u:Value} (hb:Below w.heap.size w wr) (hg:w.heap.size≤g7) (hblk:wr.heap[g7]?=some (.cells #[u0, .int .i64 den,u2] 100 (0,0)))
  (hS:Kd.S (Kd.slice 2 (Kd.int .i64)) 23 wr w.heap.size (fun k=>some k≠u2.ownBlock) u L) (hR:Kd.R (Kd.int .i64) 2 wr w.heap.size (fun _=>True) u2 B):Pt w (wr.setCell ⟨g7,0,none⟩ u) g7 u u2 den L B:=
 ⟨hb.setCell hg _,hg,blk_put hblk 0 _ rfl,tsetS hS hblk (by decide),tsetR hR hblk (by decide)⟩
theorem S_row {e base n' cap i:Nat} {W:World} {ok:Nat→Prop} {ad:Addr} {Ls:List (List Int)} (h:Kd.S (Kd.slice 2 (Kd.int .i64)) e W base ok (.slice (some ad) n' cap) Ls) (hi:i < n'): ∃A c,W.cell? (ad.add i)=some (.slice A (Ls.getD i []).length c):=by
 obtain⟨oki,c,hcl,hM,hcc,_,_⟩:=Kd.S_borrow h ([]:List Int) (i:Int) (by omega) (by omega)
 rw [Int.toNat_natCast] at hM hcc
 obtain⟨v,hc,hR⟩:=hM
 subst hc
 have hv:=hcc 0 v rfl
 rw [show i*(Kd.slice 2 (Kd.int .i64)).sz+0=i from by show i*1+0=i;omega] at hv
 obtain⟨A,c,rfl⟩:=Kd.R_slice hR
 exact⟨A,c,hv⟩
theorem S_put {e base n' cap i k:Nat} {W:World} {ok:Nat→Prop} {ad:Addr} {Ls:List (List Int)} {v13:Value} (h:Kd.S (Kd.slice 2 (Kd.int .i64)) e W base ok (.slice (some ad) n' cap) Ls) (hi:i < n') (hcell:W.cell? (ad.add i)=some v13) (hk:k < (Ls.getD i []).length):
  ∃g c,v13= .slice (some ⟨g,0,none⟩) (Ls.getD i []).length c∧ok g∧some g≠(Value.slice (some ad) n' cap).ownBlock∧(∃cells,W.heap[g]?=some (.cells cells 2 (0,0)))∧W.cell? ⟨g,k,none⟩=some (.int .i64 ((Ls.getD i []).getD k 0))∧W.frozen? ⟨g,k,none⟩=false∧base≤g∧
   ∀x,W.grownBy (W.setCell ⟨g,k,none⟩ (.int .i64 x)) (some g)∧Kd.S (Kd.slice 2 (Kd.int .i64)) e (W.setCell ⟨g,k,none⟩ (.int .i64 x)) base ok (.slice (some ad) n' cap) (Ls.set i ((Ls.getD i []).set k x)):=by
 obtain⟨oki,c,hcl,hM,hcc,hoki,hback⟩:=Kd.S_borrow h ([]:List Int) (i:Int) (by omega) (by omega)
 rw [Int.toNat_natCast] at hM hcc hback
 obtain⟨v,hc,hR⟩:=hM
 subst hc
 have hv:=hcc 0 v rfl
 rw [show i*(Kd.slice 2 (Kd.int .i64)).sz+0=i from by show i*1+0=i;omega,hcell] at hv
 injection hv with hv
 subst hv
 obtain⟨g,cap8,hv8,hb8,hl8,cells,hc8⟩:=Kd.R_form hR (by omega)
 have ho:v13.ownBlock=some g:=by rw [hv8];simp [Value.ownBlock]
 have hokg:=hR.1 g ho
 rw [hv8] at hR
 have hat:=Kd.R_celln 0 hR (k:Int) (by omega) (by omega)
 rw [Int.toNat_natCast] at hat
 refine⟨g,cap8,hv8,(hoki g hokg).1,(hoki g hokg).2,⟨cells,hc8⟩,by simpa [rdOf] using hat.1,hat.2,hb8,fun x=>?_⟩
 have hp:=Kd.R_putg hR (k:Int) x
 rw [Int.toNat_natCast] at hp
 refine⟨hp.2,hback hp.2 (fun q hq=>by injection hq with hq;rw [← hq];exact hokg) ⟨_,by rw [hv8],?_⟩⟩
 have e:=hp.1
 rw [show (Ls.getD i []).length=((Ls.getD i []).set k x).length from by simp] at e ⊢
 exact e
end
end Go.Proofs.Ytmpkckiifeikkaa.Lp
end
section
namespace Go.Proofs.Ytmpkckiifeikkaa.Dr
open Go.RowKit Go.Proofs.YtmpkckiifeikkaaW.PrintWords Go.Proofs.YtmpkckiifeikkaaW.PrintLast Go.Proofs.YtmpkckiifeikkaaW.PrintMore Go.Proofs.Ytmpkckiifeikkaa.Ma Go.Proofs.Ytmpkckiifeikkaa.Pr Go.Proofs.Ytmpkckiifeikkaa.Lq Go.Proofs.Ytmpkckiifeikkaa.Lp
theorem vec_C {w:World} {b n:Nat} (hn:n≤1099511627776) (f:Nat→Int) (hx: ∀k,k < n→w.cell? ⟨b,k,none⟩=some (.int .i64 (f k))):Kd.C (Kd.int .i64) w (some ⟨b,0,none⟩) ((List.range n).map f).length ((List.range n).map f):=by
 have hl:((List.range n).map f).length=n:=by simp
 refine⟨rfl,by rw [hl];omega,fun _=>⟨_,rfl,fun c p hp=>?_⟩⟩
 have hc:c < n:=by have:=(List.getElem?_eq_some_iff.1 hp).1;omega
 have hpe:p=f c:=by
  rw [List.getElem?_map,List.getElem?_range hc] at hp
  exact(Option.some.inj hp).symm
 subst hpe
 refine⟨[.int .i64 (f c)],rfl,rfl,fun u v hv=>?_⟩
 have hu:u=0:=by cases u with
  | zero=>rfl
  | succ u=>simp at hv
 subst hu
 have hv:Value.int .i64 (f c)=v:=by simpa using hv
 rw [← hv]
 have e:(⟨b,0,none⟩:Addr).add (c*(Kd.int .i64).sz+0)=⟨b,c,none⟩:=by
  show (⟨b,0,none⟩:Addr).add (c*1+0)=_
  rw [Nat.mul_one,Nat.add_zero,add_off];try rw [Nat.zero_add]
 rw [e]
 exact hx c hc
structure Dm (w:World) (lo gm n c:Nat) (b cp:Nat→Nat):Prop where
 g0:lo≤gm∧gm < w.heap.size
 cap:n≤c
 row: ∀j,j < n→w.cell? ⟨gm,j,none⟩=some (.slice (some ⟨b j,0,none⟩) n (cp j))
 rr: ∀j,j < n→lo≤b j∧b j < w.heap.size∧b j≠gm∧n≤cp j
 ints: ∀j k,j < n→k < n→(∃x,w.cell? ⟨b j,k,none⟩=some (.int .i64 x))∧w.frozen? ⟨b j,k,none⟩=false
section
variable {w w':World} {lo gm n c:Nat} {b cp:Nat→Nat} (h:Dm w lo gm n c b cp)
include h
theorem Dm.down {lo2:Nat} (hl:lo2≤lo):Dm w lo2 gm n c b cp:=⟨⟨Nat.le_trans hl h.g0.1,h.g0.2⟩,h.cap,h.row,fun j hj=>⟨Nat.le_trans hl (h.rr j hj).1,(h.rr j hj).2⟩,h.ints⟩
theorem Dm.keep {g:Nat} (hk:KeepBut w w' g none) (hg:g < lo):Dm w' lo gm n c b cp:=by
 have h0:=h.g0
 refine⟨⟨h0.1,Nat.lt_of_lt_of_le h0.2 hk.1⟩,h.cap,fun j hj=>keep_cell hk (h.row j hj) (by show gm≠g;omega),fun j hj=>?_,fun j k hj hk2=>?_⟩
 ·have:=h.rr j hj;exact⟨this.1,Nat.lt_of_lt_of_le this.2.1 hk.1,this.2.2⟩
 ·have hr:=h.rr j hj
  obtain⟨⟨x,hx⟩,hf⟩:=h.ints j k hj hk2
  exact⟨⟨x,keep_cell hk hx (by show b j≠g;omega)⟩,(keep_froz hk hr.2.1 (by show b j≠g;omega)).trans hf⟩
theorem Dm.set {d i:Nat} {v:Value} (hg:d≠gm) (hb: ∀j,j < n→d≠b j):Dm (w.setCell ⟨d,i,none⟩ v) lo gm n c b cp:=by
 have hs:(w.setCell ⟨d,i,none⟩ v).heap.size=w.heap.size:=by simp [World.setCell]
 refine⟨by rw [hs];exact h.g0,h.cap,fun j hj=>(cset_blk hg).trans (h.row j hj),fun j hj=>by rw [hs];exact h.rr j hj,fun j k hj hk=>?_⟩
 obtain⟨⟨x,hx⟩,hf⟩:=h.ints j k hj hk
 exact⟨⟨x,(cset_blk (hb j hj)).trans hx⟩,fset.trans hf⟩
theorem Dm.put {i k:Nat} (hi:i < n) (hk:k < n) (x:Int):Dm (w.setCell ⟨b i,k,none⟩ (.int .i64 x)) lo gm n c b cp:=by
 have hs:(w.setCell ⟨b i,k,none⟩ (.int .i64 x)).heap.size=w.heap.size:=by simp [World.setCell]
 refine⟨by rw [hs];exact h.g0,h.cap,fun j hj=>(cset_blk (h.rr i hi).2.2.1).trans (h.row j hj),fun j hj=>by rw [hs];exact h.rr j hj,fun j q hj hq=>?_⟩
 obtain⟨⟨y,hy⟩,hf⟩:=h.ints j q hj hq
 refine⟨?_,fset.trans hf⟩
 by_cases e:b i=b j∧k=q
 ·obtain⟨e1,rfl⟩:=e
  rw [← e1]
  obtain⟨⟨z,hz⟩,_⟩:=h.ints i k hi hk
  exact⟨x,cset_same hz⟩
 ·refine⟨y,?_⟩
  by_cases e1:b i=b j
  ·exact(cset_off (fun q2=>e ⟨e1,q2⟩)).trans hy
  ·exact(cset_blk e1).trans hy
open Classical in
theorem Dm.C (hn:n≤1000): ∃M:List (List Int),M.length=n∧(∀x ∈ M,x.length=n)∧Kd.C (Kd.slice 2 (Kd.int .i64)) w (some ⟨gm,0,none⟩) M.length M:=by
 have hx: ∀j k, ∃x:Int,j < n→k < n→w.cell? ⟨b j,k,none⟩=some (.int .i64 x):=fun j k=>by
  by_cases q:j < n∧k < n
  ·obtain⟨x,hx⟩:=(h.ints j k q.1 q.2).1
   exact⟨x,fun _ _=>hx⟩
  ·exact⟨0,fun a b=>absurd ⟨a,b⟩ q⟩
 have hf: ∃f:Nat→Nat→Int, ∀j k,j < n→k < n→w.cell? ⟨b j,k,none⟩=some (.int .i64 (f j k)):=by
  refine⟨fun j k=>Classical.choose (hx j k),fun j k=>Classical.choose_spec (hx j k)⟩
 obtain⟨f,hf⟩:=hf
 refine⟨(List.range n).map (fun j=>(List.range n).map (f j)),by simp,fun x hm=>?_,?_⟩
 ·obtain⟨j,_,rfl⟩:=List.mem_map.1 hm
  simp
 ·have hl:((List.range n).map (fun j=>(List.range n).map (f j))).length=n:=by simp
  refine⟨rfl,by rw [hl];omega,fun _=>⟨_,rfl,fun q p hp=>?_⟩⟩
  have hc:q < n:=by have:=(List.getElem?_eq_some_iff.1 hp).1;omega
  have hpe:p=(List.range n).map (f q):=by
   rw [List.getElem?_map,List.getElem?_range hc] at hp
   exact(Option.some.inj hp).symm
  subst hpe
  have hlq:((List.range n).map (f q)).length=n:=by simp
  refine⟨[.slice (some ⟨b q,0,none⟩) ((List.range n).map (f q)).length (cp q)],rfl,⟨_,_,rfl,by rw [hlq];exact(h.rr q hc).2.2.2,vec_C (by omega) (f q) (fun k hk=>hf q k hc hk)⟩,fun u v hv=>?_⟩
  have hu:u=0:=by cases u with
   | zero=>rfl
   | succ u=>simp at hv
  subst hu
  have hv:Value.slice (some ⟨b q,0,none⟩) ((List.range n).map (f q)).length (cp q)=v:=by simpa using hv
  rw [← hv,hlq]
  have e:(⟨gm,0,none⟩:Addr).add (q*(Kd.slice 2 (Kd.int .i64)).sz+0)=⟨gm,q,none⟩:=by
   show (⟨gm,0,none⟩:Addr).add (q*1+0)=_
   rw [Nat.mul_one,Nat.add_zero,add_off];try rw [Nat.zero_add]
  rw [e]
  exact h.row q hc
end
theorem S_cap {e base n' cap i:Nat} {W:World} {ok:Nat→Prop} {ad:Addr} {Ls:List (List Int)} (h:Kd.S (Kd.slice 2 (Kd.int .i64)) e W base ok (.slice (some ad) n' cap) Ls) (hi:i < n'): ∃A c,W.cell? (ad.add i)=some (.slice A (Ls.getD i []).length c)∧(Ls.getD i []).length≤c:=by
 obtain⟨oki,c,hcl,hM,hcc,_,_⟩:=Kd.S_borrow h ([]:List Int) (i:Int) (by omega) (by omega)
 rw [Int.toNat_natCast] at hM hcc
 obtain⟨v,hc,hR⟩:=hM
 subst hc
 have hv:=hcc 0 v rfl
 rw [show i*(Kd.slice 2 (Kd.int .i64)).sz+0=i from by show i*1+0=i;omega] at hv
 obtain⟨A,c,rfl⟩:=Kd.R_slice hR
 exact⟨A,c,hv,(Kd.R_reads' hR).2.1⟩
theorem Dm.of {w:World} {e base:Nat} {ok:Nat→Prop} {v:Value} {M:List (List Int)} {n:Nat} (h:Kd.S (Kd.slice 2 (Kd.int .i64)) e w base ok v M) (hM:M.length=n) (hr: ∀x ∈ M,x.length=n) (hn:0 < n): ∃gm c b cp,v= .slice (some ⟨gm,0,none⟩) n c∧Dm w base gm n c b cp∧ok gm∧ ∀j,j < n→ok (b j):=by
 obtain⟨gm,c,rfl,hb,hl,cells,hc⟩:=Kd.S_form h (by omega)
 have hcap:=(Kd.S_reads' h).2.1
 rw [hM] at hcap
 have rows: ∀j:Nat, ∃(p:Nat × Nat),j < n→w.cell? ⟨gm,j,none⟩=some (.slice (some ⟨p.1,0,none⟩) n p.2)∧base≤p.1∧p.1 < w.heap.size∧p.1≠gm∧n≤p.2∧(∀k,k < n→(∃x,w.cell? ⟨p.1,k,none⟩=some (.int .i64 x))∧w.frozen? ⟨p.1,k,none⟩=false)∧ok p.1:=fun j=>by
  by_cases hj:j < n
  ·have hlen:(M.getD j []).length=n:=by
    rw [List.getD_eq_getElem?_getD,List.getElem?_eq_getElem (by omega)]
    exact hr _ (List.getElem_mem _)
   obtain⟨A,cj,hcell,hcj⟩:=S_cap h (show j < M.length by omega)
   rw [add_off,Nat.zero_add] at hcell
   obtain⟨g1,c1,e1,o1,n1,t1,x1,f1,b1,_⟩:=S_put h (show j < M.length by omega) (by rw [add_off,Nat.zero_add];exact hcell) (show 0 < (M.getD j []).length by omega)
   rw [hlen] at e1 hcell
   rw [e1] at hcell
   injection e1 with e1a e1b e1c
   refine⟨(g1,c1),fun _=>⟨hcell,b1,lt_of_cell x1,fun q=>n1 (by rw [show g1=gm from q];simp [Value.ownBlock]),?_,fun k hk=>?_,o1⟩⟩
   ·show n≤c1
    omega
   ·obtain⟨g2,c2,e2,o2,n2,t2,x2,f2,b2,_⟩:=S_put h (show j < M.length by omega) (by rw [add_off,Nat.zero_add];exact hcell) (show k < (M.getD j []).length by omega)
    injection e2 with e3
    injection e3 with e3
    injection e3 with e3
    subst e3
    exact⟨⟨_,x2⟩,f2⟩
  ·exact⟨(0,0),fun q=>absurd q hj⟩
 obtain⟨f,hf⟩:=Classical.axiomOfChoice rows
 have hok:ok gm:=(Kd.S_R h).1 gm (by rw [hM];simp [Value.ownBlock])
 rw [hM]
 exact⟨gm,c,fun j=>(f j).1,fun j=>(f j).2,rfl,⟨⟨hb,hl⟩,hcap,fun j hj=>(hf j hj).1,fun j hj=>⟨(hf j hj).2.1,(hf j hj).2.2.1,(hf j hj).2.2.2.1,(hf j hj).2.2.2.2.1⟩,fun j k hj hk=>(hf j hj).2.2.2.2.2.1 k hk⟩,hok,fun j hj=>(hf j hj).2.2.2.2.2.2⟩
end Go.Proofs.Ytmpkckiifeikkaa.Dr
end
section
namespace Go.Proofs.Ytmpkckiifeikkaa.Dr
open Go.RowKit Go.Proofs.YtmpkckiifeikkaaW.PrintWords Go.Proofs.YtmpkckiifeikkaaW.PrintLast Go.Proofs.YtmpkckiifeikkaaW.PrintMore Go.Proofs.Ytmpkckiifeikkaa.Ma Go.Proofs.Ytmpkckiifeikkaa.Pr Go.Proofs.Ytmpkckiifeikkaa.Lq
attribute [local go_sem] max2_int min2_int max_two min_two max_three min_three max_four min_four
theorem drawM_c {w0 w:World} {g:Nat} (h:Srm w0 w g) (hB:Below w0.heap.size w0 w) (n:Nat) (hn:n≤5) (hn0:0 < n) (most:Int):Calls Try.prog 217 #[.pointer (some ⟨g,0,none⟩), .int .i64 (n:Int), .int .i64 most] w fun e w'=> ∃gm c b cp,e= .returned (.slice (some ⟨gm,0,none⟩) n c)∧Dm w' w.heap.size gm n c b cp∧Stp w0 w g w':=by
 obtain⟨bs,a,hh,hI,hs⟩:=h
 obtain⟨r,⟨k,e⟩,p1,p2,p3⟩:=drawM_ex hs hh most n hn
 refine(spec_l01DrawM.calls k g bs a hh (n:Int) most r.1 r.2.1 r.2.2 w0 w hI hB (e k (Nat.le_refl _))).mono ?_
 rintro e w' ⟨v,rfl,hS,hI',hB',hK⟩
 obtain⟨gm,c,b,cp,rfl,hD,_⟩:=Dm.of hS p1 p2 hn0
 exact⟨gm,c,b,cp,rfl,hD,⟨⟨bs,_,_,hI',p3⟩,hB',hK⟩⟩
theorem drawP_c {w0 w:World} {g:Nat} (h:Srm w0 w g) (hB:Below w0.heap.size w0 w) (n:Nat) (hn:n≤5) (hn0:0 < n):Calls Try.prog 218 #[.pointer (some ⟨g,0,none⟩), .int .i64 (n:Int)] w fun e w'=> ∃gm c b cp,e= .returned (.slice (some ⟨gm,0,none⟩) n c)∧Dm w' w.heap.size gm n c b cp∧Stp w0 w g w':=by
 have HM:=q_ (drawM_c h hB n hn hn0 3)
 have HG:=q_ h.lt
 have HE:=q_ hB.size
 have HN:=q_ hn
 clear h hB hn hn0
 go_enter Try.func218,Try.ntmps218
 go_wp2_with fail
 refine HM.out.mono ?_
 rintro e w1 ⟨gm,c,b,cp,rfl,hD,hS⟩
 have DM:=q_ hD
 have ST:=q_ hS
 clear hD hS HM
 go_wp2
 go_loopg [6] n (fun gg v6 wr=> ∃(i:Nat),i≤n∧n - i≤gg∧v6= .int .i64 (i:Int)∧Aside0 (Dm wr w.heap.size gm n c b cp)∧Aside0 (Stp w0 w g wr))
 case atStart=>exact⟨0,Nat.zero_le _,by omega,rfl,DM,ST⟩
 case round=>
  clear DM ST
  obtain⟨i,hi',hg,rfl,DM,ST⟩:=hrel
  have HGG:=q_ hg
  by_cases hlt:i < n
  ·have hltz:(i:Int) < (n:Int):=by omega
   have h0z:(0:Int)≤(i:Int):=by omega
   have hwi:IntKind.i64.wrap ((i:Int)+1)=((i+1:Nat):Int):=by rw [IntWalk.i64_in _ (by have:=HN.out;omega)];rfl
   have HWI:=q_ hwi
   have HLT:=q_ hlt
   have hrow:=DM.out.row i hlt
   obtain⟨⟨x,hx⟩,hfx⟩:=DM.out.ints i i hlt hlt
   have hr:=DM.out.rr i hlt
   have DM2:=q_ (DM.out.put hlt hlt 0)
   have ST2:=q_ (ST.out.set HE.out (b i) i (.int .i64 0) hr.1 (by have:=HG.out;omega))
   have HR:=q_ hr
   clear hi' hg hlt DM ST hr
   go_wp2
   clear hrow hx hfx
   generalize wr.setCell ⟨b i,i,none⟩ (.int .i64 0)=w2 at*
   go_loopg [8,9] n (fun gg v8 v9 wr2=> ∃(k:Nat) (s:Int),k≤n∧n - k≤gg∧v8= .int .i64 s∧v9= .int .i64 (k:Int)∧Aside0 (Dm wr2 w.heap.size gm n c b cp)∧Aside0 (Stp w0 w g wr2))
   case atStart=>exact⟨0,1,Nat.zero_le _,by omega,rfl,rfl,DM2,ST2⟩
   case round=>
    clear DM2 ST2
    obtain⟨k,s,hk',hg2,rfl,rfl,DM,ST⟩:=hrel
    have HG2:=q_ hg2
    by_cases hkn:k < n
    ·have hknz:(k:Int) < (n:Int):=by omega
     have h0k:(0:Int)≤(k:Int):=by omega
     have hwk:IntKind.i64.wrap ((k:Int)+1)=((k+1:Nat):Int):=by rw [IntWalk.i64_in _ (by have:=HN.out;omega)];rfl
     have HWK:=q_ hwk
     have HKN:=q_ hkn
     clear hk' hg2 hkn
     go_wp2
     have hb:=below_drew (Below.refl wr.heap.size wr)
     replace ST:=q_ (ST.out.trans (Stp.of_below ST.out.src ST.out.below hb))
     replace DM:=q_ (DM.out.keep (KeepBut.of_below hb g none) HG.out)
     obtain⟨⟨x,hx⟩,hfx⟩:=DM.out.ints i k HLT.out HKN.out
     refine st_ (n:=13) (S:=fun w'=>w'.cell? ⟨b i,k,none⟩=some (.int .i64 x)) (ds:= []) hx (fun hHeld=>?_)
     clear hb hx hfx
     generalize wr.drew=w3 at DM ST hHeld ⊢
     refine pu_ 0 30 ?_;refine pu_ 1 31 ?_;refine pu_ 2 32 ?_;refine pu_ 3 33 ?_;refine pu_ 5 35 ?_;refine pu_ 6 36 ?_;refine pu_ 7 37 ?_;refine tk_ 4 34 ?_;refine tk_ 8 38 ?_;refine pu_ 9 39 ?_;refine pu_ 10 40 ?_;refine pu_ 11 41 ?_;refine pu_ 12 8 ?_
     refine done_ (by kernel_rfl) ?_
     clear hHeld
     go_wp2
     all_goals (go_roundg (n - (k+1));(case measure=>have:=HG2.out;have:=HKN.out;omega);(case rel=>exact⟨k+1,_,HKN.out,by omega,rfl,by first | rfl | (rw [HWK.out]) | (simp [HWK.out]),DM,ST⟩))
    ·have hknz: ¬ (k:Int) < (n:Int):=by omega
     clear hk' hg2 hkn
     go_wp2_with fail
     refine(next_c ST.out.src ST.out.below 3).mono ?_
     rintro e w3 ⟨y,rfl,_,hS⟩
     replace ST:=q_ (ST.out.trans hS)
     replace DM:=q_ (DM.out.keep hS.keep HG.out)
     obtain⟨⟨x,hx⟩,hfx⟩:=DM.out.ints i i HLT.out HLT.out
     clear hS
     go_wp2
     go_roundg (n - (i+1))
     case measure=>have:=HGG.out;have:=HLT.out;omega
     case rel=>exact⟨i+1,HLT.out,by omega,by first | rfl | (rw [HWI.out]) | (simp [HWI.out]),⟨DM.out.put HLT.out HLT.out _⟩,⟨ST.out.set HE.out (b i) i _ HR.out.1 (by have:=HG.out;have:=HR.out.1;omega)⟩⟩
  ·have hltz: ¬ (i:Int) < (n:Int):=by omega
   clear hi' hg hlt
   go_wp2
   go_ret
   exact⟨_,_,rfl,⟨_,_,DM.out⟩,ST.out⟩
end Go.Proofs.Ytmpkckiifeikkaa.Dr
end
section
namespace Go.Proofs.Ytmpkckiifeikkaa.Dr
open Go.RowKit Go.Proofs.YtmpkckiifeikkaaW.PrintWords Go.Proofs.YtmpkckiifeikkaaW.PrintLast Go.Proofs.YtmpkckiifeikkaaW.PrintMore Go.Proofs.Ytmpkckiifeikkaa.Ma Go.Proofs.Ytmpkckiifeikkaa.Pr Go.Proofs.Ytmpkckiifeikkaa.Lq
theorem lit_reps {W:World} {base:Nat} {ok:Nat→Prop}: ∀xs:List Int,Reps ((Kd.int .i64).M W base ok) (Kd.int .i64).sz xs (xs.map (fun x=>Value.int .i64 x))
 | []=>Reps.none _ _
 | x::xs=>Reps.one (show Kd.M (Kd.int .i64) _ _ _ x [.int .i64 x] from rfl) (lit_reps xs)
theorem Stp.lo {w0 wE W W1:World} {g:Nat} (h:Stp w0 wE g W) (hE:w0.heap.size≤wE.heap.size) (hg:g < wE.heap.size) (hb:Below wE.heap.size W W1):Stp w0 wE g W1:=
 ⟨h.src.keep (hb.block g hg),h.below.trans ⟨hb.os,hb.tape,hb.output,hb.size,fun i hi=>hb.block i (Nat.lt_of_lt_of_le hi hE)⟩,⟨Nat.le_trans h.keep.1 hb.size,fun i hi h1 h2=>(hb.block i hi).trans (h.keep.2 i hi h1 h2)⟩⟩
theorem Dm.grow {w w1:World} {lo gm n c:Nat} {b cp:Nat→Nat} (h:Dm w lo gm n c b cp) {row:Option Nat} (hg:w.grownBy w1 row) (hr:some gm≠row∧ ∀j,j < n→some (b j)≠row):Dm w1 lo gm n c b cp:=by
 have cell: ∀ {p:Addr} {v:Value},w.cell? p=some v→some p.block≠row→w1.cell? p=some v:=fun {p v} hp hn=>by
  have:=World.block_lt_of_cell? w _ hp
  rw [← hp];unfold World.cell?;rw [hg.block _ this hn]
 have froz: ∀ {p:Addr},p.block < w.heap.size→some p.block≠row→w1.frozen? p=w.frozen? p:=fun {p} hl hn=>by
  unfold World.frozen?;rw [hg.block _ hl hn]
 refine⟨⟨h.g0.1,Nat.lt_of_lt_of_le h.g0.2 hg.size⟩,h.cap,fun j hj=>cell (h.row j hj) hr.1,fun j hj=>?_,fun j k hj hk=>?_⟩
 ·have:=h.rr j hj;exact⟨this.1,Nat.lt_of_lt_of_le this.2.1 hg.size,this.2.2⟩
 ·obtain⟨⟨x,hx⟩,hf⟩:=h.ints j k hj hk
  exact⟨⟨x,cell hx (hr.2 j hj)⟩,(froz (h.rr j hj).2.1 (hr.2 j hj)).trans hf⟩
structure DQ (w0 w wr:World) (g g4 g5 n gm c:Nat) (b cp:Nat→Nat) (vq:Value):Prop where
 st:Stp w0 w g wr
 dm:Dm wr w.heap.size gm n c b cp
 b4:wr.heap[g4]?=some (.cells #[.slice none 0 0, .slice none 0 0] 30 (0,0))
 b5:wr.heap[g5]?=some (.cells #[.slice (some ⟨gm,0,none⟩) n c,vq] 30 (0,0))
 s4:w.heap.size≤g4∧g4≠g5∧g4≠gm∧ ∀j,j < n→g4≠b j
 s5:w.heap.size≤g5∧g5≠gm∧ ∀j,j < n→g5≠b j
 gl:g < w.heap.size
 el:w0.heap.size≤w.heap.size
def okQ (g g4 g5 n gm:Nat) (b:Nat→Nat) (k:Nat):Prop:=k≠g∧k≠g4∧k≠g5∧k≠gm∧ ∀j,j < n→k≠b j
structure DO (w0 w wr:World) (g g4 g5 n gm c:Nat) (b cp:Nat→Nat) (vq:Value) (Q:List Int):Prop where
 q:DQ w0 w wr g g4 g5 n gm c b cp vq
 rq:Kd.R (Kd.int .i64) 2 wr w.heap.size (okQ g g4 g5 n gm b) vq Q
section
variable {w0 w wr w1:World} {g g4 g5 n gm c:Nat} {b cp:Nat→Nat} {vq:Value} {Q:List Int} (h:DO w0 w wr g g4 g5 n gm c b cp vq Q)
include h
theorem DO.mv (hS:Stp w0 wr g w1):DO w0 w w1 g g4 g5 n gm c b cp vq Q:=by
 have h4:=h.q.s4;have h5:=h.q.s5;have hg:=h.q.gl
 exact⟨⟨h.q.st.trans hS,h.q.dm.keep hS.keep hg,hS.keep.blk h.q.b4 (by omega) (by simp),hS.keep.blk h.q.b5 (by omega) (by simp),h.q.s4,h.q.s5,h.q.gl,h.q.el⟩,Kd.R_keep h.rq hS.keep (fun k hk=>hk.1)⟩
theorem DO.below (hb:Below wr.heap.size wr w1):DO w0 w w1 g g4 g5 n gm c b cp vq Q:=h.mv (Stp.of_below h.q.st.src h.q.st.below hb)
theorem DO.put {j k:Nat} (hj:j < n) (hk:k < n) (x:Int):DO w0 w (wr.setCell ⟨b j,k,none⟩ (.int .i64 x)) g g4 g5 n gm c b cp vq Q:=by
 have h4:=h.q.s4;have h5:=h.q.s5;have hg:=h.q.gl;have hr:=h.q.dm.rr j hj
 exact⟨⟨h.q.st.set h.q.el (b j) k _ hr.1 (by omega),h.q.dm.put hj hk x,(Below.heap_setCell wr ⟨b j,k,none⟩ _ g4 (h4.2.2.2 j hj)).trans h.q.b4,(Below.heap_setCell wr ⟨b j,k,none⟩ _ g5 (h5.2.2 j hj)).trans h.q.b5,h4,h5,hg,h.q.el⟩,Kd.R_far h.rq (p:=⟨b j,k,none⟩) (fun q hq=>hq.2.2.2.2 j hj) _⟩
theorem DO.fresh (k:Nat) (hk:wr.heap.size≤k):okQ g g4 g5 n gm b k:=by
 have l4:=blk_lt h.q.b4;have l5:=blk_lt h.q.b5;have hg:=h.q.gl;have hs:=h.q.st.keep.1;have hm:=h.q.dm.g0
 exact⟨by omega,by omega,by omega,by omega,fun j hj=>by have:=(h.q.dm.rr j hj).2.1;omega⟩
theorem DO.grow (hg:wr.grownBy w1 vq.ownBlock) (hb:Below w.heap.size wr w1):DQ w0 w w1 g g4 g5 n gm c b cp vq:=by
 have hn: ∀k, ¬ okQ g g4 g5 n gm b k→some k≠vq.ownBlock:=fun k hk e=>hk (h.rq.1 k e.symm)
 refine⟨h.q.st.lo h.q.el h.q.gl hb,h.q.dm.grow hg ⟨hn _ (fun q=>q.2.2.2.1 rfl),fun j hj=>hn _ (fun q=>q.2.2.2.2 j hj rfl)⟩,blk_grown h.q.b4 hg (hn _ (fun q=>q.2.1 rfl)),blk_grown h.q.b5 hg (hn _ (fun q=>q.2.2.1 rfl)),h.q.s4,h.q.s5,h.q.gl,h.q.el⟩
end
theorem DQ.store {w0 w w1:World} {g g4 g5 n gm c:Nat} {b cp:Nat→Nat} {vq v1:Value} {Q:List Int} (h:DQ w0 w w1 g g4 g5 n gm c b cp vq) (hr:Kd.R (Kd.int .i64) 2 w1 w.heap.size (okQ g g4 g5 n gm b) v1 Q):DO w0 w (w1.setCell ⟨g5,1,none⟩ v1) g g4 g5 n gm c b cp v1 Q:=by
 have h4:=h.s4;have h5:=h.s5;have hg:=h.gl
 exact⟨⟨h.st.set h.el g5 1 _ h5.1 (by omega),h.dm.set h5.2.1 (fun j hj=>h5.2.2 j hj),(Below.heap_setCell w1 ⟨g5,1,none⟩ _ g4 h4.2.1).trans h.b4,blk_put h.b5 1 v1 rfl,h4,h5,hg,h.el⟩,Kd.R_far hr (p:=⟨g5,1,none⟩) (fun q hq=>hq.2.2.1) _⟩
theorem DO.new {w0 w w1 w2 w3:World} {g g4 g5 n gm c:Nat} {b cp:Nat→Nat} {vq:Value} {Q:List Int} (hE:w0.heap.size≤w.heap.size) (hg:g < w.heap.size) (h4:w.heap.size≤g4) (hl4:g4 < w1.heap.size) (st:Stp w0 w g w1) (hw1:w.heap.size≤w1.heap.size) (hS:Stp w0 w1 g w2) (dm:Dm w2 w1.heap.size gm n c b cp) (b4:w1.heap[g4]?=some (.cells #[.slice none 0 0, .slice none 0 0] 30 (0,0))) (hb:Below w2.heap.size w2 w3) (hr:Kd.R (Kd.int .i64) 2 w3 w2.heap.size (fun _=>True) vq Q) (h5:w2.heap.size≤g5) (hbox:w3.heap[g5]?=some (.cells #[.slice none 0 0, .slice none 0 0] 30 (0,0))) (hq5: ∀k,vq.ownBlock=some k→k≠g5):
  DO w0 w ((w3.setCell ⟨g5,0,none⟩ (.slice (some ⟨gm,0,none⟩) n c)).setCell ⟨g5,1,none⟩ vq) g g4 g5 n gm c b cp vq Q:=by
 have s2:=hS.keep.1
 have ge:=fun k hk=>Kd.R_base hr k hk
 have hS3:Stp w0 w g w3:=(st.trans hS).trans (Stp.of_below hS.src hS.below hb)
 have dm3:=(dm.keep (KeepBut.of_below hb g none) (by omega)).down hw1
 have g0:=dm.g0
 have rr:=dm.rr
 have e5:g5≠gm∧ ∀j,j < n→g5≠b j:=⟨by omega,fun j hj=>by have:=rr j hj;omega⟩
 have e4:g4≠g5∧g4≠gm∧ ∀j,j < n→g4≠b j:=⟨by omega,by omega,fun j hj=>by have:=rr j hj;omega⟩
 have b43:=blk_below (hS.keep.blk b4 (by omega) (by simp)) hb
 have hok:Kd.R (Kd.int .i64) 2 w3 w.heap.size (okQ g g4 g5 n gm b) vq Q:=by
  refine Kd.R_lower (Kd.R_mono (Kd.R_tight rfl hr) (fun k hk=>?_)) (by omega)
  have:=ge k hk.symm
  exact⟨by omega,by omega,hq5 k hk.symm,by omega,fun j hj=>by have:=rr j hj;omega⟩
 refine⟨⟨(hS3.set hE g5 0 _ (by omega) (by omega)).set hE g5 1 _ (by omega) (by omega),(dm3.set e5.1 e5.2).set e5.1 e5.2,?_,blk_put (blk_put hbox 0 _ rfl) 1 _ rfl,⟨h4,e4⟩,⟨by omega,e5⟩,hg,hE⟩,?_⟩
 ·exact(Below.heap_setCell _ ⟨g5,1,none⟩ _ g4 e4.1).trans ((Below.heap_setCell w3 ⟨g5,0,none⟩ _ g4 e4.1).trans b43)
 ·exact Kd.R_far (Kd.R_far hok (p:=⟨g5,0,none⟩) (fun q hq=>hq.2.2.1) _) (p:=⟨g5,1,none⟩) (fun q hq=>hq.2.2.1) _
theorem DO.rows {w0 w wr w2:World} {g g4 g5 n gm c gm2 c2:Nat} {b cp b2 cp2:Nat→Nat} {vq:Value} {Q:List Int} (h:DO w0 w wr g g4 g5 n gm c b cp vq Q) (hS:Stp w0 wr g w2) (hd:Dm w2 wr.heap.size gm2 n c2 b2 cp2):DO w0 w (w2.setCell ⟨g5,0,none⟩ (.slice (some ⟨gm2,0,none⟩) n c2)) g g4 g5 n gm2 c2 b2 cp2 vq Q:=by
 have hm:=h.mv hS
 have h4:=h.q.s4;have h5:=h.q.s5;have hg:=h.q.gl
 have l4:=blk_lt h.q.b4
 have l5:=blk_lt h.q.b5
 have hk:=h.q.st.keep.1
 have old:Kd.R (Kd.int .i64) 2 w2 w.heap.size (okQ g g4 g5 n gm2 b2) vq Q:=by
  refine Kd.R_mono (Kd.R_tight rfl hm.rq) (fun k hk=>?_)
  have ho:=h.rq.1 k hk.symm
  have hl:=Kd.R_lt h.rq k hk.symm
  refine⟨ho.1,ho.2.1,ho.2.2.1,?_,fun j hj=>?_⟩
  ·have:=hd.g0.1;omega
  ·have:=(hd.rr j hj).1;omega
 have dq:DQ w0 w (w2.setCell ⟨g5,0,none⟩ (.slice (some ⟨gm2,0,none⟩) n c2)) g g4 g5 n gm2 c2 b2 cp2 vq:=by
  have hd5:g5≠gm2∧ ∀j,j < n→g5≠b2 j:=⟨by have:=hd.g0.1;omega,fun j hj=>by have:=(hd.rr j hj).1;omega⟩
  have hset:=hd.set (d:=g5) (i:=0) (v:= .slice (some ⟨gm2,0,none⟩) n c2) hd5.1 hd5.2
  refine⟨hm.q.st.set h.q.el g5 0 _ h5.1 (by omega),⟨⟨Nat.le_trans hk hset.g0.1,hset.g0.2⟩,hset.cap,hset.row,fun j hj=>?_,hset.ints⟩,(Below.heap_setCell w2 ⟨g5,0,none⟩ _ g4 h4.2.1).trans hm.q.b4,blk_put hm.q.b5 0 _ rfl,⟨h4.1,h4.2.1,by have:=hd.g0.1;omega,fun j hj=>by have:=(hd.rr j hj).1;omega⟩,⟨h5.1,hd5⟩,hg,h.q.el⟩
  have:=hset.rr j hj
  exact⟨Nat.le_trans hk this.1,this.2⟩
 exact⟨dq,Kd.R_far old (p:=⟨g5,0,none⟩) (fun q hq=>hq.2.2.1) _⟩
end Go.Proofs.Ytmpkckiifeikkaa.Dr
end
section
namespace Go.Proofs.Ytmpkckiifeikkaa.Dr
open Go.RowKit Go.Proofs.YtmpkckiifeikkaaW.PrintWords Go.Proofs.YtmpkckiifeikkaaW.PrintLast Go.Proofs.YtmpkckiifeikkaaW.PrintMore Go.Proofs.Ytmpkckiifeikkaa.Ma Go.Proofs.Ytmpkckiifeikkaa.Pr Go.Proofs.Ytmpkckiifeikkaa.Lq
def Prb (w0 w:World) (g n:Nat) (e:Value) (w':World):Prop:= ∃gm c b cp A c1 Q,e= .agg #[.slice (some ⟨gm,0,none⟩) n c, .slice A n c1]∧Q.length=n∧Dm w' w.heap.size gm n c b cp∧Kd.R (Kd.int .i64) 2 w' w.heap.size (fun k=>k≠g∧k≠gm∧ ∀j,j < n→k≠b j) (.slice A n c1) Q∧Stp w0 w g w'
theorem drawOf_c {w0 w:World} {g:Nat} (h:Srm w0 w g) (hB:Below w0.heap.size w0 w) (n:Nat) (hn:n≤5) (hn0:0 < n):Calls Try.prog 211 #[.pointer (some ⟨g,0,none⟩), .int .i64 (n:Int)] w fun e w'=> ∃v,e= .returned v∧Prb w0 w g n v w':=by
 have ST:=q_ (Stp.refl h hB)
 have HG:=q_ h.lt
 have HE:=q_ hB.size
 have HN:=q_ hn
 have HN0:=q_ hn0
 clear h hB hn hn0
 go_enter Try.func211,Try.ntmps211
 go_wp2_with (first | ((with_reducible refine gate_dst (N:=4) rfl ?_);refine box_event ?hg (N:=4) ?hd (cs:= #[.slice none 0 0, .slice none 0 0]) (t:=30) ?hr ?_;(case hd=>rfl);(case hg=>rfl);(case hr=>first | (go_simp;done) | (go_simp;rfl));intro g4 hg w2 hbox hb;have G4:=q_ (show w.heap.size≤g4 by rw [hg];exact Nat.le_refl _);have B4:=q_ hbox;replace ST:=q_ (ST.out.trans (Stp.of_below ST.out.src ST.out.below hb));clear hg hbox hb) | ((with_reducible refine gate_dst (N:=14) rfl ?_);refine Kd.R_lit (Kd.int .i64) _ 2 ?hg (N:=14) ?hd (xs:=([1,2,3,9,20]:List Int)) (inner:= [.int .i64 1, .int .i64 2, .int .i64 3, .int .i64 9, .int .i64 20]) (ok:=fun _=>True) (okp:=fun _=>True) ?hr ?hp (fun _ hk=>hk) trivial (Below.refl _ _) (Nat.le_refl _) (by simp) ?_;(case hd=>rfl);(case hg=>rfl);(case hr=>first | (go_simp;done) | (go_simp;rfl));(case hp=>exact lit_reps [1,2,3,9,20]);intro v14 w3 ho hb hg_ hnew_;obtain⟨g14,c14,rfl,hb14,hl14,_⟩:=Kd.R_form ho (by simp);have G14:=q_ (Nat.lt_of_lt_of_le ST.out.src.lt hb14);replace ST:=q_ (ST.out.trans (Stp.of_below ST.out.src ST.out.below hb));replace B4:=q_ (blk_below B4.out hb);have R14:=q_ ho;clear hg_ hnew_ ho hb hb14 hl14))
 refine(pick_c ST.out.src ST.out.below _ c14 [1,2,3,9,20] (Kd.R_reads' R14.out).2.2 (Kd.R_reads' R14.out).2.1 (fun ad e _=>by injection e with e;subst e;show g14≠g;have:=G14.out;omega) (by decide)).mono ?_
 rintro e w4 ⟨x,rfl,_,hS⟩
 replace ST:=q_ (ST.out.trans hS)
 replace B4:=q_ (hS.keep.blk B4.out (by have:=G4.out;have:=HG.out;omega) (by simp))
 clear hS R14 G14
 go_wp2_with fail
 refine(drawM_c ST.out.src ST.out.below n HN.out HN0.out x).mono ?_
 rintro e w5 ⟨gm,c,b,cp,rfl,hD,hS⟩
 have DM:=q_ hD
 have S5:=q_ hS
 clear hD hS
 go_wp2_with (first | ((with_reducible refine gate_dst (N:=17) rfl ?_);refine Kd.R_lit (Kd.int .i64) _ 2 ?hg (N:=17) ?hd (xs:=([]:List Int)) (inner:= []) (ok:=fun _=>True) (okp:=fun _=>True) ?hr ?hp (fun _ hk=>hk) trivial (Below.refl _ _) (Nat.le_refl _) (by simp) ?_;(case hd=>rfl);(case hg=>rfl);(case hr=>first | (go_simp;done) | (go_simp;rfl));(case hp=>exact lit_reps []);intro v17 w6 ho hb hg_ hnew_;have R17:=q_ ho;have B17:=q_ hb;obtain⟨A17,c17,rfl⟩:=Kd.R_slice ho;clear hg_ hnew_ ho hb) | ((with_reducible refine gate_dst (N:=5) rfl ?_);refine box_event ?hg (N:=5) ?hd (cs:= #[.slice none 0 0, .slice none 0 0]) (t:=30) ?hr ?_;(case hd=>rfl);(case hg=>rfl);(case hr=>first | (go_simp;done) | (go_simp;rfl));intro g5 hg w7 hbox hb;have G5:=q_ (show w5.heap.size≤g5 by rw [hg];exact B17.out.size);have Q5:=q_ (fun k (hk:(Value.slice A17 ([]:List Int).length c17).ownBlock=some k)=>(show k≠g5 by rw [hg];have:=Kd.R_lt R17.out k hk;omega));have B5:=q_ hbox;have B57:=q_ (below_step B17.out hb);replace R17:=q_ (Kd.R_below R17.out hb);have hx0:=cz_ B5 0;have hx1:=cz_ B5 1;have hfx0:=blk_frozen hbox 0;have hfx1:=blk_frozen hbox 1;clear hg hbox hb) | ((with_reducible refine gate_store (t:=30) (p:=5) rfl ?_);refine store_event (t:=30) (p:=5) (v:=?vo5) (w1:=(w7.setCell ⟨g5,0,none⟩ (.slice (some ⟨gm,0,none⟩) n c)).setCell ⟨g5,1,none⟩ (.slice A17 ([]:List Int).length c17)) ?hg ?ho ?hn ?hr ?_;(case ho=>rfl);(case hg=>rfl);(case hn=>rfl);(case hr=>first | (go_simp;done) | (go_simp;rfl));intro w8 hw;have D:=q_ (DO.new HE.out HG.out G4.out (blk_lt B4.out) ST.out ST.out.keep.1 S5.out DM.out B4.out B57.out R17.out G5.out B5.out Q5.out);rw [← hw] at D;clear hw hx0 hx1 hfx0 hfx1))
 clear ST S5 DM B4 G4 R17 B17 G5 Q5 B5 B57
 refine(next_c D.out.q.st.src D.out.q.st.below 4).mono ?_
 rintro e w9 ⟨y,rfl,_,hS⟩
 replace D:=q_ (D.out.mv hS)
 have HL:=q_ D.out.q.gl
 clear hS
 go_upto_block 0 with (fail)
 go_cut [5] (fun v5 wc=>v5= .pointer (some ⟨g5,0,none⟩)∧ ∃gm c b cp,Aside0 (DO w0 w wc g g4 g5 n gm c b cp (.slice A17 0 c17) []))
 case first=>
  by_cases y0:y=0
  ·have y0b:(y==0)=true:=by simpa using y0
   clear y0
   go_wp2_with fail
   refine(drawP_c D.out.q.st.src D.out.q.st.below n HN.out HN0.out).mono ?_
   rintro e w10 ⟨gm2,c2,b2,cp2,rfl,hD,hS⟩
   have D2:=q_ (D.out.rows hS hD)
   have B5:=q_ (D.out.mv hS).q.b5
   have hx0:=cz_ B5 0
   have hfx0:=blk_frozen B5.out 0
   clear hD hS D
   go_wp2
   go_meet
   case rel=>exact⟨rfl,_,_,_,_,D2⟩
  ·have y0b:(y==0)=false:=by simpa using y0
   clear y0
   by_cases y1:y=1
   ·have y1b:(y==1)=true:=by simpa using y1
    clear y1
    go_wp2
    go_loopg [6] n (fun gg v6 wr=> ∃(i:Nat),i≤n∧n - i≤gg∧v6= .int .i64 (i:Int)∧Aside0 (DO w0 w wr g g4 g5 n gm c b cp (.slice A17 0 c17) []))
    case atStart=>exact⟨0,Nat.zero_le _,by omega,rfl,D⟩
    case round=>
     clear D
     obtain⟨i,hi',hg,rfl,D⟩:=hrel
     have HGG:=q_ hg
     by_cases hlt:i < n
     ·have hltz:(i:Int) < (n:Int):=by omega
      have h0z:(0:Int)≤(i:Int):=by omega
      have hwi:IntKind.i64.wrap ((i:Int)+1)=((i+1:Nat):Int):=by rw [IntWalk.i64_in _ (by have:=HN.out;omega)];rfl
      have HWI:=q_ hwi
      have HLT:=q_ hlt
      have hx0:=cz_ (q_ D.out.q.b5) 0
      have hrow:=D.out.q.dm.row i hlt
      clear hi' hg hlt
      go_wp2
      clear hx0 hrow
      go_loopg [8] i (fun gg v8 wr=> ∃(k:Nat),k≤i∧i - k≤gg∧v8= .int .i64 (k:Int)∧Aside0 (DO w0 w wr g g4 g5 n gm c b cp (.slice A17 0 c17) []))
      case atStart=>exact⟨0,Nat.zero_le _,by omega,rfl,D⟩
      case round=>
       clear D
       obtain⟨k,hk',hg2,rfl,D⟩:=hrel
       have HG2:=q_ hg2
       by_cases hki:k < i
       ·have hkiz:(k:Int) < (i:Int):=by omega
        have hknz:(k:Int) < (n:Int):=by omega
        have h0k:(0:Int)≤(k:Int):=by omega
        have hwk:IntKind.i64.wrap ((k:Int)+1)=((k+1:Nat):Int):=by rw [IntWalk.i64_in _ (by have:=HN.out;omega)];rfl
        have HWK:=q_ hwk
        have HKI:=q_ hki
        have hx0:=cz_ (q_ D.out.q.b5) 0
        have hrow:=D.out.q.dm.row k (by have:=HLT.out;omega)
        obtain⟨⟨x1,hx1⟩,_⟩:=D.out.q.dm.ints k i (by have:=HLT.out;omega) HLT.out
        obtain⟨⟨x2,hx2⟩,hfx2⟩:=D.out.q.dm.ints i k HLT.out (by have:=HLT.out;omega)
        clear hk' hg2 hki
        go_wp2
        go_roundg (i - (k+1))
        case measure=>have:=HG2.out;have:=HKI.out;omega
        case rel=>exact⟨k+1,HKI.out,by omega,by first | rfl | (rw [HWK.out]) | (simp [HWK.out]),⟨D.out.put HLT.out (by have:=HLT.out;have:=HKI.out;omega) _⟩⟩
       ·have hkiz: ¬ (k:Int) < (i:Int):=by omega
        clear hk' hg2 hki
        go_wp2
        go_roundg (n - (i+1))
        case measure=>have:=HGG.out;have:=HLT.out;omega
        case rel=>exact⟨i+1,HLT.out,by omega,by first | rfl | (rw [HWI.out]) | (simp [HWI.out]),D⟩
     ·have hltz: ¬ (i:Int) < (n:Int):=by omega
      clear hi' hg hlt
      go_wp2
      go_meet
      case rel=>exact⟨rfl,_,_,_,_,D⟩
   ·have y1b:(y==1)=false:=by simpa using y1
    clear y1
    go_wp2
    go_meet
    case rel=>exact⟨rfl,_,_,_,_,D⟩
 case rest=>
  clear D
  obtain⟨rfl,gm,c,b,cp,D⟩:=hcut
  go_wp2_with (first | ((with_reducible refine gate_dst (N:=56) rfl ?_);refine Kd.R_lit (Kd.int .i64) _ 2 ?hg (N:=56) ?hd (xs:=([1,2,5,20,100]:List Int)) (inner:= [.int .i64 1, .int .i64 2, .int .i64 5, .int .i64 20, .int .i64 100]) (ok:=fun _=>True) (okp:=fun _=>True) ?hr ?hp (fun _ hk=>hk) trivial (Below.refl _ _) (Nat.le_refl _) (by simp) ?_;(case hd=>rfl);(case hg=>rfl);(case hr=>first | (go_simp;done) | (go_simp;rfl));(case hp=>exact lit_reps [1,2,5,20,100]);intro v56 w12 ho hb hg_ hnew_;obtain⟨g56,c56,rfl,hb56,hl56,_⟩:=Kd.R_form ho (by simp);have G56:=q_ (Nat.lt_of_lt_of_le D.out.q.st.src.lt hb56);replace D:=q_ (D.out.below hb);have R56:=q_ ho;clear hg_ hnew_ ho hb hb56 hl56))
  refine(pick_c D.out.q.st.src D.out.q.st.below _ c56 [1,2,5,20,100] (Kd.R_reads' R56.out).2.2 (Kd.R_reads' R56.out).2.1 (fun ad e _=>by injection e with e;subst e;show g56≠g;have:=G56.out;omega) (by decide)).mono ?_
  rintro e w13 ⟨mo,rfl,_,hS⟩
  replace D:=q_ (D.out.mv hS)
  clear hS R56 G56
  go_wp2
  go_loopg [10] n (fun gg v10 wr=> ∃(i:Nat) (A:Option Addr) (q:Nat) (Q:List Int),i≤n∧n - i≤gg∧v10= .int .i64 (i:Int)∧Q.length=i∧Aside0 (DO w0 w wr g g4 g5 n gm c b cp (.slice A i q) Q))
  case atStart=>exact⟨0,_,_, [],Nat.zero_le _,by omega,rfl,rfl,D⟩
  case round=>
   clear D
   obtain⟨i,A,q,Q,hi',hg,rfl,hQl,D⟩:=hrel
   have HGG:=q_ hg
   have HQ:=q_ hQl
   by_cases hlt:i < n
   ·have hltz:(i:Int) < (n:Int):=by omega
    have hwi:IntKind.i64.wrap ((i:Int)+1)=((i+1:Nat):Int):=by rw [IntWalk.i64_in _ (by have:=HN.out;omega)];rfl
    have HWI:=q_ hwi
    have HLT:=q_ hlt
    clear hi' hg hlt hQl
    go_wp2
    replace D:=q_ (D.out.below (below_drew (Below.refl wr.heap.size wr)))
    refine st_ (n:=9) (S:=fun w'=>w'.cell? ⟨g5,1,none⟩=some (.slice A i q)) (ds:= [8]) (cz_ (q_ D.out.q.b5) 1) (fun hHeld=>?_)
    generalize wr.drew=w14 at D hHeld ⊢
    refine pu_ 0 63 ?_;refine pu_ 2 65 ?_;refine pu_ 3 66 ?_;refine tk_ 1 64 ?_
    refine on_ 4 (some 67) (fun K hK=>?_)
    refine ca_ Try.func165 #[.pointer (some ⟨g,0,none⟩), .int .i64 mo] ?_
    refine(part_c D.out.q.st.src D.out.q.st.below mo).mono ?_
    rintro e w15 ⟨x,rfl,hS⟩
    refine⟨_,rfl,?_⟩
    replace D:=q_ (D.out.mv hS)
    clear hS hHeld
    refine hK.out _ _ (cz_ (q_ D.out.q.b5) 1) (fun hHeld=>?_)
    clear hK K
    refine no_ ?_
    refine on_ 5 (some 68) (fun K hK=>?_)
    refine va_ ?_
    refine hK.out _ _ ((blk_cell (blk_alloc D.out.q.b5 _) 1).trans rfl) (fun hHeld=>?_)
    clear hK K
    refine no_ ?_
    refine on_ 6 (some 69) (fun K hK=>?_)
    refine Kd.R_append_step (Kd.int .i64) (w0:=w15) w.heap.size (by rfl) (.tmp 64) (.tmp 68) 23 2 (.int .i64 0) 8 rfl Try.underlying23 info2 rfl (by decide) (by omega) (.slice A i q) Q x [.int .i64 x] (okQ g g4 g5 n gm b) (fun _=>False) rfl rfl rfl (fun _ hk=>hk.elim) D.out.fresh D.out.rq (Below.refl _ _) D.out.q.st.keep.1 ?aL ?_
    case aL=>have:=HN.out;have:=HLT.out;have:=HQ.out;omega
    intro v11 w16 ho hb hg hat
    have DD:=q_ (D.out.grow hg hb)
    have RQ:=q_ ho
    clear ho hb hg hat hHeld D
    obtain⟨A9,c9,e9⟩:=Kd.R_slice RQ.out
    have hl9:(Q++ [x]).length=i+1:=by have:=HQ.out;simp;omega
    rw [hl9] at e9
    subst e9
    have HL9:=q_ hl9
    clear hl9
    refine hK.out _ _ (cz_ (q_ DD.out.b5) 1) (fun hHeld=>?_)
    clear hK K
    refine nd_ 69 ?_
    refine pu_ 7 70 ?_
    have hx1:=cz_ (q_ DD.out.b5) 1
    have hfx1:=blk_frozen DD.out.b5 1
    refine la_ 8 none (fun K hK=>?_)
    refine skip_ (w1:=?_) (by rfl) rfl ?_ ?_
    rotate_left
    ·go_simp
     rfl
    refine hK.out _ _ ?_
    clear hK K hHeld hx1 hfx1
    refine done_ (by kernel_rfl) ?_
    have D2:=q_ (DD.out.store RQ.out)
    go_wp2
    go_roundg (n - (i+1))
    case measure=>have:=HGG.out;have:=HLT.out;omega
    case rel=>exact⟨i+1,_,_,_,HLT.out,by omega,by first | rfl | (rw [HWI.out]) | (simp [HWI.out]),HL9.out,D2⟩
   ·have hltz: ¬ (i:Int) < (n:Int):=by omega
    obtain rfl:n=i:=by omega
    have hx0:=cz_ (q_ D.out.q.b5) 0
    have hx1:=cz_ (q_ D.out.q.b5) 1
    have hy0:=cz_ (q_ D.out.q.b4) 0
    have hy1:=cz_ (q_ D.out.q.b4) 1
    have hfy0:=blk_frozen D.out.q.b4 0
    have hfy1:=blk_frozen D.out.q.b4 1
    clear hi' hg hlt
    go_wp2
    refine bodyPost_ret (results_cell_row rfl _ _ g4 30 #[.slice (some ⟨gm,0,none⟩) n c, .slice A n q] (0,0) _ rfl (blk_put (blk_put D.out.q.b4 0 _ rfl) 1 _ rfl) Try.underlying30 rfl (by kernel_rfl)) rfl ?_
    have h4:=D.out.q.s4
    have hg4:=D.out.q.gl
    refine⟨_,rfl,gm,c,b,cp,A,q,Q,rfl,HQ.out,(D.out.q.dm.set h4.2.2.1 h4.2.2.2).set h4.2.2.1 h4.2.2.2,?_,(D.out.q.st.set HE.out g4 0 _ h4.1 (by omega)).set HE.out g4 1 _ h4.1 (by omega)⟩
    exact Kd.R_mono (Kd.R_far (Kd.R_far D.out.rq (p:=⟨g4,0,none⟩) (fun k hk=>hk.2.1) _) (p:=⟨g4,1,none⟩) (fun k hk=>hk.2.1) _) (fun k hk=>⟨hk.1,hk.2.2.2⟩)
end Go.Proofs.Ytmpkckiifeikkaa.Dr
end
section
namespace Go.Proofs.Ytmpkckiifeikkaa.Pr
open Go.RowKit Go.Proofs.YtmpkckiifeikkaaW.PrintWords Go.Proofs.YtmpkckiifeikkaaW.PrintLast Go.Proofs.YtmpkckiifeikkaaW.PrintMore
attribute [local go_sem] max2_int min2_int max_two min_two max_three min_three max_four min_four
def spec_l01Copy.l0:Nat→Int→List (List Int)→List Int→List (List Int)→List Int→Option ((List (List Int)) × List Int)
 | 0,_,_,_,_,_=>none
 | k+1,x4,aa,ag,ae,af=>if x4 < (aa.length:Int) then(if 0≤x4 then((spec_l01Own.f (rd_L1 aa x4)).bind fun ah=>(if ae.length < 5864062014805 then(spec_l01Copy.l0 k (wrap64 (x4+1)) aa ag (ae++ [ah]) af) else(none))) else(none)) else(some (ae,af))
def spec_l01Copy.f (k:Nat) (ae:List (List Int)) (aa:List Int):Option ((List (List Int)) × List Int):=(spec_l01Own.f aa).bind fun af=>(spec_l01Copy.l0 k 0 ae aa (([]:List (List Int))) af)
theorem spec_l01Copy.mono_l: ∀k,(∀y0 y1 y2 y3 y4,LeO (spec_l01Copy.l0 k y0 y1 y2 y3 y4) (spec_l01Copy.l0 (k+1) y0 y1 y2 y3 y4))
 | 0=>fun _ _ _ _ _ r h=>by simp [spec_l01Copy.l0] at h
 | k+1=>by
  have ih0:=spec_l01Copy.mono_l k
  ·intro y0 y1 y2 y3 y4
   unfold spec_l01Copy.l0
   repeat' first
   | (with_reducible exact ih0 _ _ _ _ _)
   | (with_reducible exact LeO.refl _)
   | (with_reducible exact LeO.none _)
   | (with_reducible refine LeO.ite ?_ ?_)
   | (with_reducible refine LeO.bind ?_ (fun _=>?_))
   | exact ih0 _ _ _ _ _
   | exact LeO.none _
   | refine LeO.ite ?_ ?_
   | refine LeO.bind ?_ (fun _=>?_)
theorem spec_l01Copy.mono: ∀a0 a1 k,LeO (spec_l01Copy.f k a0 a1) (spec_l01Copy.f (k+1) a0 a1):=by
 intro a0 a1 k
 have ih0:=spec_l01Copy.mono_l k
 unfold spec_l01Copy.f
 repeat' first
   | (with_reducible exact ih0 _ _ _ _ _)
   | (with_reducible exact LeO.refl _)
   | (with_reducible exact LeO.none _)
   | (with_reducible refine LeO.ite ?_ ?_)
   | (with_reducible refine LeO.bind ?_ (fun _=>?_))
   | exact ih0 _ _ _ _ _
   | exact LeO.none _
   | refine LeO.ite ?_ ?_
   | refine LeO.bind ?_ (fun _=>?_)
def spec_l01Copy.T5:Bool × List (List Nat × List Nat):=(true, [([], []),([0], [0]),([], []),([2], [2]),([], []),([3,4], [3,4]),([5], [5]),([6], [6]),([7], [7]),([1,8,7], [1,8]),([0,1,2,3,4,5,6,7,8,9], []),([10,9,9,0,1,2,3,4,5,6,7,8,9], [9,10])])
def spec_l01Copy.B5:List Nat:= [0,1,0,4,0,28,60,124,252,511,1023,2047]
theorem spec_l01Copy.tab5:rtab .any (opsOf Try.f210 5)=spec_l01Copy.T5:=by kernel_rfl
theorem spec_l01Copy.bits5:waitsOk spec_l01Copy.T5.2 spec_l01Copy.B5=true:=by kernel_rfl
theorem spec_l01Copy.calls (k:Nat) (aV:Option Addr) (aK:Nat) (ak:List (List Int)) (aI:Option Addr) (aJ:Nat) (au:List Int) (r1:List (List Int)) (r2:List Int) (w:World) (bz:Kd.C (Kd.slice 2 (Kd.int .i64)) w aV ak.length ak) (bA:ak.length≤aK) (bB:Kd.C (Kd.int .i64) w aI au.length au) (bC:au.length≤aJ) (h:spec_l01Copy.f k ak au=some (r1,r2)):
  Calls Try.prog 210 #[.agg #[.slice aV ak.length aK, .slice aI au.length aJ]] w fun e w'=> ∃v0_ v1_:Value,e= .returned (.agg #[v0_,v1_])∧Kd.S (Kd.slice 2 (Kd.int .i64)) 23 w' w.heap.size (fun k_=>some k_≠(v1_:Value).ownBlock) v0_ r1∧Kd.R (Kd.int .i64) 2 w' w.heap.size (fun _=>True) v1_ r2∧Below w.heap.size w w':=by
 have hu30:=Try.underlying30
 have HR0_0:=q_ bz
 have HC0_0:=q_ bA
 clear bz bA
 have HR0_1:=q_ bB
 have HC0_1:=q_ bC
 clear bB bC
 have HB:=q_ (Below.refl w.heap.size w)
 have H:((spec_l01Own.f au).bind fun aq=>(spec_l01Copy.l0 k 0 ak au (([]:List (List Int))) aq))=some (r1,r2):=h
 clear h
 obtain⟨aW,hy467⟩: ∃y_:List (List Int),y_=(([]:List (List Int))):=⟨_,rfl⟩
 replace H:((spec_l01Own.f au).bind fun aq=>(spec_l01Copy.l0 k 0 ak au aW aq))=some (r1,r2):=by first | (rw [hy467];with_reducible exact H) | (have H2_:=(Option.bind_some _ _).symm.trans H;rw [hy467];with_reducible exact H2_) | (have H2_:=(Option.bind_some _ _).symm.trans H;with_reducible exact H2_) | with_reducible exact H | (rw [hy467];exact H) | exact H
 have bD:=q_ hy467
 clear hy467
 replace H:=Option.bind_eq_some_iff.mp H
 obtain⟨aq,A20,H⟩:=H
 replace H:(spec_l01Copy.l0 k 0 ak au aW aq)=some (r1,r2):=H
 have A2:=q_ A20
 clear A20
 have H':=q_ H
 clear H
 go_enter Try.func210,Try.ntmps210
 go_wp2_with (first | ((with_reducible refine gate_dst (N:=1) rfl ?_);refine box_event ?hg (N:=1) ?hd (cs:= #[.slice aV ak.length aK, .slice aI au.length aJ]) (t:=30) ?hr ?_;(case hd=>rfl);(case hg=>rfl);(case hr=>first | (go_simp;done) | (go_simp;rfl));intro av hg w3 hbox hb;have aa:=q_ (hbox);have cI:=q_ ((by rw [hg];exact bz_:w.heap.size≤av));have cJ:=q_ ((by rw [hg];exact bz_:w.heap.size≤av));replace HB:=q_ (bs_ hb);clear hb hbox hg) | ((with_reducible refine gate_dst (N:=2) rfl ?_);refine box_event ?hg (N:=2) ?hd (cs:= #[.slice none 0 0, .slice none 0 0]) (t:=30) ?hr ?_;(case hd=>rfl);(case hg=>rfl);(case hr=>first | (go_simp;done) | (go_simp;rfl));intro az hg w4 hbox hb;have ag:=q_ (hbox);have cK:=q_ ((by rw [hg];exact bz_:w.heap.size≤az));have cL:=q_ ((by rw [hg];exact bz_:w.heap.size≤az));have aM:=q_ ((by rw [hg];exact lt_ aa.out:av≠az));have aN:=q_ ((by rw [hg];exact gt_ aa.out:az≠av));replace aa:=q_ (bb_ aa.out hb);replace HB:=q_ (bs_ hb);clear hb hbox hg) | ((with_reducible refine gate_dst (N:=5) rfl ?_);refine Kd.S_lit (Kd.slice 2 (Kd.int .i64)) _ 23 ?hg (N:=5) ?hd (xs:=([]:List (List Int))) (inner:= []) (ok:=fun _=>True) (okp:=fun _=>True) ?hr ?hp (fun _ hk=>hk) trivial (Below.refl _ _) (Nat.le_refl _) (by simp) ?_;(case hd=>rfl);(case hg=>rfl);(case hr=>first | (go_simp;done) | (go_simp;rfl));(case hp=>exact(Reps.none _ _));intro du w5 ho6 hb hg_ hnew_;clear hg_ hnew_;(first | rw [← bD.out] at ho6 | (simp only [Int.reduceToNat] at ho6;rw [← bD.out] at ho6));have aU:=q_ (Kd.S_lower ho6 bz_);replace aa:=q_ (bb_ aa.out hb);replace ag:=q_ (bb_ ag.out hb);replace HB:=q_ (bs_ hb);clear hb ho6;have dw:=aM.out;have dx:=aN.out;have bK:w5.cell? ⟨av,0,none⟩=some (.slice aV ak.length aK):=(blk_cell aa.out 0).trans rfl;have bL:w5.cell? ⟨av,1,none⟩=some (.slice aI au.length aJ):=(blk_cell aa.out 1).trans rfl;have bM:=blk_frozen aa.out 0;have bN:=blk_frozen aa.out 1) | ((with_reducible refine gate_callee (f:=150) rfl ?_);refine gL_ 8 Try.func150 #[.slice aI au.length aJ] ?_;(with_reducible refine(spec_l01Own.calls _ _ au aq _ ?ba ?bg A2.out).mono ?_);(case ba=>exact cb_ HR0_1.out HB.out);(case bg=>exact HC0_1.out);rintro e w9 ⟨dz,rfl,ho0,hb⟩;refine⟨_,rfl,?_⟩;replace aU:=q_ (Kd.S_elder' (so_ aU.out) (Kd.R_base ho0) hb);have aY:=q_ (Kd.R_lower ho0 bz_);replace aa:=q_ (bb_ aa.out hb);replace ag:=q_ (bb_ ag.out hb);replace HB:=q_ (bs_ hb);(try clear hb);(try clear hb2);(try clear hk);(try clear hi);(try clear ho0);obtain⟨aD,aG,bV⟩:=Kd.R_slice aY.out;subst bV;obtain⟨bh,bi,bW⟩:=Kd.S_slice aU.out;subst bW) | ((with_reducible refine gate_dst (N:=3) rfl ?_);refine box_event ?hg (N:=3) ?hd (cs:= #[.slice none 0 0, .slice none 0 0]) (t:=30) ?hr ?_;(case hd=>rfl);(case hg=>rfl);(case hr=>first | (go_simp;done) | (go_simp;rfl));intro aj hg w12 hbox hb;replace aU:=q_ (Kd.S_below (so_ aU.out) hb);replace aY:=q_ (rb_ aY.out hb);have ae:=q_ (hbox);have cN:=q_ ((by rw [hg];exact bz_:w.heap.size≤aj));have cO:=q_ ((by rw [hg];exact bz_:w.heap.size≤aj));have aA:=q_ ((by rw [hg];exact lt_ aa.out:av≠aj));have aH:=q_ ((by rw [hg];exact gt_ aa.out:aj≠av));have aC:=q_ ((by rw [hg];exact lt_ ag.out:az≠aj));have aT:=q_ ((by rw [hg];exact gt_ ag.out:aj≠az));replace aa:=q_ (bb_ aa.out hb);replace ag:=q_ (bb_ ag.out hb);replace HB:=q_ (bs_ hb);clear hb hbox hg;have cP:=aH.out;have cQ:=aA.out;have cT:=aT.out;have cU:=aC.out;have bG:w12.cell? ⟨aj,0,none⟩=some (.slice none 0 0):=(blk_cell ae.out 0).trans rfl;have bH:w12.cell? ⟨aj,1,none⟩=some (.slice none 0 0):=(blk_cell ae.out 1).trans rfl;have bI:=blk_frozen ae.out 0;have bJ:=blk_frozen ae.out 1))
 go_loopg [4] k (fun kq v4 w'=> ∃(ay:Int) (ah:List (List Int)) (aw:Value),v4= .int .i64 ay∧Aside0 (spec_l01Copy.l0 kq ay ak au ah aq=some (r1,r2))∧Aside0 (kq≤k)∧Aside0 (Kd.S (Kd.slice 2 (Kd.int .i64)) 23 w' w.heap.size (fun k_=>some k_≠((.slice aD aq.length aG):Value).ownBlock) aw ah)∧Aside0 (Kd.R (Kd.int .i64) 2 w' w.heap.size (fun _=>True) (.slice aD aq.length aG) aq)∧Aside0 (w'.heap[av]?=some (.cells #[(.slice aV ak.length aK),(.slice aI au.length aJ)] 30 (0,0)))∧Aside0 (w'.heap[az]?=some (.cells #[(.slice none 0 0),(.slice none 0 0)] 30 (0,0)))∧Aside0 (w'.heap[aj]?=some (.cells #[aw,(.slice aD aq.length aG)] 30 (0,0)))∧Aside0 (Below w.heap.size w w'))
 case atStart=>exact⟨(0),(aW),(.slice bh aW.length bi),rs_,H',⟨Nat.le_refl _⟩,⟨by(with_reducible repeat (first | apply Kd.S_alloc | apply Kd.S_drewN | apply Kd.S_drew));exact Kd.S_mono (Kd.S_far (p:=⟨aj,1,none⟩) (Kd.S_far (p:=⟨aj,0,none⟩) (Kd.S_types aU.out ae.out (by decide)) (fun _ hk=>hk.2) (.slice bh aW.length bi)) (fun _ hk=>hk.2) (.slice aD aq.length aG)) (fun _ hk=>hk.1.2)⟩,⟨by(with_reducible repeat (first | apply Kd.R_alloc | apply Kd.R_drewN | apply Kd.R_drew));exact Kd.R_mono (Kd.R_far (p:=⟨aj,1,none⟩) (Kd.R_far (p:=⟨aj,0,none⟩) (Kd.R_types aY.out ae.out (by decide)) (fun _ hk=>hk.2) (.slice bh aW.length bi)) (fun _ hk=>hk.2) (.slice aD aq.length aG)) (fun _ hk=>trivial)⟩,⟨by(with_reducible repeat (first | refine blk_drewN ?_ _ | refine blk_drew ?_ | refine blk_alloc ?_ _));refine blk_far ?_ aA.out _;(with_reducible repeat (first | refine blk_drewN ?_ _ | refine blk_drew ?_ | refine blk_alloc ?_ _));refine blk_far ?_ aA.out _;(with_reducible repeat (first | refine blk_drewN ?_ _ | refine blk_drew ?_ | refine blk_alloc ?_ _));exact aa.out⟩,⟨by(with_reducible repeat (first | refine blk_drewN ?_ _ | refine blk_drew ?_ | refine blk_alloc ?_ _));refine blk_far ?_ aC.out _;(with_reducible repeat (first | refine blk_drewN ?_ _ | refine blk_drew ?_ | refine blk_alloc ?_ _));refine blk_far ?_ aC.out _;(with_reducible repeat (first | refine blk_drewN ?_ _ | refine blk_drew ?_ | refine blk_alloc ?_ _));exact ag.out⟩,⟨by(with_reducible repeat (first | refine blk_drewN ?_ _ | refine blk_drew ?_ | refine blk_alloc ?_ _));refine blk_put (cs:= #[.slice bh aW.length bi, .slice none 0 0]) ?_ 1 _ rfl;(with_reducible repeat (first | refine blk_drewN ?_ _ | refine blk_drew ?_ | refine blk_alloc ?_ _));refine blk_put (cs:= #[.slice none 0 0, .slice none 0 0]) ?_ 0 _ rfl;(with_reducible repeat (first | refine blk_drewN ?_ _ | refine blk_drew ?_ | refine blk_alloc ?_ _));exact ae.out⟩,⟨hb_⟩⟩
 case round=>
  clear H'
  try clear c1
  try clear c2
  try clear p2
  try clear c7
  try clear c13
  try clear c14
  try clear c15
  try clear bG
  try clear bH
  try clear bK
  try clear bL
  try clear bI
  try clear bJ
  try clear bM
  try clear bN
  obtain⟨ay,ah,aw,rfl,HA,HK1,af,ai,aa,ag,ae,HB⟩:=hrel
  cases gk with
  | zero=>exact absurd HA.out (by simp [spec_l01Copy.l0])
  | succ k1=>
   have H:=HA.out
   clear HA
   simp only [spec_l01Copy.l0] at H
   by_cases c16:ay < (ak.length:Int)
   ·rw [if_pos c16] at H
    have c16b0:decide (ay < (ak.length:Int))=true:=decide_eq_true c16
    clear c16
    by_cases c17:0≤ay
    ·rw [if_pos c17] at H
     have c17b0:decide (0≤ay)=true:=decide_eq_true c17
     clear c17
     replace H:=Option.bind_eq_some_iff.mp H
     obtain⟨aX,A180,H⟩:=H
     replace H:(if ah.length < 5864062014805 then(spec_l01Copy.l0 k1 (wrap64 (ay+1)) ak au (ah++ [aX]) aq) else(none))=some (r1,r2):=H
     have A18:=q_ A180
     clear A180
     by_cases c19:ah.length < 5864062014805
     ·rw [if_pos c19] at H
      have bT:=q_ c19
      clear c19
      obtain⟨a9,hy478⟩: ∃y_:List (List Int),y_=(ah++ [aX]):=⟨_,rfl⟩
      replace H:(spec_l01Copy.l0 k1 (wrap64 (ay+1)) ak au a9 aq)=some (r1,r2):=by first | (rw [hy478];with_reducible exact H) | (have H2_:=(Option.bind_some _ _).symm.trans H;rw [hy478];with_reducible exact H2_) | (have H2_:=(Option.bind_some _ _).symm.trans H;with_reducible exact H2_) | with_reducible exact H | (rw [hy478];exact H) | exact H
      have bU:=q_ hy478
      clear hy478
      have H':=q_ H
      clear H
      have cV:=aM.out
      have cW:=aN.out
      have cZ:=aA.out
      have da:=aH.out
      have bY:wr.cell? ⟨av,0,none⟩=some (.slice aV ak.length aK):=(blk_cell aa.out 0).trans rfl
      have bZ:wr.cell? ⟨av,1,none⟩=some (.slice aI au.length aJ):=(blk_cell aa.out 1).trans rfl
      have cm:=blk_frozen aa.out 0
      have cn:=blk_frozen aa.out 1
      try go_wp2
      replace af:=q_ (Kd.S_drew af.out)
      replace ai:=q_ (Kd.R_drew ai.out)
      replace aa:=q_ (blk_drew aa.out)
      replace ag:=q_ (blk_drew ag.out)
      replace ae:=q_ (blk_drew ae.out)
      replace HB:=q_ (below_drew1 HB.out)
      have p474:0≤(ay:Int):=od_
      have q474:ay < (ak.length:Int):=od_
      obtain⟨bE,bq,bu,e474,hx474_0,hl474_0,hi474_0⟩:=at_L1 HR0_0.out ay p474 q474
      have ax:=hx474_0
      cases e474
      replace hx474_0:=(HB.out.cell (World.block_lt_of_cell? w _ hx474_0)).trans hx474_0
      have HR474_0:=q_ hi474_0
      have HC474_0:=q_ hl474_0
      clear hi474_0 hl474_0
      replace p474:=eq_true p474
      replace q474:=eq_true q474
      refine st_ (n:=12) (S:=fun w'=>w'.cell? ⟨aj,0,none⟩=some (aw)∧w'.cell? ⟨aj,1,none⟩=some (.slice aD aq.length aG)∧w'.cell? ⟨av,0,none⟩=some (.slice (some bE) ak.length aK)∧w'.cell? ⟨av,1,none⟩=some (.slice aI au.length aJ)∧w'.cell? (bE.add (ay).toNat)=some (.slice bq (rd_L1 ak ay).length bu)) (ds:= [11]) ⟨(blk_cell ae.out 0).trans rfl,(blk_cell ae.out 1).trans rfl,(blk_cell aa.out 0).trans rfl,(blk_cell aa.out 1).trans rfl,((HB.out.cell (World.block_lt_of_cell? w _ ax)).trans ax)⟩ (fun hHeld=>?_);refine with_tabW spec_l01Copy.tab5 spec_l01Copy.bits5 (fun HT_ HW_=>?_)
      generalize wr.drew=w23 at af ai aa ag ae HB HR474_0 hx474_0 hHeld ⊢
      refine pu_ 0 17 ?_;refine pu_ 2 19 ?_;refine pu_ 4 21 ?_;refine tk_ 1 18 ?_;refine tk_ 3 20 ?_;refine pu_ 5 22 ?_;refine tk_ 6 23 ?_
      refine on_ 7 (some 24) (fun K hK=>?_)
      refine goes_ Try.func150 (by kernel_rfl) rfl #[.slice bq (rd_L1 ak ay).length bu] (by rfl) rfl rfl (by(try simp only [List.map_toArray,List.map_cons,List.map_nil]);first | done | rfl | (simp only [List.length_drop,List.length_take];rfl)) ?_
      with_reducible refine(spec_l01Own.calls _ _ (rd_L1 ak ay) aX _ ?ba ?bg A18.out).mono ?_
      (case ba=>exact cb_ HR474_0.out HB.out)
      (case bg=>exact HC474_0.out)
      rintro e w24 ⟨dA,rfl,ho0,hb⟩
      refine⟨_,rfl,?_⟩
      replace af:=q_ (Kd.S_elder' (so_ af.out) (Kd.R_base ho0) hb)
      have aZ:=q_ (Kd.R_lower (Kd.R_new' ho0 (Kd.R_lt (ro_ ai.out))) bz_)
      replace aa:=q_ (bb_ aa.out hb)
      replace ag:=q_ (bb_ ag.out hb)
      replace ae:=q_ (bb_ ae.out hb)
      replace ai:=q_ (Kd.R_elder' (ro_ ai.out) (Kd.R_base ho0) hb)
      replace HB:=q_ (bs_ hb)
      (try clear hb)
      (try clear hb2)
      (try clear hk)
      (try clear hi)
      (try clear ho0)
      obtain⟨bO,bP,bQ⟩:=Kd.R_slice aZ.out
      (first | subst bQ | (injection bQ with f1_ f2_ f3_;have f4_:=f1_.symm;have f5_:=f3_.symm;clear f1_ f2_ f3_;subst f4_;subst f5_))
      refine hK.out _ _ ⟨(blk_cell ae.out 0).trans rfl,(blk_cell ae.out 1).trans rfl,(blk_cell aa.out 0).trans rfl,(blk_cell aa.out 1).trans rfl,((HB.out.cell (World.block_lt_of_cell? w _ ax)).trans ax)⟩ (fun hHeld=>?_)
      clear hK K
      refine norm_ (a':=?_) ?_ ?_
      rotate_left
      ·show Act.put _ (some 24) _=_
       simp only [Act.put,List.setIfInBounds_toArray,List.set_cons_zero,List.set_cons_succ,i64_w,i32_w]
       rfl
      refine on_ 8 (some 25) (fun K hK=>?_)
      refine value_ (w1:=?_) (v:=?_) (by rfl) rfl ?_ ?_
      rotate_left 2
      ·go_simp
       constructor
       ·rfl
       ·rfl
      refine hK.out _ _ ⟨(blk_cell (blk_alloc ae.out _) 0).trans rfl,(blk_cell (blk_alloc ae.out _) 1).trans rfl,(blk_cell (blk_alloc aa.out _) 0).trans rfl,(blk_cell (blk_alloc aa.out _) 1).trans rfl,(World.cell?_alloc_lt _ _ _ (World.block_lt_of_cell? _ _ (((HB.out.cell (World.block_lt_of_cell? w _ ax)).trans ax)))).trans (((HB.out.cell (World.block_lt_of_cell? w _ ax)).trans ax))⟩ (fun hHeld=>?_)
      clear hK K
      refine norm_ (a':=?_) ?_ ?_
      rotate_left
      ·show Act.put _ (some 25) _=_
       simp only [Act.put,List.setIfInBounds_toArray,List.set_cons_zero,List.set_cons_succ,i64_w,i32_w]
       rfl
      refine on_ 9 (some 26) (fun K hK=>?_)
      refine Kd.S_append_step (Kd.slice 2 (Kd.int .i64)) (w0:=w) w.heap.size (by rfl) (.tmp 18) (.tmp 25) 22 23 (.slice none 0 0) 24 rfl Try.underlying22 info23 rfl (by decide) (by omega) aw ah aX [.slice bO aX.length bP] (fun k_=>some k_≠(.slice aD aq.length aG:Value).ownBlock) (fun k_=>some k_=(.slice bO aX.length bP:Value).ownBlock) rfl rfl ?aP (fun k_ hk_=>((Kd.R_mono (ok':=fun k_=>((fun k_=>some k_≠(.slice aD aq.length aG:Value).ownBlock)) k_∧some k_≠(aw:Value).ownBlock) (Kd.R_apart' (aZ.out) (Kd.S_typed af.out) (by decide)) (fun k_ hk=>⟨hk.1.2,hk.2⟩))).1 k_ hk_.symm) ?aF ?aO ?aB ?aS ?aL ?_
      (case aP=>exact Kd.M_row (Kd.R_mono (Kd.R_tight rfl (Kd.R_mono (ok':=fun k_=>((fun k_=>some k_≠(.slice aD aq.length aG:Value).ownBlock)) k_∧some k_≠(aw:Value).ownBlock) (Kd.R_apart' (aZ.out) (Kd.S_typed af.out) (by decide)) (fun k_ hk=>⟨hk.1.2,hk.2⟩))) (fun _ h_=>h_)))
      (case aB=>exact hb_)
      (case aF=>exact(fun k_ hk=>Kd.fresh' (Kd.R_lt (ro_ ai.out)) k_ hk))
      (case aO=>exact(by(with_reducible repeat (first | apply Kd.S_alloc | apply Kd.S_drewN | apply Kd.S_drew));exact Kd.S_mono af.out (fun k_ hk=>⟨hk.1,fun e_=>hk.2 e_⟩)))
      (case aS=>exact bz_)
      (case aL=>have:=bT.out;omega)
      intro dB w25 ho hb hg hat
      rw [← bU.out] at ho
      replace ai:=q_ (Kd.R_over' (ro_ ai.out) (Kd.S_typed (so_ af.out)) (by decide) hg)
      replace aa:=q_ (bg_ aa.out hg (Kd.S_ne af.out aa.out (by decide)))
      replace ag:=q_ (bg_ ag.out hg (Kd.S_ne af.out ag.out (by decide)))
      replace ae:=q_ (bg_ ae.out hg (Kd.S_ne af.out ae.out (by decide)))
      replace HB:=q_ (hb)
      have bF:=q_ (ho)
      clear af aZ ho hb hg hat
      obtain⟨bv,bw,bS⟩:=Kd.S_slice bF.out
      (first | subst bS | (injection bS with f1_ f2_ f3_;have f4_:=f1_.symm;have f5_:=f3_.symm;clear f1_ f2_ f3_;subst f4_;subst f5_))
      refine hK.out _ _ ⟨(blk_cell ae.out 0).trans rfl,(blk_cell ae.out 1).trans rfl,(blk_cell aa.out 0).trans rfl,(blk_cell aa.out 1).trans rfl,((HB.out.cell (World.block_lt_of_cell? w _ ax)).trans ax)⟩ (fun hHeld=>?_)
      clear hK K
      refine norm_ (a':=?_) ?_ ?_
      rotate_left
      ·show Act.put _ (some 26) _=_
       simp only [Act.put,List.setIfInBounds_toArray,List.set_cons_zero,List.set_cons_succ,i64_w,i32_w]
       rfl
      refine pu_ 10 27 ?_
      refine la_ 11 none (fun K hK=>?_)
      have hs28:w25.cell? ⟨aj,0,none⟩=some (aw):=(blk_cell ae.out 0).trans rfl
      have hfs28:=blk_frozen ae.out 0
      have hns28_0:=aA.out
      have hns28_1:=aC.out
      have hms28_0:=aH.out
      have hms28_1:=aT.out
      refine skip_ (w1:=?_) (by rfl) rfl ?_ ?_
      rotate_left
      ·go_simp
       rfl
      refine hK.out _ _ ?_
      clear hK K
      refine done_ (done_of HT_.out (by kernel_rfl)) ?_
      try go_wp2
      go_roundg k1
      case measure=>have:=HK1.out;omega
      case rel=>exact⟨(wrap64 (ay+1)),(a9),(.slice bv a9.length bw),rs_,H',⟨by have:=HK1.out;omega⟩,⟨by(with_reducible repeat (first | apply Kd.S_alloc | apply Kd.S_drewN | apply Kd.S_drew));exact Kd.S_mono (Kd.S_far (p:=⟨aj,0,none⟩) (Kd.S_types bF.out ae.out (by decide)) (fun _ hk=>hk.2) (.slice bv a9.length bw)) (fun _ hk=>hk.1)⟩,⟨by(with_reducible repeat (first | apply Kd.R_alloc | apply Kd.R_drewN | apply Kd.R_drew));exact Kd.R_mono (Kd.R_far (p:=⟨aj,0,none⟩) (Kd.R_types ai.out ae.out (by decide)) (fun _ hk=>hk.2) (.slice bv a9.length bw)) (fun _ hk=>trivial)⟩,⟨by(with_reducible repeat (first | refine blk_drewN ?_ _ | refine blk_drew ?_ | refine blk_alloc ?_ _));refine blk_far ?_ aA.out _;(with_reducible repeat (first | refine blk_drewN ?_ _ | refine blk_drew ?_ | refine blk_alloc ?_ _));exact aa.out⟩,⟨by(with_reducible repeat (first | refine blk_drewN ?_ _ | refine blk_drew ?_ | refine blk_alloc ?_ _));refine blk_far ?_ aC.out _;(with_reducible repeat (first | refine blk_drewN ?_ _ | refine blk_drew ?_ | refine blk_alloc ?_ _));exact ag.out⟩,⟨by(with_reducible repeat (first | refine blk_drewN ?_ _ | refine blk_drew ?_ | refine blk_alloc ?_ _));refine blk_put (cs:= #[aw, .slice aD aq.length aG]) ?_ 0 _ rfl;(with_reducible repeat (first | refine blk_drewN ?_ _ | refine blk_drew ?_ | refine blk_alloc ?_ _));exact ae.out⟩,⟨hb_⟩⟩
     ·rw [if_neg c19] at H
      exact absurd H (by simp)
    ·rw [if_neg c17] at H
     exact absurd H (by simp)
   ·rw [if_neg c16] at H
    have c16b0:decide (ay < (ak.length:Int))=false:=decide_eq_false c16
    clear c16
    simp only [Option.some.injEq,Prod.mk.injEq] at H
    obtain⟨rfl,rfl⟩:=H
    have db:=aM.out
    have df:=aN.out
    have dh:=aA.out
    have di:=aH.out
    have co:wr.cell? ⟨av,0,none⟩=some (.slice aV ak.length aK):=(blk_cell aa.out 0).trans rfl
    have cq:wr.cell? ⟨av,1,none⟩=some (.slice aI au.length aJ):=(blk_cell aa.out 1).trans rfl
    have ct:=blk_frozen aa.out 0
    have cz:=blk_frozen aa.out 1
    have dl:=aT.out
    have dr:=aC.out
    have cA:wr.cell? ⟨aj,0,none⟩=some (aw):=(blk_cell ae.out 0).trans rfl
    have cB:wr.cell? ⟨aj,1,none⟩=some (.slice aD aq.length aG):=(blk_cell ae.out 1).trans rfl
    have cC:=blk_frozen ae.out 0
    have cD:=blk_frozen ae.out 1
    obtain⟨bk,bn,bX⟩:=Kd.S_slice af.out
    subst bX
    have cE:wr.cell? ⟨az,0,none⟩=some (.slice none 0 0):=(blk_cell ag.out 0).trans rfl
    have cF:wr.cell? ⟨az,1,none⟩=some (.slice none 0 0):=(blk_cell ag.out 1).trans rfl
    have cG:=blk_frozen ag.out 0
    have cH:=blk_frozen ag.out 1
    go_wp2
    refine bodyPost_ret (results_cell_row rfl _ _ az 30 #[.slice bk ah.length bn, .slice aD aq.length aG] (0,0) _ rfl (by(with_reducible repeat (first | refine blk_drewN ?_ _ | refine blk_drew ?_ | refine blk_alloc ?_ _));refine blk_put (cs:= #[.slice bk ah.length bn, .slice none 0 0]) ?_ 1 _ rfl;(with_reducible repeat (first | refine blk_drewN ?_ _ | refine blk_drew ?_ | refine blk_alloc ?_ _));refine blk_put (cs:= #[.slice none 0 0, .slice none 0 0]) ?_ 0 _ rfl;(with_reducible repeat (first | refine blk_drewN ?_ _ | refine blk_drew ?_ | refine blk_alloc ?_ _));exact ag.out) Try.underlying30 rfl (by kernel_rfl)) rfl ?_
    exact⟨_,_,by first | rfl | (simp [errW_none,errW_some] <;> rfl) | (simp [*,errW_none,errW_some] <;> rfl),by(with_reducible repeat (first | apply Kd.S_alloc | apply Kd.S_drewN | apply Kd.S_drew));exact Kd.S_mono (Kd.S_far (p:=⟨az,1,none⟩) (Kd.S_far (p:=⟨az,0,none⟩) (Kd.S_types af.out ag.out (by decide)) (fun _ hk=>hk.2) (.slice bk ah.length bn)) (fun _ hk=>hk.2) (.slice aD aq.length aG)) (fun _ hk=>hk.1),by(with_reducible repeat (first | apply Kd.R_alloc | apply Kd.R_drewN | apply Kd.R_drew));exact Kd.R_mono (Kd.R_far (p:=⟨az,1,none⟩) (Kd.R_far (p:=⟨az,0,none⟩) (Kd.R_types ai.out ag.out (by decide)) (fun _ hk=>hk.2) (.slice bk ah.length bn)) (fun _ hk=>hk.2) (.slice aD aq.length aG)) (fun _ hk=>trivial),hb_⟩
end Go.Proofs.Ytmpkckiifeikkaa.Pr
end
section
namespace Go.Proofs.Ytmpkckiifeikkaa.Dr
open Go.RowKit Go.Proofs.YtmpkckiifeikkaaW.PrintWords Go.Proofs.YtmpkckiifeikkaaW.PrintLast Go.Proofs.YtmpkckiifeikkaaW.PrintMore Go.Proofs.Ytmpkckiifeikkaa.Ma Go.Proofs.Ytmpkckiifeikkaa.Pr Go.Proofs.Ytmpkckiifeikkaa.Lq
theorem copy_ex {M:List (List Int)} {Q:List Int} {n:Nat} (hn:n≤5) (hM:M.length=n) (hr: ∀x ∈ M,x.length=n) (hQ:Q.length=n):Ex (fun k=>spec_l01Copy.f k M Q) (fun r=>r.1.length=n∧(∀x ∈ r.1,x.length=n)∧r.2.length=n):=by
 have own: ∀B:List Int,B.length≤1000→spec_l01Own.f B=some B:=fun B h=>by
  unfold spec_l01Own.f
  simp
  omega
 unfold spec_l01Copy.f
 refine exsome (own Q (by omega)) ?_
 have loop: ∀(q i:Nat) (acc:List (List Int)),i+q=n→acc.length=i→(∀x ∈ acc,x.length=n)→Ex (fun k=>spec_l01Copy.l0 k (i:Int) M Q acc Q) (fun r=>r.1.length=n∧(∀x ∈ r.1,x.length=n)∧r.2.length=n):=by
  intro q
  induction q with
  | zero=>
   intro i acc hi hl hx
   refine exstep (fun k=>by rw [spec_l01Copy.l0]) ?_
   exact exneg (by omega) (exc rfl ⟨by show acc.length=n;omega,hx,hQ⟩)
  | succ q ih=>
   intro i acc hi hl hx
   have hrow:(rd_L1 M (i:Int)).length=n:=by
    have e:rd_L1 M (i:Int)=M.getD i []:=by simp [rd_L1]
    rw [e,List.getD_eq_getElem?_getD,List.getElem?_eq_getElem (by omega)]
    exact hr _ (List.getElem_mem _)
   refine exstep (fun k=>by rw [spec_l01Copy.l0]) ?_
   rw [w64 (x:=(i:Int)+1) (by omega) (by omega)]
   refine expos (by omega) (expos (by omega) (exsome (own _ (by omega)) (expos (by omega) (ih (i+1) _ (by omega) (by simp;omega) (fun x hm=>?_)))))
   rcases List.mem_append.1 hm with m | m
   ·exact hx x m
   ·rw [List.mem_singleton.1 m];exact hrow
 exact loop n 0 [] (by omega) rfl (by simp)
structure Pb (w:World) (g lo n gm c:Nat) (b cp:Nat→Nat) (A:Option Addr) (c1:Nat) (Q:List Int):Prop where
 dm:Dm w lo gm n c b cp
 rq:Kd.R (Kd.int .i64) 2 w lo (fun k=>k≠g∧k≠gm∧ ∀j,j < n→k≠b j) (.slice A Q.length c1) Q
 ql:n≤Q.length∧Q.length≤n+1
theorem Pb.mv {w0 w w1:World} {g lo n gm c:Nat} {b cp:Nat→Nat} {A:Option Addr} {c1:Nat} {Q:List Int} (h:Pb w g lo n gm c b cp A c1 Q) (hS:Stp w0 w g w1) (hg:g < lo):Pb w1 g lo n gm c b cp A c1 Q:=
 ⟨h.dm.keep hS.keep hg,Kd.R_keep h.rq hS.keep (fun k hk=>hk.1),h.ql⟩
def PbOut (w0 wE:World) (g lo n:Nat) (v:Value) (w':World):Prop:=(v= .agg #[.slice none 0 0, .slice none 0 0]∨ ∃gm c b cp A c1 Q,v= .agg #[.slice (some ⟨gm,0,none⟩) n c, .slice A Q.length c1]∧Pb w' g lo n gm c b cp A c1 Q)∧Stp w0 wE g w'
theorem copy_c {w:World} {g lo n gm c:Nat} {b cp:Nat→Nat} {A:Option Addr} {c1:Nat} {Q:List Int} (h:Pb w g lo n gm c b cp A c1 Q) (hQ:Q.length=n) (hn:n≤5) (hn0:0 < n):Calls Try.prog 210 #[.agg #[.slice (some ⟨gm,0,none⟩) n c, .slice A n c1]] w fun e w'=> ∃gm2 c2 b2 cp2 A2 d2 Q2,e= .returned (.agg #[.slice (some ⟨gm2,0,none⟩) n c2, .slice A2 n d2])∧Q2.length=n∧Dm w' w.heap.size gm2 n c2 b2 cp2∧Kd.R (Kd.int .i64) 2 w' w.heap.size (fun k=>w.heap.size≤k∧k≠gm2∧ ∀j,j < n→k≠b2 j) (.slice A2 n d2) Q2∧Below w.heap.size w w':=by
 obtain⟨M,hM,hMr,hC⟩:=h.dm.C (by omega)
 obtain⟨r,⟨k,e⟩,p1,p2,p3⟩:=copy_ex hn hM hMr hQ
 have hR:=Kd.R_reads' h.rq
 have hcall:=spec_l01Copy.calls k (some ⟨gm,0,none⟩) c M A c1 Q r.1 r.2 w hC (by rw [hM];exact h.dm.cap) hR.2.2 hR.2.1 (e k (Nat.le_refl _))
 rw [hM,hQ] at hcall
 refine hcall.mono ?_
 rintro e w' ⟨v0,v1,rfl,hS,hR1,hb⟩
 obtain⟨gm2,c2,b2,cp2,rfl,hD,ok1,ok2⟩:=Dm.of hS p1 p2 hn0
 obtain⟨A2,d2,rfl⟩:=Kd.R_slice hR1
 have hR2:Kd.R (Kd.int .i64) 2 w' w.heap.size (fun k=>w.heap.size≤k∧k≠gm2∧ ∀j,j < n→k≠b2 j) (.slice A2 r.2.length d2) r.2:=Kd.R_mono (Kd.R_tight rfl hR1) (fun k hk=>⟨Kd.R_base hR1 k hk.symm,fun q=>ok1 (by rw [← q];exact hk),fun j hj q=>ok2 j hj (by rw [← q];exact hk)⟩)
 rw [p3] at hR2
 exact⟨gm2,c2,b2,cp2,A2,d2,r.2,by rw [p3],p3,hD,hR2,hb⟩
structure Cp (w0 w wr:World) (g W g4 gb n gm c:Nat) (b cp:Nat→Nat) (vq:Value):Prop where
 st:Stp w0 w g wr
 dm:Dm wr W gm n c b cp
 b4:wr.heap[g4]?=some (.cells #[.slice none 0 0, .slice none 0 0] 30 (0,0))
 bb:wr.heap[gb]?=some (.cells #[.slice (some ⟨gm,0,none⟩) n c,vq] 30 (0,0))
 s4:w.heap.size≤g4∧g4 < W
 sb:W≤gb∧gb≠gm∧ ∀j,j < n→gb≠b j
 el:w0.heap.size≤w.heap.size∧g < w.heap.size
def okC (W gb n gm:Nat) (b:Nat→Nat) (k:Nat):Prop:=W≤k∧k≠gb∧k≠gm∧ ∀j,j < n→k≠b j
abbrev RC (wr:World) (W gb n gm:Nat) (b:Nat→Nat) (vq:Value) (Q:List Int):Prop:=Kd.R (Kd.int .i64) 2 wr W (okC W gb n gm b) vq Q
section
variable {w0 w wr w1:World} {g W g4 gb n gm c:Nat} {b cp:Nat→Nat} {vq:Value} {Q:List Int}
theorem Cp.new {w5 w6:World} {A2:Option Addr} {d2:Nat} (hE:w0.heap.size≤w.heap.size) (hg:g < w.heap.size) (st:Stp w0 w g w5) (h4:w.heap.size≤g4∧g4 < W) (b4:w5.heap[g4]?=some (.cells #[.slice none 0 0, .slice none 0 0] 30 (0,0))) (dm:Dm w5 W gm n c b cp) (hW:W≤w5.heap.size) (rq:Kd.R (Kd.int .i64) 2 w5 W (fun k=>W≤k∧k≠gm∧ ∀j,j < n→k≠b j) (.slice A2 Q.length d2) Q) (hb:Below w5.heap.size w5 w6) (h5:w5.heap.size≤gb) (hbox:w6.heap[gb]?=some (.cells #[.slice none 0 0, .slice none 0 0] 30 (0,0))):
  Cp w0 w ((w6.setCell ⟨gb,0,none⟩ (.slice (some ⟨gm,0,none⟩) n c)).setCell ⟨gb,1,none⟩ (.slice A2 Q.length d2)) g W g4 gb n gm c b cp (.slice A2 Q.length d2)∧RC ((w6.setCell ⟨gb,0,none⟩ (.slice (some ⟨gm,0,none⟩) n c)).setCell ⟨gb,1,none⟩ (.slice A2 Q.length d2)) W gb n gm b (.slice A2 Q.length d2) Q:=by
 have lt:=fun k hk=>Kd.R_lt rq k hk
 have g0:=dm.g0
 have hs:=Stp.of_below st.src st.below hb
 have sg:=st.keep.1
 have e5:gb≠gm∧ ∀j,j < n→gb≠b j:=⟨by omega,fun j hj=>by have:=(dm.rr j hj).2.1;omega⟩
 have d6:=dm.keep hs.keep (by omega)
 have r6:Kd.R (Kd.int .i64) 2 w6 W (okC W gb n gm b) (.slice A2 Q.length d2) Q:=Kd.R_below (Kd.R_mono (Kd.R_tight rfl rq) (fun k hk=>⟨(rq.1 k hk.symm).1,by have:=lt k hk.symm;omega,(rq.1 k hk.symm).2⟩)) hb
 have s6:=st.trans hs
 refine⟨⟨(s6.set hE gb 0 _ (by omega) (by omega)).set hE gb 1 _ (by omega) (by omega),(d6.set e5.1 e5.2).set e5.1 e5.2,?_,blk_put (blk_put hbox 0 _ rfl) 1 _ rfl,h4,⟨by omega,e5⟩,hE,hg⟩,?_⟩
 ·exact(Below.heap_setCell _ ⟨gb,1,none⟩ _ g4 (by show g4≠gb;omega)).trans ((Below.heap_setCell w6 ⟨gb,0,none⟩ _ g4 (by show g4≠gb;omega)).trans (blk_below b4 hb))
 ·exact Kd.R_far (Kd.R_far r6 (p:=⟨gb,0,none⟩) (fun q hq=>hq.2.1) _) (p:=⟨gb,1,none⟩) (fun q hq=>hq.2.1) _
theorem Cp.mv (h:Cp w0 w wr g W g4 gb n gm c b cp vq) (hS:Stp w0 wr g w1):Cp w0 w w1 g W g4 gb n gm c b cp vq:=by
 have:=h.s4;have:=h.sb;have:=h.el
 exact⟨h.st.trans hS,h.dm.keep hS.keep (by omega),hS.keep.blk h.b4 (by omega) (by simp),hS.keep.blk h.bb (by omega) (by simp),h.s4,h.sb,h.el⟩
theorem RC.mv (h:Cp w0 w wr g W g4 gb n gm c b cp vq) (r:RC wr W gb n gm b vq Q) (hS:Stp w0 wr g w1):RC w1 W gb n gm b vq Q:=by
 have:=h.s4;have:=h.el
 exact Kd.R_keep r hS.keep (fun k hk=>by have:=hk.1;omega)
theorem Cp.put (h:Cp w0 w wr g W g4 gb n gm c b cp vq) (r:RC wr W gb n gm b vq Q) {j k:Nat} (hj:j < n) (hk:k < n) (x:Int):Cp w0 w (wr.setCell ⟨b j,k,none⟩ (.int .i64 x)) g W g4 gb n gm c b cp vq∧RC (wr.setCell ⟨b j,k,none⟩ (.int .i64 x)) W gb n gm b vq Q:=by
 have h4:=h.s4;have hb:=h.sb;have he:=h.el;have hr:=h.dm.rr j hj
 exact⟨⟨h.st.set he.1 (b j) k _ (by omega) (by omega),h.dm.put hj hk x,(Below.heap_setCell wr ⟨b j,k,none⟩ _ g4 (by show g4≠b j;omega)).trans h.b4,(Below.heap_setCell wr ⟨b j,k,none⟩ _ gb (hb.2.2 j hj)).trans h.bb,h4,hb,he⟩,Kd.R_far r (p:=⟨b j,k,none⟩) (fun q hq=>hq.2.2.2 j hj) _⟩
theorem Cp.putQ {gq c1:Nat} (h:Cp w0 w wr g W g4 gb n gm c b cp (.slice (some ⟨gq,0,none⟩) Q.length c1)) (r:RC wr W gb n gm b (.slice (some ⟨gq,0,none⟩) Q.length c1) Q) (hq:W≤gq∧gq≠gb∧gq≠gm∧ ∀j,j < n→gq≠b j) (i:Nat) (x:Int):Cp w0 w (wr.setCell ⟨gq,i,none⟩ (.int .i64 x)) g W g4 gb n gm c b cp (.slice (some ⟨gq,0,none⟩) Q.length c1)∧RC (wr.setCell ⟨gq,i,none⟩ (.int .i64 x)) W gb n gm b (.slice (some ⟨gq,0,none⟩) Q.length c1) (Q.set i x):=by
 have h4:=h.s4;have hb:=h.sb;have he:=h.el
 have hput:=Kd.R_putg r (i:Int) x
 rw [Int.toNat_natCast] at hput
 exact⟨⟨h.st.set he.1 gq i _ (by omega) (by omega),h.dm.set hq.2.2.1 hq.2.2.2,(Below.heap_setCell wr ⟨gq,i,none⟩ _ g4 (by show g4≠gq;omega)).trans h.b4,(Below.heap_setCell wr ⟨gq,i,none⟩ _ gb (Ne.symm hq.2.1)).trans h.bb,h4,hb,he⟩,hput.1⟩
theorem Cp.fresh (h:Cp w0 w wr g W g4 gb n gm c b cp vq):W≤wr.heap.size∧ ∀k,wr.heap.size≤k→okC W gb n gm b k:=by
 have lb:=blk_lt h.bb;have g0:=h.dm.g0
 exact⟨by omega,fun k hk=>⟨by omega,by omega,by omega,fun j hj=>by have:=(h.dm.rr j hj).2.1;omega⟩⟩
theorem Cp.grow (h:Cp w0 w wr g W g4 gb n gm c b cp vq) (r:RC wr W gb n gm b vq Q) (hg:wr.grownBy w1 vq.ownBlock) (hb:Below W wr w1):Cp w0 w w1 g W g4 gb n gm c b cp vq:=by
 have hn: ∀k, ¬ okC W gb n gm b k→some k≠vq.ownBlock:=fun k hk e=>hk (r.1 k e.symm)
 have h4:=h.s4;have he:=h.el
 refine⟨h.st.lo he.1 he.2 ⟨hb.os,hb.tape,hb.output,hb.size,fun i hi=>hb.block i (by omega)⟩,h.dm.grow hg ⟨hn _ (fun q=>q.2.2.1 rfl),fun j hj=>hn _ (fun q=>q.2.2.2 j hj rfl)⟩,blk_grown h.b4 hg (hn _ (fun q=>by have:=q.1;omega)),blk_grown h.bb hg (hn _ (fun q=>q.2.1 rfl)),h.s4,h.sb,h.el⟩
theorem Cp.store {v1:Value} (h:Cp w0 w w1 g W g4 gb n gm c b cp vq) (r:RC w1 W gb n gm b v1 Q):Cp w0 w (w1.setCell ⟨gb,1,none⟩ v1) g W g4 gb n gm c b cp v1∧RC (w1.setCell ⟨gb,1,none⟩ v1) W gb n gm b v1 Q:=by
 have h4:=h.s4;have hb:=h.sb;have he:=h.el
 exact⟨⟨h.st.set he.1 gb 1 _ (by omega) (by omega),h.dm.set hb.2.1 hb.2.2,(Below.heap_setCell w1 ⟨gb,1,none⟩ _ g4 (by show g4≠gb;omega)).trans h.b4,blk_put h.bb 1 v1 rfl,h4,hb,he⟩,Kd.R_far r (p:=⟨gb,1,none⟩) (fun q hq=>hq.2.1) _⟩
theorem Cp.out {lo c1:Nat} {A:Option Addr} (h:Cp w0 w wr g W g4 gb n gm c b cp (.slice A Q.length c1)) (r:RC wr W gb n gm b (.slice A Q.length c1) Q) (hg:g < lo) (hl:lo≤w.heap.size) (hq:n≤Q.length∧Q.length≤n+1):
  PbOut w0 w g lo n (.agg #[.slice (some ⟨gm,0,none⟩) n c, .slice A Q.length c1]) ((wr.setCell ⟨g4,0,none⟩ (.slice (some ⟨gm,0,none⟩) n c)).setCell ⟨g4,1,none⟩ (.slice A Q.length c1)):=by
 have h4:=h.s4;have hb:=h.sb;have he:=h.el;have g0:=h.dm.g0
 have q1:g4≠gm:=by omega
 have q2: ∀j,j < n→g4≠b j:=fun j hj=>by have:=(h.dm.rr j hj).1;omega
 refine⟨.inr ⟨gm,c,b,cp,A,c1,Q,rfl,⟨((h.dm.set q1 q2).set q1 q2).down (by omega),?_,hq⟩⟩,(h.st.set he.1 g4 0 _ h4.1 (by omega)).set he.1 g4 1 _ h4.1 (by omega)⟩
 have r2:=Kd.R_far (Kd.R_far r (p:=⟨g4,0,none⟩) (fun k hk=>by show k≠g4;have:=hk.1;omega) (.slice (some ⟨gm,0,none⟩) n c)) (p:=⟨g4,1,none⟩) (fun k hk=>by show k≠g4;have:=hk.1;omega) (.slice A Q.length c1)
 exact Kd.R_lower (Kd.R_mono r2 (fun k hk=>⟨by have:=hk.1;omega,hk.2.2⟩)) (by omega)
end
end Go.Proofs.Ytmpkckiifeikkaa.Dr
end
section
namespace Go.Proofs.Ytmpkckiifeikkaa.Dr
open Go.RowKit Go.Proofs.YtmpkckiifeikkaaW.PrintWords Go.Proofs.YtmpkckiifeikkaaW.PrintLast Go.Proofs.YtmpkckiifeikkaaW.PrintMore Go.Proofs.Ytmpkckiifeikkaa.Ma Go.Proofs.Ytmpkckiifeikkaa.Pr Go.Proofs.Ytmpkckiifeikkaa.Lq
theorem bad_c {w0 w:World} {g lo n gm c:Nat} {b cp:Nat→Nat} {A:Option Addr} {c1:Nat} {Q:List Int} (h:Srm w0 w g) (hB:Below w0.heap.size w0 w) (hP:Pb w g lo n gm c b cp A c1 Q) (hQ:Q.length=n) (hn:n≤5) (hn0:0 < n) (hg:g < lo) (hl:lo≤w.heap.size):Calls Try.prog 200 #[.pointer (some ⟨g,0,none⟩), .agg #[.slice (some ⟨gm,0,none⟩) n c, .slice A n c1]] w fun e w'=> ∃v,e= .returned v∧PbOut w0 w g lo n v w':=by
 have ST:=q_ (Stp.refl h hB)
 have HE:=q_ hB.size
 have P:=q_ hP
 have PL:=q_ (show gm < w.heap.size∧ ∀j,j < n→b j < w.heap.size from ⟨hP.dm.g0.2,fun j hj=>(hP.dm.rr j hj).2.1⟩)
 have RP:Aside0 (Kd.R (Kd.int .i64) 2 w lo (fun k=>(k≠g∧k≠gm∧ ∀j,j < n→k≠b j)∧k < w.heap.size) (.slice A Q.length c1) Q):=⟨Kd.R_mono (Kd.R_tight rfl hP.rq) (fun k hk=>⟨hP.rq.1 k hk.symm,Kd.R_lt hP.rq k hk.symm⟩)⟩
 have HQ:=q_ hQ
 have HN:=q_ hn
 have HN0:=q_ hn0
 have HG:=q_ hg
 have HL:=q_ hl
 clear h hB hP hQ hn hn0 hg hl
 go_enter Try.func200,Try.ntmps200
 go_wp2_with (first | ((with_reducible refine gate_dst (N:=3) rfl ?_);refine box_event ?hg (N:=3) ?hd (cs:= #[.slice (some ⟨gm,0,none⟩) n c, .slice A n c1]) (t:=30) ?hr ?_;(case hd=>rfl);(case hg=>rfl);(case hr=>first | (go_simp;done) | (go_simp;rfl));intro g3 hg w2 hbox hb;have G3:=q_ (show w.heap.size≤g3 by rw [hg];exact Nat.le_refl _);have hs_:=Stp.of_below ST.out.src ST.out.below hb;replace ST:=q_ (ST.out.trans hs_);replace P:=q_ (P.out.mv hs_ HG.out);replace RP:=q_ (Kd.R_keep RP.out hs_.keep (fun k hk=>hk.1.1));have B3:=q_ hbox;clear hs_ hg hbox hb) | ((with_reducible refine gate_dst (N:=4) rfl ?_);refine box_event ?hg (N:=4) ?hd (cs:= #[.slice none 0 0, .slice none 0 0]) (t:=30) ?hr ?_;(case hd=>rfl);(case hg=>rfl);(case hr=>first | (go_simp;done) | (go_simp;rfl));intro g4 hg w3 hbox hb;have G4:=q_ (show w.heap.size≤g4∧g3≠g4 by rw [hg];exact⟨ST.out.keep.1,Nat.ne_of_lt (blk_lt B3.out)⟩);have hs_:=Stp.of_below ST.out.src ST.out.below hb;replace ST:=q_ (ST.out.trans hs_);replace P:=q_ (P.out.mv hs_ HG.out);replace RP:=q_ (Kd.R_keep RP.out hs_.keep (fun k hk=>hk.1.1));replace B3:=q_ (blk_below B3.out hb);have B4:=q_ hbox;clear hs_ hg hbox hb))
 refine(next_c ST.out.src ST.out.below 50).mono ?_
 rintro e w4 ⟨y,rfl,_,hS⟩
 replace ST:=q_ (ST.out.trans hS);replace P:=q_ (P.out.mv hS HG.out);replace RP:=q_ (Kd.R_keep RP.out hS.keep (fun k hk=>hk.1.1));replace B3:=q_ (hS.keep.blk B3.out (by have:=G3.out;have:=G4.out;have:=HG.out;have:=HL.out;omega) (by simp));replace B4:=q_ (hS.keep.blk B4.out (by have:=G3.out;have:=G4.out;have:=HG.out;have:=HL.out;omega) (by simp))
 clear hS
 by_cases y0:y=0
 ·have y0b:(y==0)=true:=by simpa using y0
  clear y0
  have x40:=cz_ B4 0;have x41:=cz_ B4 1;have f40:=blk_frozen B4.out 0;have f41:=blk_frozen B4.out 1
  go_wp2
  refine bodyPost_ret (results_cell_row rfl _ _ g4 30 #[.slice none 0 0, .slice none 0 0] (0,0) _ rfl (blk_put (blk_put B4.out 0 _ rfl) 1 _ rfl) Try.underlying30 rfl (by kernel_rfl)) rfl ?_
  have g4a:=G4.out;have hl:=HL.out;have hgg:=HG.out
  have S4:=(ST.out.set HE.out g4 0 (.slice none 0 0) g4a.1 (by omega)).set HE.out g4 1 (.slice none 0 0) g4a.1 (by omega)
  exact⟨_,rfl, .inl rfl,S4⟩
 have y0b:(y==0)=false:=by simpa using y0
 clear y0
 by_cases y1:y=1
 ·have y1b:(y==1)=true:=by simpa using y1
  clear y1
  have x30:=cz_ B3 0;have x31:=cz_ B3 1;have f30:=blk_frozen B3.out 0;have f31:=blk_frozen B3.out 1
  go_wp2_with fail
  refine(copy_c P.out HQ.out HN.out HN0.out).mono ?_
  rintro e w5 ⟨gm2,c2,b2,cp2,A2,d2,Q2,rfl,hQ2,hD,hR,hb⟩
  clear x30 x31 f30 f31
  have D2:=q_ hD;have R2:=q_ hR;have L2:=q_ hQ2;have HB5:=q_ hb;have GB4:=q_ (blk_lt B4.out);have GL:=q_ ST.out.src.lt
  have hs_:=Stp.of_below ST.out.src ST.out.below hb
  replace ST:=q_ (ST.out.trans hs_);replace P:=q_ (P.out.mv hs_ HG.out);replace RP:=q_ (Kd.R_keep RP.out hs_.keep (fun k hk=>hk.1.1));replace B3:=q_ (hs_.keep.blk B3.out (by have:=G3.out;have:=G4.out;have:=HG.out;have:=HL.out;omega) (by simp));replace B4:=q_ (hs_.keep.blk B4.out (by have:=G3.out;have:=G4.out;have:=HG.out;have:=HL.out;omega) (by simp))
  clear hD hR hQ2 hb hs_
  obtain⟨gq,dq,eq_,hbq,hlq,_⟩:=Kd.R_form R2.out (by rw [L2.out];exact HN0.out)
  injection eq_ with e1 e2 e3
  subst e1
  have GQ:=q_ hbq
  clear e2 e3 hbq hlq
  go_wp2_with (first | ((with_reducible refine gate_dst (N:=5) rfl ?_);refine box_event ?hg (N:=5) ?hd (cs:= #[.slice none 0 0, .slice none 0 0]) (t:=30) ?hr ?_;(case hd=>rfl);(case hg=>rfl);(case hr=>first | (go_simp;done) | (go_simp;rfl));intro g5 hg w6 hbox hb;have B5:=q_ hbox;have G5:=q_ (show w5.heap.size≤g5 by rw [hg];exact Nat.le_refl _);have HB6:=q_ hb;have hx0:=cz_ B5 0;have hx1:=cz_ B5 1;have fx0:=blk_frozen hbox 0;have fx1:=blk_frozen hbox 1;clear hg hbox hb) | ((with_reducible refine gate_store (t:=30) (p:=5) rfl ?_);refine store_event (t:=30) (p:=5) (v:=?vo5) (w1:=(w6.setCell ⟨g5,0,none⟩ (.slice (some ⟨gm2,0,none⟩) n c2)).setCell ⟨g5,1,none⟩ (.slice (some ⟨gq,0,none⟩) n d2)) ?hg ?ho ?hn ?hr ?_;(case ho=>rfl);(case hg=>rfl);(case hn=>rfl);(case hr=>first | (go_simp;done) | (go_simp;rfl));intro w7 hw;have cpr:=Cp.new (g4:=g4) (W:=w4.heap.size) HE.out (by have:=HG.out;have:=HL.out;omega) ST.out ⟨G4.out.1,GB4.out⟩ B4.out D2.out HB5.out.size (by rw [L2.out];exact R2.out) HB6.out G5.out B5.out;rw [L2.out, ← hw] at cpr;have CP:=q_ cpr.1;have RQ:=q_ cpr.2;clear cpr hw hx0 hx1 fx0 fx1;have hx0:=cz_ (q_ CP.out.bb) 0;have hx1:=cz_ (q_ CP.out.bb) 1))
  clear ST P RP D2 R2 B4 HB6 G5 B5 HB5 B3 hx0 hx1
  have hs_:=Stp.of_below CP.out.st.src CP.out.st.below (below_drew (Below.refl w7.heap.size w7))
  replace RQ:=q_ (RC.mv CP.out RQ.out hs_);replace CP:=q_ (CP.out.mv hs_)
  clear hs_
  refine st_ (n:=10) (S:=fun w'=>w'.cell? ⟨g5,0,none⟩=some (.slice (some ⟨gm2,0,none⟩) n c2)∧ ∀j,j < n→w'.cell? ⟨gm2,j,none⟩=some (.slice (some ⟨b2 j,0,none⟩) n (cp2 j))) (ds:= []) ⟨cz_ (q_ CP.out.bb) 0,CP.out.dm.row⟩ (fun hHeld=>?_)
  generalize w7.drew=w8 at CP RQ hHeld ⊢
  refine pu_ 0 18 ?_;refine pu_ 2 20 ?_;refine pu_ 3 21 ?_;refine tk_ 1 19 ?_;refine tk_ 4 22 ?_;refine pu_ 5 23 ?_
  refine on_ 6 (some 24) (fun K hK=>?_)
  refine ca_ Try.func100 #[.pointer (some ⟨g,0,none⟩), .int .i64 (n:Int)] ?_
  refine(next_c CP.out.st.src CP.out.st.below (n:Int)).mono ?_
  rintro e w9 ⟨x,rfl,hx,hS⟩
  obtain⟨j,rfl⟩:=Int.eq_ofNat_of_zero_le (hx (by have:=HN0.out;omega)).1
  have hjn:j < n:=by have:=(hx (by have:=HN0.out;omega)).2;omega
  have HJ:=q_ hjn
  have hjz:(j:Int) < (n:Int):=by omega
  have h0j:(0:Int)≤(j:Int):=by omega
  refine⟨_,rfl,?_⟩
  replace RQ:=q_ (RC.mv CP.out RQ.out hS);replace CP:=q_ (CP.out.mv hS)
  clear hS hx hHeld
  refine hK.out _ _ ⟨cz_ (q_ CP.out.bb) 0,CP.out.dm.row⟩ (fun hHeld=>?_)
  clear hK K
  refine no_ ?_
  refine pu_ 7 25 ?_;refine tk_ 8 26 ?_;refine pu_ 9 6 ?_
  refine done_ (by kernel_rfl) ?_
  clear hHeld hjn hjz h0j
  go_wp2_with (first | ((with_reducible refine gate_dst (N:=29) rfl ?_);refine Kd.R_lit (Kd.int .i64) _ 2 ?hg (N:=29) ?hd (xs:=([21, -21,1099511627776]:List Int)) (inner:= [.int .i64 21, .int .i64 (-21), .int .i64 1099511627776]) (ok:=fun _=>True) (okp:=fun _=>True) ?hr ?hp (fun _ hk=>hk) trivial (Below.refl _ _) (Nat.le_refl _) (by simp) ?_;(case hd=>rfl);(case hg=>rfl);(case hr=>first | (go_simp;done) | (go_simp;rfl));(case hp=>exact lit_reps [21, -21,1099511627776]);intro v29 w10 ho hb hg_ hnew_;obtain⟨g29,c29,rfl,hb29,hl29,_⟩:=Kd.R_form ho (by simp);have G29:=q_ (Nat.lt_of_lt_of_le CP.out.st.src.lt hb29);have hs_:=Stp.of_below CP.out.st.src CP.out.st.below hb;replace RQ:=q_ (RC.mv CP.out RQ.out hs_);replace CP:=q_ (CP.out.mv hs_);have R29:=q_ ho;clear hs_ hb29 hl29 hg_ hnew_ ho hb))
  refine(pick_c CP.out.st.src CP.out.st.below _ c29 [21, -21,1099511627776] (Kd.R_reads' R29.out).2.2 (Kd.R_reads' R29.out).2.1 (fun ad e _=>by injection e with e;subst e;show g29≠g;have:=G29.out;omega) (by decide)).mono ?_
  rintro e w11 ⟨x,rfl,_,hS⟩
  replace RQ:=q_ (RC.mv CP.out RQ.out hS);replace CP:=q_ (CP.out.mv hS)
  clear hS R29 G29
  obtain⟨⟨z,hz⟩,fz⟩:=CP.out.dm.ints j 0 HJ.out HN0.out
  have hn0z:(0:Int) < (n:Int):=by have:=HN0.out;omega
  go_wp2_with (first | ((with_reducible refine gate_store (t:=2) (p:=31) rfl ?_);refine store_event (t:=2) (p:=31) (v:=?vo31) (w1:=w11.setCell ⟨b2 j,0,none⟩ (.int .i64 x)) ?hg ?ho ?hn ?hr ?_;(case ho=>rfl);(case hg=>rfl);(case hn=>rfl);(case hr=>first | (go_simp;done) | (go_simp;rfl));intro w12 hw;have cpr:=CP.out.put RQ.out HJ.out HN0.out x;rw [← hw] at cpr;replace RQ:=q_ cpr.2;replace CP:=q_ cpr.1;clear hz fz cpr hw;have hx0:=cz_ (q_ CP.out.bb) 0;have hx1:=cz_ (q_ CP.out.bb) 1;have y40:=cz_ (q_ CP.out.b4) 0;have y41:=cz_ (q_ CP.out.b4) 1;have g40:=blk_frozen CP.out.b4 0;have g41:=blk_frozen CP.out.b4 1))
  go_wp2
  refine bodyPost_ret (results_cell_row rfl _ _ g4 30 #[.slice (some ⟨gm2,0,none⟩) n c2, .slice (some ⟨gq,0,none⟩) n d2] (0,0) _ rfl (blk_put (blk_put CP.out.b4 0 _ rfl) 1 _ rfl) Try.underlying30 rfl (by kernel_rfl)) rfl ?_
  have fin:=Cp.out (Q:=Q2) (by rw [L2.out];exact CP.out) (by rw [L2.out];exact RQ.out) HG.out HL.out (by rw [L2.out];omega)
  rw [L2.out] at fin
  exact⟨_,rfl,fin⟩
 have y1b:(y==1)=false:=by simpa using y1
 clear y1
 by_cases y2:y=2
 ·have y2b:(y==2)=true:=by simpa using y2
  clear y2
  have x30:=cz_ B3 0;have x31:=cz_ B3 1;have f30:=blk_frozen B3.out 0;have f31:=blk_frozen B3.out 1
  go_wp2_with fail
  refine(copy_c P.out HQ.out HN.out HN0.out).mono ?_
  rintro e w5 ⟨gm2,c2,b2,cp2,A2,d2,Q2,rfl,hQ2,hD,hR,hb⟩
  clear x30 x31 f30 f31
  have D2:=q_ hD;have R2:=q_ hR;have L2:=q_ hQ2;have HB5:=q_ hb;have GB4:=q_ (blk_lt B4.out);have GL:=q_ ST.out.src.lt
  have hs_:=Stp.of_below ST.out.src ST.out.below hb
  replace ST:=q_ (ST.out.trans hs_);replace P:=q_ (P.out.mv hs_ HG.out);replace RP:=q_ (Kd.R_keep RP.out hs_.keep (fun k hk=>hk.1.1));replace B3:=q_ (hs_.keep.blk B3.out (by have:=G3.out;have:=G4.out;have:=HG.out;have:=HL.out;omega) (by simp));replace B4:=q_ (hs_.keep.blk B4.out (by have:=G3.out;have:=G4.out;have:=HG.out;have:=HL.out;omega) (by simp))
  clear hD hR hQ2 hb hs_
  obtain⟨gq,dq,eq_,hbq,hlq,_⟩:=Kd.R_form R2.out (by rw [L2.out];exact HN0.out)
  injection eq_ with e1 e2 e3
  subst e1
  have GQ:=q_ hbq
  clear e2 e3 hbq hlq
  go_wp2_with (first | ((with_reducible refine gate_dst (N:=7) rfl ?_);refine box_event ?hg (N:=7) ?hd (cs:= #[.slice none 0 0, .slice none 0 0]) (t:=30) ?hr ?_;(case hd=>rfl);(case hg=>rfl);(case hr=>first | (go_simp;done) | (go_simp;rfl));intro g7 hg w6 hbox hb;have B7:=q_ hbox;have G7:=q_ (show w5.heap.size≤g7 by rw [hg];exact Nat.le_refl _);have HB6:=q_ hb;have hx0:=cz_ B7 0;have hx1:=cz_ B7 1;have fx0:=blk_frozen hbox 0;have fx1:=blk_frozen hbox 1;clear hg hbox hb) | ((with_reducible refine gate_store (t:=30) (p:=7) rfl ?_);refine store_event (t:=30) (p:=7) (v:=?vo7) (w1:=(w6.setCell ⟨g7,0,none⟩ (.slice (some ⟨gm2,0,none⟩) n c2)).setCell ⟨g7,1,none⟩ (.slice (some ⟨gq,0,none⟩) n d2)) ?hg ?ho ?hn ?hr ?_;(case ho=>rfl);(case hg=>rfl);(case hn=>rfl);(case hr=>first | (go_simp;done) | (go_simp;rfl));intro w7 hw;have cpr:=Cp.new (g4:=g4) (W:=w4.heap.size) HE.out (by have:=HG.out;have:=HL.out;omega) ST.out ⟨G4.out.1,GB4.out⟩ B4.out D2.out HB5.out.size (by rw [L2.out];exact R2.out) HB6.out G7.out B7.out;rw [L2.out, ← hw] at cpr;have CP:=q_ cpr.1;have RQ:=q_ cpr.2;clear cpr hw hx0 hx1 fx0 fx1;have hx0:=cz_ (q_ CP.out.bb) 0;have hx1:=cz_ (q_ CP.out.bb) 1))
  clear ST P RP D2 R2 B4 HB6 G7 B7 HB5 B3 hx0 hx1
  have hs_:=Stp.of_below CP.out.st.src CP.out.st.below (below_drew (Below.refl w7.heap.size w7))
  replace RQ:=q_ (RC.mv CP.out RQ.out hs_);replace CP:=q_ (CP.out.mv hs_)
  clear hs_
  refine st_ (n:=7) (S:=fun w'=>w'.cell? ⟨g7,1,none⟩=some (.slice (some ⟨gq,0,none⟩) n d2)) (ds:= [6]) (cz_ (q_ CP.out.bb) 1) (fun hHeld=>?_)
  generalize w7.drew=w8 at CP RQ hHeld ⊢
  refine pu_ 0 37 ?_;refine pu_ 2 39 ?_;refine tk_ 1 38 ?_
  refine on_ 3 (some 40) (fun K hK=>?_)
  refine Kd.R_lit_step (Kd.int .i64) _ 2 (by rfl) (N:=40) rfl (xs:=([101, -101]:List Int)) (inner:= [.int .i64 101, .int .i64 (-101)]) (ok:=fun _=>True) (okp:=fun _=>True) (by first | (go_simp;done) | (go_simp;rfl)) (lit_reps [101, -101]) (fun _ h=>h) trivial (Below.refl _ _) (Nat.le_refl _) (by simp) ?_
  intro v40 w9 ho hb hg_ hat_
  obtain⟨g40,c40,rfl,hb40,hl40,_⟩:=Kd.R_form ho (by simp)
  have G40:=q_ (Nat.lt_of_lt_of_le CP.out.st.src.lt hb40)
  have hs_:=Stp.of_below CP.out.st.src CP.out.st.below hb
  replace RQ:=q_ (RC.mv CP.out RQ.out hs_);replace CP:=q_ (CP.out.mv hs_)
  have R40:=q_ ho
  clear hs_ hb40 hl40 ho hb hg_ hat_ hHeld
  refine hK.out _ _ (cz_ (q_ CP.out.bb) 1) (fun hHeld=>?_)
  clear hK K
  refine nd_ 40 ?_
  refine on_ 4 (some 41) (fun K hK=>?_)
  refine ca_ Try.func114 #[.pointer (some ⟨g,0,none⟩), .slice (some ⟨g40,0,none⟩) ([101, -101]:List Int).length c40] ?_
  refine(pick_c CP.out.st.src CP.out.st.below _ c40 [101, -101] (Kd.R_reads' R40.out).2.2 (Kd.R_reads' R40.out).2.1 (fun ad e _=>by injection e with e;subst e;show g40≠g;have:=G40.out;omega) (by decide)).mono ?_
  rintro e w11 ⟨x,rfl,_,hS⟩
  refine⟨_,rfl,?_⟩
  replace RQ:=q_ (RC.mv CP.out RQ.out hS);replace CP:=q_ (CP.out.mv hS)
  clear hS R40 G40 hHeld
  refine hK.out _ _ (cz_ (q_ CP.out.bb) 1) (fun hHeld=>?_)
  clear hK K
  refine no_ ?_
  have hn0:=HN0.out
  refine pu_ 5 42 ?_
  have hat:=Kd.R_celln 0 RQ.out 0 (by omega) (by omega)
  have hcell:=hat.1
  have hfr:=hat.2
  rw [show (0:Int).toNat=0 from rfl] at hcell hfr
  have hown:=RQ.out.1 gq (by rw [← L2.out];have:=HN0.out;simp [Value.ownBlock])
  clear hat
  refine la_ 6 none (fun K hK=>?_)
  refine skip_ (w1:=?_) (by rfl) rfl ?_ ?_
  rotate_left
  ·go_simp
   rfl
  refine hK.out _ _ ?_
  clear hK K hHeld hcell hfr
  refine done_ (by kernel_rfl) ?_
  have cp0:=Cp.putQ (Q:=Q2) (by rw [L2.out];exact CP.out) (by rw [L2.out];exact RQ.out) ⟨hown.1,hown.2.1,hown.2.2.1,hown.2.2.2⟩ 0 x
  rw [L2.out] at cp0
  have hl3:(Q2.set 0 x).length=n:=by rw [List.length_set];exact L2.out
  have HL3:=q_ hl3
  replace CP:=q_ cp0.1;replace RQ:=q_ cp0.2
  clear cp0 hown hl3
  generalize w11.setCell ⟨gq,0,none⟩ (.int .i64 x)=w12 at CP RQ ⊢
  have hx0:=cz_ (q_ CP.out.bb) 0;have hx1:=cz_ (q_ CP.out.bb) 1;have y40:=cz_ (q_ CP.out.b4) 0;have y41:=cz_ (q_ CP.out.b4) 1;have g40:=blk_frozen CP.out.b4 0;have g41:=blk_frozen CP.out.b4 1
  go_wp2
  refine bodyPost_ret (results_cell_row rfl _ _ g4 30 #[.slice (some ⟨gm2,0,none⟩) n c2, .slice (some ⟨gq,0,none⟩) n d2] (0,0) _ rfl (blk_put (blk_put CP.out.b4 0 _ rfl) 1 _ rfl) Try.underlying30 rfl (by kernel_rfl)) rfl ?_
  have fin:=Cp.out (Q:=Q2.set 0 x) (by rw [HL3.out];exact CP.out) (by rw [HL3.out];exact RQ.out) HG.out HL.out (by rw [HL3.out];omega)
  rw [HL3.out] at fin
  exact⟨_,rfl,fin⟩
 have y2b:(y==2)=false:=by simpa using y2
 clear y2
 by_cases y3:y=3
 ·have y3b:(y==3)=true:=by simpa using y3
  clear y3
  have x30:=cz_ B3 0;have x31:=cz_ B3 1;have f30:=blk_frozen B3.out 0;have f31:=blk_frozen B3.out 1
  go_wp2_with fail
  refine(copy_c P.out HQ.out HN.out HN0.out).mono ?_
  rintro e w5 ⟨gm2,c2,b2,cp2,A2,d2,Q2,rfl,hQ2,hD,hR,hb⟩
  clear x30 x31 f30 f31
  have D2:=q_ hD;have R2:=q_ hR;have L2:=q_ hQ2;have HB5:=q_ hb;have GB4:=q_ (blk_lt B4.out);have GL:=q_ ST.out.src.lt
  have hs_:=Stp.of_below ST.out.src ST.out.below hb
  replace ST:=q_ (ST.out.trans hs_);replace P:=q_ (P.out.mv hs_ HG.out);replace RP:=q_ (Kd.R_keep RP.out hs_.keep (fun k hk=>hk.1.1));replace B3:=q_ (hs_.keep.blk B3.out (by have:=G3.out;have:=G4.out;have:=HG.out;have:=HL.out;omega) (by simp));replace B4:=q_ (hs_.keep.blk B4.out (by have:=G3.out;have:=G4.out;have:=HG.out;have:=HL.out;omega) (by simp))
  clear hD hR hQ2 hb hs_
  obtain⟨gq,dq,eq_,hbq,hlq,_⟩:=Kd.R_form R2.out (by rw [L2.out];exact HN0.out)
  injection eq_ with e1 e2 e3
  subst e1
  have GQ:=q_ hbq
  clear e2 e3 hbq hlq
  go_wp2_with (first | ((with_reducible refine gate_dst (N:=8) rfl ?_);refine box_event ?hg (N:=8) ?hd (cs:= #[.slice none 0 0, .slice none 0 0]) (t:=30) ?hr ?_;(case hd=>rfl);(case hg=>rfl);(case hr=>first | (go_simp;done) | (go_simp;rfl));intro g8 hg w6 hbox hb;have B8:=q_ hbox;have G8:=q_ (show w5.heap.size≤g8 by rw [hg];exact Nat.le_refl _);have HB6:=q_ hb;have hx0:=cz_ B8 0;have hx1:=cz_ B8 1;have fx0:=blk_frozen hbox 0;have fx1:=blk_frozen hbox 1;clear hg hbox hb) | ((with_reducible refine gate_store (t:=30) (p:=8) rfl ?_);refine store_event (t:=30) (p:=8) (v:=?vo8) (w1:=(w6.setCell ⟨g8,0,none⟩ (.slice (some ⟨gm2,0,none⟩) n c2)).setCell ⟨g8,1,none⟩ (.slice (some ⟨gq,0,none⟩) n d2)) ?hg ?ho ?hn ?hr ?_;(case ho=>rfl);(case hg=>rfl);(case hn=>rfl);(case hr=>first | (go_simp;done) | (go_simp;rfl));intro w7 hw;have cpr:=Cp.new (g4:=g4) (W:=w4.heap.size) HE.out (by have:=HG.out;have:=HL.out;omega) ST.out ⟨G4.out.1,GB4.out⟩ B4.out D2.out HB5.out.size (by rw [L2.out];exact R2.out) HB6.out G8.out B8.out;rw [L2.out, ← hw] at cpr;have CP:=q_ cpr.1;have RQ:=q_ cpr.2;clear cpr hw hx0 hx1 fx0 fx1;have hx0:=cz_ (q_ CP.out.bb) 0;have hx1:=cz_ (q_ CP.out.bb) 1) | ((with_reducible refine gate_builtin (b:= .append) (xs:= #[.tmp 49, .tmp 50]) rfl ?_);at_builtin;refine Kd.R_append (Kd.int .i64) (w0:=w7) w4.heap.size rfl (.tmp 49) (.tmp 50) 23 2 (.int .i64 0) 8 rfl Try.underlying23 info2 rfl (by decide) (by omega) (.slice (some ⟨gq,0,none⟩) n d2) Q2 0 [.int .i64 0] (okC w4.heap.size g8 n gm2 b2) (fun _=>False) rfl rfl rfl (fun _ hk=>hk.elim) CP.out.fresh.2 RQ.out (Below.refl _ _) CP.out.fresh.1 ?aL ?_;(case aL=>have:=HN.out;have:=L2.out;omega);intro v51 w8 ho hb hg hat;replace CP:=q_ (CP.out.grow RQ.out hg hb);replace RQ:=q_ ho;clear ho hb hg hat hx0 hx1;obtain⟨A9,c9,e9⟩:=Kd.R_slice RQ.out;have hl9:(Q2++ [0]).length=n+1:=(by have:=L2.out;simp;omega);rw [hl9] at e9;subst e9;have HL9:=q_ hl9;clear hl9;have hx1:=cz_ (q_ CP.out.bb) 1;have fx1:=blk_frozen CP.out.bb 1) | ((with_reducible refine gate_store (t:=23) (p:=52) rfl ?_);refine store_event (t:=23) (p:=52) (v:=?vo52) (w1:=w8.setCell ⟨g8,1,none⟩ (.slice A9 (n+1) c9)) ?hg ?ho ?hn ?hr ?_;(case ho=>rfl);(case hg=>rfl);(case hn=>rfl);(case hr=>first | (go_simp;done) | (go_simp;rfl));intro w9 hw;have cpr:=CP.out.store RQ.out;rw [← hw] at cpr;replace RQ:=q_ cpr.2;replace CP:=q_ cpr.1;clear cpr hw hx1 fx1;have hx0:=cz_ (q_ CP.out.bb) 0;have hx1:=cz_ (q_ CP.out.bb) 1;have y40:=cz_ (q_ CP.out.b4) 0;have y41:=cz_ (q_ CP.out.b4) 1;have g40:=blk_frozen CP.out.b4 0;have g41:=blk_frozen CP.out.b4 1))
  clear ST P RP D2 R2 B4 HB6 G8 B8 HB5 B3
  refine bodyPost_ret (results_cell_row rfl _ _ g4 30 #[.slice (some ⟨gm2,0,none⟩) n c2, .slice A9 (n+1) c9] (0,0) _ rfl (blk_put (blk_put CP.out.b4 0 _ rfl) 1 _ rfl) Try.underlying30 rfl (by kernel_rfl)) rfl ?_
  have fin:=Cp.out (Q:=Q2++ [0]) (by rw [HL9.out];exact CP.out) (by rw [HL9.out];exact RQ.out) HG.out HL.out (by rw [HL9.out];omega)
  rw [HL9.out] at fin
  exact⟨_,rfl,fin⟩
 have y3b:(y==3)=false:=by simpa using y3
 clear y3
 have x30:=cz_ B3 0;have x31:=cz_ B3 1;have f30:=blk_frozen B3.out 0;have f31:=blk_frozen B3.out 1
 have x40:=cz_ B4 0;have x41:=cz_ B4 1;have f40:=blk_frozen B4.out 0;have f41:=blk_frozen B4.out 1
 go_wp2
 refine bodyPost_ret (results_cell_row rfl _ _ g4 30 #[.slice (some ⟨gm,0,none⟩) n c, .slice A n c1] (0,0) _ rfl (blk_put (blk_put B4.out 0 _ rfl) 1 _ rfl) Try.underlying30 rfl (by kernel_rfl)) rfl ?_
 have g4a:=G4.out;have hl:=HL.out;have hgg:=HG.out
 have S4:=(ST.out.set HE.out g4 0 (.slice (some ⟨gm,0,none⟩) n c) g4a.1 (by omega)).set HE.out g4 1 (.slice A n c1) g4a.1 (by omega)
 have pl:=PL.out
 have q1:g4≠gm:=by omega
 have q2: ∀j,j < n→g4≠b j:=fun j hj=>by have:=pl.2 j hj;omega
 exact⟨_,rfl, .inr ⟨gm,c,b,cp,A,c1,Q,by rw [HQ.out],⟨(P.out.dm.set q1 q2).set q1 q2,Kd.R_mono (Kd.R_far (Kd.R_far RP.out (p:=⟨g4,0,none⟩) (fun k hk=>by show k≠g4;have:=hk.2;omega) _) (p:=⟨g4,1,none⟩) (fun k hk=>by show k≠g4;have:=hk.2;omega) _) (fun k hk=>hk.1),P.out.ql⟩⟩,S4⟩
end Go.Proofs.Ytmpkckiifeikkaa.Dr
end
section
namespace Go.Proofs.Ytmpkckiifeikkaa.Dr
open Go.RowKit Go.Proofs.YtmpkckiifeikkaaW.PrintWords Go.Proofs.YtmpkckiifeikkaaW.PrintLast Go.Proofs.YtmpkckiifeikkaaW.PrintMore Go.Proofs.Ytmpkckiifeikkaa.Ma Go.Proofs.Ytmpkckiifeikkaa.Pr Go.Proofs.Ytmpkckiifeikkaa.Lq
def PbIs (w0 wE:World) (g lo n:Nat) (v:Value) (w':World):Prop:=(∃gm c b cp A c1 Q,v= .agg #[.slice (some ⟨gm,0,none⟩) n c, .slice A n c1]∧Q.length=n∧Pb w' g lo n gm c b cp A c1 Q)∧Stp w0 wE g w'
theorem Prb.is {w0 w w':World} {g n:Nat} {v:Value} (h:Prb w0 w g n v w'):PbIs w0 w g w.heap.size n v w':=by
 obtain⟨gm,c,b,cp,A,c1,Q,rfl,hQ,hD,hR,hS⟩:=h
 exact⟨⟨gm,c,b,cp,A,c1,Q,rfl,hQ,hD,by rw [hQ];exact hR,by omega,by omega⟩,hS⟩
theorem Pb.far {w:World} {g lo n gm c:Nat} {b cp:Nat→Nat} {A:Option Addr} {c1:Nat} {Q:List Int} (h:Pb w g lo n gm c b cp A c1 Q) {p:Nat} (hp:p < lo) (i:Nat) (u:Value):Pb (w.setCell ⟨p,i,none⟩ u) g lo n gm c b cp A c1 Q:=by
 have g0:=h.dm.g0
 refine⟨h.dm.set (by omega) (fun j hj=>by have:=(h.dm.rr j hj).1;omega),?_,h.ql⟩
 have r2:=Kd.R_mono (ok':=fun k=>(k≠g∧k≠gm∧ ∀j,j < n→k≠b j)∧k≠p) (Kd.R_tight rfl h.rq) (fun k hk=>⟨h.rq.1 k hk.symm,by have:=Kd.R_base h.rq k hk.symm;omega⟩)
 exact Kd.R_mono (Kd.R_far r2 (p:=⟨p,i,none⟩) (fun k hk=>hk.2) u) (fun k hk=>hk.1)
theorem Pb.down {w:World} {g lo lo2 n gm c:Nat} {b cp:Nat→Nat} {A:Option Addr} {c1:Nat} {Q:List Int} (h:Pb w g lo n gm c b cp A c1 Q) (hl:lo2≤lo):Pb w g lo2 n gm c b cp A c1 Q:=⟨h.dm.down hl,Kd.R_lower h.rq hl,h.ql⟩
theorem draw_c {w0 w:World} {g:Nat} (h:Srm w0 w g) (hB:Below w0.heap.size w0 w):Calls Try.prog 201 #[.pointer (some ⟨g,0,none⟩)] w fun e w'=> ∃n v,0 < n∧n≤5∧e= .returned v∧PbIs w0 w g w.heap.size n v w':=by
 have ST:=q_ (Stp.refl h hB)
 have HG:=q_ h.lt
 have HE:=q_ hB.size
 clear h hB
 go_enter Try.func201,Try.ntmps201
 go_wp2_with (first | ((with_reducible refine gate_dst (N:=2) rfl ?_);refine box_event ?hg (N:=2) ?hd (cs:= #[.slice none 0 0, .slice none 0 0]) (t:=30) ?hr ?_;(case hd=>rfl);(case hg=>rfl);(case hr=>first | (go_simp;done) | (go_simp;rfl));intro g2 hg w2 hbox hb;have G2:=q_ (show w.heap.size≤g2 by rw [hg];exact Nat.le_refl _);have B2:=q_ hbox;replace ST:=q_ (ST.out.trans (Stp.of_below ST.out.src ST.out.below hb));clear hg hbox hb) | ((with_reducible refine gate_dst (N:=5) rfl ?_);refine Kd.R_lit (Kd.int .i64) _ 2 ?hg (N:=5) ?hd (xs:=([1,2,2,3,3,3,4,5]:List Int)) (inner:= [.int .i64 1, .int .i64 2, .int .i64 2, .int .i64 3, .int .i64 3, .int .i64 3, .int .i64 4, .int .i64 5]) (ok:=fun _=>True) (okp:=fun _=>True) ?hr ?hp (fun _ hk=>hk) trivial (Below.refl _ _) (Nat.le_refl _) (by simp) ?_;(case hd=>rfl);(case hg=>rfl);(case hr=>first | (go_simp;done) | (go_simp;rfl));(case hp=>exact lit_reps [1,2,2,3,3,3,4,5]);intro v5 w3 ho hb hg_ hnew_;obtain⟨g5,c5,rfl,hb5,hl5,_⟩:=Kd.R_form ho (by simp);have G5:=q_ (Nat.lt_of_lt_of_le ST.out.src.lt hb5);replace ST:=q_ (ST.out.trans (Stp.of_below ST.out.src ST.out.below hb));replace B2:=q_ (blk_below B2.out hb);have R5:=q_ ho;clear hg_ hnew_ ho hb hb5 hl5))
 refine(pick_c ST.out.src ST.out.below _ c5 [1,2,2,3,3,3,4,5] (Kd.R_reads' R5.out).2.2 (Kd.R_reads' R5.out).2.1 (fun ad e _=>by injection e with e;subst e;show g5≠g;have:=G5.out;omega) (by decide)).mono ?_
 rintro e w4 ⟨x,rfl,hx,hS⟩
 obtain⟨n,rfl,hn1,hn5⟩: ∃n:Nat,x=(n:Int)∧0 < n∧n≤5:=by
  simp only [List.mem_cons,List.not_mem_nil,or_false] at hx
  exact⟨x.toNat,by omega,by omega,by omega⟩
 have HN1:=q_ hn1
 have HN5:=q_ hn5
 replace ST:=q_ (ST.out.trans hS)
 replace B2:=q_ (hS.keep.blk B2.out (by have:=G2.out;have:=HG.out;omega) (by simp))
 clear hx hn1 hn5 hS R5 G5
 go_wp2_with fail
 refine(drawOf_c ST.out.src ST.out.below n HN5.out HN1.out).mono ?_
 rintro e w5 ⟨v,rfl,hP⟩
 obtain⟨⟨gm,c,b,cp,A,c1,Q,rfl,hQ,hPb⟩,hS⟩:=hP.is
 have L4:=q_ (blk_lt B2.out)
 have W4:=q_ ST.out.keep.1
 replace ST:=q_ (ST.out.trans hS)
 replace B2:=q_ (hS.keep.blk B2.out (by have:=G2.out;have:=HG.out;omega) (by simp))
 have HQ:=q_ hQ
 have P:=q_ hPb
 have x0:=cz_ B2 0
 have x1:=cz_ B2 1
 have f0:=blk_frozen B2.out 0
 have f1:=blk_frozen B2.out 1
 clear hP hQ hPb hS
 go_wp2
 refine bodyPost_ret (results_cell_row rfl _ _ g2 30 #[.slice (some ⟨gm,0,none⟩) n c, .slice A n c1] (0,0) _ rfl (blk_put (blk_put B2.out 0 _ rfl) 1 _ rfl) Try.underlying30 rfl (by kernel_rfl)) rfl ?_
 have g2a:=G2.out
 have hgg:=HG.out
 exact⟨n,_,HN1.out,HN5.out,rfl,⟨gm,c,b,cp,A,c1,Q,rfl,HQ.out,((P.out.far L4.out 0 _).far L4.out 1 _).down W4.out⟩,(ST.out.set HE.out g2 0 _ g2a (by omega)).set HE.out g2 1 _ g2a (by omega)⟩
end Go.Proofs.Ytmpkckiifeikkaa.Dr
end
section
namespace Go.Proofs.Ytmpkckiifeikkaa.Dr
open Go.RowKit Go.Proofs.YtmpkckiifeikkaaW.PrintWords Go.Proofs.YtmpkckiifeikkaaW.PrintLast Go.Proofs.YtmpkckiifeikkaaW.PrintMore Go.Proofs.Ytmpkckiifeikkaa.Ma Go.Proofs.Ytmpkckiifeikkaa.Pr Go.Proofs.Ytmpkckiifeikkaa.Lq
theorem PbOut.far {w0 wE w:World} {g lo n:Nat} {v:Value} (h:PbOut w0 wE g lo n v w) (hE:w0.heap.size≤wE.heap.size) {p:Nat} (hp:p < lo) (hw:wE.heap.size≤p) (hg:p≠g) (i:Nat) (u:Value):PbOut w0 wE g lo n v (w.setCell ⟨p,i,none⟩ u):=by
 obtain⟨h1,h2⟩:=h
 refine⟨?_,h2.set hE p i u hw hg⟩
 rcases h1 with h1 | ⟨gm,c,b,cp,A,c1,Q,h1,h3⟩
 ·exact .inl h1
 ·exact .inr ⟨gm,c,b,cp,A,c1,Q,h1,h3.far hp i u⟩
theorem PbOut.down {w0 wE w:World} {g lo lo2 n:Nat} {v:Value} (h:PbOut w0 wE g lo n v w) (hl:lo2≤lo):PbOut w0 wE g lo2 n v w:=by
 obtain⟨h1,h2⟩:=h
 rcases h1 with h1 | ⟨gm,c,b,cp,A,c1,Q,h1,h3⟩
 ·exact⟨.inl h1,h2⟩
 ·exact⟨.inr ⟨gm,c,b,cp,A,c1,Q,h1,h3.down hl⟩,h2⟩
theorem PbOut.start {w0 wE w1 w:World} {g lo n:Nat} {v:Value} (h:PbOut w0 w1 g lo n v w) (hS:Stp w0 wE g w1):PbOut w0 wE g lo n v w:=⟨h.1,hS.trans h.2⟩
theorem PbOut.pair {w0 wE w:World} {g lo n:Nat} {v:Value} (h:PbOut w0 wE g lo n v w): ∃(A1 A2:Option Addr) (a b a2 b2:Nat),v= .agg #[.slice A1 a b, .slice A2 a2 b2]:=by
 rcases h.1 with h1 | ⟨gm,c,b,cp,A,c1,Q,h1,h3⟩
 ·exact⟨_,_,_,_,_,_,h1⟩
 ·exact⟨_,_,_,_,_,_,h1⟩
abbrev RV (w:World) (W g4:Nat) (v:Value) (l:List Int):Prop:=Kd.R (Kd.int .i64) 2 w W (fun k=>W≤k∧k≠g4) v l
theorem RV.mv {w0 w w1:World} {W g g4:Nat} {v:Value} {l:List Int} (h:RV w W g4 v l) (hS:Stp w0 w g w1) (hg:g < W):RV w1 W g4 v l:=Kd.R_keep h hS.keep (fun k hk=>by have:=hk.1;omega)
theorem with_c {w0 w:World} {g:Nat} (h:Srm w0 w g) (hB:Below w0.heap.size w0 w):Calls Try.prog 181 #[.pointer (some ⟨g,0,none⟩)] w fun e w'=> ∃n v A cc CV,e= .returned (.tuple #[v, .slice A (List.length CV) cc])∧0 < n∧n≤5∧PbOut w0 w g w.heap.size n v w'∧Kd.R (Kd.int .i64) 2 w' w.heap.size (fun k=>k≠g) (.slice A CV.length cc) CV∧CV.length≤6:=by
 have ST:=q_ (Stp.refl h hB)
 have HG:=q_ h.lt
 have HE:=q_ hB.size
 clear h hB
 go_enter Try.func181,Try.ntmps181
 go_wp2_with (first | ((with_reducible refine gate_dst (N:=2) rfl ?_);refine box_event ?hg (N:=2) ?hd (cs:= #[.slice none 0 0, .slice none 0 0]) (t:=30) ?hr ?_;(case hd=>rfl);(case hg=>rfl);(case hr=>first | (go_simp;done) | (go_simp;rfl));intro g2 hg w2 hbox hb;have G2:=q_ (show w.heap.size≤g2 by rw [hg];exact Nat.le_refl _);have B2:=q_ hbox;replace ST:=q_ (ST.out.trans (Stp.of_below ST.out.src ST.out.below hb));clear hg hbox hb))
 refine(draw_c ST.out.src ST.out.below).mono ?_
 rintro e w3 ⟨n,v,hn0,hn5,rfl,⟨gm,c,b,cp,A,c1,Q,rfl,hQ,hP⟩,hS⟩
 have LO:=q_ (show g2 < w2.heap.size∧w.heap.size≤w2.heap.size from ⟨blk_lt B2.out,ST.out.keep.1⟩)
 have P:=q_ hP;have HQ:=q_ hQ;have HN:=q_ hn5;have HN0:=q_ hn0;have LW:=q_ hS.keep.1
 replace B2:=q_ (hS.keep.blk B2.out (by have:=G2.out;have:=HG.out;omega) (by simp))
 replace ST:=q_ (ST.out.trans hS)
 have SD:=q_ (Stp.refl ST.out.src ST.out.below)
 have GD:=q_ ST.out.src.lt
 have ED:=q_ ST.out.below.size
 clear hS hP hQ hn0 hn5
 go_wp2_with (first | ((with_reducible refine gate_dst (N:=10) rfl ?_);refine Kd.R_lit (Kd.int .i64) _ 2 ?hg (N:=10) ?hd (xs:=([]:List Int)) (inner:= []) (ok:=fun _=>True) (okp:=fun _=>True) ?hr ?hp (fun _ hk=>hk) trivial (Below.refl _ _) (Nat.le_refl _) (by simp) ?_;(case hd=>rfl);(case hg=>rfl);(case hr=>first | (go_simp;done) | (go_simp;rfl));(case hp=>exact lit_reps []);intro v10 w4 ho hb hg_ hnew_;have hs_:=Stp.of_below SD.out.src SD.out.below hb;have RV0:Aside0 (Kd.R (Kd.int .i64) 2 w4 w3.heap.size (fun _=>True) v10 []):=⟨ho⟩;replace SD:=q_ (SD.out.trans hs_);clear hs_ hg_ hnew_ ho hb) | ((with_reducible refine gate_dst (N:=12) rfl ?_);refine Kd.R_lit (Kd.int .i64) _ 2 ?hg (N:=12) ?hd (xs:=([1,1,3,20]:List Int)) (inner:= [.int .i64 1, .int .i64 1, .int .i64 3, .int .i64 20]) (ok:=fun _=>True) (okp:=fun _=>True) ?hr ?hp (fun _ hk=>hk) trivial (Below.refl _ _) (Nat.le_refl _) (by simp) ?_;(case hd=>rfl);(case hg=>rfl);(case hr=>first | (go_simp;done) | (go_simp;rfl));(case hp=>exact lit_reps [1,1,3,20]);intro v12 w5 ho hb hg_ hnew_;obtain⟨g12,c12,rfl,hb12,hl12,_⟩:=Kd.R_form ho (by simp);have G12:=q_ (Nat.lt_of_lt_of_le SD.out.src.lt hb12);have hs_:=Stp.of_below SD.out.src SD.out.below hb;replace RV0:=q_ (Kd.R_below RV0.out hb);replace SD:=q_ (SD.out.trans hs_);have R12:=q_ ho;clear hs_ hb12 hl12 hg_ hnew_ ho hb))
 refine(pick_c SD.out.src SD.out.below _ c12 [1,1,3,20] (Kd.R_reads' R12.out).2.2 (Kd.R_reads' R12.out).2.1 (fun ad e _=>by injection e with e;subst e;show g12≠g;have:=G12.out;omega) (by decide)).mono ?_
 rintro e w6 ⟨mo,rfl,_,hS⟩
 have RV2:Aside0 (Kd.R (Kd.int .i64) 2 w6 w3.heap.size (fun k=>w3.heap.size≤k) v10 []):=⟨Kd.R_keep (Kd.R_mono (Kd.R_tight rfl RV0.out) (fun k hk=>Kd.R_base RV0.out k hk.symm)) hS.keep (fun k hk=>by have:=GD.out;omega)⟩
 replace SD:=q_ (SD.out.trans hS)
 clear hS RV0 R12 G12
 obtain⟨A10,c10,rfl⟩:=Kd.R_slice RV2.out
 go_wp2_with (first | ((with_reducible refine gate_dst (N:=4) rfl ?_);refine box_event ?hg (N:=4) ?hd (cs:= #[.slice none 0 0, .slice none 0 0]) (t:=30) ?hr ?_;(case hd=>rfl);(case hg=>rfl);(case hr=>first | (go_simp;done) | (go_simp;rfl));intro g4 hg w7 hbox hb;have B4:=q_ hbox;have G4:=q_ (show w3.heap.size≤g4 by rw [hg];exact SD.out.keep.1);have hs_:=Stp.of_below SD.out.src SD.out.below hb;have RV1:Aside0 (RV w7 w3.heap.size g4 (.slice A10 ([]:List Int).length c10) []):=⟨Kd.R_below (Kd.R_mono (Kd.R_tight rfl RV2.out) (fun k hk=>⟨RV2.out.1 k hk.symm,by rw [hg];have:=Kd.R_lt RV2.out k hk.symm;omega⟩)) hb⟩;replace SD:=q_ (SD.out.trans hs_);have hx0:=cz_ B4 0;have hx1:=cz_ B4 1;have fx0:=blk_frozen hbox 0;have fx1:=blk_frozen hbox 1;clear hs_ RV2 hg hbox hb) | ((with_reducible refine gate_store (t:=30) (p:=4) rfl ?_);refine store_event (t:=30) (p:=4) (v:=?vo4) (w1:=(w7.setCell ⟨g4,0,none⟩ (.slice (some ⟨gm,0,none⟩) n c)).setCell ⟨g4,1,none⟩ (.slice A n c1)) ?hg ?ho ?hn ?hr ?_;(case ho=>rfl);(case hg=>rfl);(case hn=>rfl);(case hr=>first | (go_simp;done) | (go_simp;rfl));intro w8 hw;replace SD:=q_ (show Stp w0 w3 g w8 by rw [hw];exact(SD.out.set ED.out g4 0 _ G4.out (by have:=G4.out;have:=GD.out;omega)).set ED.out g4 1 _ G4.out (by have:=G4.out;have:=GD.out;omega));replace B4:=q_ (show w8.heap[g4]?=some (.cells #[.slice (some ⟨gm,0,none⟩) n c, .slice A n c1] 30 (0,0)) by rw [hw];exact blk_put (blk_put B4.out 0 _ rfl) 1 _ rfl);replace RV1:=q_ (show RV w8 w3.heap.size g4 (.slice A10 ([]:List Int).length c10) [] by rw [hw];exact Kd.R_far (Kd.R_far RV1.out (p:=⟨g4,0,none⟩) (fun k hk=>hk.2) _) (p:=⟨g4,1,none⟩) (fun k hk=>hk.2) _);clear hw hx0 hx1 fx0 fx1))
 go_loopg [5,7] n (fun gg v5 v7 wr=> ∃(i:Nat) (Ac:Option Addr) (cc:Nat) (CV:List Int),i≤n∧n - i≤gg∧v5= .slice Ac i cc∧v7= .int .i64 (i:Int)∧CV.length=i∧Aside0 (RV wr w3.heap.size g4 (.slice Ac i cc) CV)∧Aside0 (wr.heap[g4]?=some (.cells #[.slice (some ⟨gm,0,none⟩) n c, .slice A n c1] 30 (0,0)))∧Aside0 (Stp w0 w3 g wr))
 case atStart=>exact⟨0,_,_, [],Nat.zero_le _,by omega,rfl,rfl,rfl,RV1,B4,SD⟩
 case round=>
  clear RV1 B4 SD
  obtain⟨i,Ac,cc,CV,hi',hg,rfl,rfl,hl,RV1,B4,SD⟩:=hrel
  have HGG:=q_ hg
  have HL:=q_ hl
  have hx1:=cz_ B4 1
  by_cases hlt:i < n
  ·have hltz:(i:Int) < (n:Int):=by omega
   have hwi:IntKind.i64.wrap ((i:Int)+1)=((i+1:Nat):Int):=by rw [IntWalk.i64_in _ (by have:=HN.out;omega)];rfl
   have HWI:=q_ hwi
   have HLT:=q_ hlt
   clear hi' hg hlt hl
   go_wp2_with fail
   refine(next_c SD.out.src SD.out.below mo).mono ?_
   rintro e w9 ⟨x,rfl,_,hS⟩
   replace SD:=q_ (SD.out.trans hS);replace RV1:=q_ (RV.mv RV1.out hS GD.out);replace B4:=q_ (hS.keep.blk B4.out (by have:=G4.out;have:=GD.out;omega) (by simp))
   clear hS hx1
   go_wp2_with (first | ((with_reducible refine gate_builtin (b:= .append) (xs:= #[.tmp 21, .tmp 26]) rfl ?_);at_builtin;refine Kd.R_append (Kd.int .i64) (w0:=w9) w3.heap.size rfl (.tmp 21) (.tmp 26) 23 2 (.int .i64 0) 8 rfl Try.underlying23 info2 rfl (by decide) (by omega) (.slice Ac i cc) CV (wrap64 (1+x)) [.int .i64 (wrap64 (1+x))] (fun k=>w3.heap.size≤k∧k≠g4) (fun _=>False) rfl rfl rfl (fun _ hk=>hk.elim) (fun k hk=>⟨Nat.le_trans SD.out.keep.1 hk,by have:=blk_lt B4.out;omega⟩) RV1.out (Below.refl _ _) SD.out.keep.1 ?aL ?_;(case aL=>have:=HN.out;have:=HL.out;omega);intro aa w521 ho hb hg hat;replace B4:=q_ (blk_grown B4.out hg (fun e_=>(RV1.out.1 g4 e_.symm).2 rfl));replace SD:=q_ (SD.out.lo ED.out GD.out hb);replace RV1:=q_ ho;clear ho hb hg hat))
   obtain⟨A9,c9,e9⟩:=Kd.R_slice RV1.out
   have hl9:(CV++ [wrap64 (1+x)]).length=i+1:=by have:=HL.out;simp;omega
   rw [hl9] at e9
   subst e9
   have HL9:=q_ hl9
   clear hl9
   go_roundg (n - (i+1))
   case measure=>have:=HGG.out;have:=HLT.out;omega
   case rel=>exact⟨i+1,_,_,_,HLT.out,by omega,rfl,by first | rfl | (rw [HWI.out]) | (simp [HWI.out]),HL9.out,RV1,B4,SD⟩
  ·have hltz: ¬ (i:Int) < (n:Int):=by omega
   obtain rfl:n=i:=by omega
   clear hi' hg hlt hl
   go_wp2_with fail
   refine(next_c SD.out.src SD.out.below 24).mono ?_
   rintro e w10 ⟨y,rfl,_,hS⟩
   replace SD:=q_ (SD.out.trans hS);replace RV1:=q_ (RV.mv RV1.out hS GD.out);replace B4:=q_ (hS.keep.blk B4.out (by have:=G4.out;have:=GD.out;omega) (by simp))
   clear hS hx1
   obtain⟨gc,dc,ec,hbc,hlc,_⟩:=Kd.R_form RV1.out (by rw [HL.out];exact HN0.out)
   injection ec with e1 e2 e3
   subst e1
   clear e2 e3
   have hn0:=HN0.out
   by_cases y0:y=0
   ·have y0b:(y==0)=true:=by simpa using y0
    clear y0
    go_wp2_with (first | ((with_reducible refine gate_dst (N:=34) rfl ?_);refine Kd.R_lit (Kd.int .i64) _ 2 ?hg (N:=34) ?hd (xs:=([0,21, -1]:List Int)) (inner:= [.int .i64 0, .int .i64 21, .int .i64 (-1)]) (ok:=fun _=>True) (okp:=fun _=>True) ?hr ?hp (fun _ hk=>hk) trivial (Below.refl _ _) (Nat.le_refl _) (by simp) ?_;(case hd=>rfl);(case hg=>rfl);(case hr=>first | (go_simp;done) | (go_simp;rfl));(case hp=>exact lit_reps [0,21, -1]);intro v34 w11 ho hb hg_ hnew_;obtain⟨g34,c34,rfl,hb34,hl34,_⟩:=Kd.R_form ho (by simp);have G34:=q_ (Nat.lt_of_lt_of_le SD.out.src.lt hb34);have hs_:=Stp.of_below SD.out.src SD.out.below hb;replace SD:=q_ (SD.out.trans hs_);replace RV1:=q_ (RV.mv RV1.out hs_ GD.out);replace B4:=q_ (hs_.keep.blk B4.out (by have:=G4.out;have:=GD.out;omega) (by simp));have R34:=q_ ho;clear hs_ hb34 hl34 hg_ hnew_ ho hb))
    refine(pick_c SD.out.src SD.out.below _ c34 [0,21, -1] (Kd.R_reads' R34.out).2.2 (Kd.R_reads' R34.out).2.1 (fun ad e _=>by injection e with e;subst e;show g34≠g;have:=G34.out;omega) (by decide)).mono ?_
    rintro e w12 ⟨x,rfl,_,hS⟩
    replace SD:=q_ (SD.out.trans hS);replace RV1:=q_ (RV.mv RV1.out hS GD.out);replace B4:=q_ (hS.keep.blk B4.out (by have:=G4.out;have:=GD.out;omega) (by simp))
    clear hS R34 G34
    have hat:=Kd.R_celln 0 RV1.out 0 (by omega) (by omega)
    have hcell:=hat.1;have hfr:=hat.2
    rw [show (0:Int).toNat=0 from rfl] at hcell hfr
    have hput:=Kd.R_putg RV1.out 0 x
    rw [show (0:Int).toNat=0 from rfl] at hput
    have hown:=RV1.out.1 gc (by simp [Value.ownBlock])
    go_wp2_with (first | ((with_reducible refine gate_store (t:=2) (p:=36) rfl ?_);refine store_event (t:=2) (p:=36) (v:=?vo36) (w1:=w12.setCell ⟨gc,0,none⟩ (.int .i64 x)) ?hg ?ho ?hn ?hr ?_;(case ho=>rfl);(case hg=>rfl);(case hn=>rfl);(case hr=>first | (go_simp;done) | (go_simp;rfl));intro w13 hw;have SD2:=q_ (show Stp w0 w3 g w13 by rw [hw];exact SD.out.set ED.out gc 0 _ hown.1 (by have:=hown.1;have:=GD.out;omega));replace B4:=q_ ((show w13.heap[g4]?=w12.heap[g4]? by rw [hw];exact Below.heap_setCell w12 ⟨gc,0,none⟩ _ g4 (Ne.symm hown.2)).trans B4.out);replace RV1:Aside0 (RV w13 w3.heap.size g4 (.slice (some ⟨gc,0,none⟩) n cc) (CV.set 0 x)):=⟨by rw [hw];exact hput.1⟩;replace SD:=SD2;clear SD2 hw hcell hfr hput hat hown;have hx0:=cz_ B4 0;have hx1:=cz_ B4 1))
    have hx0:=cz_ B4 0;have hx1:=cz_ B4 1
    go_wp2_with fail
    have PD:Pb _ g w2.heap.size n gm c b cp A c1 Q:=P.out.mv SD.out (by have:=LO.out;have:=HG.out;omega)
    refine(bad_c SD.out.src SD.out.below PD HQ.out HN.out HN0.out (by have:=LO.out;have:=HG.out;omega) (Nat.le_trans LW.out SD.out.keep.1)).mono ?_
    rintro e w15 ⟨v15,rfl,hP⟩
    have PO:=q_ (PbOut.start hP (ST.out.trans SD.out))
    obtain⟨pA,pB,pa,pb,pc,pd,rfl⟩:=hP.pair
    have hS:=hP.2
    replace B2:=q_ ((SD.out.trans hS).keep.blk B2.out (by have:=G2.out;have:=HG.out;omega) (by simp))
    replace RV1:=q_ (RV.mv RV1.out hS GD.out)
    clear hP hS hx0 hx1 PD
    have y0:=cz_ B2 0;have y1:=cz_ B2 1;have k0:=blk_frozen B2.out 0;have k1:=blk_frozen B2.out 1
    go_wp2_with (first | ((with_reducible refine gate_store (t:=30) (p:=2) rfl ?_);refine store_event (t:=30) (p:=2) (v:=?vo2) (w1:=(w15.setCell ⟨g2,0,none⟩ (.slice pA pa pb)).setCell ⟨g2,1,none⟩ (.slice pB pc pd)) ?hg ?ho ?hn ?hr ?_;(case ho=>rfl);(case hg=>rfl);(case hn=>rfl);(case hr=>first | (go_simp;done) | (go_simp;rfl));intro w16 hw;subst hw;clear k0 k1))
    refine bodyPost_ret (results_ct rfl _ _ g2 30 #[.slice pA pa pb, .slice pB pc pd] (0,0) _ rfl (blk_put (blk_put B2.out 0 _ rfl) 1 _ rfl) Try.underlying30 rfl (by kernel_rfl)) rfl ?_
    have lo:=LO.out;have g2a:=G2.out;have hgg:=HG.out;have lw:=LW.out
    have rv:Kd.R (Kd.int .i64) 2 _ w.heap.size (fun k=>k≠g) _ (CV.set 0 x):=Kd.R_lower (Kd.R_mono (Kd.R_far (Kd.R_far RV1.out (p:=⟨g2,0,none⟩) (fun k hk=>by show k≠g2;have:=hk.1;omega) (.slice pA pa pb)) (p:=⟨g2,1,none⟩) (fun k hk=>by show k≠g2;have:=hk.1;omega) (.slice pB pc pd)) (fun k hk=>by have:=hk.1;omega)) (by omega)
    exact⟨n,_,_,_,(CV.set 0 x),by rw [(show (CV.set 0 x).length=n by rw [List.length_set];exact HL.out)];rfl,HN0.out,HN.out,(((PO.out.far HE.out lo.1 g2a (by omega) 0 (.slice pA pa pb)).far HE.out lo.1 g2a (by omega) 1 (.slice pB pc pd)).down lo.2),by rw [(show (CV.set 0 x).length=n by rw [List.length_set];exact HL.out)];exact rv,by rw [(show (CV.set 0 x).length=n by rw [List.length_set];exact HL.out)];have:=HN.out;omega⟩
   ·have y0b:(y==0)=false:=by simpa using y0
    by_cases y1:y=1
    ·have y1b:(y==1)=true:=by simpa using y1
     clear y0 y1
     go_wp2_with (first | ((with_reducible refine gate_builtin (b:= .append) (xs:= #[.tmp 39, .tmp 40]) rfl ?_);at_builtin;refine Kd.R_append (Kd.int .i64) (w0:=w10) w3.heap.size rfl (.tmp 39) (.tmp 40) 23 2 (.int .i64 0) 8 rfl Try.underlying23 info2 rfl (by decide) (by omega) (.slice (some ⟨gc,0,none⟩) n cc) CV 1 [.int .i64 1] (fun k=>w3.heap.size≤k∧k≠g4) (fun _=>False) rfl rfl rfl (fun _ hk=>hk.elim) (fun k hk=>⟨Nat.le_trans SD.out.keep.1 hk,by have:=blk_lt B4.out;omega⟩) RV1.out (Below.refl _ _) SD.out.keep.1 ?aL ?_;(case aL=>have:=HN.out;have:=HL.out;omega);intro ae w539 ho hb hg hat;replace B4:=q_ (blk_grown B4.out hg (fun e_=>(RV1.out.1 g4 e_.symm).2 rfl));replace SD:=q_ (SD.out.lo ED.out GD.out hb);replace RV1:=q_ ho;have hx0:=cz_ B4 0;have hx1:=cz_ B4 1;clear ho hb hg hat))
     obtain⟨A9,c9,e9⟩:=Kd.R_slice RV1.out
     have hl9:(CV++ [1]).length=n+1:=by have:=HL.out;simp;omega
     rw [hl9] at e9
     subst e9
     have HL9:=q_ hl9
     clear hl9
     have hx0:=cz_ B4 0;have hx1:=cz_ B4 1
     go_wp2_with fail
     have PD:Pb _ g w2.heap.size n gm c b cp A c1 Q:=P.out.mv SD.out (by have:=LO.out;have:=HG.out;omega)
     refine(bad_c SD.out.src SD.out.below PD HQ.out HN.out HN0.out (by have:=LO.out;have:=HG.out;omega) (Nat.le_trans LW.out SD.out.keep.1)).mono ?_
     rintro e w15 ⟨v15,rfl,hP⟩
     have PO:=q_ (PbOut.start hP (ST.out.trans SD.out))
     obtain⟨pA,pB,pa,pb,pc,pd,rfl⟩:=hP.pair
     have hS:=hP.2
     replace B2:=q_ ((SD.out.trans hS).keep.blk B2.out (by have:=G2.out;have:=HG.out;omega) (by simp))
     replace RV1:=q_ (RV.mv RV1.out hS GD.out)
     clear hP hS hx0 hx1 PD
     have y0:=cz_ B2 0;have y1:=cz_ B2 1;have k0:=blk_frozen B2.out 0;have k1:=blk_frozen B2.out 1
     go_wp2_with (first | ((with_reducible refine gate_store (t:=30) (p:=2) rfl ?_);refine store_event (t:=30) (p:=2) (v:=?vo2) (w1:=(w15.setCell ⟨g2,0,none⟩ (.slice pA pa pb)).setCell ⟨g2,1,none⟩ (.slice pB pc pd)) ?hg ?ho ?hn ?hr ?_;(case ho=>rfl);(case hg=>rfl);(case hn=>rfl);(case hr=>first | (go_simp;done) | (go_simp;rfl));intro w16 hw;subst hw;clear k0 k1))
     refine bodyPost_ret (results_ct rfl _ _ g2 30 #[.slice pA pa pb, .slice pB pc pd] (0,0) _ rfl (blk_put (blk_put B2.out 0 _ rfl) 1 _ rfl) Try.underlying30 rfl (by kernel_rfl)) rfl ?_
     have lo:=LO.out;have g2a:=G2.out;have hgg:=HG.out;have lw:=LW.out
     have rv:Kd.R (Kd.int .i64) 2 _ w.heap.size (fun k=>k≠g) _ (CV++ [1]):=Kd.R_lower (Kd.R_mono (Kd.R_far (Kd.R_far RV1.out (p:=⟨g2,0,none⟩) (fun k hk=>by show k≠g2;have:=hk.1;omega) (.slice pA pa pb)) (p:=⟨g2,1,none⟩) (fun k hk=>by show k≠g2;have:=hk.1;omega) (.slice pB pc pd)) (fun k hk=>by have:=hk.1;omega)) (by omega)
     exact⟨n,_,_,_,(CV++ [1]),by rw [HL9.out];rfl,HN0.out,HN.out,(((PO.out.far HE.out lo.1 g2a (by omega) 0 (.slice pA pa pb)).far HE.out lo.1 g2a (by omega) 1 (.slice pB pc pd)).down lo.2),by rw [HL9.out];exact rv,by rw [HL9.out];have:=HN.out;omega⟩
    ·have y1b:(y==1)=false:=by simpa using y1
     clear y0 y1
     have hx0:=cz_ B4 0;have hx1:=cz_ B4 1
     go_wp2_with fail
     have PD:Pb _ g w2.heap.size n gm c b cp A c1 Q:=P.out.mv SD.out (by have:=LO.out;have:=HG.out;omega)
     refine(bad_c SD.out.src SD.out.below PD HQ.out HN.out HN0.out (by have:=LO.out;have:=HG.out;omega) (Nat.le_trans LW.out SD.out.keep.1)).mono ?_
     rintro e w15 ⟨v15,rfl,hP⟩
     have PO:=q_ (PbOut.start hP (ST.out.trans SD.out))
     obtain⟨pA,pB,pa,pb,pc,pd,rfl⟩:=hP.pair
     have hS:=hP.2
     replace B2:=q_ ((SD.out.trans hS).keep.blk B2.out (by have:=G2.out;have:=HG.out;omega) (by simp))
     replace RV1:=q_ (RV.mv RV1.out hS GD.out)
     clear hP hS hx0 hx1 PD
     have y0:=cz_ B2 0;have y1:=cz_ B2 1;have k0:=blk_frozen B2.out 0;have k1:=blk_frozen B2.out 1
     go_wp2_with (first | ((with_reducible refine gate_store (t:=30) (p:=2) rfl ?_);refine store_event (t:=30) (p:=2) (v:=?vo2) (w1:=(w15.setCell ⟨g2,0,none⟩ (.slice pA pa pb)).setCell ⟨g2,1,none⟩ (.slice pB pc pd)) ?hg ?ho ?hn ?hr ?_;(case ho=>rfl);(case hg=>rfl);(case hn=>rfl);(case hr=>first | (go_simp;done) | (go_simp;rfl));intro w16 hw;subst hw;clear k0 k1))
     refine bodyPost_ret (results_ct rfl _ _ g2 30 #[.slice pA pa pb, .slice pB pc pd] (0,0) _ rfl (blk_put (blk_put B2.out 0 _ rfl) 1 _ rfl) Try.underlying30 rfl (by kernel_rfl)) rfl ?_
     have lo:=LO.out;have g2a:=G2.out;have hgg:=HG.out;have lw:=LW.out
     have rv:Kd.R (Kd.int .i64) 2 _ w.heap.size (fun k=>k≠g) _ CV:=Kd.R_lower (Kd.R_mono (Kd.R_far (Kd.R_far RV1.out (p:=⟨g2,0,none⟩) (fun k hk=>by show k≠g2;have:=hk.1;omega) (.slice pA pa pb)) (p:=⟨g2,1,none⟩) (fun k hk=>by show k≠g2;have:=hk.1;omega) (.slice pB pc pd)) (fun k hk=>by have:=hk.1;omega)) (by omega)
     exact⟨n,_,_,_,CV,by rw [HL.out];rfl,HN0.out,HN.out,(((PO.out.far HE.out lo.1 g2a (by omega) 0 (.slice pA pa pb)).far HE.out lo.1 g2a (by omega) 1 (.slice pB pc pd)).down lo.2),by rw [HL.out];exact rv,by rw [HL.out];have:=HN.out;omega⟩
end Go.Proofs.Ytmpkckiifeikkaa.Dr
end
section
namespace Go.Proofs.Ytmpkckiifeikkaa.Dr
open Go.RowKit Go.Proofs.YtmpkckiifeikkaaW.PrintWords Go.Proofs.YtmpkckiifeikkaaW.PrintLast Go.Proofs.YtmpkckiifeikkaaW.PrintMore Go.Proofs.Ytmpkckiifeikkaa.Ma Go.Proofs.Ytmpkckiifeikkaa.Pr Go.Proofs.Ytmpkckiifeikkaa.Lq
def Rd (w:World) (v:Value) (M:List (List Int)) (Q:List Int):Prop:= ∃A1 c1 A2 c2,v= .agg #[.slice A1 M.length c1, .slice A2 Q.length c2]∧Kd.C (Kd.slice 2 (Kd.int .i64)) w A1 M.length M∧M.length≤c1∧Kd.C (Kd.int .i64) w A2 Q.length Q∧Q.length≤c2
def PbD (lo n:Nat) (v:Value) (w:World):Prop:=v= .agg #[.slice none 0 0, .slice none 0 0]∨ ∃gm c b cp A c1 Q,v= .agg #[.slice (some ⟨gm,0,none⟩) n c, .slice A (List.length Q) c1]∧Dm w lo gm n c b cp∧Kd.R (Kd.int .i64) 2 w lo (fun k=>k≠gm∧ ∀j,j < n→k≠b j) (.slice A Q.length c1) Q∧n≤Q.length∧Q.length≤n+1
theorem PbOut.d {w0 wE w:World} {g lo n:Nat} {v:Value} (h:PbOut w0 wE g lo n v w):PbD lo n v w:=by
 rcases h.1 with h1 | ⟨gm,c,b,cp,A,c1,Q,h1,h3⟩
 ·exact .inl h1
 ·exact .inr ⟨gm,c,b,cp,A,c1,Q,h1,h3.dm,Kd.R_mono h3.rq (fun k hk=>hk.2),h3.ql⟩
theorem PbD.down {lo lo2 n:Nat} {v:Value} {w:World} (h:PbD lo n v w) (hl:lo2≤lo):PbD lo2 n v w:=by
 rcases h with h1 | ⟨gm,c,b,cp,A,c1,Q,h1,h2,h3,h4⟩
 ·exact .inl h1
 ·exact .inr ⟨gm,c,b,cp,A,c1,Q,h1,h2.down hl,Kd.R_lower h3 hl,h4⟩
theorem PbD.far {lo n:Nat} {v:Value} {w:World} (h:PbD lo n v w) {p:Nat} (hp:p < lo) (i:Nat) (u:Value):PbD lo n v (w.setCell ⟨p,i,none⟩ u):=by
 rcases h with h1 | ⟨gm,c,b,cp,A,c1,Q,h1,h2,h3,h4⟩
 ·exact .inl h1
 ·refine .inr ⟨gm,c,b,cp,A,c1,Q,h1,h2.set (by have:=h2.g0;omega) (fun j hj=>by have:=(h2.rr j hj).1;omega),?_,h4⟩
  exact Kd.R_mono (Kd.R_far (p:=⟨p,i,none⟩) (Kd.R_mono (Kd.R_tight rfl h3) (fun k hk=>(⟨Kd.R_base h3 k hk.symm,h3.1 k hk.symm⟩:lo≤k∧_))) (fun k hk=>by show k≠p;have:=hk.1;omega) u) (fun k hk=>hk.2)
theorem PbD.pair {lo n:Nat} {v:Value} {w:World} (h:PbD lo n v w): ∃(A1 A2:Option Addr) (a b a2 b2:Nat),v= .agg #[.slice A1 a b, .slice A2 a2 b2]:=by
 rcases h with h1 | ⟨gm,c,b,cp,A,c1,Q,h1,h3⟩
 ·exact⟨_,_,_,_,_,_,h1⟩
 ·exact⟨_,_,_,_,_,_,h1⟩
theorem PbD.rd {lo n:Nat} {v:Value} {w:World} (h:PbD lo n v w) (hn:n≤5): ∃M Q,Rd w v M Q∧M.length≤5∧Q.length≤6:=by
 rcases h with h1 | ⟨gm,c,b,cp,A,c1,Q,h1,h2,h3,h4⟩
 ·exact⟨[], [],⟨none,0,none,0,h1,Kd.C_nil _ _,Nat.le_refl _,Kd.C_nil _ _,Nat.le_refl _⟩,by simp,by simp⟩
 ·obtain⟨M,m1,m2,m3⟩:=h2.C (by omega)
  obtain⟨q1,q2,q3⟩:=Kd.R_reads' h3
  exact⟨M,Q,⟨_,c,A,c1,by rw [h1,m1],m3,by rw [m1];exact h2.cap,q3,q2⟩,by omega,by omega⟩
theorem PbOut.mv {w0 wE w w1:World} {g lo n:Nat} {v:Value} (h:PbOut w0 wE g lo n v w) (hS:Stp w0 w g w1) (hg:g < lo):PbOut w0 wE g lo n v w1:=by
 obtain⟨h1,h2⟩:=h
 rcases h1 with h1 | ⟨gm,c,b,cp,A,c1,Q,h1,h3⟩
 ·exact⟨.inl h1,h2.trans hS⟩
 ·exact⟨.inr ⟨gm,c,b,cp,A,c1,Q,h1,h3.mv hS hg⟩,h2.trans hS⟩
theorem Stp.drew {w0 w wE:World} {g:Nat} (h:Stp w0 wE g w):Stp w0 wE g w.drew:=h.trans (Stp.of_below h.src h.below (below_drew1 (Below.refl _ _)))
theorem near_c {w:World} {A0:Option Addr} {c0:Nat} {l0:List Int} (hr0:Kd.C (Kd.int .u8) w A0 l0.length l0) (hc0:l0.length≤c0) (hb: ∀i:Nat,0≤l0.getD i 0∧l0.getD i 0≤255) (hl:l0.length≤4096):Calls Try.prog 147 #[.slice A0 l0.length c0] w fun e w'=> ∃n v A cc CV k,e= .returned (.tuple #[v, .slice A (List.length CV) cc, .int .i64 k])∧n≤5∧PbD w.heap.size n v w'∧Kd.R (Kd.int .i64) 2 w' w.heap.size (fun _=>True) (.slice A CV.length cc) CV∧CV.length≤6∧ -1≤k∧k≤1099511627776∧Below w.heap.size w w':=by
 obtain⟨⟨rb,ra,rh⟩,⟨kk,hf⟩,hrb,hs⟩:=from_ex hb hl
 change rb=l0 at hrb
 subst hrb
 have HF:=q_ (hf kk (Nat.le_refl _));have HS:=q_ hs;have HR:=q_ hr0;have HC:=q_ hc0;have HB:=q_ (Below.refl w.heap.size w)
 clear hf hs hr0 hc0 hb hl
 go_enter Try.func147,Try.ntmps147
 go_wp2_with (first | ((with_reducible refine gate_dst (N:=2) rfl ?_);refine box_event ?hg (N:=2) ?hd (cs:= #[.slice none 0 0, .slice none 0 0]) (t:=30) ?hr ?_;(case hd=>rfl);(case hg=>rfl);(case hr=>first | (go_simp;done) | (go_simp;rfl));intro g2 hg w2 hbox hb;have G2:=q_ (show w.heap.size≤g2 by rw [hg];exact Nat.le_refl _);have B2:=q_ hbox;replace HB:=q_ (HB.out.trans hb);clear hg hbox hb))
 refine(spec_l01From.calls kk A0 c0 _ _ _ _ w _ HB.out HR.out HC.out HF.out).mono ?_
 rintro e w3 ⟨g,rfl,hi,hb,hb2⟩
 have NE:=q_ (Ne.symm (IsS168.ne_blk hi (bb_ B2.out hb2) (by decide)));replace B2:=q_ (bb_ B2.out hb2)
 have SD:=q_ (Stp.refl (show Srm w w3 g from ⟨_,_,_,hi,HS.out⟩) hb)
 have GD:=q_ SD.out.src.lt;have ED:=q_ hb.size;have LO:=q_ (blk_lt B2.out)
 clear hi hb hb2 HB
 go_wp2_with fail
 refine(with_c SD.out.src SD.out.below).mono ?_
 rintro e w4 ⟨n,v,A,cc,CV,rfl,hn0,hn5,hP,hR,hl6⟩
 obtain⟨pA,pB,pa,pb,pc,pd,rfl⟩:=hP.pair
 replace B2:=q_ (hP.2.keep.blk B2.out NE.out (by simp))
 replace SD:=q_ hP.2
 have PO:=q_ hP;have HN:=q_ hn5;have H6:=q_ hl6
 have RV1:Aside0 (RV w4 w3.heap.size g (.slice A CV.length cc) CV):=⟨Kd.R_mono (Kd.R_tight rfl hR) (fun k hk=>⟨Kd.R_base hR k hk.symm,hR.1 k hk.symm⟩)⟩
 have L4:=q_ hP.2.keep.1
 clear hP hR hn0 hn5 hl6
 go_wp2_with (first | ((with_reducible refine gate_dst (N:=6) rfl ?_);refine box_event ?hg (N:=6) ?hd (cs:= #[.slice none 0 0, .slice none 0 0]) (t:=30) ?hr ?_;(case hd=>rfl);(case hg=>rfl);(case hr=>first | (go_simp;done) | (go_simp;rfl));intro g6 hg w5 hbox hb;have B6:=q_ hbox;have G6:=q_ (show w4.heap.size≤g6 by rw [hg];exact Nat.le_refl _);have HB5:=q_ hb;have hx0:=cz_ B6 0;have hx1:=cz_ B6 1;have fx0:=blk_frozen hbox 0;have fx1:=blk_frozen hbox 1;clear hg hbox hb) | ((with_reducible refine gate_store (t:=30) (p:=6) rfl ?_);refine store_event (t:=30) (p:=6) (v:=?vo6) (w1:=(w5.setCell ⟨g6,0,none⟩ (.slice pA pa pb)).setCell ⟨g6,1,none⟩ (.slice pB pc pd)) ?hg ?ho ?hn ?hr ?_;(case ho=>rfl);(case hg=>rfl);(case hn=>rfl);(case hr=>first | (go_simp;done) | (go_simp;rfl));intro w6 hw;have hs_:Stp w w4 g w6:=Stp.of_below SD.out.src SD.out.below (by rw [hw];exact below_set (below_set HB5.out G6.out) G6.out);replace B2:=q_ (hs_.keep.blk B2.out NE.out (by simp));replace B6:=q_ (show w6.heap[g6]?=some (.cells #[.slice pA pa pb, .slice pB pc pd] 30 (0,0)) by rw [hw];exact blk_put (blk_put B6.out 0 _ rfl) 1 _ rfl);replace PO:=q_ (PO.out.mv hs_ GD.out);replace RV1:=q_ (RV.mv RV1.out hs_ GD.out);replace SD:=q_ (SD.out.trans hs_);clear hs_ hw hx0 hx1 fx0 fx1 HB5))
 have N6:=q_ (show g6≠g by have:=G6.out;have:=GD.out;have:=L4.out;omega)
 have hs_:=Stp.drew (Stp.refl SD.out.src SD.out.below)
 replace PO:=q_ (PO.out.mv hs_ GD.out);replace RV1:=q_ (RV.mv RV1.out hs_ GD.out);replace SD:=q_ (SD.out.trans hs_);replace B2:=q_ (blk_drew B2.out);replace B6:=q_ (blk_drew B6.out)
 clear hs_
 refine st_ (n:=8) (S:=fun w'=>w'.cell? ⟨g6,0,none⟩=some (.slice pA pa pb)∧w'.cell? ⟨g6,1,none⟩=some (.slice pB pc pd)) (ds:= []) ⟨(blk_cell B6.out 0).trans rfl,(blk_cell B6.out 1).trans rfl⟩ (fun hHeld=>?_)
 generalize w6.drew=w7 at B2 B6 PO RV1 SD hHeld ⊢
 refine pu_ 1 16 ?_;refine pu_ 2 17 ?_;refine tk_ 0 15 ?_
 refine on_ 3 (some 18) (fun K hK=>?_)
 refine Kd.R_lit_step (Kd.int .i64) _ 2 ?hg (N:=18) ?hd (xs:=([0,1,1,2,2,3,4,6, -1,1099511627776]:List Int)) (inner:= [.int .i64 0, .int .i64 1, .int .i64 1, .int .i64 2, .int .i64 2, .int .i64 3, .int .i64 4, .int .i64 6, .int .i64 (-1), .int .i64 1099511627776]) (ok:=fun _=>True) (okp:=fun _=>True) ?hr ?hp (fun _ hk=>hk) trivial (Below.refl _ _) (Nat.le_refl _) (by simp) ?_;(case hd=>rfl);(case hg=>rfl);(case hr=>first | (go_simp;done) | (go_simp;rfl));(case hp=>exact lit_reps [0,1,1,2,2,3,4,6, -1,1099511627776])
 intro v18 w8 ho hb hg_ hnew_
 obtain⟨g18,c18,rfl,hb18,hl18,_⟩:=Kd.R_form ho (by simp)
 have N18:g18≠g:=by have:=SD.out.src.lt;omega
 have hs_:=Stp.of_below SD.out.src SD.out.below hb
 replace PO:=q_ (PO.out.mv hs_ GD.out);replace RV1:=q_ (RV.mv RV1.out hs_ GD.out);replace SD:=q_ (SD.out.trans hs_);replace B2:=q_ (hs_.keep.blk B2.out NE.out (by simp));replace B6:=q_ (hs_.keep.blk B6.out N6.out (by simp))
 have R18:=q_ ho
 clear hs_ hb hg_ hnew_ ho hb18 hl18
 refine hK.out _ _ ⟨(blk_cell B6.out 0).trans rfl,(blk_cell B6.out 1).trans rfl⟩ (fun hHeld=>?_)
 clear hK K
 refine norm_ (a':=?_) ?_ ?_
 rotate_left
 ·show Act.put _ (some 18) _=_
  simp only [Act.put,List.setIfInBounds_toArray,List.set_cons_zero,List.set_cons_succ,i64_w,i32_w]
  rfl
 refine on_ 4 (some 19) (fun K hK=>?_)
 refine goes_ Try.func114 (by kernel_rfl) rfl #[.pointer (some ⟨g,0,none⟩), .slice (some ⟨g18,0,none⟩) ([0,1,1,2,2,3,4,6, -1,1099511627776]:List Int).length c18] (by rfl) rfl rfl (by(try simp only [List.map_toArray,List.map_cons,List.map_nil]);first | done | rfl) ?_
 refine(pick_c SD.out.src SD.out.below _ c18 [0,1,1,2,2,3,4,6, -1,1099511627776] (Kd.R_reads' R18.out).2.2 (Kd.R_reads' R18.out).2.1 (fun ad e _=>by injection e with e;subst e;exact N18) (by decide)).mono ?_
 rintro e w9 ⟨x,rfl,hx,hS⟩
 refine⟨_,rfl,?_⟩
 have HX:Aside0 (-1≤x∧x≤1099511627776):=⟨by simp only [List.mem_cons,List.not_mem_nil,or_false] at hx;omega⟩;clear hx
 replace PO:=q_ (PO.out.mv hS GD.out);replace RV1:=q_ (RV.mv RV1.out hS GD.out);replace SD:=q_ (SD.out.trans hS);replace B2:=q_ (hS.keep.blk B2.out NE.out (by simp));replace B6:=q_ (hS.keep.blk B6.out N6.out (by simp))
 clear hS R18 N18
 refine hK.out _ _ ⟨(blk_cell B6.out 0).trans rfl,(blk_cell B6.out 1).trans rfl⟩ (fun hHeld=>?_)
 clear hK K
 refine norm_ (a':=?_) ?_ ?_
 rotate_left
 ·show Act.put _ (some 19) _=_
  simp only [Act.put,List.setIfInBounds_toArray,List.set_cons_zero,List.set_cons_succ,i64_w,i32_w]
  rfl
 refine on_ 5 none (fun K hK=>?_)
 have y0:=cz_ B2 0;have y1:=cz_ B2 1;have k0:=blk_frozen B2.out 0;have k1:=blk_frozen B2.out 1
 refine skip_ (w1:=(w9.setCell ⟨g2,0,none⟩ (.slice pA pa pb)).setCell ⟨g2,1,none⟩ (.slice pB pc pd)) (by rfl) rfl ?_ ?_
 ·first | (go_simp;done) | (go_simp;rfl)
 clear k0 k1 y0 y1
 have N26:g6≠g2:=by have:=G6.out;have:=L4.out;have:=LO.out;omega
 refine hK.out _ _ ⟨(cell_far (p:=⟨g2,_,none⟩) N26 _).trans ((cell_far (p:=⟨g2,_,none⟩) N26 _).trans hHeld.1),(cell_far (p:=⟨g2,_,none⟩) N26 _).trans ((cell_far (p:=⟨g2,_,none⟩) N26 _).trans hHeld.2)⟩ (fun hHeld=>?_)
 clear hK K
 refine pu_ 6 3 ?_;refine pu_ 7 4 ?_
 refine done_ (by kernel_rfl) ?_
 try go_wp2
 refine bodyPost_ret (results_ctt rfl _ _ g2 30 #[.slice pA pa pb, .slice pB pc pd] (0,0) _ rfl (blk_put (blk_put B2.out 0 _ rfl) 1 _ rfl) Try.underlying30 rfl (by kernel_rfl)) rfl ?_
 have lo:=LO.out;have g2a:=G2.out;have gd:=GD.out;have ne:=NE.out
 have rv:Kd.R (Kd.int .i64) 2 _ w3.heap.size (fun k=>w3.heap.size≤k∧k≠g) (.slice A CV.length cc) CV:=Kd.R_far (Kd.R_far RV1.out (p:=⟨g2,0,none⟩) (fun k hk=>by show k≠g2;have:=hk.1;omega) (.slice pA pa pb)) (p:=⟨g2,1,none⟩) (fun k hk=>by show k≠g2;have:=hk.1;omega) (.slice pB pc pd)
 exact⟨n,_,_,_,CV,x,rfl,HN.out,((PO.out.d.far lo 0 _).far lo 1 _).down (by omega),Kd.R_lower (Kd.R_mono rv (fun k hk=>trivial)) (by omega),H6.out,HX.out.1,HX.out.2,below_set (below_set SD.out.below g2a) g2a⟩
end Go.Proofs.Ytmpkckiifeikkaa.Dr
end
section
namespace Go.Proofs.Ytmpkckiifeikkaa.Dr
open Go.RowKit Go.Proofs.YtmpkckiifeikkaaW.PrintWords Go.Proofs.YtmpkckiifeikkaaW.PrintLast Go.Proofs.YtmpkckiifeikkaaW.PrintMore Go.Proofs.Ytmpkckiifeikkaa.Ma Go.Proofs.Ytmpkckiifeikkaa.Pr Go.Proofs.Ytmpkckiifeikkaa.Lq
theorem Dm.below {w w':World} {lo gm n c:Nat} {b cp:Nat→Nat} (h:Dm w lo gm n c b cp) (hb:Below w.heap.size w w'):Dm w' lo gm n c b cp:=by
 have h0:=h.g0
 have hk:=KeepBut.of_below hb w.heap.size none
 refine⟨⟨h0.1,Nat.lt_of_lt_of_le h0.2 hk.1⟩,h.cap,fun j hj=>keep_cell hk (h.row j hj) (by show gm≠_;omega),fun j hj=>?_,fun j k hj hk'=>?_⟩
 ·have:=h.rr j hj
  exact⟨this.1,Nat.lt_of_lt_of_le this.2.1 hk.1,this.2.2⟩
 ·have hr:=h.rr j hj
  obtain⟨⟨x,hx⟩,hf⟩:=h.ints j k hj hk'
  exact⟨⟨x,keep_cell hk hx (by show b j≠_;omega)⟩,(keep_froz hk (by show b j < _;omega) (by show b j≠_;omega)).trans hf⟩
theorem PbD.below {lo n:Nat} {v:Value} {w w':World} (h:PbD lo n v w) (hb:Below w.heap.size w w'):PbD lo n v w':=by
 rcases h with h1 | ⟨gm,c,b,cp,A,c1,Q,h1,h2,h3,h4⟩
 ·exact .inl h1
 ·exact .inr ⟨gm,c,b,cp,A,c1,Q,h1,h2.below hb,Kd.R_below h3 hb,h4⟩
theorem dra_c {w:World} {A0:Option Addr} {c0:Nat} {l0:List Int} (hr0:Kd.C (Kd.int .u8) w A0 l0.length l0) (hc0:l0.length≤c0) (hb: ∀i:Nat,0≤l0.getD i 0∧l0.getD i 0≤255) (hl:l0.length≤4096):Calls Try.prog 74 #[.slice A0 l0.length c0] w fun e w'=> ∃v M Q A cc CV k,e= .returned (.tuple #[v, .slice A (List.length CV) cc, .int .i64 k])∧Rd w' v M Q∧M.length≤5∧Q.length≤6∧Kd.C (Kd.int .i64) w' A CV.length CV∧CV.length≤cc∧CV.length≤6∧ -1≤k∧k≤1099511627776∧Below w.heap.size w w':=by
 have HR:=q_ hr0;have HC:=q_ hc0;have HB0:=q_ hb;have HL0:=q_ hl;have HB:=q_ (Below.refl w.heap.size w)
 clear hr0 hc0 hb hl
 go_enter Try.func74,Try.ntmps74
 go_wp2_with (first | ((with_reducible refine gate_dst (N:=2) rfl ?_);refine box_event ?hg (N:=2) ?hd (cs:= #[.slice none 0 0, .slice none 0 0]) (t:=30) ?hr ?_;(case hd=>rfl);(case hg=>rfl);(case hr=>first | (go_simp;done) | (go_simp;rfl));intro g2 hg w2 hbox hb;have G2:=q_ (show w.heap.size≤g2 by rw [hg];exact Nat.le_refl _);have B2:=q_ hbox;replace HB:=q_ (HB.out.trans hb);replace HR:=q_ (Kd.C_below HR.out hb);clear hg hbox hb))
 refine(near_c HR.out HC.out HB0.out HL0.out).mono ?_
 rintro e w3 ⟨n,v,A,cc,CV,k,rfl,hn,hP,hR,h6,hk1,hk2,hb⟩
 have LO:=q_ (blk_lt B2.out)
 replace B2:=q_ (bb_ B2.out hb)
 replace HB:=q_ (below_then HB.out HB.out.size hb)
 obtain⟨pA,pB,pa,pb,pc,pd,rfl⟩:=hP.pair
 have PD:=q_ hP;have RV:=q_ hR;have HN:=q_ hn;have H6:=q_ h6;have HK:=q_ (And.intro hk1 hk2);have L3:=q_ hb.size
 clear hP hR hn h6 hk1 hk2 hb HR
 go_wp2_with (first | ((with_reducible refine gate_dst (N:=5) rfl ?_);refine box_event ?hg (N:=5) ?hd (cs:= #[.slice none 0 0, .slice none 0 0]) (t:=30) ?hr ?_;(case hd=>rfl);(case hg=>rfl);(case hr=>first | (go_simp;done) | (go_simp;rfl));intro g5 hg w5 hbox hb;have B5:=q_ hbox;have G5:=q_ (show w3.heap.size≤g5 by rw [hg];exact Nat.le_refl _);have HB5:=q_ hb;have hx0:=cz_ B5 0;have hx1:=cz_ B5 1;have fx0:=blk_frozen hbox 0;have fx1:=blk_frozen hbox 1;clear hg hbox hb) | ((with_reducible refine gate_store (t:=30) (p:=5) rfl ?_);refine store_event (t:=30) (p:=5) (v:=?vo5) (w1:=(w5.setCell ⟨g5,0,none⟩ (.slice pA pa pb)).setCell ⟨g5,1,none⟩ (.slice pB pc pd)) ?hg ?ho ?hn ?hr ?_;(case ho=>rfl);(case hg=>rfl);(case hn=>rfl);(case hr=>first | (go_simp;done) | (go_simp;rfl));intro w6 hw;have hs_:Below w3.heap.size w3 w6:=(by rw [hw];exact below_set (below_set HB5.out G5.out) G5.out);replace B2:=q_ ((hs_.block g2 (blk_lt B2.out)).trans B2.out);replace B5:=q_ (show w6.heap[g5]?=some (.cells #[.slice pA pa pb, .slice pB pc pd] 30 (0,0)) by rw [hw];exact blk_put (blk_put B5.out 0 _ rfl) 1 _ rfl);replace PD:=q_ (PD.out.below hs_);replace RV:=q_ (Kd.R_below RV.out hs_);replace HB:=q_ (below_then HB.out HB.out.size hs_);clear hs_ hw hx0 hx1 fx0 fx1 HB5;have hx0:=cz_ B5 0;have hx1:=cz_ B5 1;have y0:=cz_ B2 0;have y1:=cz_ B2 1;have k0:=blk_frozen B2.out 0;have k1:=blk_frozen B2.out 1) | ((with_reducible refine gate_store (t:=30) (p:=2) rfl ?_);refine store_event (t:=30) (p:=2) (v:=?vo2) (w1:=(w6.setCell ⟨g2,0,none⟩ (.slice pA pa pb)).setCell ⟨g2,1,none⟩ (.slice pB pc pd)) ?hg ?ho ?hn ?hr ?_;(case ho=>rfl);(case hg=>rfl);(case hn=>rfl);(case hr=>first | (go_simp;done) | (go_simp;rfl));intro w7 hw;subst hw;clear k0 k1 y0 y1 hx0 hx1))
 refine bodyPost_ret (results_ctt rfl _ _ g2 30 #[.slice pA pa pb, .slice pB pc pd] (0,0) _ rfl (blk_put (blk_put B2.out 0 _ rfl) 1 _ rfl) Try.underlying30 rfl (by kernel_rfl)) rfl ?_
 have lo:=LO.out;have g2a:=G2.out
 obtain⟨M,Q,m1,m2,m3⟩:=((PD.out.far lo 0 (.slice pA pa pb)).far lo 1 (.slice pB pc pd)).rd HN.out
 have rv:=Kd.R_far (Kd.R_far (Kd.R_mono (Kd.R_tight rfl RV.out) (fun k hk=>(Kd.R_base RV.out k hk.symm:w2.heap.size≤k))) (p:=⟨g2,0,none⟩) (fun k hk=>by show k≠g2;have:w2.heap.size≤k:=hk;omega) (.slice pA pa pb)) (p:=⟨g2,1,none⟩) (fun k hk=>by show k≠g2;have:w2.heap.size≤k:=hk;omega) (.slice pB pc pd)
 obtain⟨q1,q2,q3⟩:=Kd.R_reads' rv
 exact⟨_,M,Q,_,_,CV,k,rfl,m1,m2,m3,q3,q2,H6.out,HK.out.1,HK.out.2,below_set (below_set HB.out g2a) g2a⟩
theorem dba_c {w:World} {A0:Option Addr} {c0:Nat} {l0:List Int} (hr0:Kd.C (Kd.int .u8) w A0 l0.length l0) (hc0:l0.length≤c0) (hb: ∀i:Nat,0≤l0.getD i 0∧l0.getD i 0≤255) (hl:l0.length≤4096):Calls Try.prog 79 #[.slice A0 l0.length c0] w fun e w'=> ∃v M Q A cc CV k,e= .returned (.tuple #[v, .slice A (List.length CV) cc, .int .i64 k])∧Rd w' v M Q∧M.length≤5∧Q.length≤6∧Kd.C (Kd.int .i64) w' A CV.length CV∧CV.length≤cc∧CV.length≤6∧ -1≤k∧k≤1099511627776∧Below w.heap.size w w':=by
 have HR:=q_ hr0;have HC:=q_ hc0;have HB0:=q_ hb;have HL0:=q_ hl;have HB:=q_ (Below.refl w.heap.size w)
 clear hr0 hc0 hb hl
 go_enter Try.func79,Try.ntmps79
 go_wp2_with (first | ((with_reducible refine gate_dst (N:=2) rfl ?_);refine box_event ?hg (N:=2) ?hd (cs:= #[.slice none 0 0, .slice none 0 0]) (t:=30) ?hr ?_;(case hd=>rfl);(case hg=>rfl);(case hr=>first | (go_simp;done) | (go_simp;rfl));intro g2 hg w2 hbox hb;have G2:=q_ (show w.heap.size≤g2 by rw [hg];exact Nat.le_refl _);have B2:=q_ hbox;replace HB:=q_ (HB.out.trans hb);replace HR:=q_ (Kd.C_below HR.out hb);clear hg hbox hb))
 refine(near_c HR.out HC.out HB0.out HL0.out).mono ?_
 rintro e w3 ⟨n,v,A,cc,CV,k,rfl,hn,hP,hR,h6,hk1,hk2,hb⟩
 have LO:=q_ (blk_lt B2.out)
 replace B2:=q_ (bb_ B2.out hb)
 replace HB:=q_ (below_then HB.out HB.out.size hb)
 obtain⟨pA,pB,pa,pb,pc,pd,rfl⟩:=hP.pair
 have PD:=q_ hP;have RV:=q_ hR;have HN:=q_ hn;have H6:=q_ h6;have HK:=q_ (And.intro hk1 hk2);have L3:=q_ hb.size
 clear hP hR hn h6 hk1 hk2 hb HR
 go_wp2_with (first | ((with_reducible refine gate_dst (N:=5) rfl ?_);refine box_event ?hg (N:=5) ?hd (cs:= #[.slice none 0 0, .slice none 0 0]) (t:=30) ?hr ?_;(case hd=>rfl);(case hg=>rfl);(case hr=>first | (go_simp;done) | (go_simp;rfl));intro g5 hg w5 hbox hb;have B5:=q_ hbox;have G5:=q_ (show w3.heap.size≤g5 by rw [hg];exact Nat.le_refl _);have HB5:=q_ hb;have hx0:=cz_ B5 0;have hx1:=cz_ B5 1;have fx0:=blk_frozen hbox 0;have fx1:=blk_frozen hbox 1;clear hg hbox hb) | ((with_reducible refine gate_store (t:=30) (p:=5) rfl ?_);refine store_event (t:=30) (p:=5) (v:=?vo5) (w1:=(w5.setCell ⟨g5,0,none⟩ (.slice pA pa pb)).setCell ⟨g5,1,none⟩ (.slice pB pc pd)) ?hg ?ho ?hn ?hr ?_;(case ho=>rfl);(case hg=>rfl);(case hn=>rfl);(case hr=>first | (go_simp;done) | (go_simp;rfl));intro w6 hw;have hs_:Below w3.heap.size w3 w6:=(by rw [hw];exact below_set (below_set HB5.out G5.out) G5.out);replace B2:=q_ ((hs_.block g2 (blk_lt B2.out)).trans B2.out);replace B5:=q_ (show w6.heap[g5]?=some (.cells #[.slice pA pa pb, .slice pB pc pd] 30 (0,0)) by rw [hw];exact blk_put (blk_put B5.out 0 _ rfl) 1 _ rfl);replace PD:=q_ (PD.out.below hs_);replace RV:=q_ (Kd.R_below RV.out hs_);replace HB:=q_ (below_then HB.out HB.out.size hs_);clear hs_ hw hx0 hx1 fx0 fx1 HB5;have hx0:=cz_ B5 0;have hx1:=cz_ B5 1;have y0:=cz_ B2 0;have y1:=cz_ B2 1;have k0:=blk_frozen B2.out 0;have k1:=blk_frozen B2.out 1) | ((with_reducible refine gate_store (t:=30) (p:=2) rfl ?_);refine store_event (t:=30) (p:=2) (v:=?vo2) (w1:=(w6.setCell ⟨g2,0,none⟩ (.slice pA pa pb)).setCell ⟨g2,1,none⟩ (.slice pB pc pd)) ?hg ?ho ?hn ?hr ?_;(case ho=>rfl);(case hg=>rfl);(case hn=>rfl);(case hr=>first | (go_simp;done) | (go_simp;rfl));intro w7 hw;subst hw;clear k0 k1 y0 y1 hx0 hx1))
 refine bodyPost_ret (results_ctt rfl _ _ g2 30 #[.slice pA pa pb, .slice pB pc pd] (0,0) _ rfl (blk_put (blk_put B2.out 0 _ rfl) 1 _ rfl) Try.underlying30 rfl (by kernel_rfl)) rfl ?_
 have lo:=LO.out;have g2a:=G2.out
 obtain⟨M,Q,m1,m2,m3⟩:=((PD.out.far lo 0 (.slice pA pa pb)).far lo 1 (.slice pB pc pd)).rd HN.out
 have rv:=Kd.R_far (Kd.R_far (Kd.R_mono (Kd.R_tight rfl RV.out) (fun k hk=>(Kd.R_base RV.out k hk.symm:w2.heap.size≤k))) (p:=⟨g2,0,none⟩) (fun k hk=>by show k≠g2;have:w2.heap.size≤k:=hk;omega) (.slice pA pa pb)) (p:=⟨g2,1,none⟩) (fun k hk=>by show k≠g2;have:w2.heap.size≤k:=hk;omega) (.slice pB pc pd)
 obtain⟨q1,q2,q3⟩:=Kd.R_reads' rv
 exact⟨_,M,Q,_,_,CV,k,rfl,m1,m2,m3,q3,q2,H6.out,HK.out.1,HK.out.2,below_set (below_set HB.out g2a) g2a⟩
theorem dca_c {w:World} {A0:Option Addr} {c0:Nat} {l0:List Int} (hr0:Kd.C (Kd.int .u8) w A0 l0.length l0) (hc0:l0.length≤c0) (hb: ∀i:Nat,0≤l0.getD i 0∧l0.getD i 0≤255) (hl:l0.length≤4096):Calls Try.prog 81 #[.slice A0 l0.length c0] w fun e w'=> ∃v M Q A cc CV k,e= .returned (.tuple #[v, .slice A (List.length CV) cc, .int .i64 k])∧Rd w' v M Q∧M.length≤5∧Q.length≤6∧Kd.C (Kd.int .i64) w' A CV.length CV∧CV.length≤cc∧CV.length≤6∧ -1≤k∧k≤1099511627776∧Below w.heap.size w w':=by
 have HR:=q_ hr0;have HC:=q_ hc0;have HB0:=q_ hb;have HL0:=q_ hl;have HB:=q_ (Below.refl w.heap.size w)
 clear hr0 hc0 hb hl
 go_enter Try.func81,Try.ntmps81
 go_wp2_with (first | ((with_reducible refine gate_dst (N:=2) rfl ?_);refine box_event ?hg (N:=2) ?hd (cs:= #[.slice none 0 0, .slice none 0 0]) (t:=30) ?hr ?_;(case hd=>rfl);(case hg=>rfl);(case hr=>first | (go_simp;done) | (go_simp;rfl));intro g2 hg w2 hbox hb;have G2:=q_ (show w.heap.size≤g2 by rw [hg];exact Nat.le_refl _);have B2:=q_ hbox;replace HB:=q_ (HB.out.trans hb);replace HR:=q_ (Kd.C_below HR.out hb);clear hg hbox hb))
 refine(near_c HR.out HC.out HB0.out HL0.out).mono ?_
 rintro e w3 ⟨n,v,A,cc,CV,k,rfl,hn,hP,hR,h6,hk1,hk2,hb⟩
 have LO:=q_ (blk_lt B2.out)
 replace B2:=q_ (bb_ B2.out hb)
 replace HB:=q_ (below_then HB.out HB.out.size hb)
 obtain⟨pA,pB,pa,pb,pc,pd,rfl⟩:=hP.pair
 have PD:=q_ hP;have RV:=q_ hR;have HN:=q_ hn;have H6:=q_ h6;have HK:=q_ (And.intro hk1 hk2);have L3:=q_ hb.size
 clear hP hR hn h6 hk1 hk2 hb HR
 go_wp2_with (first | ((with_reducible refine gate_dst (N:=5) rfl ?_);refine box_event ?hg (N:=5) ?hd (cs:= #[.slice none 0 0, .slice none 0 0]) (t:=30) ?hr ?_;(case hd=>rfl);(case hg=>rfl);(case hr=>first | (go_simp;done) | (go_simp;rfl));intro g5 hg w5 hbox hb;have B5:=q_ hbox;have G5:=q_ (show w3.heap.size≤g5 by rw [hg];exact Nat.le_refl _);have HB5:=q_ hb;have hx0:=cz_ B5 0;have hx1:=cz_ B5 1;have fx0:=blk_frozen hbox 0;have fx1:=blk_frozen hbox 1;clear hg hbox hb) | ((with_reducible refine gate_store (t:=30) (p:=5) rfl ?_);refine store_event (t:=30) (p:=5) (v:=?vo5) (w1:=(w5.setCell ⟨g5,0,none⟩ (.slice pA pa pb)).setCell ⟨g5,1,none⟩ (.slice pB pc pd)) ?hg ?ho ?hn ?hr ?_;(case ho=>rfl);(case hg=>rfl);(case hn=>rfl);(case hr=>first | (go_simp;done) | (go_simp;rfl));intro w6 hw;have hs_:Below w3.heap.size w3 w6:=(by rw [hw];exact below_set (below_set HB5.out G5.out) G5.out);replace B2:=q_ ((hs_.block g2 (blk_lt B2.out)).trans B2.out);replace B5:=q_ (show w6.heap[g5]?=some (.cells #[.slice pA pa pb, .slice pB pc pd] 30 (0,0)) by rw [hw];exact blk_put (blk_put B5.out 0 _ rfl) 1 _ rfl);replace PD:=q_ (PD.out.below hs_);replace RV:=q_ (Kd.R_below RV.out hs_);replace HB:=q_ (below_then HB.out HB.out.size hs_);clear hs_ hw hx0 hx1 fx0 fx1 HB5;have hx0:=cz_ B5 0;have hx1:=cz_ B5 1;have y0:=cz_ B2 0;have y1:=cz_ B2 1;have k0:=blk_frozen B2.out 0;have k1:=blk_frozen B2.out 1) | ((with_reducible refine gate_store (t:=30) (p:=2) rfl ?_);refine store_event (t:=30) (p:=2) (v:=?vo2) (w1:=(w6.setCell ⟨g2,0,none⟩ (.slice pA pa pb)).setCell ⟨g2,1,none⟩ (.slice pB pc pd)) ?hg ?ho ?hn ?hr ?_;(case ho=>rfl);(case hg=>rfl);(case hn=>rfl);(case hr=>first | (go_simp;done) | (go_simp;rfl));intro w7 hw;subst hw;clear k0 k1 y0 y1 hx0 hx1))
 refine bodyPost_ret (results_ctt rfl _ _ g2 30 #[.slice pA pa pb, .slice pB pc pd] (0,0) _ rfl (blk_put (blk_put B2.out 0 _ rfl) 1 _ rfl) Try.underlying30 rfl (by kernel_rfl)) rfl ?_
 have lo:=LO.out;have g2a:=G2.out
 obtain⟨M,Q,m1,m2,m3⟩:=((PD.out.far lo 0 (.slice pA pa pb)).far lo 1 (.slice pB pc pd)).rd HN.out
 have rv:=Kd.R_far (Kd.R_far (Kd.R_mono (Kd.R_tight rfl RV.out) (fun k hk=>(Kd.R_base RV.out k hk.symm:w2.heap.size≤k))) (p:=⟨g2,0,none⟩) (fun k hk=>by show k≠g2;have:w2.heap.size≤k:=hk;omega) (.slice pA pa pb)) (p:=⟨g2,1,none⟩) (fun k hk=>by show k≠g2;have:w2.heap.size≤k:=hk;omega) (.slice pB pc pd)
 obtain⟨q1,q2,q3⟩:=Kd.R_reads' rv
 exact⟨_,M,Q,_,_,CV,k,rfl,m1,m2,m3,q3,q2,H6.out,HK.out.1,HK.out.2,below_set (below_set HB.out g2a) g2a⟩
end Go.Proofs.Ytmpkckiifeikkaa.Dr
end
section
namespace Go.Proofs.Ytmpkckiifeikkaa.Al
open Go.RowKit Go.Proofs.YtmpkckiifeikkaaW.PrintWords Go.Proofs.YtmpkckiifeikkaaW.PrintLast Go.Proofs.YtmpkckiifeikkaaW.PrintMore Go.Proofs.Ytmpkckiifeikkaa.Pr
structure Al (P:World→Prop) (w:World):Prop where
 all: ∀w',Below w.heap.size w w'→P w'
theorem Al.now {P:World→Prop} {w:World} (h:Al P w):P w:=h.all w (Below.refl _ _)
theorem Al.mv {P:World→Prop} {w w':World} (h:Al P w) (hb:Below w.heap.size w w'):Al P w':=⟨fun w2 h2=>h.all w2 (below_step hb h2)⟩
theorem Al.nil (w:World):Al (fun _=>True) w:=⟨fun _ _=>trivial⟩
theorem Al.addC {P:World→Prop} {w:World} (h:Al P w) {α:Type} {d:Kd α} {A:Option Addr} {n:Nat} {xs:List α} (k:d.C w A n xs):Al (fun W=>d.C W A n xs∧P W) w:=⟨fun w2 h2=>⟨Kd.C_below k h2,h.all w2 h2⟩⟩
theorem Al.addB {P:World→Prop} {w:World} (h:Al P w) {g:Nat} {o:Obj} (k:w.heap[g]?=some o):Al (fun W=>W.heap[g]?=some o∧P W) w:=⟨fun w2 h2=>⟨blk_below k h2,h.all w2 h2⟩⟩
theorem drawn_below {w w':World} (h:Drawn0 w w'):Below w.heap.size w w':=by
 obtain⟨nd,rfl⟩:=h
 exact pw_below_drewN (Below.refl _ _) nd
def hasCond (s:Tmp):Code→Bool
 | .seq a b=>hasCond s a || hasCond s b
 | .block _ c=>hasCond s c
 | .cond (.tmp t) _ _=>t==s
 | _=>false
def tailAfter (s:Tmp):Code→Option Code
 | .seq a b=>if hasCond s a then some b else tailAfter s b
 | _=>none
end Go.Proofs.Ytmpkckiifeikkaa.Al
end
