/- Texts of one claim (the words of the kit's print that the claim uses, printed functions, and this session's own texts), joined in the order of their imports by this session's own program (merge.py). -/
import Derived.Below
import Derived.Deep.Draws
import Derived.Deep.AppendLies
import Derived.Maps.AppendAt
import Derived.OwnWalk
import Derived.Laws.BytesArg
import Derived.Laws.MakeOwn
import Derived.Laws.OwnMore
import Derived.Deep.OwnRows
import Derived.Tactics
import Derived.Lib.ConvBytes
import Derived.Laws.Slices
import Derived.WalkKit
import Derived.KernelRfl
import Derived.RowKit3
import Derived.Deep.LoopGhost
import Derived.Deep.QuietTactic
import Derived.BigQuiet
import Derived.WideLaws
import Derived.Deep.DeepCutAuto
import Derived.Deep.CutBlock
import Derived.Deep.RegionHeld3
import Derived.Laws.Rows
import Derived.Lib.AppendStr
import Derived.ArgAppend
import Derived.Laws.IdiomCopy
import Derived.RowKit
import Derived.OrdersHeld
import Derived.Laws.BitsLemmas
import Derived.Laws.StructEq
import Derived.Test.YthmfdplckdijdaaGreatProg
set_option linter.unusedVariables false
set_option linter.unusedSimpArgs false
set_option maxHeartbeats 8000000
set_option maxRecDepth 100000
section
namespace Go.Proofs.Wz.cw
open Go.RowKit
structure aE (p:Prop):Prop where mk::(out:p)
theorem q_ {p:Prop} (h:p):aE p:=⟨h⟩
structure lP (w w':World):Prop where mk::(out: ∃n,w'=w.drewN n)
theorem lP.refl (w:World):lP w w:=⟨⟨0,rfl⟩⟩
theorem lP.step {w w':World} (h:lP w w') (n:Nat):lP w (w'.drewN n):=by
 obtain⟨m,rfl⟩:=h
 exact⟨⟨m+n,World.drewN_drewN ..⟩⟩
theorem lP.grown {w w':World} (h:lP w w'):Grown w w':=by
 obtain⟨n,rfl⟩:=h
 induction n with
 | zero=>exact Grown.refl _
 | succ n ih=>rw [← World.drew_drewN];exact Grown.drew ih
theorem lP.below {w w':World} (h:lP w w'):Below w.heap.size w w':=by
 obtain⟨n,rfl⟩:=h
 induction n with
 | zero=>exact Below.refl _ _
 | succ n ih=>rw [← World.drew_drewN];exact ih.drew
def rd (xs:List Int) (i:Int):Int:=xs.getD i.toNat 0
theorem pG {w W:World} (h:Below w.heap.size w W) (o:Obj):Below w.heap.size w (W.alloc o):=h.alloc h.size o
theorem mH {B:Nat} {w W:World} (h:Below B w W):Below B w W.drew:=⟨h.os,h.tape,h.output,h.size,h.block⟩
theorem oO {B:Nat} {w W:World} (h:Below B w W) (n:Nat):Below B w (W.drewN n):=⟨h.os,h.tape,h.output,h.size,h.block⟩
theorem PW {B:Nat} {w w1 w2:World} (h:Below B w w1) (hB:B≤w1.heap.size) (k:Below w1.heap.size w1 w2):Below B w w2:=
 h.trans ⟨k.os,k.tape,k.output,k.size,fun i hi=>k.block i (Nat.lt_of_lt_of_le hi hB)⟩
theorem F4 {w w1:World} (h:Below w.heap.size w w1) (row:Option Nat):w.grownBy w1 row:=⟨h.os,h.tape,h.output,h.size,fun i hi _=>h.block i hi⟩
theorem xX {w w1:World} (h:Below w.heap.size w w1) {a:Addr} {v:Value} (hc:w.cell? a=some v):w1.cell? a=some v:=(h.cell (World.block_lt_of_cell? w a hc)).trans hc
theorem add_plain (g j:Nat):(⟨g,0,none⟩:Addr).add j=⟨g,j,none⟩:=by unfold Addr.add;split <;> simp_all
def sR (w:World) (k:IntKind) (A:Option Addr) (n:Nat) (xs:List Int):Prop:=
 xs.length=n∧n≤9223372036854775807∧(0 < n→ ∃ad,A=some ad∧ ∀j,j < n→w.cell? (ad.add j)=some (.int k (xs.getD j 0)))
theorem sR.at_ {w:World} {k:IntKind} {A:Option Addr} {n:Nat} {xs:List Int} (h:sR w k A n xs) (i:Int) (h0:0≤i) (h1:i < n): ∃ad,A=some ad∧w.cell? (ad.add i.toNat)=some (.int k (rd xs i)):=by
 obtain⟨ad,e,hc⟩:=h.2.2 (by omega)
 exact⟨ad,e,hc _ (by omega)⟩
theorem sR.below {w w1:World} {k:IntKind} {A:Option Addr} {n:Nat} {xs:List Int} (h:sR w k A n xs) (hb:Below w.heap.size w w1):sR w1 k A n xs:=
 ⟨h.1,h.2.1,fun hn=>by
  obtain⟨ad,e,hc⟩:=h.2.2 hn
  exact⟨ad,e,fun j hj=>xX hb (hc j hj)⟩⟩
theorem agZ (W:World) (base:Nat) (e:TypeId) (size:Nat):W.ownsRow base e size (.slice none 0 0) 0 []:=⟨by simp, .inl ⟨rfl,rfl⟩⟩
theorem yY {w:World} {base:Nat} {e:TypeId} {size n:Nat} {v:Value} {xs:List Value} (h:w.ownsRow base e size v n xs) (k:Nat) (hk:v.ownBlock=some k):base≤k:=by
 rcases h.2 with ⟨rfl,_⟩ | ⟨g,cap,cur,rfl,hb,_⟩
 ·simp [Value.ownBlock] at hk
 ·have:g=k:=by simpa [Value.ownBlock] using hk
  omega
theorem abd {w:World} {base:Nat} {e:TypeId} {size n:Nat} {v:Value} {xs:List Value} (h:w.ownsRow base e size v n xs) (k:Nat) (hk:v.ownBlock=some k):k < w.heap.size:=by
 rcases h.2 with ⟨rfl,_⟩ | ⟨g,cap,cur,rfl,hb,hh,_⟩
 ·simp [Value.ownBlock] at hk
 ·have:g=k:=by simpa [Value.ownBlock] using hk
  subst this
  exact(Array.getElem?_eq_some_iff.1 hh).1
theorem U0 {w w1:World} {base:Nat} {e:TypeId} {size n:Nat} {v:Value} {xs:List Value} (h:w.ownsRow base e size v n xs) (hb:Below w.heap.size w w1):w1.ownsRow base e size v n xs:=
 h.kept (F4 hb none) (by cases v.ownBlock <;> simp)
theorem abb {w w1:World} {base:Nat} {e:TypeId} {size n:Nat} {v:Value} {xs:List Value} (h:w.ownsRow base e size v n xs) {row:Option Nat} (hg:w.grownBy w1 row) (hne:v.ownBlock=none∨v.ownBlock≠row):w1.ownsRow base e size v n xs:=h.kept hg hne
theorem aa9 {w:World} {base n:Nat} {e:TypeId} {size:Nat} {v:Value} {xs:List Value} (h:w.ownsRow base e size v n xs): ∃A c,v= .slice A n c:=by
 rcases h.2 with ⟨rfl,rfl⟩ | ⟨g,cap,cur,rfl,_⟩
 ·exact⟨none,0,rfl⟩
 ·exact⟨_,cap,rfl⟩
section
variable {P:Program} {ops:Array Oper} {rest:List Oper} {o:Oper} {a:Act} {Q:Exit→Act→World→Prop}
end
section
variable {P:Program}
end
section
variable {P:Program} {ops:Array Oper} {rest:List Oper} {o:Oper} {a:Act} {Q:Exit→Act→World→Prop}
end
theorem sR.Zv {w:World} {k:IntKind} {A:Option Addr} {n:Nat} {xs:List Int} (h:sR w k A n xs) (i:Nat) (hi:i≤n):sR w k A i (xs.take i):=by
 refine⟨by rw [List.length_take,h.1];omega,by have:=h.2.1;omega,fun hp=>?_⟩
 obtain⟨ad,e,hc⟩:=h.2.2 (by omega)
 refine⟨ad,e,fun j hj=>?_⟩
 rw [hc j (by omega)]
 simp [List.getD_eq_getElem?_getD,hj]
def zI {α:Type} (a b:Option α):Prop:= ∀r,a=some r→b=some r
theorem zI.refl {α:Type} (a:Option α):zI a a:=fun _ h=>h
theorem zI.none {α:Type} (b:Option α):zI Option.none b:=fun _ h=>by cases h
theorem zI.trans {α:Type} {a b c:Option α} (h:zI a b) (k:zI b c):zI a c:=fun r hr=>k r (h r hr)
theorem zI.bind {α β:Type} {a a':Option α} {f f':α→Option β} (h:zI a a') (k: ∀x,zI (f x) (f' x)):zI (a.bind f) (a'.bind f'):=by
 intro r hr
 obtain⟨x,hx,hf⟩:=Option.bind_eq_some_iff.1 hr
 exact Option.bind_eq_some_iff.2 ⟨x,h x hx,k x r hf⟩
theorem zI.map {α β:Type} {a a':Option α} (f:α→β) (h:zI a a'):zI (a.map f) (a'.map f):=by
 intro r hr
 obtain⟨x,hx,hf⟩:=Option.map_eq_some_iff.1 hr
 exact Option.map_eq_some_iff.2 ⟨x,h x hx,hf⟩
theorem JE {α:Type} {g:Nat→Option α} (h: ∀k,zI (g k) (g (k+1))) (k:Nat): ∀j,zI (g k) (g (k+j))
 | 0=>zI.refl _
 | j+1=>(JE h k j).trans (h (k+j))
theorem IW {α:Type} {g:Nat→Option α} (h: ∀k,zI (g k) (g (k+1))) {k k':Nat} (hk:k≤k') {r:α} (hr:g k=some r):g k'=some r:=by
 have:=JE h k (k' - k) r hr
 rwa [Nat.add_sub_cancel' hk] at this
theorem together {α β:Type} {g:Nat→Option α} {f:Nat→Option β} (hg: ∀k,zI (g k) (g (k+1))) (hf: ∀k,zI (f k) (f (k+1))) {r:α} {q:β} (h: ∃k,g k=some r) (h': ∃k,f k=some q): ∃k,g k=some r∧f k=some q:=by
 obtain⟨k,hk⟩:=h
 obtain⟨k',hk'⟩:=h'
 exact⟨max k k',IW hg (Nat.le_max_left _ _) hk,IW hf (Nat.le_max_right _ _) hk'⟩
def mV {α:Type} (R:α→List Value→Prop) (size:Nat) (ps:List α) (cs:List Value):Prop:=
 cs.length=ps.length*size∧ ∀j p,ps[j]?=some p→R p ((cs.drop (j*size)).take size)
theorem mV.none {α:Type} (R:α→List Value→Prop) (size:Nat):mV R size [] []:=⟨by simp,fun j p h=>by simp at h⟩
theorem mV.snoc {α:Type} {R:α→List Value→Prop} {size:Nat} {ps:List α} {cs c:List Value} {p:α} (h:mV R size ps cs) (hp:R p c) (hc:c.length=size):mV R size (ps++ [p]) (cs++c):=by
 refine⟨by rw [List.length_append,h.1,hc,List.length_append,List.length_singleton,Nat.add_mul,Nat.one_mul],fun j q hq=>?_⟩
 rcases Nat.lt_or_ge j ps.length with hj | hj
 ·rw [List.getElem?_append_left hj] at hq
  have h1:j*size+size≤cs.length:=by rw [h.1, ← Nat.succ_mul];exact Nat.mul_le_mul_right _ hj
  have h2:=h.2 j q hq
  rw [List.drop_append_of_le_length (by omega),List.take_append_of_le_length (by rw [List.length_drop];omega)]
  exact h2
 ·have hj':j=ps.length:=by
   have:=(List.getElem?_eq_some_iff.1 hq).1
   rw [List.length_append,List.length_singleton] at this
   omega
  subst hj'
  have hq':p=q:=by simpa using hq
  subst hq'
  rw [← h.1,List.drop_left, ← hc,List.take_length]
  exact hp
theorem mV.wD {α:Type} {R R':α→List Value→Prop} {size:Nat} {ps:List α} {cs:List Value} (h:mV R size ps cs) (hR: ∀p c,R p c→R' p c):mV R' size ps cs:=⟨h.1,fun j p hj=>hR _ _ (h.2 j p hj)⟩
def sQ {α:Type} (R:α→List Value→Prop) (size:Nat) (w:World) (A:Option Addr) (n:Nat) (ps:List α):Prop:=
 ps.length=n∧n≤9223372036854775807∧(0 < n→ ∃ad,A=some ad∧ ∀j p,ps[j]?=some p→ ∃c,c.length=size∧R p c∧ ∀i u,c[i]?=some u→w.cell? (ad.add (j*size+i))=some u)
theorem sQ.anP {α:Type} {R:α→List Value→Prop} {size:Nat} {w:World} {A:Option Addr} {n:Nat} {ps:List α} (h:sQ R size w A n ps) (d:α) (i:Int) (h0:0≤i) (h1:i < n):
  ∃ad c,A=some ad∧c.length=size∧R (ps.getD i.toNat d) c∧ ∀j u,c[j]?=some u→w.cell? (ad.add (i.toNat*size+j))=some u:=by
 obtain⟨ad,e,hc⟩:=h.2.2 (by omega)
 have hl:i.toNat < ps.length:=by have:=h.1;omega
 obtain⟨c,hs,hr,hcell⟩:=hc i.toNat _ (List.getElem?_eq_getElem hl)
 refine⟨ad,c,e,hs,?_,hcell⟩
 rw [List.getD_eq_getElem?_getD,List.getElem?_eq_getElem hl]
 exact hr
theorem sQ.wD {α:Type} {R R':α→List Value→Prop} {size:Nat} {w w1:World} {A:Option Addr} {n:Nat} {ps:List α} (h:sQ R size w A n ps) (hb:Below w.heap.size w w1) (hR: ∀p c,R p c→R' p c):sQ R' size w1 A n ps:=
 ⟨h.1,h.2.1,fun hn=>by
  obtain⟨ad,e,hc⟩:=h.2.2 hn
  refine⟨ad,e,fun j p hj=>?_⟩
  obtain⟨c,hs,hr,hcell⟩:=hc j p hj
  exact⟨c,hs,hR _ _ hr,fun i u hu=>xX hb (hcell i u hu)⟩⟩
theorem RT {α:Type} {R:α→List Value→Prop} {w:World} {base n size:Nat} {e:TypeId} {v:Value} {ps:List α} {cs:List Value} (h:w.ownsRow base e size v n cs) (hR:mV R size ps cs) (hn:ps.length=n):
  ∃A c,v= .slice A n c∧sQ R size w A n ps:=by
 rcases Nat.eq_zero_or_pos n with h0 | h0
 ·rcases h.2 with ⟨rfl,rfl⟩ | ⟨g,cap,cur,rfl,_⟩
  ·exact⟨none,0,rfl,hn,by omega,fun hp=>absurd hp (by omega)⟩
  ·exact⟨_,cap,rfl,hn,by omega,fun hp=>absurd hp (by omega)⟩
 ·obtain⟨g,cap,rfl,_,_⟩:=h.form h0
  have hm:n≤9223372036854775807:=by
   rcases h.2 with ⟨_,h1⟩ | ⟨g',cap',cur,he,_,_,h1,h2,_⟩
   ·omega
   ·simp only [maxLen] at h2
    omega
  refine⟨_,cap,rfl,hn,hm,fun _=>⟨_,rfl,fun j p hj=>⟨(cs.drop (j*size)).take size,?_,hR.2 j p hj,fun i u hu=>?_⟩⟩⟩
  ·have hjl:=(List.getElem?_eq_some_iff.1 hj).1
   have h1:j*size+size≤cs.length:=by rw [hR.1, ← Nat.succ_mul];exact Nat.mul_le_mul_right _ hjl
   rw [List.length_take,List.length_drop]
   omega
  ·refine h.cells (g:=g) rfl _ u ?_
   rw [List.getElem?_take] at hu
   split at hu
   ·rw [List.getElem?_drop] at hu
    exact hu
   ·cases hu
theorem ab7 (ad:Addr) (m j:Nat) (hj:0 < j):ad.add (m+j)=⟨(ad.add m).block,(ad.add m).off+j,none⟩:=by
 unfold Addr.add
 by_cases hm:m=0
 ·subst hm
  simp [Nat.ne_of_gt hj]
 ·simp [hm,Nat.add_assoc]
section
variable {P:Program} {ops:Array Oper} {rest:List Oper} {o:Oper} {a:Act} {Q:Exit→Act→World→Prop}
theorem Cl {w0 W:World} (base:Nat) (hgd:o.guard=none) (s x:Operand) (t e:TypeId) (z:Value) (size bytes:Nat)
  (ho:o.op= .call { callee:= .builtin .append,args:= #[s,x],argTypes:= #[t,t]})
  (ht:P.underlying t=some (.slice e)) (hinfo:(P.info? e).map (fun i=>(i.zero,i.size,i.bytes))=some (some z,size,bytes)) (hz:z.cells.size=size) (hs0:0 < size) (hb0:0 < bytes)
  (v:Value) (n:Nat) (xs ys:List Value) (hs:a.eval s=v) (hx:a.eval x= .slice (some ⟨W.heap.size,0,none⟩) 1 1) (hys:ys.length=size) (h1: ∀u ∈ ys,u.oneCell'=true)
  (HO:W.ownsRow base e size v n xs) (HB:Below base w0 W) (hbase:base≤W.heap.size) (hl:(n+1)*bytes≤140737488355328)
  (h: ∀v1 w1,w1.ownsRow base e size v1 (n+1) (xs++ys)→Below base w0 w1→W.grownBy w1 v.ownBlock→(v1.ownBlock=v.ownBlock∨ ∃b,v1.ownBlock=some b∧W.heap.size≤b)→wpList P ops Q rest (a.put o.dst v1) w1):
  wpList P ops Q (o::rest) a (W.alloc (.cells ys.toArray e)):=by
 obtain⟨i0,hi,hzz⟩:=Option.map_eq_some_iff.1 hinfo
 simp only [Prod.mk.injEq] at hzz
 obtain⟨hz0,hz1,hz2⟩:=hzz
 have hlen:n+1≤140737488355328:=Nat.le_trans (Nat.le_mul_of_pos_right _ hb0) hl
 refine wpList_append_own_at (W.alloc (.cells ys.toArray e)) hgd s x t ho base e i0 z size bytes ht hi hz0 hz1 hz2 hz hs0 v n xs hs (HO.alloc _) ⟨W.heap.size,0,none⟩ 1 1 ys hx (by rw [hys];simp)
  (by simpa using World.news_of_block (cs:=ys.toArray) (t:=e) (fr:=(0,0)) (heap_alloc_new W (.cells ys.toArray e))) h1 (by simp only [maxLen];omega) hl (by simp;omega) ?_
 intro v1 w1 hown hg _ hat
 refine h v1 w1 hown ((HB.alloc hbase _).grown hg (by simp;omega) (yY HO)) (World.grownBy.trans (World.grownBy_alloc W _ _) hg) ?_
 rcases hat with hat | hat
 ·exact .inl hat
 ·exact .inr ⟨_,hat,by simp⟩
end
theorem Fx {w:World} {base:Nat} {e t:TypeId} {size n g:Nat} {v:Value} {xs:List Value} {cs:Array Value} (h:w.ownsRow base e size v n xs) (hg:w.heap[g]?=some (.cells cs t (0,0))) (hne:e≠t):some g≠v.ownBlock:=by
 rcases h.2 with ⟨rfl,_⟩ | ⟨g',cap,cur,rfl,_,hh,_⟩
 ·simp [Value.ownBlock]
 ·intro he
  have:g=g':=by simpa [Value.ownBlock] using he
  subst this
  rw [hg] at hh
  injection hh with hh
  injection hh with _ ht
  exact hne ht.symm
theorem XQ {w:World} {base:Nat} {e:TypeId} {size n:Nat} {v:Value} {xs:List Value} (h:w.ownsRow base e size v n xs) {p:Addr} (hne:some p.block≠v.ownBlock) (u:Value):(w.setCell p u).ownsRow base e size v n xs:=by
 obtain⟨h1,h2⟩:=h
 refine⟨h1,?_⟩
 rcases h2 with h2 | ⟨g,cap,cur,rfl,hg,hh,r⟩
 ·exact .inl h2
 ·exact .inr ⟨g,cap,cur,rfl,hg,by rw [Below.heap_setCell _ _ _ _ (fun e=>hne (by rw [e];rfl))];exact hh,r⟩
theorem Js {w:World} {g:Nat} {t:TypeId} {cs:Array Value} (h:w.heap[g]?=some (.cells cs t (0,0))) (i:Nat) (u:Value):(w.setCell ⟨g,i,none⟩ u).heap[g]?=some (.cells (cs.setIfInBounds i u) t (0,0)):=by
 simp [World.setCell,Array.getElem?_modify,h]
theorem vJ {w:World} {g:Nat} {t:TypeId} {cs:Array Value} (h:w.heap[g]?=some (.cells cs t (0,0))) {p:Addr} (hp:g≠p.block) (u:Value):(w.setCell p u).heap[g]?=some (.cells cs t (0,0)):=(Below.heap_setCell w p u g hp).trans h
theorem pq {w:World} {g:Nat} {o:Obj} (h:w.heap[g]?=some o):g < w.heap.size:=(Array.getElem?_eq_some_iff.1 h).1
theorem bp {w:World} {g:Nat} {t:TypeId} {cs:Array Value} (h:w.heap[g]?=some (.cells cs t (0,0))) (i:Nat):w.cell? ⟨g,i,none⟩=cs[i]?:=cell_of_row w g i cs t (0,0) h
theorem gE {w:World} {g:Nat} {t:TypeId} {cs:Array Value} (h:w.heap[g]?=some (.cells cs t (0,0))) (i:Nat):w.frozen? ⟨g,i,none⟩=false:=by simp [World.frozen?,h]
theorem m8 {w w1:World} {g:Nat} {o:Obj} {row:Option Nat} (h:w.heap[g]?=some o) (hg:w.grownBy w1 row) (hne:some g≠row):w1.heap[g]?=some o:=(hg.block g (pq h) hne).trans h
def mL (w w':World) (g:Nat) (row:Option Nat):Prop:=w.heap.size≤w'.heap.size∧ ∀i,i < w.heap.size→i≠g→some i≠row→w'.heap[i]?=w.heap[i]?
theorem mL.refl (w:World) (g:Nat) (row:Option Nat):mL w w g row:=⟨Nat.le_refl _,fun _ _ _ _=>rfl⟩
theorem mL.Gz {w w1:World} {row:Option Nat} (h:w.grownBy w1 row) (g:Nat):mL w w1 g row:=⟨h.size,fun i hi _ hr=>h.block i hi hr⟩
theorem mL.oy {w w1:World} (h:Below w.heap.size w w1) (g:Nat) (row:Option Nat):mL w w1 g row:=⟨h.size,fun i hi _ _=>h.block i hi⟩
theorem mL.ZH {w w1:World} {g:Nat} {row:Option Nat} (h:mL w w1 g row) (j:Nat) (u:Value):mL w (w1.setCell ⟨g,j,none⟩ u) g row:=
 ⟨by simpa [World.setCell] using h.1,fun i hi hg hr=>(Below.heap_setCell w1 ⟨g,j,none⟩ u i hg).trans (h.2 i hi hg hr)⟩
theorem mL.trans {w w1 w2:World} {g:Nat} {row acY:Option Nat} (h:mL w w1 g row) (k:mL w1 w2 g acY) (hr:acY=row∨ ∃b,acY=some b∧w.heap.size≤b):mL w w2 g row:=
 ⟨Nat.le_trans h.1 k.1,fun i hi hg hn=>by
  refine(k.2 i (Nat.lt_of_lt_of_le hi h.1) hg ?_).trans (h.2 i hi hg hn)
  rcases hr with rfl | ⟨b,rfl,hb⟩
  ·exact hn
  ·intro e
   injection e with e
   omega⟩
theorem mL.blk {w w1:World} {g g':Nat} {row:Option Nat} {o:Obj} (h:mL w w1 g row) (hb:w.heap[g']?=some o) (hg:g'≠g) (hr:some g'≠row):w1.heap[g']?=some o:=(h.2 g' (pq hb) hg hr).trans hb
theorem mL.own {w w1:World} {g:Nat} {row:Option Nat} {base:Nat} {e:TypeId} {size n:Nat} {v:Value} {xs:List Value} (h:mL w w1 g row) (ho:w.ownsRow base e size v n xs) (hg:v.ownBlock≠some g) (hr:v.ownBlock=none∨v.ownBlock≠row):w1.ownsRow base e size v n xs:=by
 obtain⟨h1,h2⟩:=ho
 refine⟨h1,?_⟩
 rcases h2 with h2 | ⟨b,cap,cur,rfl,hb,hh,r⟩
 ·exact .inl h2
 ·refine .inr ⟨b,cap,cur,rfl,hb,h.blk hh ?_ ?_,r⟩
  ·intro e
   exact hg (by rw [← e];rfl)
  ·rcases hr with hr | hr
   ·simp [Value.ownBlock] at hr
   ·exact hr
def Ev {α:Type} (g:Nat→Option α) (r:α):Prop:= ∃K, ∀k,K≤k→g k=some r
theorem Ev.of {α:Type} {g:Nat→Option α} {r:α} (hg: ∀k,zI (g k) (g (k+1))) {k:Nat} (h:g k=some r):Ev g r:=⟨k,fun _ hk=>IW hg hk h⟩
theorem Ev.now {α:Type} (r:α):Ev (fun _=>some r) r:=⟨0,fun _ _=>rfl⟩
theorem Ev.rounds {α:Type} {g:Nat→Option α} {r:α} (h:Ev g r): ∃k,g k=some r:=by
 obtain⟨K,h⟩:=h
 exact⟨K,h K (Nat.le_refl _)⟩
theorem Ev.bind {α β:Type} {g:Nat→Option α} {f:Nat→α→Option β} {a:α} {r:β} (h:Ev g a) (k:Ev (fun n=>f n a) r):Ev (fun n=>(g n).bind (f n)) r:=by
 obtain⟨K,h⟩:=h
 obtain⟨K',k⟩:=k
 refine⟨max K K',fun n hn=>?_⟩
 have h1:=h n (by omega)
 have h2:=k n (by omega)
 simp only [h1,Option.bind_some]
 exact h2
theorem Ev.step {α:Type} {g f:Nat→Option α} {r:α} (h: ∀k,g (k+1)=f k) (k:Ev f r):Ev g r:=by
 obtain⟨K,k⟩:=k
 refine⟨K+1,fun n hn=>?_⟩
 obtain⟨m,rfl⟩: ∃m,n=m+1:=⟨n - 1,by omega⟩
 rw [h]
 exact k m (by omega)
theorem Ev.congr {α:Type} {g f:Nat→Option α} {r:α} (h: ∀k,g k=f k) (k:Ev f r):Ev g r:=by
 obtain⟨K,k⟩:=k
 exact⟨K,fun n hn=>(h n).trans (k n hn)⟩
section
variable {P:Program} {ops:Array Oper} {o:Oper} {a:Act} {Q:Exit→Act→World→Prop} {K:Act→World→Prop}
theorem Jv {w0 W:World} (base:Nat) (hw:Region.wanted o (yielded ops a.tmps)=true) (s x:Operand) (t e:TypeId) (z:Value) (size bytes:Nat)
  (ho:o.op= .call { callee:= .builtin .append,args:= #[s,x],argTypes:= #[t,t]})
  (ht:P.underlying t=some (.slice e)) (hinfo:(P.info? e).map (fun i=>(i.zero,i.size,i.bytes))=some (some z,size,bytes)) (hz:z.cells.size=size) (hs0:0 < size) (hb0:0 < bytes)
  (v:Value) (n:Nat) (xs ys:List Value) (hs:a.eval s=v) (hx:a.eval x= .slice (some ⟨W.heap.size,0,none⟩) 1 1) (hys:ys.length=size) (h1: ∀u ∈ ys,u.oneCell'=true)
  (HO:W.ownsRow base e size v n xs) (HB:Below base w0 W) (hbase:base≤W.heap.size) (hl:(n+1)*bytes≤140737488355328)
  (h: ∀v1 w1,w1.ownsRow base e size v1 (n+1) (xs++ys)→Below base w0 w1→W.grownBy w1 v.ownBlock→(v1.ownBlock=v.ownBlock∨ ∃b,v1.ownBlock=some b∧W.heap.size≤b)→K (a.put o.dst v1) w1):
  if Region.wanted o (yielded ops a.tmps)=true then Oper.wp P o a (W.alloc (.cells ys.toArray e)) K Q else K (a.put o.dst undef) (W.alloc (.cells ys.toArray e)):=by
 obtain⟨i0,hi,hzz⟩:=Option.map_eq_some_iff.1 hinfo
 simp only [Prod.mk.injEq] at hzz
 obtain⟨hz0,hz1,hz2⟩:=hzz
 have hlen:n+1≤140737488355328:=Nat.le_trans (Nat.le_mul_of_pos_right _ hb0) hl
 rw [if_pos hw]
 obtain⟨v1,w1,hr,hown,hg,_,hat⟩:=run_append_own_at (P:=P) (W.alloc (.cells ys.toArray e)) base t o.type e i0 z size bytes ht hi hz0 hz1 hz2 hz hs0 v n xs (HO.alloc _) ⟨W.heap.size,0,none⟩ 1 1 ys (by rw [hys];simp)
  (by simpa using World.news_of_block (cs:=ys.toArray) (t:=e) (fr:=(0,0)) (heap_alloc_new W (.cells ys.toArray e))) h1 (by simp only [maxLen];omega) hl (by simp;omega)
 unfold Oper.wp execOp
 simp only [ho,resolve,invoke,builtin,Sem.run_bind,Sem.run_pure,Result.andThen_ok,List.map_toArray,List.map_cons,List.map_nil,hs,hx,hr]
 refine h v1 w1 hown ((HB.alloc hbase _).grown hg (by simp;omega) (yY HO)) (World.grownBy.trans (World.grownBy_alloc W _ _) hg) ?_
 rcases hat with hat | hat
 ·exact .inl hat
 ·exact .inr ⟨_,hat,by simp⟩
end
theorem ZW {w:World} {base base':Nat} {e:TypeId} {size n:Nat} {v:Value} {xs:List Value} (h:w.ownsRow base e size v n xs) (hb:base'≤base):w.ownsRow base' e size v n xs:=by
 obtain⟨h1,h2⟩:=h
 refine⟨h1,?_⟩
 rcases h2 with h2 | ⟨g,cap,cur,rfl,hg,r⟩
 ·exact .inl h2
 ·exact .inr ⟨g,cap,cur,rfl,Nat.le_trans hb hg,r⟩
section
variable {α:Type} {enc:α→Value} {d:α}
def s7 (enc:α→Value) (xs:List α):List Value:=xs.map enc
def Fb (d:α) (xs:List α) (i:Int):α:=xs.getD i.toNat d
theorem JI (xs:List α):(s7 enc xs).length=xs.length:=by simp [s7]
theorem VJ (xs:List α) (j:Nat) (h:j < xs.length):(s7 enc xs)[j]?=some (enc (xs.getD j d)):=by
 simp [s7,List.getElem?_eq_getElem h,List.getD_eq_getElem?_getD]
def sK (enc:α→Value) (d:α) (w:World) (A:Option Addr) (n:Nat) (xs:List α):Prop:=
 xs.length=n∧n≤9223372036854775807∧(0 < n→ ∃ad,A=some ad∧ ∀j,j < n→w.cell? (ad.add j)=some (enc (xs.getD j d)))
theorem sK.at_ {w:World} {A:Option Addr} {n:Nat} {xs:List α} (h:sK enc d w A n xs) (i:Int) (h0:0≤i) (h1:i < n): ∃ad,A=some ad∧w.cell? (ad.add i.toNat)=some (enc (Fb d xs i)):=by
 obtain⟨ad,e,hc⟩:=h.2.2 (by omega)
 exact⟨ad,e,hc _ (by omega)⟩
theorem sK.below {w w1:World} {A:Option Addr} {n:Nat} {xs:List α} (h:sK enc d w A n xs) (hb:Below w.heap.size w w1):sK enc d w1 A n xs:=
 ⟨h.1,h.2.1,fun hn=>by
  obtain⟨ad,e,hc⟩:=h.2.2 hn
  exact⟨ad,e,fun j hj=>xX hb (hc j hj)⟩⟩
theorem sK.Zv {w:World} {A:Option Addr} {n:Nat} {xs:List α} (h:sK enc d w A n xs) (i:Nat) (hi:i≤n):sK enc d w A i (xs.take i):=by
 refine⟨by rw [List.length_take,h.1];omega,by have:=h.2.1;omega,fun hp=>?_⟩
 obtain⟨ad,e,hc⟩:=h.2.2 (by omega)
 refine⟨ad,e,fun j hj=>?_⟩
 rw [hc j (by omega)]
 simp [List.getD_eq_getElem?_getD,hj]
theorem abe {W:World} {base g n cap:Nat} {e:TypeId} {xs:List α} (h:W.ownsRow base e 1 (.slice (some ⟨g,0,none⟩) n cap) n (s7 enc xs)) (i:Int) (h0:0≤i) (h1:i < n):
  W.cell? ⟨g,i.toNat,none⟩=some (enc (Fb d xs i))∧W.frozen? ⟨g,i.toNat,none⟩=false:=by
 have hl:xs.length=n:=by have:=h.1;simp [s7] at this;exact this
 constructor
 ·have hc:=h.cells (g:=g) rfl i.toNat _ (VJ (d:=d) xs i.toNat (by omega))
  rwa [add_plain] at hc
 ·rcases h.2 with ⟨h',_⟩ | ⟨g',cap',cur,h',_,hh,_⟩
  ·cases h'
  ·have:g=g':=by injection h' with h';injection h' with h';injection h' with h'
   subst this
   simp [World.frozen?,hh]
theorem U3 {W:World} {base g n cap:Nat} {e:TypeId} {xs:List α} (h:W.ownsRow base e 1 (.slice (some ⟨g,0,none⟩) n cap) n (s7 enc xs)) (i:Int) (x:α):
  (W.setCell ⟨g,i.toNat,none⟩ (enc x)).ownsRow base e 1 (.slice (some ⟨g,0,none⟩) n cap) n (s7 enc (xs.set i.toNat x))∧W.grownBy (W.setCell ⟨g,i.toNat,none⟩ (enc x)) (some g):=by
 have hs:=h.stored i.toNat (enc x)
 have he:(s7 enc xs).set i.toNat (enc x)=s7 enc (xs.set i.toNat x):=by simp [s7,List.map_set]
 rwa [he] at hs
end
section
variable {α:Type} {P:Program} {ops:Array Oper} {rest:List Oper} {o:Oper} {a:Act} {Q:Exit→Act→World→Prop}
theorem Hv {w0 W:World} (enc:α→Value) (d:α) (base:Nat) (hgd:o.guard=none) (s x:Operand) (t e:TypeId) (z:Value) (bytes:Nat)
  (ho:o.op= .call { callee:= .builtin .append,args:= #[s,x],argTypes:= #[t,t]})
  (ht:P.underlying t=some (.slice e)) (hinfo:(P.info? e).map (fun i=>(i.zero,i.size,i.bytes))=some (some z,1,bytes)) (hz:z.cells.size=1) (hb0:0 < bytes) (h1: ∀x:α,(enc x).oneCell'=true)
  (v:Value) (xs ys:List α) (A:Option Addr) (m c:Nat) (hs:a.eval s=v) (hx:a.eval x= .slice A m c)
  (HO:W.ownsRow base e 1 v xs.length (s7 enc xs)) (HR:sK enc d W A m ys) (HB:Below base w0 W) (hbase:base≤W.heap.size) (hl:(xs.length+m)*bytes≤140737488355328)
  (h: ∀v1 w1,w1.ownsRow base e 1 v1 (xs++ys).length (s7 enc (xs++ys))→Below base w0 w1→W.grownBy w1 v.ownBlock→(v1.ownBlock=v.ownBlock∨ ∃b,v1.ownBlock=some b∧W.heap.size≤b)→wpList P ops Q rest (a.put o.dst v1) w1):
  wpList P ops Q (o::rest) a W:=by
 obtain⟨i0,hi,hzz⟩:=Option.map_eq_some_iff.1 hinfo
 simp only [Prod.mk.injEq] at hzz
 obtain⟨hz0,hz1,hz2⟩:=hzz
 have hm:ys.length=m:=HR.1
 have hlen:xs.length+m≤140737488355328:=Nat.le_trans (Nat.le_mul_of_pos_right _ hb0) hl
 have hrun: ∃v1 w1,(Builtin.append_ #[t,t] o.type #[v, .slice A m c]).run P W= .ok v1 w1∧w1.ownsRow base e 1 v1 (xs++ys).length (s7 enc (xs++ys))∧W.grownBy w1 v.ownBlock∧(v1.ownBlock=v.ownBlock∨v1.ownBlock=some W.heap.size):=by
  rcases A with _ | ad
  ·have h0:m=0:=by
    rcases Nat.eq_zero_or_pos m with h0 | h0
    ·exact h0
    ·obtain⟨ad,h,_⟩:=HR.2.2 h0
     cases h
   subst h0
   obtain rfl:ys= []:=List.eq_nil_of_length_eq_zero hm
   refine⟨v,W,?_,by simpa using HO,World.grownBy.refl W _, .inl rfl⟩
   rcases HO.2 with ⟨rfl,hn⟩ | ⟨g,cap,cur,rfl,_,_,hnc,_⟩
   ·simp [Builtin.append_,run_underlying ht,sizeOf,typeInfo,hi,Builtin.lenOf,Builtin.firstCells]
   ·simp [Builtin.append_,run_underlying ht,sizeOf,typeInfo,hi,Builtin.lenOf,Builtin.firstCells,hnc,storeCells]
  ·have hcells: ∀j u,(s7 enc ys)[j]?=some u→W.cell? (ad.add j)=some u:=by
    intro j u hu
    have hj:j < ys.length:=by
     rcases Nat.lt_or_ge j ys.length with h | h
     ·exact h
     ·simp [s7,List.getElem?_eq_none h] at hu
    obtain⟨ad',h',hc⟩:=HR.2.2 (by omega)
    injection h' with h'
    subst h'
    rw [VJ (d:=d) ys j hj] at hu
    rw [← hu]
    exact hc j (by omega)
   obtain⟨v1,w1,hr,h2,h3,_,h5⟩:=run_append_own_at (P:=P) W base t o.type e i0 z 1 bytes ht hi hz0 hz1 hz2 hz (by omega) v xs.length (s7 enc xs) HO ad m c (s7 enc ys) (by simp [s7,hm]) hcells
    (by intro u hu;simp only [s7,List.mem_map] at hu;obtain⟨q,_,rfl⟩:=hu;exact h1 q) (by simp only [maxLen];omega) hl hbase
   exact⟨v1,w1,hr,by simpa [s7,hm] using h2,h3,h5⟩
 obtain⟨v1,w1,hr,hown,hg,hat⟩:=hrun
 refine wpList_plain hgd fun K hK=>?_
 unfold Oper.wp execOp
 simp only [ho,resolve,invoke,builtin,Sem.run_bind,Sem.run_pure,Result.andThen_ok,List.map_toArray,List.map_cons,List.map_nil,hs,hx,hr]
 refine hK _ _ (h v1 w1 hown (HB.grown hg hbase (yY HO)) hg ?_)
 rcases hat with hat | hat
 ·exact .inl hat
 ·exact .inr ⟨_,hat,Nat.le_refl _⟩
end
theorem mY {w:World} {g:Nat} {o:Obj} (h:w.heap[g]?=some o) (o':Obj):(w.alloc o').heap[g]?=some o:=(Below.heap_alloc w o' g (pq h)).trans h
theorem mI {w:World} {g:Nat} {o:Obj} (h:w.heap[g]?=some o):w.drew.heap[g]?=some o:=h
theorem tJ {w:World} {g:Nat} {o:Obj} (h:w.heap[g]?=some o) (n:Nat):(w.drewN n).heap[g]?=some o:=h
theorem ke {w w1:World} {g:Nat} {o:Obj} (h:w.heap[g]?=some o) (hb:Below w.heap.size w w1):w1.heap[g]?=some o:=(hb.block g (pq h)).trans h
theorem QT (w:World) (o:Obj):(w.alloc o).heap[w.heap.size]?=some o:=heap_alloc_new w o
section
variable {P:Program}
theorem tS {fn:Func} {p u:Tmp} {ty:TypeId} (h:fn.results= #[.cell p ty, .tmp u]) (tmps:Array Value) (w:World) (g:Nat) (t:TypeId) (cs:Array Value) (fr:Nat × Nat) (d:TypeDesc)
    (hp:tmps.getD p undef= .pointer (some ⟨g,0,none⟩)) (hg:w.heap[g]?=some (.cells cs t fr))
    (hu:P.underlying ty=some d) (hd:(match d with | .struct _ | .array _ _=>true | _=>false)=true) (hi:(P.info? ty).map (·.size)=some cs.size):
    (results fn tmps).run P w= .ok (.tuple #[.agg cs,tmps.getD u undef]) w:=by
  have hp':tmps[p]?.getD undef= .pointer (some ⟨g,0,none⟩):=by simpa using hp
  simp [results,h,hp',asAddr,run_loadVar_row w g t ty cs fr d hg hu hd hi]
end
theorem aiK {w:World} {base n m c size:Nat} {e:TypeId} {A:Option Addr} {xs:List Value} (h:w.ownsRow base e size (.slice A m c) n xs):m≤c:=by
 rcases h.2 with ⟨he,_⟩ | ⟨g,cap,cur,he,_,_,hnc,_⟩
 ·injection he with _ h2 h3
  omega
 ·injection he with _ h2 h3
  omega
def qJ {α:Type} (R:α→List Value→Prop) (e:TypeId) (size:Nat) (w:World) (base:Nat) (v:Value) (ps:List α):Prop:=
 ∃inner,w.ownsRow base e size v ps.length inner∧mV R size ps inner
section
variable {α:Type} {R R':α→List Value→Prop} {e:TypeId} {size:Nat} {w w1:World} {base:Nat} {v:Value} {ps:List α}
theorem qJ.none_ (R:α→List Value→Prop) (e:TypeId) (size:Nat) (w:World) (base:Nat):qJ R e size w base (.slice none 0 0) []:=⟨[],agZ _ _ _ _,mV.none _ _⟩
theorem qJ.wD (h:qJ R e size w base v ps) (hR: ∀p c,R p c→R' p c):qJ R' e size w base v ps:=by
 obtain⟨inner,ho,hr⟩:=h
 exact⟨inner,ho,hr.wD hR⟩
theorem qJ.below (h:qJ R e size w base v ps) (hb:Below w.heap.size w w1):qJ R e size w1 base v ps:=by
 obtain⟨inner,ho,hr⟩:=h
 exact⟨inner,U0 ho hb,hr⟩
theorem qJ.other (h:qJ R e size w base v ps) {row:Option Nat} (hg:w.grownBy w1 row) (hne:v.ownBlock=none∨v.ownBlock≠row):qJ R e size w1 base v ps:=by
 obtain⟨inner,ho,hr⟩:=h
 exact⟨inner,abb ho hg hne,hr⟩
theorem qJ.ZH (h:qJ R e size w base v ps) {g:Nat} {t:TypeId} {cells:Array Value} (hb:w.heap[g]?=some (.cells cells t (0,0))) (ht:e≠t) (j:Nat) (u:Value):qJ R e size (w.setCell ⟨g,j,none⟩ u) base v ps:=by
 obtain⟨inner,ho,hr⟩:=h
 exact⟨inner,XQ ho (Fx ho hb ht) u,hr⟩
theorem qJ.keep (h:qJ R e size w base v ps) {g:Nat} {t:TypeId} {cells:Array Value} (hb:w.heap[g]?=some (.cells cells t (0,0))) (ht:e≠t) (hk:mL w w1 g none):qJ R e size w1 base v ps:=by
 obtain⟨inner,ho,hr⟩:=h
 exact⟨inner,hk.own ho (Ne.symm (Fx ho hb ht)) (by cases v.ownBlock <;> simp),hr⟩
theorem qJ.reads (h:qJ R e size w base v ps): ∃A c,v= .slice A ps.length c∧ps.length≤c∧sQ R size w A ps.length ps:=by
 obtain⟨inner,ho,hr⟩:=h
 obtain⟨A,c,rfl,hrow⟩:=RT ho hr rfl
 exact⟨A,c,rfl,aiK ho,hrow⟩
theorem qJ.ad2 (h:qJ R e size w base v ps) {g:Nat} {t:TypeId} {cells:Array Value} (hb:w.heap[g]?=some (.cells cells t (0,0))) (ht:e≠t):some g≠v.ownBlock:=by
 obtain⟨inner,ho,hr⟩:=h
 exact Fx ho hb ht
end
section
variable {P:Program} {ops:Array Oper} {rest:List Oper} {o:Oper} {a:Act} {Q:Exit→Act→World→Prop} {α:Type} {R:α→List Value→Prop}
theorem qJ.append {w0 W:World} (base:Nat) (hgd:o.guard=none) (s x:Operand) (t e:TypeId) (z:Value) (size bytes:Nat)
  (ho:o.op= .call { callee:= .builtin .append,args:= #[s,x],argTypes:= #[t,t]})
  (ht:P.underlying t=some (.slice e)) (hinfo:(P.info? e).map (fun i=>(i.zero,i.size,i.bytes))=some (some z,size,bytes)) (hz:z.cells.size=size) (hs0:0 < size) (hb0:0 < bytes)
  (v:Value) (ps:List α) (p:α) (cs:List Value) (hs:a.eval s=v) (hx:a.eval x= .slice (some ⟨W.heap.size,0,none⟩) 1 1) (hp:R p cs) (hcs:cs.length=size) (h1: ∀u ∈ cs,u.oneCell'=true)
  (HO:qJ R e size W base v ps) (HB:Below base w0 W) (hbase:base≤W.heap.size) (hl:(ps.length+1)*bytes≤140737488355328)
  (h: ∀v1 w1,qJ R e size w1 base v1 (ps++ [p])→Below base w0 w1→W.grownBy w1 v.ownBlock→(v1.ownBlock=v.ownBlock∨ ∃b,v1.ownBlock=some b∧W.heap.size≤b)→wpList P ops Q rest (a.put o.dst v1) w1):
  wpList P ops Q (o::rest) a (W.alloc (.cells cs.toArray e)):=by
 obtain⟨inner,hown,hr⟩:=HO
 refine Cl base hgd s x t e z size bytes ho ht hinfo hz hs0 hb0 v ps.length inner cs hs hx hcs h1 hown HB hbase hl ?_
 intro v1 w1 hown1 hb1 hg1 KW
 exact h v1 w1 ⟨inner++cs,by rw [List.length_append,List.length_singleton];exact hown1,hr.snoc hp hcs⟩ hb1 hg1 KW
end
section
variable {P:Program} {ops:Array Oper} {o:Oper} {a:Act} {Q:Exit→Act→World→Prop} {K:Act→World→Prop} {α:Type} {R:α→List Value→Prop}
end
theorem sQ.abz {α:Type} {R:α→List Value→Prop} {size:Nat} {w:World} {ad:Addr} {n:Nat} {ps:List α} (h:sQ R size w (some ad) n ps):
  ∃inner,mV R size ps inner∧ ∀j u,inner[j]?=some u→w.cell? (ad.add j)=some u:=by
 have key: ∀m,m≤ps.length→ ∃inner,mV R size (ps.take m) inner∧ ∀j u,inner[j]?=some u→w.cell? (ad.add j)=some u:=by
  intro m
  induction m with
  | zero=>exact fun _=>⟨[],mV.none _ _,fun j u hu=>by simp at hu⟩
  | succ m ih=>
   intro hm
   obtain⟨inner,hr,hc⟩:=ih (by omega)
   obtain⟨ad',he,hcell⟩:=h.2.2 (by have:=h.1;omega)
   injection he with he
   subst he
   obtain⟨c,hcl,hp,hcc⟩:=hcell m _ (List.getElem?_eq_getElem (show m < ps.length by omega))
   refine⟨inner++c,?_,fun j u hu=>?_⟩
   ·rw [List.take_succ_eq_append_getElem (show m < ps.length by omega)]
    exact hr.snoc hp hcl
   ·have hil:inner.length=m*size:=by rw [hr.1,List.length_take,Nat.min_eq_left (by omega)]
    rcases Nat.lt_or_ge j inner.length with hj | hj
    ·rw [List.getElem?_append_left hj] at hu
     exact hc j u hu
    ·rw [List.getElem?_append_right hj] at hu
     have:=hcc (j - inner.length) u hu
     rwa [hil,Nat.add_sub_cancel' (by omega)] at this
 obtain⟨inner,hr,hc⟩:=key ps.length (Nat.le_refl _)
 rw [List.take_length] at hr
 exact⟨inner,hr,hc⟩
section
variable {α:Type} {P:Program}
end
section
variable {P:Program} {ops:Array Oper} {rest:List Oper} {o:Oper} {a:Act} {Q:Exit→Act→World→Prop}
end
structure Kd (α:Type) where
 sz:Nat
 E:List Nat
 K:World→α→List Value→Prop
 M:World→Nat→(Nat→Prop)→α→List Value→Prop
 tv: ∀ {w x cs},K w x cs→cs.length=sz
 sV: ∀ {w x cs},K w x cs→ ∀u ∈ cs,u.oneCell'=true
 sj: ∀ {w w1:World} {x cs},Below w.heap.size w w1→K w x cs→K w1 x cs
 qe: ∀ {w base ok x cs},M w base ok x cs→K w x cs
 oL: ∀ {w base ok ok' x cs},(∀k,ok k→ok' k)→M w base ok x cs→M w base ok' x cs
 qk: ∀ {w:World} {base ok x cs},M w base ok x cs→M w base (fun k=>ok k∧base≤k∧k < w.heap.size∧ ∃q,q ∈ E∧ ∃cells,w.heap[k]?=some (.cells cells q (0,0))) x cs
 qZ: ∀ {w w1:World} {base ok x cs},(∀k,ok k→w1.heap[k]?=w.heap[k]?)→M w base ok x cs→M w1 base ok x cs
 r9: ∀ {w base base' ok x cs},base'≤base→M w base ok x cs→M w base' ok x cs
theorem adY {w w1:World} {base:Nat} {e:TypeId} {size n:Nat} {v:Value} {xs:List Value} (h:w.ownsRow base e size v n xs) (hm: ∀k,v.ownBlock=some k→w1.heap[k]?=w.heap[k]?):w1.ownsRow base e size v n xs:=by
 obtain⟨h1,h2⟩:=h
 refine⟨h1,?_⟩
 rcases h2 with h2 | ⟨g,cap,cur,rfl,hg,hh,r⟩
 ·exact .inl h2
 ·exact .inr ⟨g,cap,cur,rfl,hg,(hm g (by simp [Value.ownBlock])).trans hh,r⟩
theorem EY {w:World} {base:Nat} {e:TypeId} {size n:Nat} {v:Value} {xs:List Value} (h:w.ownsRow base e size v n xs) (k:Nat) (hk:v.ownBlock=some k): ∃cells,w.heap[k]?=some (.cells cells e (0,0)):=by
 rcases h.2 with ⟨rfl,_⟩ | ⟨g,cap,cur,rfl,hg,hh,r⟩
 ·simp [Value.ownBlock] at hk
 ·have:g=k:=by simpa [Value.ownBlock] using hk
  subst this
  exact⟨cur,hh⟩
namespace Kd
def C {α:Type} (d:Kd α) (w:World) (A:Option Addr) (n:Nat) (xs:List α):Prop:=sQ (d.K w) d.sz w A n xs
def R {α:Type} (d:Kd α) (e:Nat) (w:World) (base:Nat) (ok:Nat→Prop) (v:Value) (xs:List α):Prop:=
 (∀k,v.ownBlock=some k→ok k)∧qJ (d.M w base (fun k=>ok k∧some k≠v.ownBlock)) e d.sz w base v xs
section
variable {α:Type} {d:Kd α} {e:Nat} {w w1:World} {base:Nat} {ok ok':Nat→Prop} {v:Value} {xs:List α}
theorem nW {A:Option Addr} {n:Nat} (h:d.C w A n xs) (hb:Below w.heap.size w w1):d.C w1 A n xs:=sQ.wD h hb (fun _ _ hp=>d.sj hb hp)
theorem qT (d:Kd α) (e:Nat) (w:World) (base:Nat) (ok:Nat→Prop):d.R e w base ok (.slice none 0 0) []:=⟨fun k hk=>by simp [Value.ownBlock] at hk,qJ.none_ _ _ _ _ _⟩
theorem fY (h:d.R e w base ok v xs) (hok: ∀k,ok k→ok' k):d.R e w base ok' v xs:=⟨fun k hk=>hok k (h.1 k hk),h.2.wD (fun _ _ hp=>d.oL (fun k hk=>⟨hok k hk.1,hk.2⟩) hp)⟩
theorem vK (h:d.R e w base ok v xs):d.R e w base (fun k=>ok k∧base≤k∧k < w.heap.size∧ ∃q,q ∈ e::d.E∧ ∃cells,w.heap[k]?=some (.cells cells q (0,0))) v xs:=by
 obtain⟨h0,inner,ho,hr⟩:=h
 refine⟨fun k hk=>?_,inner,ho,hr.wD (fun _ _ hp=>d.oL (fun k hk=>?_) (d.qk hp))⟩
 ·obtain⟨cells,hc⟩:=EY ho k hk
  exact⟨h0 k hk,yY ho k hk,abd ho k hk,e,List.mem_cons_self,cells,hc⟩
 ·obtain⟨⟨h1,h2⟩,h3,h4,q,hq,hc⟩:=hk
  exact⟨⟨h1,h3,h4,q,List.mem_cons_of_mem _ hq,hc⟩,h2⟩
theorem Gd (h:d.R e w base ok v xs) (hm: ∀k,ok k→w1.heap[k]?=w.heap[k]?):d.R e w1 base ok v xs:=by
 obtain⟨h0,inner,ho,hr⟩:=h
 exact⟨h0,inner,adY ho (fun k hk=>hm k (h0 k hk)),hr.wD (fun _ _ hp=>d.qZ (fun k hk=>hm k hk.1) hp)⟩
theorem ng {base':Nat} (h:d.R e w base ok v xs) (hb:base'≤base):d.R e w base' ok v xs:=by
 obtain⟨h0,inner,ho,hr⟩:=h
 exact⟨h0,inner,ZW ho hb,hr.wD (fun _ _ hp=>d.r9 hb hp)⟩
theorem Et (h:d.R e w base ok v xs) (hm: ∀k,ok k→k < w.heap.size→w1.heap[k]?=w.heap[k]?):d.R e w1 base ok v xs:=
 fY (Gd (vK h) (fun k hk=>hm k hk.1 hk.2.2.1)) (fun _ hk=>hk.1)
theorem aci {x:α} {cs:List Value} (h:d.M w base ok x cs) (hm: ∀k,ok k→k < w.heap.size→w1.heap[k]?=w.heap[k]?):d.M w1 base ok x cs:=
 d.oL (fun _ hk=>hk.1) (d.qZ (fun k hk=>hm k hk.1 hk.2.2.1) (d.qk h))
theorem oQ (h:d.R e w base ok v xs) (hb:Below w.heap.size w w1):d.R e w1 base ok v xs:=Et h (fun k _ hk=>hb.block k hk)
theorem Zb {x:α} {cs:List Value} (h:d.M w base ok x cs) (hb:Below w.heap.size w w1):d.M w1 base ok x cs:=aci h (fun k _ hk=>hb.block k hk)
theorem nN (h:d.R e w base ok v xs) {p:Addr} (hok: ∀k,ok k→k≠p.block) (u:Value):d.R e (w.setCell p u) base ok v xs:=Et h (fun k ho _=>Below.heap_setCell w p u k (hok k ho))
theorem wq (h:d.R e w base ok v xs) {g:Nat} (hk:mL w w1 g none) (hok: ∀k,ok k→k≠g):d.R e w1 base ok v xs:=Et h (fun k ho hlt=>hk.2 k hlt (hok k ho) (by simp))
theorem wg (h:d.R e w base ok v xs) {g t:Nat} {cells:Array Value} (hb:w.heap[g]?=some (.cells cells t (0,0))) (ht: ∀q,q ∈ e::d.E→q≠t):d.R e w base (fun k=>ok k∧k≠g) v xs:=
 fY (vK h) (fun k hk=>⟨hk.1,by
  obtain⟨_,_,_,q,hq,cells',hc⟩:=hk
  rintro rfl
  rw [hc] at hb
  injection hb with hb
  injection hb with _ hb
  exact ht q hq hb⟩)
theorem alE (h:d.R e w base ok v xs) {g t:Nat} {cells:Array Value} (hb:w.heap[g]?=some (.cells cells t (0,0))) (ht: ∀q,q ∈ e::d.E→q≠t) (j:Nat) (u:Value):d.R e (w.setCell ⟨g,j,none⟩ u) base ok v xs:=
 fY (nN (p:=⟨g,j,none⟩) (wg h hb ht) (fun _ hk=>hk.2) u) (fun _ hk=>hk.1)
theorem QX (h:d.R e w base ok v xs): ∃A c,v= .slice A xs.length c∧xs.length≤c∧d.C w A xs.length xs:=by
 obtain⟨A,c,he,hl,hr⟩:=qJ.reads h.2
 exact⟨A,c,he,hl,hr.wD (Below.refl _ _) (fun _ _ hp=>d.qe hp)⟩
theorem mE (h:d.R e w base ok v xs): ∃A c,v= .slice A xs.length c:=by
 obtain⟨A,c,he,_⟩:=QX h
 exact⟨A,c,he⟩
theorem Ju (h:d.R e w base ok v xs): ∃inner,w.ownsRow base e d.sz v xs.length inner:=by
 obtain⟨_,inner,ho,_⟩:=h
 exact⟨inner,ho⟩
theorem pJ (h:d.R e w base ok v xs) {g t:Nat} {cells:Array Value} (hb:w.heap[g]?=some (.cells cells t (0,0))) (ht:e≠t):some g≠v.ownBlock:=qJ.ad2 h.2 hb ht
end
def scalar {α:Type} (enc:α→Value) (h1: ∀x,(enc x).oneCell'=true):Kd α where
 sz:=1
 E:= []
 K:=fun _ x cs=>cs= [enc x]
 M:=fun _ _ _ x cs=>cs= [enc x]
 tv:=fun h=>by rw [h];rfl
 sV:=fun h u hu=>by
  rw [h] at hu
  rw [List.mem_singleton.1 hu]
  exact h1 _
 sj:=fun _ h=>h
 qe:=fun h=>h
 oL:=fun _ h=>h
 qk:=fun h=>h
 qZ:=fun _ h=>h
 r9:=fun _ h=>h
def int (k:IntKind):Kd Int:=scalar (Value.int k) (fun _=>rfl)
def bool:Kd Bool:=scalar Value.bool (fun _=>rfl)
def string:Kd ByteArray:=scalar Value.string (fun _=>rfl)
def slice {α:Type} (e:Nat) (d:Kd α):Kd (List α) where
 sz:=1
 E:=e::d.E
 K:=fun w xs cs=> ∃A c,cs= [.slice A xs.length c]∧xs.length≤c∧d.C w A xs.length xs
 M:=fun w base ok xs cs=> ∃v,cs= [v]∧d.R e w base ok v xs
 tv:=by
  rintro w x cs ⟨A,c,rfl,_⟩
  rfl
 sV:=by
  rintro w x cs ⟨A,c,rfl,_⟩ u hu
  rw [List.mem_singleton.1 hu]
  rfl
 sj:=by
  rintro w w1 x cs hb ⟨A,c,rfl,hl,hr⟩
  exact⟨A,c,rfl,hl,nW hr hb⟩
 qe:=by
  rintro w base ok x cs ⟨v,rfl,h⟩
  obtain⟨A,c,rfl,hl,hr⟩:=QX h
  exact⟨A,c,rfl,hl,hr⟩
 oL:=by
  rintro w base ok ok' x cs hok ⟨v,rfl,h⟩
  exact⟨v,rfl,fY h hok⟩
 qk:=by
  rintro w base ok x cs ⟨v,rfl,h⟩
  exact⟨v,rfl,vK h⟩
 qZ:=by
  rintro w w1 base ok x cs hm ⟨v,rfl,h⟩
  exact⟨v,rfl,Gd h hm⟩
 r9:=by
  rintro w base base' ok x cs hb ⟨v,rfl,h⟩
  exact⟨v,rfl,ng h hb⟩
def pair {α β:Type} (a:Kd α) (b:Kd β):Kd (α × β) where
 sz:=a.sz+b.sz
 E:=a.E++b.E
 K:=fun w x cs=> ∃c0 c1,cs=c0++c1∧a.K w x.1 c0∧b.K w x.2 c1
 M:=fun w base ok x cs=> ∃c0 c1,cs=c0++c1∧a.M w base ok x.1 c0∧b.M w base ok x.2 c1
 tv:=by
  rintro w x cs ⟨c0,c1,rfl,h0,h1⟩
  rw [List.length_append,a.tv h0,b.tv h1]
 sV:=by
  rintro w x cs ⟨c0,c1,rfl,h0,h1⟩ u hu
  rcases List.mem_append.1 hu with hu | hu
  ·exact a.sV h0 u hu
  ·exact b.sV h1 u hu
 sj:=by
  rintro w w1 x cs hb ⟨c0,c1,rfl,h0,h1⟩
  exact⟨c0,c1,rfl,a.sj hb h0,b.sj hb h1⟩
 qe:=by
  rintro w base ok x cs ⟨c0,c1,rfl,h0,h1⟩
  exact⟨c0,c1,rfl,a.qe h0,b.qe h1⟩
 oL:=by
  rintro w base ok ok' x cs hok ⟨c0,c1,rfl,h0,h1⟩
  exact⟨c0,c1,rfl,a.oL hok h0,b.oL hok h1⟩
 qk:=by
  rintro w base ok x cs ⟨c0,c1,rfl,h0,h1⟩
  refine⟨c0,c1,rfl,a.oL ?_ (a.qk h0),b.oL ?_ (b.qk h1)⟩
  ·rintro k ⟨h2,h3,h4,q,hq,hc⟩
   exact⟨h2,h3,h4,q,List.mem_append_left _ hq,hc⟩
  ·rintro k ⟨h2,h3,h4,q,hq,hc⟩
   exact⟨h2,h3,h4,q,List.mem_append_right _ hq,hc⟩
 qZ:=by
  rintro w w1 base ok x cs hm ⟨c0,c1,rfl,h0,h1⟩
  exact⟨c0,c1,rfl,a.qZ hm h0,b.qZ hm h1⟩
 r9:=by
  rintro w base base' ok x cs hb ⟨c0,c1,rfl,h0,h1⟩
  exact⟨c0,c1,rfl,a.r9 hb h0,b.r9 hb h1⟩
def iso {α β:Type} (d:Kd α) (f:β→α):Kd β where
 sz:=d.sz
 E:=d.E
 K:=fun w x cs=>d.K w (f x) cs
 M:=fun w base ok x cs=>d.M w base ok (f x) cs
 tv:=d.tv
 sV:=d.sV
 sj:=d.sj
 qe:=d.qe
 oL:=d.oL
 qk:=d.qk
 qZ:=d.qZ
 r9:=d.r9
def bot {α:Type} (sz:Nat) (E:List Nat):Kd α where
 sz:=sz
 E:=E
 K:=fun _ _ _=>False
 M:=fun _ _ _ _ _=>False
 tv:=fun h=>h.elim
 sV:=fun h=>h.elim
 sj:=fun _ h=>h
 qe:=fun h=>h
 oL:=fun _ h=>h
 qk:=fun h=>h
 qZ:=fun _ h=>h
 r9:=fun _ h=>h
def upto {α:Type} (F:Kd α→Kd α) (sz:Nat) (E:List Nat):Nat→Kd α
 | 0=>bot sz E
 | n+1=>F (upto F sz E n)
theorem agD {α:Type} {d:Kd α} {w:World} {A:Option Addr} {n:Nat} {xs:List α} (h:d.C w A n xs) (z:α) (i:Int) (h0:0≤i) (h1:i < n):
  ∃ad c,A=some ad∧c.length=d.sz∧d.K w (xs.getD i.toNat z) c∧ ∀j u,c[j]?=some u→w.cell? (ad.add (i.toNat*d.sz+j))=some u:=sQ.anP h z i h0 h1
theorem P6 {α:Type} {d:Kd α} {e base:Nat} {ok oC:Nat→Prop} {W w1:World} {v v1:Value} {xs:List α} {p:α} {inner cs:List Value} (h0: ∀k,v.ownBlock=some k→ok k) (hr:mV (d.M W base (fun k=>ok k∧some k≠v.ownBlock)) d.sz xs inner) (hp:d.M W base oC p cs) (y7: ∀k,oC k→ok k∧some k≠v.ownBlock) (rI: ∀k,W.heap.size≤k→ok k)
  (hown:w1.ownsRow base e d.sz v1 (xs.length+1) (inner++cs)) (hg:W.grownBy w1 v.ownBlock) (hat:v1.ownBlock=v.ownBlock∨ ∃b,v1.ownBlock=some b∧W.heap.size≤b):d.R e w1 base ok v1 (xs++ [p]):=by
 have hne: ∀k,some k≠v.ownBlock→k < W.heap.size→some k≠v1.ownBlock:=by
  intro k hk hlt
  rcases hat with hat | ⟨b,hb,hle⟩
  ·rw [hat];exact hk
  ·rw [hb]
   intro he
   injection he with he
   omega
 have step: ∀ {q:α} {c:List Value} {o:Nat→Prop},d.M W base o q c→(∀k,o k→ok k∧some k≠v.ownBlock)→d.M w1 base (fun k=>ok k∧some k≠v1.ownBlock) q c:=by
  intro q c o hq ho
  have h1:=d.qZ (w1:=w1) (fun k hk=>hg.block k hk.2.2.1 (ho k hk.1).2) (d.qk hq)
  exact d.oL (fun k hk=>⟨(ho k hk.1).1,hne k (ho k hk.1).2 hk.2.2.1⟩) h1
 refine⟨fun k hk=>?_,inner++cs,by rw [List.length_append,List.length_singleton];exact hown,?_⟩
 ·rcases hat with hat | ⟨b,hb,hle⟩
  ·exact h0 k (hat ▸ hk)
  ·rw [hb] at hk
   injection hk with hk
   exact rI k (by omega)
 ·exact(hr.wD (fun _ _ hq=>step hq (fun _ hk=>hk))).snoc (step hp y7) (d.tv (d.qe hp))
section
variable {P:Program} {ops:Array Oper} {rest:List Oper} {o:Oper} {a:Act} {Q:Exit→Act→World→Prop} {α:Type}
theorem qo (d:Kd α) {w0 W:World} (base:Nat) (hgd:o.guard=none) (s x:Operand) (t e:TypeId) (z:Value) (bytes:Nat)
  (ho:o.op= .call { callee:= .builtin .append,args:= #[s,x],argTypes:= #[t,t]})
  (ht:P.underlying t=some (.slice e)) (hinfo:(P.info? e).map (fun i=>(i.zero,i.size,i.bytes))=some (some z,d.sz,bytes)) (hz:z.cells.size=d.sz) (hs0:0 < d.sz) (hb0:0 < bytes)
  (v:Value) (xs:List α) (p:α) (cs:List Value) (ok oC:Nat→Prop) (hs:a.eval s=v) (hx:a.eval x= .slice (some ⟨W.heap.size,0,none⟩) 1 1) (hp:d.M W base oC p cs) (y7: ∀k,oC k→ok k∧some k≠v.ownBlock) (rI: ∀k,W.heap.size≤k→ok k)
  (HO:d.R e W base ok v xs) (HB:Below base w0 W) (hbase:base≤W.heap.size) (hl:(xs.length+1)*bytes≤140737488355328)
  (h: ∀v1 w1,d.R e w1 base ok v1 (xs++ [p])→Below base w0 w1→W.grownBy w1 v.ownBlock→(v1.ownBlock=v.ownBlock∨ ∃b,v1.ownBlock=some b∧W.heap.size≤b)→wpList P ops Q rest (a.put o.dst v1) w1):
  wpList P ops Q (o::rest) a (W.alloc (.cells cs.toArray e)):=by
 obtain⟨h0,inner,hown,hr⟩:=HO
 refine Cl base hgd s x t e z d.sz bytes ho ht hinfo hz hs0 hb0 v xs.length inner cs hs hx (d.tv (d.qe hp)) (d.sV (d.qe hp)) hown HB hbase hl ?_
 intro v1 w1 hown1 hb1 hg1 KW
 exact h v1 w1 (P6 h0 hr hp y7 rI hown1 hg1 KW) hb1 hg1 KW
end
section
variable {P:Program} {ops:Array Oper} {o:Oper} {a:Act} {Q:Exit→Act→World→Prop} {Kc:Act→World→Prop} {α:Type}
theorem uX (d:Kd α) {w0 W:World} (base:Nat) (hw:Region.wanted o (yielded ops a.tmps)=true) (s x:Operand) (t e:TypeId) (z:Value) (bytes:Nat)
  (ho:o.op= .call { callee:= .builtin .append,args:= #[s,x],argTypes:= #[t,t]})
  (ht:P.underlying t=some (.slice e)) (hinfo:(P.info? e).map (fun i=>(i.zero,i.size,i.bytes))=some (some z,d.sz,bytes)) (hz:z.cells.size=d.sz) (hs0:0 < d.sz) (hb0:0 < bytes)
  (v:Value) (xs:List α) (p:α) (cs:List Value) (ok oC:Nat→Prop) (hs:a.eval s=v) (hx:a.eval x= .slice (some ⟨W.heap.size,0,none⟩) 1 1) (hp:d.M W base oC p cs) (y7: ∀k,oC k→ok k∧some k≠v.ownBlock) (rI: ∀k,W.heap.size≤k→ok k)
  (HO:d.R e W base ok v xs) (HB:Below base w0 W) (hbase:base≤W.heap.size) (hl:(xs.length+1)*bytes≤140737488355328)
  (h: ∀v1 w1,d.R e w1 base ok v1 (xs++ [p])→Below base w0 w1→W.grownBy w1 v.ownBlock→(v1.ownBlock=v.ownBlock∨ ∃b,v1.ownBlock=some b∧W.heap.size≤b)→Kc (a.put o.dst v1) w1):
  if Region.wanted o (yielded ops a.tmps)=true then Oper.wp P o a (W.alloc (.cells cs.toArray e)) Kc Q else Kc (a.put o.dst undef) (W.alloc (.cells cs.toArray e)):=by
 obtain⟨h0,inner,hown,hr⟩:=HO
 refine Jv base hw s x t e z d.sz bytes ho ht hinfo hz hs0 hb0 v xs.length inner cs hs hx (d.tv (d.qe hp)) (d.sV (d.qe hp)) hown HB hbase hl ?_
 intro v1 w1 hown1 hb1 hg1 KW
 exact h v1 w1 (P6 h0 hr hp y7 rI hown1 hg1 KW) hb1 hg1 KW
end
theorem XK {α:Type} {enc:α→Value} (xs:List α):mV (fun(x:α) (cs:List Value)=>cs= [enc x]) 1 xs (s7 enc xs):=by
 refine⟨by simp [s7],fun j p hj=>?_⟩
 obtain⟨hl,hp⟩:=List.getElem?_eq_some_iff.1 hj
 have hl':j < (s7 enc xs).length:=by rw [JI];exact hl
 rw [Nat.mul_one,List.drop_eq_getElem_cons hl']
 simp [s7,hp]
theorem K8 {α:Type} {enc:α→Value} {h1: ∀x,(enc x).oneCell'=true} {e:Nat} {w:World} {base:Nat} {ok:Nat→Prop} {v:Value} {xs:List α} (ho:w.ownsRow base e 1 v xs.length (s7 enc xs)) (hok: ∀k,v.ownBlock=some k→ok k):(scalar enc h1).R e w base ok v xs:=⟨hok,s7 enc xs,ho,XK xs⟩
theorem Gy {α:Type} {enc:α→Value} {h1: ∀x,(enc x).oneCell'=true} {e:Nat} {w:World} {base:Nat} {ok:Nat→Prop} {v:Value} {xs:List α} (h:(scalar enc h1).R e w base ok v xs):w.ownsRow base e 1 v xs.length (s7 enc xs):=by
 obtain⟨_,inner,ho,hr⟩:=h
 have:inner=s7 enc xs:=by
  apply List.ext_getElem?
  intro j
  rcases Nat.lt_or_ge j xs.length with hj | hj
  ·have h2:=hr.2 j _ (List.getElem?_eq_getElem hj)
   have hl:j < inner.length:=by have:=hr.1;simp [scalar] at this;omega
   have h3:(inner.drop (j*1)).take 1= [enc xs[j]]:=h2
   rw [Nat.mul_one,List.drop_eq_getElem_cons hl] at h3
   have h4:inner[j]=enc xs[j]:=by
    have h5:=congrArg List.head? h3
    rw [List.take_succ_cons] at h5
    exact Option.some.inj h5
   rw [List.getElem?_eq_getElem hl,h4]
   simp [s7,List.getElem?_eq_getElem hj]
  ·have h3:inner.length=xs.length:=by have:=hr.1;simp [scalar] at this;omega
   rw [List.getElem?_eq_none (by omega),List.getElem?_eq_none (by rw [JI];omega)]
 rw [← this]
 exact ho
theorem OZ {α:Type} {enc:α→Value} {d:α} {h1: ∀x,(enc x).oneCell'=true} {w:World} {A:Option Addr} {n:Nat} {xs:List α} (h:(scalar enc h1).C w A n xs):sK enc d w A n xs:=by
 refine⟨h.1,h.2.1,fun hn=>?_⟩
 obtain⟨ad,e,hc⟩:=h.2.2 hn
 refine⟨ad,e,fun j hj=>?_⟩
 have hl:j < xs.length:=by have:=h.1;omega
 obtain⟨c,_,hK,hcell⟩:=hc j _ (List.getElem?_eq_getElem hl)
 have hK':c= [enc xs[j]]:=hK
 subst hK'
 have:=hcell 0 _ rfl
 simpa [scalar,List.getD_eq_getElem?_getD,List.getElem?_eq_getElem hl] using this
end Kd
namespace Kd
structure as4 {α β:Type} (F:Kd α→Kd β):Prop where
 sz: ∀d d':Kd α,d.sz=d'.sz→(F d).sz=(F d').sz
 K: ∀d d':Kd α,d.sz=d'.sz→(∀w x cs,d.K w x cs→d'.K w x cs)→ ∀w x cs,(F d).K w x cs→(F d').K w x cs
 M: ∀d d':Kd α,d.sz=d'.sz→(∀w base ok x cs,d.M w base ok x cs→d'.M w base ok x cs)→ ∀w base ok x cs,(F d).M w base ok x cs→(F d').M w base ok x cs
section
variable {α:Type} {F:Kd α→Kd α} {sz:Nat} {E:List Nat} {hs: ∀n,(upto F sz E n).sz=sz} {hE: ∀n q,q ∈ (upto F sz E n).E→q ∈ E}
end
end Kd
namespace Kd
theorem yI {α:Type} {d:Kd α} {e base:Nat} {ok:Nat→Prop} {W w1:World} {u v v1:Value} {xs:List α} (h:d.R e W base (fun k=>ok k∧some k≠v.ownBlock) u xs) (hg:W.grownBy w1 v.ownBlock) (hat:v1.ownBlock=v.ownBlock∨ ∃b,v1.ownBlock=some b∧W.heap.size≤b):d.R e w1 base (fun k=>ok k∧some k≠v1.ownBlock) u xs:=by
 refine fY (Gd (vK h) (fun k hk=>hg.block k hk.2.2.1 hk.1.2)) (fun k hk=>⟨hk.1.1,?_⟩)
 rcases hat with hat | ⟨b,hb,hle⟩
 ·rw [hat];exact hk.1.2
 ·rw [hb]
  intro he
  injection he with he
  have:=hk.2.2.1
  omega
theorem zT {α:Type} {d:Kd α} {e base:Nat} {ok:Nat→Prop} {w:World} {v:Value} {xs:List α} (h:d.R e w base ok v xs):(slice e d).M w base ok xs [v]:=⟨v,rfl,h⟩
end Kd
namespace Kd
section
variable {α β:Type} {d:Kd α} {d':Kd β} {e e':Nat} {w w1 W:World} {base b b':Nat} {ok ok' Yl oku:Nat→Prop} {v u:Value} {xs:List α} {ys:List β}
theorem mK (h:d.R e w base ok v xs) (o:Obj):d.R e (w.alloc o) base ok v xs:=oQ h (pG (Below.refl _ _) o)
theorem mF (h:d.R e w base ok v xs):d.R e w.drew base ok v xs:=oQ h (mH (Below.refl _ _))
theorem mJ (h:d.R e w base ok v xs) (m:Nat):d.R e (w.drewN m) base ok v xs:=oQ h (oO (Below.refl _ _) m)
theorem sY {A:Option Addr} {n:Nat} (h:d.C w A n xs) (o:Obj):d.C (w.alloc o) A n xs:=nW h (pG (Below.refl _ _) o)
theorem uc {A:Option Addr} {n:Nat} (h:d.C w A n xs):d.C w.drew A n xs:=nW h (mH (Below.refl _ _))
theorem sX {A:Option Addr} {n:Nat} (h:d.C w A n xs) (m:Nat):d.C (w.drewN m) A n xs:=nW h (oO (Below.refl _ _) m)
theorem aau (d:Kd α) (w:World):d.C w none ([]:List α).length []:=⟨rfl,by simp,fun h=>absurd h (Nat.lt_irrefl 0)⟩
theorem lU {A:Option Addr} {n c:Nat} (h:d.R e w base ok (.slice A n c) xs):n=xs.length∧n≤c∧d.C w A xs.length xs:=by
 obtain⟨A',c',he,hl,hr⟩:=QX h
 injection he with h1 h2 h3
 subst h1
 exact⟨h2,by omega,hr⟩
theorem qw (h:d.R e w base ok v xs): ∀k,v.ownBlock=some k→k < w.heap.size:=by
 obtain⟨inner,ho⟩:=Ju h
 exact abd ho
theorem o8 (h:d.R e w base ok v xs): ∀k,v.ownBlock=some k→base≤k:=by
 obtain⟨inner,ho⟩:=Ju h
 exact yY ho
theorem I0 (h:d.R e w base ok v xs) {g:Nat} (hok: ∀k,ok k→k≠g):some g≠v.ownBlock:=fun e=>hok g (h.1 g e.symm) rfl
theorem rX (h:d.R e w base ok v xs) (hp:0 < xs.length): ∃g cap,v= .slice (some ⟨g,0,none⟩) xs.length cap∧base≤g∧g < w.heap.size∧ ∃cells,w.heap[g]?=some (.cells cells e (0,0)):=by
 obtain⟨inner,ho⟩:=Ju h
 obtain⟨g,cap,he,hb,hl⟩:=ho.form hp
 obtain⟨cells,hc⟩:=EY ho g (by rw [he];simp [Value.ownBlock])
 exact⟨g,cap,he,hb,hl,cells,hc⟩
end
section
variable {w W:World} {A:Option Addr} {n:Nat}
theorem mA {k:IntKind} {xs:List Int} (h:(Kd.int k).C w A n xs) (i:Int) (h0:0≤i) (h1:i < n): ∃ad,A=some ad∧w.cell? (ad.add i.toNat)=some (.int k (rd xs i)):=
 sK.at_ (OZ (enc:=Value.int k) (d:=(0:Int)) (h1:=fun _=>rfl) h) i h0 h1
variable {α:Type} {enc:α→Value} {h1: ∀x,(enc x).oneCell'=true} {e base g cap:Nat} {ok:Nat→Prop} {xs:List α}
theorem ajM (d:α) (h:(scalar enc h1).R e W base ok (.slice (some ⟨g,0,none⟩) xs.length cap) xs) (i:Int) (h0:0≤i) (hi:i < xs.length):W.cell? ⟨g,i.toNat,none⟩=some (enc (Fb d xs i))∧W.frozen? ⟨g,i.toNat,none⟩=false:=abe (Gy h) i h0 hi
theorem agq (h:(scalar enc h1).R e W base ok (.slice (some ⟨g,0,none⟩) xs.length cap) xs) (i:Int) (x:α):(scalar enc h1).R e (W.setCell ⟨g,i.toNat,none⟩ (enc x)) base ok (.slice (some ⟨g,0,none⟩) xs.length cap) (xs.set i.toNat x)∧W.grownBy (W.setCell ⟨g,i.toNat,none⟩ (enc x)) (some g):=by
 obtain⟨ho,hg⟩:=U3 (Gy h) i x
 exact⟨K8 (by rw [List.length_set];exact ho) h.1,hg⟩
end
section
variable {P:Program} {ops:Array Oper} {rest:List Oper} {o:Oper} {a:Act} {Q:Exit→Act→World→Prop}
theorem IB {W w1:World} {v:Value} (hgd:o.guard=none) (hrun:(execOp a.eval o).run P W= .ok (.value v) w1) (h:wpList P ops Q rest (a.put o.dst v) w1):wpList P ops Q (o::rest) a W:=by
 refine wpList_plain hgd fun K hK=>?_
 unfold Oper.wp
 rw [hrun]
 exact hK _ _ h
variable {α:Type}
theorem tu (d:Kd α) {w0 W:World} (base e:Nat) (hgd:o.guard=none) {N:Tmp} (_hd:o.dst=some N) {xs:List α} {inner:List Value} {ok oC:Nat→Prop}
  (hrun:(execOp a.eval o).run P W= .ok (.value (.slice (some ⟨W.heap.size,0,none⟩) xs.length xs.length)) (W.alloc (.cells inner.toArray e)))
  (GK:mV (d.M W base oC) d.sz xs inner) (hok: ∀k,oC k→ok k) (rI:ok W.heap.size) (HB:Below base w0 W) (hbase:base≤W.heap.size) (hm:xs.length≤9223372036854775807)
  (h: ∀v1 w1,d.R e w1 base ok v1 xs→Below base w0 w1→W.grownBy w1 none→(∃b,v1.ownBlock=some b∧W.heap.size≤b)→wpList P ops Q rest (a.put o.dst v1) w1):wpList P ops Q (o::rest) a W:=by
 refine IB hgd hrun (h _ _ ⟨fun k hk=>?_,inner,?_,?_⟩ (HB.alloc hbase _) (World.grownBy_alloc W _ none) ⟨W.heap.size,by simp [Value.ownBlock],Nat.le_refl _⟩)
 ·have:W.heap.size=k:=by simpa [Value.ownBlock] using hk
  subst this
  exact rI
 ·have h2:=World.ownsRow_lit (base:=base) (e:=e) (size:=d.sz) W inner.toArray xs.length hbase (by simpa [maxLen] using hm) (by simpa using GK.1)
  simpa using h2
 ·refine GK.wD (fun p c hp=>d.oL (fun k hk=>⟨hok k hk.1,fun he=>?_⟩) (Zb (d.qk hp) (pG (Below.refl _ _) _)))
  have h3:k=W.heap.size:=by simpa [Value.ownBlock] using he
  have:=hk.2.2.1
  omega
theorem Rl {α:Type} {R:α→List Value→Prop} {z:Value} {size:Nat} {z0:α} (hz:z.cells.size=size) (hs:0 < size) (h0:R z0 z.cells.toList) (m:Nat):mV R size (List.replicate m z0) (madeCells z.cells (m*size)).toList:=by
 refine⟨by simp [size_madeCells],fun j p hj=>?_⟩
 obtain⟨hjl,hp⟩:=List.getElem?_eq_some_iff.1 hj
 have hjm:j < m:=by simpa using hjl
 have hp':z0=p:=by simpa using hp
 subst hp'
 have hle:j*size+size≤m*size:=by rw [← Nat.succ_mul];exact Nat.mul_le_mul_right _ hjm
 have:((madeCells z.cells (m*size)).toList.drop (j*size)).take size=z.cells.toList:=by
  apply List.ext_getElem
  ·simp [size_madeCells,hz]
   omega
  ·intro i h1 h2
   have hi:i < size:=by rw [Array.length_toList,hz] at h2;exact h2
   have hmod:(j*size+i) % size=i:=by
    rw [Nat.mul_comm,Nat.mul_add_mod]
    exact Nat.mod_eq_of_lt hi
   simp [madeCells,hz,hmod]
   rw [getElem!_pos z.cells i (by omega)]
 rw [this]
 exact h0
theorem Ge (d:Kd α) {w0 W:World} (base e:Nat) (hgd:o.guard=none) {N:Tmp} (hd:o.dst=some N) (t:TypeId) (x y:Operand) (ho:o.op= .makeSlice t x y) (n:Int) (hx:a.eval x= .int .i64 n) (hy:a.eval y= .int .i64 n)
  (ht:P.underlying t=some (.slice e)) (z:Value) (bytes:Nat) (hinfo:(P.info? e).map (fun i=>(i.zero,i.size,i.bytes))=some (some z,d.sz,bytes)) (hz:z.cells.size=d.sz) (hs0:0 < d.sz) (hb0:0 < bytes)
  (z0:α) {ok oC:Nat→Prop} (hzero:d.M W base oC z0 z.cells.toList) (hok: ∀k,oC k→ok k) (rI:ok W.heap.size) (h0:0≤n) (hl:n.toNat*bytes≤281474976710656) (HB:Below base w0 W) (hbase:base≤W.heap.size)
  (h: ∀v1 w1,d.R e w1 base ok v1 (List.replicate n.toNat z0)→Below base w0 w1→W.grownBy w1 none→(∃b,v1.ownBlock=some b∧W.heap.size≤b)→wpList P ops Q rest (a.put o.dst v1) w1):wpList P ops Q (o::rest) a W:=by
 obtain⟨m,rfl⟩:=Int.eq_ofNat_of_zero_le h0
 simp only [Int.toNat_natCast] at hl h
 obtain⟨i0,hi,hzz⟩:=Option.map_eq_some_iff.1 hinfo
 simp only [Prod.mk.injEq] at hzz
 obtain⟨hz0,hz1,hz2⟩:=hzz
 have hm:m≤281474976710656:=Nat.le_trans (Nat.le_mul_of_pos_right _ hb0) hl
 have hr:=run_make (P:=P) W t e i0 z ht hi hz0 .i64 .i64 (m:Int) (m:Int) (by omega) (by omega)
  (by
   have h3:((i0.bytes*m:Nat):Int)≤281474976710656:=by rw [hz2,Nat.mul_comm];omega
   rwa [Int.natCast_mul] at h3) (by omega)
 simp only [Int.toNat_natCast] at hr
 rw [hz1] at hr
 refine tu d base e hgd hd (xs:=List.replicate m z0) (inner:=(madeCells z.cells (m*d.sz)).toList) (oC:=oC) (ok:=ok) ?_ (Rl hz hs0 hzero m) hok rI HB hbase (by simp;omega) h
 simp [execOp,ho,hx,hy,hr]
end
end Kd
theorem adW {w:World} {base n m c size:Nat} {e:TypeId} {A:Option Addr} {xs:List Value} (h:w.ownsRow base e size (.slice A n c) n xs) (hm:m≤n):w.ownsRow base e size (.slice A m c) m (xs.take (m*size)):=by
 obtain⟨h1,h2⟩:=h
 refine⟨by rw [List.length_take,h1];exact Nat.min_eq_left (Nat.mul_le_mul_right _ hm),?_⟩
 rcases h2 with ⟨he,h0⟩ | ⟨g,cap,cur,he,hb,hh,hnc,hcm,hcs,ht⟩
 ·injection he with ha _ hc
  subst ha;subst hc
  exact .inl ⟨by rw [show m=0 by omega],by omega⟩
 ·injection he with ha _ hc
  subst ha;subst hc
  refine .inr ⟨g,c,cur,rfl,hb,hh,by omega,hcm,hcs,?_⟩
  rw [← ht,List.take_take,Nat.min_eq_left (Nat.mul_le_mul_right _ hm)]
section
variable {P:Program}
end
def Lb (w:World) (base:Nat) (e:TypeId) (size:Nat) (v:Value) (n:Nat) (xs:List Value):Prop:=
  xs.length=n*size∧
  ((n=0∧ ∃A,v= .slice A 0 0∧ ∀a,A=some a→base≤a.block∧ ∃cur,w.heap[a.block]?=some (.cells cur e (0,0)))∨
   ∃g off cap cur,v= .slice (some ⟨g,off*size,none⟩) n cap∧base≤g∧w.heap[g]?=some (.cells cur e (0,0))∧n≤cap∧off+cap≤maxLen∧cur.size=(off+cap)*size∧(cur.toList.drop (off*size)).take (n*size)=xs)
section
variable {w w1:World} {base n size:Nat} {e:TypeId} {v:Value} {xs:List Value}
theorem ac3 (h:w.ownsRow base e size v n xs):Lb w base e size v n xs:=by
 obtain⟨h1,h2⟩:=h
 refine⟨h1,?_⟩
 rcases h2 with ⟨rfl,h0⟩ | ⟨g,cap,cur,rfl,hb,hh,hnc,hcm,hcs,ht⟩
 ·exact .inl ⟨h0,none,rfl,fun a ha=>by cases ha⟩
 ·exact .inr ⟨g,0,cap,cur,by rw [Nat.zero_mul],hb,hh,hnc,by rw [Nat.zero_add];exact hcm,by rw [Nat.zero_add];exact hcs,by rw [Nat.zero_mul,List.drop_zero];exact ht⟩
theorem Jd (h:Lb w base e size v n xs) (k:Nat) (hk:v.ownBlock=some k):base≤k∧ ∃cells,w.heap[k]?=some (.cells cells e (0,0)):=by
 rcases h.2 with ⟨_,A,rfl,hA⟩ | ⟨g,off,cap,cur,rfl,hg,hh,r⟩
 ·cases A with
  | none=>simp [Value.ownBlock] at hk
  | some a=>
   have:a.block=k:=by simpa [Value.ownBlock] using hk
   subst this
   exact hA a rfl
 ·have:g=k:=by simpa [Value.ownBlock] using hk
  subst this
  exact⟨hg,cur,hh⟩
theorem q_lt (h:Lb w base e size v n xs) (k:Nat) (hk:v.ownBlock=some k):k < w.heap.size:=by
 obtain⟨_,cells,hc⟩:=Jd h k hk
 exact(Array.getElem?_eq_some_iff.1 hc).1
theorem agX (h:Lb w base e size v n xs): ∃A c,v= .slice A n c∧n≤c:=by
 rcases h.2 with ⟨h0,A,rfl,_⟩ | ⟨g,off,cap,cur,rfl,hg,hh,hnc,r⟩
 ·exact⟨A,0,by rw [h0],by omega⟩
 ·exact⟨_,cap,rfl,hnc⟩
theorem akR (h:Lb w base e size v n xs):n≤9223372036854775807:=by
 rcases h.2 with ⟨h0,_⟩ | ⟨g,off,cap,cur,rfl,hg,hh,hnc,hm,r⟩
 ·omega
 ·simp only [maxLen] at hm
  omega
theorem PZ (g o j:Nat):(⟨g,o,none⟩:Addr).add j=⟨g,o+j,none⟩:=by unfold Addr.add;split <;> simp_all
theorem Yi {A:Option Addr} {c:Nat} (h:Lb w base e size (.slice A n c) n xs) (hn:0 < n): ∃ad,A=some ad∧ ∀j u,xs[j]?=some u→w.cell? (ad.add j)=some u:=by
 rcases h.2 with ⟨h0,_⟩ | ⟨g,off,cap,cur,he,hg,hh,hnc,hm,hcs,ht⟩
 ·omega
 ·injection he with ha _ hc
  subst ha
  refine⟨_,rfl,fun j u hu=>?_⟩
  rw [PZ,cell_of_row w g _ cur e (0,0) hh]
  rw [← ht,List.getElem?_take] at hu
  split at hu
  ·rw [List.getElem?_drop] at hu
   rw [← Array.getElem?_toList]
   exact hu
  ·cases hu
theorem Hz {g:Nat}: ∀(vs:List Value) (o:Nat) {w:World} (k:Nat),k≠g→(w.setCells g o vs).heap[k]?=w.heap[k]?
 | [],_,_,_,_=>rfl
 | v::r,o,w,k,hk=>by
  rw [World.setCells,Hz r (o+1) k hk]
  exact Below.heap_setCell w ⟨g,o,none⟩ v k hk
theorem Ho (g:Nat): ∀(vs:List Value) (o:Nat) (w:World),(w.setCells g o vs).os=w.os∧(w.setCells g o vs).tape=w.tape∧(w.setCells g o vs).output=w.output∧(w.setCells g o vs).heap.size=w.heap.size
 | [],_,_=>⟨rfl,rfl,rfl,rfl⟩
 | v::r,o,w=>by
  obtain⟨h1,h2,h3,h4⟩:=Ho g r (o+1) (w.setCell ⟨g,o,none⟩ v)
  rw [World.setCells]
  exact⟨h1,h2,h3,by rw [h4];simp [World.setCell]⟩
theorem Hy {g:Nat} {e:TypeId}: ∀(vs:List Value) (o:Nat) (w:World) (cur:Array Value),w.heap[g]?=some (.cells cur e (0,0))→o+vs.length≤cur.size→
  ∃cur',(w.setCells g o vs).heap[g]?=some (.cells cur' e (0,0))∧cur'.size=cur.size∧cur'.toList=cur.toList.take o++vs++cur.toList.drop (o+vs.length)
 | [],o,w,cur,h,_=>⟨cur,h,rfl,by simp⟩
 | v::r,o,w,cur,h,hl=>by
  have h2:=Js h o v
  simp only [List.length_cons] at hl
  obtain⟨cur',h3,h4,h5⟩:=Hy r (o+1) (w.setCell ⟨g,o,none⟩ v) _ h2 (by simp;omega)
  refine⟨cur',h3,by rw [h4];simp,?_⟩
  rw [h5,Array.toList_setIfInBounds]
  have ho:o < cur.toList.length:=by rw [Array.length_toList];omega
  rw [List.take_set,List.drop_set_of_lt (by omega)]
  simp only [List.length_cons]
  rw [show o+1+r.length=o+(r.length+1) by omega]
  congr 1
  rw [List.take_succ_eq_append_getElem ho,List.set_append_right _ _ (by rw [List.length_take];omega)]
  have ho':o < cur.size:=by omega
  simp [Nat.min_eq_left (Nat.le_of_lt ho')]
end
section
variable {P:Program}
end
namespace Kd
theorem aa6 {α:Type} {R:α→List Value→Prop} {size m:Nat} {ps:List α} {cs:List Value} (h:mV R size ps cs) (hm:m≤ps.length):mV R size (ps.take m) (cs.take (m*size)):=by
 refine⟨by rw [List.length_take,List.length_take,h.1,Nat.min_eq_left hm,Nat.min_eq_left (Nat.mul_le_mul_right _ hm)],fun j p hj=>?_⟩
 rw [List.getElem?_take] at hj
 split at hj
 ·rename_i hjm
  have:=h.2 j p hj
  have hle:j*size+size≤m*size:=by rw [← Nat.succ_mul];exact Nat.mul_le_mul_right _ hjm
  rw [List.drop_take,List.take_take,Nat.min_eq_left (by omega)]
  exact this
 ·cases hj
theorem aqZ {α:Type} {d:Kd α} {e m n c:Nat} {w:World} {base:Nat} {ok:Nat→Prop} {A:Option Addr} {xs:List α} (h:d.R e w base ok (.slice A n c) xs) (hm:m≤xs.length):d.R e w base ok (.slice A m c) (xs.take m):=by
 obtain⟨h0,inner,ho,hr⟩:=h
 have hn:n=xs.length:=by
  obtain⟨A',c',he⟩:=aa9 ho
  injection he
 subst hn
 have hb: ∀x y:Nat,(Value.slice A x c).ownBlock=(Value.slice A y c).ownBlock:=by
  intro x y
  cases A <;> rfl
 refine⟨fun k hk=>h0 k (by rw [hb _ m];exact hk),inner.take (m*d.sz),?_,?_⟩
 ·rw [List.length_take,Nat.min_eq_left hm]
  exact adW ho hm
 ·rw [hb m xs.length]
  exact aa6 hr hm
def Q {α:Type} (d:Kd α) (e:Nat) (w:World) (base:Nat) (ok:Nat→Prop) (v:Value) (xs:List α):Prop:=
 (∀k,v.ownBlock=some k→ok k)∧ ∃inner,Lb w base e d.sz v xs.length inner∧mV (d.M w base (fun k=>ok k∧some k≠v.ownBlock)) d.sz xs inner
section
variable {α:Type} {d:Kd α} {e:Nat} {w w1 W:World} {base:Nat} {ok ok':Nat→Prop} {v:Value} {xs:List α}
theorem ajU (h:d.R e w base ok v xs):d.Q e w base ok v xs:=by
 obtain⟨h0,inner,ho,hr⟩:=h
 exact⟨h0,inner,ac3 ho,hr⟩
theorem ux (d:Kd α) (e:Nat) (w:World) (base:Nat) (ok:Nat→Prop):d.Q e w base ok (.slice none 0 0) []:=ajU (qT d e w base ok)
theorem ajV (h:d.Q e w base ok v xs) (hok: ∀k,ok k→ok' k):d.Q e w base ok' v xs:=by
 obtain⟨h0,inner,ho,hr⟩:=h
 exact⟨fun k hk=>hok k (h0 k hk),inner,ho,hr.wD (fun _ _ hp=>d.oL (fun k hk=>⟨hok k hk.1,hk.2⟩) hp)⟩
theorem ahS (h:d.Q e w base ok v xs):d.Q e w base (fun k=>ok k∧base≤k∧k < w.heap.size∧ ∃q,q ∈ e::d.E∧ ∃cells,w.heap[k]?=some (.cells cells q (0,0))) v xs:=by
 obtain⟨h0,inner,ho,hr⟩:=h
 refine⟨fun k hk=>?_,inner,ho,hr.wD (fun _ _ hp=>d.oL (fun k hk=>?_) (d.qk hp))⟩
 ·obtain⟨hb,cells,hc⟩:=Jd ho k hk
  exact⟨h0 k hk,hb,q_lt ho k hk,e,List.mem_cons_self,cells,hc⟩
 ·obtain⟨⟨h1,h2⟩,h3,h4,q,hq,hc⟩:=hk
  exact⟨⟨h1,h3,h4,q,List.mem_cons_of_mem _ hq,hc⟩,h2⟩
theorem ahR (h:d.Q e w base ok v xs) {g t:Nat} {cells:Array Value} (hb:w.heap[g]?=some (.cells cells t (0,0))) (ht: ∀q,q ∈ e::d.E→q≠t):d.Q e w base (fun k=>ok k∧k≠g) v xs:=
 ajV (ahS h) (fun k hk=>⟨hk.1,by
  obtain⟨_,_,_,q,hq,cells',hc⟩:=hk
  rintro rfl
  rw [hc] at hb
  injection hb with hb
  injection hb with _ hb
  exact ht q hq hb⟩)
theorem aop (h:d.Q e w base ok v xs) {g t:Nat} {cells:Array Value} (hb:w.heap[g]?=some (.cells cells t (0,0))) (ht:e≠t):some g≠v.ownBlock:=by
 obtain⟨_,inner,ho,_⟩:=h
 intro he
 obtain⟨_,cells',hc⟩:=Jd ho g he.symm
 rw [hc] at hb
 injection hb with hb
 injection hb with _ hb
 exact ht hb
theorem K9 {A:Option Addr} {n c:Nat} (h:d.Q e w base ok (.slice A n c) xs):n=xs.length∧n≤c∧d.C w A xs.length xs:=by
 obtain⟨_,inner,ho,hr⟩:=h
 obtain⟨A',c',he,hl⟩:=agX ho
 injection he with h1 h2 h3
 subst h1;subst h2;subst h3
 refine⟨rfl,hl,rfl,akR ho,fun hp=>?_⟩
 obtain⟨ad,ha,hc⟩:=Yi ho hp
 refine⟨ad,ha,fun j p hj=>⟨(inner.drop (j*d.sz)).take d.sz,?_,d.qe (hr.2 j p hj),fun i u hu=>?_⟩⟩
 ·have hjl:=(List.getElem?_eq_some_iff.1 hj).1
  have h1:j*d.sz+d.sz≤inner.length:=by rw [hr.1, ← Nat.succ_mul];exact Nat.mul_le_mul_right _ hjl
  rw [List.length_take,List.length_drop]
  omega
 ·refine hc _ u ?_
  rw [List.getElem?_take] at hu
  split at hu
  ·rw [List.getElem?_drop] at hu
   exact hu
  ·cases hu
end
section
variable {P:Program} {ops:Array Oper} {rest:List Oper} {o:Oper} {a:Act} {Q':Exit→Act→World→Prop} {Kc:Act→World→Prop} {α:Type}
end
end Kd
namespace Kd
section
variable {α:Type} {d:Kd α} {e e':Nat} {w w1 W:World} {base:Nat} {ok:Nat→Prop} {u v:Value} {xs:List α}
theorem AB (h:d.R e w base ok v xs): ∀k,v.ownBlock=some k→ ∃cells,w.heap[k]?=some (.cells cells e (0,0)):=by
 obtain⟨inner,ho⟩:=Ju h
 exact fun k hk=>EY ho k hk
theorem wh (h:d.R e W base ok u xs) (hty: ∀k,v.ownBlock=some k→ ∃cells,W.heap[k]?=some (.cells cells e' (0,0))) (ht: ∀q,q ∈ e::d.E→q≠e') (hg:W.grownBy w1 v.ownBlock):d.R e w1 base ok u xs:=by
 refine fY (Gd (vK h) (fun k hk=>hg.block k hk.2.2.1 (fun he=>?_))) (fun _ hk=>hk.1)
 obtain⟨_,_,_,q,hq,cells,hc⟩:=hk
 obtain⟨cells',hc'⟩:=hty k he.symm
 rw [hc] at hc'
 injection hc' with hc'
 injection hc' with _ hc'
 exact ht q hq hc'
theorem qp (h:d.R e W base ok u xs) (hty: ∀k,v.ownBlock=some k→ ∃cells,W.heap[k]?=some (.cells cells e' (0,0))) (ht: ∀q,q ∈ e::d.E→q≠e'):d.R e W base (fun k=>ok k∧some k≠v.ownBlock) u xs:=by
 refine fY (vK h) (fun k hk=>⟨hk.1,fun he=>?_⟩)
 obtain⟨_,_,_,q,hq,cells,hc⟩:=hk
 obtain⟨cells',hc'⟩:=hty k he.symm
 rw [hc] at hc'
 injection hc' with hc'
 injection hc' with _ hc'
 exact ht q hq hc'
theorem tV (hu:d.R e W base ok u xs) (hbase: ∀k,v.ownBlock=some k→W.heap.size≤k) (hb:Below W.heap.size W w1):d.R e w1 base (fun k=>ok k∧some k≠v.ownBlock) u xs:=
 fY (Gd (vK hu) (fun k hk=>hb.block k hk.2.2.1)) (fun k hk=>⟨hk.1,fun he=>by have:=hbase k he.symm;have:=hk.2.2.1;omega⟩)
theorem wo (h:d.R e w1 W.heap.size ok v xs) (hlt: ∀k,u.ownBlock=some k→k < W.heap.size):d.R e w1 W.heap.size (fun k=>ok k∧some k≠u.ownBlock) v xs:=
 fY (vK h) (fun k hk=>⟨hk.1,fun he=>by have:=hlt k he.symm;have:=hk.2.1;omega⟩)
theorem tZ (hlt: ∀k,u.ownBlock=some k→k < W.heap.size): ∀k,W.heap.size≤k→some k≠u.ownBlock:=fun k hk he=>by have:=hlt k he.symm;omega
end
end Kd
theorem abI {n c g:Nat} {A:Option Addr} (hne:some g≠(Value.slice A n c).ownBlock): ∀ad,A=some ad→0 < n→ad.block≠g:=by
 rintro ad rfl _ rfl
 exact hne (by simp [Value.ownBlock])
theorem Fv {α:Type} (a seg:List α) (o:Nat) (h:o+seg.length≤a.length) (q:Nat):
  (a.take o++seg++a.drop (o+seg.length))[q]?=if q < o then a[q]? else if q < o+seg.length then seg[q - o]? else a[q]?:=by
 have hl:(a.take o).length=o:=by rw [List.length_take];omega
 rw [List.append_assoc]
 by_cases h1:q < o
 ·rw [if_pos h1,List.getElem?_append_left (by omega),List.getElem?_take,if_pos h1]
 ·rw [if_neg h1,List.getElem?_append_right (by omega),hl]
  by_cases h2:q < o+seg.length
  ·rw [if_pos h2,List.getElem?_append_left (by omega)]
  ·rw [if_neg h2,List.getElem?_append_right (by omega),List.getElem?_drop]
   congr 1
   omega
namespace Kd
section
variable {α:Type} {d:Kd α} {e base g n cap:Nat} {ok oC:Nat→Prop} {W:World} {xs:List α}
theorem ajL (h:d.R e W base ok (.slice (some ⟨g,0,none⟩) n cap) xs) (z:α) (i:Int) (h0:0≤i) (h1:i < n):
  ∃c,c.length=d.sz∧d.M W base (fun k=>ok k∧k≠g) (xs.getD i.toNat z) c∧(∀j u,c[j]?=some u→W.cell? ⟨g,i.toNat*d.sz+j,none⟩=some u)∧ ∀j,W.frozen? ⟨g,i.toNat*d.sz+j,none⟩=false:=by
 obtain⟨hn,hnc,hC⟩:=lU h
 obtain⟨_,inner,ho,hr⟩:=h
 have hil:i.toNat < xs.length:=by omega
 have Vu:i.toNat*d.sz+d.sz≤inner.length:=by rw [hr.1, ← Nat.succ_mul];exact Nat.mul_le_mul_right _ hil
 have hM:=hr.2 i.toNat _ (List.getElem?_eq_getElem hil)
 refine⟨(inner.drop (i.toNat*d.sz)).take d.sz,by rw [List.length_take,List.length_drop];omega,?_,fun j u hu=>?_,fun j=>?_⟩
 ·rw [List.getD_eq_getElem?_getD,List.getElem?_eq_getElem hil]
  exact d.oL (fun k hk=>⟨hk.1,fun he=>hk.2 (by rw [he];simp [Value.ownBlock])⟩) hM
 ·rw [List.getElem?_take] at hu
  split at hu
  ·rw [List.getElem?_drop] at hu
   have:=ho.cells (g:=g) (by simp [Value.ownBlock]) _ u hu
   rwa [add_plain] at this
  ·cases hu
 ·obtain⟨cells,hc⟩:=EY ho g (by simp [Value.ownBlock])
  exact gE hc _
end
end Kd
namespace Kd
def fixed {α:Type} (d:Kd α) (w0:World):Kd α where
 sz:=d.sz
 E:= []
 K:=fun _ x cs=>d.K w0 x cs
 M:=fun _ _ _ x cs=>d.K w0 x cs
 tv:=d.tv
 sV:=d.sV
 sj:=fun _ h=>h
 qe:=fun h=>h
 oL:=fun _ h=>h
 qk:=fun h=>h
 qZ:=fun _ h=>h
 r9:=fun _ h=>h
def or_ {α:Type} (a b:Kd α) (h:b.sz=a.sz):Kd α where
 sz:=a.sz
 E:=a.E++b.E
 K:=fun w x cs=>a.K w x cs∨b.K w x cs
 M:=fun w base ok x cs=>a.M w base ok x cs∨b.M w base ok x cs
 tv:=fun hk=>hk.elim a.tv (fun hk=>(b.tv hk).trans h)
 sV:=fun hk=>hk.elim a.sV b.sV
 sj:=fun hb hk=>hk.imp (a.sj hb) (b.sj hb)
 qe:=fun hk=>hk.imp a.qe b.qe
 oL:=fun hok hk=>hk.imp (a.oL hok) (b.oL hok)
 qk:=fun hk=>hk.imp
  (fun hk=>a.oL (fun _ ⟨h1,h2,h3,q,hq,hc⟩=>⟨h1,h2,h3,q,List.mem_append_left _ hq,hc⟩) (a.qk hk))
  (fun hk=>b.oL (fun _ ⟨h1,h2,h3,q,hq,hc⟩=>⟨h1,h2,h3,q,List.mem_append_right _ hq,hc⟩) (b.qk hk))
 qZ:=fun hm hk=>hk.imp (a.qZ hm) (b.qZ hm)
 r9:=fun hb hk=>hk.imp (a.r9 hb) (b.r9 hb)
section
variable {α:Type} {F:Kd α→Kd α} {sz:Nat} {E:List Nat} {hs: ∀n,(upto F sz E n).sz=sz} {hE: ∀n q,q ∈ (upto F sz E n).E→q ∈ E}
end
end Kd
namespace Kd
theorem JB {α:Type} {R:α→List Value→Prop} {size:Nat} {ps qs:List α} {cs ds:List Value} (h:mV R size ps cs) (h':mV R size qs ds):mV R size (ps++qs) (cs++ds):=by
 refine⟨by rw [List.length_append,List.length_append,h.1,h'.1,Nat.add_mul],fun j p hj=>?_⟩
 rcases Nat.lt_or_ge j ps.length with hlt | hge
 ·rw [List.getElem?_append_left hlt] at hj
  have hle:j*size+size≤cs.length:=by rw [h.1, ← Nat.succ_mul];exact Nat.mul_le_mul_right _ hlt
  rw [List.drop_append_of_le_length (by omega),List.take_append_of_le_length (by rw [List.length_drop];omega)]
  exact h.2 j p hj
 ·rw [List.getElem?_append_right hge] at hj
  have h2:=h'.2 (j - ps.length) p hj
  have hle:ps.length*size≤j*size:=Nat.mul_le_mul_right _ hge
  rw [List.drop_append,List.drop_eq_nil_of_le (by rw [h.1];exact hle),List.nil_append,h.1, ← Nat.sub_mul]
  exact h2
section
variable {P:Program} {ops:Array Oper} {rest:List Oper} {o:Oper} {a:Act} {Q:Exit→Act→World→Prop} {α:Type}
theorem Sn (d:Kd α) {Rr:α→List Value→Prop} {w0 W:World} (base:Nat) (hgd:o.guard=none) (s x:Operand) (t e:TypeId) (z:Value) (bytes:Nat)
  (ho:o.op= .call { callee:= .builtin .append,args:= #[s,x],argTypes:= #[t,t]})
  (ht:P.underlying t=some (.slice e)) (hinfo:(P.info? e).map (fun i=>(i.zero,i.size,i.bytes))=some (some z,d.sz,bytes)) (hz:z.cells.size=d.sz) (hs0:0 < d.sz) (hb0:0 < bytes)
  (v:Value) (xs ys:List α) (A:Option Addr) (m c:Nat) (ok oC:Nat→Prop) (hs:a.eval s=v) (hx:a.eval x= .slice A m c)
  (HO:d.R e W base ok v xs) (HR:sQ Rr d.sz W A m ys) (hKM: ∀x cs,Rr x cs→d.M W base oC x cs) (y7: ∀k,oC k→ok k∧some k≠v.ownBlock) (rI: ∀k,W.heap.size≤k→ok k)
  (HB:Below base w0 W) (hbase:base≤W.heap.size) (hl:(xs.length+m)*bytes≤140737488355328)
  (h: ∀v1 w1,d.R e w1 base ok v1 (xs++ys)→Below base w0 w1→W.grownBy w1 v.ownBlock→(v1.ownBlock=v.ownBlock∨ ∃b,v1.ownBlock=some b∧W.heap.size≤b)→wpList P ops Q rest (a.put o.dst v1) w1):
  wpList P ops Q (o::rest) a W:=by
 obtain⟨i0,hi,hzz⟩:=Option.map_eq_some_iff.1 hinfo
 simp only [Prod.mk.injEq] at hzz
 obtain⟨hz0,hz1,hz2⟩:=hzz
 have hm:ys.length=m:=HR.1
 have hlen:xs.length+m≤140737488355328:=Nat.le_trans (Nat.le_mul_of_pos_right _ hb0) hl
 obtain⟨hok,inner,hown,hr⟩:=HO
 have hrun: ∃v1 w1,(Builtin.append_ #[t,t] o.type #[v, .slice A m c]).run P W= .ok v1 w1∧d.R e w1 base ok v1 (xs++ys)∧W.grownBy w1 v.ownBlock∧(v1.ownBlock=v.ownBlock∨ ∃b,v1.ownBlock=some b∧W.heap.size≤b):=by
  rcases A with _ | ad
  ·have h0:m=0:=by
    rcases Nat.eq_zero_or_pos m with h0 | h0
    ·exact h0
    ·obtain⟨ad,h,_⟩:=HR.2.2 h0
     cases h
   subst h0
   obtain rfl:ys= []:=List.eq_nil_of_length_eq_zero hm
   refine⟨v,W,?_,by rw [List.append_nil];exact⟨hok,inner,hown,hr⟩,World.grownBy.refl W _, .inl rfl⟩
   rcases hown.2 with ⟨rfl,hn⟩ | ⟨g,cap,cur,rfl,_,_,hnc,_⟩
   ·simp [Builtin.append_,run_underlying ht,sizeOf,typeInfo,hi,Builtin.lenOf,Builtin.firstCells]
   ·simp [Builtin.append_,run_underlying ht,sizeOf,typeInfo,hi,Builtin.lenOf,Builtin.firstCells,hnc,storeCells]
  ·obtain⟨news,hnr,hnc⟩:=sQ.abz HR
   have hnM:mV (d.M W base oC) d.sz ys news:=hnr.wD (fun p c hp=>hKM p c hp)
   have hone: ∀u ∈ news,u.oneCell'=true:=by
    intro u hu
    obtain⟨q,hq,rfl⟩:=List.mem_iff_getElem.1 hu
    have hql:q / d.sz < ys.length:=by
     rw [Nat.div_lt_iff_lt_mul hs0]
     rw [← hnM.1]
     exact hq
    have hc:=hnM.2 (q / d.sz) _ (List.getElem?_eq_getElem hql)
    refine d.sV (d.qe hc) _ ?_
    rw [List.mem_iff_getElem?]
    refine⟨q % d.sz,?_⟩
    rw [List.getElem?_take,if_pos (Nat.mod_lt _ hs0),List.getElem?_drop,Nat.mul_comm,Nat.div_add_mod,List.getElem?_eq_getElem hq]
   obtain⟨v1,w1,hrun,h2,hg,_,hat⟩:=run_append_own_at (P:=P) W base t o.type e i0 z d.sz bytes ht hi hz0 hz1 hz2 hz hs0 v xs.length inner hown ad m c news (by rw [hnM.1,hm]) hnc hone (by simp only [maxLen];omega) hl hbase
   have hat':v1.ownBlock=v.ownBlock∨ ∃b,v1.ownBlock=some b∧W.heap.size≤b:=by
    rcases hat with hat | hat
    ·exact .inl hat
    ·exact .inr ⟨_,hat,Nat.le_refl _⟩
   have hne: ∀k,some k≠v.ownBlock→k < W.heap.size→some k≠v1.ownBlock:=by
    intro k hk hlt
    rcases hat' with hat | ⟨b,hb,hle⟩
    ·rw [hat];exact hk
    ·rw [hb]
     intro he
     injection he with he
     omega
   have step: ∀ {q:α} {c:List Value} {o:Nat→Prop},d.M W base o q c→(∀k,o k→ok k∧some k≠v.ownBlock)→d.M w1 base (fun k=>ok k∧some k≠v1.ownBlock) q c:=by
    intro q c o hq ho
    have h1:=d.qZ (w1:=w1) (fun k hk=>hg.block k hk.2.2.1 (ho k hk.1).2) (d.qk hq)
    exact d.oL (fun k hk=>⟨(ho k hk.1).1,hne k (ho k hk.1).2 hk.2.2.1⟩) h1
   refine⟨v1,w1,hrun,⟨fun k hk=>?_,inner++news,by rw [List.length_append,hm];exact h2,JB (hr.wD (fun _ _ hq=>step hq (fun _ hk=>hk))) (hnM.wD (fun _ _ hq=>step hq y7))⟩,hg,hat'⟩
   rcases hat' with hat | ⟨b,hb,hle⟩
   ·exact hok k (hat ▸ hk)
   ·rw [hb] at hk
    injection hk with hk
    exact rI k (by omega)
 obtain⟨v1,w1,hr1,h1,hg,hat⟩:=hrun
 refine wpList_plain hgd fun K hK=>?_
 unfold Oper.wp execOp
 simp only [ho,resolve,invoke,builtin,Sem.run_bind,Sem.run_pure,Result.andThen_ok,List.map_toArray,List.map_cons,List.map_nil,hs,hx,hr1]
 exact hK _ _ (h v1 w1 h1 (HB.grown hg hbase (yY hown)) hg hat)
end
end Kd
namespace Kd
section
variable {P:Program} {ops:Array Oper} {rest:List Oper} {o:Oper} {a:Act} {Q:Exit→Act→World→Prop} {α:Type}
end
end Kd
theorem add_add (a:Addr) (i j:Nat):(a.add i).add j=a.add (i+j):=by
 unfold Addr.add
 by_cases h1:i=0 <;> by_cases h2:j=0 <;> simp [h1,h2,Nat.add_assoc]
namespace Kd
section
variable {α:Type} {k:Kd α} {w:World} {A:Option Addr} {xs:List α} {m c:Nat}
theorem akt (h:k.C w A xs.length xs) (hm:m≤xs.length) (hc:xs.length≤c):k.C w (if c=m then A else A.map (·.add (m*k.sz))) (xs.drop m).length (xs.drop m):=by
  have hl:(xs.drop m).length=xs.length - m:=List.length_drop
  refine⟨rfl,by rw [hl];have:=h.2.1;omega,fun hp=>?_⟩
  rw [hl] at hp
  obtain⟨ad,rfl,hcell⟩:=h.2.2 (by omega)
  rw [if_neg (by omega)]
  refine⟨ad.add (m*k.sz),rfl,fun j p hj=>?_⟩
  rw [List.getElem?_drop] at hj
  obtain⟨cs,h1,h2,h3⟩:=hcell (m+j) p hj
  refine⟨cs,h1,h2,fun i u hu=>?_⟩
  rw [add_add,show m*k.sz+(j*k.sz+i)=(m+j)*k.sz+i by rw [Nat.add_mul];omega]
  exact h3 i u hu
end
end Kd
section
variable {P:Program}
end
theorem Dq {w W:World} (h:Below w.heap.size w W):w.heap.size≤W.heap.size:=h.size
theorem eE {w W w2:World} (h:Below w.heap.size w W) (k:Below W.heap.size W w2):Below w.heap.size w w2:=PW h h.size k
theorem sR.nil (W:World) (k:IntKind):sR W k none ([]:List Int).length []:=⟨rfl,by simp,fun h=>absurd h (Nat.lt_irrefl 0)⟩
theorem sR.drewN {W:World} {k:IntKind} {A:Option Addr} {n:Nat} {xs:List Int} (h:sR W k A n xs) (m:Nat):sR (W.drewN m) k A n xs:=h
theorem qM {w W:World} {g j:Nat} {v:Value} (h:Below w.heap.size w W) (hg:w.heap.size≤g):Below w.heap.size w (W.setCell ⟨g,j,none⟩ v):=h.setCell hg _
theorem Z0 {w W:World} {g:Nat} {row:Option Nat} (h:mL w W g row) (m:Nat):mL w (W.drewN m) g row:=h
theorem Z1 {w W:World} {g:Nat} (h:mL w W g none) (o:Obj):mL w (W.alloc o) g none:=h.trans (mL.Gz (World.grownBy_alloc W o none) g) (.inl rfl)
theorem xI {w W:World} {g:Nat} (h:mL w W g none) {a:Addr} {v:Value} (hc:w.cell? a=some v) (hne:a.block≠g):W.cell? a=some v:=by
 have:=h.2 a.block (World.block_lt_of_cell? w a hc) hne (by simp)
 simpa [World.cell?,this] using hc
theorem kf (a:Addr) (i:Nat):(a.add i).block=a.block:=by unfold Addr.add;split <;> rfl
theorem IU {w0 w w1:World} {B:Nat} (h:Below w0.heap.size w0 w) (hB:w0.heap.size≤B) (k:Below B w w1):Below w0.heap.size w0 w1:=
 h.trans ⟨k.os,k.tape,k.output,k.size,fun i hi=>k.block i (Nat.lt_of_lt_of_le hi hB)⟩
theorem own_base' {w:World} {base:Nat} {e:TypeId} {size n:Nat} {v:Value} {xs:List Value} (h:w.ownsRow base e size v n xs):v.ownBlock=none∨ ∃b,v.ownBlock=some b∧base≤b:=by
 cases hv:v.ownBlock with
 | none=>exact .inl rfl
 | some b=>exact .inr ⟨b,rfl,yY h b hv⟩
theorem Cq {w W:World} {g:Nat} {row:Option Nat} (h:mL w W g row):w.heap.size≤W.heap.size:=h.1
theorem sK.nil {α:Type} (enc:α→Value) (d:α) (W:World):sK enc d W none ([]:List α).length []:=⟨rfl,by simp,fun h=>absurd h (Nat.lt_irrefl 0)⟩
theorem sK.drewN {α:Type} {enc:α→Value} {d:α} {W:World} {A:Option Addr} {n:Nat} {xs:List α} (h:sK enc d W A n xs) (m:Nat):sK enc d (W.drewN m) A n xs:=h
theorem sR.keep {w W:World} {k:IntKind} {A:Option Addr} {n g:Nat} {xs:List Int} (h:sR w k A n xs) (hk:mL w W g none) (hf: ∀ad,A=some ad→0 < n→ad.block≠g):sR W k A n xs:=
 ⟨h.1,h.2.1,fun hn=>by
  obtain⟨ad,e,hc⟩:=h.2.2 hn
  exact⟨ad,e,fun j hj=>xI hk (hc j hj) (by rw [kf];exact hf ad e hn)⟩⟩
theorem sK.keep {α:Type} {enc:α→Value} {d:α} {w W:World} {A:Option Addr} {n g:Nat} {xs:List α} (h:sK enc d w A n xs) (hk:mL w W g none) (hf: ∀ad,A=some ad→0 < n→ad.block≠g):sK enc d W A n xs:=
 ⟨h.1,h.2.1,fun hn=>by
  obtain⟨ad,e,hc⟩:=h.2.2 hn
  exact⟨ad,e,fun j hj=>xI hk (hc j hj) (by rw [kf];exact hf ad e hn)⟩⟩
theorem cell_far {W:World} {p a:Addr} (h:a.block≠p.block) (u:Value):(W.setCell p u).cell? a=W.cell? a:=by
 have:=Below.heap_setCell W p u a.block h
 simp [World.cell?,this]
theorem mD {w:World} {g:Nat} {t:TypeId} {cs cs':Array Value} (h:w.heap[g]?=some (.cells cs t (0,0))) (i:Nat) (u:Value) (e:cs.setIfInBounds i u=cs'):(w.setCell ⟨g,i,none⟩ u).heap[g]?=some (.cells cs' t (0,0)):=e ▸ Js h i u
theorem tH {W:World} {base n c:Nat} {e:TypeId} {size g:Nat} {ad:Addr} {xs:List Value} (_:W.ownsRow base e size (.slice (some ad) n c) n xs) (hne:some g≠(Value.slice (some ad) n c).ownBlock):ad.block≠g:=by
 rintro rfl
 exact hne (by simp [Value.ownBlock])
theorem mS {base:Nat} {w W:World} (h:Below base w W):Below base w W.drew:=h.drew
theorem abq {w W:World} {g:Nat} {row:Option Nat} (h:mL w W g row):mL w W.drew g row:=h
namespace Kd
section
variable {α β:Type} {d:Kd α} {d':Kd β} {e e' base base' n:Nat} {ok ok':Nat→Prop} {w W w1 W1:World} {v u:Value} {xs:List α} {ys:List β} {A:Option Addr} {c:Nat}
theorem tH {ad:Addr} {g:Nat} (hne:some g≠(Value.slice (some ad) n c).ownBlock):ad.block≠g:=by
 rintro rfl
 exact hne (by simp [Value.ownBlock])
theorem Y9 (h:d.R e w base ok v xs):v.ownBlock=none∨ ∃k,v.ownBlock=some k∧base≤k:=by
 obtain⟨inner,ho⟩:=Ju h
 exact own_base' ho
end
section
variable {α:Type} {enc:α→Value} {h1: ∀x,(enc x).oneCell'=true} {w W:World} {A:Option Addr} {n g:Nat} {xs:List α}
end
end Kd
namespace Kd
section
variable {α:Type} {d:Kd α} {e base g:Nat} {ok:Nat→Prop} {w w1:World} {v:Value} {xs:List α} {o:Obj}
theorem um (h:d.R e w base ok v xs) (a:Nat) (ha:w.heap.size≤a):d.R e w base (fun k=>ok k∧k≠a) v xs:=fY (vK h) (fun k hk=>⟨hk.1,by have:=hk.2.2.1;omega⟩)
theorem F6 (hb:w.heap[g]?=some o): ∀k,w.heap.size≤k→k≠g:=fun k hk=>by have:=pq hb;omega
end
end Kd
section
variable {P:Program} {ops:Array Oper} {rest:List Oper} {o:Oper} {a:Act} {Q:Exit→Act→World→Prop}
theorem abY {W:World} (hgd:o.guard=none) {N:Tmp} (_hd:o.dst=some N) {cs:Array Value} {t:TypeId}
  (hrun:(execOp a.eval o).run P W= .ok (.value (.pointer (some ⟨W.heap.size,0,none⟩))) (W.alloc (.cells cs t (0,0))))
  (h: ∀g,g=W.heap.size→ ∀w1,w1.heap[g]?=some (.cells cs t (0,0))→Below W.heap.size W w1→wpList P ops Q rest (a.put o.dst (.pointer (some ⟨g,0,none⟩))) w1):wpList P ops Q (o::rest) a W:=
 Kd.IB hgd hrun (h _ rfl _ (QT W _) (pG (Below.refl _ _) _))
theorem Kd.WZ {α:Type} (enc:α→Value) (d:α) {h1: ∀x:α,(enc x).oneCell'=true} {w0 W:World} (base:Nat) (hgd:o.guard=none) (s x:Operand) (t e:TypeId) (z:Value) (bytes:Nat)
  (ho:o.op= .call { callee:= .builtin .append,args:= #[s,x],argTypes:= #[t,t]})
  (ht:P.underlying t=some (.slice e)) (hinfo:(P.info? e).map (fun i=>(i.zero,i.size,i.bytes))=some (some z,1,bytes)) (hz:z.cells.size=1) (hb0:0 < bytes)
  (v:Value) (xs ys:List α) (A:Option Addr) (m c:Nat) (ok:Nat→Prop) (hs:a.eval s=v) (hx:a.eval x= .slice A m c) (rI: ∀k,W.heap.size≤k→ok k)
  (HO:(Kd.scalar enc h1).R e W base ok v xs) (HR:(Kd.scalar enc h1).C W A m ys) (HB:Below base w0 W) (hbase:base≤W.heap.size) (hl:(xs.length+m)*bytes≤140737488355328)
  (h: ∀v1 w1,(Kd.scalar enc h1).R e w1 base ok v1 (xs++ys)→Below base w0 w1→W.grownBy w1 v.ownBlock→(v1.ownBlock=v.ownBlock∨ ∃b,v1.ownBlock=some b∧W.heap.size≤b)→wpList P ops Q rest (a.put o.dst v1) w1):
  wpList P ops Q (o::rest) a W:=by
 refine Hv (w0:=w0) enc d base hgd s x t e z bytes ho ht hinfo hz hb0 h1 v xs ys A m c hs hx (Kd.Gy HO) (Kd.OZ (d:=d) HR) HB hbase hl ?_
 intro v1 w1 hown hb hg hat
 refine h v1 w1 (Kd.K8 hown (fun k hk=>?_)) hb hg hat
 rcases hat with e1 | ⟨b,e1,hbb⟩
 ·exact HO.1 k (by rw [← e1];exact hk)
 ·rw [e1] at hk
  injection hk with hk
  subst hk
  exact rI _ hbb
end
namespace Kd
section
variable {α:Type} {enc:α→Value} {h1: ∀x,(enc x).oneCell'=true} {e base g n cap:Nat} {ok:Nat→Prop} {W:World} {xs:List α}
theorem tW (d:α) (h:(scalar enc h1).R e W base ok (.slice (some ⟨g,0,none⟩) n cap) xs) (i:Int) (h0:0≤i) (hi:i < n):W.cell? ⟨g,i.toNat,none⟩=some (enc (Fb d xs i))∧W.frozen? ⟨g,i.toNat,none⟩=false:=by
 obtain⟨rfl,_⟩:=lU h
 exact ajM d h i h0 hi
theorem ajJ (h:(scalar enc h1).R e W base ok (.slice (some ⟨g,0,none⟩) n cap) xs) (i:Int) (x:α):(scalar enc h1).R e (W.setCell ⟨g,i.toNat,none⟩ (enc x)) base ok (.slice (some ⟨g,0,none⟩) n cap) (xs.set i.toNat x):=by
 obtain⟨rfl,_⟩:=lU h
 exact(agq h i x).1
end
end Kd
section
variable {P:Program} {ops:Array Oper} {rest:List Oper} {o:Oper} {a:Act} {Q:Exit→Act→World→Prop}
theorem XD {W w1:World} (hgd:o.guard=none) {t:TypeId} {p:Tmp} {v:Operand} (_ho:o.op= .store t (.tmp p) v) (hN:o.dst=none)
  (hrun:(execOp a.eval o).run P W= .ok .skip w1) (h: ∀w',w'=w1→wpList P ops Q rest a w'):wpList P ops Q (o::rest) a W:=by
 refine wpList_plain hgd fun K hK=>?_
 unfold Oper.wp
 rw [hrun]
 show K (a.put o.dst undef) w1
 rw [hN]
 exact hK _ _ (h _ rfl)
end
namespace Kd
section
variable {α:Type} {enc:α→Value} {h1: ∀x,(enc x).oneCell'=true} {e base g n cap:Nat} {ok:Nat→Prop} {W:World} {xs:List α}
theorem zl (h:(scalar enc h1).R e W base ok (.slice (some ⟨g,0,none⟩) n cap) xs) (i:Int) (x:α):(scalar enc h1).R e (W.setCell ⟨g,i.toNat,none⟩ (enc x)) base ok (.slice (some ⟨g,0,none⟩) n cap) (xs.set i.toNat x)∧W.grownBy (W.setCell ⟨g,i.toNat,none⟩ (enc x)) (some g):=by
 obtain⟨rfl,_⟩:=lU h
 exact agq h i x
end
end Kd
section
variable {P:Program} {ops:Array Oper} {rest:List Oper} {o:Oper} {a:Act} {Q:Exit→Act→World→Prop} {W:World}
theorem dg {N:Tmp} (_hN:o.dst=some N) (h:wpList P ops Q (o::rest) a W):wpList P ops Q (o::rest) a W:=h
theorem q8 {t:TypeId} {p:Tmp} {v:Operand} (_ho:o.op= .store t (.tmp p) v) (h:wpList P ops Q (o::rest) a W):wpList P ops Q (o::rest) a W:=h
end
section
variable {P:Program} {ops:Array Oper} {o:Oper} {a:Act} {Q:Exit→Act→World→Prop} {Kc:Act→World→Prop}
theorem Pn {W w1:World} {v:Value} (hw:Region.wanted o (yielded ops a.tmps)=true) (hrun:(execOp a.eval o).run P W= .ok (.value v) w1) (h:Kc (a.put o.dst v) w1):if Region.wanted o (yielded ops a.tmps)=true then Oper.wp P o a W Kc Q else Kc (a.put o.dst undef) W:=by
 rw [if_pos hw]
 unfold Oper.wp
 rw [hrun]
 exact h
theorem rP {W:World} (hw:Region.wanted o (yielded ops a.tmps)=true) {N:Tmp} (_hd:o.dst=some N) {cs:Array Value} {t:TypeId}
  (hrun:(execOp a.eval o).run P W= .ok (.value (.pointer (some ⟨W.heap.size,0,none⟩))) (W.alloc (.cells cs t (0,0))))
  (h: ∀g,g=W.heap.size→ ∀w1,w1.heap[g]?=some (.cells cs t (0,0))→Below W.heap.size W w1→Kc (a.put o.dst (.pointer (some ⟨g,0,none⟩))) w1):if Region.wanted o (yielded ops a.tmps)=true then Oper.wp P o a W Kc Q else Kc (a.put o.dst undef) W:=
 Pn hw hrun (h _ rfl _ (QT W _) (pG (Below.refl _ _) _))
namespace Kd
variable {α:Type}
theorem Dx (d:Kd α) {w0 W:World} (base e:Nat) (hw:Region.wanted o (yielded ops a.tmps)=true) {N:Tmp} (_hd:o.dst=some N) {xs:List α} {inner:List Value} {ok oC:Nat→Prop}
  (hrun:(execOp a.eval o).run P W= .ok (.value (.slice (some ⟨W.heap.size,0,none⟩) xs.length xs.length)) (W.alloc (.cells inner.toArray e)))
  (GK:mV (d.M W base oC) d.sz xs inner) (hok: ∀k,oC k→ok k) (rI:ok W.heap.size) (HB:Below base w0 W) (hbase:base≤W.heap.size) (hm:xs.length≤9223372036854775807)
  (h: ∀v1 w1,d.R e w1 base ok v1 xs→Below base w0 w1→W.grownBy w1 none→(∃b,v1.ownBlock=some b∧W.heap.size≤b)→Kc (a.put o.dst v1) w1):if Region.wanted o (yielded ops a.tmps)=true then Oper.wp P o a W Kc Q else Kc (a.put o.dst undef) W:=by
 refine Pn hw hrun (h _ _ ⟨fun k hk=>?_,inner,?_,?_⟩ (HB.alloc hbase _) (World.grownBy_alloc W _ none) ⟨W.heap.size,by simp [Value.ownBlock],Nat.le_refl _⟩)
 ·have:W.heap.size=k:=by simpa [Value.ownBlock] using hk
  subst this
  exact rI
 ·have h2:=World.ownsRow_lit (base:=base) (e:=e) (size:=d.sz) W inner.toArray xs.length hbase (by simpa [maxLen] using hm) (by simpa using GK.1)
  simpa using h2
 ·refine GK.wD (fun p c hp=>d.oL (fun k hk=>⟨hok k hk.1,fun he=>?_⟩) (Zb (d.qk hp) (pG (Below.refl _ _) _)))
  have h3:k=W.heap.size:=by simpa [Value.ownBlock] using he
  have:=hk.2.2.1
  omega
theorem I3 (d:Kd α) {Rr:α→List Value→Prop} {w0 W:World} (base:Nat) (hw:Region.wanted o (yielded ops a.tmps)=true) (s x:Operand) (t e:TypeId) (z:Value) (bytes:Nat)
  (ho:o.op= .call { callee:= .builtin .append,args:= #[s,x],argTypes:= #[t,t]})
  (ht:P.underlying t=some (.slice e)) (hinfo:(P.info? e).map (fun i=>(i.zero,i.size,i.bytes))=some (some z,d.sz,bytes)) (hz:z.cells.size=d.sz) (hs0:0 < d.sz) (hb0:0 < bytes)
  (v:Value) (xs ys:List α) (A:Option Addr) (m c:Nat) (ok oC:Nat→Prop) (hs:a.eval s=v) (hx:a.eval x= .slice A m c)
  (HO:d.R e W base ok v xs) (HR:sQ Rr d.sz W A m ys) (hKM: ∀x cs,Rr x cs→d.M W base oC x cs) (y7: ∀k,oC k→ok k∧some k≠v.ownBlock) (rI: ∀k,W.heap.size≤k→ok k)
  (HB:Below base w0 W) (hbase:base≤W.heap.size) (hl:(xs.length+m)*bytes≤140737488355328)
  (h: ∀v1 w1,d.R e w1 base ok v1 (xs++ys)→Below base w0 w1→W.grownBy w1 v.ownBlock→(v1.ownBlock=v.ownBlock∨ ∃b,v1.ownBlock=some b∧W.heap.size≤b)→Kc (a.put o.dst v1) w1):
  if Region.wanted o (yielded ops a.tmps)=true then Oper.wp P o a W Kc Q else Kc (a.put o.dst undef) W:=by
 obtain⟨i0,hi,hzz⟩:=Option.map_eq_some_iff.1 hinfo
 simp only [Prod.mk.injEq] at hzz
 obtain⟨hz0,hz1,hz2⟩:=hzz
 have hm:ys.length=m:=HR.1
 have hlen:xs.length+m≤140737488355328:=Nat.le_trans (Nat.le_mul_of_pos_right _ hb0) hl
 obtain⟨hok,inner,hown,hr⟩:=HO
 have hrun: ∃v1 w1,(Builtin.append_ #[t,t] o.type #[v, .slice A m c]).run P W= .ok v1 w1∧d.R e w1 base ok v1 (xs++ys)∧W.grownBy w1 v.ownBlock∧(v1.ownBlock=v.ownBlock∨ ∃b,v1.ownBlock=some b∧W.heap.size≤b):=by
  rcases A with _ | ad
  ·have h0:m=0:=by
    rcases Nat.eq_zero_or_pos m with h0 | h0
    ·exact h0
    ·obtain⟨ad,h,_⟩:=HR.2.2 h0
     cases h
   subst h0
   obtain rfl:ys= []:=List.eq_nil_of_length_eq_zero hm
   refine⟨v,W,?_,by rw [List.append_nil];exact⟨hok,inner,hown,hr⟩,World.grownBy.refl W _, .inl rfl⟩
   rcases hown.2 with ⟨rfl,hn⟩ | ⟨g,cap,cur,rfl,_,_,hnc,_⟩
   ·simp [Builtin.append_,run_underlying ht,sizeOf,typeInfo,hi,Builtin.lenOf,Builtin.firstCells]
   ·simp [Builtin.append_,run_underlying ht,sizeOf,typeInfo,hi,Builtin.lenOf,Builtin.firstCells,hnc,storeCells]
  ·obtain⟨news,hnr,hnc⟩:=sQ.abz HR
   have hnM:mV (d.M W base oC) d.sz ys news:=hnr.wD (fun p c hp=>hKM p c hp)
   have hone: ∀u ∈ news,u.oneCell'=true:=by
    intro u hu
    obtain⟨q,hq,rfl⟩:=List.mem_iff_getElem.1 hu
    have hql:q / d.sz < ys.length:=by
     rw [Nat.div_lt_iff_lt_mul hs0]
     rw [← hnM.1]
     exact hq
    have hc:=hnM.2 (q / d.sz) _ (List.getElem?_eq_getElem hql)
    refine d.sV (d.qe hc) _ ?_
    rw [List.mem_iff_getElem?]
    refine⟨q % d.sz,?_⟩
    rw [List.getElem?_take,if_pos (Nat.mod_lt _ hs0),List.getElem?_drop,Nat.mul_comm,Nat.div_add_mod,List.getElem?_eq_getElem hq]
   obtain⟨v1,w1,hrun,h2,hg,_,hat⟩:=run_append_own_at (P:=P) W base t o.type e i0 z d.sz bytes ht hi hz0 hz1 hz2 hz hs0 v xs.length inner hown ad m c news (by rw [hnM.1,hm]) hnc hone (by simp only [maxLen];omega) hl hbase
   have hat':v1.ownBlock=v.ownBlock∨ ∃b,v1.ownBlock=some b∧W.heap.size≤b:=by
    rcases hat with hat | hat
    ·exact .inl hat
    ·exact .inr ⟨_,hat,Nat.le_refl _⟩
   have hne: ∀k,some k≠v.ownBlock→k < W.heap.size→some k≠v1.ownBlock:=by
    intro k hk hlt
    rcases hat' with hat | ⟨b,hb,hle⟩
    ·rw [hat];exact hk
    ·rw [hb]
     intro he
     injection he with he
     omega
   have step: ∀ {q:α} {c:List Value} {o:Nat→Prop},d.M W base o q c→(∀k,o k→ok k∧some k≠v.ownBlock)→d.M w1 base (fun k=>ok k∧some k≠v1.ownBlock) q c:=by
    intro q c o hq ho
    have h1:=d.qZ (w1:=w1) (fun k hk=>hg.block k hk.2.2.1 (ho k hk.1).2) (d.qk hq)
    exact d.oL (fun k hk=>⟨(ho k hk.1).1,hne k (ho k hk.1).2 hk.2.2.1⟩) h1
   refine⟨v1,w1,hrun,⟨fun k hk=>?_,inner++news,by rw [List.length_append,hm];exact h2,JB (hr.wD (fun _ _ hq=>step hq (fun _ hk=>hk))) (hnM.wD (fun _ _ hq=>step hq y7))⟩,hg,hat'⟩
   rcases hat' with hat | ⟨b,hb,hle⟩
   ·exact hok k (hat ▸ hk)
   ·rw [hb] at hk
    injection hk with hk
    exact rI k (by omega)
 obtain⟨v1,w1,hr1,h1,hg,hat⟩:=hrun
 rw [if_pos hw]
 unfold Oper.wp execOp
 simp only [ho,resolve,invoke,builtin,Sem.run_bind,Sem.run_pure,Result.andThen_ok,List.map_toArray,List.map_cons,List.map_nil,hs,hx,hr1]
 exact h v1 w1 h1 (HB.grown hg hbase (yY hown)) hg hat
end Kd
end
inductive K6 (P:Program) (tmps:Array Value) (w:World):List ResultVar→List Value→Prop where
  | nil:K6 P tmps w [] []
  | tmp {u:Tmp} {rs:List ResultVar} {vs:List Value} (h:K6 P tmps w rs vs):K6 P tmps w (.tmp u::rs) (tmps.getD u undef::vs)
  | cell {p:Tmp} {ty:TypeId} {rs:List ResultVar} {vs:List Value} (g:Nat) (t:TypeId) (cs:Array Value) (fr:Nat × Nat) (d:TypeDesc)
      (hp:tmps.getD p undef= .pointer (some ⟨g,0,none⟩)) (hg:w.heap[g]?=some (.cells cs t fr))
      (hu:P.underlying ty=some d) (hd:(match d with | .struct _ | .array _ _=>true | _=>false)=true) (hi:(P.info? ty).map (·.size)=some cs.size)
      (h:K6 P tmps w rs vs):K6 P tmps w (.cell p ty::rs) (.agg cs::vs)
section
variable {P:Program} {tmps:Array Value} {w:World}
theorem acH {rs:List ResultVar} {vs:List Value} (hv:K6 P tmps w rs vs) (f:ResultVar→Sem Value) (hf: ∀u,f (.tmp u)=pure (tmps.getD u undef)) (hc: ∀a t,f (.cell a t)=(do loadVar t (← asAddr (tmps.getD a undef)))):
  (rs.mapM f).run P w= .ok vs w:=by
 induction hv with
 | nil=>simp
 | tmp h ih=>simp [List.mapM_cons,hf,ih]
 | cell g t cs fr d hp hg hu hd hi h ih=>
  rw [List.mapM_cons,hc,hp]
  simp [asAddr,run_loadVar_row w g t _ cs fr d hg hu hd hi,ih]
theorem AO {fn:Func} {rs:List ResultVar} {vs:List Value} (h:fn.results=rs.toArray) (hl:vs.length≠1) (hv:K6 P tmps w rs vs):(results fn tmps).run P w= .ok (.tuple vs.toArray) w:=by
 unfold results
 rw [h,List.mapM_toArray]
 simp only [Sem.run_bind,Sem.run_map]
 rw [acH hv]
 ·simp [hl]
 ·intro u
  rfl
 ·intro a t
  rfl
end
namespace Kd
section
variable {P:Program} {α:Type}
end
section
variable {P:Program} {ops:Array Oper} {rest:List Oper} {o:Oper} {a:Act} {Q:Exit→Act→World→Prop} {Kc:Act→World→Prop} {α:Type}
end
end Kd
end Go.Proofs.Wz.cw
end
section
namespace Go.Proofs.Wz.fX
section
variable {P:Program} {ops:Array Oper} {Q:Exit→Act→World→Prop} {md:Region.Mode} {S:World→Prop} {ds:List Nat}
def Region.xW (md:Region.Mode) (ops:Array Oper) (i:Nat):Nat→Nat→Bool
 | 0,_=>false
 | fuel+1,d=>match ops[d]? with
  | some o=>o.after.any fun e=>Region.binds md e && (e.on==i || Region.xW md ops i fuel e.on)
  | none=>false
def Region.F8 (md:Region.Mode) (ops:Array Oper) (listed:Array Bool):Bool:=
 (List.range ops.size).all fun j=>!listed.getD j false || match ops[j]? with
  | some o=>o.after.all fun e=>!Region.binds md e || listed.getD e.on false
  | none=>true
def Region.su (md:Region.Mode) (ops:Array Oper) (listed:Array Bool) (ds:List Nat) (i:Nat):Bool:=
 ds.all fun d=>listed.getD d true || Region.xW md ops i ops.size d
def vS (md:Region.Mode) (ops:Array Oper) (listed:Array Bool):Prop:=
 ∀j oj,ops[j]?=some oj→listed.getD j false=true→ ∀e ∈ oj.after,Region.binds md e=true→listed.getD e.on false=true
theorem Region.V6 {listed:Array Bool} (h:Region.F8 md ops listed=true):vS md ops listed:=by
 intro j oj hj hl e he hb
 have hlt:j < ops.size:=(Array.getElem?_eq_some_iff.1 hj).1
 have h1:=List.all_eq_true.1 h j (List.mem_range.2 hlt)
 simp only [hl,hj,Bool.not_true,Bool.false_or] at h1
 have h2:=Array.all_eq_true_iff_forall_mem.1 h1 e he
 simpa [hb] using h2
theorem vS.set {listed:Array Bool} {i:Nat} (h:vS md ops listed) (hi:i ∈ Region.ready md ops listed):vS md ops (listed.setIfInBounds i true):=by
 obtain⟨_,oi,hoi,hall⟩:=mem_ready.1 hi
 intro j oj hj hl e he hb
 by_cases hij:i=j
 ·subst hij
  have:oj=oi:=Option.some.inj (hj.symm.trans hoi)
  subst this
  exact getD_set_true (hall e he hb)
 ·rw [getD_set_ne false hij] at hl
  exact getD_set_true (h j oj hj hl e he hb)
theorem Region.H9 {listed:Array Bool} {i:Nat} (hc:vS md ops listed): ∀(fuel d:Nat),Region.xW md ops i fuel d=true→listed.getD d false=true→listed.getD i false=true
 | 0,_,h,_=>by simp [Region.xW] at h
 | fuel+1,d,h,hl=>by
  unfold Region.xW at h
  cases ho:ops[d]? with
  | none=>rw [ho] at h;simp at h
  | some o=>
   rw [ho] at h
   obtain⟨e,he,h1⟩:=Array.any_eq_true'.1 h
   simp only [Bool.and_eq_true,Bool.or_eq_true,beq_iff_eq] at h1
   have hle:=hc d o ho hl e he h1.1
   rcases h1.2 with h2 | h2
   ·rw [← h2];exact hle
   ·exact Region.H9 hc fuel e.on h2 hle
theorem Region.O1 {listed:Array Bool} {i d fuel:Nat} (hc:vS md ops listed) (hr:Region.xW md ops i fuel d=true) (hun:listed.getD i true=false):d ∉ Region.ready md ops listed:=by
 intro hd
 obtain⟨_,o,ho,hall⟩:=mem_ready.1 hd
 have hi:listed.getD i false=true:=by
  cases fuel with
  | zero=>simp [Region.xW] at hr
  | succ n=>
   unfold Region.xW at hr
   rw [ho] at hr
   obtain⟨e,he,h1⟩:=Array.any_eq_true'.1 hr
   simp only [Bool.and_eq_true,Bool.or_eq_true,beq_iff_eq] at h1
   have hle:=hall e he h1.1
   rcases h1.2 with h2 | h2
   ·rw [← h2];exact hle
   ·exact Region.H9 hc n e.on h2 hle
 rcases Nat.lt_or_ge i listed.size with h' | h'
 ·simp [h'] at hun hi
  rw [hun] at hi
  cases hi
 ·simp [Array.getElem?_eq_none h'] at hun
def mw (P:Program) (md:Region.Mode) (ops:Array Oper) (Q:Exit→Act→World→Prop) (S:World→Prop) (ds:List Nat):Nat→Array Bool→Act→World→Prop
 | 0,listed,a,w=>Region.ready md ops listed= []∧Q .normal a w
 | fuel+1,listed,a,w=>
  (Region.ready md ops listed= []→Q .normal a w)∧
  ∀i ∈ Region.ready md ops listed,wpOp P ops Q i (fun a' w'=>(i ∉ ds→S w→S w')∧mw P md ops Q S ds fuel (listed.setIfInBounds i true) a' w') a w
theorem Hh: ∀(fuel:Nat) (listed:Array Bool) (a:Act) (w:World),mw P md ops Q S ds fuel listed a w→wpAny P md ops Q fuel listed a w
 | 0,_,_,_,h=>h
 | fuel+1,_,_,_,h=>⟨h.1,fun i hi=>wpOp_mono (fun a' w' h'=>Hh fuel _ a' w' h'.2) (h.2 i hi)⟩
theorem OT {i:Nat} {oi:Oper} {v:Value} (hi:ops[i]?=some oi) (hsel: ∀(j:Nat) (o:Oper) cs b,ops[j]?=some o→o.op≠ .select cs b)
  (hQ: ∀c a w,Q (.panic c) (a.put oi.dst v) w→Q (.panic c) a w) (n:Nat):
  ∀(fuel:Nat) (listed:Array Bool) (a:Act) (w:World),
   (∀j oj,ops[j]?=some oj→j≠i→listed.getD j true=false→(∀e ∈ oj.after,Region.binds md e=true→e.on≠i)→oi.apart ops oj=true)→
   vS md ops listed→(∀d ∈ ds,listed.getD d true=false→Region.xW md ops i n d=true)→
   i ∈ Region.ready md ops listed→YieldsIf P ops S oi v a→S w→
   mw P md ops Q S ds fuel (listed.setIfInBounds i true) (a.put oi.dst v) w→mw P md ops Q S ds (fuel+1) listed a w:=by
 intro fuel
 induction fuel with
 | zero=>
  intro listed a w _ _ _ hr hy hS H
  refine⟨fun h=>(by rw [h] at hr;cases hr),fun j hj=>?_⟩
  by_cases hji:j=i
  ·subst hji;exact hy.wpOp hi hS ⟨fun _ h=>h,H⟩
  ·have:=ready_mono hj hji
   rw [H.1] at this
   cases this
 | succ fuel ih=>
  intro listed a w hfree hc hd hr hy hS H
  refine⟨fun h=>(by rw [h] at hr;cases hr),fun j hj=>?_⟩
  by_cases hji:j=i
  ·subst hji;exact hy.wpOp hi hS ⟨fun _ h=>h,H⟩
  ·have h1:=H.2 j (ready_mono hj hji)
   obtain⟨hjun,oj,hoj,hall⟩:=mem_ready.1 hj
   have QF:=(mem_ready.1 hr).1
   have hnot: ∀e ∈ oj.after,Region.binds md e=true→e.on≠i:=fun e he hb heq=>by
    have h1:=hall e he hb
    rw [heq] at h1
    rcases Nat.lt_or_ge i listed.size with h' | h'
    ·simp [h'] at QF h1;rw [QF] at h1;cases h1
    ·simp [Array.getElem?_eq_none h'] at h1
   have hjd:j ∉ ds:=fun hm=>Region.O1 hc (hd j hm hjun) QF hj
   have h2:=wpOp_putIf hoj (hfree j oj hoj hji hjun hnot) (fun cs b=>hsel i oi cs b hi) (fun cs b=>hsel j oj cs b hoj) hQ hy h1
   have hfree': ∀k ok,ops[k]?=some ok→k≠i→(listed.setIfInBounds j true).getD k true=false→
     (∀e ∈ ok.after,Region.binds md e=true→e.on≠i)→oi.apart ops ok=true:=fun k ok hk hki hun hno=>by
    refine hfree k ok hk hki ?_ hno
    by_cases hjk:j=k
    ·subst hjk;exact hjun
    ·rw [getD_set_ne true hjk] at hun;exact hun
   have hd': ∀d ∈ ds,(listed.setIfInBounds j true).getD d true=false→Region.xW md ops i n d=true:=fun d hm hun=>by
    refine hd d hm ?_
    by_cases hjk:j=d
    ·subst hjk;exact hjun
    ·rw [getD_set_ne true hjk] at hun;exact hun
   refine wpOp_mono (fun a' w' h3=>⟨h3.2.1,ih (listed.setIfInBounds j true) a' w' hfree' (hc.set hj) hd' (ready_mono hr (Ne.symm hji)) h3.1 (h3.2.1 hjd hS) ?_⟩) h2
   rw [Array.setIfInBounds_comm _ _ hji]
   exact h3.2.2
theorem RO {i:Nat} {oi:Oper} {v:Value} (hi:ops[i]?=some oi) (hsel: ∀(j:Nat) (o:Oper) cs b,ops[j]?=some o→o.op≠ .select cs b)
  (hQ: ∀c a w,Q (.panic c) (a.put oi.dst v) w→Q (.panic c) a w):
  ∀(fuel:Nat) (listed:Array Bool) (a:Act) (w:World),
   (∀j oj,ops[j]?=some oj→j≠i→listed.getD j true=false→(∀e ∈ oj.after,Region.binds md e=true→e.on≠i)→oi.apart ops oj=true)→
   i ∈ Region.ready md ops listed→Yields P ops oi v a→
   mw P md ops Q S ds fuel (listed.setIfInBounds i true) (a.put oi.dst v) w→mw P md ops Q S ds (fuel+1) listed a w:=by
 intro fuel
 induction fuel with
 | zero=>
  intro listed a w _ hr hy H
  refine⟨fun h=>(by rw [h] at hr;cases hr),fun j hj=>?_⟩
  by_cases hji:j=i
  ·subst hji;exact(hy.yieldsIf (S:=fun _=>True)).wpOp hi trivial ⟨fun _ h=>h,H⟩
  ·have:=ready_mono hj hji
   rw [H.1] at this
   cases this
 | succ fuel ih=>
  intro listed a w hfree hr hy H
  refine⟨fun h=>(by rw [h] at hr;cases hr),fun j hj=>?_⟩
  by_cases hji:j=i
  ·subst hji;exact(hy.yieldsIf (S:=fun _=>True)).wpOp hi trivial ⟨fun _ h=>h,H⟩
  ·have h1:=H.2 j (ready_mono hj hji)
   obtain⟨hjun,oj,hoj,hall⟩:=mem_ready.1 hj
   have QF:=(mem_ready.1 hr).1
   have hnot: ∀e ∈ oj.after,Region.binds md e=true→e.on≠i:=fun e he hb heq=>by
    have h1:=hall e he hb
    rw [heq] at h1
    rcases Nat.lt_or_ge i listed.size with h' | h'
    ·simp [h'] at QF h1;rw [QF] at h1;cases h1
    ·simp [Array.getElem?_eq_none h'] at h1
   have h2:=wpOp_put hoj (hfree j oj hoj hji hjun hnot) (fun cs b=>hsel i oi cs b hi) (fun cs b=>hsel j oj cs b hoj) hQ hy h1
   have hfree': ∀k ok,ops[k]?=some ok→k≠i→(listed.setIfInBounds j true).getD k true=false→
     (∀e ∈ ok.after,Region.binds md e=true→e.on≠i)→oi.apart ops ok=true:=fun k ok hk hki hun hno=>by
    refine hfree k ok hk hki ?_ hno
    by_cases hjk:j=k
    ·subst hjk;exact hjun
    ·rw [getD_set_ne true hjk] at hun;exact hun
   refine wpOp_mono (fun a' w' h3=>⟨h3.2.1,ih (listed.setIfInBounds j true) a' w' hfree' (ready_mono hr (Ne.symm hji)) h3.1 ?_⟩) h2
   rw [Array.setIfInBounds_comm _ _ hji]
   exact h3.2.2
theorem Qg {i:Nat} {oi:Oper} {v:Value} {fuel:Nat} {listed:Array Bool} {a:Act} {w:World} (hi:ops[i]?=some oi)
  (hs:Region.noSelect ops=true) (hf:Region.free md ops listed i=true) (hr:(Region.ready md ops listed).contains i=true)
  (hc:Region.F8 md ops listed=true) (hl:Region.su md ops listed ds i=true)
  (hQ: ∀c a w,Q (.panic c) (a.put oi.dst v) w→Q (.panic c) a w) (hy:YieldsIf P ops S oi v a) (hS:S w)
  (h:mw P md ops Q S ds fuel (listed.setIfInBounds i true) (a.put oi.dst v) w):mw P md ops Q S ds (fuel+1) listed a w:=
 OT hi (Region.noSelect_spec hs) hQ ops.size fuel listed a w (Region.free_spec hi hf) (Region.V6 hc)
  (fun d hm hun=>by have:=List.all_eq_true.1 hl d hm;rw [hun] at this;simpa using this) (by simpa using hr) hy hS h
theorem RR {rs:List Nat} {fuel:Nat} {listed:Array Bool} {a:Act} {w:World} (hr:Region.ready md ops listed=rs) (hne:rs≠ [])
  (h: ∀i ∈ rs,wpOp P ops Q i (fun a' w'=>(i ∉ ds→S w→S w')∧mw P md ops Q S ds fuel (listed.setIfInBounds i true) a' w') a w):mw P md ops Q S ds (fuel+1) listed a w:=
 ⟨fun h0=>absurd (hr ▸ h0) hne,hr ▸ h⟩
theorem Qh {listed:Array Bool} {a:Act} {w:World} (hr:Region.ready md ops listed= []) (h:Q .normal a w):
  ∀fuel,mw P md ops Q S ds fuel listed a w
 | 0=>⟨hr,h⟩
 | _+1=>⟨fun _=>h,by rw [hr];simp⟩
theorem Qf {id:Nat} {a:Act} {w:World} (hm:P.follows .mixedOrders=true)
  (h:mw P .any ops Q S ds ops.size (Array.replicate ops.size false) a { w with drawn:=w.drawn+1}):(Code.region id ops true).wp P Q a w:=
 wp_region_any hm (Hh _ _ _ _ h)
end
section
variable {P:Program} {ops:Array Oper} {Q:Exit→Act→World→Prop} {md:Region.Mode} {S:World→Prop} {ds:List Nat}
def qu (P:Program) (md:Region.Mode) (ops:Array Oper) (Q:Exit→Act→World→Prop) (S:World→Prop) (ds:List Nat) (fuel:Nat) (listed:Array Bool) (a:Act) (w:World) (rs:List Nat):Prop:=
 ∀i ∈ rs,wpOp P ops Q i (fun a' w'=>(i ∉ ds→S w→S w')∧mw P md ops Q S ds fuel (listed.setIfInBounds i true) a' w') a w
theorem qu.nil {fuel:Nat} {listed:Array Bool} {a:Act} {w:World}:qu P md ops Q S ds fuel listed a w []:=fun _ h=>by cases h
theorem qu.cons {fuel:Nat} {listed:Array Bool} {a:Act} {w:World} {i:Nat} {o:Oper} {rs:List Nat} (ho:ops[i]?=some o) (hd:i ∉ ds)
  (h: ∀K':Act→World→Prop,Shut (∀a w,S w→(S w→mw P md ops Q S ds fuel (listed.setIfInBounds i true) a w)→K' a w)→if Region.wanted o (yielded ops a.tmps)=true then Oper.wp P o a w K' Q else K' (a.put o.dst undef) w)
  (hs:qu P md ops Q S ds fuel listed a w rs):qu P md ops Q S ds fuel listed a w (i::rs):=fun j hj=>by
 rcases List.mem_cons.1 hj with rfl | hj
 ·exact wpOp_step ho (fun K' hK=>h K' (fun a w hS hW=>hK a w ⟨fun _ _=>hS,hW hS⟩))
 ·exact hs j hj
theorem qu.abQ {fuel:Nat} {listed:Array Bool} {a:Act} {w:World} {i:Nat} {o:Oper} {rs:List Nat} (ho:ops[i]?=some o) (hd:i ∈ ds)
  (h: ∀K':Act→World→Prop,Shut (∀a w,mw P md ops Q S ds fuel (listed.setIfInBounds i true) a w→K' a w)→if Region.wanted o (yielded ops a.tmps)=true then Oper.wp P o a w K' Q else K' (a.put o.dst undef) w)
  (hs:qu P md ops Q S ds fuel listed a w rs):qu P md ops Q S ds fuel listed a w (i::rs):=fun j hj=>by
 rcases List.mem_cons.1 hj with rfl | hj
 ·exact wpOp_step ho (fun K' hK=>h K' (fun a w hW=>hK a w ⟨fun hn=>absurd hd hn,hW⟩))
 ·exact hs j hj
theorem yL {rs:List Nat} {fuel:Nat} {listed:Array Bool} {a:Act} {w:World} (hr:Region.ready md ops listed=rs) (hne:rs≠ [])
  (h:qu P md ops Q S ds fuel listed a w rs):mw P md ops Q S ds (fuel+1) listed a w:=RR hr hne h
theorem aiz {id n:Nat} {a:Act} {w:World} (l:Array Bool) (hm:P.follows .mixedOrders=true) (hn:ops.size=n) (hl:Array.replicate n false=l) (hS:S w.drew)
  (h:S w.drew→mw P .any ops Q S ds n l a w.drew):(Code.region id ops true).wp P Q a w:=by
 subst hn
 subst hl
 exact Qf hm (h hS)
def I9 (md:Region.Mode) (ops:Array Oper) (ds:List Nat) (l l':Array Bool) (i:Nat):Bool:=
 Region.noSelect ops && Region.free md ops l i && (Region.ready md ops l).contains i && Region.F8 md ops l && Region.su md ops l ds i && (l.setIfInBounds i true==l')
theorem Zv {i:Nat} {N:Option Tmp} {oi:Oper} {v:Value} {fuel:Nat} {l:Array Bool} {a:Act} {w:World} (l':Array Bool) (hi:ops[i]?=some oi) (hN:oi.dst=N) (hc:I9 md ops ds l l' i=true)
  (hQ: ∀c a w,Q (.panic c) (a.put oi.dst v) w→Q (.panic c) a w) (hy:YieldsIf P ops S oi v a) (hS:S w) {a':Act} (ha:a.put N v=a')
  (h:mw P md ops Q S ds fuel l' a' w):mw P md ops Q S ds (fuel+1) l a w:=by
 subst ha
 subst hN
 simp only [I9,Bool.and_eq_true,beq_iff_eq] at hc
 obtain⟨⟨⟨⟨⟨h1,h2⟩,h3⟩,h4⟩,h5⟩,h6⟩:=hc
 subst h6
 exact Qg hi h1 h2 h3 h4 h5 hQ hy hS h
def Ae (md:Region.Mode) (ops:Array Oper) (l l':Array Bool) (i:Nat):Bool:=
 Region.noSelect ops && Region.free md ops l i && (Region.ready md ops l).contains i && (l.setIfInBounds i true==l')
theorem afy {i:Nat} {N:Option Tmp} {oi:Oper} {v:Value} {fuel:Nat} {l:Array Bool} {a:Act} {w:World} (l':Array Bool) (hi:ops[i]?=some oi) (hN:oi.dst=N) (hc:Ae md ops l l' i=true)
  (hQ: ∀c a w,Q (.panic c) (a.put oi.dst v) w→Q (.panic c) a w) (hy:Yields P ops oi v a) {a':Act} (ha:a.put N v=a')
  (h:mw P md ops Q S ds fuel l' a' w):mw P md ops Q S ds (fuel+1) l a w:=by
 subst ha
 subst hN
 simp only [Ae,Bool.and_eq_true,beq_iff_eq] at hc
 obtain⟨⟨⟨h1,h2⟩,h3⟩,h6⟩:=hc
 subst h6
 exact RO hi (Region.noSelect_spec h1) hQ fuel l a w (Region.free_spec hi h2) (by simpa using h3) hy h
def Ck (md:Region.Mode) (ops:Array Oper) (l l':Array Bool) (i:Nat):Bool:=(Region.ready md ops l== [i]) && (l.setIfInBounds i true==l')
theorem adZ {i:Nat} {N:Option Tmp} {oi:Oper} {fuel:Nat} {l:Array Bool} {a:Act} {w:World} (l':Array Bool) (hi:ops[i]?=some oi) (hN:oi.dst=N) (hc:Ck md ops l l' i=true) (hd:i ∉ ds)
  (h: ∀K:Act→World→Prop,Shut (∀a' w',S w'→(S w'→mw P md ops Q S ds fuel l' a' w')→K a' w')→if Region.wanted oi (yielded ops a.tmps)=true then Oper.wp P oi a w K Q else K (a.put N undef) w):
  mw P md ops Q S ds (fuel+1) l a w:=by
 subst hN
 simp only [Ck,Bool.and_eq_true,beq_iff_eq] at hc
 obtain⟨h1,h2⟩:=hc
 subst h2
 exact yL h1 (by simp) (qu.cons hi hd (fun K hK=>h K hK) qu.nil)
theorem GI {i:Nat} {N:Option Tmp} {oi:Oper} {fuel:Nat} {l:Array Bool} {a:Act} {w:World} (l':Array Bool) (hi:ops[i]?=some oi) (hN:oi.dst=N) (hc:Ck md ops l l' i=true) (hd:i ∈ ds)
  (h: ∀K:Act→World→Prop,Shut (∀a' w',mw P md ops Q S ds fuel l' a' w'→K a' w')→if Region.wanted oi (yielded ops a.tmps)=true then Oper.wp P oi a w K Q else K (a.put N undef) w):
  mw P md ops Q S ds (fuel+1) l a w:=by
 subst hN
 simp only [Ck,Bool.and_eq_true,beq_iff_eq] at hc
 obtain⟨h1,h2⟩:=hc
 subst h2
 exact yL h1 (by simp) (qu.abQ hi hd (fun K hK=>h K hK) qu.nil)
theorem oA {l:Array Bool} {a:Act} {w:World} {n:Nat} (hr:(Region.ready md ops l== [])=true) (h:Q .normal a w):mw P md ops Q S ds n l a w:=Qh (by simpa using hr) h n
theorem Gq {i j:Nat} {Ni Nj:Option Tmp} {oi oj:Oper} {fuel:Nat} {l:Array Bool} {a:Act} {w:World} (li lj:Array Bool) (hi:ops[i]?=some oi) (hj:ops[j]?=some oj) (hNi:oi.dst=Ni) (hNj:oj.dst=Nj)
  (hc:(Region.ready md ops l== [i,j] && l.setIfInBounds i true==li && l.setIfInBounds j true==lj)=true) (hdi:i ∉ ds) (hdj:j ∉ ds)
  (h1: ∀K:Act→World→Prop,Shut (∀a' w',S w'→(S w'→mw P md ops Q S ds fuel li a' w')→K a' w')→if Region.wanted oi (yielded ops a.tmps)=true then Oper.wp P oi a w K Q else K (a.put Ni undef) w)
  (h2: ∀K:Act→World→Prop,Shut (∀a' w',S w'→(S w'→mw P md ops Q S ds fuel lj a' w')→K a' w')→if Region.wanted oj (yielded ops a.tmps)=true then Oper.wp P oj a w K Q else K (a.put Nj undef) w):
  mw P md ops Q S ds (fuel+1) l a w:=by
 subst hNi
 subst hNj
 simp only [Bool.and_eq_true,beq_iff_eq] at hc
 obtain⟨⟨h3,h4⟩,h5⟩:=hc
 subst h4
 subst h5
 exact yL h3 (by simp) (qu.cons hi hdi (fun K hK=>h1 K hK) (qu.cons hj hdj (fun K hK=>h2 K hK) qu.nil))
theorem aiv {i j k:Nat} {Ni Nj Nk:Option Tmp} {oi oj ok:Oper} {fuel:Nat} {l:Array Bool} {a:Act} {w:World} (li lj lk:Array Bool) (hi:ops[i]?=some oi) (hj:ops[j]?=some oj) (hk:ops[k]?=some ok) (hNi:oi.dst=Ni) (hNj:oj.dst=Nj) (hNk:ok.dst=Nk)
  (hc:(Region.ready md ops l== [i,j,k] && l.setIfInBounds i true==li && l.setIfInBounds j true==lj && l.setIfInBounds k true==lk)=true) (hdi:i ∉ ds) (hdj:j ∉ ds) (hdk:k ∉ ds)
  (h1: ∀K:Act→World→Prop,Shut (∀a' w',S w'→(S w'→mw P md ops Q S ds fuel li a' w')→K a' w')→if Region.wanted oi (yielded ops a.tmps)=true then Oper.wp P oi a w K Q else K (a.put Ni undef) w)
  (h2: ∀K:Act→World→Prop,Shut (∀a' w',S w'→(S w'→mw P md ops Q S ds fuel lj a' w')→K a' w')→if Region.wanted oj (yielded ops a.tmps)=true then Oper.wp P oj a w K Q else K (a.put Nj undef) w)
  (h3: ∀K:Act→World→Prop,Shut (∀a' w',S w'→(S w'→mw P md ops Q S ds fuel lk a' w')→K a' w')→if Region.wanted ok (yielded ops a.tmps)=true then Oper.wp P ok a w K Q else K (a.put Nk undef) w):
  mw P md ops Q S ds (fuel+1) l a w:=by
 subst hNi
 subst hNj
 subst hNk
 simp only [Bool.and_eq_true,beq_iff_eq] at hc
 obtain⟨⟨⟨h4,h5⟩,h6⟩,h7⟩:=hc
 subst h5
 subst h6
 subst h7
 exact yL h4 (by simp) (qu.cons hi hdi (fun K hK=>h1 K hK) (qu.cons hj hdj (fun K hK=>h2 K hK) (qu.cons hk hdk (fun K hK=>h3 K hK) qu.nil)))
def nY:Act→List (Tmp × Value)→Act
 | a, []=>a
 | a,(n,v)::r=>nY (a.put (some n) v) r
theorem zR {σ:Type} {fuel:Nat} {l:Array Bool} {a:Act} {w:World} (fuel':Nat) (l':Array Bool) (ns:σ→List (Tmp × Value)) (F:σ→World→Prop)
  (ak8: ∀s w',F s w'→mw P md ops Q S ds fuel' l' (nY a (ns s)) w')
  (h:(∀s w',F s w'→mw P md ops Q S ds fuel' l' (nY a (ns s)) w')→mw P md ops Q S ds fuel l a w):mw P md ops Q S ds fuel l a w:=h ak8
theorem mP {fuel:Nat} {l:Array Bool} {a a':Act} {w:World} (ha:a=a') (h:mw P md ops Q S ds fuel l a' w):mw P md ops Q S ds fuel l a w:=by
 subst ha
 exact h
theorem call_ {oi:Oper} {N:Option Tmp} {a:Act} {w:World} {K:Act→World→Prop} (f:FuncId) (args:Array Value) (hw:Region.wanted oi (yielded ops a.tmps)=true) (hN:oi.dst=N) (hrun:(execOp a.eval oi).run P w= .ok (.enter f args) w)
  (h:Calls P f args w fun e w'=> ∃v,e= .returned v∧K (a.put N v) w'):if Region.wanted oi (yielded ops a.tmps)=true then Oper.wp P oi a w K Q else K (a.put N undef) w:=by
 rw [if_pos hw]
 subst hN
 unfold Oper.wp
 rw [hrun,Oper.upon_enter]
 refine h.mono fun e w'' hh=>?_
 obtain⟨v,rfl,hk⟩:=hh
 exact hk
theorem YU {f:FuncId} {fn:Func} (hf:P.funcs[f]?=some fn) (hname:(fn.name== "runtime.NumGoroutine")=false) (hb:fn.body.isSome=true) (args:Array Value) (w:World):(callFunc f args).run P w= .ok (.enter f args) w:=by
 have h1:fn.name≠ "runtime.NumGoroutine" :=by simpa using hname
 obtain⟨c,hc⟩:=Option.isSome_iff_exists.1 hb
 simp [callFunc,hf,h1,hc]
theorem sH {oi:Oper} {N:Option Tmp} {a:Act} {w:World} {K:Act→World→Prop} {f:FuncId} {fn:Func} {Wg:Array Operand} {ts:Array TypeId} (hf:P.funcs[f]?=some fn) (hname:(fn.name== "runtime.NumGoroutine")=false) (hb:fn.body.isSome=true) (args:Array Value)
  (hw:Region.wanted oi (yielded ops a.tmps)=true) (hN:oi.dst=N) (hop:oi.op= .call { callee:= .value (.func f),args:=Wg,argTypes:=ts}) (hargs:Wg.map a.eval=args)
  (h:Calls P f args w fun e w'=> ∃v,e= .returned v∧K (a.put N v) w'):if Region.wanted oi (yielded ops a.tmps)=true then Oper.wp P oi a w K Q else K (a.put N undef) w:=by
 refine call_ f args hw hN ?_ h
 have he:=YU hf hname hb args w
 unfold execOp
 simp [hop,resolve,Deferred.ofValue,invoke,Act.eval,hargs,he]
theorem VF {rest:List Oper} {oi:Oper} {a:Act} {w:World} (N:Option Tmp) (hd:oi.dst=N) (hg:oi.guard=none) {f:FuncId} {fn:Func} {Wg:Array Operand} {ts:Array TypeId} (hf:P.funcs[f]?=some fn) (hname:(fn.name== "runtime.NumGoroutine")=false) (hb:fn.body.isSome=true) (args:Array Value)
  (hop:oi.op= .call { callee:= .value (.func f),args:=Wg,argTypes:=ts}) (hargs:Wg.map a.eval=args)
  (h:Calls P f args w fun e w'=> ∃v,e= .returned v∧wpList P ops Q rest (a.put N v) w'):wpList P ops Q (oi::rest) a w:=by
 refine wpList_plain hg fun K hK=>?_
 have he:=YU hf hname hb args w
 have hrun:(execOp a.eval oi).run P w= .ok (.enter f args) w:=by
  unfold execOp
  simp [hop,resolve,Deferred.ofValue,invoke,Act.eval,hargs,he]
 unfold Oper.wp
 rw [hrun,Oper.upon_enter]
 refine h.mono fun e w'' hh=>?_
 obtain⟨v,rfl,hk⟩:=hh
 subst hd
 exact hK _ _ hk
theorem DG {oi:Oper} {N:Option Tmp} {a:Act} {w w1:World} {v:Value} {K:Act→World→Prop} (hw:Region.wanted oi (yielded ops a.tmps)=true) (hN:oi.dst=N) (hrun:(execOp a.eval oi).run P w= .ok (.value v) w1)
  (h:K (a.put N v) w1):if Region.wanted oi (yielded ops a.tmps)=true then Oper.wp P oi a w K Q else K (a.put N undef) w:=by
 rw [if_pos hw]
 subst hN
 unfold Oper.wp
 rw [hrun]
 exact h
theorem rL {oi:Oper} {a:Act} {w w1:World} {K:Act→World→Prop} (hw:Region.wanted oi (yielded ops a.tmps)=true) (hN:oi.dst=none) (hrun:(execOp a.eval oi).run P w= .ok .skip w1)
  (h:K a w1):if Region.wanted oi (yielded ops a.tmps)=true then Oper.wp P oi a w K Q else K (a.put none undef) w:=by
 rw [if_pos hw]
 unfold Oper.wp
 rw [hrun]
 show K (a.put oi.dst undef) w1
 rw [hN]
 exact h
theorem mT (n:Int):IntKind.i64.wrap n=Go.RowKit.wrap64 n:=by unfold Go.RowKit.wrap64;exact IntKind.wrap_i64 n
theorem nr (n:Int):IntKind.i32.wrap n=Go.RowKit.wrap32 n:=by unfold Go.RowKit.wrap32;exact IntKind.wrap_i32 n
end
end Go.Proofs.Wz.fX
end
section
namespace Go.Proofs.Wz.cw
open Go.RowKit
namespace Kd
section
variable {α:Type} {d:Kd α} {e base g o n cap:Nat} {ok oC:Nat→Prop} {w W:World} {v:Value} {xs:List α}
theorem aq2 (h:d.Q e w base ok v xs) (hp:0 < xs.length): ∃g o cap,v= .slice (some ⟨g,o,none⟩) xs.length cap∧base≤g∧g < w.heap.size∧ ∃cells,w.heap[g]?=some (.cells cells e (0,0)):=by
 obtain⟨h0,inner,hq,hr⟩:=h
 rcases hq.2 with ⟨h1,_⟩ | ⟨g,off,cap,cur,rfl,hb,hh,r⟩
 ·omega
 ·exact⟨g,off*d.sz,cap,rfl,hb,pq hh,cur,hh⟩
theorem ach (h:d.Q e W base ok (.slice (some ⟨g,o,none⟩) n cap) xs) (z:α) (i:Int) (h0:0≤i) (h1:i < n):
  ∃c,c.length=d.sz∧d.M W base (fun k=>ok k∧k≠g) (xs.getD i.toNat z) c∧(∀j u,c[j]?=some u→W.cell? ⟨g,o+i.toNat*d.sz+j,none⟩=some u)∧ ∀j,W.frozen? ⟨g,o+i.toNat*d.sz+j,none⟩=false:=by
 obtain⟨hn,hnc,hC⟩:=K9 h
 obtain⟨_,inner,ho,hr⟩:=h
 have hil:i.toNat < xs.length:=by omega
 have Vu:i.toNat*d.sz+d.sz≤inner.length:=by rw [hr.1, ← Nat.succ_mul];exact Nat.mul_le_mul_right _ hil
 have hM:=hr.2 i.toNat _ (List.getElem?_eq_getElem hil)
 refine⟨(inner.drop (i.toNat*d.sz)).take d.sz,by rw [List.length_take,List.length_drop];omega,?_,fun j u hu=>?_,fun j=>?_⟩
 ·rw [List.getD_eq_getElem?_getD,List.getElem?_eq_getElem hil]
  exact d.oL (fun k hk=>⟨hk.1,fun he=>hk.2 (by rw [he];simp [Value.ownBlock])⟩) hM
 ·rw [List.getElem?_take] at hu
  split at hu
  ·rw [List.getElem?_drop] at hu
   subst hn
   obtain⟨ad,he,hc⟩:=Yi ho (by omega)
   injection he with he
   subst he
   have:=hc _ u hu
   rwa [PZ, ← Nat.add_assoc] at this
  ·cases hu
 ·obtain⟨_,cells,hc⟩:=Jd ho g (by simp [Value.ownBlock])
  exact gE hc _
theorem alF (h:d.Q e W base ok (.slice (some ⟨g,o,none⟩) n cap) xs) (i:Int) (h0:0≤i) (h1:i < n) {c seg:List Value} {j:Nat} (hcl:c.length=d.sz) (hcc: ∀j u,c[j]?=some u→W.cell? ⟨g,o+i.toNat*d.sz+j,none⟩=some u)
  (hj:j+seg.length≤d.sz) {x':α} (hM:d.M W base oC x' (c.take j++seg++c.drop (j+seg.length))) (y7: ∀k,oC k→ok k∧k≠g):
  d.Q e (W.setCells g (o+i.toNat*d.sz+j) seg) base ok (.slice (some ⟨g,o,none⟩) n cap) (xs.set i.toNat x')∧W.grownBy (W.setCells g (o+i.toNat*d.sz+j) seg) (some g):=by
 obtain⟨hn,hnc,_⟩:=K9 h
 obtain⟨hok,inner,ho,hr⟩:=h
 have hil:i.toNat < xs.length:=by omega
 have Vu:i.toNat*d.sz+d.sz≤inner.length:=by rw [hr.1, ← Nat.succ_mul];exact Nat.mul_le_mul_right _ hil
 have hin:inner.length=n*d.sz:=by rw [hr.1,hn]
 obtain⟨ho1,ho2⟩:=ho
 rcases ho2 with ⟨hz,_⟩ | ⟨g',off,cap',cur,hv,hb,hh,asS,hcm,hcs,ht⟩
 ·omega
 injection hv with ha _ hc
 injection ha with ha
 injection ha with hg hoff
 subst hg;subst hc;subst hoff
 have hcap:n*d.sz≤cap*d.sz:=Nat.mul_le_mul_right _ hnc
 have hcs':cur.size=off*d.sz+cap*d.sz:=by rw [hcs,Nat.add_mul]
 have hfit:off*d.sz+i.toNat*d.sz+j+seg.length≤cur.size:=by omega
 obtain⟨cur',h3,h4,h5⟩:=Hy seg (off*d.sz+i.toNat*d.sz+j) W cur hh hfit
 obtain⟨s1,s2,s3,s4⟩:=Ho g seg (off*d.sz+i.toNat*d.sz+j) W
 have aei: ∀k,k≠g→(W.setCells g (off*d.sz+i.toNat*d.sz+j) seg).heap[k]?=W.heap[k]?:=fun k hk=>Hz seg _ k hk
 rw [← hn] at ht
 have hat: ∀q,q < n*d.sz→cur.toList[off*d.sz+q]?=inner[q]?:=by
  intro q hq
  rw [← ht,List.getElem?_take,if_pos hq,List.getElem?_drop]
 have hcin: ∀q,q < d.sz→c[q]?=inner[i.toNat*d.sz+q]?:=by
  intro q hq
  have hq':q < c.length:=by omega
  have h6:=hcc q _ (List.getElem?_eq_getElem hq')
  rw [cell_of_row W g _ cur e (0,0) hh] at h6
  rw [List.getElem?_eq_getElem hq', ← h6, ← hat _ (by omega),Array.getElem?_toList,Nat.add_assoc]
 refine⟨⟨hok,inner.take (i.toNat*d.sz+j)++seg++inner.drop (i.toNat*d.sz+j+seg.length),⟨?_, .inr ⟨g,off,cap,cur',by rw [List.length_set,hn],hb,h3,by rw [List.length_set, ← hn];exact hnc,hcm,by rw [h4,hcs],?_⟩⟩,?_⟩,
  ⟨s1,s2,s3,by rw [s4];exact Nat.le_refl _,fun k _ hk=>aei k (fun he=>hk (by rw [he]))⟩⟩
 ·rw [List.length_set]
  simp only [List.length_append,List.length_take,List.length_drop]
  rw [hr.1] at Vu ⊢
  omega
 ·rw [List.length_set, ← hn]
  apply List.ext_getElem?
  intro q
  rw [List.getElem?_take,List.getElem?_drop,h5]
  rw [Fv cur.toList seg (off*d.sz+i.toNat*d.sz+j) (by rw [Array.length_toList];omega) (off*d.sz+q),Fv inner seg (i.toNat*d.sz+j) (by omega) q]
  by_cases hq:q < n*d.sz
  ·rw [if_pos hq]
   by_cases hq1:q < i.toNat*d.sz+j
   ·rw [if_pos (by omega),if_pos hq1,hat q hq]
   ·rw [if_neg (by omega),if_neg hq1]
    by_cases hq2:q < i.toNat*d.sz+j+seg.length
    ·rw [if_pos (by omega),if_pos hq2]
     congr 1
     omega
    ·rw [if_neg (by omega),if_neg hq2,hat q hq]
  ·rw [if_neg hq,if_neg (by omega),if_neg (by omega),List.getElem?_eq_none (by omega)]
 ·refine⟨?_,fun m p hm=>?_⟩
  ·rw [List.length_set]
   simp only [List.length_append,List.length_take,List.length_drop]
   rw [hr.1] at Vu ⊢
   omega
  ·have hml:m < xs.length:=by
    have:=(List.getElem?_eq_some_iff.1 hm).1
    rwa [List.length_set] at this
   have arM:m*d.sz+d.sz≤inner.length:=by rw [hr.1, ← Nat.succ_mul];exact Nat.mul_le_mul_right _ hml
   have hgo:some g=(Value.slice (some ⟨g,off*d.sz,none⟩) n cap).ownBlock:=by simp [Value.ownBlock]
   by_cases hmi:m=i.toNat
   ·subst hmi
    rw [List.getElem?_set_self (by omega)] at hm
    injection hm with hm
    subst hm
    have hcells:((inner.take (i.toNat*d.sz+j)++seg++inner.drop (i.toNat*d.sz+j+seg.length)).drop (i.toNat*d.sz)).take d.sz=c.take j++seg++c.drop (j+seg.length):=by
     apply List.ext_getElem?
     intro q
     rw [List.getElem?_take,List.getElem?_drop,Fv inner seg _ (by omega),Fv c seg j (by omega) q]
     by_cases hq:q < d.sz
     ·rw [if_pos hq,hcin q hq]
      by_cases hq1:q < j
      ·rw [if_pos (by omega),if_pos hq1]
      ·rw [if_neg (by omega),if_neg hq1]
       by_cases hq2:q < j+seg.length
       ·rw [if_pos (by omega),if_pos hq2]
        congr 1
        omega
       ·rw [if_neg (by omega),if_neg hq2]
     ·rw [if_neg hq,if_neg (by omega),if_neg (by omega),List.getElem?_eq_none (by omega)]
    rw [hcells]
    refine d.oL (fun k hk=>?_) (d.qZ (w1:=W.setCells g (off*d.sz+i.toNat*d.sz+j) seg) (fun k hk=>aei k (y7 k hk).2) hM)
    exact⟨(y7 k hk).1,fun he=>(y7 k hk).2 (by rw [← hgo] at he;injection he)⟩
   ·rw [List.getElem?_set_ne (by omega)] at hm
    have hold:=hr.2 m p hm
    have hcells:((inner.take (i.toNat*d.sz+j)++seg++inner.drop (i.toNat*d.sz+j+seg.length)).drop (m*d.sz)).take d.sz=(inner.drop (m*d.sz)).take d.sz:=by
     apply List.ext_getElem?
     intro q
     rw [List.getElem?_take,List.getElem?_take,List.getElem?_drop,List.getElem?_drop,Fv inner seg _ (by omega)]
     by_cases hq:q < d.sz
     ·rw [if_pos hq,if_pos hq]
      rcases Nat.lt_or_gt_of_ne hmi with hlt | hgt
      ·have:m*d.sz+d.sz≤i.toNat*d.sz:=by rw [← Nat.succ_mul];exact Nat.mul_le_mul_right _ hlt
       rw [if_pos (by omega)]
      ·have:i.toNat*d.sz+d.sz≤m*d.sz:=by rw [← Nat.succ_mul];exact Nat.mul_le_mul_right _ hgt
       rw [if_neg (by omega),if_neg (by omega)]
     ·rw [if_neg hq,if_neg hq]
    rw [hcells]
    refine d.qZ (fun k hk=>aei k (fun he=>hk.2 (by rw [he];exact hgo))) hold
end
section
variable {α:Type} {enc:α→Value} {h1: ∀x,(enc x).oneCell'=true} {e base g o n cap:Nat} {ok:Nat→Prop} {W:World} {xs:List α}
theorem aq3 (d:α) (h:(scalar enc h1).Q e W base ok (.slice (some ⟨g,o,none⟩) n cap) xs) (i:Int) (h0:0≤i) (hi:i < n):W.cell? ⟨g,o+i.toNat,none⟩=some (enc (Fb d xs i))∧W.frozen? ⟨g,o+i.toNat,none⟩=false:=by
 obtain⟨c,_,hM,hcc,hf⟩:=ach h d i h0 hi
 have hM':c= [enc (xs.getD i.toNat d)]:=hM
 subst hM'
 have h2:=hcc 0 _ rfl
 have h3:=hf 0
 rw [show (scalar enc h1).sz=1 from rfl,Nat.mul_one,Nat.add_zero] at h2 h3
 exact⟨h2,h3⟩
theorem aq1 (h:(scalar enc h1).Q e W base ok (.slice (some ⟨g,o,none⟩) n cap) xs) (i:Int) (h0:0≤i) (hi:i < n) (x:α):(scalar enc h1).Q e (W.setCell ⟨g,o+i.toNat,none⟩ (enc x)) base ok (.slice (some ⟨g,o,none⟩) n cap) (xs.set i.toNat x)∧W.grownBy (W.setCell ⟨g,o+i.toNat,none⟩ (enc x)) (some g):=by
 have hp:0 < xs.length:=by have:=(K9 h).1;omega
 obtain⟨c,hcl,_,hcc,_⟩:=ach h (xs[0]'hp) i h0 hi
 have h2:=alF h i h0 hi (c:=c) (seg:= [enc x]) (j:=0) (oC:=fun _=>False) (x':=x) hcl hcc (Nat.le_refl 1) (by
  have hl:c.length=1:=hcl
  show c.take 0++ [enc x]++c.drop (0+1)= [enc x]
  rw [List.drop_eq_nil_of_le (by omega)]
  rfl) (fun _ hk=>hk.elim)
 rw [show (scalar enc h1).sz=1 from rfl,Nat.mul_one,Nat.add_zero] at h2
 exact h2
end
end Kd
end Go.Proofs.Wz.cw
end
section
namespace Go.Proofs.Wz.cw
open Go.RowKit
namespace Kd
def tag {α:Type} (f:Nat→Nat) (d:Kd α):Kd (α × Nat) where
 sz:=d.sz
 E:=d.E
 K:=fun w x cs=>d.K w x.1 cs
 M:=fun w base ok x cs=>d.M w base (fun k=>ok k∧f k=x.2) x.1 cs
 tv:=fun h=>d.tv h
 sV:=fun h=>d.sV h
 sj:=fun hb h=>d.sj hb h
 qe:=fun h=>d.qe h
 oL:=fun hok h=>d.oL (fun k hk=>⟨hok k hk.1,hk.2⟩) h
 qk:=fun h=>d.oL (fun _ hk=>⟨⟨hk.1.1,hk.2⟩,hk.1.2⟩) (d.qk h)
 qZ:=fun hm h=>d.qZ (fun k hk=>hm k hk.1) h
 r9:=fun hb h=>d.r9 hb h
def bare {α:Type} (d:Kd α):Kd α where
 sz:=d.sz
 E:=d.E
 K:=d.K
 M:=fun w base _ x cs=>d.M w base (fun _=>False) x cs
 tv:=fun h=>d.tv h
 sV:=fun h=>d.sV h
 sj:=fun hb h=>d.sj hb h
 qe:=fun h=>d.qe h
 oL:=fun _ h=>h
 qk:=fun h=>h
 qZ:=fun _ h=>d.qZ (fun _ hk=>hk.elim) h
 r9:=fun hb h=>d.r9 hb h
def raw (sz:Nat):Kd (List Value) where
 sz:=sz
 E:= []
 K:=fun _ x cs=>cs=x∧cs.length=sz∧ ∀u ∈ cs,u.oneCell'=true
 M:=fun _ _ _ x cs=>cs=x∧cs.length=sz∧ ∀u ∈ cs,u.oneCell'=true
 tv:=fun h=>h.2.1
 sV:=fun h=>h.2.2
 sj:=fun _ h=>h
 qe:=fun h=>h
 oL:=fun _ h=>h
 qk:=fun h=>h
 qZ:=fun _ h=>h
 r9:=fun _ h=>h
def S {α:Type} (d:Kd α) (e:Nat) (w:World) (base:Nat) (ok:Nat→Prop) (v:Value) (xs:List α):Prop:= ∃f,(tag f d).R e w base ok v xs.zipIdx
section
variable {α β:Type} {d:Kd α} {d':Kd β} {e e':Nat} {w w1 W:World} {base b:Nat} {ok ok' Yl oku:Nat→Prop} {u v:Value} {xs:List α} {ys:List β}
theorem Fm {xs:List α} {j:Nat} {p:α} (h:xs[j]?=some p):xs.zipIdx[j]?=some (p,j):=by rw [List.getElem?_zipIdx,h,Nat.zero_add];rfl
theorem Hr (h:S d e w base ok v xs):d.R e w base ok v xs:=by
 obtain⟨f,h0,inner,ho,hr⟩:=h
 rw [List.length_zipIdx] at ho
 exact⟨h0,inner,ho,by have:=hr.1;rw [List.length_zipIdx] at this;exact this,fun j p hj=>d.oL (fun _ hk=>hk.1) (hr.2 j (p,j) (Fm hj))⟩
theorem acd {ad:Addr} {n cap:Nat} (h:d.R e w base ok (.slice (some ad) n cap) xs): ∃g,ad=⟨g,0,none⟩:=by
 obtain⟨_,inner,ho,hr⟩:=h
 rcases ho.2 with ⟨hv,_⟩ | ⟨g,cap',cur,hv,_⟩
 ·cases hv
 ·injection hv with ha _ _
  injection ha with ha
  exact⟨g,ha⟩
theorem ajK {ad:Addr} {n cap:Nat} (h:d.R e W base ok (.slice (some ad) n cap) xs) (z:α) (i:Int) (h0:0≤i) (h1:i < n):
  ∃c,c.length=d.sz∧d.M W base (fun k=>ok k∧some k≠(Value.slice (some ad) n cap).ownBlock) (xs.getD i.toNat z) c∧ ∀j u,c[j]?=some u→W.cell? (ad.add (i.toNat*d.sz+j))=some u:=by
 obtain⟨g,rfl⟩:=acd h
 obtain⟨c,hcl,hM,hcc,_⟩:=ajL h z i h0 h1
 refine⟨c,hcl,d.oL (fun k hk=>⟨hk.1,fun he=>hk.2 (by simpa [Value.ownBlock] using he)⟩) hM,fun j u hu=>?_⟩
 rw [PZ,Nat.zero_add]
 exact hcc j u hu
theorem q5 (hE:d.E= []) (h:d.R e w base ok v xs):d.R e w base (fun k=>some k=v.ownBlock) v xs:=by
 obtain⟨h0,inner,ho,hr⟩:=h
 refine⟨fun k hk=>hk.symm,inner,ho,hr.wD (fun p c hp=>d.oL (fun k hk=>?_) (d.qk hp))⟩
 obtain⟨_,_,_,q,hq,_⟩:=hk
 rw [hE] at hq
 cases hq
theorem sJ (d:Kd α) (e:Nat) (w:World) (base:Nat) (ok:Nat→Prop):S d e w base ok (.slice none 0 0) []:=⟨fun _=>0,qT _ _ _ _ _⟩
theorem mB (h:S d e w base ok v xs) (hok: ∀k,ok k→ok' k):S d e w base ok' v xs:=by
 obtain⟨f,h⟩:=h
 exact⟨f,fY h hok⟩
theorem xw (h:S d e w base ok v xs):S d e w base (fun k=>ok k∧base≤k∧k < w.heap.size∧ ∃q,q ∈ e::d.E∧ ∃cells,w.heap[k]?=some (.cells cells q (0,0))) v xs:=by
 obtain⟨f,h⟩:=h
 exact⟨f,vK h⟩
theorem ajH (h:S d e w base ok v xs) (hm: ∀k,ok k→w1.heap[k]?=w.heap[k]?):S d e w1 base ok v xs:=by
 obtain⟨f,h⟩:=h
 exact⟨f,Gd h hm⟩
theorem oP {base':Nat} (h:S d e w base ok v xs) (hb:base'≤base):S d e w base' ok v xs:=by
 obtain⟨f,h⟩:=h
 exact⟨f,ng h hb⟩
theorem zP (h:S d e w base ok v xs) (hm: ∀k,ok k→k < w.heap.size→w1.heap[k]?=w.heap[k]?):S d e w1 base ok v xs:=
 mB (ajH (xw h) (fun k hk=>hm k hk.1 hk.2.2.1)) (fun _ hk=>hk.1)
theorem mQ (h:S d e w base ok v xs) (hb:Below w.heap.size w w1):S d e w1 base ok v xs:=zP h (fun k _ hk=>hb.block k hk)
theorem mO (h:S d e w base ok v xs) (o:Obj):S d e (w.alloc o) base ok v xs:=mQ h (pG (Below.refl _ _) o)
theorem mM (h:S d e w base ok v xs):S d e w.drew base ok v xs:=mQ h (mH (Below.refl _ _))
theorem mN (h:S d e w base ok v xs) (m:Nat):S d e (w.drewN m) base ok v xs:=mQ h (oO (Below.refl _ _) m)
theorem tM (h:S d e w base ok v xs) {p:Addr} (hok: ∀k,ok k→k≠p.block) (u:Value):S d e (w.setCell p u) base ok v xs:=zP h (fun k ho _=>Below.heap_setCell w p u k (hok k ho))
theorem ab8 (h:S d e w base ok v xs) {g:Nat} (hk:mL w w1 g none) (hok: ∀k,ok k→k≠g):S d e w1 base ok v xs:=zP h (fun k ho hlt=>hk.2 k hlt (hok k ho) (by simp))
theorem vZ (h:S d e w base ok v xs) {g t:Nat} {cells:Array Value} (hb:w.heap[g]?=some (.cells cells t (0,0))) (ht: ∀q,q ∈ e::d.E→q≠t):S d e w base (fun k=>ok k∧k≠g) v xs:=by
 obtain⟨f,h⟩:=h
 exact⟨f,wg h hb ht⟩
theorem pQ (h:S d e w base ok v xs): ∀k,v.ownBlock=some k→ ∃cells,w.heap[k]?=some (.cells cells e (0,0)):=AB (Hr h)
theorem Es (h:S d e w base ok v xs): ∀k,v.ownBlock=some k→k < w.heap.size:=qw (Hr h)
theorem Bg (h:S d e w base ok v xs): ∀k,v.ownBlock=some k→base≤k:=o8 (Hr h)
theorem Gc (h:S d e W base ok u xs) (hty: ∀k,v.ownBlock=some k→ ∃cells,W.heap[k]?=some (.cells cells e' (0,0))) (ht: ∀q,q ∈ e::d.E→q≠e') (hg:W.grownBy w1 v.ownBlock):S d e w1 base ok u xs:=by
 obtain⟨f,h⟩:=h
 exact⟨f,wh h hty ht hg⟩
theorem tA (h:S d e W base ok u xs) (hbase: ∀k,v.ownBlock=some k→W.heap.size≤k) (hb:Below W.heap.size W w1):S d e w1 base (fun k=>ok k∧some k≠v.ownBlock) u xs:=by
 obtain⟨f,h⟩:=h
 exact⟨f,tV h hbase hb⟩
theorem tK (h:S d e w1 W.heap.size ok v xs) (hlt: ∀k,u.ownBlock=some k→k < W.heap.size):S d e w1 W.heap.size (fun k=>ok k∧some k≠u.ownBlock) v xs:=by
 obtain⟨f,h⟩:=h
 exact⟨f,wo h hlt⟩
theorem uL {v1:Value} (h:S d e W base (fun k=>ok k∧some k≠v.ownBlock) u xs) (hg:W.grownBy w1 v.ownBlock) (hat:v1.ownBlock=v.ownBlock∨ ∃b,v1.ownBlock=some b∧W.heap.size≤b):S d e w1 base (fun k=>ok k∧some k≠v1.ownBlock) u xs:=by
 obtain⟨f,h⟩:=h
 exact⟨f,yI h hg hat⟩
theorem Jt (h:S d e W base ok u xs) (hb:Below W.heap.size W w1):S d e w1 base (fun k=>ok k∧k < W.heap.size) u xs:=
 mB (mQ (xw h) hb) (fun _ hk=>⟨hk.1,hk.2.2.1⟩)
theorem ab9 (h:(bare d).R e w base ok v xs):S d e w base ok v xs:=by
 obtain⟨h0,inner,ho,hr⟩:=h
 refine⟨fun _=>0,h0,inner,by rw [List.length_zipIdx];exact ho,by rw [List.length_zipIdx];exact hr.1,fun j p hj=>?_⟩
 rw [List.getElem?_zipIdx,Nat.zero_add] at hj
 obtain⟨x,hx,rfl⟩:=Option.map_eq_some_iff.1 hj
 exact d.oL (fun _ hk=>hk.elim) (hr.2 j x hx)
theorem alD {f f':Nat→Nat} {zs:List (α × Nat)} (h:(tag f d).R e w base ok v zs) (hf: ∀k,ok k→k < w.heap.size→f' k=f k):(tag f' d).R e w base ok v zs:=by
 obtain⟨h0,inner,ho,hr⟩:=vK h
 exact⟨fun k hk=>(h0 k hk).1,inner,ho,hr.1,fun j p hj=>d.oL (fun k hk=>⟨⟨hk.1.1.1,hk.1.2⟩,(hf k hk.1.1.1 hk.1.1.2.2.1).trans hk.2⟩) (hr.2 j p hj)⟩
end
section
variable {α β:Type} {d:Kd α} {d':Kd β} {e e' g:Nat} {w w1 W:World} {base b:Nat} {ok ok' Yl oku:Nat→Prop} {u v:Value} {xs:List α} {ys:List β}
theorem sP (h:S d e w base ok v xs) {t:Nat} {cells:Array Value} (hb:w.heap[g]?=some (.cells cells t (0,0))) (ht:e≠t):some g≠v.ownBlock:=pJ (Hr h) hb ht
theorem IZ (h:S d e w base ok v xs) (hp:0 < xs.length): ∃g cap,v= .slice (some ⟨g,0,none⟩) xs.length cap∧base≤g∧g < w.heap.size∧ ∃cells,w.heap[g]?=some (.cells cells e (0,0)):=rX (Hr h) hp
theorem ahP (h:S d e w base ok v xs):v.ownBlock=none∨ ∃k,v.ownBlock=some k∧base≤k:=Y9 (Hr h)
theorem nk (h:S d e w base ok v xs): ∃A c,v= .slice A xs.length c:=mE (Hr h)
theorem qH {A:Option Addr} {n c:Nat} (h:S d e w base ok (.slice A n c) xs):n=xs.length∧n≤c∧d.C w A xs.length xs:=lU (Hr h)
theorem agm (h:S d e w base ok v xs): ∃inner,w.ownsRow base e d.sz v xs.length inner:=Ju (Hr h)
theorem alB {ad:Addr} {n cap:Nat} (h:S d e W base ok (.slice (some ad) n cap) xs) (z:α) (i:Int) (h0:0≤i) (h1:i < n):
  ∃c,c.length=d.sz∧d.M W base (fun k=>ok k∧some k≠(Value.slice (some ad) n cap).ownBlock) (xs.getD i.toNat z) c∧ ∀j u,c[j]?=some u→W.cell? (ad.add (i.toNat*d.sz+j))=some u:=ajK (Hr h) z i h0 h1
theorem yC {N:Nat} (h:S d e w1 base (fun k=>ok k∧k < N) u xs) (hbase: ∀k,v.ownBlock=some k→N≤k):S d e w1 base (fun k=>(ok k∧some k≠v.ownBlock)∧k < N) u xs:=
 mB h (fun k hk=>⟨⟨hk.1,fun e=>Nat.lt_irrefl _ (Nat.lt_of_lt_of_le hk.2 (hbase k e.symm))⟩,hk.2⟩)
theorem SK (xs:List α) (p:α):(xs++ [p]).zipIdx=xs.zipIdx++ [(p,xs.length)]:=by rw [List.zipIdx_append];simp
end
section
open Classical in
theorem agl {α:Type} {d:Kd α} {e base:Nat} {Yl:Nat→Prop} {w:World} {v:Value} {xs:List α} (h:S d e w base Yl v xs) (m:Nat) (oC:Nat→Prop) (hap: ∀k,oC k→ ¬ Yl k): ∃f,(∀k,oC k→f k=m)∧(tag f d).R e w base Yl v xs.zipIdx:=by
 obtain⟨f,h⟩:=h
 exact⟨fun k=>if oC k then m else f k,fun k hk=>if_pos hk,alD h (fun k hk _=>if_neg (fun h2=>hap k h2 hk))⟩
variable {P:Program} {ops:Array Oper} {rest:List Oper} {o:Oper} {a:Act} {Q:Exit→Act→World→Prop} {Kc:Act→World→Prop} {α:Type}
theorem Af (d:Kd α) {w0 W:World} (base:Nat) (hgd:o.guard=none) (s x:Operand) (t e:TypeId) (z:Value) (bytes:Nat)
  (ho:o.op= .call { callee:= .builtin .append,args:= #[s,x],argTypes:= #[t,t]})
  (ht:P.underlying t=some (.slice e)) (hinfo:(P.info? e).map (fun i=>(i.zero,i.size,i.bytes))=some (some z,d.sz,bytes)) (hz:z.cells.size=d.sz) (hs0:0 < d.sz) (hb0:0 < bytes)
  (v:Value) (xs:List α) (p:α) (cs:List Value) (ok oC:Nat→Prop) (hs:a.eval s=v) (hx:a.eval x= .slice (some ⟨W.heap.size,0,none⟩) 1 1) (hp:d.M W base oC p cs) (y7: ∀k,oC k→ok k∧some k≠v.ownBlock) (rI: ∀k,W.heap.size≤k→ok k)
  (HO:S d e W base (fun k=>ok k∧ ¬ oC k) v xs) (HB:Below base w0 W) (hbase:base≤W.heap.size) (hl:(xs.length+1)*bytes≤140737488355328)
  (h: ∀v1 w1,S d e w1 base ok v1 (xs++ [p])→Below base w0 w1→W.grownBy w1 v.ownBlock→(v1.ownBlock=v.ownBlock∨ ∃b,v1.ownBlock=some b∧W.heap.size≤b)→wpList P ops Q rest (a.put o.dst v1) w1):
  wpList P ops Q (o::rest) a (W.alloc (.cells cs.toArray e)):=by
 obtain⟨f,hf,hR⟩:=agl HO xs.length oC (fun _ hk h2=>h2.2 hk)
 refine qo (tag f d) base hgd s x t e z bytes ho ht hinfo hz hs0 hb0 v xs.zipIdx (p,xs.length) cs ok oC hs hx (d.oL (fun k hk=>⟨hk,hf k hk⟩) hp) y7 rI (fY hR (fun _ hk=>hk.1)) HB hbase (by rw [List.length_zipIdx];exact hl) ?_
 intro v1 w1 hr
 rw [← SK] at hr
 exact h v1 w1 ⟨f,hr⟩
theorem yD (d:Kd α) {w0 W:World} (base:Nat) (hw:Region.wanted o (yielded ops a.tmps)=true) (s x:Operand) (t e:TypeId) (z:Value) (bytes:Nat)
  (ho:o.op= .call { callee:= .builtin .append,args:= #[s,x],argTypes:= #[t,t]})
  (ht:P.underlying t=some (.slice e)) (hinfo:(P.info? e).map (fun i=>(i.zero,i.size,i.bytes))=some (some z,d.sz,bytes)) (hz:z.cells.size=d.sz) (hs0:0 < d.sz) (hb0:0 < bytes)
  (v:Value) (xs:List α) (p:α) (cs:List Value) (ok oC:Nat→Prop) (hs:a.eval s=v) (hx:a.eval x= .slice (some ⟨W.heap.size,0,none⟩) 1 1) (hp:d.M W base oC p cs) (y7: ∀k,oC k→ok k∧some k≠v.ownBlock) (rI: ∀k,W.heap.size≤k→ok k)
  (HO:S d e W base (fun k=>ok k∧ ¬ oC k) v xs) (HB:Below base w0 W) (hbase:base≤W.heap.size) (hl:(xs.length+1)*bytes≤140737488355328)
  (h: ∀v1 w1,S d e w1 base ok v1 (xs++ [p])→Below base w0 w1→W.grownBy w1 v.ownBlock→(v1.ownBlock=v.ownBlock∨ ∃b,v1.ownBlock=some b∧W.heap.size≤b)→Kc (a.put o.dst v1) w1):
  if Region.wanted o (yielded ops a.tmps)=true then Oper.wp P o a (W.alloc (.cells cs.toArray e)) Kc Q else Kc (a.put o.dst undef) (W.alloc (.cells cs.toArray e)):=by
 obtain⟨f,hf,hR⟩:=agl HO xs.length oC (fun _ hk h2=>h2.2 hk)
 refine uX (tag f d) base hw s x t e z bytes ho ht hinfo hz hs0 hb0 v xs.zipIdx (p,xs.length) cs ok oC hs hx (d.oL (fun k hk=>⟨hk,hf k hk⟩) hp) y7 rI (fY hR (fun _ hk=>hk.1)) HB hbase (by rw [List.length_zipIdx];exact hl) ?_
 intro v1 w1 hr
 rw [← SK] at hr
 exact h v1 w1 ⟨f,hr⟩
theorem agn (d:Kd α) {w0 W:World} (base e:Nat) (hgd:o.guard=none) {N:Tmp} (_hd:o.dst=some N) {xs:List α} {inner:List Value} {ok oC:Nat→Prop}
  (hrun:(execOp a.eval o).run P W= .ok (.value (.slice (some ⟨W.heap.size,0,none⟩) xs.length xs.length)) (W.alloc (.cells inner.toArray e)))
  (GK:mV (d.M W base (fun _=>False)) d.sz xs inner) (_hok: ∀k,oC k→ok k) (rI:ok W.heap.size) (HB:Below base w0 W) (hbase:base≤W.heap.size) (hm:xs.length≤9223372036854775807)
  (h: ∀v1 w1,S d e w1 base ok v1 xs→Below base w0 w1→W.grownBy w1 none→(∃b,v1.ownBlock=some b∧W.heap.size≤b)→wpList P ops Q rest (a.put o.dst v1) w1):wpList P ops Q (o::rest) a W:=
 tu (bare d) base e hgd _hd (ok:=ok) (oC:=ok) hrun GK (fun _ hk=>hk) rI HB hbase hm (fun v1 w1 hr=>h v1 w1 (ab9 hr))
theorem Bf (d:Kd α) {w0 W:World} (base e:Nat) (hw:Region.wanted o (yielded ops a.tmps)=true) {N:Tmp} (_hd:o.dst=some N) {xs:List α} {inner:List Value} {ok oC:Nat→Prop}
  (hrun:(execOp a.eval o).run P W= .ok (.value (.slice (some ⟨W.heap.size,0,none⟩) xs.length xs.length)) (W.alloc (.cells inner.toArray e)))
  (GK:mV (d.M W base (fun _=>False)) d.sz xs inner) (_hok: ∀k,oC k→ok k) (rI:ok W.heap.size) (HB:Below base w0 W) (hbase:base≤W.heap.size) (hm:xs.length≤9223372036854775807)
  (h: ∀v1 w1,S d e w1 base ok v1 xs→Below base w0 w1→W.grownBy w1 none→(∃b,v1.ownBlock=some b∧W.heap.size≤b)→Kc (a.put o.dst v1) w1):
  if Region.wanted o (yielded ops a.tmps)=true then Oper.wp P o a W Kc Q else Kc (a.put o.dst undef) W:=
 Dx (bare d) base e hw _hd (ok:=ok) (oC:=ok) hrun GK (fun _ hk=>hk) rI HB hbase hm (fun v1 w1 hr=>h v1 w1 (ab9 hr))
end
def gap {α:Type} (f:Nat→Nat) (d:Kd α) (i:Nat) (c:List Value):Kd (α × Nat) where
 sz:=d.sz
 E:=d.E
 K:=fun w x cs=>(x.2=i→cs=c∧cs.length=d.sz∧ ∀u ∈ cs,u.oneCell'=true)∧(x.2≠i→d.K w x.1 cs)
 M:=fun w base ok x cs=>(x.2=i→cs=c∧cs.length=d.sz∧ ∀u ∈ cs,u.oneCell'=true)∧(x.2≠i→d.M w base (fun k=>ok k∧f k=x.2) x.1 cs)
 tv:=fun {w x cs} h=>by
  by_cases hx:x.2=i
  ·exact(h.1 hx).2.1
  ·exact d.tv (h.2 hx)
 sV:=fun {w x cs} h=>by
  by_cases hx:x.2=i
  ·exact(h.1 hx).2.2
  ·exact d.sV (h.2 hx)
 sj:=fun hb h=>⟨h.1,fun hx=>d.sj hb (h.2 hx)⟩
 qe:=fun h=>⟨h.1,fun hx=>d.qe (h.2 hx)⟩
 oL:=fun hok h=>⟨h.1,fun hx=>d.oL (fun k hk=>⟨hok k hk.1,hk.2⟩) (h.2 hx)⟩
 qk:=fun h=>⟨h.1,fun hx=>d.oL (fun _ hk=>⟨⟨hk.1.1,hk.2⟩,hk.1.2⟩) (d.qk (h.2 hx))⟩
 qZ:=fun hm h=>⟨h.1,fun hx=>d.qZ (fun k hk=>hm k hk.1) (h.2 hx)⟩
 r9:=fun hb h=>⟨h.1,fun hx=>d.r9 hb (h.2 hx)⟩
def H {α:Type} (d:Kd α) (e:Nat) (w:World) (base:Nat) (ok:Nat→Prop) (v:Value) (xs:List α) (i:Int) (wI:Nat→Prop) (c:List Value):Prop:=
 (∀k,wI k→ok k)∧ ∃f,(gap f d i.toNat c).R e w base (fun k=>ok k∧ ¬ wI k) v xs.zipIdx
section
variable {α β:Type} {d:Kd α} {e e' g n cap:Nat} {w w1 W:World} {base:Nat} {ok ok' wI oC:Nat→Prop} {u v:Value} {xs:List α} {i:Int} {c:List Value}
theorem ajI (h:S d e W base ok (.slice (some ⟨g,0,none⟩) n cap) xs) (z:α) (i:Int) (h0:0≤i) (h1:i < n):
  ∃(wI:Nat→Prop) (c:List Value),c.length=d.sz∧d.M W base wI (xs.getD i.toNat z) c∧(∀j u,c[j]?=some u→W.cell? ⟨g,i.toNat*d.sz+j,none⟩=some u)∧(∀k,wI k→ok k∧k≠g)∧H d e W base ok (.slice (some ⟨g,0,none⟩) n cap) xs i wI c:=by
 obtain⟨f,hR⟩:=h
 have hn:=(lU hR).1
 rw [List.length_zipIdx] at hn
 have hgo:some g=(Value.slice (some ⟨g,0,none⟩) n cap).ownBlock:=by simp [Value.ownBlock]
 obtain⟨ane,inner,ho,hr⟩:=hR
 have hil:i.toNat < xs.length:=by omega
 have hlen:inner.length=xs.length*d.sz:=by have:=hr.1;rw [List.length_zipIdx] at this;exact this
 have Vu:i.toNat*d.sz+d.sz≤inner.length:=by rw [hlen, ← Nat.succ_mul];exact Nat.mul_le_mul_right _ hil
 have hM:=hr.2 i.toNat _ (Fm (List.getElem?_eq_getElem hil))
 have hkg: ∀k,some k≠(Value.slice (some ⟨g,0,none⟩) n cap).ownBlock→k≠g:=fun k hk he=>hk (by rw [he];exact hgo)
 refine⟨fun k=>(ok k∧k≠g)∧f k=i.toNat,(inner.drop (i.toNat*d.sz)).take d.sz,by rw [List.length_take,List.length_drop];omega,?_,fun j u hu=>?_,fun k hk=>hk.1,fun k hk=>hk.1.1,f,fun k hk=>⟨ane k hk,fun h2=>h2.1.2 ?_⟩,inner,ho,hr.1,fun m p hm=>?_⟩
 ·rw [List.getD_eq_getElem?_getD,List.getElem?_eq_getElem hil]
  exact d.oL (fun k hk=>⟨⟨hk.1.1,hkg k hk.1.2⟩,hk.2⟩) hM
 ·rw [List.getElem?_take] at hu
  split at hu
  ·rw [List.getElem?_drop] at hu
   have:=ho.cells (g:=g) hgo.symm _ u hu
   rwa [add_plain] at this
  ·cases hu
 ·rw [← hgo] at hk;injection hk with hk;exact hk.symm
 ·have hold:=hr.2 m p hm
  have hp2:p.2=m:=by
   rw [List.getElem?_zipIdx,Nat.zero_add] at hm
   obtain⟨q,_,rfl⟩:=Option.map_eq_some_iff.1 hm
   rfl
  refine⟨fun hx=>?_,fun hx=>d.oL (fun k hk=>⟨⟨⟨hk.1.1,fun h2=>hx ?_⟩,hk.1.2⟩,hk.2⟩) hold⟩
  ·have hmi:m=i.toNat:=by omega
   subst hmi
   exact⟨rfl,d.tv (d.qe hM),d.sV (d.qe hM)⟩
  ·rw [← hk.2];exact h2.2
open Classical in
theorem ajY (h:H d e w base ok v xs i wI c) {x':α} (hM:d.M w base oC x' c) (hok: ∀k,oC k→wI k):S d e w base ok v (xs.set i.toNat x'):=by
 obtain⟨ho,f,h0,inner,hown,hr⟩:=h
 refine⟨fun k=>if wI k then i.toNat else f k,fun k hk=>(h0 k hk).1,inner,by rw [List.length_zipIdx,List.length_set];rw [List.length_zipIdx] at hown;exact hown,by have:=hr.1;rw [List.length_zipIdx] at this;rw [List.length_zipIdx,List.length_set];exact this,fun m p hm=>?_⟩
 rw [List.getElem?_zipIdx,Nat.zero_add] at hm
 obtain⟨q,hq,rfl⟩:=Option.map_eq_some_iff.1 hm
 have hml:m < xs.length:=by
  have:=(List.getElem?_eq_some_iff.1 hq).1
  rwa [List.length_set] at this
 by_cases hmi:m=i.toNat
 ·subst hmi
  rw [List.getElem?_set_self hml] at hq
  injection hq with hq
  subst hq
  have hc:=((hr.2 i.toNat _ (Fm (List.getElem?_eq_getElem hml))).1 rfl).1
  show d.M w base _ x' ((inner.drop (i.toNat*d.sz)).take d.sz)
  rw [show (inner.drop (i.toNat*d.sz)).take d.sz=c from hc]
  exact d.oL (fun k hk=>⟨⟨ho k (hok k hk),fun he=>(h0 k he.symm).2 (hok k hk)⟩,if_pos (hok k hk)⟩) hM
 ·rw [List.getElem?_set_ne (Ne.symm hmi)] at hq
  exact d.oL (fun k hk=>⟨⟨hk.1.1.1,hk.1.2⟩,(if_neg hk.1.1.2).trans hk.2⟩) ((hr.2 m (q,m) (Fm hq)).2 hmi)
theorem ajX (h:H d e w base ok v xs i wI c) (hm: ∀k,ok k→ ¬ wI k→k < w.heap.size→w1.heap[k]?=w.heap[k]?):H d e w1 base ok v xs i wI c:=by
 obtain⟨ho,f,h⟩:=h
 exact⟨ho,f,Et h (fun k hk hlt=>hm k hk.1 hk.2 hlt)⟩
theorem ahU (h:H d e w base ok v xs i wI c) {row:Option Nat} (hg:w.grownBy w1 row) (hrow: ∀k,row=some k→wI k):H d e w1 base ok v xs i wI c:=
 ajX h (fun k _ hn hlt=>hg.block k hlt (fun he=>hn (hrow k he.symm)))
theorem K7 {ad:Addr} (h:S d e W base ok (.slice (some ad) n cap) xs) (z:α) (i:Int) (h0:0≤i) (h1:i < n):
  ∃(wI:Nat→Prop) (c:List Value),c.length=d.sz∧d.M W base wI (xs.getD i.toNat z) c∧(∀j u,c[j]?=some u→W.cell? (ad.add (i.toNat*d.sz+j))=some u)∧(∀k,wI k→ok k∧some k≠(Value.slice (some ad) n cap).ownBlock)∧
   ∀ {w1:World} {row:Option Nat} {x':α},W.grownBy w1 row→(∀k,row=some k→wI k)→d.M w1 base wI x' c→S d e w1 base ok (.slice (some ad) n cap) (xs.set i.toNat x'):=by
 obtain⟨g,rfl⟩:=acd (Hr h)
 obtain⟨wI,c,hcl,hM,hcc,Vw,hH⟩:=ajI h z i h0 h1
 refine⟨wI,c,hcl,hM,fun j u hu=>?_,fun k hk=>⟨(Vw k hk).1,fun he=>(Vw k hk).2 ?_⟩,fun hg hrow hM1=>ajY (ahU hH hg hrow) hM1 (fun _ hk=>hk)⟩
 ·rw [PZ,Nat.zero_add]
  exact hcc j u hu
 ·simpa [Value.ownBlock] using he
end
section
variable {P:Program} {ops:Array Oper} {rest:List Oper} {o:Oper} {a:Act} {Q:Exit→Act→World→Prop} {α:Type}
end
end Kd
end Go.Proofs.Wz.cw
end
section
namespace Go.Proofs.Wz.cw
open Go.RowKit
namespace Kd
section
variable {α:Type} {n:Nat} {d:Kd α} {hs:0 < d.sz} {w:World} {base:Nat} {ok:Nat→Prop} {xs:List α} {cs:List Value}
end
section
variable {α:Type} {n:Nat} {enc:α→Value} {h1: ∀x,(enc x).oneCell'=true} {hs:0 < (scalar enc h1).sz} {w:World} {base:Nat} {ok:Nat→Prop} {xs:List α} {cs:List Value}
end
end Kd
end Go.Proofs.Wz.cw
end
section
namespace Go.Proofs.Wz.cw
open Go.RowKit
section
variable {P:Program}
end
namespace Kd
section
variable {P:Program} {ops:Array Oper} {rest:List Oper} {o:Oper} {a:Act} {Q:Exit→Act→World→Prop} {Kc:Act→World→Prop} {α:Type}
end
section
variable {α:Type} {d:Kd α} {e:Nat} {w:World} {base:Nat} {ok:Nat→Prop} {v:Value} {xs:List α}
end
section
variable {P:Program} {ops:Array Oper} {rest:List Oper} {o:Oper} {a:Act} {Q:Exit→Act→World→Prop} {Kc:Act→World→Prop} {α:Type}
end
end Kd
end Go.Proofs.Wz.cw
end
section
namespace Go.Proofs.Wz.cw
open Go.RowKit
namespace Kd
structure Heap {α:Type} (d:Kd α):Prop where
 K: ∀ {w w1:World} {x:α} {cs:List Value},(∀k,k < w.heap.size→w1.heap[k]?=w.heap[k]?)→d.K w x cs→d.K w1 x cs
theorem abW {w w1:World} (hb: ∀k,k < w.heap.size→w1.heap[k]?=w.heap[k]?) {a:Addr} {v:Value} (h:w.cell? a=some v):w1.cell? a=some v:=by
 have:=hb a.block (World.block_lt_of_cell? w a h)
 simpa [World.cell?,this] using h
theorem Heap.C {α:Type} {d:Kd α} (hd:Heap d) {w w1:World} {A:Option Addr} {n:Nat} {xs:List α} (hb: ∀k,k < w.heap.size→w1.heap[k]?=w.heap[k]?) (h:d.C w A n xs):d.C w1 A n xs:=
 ⟨h.1,h.2.1,fun hn=>by
  obtain⟨ad,e,hc⟩:=h.2.2 hn
  refine⟨ad,e,fun j p hj=>?_⟩
  obtain⟨c,hs,hr,hcell⟩:=hc j p hj
  exact⟨c,hs,hd.K hb hr,fun i u hu=>abW hb (hcell i u hu)⟩⟩
section
variable {α:Type} {d:Kd α} {e base g n c:Nat} {ok:Nat→Prop} {w w0 W:World} {A:Option Addr} {xs:List α}
end
end Kd
end Go.Proofs.Wz.cw
end
section
namespace Go.Proofs.Wz.cw
open Go.RowKit
def Kept (w W:World) (S:Nat→Prop):Prop:=w.heap.size≤W.heap.size∧ ∀i,i < w.heap.size→ ¬ S i→W.heap[i]?=w.heap[i]?
section
variable {w W W2:World} {S S2 S':Nat→Prop}
theorem Kept.refl (w:World) (S:Nat→Prop):Kept w w S:=⟨Nat.le_refl _,fun _ _ _=>rfl⟩
theorem Kept.oy (h:Below w.heap.size w W) (S:Nat→Prop):Kept w W S:=⟨h.size,fun i hi _=>h.block i hi⟩
theorem Kept.mono (h:Kept w W S) (hs: ∀k,S k→S' k):Kept w W S':=⟨h.1,fun i hi hn=>h.2 i hi (fun hk=>hn (hs i hk))⟩
theorem Kept.then_ (h:Kept w W S) (k:Kept W W2 S2) (hs: ∀k,S2 k→S k∨w.heap.size≤k):Kept w W2 S:=
 ⟨Nat.le_trans h.1 k.1,fun i hi hn=>(k.2 i (Nat.lt_of_lt_of_le hi h.1) (fun h2=>(hs i h2).elim hn (fun h3=>by omega))).trans (h.2 i hi hn)⟩
theorem Kept.Gz {row:Option Nat} (hg:W.grownBy W2 row) (h:Kept w W S) (hr: ∀k,row=some k→S k∨w.heap.size≤k):Kept w W2 S:=
 h.then_ (S2:=fun k=>row=some k) ⟨hg.size,fun i hi hn=>hg.block i hi (fun he=>hn he.symm)⟩ hr
theorem Kept.below (h:Kept w W S) (hb:Below W.heap.size W W2):Kept w W2 S:=h.then_ (Kept.oy hb (fun _=>False)) (fun _ hk=>hk.elim)
theorem Kept.alloc (h:Kept w W S) (o:Obj):Kept w (W.alloc o) S:=h.below (pG (Below.refl _ _) o)
theorem Kept.drew (h:Kept w W S):Kept w W.drew S:=h
theorem Kept.drewN (h:Kept w W S) (m:Nat):Kept w (W.drewN m) S:=h
theorem Kept.setCell (h:Kept w W S) {p:Addr} (hp:S p.block∨w.heap.size≤p.block) (u:Value):Kept w (W.setCell p u) S:=
 h.then_ (S2:=fun k=>k=p.block) ⟨by simp [World.setCell],fun i _ hn=>Below.heap_setCell W p u i hn⟩ (fun k hk=>by rw [hk];exact hp)
theorem Kept.keep {g:Nat} (h:mL w W g none) (k:Kept W W2 S2) (hs: ∀k,S2 k→w.heap.size≤k):mL w W2 g none:=
 ⟨Nat.le_trans h.1 k.1,fun i hi hg hr=>(k.2 i (Nat.lt_of_lt_of_le hi h.1) (fun h2=>by have:=hs i h2;omega)).trans (h.2 i hi hg hr)⟩
theorem ae2 {g:Nat} {o:Obj} (hb:W.heap[g]?=some o) (hk:Kept W W2 S) (hne: ¬ S g):W2.heap[g]?=some o:=(hk.2 g (pq hb) hne).trans hb
end
namespace Kd
section
variable {α:Type} {d:Kd α} {e base n c:Nat} {ok wI S S2:Nat→Prop} {w w0 W W1 W2:World} {v:Value} {A:Option Addr} {xs:List α} {i:Int} {cs:List Value}
end
end Kd
end Go.Proofs.Wz.cw
end
section
namespace Go.Proofs.Wz.cw
open Go.RowKit
def Ag (P:World→Prop) (W:World) (ok:Nat→Prop):Prop:= ∀W':World,(∀k,ok k→k < W.heap.size→W'.heap[k]?=W.heap[k]?)→P W'
theorem ahv {W W1:World} {k:Nat} (h:W1.heap[k]?=W.heap[k]?) (hlt:k < W.heap.size):k < W1.heap.size:=by
 rw [Array.getElem?_eq_getElem hlt] at h
 exact(Array.getElem?_eq_some_iff.1 h).1
namespace Ag
variable {P Q:World→Prop} {W W1:World} {ok ok':Nat→Prop}
theorem now (h:Ag P W ok):P W:=h W (fun _ _ _=>rfl)
theorem mono (h:Ag P W ok) (hok: ∀k,ok k→ok' k):Ag P W ok':=fun W' hW=>h W' (fun k hk hlt=>hW k (hok k hk) hlt)
theorem bound (h:Ag P W ok):Ag P W (fun k=>ok k∧k < W.heap.size):=fun W' hW=>h W' (fun k hk hlt=>hW k ⟨hk,hlt⟩ hlt)
theorem step (h:Ag P W ok) (hm: ∀k,ok k→k < W.heap.size→W1.heap[k]?=W.heap[k]?):Ag P W1 ok:=fun W' hW=>h W' (fun k hk hlt=>(hW k hk (ahv (hm k hk hlt) hlt)).trans (hm k hk hlt))
theorem imp (h:Ag P W ok) (hi: ∀W',P W'→Q W'):Ag Q W ok:=fun W' hW=>hi W' (h W' hW)
theorem old (h:Ag P W ok) (hb:Below W.heap.size W W1):Ag P W1 (fun k=>ok k∧k < W.heap.size):=(h.bound).step (fun k _ hlt=>hb.block k hlt)
end Ag
namespace Kd
def F {α:Type} (d:Kd α) (W:World) (ok:Nat→Prop) (A:Option Addr) (n:Nat) (xs:List α):Prop:=Ag (fun W=>d.C W A n xs) W ok
def FK {α:Type} (d:Kd α) (W:World) (ok:Nat→Prop) (x:α) (c:List Value):Prop:=Ag (fun W=>d.K W x c) W ok
section
variable {α β:Type} {d:Kd α} {e base n n' cc g N:Nat} {ok ok' oC S:Nat→Prop} {w w0 w1 W W1:World} {A A':Option Addr} {u v v1:Value} {xs:List α} {xs':List β} {d':Kd β} {x:α} {c:List Value}
theorem alH (d:Kd α) (W:World) (ok:Nat→Prop):F d W ok none ([]:List α).length []:=fun W' _=>aau d W'
theorem aib (h:d.M W base ok x c):FK d W ok x c:=fun _ hW=>d.qe (aci h hW)
end
end Kd
end Go.Proofs.Wz.cw
end
section
namespace Go.Proofs.Wz.cw
open Go.RowKit
namespace Kd
def chunks (sz:Nat) (n:Nat) (inner:List Value):List (List Value):=(List.range n).map fun j=>(inner.drop (j*sz)).take sz
theorem yj (sz n:Nat) (inner:List Value):(chunks sz n inner).length=n:=by simp [chunks]
theorem abU {sz n:Nat} {inner:List Value} {j:Nat} (hj:j < n):(chunks sz n inner)[j]?=some ((inner.drop (j*sz)).take sz):=by simp [chunks,hj]
theorem Px {sz n:Nat} {inner:List Value} {j:Nat} {c:List Value} (h:(chunks sz n inner)[j]?=some c):c=(inner.drop (j*sz)).take sz:=by
 have hj:j < n:=by have:=(List.getElem?_eq_some_iff.1 h).1;rwa [yj] at this
 rw [abU hj] at h
 injection h with h
 exact h.symm
theorem acZ {α:Type} {Rr:α→List Value→Prop} {sz:Nat} {xs:List α} {inner:List Value} (h:mV Rr sz xs inner) (hR: ∀x c,Rr x c→c.length=sz∧ ∀u ∈ c,u.oneCell'=true):mV (fun x cs=>cs=x∧cs.length=sz∧ ∀u ∈ cs,u.oneCell'=true) sz (chunks sz xs.length inner) inner:=by
 refine⟨by rw [yj];exact h.1,fun j p hj=>?_⟩
 have hjl:j < xs.length:=by have:=(List.getElem?_eq_some_iff.1 hj).1;rwa [yj] at this
 have hp:=Px hj
 exact⟨hp.symm,hR _ _ (h.2 j _ (List.getElem?_eq_getElem hjl))⟩
section
variable {α:Type} {d:Kd α} {e base n cc g:Nat} {ok ok' oC S:Nat→Prop} {w w1 W W1:World} {A:Option Addr} {u v v1:Value} {xs:List α} {x:α} {c:List Value}
def N {α:Type} (d:Kd α) (e:Nat) (w:World) (base:Nat) (ok:Nat→Prop) (v:Value) (xs:List α):Prop:=
 (∀k,v.ownBlock=some k→ok k)∧ ∃rows:List (List Value),rows.length=xs.length∧(raw d.sz).R e w base (fun k=>some k=v.ownBlock) v rows∧ ∀(j:Nat) (x:α) (c:List Value),xs[j]?=some x→rows[j]?=some c→FK d w (fun k=>ok k∧some k≠v.ownBlock) x c
theorem R_N (h:d.R e w base ok v xs):N d e w base ok v xs:=by
 obtain⟨h0,inner,ho,hr⟩:=h
 refine⟨h0,chunks d.sz xs.length inner,yj _ _ _,⟨fun k hk=>hk.symm,inner,by rw [yj];exact ho,acZ hr (fun x c hp=>⟨d.tv (d.qe hp),d.sV (d.qe hp)⟩)⟩,fun j x c hx hc=>?_⟩
 rw [Px hc]
 exact aib (hr.2 j x hx)
theorem uy (d:Kd α) (e:Nat) (w:World) (base:Nat) (ok:Nat→Prop):N d e w base ok (.slice none 0 0) []:=R_N (qT _ _ _ _ _)
theorem aoq (h:N d e w base ok v xs) {t:Nat} {cells:Array Value} (hb:w.heap[g]?=some (.cells cells t (0,0))) (ht:e≠t):some g≠v.ownBlock:=by
 obtain⟨_,rows,_,hR,_⟩:=h
 exact pJ hR hb ht
end
end Kd
end Go.Proofs.Wz.cw
end
section
namespace Go.Proofs.Wz.cw
open Go.RowKit
namespace Kd
section
variable {α:Type} {d:Kd α} {e base n cap g:Nat} {ok ok' oC:Nat→Prop} {w w1 W:World} {v v1:Value} {xs ys:List α}
end
section
variable {P:Program} {ops:Array Oper} {rest:List Oper} {o:Oper} {a:Act} {Q:Exit→Act→World→Prop} {Kc:Act→World→Prop} {α:Type}
end
end Kd
end Go.Proofs.Wz.cw
end
section
namespace Go.Proofs.Wz.cX
open Go.RowKit Wz.cw
namespace Kd
open Wz.cw.Kd
end Kd
namespace Kd
open Wz.cw.Kd
section
variable {α:Type} {d:Kd α} {e base g N:Nat} {ok:Nat→Prop} {W w1:World} {u v:Value} {xs:List α}
end
end Kd
theorem nV (k k':IntKind) (x y:Int):Builtin.max2 (.int k x) (.int k' y)=pure (.int k (if x < y then y else x)):=by simp only [Builtin.max2,gt_iff_lt]
theorem nT (k k':IntKind) (x y:Int):Builtin.min2 (.int k x) (.int k' y)=pure (.int k (if y < x then y else x)):=by simp only [Builtin.min2]
theorem oF (ats:Array TypeId) (ty:TypeId) (a b:Value):Builtin.max_ ats ty #[a,b]=(Builtin.max2 a b >>=fun s=>pure s):=by simp only [Builtin.max_,List.foldlM_cons,List.foldlM_nil]
theorem oD (ats:Array TypeId) (ty:TypeId) (a b:Value):Builtin.min_ ats ty #[a,b]=(Builtin.min2 a b >>=fun s=>pure s):=by simp only [Builtin.min_,List.foldlM_cons,List.foldlM_nil]
theorem nC (ats:Array TypeId) (ty:TypeId) (a b c:Value):Builtin.max_ ats ty #[a,b,c]=(Builtin.max2 a b >>=fun s=>Builtin.max2 s c >>=fun s=>pure s):=by simp only [Builtin.max_,List.foldlM_cons,List.foldlM_nil]
theorem nB (ats:Array TypeId) (ty:TypeId) (a b c:Value):Builtin.min_ ats ty #[a,b,c]=(Builtin.min2 a b >>=fun s=>Builtin.min2 s c >>=fun s=>pure s):=by simp only [Builtin.min_,List.foldlM_cons,List.foldlM_nil]
theorem nU (ats:Array TypeId) (ty:TypeId) (a b c d:Value):Builtin.max_ ats ty #[a,b,c,d]=(Builtin.max2 a b >>=fun s=>Builtin.max2 s c >>=fun s=>Builtin.max2 s d >>=fun s=>pure s):=by simp only [Builtin.max_,List.foldlM_cons,List.foldlM_nil]
theorem nS (ats:Array TypeId) (ty:TypeId) (a b c d:Value):Builtin.min_ ats ty #[a,b,c,d]=(Builtin.min2 a b >>=fun s=>Builtin.min2 s c >>=fun s=>Builtin.min2 s d >>=fun s=>pure s):=by simp only [Builtin.min_,List.foldlM_cons,List.foldlM_nil]
end Go.Proofs.Wz.cX
namespace Go.Proofs.Wz.cw
open Go.RowKit
section
variable {P:Program} {ops:Array Oper} {rest:List Oper} {o:Oper} {a:Act} {Q:Exit→Act→World→Prop} {W:World}
theorem d8 {f:FuncId} {Wg:Array Operand} {ts:Array TypeId} (_ho:o.op= .call { callee:= .value (.func f),args:=Wg,argTypes:=ts}) (h:wpList P ops Q (o::rest) a W):wpList P ops Q (o::rest) a W:=h
theorem nL {b:Builtin} {xs:Array Operand} {ts:Array TypeId} (_ho:o.op= .call { callee:= .builtin b,args:=xs,argTypes:=ts}) (h:wpList P ops Q (o::rest) a W):wpList P ops Q (o::rest) a W:=h
end
def mx (a b:Int):Int:=if a < b then b else a
def mn (a b:Int):Int:=if b < a then b else a
def shr (k:IntKind) (x y:Int):Int:=x / 2 ^ min y.toNat k.bits
theorem aaZ {k:IntKind} {x y j:Int} (h:shr k x y=j) (hy:y≤k.bits):x / 2 ^ y.toNat=j:=by rw [← h];unfold shr;rw [Nat.min_eq_left (by omega)]
namespace Kd
section
variable {α:Type} {d:Kd α} {e base:Nat} {ok:Nat→Prop} {W w1:World} {v:Value} {xs:List α}
end
section
variable {α:Type} {d:Kd α} {e base g n cap:Nat} {ok wI oC:Nat→Prop} {W:World} {xs:List α} {i:Int} {c:List Value}
end
section
variable {α:Type} {d:Kd α} {e base b b' g N:Nat} {ok ok1:Nat→Prop} {W W2 w1:World} {u v:Value} {xs ys:List α} {S:Nat→Prop}
end
end Kd
end Go.Proofs.Wz.cw
namespace Go.Proofs.Wz.cw
open Go.RowKit
namespace Kd
def V {α:Type} (d:Kd α) (_e:Nat) (W:World) (_base:Nat) (ok:Nat→Prop) (v:Value) (xs:List α):Prop:= ∃A c,v= .slice A xs.length c∧xs.length≤c∧F d W ok A xs.length xs
section
variable {α β:Type} {d:Kd α} {e base base' n m c g N' lo hi:Nat} {ok ok' S:Nat→Prop} {w W w1:World} {A:Option Addr} {ad:Addr} {u v v1:Value} {xs:List α}
theorem uw (d:Kd α) (e:Nat) (W:World) (base:Nat) (ok:Nat→Prop):V d e W base ok (.slice none 0 0) []:=⟨none,0,rfl,Nat.le_refl _,alH d W ok⟩
end
end Kd
end Go.Proofs.Wz.cw
end
section
namespace Go.Proofs.YthmfdplckdijdaaGreat.Ma
open Go.RowKit Wz.cw Wz.cX
theorem oK {α:Type} {g:Option α} {r:α} (h:g=some r):Ev (fun _=>g) r:=⟨0,fun _ _=>h⟩
theorem cY {α:Type} {A B:Nat→Option α} {r:α} {c:Prop} [Decidable c] (h:c) (k:Ev A r):Ev (fun n=>if c then A n else B n) r:=by
 obtain⟨K,k⟩:=k
 exact⟨K,fun n hn=>by simp only [if_pos h];exact k n hn⟩
theorem lV {α:Type} {A B:Nat→Option α} {r:α} {c:Prop} [Decidable c] (h: ¬ c) (k:Ev B r):Ev (fun n=>if c then A n else B n) r:=by
 obtain⟨K,k⟩:=k
 exact⟨K,fun n hn=>by simp only [if_neg h];exact k n hn⟩
theorem oH {α β:Type} {g:Nat→Option α} {f:Nat→α→Option β} {a:α} {r:β} (h:Ev g a) (k:Ev (fun n=>f n a) r):Ev (fun n=>(g n).bind (f n)) r:=Ev.bind h k
theorem qW {α β:Type} {g:Option α} {f:Nat→α→Option β} {a:α} {r:β} (h:g=some a) (k:Ev (fun n=>f n a) r):Ev (fun n=>g.bind (f n)) r:=Ev.bind (oK h) k
theorem mC {α:Type} {g f:Nat→Option α} {r:α} (h: ∀k,g (k+1)=f k) (k:Ev f r):Ev g r:=Ev.step h k
theorem evk {α:Type} {g:Nat→Option α} {r:α} (h:Ev g r): ∃k,g k=some r:=Ev.rounds h
theorem nH {x:Int} (h0: -9223372036854775808≤x) (h1:x≤9223372036854775807):wrap64 x=x:=by unfold wrap64;omega
theorem acI {x:Int} (h0:0≤x) (h1:x≤9223372036854775807):IntKind.u64.wrap x=x:=by
 simp only [IntKind.wrap,IntKind.bits,IntKind.signed]
 simp
 omega
theorem rT (l:List Int) (i:Nat):rd l (i:Int)=l.getD i 0:=by simp [rd]
def bB (x:Int) (i:Nat):Bool:=(BitVec.ofInt 64 x).getLsbD i
theorem XU (x:Int) (i:Nat) (h:i < 64):(x % 2 ^ 64) / 2 ^ i % 2=x / 2 ^ i % 2:=by
 have e:(2:Int) ^ 64=2 ^ i*(2*2 ^ (63 - i)):=by
  have:(64:Nat)=i+(1+(63 - i)):=by omega
  rw [show (2:Int) ^ 64=2 ^ (i+(1+(63 - i))) from by rw [← this],Int.pow_add,Int.pow_add]
  simp
 have hp:(0:Int) < 2 ^ i:=Int.pow_pos (by decide)
 have h1:x % 2 ^ 64=x+2 ^ i*(2*(-(2 ^ (63 - i)*(x / 2 ^ 64)))):=by
  have h2:=Int.emod_add_mul_ediv x (2 ^ 64)
  have h3:(2:Int) ^ 64*(x / 2 ^ 64)=2 ^ i*(2*(2 ^ (63 - i)*(x / 2 ^ 64))):=by
   generalize x / 2 ^ 64=y
   rw [e];simp only [Int.mul_assoc]
  rw [Int.mul_neg,Int.mul_neg, ← h3]
  omega
 rw [h1,Int.add_mul_ediv_left _ _ (Int.ne_of_gt hp),Int.add_mul_emod_self_left]
theorem ab3 (x:Int) (i:Nat) (h:i < 64):bB x i=decide (x / 2 ^ i % 2=1):=by
 unfold bB
 rw [← BitVec.testBit_toNat,BitVec.toNat_ofInt,Nat.testBit_eq_decide_div_mod_eq]
 have e:((2 ^ 64:Nat):Int)=2 ^ 64:=by decide
 rw [e]
 have h0:0≤x % 2 ^ 64:=Int.emod_nonneg _ (by decide)
 have k:=XU x i h
 obtain⟨n,hn⟩:=Int.eq_ofNat_of_zero_le h0
 rw [hn] at k ⊢
 rw [← k,Int.toNat_natCast]
 have:((n:Int) / 2 ^ i % 2)=((n / 2 ^ i % 2:Nat):Int):=by simp
 rw [this]
 rw [Bool.eq_iff_iff]
 simp only [decide_eq_true_eq]
 omega
theorem ajC (n i:Nat) (h:i < 64):bB (n:Int) i=n.testBit i:=by
 unfold bB
 rw [BitVec.ofInt_natCast,BitVec.getLsbD_ofNat]
 simp [h]
theorem aaI (n:Int) (h₀:0≤n) (h₁:n < 2 ^ 63):IntKind.i64.wrap n=n:=by rw [IntKind.wrap_i64];omega
theorem am0 {n:Nat} (h:n < 2 ^ 63):((n:Nat):Int) < 2 ^ 63:=by exact_mod_cast h
theorem ahM (x:Int) {i:Nat} (h:i < 63):Go.bits .and .i64 x (2 ^ i)=if bB x i=true then 2 ^ i else 0:=by
 have e:(BitVec.ofInt 64 x &&& BitVec.ofInt 64 ((2 ^ i:Nat):Int)).toNat=if bB x i=true then 2 ^ i else 0:=by
  apply Nat.eq_of_testBit_eq
  intro j
  rw [BitVec.testBit_toNat,BitVec.ofInt_natCast,BitVec.getLsbD_and,BitVec.getLsbD_ofNat,Nat.testBit_two_pow]
  unfold bB
  by_cases hj:i=j
  ·subst hj
   cases hb:(BitVec.ofInt 64 x).getLsbD i <;> simp [show i < 64 from by omega]
  ·cases hb:(BitVec.ofInt 64 x).getLsbD i <;> simp [hj]
 show IntKind.i64.wrap (((BitVec.ofInt 64 x &&& BitVec.ofInt 64 (2 ^ i)).toNat:Nat):Int)=_
 have e2:((2 ^ i:Nat):Int)=2 ^ i:=by simp
 rw [← e2,e]
 have hp:(2:Nat) ^ i < 2 ^ 63:=Nat.pow_lt_pow_right (by decide) h
 split
 ·exact aaI _ (Int.natCast_nonneg _) (am0 hp)
 ·rfl
theorem agN {x i:Int} (h0:0≤i) (h1:i≤63):shr .i64 x i=x / 2 ^ i.toNat:=by
 unfold shr
 rw [Nat.min_eq_left (by simp [IntKind.bits];omega)]
theorem XI (x:Int) {i:Nat} (h:i < 64):Go.bits .and .i64 (shr .i64 x (i:Int)) 1=if bB x i=true then 1 else 0:=by
 rw [agN (by omega) (by omega),Int.toNat_natCast]
 have k:=ahM (x / 2 ^ i) (i:=0) (by omega)
 rw [Int.pow_zero] at k
 rw [k,ab3 _ 0 (by omega),ab3 x i h,Int.pow_zero,Int.ediv_one]
end Go.Proofs.YthmfdplckdijdaaGreat.Ma
end
section
namespace Go.Proofs.Wz.fX
open Wz.cw (aE)
def DA (md:Region.Mode) (o:Oper):List Nat:=(o.after.toList.filter (fun e=>Region.binds md e)).map (fun e=>e.on)
def QM (md:Region.Mode) (ops:Array Oper) (i:Nat) (oi:Oper):List Nat:=(List.range ops.size).filter fun j=>!(j==i) && match ops[j]? with
 | some oj=>!(oj.after.any (fun e=>Region.binds md e && e.on==i) || oi.apart ops oj)
 | none=>false
def sy (md:Region.Mode) (ops:Array Oper):Bool × List (List Nat × List Nat):=(Region.noSelect ops,(List.range ops.size).map fun i=>match ops[i]? with
 | some o=>(DA md o,QM md ops i o)
 | none=>([], []))
def Aj (T:List (List Nat × List Nat)) (l:List Bool) (i:Nat):Bool:=!l.getD i true && match T[i]? with
 | some r=>r.1.all (fun j=>l.getD j false)
 | none=>false
def DR (T:List (List Nat × List Nat)) (l:List Bool):List Nat:=(List.range T.length).filter (Aj T l)
def Pj (T:List (List Nat × List Nat)) (l:List Bool) (i:Nat):Bool:=match T[i]? with
 | some r=>r.2.all (fun j=>l.getD j true)
 | none=>false
def Jo (T:List (List Nat × List Nat)) (l:List Bool):Bool:=(List.range T.length).all fun j=>!l.getD j false || match T[j]? with
 | some r=>r.1.all (fun k=>l.getD k false)
 | none=>true
def Fw (T:List (List Nat × List Nat)) (i:Nat):Nat→Nat→Bool
 | 0,_=>false
 | fuel+1,d=>match T[d]? with
  | some r=>r.1.any fun j=>j==i || Fw T i fuel j
  | none=>false
def Sr (T:List (List Nat × List Nat)) (l:List Bool) (ds:List Nat) (i:Nat):Bool:=ds.all fun d=>l.getD d true || Fw T i T.length d
section
variable {md:Region.Mode} {ops:Array Oper} {T:Bool × List (List Nat × List Nat)} {l l' li lj lk:Array Bool} {ds:List Nat} {i j k:Nat}
theorem gd (l:Array Bool) (j:Nat) (b:Bool):l.getD j b=l.toList.getD j b:=by simp [Array.getD_eq_getD_getElem?,List.getD_eq_getElem?_getD]
theorem Ro (o:Oper) (p:Nat→Bool):o.after.all (fun e=>!Region.binds md e || p e.on)=(DA md o).all p:=by
 unfold DA
 rw [← Array.all_toList]
 induction o.after.toList with
 | nil=>rfl
 | cons e r ih=>
  rw [List.all_cons,ih,List.filter_cons]
  cases h:Region.binds md e <;> simp
theorem abn (o:Oper) (p:Nat→Bool):o.after.any (fun e=>Region.binds md e && p e.on)=(DA md o).any p:=by
 unfold DA
 rw [← Array.any_toList]
 induction o.after.toList with
 | nil=>rfl
 | cons e r ih=>
  rw [List.any_cons,ih,List.filter_cons]
  cases h:Region.binds md e <;> simp
theorem Ca:(sy md ops).2.length=ops.size:=by simp [sy]
theorem EV {o:Oper} (h:ops[i]?=some o):(sy md ops).2[i]?=some (DA md o,QM md ops i o):=by
 have hi:=(Array.getElem?_eq_some_iff.1 h).1
 unfold sy
 rw [List.getElem?_map,List.getElem?_range hi,Option.map_some,h]
theorem EW (h:ops[i]?=none):(sy md ops).2[i]?=none:=by
 have hi:ops.size≤i:=Array.getElem?_eq_none_iff.1 h
 exact List.getElem?_eq_none (by rw [Ca];exact hi)
theorem ZL:Aj (sy md ops).2 l.toList i=(!l.getD i true && ((ops[i]?).map (·.after.all fun e=>!Region.binds md e || l.getD e.on false)).getD false):=by
  unfold Aj
  rw [gd]
  cases h:ops[i]? with
  | none=>rw [EW h];rfl
  | some o=>
    rw [EV h]
    simp only [Option.map_some,Option.getD_some]
    rw [← Ro]
    simp only [gd]
theorem DP:Region.ready md ops l=DR (sy md ops).2 l.toList:=by
 unfold Region.ready DR
 rw [Ca]
 refine List.filter_congr (fun i _=>?_)
 rw [ZL]
theorem YQ:Region.free md ops l i=Pj (sy md ops).2 l.toList i:=by
 unfold Region.free Pj
 cases h:ops[i]? with
 | none=>rw [EW h]
 | some oi=>
  rw [EV h]
  simp only [QM]
  rw [List.all_filter]
  congr 1
  funext j
  rw [gd]
  cases hj:ops[j]? with
  | none=>cases (j==i) <;> cases (l.toList.getD j true) <;> simp
  | some oj=>
   cases (j==i) <;> cases (l.toList.getD j true) <;> cases (oj.after.any (fun e=>Region.binds md e && e.on==i) || oi.apart ops oj) <;> simp_all
theorem abT:Region.F8 md ops l=Jo (sy md ops).2 l.toList:=by
 unfold Region.F8 Jo
 rw [Ca]
 congr 1
 funext j
 rw [gd]
 cases h:ops[j]? with
 | none=>rw [EW h]
 | some o=>
  rw [EV h]
  simp only
  rw [← Ro]
  simp only [gd]
theorem UZ: ∀(fuel d:Nat),Region.xW md ops i fuel d=Fw (sy md ops).2 i fuel d
 | 0,_=>rfl
 | fuel+1,d=>by
  unfold Region.xW Fw
  cases h:ops[d]? with
  | none=>rw [EW h]
  | some o=>
   rw [EV h]
   simp only
   rw [← abn]
   congr 1
   funext e
   rw [UZ fuel]
theorem ag9:Region.su md ops l ds i=Sr (sy md ops).2 l.toList ds i:=by
 unfold Region.su Sr
 rw [Ca]
 congr 1
 funext d
 rw [gd,UZ]
theorem JC (h:Aj T.2 l.toList i=true) (hT:sy md ops=T):(Region.ready md ops l).contains i=true:=by
 subst hT
 rw [DP]
 unfold DR
 rw [List.contains_iff_mem,List.mem_filter,List.mem_range]
 refine⟨?_,h⟩
 unfold Aj at h
 rw [Bool.and_eq_true] at h
 cases hq:(sy md ops).2[i]? with
 | none=>rw [hq] at h;simp at h
 | some r=>exact(List.getElem?_eq_some_iff.1 hq).1
theorem Cj (h:(l.toList.set i true==l'.toList)=true):(l.setIfInBounds i true==l')=true:=by
 rw [beq_iff_eq] at h ⊢
 apply Array.ext'
 rw [Array.toList_setIfInBounds]
 exact h
def ajE (T:Bool × List (List Nat × List Nat)) (l l':List Bool) (i:Nat):Bool:=T.1 && Pj T.2 l i && Aj T.2 l i && (l.set i true==l')
theorem zf (hT:sy md ops=T) (h:ajE T l.toList l'.toList i=true):Ae md ops l l' i=true:=by
 simp only [ajE,Bool.and_eq_true] at h
 obtain⟨⟨⟨h1,h2⟩,h3⟩,h4⟩:=h
 have h5:=JC h3 hT
 have h6:=Cj h4
 subst hT
 simp only [Ae,Bool.and_eq_true]
 exact⟨⟨⟨h1,by rw [YQ];exact h2⟩,h5⟩,h6⟩
def Zw (T:Bool × List (List Nat × List Nat)) (ds:List Nat) (l l':List Bool) (i:Nat):Bool:=T.1 && Pj T.2 l i && Aj T.2 l i && Jo T.2 l && Sr T.2 l ds i && (l.set i true==l')
theorem Yb (hT:sy md ops=T) (h:Zw T ds l.toList l'.toList i=true):I9 md ops ds l l' i=true:=by
 simp only [Zw,Bool.and_eq_true] at h
 obtain⟨⟨⟨⟨⟨h1,h2⟩,h3⟩,h4⟩,h5⟩,h6⟩:=h
 have h7:=JC h3 hT
 have h8:=Cj h6
 subst hT
 simp only [I9,Bool.and_eq_true]
 exact⟨⟨⟨⟨⟨h1,by rw [YQ];exact h2⟩,h7⟩,by rw [abT];exact h4⟩,by rw [ag9];exact h5⟩,h8⟩
theorem abg (hT:sy md ops=T) (h:(DR T.2 l.toList== [i] && l.toList.set i true==l'.toList)=true):Ck md ops l l' i=true:=by
 simp only [Bool.and_eq_true] at h
 obtain⟨h1,h2⟩:=h
 subst hT
 simp only [Ck,Bool.and_eq_true]
 exact⟨by rw [DP];exact h1,Cj h2⟩
theorem yS (hT:sy md ops=T) (h:(DR T.2 l.toList== [i,j] && l.toList.set i true==li.toList && l.toList.set j true==lj.toList)=true):(Region.ready md ops l== [i,j] && l.setIfInBounds i true==li && l.setIfInBounds j true==lj)=true:=by
 simp only [Bool.and_eq_true] at h ⊢
 obtain⟨⟨h1,h2⟩,h3⟩:=h
 subst hT
 exact⟨⟨by rw [DP];exact h1,Cj h2⟩,Cj h3⟩
theorem acL (hT:sy md ops=T) (h:(DR T.2 l.toList== [i,j,k] && l.toList.set i true==li.toList && l.toList.set j true==lj.toList && l.toList.set k true==lk.toList)=true):
  (Region.ready md ops l== [i,j,k] && l.setIfInBounds i true==li && l.setIfInBounds j true==lj && l.setIfInBounds k true==lk)=true:=by
 simp only [Bool.and_eq_true] at h ⊢
 obtain⟨⟨⟨h1,h2⟩,h3⟩,h4⟩:=h
 subst hT
 exact⟨⟨⟨by rw [DP];exact h1,Cj h2⟩,Cj h3⟩,Cj h4⟩
theorem qj (hT:sy md ops=T) (h:(DR T.2 l.toList== [])=true):(Region.ready md ops l== [])=true:=by
 subst hT
 rw [DP]
 exact h
def UM (B:List Nat) (d:Nat):List Nat→Nat
 | []=>0
 | n::r=>(2 ^ n ||| (if n < d then B.getD n 0 else 0)) ||| UM B d r
def tD (T:List (List Nat × List Nat)) (B:List Nat):Bool:=(List.range T.length).all fun d=>match T[d]? with
 | some r=>(B.getD d 0 ||| UM B d r.1)==UM B d r.1
 | none=>false
theorem X6 {B:List Nat} {d i:Nat}: ∀ {ns:List Nat},(UM B d ns).testBit i=true→ ∃n ∈ ns,n=i∨(n < d∧(B.getD n 0).testBit i=true)
 | [],h=>by simp [UM] at h
 | n::r,h=>by
  unfold UM at h
  rw [Nat.testBit_or,Nat.testBit_or,Bool.or_eq_true,Bool.or_eq_true] at h
  rcases h with (h | h) | h
  ·rw [Nat.testBit_two_pow] at h
   exact⟨n,List.mem_cons_self, .inl (by simpa using h)⟩
  ·by_cases hn:n < d
   ·rw [if_pos hn] at h
    exact⟨n,List.mem_cons_self, .inr ⟨hn,h⟩⟩
   ·rw [if_neg hn] at h
    simp at h
  ·obtain⟨m,hm,h2⟩:=X6 h
   exact⟨m,List.mem_cons_of_mem _ hm,h2⟩
theorem Rm {T:List (List Nat × List Nat)} {B:List Nat} (hB:tD T B=true): ∀(fuel d:Nat),d < fuel→d < T.length→(B.getD d 0).testBit i=true→Fw T i fuel d=true
 | 0,d,h,_,_=>by omega
 | fuel+1,d,h,hd,hb=>by
  have h1:=List.all_eq_true.1 hB d (List.mem_range.2 hd)
  cases hr:T[d]? with
  | none=>rw [hr] at h1;simp at h1
  | some r=>
   rw [hr] at h1
   simp only [beq_iff_eq] at h1
   have h2:(UM B d r.1).testBit i=true:=by rw [← h1,Nat.testBit_or,hb,Bool.true_or]
   obtain⟨n,hn,h3⟩:=X6 h2
   unfold Fw
   rw [hr]
   simp only
   rw [List.any_eq_true]
   refine⟨n,hn,?_⟩
   rcases h3 with rfl | ⟨h4,h5⟩
   ·simp
   ·rw [Rm hB fuel n (by omega) (by omega) h5,Bool.or_true]
def afC (T:List (List Nat × List Nat)) (B:List Nat) (l:List Bool) (ds:List Nat) (i:Nat):Bool:=ds.all fun d=>l.getD d true || (decide (d < T.length) && (B.getD d 0).testBit i)
def afr (T:Bool × List (List Nat × List Nat)) (B:List Nat) (ds:List Nat) (l l':List Bool) (i:Nat):Bool:=T.1 && Pj T.2 l i && Aj T.2 l i && Jo T.2 l && afC T.2 B l ds i && (l.set i true==l')
theorem acN {B:List Nat} (hT:sy md ops=T) (hB:tD T.2 B=true) (h:afr T B ds l.toList l'.toList i=true):I9 md ops ds l l' i=true:=by
 refine Yb hT ?_
 simp only [afr,Zw,Bool.and_eq_true] at h ⊢
 obtain⟨⟨⟨⟨⟨h1,h2⟩,h3⟩,h4⟩,h5⟩,h6⟩:=h
 refine⟨⟨⟨⟨⟨h1,h2⟩,h3⟩,h4⟩,?_⟩,h6⟩
 unfold afC at h5
 unfold Sr
 rw [List.all_eq_true] at h5 ⊢
 intro d hd
 have h7:=h5 d hd
 rw [Bool.or_eq_true,Bool.and_eq_true,decide_eq_true_eq] at h7
 rcases h7 with h7 | ⟨h8,h9⟩
 ·rw [h7,Bool.true_or]
 ·rw [Rm hB _ d h8 h8 h9,Bool.or_true]
theorem o9 {P:Program} {Q:Exit→Act→World→Prop} {S:World→Prop} {n:Nat} {a:Act} {w:World} {B:List Nat} (hT:sy md ops=T) (hB:tD T.2 B=true) (h:aE (sy md ops=T)→aE (tD T.2 B=true)→mw P md ops Q S ds n l a w):mw P md ops Q S ds n l a w:=h ⟨hT⟩ ⟨hB⟩
end
def Cb:Code→Nat→Option (Array Oper)
 | .region id ops _,k=>if id==k then some ops else none
 | .seq a b,k=>match Cb a k with
  | some o=>some o
  | none=>Cb b k
 | .cond _ a b,k=>match Cb a k with
  | some o=>some o
  | none=>Cb b k
 | .block _ c,k=>Cb c k
 | .loop c,k=>Cb c k
 | .scope c,k=>Cb c k
 | .rangeFunc _ _ a b,k=>match Cb a k with
  | some o=>some o
  | none=>Cb b k
 | _,_=>none
def opsOf (f:Func) (k:Nat):Array Oper:=((f.body.bind fun c=>Cb c k)).getD #[]
end Go.Proofs.Wz.fX
end
section
namespace Go.Proofs.Wz.fX
section
variable {P:Program} {ops:Array Oper} {Q:Exit→Act→World→Prop} {md:Region.Mode} {S:World→Prop} {ds:List Nat} {T:Bool × List (List Nat × List Nat)}
end
end Go.Proofs.Wz.fX
end
section
namespace Go.Proofs.Wz.cw
open Go.RowKit
namespace Kd
section
variable {α:Type} {d:Kd α} {W:World} {g n:Nat} {S ok:Nat→Prop} {A:Option Addr} {ad:Addr} {xs:List α}
end
end Kd
end Go.Proofs.Wz.cw
end
section
namespace Go.Proofs.Wz.cw
open Go.RowKit
section
variable {w w' u:World} {m B g:Nat} {o:Obj} {row:Option Nat} {S:Nat→Prop} {a:Addr} {v:Value}
end
namespace Kd
section
variable {α:Type} {d:Kd α} {e base n m:Nat} {ok:Nat→Prop} {w w':World} {v:Value} {A:Option Addr} {xs:List α}
end
end Kd
end Go.Proofs.Wz.cw
end
section
namespace Go.Proofs.Wz.cw
open Go.RowKit
section
variable {P:Program} {d:Nat} {xs ys:Array Value} {f:Field} {fs:List Field} {a b:Value} {r s:Bool} {w:World}
theorem aen (hn:(f.name== "_")=false) (ha:(part f.type xs f.offset).run P w= .ok a w) (hb:(part f.type ys f.offset).run P w= .ok b w) (he:(Op.equalIn d f.type a b).run P w= .ok r w):(Op.eqFields d xs ys [f]).run P w= .ok r w:=by
 have hn':f.name≠ "_" :=by simpa using hn
 simp only [Op.eqFields,if_pos hn',Sem.run_bind,ha,hb,he,Result.andThen_ok]
 cases r <;> simp
theorem aeo (hn:(f.name== "_")=false) (ha:(part f.type xs f.offset).run P w= .ok a w) (hb:(part f.type ys f.offset).run P w= .ok b w) (he:(Op.equalIn d f.type a b).run P w= .ok r w) (hr:(Op.eqFields d xs ys fs).run P w= .ok s w):(Op.eqFields d xs ys (f::fs)).run P w= .ok (r && s) w:=by
 have hn':f.name≠ "_" :=by simpa using hn
 rw [Op.eqFields]
 simp only [if_pos hn',Sem.run_bind,ha,hb,he,Result.andThen_ok]
 cases r
 ·simp
 ·simpa using hr
theorem ajp {t:TypeId} {fs:Array Field} (hu:P.underlying t=some (.struct fs)) (hp:P.stoodInHeld t=false) (h:(Op.eqFields d xs ys fs.toList).run P w= .ok r w):(Op.equalIn (d+1) t (.agg xs) (.agg ys)).run P w= .ok r w:=by
 have hf:P.fieldsOf t=fs:=by simp [Program.fieldsOf,hu]
 rw [run_equalIn_struct (P:=P) w d t xs ys (by rw [hf];exact hu) hp,hf]
 exact h
end
end Go.Proofs.Wz.cw
end
section
namespace Go.Proofs.Wz.cw
theorem mV.one {α:Type} {R:α→List Value→Prop} {ps:List α} {cs:List Value} {p:α} {v:Value} (hp:R p [v]) (h:mV R 1 ps cs):mV R 1 (p::ps) (v::cs):=by
 refine⟨by simp [h.1],fun j q hq=>?_⟩
 cases j with
 | zero=>
  simp only [List.getElem?_cons_zero,Option.some.injEq] at hq
  subst hq
  simpa using hp
 | succ j=>
  simp only [List.getElem?_cons_succ] at hq
  have h1:=h.2 j q hq
  simpa [Nat.mul_one] using h1
theorem mV.front {α:Type} {R:α→List Value→Prop} {size:Nat} {ps:List α} {cs c all:List Value} {p:α} (hp:R p c) (hc:c.length=size) (h:mV R size ps cs) (ha:c++cs=all):mV R size (p::ps) all:=by
 subst ha
 refine⟨by rw [List.length_append,hc,h.1,List.length_cons,Nat.succ_mul,Nat.add_comm],fun j q hq=>?_⟩
 cases j with
 | zero=>
  simp only [List.getElem?_cons_zero,Option.some.injEq] at hq
  subst hq
  rw [Nat.zero_mul,List.drop_zero,List.take_append_of_le_length (by omega),List.take_of_length_le (by omega)]
  exact hp
 | succ j=>
  simp only [List.getElem?_cons_succ] at hq
  have h1:=h.2 j q hq
  rw [Nat.succ_mul,List.drop_append,List.drop_of_length_le (by rw [hc];exact Nat.le_add_left _ _),List.nil_append,hc,Nat.add_sub_cancel]
  exact h1
theorem mV.c2 {α:Type} {R:α→List Value→Prop} {ps:List α} {cs:List Value} {p:α} {va vb:Value} (hp:R p [va,vb]) (h:mV R 2 ps cs):mV R 2 (p::ps) (va::vb::cs):=mV.front hp rfl h rfl
theorem mV.c3 {α:Type} {R:α→List Value→Prop} {ps:List α} {cs:List Value} {p:α} {va vb vc:Value} (hp:R p [va,vb,vc]) (h:mV R 3 ps cs):mV R 3 (p::ps) (va::vb::vc::cs):=mV.front hp rfl h rfl
theorem mV.c4 {α:Type} {R:α→List Value→Prop} {ps:List α} {cs:List Value} {p:α} {va vb vc vd:Value} (hp:R p [va,vb,vc,vd]) (h:mV R 4 ps cs):mV R 4 (p::ps) (va::vb::vc::vd::cs):=mV.front hp rfl h rfl
theorem mV.c5 {α:Type} {R:α→List Value→Prop} {ps:List α} {cs:List Value} {p:α} {va vb vc vd ve:Value} (hp:R p [va,vb,vc,vd,ve]) (h:mV R 5 ps cs):mV R 5 (p::ps) (va::vb::vc::vd::ve::cs):=mV.front hp rfl h rfl
theorem mV.c6 {α:Type} {R:α→List Value→Prop} {ps:List α} {cs:List Value} {p:α} {va vb vc vd ve vf:Value} (hp:R p [va,vb,vc,vd,ve,vf]) (h:mV R 6 ps cs):mV R 6 (p::ps) (va::vb::vc::vd::ve::vf::cs):=mV.front hp rfl h rfl
theorem mV.c7 {α:Type} {R:α→List Value→Prop} {ps:List α} {cs:List Value} {p:α} {va vb vc vd ve vf vg:Value} (hp:R p [va,vb,vc,vd,ve,vf,vg]) (h:mV R 7 ps cs):mV R 7 (p::ps) (va::vb::vc::vd::ve::vf::vg::cs):=mV.front hp rfl h rfl
theorem mV.c8 {α:Type} {R:α→List Value→Prop} {ps:List α} {cs:List Value} {p:α} {va vb vc vd ve vf vg vh:Value} (hp:R p [va,vb,vc,vd,ve,vf,vg,vh]) (h:mV R 8 ps cs):mV R 8 (p::ps) (va::vb::vc::vd::ve::vf::vg::vh::cs):=mV.front hp rfl h rfl
theorem mV.c9 {α:Type} {R:α→List Value→Prop} {ps:List α} {cs:List Value} {p:α} {va vb vc vd ve vf vg vh vi:Value} (hp:R p [va,vb,vc,vd,ve,vf,vg,vh,vi]) (h:mV R 9 ps cs):mV R 9 (p::ps) (va::vb::vc::vd::ve::vf::vg::vh::vi::cs):=mV.front hp rfl h rfl
theorem mV.qF {α:Type} {R:α→List Value→Prop} {ps:List α} {cs:List Value} {p:α} {va vb vc vd ve vf vg vh vi vj:Value} (hp:R p [va,vb,vc,vd,ve,vf,vg,vh,vi,vj]) (h:mV R 10 ps cs):mV R 10 (p::ps) (va::vb::vc::vd::ve::vf::vg::vh::vi::vj::cs):=mV.front hp rfl h rfl
end Go.Proofs.Wz.cw
end
section
namespace Go.Proofs.Wz.fX
def up (b:Nat→Bool) (i:Nat):Nat→Bool:=fun j=>if j=i then true else b j
theorem OV {b:Nat→Bool} {i j:Nat} (h:j≠i):up b i j=b j:=by simp [up,h]
section
variable {P:Program} {ops:Array Oper} {Q:Exit→Act→World→Prop} {md:Region.Mode} {T:Bool × List (List Nat × List Nat)} {B:List Nat} {O:List Nat} {b:Nat→Bool} {i j n:Nat}
def P5 (P:Program) (ops:Array Oper) (Q:Exit→Act→World→Prop) (B:List Nat) (O:List Nat) (I:(Nat→Bool)→Act→World→Prop) (i:Nat):Prop:=
 ∀b a w,I b a w→b i=false→(∀j,(O.contains j && (B.getD i 0).testBit j)=true→b j=true)→(∀d,(O.contains d && (B.getD d 0).testBit i)=true→b d=false)→
  ∃oi,ops[i]?=some oi∧ ∀K:Act→World→Prop,Shut (∀a' w',I (up b i) a' w'→K a' w')→if Region.wanted oi (yielded ops a.tmps)=true then Oper.wp P oi a w K Q else K (a.put oi.dst undef) w
end
end Go.Proofs.Wz.fX
end
section
namespace Go.Proofs.Wz.cw
open Go.RowKit
end Go.Proofs.Wz.cw
namespace Go.Proofs.Wz.fX
section
variable {ops:Array Oper} {a:Act} {o og:Oper} {g:Nat} {t:Tmp} {u:Bool}
end
end Go.Proofs.Wz.fX
end
section
namespace Go.Proofs.Wz.cw
open Go.RowKit
section
variable {P:Program} {ops:Array Oper} {rest:List Oper} {o:Oper} {a:Act} {Q:Exit→Act→World→Prop} {W:World}
theorem sI (hw:Region.wanted o (yielded ops a.tmps)=true) (h:wpList P ops Q ({ o with guard:=none}::rest) a W):wpList P ops Q (o::rest) a W:=by
 have h1:Region.wanted { o with guard:=none} (yielded ops a.tmps)=true:=rfl
 unfold wpList at h ⊢
 rw [if_pos h1] at h
 rw [if_pos hw]
 exact h
end
end Go.Proofs.Wz.cw
end
section
namespace Go.Proofs.YthmfdplckdijdaaGreat.Pr
open Go.RowKit Wz.cw Wz.fX Wz.cX
attribute [local go_sem] nV nT oF oD nC nB nU nS
def ajo:Option Int→Value
 | none=> .nilIface
 | some c=> .iface 0 (.int .i64 c)
theorem qY:ajo none= .nilIface:=rfl
theorem qX (c:Int):ajo (some c)= .iface 0 (.int .i64 c):=rfl
theorem q6:(Tryz.prog.info? 2).map (fun i=>(i.zero,i.size,i.bytes))=some (some (.int .i64 0),1,8):=by kernel_rfl
theorem yc:(Tryz.prog.info? 24).map (fun i=>(i.zero,i.size,i.bytes))=some (some (.slice none 0 0),1,24):=by kernel_rfl
theorem Ip:(Tryz.prog.info? 58).map (fun i=>(i.zero,i.size,i.bytes))=some (some (.agg #[(.int .i64 0),(.int .i64 0)]),2,16):=by kernel_rfl
def d5 (xs:List (List Int)) (i:Int):(List Int):=xs.getD i.toNat ([]:List Int)
theorem pI {w:World} {A:Option Addr} {n:Nat} {xs:List (List Int)} (h:Kd.C (Kd.slice 2 (Kd.int .i64)) w A n xs) (i:Int) (h0:0≤i) (h1:i < n): ∃ad A0 c0,A=some ad∧w.cell? (ad.add i.toNat)=some (.slice A0 (d5 xs i).length c0)∧(d5 xs i).length≤c0∧(Kd.int .i64).C w A0 (d5 xs i).length (d5 xs i):=by
 obtain⟨ad,c,e,_,hK,hc0⟩:=Kd.agD h ([]:List Int) i h0 h1
 have hc: ∀j u,c[j]?=some u→w.cell? (ad.add (i.toNat*1+j))=some u:=hc0
 obtain⟨A0,c0,rfl,l0,g0⟩:=hK
 exact⟨ad,A0,c0,e,by have hq:=hc 0 _ rfl;rwa [Nat.mul_one,Nat.add_zero] at hq,l0,g0⟩
structure S34 where
 f0:(List (List Int))
 f1:(List Int)
structure mh where
 f0:Int
 f1:Int
def z58:mh:=⟨(0:Int),(0:Int)⟩
def rU:Kd mh:=Kd.iso (Kd.pair (Kd.int .i64) (Kd.int .i64)) (fun x:mh=>(x.f0,x.f1))
theorem ad8 {w:World} {x:mh} {cs:List Value} (h:rU.K w x cs):cs= [.int .i64 x.f0, .int .i64 x.f1]:=by
 obtain⟨_,_,rfl,rfl,rfl⟩:=h
 exact rfl
theorem Fz (w:World) (base:Nat) (ok:Nat→Prop) (x:mh):rU.M w base ok x [.int .i64 x.f0, .int .i64 x.f1]:=⟨[.int .i64 x.f0], [.int .i64 x.f1],rfl,rfl,rfl⟩
def kB (xs:List mh) (i:Int):mh:=xs.getD i.toNat z58
theorem ze {w:World} {A:Option Addr} {n:Nat} {xs:List mh} (h:Kd.C rU w A n xs) (i:Int) (h0:0≤i) (h1:i < n): ∃ad,A=some ad∧w.cell? (ad.add (i.toNat*2))=some (.int .i64 (kB xs i).f0)∧w.cell? ⟨(ad.add (i.toNat*2)).block,(ad.add (i.toNat*2)).off+1,none⟩=some (.int .i64 (kB xs i).f1):=by
 obtain⟨ad,c,e,_,hK,hc0⟩:=Kd.agD h z58 i h0 h1
 have hc: ∀j u,c[j]?=some u→w.cell? (ad.add (i.toNat*2+j))=some u:=hc0
 obtain rfl:=ad8 hK
 exact⟨ad,e,hc 0 _ rfl,by rw [← ab7 _ _ 1 (by omega)];exact hc 1 _ rfl⟩
structure as3 where
 f0:(List (List Int))
 f1:Int
 f2:(List Int)
end Go.Proofs.YthmfdplckdijdaaGreat.Pr
end
section
namespace Go.Proofs.Wz.cX
open Go.RowKit Wz.cw Wz.fX
theorem hb_ {B:Nat} {w W:World} (h:Below B w W:=by repeat (first | (with_reducible first | exact HB.out | apply pG | apply oO | apply mS | refine qM ?_ (aE.out (by assumption))) | exact HB.out)):Below B w W:=h
theorem bs_ {w0 w w':World} (hb:Below w.heap.size w w') (h:Below w0.heap.size w0 w:=by repeat (first | (with_reducible first | exact HB.out | apply pG | apply oO | apply mS | refine qM ?_ (aE.out (by assumption))) | exact HB.out)):Below w0.heap.size w0 w':=eE h hb
theorem oI {w0 w:World} (h:Below w0.heap.size w0 w:=by repeat (first | (with_reducible first | exact HB.out | apply pG | apply oO | apply mS | refine qM ?_ (aE.out (by assumption))) | exact HB.out)):w0.heap.size≤w.heap.size:=Dq h
theorem nj {g:Nat} {o:Obj} {W:World} (h:W.heap[g]?=some o:=by(with_reducible repeat (first | refine tJ ?_ _ | refine mI ?_ | refine mY ?_ _));exact aE.out (by assumption)):W.heap[g]?=some o:=h
theorem bb_ {g:Nat} {o:Obj} {w w' W:World} (h0:W.heap[g]?=some o) (hb:Below w.heap.size w w') (h:w.heap[g]?=some o:=by(with_reducible repeat (first | refine tJ ?_ _ | refine mI ?_ | refine mY ?_ _));exact aE.out (by assumption)):w'.heap[g]?=some o:=ke h hb
theorem tU {g:Nat} {o:Obj} {w w' W:World} {row:Option Nat} (h0:W.heap[g]?=some o) (hg:w.grownBy w' row) (hn:some g≠row) (h:w.heap[g]?=some o:=by(with_reducible repeat (first | refine tJ ?_ _ | refine mI ?_ | refine mY ?_ _));exact aE.out (by assumption)):w'.heap[g]?=some o:=m8 h hg hn
theorem lt_ {g:Nat} {o:Obj} {w W:World} (h0:W.heap[g]?=some o) (h:w.heap[g]?=some o:=by(with_reducible repeat (first | refine tJ ?_ _ | refine mI ?_ | refine mY ?_ _));exact aE.out (by assumption)):g≠w.heap.size:=Nat.ne_of_lt (pq h)
theorem gt_ {g:Nat} {o:Obj} {w W:World} (h0:W.heap[g]?=some o) (h:w.heap[g]?=some o:=by(with_reducible repeat (first | refine tJ ?_ _ | refine mI ?_ | refine mY ?_ _));exact aE.out (by assumption)):w.heap.size≠g:=Nat.ne_of_gt (pq h)
section
variable {α:Type} {d:Kd α} {e base:Nat} {ok:Nat→Prop} {v:Value} {xs:List α} {w w' W:World}
theorem m5 (h0:d.R e W base ok v xs) (h:d.R e w base ok v xs:=by(with_reducible repeat (first | apply Kd.mK | apply Kd.mJ | apply Kd.mF));exact aE.out (by assumption)):d.R e w base ok v xs:=h
theorem rb_ (h0:d.R e W base ok v xs) (hb:Below w.heap.size w w') (h:d.R e w base ok v xs:=by(with_reducible repeat (first | apply Kd.mK | apply Kd.mJ | apply Kd.mF));exact aE.out (by assumption)):d.R e w' base ok v xs:=Kd.oQ h hb
theorem nw (h0:d.S e W base ok v xs) (h:d.S e w base ok v xs:=by(with_reducible repeat (first | apply Kd.mO | apply Kd.mN | apply Kd.mM));exact aE.out (by assumption)):d.S e w base ok v xs:=h
theorem ni {A:Option Addr} {n:Nat} (h0:d.C W A n xs) (hb:Below W.heap.size W w') (h:d.C w A n xs:=by repeat (first | exact(Kd.nW (aE.out (by assumption)) HB.out) | (with_reducible refine Kd.sY ?_ _) | (with_reducible refine Kd.sX ?_ _) | (with_reducible refine Kd.uc ?_))):d.C w A n xs:=h
end
section
variable {P:Program} {ops:Array Oper} {Q:Exit→Act→World→Prop} {md:Region.Mode} {S:World→Prop} {ds:List Nat}
def fm (n m:Nat):Array Bool:=((List.range n).map m.testBit).toArray
theorem qx {id n:Nat} {a:Act} {w:World} (hS:S w.drew) (h:S w.drew→mw P .any ops Q S ds n (fm n 0) a w.drew) (hn:ops.size=n:=by rfl) (hm:P.follows .mixedOrders=true:=by kernel_rfl):(Code.region id ops true).wp P Q a w:=
 aiz (fm n 0) hm hn (by unfold fm;apply Array.ext <;> simp) hS h
theorem lX {n m:Nat} (i:Nat) (N:Tmp) {oi:Oper} {v:Value} {fuel:Nat} {a a':Act} {w:World} (h:mw P md ops Q S ds fuel (fm n (m ||| 2 ^ i)) a' w)
  (hi:ops[i]?=some oi:=by rfl) (hN:oi.dst=some N:=by rfl) (hc:Ae md ops (fm n m) (fm n (m ||| 2 ^ i)) i=true:=by first | exact zf pL.out (by kernel_rfl) | kernel_rfl) (hQ: ∀c a w,Q (.panic c) (a.put oi.dst v) w→Q (.panic c) a w:=by exact fun _ _ _ h=>h)
  (hy:Yields P ops oi v a:=by(refine Or.inl ⟨by rfl,?_⟩;intro w';go_simp;with_reducible rfl)) (ha:a.put (some N) v=a':=by(simp only [Act.put,List.setIfInBounds_toArray,List.set_cons_zero,List.set_cons_succ,mT,nr];rfl)):mw P md ops Q S ds (fuel+1) (fm n m) a w:=
 afy _ hi hN hc hQ hy ha h
theorem oB {n m:Nat} (i:Nat) (N:Tmp) {oi:Oper} {fuel:Nat} {a a':Act} {w:World} (h:mw P md ops Q S ds fuel (fm n (m ||| 2 ^ i)) a' w)
  (hi:ops[i]?=some oi:=by rfl) (hN:oi.dst=some N:=by rfl) (hc:Ae md ops (fm n m) (fm n (m ||| 2 ^ i)) i=true:=by first | exact zf pL.out (by kernel_rfl) | kernel_rfl) (hQ: ∀c a w,Q (.panic c) (a.put oi.dst undef) w→Q (.panic c) a w:=by exact fun _ _ _ h=>h)
  (hy:Yields P ops oi undef a:=by exact Or.inr ⟨by rfl,rfl⟩) (ha:a.put (some N) undef=a':=by(simp only [Act.put,List.setIfInBounds_toArray,List.set_cons_zero,List.set_cons_succ,mT,nr];rfl)):mw P md ops Q S ds (fuel+1) (fm n m) a w:=
 afy _ hi hN hc hQ hy ha h
theorem mg {n m:Nat} (i:Nat) (N:Tmp) {oi:Oper} {v:Value} {fuel:Nat} {a a':Act} {w:World} (h:mw P md ops Q S ds fuel (fm n (m ||| 2 ^ i)) a' w)
  (hi:ops[i]?=some oi:=by rfl) (hN:oi.dst=some N:=by rfl) (hc:I9 md ops ds (fm n m) (fm n (m ||| 2 ^ i)) i=true:=by first | exact acN pL.out xA.out (by kernel_rfl) | exact Yb pL.out (by kernel_rfl) | kernel_rfl) (hQ: ∀c a w,Q (.panic c) (a.put oi.dst v) w→Q (.panic c) a w:=by exact fun _ _ _ h=>h)
  (hy:YieldsIf P ops S oi v a:=by(refine Or.inl ⟨by rfl,?_⟩;intro w' hs_;go_simp;with_reducible rfl)) (hS:S w:=by exact hHeld) (ha:a.put (some N) v=a':=by(simp only [Act.put,List.setIfInBounds_toArray,List.set_cons_zero,List.set_cons_succ,mT,nr];rfl)):mw P md ops Q S ds (fuel+1) (fm n m) a w:=
 Zv _ hi hN hc hQ hy hS ha h
theorem pz {n m:Nat} (i:Nat) (N:Option Tmp) {oi:Oper} {fuel:Nat} {a:Act} {w:World}
  (h: ∀K:Act→World→Prop,Shut (∀a' w',S w'→(S w'→mw P md ops Q S ds fuel (fm n (m ||| 2 ^ i)) a' w')→K a' w')→if Region.wanted oi (yielded ops a.tmps)=true then Oper.wp P oi a w K Q else K (a.put N undef) w)
  (hi:ops[i]?=some oi:=by rfl) (hN:oi.dst=N:=by rfl) (hc:Ck md ops (fm n m) (fm n (m ||| 2 ^ i)) i=true:=by first | exact abg pL.out (by kernel_rfl) | kernel_rfl) (hd:i ∉ ds:=by decide):mw P md ops Q S ds (fuel+1) (fm n m) a w:=
 adZ _ hi hN hc hd h
theorem DU {n m:Nat} (i:Nat) (N:Option Tmp) {oi:Oper} {fuel:Nat} {a:Act} {w:World}
  (h: ∀K:Act→World→Prop,Shut (∀a' w',mw P md ops Q S ds fuel (fm n (m ||| 2 ^ i)) a' w'→K a' w')→if Region.wanted oi (yielded ops a.tmps)=true then Oper.wp P oi a w K Q else K (a.put N undef) w)
  (hi:ops[i]?=some oi:=by rfl) (hN:oi.dst=N:=by rfl) (hc:Ck md ops (fm n m) (fm n (m ||| 2 ^ i)) i=true:=by first | exact abg pL.out (by kernel_rfl) | kernel_rfl) (hd:i ∈ ds:=by decide):mw P md ops Q S ds (fuel+1) (fm n m) a w:=
 GI _ hi hN hc hd h
theorem AU {fuel:Nat} {l:Array Bool} {a a':Act} {w:World} (h:mw P md ops Q S ds fuel l a' w) (ha:a=a':=by(show Act.put _ _ _=_;simp only [Act.put,List.setIfInBounds_toArray,List.set_cons_zero,List.set_cons_succ,mT,nr];rfl)):mw P md ops Q S ds fuel l a w:=mP ha h
theorem X5 {oi:Oper} {N:Option Tmp} {a:Act} {w:World} {K:Act→World→Prop} {v:Value} {w1:World} (h:K (a.put N v) w1) (hw:Region.wanted oi (yielded ops a.tmps)=true:=by rfl) (hN:oi.dst=N:=by rfl) (hrun:(execOp a.eval oi).run P w= .ok (.value v) w1:=by(go_simp;constructor;rfl;rfl)):
  if Region.wanted oi (yielded ops a.tmps)=true then Oper.wp P oi a w K Q else K (a.put N undef) w:=DG hw hN hrun h
theorem IE {oi:Oper} {N:Option Tmp} {a:Act} {w:World} {K:Act→World→Prop} {f:FuncId} {fn:Func} {ar:Array Operand} {ts:Array TypeId} (hf:P.funcs[f]?=some fn) (args:Array Value) (h:Calls P f args w fun e w'=> ∃v,e= .returned v∧K (a.put N v) w')
  (hname:(fn.name== "runtime.NumGoroutine")=false:=by kernel_rfl) (hb:fn.body.isSome=true:=by rfl) (hw:Region.wanted oi (yielded ops a.tmps)=true:=by rfl) (hN:oi.dst=N:=by rfl) (hop:oi.op= .call { callee:= .value (.func f),args:=ar,argTypes:=ts}:=by rfl)
  (hargs:ar.map a.eval=args:=by(try simp only [List.map_toArray,List.map_cons,List.map_nil]);first | done | rfl):if Region.wanted oi (yielded ops a.tmps)=true then Oper.wp P oi a w K Q else K (a.put N undef) w:=sH hf hname hb args hw hN hop hargs h
end
theorem lS {g t:Nat} {cells:Array Value} {w:World} (h:aE (w.heap[g]?=some (.cells cells t (0,0)))) (i:Nat) {v:Value} (hv:cells[i]?=some v:=by first | ((simp only [List.getElem?_toArray,List.getElem?_cons_succ,List.getElem?_cons_zero]);rfl) | rfl):w.cell? ⟨g,i,none⟩=some v:=(bp h.out i).trans hv
end Go.Proofs.Wz.cX
end
section
namespace Go.Proofs.Wz.cX
open Go.RowKit Wz.cw Wz.fX
set_option linter.unusedVariables false
theorem l7 {p:Prop} {i_:Decidable p} (h:decide p=true:=by first | (with_reducible assumption) | assumption):p:=of_decide_eq_true h
theorem nM {α:Sort _} {a b:α} (h:a=b:=by first | rfl | (simp;done) | (simp [*];done)):a=b:=h
theorem oJ {P:Program} {ops:Array Oper} {Q:Exit→Act→World→Prop} {rest:List Oper} {oi:Oper} {a:Act} {w:World} (N:Tmp) {f:FuncId} {fn:Func} {ar:Array Operand} {ts:Array TypeId} (hf:P.funcs[f]?=some fn) (args:Array Value) (h:Calls P f args w fun e w'=> ∃v,e= .returned v∧wpList P ops Q rest (a.put (some N) v) w')
  (hd:oi.dst=some N:=by rfl) (hg:oi.guard=none:=by rfl) (hname:(fn.name== "runtime.NumGoroutine")=false:=by kernel_rfl) (hb:fn.body.isSome=true:=by rfl) (hop:oi.op= .call { callee:= .value (.func f),args:=ar,argTypes:=ts}:=by rfl)
  (hargs:ar.map a.eval=args:=by(try simp only [List.map_toArray,List.map_cons,List.map_nil]);first | done | rfl | (simp only [List.length_drop,List.length_take];rfl)):wpList P ops Q (oi::rest) a w:=VF (some N) hd hg hf hname hb args hop hargs h
theorem hk_ {w w1:World} {g:Nat} {row:Option Nat} (h:mL w w1 g row:=by repeat (first | (with_reducible first | exact HK.out | apply mL.ZH | apply Z0 | apply abq | apply Z1 | refine ad7 (w:=w) ?_ (aE.out (by assumption)) _ | refine ad7 ?_ (aE.out (by assumption)) _) | exact HK.out)):mL w w1 g row:=h
theorem nR {P:Program} {ops:Array Oper} {rest:List Oper} {o:Oper} {a:Act} {Q:Exit→Act→World→Prop} {W:World} (N:Tmp) (cs:Array Value) (t:TypeId) (h: ∀g,g=W.heap.size→∀w1,w1.heap[g]?=some (.cells cs t (0,0))→Below W.heap.size W w1→wpList P ops Q rest (a.put o.dst (.pointer (some ⟨g,0,none⟩))) w1) (hgd:o.guard=none:=by rfl) (hd:o.dst=some N:=by rfl) (hrun:(execOp a.eval o).run P W= .ok (.value (.pointer (some ⟨W.heap.size,0,none⟩))) (W.alloc (.cells cs t (0,0))):=by first | (go_simp;done) | (go_simp;rfl)):wpList P ops Q (o::rest) a W:=abY hgd hd hrun h
theorem hh_ {p:Prop} (h:p:=by first | (rw [hy];with_reducible exact H) | (have H2_:=(Option.bind_some _ _).symm.trans H;rw [hy];with_reducible exact H2_) | (have H2_:=(Option.bind_some _ _).symm.trans H;with_reducible exact H2_) | with_reducible exact H | (rw [hy];exact H) | exact H):p:=h
theorem yh {a b:Int} (h:a=b):(a==b)=true:=beq_iff_eq.mpr h
theorem yg {a b:Int} (h:a=b):(a !=b)=false:=bne_eq_false_iff_eq.mpr h
theorem uJ {a b:Int} (h:¬a=b):(a==b)=false:=beq_eq_false_iff_ne.mpr h
theorem uI {a b:Int} (h:¬a=b):(a !=b)=true:=bne_iff_ne.mpr h
theorem aol {w:World} {g:Nat} {a b x:Value} {t:TypeId} (h:w.heap[g]?=some (.cells #[a,b] t (0,0))):(w.setCell ⟨g,0,none⟩ x).heap[g]?=some (.cells #[x,b] t (0,0)):=mD h 0 _ rfl
theorem aok {w:World} {g:Nat} {a b x:Value} {t:TypeId} (h:w.heap[g]?=some (.cells #[a,b] t (0,0))):(w.setCell ⟨g,1,none⟩ x).heap[g]?=some (.cells #[a,x] t (0,0)):=mD h 1 _ rfl
theorem aoj {w:World} {g:Nat} {a b c x:Value} {t:TypeId} (h:w.heap[g]?=some (.cells #[a,b,c] t (0,0))):(w.setCell ⟨g,0,none⟩ x).heap[g]?=some (.cells #[x,b,c] t (0,0)):=mD h 0 _ rfl
theorem aoi {w:World} {g:Nat} {a b c x:Value} {t:TypeId} (h:w.heap[g]?=some (.cells #[a,b,c] t (0,0))):(w.setCell ⟨g,1,none⟩ x).heap[g]?=some (.cells #[a,x,c] t (0,0)):=mD h 1 _ rfl
theorem aoh {w:World} {g:Nat} {a b c x:Value} {t:TypeId} (h:w.heap[g]?=some (.cells #[a,b,c] t (0,0))):(w.setCell ⟨g,2,none⟩ x).heap[g]?=some (.cells #[a,b,x] t (0,0)):=mD h 2 _ rfl
theorem oX {g:Nat} {o:Obj} {W:World} (h:W.heap[g]?=some o:=by repeat (first | (with_reducible exact aE.out (by assumption)) | (with_reducible first | refine tJ ?_ _ | refine mI ?_ | refine mY ?_ _) | (with_reducible first | apply aol | apply aok | apply aoj | apply aoi | apply aoh | refine vJ ?_ (aE.out (by assumption)) _))):W.heap[g]?=some o:=h
theorem wR {α:Type} {d:Kd α} {e base:Nat} {ok:Nat→Prop} {v:Value} {xs:List α} {w:World} {g t:Nat} {cs:Array Value} {a b c:Value} (h:d.S e w base ok v xs) (hb:w.heap[g]?=some (.cells cs t (0,0))) (ht:∀q,q ∈ e::d.E→q≠t:=by decide):d.S e (((w.setCell ⟨g,0,none⟩ a).setCell ⟨g,1,none⟩ b).setCell ⟨g,2,none⟩ c) base (fun k=>ok k∧k≠g) v xs:=Kd.tM (p:=⟨g,2,none⟩) (Kd.tM (p:=⟨g,1,none⟩) (Kd.tM (p:=⟨g,0,none⟩) (Kd.vZ h hb ht) (fun _ hk=>hk.2) a) (fun _ hk=>hk.2) b) (fun _ hk=>hk.2) c
theorem Qk {α:Type} {d:Kd α} {e base:Nat} {ok:Nat→Prop} {v:Value} {xs:List α} {w:World} {g t:Nat} {cs:Array Value} {a b:Value} (h:d.S e w base ok v xs) (hb:w.heap[g]?=some (.cells cs t (0,0))) (ht:∀q,q ∈ e::d.E→q≠t:=by decide):d.S e ((w.setCell ⟨g,0,none⟩ a).setCell ⟨g,1,none⟩ b) base (fun k=>ok k∧k≠g) v xs:=Kd.tM (p:=⟨g,1,none⟩) (Kd.tM (p:=⟨g,0,none⟩) (Kd.vZ h hb ht) (fun _ hk=>hk.2) a) (fun _ hk=>hk.2) b
theorem DN {α:Type} {d:Kd α} {e base:Nat} {ok:Nat→Prop} {v:Value} {xs:List α} {w:World} {g t:Nat} {cs:Array Value} {a b c:Value} (h:d.R e w base ok v xs) (hb:w.heap[g]?=some (.cells cs t (0,0))) (ht:∀q,q ∈ e::d.E→q≠t:=by decide):d.R e (((w.setCell ⟨g,0,none⟩ a).setCell ⟨g,1,none⟩ b).setCell ⟨g,2,none⟩ c) base (fun k=>ok k∧k≠g) v xs:=Kd.nN (p:=⟨g,2,none⟩) (Kd.nN (p:=⟨g,1,none⟩) (Kd.nN (p:=⟨g,0,none⟩) (Kd.wg h hb ht) (fun _ hk=>hk.2) a) (fun _ hk=>hk.2) b) (fun _ hk=>hk.2) c
theorem H7 {α:Type} {d:Kd α} {e base:Nat} {ok:Nat→Prop} {v:Value} {xs:List α} {w:World} {g t:Nat} {cs:Array Value} {a b:Value} (h:d.R e w base ok v xs) (hb:w.heap[g]?=some (.cells cs t (0,0))) (ht:∀q,q ∈ e::d.E→q≠t:=by decide):d.R e ((w.setCell ⟨g,0,none⟩ a).setCell ⟨g,1,none⟩ b) base (fun k=>ok k∧k≠g) v xs:=Kd.nN (p:=⟨g,1,none⟩) (Kd.nN (p:=⟨g,0,none⟩) (Kd.wg h hb ht) (fun _ hk=>hk.2) a) (fun _ hk=>hk.2) b
theorem F9 {α:Type} {d:Kd α} {n:Nat} {A:Option Addr} {xs:List α} {w:World} (h:d.C w A n xs:=by repeat (first | exact (Kd.lU (aE.out (by assumption))).2.2 | (with_reducible refine Kd.sY ?_ _) | (with_reducible refine Kd.sX ?_ _) | (with_reducible refine Kd.uc ?_))):d.C w A n xs:=h
theorem PB {α:Type} {d:Kd α} {n:Nat} {A:Option Addr} {xs:List α} {w:World} (h:d.C w A n xs:=by repeat (first | exact (Kd.qH (aE.out (by assumption))).2.2 | (with_reducible refine Kd.sY ?_ _) | (with_reducible refine Kd.sX ?_ _) | (with_reducible refine Kd.uc ?_))):d.C w A n xs:=h
theorem pH {p:Prop} (h:p:=by first | rfl | (simp [qY,qX] <;> rfl) | (simp [*,qY,qX] <;> rfl)):p:=h
theorem qI {g t:Nat} {a b c:Value} {w:World} (h:aE (w.heap[g]?=some (.cells #[a,b,c] t (0,0)))):w.cell? ⟨g,0,none⟩=some a∧w.cell? ⟨g,1,none⟩=some b∧w.cell? ⟨g,2,none⟩=some c∧w.frozen? ⟨g,0,none⟩=false∧w.frozen? ⟨g,1,none⟩=false∧w.frozen? ⟨g,2,none⟩=false:=⟨bp h.out 0,bp h.out 1,bp h.out 2,gE h.out 0,gE h.out 1,gE h.out 2⟩
theorem nF {g t:Nat} {a b:Value} {w:World} (h:aE (w.heap[g]?=some (.cells #[a,b] t (0,0)))):w.cell? ⟨g,0,none⟩=some a∧w.cell? ⟨g,1,none⟩=some b∧w.frozen? ⟨g,0,none⟩=false∧w.frozen? ⟨g,1,none⟩=false:=⟨bp h.out 0,bp h.out 1,gE h.out 0,gE h.out 1⟩
theorem mq {w:World} (w0:World) {g:Nat} (hg:g=w.heap.size) (h:Below w0.heap.size w0 w:=by repeat (first | (with_reducible first | exact HB.out | apply pG | apply oO | apply mS | refine qM ?_ (aE.out (by assumption))) | exact HB.out)):aE (w0.heap.size≤g):=⟨by rw [hg];exact Dq h⟩
theorem r7 {g g2:Nat} {o:Obj} {w W:World} (hg:g2=w.heap.size) (h0:aE (W.heap[g]?=some o)) (h:w.heap[g]?=some o:=by (with_reducible repeat (first | refine tJ ?_ _ | refine mI ?_ | refine mY ?_ _));exact aE.out (by assumption)):aE (g≠g2):=⟨by rw [hg];exact Nat.ne_of_lt (pq h)⟩
theorem rY {g g2:Nat} {o:Obj} {w W:World} (hg:g2=w.heap.size) (h0:aE (W.heap[g]?=some o)) (h:w.heap[g]?=some o:=by (with_reducible repeat (first | refine tJ ?_ _ | refine mI ?_ | refine mY ?_ _));exact aE.out (by assumption)):aE (g2≠g):=⟨by rw [hg];exact Nat.ne_of_gt (pq h)⟩
theorem lZ {g:Nat} {o:Obj} {w w' W:World} (h0:aE (W.heap[g]?=some o)) (hb:Below w.heap.size w w') (h:w.heap[g]?=some o:=by (with_reducible repeat (first | refine tJ ?_ _ | refine mI ?_ | refine mY ?_ _));exact aE.out (by assumption)):aE (w'.heap[g]?=some o):=⟨ke h hb⟩
theorem lT {w0 w w':World} (hb:Below w.heap.size w w') (h:Below w0.heap.size w0 w:=by repeat (first | (with_reducible first | exact HB.out | apply pG | apply oO | apply mS | refine qM ?_ (aE.out (by assumption))) | exact HB.out)):aE (Below w0.heap.size w0 w'):=⟨eE h hb⟩
theorem rK {α:Type} {d:Kd α} {e base:Nat} {ok:Nat→Prop} {v:Value} {xs:List α} {w w' W:World} (h0:aE (d.R e W base ok v xs)) (hb:Below w.heap.size w w') (h:d.R e w base ok v xs:=by (with_reducible repeat (first | apply Kd.mK | apply Kd.mJ | apply Kd.mF));exact aE.out (by assumption)):aE (d.R e w' base ok v xs):=⟨Kd.oQ h hb⟩
theorem DK {P:Program} {ops:Array Oper} {rest:List Oper} {o:Oper} {a:Act} {Q:Exit→Act→World→Prop} {W:World} {v:Operand} (t:TypeId) (p:Tmp) (w1:World) (h:∀w',w'=w1→wpList P ops Q rest a w') (ho:o.op= .store t (.tmp p) v:=by rfl) (hgd:o.guard=none:=by rfl) (hN:o.dst=none:=by rfl) (hr:(execOp a.eval o).run P W= .ok .skip w1:=by first | (go_simp;done) | (go_simp;rfl)):wpList P ops Q (o::rest) a W:=XD hgd ho hN hr h
theorem kS_ {α:Type} {d:Kd α} {e base:Nat} {ok ok':Nat→Prop} {v:Value} {xs:List α} {w W:World} (h0:d.S e w base ok' v xs) (hk:∀k,ok' k→ok k) (h:d.S e w base ok' v xs→d.S e W base ok' v xs:=by intro h;(with_reducible repeat (first | apply Kd.mO | apply Kd.mN | apply Kd.mM));exact h):d.S e W base ok v xs:=Kd.mB (h h0) hk
theorem kR_ {α:Type} {d:Kd α} {e base:Nat} {ok ok':Nat→Prop} {v:Value} {xs:List α} {w W:World} (h0:d.R e w base ok' v xs) (hk:∀k,ok' k→ok k) (h:d.R e w base ok' v xs→d.R e W base ok' v xs:=by intro h;(with_reducible repeat (first | apply Kd.mK | apply Kd.mJ | apply Kd.mF));exact h):d.R e W base ok v xs:=Kd.fY (h h0) hk
theorem bc_ {w w':World} {a:Addr} {v:Value} (hB:Below w.heap.size w w') (hx:w.cell? a=some v):w'.cell? a=some v:=(hB.cell (World.block_lt_of_cell? w _ hx)).trans hx
theorem nm_ {P:Program} {ops:Array Oper} {Q:Exit→Act→World→Prop} {md:Region.Mode} {S:World→Prop} {ds:List Nat} {fuel:Nat} {l:Array Bool} {a a':Act} {w:World} (h:mw P md ops Q S ds fuel l a' w) (ha:a=a':=by first | (simp only [nY,Act.put,List.setIfInBounds_toArray,List.set_cons_zero,List.set_cons_succ];done) | (simp only [nY,Act.put,List.setIfInBounds_toArray,List.set_cons_zero,List.set_cons_succ];rfl)):mw P md ops Q S ds fuel l a w:=mP ha h
theorem sU {P:Program} {ops:Array Oper} {Q:Exit→Act→World→Prop} {md:Region.Mode} {S:World→Prop} {ds:List Nat} {n m:Nat} (i0:Nat) (N0:Tmp) (i1:Nat) (N1:Tmp) {fuel:Nat} {w:World} {a0:Act} {o0:Oper} {v0:Value} {a1:Act} {o1:Oper} {v1:Value} {a2:Act} (h:mw P md ops Q S ds fuel (fm n ((m ||| 2 ^ i0) ||| 2 ^ i1)) a2 w) (hi0:ops[i0]?=some o0:=by rfl) (hN0:o0.dst=some N0:=by rfl) (hc0:Ae md ops (fm n m) (fm n (m ||| 2 ^ i0)) i0=true:=by first | exact zf pL.out (by kernel_rfl) | kernel_rfl) (hQ0:∀c a w,Q (.panic c) (a.put o0.dst v0) w→Q (.panic c) a w:=by exact fun _ _ _ h=>h) (hy0:Yields P ops o0 v0 a0:=by (refine Or.inl ⟨by rfl, ?_⟩;intro w';go_simp;with_reducible rfl)) (ha0:a0.put (some N0) v0=a1:=by (simp only [Act.put,List.setIfInBounds_toArray,List.set_cons_zero,List.set_cons_succ,mT,nr];rfl)) (hi1:ops[i1]?=some o1:=by rfl) (hN1:o1.dst=some N1:=by rfl) (hc1:Ae md ops (fm n (m ||| 2 ^ i0)) (fm n ((m ||| 2 ^ i0) ||| 2 ^ i1)) i1=true:=by first | exact zf pL.out (by kernel_rfl) | kernel_rfl) (hQ1:∀c a w,Q (.panic c) (a.put o1.dst v1) w→Q (.panic c) a w:=by exact fun _ _ _ h=>h) (hy1:Yields P ops o1 v1 a1:=by (refine Or.inl ⟨by rfl, ?_⟩;intro w';go_simp;with_reducible rfl)) (ha1:a1.put (some N1) v1=a2:=by (simp only [Act.put,List.setIfInBounds_toArray,List.set_cons_zero,List.set_cons_succ,mT,nr];rfl)):mw P md ops Q S ds (fuel+2) (fm n m) a0 w:=lX i0 N0 (lX i1 N1 h hi1 hN1 hc1 hQ1 hy1 ha1) hi0 hN0 hc0 hQ0 hy0 ha0
theorem rm {P:Program} {ops:Array Oper} {Q:Exit→Act→World→Prop} {md:Region.Mode} {S:World→Prop} {ds:List Nat} {n m:Nat} (i0:Nat) (N0:Tmp) (i1:Nat) (N1:Tmp) (i2:Nat) (N2:Tmp) {fuel:Nat} {w:World} {a0:Act} {o0:Oper} {v0:Value} {a1:Act} {o1:Oper} {v1:Value} {a2:Act} {o2:Oper} {v2:Value} {a3:Act} (h:mw P md ops Q S ds fuel (fm n (((m ||| 2 ^ i0) ||| 2 ^ i1) ||| 2 ^ i2)) a3 w) (hi0:ops[i0]?=some o0:=by rfl) (hN0:o0.dst=some N0:=by rfl) (hc0:Ae md ops (fm n m) (fm n (m ||| 2 ^ i0)) i0=true:=by first | exact zf pL.out (by kernel_rfl) | kernel_rfl) (hQ0:∀c a w,Q (.panic c) (a.put o0.dst v0) w→Q (.panic c) a w:=by exact fun _ _ _ h=>h) (hy0:Yields P ops o0 v0 a0:=by (refine Or.inl ⟨by rfl, ?_⟩;intro w';go_simp;with_reducible rfl)) (ha0:a0.put (some N0) v0=a1:=by (simp only [Act.put,List.setIfInBounds_toArray,List.set_cons_zero,List.set_cons_succ,mT,nr];rfl)) (hi1:ops[i1]?=some o1:=by rfl) (hN1:o1.dst=some N1:=by rfl) (hc1:Ae md ops (fm n (m ||| 2 ^ i0)) (fm n ((m ||| 2 ^ i0) ||| 2 ^ i1)) i1=true:=by first | exact zf pL.out (by kernel_rfl) | kernel_rfl) (hQ1:∀c a w,Q (.panic c) (a.put o1.dst v1) w→Q (.panic c) a w:=by exact fun _ _ _ h=>h) (hy1:Yields P ops o1 v1 a1:=by (refine Or.inl ⟨by rfl, ?_⟩;intro w';go_simp;with_reducible rfl)) (ha1:a1.put (some N1) v1=a2:=by (simp only [Act.put,List.setIfInBounds_toArray,List.set_cons_zero,List.set_cons_succ,mT,nr];rfl)) (hi2:ops[i2]?=some o2:=by rfl) (hN2:o2.dst=some N2:=by rfl) (hc2:Ae md ops (fm n ((m ||| 2 ^ i0) ||| 2 ^ i1)) (fm n (((m ||| 2 ^ i0) ||| 2 ^ i1) ||| 2 ^ i2)) i2=true:=by first | exact zf pL.out (by kernel_rfl) | kernel_rfl) (hQ2:∀c a w,Q (.panic c) (a.put o2.dst v2) w→Q (.panic c) a w:=by exact fun _ _ _ h=>h) (hy2:Yields P ops o2 v2 a2:=by (refine Or.inl ⟨by rfl, ?_⟩;intro w';go_simp;with_reducible rfl)) (ha2:a2.put (some N2) v2=a3:=by (simp only [Act.put,List.setIfInBounds_toArray,List.set_cons_zero,List.set_cons_succ,mT,nr];rfl)):mw P md ops Q S ds (fuel+3) (fm n m) a0 w:=lX i0 N0 (lX i1 N1 (lX i2 N2 h hi2 hN2 hc2 hQ2 hy2 ha2) hi1 hN1 hc1 hQ1 hy1 ha1) hi0 hN0 hc0 hQ0 hy0 ha0
theorem sB {P:Program} {ops:Array Oper} {Q:Exit→Act→World→Prop} {md:Region.Mode} {S:World→Prop} {ds:List Nat} {n m:Nat} (i0:Nat) (N0:Tmp) (i1:Nat) (N1:Tmp) (i2:Nat) (N2:Tmp) (i3:Nat) (N3:Tmp) {fuel:Nat} {w:World} {a0:Act} {o0:Oper} {v0:Value} {a1:Act} {o1:Oper} {v1:Value} {a2:Act} {o2:Oper} {v2:Value} {a3:Act} {o3:Oper} {v3:Value} {a4:Act} (h:mw P md ops Q S ds fuel (fm n ((((m ||| 2 ^ i0) ||| 2 ^ i1) ||| 2 ^ i2) ||| 2 ^ i3)) a4 w) (hi0:ops[i0]?=some o0:=by rfl) (hN0:o0.dst=some N0:=by rfl) (hc0:Ae md ops (fm n m) (fm n (m ||| 2 ^ i0)) i0=true:=by first | exact zf pL.out (by kernel_rfl) | kernel_rfl) (hQ0:∀c a w,Q (.panic c) (a.put o0.dst v0) w→Q (.panic c) a w:=by exact fun _ _ _ h=>h) (hy0:Yields P ops o0 v0 a0:=by (refine Or.inl ⟨by rfl, ?_⟩;intro w';go_simp;with_reducible rfl)) (ha0:a0.put (some N0) v0=a1:=by (simp only [Act.put,List.setIfInBounds_toArray,List.set_cons_zero,List.set_cons_succ,mT,nr];rfl)) (hi1:ops[i1]?=some o1:=by rfl) (hN1:o1.dst=some N1:=by rfl) (hc1:Ae md ops (fm n (m ||| 2 ^ i0)) (fm n ((m ||| 2 ^ i0) ||| 2 ^ i1)) i1=true:=by first | exact zf pL.out (by kernel_rfl) | kernel_rfl) (hQ1:∀c a w,Q (.panic c) (a.put o1.dst v1) w→Q (.panic c) a w:=by exact fun _ _ _ h=>h) (hy1:Yields P ops o1 v1 a1:=by (refine Or.inl ⟨by rfl, ?_⟩;intro w';go_simp;with_reducible rfl)) (ha1:a1.put (some N1) v1=a2:=by (simp only [Act.put,List.setIfInBounds_toArray,List.set_cons_zero,List.set_cons_succ,mT,nr];rfl)) (hi2:ops[i2]?=some o2:=by rfl) (hN2:o2.dst=some N2:=by rfl) (hc2:Ae md ops (fm n ((m ||| 2 ^ i0) ||| 2 ^ i1)) (fm n (((m ||| 2 ^ i0) ||| 2 ^ i1) ||| 2 ^ i2)) i2=true:=by first | exact zf pL.out (by kernel_rfl) | kernel_rfl) (hQ2:∀c a w,Q (.panic c) (a.put o2.dst v2) w→Q (.panic c) a w:=by exact fun _ _ _ h=>h) (hy2:Yields P ops o2 v2 a2:=by (refine Or.inl ⟨by rfl, ?_⟩;intro w';go_simp;with_reducible rfl)) (ha2:a2.put (some N2) v2=a3:=by (simp only [Act.put,List.setIfInBounds_toArray,List.set_cons_zero,List.set_cons_succ,mT,nr];rfl)) (hi3:ops[i3]?=some o3:=by rfl) (hN3:o3.dst=some N3:=by rfl) (hc3:Ae md ops (fm n (((m ||| 2 ^ i0) ||| 2 ^ i1) ||| 2 ^ i2)) (fm n ((((m ||| 2 ^ i0) ||| 2 ^ i1) ||| 2 ^ i2) ||| 2 ^ i3)) i3=true:=by first | exact zf pL.out (by kernel_rfl) | kernel_rfl) (hQ3:∀c a w,Q (.panic c) (a.put o3.dst v3) w→Q (.panic c) a w:=by exact fun _ _ _ h=>h) (hy3:Yields P ops o3 v3 a3:=by (refine Or.inl ⟨by rfl, ?_⟩;intro w';go_simp;with_reducible rfl)) (ha3:a3.put (some N3) v3=a4:=by (simp only [Act.put,List.setIfInBounds_toArray,List.set_cons_zero,List.set_cons_succ,mT,nr];rfl)):mw P md ops Q S ds (fuel+4) (fm n m) a0 w:=lX i0 N0 (lX i1 N1 (lX i2 N2 (lX i3 N3 h hi3 hN3 hc3 hQ3 hy3 ha3) hi2 hN2 hc2 hQ2 hy2 ha2) hi1 hN1 hc1 hQ1 hy1 ha1) hi0 hN0 hc0 hQ0 hy0 ha0
end Go.Proofs.Wz.cX
end
section
namespace Go.Proofs.YthmfdplckdijdaaGreat.Pr
open Go.RowKit Wz.cw Wz.fX Wz.cX
attribute [local go_sem] nV nT oF oD nC nB nU nS
def l9 (w0 W:World) (g:Nat) (f0:List Int) (f1:Int) (f2:Int):Prop:= ∃A0 c0,W.heap[g]?=some (.cells #[.slice A0 f0.length c0, .int .i64 f1, .int .u64 f2] 122 (0,0))∧w0.heap.size≤g∧Kd.C (Kd.int .u8) w0 A0 f0.length f0
theorem l9.grown {w0 W:World} {g:Nat} {f0:List Int} {f1:Int} {f2:Int} {W1:World} {row:Option Nat} (h:l9 w0 W g f0 f1 f2) (hw:W.grownBy W1 row) (hne:some g≠row):l9 w0 W1 g f0 f1 f2:=by
 obtain⟨A0,c0,hb,hg,hr0⟩:=h
 exact⟨A0,c0,m8 hb hw hne,hg,hr0⟩
theorem l9.aoF {w0 W:World} {g:Nat} {f0:List Int} {f1:Int} {f2:Int} {α:Type} {d:Kd α} {e:Nat} {base:Nat} {ok:Nat→Prop} {v:Value} {xs:List α} (h:l9 w0 W g f0 f1 f2) (ho:Kd.N d e W base ok v xs) (ht:e≠122):some g≠v.ownBlock:=by
 obtain⟨A0,c0,hb,hg,hr0⟩:=h
 exact Kd.aoq ho hb ht
theorem l9.fresh {w0 W:World} {g:Nat} {f0:List Int} {f1:Int} {f2:Int} (h:l9 w0 W g f0 f1 f2): ∀k,W.heap.size≤k→k≠g:=by
 obtain⟨A0,c0,hb,hg,hr0⟩:=h
 exact Kd.F6 hb
theorem l9.kept {w0 W:World} {g:Nat} {f0:List Int} {f1:Int} {f2:Int} {W1:World} {S:Nat→Prop} (h:l9 w0 W g f0 f1 f2) (hk:Kept W W1 S) (hne: ¬ S g):l9 w0 W1 g f0 f1 f2:=by
 obtain⟨A0,c0,hb,hg,hr0⟩:=h
 exact⟨A0,c0,ae2 hb hk hne,hg,hr0⟩
theorem l9.below {w0 W:World} {g:Nat} {f0:List Int} {f1:Int} {f2:Int} {W1:World} (h:l9 w0 W g f0 f1 f2) (hw:Below W.heap.size W W1):l9 w0 W1 g f0 f1 f2:=h.grown (F4 hw none) (by simp)
theorem l9.alloc {w0 W:World} {g:Nat} {f0:List Int} {f1:Int} {f2:Int} (h:l9 w0 W g f0 f1 f2) (o:Obj):l9 w0 (W.alloc o) g f0 f1 f2:=h.below (pG (Below.refl _ _) o)
theorem l9.drewN {w0 W:World} {g:Nat} {f0:List Int} {f1:Int} {f2:Int} (h:l9 w0 W g f0 f1 f2) (m:Nat):l9 w0 (W.drewN m) g f0 f1 f2:=h
theorem l9.drew {w0 W:World} {g:Nat} {f0:List Int} {f1:Int} {f2:Int} (h:l9 w0 W g f0 f1 f2):l9 w0 W.drew g f0 f1 f2:=h
theorem l9.at_ {w0 W:World} {g:Nat} {f0:List Int} {f1:Int} {f2:Int} {w':World} {m:Nat} (hq:W.drewN m=w') (h:l9 w0 W g f0 f1 f2):l9 w0 w' g f0 f1 f2:=by subst hq;exact l9.drewN h m
theorem l9.apart {w0 W:World} {g:Nat} {f0:List Int} {f1:Int} {f2:Int} {α:Type} {d:Kd α} {e:Nat} {base:Nat} {ok:Nat→Prop} {v:Value} {xs:List α} (h:l9 w0 W g f0 f1 f2) (ho:d.R e W base ok v xs) (ht: ∀q,q ∈ e::d.E→q≠122):d.R e W base (fun k=>ok k∧k≠g) v xs:=by
 obtain⟨A0,c0,hb,hg,hr0⟩:=h
 exact Kd.wg ho hb ht
theorem l9.Fx {w0 W:World} {g:Nat} {f0:List Int} {f1:Int} {f2:Int} {α:Type} {d:Kd α} {e:Nat} {base:Nat} {ok:Nat→Prop} {v:Value} {xs:List α} (h:l9 w0 W g f0 f1 f2) (ho:d.R e W base ok v xs) (ht:e≠122):some g≠v.ownBlock:=by
 obtain⟨A0,c0,hb,hg,hr0⟩:=h
 exact Kd.pJ ho hb ht
theorem l9.aqT {w0 W:World} {g:Nat} {f0:List Int} {f1:Int} {f2:Int} {α:Type} {d:Kd α} {e:Nat} {base:Nat} {ok:Nat→Prop} {v:Value} {xs:List α} (h:l9 w0 W g f0 f1 f2) (ho:d.Q e W base ok v xs) (ht: ∀q,q ∈ e::d.E→q≠122):d.Q e W base (fun k=>ok k∧k≠g) v xs:=by
 obtain⟨A0,c0,hb,hg,hr0⟩:=h
 exact Kd.ahR ho hb ht
theorem l9.aoE {w0 W:World} {g:Nat} {f0:List Int} {f1:Int} {f2:Int} {α:Type} {d:Kd α} {e:Nat} {base:Nat} {ok:Nat→Prop} {v:Value} {xs:List α} (h:l9 w0 W g f0 f1 f2) (ho:d.Q e W base ok v xs) (ht:e≠122):some g≠v.ownBlock:=by
 obtain⟨A0,c0,hb,hg,hr0⟩:=h
 exact Kd.aop ho hb ht
theorem l9.ab6 {w0 W:World} {g:Nat} {f0:List Int} {f1:Int} {f2:Int} {α:Type} {d:Kd α} {e:Nat} {base:Nat} {ok:Nat→Prop} {v:Value} {xs:List α} (h:l9 w0 W g f0 f1 f2) (ho:d.S e W base ok v xs) (ht: ∀q,q ∈ e::d.E→q≠122):d.S e W base (fun k=>ok k∧k≠g) v xs:=by
 obtain⟨A0,c0,hb,hg,hr0⟩:=h
 exact Kd.vZ ho hb ht
theorem l9.ag0 {w0 W:World} {g:Nat} {f0:List Int} {f1:Int} {f2:Int} {α:Type} {d:Kd α} {e:Nat} {base:Nat} {ok:Nat→Prop} {v:Value} {xs:List α} (h:l9 w0 W g f0 f1 f2) (ho:d.S e W base ok v xs) (ht:e≠122):some g≠v.ownBlock:=by
 obtain⟨A0,c0,hb,hg,hr0⟩:=h
 exact Kd.sP ho hb ht
theorem l9.lt {w0 W:World} {g:Nat} {f0:List Int} {f1:Int} {f2:Int} (h:l9 w0 W g f0 f1 f2):g < W.heap.size:=by
 obtain⟨A0,c0,hb,hg,hr0⟩:=h
 exact pq hb
theorem l9.ge {w0 W:World} {g:Nat} {f0:List Int} {f1:Int} {f2:Int} (h:l9 w0 W g f0 f1 f2):w0.heap.size≤g:=by
 obtain⟨A0,c0,hb,hg,hr0⟩:=h
 exact hg
theorem l9.abo {w0 W:World} {g:Nat} {f0:List Int} {f1:Int} {f2:Int} {a:Nat} {cs:Array Value} {t:TypeId} {fr:Nat × Nat} (h:l9 w0 W g f0 f1 f2) (hb2:W.heap[a]?=some (.cells cs t fr)) (ht:t≠122):g≠a:=by
 obtain⟨A0,c0,hb,hg,hr0⟩:=h
 rintro rfl
 rw [hb] at hb2
 injection hb2 with hb2
 injection hb2 with _ ht2
 exact ht ht2.symm
theorem l9.far {w0 W:World} {g:Nat} {f0:List Int} {f1:Int} {f2:Int} {p:Addr} (h:l9 w0 W g f0 f1 f2) (hne:g≠p.block) (u:Value):l9 w0 (W.setCell p u) g f0 f1 f2:=by
 obtain⟨A0,c0,hb,hg,hr0⟩:=h
 exact⟨A0,c0,vJ hb hne u,hg,hr0⟩
theorem PA {W:World} {g:Nat} {A0:Option Addr} {c0:Nat} {f0:List Int} {f1:Int} {f2:Int} (h:W.heap[g]?=some (.cells #[.slice A0 f0.length c0, .int .i64 f1, .int .u64 f2] 122 (0,0))):W.cell? ⟨g,0,none⟩=some (.slice A0 f0.length c0):=(bp h 0).trans rfl
theorem Pz {W:World} {g:Nat} {A0:Option Addr} {c0:Nat} {f0:List Int} {f1:Int} {f2:Int} (h:W.heap[g]?=some (.cells #[.slice A0 f0.length c0, .int .i64 f1, .int .u64 f2] 122 (0,0))):W.cell? ⟨g,1,none⟩=some (.int .i64 f1):=(bp h 1).trans rfl
theorem l9.akP {w0 W:World} {g:Nat} {f0:List Int} {f1:Int} {f2:Int} (h:l9 w0 W g f0 f1 f2) (x:Int):l9 w0 (W.setCell ⟨g,1,none⟩ (.int .i64 x)) g f0 x f2:=by
 obtain⟨A0,c0,hb,hg,hr0⟩:=h
 exact⟨A0,c0,by simpa using Js hb 1 (.int .i64 x),hg,hr0⟩
theorem Py {W:World} {g:Nat} {A0:Option Addr} {c0:Nat} {f0:List Int} {f1:Int} {f2:Int} (h:W.heap[g]?=some (.cells #[.slice A0 f0.length c0, .int .i64 f1, .int .u64 f2] 122 (0,0))):W.cell? ⟨g,2,none⟩=some (.int .u64 f2):=(bp h 2).trans rfl
theorem l9.akO {w0 W:World} {g:Nat} {f0:List Int} {f1:Int} {f2:Int} (h:l9 w0 W g f0 f1 f2) (x:Int):l9 w0 (W.setCell ⟨g,2,none⟩ (.int .u64 x)) g f0 f1 x:=by
 obtain⟨A0,c0,hb,hg,hr0⟩:=h
 exact⟨A0,c0,by simpa using Js hb 2 (.int .u64 x),hg,hr0⟩
theorem l9.new (w0 W:World) (A0:Option Addr) (c0:Nat) (f0:List Int) (f1:Int) (f2:Int) (hB:Below w0.heap.size w0 W) (hr0:Kd.C (Kd.int .u8) w0 A0 f0.length f0):l9 w0 (W.alloc (.cells #[.slice A0 f0.length c0, .int .i64 f1, .int .u64 f2] 122)) W.heap.size f0 f1 f2:=⟨A0,c0,by simpa using heap_alloc_new W _,hB.size,hr0⟩
theorem hi_ {w0 w:World} {g:Nat} {a:List Int} {b c:Int} (h:l9 w0 w g a b c:=by repeat (first | (with_reducible first | exact zq.out | apply l9.alloc | apply l9.drew | apply l9.drewN | apply l9.akP | apply l9.akO | refine l9.far ?_ (aE.out (by assumption)) _) | exact zq.out)):l9 w0 w g a b c:=h
theorem hj_ {B:Nat} {w W:World} (h:Below B w W:=by repeat (first | (with_reducible first | exact HB.out | apply pG | apply oO | apply mS | refine qM ?_ (l9.ge zq.out) | refine qM ?_ (aE.out (by assumption))) | exact HB.out)):Below B w W:=h
def oG.l0:Nat→List Int→Int→List Int→Int→Int→Option (List Int × Int × Int)
 | 0,_,_,_,_,_=>none
 | k+1,x0,x4,aa,ae,af=>if x4 < (x0.length:Int) then(if x4 < 4096 then(if 0≤x4 then(oG.l0 k x0 (wrap64 (x4+1)) aa ae (IntKind.u64.wrap ((IntKind.u64.wrap ((IntKind.u64.wrap (af*1099511628211))+(IntKind.u64.wrap (rd x0 x4))))+167))) else(none)) else(some (aa,ae,af))) else(some (aa,ae,af))
def oG.f (k:Nat) (l0:List Int):Option (List Int × Int × Int):=oG.l0 k l0 0 l0 0 (IntKind.u64.wrap (13431+(IntKind.u64.wrap ((l0.length:Int)))))
def oG.T5:Bool × List (List Nat × List Nat):=(true, [([], []),([], []),([1], [1]),([2], [2]),([3], [3]),([4], [4]),([], []),([], []),([6,7], [6,7]),([8], [8]),([9], [9]),([5,10], [5,10]),([11], [11]),([0,0,1,2,3,4,5,6,7,8,9,10,11,12], [0]),([13,0,1,2,3,4,5,6,7,8,9,10,11,12], [13]),([14,12,0,1,2,3,4,5,6,7,8,9,10,11,12], [12,14])])
def oG.B5:List Nat:= [0,0,2,6,14,30,0,0,192,448,960,2046,4094,8191,16383,32767]
theorem oG.xO:sy .any (opsOf Tryz.f34 5)=oG.T5:=by kernel_rfl
theorem oG.vo:tD oG.T5.2 oG.B5=true:=by kernel_rfl
theorem oG.calls (k:Nat) (A0:Option Addr) (c0:Nat) (l0:List Int) (r1:List Int) (r2:Int) (r3:Int) (w0 w:World) (hB:Below w0.heap.size w0 w) (hr0:Kd.C (Kd.int .u8) w0 A0 l0.length l0) (hc0:l0.length≤c0) (h:oG.f k l0=some (r1,r2,r3)):
  Calls Tryz.prog 34 #[.slice A0 l0.length c0] w fun e w'=> ∃g_:Nat,e= .returned (.pointer (some ⟨g_,0,none⟩))∧l9 w0 w' g_ r1 r2 r3∧Below w0.heap.size w0 w'∧Below w.heap.size w w':=by
 have arL:=Tryz.underlying122;have qE:=q_ hr0;have uG:=q_ hc0;clear hr0 hc0;have yR:=q_ (Below.refl w.heap.size w);have HW0:=q_ hB.size;have HB:=q_ hB;clear hB;have H:(oG.l0 k l0 0 l0 0 (IntKind.u64.wrap (13431+(IntKind.u64.wrap ((l0.length:Int))))))=some (r1,r2,r3):=h;clear h;have H':=q_ H;clear H
 go_enter Tryz.func34,Tryz.ntmps34
 go_wp2_with (first | ((with_reducible refine dg (N:=11) rfl ?_);refine nR 11 #[.slice A0 l0.length c0, .int .i64 0, .int .u64 (IntKind.u64.wrap (13431+(IntKind.u64.wrap ((l0.length:Int)))))] 122 ?_;intro ag hg w2 cM hb;replace HB:=lT hb;have af:=q_ (cM);have ak:=q_ ((by rw [hg];exact(Dq (by repeat (first | (with_reducible first | exact yR.out | apply pG | apply oO | apply mS) | exact yR.out))):w.heap.size≤ag));have ah:=q_ ((Nat.le_trans HW0.out (by rw [hg];exact(Dq (by repeat (first | (with_reducible first | exact yR.out | apply pG | apply oO | apply mS) | exact yR.out))):w.heap.size≤ag):w0.heap.size≤ag));replace yR:=q_ (eE yR.out hb);clear hb cM hg))
 go_loopg [4] k (fun kq v4 w'=> ∃(ae:Int) (aa:Int),v4= .int .i64 ae∧aE (oG.l0 kq l0 ae l0 0 aa=some (r1,r2,r3))∧aE (kq≤k)∧aE (w'.heap[ag]?=some (.cells #[(.slice A0 l0.length c0), .int .i64 0, .int .u64 aa] 122 (0,0)))∧aE (Below w0.heap.size w0 w')∧aE (Below w.heap.size w w'))
 case atStart=>exact⟨(0),(IntKind.u64.wrap (13431+(IntKind.u64.wrap ((l0.length:Int))))),nM,H',⟨Nat.le_refl _⟩,⟨nj⟩,⟨hb_⟩,yR⟩
 case round=>
  clear H';obtain⟨ae,aa,rfl,HA,nA,af,HB,yR⟩:=hrel;cases gk with
  | zero=>exact absurd HA.out (by simp [oG.l0])
  | succ k1=>
   have H:=HA.out;clear HA;simp only [oG.l0] at H
   by_cases c3:ae < (l0.length:Int)
   ·rw [if_pos c3] at H;have qP:=decide_eq_true c3;clear c3
    by_cases c4:ae < 4096
    ·rw [if_pos c4] at H;have qv:=decide_eq_true c4;clear c4
     by_cases c5:0≤ae
     ·rw [if_pos c5] at H;have uP:=decide_eq_true c5;clear c5;have H':=q_ H;clear H
      try go_wp2
      have rE:=q_ (mI af.out);have Ak:=q_ (mS yR.out);clear yR;have yR:=Ak;clear Ak;have rD:=q_ (mS HB.out);clear af HB;have af:=rE;have HB:=rD;clear rE rD;have adV:0≤(ae:Int):=l7;have ads:ae < (l0.length:Int):=l7;obtain⟨aj,aoc,Jf⟩:=Kd.mA qE.out ae adV ads;have ai:=Jf;cases aoc
      replace Jf:=xX HB.out Jf;replace adV:=eq_true adV;replace ads:=eq_true ads;refine qx (n:=16) (S:=fun w'=>w'.cell? ⟨ag,0,none⟩=some (.slice (some aj) l0.length c0)∧w'.cell? ⟨ag,1,none⟩=some (.int .i64 0)∧w'.cell? ⟨ag,2,none⟩=some (.int .u64 aa)∧w'.cell? (aj.add (ae).toNat)=some (.int .u8 (rd l0 ae))) (ds:= [15]) ⟨(bp af.out 0).trans rfl,(bp af.out 1).trans rfl,(bp af.out 2).trans rfl,((bc_ HB.out ai:))⟩ (fun hHeld=>?_);refine o9 oG.xO oG.vo (fun pL xA=>?_)
      generalize wr.drew=w6 at af HB yR Jf hHeld ⊢
      refine sB 0 22 1 23 2 24 3 25 ?_;refine rm 6 28 7 29 8 30 ?_;refine mg 4 26 ?_;refine lX 5 27 ?_;refine mg 9 31 ?_;refine sB 10 32 11 33 12 34 13 35 ?_;refine lX 14 36 ?_
      refine DU 15 none (fun K hK=>?_)
      have hs7:=lS af 2;have anA:=gE af.out 2;refine rL (w1:=?_) (by rfl) rfl ?_ ?_
      rotate_left
      ·go_simp
       rfl
      refine hK.out _ _ ?_
      clear hK K;refine oA (qj pL.out (by kernel_rfl)) ?_
      try go_wp2
      go_roundg k1
      case measure=>have:=nA.out;omega
      case rel=>exact⟨(wrap64 (ae+1)),(IntKind.u64.wrap ((IntKind.u64.wrap ((IntKind.u64.wrap (aa*1099511628211))+(IntKind.u64.wrap (rd l0 ae))))+167)),nM,H',⟨by have:=nA.out;omega⟩,⟨oX⟩,⟨hb_⟩,⟨by repeat (first | (with_reducible first | exact yR.out | apply pG | apply oO | apply mS | refine qM ?_ (aE.out (by assumption))) | exact yR.out)⟩⟩
     ·rw [if_neg c5] at H;exact absurd H (by simp)
    ·rw [if_neg c4] at H;have qv:=decide_eq_false c4;clear c4;simp only [Option.some.injEq,Prod.mk.injEq] at H;obtain⟨rfl,rfl,rfl⟩:=H;go_wp2
     go_ret
     exact⟨_,rfl,(show l9 w0 _ ag l0 0 aa from ⟨_,_,by(with_reducible repeat (first | refine tJ ?_ _ | refine mI ?_ | refine mY ?_ _));exact af.out,ah.out,qE.out⟩),hb_,by repeat (first | (with_reducible first | exact yR.out | apply pG | apply oO | apply mS | refine qM ?_ ak.out) | exact yR.out)⟩
   ·rw [if_neg c3] at H;have qP:=decide_eq_false c3;clear c3;simp only [Option.some.injEq,Prod.mk.injEq] at H;obtain⟨rfl,rfl,rfl⟩:=H;go_wp2
    go_ret
    exact⟨_,rfl,(show l9 w0 _ ag l0 0 aa from ⟨_,_,by(with_reducible repeat (first | refine tJ ?_ _ | refine mI ?_ | refine mY ?_ _));exact af.out,ah.out,qE.out⟩),hb_,by repeat (first | (with_reducible first | exact yR.out | apply pG | apply oO | apply mS | refine qM ?_ ak.out) | exact yR.out)⟩
def rC.f (pT:List Int) (qK:Int) (rO:Int) (a1:Int):Option (Int × Int × Int):=if a1 < 1 then(some (0,qK,rO)) else(if qK < (pT.length:Int) then(if 0≤qK then(if a1=0 then(none) else(some (Int.tmod (wrap64 ((wrap64 (Go.bits .and .u64 ((IntKind.u64.wrap ((IntKind.u64.wrap (rO*6364136223846793005))+1442695040888963407)) / 2147483648) 1073741823))+(wrap64 (rd pT qK)))) a1,wrap64 (qK+1),IntKind.u64.wrap ((IntKind.u64.wrap (rO*6364136223846793005))+1442695040888963407)))) else(none)) else(if a1=0 then(none) else(some (Int.tmod (wrap64 (Go.bits .and .u64 ((IntKind.u64.wrap ((IntKind.u64.wrap (rO*6364136223846793005))+1442695040888963407)) / 2147483648) 1073741823)) a1,qK,IntKind.u64.wrap ((IntKind.u64.wrap (rO*6364136223846793005))+1442695040888963407)))))
theorem rC.calls (g:Nat) (pT:List Int) (qK:Int) (rO:Int) (a1:Int) (r1:Int) (r2:Int) (r3:Int) (w0 w:World) (hI:l9 w0 w g pT qK rO) (hB:Below w0.heap.size w0 w) (h:rC.f pT qK rO a1=some (r1,r2,r3)):
  Calls Tryz.prog 36 #[.pointer (some ⟨g,0,none⟩), .int .i64 a1] w fun e w'=>e= .returned (.int .i64 r1)∧l9 w0 w' g pT r2 r3∧Below w0.heap.size w0 w'∧mL w w' g none:=by
 have zq:=q_ hI;have HK:=q_ (mL.refl w g none);have HL:=q_ hB.size;clear hI;have HW0:=q_ hB.size;have HB:=q_ hB;clear hB;have H:(if a1 < 1 then(some (0,qK,rO)) else(if qK < (pT.length:Int) then(if 0≤qK then(if a1=0 then(none) else(some (Int.tmod (wrap64 ((wrap64 (Go.bits .and .u64 ((IntKind.u64.wrap ((IntKind.u64.wrap (rO*6364136223846793005))+1442695040888963407)) / 2147483648) 1073741823))+(wrap64 (rd pT qK)))) a1,wrap64 (qK+1),IntKind.u64.wrap ((IntKind.u64.wrap (rO*6364136223846793005))+1442695040888963407)))) else(none)) else(if a1=0 then(none) else(some (Int.tmod (wrap64 (Go.bits .and .u64 ((IntKind.u64.wrap ((IntKind.u64.wrap (rO*6364136223846793005))+1442695040888963407)) / 2147483648) 1073741823)) a1,qK,IntKind.u64.wrap ((IntKind.u64.wrap (rO*6364136223846793005))+1442695040888963407))))))=some (r1,r2,r3):=h;clear h
 by_cases c3:a1 < 1
 ·rw [if_pos c3] at H;have qP:=decide_eq_true c3;clear c3;simp only [Option.some.injEq,Prod.mk.injEq] at H;obtain⟨rfl,rfl,rfl⟩:=H
  go_enter Tryz.func36,Tryz.ntmps36
  go_wp2
  repeat (go_quiet (fail);try go_wp2)
  go_ret
  exact⟨pH,hi_,hj_,hk_⟩
 ·rw [if_neg c3] at H;have qP:=decide_eq_false c3;clear c3
  by_cases c4:qK < (pT.length:Int)
  ·rw [if_pos c4] at H;have qv:=decide_eq_true c4;clear c4
   by_cases c5:0≤qK
   ·rw [if_pos c5] at H;have uP:=decide_eq_true c5;clear c5
    by_cases c6:a1=0
    ·rw [if_pos c6] at H;exact absurd H (by simp)
    ·rw [if_neg c6] at H;have uj:=uJ c6;have Fj:=uI c6;simp only [Option.some.injEq,Prod.mk.injEq] at H;obtain⟨rfl,rfl,rfl⟩:=H;obtain⟨arE,aqN,Q9,anv,aj1⟩:=zq.out;have ae:=PA Q9;have af:=Pz Q9;have ag:=Py Q9;have ah:=gE Q9 1;have ai:=gE Q9 2;clear Q9 anv;have adQ:0≤(qK:Int):=l7;have adr:qK < (pT.length:Int):=l7;obtain⟨aa,aob,DE⟩:=Kd.mA aj1 qK adQ adr;cases aob
     have Jg:aa.block≠g:=Nat.ne_of_lt (Nat.lt_of_lt_of_le (by have:=World.block_lt_of_cell? _ _ DE;first | rwa [kf] at this | exact this) (l9.ge zq.out));replace DE:=xX HB.out DE;replace DE:=(cell_far (p:=⟨g,2,none⟩) (by first | (rw [kf];exact Jg) | (show (Addr.add _ _).block≠_;rw [kf];exact Jg) | exact Jg) (.int .u64 (IntKind.u64.wrap ((IntKind.u64.wrap (rO*6364136223846793005))+1442695040888963407)))).trans DE
     (try have aoG:=fun(n_:Nat)=>(show (((w.drewN n_).setCell ⟨g,2,none⟩ (.int .u64 (IntKind.u64.wrap ((IntKind.u64.wrap (rO*6364136223846793005))+1442695040888963407))))).cell? _=some _ from DE))
     clear Jg;replace adQ:=eq_true adQ;replace adr:=eq_true adr
     go_enter Tryz.func36,Tryz.ntmps36
     go_wp2
     repeat (go_quiet (fail);try go_wp2)
     go_ret
     exact⟨pH,hi_,hj_,hk_⟩
   ·rw [if_neg c5] at H;exact absurd H (by simp)
  ·rw [if_neg c4] at H;have qv:=decide_eq_false c4;clear c4
   by_cases c8:a1=0
   ·rw [if_pos c8] at H;exact absurd H (by simp)
   ·rw [if_neg c8] at H;have IG:=uJ c8;have V8:=uI c8;simp only [Option.some.injEq,Prod.mk.injEq] at H;obtain⟨rfl,rfl,rfl⟩:=H;obtain⟨arD,aqM,Q8,anu,aq6⟩:=zq.out;have aj:=PA Q8;have ak:=Pz Q8;have aq:=Py Q8;have au:=gE Q8 1;have av:=gE Q8 2;clear Q8 anu
    go_enter Tryz.func36,Tryz.ntmps36
    go_wp2
    repeat (go_quiet (fail);try go_wp2)
    go_ret
    exact⟨pH,hi_,hj_,hk_⟩
def tP.f (pT:List Int) (qK:Int) (rO:Int) (l1:List Int):Option (Int × Int × Int):=(rC.f pT qK rO (l1.length:Int)).bind fun aa=>(if 0≤aa.1 then(if aa.1 < (l1.length:Int) then(some (rd l1 aa.1,aa.2.1,aa.2.2)) else(none)) else(none))
theorem tP.calls (g:Nat) (pT:List Int) (qK:Int) (rO:Int) (A1:Option Addr) (c1:Nat) (l1:List Int) (r1:Int) (r2:Int) (r3:Int) (w0 w:World) (hI:l9 w0 w g pT qK rO) (hB:Below w0.heap.size w0 w) (hr1:Kd.C (Kd.int .i64) w A1 l1.length l1) (hc1:l1.length≤c1) (hf1: ∀ad,A1=some ad→0 < l1.length→ad.block≠g) (h:tP.f pT qK rO l1=some (r1,r2,r3)):
  Calls Tryz.prog 74 #[.pointer (some ⟨g,0,none⟩), .slice A1 l1.length c1] w fun e w'=>e= .returned (.int .i64 r1)∧l9 w0 w' g pT r2 r3∧Below w0.heap.size w0 w'∧mL w w' g none:=by
 have pR:=q_ hr1;have qy:=q_ hc1;clear hr1 hc1;have zq:=q_ hI;have HK:=q_ (mL.refl w g none);have HL:=q_ hB.size;clear hI;have HW0:=q_ hB.size;have HB:=q_ hB;clear hB;have H:((rC.f pT qK rO (l1.length:Int)).bind fun ae=>(if 0≤ae.1 then(if ae.1 < (l1.length:Int) then(some (rd l1 ae.1,ae.2.1,ae.2.2)) else(none)) else(none)))=some (r1,r2,r3):=h;clear h;replace H:=Option.bind_eq_some_iff.mp H;obtain⟨⟨aa,af,ag⟩,sW,H⟩:=H;replace H:(if 0≤aa then(if aa < (l1.length:Int) then(some (rd l1 aa,af,ag)) else(none)) else(none))=some (r1,r2,r3):=H;have A3:=q_ sW;clear sW
 by_cases c4:0≤aa
 ·rw [if_pos c4] at H;have qv:=decide_eq_true c4;clear c4
  by_cases c5:aa < (l1.length:Int)
  ·rw [if_pos c5] at H;have uP:=decide_eq_true c5;clear c5;simp only [Option.some.injEq,Prod.mk.injEq] at H;obtain⟨rfl,rfl,rfl⟩:=H
   go_enter Tryz.func74,Tryz.ntmps74
   go_wp2_with (first | ((with_reducible refine d8 (f:=36) rfl ?_);refine oJ 9 Tryz.func36 #[.pointer (some ⟨g,0,none⟩), .int .i64 (l1.length:Int)] ?_;(with_reducible refine(rC.calls g pT qK rO (l1.length:Int) aa af ag w0 _ ?ah ?ai A3.out).mono ?_);(case ah=>exact hi_);(case ai=>exact hj_);rintro e w6 ⟨rfl,hi,hb,hk⟩;refine⟨_,rfl,?_⟩;replace HK:=q_ (mL.trans hk_ hk (.inl rfl));replace HB:=q_ (hb);replace zq:=q_ (hi);(try clear hb);(try clear hk);(try clear hi);have adO:0≤(aa:Int):=l7;have adq:aa < (l1.length:Int):=l7;obtain⟨aj,aoa,Yy⟩:=Kd.mA pR.out aa adO adq;cases aoa;replace Yy:=xI HK.out Yy (by first | (rw [kf];exact hf1 _ rfl (by omega)) | exact hf1 _ rfl (by omega) | exact hf1 aj rfl (by omega));replace adO:=eq_true adO;replace adq:=eq_true adq))
   go_ret
   exact⟨pH,hi_,hj_,hk_⟩
  ·rw [if_neg c5] at H;exact absurd H (by simp)
 ·rw [if_neg c4] at H;exact absurd H (by simp)
end Go.Proofs.YthmfdplckdijdaaGreat.Pr
end
section
namespace Go.Proofs.YthmfdplckdijdaaGreat.Dr
open Go.RowKit Wz.cw Wz.cX Ma Pr
def Ex {α:Type} (g:Nat→Option α) (P:α→Prop):Prop:= ∃r,Ev g r∧P r
theorem exc {α:Type} {g:Option α} {r:α} {P:α→Prop} (h:g=some r) (p:P r):Ex (fun _=>g) P:=⟨r,oK h,p⟩
theorem zS {α:Type} {A B:Nat→Option α} {P:α→Prop} {c:Prop} [Decidable c] (h:c) (k:Ex A P):Ex (fun n=>if c then A n else B n) P:=by
 obtain⟨r,e,p⟩:=k;exact⟨r,cY h e,p⟩
theorem St {α:Type} {A B:Nat→Option α} {P:α→Prop} {c:Prop} [Decidable c] (h: ¬ c) (k:Ex B P):Ex (fun n=>if c then A n else B n) P:=by
 obtain⟨r,e,p⟩:=k;exact⟨r,lV h e,p⟩
theorem Cv {α:Type} {g f:Nat→Option α} {P:α→Prop} (h: ∀k,g (k+1)=f k) (k:Ex f P):Ex g P:=by
 obtain⟨r,e,p⟩:=k;exact⟨r,mC h e,p⟩
theorem Pm {α β:Type} {g:Nat→Option α} {f:Nat→α→Option β} {P:α→Prop} {Q:β→Prop} (h:Ex g P) (k: ∀a,P a→Ex (fun n=>f n a) Q):Ex (fun n=>(g n).bind (f n)) Q:=by
 obtain⟨r,e,p⟩:=h;obtain⟨s,e2,q⟩:=k r p;exact⟨s,oH e e2,q⟩
theorem abJ {α β:Type} {g:Option α} {f:Nat→α→Option β} {a:α} {Q:β→Prop} (h:g=some a) (k:Ex (fun n=>f n a) Q):Ex (fun n=>g.bind (f n)) Q:=by
 obtain⟨s,e2,q⟩:=k;exact⟨s,qW h e2,q⟩
structure Src (b:List Int) (a:Int):Prop where
 byte: ∀i:Nat,0≤b.getD i 0∧b.getD i 0≤255
 len:b.length≤4096
 at0:0≤a
 at1:a≤4096
theorem alx (x:Int): ∃m:Nat,Go.bits .and .u64 x 1073741823=(m:Int)∧m≤1073741823:=by
 have h:(BitVec.ofInt 64 x &&& BitVec.ofInt 64 1073741823).toNat≤1073741823:=by
  rw [BitVec.toNat_and];exact Nat.le_trans Nat.and_le_right (by decide)
 refine⟨_,?_,h⟩
 show IntKind.u64.wrap (((BitVec.ofInt 64 x &&& BitVec.ofInt 64 1073741823).toNat:Nat):Int)=_
 exact IntWalk.u64_in _ ⟨by omega,by omega⟩
theorem U9 {b:List Int} {a:Int} (hs:Src b a) (h n:Int): ∃x a' h',rC.f b a h n=some (x,a',h')∧Src b a'∧(1≤n→0≤x∧x < n)∧(n < 1→x=0):=by
 unfold rC.f
 by_cases c:n < 1
 ·exact⟨0,a,h,if_pos c,hs,fun h=>absurd c (by omega),fun _=>rfl⟩
 ·rw [if_neg c]
  obtain⟨m,hm,hm2⟩:=alx ((IntKind.u64.wrap ((IntKind.u64.wrap (h*6364136223846793005))+1442695040888963407)) / 2147483648)
  rw [hm,nH (x:=(m:Int)) (by omega) (by omega)]
  have tm: ∀y:Int,0≤y→0≤Int.tmod y n∧Int.tmod y n < n:=fun y hy=>⟨Int.tmod_nonneg _ hy,Int.tmod_lt_of_pos _ (by omega)⟩
  by_cases d:a < (b.length:Int)
  ·have hb:=hs.byte a.toNat
   have e:rd b a=b.getD a.toNat 0:=rfl
   rw [if_pos d,if_pos hs.at0,if_neg (by omega),e,nH (x:=b.getD a.toNat 0) (by omega) (by omega),nH (x:=(m:Int)+_) (by omega) (by omega),nH (x:=a+1) (by have:=hs.at0;omega) (by have:=hs.at1;omega)]
   exact⟨_,_,_,rfl,⟨hs.byte,hs.len,by have:=hs.at0;omega,by have:=hs.len;omega⟩,fun _=>tm _ (by omega),fun h=>absurd h c⟩
  ·rw [if_neg d,if_neg (by omega)]
   exact⟨_,_,_,rfl,hs,fun _=>tm _ (by omega),fun h=>absurd h c⟩
theorem Yo {b:List Int} {a:Int} (hs:Src b a) (h n:Int):Ex (fun _=>rC.f b a h n) (fun r=>Src b r.2.1∧(1≤n→0≤r.1∧r.1 < n)∧(n < 1→r.1=0)):=by
 obtain⟨x,a',h',e,p⟩:=U9 hs h n
 exact exc e p
theorem Yj {b:List Int} {a:Int} (hs:Src b a) (h:Int) (l:List Int) (hl:1≤l.length):Ex (fun _=>tP.f b a h l) (fun r=>Src b r.2.1∧r.1 ∈ l):=by
 unfold tP.f
 refine Pm (Yo hs h _) (fun r p=>?_)
 have hr:=p.2.1 (by omega)
 refine zS hr.1 (zS hr.2 (exc rfl ⟨p.1,?_⟩))
 show l.getD r.1.toNat 0 ∈ l
 rw [List.getD_eq_getElem?_getD,List.getElem?_eq_getElem (show r.1.toNat < l.length by omega)]
 exact List.getElem_mem _
theorem YP {b:List Int} (hb: ∀i:Nat,0≤b.getD i 0∧b.getD i 0≤255) (hl:b.length≤4096):Ex (fun k=>oG.f k b) (fun r=>r.1=b∧Src b r.2.1):=by
 have fin:Src b 0:=⟨hb,hl,by decide,by decide⟩
 have key: ∀m i h,i+m=b.length→Ex (fun k=>oG.l0 k b (i:Int) b 0 h) (fun r=>r.1=b∧Src b r.2.1):=by
  intro m
  induction m with
  | zero=>
   intro i h hi
   refine Cv (fun k=>by rw [oG.l0]) ?_
   exact St (by omega) (exc rfl ⟨rfl,fin⟩)
  | succ m ih=>
   intro i h hi
   refine Cv (fun k=>by rw [oG.l0]) ?_
   refine zS (by omega) (zS (by omega) (zS (by omega) ?_))
   rw [nH (x:=(i:Int)+1) (by omega) (by omega)]
   exact ih (i+1) _ (by omega)
 exact key b.length 0 _ (by omega)
end Go.Proofs.YthmfdplckdijdaaGreat.Dr
end
section
namespace Go.Proofs.YthmfdplckdijdaaGreat.Pr
open Go.RowKit Wz.cw Wz.fX Wz.cX
def z7 {α:Type} (p:α→Bool):List α→Int→Int
 | [],_=> -1
 | x::l,i=>if p x then i else z7 p l (i+1)
theorem Fc {α:Type} (p:α→Bool) (l:List α) (i:Int) (h:0≤i):decide (0≤z7 p l i)=l.any p:=by
 induction l generalizing i with
 | nil=>simp [z7]
 | cons x l ih=>
  rw [z7,List.any_cons]
  cases hx:p x
  ·rw [if_neg (by simp),ih (i+1) (by omega)];simp
  ·rw [if_pos rfl];simp [h]
theorem Rx {α:Type} (p:α→Bool) (l:List α) (j:Nat) (hj:j≤l.length) (h: ∀i (hi:i < l.length),i < j→p l[i]=false) (a:Int):z7 p l a=z7 p (l.drop j) (a+j):=by
 induction j generalizing l a with
 | zero=>simp
 | succ j ih=>
  cases l with
  | nil=>simp at hj
  | cons x l=>
   have h0:=h 0 (by simp) (by omega)
   simp at h0
   rw [z7,if_neg (by simp [h0]),List.drop_succ_cons,ih l (by simpa using hj) (fun i hi hij=>by have:=h (i+1) (by simpa using hi) (by omega);simpa using this)]
   congr 1
   omega
theorem GJ {α:Type} (p:α→Bool) (l:List α) (j:Nat) (hj:j < l.length) (h: ∀i (hi:i < l.length),i < j→p l[i]=false) (hp:p l[j]=true):z7 p l 0=j:=by
 rw [Rx p l j (by omega) h 0,List.drop_eq_getElem_cons hj,z7,if_pos hp]
 omega
theorem EZ {α:Type} (p:α→Bool) (l:List α) (h: ∀i (hi:i < l.length),p l[i]=false):z7 p l 0= -1:=by
 rw [Rx p l l.length (Nat.le_refl _) (fun i hi _=>h i hi) 0,List.drop_length,z7]
theorem vB {P:Program} {f:FuncId} {fn:Func} {c:Code} (hf:P.funcs[f]?=some fn) (hname:(fn.name== "runtime.NumGoroutine")=false) (hb:fn.body=some c): ∀args w,(callFunc f args).run P w= .ok (.enter f args) w:=by
 intro args w
 have h1:fn.name≠ "runtime.NumGoroutine" :=by simpa using hname
 simp [callFunc,hf,h1,hb,mark]
end Go.Proofs.YthmfdplckdijdaaGreat.Pr
end
section
namespace Go.Proofs.YthmfdplckdijdaaGreat.La
end Go.Proofs.YthmfdplckdijdaaGreat.La
namespace Go.Proofs.YthmfdplckdijdaaGreat.Hm
open Go.RowKit Wz.cw Wz.fX Wz.cX Pr
abbrev SS (w0 w:World) (ok:Nat→Prop) (v:Value) (l:List (List Int)):Prop:=Kd.S (Kd.slice 2 (Kd.int .i64)) 24 w w0.heap.size ok v l
end Go.Proofs.YthmfdplckdijdaaGreat.Hm
end
section
namespace Go.Proofs.YthmfdplckdijdaaGreat.Pr
open Go.RowKit Wz.cw Wz.fX Wz.cX
attribute [local go_sem] nV nT oF oD nC nB nU nS
def tw.f (pT:List Int) (qK:Int) (rO:Int) (a1:Int):Option (Int × Int × Int):=(rC.f pT qK rO (wrap64 ((wrap64 (2*a1))+1))).bind fun aa=>(some (wrap64 (aa.1 - a1),aa.2.1,aa.2.2))
theorem tw.calls (g:Nat) (pT:List Int) (qK:Int) (rO:Int) (a1:Int) (r1:Int) (r2:Int) (r3:Int) (w0 w:World) (hI:l9 w0 w g pT qK rO) (hB:Below w0.heap.size w0 w) (h:tw.f pT qK rO a1=some (r1,r2,r3)):
  Calls Tryz.prog 129 #[.pointer (some ⟨g,0,none⟩), .int .i64 a1] w fun e w'=>e= .returned (.int .i64 r1)∧l9 w0 w' g pT r2 r3∧Below w0.heap.size w0 w'∧mL w w' g none:=by
 have zq:=q_ hI;have HK:=q_ (mL.refl w g none);have HL:=q_ hB.size;clear hI;have HW0:=q_ hB.size;have HB:=q_ hB;clear hB;have H:((rC.f pT qK rO (wrap64 ((wrap64 (2*a1))+1))).bind fun aa=>(some (wrap64 (aa.1 - a1),aa.2.1,aa.2.2)))=some (r1,r2,r3):=h;clear h;replace H:=Option.bind_eq_some_iff.mp H;obtain⟨⟨ae,af,ag⟩,sW,H⟩:=H;replace H:(some (wrap64 (ae - a1),af,ag))=some (r1,r2,r3):=H;have A3:=q_ sW;clear sW;simp only [Option.some.injEq,Prod.mk.injEq] at H;obtain⟨rfl,rfl,rfl⟩:=H
 go_enter Tryz.func129,Tryz.ntmps129
 go_wp2_with (first | ((with_reducible refine d8 (f:=36) rfl ?_);refine oJ 9 Tryz.func36 #[.pointer (some ⟨g,0,none⟩), .int .i64 (wrap64 ((wrap64 (2*a1))+1))] ?_;(with_reducible refine(rC.calls g pT qK rO (wrap64 ((wrap64 (2*a1))+1)) ae af ag w0 _ ?ah ?ai A3.out).mono ?_);(case ah=>exact hi_);(case ai=>exact hj_);rintro e w4 ⟨rfl,hi,hb,hk⟩;refine⟨_,rfl,?_⟩;replace HK:=q_ (mL.trans hk_ hk (.inl rfl));replace HB:=q_ (hb);replace zq:=q_ (hi);(try clear hb);(try clear hk);(try clear hi)))
 go_ret
 exact⟨pH,hi_,hj_,hk_⟩
mutual
def nh.l0:Nat→Int→Int→List (List Int)→Int→List Int→Int→Int→Option ((List (List Int)) × Int × Int)
 | 0,_,_,_,_,_,_,_=>none
 | k+1,x1,x2,x7,x8,aa,ae,af=>if x8 < x1 then(nh.l1 k x1 x2 x7 x8 (([]:List Int)) 0 aa ae af) else(some (x7,ae,af))
def nh.l1:Nat→Int→Int→List (List Int)→Int→List Int→Int→List Int→Int→Int→Option ((List (List Int)) × Int × Int)
 | 0,_,_,_,_,_,_,_,_,_=>none
 | k+1,x1,x2,x7,x8,x9,x10,aa,ae,af=>if x10 < x1 then((tw.f aa ae af x2).bind fun ag=>((tP.f aa ag.2.1 ag.2.2 (([0,1,1]:List Int))).bind fun ah=>(if x9.length < 17592186044416 then(nh.l1 k x1 x2 x7 x8 (x9++ [wrap64 (ag.1*ah.1)]) (wrap64 (x10+1)) aa ah.2.1 ah.2.2) else(none)))) else(if x7.length < 5864062014805 then(nh.l0 k x1 x2 (x7++ [x9]) (wrap64 (x8+1)) aa ae af) else(none))
end
def nh.f (k:Nat) (pT:List Int) (qK:Int) (rO:Int) (a1:Int) (a2:Int):Option ((List (List Int)) × Int × Int):=nh.l0 k a1 a2 (([]:List (List Int))) 0 pT qK rO
theorem nh.calls (k:Nat) (g:Nat) (pT:List Int) (qK:Int) (rO:Int) (a1:Int) (a2:Int) (r1:List (List Int)) (r2:Int) (r3:Int) (w0 w:World) (hI:l9 w0 w g pT qK rO) (hB:Below w0.heap.size w0 w) (h:nh.f k pT qK rO a1 a2=some (r1,r2,r3)):
  Calls Tryz.prog 82 #[.pointer (some ⟨g,0,none⟩), .int .i64 a1, .int .i64 a2] w fun e w'=> ∃qg:Value,e= .returned (qg)∧Kd.S (Kd.slice 2 (Kd.int .i64)) 24 w' w.heap.size (fun _=>True) qg r1∧l9 w0 w' g pT r2 r3∧Below w0.heap.size w0 w'∧mL w w' g none:=by
 have zq:=q_ hI;have HK:=q_ (mL.refl w g none);have HL:=q_ hB.size;clear hI;have HW0:=q_ hB.size;have HB:=q_ hB;clear hB;have H:(nh.l0 k a1 a2 (([]:List (List Int))) 0 pT qK rO)=some (r1,r2,r3):=h;clear h;obtain⟨aV,hy⟩: ∃y_:List (List Int),y_=(([]:List (List Int))):=⟨_,rfl⟩
 replace H:(nh.l0 k a1 a2 aV 0 pT qK rO)=some (r1,r2,r3):=hh_;have aN:=q_ hy;clear hy;have H':=q_ H;clear H
 go_enter Tryz.func82,Tryz.ntmps82
 go_wp2_with (first | ((with_reducible refine dg (N:=11) rfl ?_);refine Kd.agn (Kd.slice 2 (Kd.int .i64)) _ 24 ?hg (N:=11) ?hd (xs:=([]:List (List Int))) (inner:= []) (ok:=fun _=>True) (oC:=fun _=>True) ?hr ?hp (fun _ hk=>hk) trivial (Below.refl _ _) (Nat.le_refl _) (by simp) ?_;(case hd=>rfl);(case hg=>rfl);(case hr=>first | (go_simp;done) | (go_simp;rfl));(case hp=>exact(mV.none _ _));intro bE w4 ho5 hb hg_ om;clear hg_ om;(first | rw [← aN.out] at ho5 | (simp only [Int.reduceToNat] at ho5;rw [← aN.out] at ho5));have ba:=q_ (Kd.oP ho5 (Cq (w:=w) (g:=g) (row:=none) hk_));replace HB:=q_ (eE hj_ hb);replace zq:=q_ (l9.below hi_ hb);replace HK:=q_ (mL.trans hk_ (mL.oy hb g none) (.inl rfl));clear hb ho5))
 go_loopg [7,8] k (fun kq v7 v8 w'=> ∃(ak:List (List Int)) (ai:Int) (au:Int) (av:Int),v8= .int .i64 ai∧aE (nh.l0 kq a1 a2 ak ai pT au av=some (r1,r2,r3))∧aE (kq≤k)∧aE (Kd.S (Kd.slice 2 (Kd.int .i64)) 24 w' w.heap.size (fun _=>True) v7 ak)∧aE (l9 w0 w' g pT au av)∧aE (mL w w' g none)∧aE (Below w0.heap.size w0 w'))
 case atStart=>exact⟨(aV),(0),(qK),(rO),nM,H',⟨Nat.le_refl _⟩,⟨nw ba.out⟩,⟨hi_⟩,⟨hk_⟩,⟨hj_⟩⟩
 case round=>
  clear H';obtain⟨ak,ai,au,av,rfl,HA,nA,aa,zq,HK,HB⟩:=hrel;cases gk with
  | zero=>exact absurd HA.out (by simp [nh.l0])
  | succ k1=>
   have H:=HA.out;clear HA;simp only [nh.l0] at H
   by_cases c6:ai < a1
   ·rw [if_pos c6] at H;have uj:=decide_eq_true c6;clear c6;obtain⟨aW,hy⟩: ∃y_:List Int,y_=(([]:List Int)):=⟨_,rfl⟩
    replace H:(nh.l1 k1 a1 a2 ak ai aW 0 pT au av)=some (r1,r2,r3):=hh_;have aT:=q_ hy;clear hy;have H':=q_ H;clear H
    go_wp2_with (first | ((with_reducible refine dg (N:=17) rfl ?_);refine Kd.tu (Kd.int .i64) _ 2 ?hg (N:=17) ?hd (xs:=([]:List Int)) (inner:= []) (ok:=fun _=>True) (oC:=fun _=>True) ?hr ?hp (fun _ hk=>hk) trivial (Below.refl _ _) (Nat.le_refl _) (by simp) ?_;(case hd=>rfl);(case hg=>rfl);(case hr=>first | (go_simp;done) | (go_simp;rfl));(case hp=>exact(mV.none _ _));intro bF w7 ho8 hb hg_ om;clear hg_ om;(first | rw [← aT.out] at ho8 | (simp only [Int.reduceToNat] at ho8;rw [← aT.out] at ho8));replace aa:=q_ (Kd.tA (nw aa.out) (Kd.o8 ho8) hb);have bg:=q_ (Kd.ng ho8 (Cq (w:=w) (g:=g) (row:=none) hk_));replace HB:=q_ (eE hj_ hb);replace zq:=q_ (l9.below hi_ hb);replace HK:=q_ (mL.trans hk_ (mL.oy hb g none) (.inl rfl));clear hb ho8))
    go_loopg [9,10] k1 (fun kq v9 v10 w'=> ∃(ae:List Int) (aj:Int) (ag:Int) (ah:Int),v10= .int .i64 aj∧aE (nh.l1 kq a1 a2 ak ai ae aj pT ag ah=some (r1,r2,r3))∧aE (kq≤k1)∧aE (Kd.S (Kd.slice 2 (Kd.int .i64)) 24 w' w.heap.size (fun k_=>some k_≠(v9:Value).ownBlock) u7 ak)∧aE (Kd.R (Kd.int .i64) 2 w' w.heap.size (fun _=>True) v9 ae)∧aE (l9 w0 w' g pT ag ah)∧aE (mL w w' g none)∧aE (Below w0.heap.size w0 w'))
    case atStart=>exact⟨(aW),(0),(au),(av),nM,H',⟨Nat.le_refl _⟩,⟨kS_ aa.out (fun _ hk=>hk.2)⟩,⟨m5 bg.out⟩,⟨hi_⟩,⟨hk_⟩,⟨hj_⟩⟩
    case round=>
     clear H';(try clear uj);obtain⟨ae,aj,ag,ah,rfl,HA,rA,aa,af,zq,HK,HB⟩:=hrel;cases gk with
     | zero=>exact absurd HA.out (by simp [nh.l1])
     | succ k2=>
      have H:=HA.out;clear HA;simp only [nh.l1] at H
      by_cases c9:aj < a1
      ·rw [if_pos c9] at H;have Ab:=decide_eq_true c9;clear c9;replace H:=Option.bind_eq_some_iff.mp H;obtain⟨⟨ax,ay,az⟩,Xi,H⟩:=H;replace H:((tP.f pT ay az (([0,1,1]:List Int))).bind fun aw=>(if ae.length < 17592186044416 then(nh.l1 k2 a1 a2 ak ai (ae++ [wrap64 (ax*aw.1)]) (wrap64 (aj+1)) pT aw.2.1 aw.2.2) else(none)))=some (r1,r2,r3):=H;have EA:=q_ Xi;clear Xi;obtain⟨aC,hy⟩: ∃y_:List Int,y_=(([0,1,1]:List Int)):=⟨_,rfl⟩
       replace H:((tP.f pT ay az aC).bind fun aw=>(if ae.length < 17592186044416 then(nh.l1 k2 a1 a2 ak ai (ae++ [wrap64 (ax*aw.1)]) (wrap64 (aj+1)) pT aw.2.1 aw.2.2) else(none)))=some (r1,r2,r3):=hh_;have aU:=q_ hy;clear hy;replace H:=Option.bind_eq_some_iff.mp H;obtain⟨⟨aD,aG,aH⟩,Ez,H⟩:=H;replace H:(if ae.length < 17592186044416 then(nh.l1 k2 a1 a2 ak ai (ae++ [wrap64 (ax*aD)]) (wrap64 (aj+1)) pT aG aH) else(none))=some (r1,r2,r3):=H;have Gp:=q_ Ez;clear Ez
       by_cases qQ:ae.length < 17592186044416
       ·rw [if_pos qQ] at H;have bh:=q_ qQ;clear qQ;obtain⟨aX,hy⟩: ∃y_:List Int,y_=(ae++ [wrap64 (ax*aD)]):=⟨_,rfl⟩
        replace H:(nh.l1 k2 a1 a2 ak ai aX (wrap64 (aj+1)) pT aG aH)=some (r1,r2,r3):=hh_;have bi:=q_ hy;clear hy;have H':=q_ H;clear H
        go_wp2_with (first | ((with_reducible refine d8 (f:=129) rfl ?_);refine oJ 26 Tryz.func129 #[.pointer (some ⟨g,0,none⟩), .int .i64 a2] ?_;(with_reducible refine(tw.calls g pT ag ah a2 ax ay az w0 _ ?aI ?aJ EA.out).mono ?_);(case aI=>exact hi_);(case aJ=>exact hj_);rintro e Ah ⟨rfl,hi,hb,hk⟩;refine⟨_,rfl,?_⟩;replace aa:=q_ (Kd.mB (Kd.ab8 (l9.ab6 (show l9 w0 _ g pT ag ah from hi_) (nw aa.out) (by decide)) hk (fun _ h=>h.2)) (fun _ h=>h.1));replace af:=q_ (Kd.fY (Kd.wq (l9.apart (show l9 w0 _ g pT ag ah from hi_) (m5 af.out) (by decide)) hk (fun _ h=>h.2)) (fun _ h=>h.1));replace HK:=q_ (mL.trans hk_ hk (.inl rfl));replace HB:=q_ (hb);replace zq:=q_ (hi);(try clear hb);(try clear hk);(try clear hi)) | ((with_reducible refine dg (N:=28) rfl ?_);refine Kd.tu (Kd.int .i64) _ 2 ?hg (N:=28) ?hd (xs:=([0,1,1]:List Int)) (inner:= [.int .i64 0, .int .i64 1, .int .i64 1]) (ok:=fun _=>True) (oC:=fun _=>True) ?hr ?hp (fun _ hk=>hk) trivial (Below.refl _ _) (Nat.le_refl _) (by simp) ?_;(case hd=>rfl);(case hg=>rfl);(case hr=>first | (go_simp;done) | (go_simp;rfl));(case hp=>exact(mV.one (show Kd.M (Kd.int .i64) _ _ _ 0 [.int .i64 0] from rfl) (mV.one (show Kd.M (Kd.int .i64) _ _ _ 1 [.int .i64 1] from rfl) (mV.one (show Kd.M (Kd.int .i64) _ _ _ 1 [.int .i64 1] from rfl) (mV.none _ _)))));intro bG Cg aA hb hg_ om;clear hg_ om;(first | rw [← aU.out] at aA | (simp only [Int.reduceToNat] at aA;rw [← aU.out] at aA));replace aa:=q_ (Kd.tA (nw aa.out) (Kd.o8 aA) hb);have aq:=q_ (Kd.ng (Kd.wo aA (Kd.qw (m5 af.out))) (Cq (w:=w) (g:=g) (row:=none) hk_));replace HB:=q_ (eE hj_ hb);replace af:=q_ (Kd.tV (m5 af.out) (Kd.o8 aA) hb);replace zq:=q_ (l9.below hi_ hb);replace HK:=q_ (mL.trans hk_ (mL.oy hb g none) (.inl rfl));clear hb aA;obtain⟨aK,aM,bC⟩:=Kd.mE aq.out;subst bC) | ((with_reducible refine d8 (f:=74) rfl ?_);refine oJ 29 Tryz.func74 #[.pointer (some ⟨g,0,none⟩), .slice aK aC.length aM] ?_;(with_reducible refine(tP.calls g pT ay az _ _ aC aD aG aH w0 _ ?aI ?aJ ?bn ?bq ?bu Gp.out).mono ?_);(case aI=>exact hi_);(case aJ=>exact hj_);(case bn=>exact F9);(case bq=>exact(Kd.lU aq.out).2.1);(case bu=>exact abI (l9.Fx zq.out aq.out (by decide)));rintro e Bp ⟨rfl,hi,hb,hk⟩;refine⟨_,rfl,?_⟩;replace aa:=q_ (Kd.mB (Kd.ab8 (l9.ab6 (show l9 w0 _ g pT ay az from hi_) (nw aa.out) (by decide)) hk (fun _ h=>h.2)) (fun _ h=>h.1));replace af:=q_ (Kd.fY (Kd.wq (l9.apart (show l9 w0 _ g pT ay az from hi_) (m5 af.out) (by decide)) hk (fun _ h=>h.2)) (fun _ h=>h.1));replace aq:=q_ (Kd.fY (Kd.wq (l9.apart (show l9 w0 _ g pT ay az from hi_) (m5 aq.out) (by decide)) hk (fun _ h=>h.2)) (fun _ h=>h.1));replace HK:=q_ (mL.trans hk_ hk (.inl rfl));replace HB:=q_ (hb);replace zq:=q_ (hi);(try clear hb);(try clear hk);(try clear hi)) | ((with_reducible refine nL (b:= .append) (xs:= #[.tmp 23, .tmp 31]) rfl ?_);at_builtin;refine Kd.qo (Kd.int .i64) w.heap.size rfl (.tmp 23) (.tmp 31) 24 2 (.int .i64 0) 8 rfl Tryz.underlying24 q6 rfl (by decide) (by omega) u9 ae (wrap64 (ax*aD)) [.int .i64 (wrap64 (ax*aD))] (fun k_=>some k_≠(.slice aK aC.length aM:Value).ownBlock) (fun _=>False) rfl rfl ?aP (fun _ hk=>hk.elim) ?aF ?aO (Below.refl _ _) ?aS ?aL ?_;(case aP=>exact rfl);(case aF=>exact(fun k_ hk=>Kd.tZ (Kd.qw (m5 aq.out)) k_ hk));(case aO=>exact(kR_ af.out (fun _ hk=>hk.2)));(case aS=>exact(Cq (w:=w) (g:=g) (row:=none) hk_));(case aL=>have:=bh.out;omega);intro bH Rg ho hb hg hat;rw [← bi.out] at ho;replace aa:=q_ (Kd.uL (ok:=(fun k_=>some k_≠(.slice aK aC.length aM:Value).ownBlock)) (kS_ aa.out (fun _ hk=>⟨hk.2,hk.1⟩)) hg hat);replace aq:=q_ (Kd.yI (ok:=(fun _=>True)) (m5 aq.out) hg hat);replace HB:=q_ (IU hj_ HL.out hb);replace HK:=q_ (mL.trans hk_ (mL.Gz hg g) (Kd.Y9 af.out));have bv:=q_ (ho);replace zq:=q_ (l9.grown hi_ hg (l9.Fx zq.out af.out (by decide)));clear af ho hb hg hat))
        go_roundg k2
        case measure=>have:=nA.out;have:=rA.out;omega
        case rel=>exact⟨(aX),(wrap64 (aj+1)),(aG),(aH),nM,H',⟨by have:=nA.out;have:=rA.out;omega⟩,⟨kS_ aa.out (fun _ hk=>hk.2)⟩,⟨kR_ bv.out (fun _ hk=>trivial)⟩,⟨hi_⟩,⟨hk_⟩,⟨hj_⟩⟩
       ·rw [if_neg qQ] at H;exact absurd H (by simp)
      ·rw [if_neg c9] at H;have Ab:=decide_eq_false c9;clear c9
       by_cases ru:ak.length < 5864062014805
       ·rw [if_pos ru] at H;have bw:=q_ ru;clear ru;obtain⟨aY,hy⟩: ∃y_:List (List Int),y_=(ak++ [ae]):=⟨_,rfl⟩
        replace H:(nh.l0 k2 a1 a2 aY (wrap64 (ai+1)) pT ag ah)=some (r1,r2,r3):=hh_;have bz:=q_ hy;clear hy;have H':=q_ H;clear H;obtain⟨aZ,a9,bD⟩:=Kd.mE af.out;subst bD
        go_wp2_with (first | ((with_reducible refine nL (b:= .append) (xs:= #[.tmp 33, .tmp 35]) rfl ?_);at_builtin;refine Kd.Af (Kd.slice 2 (Kd.int .i64)) w.heap.size rfl (.tmp 33) (.tmp 35) 32 24 (.slice none 0 0) 24 rfl Tryz.underlying32 yc rfl (by decide) (by omega) u7 ak ae [.slice aZ ae.length a9] (fun _=>True) (fun k_=>some k_=(.slice aZ ae.length a9:Value).ownBlock) rfl rfl ?aP (fun k_ hk_=>((Kd.fY (ok':=fun k_=>((fun _=>True)) k_∧some k_≠(u7:Value).ownBlock) (Kd.qp (af.out) (Kd.pQ aa.out) (by decide)) (fun k_ hk=>⟨trivial,hk.2⟩))).1 k_ hk_.symm) ?aF ?aO (Below.refl _ _) ?aS ?aL ?_;(case aP=>exact Kd.zT (Kd.fY (Kd.q5 rfl (Kd.fY (ok':=fun k_=>((fun _=>True)) k_∧some k_≠(u7:Value).ownBlock) (Kd.qp (af.out) (Kd.pQ aa.out) (by decide)) (fun k_ hk=>⟨trivial,hk.2⟩))) (fun _ h_=>h_)));(case aF=>exact(fun _ _=>trivial));(case aO=>exact(kS_ aa.out (fun k_ hk=>⟨trivial,fun e_=>hk e_⟩)));(case aS=>exact(Cq (w:=w) (g:=g) (row:=none) hk_));(case aL=>have:=bw.out;omega);intro bI X4 ho hb hg hat;rw [← bz.out] at ho;replace HB:=q_ (IU hj_ HL.out hb);replace HK:=q_ (mL.trans hk_ (mL.Gz hg g) (Kd.ahP aa.out));have bA:=q_ (ho);replace zq:=q_ (l9.grown hi_ hg (l9.ag0 zq.out aa.out (by decide)));clear aa af ho hb hg hat))
        go_roundg k2
        case measure=>have:=nA.out;have:=rA.out;omega
        case rel=>exact⟨(aY),(wrap64 (ai+1)),(ag),(ah),nM,H',⟨by have:=nA.out;have:=rA.out;omega⟩,⟨nw bA.out⟩,⟨hi_⟩,⟨hk_⟩,⟨hj_⟩⟩
       ·rw [if_neg ru] at H;exact absurd H (by simp)
   ·rw [if_neg c6] at H;have uj:=decide_eq_false c6;clear c6;simp only [Option.some.injEq,Prod.mk.injEq] at H;obtain⟨rfl,rfl,rfl⟩:=H;go_wp2
    go_ret
    exact⟨_,pH,nw aa.out,hi_,hj_,hk_⟩
end Go.Proofs.YthmfdplckdijdaaGreat.Pr
end
section
namespace Go.Proofs.YthmfdplckdijdaaGreat.Dr
open Go.RowKit Wz.cw Wz.fX Wz.cX Ma Pr
def zO (w0 w:World) (g:Nat):Prop:= ∃b a h,l9 w0 w g b a h∧Src b a
structure o7 (w0 w:World) (g:Nat) (w':World):Prop where
 src:zO w0 w' g
 below:Below w0.heap.size w0 w'
 keep:mL w w' g none
section
variable {w0 w:World} {g:Nat} (h:zO w0 w g) (hB:Below w0.heap.size w0 w)
include h hB
theorem Cn (n:Int):Calls Tryz.prog 36 #[.pointer (some ⟨g,0,none⟩), .int .i64 n] w fun e w'=> ∃x,e= .returned (.int .i64 x)∧(1≤n→0≤x∧x < n)∧o7 w0 w g w':=by
 obtain⟨b,a,hh,hI,hs⟩:=h
 obtain⟨x,a',h',e,p1,p2,p3⟩:=U9 hs hh n
 refine(rC.calls g b a hh n x a' h' w0 w hI hB e).mono ?_
 rintro e w' ⟨rfl,hI',hB',hK⟩
 exact⟨x,rfl,p2,⟨b,a',h',hI',p1⟩,hB',hK⟩
theorem Cm (A1:Option Addr) (c1:Nat) (l1:List Int) (hr1:Kd.C (Kd.int .i64) w A1 l1.length l1) (hc1:l1.length≤c1) (hf1: ∀ad,A1=some ad→0 < l1.length→ad.block≠g) (hl:1≤l1.length):Calls Tryz.prog 74 #[.pointer (some ⟨g,0,none⟩), .slice A1 l1.length c1] w fun e w'=> ∃x,e= .returned (.int .i64 x)∧x ∈ l1∧o7 w0 w g w':=by
 obtain⟨b,a,hh,hI,hs⟩:=h
 obtain⟨r,⟨k,e⟩,p1,p2⟩:=Yj hs hh l1 hl
 refine(tP.calls g b a hh A1 c1 l1 r.1 r.2.1 r.2.2 w0 w hI hB hr1 hc1 hf1 (e k (Nat.le_refl _))).mono ?_
 rintro e w' ⟨rfl,hI',hB',hK⟩
 exact⟨_,rfl,p2,⟨b,_,_,hI',p1⟩,hB',hK⟩
theorem aiI (n:Int):Calls Tryz.prog 129 #[.pointer (some ⟨g,0,none⟩), .int .i64 n] w fun e w'=> ∃x,e= .returned (.int .i64 x)∧o7 w0 w g w':=by
 obtain⟨b,a,hh,hI,hs⟩:=h
 obtain⟨x,a',h',e,p1,p2,p3⟩:=U9 hs hh (wrap64 (wrap64 (2*n)+1))
 refine(tw.calls g b a hh n _ a' h' w0 w hI hB (by unfold tw.f;rw [e];rfl)).mono ?_
 rintro e w' ⟨rfl,hI',hB',hK⟩
 exact⟨_,rfl,⟨b,a',h',hI',p1⟩,hB',hK⟩
end
theorem xI {w w':World} {g:Nat} (hk:mL w w' g none) {p:Addr} {v:Value} (h:w.cell? p=some v) (hp:p.block≠g):w'.cell? p=some v:=by
 have:=World.block_lt_of_cell? w _ h
 rw [← h]
 unfold World.cell?
 rw [hk.2 _ this hp (by simp)]
theorem Rv {w w':World} {g:Nat} (hk:mL w w' g none) {p:Addr} (hl:p.block < w.heap.size) (hp:p.block≠g):w'.frozen? p=w.frozen? p:=by
 unfold World.frozen?
 rw [hk.2 _ hl hp (by simp)]
theorem o7.refl {w0 w:World} {g:Nat} (h:zO w0 w g) (hB:Below w0.heap.size w0 w):o7 w0 w g w:=⟨h,hB,mL.refl w g none⟩
theorem o7.trans {w0 w w1 w2:World} {g:Nat} (h:o7 w0 w g w1) (k:o7 w0 w1 g w2):o7 w0 w g w2:=⟨k.src,k.below,h.keep.trans k.keep (.inl rfl)⟩
theorem zO.ge {w0 w:World} {g:Nat} (h:zO w0 w g):w0.heap.size≤g:=by
 obtain⟨b,a,hh,hI,hs⟩:=h
 exact hI.ge
theorem zO.lt {w0 w:World} {g:Nat} (h:zO w0 w g):g < w.heap.size:=by
 obtain⟨b,a,hh,hI,hs⟩:=h
 exact hI.lt
theorem zO.keep {w0 w w':World} {g:Nat} (h:zO w0 w g) (e:w'.heap[g]?=w.heap[g]?):zO w0 w' g:=by
 obtain⟨b,a,hh,⟨A0,c0,h1,h2,h3⟩,hs⟩:=h
 exact⟨b,a,hh,⟨A0,c0,e.trans h1,h2,h3⟩,hs⟩
theorem o7.oy {w0 w w':World} {g:Nat} (h:zO w0 w g) (hB:Below w0.heap.size w0 w) (hb:Below w.heap.size w w'):o7 w0 w g w':=
 ⟨h.keep (hb.block g h.lt),PW hB hB.size hb,mL.oy hb g none⟩
theorem o7.set {w0 wE w:World} {g:Nat} (h:o7 w0 wE g w) (hE:w0.heap.size≤wE.heap.size) (b i:Nat) (v:Value) (hb:wE.heap.size≤b) (hg:b≠g):o7 w0 wE g (w.setCell ⟨b,i,none⟩ v):=
 ⟨h.src.keep (Below.heap_setCell w ⟨b,i,none⟩ v g (Ne.symm hg)),h.below.setCell (Nat.le_trans hE hb) v,⟨by simpa [World.setCell] using h.keep.1,fun j hj h1 h2=>(Below.heap_setCell w ⟨b,i,none⟩ v j (by intro e;subst e;exact absurd hb (by omega))).trans (h.keep.2 j hj h1 h2)⟩⟩
theorem aeX {b:List Int} {a:Int} (hs:Src b a) (h most:Int) (n:Nat) (hn:n≤5):Ex (fun k=>nh.f k b a h (n:Int) most) (fun r=>r.1.length=n∧(∀x ∈ r.1,x.length=n)∧Src b r.2.1):=by
 have loop: ∀(q i:Nat) (a h:Int) (acc:List (List Int)),i+q=n→acc.length=i→(∀x ∈ acc,x.length=n)→Src b a→Ex (fun k=>nh.l0 k (n:Int) most acc (i:Int) b a h) (fun r=>r.1.length=n∧(∀x ∈ r.1,x.length=n)∧Src b r.2.1):=by
  intro q
  induction q with
  | zero=>
   intro i a h acc hi hl hx hs
   refine Cv (fun k=>by rw [nh.l0]) ?_
   exact St (by omega) (exc rfl ⟨by show acc.length=n;omega,hx,hs⟩)
  | succ q ih=>
   intro i a h acc hi hl hx hs
   have inner: ∀(p j:Nat) (a h:Int) (row:List Int),j+p=n→row.length=j→Src b a→Ex (fun k=>nh.l1 k (n:Int) most acc (i:Int) row (j:Int) b a h) (fun r=>r.1.length=n∧(∀x ∈ r.1,x.length=n)∧Src b r.2.1):=by
    intro p
    induction p with
    | zero=>
     intro j a h row hj hr hs
     refine Cv (fun k=>by rw [nh.l1]) ?_
     refine St (by omega) (zS (by omega) ?_)
     rw [nH (x:=(i:Int)+1) (by omega) (by omega)]
     refine ih (i+1) a h _ (by omega) (by simp;omega) (fun x hm=>?_) hs
     rcases List.mem_append.1 hm with m | m
     ·exact hx x m
     ·rw [List.mem_singleton.1 m];omega
    | succ p Bq=>
     intro j a h row hj hr hs
     refine Cv (fun k=>by rw [nh.l1]) ?_
     rw [nH (x:=(j:Int)+1) (by omega) (by omega)]
     refine zS (by omega) (Pm (P:=fun r=>Src b r.2.1) ?_ (fun r p=>Pm (Yj p r.2.2 _ (by decide)) (fun r2 p2=>zS (by omega) (Bq (j+1) _ _ _ (by omega) (by simp;omega) p2.1))))
     unfold tw.f
     exact Pm (Yo hs h _) (fun r p=>exc rfl p.1)
   refine Cv (fun k=>by rw [nh.l0]) ?_
   exact zS (by omega) (inner n 0 a h [] (by omega) rfl hs)
 exact loop n 0 a h [] (by omega) rfl (by simp) hs
end Go.Proofs.YthmfdplckdijdaaGreat.Dr
end
section
namespace Go.Proofs.YthmfdplckdijdaaGreat.Dt
abbrev lE:=Nat→Nat→Int
def sm:Nat→(Nat→Int)→Int
 | 0,_=>0
 | n+1,f=>sm n f+f n
theorem nE {n:Nat} {f g:Nat→Int} (h: ∀i,i < n→f i=g i):sm n f=sm n g:=by
 induction n with
 | zero=>rfl
 | succ n ih=>simp only [sm];rw [ih (fun i hi=>h i (by omega)),h n (by omega)]
theorem Ci (n:Nat) (f g:Nat→Int):sm n (fun i=>f i+g i)=sm n f+sm n g:=by
 induction n with
 | zero=>rfl
 | succ n ih=>simp only [sm];rw [ih];omega
theorem sZ (n:Nat) (c:Int) (f:Nat→Int):sm n (fun i=>c*f i)=c*sm n f:=by
 induction n with
 | zero=>simp [sm]
 | succ n ih=>simp only [sm];rw [ih,Int.mul_add]
theorem Bt (n:Nat) (c:Int) (f:Nat→Int):sm n (fun i=>f i*c)=sm n f*c:=by
 rw [Int.mul_comm, ← sZ];exact nE (fun i _=>Int.mul_comm _ _)
theorem Yd (n:Nat):sm n (fun _=>0)=0:=by
 induction n with
 | zero=>rfl
 | succ n ih=>simp only [sm];rw [ih];rfl
theorem Dz {n:Nat} {f:Nat→Int} (h: ∀i,i < n→f i=0):sm n f=0:=by rw [nE h,Yd]
theorem tG {n:Nat} {f:Nat→Int} {k:Nat} (hk:k < n) (h: ∀i,i < n→i≠k→f i=0):sm n f=f k:=by
 induction n with
 | zero=>omega
 | succ n ih=>
  simp only [sm]
  by_cases c:k=n
  ·subst c
   rw [Dz (fun i hi=>h i (by omega) (by omega))];omega
  ·rw [ih (by omega) (fun i hi=>h i (by omega)),h n (by omega) (by omega)];omega
theorem aaX {n:Nat} {f:Nat→Int} {k l:Nat} (hk:k < n) (hl:l < n) (hkl:k≠l) (h: ∀i,i < n→i≠k→i≠l→f i=0):sm n f=f k+f l:=by
 have e:sm n f=sm n (fun i=>(if i=k then f i else 0)+(if i=k then 0 else f i)):=nE (fun i _=>by split <;> omega)
 rw [e,Ci,tG hk (fun i _ hi=>by simp [hi]),tG hl]
 ·simp [Ne.symm hkl]
 ·intro i hi hil
  by_cases c:i=k
  ·simp [c]
  ·simp [c,h i hi c hil]
theorem Jb (n m:Nat) (f:Nat→Nat→Int):sm n (fun i=>sm m (f i))=sm m (fun j=>sm n (fun i=>f i j)):=by
 induction n with
 | zero=>simp only [sm];rw [Yd]
 | succ n ih=>simp only [sm];rw [ih, ← Ci]
theorem aiC {n m:Nat} {f:Nat→Int} (h: ∀i,n≤i→i < n+m→f i=0):sm (n+m) f=sm n f:=by
 induction m with
 | zero=>rfl
 | succ m ih=>
  rw [← Nat.add_assoc];simp only [sm]
  rw [ih (fun i h1 h2=>h i h1 (by omega)),h (n+m) (by omega) (by omega)];omega
theorem DJ (n m:Nat) (f:Nat→Int):sm (n+m) f=sm n f+sm m (fun i=>f (n+i)):=by
 induction m with
 | zero=>simp [sm]
 | succ m ih=>rw [← Nat.add_assoc];simp only [sm];rw [ih];omega
theorem Bu (n:Nat) (f:Nat→Int):sm (n+1) f=f 0+sm n (fun i=>f (i+1)):=by
 rw [Nat.add_comm,DJ]
 simp only [sm]
 rw [nE (f:=fun i=>f (1+i)) (g:=fun i=>f (i+1)) (fun i _=>by rw [Nat.add_comm])]
 omega
def up (k j:Nat):Nat:=if j < k then j else j+1
def dn (k j:Nat):Nat:=if j < k then j else j - 1
theorem OV (k j:Nat):up k j≠k:=by unfold up;split <;> omega
theorem Sp {k j:Nat} (h:j≠k):up k (dn k j)=j:=by unfold up dn;grind
theorem aad (k j:Nat):dn k (up k j)=j:=by unfold up dn;grind
theorem Dl {k j n:Nat} (h:j < n):up k j < n+1:=by unfold up;split <;> omega
theorem aae {k j n:Nat} (h:j < n+1) (hk:k < n+1) (hj:j≠k):dn k j < n:=by unfold dn;split <;> omega
def rZ (k:Nat) (A:lE):lE:=fun i j=>A (i+1) (up k j)
def sg (k:Nat):Int:=if k % 2=1 then -1 else 1
theorem Fu (k:Nat):sg (k+1)= - sg k:=by unfold sg;split <;> split <;> omega
theorem ZG (k:Nat):sg k*sg k=1:=by unfold sg;split <;> rfl
def lY:Nat→lE→Int
 | 0,_=>1
 | n+1,A=>sm (n+1) (fun k=>sg k*(A 0 k*lY n (rZ k A)))
theorem z9 (n:Nat) (A:lE):lY (n+1) A=sm (n+1) (fun k=>sg k*(A 0 k*lY n (rZ k A))):=rfl
theorem mX {n:Nat}: ∀ {A B:lE},(∀i j,i < n→j < n→A i j=B i j)→lY n A=lY n B:=by
 induction n with
 | zero=>intro A B _;rfl
 | succ n ih=>
  intro A B h
  unfold lY
  refine nE (fun k hk=>?_)
  rw [h 0 k (by omega) hk,ih (A:=rZ k A) (B:=rZ k B) (fun i j hi hj=>h _ _ (by omega) (Dl hj))]
theorem Cc {n:Nat}: ∀ {A B C:lE} {c:Nat} {s t:Int},c < n→(∀i,i < n→A i c=s*B i c+t*C i c)→(∀i j,i < n→j < n→j≠c→A i j=B i j∧A i j=C i j)→lY n A=s*lY n B+t*lY n C:=by
 induction n with
 | zero=>intro A B C c s t hc;omega
 | succ n ih=>
  intro A B C c s t hc h ho
  unfold lY
  rw [← sZ, ← sZ, ← Ci]
  refine nE (fun k hk=>?_)
  by_cases e:k=c
  ·subst e
   have e1:lY n (rZ k A)=lY n (rZ k B):=mX (fun i j hi hj=>(ho _ _ (by omega) (Dl hj) (OV k j)).1)
   have e2:lY n (rZ k A)=lY n (rZ k C):=mX (fun i j hi hj=>(ho _ _ (by omega) (Dl hj) (OV k j)).2)
   rw [h 0 (by omega), ← e1, ← e2]
   grind
  ·have key:=ih (A:=rZ k A) (B:=rZ k B) (C:=rZ k C) (c:=dn k c) (s:=s) (t:=t) (aae hc hk (Ne.symm e)) (fun i hi=>by unfold rZ;rw [Sp (Ne.symm e)];exact h _ (by omega)) (fun i j hi hj hjc=>ho _ _ (by omega) (Dl hj) (fun hh=>hjc (by rw [← hh,aad])))
   have o:=ho 0 k (by omega) hk e
   rw [key, ← o.1, ← o.2]
   grind
def ot (c:Nat) (v:Nat→Int) (A:lE):lE:=fun i j=>if j=c then v i else A i j
def p8 (r:Nat) (v:Nat→Int) (A:lE):lE:=fun i j=>if i=r then v j else A i j
def tr (A:lE):lE:=fun i j=>A j i
def one:lE:=fun i j=>if i=j then 1 else 0
def mul (n:Nat) (A B:lE):lE:=fun i j=>sm n (fun k=>A i k*B k j)
theorem Pq {n:Nat}: ∀ {A:lE} {c:Nat},c+1 < n→(∀i,i < n→A i c=A i (c+1))→lY n A=0:=by
 induction n with
 | zero=>intro A c hc;omega
 | succ n ih=>
  intro A c hc h
  unfold lY
  rw [aaX (k:=c) (l:=c+1) (by omega) (by omega) (by omega)]
  ·have e:lY n (rZ c A)=lY n (rZ (c+1) A):=mX (fun i j hi hj=>by
    unfold rZ up
    by_cases e:j=c
    ·subst e
     simp only [Nat.lt_irrefl,if_false,Nat.lt_succ_self,if_true]
     exact(h _ (by omega)).symm
    ·by_cases e2:j < c
     ·rw [if_pos e2,if_pos (by omega)]
     ·rw [if_neg e2,if_neg (by omega)])
   rw [Fu, ← e, ← h 0 (by omega)]
   grind
  ·intro k hk h1 h2
   rw [ih (A:=rZ k A) (c:=dn k c) (by unfold dn;split <;> omega) (fun i hi=>?_)]
   ·simp
   ·unfold rZ
    rw [Sp (Ne.symm h1),show dn k c+1=dn k (c+1) from by unfold dn;split <;> split <;> omega,Sp (Ne.symm h2)]
    exact h _ (by omega)
theorem GU {n c:Nat} (hc:c < n) (u v:Nat→Int) (A:lE) (s t:Int):lY n (ot c (fun i=>s*u i+t*v i) A)=s*lY n (ot c u A)+t*lY n (ot c v A):=
 Cc hc (fun i _=>by simp [ot]) (fun i j _ _ h=>by simp [ot,h])
theorem R3 {n c:Nat} (A:lE):lY n (ot c (fun i=>A i c) A)=lY n A:=mX (fun i j _ _=>by unfold ot;split <;> simp_all)
theorem VZ {n c:Nat} (hc:c+1 < n) {A B:lE} (h: ∀i,i < n→B i c=A i (c+1)∧B i (c+1)=A i c) (ho: ∀i j,i < n→j < n→j≠c→j≠c+1→B i j=A i j):lY n B= - lY n A:=by
 let W (u v:Nat→Int):lE:=ot c u (ot (c+1) v A)
 let x:Nat→Int:=fun i=>A i c
 let y:Nat→Int:=fun i=>A i (c+1)
 have z (u v:Nat→Int) (e: ∀i,u i=v i):lY n (W u v)=0:=Pq hc (fun i hi=>by simp [W,ot,e])
 have l1 (u v w:Nat→Int):lY n (W (fun i=>1*u i+1*v i) w)=1*lY n (W u w)+1*lY n (W v w):=GU (by omega) u v _ 1 1
 have l2 (u v w:Nat→Int):lY n (W w (fun i=>1*u i+1*v i))=1*lY n (W w u)+1*lY n (W w v):=
  Cc (c:=c+1) hc (fun i _=>by simp [W,ot]) (fun i j _ _ h=>by by_cases e:j=c <;> simp [W,ot,h,e])
 have a:=z (fun i=>1*x i+1*y i) (fun i=>1*x i+1*y i) (fun _=>rfl)
 rw [l1,l2,l2,z x x (fun _=>rfl),z y y (fun _=>rfl)] at a
 have ea:lY n (W x y)=lY n A:=mX (fun i j _ _=>by by_cases e:j=c <;> by_cases e2:j=c+1 <;> simp [W,ot,x,y,e,e2])
 have eb:lY n (W y x)=lY n B:=mX (fun i j hi hj=>by
  by_cases e:j=c
  ·subst e;simp [W,ot,y,(h i hi).1]
  ·by_cases e2:j=c+1
   ·subst e2;simp [W,ot,x,(h i hi).2]
   ·simp [W,ot,e,e2,ho i j hi hj e e2])
 rw [ea,eb] at a
 omega
theorem Pp {n:Nat}: ∀(q:Nat) {A:lE} {c d:Nat},d=c+1+q→d < n→(∀i,i < n→A i c=A i d)→lY n A=0:=by
 intro q
 induction q with
 | zero=>intro A c d e hd h;subst e;exact Pq hd h
 | succ q ih=>
  intro A c d e hd h
  have k:=ih (A:=fun i j=>if j=c+1+q then A i (c+1+q+1) else if j=c+1+q+1 then A i (c+1+q) else A i j) (c:=c) (d:=c+1+q) rfl (by omega) (fun i hi=>by
   simp only [if_neg (show ¬ c=c+1+q by omega),if_neg (show ¬ c=c+1+q+1 by omega),if_true]
   rw [h i hi,e];rfl)
  have s:=VZ (n:=n) (c:=c+1+q) (by omega) (A:=A) (B:=fun i j=>if j=c+1+q then A i (c+1+q+1) else if j=c+1+q+1 then A i (c+1+q) else A i j) (fun i hi=>⟨by simp,by simp⟩) (fun i j _ _ h1 h2=>by simp [h1,h2])
  omega
theorem zM {n c d:Nat} {A:lE} (hc:c < n) (hd:d < n) (hcd:c≠d) (h: ∀i,i < n→A i c=A i d):lY n A=0:=by
 by_cases e:c < d
 ·exact Pp (d - c - 1) (by omega) hd h
 ·exact Pp (c - d - 1) (by omega) hc (fun i hi=>(h i hi).symm)
structure Form (n:Nat) (f:lE→Int):Prop where
 GV: ∀A B:lE,(∀i j,i < n→j < n→A i j=B i j)→f A=f B
 lin: ∀(A:lE) (r:Nat) (u v:Nat→Int) (s t:Int),r < n→f (p8 r (fun j=>s*u j+t*v j) A)=s*f (p8 r u A)+t*f (p8 r v A)
 alt: ∀(A:lE) (r q:Nat),r < n→q < n→r≠q→(∀j,j < n→A r j=A q j)→f A=0
theorem aa3 (r:Nat) (A:lE):p8 r (A r) A=A:=by funext i j;unfold p8;split <;> simp_all
theorem Form.sums {n:Nat} {f:lE→Int} (F:Form n f) {r:Nat} (hr:r < n) (A:lE) (m:Nat) (c:Nat→Int) (v:Nat→Nat→Int):f (p8 r (fun j=>sm m (fun k=>c k*v k j)) A)=sm m (fun k=>c k*f (p8 r (v k) A)):=by
 induction m with
 | zero=>
  have:=F.lin A r (fun _=>0) (fun _=>0) 0 0 hr
  simp only [sm] at*
  simpa using this
 | succ m ih=>
  simp only [sm]
  have:=F.lin A r (fun j=>sm m (fun k=>c k*v k j)) (v m) 1 (c m) hr
  simp only [Int.one_mul] at this
  rw [this,ih]
theorem Form.swap {n:Nat} {f:lE→Int} (F:Form n f) {r q:Nat} (hr:r < n) (hq:q < n) (hrq:r≠q) {A B:lE} (h: ∀j,j < n→B r j=A q j∧B q j=A r j) (ho: ∀i j,i < n→j < n→i≠r→i≠q→B i j=A i j):f B= - f A:=by
 let W (u v:Nat→Int):lE:=p8 r u (p8 q v A)
 have z (u v:Nat→Int) (e: ∀i,u i=v i):f (W u v)=0:=F.alt _ r q hr hq hrq (fun j _=>by simp [W,p8,e,Ne.symm hrq])
 have l1 (u v w:Nat→Int):f (W (fun i=>1*u i+1*v i) w)=1*f (W u w)+1*f (W v w):=F.lin _ r u v 1 1 hr
 have c (u v:Nat→Int):W u v=p8 q v (p8 r u A):=by
  funext i j;simp only [W,p8]
  by_cases e:i=r
  ·subst e;simp [hrq]
  ·simp [e]
 have l2 (u v w:Nat→Int):f (W w (fun i=>1*u i+1*v i))=1*f (W w u)+1*f (W w v):=by
  rw [c,c,c];exact F.lin _ q u v 1 1 hq
 have a:=z (fun i=>1*A r i+1*A q i) (fun i=>1*A r i+1*A q i) (fun _=>rfl)
 rw [l1,l2,l2,z (A r) (A r) (fun _=>rfl),z (A q) (A q) (fun _=>rfl)] at a
 have ea:f (W (A r) (A q))=f A:=F.GV _ _ (fun i j _ _=>by simp only [W,p8];grind)
 have eb:f (W (A q) (A r))=f B:=F.GV _ _ (fun i j hi hj=>by
  by_cases e:i=r
  ·subst e;simp [W,p8,(h j hj).1]
  ·by_cases e2:i=q
   ·subst e2;simp [W,p8,(h j hj).2,e]
   ·simp [W,p8,e,e2,ho i j hi hj e e2])
 rw [ea,eb] at a
 omega
theorem Form.ajF {n:Nat} {f:lE→Int} (F:Form n f) {r q:Nat} (hr:r < n) (hq:q < n) (hrq:r≠q) (A:lE) (t:Int):f (p8 r (fun j=>A r j+t*A q j) A)=f A:=by
 have l:=F.lin A r (A r) (A q) 1 t hr
 simp only [Int.one_mul] at l
 rw [l,aa3,F.alt (p8 r (A q) A) r q hr hq hrq (fun j _=>by simp [p8,Ne.symm hrq])]
 omega
def Cw (k:Nat) (B:lE):lE
 | 0,j=>if j=k then 1 else 0
 | i+1,j=>if j=k then 0 else B i (dn k j)
theorem Form.clean {n:Nat} {f:lE→Int} (F:Form (n+1) f) {k:Nat} (hk:k < n+1) (A:lE): ∀m,m≤n→f (p8 0 (fun j=>if j=k then 1 else 0) A)=f (fun i j=>if i=0 then(if j=k then 1 else 0) else if i≤m∧j=k then 0 else A i j):=by
 intro m
 induction m with
 | zero=>intro _;exact F.GV _ _ (fun i j _ _=>by by_cases e:i=0 <;> simp [p8,e])
 | succ m ih=>
  intro hm
  rw [ih (by omega)]
  rw [← F.ajF (r:=m+1) (q:=0) (by omega) (by omega) (by omega) _ (- A (m+1) k)]
  refine F.GV _ _ (fun i j hi hj=>?_)
  by_cases e:i=m+1
  ·subst e
   by_cases e2:j=k
   ·subst e2;simp [p8];omega
   ·simp [p8,e2]
  ·by_cases e0:i=0
   ·simp [p8,e0]
   ·have:(i≤m∧j=k)↔(i≤m+1∧j=k):=by constructor <;> intro h <;> omega
    simp [p8,e,e0,this]
theorem Form.ajs {n:Nat} {f:lE→Int} (F:Form (n+1) f): ∀k,k < n+1→f (Cw k one)=sg k*f one:=by
 intro k
 induction k with
 | zero=>
  intro _
  rw [show sg 0=1 from rfl,Int.one_mul]
  refine F.GV _ _ (fun i j _ _=>?_)
  cases i with
  | zero=>unfold Cw one;by_cases e:j=0 <;> simp [e,eq_comm]
  | succ i=>unfold Cw one dn;cases j with
   | zero=>simp
   | succ j=>simp
 | succ k ih=>
  intro hk
  rw [F.swap (r:=0) (q:=k+1) (A:=Cw k one) (by omega) (by omega) (by omega),ih (by omega),Fu]
  ·grind
  ·intro j hj
   refine⟨?_,?_⟩
   ·simp only [Cw,one,dn];grind
   ·simp only [Cw,one,dn];grind
  ·intro i j hi hj h0 h1
   cases i with
   | zero=>exact absurd rfl h0
   | succ i=>simp only [Cw,one,dn];grind
theorem Form.uniq {n:Nat}: ∀ {f:lE→Int},Form n f→ ∀A,f A=lY n A*f one:=by
 induction n with
 | zero=>intro f F A;rw [show lY 0 A=1 from rfl,Int.one_mul];exact F.GV _ _ (fun i j hi _=>absurd hi (Nat.not_lt_zero _))
 | succ n ih=>
  intro f F A
  have e0:f A=f (p8 0 (fun j=>sm (n+1) (fun k=>A 0 k*(if j=k then 1 else 0))) A):=F.GV _ _ (fun i j hi hj=>by
   by_cases e:i=0
   ·subst e
    simp only [p8,if_true]
    rw [tG hj (fun i _ h=>by simp [Ne.symm h])];simp
   ·simp [p8,e])
  rw [e0,F.sums (by omega) A (n+1) (A 0) (fun k j=>if j=k then 1 else 0)]
  unfold lY
  rw [← Bt]
  refine nE (fun k hk=>?_)
  have G:Form n (fun B=>f (Cw k B)):=by
   have er (B:lE) (r:Nat) (v:Nat→Int):Cw k (p8 r v B)=p8 (r+1) (fun j=>if j=k then 0 else v (dn k j)) (Cw k B):=by
    funext i j
    cases i with
    | zero=>simp [Cw,p8]
    | succ i=>by_cases e:i=r <;> simp [Cw,p8,e]
   refine⟨fun B C h=>F.GV _ _ (fun i j hi hj=>?_),fun B r u v s t hr=>?_,fun B r q hr hq hrq h=>?_⟩
   ·cases i with
    | zero=>rfl
    | succ i=>
     unfold Cw
     by_cases e:j=k
     ·simp [e]
     ·simp only [if_neg e];exact h _ _ (by omega) (aae hj hk e)
   ·simp only [er]
    rw [← F.lin _ _ _ _ s t (by omega)]
    congr 2
    funext j
    by_cases e:j=k <;> simp [e]
   ·refine F.alt _ (r+1) (q+1) (by omega) (by omega) (by omega) (fun j hj=>?_)
    unfold Cw
    by_cases e:j=k
    ·simp [e]
    ·simp only [if_neg e];exact h _ (aae hj hk e)
  have e1:f (p8 0 (fun j=>if j=k then 1 else 0) A)=f (Cw k (rZ k A)):=by
   rw [F.clean hk A n (Nat.le_refl _)]
   refine F.GV _ _ (fun i j hi hj=>?_)
   cases i with
   | zero=>simp [Cw]
   | succ i=>
    unfold Cw rZ
    by_cases e:j=k
    ·simp [e];omega
    ·simp [e,Sp e]
  have e2:=ih G (rZ k A)
  rw [e1,e2,F.ajs k hk]
  grind
theorem Jm (n:Nat):lY n one=1:=by
 induction n with
 | zero=>rfl
 | succ n ih=>
  unfold lY
  rw [tG (k:=0) (by omega) (fun i _ h=>by simp [one,Ne.symm h])]
  rw [mX (A:=rZ 0 one) (B:=one) (fun i j _ _=>by simp [rZ,one,up]),ih]
  rfl
theorem X7 (n:Nat):Form n (fun A=>lY n (tr A)):=by
 refine⟨fun A B h=>mX (fun i j hi hj=>h j i hj hi),fun A r u v s t hr=>?_,fun A r q hr hq hrq h=>zM hr hq hrq h⟩
 exact Cc (c:=r) hr (fun i _=>by simp [tr,p8]) (fun i j _ _ h=>by simp [tr,p8,h])
theorem xk (n:Nat) (A:lE):lY n (tr A)=lY n A:=by
 have h:lY n (tr A)=lY n A*lY n (tr one):=(X7 n).uniq A
 rw [h,mX (A:=tr one) (B:=one) (fun i j _ _=>by simp [tr,one,eq_comm]),Jm,Int.mul_one]
theorem D5 (n:Nat):Form n (lY n):=by
 have e:lY n=fun A=>lY n (tr A):=by funext A;exact(xk n A).symm
 rw [e];exact X7 n
theorem ad3 (n:Nat) (B:lE):Form n (fun A=>lY n (mul n A B)):=by
 have er (A:lE) (r:Nat) (v:Nat→Int):mul n (p8 r v A) B=p8 r (fun j=>sm n (fun k=>v k*B k j)) (mul n A B):=by
  funext i j;by_cases e:i=r <;> simp [mul,p8,e]
 refine⟨fun A C h=>mX (fun i j hi hj=>nE (fun k hk=>by rw [h i k hi hk])),fun A r u v s t hr=>?_,fun A r q hr hq hrq h=>?_⟩
 ·simp only [er]
  rw [← (D5 n).lin _ _ _ _ s t hr]
  congr 2
  funext j
  rw [← sZ, ← sZ, ← Ci]
  exact nE (fun k _=>by grind)
 ·exact(D5 n).alt _ r q hr hq hrq (fun j hj=>nE (fun k hk=>by rw [h k hk]))
theorem ahI (n:Nat) (A B:lE):lY n (mul n A B)=lY n A*lY n B:=by
 have h:lY n (mul n A B)=lY n A*lY n (mul n one B):=(ad3 n B).uniq A
 rw [h,mX (A:=mul n one B) (B:=B) (fun i j hi _=>?_)]
 unfold mul
 rw [tG (k:=i) hi (fun k _ h=>by simp [one,Ne.symm h])]
 simp [one]
def sh (l:Nat) (A:lE):lE:=fun i j=>A (l+i) (l+j)
theorem RD (d:Nat): ∀(l:Nat) (A:lE),(∀i j,i < l→l≤j→j < l+d→A i j=0)→lY (l+d) A=lY l A*lY d (sh l A):=by
 intro l
 induction l with
 | zero=>intro A _;rw [Nat.zero_add,show lY 0 A=1 from rfl,Int.one_mul];exact mX (fun i j _ _=>by simp [sh])
 | succ l ih=>
  intro A h
  rw [show l+1+d=(l+d)+1 from by omega,z9,z9]
  rw [show l+d+1=(l+1)+d from by omega,aiC (fun i h1 h2=>by rw [h 0 i (by omega) h1 h2];simp), ← Bt]
  refine nE (fun k hk=>?_)
  rw [ih (rZ k A) (fun i j hi h1 h2=>by
   unfold rZ up
   rw [if_neg (by omega)]
   exact h _ _ (by omega) (by omega) (by omega))]
  rw [mX (A:=sh l (rZ k A)) (B:=sh (l+1) A) (fun i j _ _=>by
   unfold sh rZ up
   rw [if_neg (by omega),show l+i+1=l+1+i from by omega,show l+j+1=l+1+j from by omega])]
  grind
theorem aaf (d l:Nat) (A:lE) (h: ∀i j,l≤i→i < l+d→j < l→A i j=0):lY (l+d) A=lY l A*lY d (sh l A):=by
 rw [← xk (l+d) A,RD d l (tr A) (fun i j h1 h2 h3=>h j i h2 h3 h1),xk l A, ← xk d (sh l A)]
 rfl
def mv (s t:Nat) (b:Nat→Int) (A:lE):lE:=fun i j=>if i < s then A (up t i) j else if i=s then b j else A (up t (i - 1)) j
theorem afA {n:Nat} (t:Nat) (b:Nat→Int) (A:lE): ∀s,s < n→lY n (mv s t b A)=sg s*lY n (mv 0 t b A):=by
 intro s
 induction s with
 | zero=>intro _;simp [sg]
 | succ s ih=>
  intro hs
  rw [(D5 n).swap (r:=s) (q:=s+1) (A:=mv s t b A) (by omega) (by omega) (by omega),ih (by omega),Fu]
  ·grind
  ·intro j _;refine⟨?_,?_⟩
   ·simp [mv];intro h;omega
   ·simp [mv]
  ·intro i j _ _ h1 h2
   unfold mv
   by_cases e:i < s
   ·rw [if_pos e,if_pos (by omega)]
   ·rw [if_neg e,if_neg (by omega),if_neg h1,if_neg h2]
theorem Y8 {n:Nat} (B:lE) (b:Nat→Int) {j:Nat} (hj:j < n):sm n (fun t=>lY n (p8 t b B)*B t j)=lY n B*b j:=by
 let X:lE:=fun i c=>if i=0 then(if c=0 then b j else b (c - 1)) else(if c=0 then B (i - 1) j else B (i - 1) (c - 1))
 have z:lY (n+1) X=0:=zM (c:=0) (d:=j+1) (by omega) (by omega) (by omega) (fun i _=>by simp [X])
 have e:=xk (n+1) X
 rw [z] at e
 unfold lY at e
 rw [Bu] at e
 have m0:lY n (rZ 0 (tr X))=lY n B:=by
  rw [← xk n B];exact mX (fun p q _ _=>by simp [rZ,tr,X,up])
 have mt (t:Nat) (ht:t < n):lY n (rZ (t+1) (tr X))=sg t*lY n (p8 t b B):=by
  rw [← xk n (rZ (t+1) (tr X))]
  have e1:lY n (tr (rZ (t+1) (tr X)))=lY n (mv 0 t b B):=mX (fun p q _ _=>by
   cases p with
   | zero=>simp [rZ,tr,X,up,mv]
   | succ p=>
    simp only [rZ,tr,X,up,mv,Nat.not_lt_zero,if_false]
    by_cases c:p < t
    ·simp [c,Nat.succ_lt_succ c]
    ·simp [c,show ¬ p+1 < t+1 from by omega])
  have e2:lY n (mv t t b B)=lY n (p8 t b B):=mX (fun p q _ _=>by
   unfold mv p8 up
   by_cases c:p < t
   ·simp [c,show p≠t from by omega]
   ·by_cases c2:p=t
    ·simp [c2]
    ·rw [if_neg c,if_neg c2,if_neg c2,if_neg (by omega),show p - 1+1=p from by omega])
  rw [e1, ← e2,afA t b B t ht]
  have:=ZG t
  grind
 have e3:sm n (fun i=>sg (i+1)*(tr X 0 (i+1)*lY n (rZ (i+1) (tr X))))= - sm n (fun t=>lY n (p8 t b B)*B t j):=by
  rw [← Int.neg_one_mul, ← sZ]
  refine nE (fun t ht=>?_)
  rw [mt t ht,Fu]
  have:=ZG t
  simp only [tr,X]
  simp
  grind
 rw [e3,m0] at e
 simp [tr,X,sg] at e
 grind
theorem QW {n:Nat} (B:lE) (b:Nat→Int) {j:Nat} (hj:j < n):sm n (fun t=>B j t*lY n (ot t b B))=lY n B*b j:=by
 rw [← xk n B, ← Y8 (tr B) b hj]
 refine nE (fun t _=>?_)
 rw [Int.mul_comm, ← xk n (ot t b B)]
 rfl
end Go.Proofs.YthmfdplckdijdaaGreat.Dt
end
section
namespace Go.Proofs.YthmfdplckdijdaaGreat.Bd
open Go.RowKit Wz.cw Wz.cX Ma Dt
def ev (M:lE) (i:Nat) (last:Int) (r c:Nat):Int:=wrap64 (Int.tdiv (wrap64 (wrap64 (M r c*M i i) - wrap64 (M r i*M i c))) last)
def mid (M:lE) (i:Nat) (last:Int) (r c:Nat):lE:=fun a b=>if i≤b∧i < a∧(a < r∨a=r∧b < c) then ev M i last a b else M a b
def el (M:lE) (i:Nat) (last:Int):lE:=fun a b=>if i≤b∧i < a then ev M i last a b else M a b
def JH (M:lE) (i:Nat):Nat→Nat→Option Nat
 | 0,_=>none
 | q+1,k=>if M (i+k) i≠0 then some k else JH M i q (k+1)
def swp (M:lE) (r q:Nat):lE:=fun j=>M (if j=r then q else if j=q then r else j)
def JJ (n:Nat):Nat→Nat→lE→Int→Int→Int
 | 0,_,_,last,turn=>wrap64 (turn*last)
 | q+1,i,M,last,turn=>match JH M i (n - i) 0 with
  | none=>0
  | some 0=>JJ n q (i+1) (el M i last) (M i i) turn
  | some (k+1)=>JJ n q (i+1) (el (swp M i (i+(k+1))) i last) (swp M i (i+(k+1)) i i) (wrap64 (-turn))
theorem BO {M:lE} {i:Nat}: ∀ {q k j:Nat},JH M i q k=some j→k≤j∧j < k+q∧M (i+j) i≠0∧ ∀t,k≤t→t < j→M (i+t) i=0
 | 0,_,_,h=>by cases h
 | q+1,k,j,h=>by
  unfold JH at h
  by_cases c:M (i+k) i≠0
  ·rw [if_pos c] at h
   cases h
   exact⟨Nat.le_refl _,by omega,c,fun t h1 h2=>by omega⟩
  ·rw [if_neg c] at h
   obtain⟨h1,h2,h3,h4⟩:=BO h
   refine⟨by omega,by omega,h3,fun t h5 h6=>?_⟩
   by_cases e:t=k
   ·subst e;exact Decidable.not_not.1 c
   ·exact h4 t (by omega) h6
theorem KX {M:lE} {i:Nat}: ∀ {q k:Nat},JH M i q k=none→ ∀t,k≤t→t < k+q→M (i+t) i=0
 | 0,_,_,t,h1,h2=>by omega
 | q+1,k,h,t,h1,h2=>by
  unfold JH at h
  by_cases c:M (i+k) i≠0
  ·rw [if_pos c] at h;cases h
  ·rw [if_neg c] at h
   by_cases e:t=k
   ·subst e;exact Decidable.not_not.1 c
   ·exact KX h t (by omega) (by omega)
theorem Rp (M:lE) (i:Nat) (last:Int) (a b:Nat):mid M i last (i+1) i a b=M a b:=by unfold mid;rw [if_neg (by omega)]
theorem Yq (M:lE) (i:Nat) (last:Int) {n:Nat} (r a b:Nat) (hb:b < n):mid M i last r n a b=mid M i last (r+1) i a b:=by
 unfold mid
 by_cases c:i≤b∧i < a∧(a < r∨a=r∧b < n)
 ·rw [if_pos c,if_pos (by omega)]
 ·rw [if_neg c,if_neg (by omega)]
theorem Yr (M:lE) (i:Nat) (last:Int) {n:Nat} (a b:Nat) (ha:a < n):mid M i last n i a b=el M i last a b:=by
 unfold mid el
 by_cases c:i≤b∧i < a
 ·rw [if_pos c,if_pos (by omega)]
 ·rw [if_neg c,if_neg (by omega)]
theorem Vc (M:lE) (i:Nat) (last:Int) (r c:Nat) (hr:i < r) (hc:i≤c) (a b:Nat):(if a=r∧b=c then ev M i last r c else mid M i last r c a b)=mid M i last r (c+1) a b:=by
 unfold mid
 by_cases e:a=r∧b=c
 ·obtain⟨rfl,rfl⟩:=e
  rw [if_pos ⟨rfl,rfl⟩,if_pos (by omega)]
 ·rw [if_neg e]
  by_cases q:i≤b∧i < a∧(a < r∨a=r∧b < c)
  ·rw [if_pos q,if_pos (by omega)]
  ·rw [if_neg q,if_neg (by omega)]
theorem GH (M:lE) (i:Nat) (last:Int) (r c b:Nat):mid M i last r c i b=M i b:=by unfold mid;rw [if_neg (by omega)]
theorem O6 (M:lE) (i:Nat) (last:Int) (r c b:Nat) (h:c≤b):mid M i last r c r b=M r b:=by unfold mid;rw [if_neg (by omega)]
end Go.Proofs.YthmfdplckdijdaaGreat.Bd
end
