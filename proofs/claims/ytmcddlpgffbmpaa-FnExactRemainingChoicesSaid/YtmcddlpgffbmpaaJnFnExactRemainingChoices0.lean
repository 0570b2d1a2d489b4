/- Texts of one claim (the words of the kit's print that the claim uses, printed functions, and this session's own texts), joined in the order of their imports by this session's own program (merge.py). -/
import Derived.Below
import Derived.Deep.Draws
import Derived.Deep.AppendLies
import Derived.Maps.AppendAt
import Derived.OwnWalk
import Derived.Laws.BytesArg
import Derived.Laws.MakeOwn
import Derived.Laws.OwnMore
import Derived.Deep.OwnRows
import Derived.Tactics
import Derived.Lib.ConvBytes
import Derived.Laws.Slices
import Derived.WalkKit
import Derived.KernelRfl
import Derived.RowKit3
import Derived.Deep.LoopGhost
import Derived.Deep.QuietTactic
import Derived.BigQuiet
import Derived.WideLaws
import Derived.Deep.DeepCutAuto
import Derived.Deep.CutBlock
import Derived.Deep.RegionHeld3
import Derived.Laws.Rows
import Derived.Lib.AppendStr
import Derived.ArgAppend
import Derived.Laws.IdiomCopy
import Derived.RowKit
import Derived.OrdersHeld
import Derived.Laws.BitsLemmas
import Derived.Laws.StructEq
import Derived.Test.YtmcddlpgffbmpaaProg
import Derived.SizedLaws
import Derived.ChangeSlices
import Derived.Deep.Slices
import Derived.Deep.Fields
import Derived.Lib.SmallJoins
set_option linter.unusedVariables false
set_option linter.unusedSimpArgs false
set_option maxHeartbeats 8000000
set_option maxRecDepth 100000
section
namespace Go.Proofs.YtmcddlpgffbmpaaW.PrintWords
open Go.RowKit
structure Aside0 (p:Prop):Prop where mk::(out:p)
theorem q_ {p:Prop} (h:p):Aside0 p:=⟨h⟩
structure Drawn0 (w w':World):Prop where mk::(out: ∃n,w'=w.drewN n)
theorem Drawn0.refl (w:World):Drawn0 w w:=⟨⟨0,rfl⟩⟩
theorem Drawn0.step {w w':World} (h:Drawn0 w w') (n:Nat):Drawn0 w (w'.drewN n):=by
 obtain⟨m,rfl⟩:=h
 exact⟨⟨m+n,World.drewN_drewN ..⟩⟩
theorem Drawn0.grown {w w':World} (h:Drawn0 w w'):Grown w w':=by
 obtain⟨n,rfl⟩:=h
 induction n with
 | zero=>exact Grown.refl _
 | succ n ih=>rw [← World.drew_drewN];exact Grown.drew ih
theorem Drawn0.below {w w':World} (h:Drawn0 w w'):Below w.heap.size w w':=by
 obtain⟨n,rfl⟩:=h
 induction n with
 | zero=>exact Below.refl _ _
 | succ n ih=>rw [← World.drew_drewN];exact ih.drew
def rd (xs:List Int) (i:Int):Int:=xs.getD i.toNat 0
def bt (s:ByteArray) (i:Int):Int:=if h:i.toNat < s.size then((s[i.toNat]'h).toNat:Int) else 0
theorem below_alloc {w W:World} (h:Below w.heap.size w W) (o:Obj):Below w.heap.size w (W.alloc o):=h.alloc h.size o
theorem below_drew {B:Nat} {w W:World} (h:Below B w W):Below B w W.drew:=⟨h.os,h.tape,h.output,h.size,h.block⟩
theorem pw_below_drewN {B:Nat} {w W:World} (h:Below B w W) (n:Nat):Below B w (W.drewN n):=⟨h.os,h.tape,h.output,h.size,h.block⟩
theorem below_then {B:Nat} {w w1 w2:World} (h:Below B w w1) (hB:B≤w1.heap.size) (k:Below w1.heap.size w1 w2):Below B w w2:=
 h.trans ⟨k.os,k.tape,k.output,k.size,fun i hi=>k.block i (Nat.lt_of_lt_of_le hi hB)⟩
theorem grown_of_below {w w1:World} (h:Below w.heap.size w w1) (row:Option Nat):w.grownBy w1 row:=⟨h.os,h.tape,h.output,h.size,fun i hi _=>h.block i hi⟩
theorem pw_cell_below {w w1:World} (h:Below w.heap.size w w1) {a:Addr} {v:Value} (hc:w.cell? a=some v):w1.cell? a=some v:=(h.cell (World.block_lt_of_cell? w a hc)).trans hc
theorem add_plain (g j:Nat):(⟨g,0,none⟩:Addr).add j=⟨g,j,none⟩:=by unfold Addr.add;split <;> simp_all
def ReadsInt (w:World) (k:IntKind) (A:Option Addr) (n:Nat) (xs:List Int):Prop:=
 xs.length=n∧n≤9223372036854775807∧(0 < n→ ∃ad,A=some ad∧ ∀j,j < n→w.cell? (ad.add j)=some (.int k (xs.getD j 0)))
theorem ReadsInt.at_ {w:World} {k:IntKind} {A:Option Addr} {n:Nat} {xs:List Int} (h:ReadsInt w k A n xs) (i:Int) (h0:0≤i) (h1:i < n): ∃ad,A=some ad∧w.cell? (ad.add i.toNat)=some (.int k (rd xs i)):=by
 obtain⟨ad,e,hc⟩:=h.2.2 (by omega)
 exact⟨ad,e,hc _ (by omega)⟩
theorem ReadsInt.below {w w1:World} {k:IntKind} {A:Option Addr} {n:Nat} {xs:List Int} (h:ReadsInt w k A n xs) (hb:Below w.heap.size w w1):ReadsInt w1 k A n xs:=
 ⟨h.1,h.2.1,fun hn=>by
  obtain⟨ad,e,hc⟩:=h.2.2 hn
  exact⟨ad,e,fun j hj=>pw_cell_below hb (hc j hj)⟩⟩
theorem own_nil (W:World) (base:Nat) (e:TypeId) (size:Nat):W.ownsRow base e size (.slice none 0 0) 0 []:=⟨by simp, .inl ⟨rfl,rfl⟩⟩
theorem own_base {w:World} {base:Nat} {e:TypeId} {size n:Nat} {v:Value} {xs:List Value} (h:w.ownsRow base e size v n xs) (k:Nat) (hk:v.ownBlock=some k):base≤k:=by
 rcases h.2 with ⟨rfl,_⟩ | ⟨g,cap,cur,rfl,hb,_⟩
 ·simp [Value.ownBlock] at hk
 ·have:g=k:=by simpa [Value.ownBlock] using hk
  omega
theorem own_lt {w:World} {base:Nat} {e:TypeId} {size n:Nat} {v:Value} {xs:List Value} (h:w.ownsRow base e size v n xs) (k:Nat) (hk:v.ownBlock=some k):k < w.heap.size:=by
 rcases h.2 with ⟨rfl,_⟩ | ⟨g,cap,cur,rfl,hb,hh,_⟩
 ·simp [Value.ownBlock] at hk
 ·have:g=k:=by simpa [Value.ownBlock] using hk
  subst this
  exact(Array.getElem?_eq_some_iff.1 hh).1
theorem pw_own_below {w w1:World} {base:Nat} {e:TypeId} {size n:Nat} {v:Value} {xs:List Value} (h:w.ownsRow base e size v n xs) (hb:Below w.heap.size w w1):w1.ownsRow base e size v n xs:=
 h.kept (grown_of_below hb none) (by cases v.ownBlock <;> simp)
theorem own_other {w w1:World} {base:Nat} {e:TypeId} {size n:Nat} {v:Value} {xs:List Value} (h:w.ownsRow base e size v n xs) {row:Option Nat} (hg:w.grownBy w1 row) (hne:v.ownBlock=none∨v.ownBlock≠row):w1.ownsRow base e size v n xs:=h.kept hg hne
theorem own_slice {w:World} {base n:Nat} {e:TypeId} {size:Nat} {v:Value} {xs:List Value} (h:w.ownsRow base e size v n xs): ∃A c,v= .slice A n c:=by
 rcases h.2 with ⟨rfl,rfl⟩ | ⟨g,cap,cur,rfl,_⟩
 ·exact⟨none,0,rfl⟩
 ·exact⟨_,cap,rfl⟩
section
variable {P:Program} {ops:Array Oper} {rest:List Oper} {o:Oper} {a:Act} {Q:Exit→Act→World→Prop}
end
section
variable {P:Program}
end
section
variable {P:Program} {ops:Array Oper} {rest:List Oper} {o:Oper} {a:Act} {Q:Exit→Act→World→Prop}
end
theorem ReadsInt.take_ {w:World} {k:IntKind} {A:Option Addr} {n:Nat} {xs:List Int} (h:ReadsInt w k A n xs) (i:Nat) (hi:i≤n):ReadsInt w k A i (xs.take i):=by
 refine⟨by rw [List.length_take,h.1];omega,by have:=h.2.1;omega,fun hp=>?_⟩
 obtain⟨ad,e,hc⟩:=h.2.2 (by omega)
 refine⟨ad,e,fun j hj=>?_⟩
 rw [hc j (by omega)]
 simp [List.getD_eq_getElem?_getD,hj]
def LeO {α:Type} (a b:Option α):Prop:= ∀r,a=some r→b=some r
theorem LeO.refl {α:Type} (a:Option α):LeO a a:=fun _ h=>h
theorem LeO.none {α:Type} (b:Option α):LeO Option.none b:=fun _ h=>by cases h
theorem LeO.trans {α:Type} {a b c:Option α} (h:LeO a b) (k:LeO b c):LeO a c:=fun r hr=>k r (h r hr)
theorem LeO.ite {α:Type} {c:Prop} [Decidable c] {a a' b b':Option α} (h:LeO a a') (k:LeO b b'):LeO (if c then a else b) (if c then a' else b'):=by
 split
 ·exact h
 ·exact k
theorem LeO.bind {α β:Type} {a a':Option α} {f f':α→Option β} (h:LeO a a') (k: ∀x,LeO (f x) (f' x)):LeO (a.bind f) (a'.bind f'):=by
 intro r hr
 obtain⟨x,hx,hf⟩:=Option.bind_eq_some_iff.1 hr
 exact Option.bind_eq_some_iff.2 ⟨x,h x hx,k x r hf⟩
theorem LeO.map {α β:Type} {a a':Option α} (f:α→β) (h:LeO a a'):LeO (a.map f) (a'.map f):=by
 intro r hr
 obtain⟨x,hx,hf⟩:=Option.map_eq_some_iff.1 hr
 exact Option.map_eq_some_iff.2 ⟨x,h x hx,hf⟩
theorem more_rounds {α:Type} {g:Nat→Option α} (h: ∀k,LeO (g k) (g (k+1))) (k:Nat): ∀j,LeO (g k) (g (k+j))
 | 0=>LeO.refl _
 | j+1=>(more_rounds h k j).trans (h (k+j))
theorem at_rounds {α:Type} {g:Nat→Option α} (h: ∀k,LeO (g k) (g (k+1))) {k k':Nat} (hk:k≤k') {r:α} (hr:g k=some r):g k'=some r:=by
 have:=more_rounds h k (k' - k) r hr
 rwa [Nat.add_sub_cancel' hk] at this
theorem together {α β:Type} {g:Nat→Option α} {f:Nat→Option β} (hg: ∀k,LeO (g k) (g (k+1))) (hf: ∀k,LeO (f k) (f (k+1))) {r:α} {q:β} (h: ∃k,g k=some r) (h': ∃k,f k=some q): ∃k,g k=some r∧f k=some q:=by
 obtain⟨k,hk⟩:=h
 obtain⟨k',hk'⟩:=h'
 exact⟨max k k',at_rounds hg (Nat.le_max_left _ _) hk,at_rounds hf (Nat.le_max_right _ _) hk'⟩
def Reps {α:Type} (R:α→List Value→Prop) (size:Nat) (ps:List α) (cs:List Value):Prop:=
 cs.length=ps.length*size∧ ∀j p,ps[j]?=some p→R p ((cs.drop (j*size)).take size)
theorem Reps.none {α:Type} (R:α→List Value→Prop) (size:Nat):Reps R size [] []:=⟨by simp,fun j p h=>by simp at h⟩
theorem Reps.snoc {α:Type} {R:α→List Value→Prop} {size:Nat} {ps:List α} {cs c:List Value} {p:α} (h:Reps R size ps cs) (hp:R p c) (hc:c.length=size):Reps R size (ps++ [p]) (cs++c):=by
 refine⟨by rw [List.length_append,h.1,hc,List.length_append,List.length_singleton,Nat.add_mul,Nat.one_mul],fun j q hq=>?_⟩
 rcases Nat.lt_or_ge j ps.length with hj | hj
 ·rw [List.getElem?_append_left hj] at hq
  have h1:j*size+size≤cs.length:=by rw [h.1, ← Nat.succ_mul];exact Nat.mul_le_mul_right _ hj
  have h2:=h.2 j q hq
  rw [List.drop_append_of_le_length (by omega),List.take_append_of_le_length (by rw [List.length_drop];omega)]
  exact h2
 ·have hj':j=ps.length:=by
   have:=(List.getElem?_eq_some_iff.1 hq).1
   rw [List.length_append,List.length_singleton] at this
   omega
  subst hj'
  have hq':p=q:=by simpa using hq
  subst hq'
  rw [← h.1,List.drop_left, ← hc,List.take_length]
  exact hp
theorem Reps.imp_ {α:Type} {R R':α→List Value→Prop} {size:Nat} {ps:List α} {cs:List Value} (h:Reps R size ps cs) (hR: ∀p c,R p c→R' p c):Reps R' size ps cs:=⟨h.1,fun j p hj=>hR _ _ (h.2 j p hj)⟩
def ReadsRow {α:Type} (R:α→List Value→Prop) (size:Nat) (w:World) (A:Option Addr) (n:Nat) (ps:List α):Prop:=
 ps.length=n∧n≤9223372036854775807∧(0 < n→ ∃ad,A=some ad∧ ∀j p,ps[j]?=some p→ ∃c,c.length=size∧R p c∧ ∀i u,c[i]?=some u→w.cell? (ad.add (j*size+i))=some u)
theorem ReadsRow.get_ {α:Type} {R:α→List Value→Prop} {size:Nat} {w:World} {A:Option Addr} {n:Nat} {ps:List α} (h:ReadsRow R size w A n ps) (d:α) (i:Int) (h0:0≤i) (h1:i < n):
  ∃ad c,A=some ad∧c.length=size∧R (ps.getD i.toNat d) c∧ ∀j u,c[j]?=some u→w.cell? (ad.add (i.toNat*size+j))=some u:=by
 obtain⟨ad,e,hc⟩:=h.2.2 (by omega)
 have hl:i.toNat < ps.length:=by have:=h.1;omega
 obtain⟨c,hs,hr,hcell⟩:=hc i.toNat _ (List.getElem?_eq_getElem hl)
 refine⟨ad,c,e,hs,?_,hcell⟩
 rw [List.getD_eq_getElem?_getD,List.getElem?_eq_getElem hl]
 exact hr
theorem ReadsRow.imp_ {α:Type} {R R':α→List Value→Prop} {size:Nat} {w w1:World} {A:Option Addr} {n:Nat} {ps:List α} (h:ReadsRow R size w A n ps) (hb:Below w.heap.size w w1) (hR: ∀p c,R p c→R' p c):ReadsRow R' size w1 A n ps:=
 ⟨h.1,h.2.1,fun hn=>by
  obtain⟨ad,e,hc⟩:=h.2.2 hn
  refine⟨ad,e,fun j p hj=>?_⟩
  obtain⟨c,hs,hr,hcell⟩:=hc j p hj
  exact⟨c,hs,hR _ _ hr,fun i u hu=>pw_cell_below hb (hcell i u hu)⟩⟩
theorem own_reads_row {α:Type} {R:α→List Value→Prop} {w:World} {base n size:Nat} {e:TypeId} {v:Value} {ps:List α} {cs:List Value} (h:w.ownsRow base e size v n cs) (hR:Reps R size ps cs) (hn:ps.length=n):
  ∃A c,v= .slice A n c∧ReadsRow R size w A n ps:=by
 rcases Nat.eq_zero_or_pos n with h0 | h0
 ·rcases h.2 with ⟨rfl,rfl⟩ | ⟨g,cap,cur,rfl,_⟩
  ·exact⟨none,0,rfl,hn,by omega,fun hp=>absurd hp (by omega)⟩
  ·exact⟨_,cap,rfl,hn,by omega,fun hp=>absurd hp (by omega)⟩
 ·obtain⟨g,cap,rfl,_,_⟩:=h.form h0
  have hm:n≤9223372036854775807:=by
   rcases h.2 with ⟨_,h1⟩ | ⟨g',cap',cur,he,_,_,h1,h2,_⟩
   ·omega
   ·simp only [maxLen] at h2
    omega
  refine⟨_,cap,rfl,hn,hm,fun _=>⟨_,rfl,fun j p hj=>⟨(cs.drop (j*size)).take size,?_,hR.2 j p hj,fun i u hu=>?_⟩⟩⟩
  ·have hjl:=(List.getElem?_eq_some_iff.1 hj).1
   have h1:j*size+size≤cs.length:=by rw [hR.1, ← Nat.succ_mul];exact Nat.mul_le_mul_right _ hjl
   rw [List.length_take,List.length_drop]
   omega
  ·refine h.cells (g:=g) rfl _ u ?_
   rw [List.getElem?_take] at hu
   split at hu
   ·rw [List.getElem?_drop] at hu
    exact hu
   ·cases hu
section
variable {P:Program} {ops:Array Oper} {rest:List Oper} {o:Oper} {a:Act} {Q:Exit→Act→World→Prop}
theorem print_append_cells {w0 W:World} (base:Nat) (hgd:o.guard=none) (s x:Operand) (t e:TypeId) (z:Value) (size bytes:Nat)
  (ho:o.op= .call { callee:= .builtin .append,args:= #[s,x],argTypes:= #[t,t]})
  (ht:P.underlying t=some (.slice e)) (hinfo:(P.info? e).map (fun i=>(i.zero,i.size,i.bytes))=some (some z,size,bytes)) (hz:z.cells.size=size) (hs0:0 < size) (hb0:0 < bytes)
  (v:Value) (n:Nat) (xs ys:List Value) (hs:a.eval s=v) (hx:a.eval x= .slice (some ⟨W.heap.size,0,none⟩) 1 1) (hys:ys.length=size) (h1: ∀u ∈ ys,u.oneCell'=true)
  (HO:W.ownsRow base e size v n xs) (HB:Below base w0 W) (hbase:base≤W.heap.size) (hl:(n+1)*bytes≤140737488355328)
  (h: ∀v1 w1,w1.ownsRow base e size v1 (n+1) (xs++ys)→Below base w0 w1→W.grownBy w1 v.ownBlock→(v1.ownBlock=v.ownBlock∨ ∃b,v1.ownBlock=some b∧W.heap.size≤b)→wpList P ops Q rest (a.put o.dst v1) w1):
  wpList P ops Q (o::rest) a (W.alloc (.cells ys.toArray e)):=by
 obtain⟨i0,hi,hzz⟩:=Option.map_eq_some_iff.1 hinfo
 simp only [Prod.mk.injEq] at hzz
 obtain⟨hz0,hz1,hz2⟩:=hzz
 have hlen:n+1≤140737488355328:=Nat.le_trans (Nat.le_mul_of_pos_right _ hb0) hl
 refine wpList_append_own_at (W.alloc (.cells ys.toArray e)) hgd s x t ho base e i0 z size bytes ht hi hz0 hz1 hz2 hz hs0 v n xs hs (HO.alloc _) ⟨W.heap.size,0,none⟩ 1 1 ys hx (by rw [hys];simp)
  (by simpa using World.news_of_block (cs:=ys.toArray) (t:=e) (fr:=(0,0)) (heap_alloc_new W (.cells ys.toArray e))) h1 (by simp only [maxLen];omega) hl (by simp;omega) ?_
 intro v1 w1 hown hg _ hat
 refine h v1 w1 hown ((HB.alloc hbase _).grown hg (by simp;omega) (own_base HO)) (World.grownBy.trans (World.grownBy_alloc W _ _) hg) ?_
 rcases hat with hat | hat
 ·exact .inl hat
 ·exact .inr ⟨_,hat,by simp⟩
end
theorem own_ne {w:World} {base:Nat} {e t:TypeId} {size n g:Nat} {v:Value} {xs:List Value} {cs:Array Value} (h:w.ownsRow base e size v n xs) (hg:w.heap[g]?=some (.cells cs t (0,0))) (hne:e≠t):some g≠v.ownBlock:=by
 rcases h.2 with ⟨rfl,_⟩ | ⟨g',cap,cur,rfl,_,hh,_⟩
 ·simp [Value.ownBlock]
 ·intro he
  have:g=g':=by simpa [Value.ownBlock] using he
  subst this
  rw [hg] at hh
  injection hh with hh
  injection hh with _ ht
  exact hne ht.symm
theorem blk_set {w:World} {g:Nat} {t:TypeId} {cs:Array Value} (h:w.heap[g]?=some (.cells cs t (0,0))) (i:Nat) (u:Value):(w.setCell ⟨g,i,none⟩ u).heap[g]?=some (.cells (cs.setIfInBounds i u) t (0,0)):=by
 simp [World.setCell,Array.getElem?_modify,h]
theorem blk_lt {w:World} {g:Nat} {o:Obj} (h:w.heap[g]?=some o):g < w.heap.size:=(Array.getElem?_eq_some_iff.1 h).1
theorem blk_cell {w:World} {g:Nat} {t:TypeId} {cs:Array Value} (h:w.heap[g]?=some (.cells cs t (0,0))) (i:Nat):w.cell? ⟨g,i,none⟩=cs[i]?:=cell_of_row w g i cs t (0,0) h
theorem blk_frozen {w:World} {g:Nat} {t:TypeId} {cs:Array Value} (h:w.heap[g]?=some (.cells cs t (0,0))) (i:Nat):w.frozen? ⟨g,i,none⟩=false:=by simp [World.frozen?,h]
theorem blk_grown {w w1:World} {g:Nat} {o:Obj} {row:Option Nat} (h:w.heap[g]?=some o) (hg:w.grownBy w1 row) (hne:some g≠row):w1.heap[g]?=some o:=(hg.block g (blk_lt h) hne).trans h
def KeepBut (w w':World) (g:Nat) (row:Option Nat):Prop:=w.heap.size≤w'.heap.size∧ ∀i,i < w.heap.size→i≠g→some i≠row→w'.heap[i]?=w.heap[i]?
theorem KeepBut.refl (w:World) (g:Nat) (row:Option Nat):KeepBut w w g row:=⟨Nat.le_refl _,fun _ _ _ _=>rfl⟩
theorem KeepBut.of_grown {w w1:World} {row:Option Nat} (h:w.grownBy w1 row) (g:Nat):KeepBut w w1 g row:=⟨h.size,fun i hi _ hr=>h.block i hi hr⟩
theorem KeepBut.of_below {w w1:World} (h:Below w.heap.size w w1) (g:Nat) (row:Option Nat):KeepBut w w1 g row:=⟨h.size,fun i hi _ _=>h.block i hi⟩
theorem KeepBut.trans {w w1 w2:World} {g:Nat} {row row1:Option Nat} (h:KeepBut w w1 g row) (k:KeepBut w1 w2 g row1) (hr:row1=row∨ ∃b,row1=some b∧w.heap.size≤b):KeepBut w w2 g row:=
 ⟨Nat.le_trans h.1 k.1,fun i hi hg hn=>by
  refine(k.2 i (Nat.lt_of_lt_of_le hi h.1) hg ?_).trans (h.2 i hi hg hn)
  rcases hr with rfl | ⟨b,rfl,hb⟩
  ·exact hn
  ·intro e
   injection e with e
   omega⟩
theorem KeepBut.blk {w w1:World} {g g':Nat} {row:Option Nat} {o:Obj} (h:KeepBut w w1 g row) (hb:w.heap[g']?=some o) (hg:g'≠g) (hr:some g'≠row):w1.heap[g']?=some o:=(h.2 g' (blk_lt hb) hg hr).trans hb
theorem KeepBut.own {w w1:World} {g:Nat} {row:Option Nat} {base:Nat} {e:TypeId} {size n:Nat} {v:Value} {xs:List Value} (h:KeepBut w w1 g row) (ho:w.ownsRow base e size v n xs) (hg:v.ownBlock≠some g) (hr:v.ownBlock=none∨v.ownBlock≠row):w1.ownsRow base e size v n xs:=by
 obtain⟨h1,h2⟩:=ho
 refine⟨h1,?_⟩
 rcases h2 with h2 | ⟨b,cap,cur,rfl,hb,hh,r⟩
 ·exact .inl h2
 ·refine .inr ⟨b,cap,cur,rfl,hb,h.blk hh ?_ ?_,r⟩
  ·intro e
   exact hg (by rw [← e];rfl)
  ·rcases hr with hr | hr
   ·simp [Value.ownBlock] at hr
   ·exact hr
def Ev {α:Type} (g:Nat→Option α) (r:α):Prop:= ∃K, ∀k,K≤k→g k=some r
theorem Ev.of {α:Type} {g:Nat→Option α} {r:α} (hg: ∀k,LeO (g k) (g (k+1))) {k:Nat} (h:g k=some r):Ev g r:=⟨k,fun _ hk=>at_rounds hg hk h⟩
theorem Ev.now {α:Type} (r:α):Ev (fun _=>some r) r:=⟨0,fun _ _=>rfl⟩
theorem Ev.rounds {α:Type} {g:Nat→Option α} {r:α} (h:Ev g r): ∃k,g k=some r:=by
 obtain⟨K,h⟩:=h
 exact⟨K,h K (Nat.le_refl _)⟩
theorem Ev.bind {α β:Type} {g:Nat→Option α} {f:Nat→α→Option β} {a:α} {r:β} (h:Ev g a) (k:Ev (fun n=>f n a) r):Ev (fun n=>(g n).bind (f n)) r:=by
 obtain⟨K,h⟩:=h
 obtain⟨K',k⟩:=k
 refine⟨max K K',fun n hn=>?_⟩
 have h1:=h n (by omega)
 have h2:=k n (by omega)
 simp only [h1,Option.bind_some]
 exact h2
theorem Ev.step {α:Type} {g f:Nat→Option α} {r:α} (h: ∀k,g (k+1)=f k) (k:Ev f r):Ev g r:=by
 obtain⟨K,k⟩:=k
 refine⟨K+1,fun n hn=>?_⟩
 obtain⟨m,rfl⟩: ∃m,n=m+1:=⟨n - 1,by omega⟩
 rw [h]
 exact k m (by omega)
theorem Ev.congr {α:Type} {g f:Nat→Option α} {r:α} (h: ∀k,g k=f k) (k:Ev f r):Ev g r:=by
 obtain⟨K,k⟩:=k
 exact⟨K,fun n hn=>(h n).trans (k n hn)⟩
section
variable {P:Program} {ops:Array Oper} {o:Oper} {a:Act} {Q:Exit→Act→World→Prop} {K:Act→World→Prop}
end
theorem own_weaken {w:World} {base base':Nat} {e:TypeId} {size n:Nat} {v:Value} {xs:List Value} (h:w.ownsRow base e size v n xs) (hb:base'≤base):w.ownsRow base' e size v n xs:=by
 obtain⟨h1,h2⟩:=h
 refine⟨h1,?_⟩
 rcases h2 with h2 | ⟨g,cap,cur,rfl,hg,r⟩
 ·exact .inl h2
 ·exact .inr ⟨g,cap,cur,rfl,Nat.le_trans hb hg,r⟩
section
variable {α:Type} {enc:α→Value} {d:α}
def encs (enc:α→Value) (xs:List α):List Value:=xs.map enc
def rdOf (d:α) (xs:List α) (i:Int):α:=xs.getD i.toNat d
theorem encs_length (xs:List α):(encs enc xs).length=xs.length:=by simp [encs]
theorem encs_get (xs:List α) (j:Nat) (h:j < xs.length):(encs enc xs)[j]?=some (enc (xs.getD j d)):=by
 simp [encs,List.getElem?_eq_getElem h,List.getD_eq_getElem?_getD]
def ReadsOf (enc:α→Value) (d:α) (w:World) (A:Option Addr) (n:Nat) (xs:List α):Prop:=
 xs.length=n∧n≤9223372036854775807∧(0 < n→ ∃ad,A=some ad∧ ∀j,j < n→w.cell? (ad.add j)=some (enc (xs.getD j d)))
theorem ReadsOf.at_ {w:World} {A:Option Addr} {n:Nat} {xs:List α} (h:ReadsOf enc d w A n xs) (i:Int) (h0:0≤i) (h1:i < n): ∃ad,A=some ad∧w.cell? (ad.add i.toNat)=some (enc (rdOf d xs i)):=by
 obtain⟨ad,e,hc⟩:=h.2.2 (by omega)
 exact⟨ad,e,hc _ (by omega)⟩
theorem ReadsOf.below {w w1:World} {A:Option Addr} {n:Nat} {xs:List α} (h:ReadsOf enc d w A n xs) (hb:Below w.heap.size w w1):ReadsOf enc d w1 A n xs:=
 ⟨h.1,h.2.1,fun hn=>by
  obtain⟨ad,e,hc⟩:=h.2.2 hn
  exact⟨ad,e,fun j hj=>pw_cell_below hb (hc j hj)⟩⟩
theorem ReadsOf.take_ {w:World} {A:Option Addr} {n:Nat} {xs:List α} (h:ReadsOf enc d w A n xs) (i:Nat) (hi:i≤n):ReadsOf enc d w A i (xs.take i):=by
 refine⟨by rw [List.length_take,h.1];omega,by have:=h.2.1;omega,fun hp=>?_⟩
 obtain⟨ad,e,hc⟩:=h.2.2 (by omega)
 refine⟨ad,e,fun j hj=>?_⟩
 rw [hc j (by omega)]
 simp [List.getD_eq_getElem?_getD,hj]
theorem own_at_of {W:World} {base g n cap:Nat} {e:TypeId} {xs:List α} (h:W.ownsRow base e 1 (.slice (some ⟨g,0,none⟩) n cap) n (encs enc xs)) (i:Int) (h0:0≤i) (h1:i < n):
  W.cell? ⟨g,i.toNat,none⟩=some (enc (rdOf d xs i))∧W.frozen? ⟨g,i.toNat,none⟩=false:=by
 have hl:xs.length=n:=by have:=h.1;simp [encs] at this;exact this
 constructor
 ·have hc:=h.cells (g:=g) rfl i.toNat _ (encs_get (d:=d) xs i.toNat (by omega))
  rwa [add_plain] at hc
 ·rcases h.2 with ⟨h',_⟩ | ⟨g',cap',cur,h',_,hh,_⟩
  ·cases h'
  ·have:g=g':=by injection h' with h';injection h' with h';injection h' with h'
   subst this
   simp [World.frozen?,hh]
theorem own_store_of {W:World} {base g n cap:Nat} {e:TypeId} {xs:List α} (h:W.ownsRow base e 1 (.slice (some ⟨g,0,none⟩) n cap) n (encs enc xs)) (i:Int) (x:α):
  (W.setCell ⟨g,i.toNat,none⟩ (enc x)).ownsRow base e 1 (.slice (some ⟨g,0,none⟩) n cap) n (encs enc (xs.set i.toNat x))∧W.grownBy (W.setCell ⟨g,i.toNat,none⟩ (enc x)) (some g):=by
 have hs:=h.stored i.toNat (enc x)
 have he:(encs enc xs).set i.toNat (enc x)=encs enc (xs.set i.toNat x):=by simp [encs,List.map_set]
 rwa [he] at hs
end
section
variable {α:Type} {P:Program} {ops:Array Oper} {rest:List Oper} {o:Oper} {a:Act} {Q:Exit→Act→World→Prop}
end
theorem blk_alloc {w:World} {g:Nat} {o:Obj} (h:w.heap[g]?=some o) (o':Obj):(w.alloc o').heap[g]?=some o:=(Below.heap_alloc w o' g (blk_lt h)).trans h
theorem blk_drew {w:World} {g:Nat} {o:Obj} (h:w.heap[g]?=some o):w.drew.heap[g]?=some o:=h
theorem blk_drewN {w:World} {g:Nat} {o:Obj} (h:w.heap[g]?=some o) (n:Nat):(w.drewN n).heap[g]?=some o:=h
theorem blk_below {w w1:World} {g:Nat} {o:Obj} (h:w.heap[g]?=some o) (hb:Below w.heap.size w w1):w1.heap[g]?=some o:=(hb.block g (blk_lt h)).trans h
theorem blk_new (w:World) (o:Obj):(w.alloc o).heap[w.heap.size]?=some o:=heap_alloc_new w o
section
variable {P:Program}
end
theorem own_le {w:World} {base n m c size:Nat} {e:TypeId} {A:Option Addr} {xs:List Value} (h:w.ownsRow base e size (.slice A m c) n xs):m≤c:=by
 rcases h.2 with ⟨he,_⟩ | ⟨g,cap,cur,he,_,_,hnc,_⟩
 ·injection he with _ h2 h3
  omega
 ·injection he with _ h2 h3
  omega
def OwnRow {α:Type} (R:α→List Value→Prop) (e:TypeId) (size:Nat) (w:World) (base:Nat) (v:Value) (ps:List α):Prop:=
 ∃inner,w.ownsRow base e size v ps.length inner∧Reps R size ps inner
section
variable {α:Type} {R R':α→List Value→Prop} {e:TypeId} {size:Nat} {w w1:World} {base:Nat} {v:Value} {ps:List α}
theorem OwnRow.none_ (R:α→List Value→Prop) (e:TypeId) (size:Nat) (w:World) (base:Nat):OwnRow R e size w base (.slice none 0 0) []:=⟨[],own_nil _ _ _ _,Reps.none _ _⟩
theorem OwnRow.imp_ (h:OwnRow R e size w base v ps) (hR: ∀p c,R p c→R' p c):OwnRow R' e size w base v ps:=by
 obtain⟨inner,ho,hr⟩:=h
 exact⟨inner,ho,hr.imp_ hR⟩
theorem OwnRow.below (h:OwnRow R e size w base v ps) (hb:Below w.heap.size w w1):OwnRow R e size w1 base v ps:=by
 obtain⟨inner,ho,hr⟩:=h
 exact⟨inner,pw_own_below ho hb,hr⟩
theorem OwnRow.other (h:OwnRow R e size w base v ps) {row:Option Nat} (hg:w.grownBy w1 row) (hne:v.ownBlock=none∨v.ownBlock≠row):OwnRow R e size w1 base v ps:=by
 obtain⟨inner,ho,hr⟩:=h
 exact⟨inner,own_other ho hg hne,hr⟩
theorem OwnRow.reads (h:OwnRow R e size w base v ps): ∃A c,v= .slice A ps.length c∧ps.length≤c∧ReadsRow R size w A ps.length ps:=by
 obtain⟨inner,ho,hr⟩:=h
 obtain⟨A,c,rfl,hrow⟩:=own_reads_row ho hr rfl
 exact⟨A,c,rfl,own_le ho,hrow⟩
theorem OwnRow.ne_block (h:OwnRow R e size w base v ps) {g:Nat} {t:TypeId} {cells:Array Value} (hb:w.heap[g]?=some (.cells cells t (0,0))) (ht:e≠t):some g≠v.ownBlock:=by
 obtain⟨inner,ho,hr⟩:=h
 exact own_ne ho hb ht
end
section
variable {P:Program} {ops:Array Oper} {rest:List Oper} {o:Oper} {a:Act} {Q:Exit→Act→World→Prop} {α:Type} {R:α→List Value→Prop}
theorem OwnRow.append {w0 W:World} (base:Nat) (hgd:o.guard=none) (s x:Operand) (t e:TypeId) (z:Value) (size bytes:Nat)
  (ho:o.op= .call { callee:= .builtin .append,args:= #[s,x],argTypes:= #[t,t]})
  (ht:P.underlying t=some (.slice e)) (hinfo:(P.info? e).map (fun i=>(i.zero,i.size,i.bytes))=some (some z,size,bytes)) (hz:z.cells.size=size) (hs0:0 < size) (hb0:0 < bytes)
  (v:Value) (ps:List α) (p:α) (cs:List Value) (hs:a.eval s=v) (hx:a.eval x= .slice (some ⟨W.heap.size,0,none⟩) 1 1) (hp:R p cs) (hcs:cs.length=size) (h1: ∀u ∈ cs,u.oneCell'=true)
  (HO:OwnRow R e size W base v ps) (HB:Below base w0 W) (hbase:base≤W.heap.size) (hl:(ps.length+1)*bytes≤140737488355328)
  (h: ∀v1 w1,OwnRow R e size w1 base v1 (ps++ [p])→Below base w0 w1→W.grownBy w1 v.ownBlock→(v1.ownBlock=v.ownBlock∨ ∃b,v1.ownBlock=some b∧W.heap.size≤b)→wpList P ops Q rest (a.put o.dst v1) w1):
  wpList P ops Q (o::rest) a (W.alloc (.cells cs.toArray e)):=by
 obtain⟨inner,hown,hr⟩:=HO
 refine print_append_cells base hgd s x t e z size bytes ho ht hinfo hz hs0 hb0 v ps.length inner cs hs hx hcs h1 hown HB hbase hl ?_
 intro v1 w1 hown1 hb1 hg1 hat1
 exact h v1 w1 ⟨inner++cs,by rw [List.length_append,List.length_singleton];exact hown1,hr.snoc hp hcs⟩ hb1 hg1 hat1
end
section
variable {P:Program} {ops:Array Oper} {o:Oper} {a:Act} {Q:Exit→Act→World→Prop} {K:Act→World→Prop} {α:Type} {R:α→List Value→Prop}
end
section
variable {α:Type} {P:Program}
end
section
variable {P:Program} {ops:Array Oper} {rest:List Oper} {o:Oper} {a:Act} {Q:Exit→Act→World→Prop}
end
structure Kd (α:Type) where
 sz:Nat
 E:List Nat
 K:World→α→List Value→Prop
 M:World→Nat→(Nat→Prop)→α→List Value→Prop
 K_len: ∀ {w x cs},K w x cs→cs.length=sz
 K_one: ∀ {w x cs},K w x cs→ ∀u ∈ cs,u.oneCell'=true
 K_below: ∀ {w w1:World} {x cs},Below w.heap.size w w1→K w x cs→K w1 x cs
 K_of_M: ∀ {w base ok x cs},M w base ok x cs→K w x cs
 M_mono: ∀ {w base ok ok' x cs},(∀k,ok k→ok' k)→M w base ok x cs→M w base ok' x cs
 M_bound: ∀ {w:World} {base ok x cs},M w base ok x cs→M w base (fun k=>ok k∧base≤k∧k < w.heap.size∧ ∃q,q ∈ E∧ ∃cells,w.heap[k]?=some (.cells cells q (0,0))) x cs
 M_move: ∀ {w w1:World} {base ok x cs},(∀k,ok k→w1.heap[k]?=w.heap[k]?)→M w base ok x cs→M w1 base ok x cs
 M_lower: ∀ {w base base' ok x cs},base'≤base→M w base ok x cs→M w base' ok x cs
theorem own_move {w w1:World} {base:Nat} {e:TypeId} {size n:Nat} {v:Value} {xs:List Value} (h:w.ownsRow base e size v n xs) (hm: ∀k,v.ownBlock=some k→w1.heap[k]?=w.heap[k]?):w1.ownsRow base e size v n xs:=by
 obtain⟨h1,h2⟩:=h
 refine⟨h1,?_⟩
 rcases h2 with h2 | ⟨g,cap,cur,rfl,hg,hh,r⟩
 ·exact .inl h2
 ·exact .inr ⟨g,cap,cur,rfl,hg,(hm g (by simp [Value.ownBlock])).trans hh,r⟩
theorem own_typed {w:World} {base:Nat} {e:TypeId} {size n:Nat} {v:Value} {xs:List Value} (h:w.ownsRow base e size v n xs) (k:Nat) (hk:v.ownBlock=some k): ∃cells,w.heap[k]?=some (.cells cells e (0,0)):=by
 rcases h.2 with ⟨rfl,_⟩ | ⟨g,cap,cur,rfl,hg,hh,r⟩
 ·simp [Value.ownBlock] at hk
 ·have:g=k:=by simpa [Value.ownBlock] using hk
  subst this
  exact⟨cur,hh⟩
namespace Kd
def C {α:Type} (d:Kd α) (w:World) (A:Option Addr) (n:Nat) (xs:List α):Prop:=ReadsRow (d.K w) d.sz w A n xs
def R {α:Type} (d:Kd α) (e:Nat) (w:World) (base:Nat) (ok:Nat→Prop) (v:Value) (xs:List α):Prop:=
 (∀k,v.ownBlock=some k→ok k)∧OwnRow (d.M w base (fun k=>ok k∧some k≠v.ownBlock)) e d.sz w base v xs
section
variable {α:Type} {d:Kd α} {e:Nat} {w w1:World} {base:Nat} {ok ok':Nat→Prop} {v:Value} {xs:List α}
theorem C_below {A:Option Addr} {n:Nat} (h:d.C w A n xs) (hb:Below w.heap.size w w1):d.C w1 A n xs:=ReadsRow.imp_ h hb (fun _ _ hp=>d.K_below hb hp)
theorem R_nil (d:Kd α) (e:Nat) (w:World) (base:Nat) (ok:Nat→Prop):d.R e w base ok (.slice none 0 0) []:=⟨fun k hk=>by simp [Value.ownBlock] at hk,OwnRow.none_ _ _ _ _ _⟩
theorem R_mono (h:d.R e w base ok v xs) (hok: ∀k,ok k→ok' k):d.R e w base ok' v xs:=⟨fun k hk=>hok k (h.1 k hk),h.2.imp_ (fun _ _ hp=>d.M_mono (fun k hk=>⟨hok k hk.1,hk.2⟩) hp)⟩
theorem R_bound (h:d.R e w base ok v xs):d.R e w base (fun k=>ok k∧base≤k∧k < w.heap.size∧ ∃q,q ∈ e::d.E∧ ∃cells,w.heap[k]?=some (.cells cells q (0,0))) v xs:=by
 obtain⟨h0,inner,ho,hr⟩:=h
 refine⟨fun k hk=>?_,inner,ho,hr.imp_ (fun _ _ hp=>d.M_mono (fun k hk=>?_) (d.M_bound hp))⟩
 ·obtain⟨cells,hc⟩:=own_typed ho k hk
  exact⟨h0 k hk,own_base ho k hk,own_lt ho k hk,e,List.mem_cons_self,cells,hc⟩
 ·obtain⟨⟨h1,h2⟩,h3,h4,q,hq,hc⟩:=hk
  exact⟨⟨h1,h3,h4,q,List.mem_cons_of_mem _ hq,hc⟩,h2⟩
theorem R_move (h:d.R e w base ok v xs) (hm: ∀k,ok k→w1.heap[k]?=w.heap[k]?):d.R e w1 base ok v xs:=by
 obtain⟨h0,inner,ho,hr⟩:=h
 exact⟨h0,inner,own_move ho (fun k hk=>hm k (h0 k hk)),hr.imp_ (fun _ _ hp=>d.M_move (fun k hk=>hm k hk.1) hp)⟩
theorem R_lower {base':Nat} (h:d.R e w base ok v xs) (hb:base'≤base):d.R e w base' ok v xs:=by
 obtain⟨h0,inner,ho,hr⟩:=h
 exact⟨h0,inner,own_weaken ho hb,hr.imp_ (fun _ _ hp=>d.M_lower hb hp)⟩
theorem R_step (h:d.R e w base ok v xs) (hm: ∀k,ok k→k < w.heap.size→w1.heap[k]?=w.heap[k]?):d.R e w1 base ok v xs:=
 R_mono (R_move (R_bound h) (fun k hk=>hm k hk.1 hk.2.2.1)) (fun _ hk=>hk.1)
theorem M_step {x:α} {cs:List Value} (h:d.M w base ok x cs) (hm: ∀k,ok k→k < w.heap.size→w1.heap[k]?=w.heap[k]?):d.M w1 base ok x cs:=
 d.M_mono (fun _ hk=>hk.1) (d.M_move (fun k hk=>hm k hk.1 hk.2.2.1) (d.M_bound h))
theorem R_below (h:d.R e w base ok v xs) (hb:Below w.heap.size w w1):d.R e w1 base ok v xs:=R_step h (fun k _ hk=>hb.block k hk)
theorem M_below {x:α} {cs:List Value} (h:d.M w base ok x cs) (hb:Below w.heap.size w w1):d.M w1 base ok x cs:=M_step h (fun k _ hk=>hb.block k hk)
theorem R_far (h:d.R e w base ok v xs) {p:Addr} (hok: ∀k,ok k→k≠p.block) (u:Value):d.R e (w.setCell p u) base ok v xs:=R_step h (fun k ho _=>Below.heap_setCell w p u k (hok k ho))
theorem R_reads (h:d.R e w base ok v xs): ∃A c,v= .slice A xs.length c∧xs.length≤c∧d.C w A xs.length xs:=by
 obtain⟨A,c,he,hl,hr⟩:=OwnRow.reads h.2
 exact⟨A,c,he,hl,hr.imp_ (Below.refl _ _) (fun _ _ hp=>d.K_of_M hp)⟩
theorem R_slice (h:d.R e w base ok v xs): ∃A c,v= .slice A xs.length c:=by
 obtain⟨A,c,he,_⟩:=R_reads h
 exact⟨A,c,he⟩
theorem R_own (h:d.R e w base ok v xs): ∃inner,w.ownsRow base e d.sz v xs.length inner:=by
 obtain⟨_,inner,ho,_⟩:=h
 exact⟨inner,ho⟩
theorem R_ne (h:d.R e w base ok v xs) {g t:Nat} {cells:Array Value} (hb:w.heap[g]?=some (.cells cells t (0,0))) (ht:e≠t):some g≠v.ownBlock:=OwnRow.ne_block h.2 hb ht
end
def scalar {α:Type} (enc:α→Value) (h1: ∀x,(enc x).oneCell'=true):Kd α where
 sz:=1
 E:= []
 K:=fun _ x cs=>cs= [enc x]
 M:=fun _ _ _ x cs=>cs= [enc x]
 K_len:=fun h=>by rw [h];rfl
 K_one:=fun h u hu=>by
  rw [h] at hu
  rw [List.mem_singleton.1 hu]
  exact h1 _
 K_below:=fun _ h=>h
 K_of_M:=fun h=>h
 M_mono:=fun _ h=>h
 M_bound:=fun h=>h
 M_move:=fun _ h=>h
 M_lower:=fun _ h=>h
def int (k:IntKind):Kd Int:=scalar (Value.int k) (fun _=>rfl)
def bool:Kd Bool:=scalar Value.bool (fun _=>rfl)
def string:Kd ByteArray:=scalar Value.string (fun _=>rfl)
def slice {α:Type} (e:Nat) (d:Kd α):Kd (List α) where
 sz:=1
 E:=e::d.E
 K:=fun w xs cs=> ∃A c,cs= [.slice A xs.length c]∧xs.length≤c∧d.C w A xs.length xs
 M:=fun w base ok xs cs=> ∃v,cs= [v]∧d.R e w base ok v xs
 K_len:=by
  rintro w x cs ⟨A,c,rfl,_⟩
  rfl
 K_one:=by
  rintro w x cs ⟨A,c,rfl,_⟩ u hu
  rw [List.mem_singleton.1 hu]
  rfl
 K_below:=by
  rintro w w1 x cs hb ⟨A,c,rfl,hl,hr⟩
  exact⟨A,c,rfl,hl,C_below hr hb⟩
 K_of_M:=by
  rintro w base ok x cs ⟨v,rfl,h⟩
  obtain⟨A,c,rfl,hl,hr⟩:=R_reads h
  exact⟨A,c,rfl,hl,hr⟩
 M_mono:=by
  rintro w base ok ok' x cs hok ⟨v,rfl,h⟩
  exact⟨v,rfl,R_mono h hok⟩
 M_bound:=by
  rintro w base ok x cs ⟨v,rfl,h⟩
  exact⟨v,rfl,R_bound h⟩
 M_move:=by
  rintro w w1 base ok x cs hm ⟨v,rfl,h⟩
  exact⟨v,rfl,R_move h hm⟩
 M_lower:=by
  rintro w base base' ok x cs hb ⟨v,rfl,h⟩
  exact⟨v,rfl,R_lower h hb⟩
def pair {α β:Type} (a:Kd α) (b:Kd β):Kd (α × β) where
 sz:=a.sz+b.sz
 E:=a.E++b.E
 K:=fun w x cs=> ∃c0 c1,cs=c0++c1∧a.K w x.1 c0∧b.K w x.2 c1
 M:=fun w base ok x cs=> ∃c0 c1,cs=c0++c1∧a.M w base ok x.1 c0∧b.M w base ok x.2 c1
 K_len:=by
  rintro w x cs ⟨c0,c1,rfl,h0,h1⟩
  rw [List.length_append,a.K_len h0,b.K_len h1]
 K_one:=by
  rintro w x cs ⟨c0,c1,rfl,h0,h1⟩ u hu
  rcases List.mem_append.1 hu with hu | hu
  ·exact a.K_one h0 u hu
  ·exact b.K_one h1 u hu
 K_below:=by
  rintro w w1 x cs hb ⟨c0,c1,rfl,h0,h1⟩
  exact⟨c0,c1,rfl,a.K_below hb h0,b.K_below hb h1⟩
 K_of_M:=by
  rintro w base ok x cs ⟨c0,c1,rfl,h0,h1⟩
  exact⟨c0,c1,rfl,a.K_of_M h0,b.K_of_M h1⟩
 M_mono:=by
  rintro w base ok ok' x cs hok ⟨c0,c1,rfl,h0,h1⟩
  exact⟨c0,c1,rfl,a.M_mono hok h0,b.M_mono hok h1⟩
 M_bound:=by
  rintro w base ok x cs ⟨c0,c1,rfl,h0,h1⟩
  refine⟨c0,c1,rfl,a.M_mono ?_ (a.M_bound h0),b.M_mono ?_ (b.M_bound h1)⟩
  ·rintro k ⟨h2,h3,h4,q,hq,hc⟩
   exact⟨h2,h3,h4,q,List.mem_append_left _ hq,hc⟩
  ·rintro k ⟨h2,h3,h4,q,hq,hc⟩
   exact⟨h2,h3,h4,q,List.mem_append_right _ hq,hc⟩
 M_move:=by
  rintro w w1 base ok x cs hm ⟨c0,c1,rfl,h0,h1⟩
  exact⟨c0,c1,rfl,a.M_move hm h0,b.M_move hm h1⟩
 M_lower:=by
  rintro w base base' ok x cs hb ⟨c0,c1,rfl,h0,h1⟩
  exact⟨c0,c1,rfl,a.M_lower hb h0,b.M_lower hb h1⟩
def bot {α:Type} (sz:Nat) (E:List Nat):Kd α where
 sz:=sz
 E:=E
 K:=fun _ _ _=>False
 M:=fun _ _ _ _ _=>False
 K_len:=fun h=>h.elim
 K_one:=fun h=>h.elim
 K_below:=fun _ h=>h
 K_of_M:=fun h=>h
 M_mono:=fun _ h=>h
 M_bound:=fun h=>h
 M_move:=fun _ h=>h
 M_lower:=fun _ h=>h
def upto {α:Type} (F:Kd α→Kd α) (sz:Nat) (E:List Nat):Nat→Kd α
 | 0=>bot sz E
 | n+1=>F (upto F sz E n)
theorem C_get {α:Type} {d:Kd α} {w:World} {A:Option Addr} {n:Nat} {xs:List α} (h:d.C w A n xs) (z:α) (i:Int) (h0:0≤i) (h1:i < n):
  ∃ad c,A=some ad∧c.length=d.sz∧d.K w (xs.getD i.toNat z) c∧ ∀j u,c[j]?=some u→w.cell? (ad.add (i.toNat*d.sz+j))=some u:=ReadsRow.get_ h z i h0 h1
theorem R_appended {α:Type} {d:Kd α} {e base:Nat} {ok okp:Nat→Prop} {W w1:World} {v v1:Value} {xs:List α} {p:α} {inner cs:List Value} (h0: ∀k,v.ownBlock=some k→ok k) (hr:Reps (d.M W base (fun k=>ok k∧some k≠v.ownBlock)) d.sz xs inner) (hp:d.M W base okp p cs) (hokp: ∀k,okp k→ok k∧some k≠v.ownBlock) (hfresh: ∀k,W.heap.size≤k→ok k)
  (hown:w1.ownsRow base e d.sz v1 (xs.length+1) (inner++cs)) (hg:W.grownBy w1 v.ownBlock) (hat:v1.ownBlock=v.ownBlock∨ ∃b,v1.ownBlock=some b∧W.heap.size≤b):d.R e w1 base ok v1 (xs++ [p]):=by
 have hne: ∀k,some k≠v.ownBlock→k < W.heap.size→some k≠v1.ownBlock:=by
  intro k hk hlt
  rcases hat with hat | ⟨b,hb,hle⟩
  ·rw [hat];exact hk
  ·rw [hb]
   intro he
   injection he with he
   omega
 have step: ∀ {q:α} {c:List Value} {o:Nat→Prop},d.M W base o q c→(∀k,o k→ok k∧some k≠v.ownBlock)→d.M w1 base (fun k=>ok k∧some k≠v1.ownBlock) q c:=by
  intro q c o hq ho
  have h1:=d.M_move (w1:=w1) (fun k hk=>hg.block k hk.2.2.1 (ho k hk.1).2) (d.M_bound hq)
  exact d.M_mono (fun k hk=>⟨(ho k hk.1).1,hne k (ho k hk.1).2 hk.2.2.1⟩) h1
 refine⟨fun k hk=>?_,inner++cs,by rw [List.length_append,List.length_singleton];exact hown,?_⟩
 ·rcases hat with hat | ⟨b,hb,hle⟩
  ·exact h0 k (hat ▸ hk)
  ·rw [hb] at hk
   injection hk with hk
   exact hfresh k (by omega)
 ·exact(hr.imp_ (fun _ _ hq=>step hq (fun _ hk=>hk))).snoc (step hp hokp) (d.K_len (d.K_of_M hp))
section
variable {P:Program} {ops:Array Oper} {rest:List Oper} {o:Oper} {a:Act} {Q:Exit→Act→World→Prop} {α:Type}
theorem R_append (d:Kd α) {w0 W:World} (base:Nat) (hgd:o.guard=none) (s x:Operand) (t e:TypeId) (z:Value) (bytes:Nat)
  (ho:o.op= .call { callee:= .builtin .append,args:= #[s,x],argTypes:= #[t,t]})
  (ht:P.underlying t=some (.slice e)) (hinfo:(P.info? e).map (fun i=>(i.zero,i.size,i.bytes))=some (some z,d.sz,bytes)) (hz:z.cells.size=d.sz) (hs0:0 < d.sz) (hb0:0 < bytes)
  (v:Value) (xs:List α) (p:α) (cs:List Value) (ok okp:Nat→Prop) (hs:a.eval s=v) (hx:a.eval x= .slice (some ⟨W.heap.size,0,none⟩) 1 1) (hp:d.M W base okp p cs) (hokp: ∀k,okp k→ok k∧some k≠v.ownBlock) (hfresh: ∀k,W.heap.size≤k→ok k)
  (HO:d.R e W base ok v xs) (HB:Below base w0 W) (hbase:base≤W.heap.size) (hl:(xs.length+1)*bytes≤140737488355328)
  (h: ∀v1 w1,d.R e w1 base ok v1 (xs++ [p])→Below base w0 w1→W.grownBy w1 v.ownBlock→(v1.ownBlock=v.ownBlock∨ ∃b,v1.ownBlock=some b∧W.heap.size≤b)→wpList P ops Q rest (a.put o.dst v1) w1):
  wpList P ops Q (o::rest) a (W.alloc (.cells cs.toArray e)):=by
 obtain⟨h0,inner,hown,hr⟩:=HO
 refine print_append_cells base hgd s x t e z d.sz bytes ho ht hinfo hz hs0 hb0 v xs.length inner cs hs hx (d.K_len (d.K_of_M hp)) (d.K_one (d.K_of_M hp)) hown HB hbase hl ?_
 intro v1 w1 hown1 hb1 hg1 hat1
 exact h v1 w1 (R_appended h0 hr hp hokp hfresh hown1 hg1 hat1) hb1 hg1 hat1
end
section
variable {P:Program} {ops:Array Oper} {o:Oper} {a:Act} {Q:Exit→Act→World→Prop} {Kc:Act→World→Prop} {α:Type}
end
theorem reps_scalar {α:Type} {enc:α→Value} (xs:List α):Reps (fun(x:α) (cs:List Value)=>cs= [enc x]) 1 xs (encs enc xs):=by
 refine⟨by simp [encs],fun j p hj=>?_⟩
 obtain⟨hl,hp⟩:=List.getElem?_eq_some_iff.1 hj
 have hl':j < (encs enc xs).length:=by rw [encs_length];exact hl
 rw [Nat.mul_one,List.drop_eq_getElem_cons hl']
 simp [encs,hp]
theorem R_of_own {α:Type} {enc:α→Value} {h1: ∀x,(enc x).oneCell'=true} {e:Nat} {w:World} {base:Nat} {ok:Nat→Prop} {v:Value} {xs:List α} (ho:w.ownsRow base e 1 v xs.length (encs enc xs)) (hok: ∀k,v.ownBlock=some k→ok k):(scalar enc h1).R e w base ok v xs:=⟨hok,encs enc xs,ho,reps_scalar xs⟩
theorem own_of_R {α:Type} {enc:α→Value} {h1: ∀x,(enc x).oneCell'=true} {e:Nat} {w:World} {base:Nat} {ok:Nat→Prop} {v:Value} {xs:List α} (h:(scalar enc h1).R e w base ok v xs):w.ownsRow base e 1 v xs.length (encs enc xs):=by
 obtain⟨_,inner,ho,hr⟩:=h
 have:inner=encs enc xs:=by
  apply List.ext_getElem?
  intro j
  rcases Nat.lt_or_ge j xs.length with hj | hj
  ·have h2:=hr.2 j _ (List.getElem?_eq_getElem hj)
   have hl:j < inner.length:=by have:=hr.1;simp [scalar] at this;omega
   have h3:(inner.drop (j*1)).take 1= [enc xs[j]]:=h2
   rw [Nat.mul_one,List.drop_eq_getElem_cons hl] at h3
   have h4:inner[j]=enc xs[j]:=by
    have h5:=congrArg List.head? h3
    rw [List.take_succ_cons] at h5
    exact Option.some.inj h5
   rw [List.getElem?_eq_getElem hl,h4]
   simp [encs,List.getElem?_eq_getElem hj]
  ·have h3:inner.length=xs.length:=by have:=hr.1;simp [scalar] at this;omega
   rw [List.getElem?_eq_none (by omega),List.getElem?_eq_none (by rw [encs_length];omega)]
 rw [← this]
 exact ho
theorem reads_of_C {α:Type} {enc:α→Value} {d:α} {h1: ∀x,(enc x).oneCell'=true} {w:World} {A:Option Addr} {n:Nat} {xs:List α} (h:(scalar enc h1).C w A n xs):ReadsOf enc d w A n xs:=by
 refine⟨h.1,h.2.1,fun hn=>?_⟩
 obtain⟨ad,e,hc⟩:=h.2.2 hn
 refine⟨ad,e,fun j hj=>?_⟩
 have hl:j < xs.length:=by have:=h.1;omega
 obtain⟨c,_,hK,hcell⟩:=hc j _ (List.getElem?_eq_getElem hl)
 have hK':c= [enc xs[j]]:=hK
 subst hK'
 have:=hcell 0 _ rfl
 simpa [scalar,List.getD_eq_getElem?_getD,List.getElem?_eq_getElem hl] using this
end Kd
namespace Kd
structure Mono {α β:Type} (F:Kd α→Kd β):Prop where
 sz: ∀d d':Kd α,d.sz=d'.sz→(F d).sz=(F d').sz
 K: ∀d d':Kd α,d.sz=d'.sz→(∀w x cs,d.K w x cs→d'.K w x cs)→ ∀w x cs,(F d).K w x cs→(F d').K w x cs
 M: ∀d d':Kd α,d.sz=d'.sz→(∀w base ok x cs,d.M w base ok x cs→d'.M w base ok x cs)→ ∀w base ok x cs,(F d).M w base ok x cs→(F d').M w base ok x cs
section
variable {α:Type} {F:Kd α→Kd α} {sz:Nat} {E:List Nat} {hs: ∀n,(upto F sz E n).sz=sz} {hE: ∀n q,q ∈ (upto F sz E n).E→q ∈ E}
end
end Kd
namespace Kd
theorem R_after {α:Type} {d:Kd α} {e base:Nat} {ok:Nat→Prop} {W w1:World} {u v v1:Value} {xs:List α} (h:d.R e W base (fun k=>ok k∧some k≠v.ownBlock) u xs) (hg:W.grownBy w1 v.ownBlock) (hat:v1.ownBlock=v.ownBlock∨ ∃b,v1.ownBlock=some b∧W.heap.size≤b):d.R e w1 base (fun k=>ok k∧some k≠v1.ownBlock) u xs:=by
 refine R_mono (R_move (R_bound h) (fun k hk=>hg.block k hk.2.2.1 hk.1.2)) (fun k hk=>⟨hk.1.1,?_⟩)
 rcases hat with hat | ⟨b,hb,hle⟩
 ·rw [hat];exact hk.1.2
 ·rw [hb]
  intro he
  injection he with he
  have:=hk.2.2.1
  omega
theorem M_row {α:Type} {d:Kd α} {e base:Nat} {ok:Nat→Prop} {w:World} {v:Value} {xs:List α} (h:d.R e w base ok v xs):(slice e d).M w base ok xs [v]:=⟨v,rfl,h⟩
end Kd
namespace Kd
section
variable {α β:Type} {d:Kd α} {d':Kd β} {e e':Nat} {w w1 W:World} {base b b':Nat} {ok ok' okv oku:Nat→Prop} {v u:Value} {xs:List α} {ys:List β}
theorem R_alloc (h:d.R e w base ok v xs) (o:Obj):d.R e (w.alloc o) base ok v xs:=R_below h (below_alloc (Below.refl _ _) o)
theorem R_drew (h:d.R e w base ok v xs):d.R e w.drew base ok v xs:=R_below h (below_drew (Below.refl _ _))
theorem R_drewN (h:d.R e w base ok v xs) (m:Nat):d.R e (w.drewN m) base ok v xs:=R_below h (pw_below_drewN (Below.refl _ _) m)
theorem C_alloc {A:Option Addr} {n:Nat} (h:d.C w A n xs) (o:Obj):d.C (w.alloc o) A n xs:=C_below h (below_alloc (Below.refl _ _) o)
theorem C_drew {A:Option Addr} {n:Nat} (h:d.C w A n xs):d.C w.drew A n xs:=C_below h (below_drew (Below.refl _ _))
theorem C_drewN {A:Option Addr} {n:Nat} (h:d.C w A n xs) (m:Nat):d.C (w.drewN m) A n xs:=C_below h (pw_below_drewN (Below.refl _ _) m)
theorem C_nil (d:Kd α) (w:World):d.C w none ([]:List α).length []:=⟨rfl,by simp,fun h=>absurd h (Nat.lt_irrefl 0)⟩
theorem R_reads' {A:Option Addr} {n c:Nat} (h:d.R e w base ok (.slice A n c) xs):n=xs.length∧n≤c∧d.C w A xs.length xs:=by
 obtain⟨A',c',he,hl,hr⟩:=R_reads h
 injection he with h1 h2 h3
 subst h1
 exact⟨h2,by omega,hr⟩
theorem R_lt (h:d.R e w base ok v xs): ∀k,v.ownBlock=some k→k < w.heap.size:=by
 obtain⟨inner,ho⟩:=R_own h
 exact own_lt ho
theorem R_base (h:d.R e w base ok v xs): ∀k,v.ownBlock=some k→base≤k:=by
 obtain⟨inner,ho⟩:=R_own h
 exact own_base ho
theorem R_form (h:d.R e w base ok v xs) (hp:0 < xs.length): ∃g cap,v= .slice (some ⟨g,0,none⟩) xs.length cap∧base≤g∧g < w.heap.size∧ ∃cells,w.heap[g]?=some (.cells cells e (0,0)):=by
 obtain⟨inner,ho⟩:=R_own h
 obtain⟨g,cap,he,hb,hl⟩:=ho.form hp
 obtain⟨cells,hc⟩:=own_typed ho g (by rw [he];simp [Value.ownBlock])
 exact⟨g,cap,he,hb,hl,cells,hc⟩
end
section
variable {w W:World} {A:Option Addr} {n:Nat}
theorem at_int {k:IntKind} {xs:List Int} (h:(Kd.int k).C w A n xs) (i:Int) (h0:0≤i) (h1:i < n): ∃ad,A=some ad∧w.cell? (ad.add i.toNat)=some (.int k (rd xs i)):=
 ReadsOf.at_ (reads_of_C (enc:=Value.int k) (d:=(0:Int)) (h1:=fun _=>rfl) h) i h0 h1
variable {α:Type} {enc:α→Value} {h1: ∀x,(enc x).oneCell'=true} {e base g cap:Nat} {ok:Nat→Prop} {xs:List α}
theorem R_cell (d:α) (h:(scalar enc h1).R e W base ok (.slice (some ⟨g,0,none⟩) xs.length cap) xs) (i:Int) (h0:0≤i) (hi:i < xs.length):W.cell? ⟨g,i.toNat,none⟩=some (enc (rdOf d xs i))∧W.frozen? ⟨g,i.toNat,none⟩=false:=own_at_of (own_of_R h) i h0 hi
theorem R_put (h:(scalar enc h1).R e W base ok (.slice (some ⟨g,0,none⟩) xs.length cap) xs) (i:Int) (x:α):(scalar enc h1).R e (W.setCell ⟨g,i.toNat,none⟩ (enc x)) base ok (.slice (some ⟨g,0,none⟩) xs.length cap) (xs.set i.toNat x)∧W.grownBy (W.setCell ⟨g,i.toNat,none⟩ (enc x)) (some g):=by
 obtain⟨ho,hg⟩:=own_store_of (own_of_R h) i x
 exact⟨R_of_own (by rw [List.length_set];exact ho) h.1,hg⟩
end
section
variable {P:Program} {ops:Array Oper} {rest:List Oper} {o:Oper} {a:Act} {Q:Exit→Act→World→Prop}
theorem event_run {W w1:World} {v:Value} (hgd:o.guard=none) (hrun:(execOp a.eval o).run P W= .ok (.value v) w1) (h:wpList P ops Q rest (a.put o.dst v) w1):wpList P ops Q (o::rest) a W:=by
 refine wpList_plain hgd fun K hK=>?_
 unfold Oper.wp
 rw [hrun]
 exact hK _ _ h
variable {α:Type}
theorem R_lit (d:Kd α) {w0 W:World} (base e:Nat) (hgd:o.guard=none) {N:Tmp} (_hd:o.dst=some N) {xs:List α} {inner:List Value} {ok okp:Nat→Prop}
  (hrun:(execOp a.eval o).run P W= .ok (.value (.slice (some ⟨W.heap.size,0,none⟩) xs.length xs.length)) (W.alloc (.cells inner.toArray e)))
  (hrep:Reps (d.M W base okp) d.sz xs inner) (hok: ∀k,okp k→ok k) (hfresh:ok W.heap.size) (HB:Below base w0 W) (hbase:base≤W.heap.size) (hm:xs.length≤9223372036854775807)
  (h: ∀v1 w1,d.R e w1 base ok v1 xs→Below base w0 w1→W.grownBy w1 none→(∃b,v1.ownBlock=some b∧W.heap.size≤b)→wpList P ops Q rest (a.put o.dst v1) w1):wpList P ops Q (o::rest) a W:=by
 refine event_run hgd hrun (h _ _ ⟨fun k hk=>?_,inner,?_,?_⟩ (HB.alloc hbase _) (World.grownBy_alloc W _ none) ⟨W.heap.size,by simp [Value.ownBlock],Nat.le_refl _⟩)
 ·have:W.heap.size=k:=by simpa [Value.ownBlock] using hk
  subst this
  exact hfresh
 ·have h2:=World.ownsRow_lit (base:=base) (e:=e) (size:=d.sz) W inner.toArray xs.length hbase (by simpa [maxLen] using hm) (by simpa using hrep.1)
  simpa using h2
 ·refine hrep.imp_ (fun p c hp=>d.M_mono (fun k hk=>⟨hok k hk.1,fun he=>?_⟩) (M_below (d.M_bound hp) (below_alloc (Below.refl _ _) _)))
  have h3:k=W.heap.size:=by simpa [Value.ownBlock] using he
  have:=hk.2.2.1
  omega
theorem reps_made {α:Type} {R:α→List Value→Prop} {z:Value} {size:Nat} {z0:α} (hz:z.cells.size=size) (hs:0 < size) (h0:R z0 z.cells.toList) (m:Nat):Reps R size (List.replicate m z0) (madeCells z.cells (m*size)).toList:=by
 refine⟨by simp [size_madeCells],fun j p hj=>?_⟩
 obtain⟨hjl,hp⟩:=List.getElem?_eq_some_iff.1 hj
 have hjm:j < m:=by simpa using hjl
 have hp':z0=p:=by simpa using hp
 subst hp'
 have hle:j*size+size≤m*size:=by rw [← Nat.succ_mul];exact Nat.mul_le_mul_right _ hjm
 have:((madeCells z.cells (m*size)).toList.drop (j*size)).take size=z.cells.toList:=by
  apply List.ext_getElem
  ·simp [size_madeCells,hz]
   omega
  ·intro i h1 h2
   have hi:i < size:=by rw [Array.length_toList,hz] at h2;exact h2
   have hmod:(j*size+i) % size=i:=by
    rw [Nat.mul_comm,Nat.mul_add_mod]
    exact Nat.mod_eq_of_lt hi
   simp [madeCells,hz,hmod]
   rw [getElem!_pos z.cells i (by omega)]
 rw [this]
 exact h0
theorem R_make (d:Kd α) {w0 W:World} (base e:Nat) (hgd:o.guard=none) {N:Tmp} (hd:o.dst=some N) (t:TypeId) (x y:Operand) (ho:o.op= .makeSlice t x y) (n:Int) (hx:a.eval x= .int .i64 n) (hy:a.eval y= .int .i64 n)
  (ht:P.underlying t=some (.slice e)) (z:Value) (bytes:Nat) (hinfo:(P.info? e).map (fun i=>(i.zero,i.size,i.bytes))=some (some z,d.sz,bytes)) (hz:z.cells.size=d.sz) (hs0:0 < d.sz) (hb0:0 < bytes)
  (z0:α) {ok okp:Nat→Prop} (hzero:d.M W base okp z0 z.cells.toList) (hok: ∀k,okp k→ok k) (hfresh:ok W.heap.size) (h0:0≤n) (hl:n.toNat*bytes≤281474976710656) (HB:Below base w0 W) (hbase:base≤W.heap.size)
  (h: ∀v1 w1,d.R e w1 base ok v1 (List.replicate n.toNat z0)→Below base w0 w1→W.grownBy w1 none→(∃b,v1.ownBlock=some b∧W.heap.size≤b)→wpList P ops Q rest (a.put o.dst v1) w1):wpList P ops Q (o::rest) a W:=by
 obtain⟨m,rfl⟩:=Int.eq_ofNat_of_zero_le h0
 simp only [Int.toNat_natCast] at hl h
 obtain⟨i0,hi,hzz⟩:=Option.map_eq_some_iff.1 hinfo
 simp only [Prod.mk.injEq] at hzz
 obtain⟨hz0,hz1,hz2⟩:=hzz
 have hm:m≤281474976710656:=Nat.le_trans (Nat.le_mul_of_pos_right _ hb0) hl
 have hr:=run_make (P:=P) W t e i0 z ht hi hz0 .i64 .i64 (m:Int) (m:Int) (by omega) (by omega)
  (by
   have h3:((i0.bytes*m:Nat):Int)≤281474976710656:=by rw [hz2,Nat.mul_comm];omega
   rwa [Int.natCast_mul] at h3) (by omega)
 simp only [Int.toNat_natCast] at hr
 rw [hz1] at hr
 refine R_lit d base e hgd hd (xs:=List.replicate m z0) (inner:=(madeCells z.cells (m*d.sz)).toList) (okp:=okp) (ok:=ok) ?_ (reps_made hz hs0 hzero m) hok hfresh HB hbase (by simp;omega) h
 simp [execOp,ho,hx,hy,hr]
end
end Kd
theorem own_take {w:World} {base n m c size:Nat} {e:TypeId} {A:Option Addr} {xs:List Value} (h:w.ownsRow base e size (.slice A n c) n xs) (hm:m≤n):w.ownsRow base e size (.slice A m c) m (xs.take (m*size)):=by
 obtain⟨h1,h2⟩:=h
 refine⟨by rw [List.length_take,h1];exact Nat.min_eq_left (Nat.mul_le_mul_right _ hm),?_⟩
 rcases h2 with ⟨he,h0⟩ | ⟨g,cap,cur,he,hb,hh,hnc,hcm,hcs,ht⟩
 ·injection he with ha _ hc
  subst ha;subst hc
  exact .inl ⟨by rw [show m=0 by omega],by omega⟩
 ·injection he with ha _ hc
  subst ha;subst hc
  refine .inr ⟨g,c,cur,rfl,hb,hh,by omega,hcm,hcs,?_⟩
  rw [← ht,List.take_take,Nat.min_eq_left (Nat.mul_le_mul_right _ hm)]
section
variable {P:Program}
end
def QRow (w:World) (base:Nat) (e:TypeId) (size:Nat) (v:Value) (n:Nat) (xs:List Value):Prop:=
  xs.length=n*size∧
  ((n=0∧ ∃A,v= .slice A 0 0∧ ∀a,A=some a→base≤a.block∧ ∃cur,w.heap[a.block]?=some (.cells cur e (0,0)))∨
   ∃g off cap cur,v= .slice (some ⟨g,off*size,none⟩) n cap∧base≤g∧w.heap[g]?=some (.cells cur e (0,0))∧n≤cap∧off+cap≤maxLen∧cur.size=(off+cap)*size∧(cur.toList.drop (off*size)).take (n*size)=xs)
section
variable {w w1:World} {base n size:Nat} {e:TypeId} {v:Value} {xs:List Value}
theorem q_of_own (h:w.ownsRow base e size v n xs):QRow w base e size v n xs:=by
 obtain⟨h1,h2⟩:=h
 refine⟨h1,?_⟩
 rcases h2 with ⟨rfl,h0⟩ | ⟨g,cap,cur,rfl,hb,hh,hnc,hcm,hcs,ht⟩
 ·exact .inl ⟨h0,none,rfl,fun a ha=>by cases ha⟩
 ·exact .inr ⟨g,0,cap,cur,by rw [Nat.zero_mul],hb,hh,hnc,by rw [Nat.zero_add];exact hcm,by rw [Nat.zero_add];exact hcs,by rw [Nat.zero_mul,List.drop_zero];exact ht⟩
theorem q_typed (h:QRow w base e size v n xs) (k:Nat) (hk:v.ownBlock=some k):base≤k∧ ∃cells,w.heap[k]?=some (.cells cells e (0,0)):=by
 rcases h.2 with ⟨_,A,rfl,hA⟩ | ⟨g,off,cap,cur,rfl,hg,hh,r⟩
 ·cases A with
  | none=>simp [Value.ownBlock] at hk
  | some a=>
   have:a.block=k:=by simpa [Value.ownBlock] using hk
   subst this
   exact hA a rfl
 ·have:g=k:=by simpa [Value.ownBlock] using hk
  subst this
  exact⟨hg,cur,hh⟩
theorem q_slice (h:QRow w base e size v n xs): ∃A c,v= .slice A n c∧n≤c:=by
 rcases h.2 with ⟨h0,A,rfl,_⟩ | ⟨g,off,cap,cur,rfl,hg,hh,hnc,r⟩
 ·exact⟨A,0,by rw [h0],by omega⟩
 ·exact⟨_,cap,rfl,hnc⟩
theorem q_max (h:QRow w base e size v n xs):n≤9223372036854775807:=by
 rcases h.2 with ⟨h0,_⟩ | ⟨g,off,cap,cur,rfl,hg,hh,hnc,hm,r⟩
 ·omega
 ·simp only [maxLen] at hm
  omega
theorem add_at (g o j:Nat):(⟨g,o,none⟩:Addr).add j=⟨g,o+j,none⟩:=by unfold Addr.add;split <;> simp_all
theorem q_cells {A:Option Addr} {c:Nat} (h:QRow w base e size (.slice A n c) n xs) (hn:0 < n): ∃ad,A=some ad∧ ∀j u,xs[j]?=some u→w.cell? (ad.add j)=some u:=by
 rcases h.2 with ⟨h0,_⟩ | ⟨g,off,cap,cur,he,hg,hh,hnc,hm,hcs,ht⟩
 ·omega
 ·injection he with ha _ hc
  subst ha
  refine⟨_,rfl,fun j u hu=>?_⟩
  rw [add_at,cell_of_row w g _ cur e (0,0) hh]
  rw [← ht,List.getElem?_take] at hu
  split at hu
  ·rw [List.getElem?_drop] at hu
   rw [← Array.getElem?_toList]
   exact hu
  ·cases hu
theorem setCells_far {g:Nat}: ∀(vs:List Value) (o:Nat) {w:World} (k:Nat),k≠g→(w.setCells g o vs).heap[k]?=w.heap[k]?
 | [],_,_,_,_=>rfl
 | v::r,o,w,k,hk=>by
  rw [World.setCells,setCells_far r (o+1) k hk]
  exact Below.heap_setCell w ⟨g,o,none⟩ v k hk
theorem setCells_same (g:Nat): ∀(vs:List Value) (o:Nat) (w:World),(w.setCells g o vs).os=w.os∧(w.setCells g o vs).tape=w.tape∧(w.setCells g o vs).output=w.output∧(w.setCells g o vs).heap.size=w.heap.size
 | [],_,_=>⟨rfl,rfl,rfl,rfl⟩
 | v::r,o,w=>by
  obtain⟨h1,h2,h3,h4⟩:=setCells_same g r (o+1) (w.setCell ⟨g,o,none⟩ v)
  rw [World.setCells]
  exact⟨h1,h2,h3,by rw [h4];simp [World.setCell]⟩
theorem setCells_row {g:Nat} {e:TypeId}: ∀(vs:List Value) (o:Nat) (w:World) (cur:Array Value),w.heap[g]?=some (.cells cur e (0,0))→o+vs.length≤cur.size→
  ∃cur',(w.setCells g o vs).heap[g]?=some (.cells cur' e (0,0))∧cur'.size=cur.size∧cur'.toList=cur.toList.take o++vs++cur.toList.drop (o+vs.length)
 | [],o,w,cur,h,_=>⟨cur,h,rfl,by simp⟩
 | v::r,o,w,cur,h,hl=>by
  have h2:=blk_set h o v
  simp only [List.length_cons] at hl
  obtain⟨cur',h3,h4,h5⟩:=setCells_row r (o+1) (w.setCell ⟨g,o,none⟩ v) _ h2 (by simp;omega)
  refine⟨cur',h3,by rw [h4];simp,?_⟩
  rw [h5,Array.toList_setIfInBounds]
  have ho:o < cur.toList.length:=by rw [Array.length_toList];omega
  rw [List.take_set,List.drop_set_of_lt (by omega)]
  simp only [List.length_cons]
  rw [show o+1+r.length=o+(r.length+1) by omega]
  congr 1
  rw [List.take_succ_eq_append_getElem ho,List.set_append_right _ _ (by rw [List.length_take];omega)]
  have ho':o < cur.size:=by omega
  simp [Nat.min_eq_left (Nat.le_of_lt ho')]
end
section
variable {P:Program}
end
namespace Kd
theorem reps_take {α:Type} {R:α→List Value→Prop} {size m:Nat} {ps:List α} {cs:List Value} (h:Reps R size ps cs) (hm:m≤ps.length):Reps R size (ps.take m) (cs.take (m*size)):=by
 refine⟨by rw [List.length_take,List.length_take,h.1,Nat.min_eq_left hm,Nat.min_eq_left (Nat.mul_le_mul_right _ hm)],fun j p hj=>?_⟩
 rw [List.getElem?_take] at hj
 split at hj
 ·rename_i hjm
  have:=h.2 j p hj
  have hle:j*size+size≤m*size:=by rw [← Nat.succ_mul];exact Nat.mul_le_mul_right _ hjm
  rw [List.drop_take,List.take_take,Nat.min_eq_left (by omega)]
  exact this
 ·cases hj
theorem R_take {α:Type} {d:Kd α} {e m n c:Nat} {w:World} {base:Nat} {ok:Nat→Prop} {A:Option Addr} {xs:List α} (h:d.R e w base ok (.slice A n c) xs) (hm:m≤xs.length):d.R e w base ok (.slice A m c) (xs.take m):=by
 obtain⟨h0,inner,ho,hr⟩:=h
 have hn:n=xs.length:=by
  obtain⟨A',c',he⟩:=own_slice ho
  injection he
 subst hn
 have hb: ∀x y:Nat,(Value.slice A x c).ownBlock=(Value.slice A y c).ownBlock:=by
  intro x y
  cases A <;> rfl
 refine⟨fun k hk=>h0 k (by rw [hb _ m];exact hk),inner.take (m*d.sz),?_,?_⟩
 ·rw [List.length_take,Nat.min_eq_left hm]
  exact own_take ho hm
 ·rw [hb m xs.length]
  exact reps_take hr hm
def Q {α:Type} (d:Kd α) (e:Nat) (w:World) (base:Nat) (ok:Nat→Prop) (v:Value) (xs:List α):Prop:=
 (∀k,v.ownBlock=some k→ok k)∧ ∃inner,QRow w base e d.sz v xs.length inner∧Reps (d.M w base (fun k=>ok k∧some k≠v.ownBlock)) d.sz xs inner
section
variable {α:Type} {d:Kd α} {e:Nat} {w w1 W:World} {base:Nat} {ok ok':Nat→Prop} {v:Value} {xs:List α}
theorem Q_of_R (h:d.R e w base ok v xs):d.Q e w base ok v xs:=by
 obtain⟨h0,inner,ho,hr⟩:=h
 exact⟨h0,inner,q_of_own ho,hr⟩
theorem Q_nil (d:Kd α) (e:Nat) (w:World) (base:Nat) (ok:Nat→Prop):d.Q e w base ok (.slice none 0 0) []:=Q_of_R (R_nil d e w base ok)
theorem Q_reads' {A:Option Addr} {n c:Nat} (h:d.Q e w base ok (.slice A n c) xs):n=xs.length∧n≤c∧d.C w A xs.length xs:=by
 obtain⟨_,inner,ho,hr⟩:=h
 obtain⟨A',c',he,hl⟩:=q_slice ho
 injection he with h1 h2 h3
 subst h1;subst h2;subst h3
 refine⟨rfl,hl,rfl,q_max ho,fun hp=>?_⟩
 obtain⟨ad,ha,hc⟩:=q_cells ho hp
 refine⟨ad,ha,fun j p hj=>⟨(inner.drop (j*d.sz)).take d.sz,?_,d.K_of_M (hr.2 j p hj),fun i u hu=>?_⟩⟩
 ·have hjl:=(List.getElem?_eq_some_iff.1 hj).1
  have h1:j*d.sz+d.sz≤inner.length:=by rw [hr.1, ← Nat.succ_mul];exact Nat.mul_le_mul_right _ hjl
  rw [List.length_take,List.length_drop]
  omega
 ·refine hc _ u ?_
  rw [List.getElem?_take] at hu
  split at hu
  ·rw [List.getElem?_drop] at hu
   exact hu
  ·cases hu
end
section
variable {P:Program} {ops:Array Oper} {rest:List Oper} {o:Oper} {a:Act} {Q':Exit→Act→World→Prop} {Kc:Act→World→Prop} {α:Type}
end
end Kd
namespace Kd
section
variable {α:Type} {d:Kd α} {e e':Nat} {w w1 W:World} {base:Nat} {ok:Nat→Prop} {u v:Value} {xs:List α}
theorem R_typed (h:d.R e w base ok v xs): ∀k,v.ownBlock=some k→ ∃cells,w.heap[k]?=some (.cells cells e (0,0)):=by
 obtain⟨inner,ho⟩:=R_own h
 exact fun k hk=>own_typed ho k hk
theorem R_apart' (h:d.R e W base ok u xs) (hty: ∀k,v.ownBlock=some k→ ∃cells,W.heap[k]?=some (.cells cells e' (0,0))) (ht: ∀q,q ∈ e::d.E→q≠e'):d.R e W base (fun k=>ok k∧some k≠v.ownBlock) u xs:=by
 refine R_mono (R_bound h) (fun k hk=>⟨hk.1,fun he=>?_⟩)
 obtain⟨_,_,_,q,hq,cells,hc⟩:=hk
 obtain⟨cells',hc'⟩:=hty k he.symm
 rw [hc] at hc'
 injection hc' with hc'
 injection hc' with _ hc'
 exact ht q hq hc'
theorem R_elder' (hu:d.R e W base ok u xs) (hbase: ∀k,v.ownBlock=some k→W.heap.size≤k) (hb:Below W.heap.size W w1):d.R e w1 base (fun k=>ok k∧some k≠v.ownBlock) u xs:=
 R_mono (R_move (R_bound hu) (fun k hk=>hb.block k hk.2.2.1)) (fun k hk=>⟨hk.1,fun he=>by have:=hbase k he.symm;have:=hk.2.2.1;omega⟩)
theorem R_new' (h:d.R e w1 W.heap.size ok v xs) (hlt: ∀k,u.ownBlock=some k→k < W.heap.size):d.R e w1 W.heap.size (fun k=>ok k∧some k≠u.ownBlock) v xs:=
 R_mono (R_bound h) (fun k hk=>⟨hk.1,fun he=>by have:=hlt k he.symm;have:=hk.2.1;omega⟩)
theorem fresh' (hlt: ∀k,u.ownBlock=some k→k < W.heap.size): ∀k,W.heap.size≤k→some k≠u.ownBlock:=fun k hk he=>by have:=hlt k he.symm;omega
end
end Kd
theorem seg_get {α:Type} (a seg:List α) (o:Nat) (h:o+seg.length≤a.length) (q:Nat):
  (a.take o++seg++a.drop (o+seg.length))[q]?=if q < o then a[q]? else if q < o+seg.length then seg[q - o]? else a[q]?:=by
 have hl:(a.take o).length=o:=by rw [List.length_take];omega
 rw [List.append_assoc]
 by_cases h1:q < o
 ·rw [if_pos h1,List.getElem?_append_left (by omega),List.getElem?_take,if_pos h1]
 ·rw [if_neg h1,List.getElem?_append_right (by omega),hl]
  by_cases h2:q < o+seg.length
  ·rw [if_pos h2,List.getElem?_append_left (by omega)]
  ·rw [if_neg h2,List.getElem?_append_right (by omega),List.getElem?_drop]
   congr 1
   omega
namespace Kd
section
variable {α:Type} {d:Kd α} {e base g n cap:Nat} {ok okp:Nat→Prop} {W:World} {xs:List α}
theorem R_elem (h:d.R e W base ok (.slice (some ⟨g,0,none⟩) n cap) xs) (z:α) (i:Int) (h0:0≤i) (h1:i < n):
  ∃c,c.length=d.sz∧d.M W base (fun k=>ok k∧k≠g) (xs.getD i.toNat z) c∧(∀j u,c[j]?=some u→W.cell? ⟨g,i.toNat*d.sz+j,none⟩=some u)∧ ∀j,W.frozen? ⟨g,i.toNat*d.sz+j,none⟩=false:=by
 obtain⟨hn,hnc,hC⟩:=R_reads' h
 obtain⟨_,inner,ho,hr⟩:=h
 have hil:i.toNat < xs.length:=by omega
 have hseg:i.toNat*d.sz+d.sz≤inner.length:=by rw [hr.1, ← Nat.succ_mul];exact Nat.mul_le_mul_right _ hil
 have hM:=hr.2 i.toNat _ (List.getElem?_eq_getElem hil)
 refine⟨(inner.drop (i.toNat*d.sz)).take d.sz,by rw [List.length_take,List.length_drop];omega,?_,fun j u hu=>?_,fun j=>?_⟩
 ·rw [List.getD_eq_getElem?_getD,List.getElem?_eq_getElem hil]
  exact d.M_mono (fun k hk=>⟨hk.1,fun he=>hk.2 (by rw [he];simp [Value.ownBlock])⟩) hM
 ·rw [List.getElem?_take] at hu
  split at hu
  ·rw [List.getElem?_drop] at hu
   have:=ho.cells (g:=g) (by simp [Value.ownBlock]) _ u hu
   rwa [add_plain] at this
  ·cases hu
 ·obtain⟨cells,hc⟩:=own_typed ho g (by simp [Value.ownBlock])
  exact blk_frozen hc _
theorem R_seg (h:d.R e W base ok (.slice (some ⟨g,0,none⟩) n cap) xs) (i:Int) (h0:0≤i) (h1:i < n) {c seg:List Value} {j:Nat} (hcl:c.length=d.sz) (hcc: ∀j u,c[j]?=some u→W.cell? ⟨g,i.toNat*d.sz+j,none⟩=some u)
  (hj:j+seg.length≤d.sz) {x':α} (hM:d.M W base okp x' (c.take j++seg++c.drop (j+seg.length))) (hokp: ∀k,okp k→ok k∧k≠g):
  d.R e (W.setCells g (i.toNat*d.sz+j) seg) base ok (.slice (some ⟨g,0,none⟩) n cap) (xs.set i.toNat x')∧W.grownBy (W.setCells g (i.toNat*d.sz+j) seg) (some g):=by
 obtain⟨hn,hnc,_⟩:=R_reads' h
 obtain⟨hok,inner,ho,hr⟩:=h
 have hil:i.toNat < xs.length:=by omega
 have hseg:i.toNat*d.sz+d.sz≤inner.length:=by rw [hr.1, ← Nat.succ_mul];exact Nat.mul_le_mul_right _ hil
 have hin:inner.length=n*d.sz:=by rw [hr.1,hn]
 obtain⟨ho1,ho2⟩:=ho
 rcases ho2 with ⟨hv,_⟩ | ⟨g',cap',cur,hv,hb,hh,hnc',hcm,hcs,ht⟩
 ·cases hv
 injection hv with ha _ hc
 injection ha with ha
 injection ha with hg
 subst hg;subst hc
 have hfit:i.toNat*d.sz+j+seg.length≤cur.size:=by
  have:n*d.sz≤cap*d.sz:=Nat.mul_le_mul_right _ hnc
  omega
 obtain⟨cur',h3,h4,h5⟩:=setCells_row seg (i.toNat*d.sz+j) W cur hh hfit
 obtain⟨s1,s2,s3,s4⟩:=setCells_same g seg (i.toNat*d.sz+j) W
 have hfar: ∀k,k≠g→(W.setCells g (i.toNat*d.sz+j) seg).heap[k]?=W.heap[k]?:=fun k hk=>setCells_far seg _ k hk
 have hcin: ∀q,q < d.sz→c[q]?=inner[i.toNat*d.sz+q]?:=by
  intro q hq
  have hq':q < c.length:=by omega
  have h6:=hcc q _ (List.getElem?_eq_getElem hq')
  rw [cell_of_row W g _ cur e (0,0) hh] at h6
  rw [List.getElem?_eq_getElem hq', ← h6, ← ht,List.getElem?_take,if_pos (by rw [← hn];omega),Array.getElem?_toList]
 refine⟨⟨hok,inner.take (i.toNat*d.sz+j)++seg++inner.drop (i.toNat*d.sz+j+seg.length),⟨?_, .inr ⟨g,cap,cur',by rw [List.length_set,hn],hb,h3,by rw [List.length_set, ← hn];exact hnc,hcm,by rw [h4,hcs],?_⟩⟩,?_⟩,
  ⟨s1,s2,s3,by rw [s4];exact Nat.le_refl _,fun k _ hk=>hfar k (fun he=>hk (by rw [he]))⟩⟩
 ·rw [List.length_set]
  simp only [List.length_append,List.length_take,List.length_drop]
  rw [hr.1] at hseg ⊢
  omega
 ·rw [List.length_set, ← hn]
  apply List.ext_getElem?
  intro q
  rw [List.getElem?_take,h5]
  rw [seg_get cur.toList seg (i.toNat*d.sz+j) (by rw [Array.length_toList];omega) q,seg_get inner seg (i.toNat*d.sz+j) (by omega) q]
  have hcur: ∀q,q < n*d.sz→cur.toList[q]?=inner[q]?:=by
   intro q hq
   rw [← ht,List.getElem?_take,if_pos (by rw [← hn];exact hq)]
  by_cases hq:q < n*d.sz
  ·rw [if_pos hq,hcur q hq]
  ·rw [if_neg hq,if_neg (by omega),if_neg (by omega),List.getElem?_eq_none (by omega)]
 ·refine⟨?_,fun m p hm=>?_⟩
  ·rw [List.length_set]
   simp only [List.length_append,List.length_take,List.length_drop]
   rw [hr.1] at hseg ⊢
   omega
  ·have hml:m < xs.length:=by
    have:=(List.getElem?_eq_some_iff.1 hm).1
    rwa [List.length_set] at this
   have hmfit:m*d.sz+d.sz≤inner.length:=by rw [hr.1, ← Nat.succ_mul];exact Nat.mul_le_mul_right _ hml
   have hgo:some g=(Value.slice (some ⟨g,0,none⟩) n cap).ownBlock:=by simp [Value.ownBlock]
   by_cases hmi:m=i.toNat
   ·subst hmi
    rw [List.getElem?_set_self (by omega)] at hm
    injection hm with hm
    subst hm
    have hcells:((inner.take (i.toNat*d.sz+j)++seg++inner.drop (i.toNat*d.sz+j+seg.length)).drop (i.toNat*d.sz)).take d.sz=c.take j++seg++c.drop (j+seg.length):=by
     apply List.ext_getElem?
     intro q
     rw [List.getElem?_take,List.getElem?_drop,seg_get inner seg _ (by omega),seg_get c seg j (by omega) q]
     by_cases hq:q < d.sz
     ·rw [if_pos hq,hcin q hq]
      by_cases hq1:q < j
      ·rw [if_pos (by omega),if_pos hq1]
      ·rw [if_neg (by omega),if_neg hq1]
       by_cases hq2:q < j+seg.length
       ·rw [if_pos (by omega),if_pos hq2]
        congr 1
        omega
       ·rw [if_neg (by omega),if_neg hq2]
     ·rw [if_neg hq,if_neg (by omega),if_neg (by omega),List.getElem?_eq_none (by omega)]
    rw [hcells]
    refine d.M_mono (fun k hk=>?_) (d.M_move (w1:=W.setCells g (i.toNat*d.sz+j) seg) (fun k hk=>hfar k (hokp k hk).2) hM)
    exact⟨(hokp k hk).1,fun he=>(hokp k hk).2 (by rw [← hgo] at he;injection he)⟩
   ·rw [List.getElem?_set_ne (by omega)] at hm
    have hold:=hr.2 m p hm
    have hcells:((inner.take (i.toNat*d.sz+j)++seg++inner.drop (i.toNat*d.sz+j+seg.length)).drop (m*d.sz)).take d.sz=(inner.drop (m*d.sz)).take d.sz:=by
     apply List.ext_getElem?
     intro q
     rw [List.getElem?_take,List.getElem?_take,List.getElem?_drop,List.getElem?_drop,seg_get inner seg _ (by omega)]
     by_cases hq:q < d.sz
     ·rw [if_pos hq,if_pos hq]
      rcases Nat.lt_or_gt_of_ne hmi with hlt | hgt
      ·have:m*d.sz+d.sz≤i.toNat*d.sz:=by rw [← Nat.succ_mul];exact Nat.mul_le_mul_right _ hlt
       rw [if_pos (by omega)]
      ·have:i.toNat*d.sz+d.sz≤m*d.sz:=by rw [← Nat.succ_mul];exact Nat.mul_le_mul_right _ hgt
       rw [if_neg (by omega),if_neg (by omega)]
     ·rw [if_neg hq,if_neg hq]
    rw [hcells]
    refine d.M_move (fun k hk=>hfar k (fun he=>hk.2 (by rw [he];exact hgo))) hold
end
end Kd
namespace Kd
def fixed {α:Type} (d:Kd α) (w0:World):Kd α where
 sz:=d.sz
 E:= []
 K:=fun _ x cs=>d.K w0 x cs
 M:=fun _ _ _ x cs=>d.K w0 x cs
 K_len:=d.K_len
 K_one:=d.K_one
 K_below:=fun _ h=>h
 K_of_M:=fun h=>h
 M_mono:=fun _ h=>h
 M_bound:=fun h=>h
 M_move:=fun _ h=>h
 M_lower:=fun _ h=>h
def or_ {α:Type} (a b:Kd α) (h:b.sz=a.sz):Kd α where
 sz:=a.sz
 E:=a.E++b.E
 K:=fun w x cs=>a.K w x cs∨b.K w x cs
 M:=fun w base ok x cs=>a.M w base ok x cs∨b.M w base ok x cs
 K_len:=fun hk=>hk.elim a.K_len (fun hk=>(b.K_len hk).trans h)
 K_one:=fun hk=>hk.elim a.K_one b.K_one
 K_below:=fun hb hk=>hk.imp (a.K_below hb) (b.K_below hb)
 K_of_M:=fun hk=>hk.imp a.K_of_M b.K_of_M
 M_mono:=fun hok hk=>hk.imp (a.M_mono hok) (b.M_mono hok)
 M_bound:=fun hk=>hk.imp
  (fun hk=>a.M_mono (fun _ ⟨h1,h2,h3,q,hq,hc⟩=>⟨h1,h2,h3,q,List.mem_append_left _ hq,hc⟩) (a.M_bound hk))
  (fun hk=>b.M_mono (fun _ ⟨h1,h2,h3,q,hq,hc⟩=>⟨h1,h2,h3,q,List.mem_append_right _ hq,hc⟩) (b.M_bound hk))
 M_move:=fun hm hk=>hk.imp (a.M_move hm) (b.M_move hm)
 M_lower:=fun hb hk=>hk.imp (a.M_lower hb) (b.M_lower hb)
section
variable {α:Type} {F:Kd α→Kd α} {sz:Nat} {E:List Nat} {hs: ∀n,(upto F sz E n).sz=sz} {hE: ∀n q,q ∈ (upto F sz E n).E→q ∈ E}
end
end Kd
namespace Kd
section
variable {P:Program} {ops:Array Oper} {rest:List Oper} {o:Oper} {a:Act} {Q:Exit→Act→World→Prop} {α:Type}
end
end Kd
namespace Kd
section
variable {P:Program} {ops:Array Oper} {rest:List Oper} {o:Oper} {a:Act} {Q:Exit→Act→World→Prop} {α:Type}
end
end Kd
namespace Kd
section
variable {α:Type} {k:Kd α} {w:World} {A:Option Addr} {xs:List α} {m c:Nat}
end
end Kd
section
variable {P:Program}
end
theorem below_size {w W:World} (h:Below w.heap.size w W):w.heap.size≤W.heap.size:=h.size
theorem below_step {w W w2:World} (h:Below w.heap.size w W) (k:Below W.heap.size W w2):Below w.heap.size w w2:=below_then h h.size k
theorem ReadsInt.nil (W:World) (k:IntKind):ReadsInt W k none ([]:List Int).length []:=⟨rfl,by simp,fun h=>absurd h (Nat.lt_irrefl 0)⟩
theorem ReadsInt.drewN {W:World} {k:IntKind} {A:Option Addr} {n:Nat} {xs:List Int} (h:ReadsInt W k A n xs) (m:Nat):ReadsInt (W.drewN m) k A n xs:=h
theorem below_set {w W:World} {g j:Nat} {v:Value} (h:Below w.heap.size w W) (hg:w.heap.size≤g):Below w.heap.size w (W.setCell ⟨g,j,none⟩ v):=h.setCell hg _
theorem ReadsOf.nil {α:Type} (enc:α→Value) (d:α) (W:World):ReadsOf enc d W none ([]:List α).length []:=⟨rfl,by simp,fun h=>absurd h (Nat.lt_irrefl 0)⟩
theorem ReadsOf.drewN {α:Type} {enc:α→Value} {d:α} {W:World} {A:Option Addr} {n:Nat} {xs:List α} (h:ReadsOf enc d W A n xs) (m:Nat):ReadsOf enc d (W.drewN m) A n xs:=h
theorem cell_far {W:World} {p a:Addr} (h:a.block≠p.block) (u:Value):(W.setCell p u).cell? a=W.cell? a:=by
 have:=Below.heap_setCell W p u a.block h
 simp [World.cell?,this]
theorem blk_put {w:World} {g:Nat} {t:TypeId} {cs cs':Array Value} (h:w.heap[g]?=some (.cells cs t (0,0))) (i:Nat) (u:Value) (e:cs.setIfInBounds i u=cs'):(w.setCell ⟨g,i,none⟩ u).heap[g]?=some (.cells cs' t (0,0)):=e ▸ blk_set h i u
theorem below_drew1 {base:Nat} {w W:World} (h:Below base w W):Below base w W.drew:=h.drew
namespace Kd
section
variable {α β:Type} {d:Kd α} {d':Kd β} {e e' base base' n:Nat} {ok ok':Nat→Prop} {w W w1 W1:World} {v u:Value} {xs:List α} {ys:List β} {A:Option Addr} {c:Nat}
end
section
variable {α:Type} {enc:α→Value} {h1: ∀x,(enc x).oneCell'=true} {w W:World} {A:Option Addr} {n g:Nat} {xs:List α}
end
end Kd
namespace Kd
section
variable {α:Type} {d:Kd α} {e base g:Nat} {ok:Nat→Prop} {w w1:World} {v:Value} {xs:List α} {o:Obj}
end
end Kd
section
variable {P:Program} {ops:Array Oper} {rest:List Oper} {o:Oper} {a:Act} {Q:Exit→Act→World→Prop}
theorem box_event {W:World} (hgd:o.guard=none) {N:Tmp} (_hd:o.dst=some N) {cs:Array Value} {t:TypeId}
  (hrun:(execOp a.eval o).run P W= .ok (.value (.pointer (some ⟨W.heap.size,0,none⟩))) (W.alloc (.cells cs t (0,0))))
  (h: ∀g,g=W.heap.size→ ∀w1,w1.heap[g]?=some (.cells cs t (0,0))→Below W.heap.size W w1→wpList P ops Q rest (a.put o.dst (.pointer (some ⟨g,0,none⟩))) w1):wpList P ops Q (o::rest) a W:=
 Kd.event_run hgd hrun (h _ rfl _ (blk_new W _) (below_alloc (Below.refl _ _) _))
end
namespace Kd
section
variable {α:Type} {enc:α→Value} {h1: ∀x,(enc x).oneCell'=true} {e base g n cap:Nat} {ok:Nat→Prop} {W:World} {xs:List α}
theorem R_celln (d:α) (h:(scalar enc h1).R e W base ok (.slice (some ⟨g,0,none⟩) n cap) xs) (i:Int) (h0:0≤i) (hi:i < n):W.cell? ⟨g,i.toNat,none⟩=some (enc (rdOf d xs i))∧W.frozen? ⟨g,i.toNat,none⟩=false:=by
 obtain⟨rfl,_⟩:=R_reads' h
 exact R_cell d h i h0 hi
end
end Kd
section
variable {P:Program} {ops:Array Oper} {rest:List Oper} {o:Oper} {a:Act} {Q:Exit→Act→World→Prop}
theorem store_event {W w1:World} (hgd:o.guard=none) {t:TypeId} {p:Tmp} {v:Operand} (_ho:o.op= .store t (.tmp p) v) (hN:o.dst=none)
  (hrun:(execOp a.eval o).run P W= .ok .skip w1) (h: ∀w',w'=w1→wpList P ops Q rest a w'):wpList P ops Q (o::rest) a W:=by
 refine wpList_plain hgd fun K hK=>?_
 unfold Oper.wp
 rw [hrun]
 show K (a.put o.dst undef) w1
 rw [hN]
 exact hK _ _ (h _ rfl)
end
namespace Kd
section
variable {α:Type} {enc:α→Value} {h1: ∀x,(enc x).oneCell'=true} {e base g n cap:Nat} {ok:Nat→Prop} {W:World} {xs:List α}
theorem R_putg (h:(scalar enc h1).R e W base ok (.slice (some ⟨g,0,none⟩) n cap) xs) (i:Int) (x:α):(scalar enc h1).R e (W.setCell ⟨g,i.toNat,none⟩ (enc x)) base ok (.slice (some ⟨g,0,none⟩) n cap) (xs.set i.toNat x)∧W.grownBy (W.setCell ⟨g,i.toNat,none⟩ (enc x)) (some g):=by
 obtain⟨rfl,_⟩:=R_reads' h
 exact R_put h i x
end
end Kd
section
variable {P:Program} {ops:Array Oper} {rest:List Oper} {o:Oper} {a:Act} {Q:Exit→Act→World→Prop} {W:World}
theorem gate_dst {N:Tmp} (_hN:o.dst=some N) (h:wpList P ops Q (o::rest) a W):wpList P ops Q (o::rest) a W:=h
theorem gate_store {t:TypeId} {p:Tmp} {v:Operand} (_ho:o.op= .store t (.tmp p) v) (h:wpList P ops Q (o::rest) a W):wpList P ops Q (o::rest) a W:=h
end
section
variable {P:Program} {ops:Array Oper} {o:Oper} {a:Act} {Q:Exit→Act→World→Prop} {Kc:Act→World→Prop}
namespace Kd
variable {α:Type}
end Kd
end
inductive Vals (P:Program) (tmps:Array Value) (w:World):List ResultVar→List Value→Prop where
  | nil:Vals P tmps w [] []
  | tmp {u:Tmp} {rs:List ResultVar} {vs:List Value} (h:Vals P tmps w rs vs):Vals P tmps w (.tmp u::rs) (tmps.getD u undef::vs)
  | cell {p:Tmp} {ty:TypeId} {rs:List ResultVar} {vs:List Value} (g:Nat) (t:TypeId) (cs:Array Value) (fr:Nat × Nat) (d:TypeDesc)
      (hp:tmps.getD p undef= .pointer (some ⟨g,0,none⟩)) (hg:w.heap[g]?=some (.cells cs t fr))
      (hu:P.underlying ty=some d) (hd:(match d with | .struct _ | .array _ _=>true | _=>false)=true) (hi:(P.info? ty).map (·.size)=some cs.size)
      (h:Vals P tmps w rs vs):Vals P tmps w (.cell p ty::rs) (.agg cs::vs)
section
variable {P:Program} {tmps:Array Value} {w:World}
end
namespace Kd
section
variable {P:Program} {α:Type}
end
section
variable {P:Program} {ops:Array Oper} {rest:List Oper} {o:Oper} {a:Act} {Q:Exit→Act→World→Prop} {Kc:Act→World→Prop} {α:Type}
end
end Kd
end Go.Proofs.YtmcddlpgffbmpaaW.PrintWords
end
section
namespace Go.Proofs.YtmcddlpgffbmpaaW.PrintLast
section
variable {P:Program} {ops:Array Oper} {Q:Exit→Act→World→Prop} {md:Region.Mode} {S:World→Prop} {ds:List Nat}
def Region.reachB (md:Region.Mode) (ops:Array Oper) (i:Nat):Nat→Nat→Bool
 | 0,_=>false
 | fuel+1,d=>match ops[d]? with
  | some o=>o.after.any fun e=>Region.binds md e && (e.on==i || Region.reachB md ops i fuel e.on)
  | none=>false
def Region.closedB (md:Region.Mode) (ops:Array Oper) (listed:Array Bool):Bool:=
 (List.range ops.size).all fun j=>!listed.getD j false || match ops[j]? with
  | some o=>o.after.all fun e=>!Region.binds md e || listed.getD e.on false
  | none=>true
def Region.lastB (md:Region.Mode) (ops:Array Oper) (listed:Array Bool) (ds:List Nat) (i:Nat):Bool:=
 ds.all fun d=>listed.getD d true || Region.reachB md ops i ops.size d
def ListedClosed (md:Region.Mode) (ops:Array Oper) (listed:Array Bool):Prop:=
 ∀j oj,ops[j]?=some oj→listed.getD j false=true→ ∀e ∈ oj.after,Region.binds md e=true→listed.getD e.on false=true
theorem Region.closedB_spec {listed:Array Bool} (h:Region.closedB md ops listed=true):ListedClosed md ops listed:=by
 intro j oj hj hl e he hb
 have hlt:j < ops.size:=(Array.getElem?_eq_some_iff.1 hj).1
 have h1:=List.all_eq_true.1 h j (List.mem_range.2 hlt)
 simp only [hl,hj,Bool.not_true,Bool.false_or] at h1
 have h2:=Array.all_eq_true_iff_forall_mem.1 h1 e he
 simpa [hb] using h2
theorem ListedClosed.set {listed:Array Bool} {i:Nat} (h:ListedClosed md ops listed) (hi:i ∈ Region.ready md ops listed):ListedClosed md ops (listed.setIfInBounds i true):=by
 obtain⟨_,oi,hoi,hall⟩:=mem_ready.1 hi
 intro j oj hj hl e he hb
 by_cases hij:i=j
 ·subst hij
  have:oj=oi:=Option.some.inj (hj.symm.trans hoi)
  subst this
  exact getD_set_true (hall e he hb)
 ·rw [getD_set_ne false hij] at hl
  exact getD_set_true (h j oj hj hl e he hb)
theorem Region.reach_listed {listed:Array Bool} {i:Nat} (hc:ListedClosed md ops listed): ∀(fuel d:Nat),Region.reachB md ops i fuel d=true→listed.getD d false=true→listed.getD i false=true
 | 0,_,h,_=>by simp [Region.reachB] at h
 | fuel+1,d,h,hl=>by
  unfold Region.reachB at h
  cases ho:ops[d]? with
  | none=>rw [ho] at h;simp at h
  | some o=>
   rw [ho] at h
   obtain⟨e,he,h1⟩:=Array.any_eq_true'.1 h
   simp only [Bool.and_eq_true,Bool.or_eq_true,beq_iff_eq] at h1
   have hle:=hc d o ho hl e he h1.1
   rcases h1.2 with h2 | h2
   ·rw [← h2];exact hle
   ·exact Region.reach_listed hc fuel e.on h2 hle
theorem Region.reach_not_ready {listed:Array Bool} {i d fuel:Nat} (hc:ListedClosed md ops listed) (hr:Region.reachB md ops i fuel d=true) (hun:listed.getD i true=false):d ∉ Region.ready md ops listed:=by
 intro hd
 obtain⟨_,o,ho,hall⟩:=mem_ready.1 hd
 have hi:listed.getD i false=true:=by
  cases fuel with
  | zero=>simp [Region.reachB] at hr
  | succ n=>
   unfold Region.reachB at hr
   rw [ho] at hr
   obtain⟨e,he,h1⟩:=Array.any_eq_true'.1 hr
   simp only [Bool.and_eq_true,Bool.or_eq_true,beq_iff_eq] at h1
   have hle:=hall e he h1.1
   rcases h1.2 with h2 | h2
   ·rw [← h2];exact hle
   ·exact Region.reach_listed hc n e.on h2 hle
 rcases Nat.lt_or_ge i listed.size with h' | h'
 ·simp [h'] at hun hi
  rw [hun] at hi
  cases hi
 ·simp [Array.getElem?_eq_none h'] at hun
def wpAnyLast (P:Program) (md:Region.Mode) (ops:Array Oper) (Q:Exit→Act→World→Prop) (S:World→Prop) (ds:List Nat):Nat→Array Bool→Act→World→Prop
 | 0,listed,a,w=>Region.ready md ops listed= []∧Q .normal a w
 | fuel+1,listed,a,w=>
  (Region.ready md ops listed= []→Q .normal a w)∧
  ∀i ∈ Region.ready md ops listed,wpOp P ops Q i (fun a' w'=>(i ∉ ds→S w→S w')∧wpAnyLast P md ops Q S ds fuel (listed.setIfInBounds i true) a' w') a w
theorem wpAny_of_last: ∀(fuel:Nat) (listed:Array Bool) (a:Act) (w:World),wpAnyLast P md ops Q S ds fuel listed a w→wpAny P md ops Q fuel listed a w
 | 0,_,_,_,h=>h
 | fuel+1,_,_,_,h=>⟨h.1,fun i hi=>wpOp_mono (fun a' w' h'=>wpAny_of_last fuel _ a' w' h'.2) (h.2 i hi)⟩
theorem wpAnyLast_first {i:Nat} {oi:Oper} {v:Value} (hi:ops[i]?=some oi) (hsel: ∀(j:Nat) (o:Oper) cs b,ops[j]?=some o→o.op≠ .select cs b)
  (hQ: ∀c a w,Q (.panic c) (a.put oi.dst v) w→Q (.panic c) a w) (n:Nat):
  ∀(fuel:Nat) (listed:Array Bool) (a:Act) (w:World),
   (∀j oj,ops[j]?=some oj→j≠i→listed.getD j true=false→(∀e ∈ oj.after,Region.binds md e=true→e.on≠i)→oi.apart ops oj=true)→
   ListedClosed md ops listed→(∀d ∈ ds,listed.getD d true=false→Region.reachB md ops i n d=true)→
   i ∈ Region.ready md ops listed→YieldsIf P ops S oi v a→S w→
   wpAnyLast P md ops Q S ds fuel (listed.setIfInBounds i true) (a.put oi.dst v) w→wpAnyLast P md ops Q S ds (fuel+1) listed a w:=by
 intro fuel
 induction fuel with
 | zero=>
  intro listed a w _ _ _ hr hy hS H
  refine⟨fun h=>(by rw [h] at hr;cases hr),fun j hj=>?_⟩
  by_cases hji:j=i
  ·subst hji;exact hy.wpOp hi hS ⟨fun _ h=>h,H⟩
  ·have:=ready_mono hj hji
   rw [H.1] at this
   cases this
 | succ fuel ih=>
  intro listed a w hfree hc hd hr hy hS H
  refine⟨fun h=>(by rw [h] at hr;cases hr),fun j hj=>?_⟩
  by_cases hji:j=i
  ·subst hji;exact hy.wpOp hi hS ⟨fun _ h=>h,H⟩
  ·have h1:=H.2 j (ready_mono hj hji)
   obtain⟨hjun,oj,hoj,hall⟩:=mem_ready.1 hj
   have hiun:=(mem_ready.1 hr).1
   have hnot: ∀e ∈ oj.after,Region.binds md e=true→e.on≠i:=fun e he hb heq=>by
    have h1:=hall e he hb
    rw [heq] at h1
    rcases Nat.lt_or_ge i listed.size with h' | h'
    ·simp [h'] at hiun h1;rw [hiun] at h1;cases h1
    ·simp [Array.getElem?_eq_none h'] at h1
   have hjd:j ∉ ds:=fun hm=>Region.reach_not_ready hc (hd j hm hjun) hiun hj
   have h2:=wpOp_putIf hoj (hfree j oj hoj hji hjun hnot) (fun cs b=>hsel i oi cs b hi) (fun cs b=>hsel j oj cs b hoj) hQ hy h1
   have hfree': ∀k ok,ops[k]?=some ok→k≠i→(listed.setIfInBounds j true).getD k true=false→
     (∀e ∈ ok.after,Region.binds md e=true→e.on≠i)→oi.apart ops ok=true:=fun k ok hk hki hun hno=>by
    refine hfree k ok hk hki ?_ hno
    by_cases hjk:j=k
    ·subst hjk;exact hjun
    ·rw [getD_set_ne true hjk] at hun;exact hun
   have hd': ∀d ∈ ds,(listed.setIfInBounds j true).getD d true=false→Region.reachB md ops i n d=true:=fun d hm hun=>by
    refine hd d hm ?_
    by_cases hjk:j=d
    ·subst hjk;exact hjun
    ·rw [getD_set_ne true hjk] at hun;exact hun
   refine wpOp_mono (fun a' w' h3=>⟨h3.2.1,ih (listed.setIfInBounds j true) a' w' hfree' (hc.set hj) hd' (ready_mono hr (Ne.symm hji)) h3.1 (h3.2.1 hjd hS) ?_⟩) h2
   rw [Array.setIfInBounds_comm _ _ hji]
   exact h3.2.2
theorem wpAnyLast_any {i:Nat} {oi:Oper} {v:Value} (hi:ops[i]?=some oi) (hsel: ∀(j:Nat) (o:Oper) cs b,ops[j]?=some o→o.op≠ .select cs b)
  (hQ: ∀c a w,Q (.panic c) (a.put oi.dst v) w→Q (.panic c) a w):
  ∀(fuel:Nat) (listed:Array Bool) (a:Act) (w:World),
   (∀j oj,ops[j]?=some oj→j≠i→listed.getD j true=false→(∀e ∈ oj.after,Region.binds md e=true→e.on≠i)→oi.apart ops oj=true)→
   i ∈ Region.ready md ops listed→Yields P ops oi v a→
   wpAnyLast P md ops Q S ds fuel (listed.setIfInBounds i true) (a.put oi.dst v) w→wpAnyLast P md ops Q S ds (fuel+1) listed a w:=by
 intro fuel
 induction fuel with
 | zero=>
  intro listed a w _ hr hy H
  refine⟨fun h=>(by rw [h] at hr;cases hr),fun j hj=>?_⟩
  by_cases hji:j=i
  ·subst hji;exact(hy.yieldsIf (S:=fun _=>True)).wpOp hi trivial ⟨fun _ h=>h,H⟩
  ·have:=ready_mono hj hji
   rw [H.1] at this
   cases this
 | succ fuel ih=>
  intro listed a w hfree hr hy H
  refine⟨fun h=>(by rw [h] at hr;cases hr),fun j hj=>?_⟩
  by_cases hji:j=i
  ·subst hji;exact(hy.yieldsIf (S:=fun _=>True)).wpOp hi trivial ⟨fun _ h=>h,H⟩
  ·have h1:=H.2 j (ready_mono hj hji)
   obtain⟨hjun,oj,hoj,hall⟩:=mem_ready.1 hj
   have hiun:=(mem_ready.1 hr).1
   have hnot: ∀e ∈ oj.after,Region.binds md e=true→e.on≠i:=fun e he hb heq=>by
    have h1:=hall e he hb
    rw [heq] at h1
    rcases Nat.lt_or_ge i listed.size with h' | h'
    ·simp [h'] at hiun h1;rw [hiun] at h1;cases h1
    ·simp [Array.getElem?_eq_none h'] at h1
   have h2:=wpOp_put hoj (hfree j oj hoj hji hjun hnot) (fun cs b=>hsel i oi cs b hi) (fun cs b=>hsel j oj cs b hoj) hQ hy h1
   have hfree': ∀k ok,ops[k]?=some ok→k≠i→(listed.setIfInBounds j true).getD k true=false→
     (∀e ∈ ok.after,Region.binds md e=true→e.on≠i)→oi.apart ops ok=true:=fun k ok hk hki hun hno=>by
    refine hfree k ok hk hki ?_ hno
    by_cases hjk:j=k
    ·subst hjk;exact hjun
    ·rw [getD_set_ne true hjk] at hun;exact hun
   refine wpOp_mono (fun a' w' h3=>⟨h3.2.1,ih (listed.setIfInBounds j true) a' w' hfree' (ready_mono hr (Ne.symm hji)) h3.1 ?_⟩) h2
   rw [Array.setIfInBounds_comm _ _ hji]
   exact h3.2.2
theorem wpAnyLast_take {i:Nat} {oi:Oper} {v:Value} {fuel:Nat} {listed:Array Bool} {a:Act} {w:World} (hi:ops[i]?=some oi)
  (hs:Region.noSelect ops=true) (hf:Region.free md ops listed i=true) (hr:(Region.ready md ops listed).contains i=true)
  (hc:Region.closedB md ops listed=true) (hl:Region.lastB md ops listed ds i=true)
  (hQ: ∀c a w,Q (.panic c) (a.put oi.dst v) w→Q (.panic c) a w) (hy:YieldsIf P ops S oi v a) (hS:S w)
  (h:wpAnyLast P md ops Q S ds fuel (listed.setIfInBounds i true) (a.put oi.dst v) w):wpAnyLast P md ops Q S ds (fuel+1) listed a w:=
 wpAnyLast_first hi (Region.noSelect_spec hs) hQ ops.size fuel listed a w (Region.free_spec hi hf) (Region.closedB_spec hc)
  (fun d hm hun=>by have:=List.all_eq_true.1 hl d hm;rw [hun] at this;simpa using this) (by simpa using hr) hy hS h
theorem wpAnyLast_all {rs:List Nat} {fuel:Nat} {listed:Array Bool} {a:Act} {w:World} (hr:Region.ready md ops listed=rs) (hne:rs≠ [])
  (h: ∀i ∈ rs,wpOp P ops Q i (fun a' w'=>(i ∉ ds→S w→S w')∧wpAnyLast P md ops Q S ds fuel (listed.setIfInBounds i true) a' w') a w):wpAnyLast P md ops Q S ds (fuel+1) listed a w:=
 ⟨fun h0=>absurd (hr ▸ h0) hne,hr ▸ h⟩
theorem wpAnyLast_done {listed:Array Bool} {a:Act} {w:World} (hr:Region.ready md ops listed= []) (h:Q .normal a w):
  ∀fuel,wpAnyLast P md ops Q S ds fuel listed a w
 | 0=>⟨hr,h⟩
 | _+1=>⟨fun _=>h,by rw [hr];simp⟩
theorem wp_region_last {id:Nat} {a:Act} {w:World} (hm:P.follows .mixedOrders=true)
  (h:wpAnyLast P .any ops Q S ds ops.size (Array.replicate ops.size false) a { w with drawn:=w.drawn+1}):(Code.region id ops true).wp P Q a w:=
 wp_region_any hm (wpAny_of_last _ _ _ _ h)
end
section
variable {P:Program} {ops:Array Oper} {Q:Exit→Act→World→Prop} {md:Region.Mode} {S:World→Prop} {ds:List Nat}
def AllReadyL (P:Program) (md:Region.Mode) (ops:Array Oper) (Q:Exit→Act→World→Prop) (S:World→Prop) (ds:List Nat) (fuel:Nat) (listed:Array Bool) (a:Act) (w:World) (rs:List Nat):Prop:=
 ∀i ∈ rs,wpOp P ops Q i (fun a' w'=>(i ∉ ds→S w→S w')∧wpAnyLast P md ops Q S ds fuel (listed.setIfInBounds i true) a' w') a w
theorem AllReadyL.nil {fuel:Nat} {listed:Array Bool} {a:Act} {w:World}:AllReadyL P md ops Q S ds fuel listed a w []:=fun _ h=>by cases h
theorem AllReadyL.cons {fuel:Nat} {listed:Array Bool} {a:Act} {w:World} {i:Nat} {o:Oper} {rs:List Nat} (ho:ops[i]?=some o) (hd:i ∉ ds)
  (h: ∀K':Act→World→Prop,Shut (∀a w,S w→(S w→wpAnyLast P md ops Q S ds fuel (listed.setIfInBounds i true) a w)→K' a w)→if Region.wanted o (yielded ops a.tmps)=true then Oper.wp P o a w K' Q else K' (a.put o.dst undef) w)
  (hs:AllReadyL P md ops Q S ds fuel listed a w rs):AllReadyL P md ops Q S ds fuel listed a w (i::rs):=fun j hj=>by
 rcases List.mem_cons.1 hj with rfl | hj
 ·exact wpOp_step ho (fun K' hK=>h K' (fun a w hS hW=>hK a w ⟨fun _ _=>hS,hW hS⟩))
 ·exact hs j hj
theorem wpAnyLast_ready {rs:List Nat} {fuel:Nat} {listed:Array Bool} {a:Act} {w:World} (hr:Region.ready md ops listed=rs) (hne:rs≠ [])
  (h:AllReadyL P md ops Q S ds fuel listed a w rs):wpAnyLast P md ops Q S ds (fuel+1) listed a w:=wpAnyLast_all hr hne h
theorem start_ {id n:Nat} {a:Act} {w:World} (l:Array Bool) (hm:P.follows .mixedOrders=true) (hn:ops.size=n) (hl:Array.replicate n false=l) (hS:S w.drew)
  (h:S w.drew→wpAnyLast P .any ops Q S ds n l a w.drew):(Code.region id ops true).wp P Q a w:=by
 subst hn
 subst hl
 exact wp_region_last hm (h hS)
def takeB (md:Region.Mode) (ops:Array Oper) (ds:List Nat) (l l':Array Bool) (i:Nat):Bool:=
 Region.noSelect ops && Region.free md ops l i && (Region.ready md ops l).contains i && Region.closedB md ops l && Region.lastB md ops l ds i && (l.setIfInBounds i true==l')
theorem take_ {i:Nat} {N:Option Tmp} {oi:Oper} {v:Value} {fuel:Nat} {l:Array Bool} {a:Act} {w:World} (l':Array Bool) (hi:ops[i]?=some oi) (hN:oi.dst=N) (hc:takeB md ops ds l l' i=true)
  (hQ: ∀c a w,Q (.panic c) (a.put oi.dst v) w→Q (.panic c) a w) (hy:YieldsIf P ops S oi v a) (hS:S w) {a':Act} (ha:a.put N v=a')
  (h:wpAnyLast P md ops Q S ds fuel l' a' w):wpAnyLast P md ops Q S ds (fuel+1) l a w:=by
 subst ha
 subst hN
 simp only [takeB,Bool.and_eq_true,beq_iff_eq] at hc
 obtain⟨⟨⟨⟨⟨h1,h2⟩,h3⟩,h4⟩,h5⟩,h6⟩:=hc
 subst h6
 exact wpAnyLast_take hi h1 h2 h3 h4 h5 hQ hy hS h
def anyB (md:Region.Mode) (ops:Array Oper) (l l':Array Bool) (i:Nat):Bool:=
 Region.noSelect ops && Region.free md ops l i && (Region.ready md ops l).contains i && (l.setIfInBounds i true==l')
theorem pure_ {i:Nat} {N:Option Tmp} {oi:Oper} {v:Value} {fuel:Nat} {l:Array Bool} {a:Act} {w:World} (l':Array Bool) (hi:ops[i]?=some oi) (hN:oi.dst=N) (hc:anyB md ops l l' i=true)
  (hQ: ∀c a w,Q (.panic c) (a.put oi.dst v) w→Q (.panic c) a w) (hy:Yields P ops oi v a) {a':Act} (ha:a.put N v=a')
  (h:wpAnyLast P md ops Q S ds fuel l' a' w):wpAnyLast P md ops Q S ds (fuel+1) l a w:=by
 subst ha
 subst hN
 simp only [anyB,Bool.and_eq_true,beq_iff_eq] at hc
 obtain⟨⟨⟨h1,h2⟩,h3⟩,h6⟩:=hc
 subst h6
 exact wpAnyLast_any hi (Region.noSelect_spec h1) hQ fuel l a w (Region.free_spec hi h2) (by simpa using h3) hy h
def readyB (md:Region.Mode) (ops:Array Oper) (l l':Array Bool) (i:Nat):Bool:=(Region.ready md ops l== [i]) && (l.setIfInBounds i true==l')
theorem one_ {i:Nat} {N:Option Tmp} {oi:Oper} {fuel:Nat} {l:Array Bool} {a:Act} {w:World} (l':Array Bool) (hi:ops[i]?=some oi) (hN:oi.dst=N) (hc:readyB md ops l l' i=true) (hd:i ∉ ds)
  (h: ∀K:Act→World→Prop,Shut (∀a' w',S w'→(S w'→wpAnyLast P md ops Q S ds fuel l' a' w')→K a' w')→if Region.wanted oi (yielded ops a.tmps)=true then Oper.wp P oi a w K Q else K (a.put N undef) w):
  wpAnyLast P md ops Q S ds (fuel+1) l a w:=by
 subst hN
 simp only [readyB,Bool.and_eq_true,beq_iff_eq] at hc
 obtain⟨h1,h2⟩:=hc
 subst h2
 exact wpAnyLast_ready h1 (by simp) (AllReadyL.cons hi hd (fun K hK=>h K hK) AllReadyL.nil)
theorem done_ {l:Array Bool} {a:Act} {w:World} {n:Nat} (hr:(Region.ready md ops l== [])=true) (h:Q .normal a w):wpAnyLast P md ops Q S ds n l a w:=wpAnyLast_done (by simpa using hr) h n
theorem two_ {i j:Nat} {Ni Nj:Option Tmp} {oi oj:Oper} {fuel:Nat} {l:Array Bool} {a:Act} {w:World} (li lj:Array Bool) (hi:ops[i]?=some oi) (hj:ops[j]?=some oj) (hNi:oi.dst=Ni) (hNj:oj.dst=Nj)
  (hc:(Region.ready md ops l== [i,j] && l.setIfInBounds i true==li && l.setIfInBounds j true==lj)=true) (hdi:i ∉ ds) (hdj:j ∉ ds)
  (h1: ∀K:Act→World→Prop,Shut (∀a' w',S w'→(S w'→wpAnyLast P md ops Q S ds fuel li a' w')→K a' w')→if Region.wanted oi (yielded ops a.tmps)=true then Oper.wp P oi a w K Q else K (a.put Ni undef) w)
  (h2: ∀K:Act→World→Prop,Shut (∀a' w',S w'→(S w'→wpAnyLast P md ops Q S ds fuel lj a' w')→K a' w')→if Region.wanted oj (yielded ops a.tmps)=true then Oper.wp P oj a w K Q else K (a.put Nj undef) w):
  wpAnyLast P md ops Q S ds (fuel+1) l a w:=by
 subst hNi
 subst hNj
 simp only [Bool.and_eq_true,beq_iff_eq] at hc
 obtain⟨⟨h3,h4⟩,h5⟩:=hc
 subst h4
 subst h5
 exact wpAnyLast_ready h3 (by simp) (AllReadyL.cons hi hdi (fun K hK=>h1 K hK) (AllReadyL.cons hj hdj (fun K hK=>h2 K hK) AllReadyL.nil))
theorem three_ {i j k:Nat} {Ni Nj Nk:Option Tmp} {oi oj ok:Oper} {fuel:Nat} {l:Array Bool} {a:Act} {w:World} (li lj lk:Array Bool) (hi:ops[i]?=some oi) (hj:ops[j]?=some oj) (hk:ops[k]?=some ok) (hNi:oi.dst=Ni) (hNj:oj.dst=Nj) (hNk:ok.dst=Nk)
  (hc:(Region.ready md ops l== [i,j,k] && l.setIfInBounds i true==li && l.setIfInBounds j true==lj && l.setIfInBounds k true==lk)=true) (hdi:i ∉ ds) (hdj:j ∉ ds) (hdk:k ∉ ds)
  (h1: ∀K:Act→World→Prop,Shut (∀a' w',S w'→(S w'→wpAnyLast P md ops Q S ds fuel li a' w')→K a' w')→if Region.wanted oi (yielded ops a.tmps)=true then Oper.wp P oi a w K Q else K (a.put Ni undef) w)
  (h2: ∀K:Act→World→Prop,Shut (∀a' w',S w'→(S w'→wpAnyLast P md ops Q S ds fuel lj a' w')→K a' w')→if Region.wanted oj (yielded ops a.tmps)=true then Oper.wp P oj a w K Q else K (a.put Nj undef) w)
  (h3: ∀K:Act→World→Prop,Shut (∀a' w',S w'→(S w'→wpAnyLast P md ops Q S ds fuel lk a' w')→K a' w')→if Region.wanted ok (yielded ops a.tmps)=true then Oper.wp P ok a w K Q else K (a.put Nk undef) w):
  wpAnyLast P md ops Q S ds (fuel+1) l a w:=by
 subst hNi
 subst hNj
 subst hNk
 simp only [Bool.and_eq_true,beq_iff_eq] at hc
 obtain⟨⟨⟨h4,h5⟩,h6⟩,h7⟩:=hc
 subst h5
 subst h6
 subst h7
 exact wpAnyLast_ready h4 (by simp) (AllReadyL.cons hi hdi (fun K hK=>h1 K hK) (AllReadyL.cons hj hdj (fun K hK=>h2 K hK) (AllReadyL.cons hk hdk (fun K hK=>h3 K hK) AllReadyL.nil)))
def putAll:Act→List (Tmp × Value)→Act
 | a, []=>a
 | a,(n,v)::r=>putAll (a.put (some n) v) r
theorem join_ {σ:Type} {fuel:Nat} {l:Array Bool} {a:Act} {w:World} (fuel':Nat) (l':Array Bool) (ns:σ→List (Tmp × Value)) (F:σ→World→Prop)
  (hcont: ∀s w',F s w'→wpAnyLast P md ops Q S ds fuel' l' (putAll a (ns s)) w')
  (h:(∀s w',F s w'→wpAnyLast P md ops Q S ds fuel' l' (putAll a (ns s)) w')→wpAnyLast P md ops Q S ds fuel l a w):wpAnyLast P md ops Q S ds fuel l a w:=h hcont
theorem norm_ {fuel:Nat} {l:Array Bool} {a a':Act} {w:World} (ha:a=a') (h:wpAnyLast P md ops Q S ds fuel l a' w):wpAnyLast P md ops Q S ds fuel l a w:=by
 subst ha
 exact h
theorem call_ {oi:Oper} {N:Option Tmp} {a:Act} {w:World} {K:Act→World→Prop} (f:FuncId) (args:Array Value) (hw:Region.wanted oi (yielded ops a.tmps)=true) (hN:oi.dst=N) (hrun:(execOp a.eval oi).run P w= .ok (.enter f args) w)
  (h:Calls P f args w fun e w'=> ∃v,e= .returned v∧K (a.put N v) w'):if Region.wanted oi (yielded ops a.tmps)=true then Oper.wp P oi a w K Q else K (a.put N undef) w:=by
 rw [if_pos hw]
 subst hN
 unfold Oper.wp
 rw [hrun,Oper.upon_enter]
 refine h.mono fun e w'' hh=>?_
 obtain⟨v,rfl,hk⟩:=hh
 exact hk
theorem enters_ {f:FuncId} {fn:Func} (hf:P.funcs[f]?=some fn) (hname:(fn.name== "runtime.NumGoroutine")=false) (hb:fn.body.isSome=true) (args:Array Value) (w:World):(callFunc f args).run P w= .ok (.enter f args) w:=by
 have h1:fn.name≠ "runtime.NumGoroutine" :=by simpa using hname
 obtain⟨c,hc⟩:=Option.isSome_iff_exists.1 hb
 simp [callFunc,hf,h1,hc]
theorem goes_ {oi:Oper} {N:Option Tmp} {a:Act} {w:World} {K:Act→World→Prop} {f:FuncId} {fn:Func} {as_:Array Operand} {ts:Array TypeId} (hf:P.funcs[f]?=some fn) (hname:(fn.name== "runtime.NumGoroutine")=false) (hb:fn.body.isSome=true) (args:Array Value)
  (hw:Region.wanted oi (yielded ops a.tmps)=true) (hN:oi.dst=N) (hop:oi.op= .call { callee:= .value (.func f),args:=as_,argTypes:=ts}) (hargs:as_.map a.eval=args)
  (h:Calls P f args w fun e w'=> ∃v,e= .returned v∧K (a.put N v) w'):if Region.wanted oi (yielded ops a.tmps)=true then Oper.wp P oi a w K Q else K (a.put N undef) w:=by
 refine call_ f args hw hN ?_ h
 have he:=enters_ hf hname hb args w
 unfold execOp
 simp [hop,resolve,Deferred.ofValue,invoke,Act.eval,hargs,he]
theorem goesL_ {rest:List Oper} {oi:Oper} {a:Act} {w:World} (N:Option Tmp) (hd:oi.dst=N) (hg:oi.guard=none) {f:FuncId} {fn:Func} {as_:Array Operand} {ts:Array TypeId} (hf:P.funcs[f]?=some fn) (hname:(fn.name== "runtime.NumGoroutine")=false) (hb:fn.body.isSome=true) (args:Array Value)
  (hop:oi.op= .call { callee:= .value (.func f),args:=as_,argTypes:=ts}) (hargs:as_.map a.eval=args)
  (h:Calls P f args w fun e w'=> ∃v,e= .returned v∧wpList P ops Q rest (a.put N v) w'):wpList P ops Q (oi::rest) a w:=by
 refine wpList_plain hg fun K hK=>?_
 have he:=enters_ hf hname hb args w
 have hrun:(execOp a.eval oi).run P w= .ok (.enter f args) w:=by
  unfold execOp
  simp [hop,resolve,Deferred.ofValue,invoke,Act.eval,hargs,he]
 unfold Oper.wp
 rw [hrun,Oper.upon_enter]
 refine h.mono fun e w'' hh=>?_
 obtain⟨v,rfl,hk⟩:=hh
 subst hd
 exact hK _ _ hk
theorem i64_w (n:Int):IntKind.i64.wrap n=Go.RowKit.wrap64 n:=by unfold Go.RowKit.wrap64;exact IntKind.wrap_i64 n
theorem i32_w (n:Int):IntKind.i32.wrap n=Go.RowKit.wrap32 n:=by unfold Go.RowKit.wrap32;exact IntKind.wrap_i32 n
end
end Go.Proofs.YtmcddlpgffbmpaaW.PrintLast
end
section
namespace Go.Proofs.YtmcddlpgffbmpaaW.PrintWords
open Go.RowKit
namespace Kd
section
variable {α:Type} {d:Kd α} {e base g o n cap:Nat} {ok okp:Nat→Prop} {w W:World} {v:Value} {xs:List α}
theorem Q_form (h:d.Q e w base ok v xs) (hp:0 < xs.length): ∃g o cap,v= .slice (some ⟨g,o,none⟩) xs.length cap∧base≤g∧g < w.heap.size∧ ∃cells,w.heap[g]?=some (.cells cells e (0,0)):=by
 obtain⟨h0,inner,hq,hr⟩:=h
 rcases hq.2 with ⟨h1,_⟩ | ⟨g,off,cap,cur,rfl,hb,hh,r⟩
 ·omega
 ·exact⟨g,off*d.sz,cap,rfl,hb,blk_lt hh,cur,hh⟩
theorem Q_elem (h:d.Q e W base ok (.slice (some ⟨g,o,none⟩) n cap) xs) (z:α) (i:Int) (h0:0≤i) (h1:i < n):
  ∃c,c.length=d.sz∧d.M W base (fun k=>ok k∧k≠g) (xs.getD i.toNat z) c∧(∀j u,c[j]?=some u→W.cell? ⟨g,o+i.toNat*d.sz+j,none⟩=some u)∧ ∀j,W.frozen? ⟨g,o+i.toNat*d.sz+j,none⟩=false:=by
 obtain⟨hn,hnc,hC⟩:=Q_reads' h
 obtain⟨_,inner,ho,hr⟩:=h
 have hil:i.toNat < xs.length:=by omega
 have hseg:i.toNat*d.sz+d.sz≤inner.length:=by rw [hr.1, ← Nat.succ_mul];exact Nat.mul_le_mul_right _ hil
 have hM:=hr.2 i.toNat _ (List.getElem?_eq_getElem hil)
 refine⟨(inner.drop (i.toNat*d.sz)).take d.sz,by rw [List.length_take,List.length_drop];omega,?_,fun j u hu=>?_,fun j=>?_⟩
 ·rw [List.getD_eq_getElem?_getD,List.getElem?_eq_getElem hil]
  exact d.M_mono (fun k hk=>⟨hk.1,fun he=>hk.2 (by rw [he];simp [Value.ownBlock])⟩) hM
 ·rw [List.getElem?_take] at hu
  split at hu
  ·rw [List.getElem?_drop] at hu
   subst hn
   obtain⟨ad,he,hc⟩:=q_cells ho (by omega)
   injection he with he
   subst he
   have:=hc _ u hu
   rwa [add_at, ← Nat.add_assoc] at this
  ·cases hu
 ·obtain⟨_,cells,hc⟩:=q_typed ho g (by simp [Value.ownBlock])
  exact blk_frozen hc _
theorem Q_seg (h:d.Q e W base ok (.slice (some ⟨g,o,none⟩) n cap) xs) (i:Int) (h0:0≤i) (h1:i < n) {c seg:List Value} {j:Nat} (hcl:c.length=d.sz) (hcc: ∀j u,c[j]?=some u→W.cell? ⟨g,o+i.toNat*d.sz+j,none⟩=some u)
  (hj:j+seg.length≤d.sz) {x':α} (hM:d.M W base okp x' (c.take j++seg++c.drop (j+seg.length))) (hokp: ∀k,okp k→ok k∧k≠g):
  d.Q e (W.setCells g (o+i.toNat*d.sz+j) seg) base ok (.slice (some ⟨g,o,none⟩) n cap) (xs.set i.toNat x')∧W.grownBy (W.setCells g (o+i.toNat*d.sz+j) seg) (some g):=by
 obtain⟨hn,hnc,_⟩:=Q_reads' h
 obtain⟨hok,inner,ho,hr⟩:=h
 have hil:i.toNat < xs.length:=by omega
 have hseg:i.toNat*d.sz+d.sz≤inner.length:=by rw [hr.1, ← Nat.succ_mul];exact Nat.mul_le_mul_right _ hil
 have hin:inner.length=n*d.sz:=by rw [hr.1,hn]
 obtain⟨ho1,ho2⟩:=ho
 rcases ho2 with ⟨hz,_⟩ | ⟨g',off,cap',cur,hv,hb,hh,hnc',hcm,hcs,ht⟩
 ·omega
 injection hv with ha _ hc
 injection ha with ha
 injection ha with hg hoff
 subst hg;subst hc;subst hoff
 have hcap:n*d.sz≤cap*d.sz:=Nat.mul_le_mul_right _ hnc
 have hcs':cur.size=off*d.sz+cap*d.sz:=by rw [hcs,Nat.add_mul]
 have hfit:off*d.sz+i.toNat*d.sz+j+seg.length≤cur.size:=by omega
 obtain⟨cur',h3,h4,h5⟩:=setCells_row seg (off*d.sz+i.toNat*d.sz+j) W cur hh hfit
 obtain⟨s1,s2,s3,s4⟩:=setCells_same g seg (off*d.sz+i.toNat*d.sz+j) W
 have hfar: ∀k,k≠g→(W.setCells g (off*d.sz+i.toNat*d.sz+j) seg).heap[k]?=W.heap[k]?:=fun k hk=>setCells_far seg _ k hk
 rw [← hn] at ht
 have hat: ∀q,q < n*d.sz→cur.toList[off*d.sz+q]?=inner[q]?:=by
  intro q hq
  rw [← ht,List.getElem?_take,if_pos hq,List.getElem?_drop]
 have hcin: ∀q,q < d.sz→c[q]?=inner[i.toNat*d.sz+q]?:=by
  intro q hq
  have hq':q < c.length:=by omega
  have h6:=hcc q _ (List.getElem?_eq_getElem hq')
  rw [cell_of_row W g _ cur e (0,0) hh] at h6
  rw [List.getElem?_eq_getElem hq', ← h6, ← hat _ (by omega),Array.getElem?_toList,Nat.add_assoc]
 refine⟨⟨hok,inner.take (i.toNat*d.sz+j)++seg++inner.drop (i.toNat*d.sz+j+seg.length),⟨?_, .inr ⟨g,off,cap,cur',by rw [List.length_set,hn],hb,h3,by rw [List.length_set, ← hn];exact hnc,hcm,by rw [h4,hcs],?_⟩⟩,?_⟩,
  ⟨s1,s2,s3,by rw [s4];exact Nat.le_refl _,fun k _ hk=>hfar k (fun he=>hk (by rw [he]))⟩⟩
 ·rw [List.length_set]
  simp only [List.length_append,List.length_take,List.length_drop]
  rw [hr.1] at hseg ⊢
  omega
 ·rw [List.length_set, ← hn]
  apply List.ext_getElem?
  intro q
  rw [List.getElem?_take,List.getElem?_drop,h5]
  rw [seg_get cur.toList seg (off*d.sz+i.toNat*d.sz+j) (by rw [Array.length_toList];omega) (off*d.sz+q),seg_get inner seg (i.toNat*d.sz+j) (by omega) q]
  by_cases hq:q < n*d.sz
  ·rw [if_pos hq]
   by_cases hq1:q < i.toNat*d.sz+j
   ·rw [if_pos (by omega),if_pos hq1,hat q hq]
   ·rw [if_neg (by omega),if_neg hq1]
    by_cases hq2:q < i.toNat*d.sz+j+seg.length
    ·rw [if_pos (by omega),if_pos hq2]
     congr 1
     omega
    ·rw [if_neg (by omega),if_neg hq2,hat q hq]
  ·rw [if_neg hq,if_neg (by omega),if_neg (by omega),List.getElem?_eq_none (by omega)]
 ·refine⟨?_,fun m p hm=>?_⟩
  ·rw [List.length_set]
   simp only [List.length_append,List.length_take,List.length_drop]
   rw [hr.1] at hseg ⊢
   omega
  ·have hml:m < xs.length:=by
    have:=(List.getElem?_eq_some_iff.1 hm).1
    rwa [List.length_set] at this
   have hmfit:m*d.sz+d.sz≤inner.length:=by rw [hr.1, ← Nat.succ_mul];exact Nat.mul_le_mul_right _ hml
   have hgo:some g=(Value.slice (some ⟨g,off*d.sz,none⟩) n cap).ownBlock:=by simp [Value.ownBlock]
   by_cases hmi:m=i.toNat
   ·subst hmi
    rw [List.getElem?_set_self (by omega)] at hm
    injection hm with hm
    subst hm
    have hcells:((inner.take (i.toNat*d.sz+j)++seg++inner.drop (i.toNat*d.sz+j+seg.length)).drop (i.toNat*d.sz)).take d.sz=c.take j++seg++c.drop (j+seg.length):=by
     apply List.ext_getElem?
     intro q
     rw [List.getElem?_take,List.getElem?_drop,seg_get inner seg _ (by omega),seg_get c seg j (by omega) q]
     by_cases hq:q < d.sz
     ·rw [if_pos hq,hcin q hq]
      by_cases hq1:q < j
      ·rw [if_pos (by omega),if_pos hq1]
      ·rw [if_neg (by omega),if_neg hq1]
       by_cases hq2:q < j+seg.length
       ·rw [if_pos (by omega),if_pos hq2]
        congr 1
        omega
       ·rw [if_neg (by omega),if_neg hq2]
     ·rw [if_neg hq,if_neg (by omega),if_neg (by omega),List.getElem?_eq_none (by omega)]
    rw [hcells]
    refine d.M_mono (fun k hk=>?_) (d.M_move (w1:=W.setCells g (off*d.sz+i.toNat*d.sz+j) seg) (fun k hk=>hfar k (hokp k hk).2) hM)
    exact⟨(hokp k hk).1,fun he=>(hokp k hk).2 (by rw [← hgo] at he;injection he)⟩
   ·rw [List.getElem?_set_ne (by omega)] at hm
    have hold:=hr.2 m p hm
    have hcells:((inner.take (i.toNat*d.sz+j)++seg++inner.drop (i.toNat*d.sz+j+seg.length)).drop (m*d.sz)).take d.sz=(inner.drop (m*d.sz)).take d.sz:=by
     apply List.ext_getElem?
     intro q
     rw [List.getElem?_take,List.getElem?_take,List.getElem?_drop,List.getElem?_drop,seg_get inner seg _ (by omega)]
     by_cases hq:q < d.sz
     ·rw [if_pos hq,if_pos hq]
      rcases Nat.lt_or_gt_of_ne hmi with hlt | hgt
      ·have:m*d.sz+d.sz≤i.toNat*d.sz:=by rw [← Nat.succ_mul];exact Nat.mul_le_mul_right _ hlt
       rw [if_pos (by omega)]
      ·have:i.toNat*d.sz+d.sz≤m*d.sz:=by rw [← Nat.succ_mul];exact Nat.mul_le_mul_right _ hgt
       rw [if_neg (by omega),if_neg (by omega)]
     ·rw [if_neg hq,if_neg hq]
    rw [hcells]
    refine d.M_move (fun k hk=>hfar k (fun he=>hk.2 (by rw [he];exact hgo))) hold
end
section
variable {α:Type} {enc:α→Value} {h1: ∀x,(enc x).oneCell'=true} {e base g o n cap:Nat} {ok:Nat→Prop} {W:World} {xs:List α}
theorem Q_cell (d:α) (h:(scalar enc h1).Q e W base ok (.slice (some ⟨g,o,none⟩) n cap) xs) (i:Int) (h0:0≤i) (hi:i < n):W.cell? ⟨g,o+i.toNat,none⟩=some (enc (rdOf d xs i))∧W.frozen? ⟨g,o+i.toNat,none⟩=false:=by
 obtain⟨c,_,hM,hcc,hf⟩:=Q_elem h d i h0 hi
 have hM':c= [enc (xs.getD i.toNat d)]:=hM
 subst hM'
 have h2:=hcc 0 _ rfl
 have h3:=hf 0
 rw [show (scalar enc h1).sz=1 from rfl,Nat.mul_one,Nat.add_zero] at h2 h3
 exact⟨h2,h3⟩
theorem Q_putg (h:(scalar enc h1).Q e W base ok (.slice (some ⟨g,o,none⟩) n cap) xs) (i:Int) (h0:0≤i) (hi:i < n) (x:α):(scalar enc h1).Q e (W.setCell ⟨g,o+i.toNat,none⟩ (enc x)) base ok (.slice (some ⟨g,o,none⟩) n cap) (xs.set i.toNat x)∧W.grownBy (W.setCell ⟨g,o+i.toNat,none⟩ (enc x)) (some g):=by
 have hp:0 < xs.length:=by have:=(Q_reads' h).1;omega
 obtain⟨c,hcl,_,hcc,_⟩:=Q_elem h (xs[0]'hp) i h0 hi
 have h2:=Q_seg h i h0 hi (c:=c) (seg:= [enc x]) (j:=0) (okp:=fun _=>False) (x':=x) hcl hcc (Nat.le_refl 1) (by
  have hl:c.length=1:=hcl
  show c.take 0++ [enc x]++c.drop (0+1)= [enc x]
  rw [List.drop_eq_nil_of_le (by omega)]
  rfl) (fun _ hk=>hk.elim)
 rw [show (scalar enc h1).sz=1 from rfl,Nat.mul_one,Nat.add_zero] at h2
 exact h2
end
end Kd
end Go.Proofs.YtmcddlpgffbmpaaW.PrintWords
end
section
namespace Go.Proofs.YtmcddlpgffbmpaaW.PrintWords
open Go.RowKit
namespace Kd
def tag {α:Type} (f:Nat→Nat) (d:Kd α):Kd (α × Nat) where
 sz:=d.sz
 E:=d.E
 K:=fun w x cs=>d.K w x.1 cs
 M:=fun w base ok x cs=>d.M w base (fun k=>ok k∧f k=x.2) x.1 cs
 K_len:=fun h=>d.K_len h
 K_one:=fun h=>d.K_one h
 K_below:=fun hb h=>d.K_below hb h
 K_of_M:=fun h=>d.K_of_M h
 M_mono:=fun hok h=>d.M_mono (fun k hk=>⟨hok k hk.1,hk.2⟩) h
 M_bound:=fun h=>d.M_mono (fun _ hk=>⟨⟨hk.1.1,hk.2⟩,hk.1.2⟩) (d.M_bound h)
 M_move:=fun hm h=>d.M_move (fun k hk=>hm k hk.1) h
 M_lower:=fun hb h=>d.M_lower hb h
def bare {α:Type} (d:Kd α):Kd α where
 sz:=d.sz
 E:=d.E
 K:=d.K
 M:=fun w base _ x cs=>d.M w base (fun _=>False) x cs
 K_len:=fun h=>d.K_len h
 K_one:=fun h=>d.K_one h
 K_below:=fun hb h=>d.K_below hb h
 K_of_M:=fun h=>d.K_of_M h
 M_mono:=fun _ h=>h
 M_bound:=fun h=>h
 M_move:=fun _ h=>d.M_move (fun _ hk=>hk.elim) h
 M_lower:=fun hb h=>d.M_lower hb h
def raw (sz:Nat):Kd (List Value) where
 sz:=sz
 E:= []
 K:=fun _ x cs=>cs=x∧cs.length=sz∧ ∀u ∈ cs,u.oneCell'=true
 M:=fun _ _ _ x cs=>cs=x∧cs.length=sz∧ ∀u ∈ cs,u.oneCell'=true
 K_len:=fun h=>h.2.1
 K_one:=fun h=>h.2.2
 K_below:=fun _ h=>h
 K_of_M:=fun h=>h
 M_mono:=fun _ h=>h
 M_bound:=fun h=>h
 M_move:=fun _ h=>h
 M_lower:=fun _ h=>h
def S {α:Type} (d:Kd α) (e:Nat) (w:World) (base:Nat) (ok:Nat→Prop) (v:Value) (xs:List α):Prop:= ∃f,(tag f d).R e w base ok v xs.zipIdx
section
variable {α β:Type} {d:Kd α} {d':Kd β} {e e':Nat} {w w1 W:World} {base b:Nat} {ok ok' okv oku:Nat→Prop} {u v:Value} {xs:List α} {ys:List β}
theorem zip_at {xs:List α} {j:Nat} {p:α} (h:xs[j]?=some p):xs.zipIdx[j]?=some (p,j):=by rw [List.getElem?_zipIdx,h,Nat.zero_add];rfl
theorem S_R (h:S d e w base ok v xs):d.R e w base ok v xs:=by
 obtain⟨f,h0,inner,ho,hr⟩:=h
 rw [List.length_zipIdx] at ho
 exact⟨h0,inner,ho,by have:=hr.1;rw [List.length_zipIdx] at this;exact this,fun j p hj=>d.M_mono (fun _ hk=>hk.1) (hr.2 j (p,j) (zip_at hj))⟩
theorem R_tight (hE:d.E= []) (h:d.R e w base ok v xs):d.R e w base (fun k=>some k=v.ownBlock) v xs:=by
 obtain⟨h0,inner,ho,hr⟩:=h
 refine⟨fun k hk=>hk.symm,inner,ho,hr.imp_ (fun p c hp=>d.M_mono (fun k hk=>?_) (d.M_bound hp))⟩
 obtain⟨_,_,_,q,hq,_⟩:=hk
 rw [hE] at hq
 cases hq
theorem S_nil (d:Kd α) (e:Nat) (w:World) (base:Nat) (ok:Nat→Prop):S d e w base ok (.slice none 0 0) []:=⟨fun _=>0,R_nil _ _ _ _ _⟩
theorem S_mono (h:S d e w base ok v xs) (hok: ∀k,ok k→ok' k):S d e w base ok' v xs:=by
 obtain⟨f,h⟩:=h
 exact⟨f,R_mono h hok⟩
theorem S_bound (h:S d e w base ok v xs):S d e w base (fun k=>ok k∧base≤k∧k < w.heap.size∧ ∃q,q ∈ e::d.E∧ ∃cells,w.heap[k]?=some (.cells cells q (0,0))) v xs:=by
 obtain⟨f,h⟩:=h
 exact⟨f,R_bound h⟩
theorem S_move (h:S d e w base ok v xs) (hm: ∀k,ok k→w1.heap[k]?=w.heap[k]?):S d e w1 base ok v xs:=by
 obtain⟨f,h⟩:=h
 exact⟨f,R_move h hm⟩
theorem S_lower {base':Nat} (h:S d e w base ok v xs) (hb:base'≤base):S d e w base' ok v xs:=by
 obtain⟨f,h⟩:=h
 exact⟨f,R_lower h hb⟩
theorem S_step (h:S d e w base ok v xs) (hm: ∀k,ok k→k < w.heap.size→w1.heap[k]?=w.heap[k]?):S d e w1 base ok v xs:=
 S_mono (S_move (S_bound h) (fun k hk=>hm k hk.1 hk.2.2.1)) (fun _ hk=>hk.1)
theorem S_below (h:S d e w base ok v xs) (hb:Below w.heap.size w w1):S d e w1 base ok v xs:=S_step h (fun k _ hk=>hb.block k hk)
theorem S_alloc (h:S d e w base ok v xs) (o:Obj):S d e (w.alloc o) base ok v xs:=S_below h (below_alloc (Below.refl _ _) o)
theorem S_drew (h:S d e w base ok v xs):S d e w.drew base ok v xs:=S_below h (below_drew (Below.refl _ _))
theorem S_drewN (h:S d e w base ok v xs) (m:Nat):S d e (w.drewN m) base ok v xs:=S_below h (pw_below_drewN (Below.refl _ _) m)
theorem S_typed (h:S d e w base ok v xs): ∀k,v.ownBlock=some k→ ∃cells,w.heap[k]?=some (.cells cells e (0,0)):=R_typed (S_R h)
theorem S_elder' (h:S d e W base ok u xs) (hbase: ∀k,v.ownBlock=some k→W.heap.size≤k) (hb:Below W.heap.size W w1):S d e w1 base (fun k=>ok k∧some k≠v.ownBlock) u xs:=by
 obtain⟨f,h⟩:=h
 exact⟨f,R_elder' h hbase hb⟩
theorem S_new' (h:S d e w1 W.heap.size ok v xs) (hlt: ∀k,u.ownBlock=some k→k < W.heap.size):S d e w1 W.heap.size (fun k=>ok k∧some k≠u.ownBlock) v xs:=by
 obtain⟨f,h⟩:=h
 exact⟨f,R_new' h hlt⟩
theorem S_after {v1:Value} (h:S d e W base (fun k=>ok k∧some k≠v.ownBlock) u xs) (hg:W.grownBy w1 v.ownBlock) (hat:v1.ownBlock=v.ownBlock∨ ∃b,v1.ownBlock=some b∧W.heap.size≤b):S d e w1 base (fun k=>ok k∧some k≠v1.ownBlock) u xs:=by
 obtain⟨f,h⟩:=h
 exact⟨f,R_after h hg hat⟩
theorem S_bare (h:(bare d).R e w base ok v xs):S d e w base ok v xs:=by
 obtain⟨h0,inner,ho,hr⟩:=h
 refine⟨fun _=>0,h0,inner,by rw [List.length_zipIdx];exact ho,by rw [List.length_zipIdx];exact hr.1,fun j p hj=>?_⟩
 rw [List.getElem?_zipIdx,Nat.zero_add] at hj
 obtain⟨x,hx,rfl⟩:=Option.map_eq_some_iff.1 hj
 exact d.M_mono (fun _ hk=>hk.elim) (hr.2 j x hx)
theorem R_tag {f f':Nat→Nat} {zs:List (α × Nat)} (h:(tag f d).R e w base ok v zs) (hf: ∀k,ok k→k < w.heap.size→f' k=f k):(tag f' d).R e w base ok v zs:=by
 obtain⟨h0,inner,ho,hr⟩:=R_bound h
 exact⟨fun k hk=>(h0 k hk).1,inner,ho,hr.1,fun j p hj=>d.M_mono (fun k hk=>⟨⟨hk.1.1.1,hk.1.2⟩,(hf k hk.1.1.1 hk.1.1.2.2.1).trans hk.2⟩) (hr.2 j p hj)⟩
end
section
variable {α β:Type} {d:Kd α} {d':Kd β} {e e' g:Nat} {w w1 W:World} {base b:Nat} {ok ok' okv oku:Nat→Prop} {u v:Value} {xs:List α} {ys:List β}
theorem S_form (h:S d e w base ok v xs) (hp:0 < xs.length): ∃g cap,v= .slice (some ⟨g,0,none⟩) xs.length cap∧base≤g∧g < w.heap.size∧ ∃cells,w.heap[g]?=some (.cells cells e (0,0)):=R_form (S_R h) hp
theorem S_slice (h:S d e w base ok v xs): ∃A c,v= .slice A xs.length c:=R_slice (S_R h)
theorem S_reads' {A:Option Addr} {n c:Nat} (h:S d e w base ok (.slice A n c) xs):n=xs.length∧n≤c∧d.C w A xs.length xs:=R_reads' (S_R h)
theorem zip_snoc (xs:List α) (p:α):(xs++ [p]).zipIdx=xs.zipIdx++ [(p,xs.length)]:=by rw [List.zipIdx_append];simp
end
section
open Classical in
theorem S_tag {α:Type} {d:Kd α} {e base:Nat} {okv:Nat→Prop} {w:World} {v:Value} {xs:List α} (h:S d e w base okv v xs) (m:Nat) (okp:Nat→Prop) (hap: ∀k,okp k→ ¬ okv k): ∃f,(∀k,okp k→f k=m)∧(tag f d).R e w base okv v xs.zipIdx:=by
 obtain⟨f,h⟩:=h
 exact⟨fun k=>if okp k then m else f k,fun k hk=>if_pos hk,R_tag h (fun k hk _=>if_neg (fun h2=>hap k h2 hk))⟩
variable {P:Program} {ops:Array Oper} {rest:List Oper} {o:Oper} {a:Act} {Q:Exit→Act→World→Prop} {Kc:Act→World→Prop} {α:Type}
theorem S_append (d:Kd α) {w0 W:World} (base:Nat) (hgd:o.guard=none) (s x:Operand) (t e:TypeId) (z:Value) (bytes:Nat)
  (ho:o.op= .call { callee:= .builtin .append,args:= #[s,x],argTypes:= #[t,t]})
  (ht:P.underlying t=some (.slice e)) (hinfo:(P.info? e).map (fun i=>(i.zero,i.size,i.bytes))=some (some z,d.sz,bytes)) (hz:z.cells.size=d.sz) (hs0:0 < d.sz) (hb0:0 < bytes)
  (v:Value) (xs:List α) (p:α) (cs:List Value) (ok okp:Nat→Prop) (hs:a.eval s=v) (hx:a.eval x= .slice (some ⟨W.heap.size,0,none⟩) 1 1) (hp:d.M W base okp p cs) (hokp: ∀k,okp k→ok k∧some k≠v.ownBlock) (hfresh: ∀k,W.heap.size≤k→ok k)
  (HO:S d e W base (fun k=>ok k∧ ¬ okp k) v xs) (HB:Below base w0 W) (hbase:base≤W.heap.size) (hl:(xs.length+1)*bytes≤140737488355328)
  (h: ∀v1 w1,S d e w1 base ok v1 (xs++ [p])→Below base w0 w1→W.grownBy w1 v.ownBlock→(v1.ownBlock=v.ownBlock∨ ∃b,v1.ownBlock=some b∧W.heap.size≤b)→wpList P ops Q rest (a.put o.dst v1) w1):
  wpList P ops Q (o::rest) a (W.alloc (.cells cs.toArray e)):=by
 obtain⟨f,hf,hR⟩:=S_tag HO xs.length okp (fun _ hk h2=>h2.2 hk)
 refine R_append (tag f d) base hgd s x t e z bytes ho ht hinfo hz hs0 hb0 v xs.zipIdx (p,xs.length) cs ok okp hs hx (d.M_mono (fun k hk=>⟨hk,hf k hk⟩) hp) hokp hfresh (R_mono hR (fun _ hk=>hk.1)) HB hbase (by rw [List.length_zipIdx];exact hl) ?_
 intro v1 w1 hr
 rw [← zip_snoc] at hr
 exact h v1 w1 ⟨f,hr⟩
theorem S_lit (d:Kd α) {w0 W:World} (base e:Nat) (hgd:o.guard=none) {N:Tmp} (_hd:o.dst=some N) {xs:List α} {inner:List Value} {ok okp:Nat→Prop}
  (hrun:(execOp a.eval o).run P W= .ok (.value (.slice (some ⟨W.heap.size,0,none⟩) xs.length xs.length)) (W.alloc (.cells inner.toArray e)))
  (hrep:Reps (d.M W base (fun _=>False)) d.sz xs inner) (_hok: ∀k,okp k→ok k) (hfresh:ok W.heap.size) (HB:Below base w0 W) (hbase:base≤W.heap.size) (hm:xs.length≤9223372036854775807)
  (h: ∀v1 w1,S d e w1 base ok v1 xs→Below base w0 w1→W.grownBy w1 none→(∃b,v1.ownBlock=some b∧W.heap.size≤b)→wpList P ops Q rest (a.put o.dst v1) w1):wpList P ops Q (o::rest) a W:=
 R_lit (bare d) base e hgd _hd (ok:=ok) (okp:=ok) hrun hrep (fun _ hk=>hk) hfresh HB hbase hm (fun v1 w1 hr=>h v1 w1 (S_bare hr))
theorem S_make (d:Kd α) {w0 W:World} (base e:Nat) (hgd:o.guard=none) {N:Tmp} (hd:o.dst=some N) (t:TypeId) (x y:Operand) (ho:o.op= .makeSlice t x y) (n:Int) (hx:a.eval x= .int .i64 n) (hy:a.eval y= .int .i64 n)
  (ht:P.underlying t=some (.slice e)) (z:Value) (bytes:Nat) (hinfo:(P.info? e).map (fun i=>(i.zero,i.size,i.bytes))=some (some z,d.sz,bytes)) (hz:z.cells.size=d.sz) (hs0:0 < d.sz) (hb0:0 < bytes)
  (z0:α) {ok okp:Nat→Prop} (hzero:d.M W base (fun _=>False) z0 z.cells.toList) (_hok: ∀k,okp k→ok k) (hfresh:ok W.heap.size) (h0:0≤n) (hl:n.toNat*bytes≤281474976710656) (HB:Below base w0 W) (hbase:base≤W.heap.size)
  (h: ∀v1 w1,S d e w1 base ok v1 (List.replicate n.toNat z0)→Below base w0 w1→W.grownBy w1 none→(∃b,v1.ownBlock=some b∧W.heap.size≤b)→wpList P ops Q rest (a.put o.dst v1) w1):wpList P ops Q (o::rest) a W:=
 R_make (bare d) base e hgd hd t x y ho n hx hy ht z bytes hinfo hz hs0 hb0 z0 (ok:=ok) (okp:=ok) hzero (fun _ hk=>hk) hfresh h0 hl HB hbase (fun v1 w1 hr=>h v1 w1 (S_bare hr))
end
def gap {α:Type} (f:Nat→Nat) (d:Kd α) (i:Nat) (c:List Value):Kd (α × Nat) where
 sz:=d.sz
 E:=d.E
 K:=fun w x cs=>(x.2=i→cs=c∧cs.length=d.sz∧ ∀u ∈ cs,u.oneCell'=true)∧(x.2≠i→d.K w x.1 cs)
 M:=fun w base ok x cs=>(x.2=i→cs=c∧cs.length=d.sz∧ ∀u ∈ cs,u.oneCell'=true)∧(x.2≠i→d.M w base (fun k=>ok k∧f k=x.2) x.1 cs)
 K_len:=fun {w x cs} h=>by
  by_cases hx:x.2=i
  ·exact(h.1 hx).2.1
  ·exact d.K_len (h.2 hx)
 K_one:=fun {w x cs} h=>by
  by_cases hx:x.2=i
  ·exact(h.1 hx).2.2
  ·exact d.K_one (h.2 hx)
 K_below:=fun hb h=>⟨h.1,fun hx=>d.K_below hb (h.2 hx)⟩
 K_of_M:=fun h=>⟨h.1,fun hx=>d.K_of_M (h.2 hx)⟩
 M_mono:=fun hok h=>⟨h.1,fun hx=>d.M_mono (fun k hk=>⟨hok k hk.1,hk.2⟩) (h.2 hx)⟩
 M_bound:=fun h=>⟨h.1,fun hx=>d.M_mono (fun _ hk=>⟨⟨hk.1.1,hk.2⟩,hk.1.2⟩) (d.M_bound (h.2 hx))⟩
 M_move:=fun hm h=>⟨h.1,fun hx=>d.M_move (fun k hk=>hm k hk.1) (h.2 hx)⟩
 M_lower:=fun hb h=>⟨h.1,fun hx=>d.M_lower hb (h.2 hx)⟩
def H {α:Type} (d:Kd α) (e:Nat) (w:World) (base:Nat) (ok:Nat→Prop) (v:Value) (xs:List α) (i:Int) (oki:Nat→Prop) (c:List Value):Prop:=
 (∀k,oki k→ok k)∧ ∃f,(gap f d i.toNat c).R e w base (fun k=>ok k∧ ¬ oki k) v xs.zipIdx
section
variable {α β:Type} {d:Kd α} {e e' g n cap:Nat} {w w1 W:World} {base:Nat} {ok ok' oki okp:Nat→Prop} {u v:Value} {xs:List α} {i:Int} {c:List Value}
theorem S_lend (h:S d e W base ok (.slice (some ⟨g,0,none⟩) n cap) xs) (z:α) (i:Int) (h0:0≤i) (h1:i < n):
  ∃(oki:Nat→Prop) (c:List Value),c.length=d.sz∧d.M W base oki (xs.getD i.toNat z) c∧(∀j u,c[j]?=some u→W.cell? ⟨g,i.toNat*d.sz+j,none⟩=some u)∧(∀k,oki k→ok k∧k≠g)∧H d e W base ok (.slice (some ⟨g,0,none⟩) n cap) xs i oki c:=by
 obtain⟨f,hR⟩:=h
 have hn:=(R_reads' hR).1
 rw [List.length_zipIdx] at hn
 have hgo:some g=(Value.slice (some ⟨g,0,none⟩) n cap).ownBlock:=by simp [Value.ownBlock]
 obtain⟨hok0,inner,ho,hr⟩:=hR
 have hil:i.toNat < xs.length:=by omega
 have hlen:inner.length=xs.length*d.sz:=by have:=hr.1;rw [List.length_zipIdx] at this;exact this
 have hseg:i.toNat*d.sz+d.sz≤inner.length:=by rw [hlen, ← Nat.succ_mul];exact Nat.mul_le_mul_right _ hil
 have hM:=hr.2 i.toNat _ (zip_at (List.getElem?_eq_getElem hil))
 have hkg: ∀k,some k≠(Value.slice (some ⟨g,0,none⟩) n cap).ownBlock→k≠g:=fun k hk he=>hk (by rw [he];exact hgo)
 refine⟨fun k=>(ok k∧k≠g)∧f k=i.toNat,(inner.drop (i.toNat*d.sz)).take d.sz,by rw [List.length_take,List.length_drop];omega,?_,fun j u hu=>?_,fun k hk=>hk.1,fun k hk=>hk.1.1,f,fun k hk=>⟨hok0 k hk,fun h2=>h2.1.2 ?_⟩,inner,ho,hr.1,fun m p hm=>?_⟩
 ·rw [List.getD_eq_getElem?_getD,List.getElem?_eq_getElem hil]
  exact d.M_mono (fun k hk=>⟨⟨hk.1.1,hkg k hk.1.2⟩,hk.2⟩) hM
 ·rw [List.getElem?_take] at hu
  split at hu
  ·rw [List.getElem?_drop] at hu
   have:=ho.cells (g:=g) hgo.symm _ u hu
   rwa [add_plain] at this
  ·cases hu
 ·rw [← hgo] at hk;injection hk with hk;exact hk.symm
 ·have hold:=hr.2 m p hm
  have hp2:p.2=m:=by
   rw [List.getElem?_zipIdx,Nat.zero_add] at hm
   obtain⟨q,_,rfl⟩:=Option.map_eq_some_iff.1 hm
   rfl
  refine⟨fun hx=>?_,fun hx=>d.M_mono (fun k hk=>⟨⟨⟨hk.1.1,fun h2=>hx ?_⟩,hk.1.2⟩,hk.2⟩) hold⟩
  ·have hmi:m=i.toNat:=by omega
   subst hmi
   exact⟨rfl,d.K_len (d.K_of_M hM),d.K_one (d.K_of_M hM)⟩
  ·rw [← hk.2];exact h2.2
open Classical in
theorem H_back (h:H d e w base ok v xs i oki c) {x':α} (hM:d.M w base okp x' c) (hok: ∀k,okp k→oki k):S d e w base ok v (xs.set i.toNat x'):=by
 obtain⟨ho,f,h0,inner,hown,hr⟩:=h
 refine⟨fun k=>if oki k then i.toNat else f k,fun k hk=>(h0 k hk).1,inner,by rw [List.length_zipIdx,List.length_set];rw [List.length_zipIdx] at hown;exact hown,by have:=hr.1;rw [List.length_zipIdx] at this;rw [List.length_zipIdx,List.length_set];exact this,fun m p hm=>?_⟩
 rw [List.getElem?_zipIdx,Nat.zero_add] at hm
 obtain⟨q,hq,rfl⟩:=Option.map_eq_some_iff.1 hm
 have hml:m < xs.length:=by
  have:=(List.getElem?_eq_some_iff.1 hq).1
  rwa [List.length_set] at this
 by_cases hmi:m=i.toNat
 ·subst hmi
  rw [List.getElem?_set_self hml] at hq
  injection hq with hq
  subst hq
  have hc:=((hr.2 i.toNat _ (zip_at (List.getElem?_eq_getElem hml))).1 rfl).1
  show d.M w base _ x' ((inner.drop (i.toNat*d.sz)).take d.sz)
  rw [show (inner.drop (i.toNat*d.sz)).take d.sz=c from hc]
  exact d.M_mono (fun k hk=>⟨⟨ho k (hok k hk),fun he=>(h0 k he.symm).2 (hok k hk)⟩,if_pos (hok k hk)⟩) hM
 ·rw [List.getElem?_set_ne (Ne.symm hmi)] at hq
  exact d.M_mono (fun k hk=>⟨⟨hk.1.1.1,hk.1.2⟩,(if_neg hk.1.1.2).trans hk.2⟩) ((hr.2 m (q,m) (zip_at hq)).2 hmi)
theorem H_step (h:H d e w base ok v xs i oki c) (hm: ∀k,ok k→ ¬ oki k→k < w.heap.size→w1.heap[k]?=w.heap[k]?):H d e w1 base ok v xs i oki c:=by
 obtain⟨ho,f,h⟩:=h
 exact⟨ho,f,R_step h (fun k hk hlt=>hm k hk.1 hk.2 hlt)⟩
theorem H_more {okg:Nat→Prop} (h:H d e w base (fun k=>ok k∧ ¬ okg k) v xs i oki c) (hg: ∀k,okg k→ok k):H d e w base ok v xs i (fun k=>oki k∨okg k) c:=by
 obtain⟨ho,f,h⟩:=h
 exact⟨fun k hk=>hk.elim (fun h2=>(ho k h2).1) (hg k),f,R_mono h (fun k hk=>⟨hk.1.1,fun h2=>h2.elim hk.2 hk.1.2⟩)⟩
theorem S_elem (h:S d e W base ok (.slice (some ⟨g,0,none⟩) n cap) xs) (z:α) (i:Int) (h0:0≤i) (h1:i < n):
  ∃(oki:Nat→Prop) (c:List Value),c.length=d.sz∧d.M W base oki (xs.getD i.toNat z) c∧(∀j u,c[j]?=some u→W.cell? ⟨g,i.toNat*d.sz+j,none⟩=some u)∧(∀j,W.frozen? ⟨g,i.toNat*d.sz+j,none⟩=false)∧(∀k,oki k→ok k∧k≠g)∧H d e W base ok (.slice (some ⟨g,0,none⟩) n cap) xs i oki c:=by
 obtain⟨_,_,_,_,hfr⟩:=R_elem (S_R h) z i h0 h1
 obtain⟨oki,c,hcl,hM,hcc,hoki,hH⟩:=S_lend h z i h0 h1
 exact⟨oki,c,hcl,hM,hcc,hfr,hoki,hH⟩
theorem H_raw (h:H d e W base ok (.slice (some ⟨g,0,none⟩) n cap) xs i oki c) (h0:0≤i) (h1:i < n):
  ∃rows:List (List Value),rows.length=xs.length∧(raw d.sz).R e W base (fun _=>True) (.slice (some ⟨g,0,none⟩) n cap) rows∧c.length=d.sz∧(∀u ∈ c,u.oneCell'=true)∧(∀j u,c[j]?=some u→W.cell? ⟨g,i.toNat*d.sz+j,none⟩=some u)∧
   ∀w1 c',W.grownBy w1 (some g)→(raw d.sz).R e w1 base (fun _=>True) (.slice (some ⟨g,0,none⟩) n cap) (rows.set i.toNat c')→H d e w1 base ok (.slice (some ⟨g,0,none⟩) n cap) xs i oki c':=by
 obtain⟨hoo,f,hR⟩:=h
 have hn:=(R_reads' hR).1
 rw [List.length_zipIdx] at hn
 have hgo:some g=(Value.slice (some ⟨g,0,none⟩) n cap).ownBlock:=by simp [Value.ownBlock]
 obtain⟨hok0,inner,ho,hr⟩:=hR
 have hil:i.toNat < xs.length:=by omega
 have hlen:inner.length=xs.length*d.sz:=by have:=hr.1;rw [List.length_zipIdx] at this;exact this
 have hkg: ∀k,some k≠(Value.slice (some ⟨g,0,none⟩) n cap).ownBlock→k≠g:=fun k hk he=>hk (by rw [he];exact hgo)
 have hci:=(hr.2 i.toNat _ (zip_at (List.getElem?_eq_getElem hil))).1 rfl
 rw [hci.1] at hci
 have hc:=((hr.2 i.toNat _ (zip_at (List.getElem?_eq_getElem hil))).1 rfl).1
 refine⟨(List.range xs.length).map fun j=>(inner.drop (j*d.sz)).take d.sz,by rw [List.length_map,List.length_range],⟨fun _ _=>trivial,inner,?_,?_,fun j p hj=>?_⟩,hci.2.1,hci.2.2,fun j u hu=>?_,fun w1 c' hg hraw=>?_⟩
 ·rw [List.length_map,List.length_range];rw [List.length_zipIdx] at ho;exact ho
 ·rw [List.length_map,List.length_range];exact hlen
 ·rw [List.getElem?_map] at hj
  obtain⟨j',hj',rfl⟩:=Option.map_eq_some_iff.1 hj
  obtain⟨hl,he⟩:=List.getElem?_eq_some_iff.1 hj'
  rw [List.getElem_range] at he
  subst he
  rw [List.length_range] at hl
  have hm:=(gap f d i.toNat c).K_of_M (hr.2 j _ (zip_at (List.getElem?_eq_getElem hl)))
  exact⟨rfl,(gap f d i.toNat c).K_len hm,(gap f d i.toNat c).K_one hm⟩
 ·rw [← hc,List.getElem?_take] at hu
  split at hu
  ·rw [List.getElem?_drop] at hu
   have:=ho.cells (g:=g) hgo.symm _ u hu
   rwa [add_plain] at this
  ·cases hu
 ·obtain⟨_,inner',ho',hr'⟩:=hraw
  have hl':inner'.length=xs.length*d.sz:=by have:=hr'.1;rw [List.length_set,List.length_map,List.length_range] at this;exact this
  rw [List.length_set,List.length_map,List.length_range] at ho'
  refine⟨hoo,f,hok0,inner',by rw [List.length_zipIdx];exact ho',by rw [List.length_zipIdx];exact hl',fun m p hm=>?_⟩
  rw [List.getElem?_zipIdx,Nat.zero_add] at hm
  obtain⟨q,hq,rfl⟩:=Option.map_eq_some_iff.1 hm
  have hml:m < xs.length:=(List.getElem?_eq_some_iff.1 hq).1
  have hold:=hr.2 m (q,m) (zip_at hq)
  refine⟨fun hx=>?_,fun hx=>?_⟩
  ·have hx':m=i.toNat:=hx
   subst hx'
   exact hr'.2 i.toNat c' (List.getElem?_set_self (by rw [List.length_map,List.length_range];exact hml))
  ·have hx':m≠i.toNat:=hx
   have hcm:=(hr'.2 m ((inner.drop (m*d.sz)).take d.sz) (by
    rw [List.getElem?_set_ne (Ne.symm hx'),List.getElem?_map,List.getElem?_eq_getElem (by rw [List.length_range];exact hml),List.getElem_range]
    rfl)).1
   show d.M w1 base _ q ((inner'.drop (m*d.sz)).take d.sz)
   rw [show (inner'.drop (m*d.sz)).take d.sz=_ from hcm]
   exact d.M_mono (fun k hk=>hk.1) (d.M_move (w1:=w1) (fun k hk=>hg.block k hk.2.2.1 (fun he=>hkg k hk.1.1.2 (by injection he))) (d.M_bound (hold.2 hx)))
theorem H_seg (h:H d e W base ok (.slice (some ⟨g,0,none⟩) n cap) xs i oki c) (h0:0≤i) (h1:i < n) {seg:List Value} {j:Nat} (hj:j+seg.length≤d.sz) (hone: ∀q ∈ seg,q.oneCell'=true):
  H d e (W.setCells g (i.toNat*d.sz+j) seg) base ok (.slice (some ⟨g,0,none⟩) n cap) xs i oki (c.take j++seg++c.drop (j+seg.length))∧W.grownBy (W.setCells g (i.toNat*d.sz+j) seg) (some g):=by
 obtain⟨rows,_,hraw,hcl,hco,hcc,hback⟩:=H_raw h h0 h1
 obtain⟨h2,h3⟩:=R_seg hraw i h0 h1 (c:=c) (seg:=seg) (j:=j) (x':=c.take j++seg++c.drop (j+seg.length)) (okp:=fun _=>False) hcl hcc hj
  ⟨rfl,by
   show (c.take j++seg++c.drop (j+seg.length)).length=d.sz
   simp only [List.length_append,List.length_take,List.length_drop];omega,fun u hu=>by
   rcases List.mem_append.1 hu with hu | hu
   ·rcases List.mem_append.1 hu with hu | hu
    ·exact hco u (List.mem_of_mem_take hu)
    ·exact hone u hu
   ·exact hco u (List.mem_of_mem_drop hu)⟩ (fun _ hk=>hk.elim)
 exact⟨hback _ _ h3 h2,h3⟩
theorem S_seg {okg:Nat→Prop} (hH:H d e W base (fun k=>ok k∧ ¬ okg k) (.slice (some ⟨g,0,none⟩) n cap) xs i oki c) (h0:0≤i) (h1:i < n) {seg:List Value} {j:Nat} (hj:j+seg.length≤d.sz)
  {x':α} (hM:d.M W base okp x' (c.take j++seg++c.drop (j+seg.length))) (hokp: ∀k,okp k→oki k∨okg k) (hg: ∀k,okg k→ok k∧k≠g):
  S d e (W.setCells g (i.toNat*d.sz+j) seg) base ok (.slice (some ⟨g,0,none⟩) n cap) (xs.set i.toNat x')∧W.grownBy (W.setCells g (i.toNat*d.sz+j) seg) (some g):=by
 have hne: ∀k,oki k∨okg k→k≠g:=by
  intro k hk he
  subst he
  rcases hk with hk | hk
  ·obtain⟨_,f,hR⟩:=hH
   exact(hR.1 k (by simp [Value.ownBlock])).2 hk
  ·exact(hg k hk).2 rfl
 obtain⟨h2,h3⟩:=H_seg (H_more hH (fun k hk=>(hg k hk).1)) h0 h1 hj (fun q hq=>d.K_one (d.K_of_M hM) q (List.mem_append_left _ (List.mem_append_right _ hq)))
 exact⟨H_back h2 (M_step hM (fun k hk hlt=>h3.block k hlt (fun he=>hne k (hokp k hk) (by injection he)))) hokp,h3⟩
end
section
variable {P:Program} {ops:Array Oper} {rest:List Oper} {o:Oper} {a:Act} {Q:Exit→Act→World→Prop} {α:Type}
end
end Kd
end Go.Proofs.YtmcddlpgffbmpaaW.PrintWords
end
section
namespace Go.Proofs.YtmcddlpgffbmpaaW.PrintWords
open Go.RowKit
namespace Kd
section
variable {α:Type} {n:Nat} {d:Kd α} {hs:0 < d.sz} {w:World} {base:Nat} {ok:Nat→Prop} {xs:List α} {cs:List Value}
end
section
variable {α:Type} {n:Nat} {enc:α→Value} {h1: ∀x,(enc x).oneCell'=true} {hs:0 < (scalar enc h1).sz} {w:World} {base:Nat} {ok:Nat→Prop} {xs:List α} {cs:List Value}
end
end Kd
end Go.Proofs.YtmcddlpgffbmpaaW.PrintWords
end
section
namespace Go.Proofs.YtmcddlpgffbmpaaW.PrintWords
open Go.RowKit
section
variable {P:Program}
end
namespace Kd
section
variable {P:Program} {ops:Array Oper} {rest:List Oper} {o:Oper} {a:Act} {Q:Exit→Act→World→Prop} {Kc:Act→World→Prop} {α:Type}
end
section
variable {α:Type} {d:Kd α} {e:Nat} {w:World} {base:Nat} {ok:Nat→Prop} {v:Value} {xs:List α}
end
section
variable {P:Program} {ops:Array Oper} {rest:List Oper} {o:Oper} {a:Act} {Q:Exit→Act→World→Prop} {Kc:Act→World→Prop} {α:Type}
end
end Kd
end Go.Proofs.YtmcddlpgffbmpaaW.PrintWords
end
section
namespace Go.Proofs.YtmcddlpgffbmpaaW.PrintWords
open Go.RowKit
namespace Kd
structure Heap {α:Type} (d:Kd α):Prop where
 K: ∀ {w w1:World} {x:α} {cs:List Value},(∀k,k < w.heap.size→w1.heap[k]?=w.heap[k]?)→d.K w x cs→d.K w1 x cs
theorem cell_heap {w w1:World} (hb: ∀k,k < w.heap.size→w1.heap[k]?=w.heap[k]?) {a:Addr} {v:Value} (h:w.cell? a=some v):w1.cell? a=some v:=by
 have:=hb a.block (World.block_lt_of_cell? w a h)
 simpa [World.cell?,this] using h
theorem Heap.C {α:Type} {d:Kd α} (hd:Heap d) {w w1:World} {A:Option Addr} {n:Nat} {xs:List α} (hb: ∀k,k < w.heap.size→w1.heap[k]?=w.heap[k]?) (h:d.C w A n xs):d.C w1 A n xs:=
 ⟨h.1,h.2.1,fun hn=>by
  obtain⟨ad,e,hc⟩:=h.2.2 hn
  refine⟨ad,e,fun j p hj=>?_⟩
  obtain⟨c,hs,hr,hcell⟩:=hc j p hj
  exact⟨c,hs,hd.K hb hr,fun i u hu=>cell_heap hb (hcell i u hu)⟩⟩
section
variable {α:Type} {d:Kd α} {e base g n c:Nat} {ok:Nat→Prop} {w w0 W:World} {A:Option Addr} {xs:List α}
end
end Kd
end Go.Proofs.YtmcddlpgffbmpaaW.PrintWords
end
section
namespace Go.Proofs.YtmcddlpgffbmpaaW.PrintWords
open Go.RowKit
def Kept (w W:World) (S:Nat→Prop):Prop:=w.heap.size≤W.heap.size∧ ∀i,i < w.heap.size→ ¬ S i→W.heap[i]?=w.heap[i]?
section
variable {w W W2:World} {S S2 S':Nat→Prop}
theorem Kept.refl (w:World) (S:Nat→Prop):Kept w w S:=⟨Nat.le_refl _,fun _ _ _=>rfl⟩
theorem Kept.of_below (h:Below w.heap.size w W) (S:Nat→Prop):Kept w W S:=⟨h.size,fun i hi _=>h.block i hi⟩
theorem Kept.mono (h:Kept w W S) (hs: ∀k,S k→S' k):Kept w W S':=⟨h.1,fun i hi hn=>h.2 i hi (fun hk=>hn (hs i hk))⟩
theorem Kept.then_ (h:Kept w W S) (k:Kept W W2 S2) (hs: ∀k,S2 k→S k∨w.heap.size≤k):Kept w W2 S:=
 ⟨Nat.le_trans h.1 k.1,fun i hi hn=>(k.2 i (Nat.lt_of_lt_of_le hi h.1) (fun h2=>(hs i h2).elim hn (fun h3=>by omega))).trans (h.2 i hi hn)⟩
theorem Kept.of_grown {row:Option Nat} (hg:W.grownBy W2 row) (h:Kept w W S) (hr: ∀k,row=some k→S k∨w.heap.size≤k):Kept w W2 S:=
 h.then_ (S2:=fun k=>row=some k) ⟨hg.size,fun i hi hn=>hg.block i hi (fun he=>hn he.symm)⟩ hr
theorem Kept.below (h:Kept w W S) (hb:Below W.heap.size W W2):Kept w W2 S:=h.then_ (Kept.of_below hb (fun _=>False)) (fun _ hk=>hk.elim)
theorem Kept.alloc (h:Kept w W S) (o:Obj):Kept w (W.alloc o) S:=h.below (below_alloc (Below.refl _ _) o)
theorem Kept.drew (h:Kept w W S):Kept w W.drew S:=h
theorem Kept.drewN (h:Kept w W S) (m:Nat):Kept w (W.drewN m) S:=h
theorem Kept.setCell (h:Kept w W S) {p:Addr} (hp:S p.block∨w.heap.size≤p.block) (u:Value):Kept w (W.setCell p u) S:=
 h.then_ (S2:=fun k=>k=p.block) ⟨by simp [World.setCell],fun i _ hn=>Below.heap_setCell W p u i hn⟩ (fun k hk=>by rw [hk];exact hp)
end
namespace Kd
section
variable {α:Type} {d:Kd α} {e base n c:Nat} {ok oki S S2:Nat→Prop} {w w0 W W1 W2:World} {v:Value} {A:Option Addr} {xs:List α} {i:Int} {cs:List Value}
end
end Kd
end Go.Proofs.YtmcddlpgffbmpaaW.PrintWords
end
section
namespace Go.Proofs.YtmcddlpgffbmpaaW.PrintWords
open Go.RowKit
def Foot (P:World→Prop) (W:World) (ok:Nat→Prop):Prop:= ∀W':World,(∀k,ok k→k < W.heap.size→W'.heap[k]?=W.heap[k]?)→P W'
theorem heap_lt {W W1:World} {k:Nat} (h:W1.heap[k]?=W.heap[k]?) (hlt:k < W.heap.size):k < W1.heap.size:=by
 rw [Array.getElem?_eq_getElem hlt] at h
 exact(Array.getElem?_eq_some_iff.1 h).1
namespace Foot
variable {P Q:World→Prop} {W W1:World} {ok ok':Nat→Prop}
theorem now (h:Foot P W ok):P W:=h W (fun _ _ _=>rfl)
theorem mono (h:Foot P W ok) (hok: ∀k,ok k→ok' k):Foot P W ok':=fun W' hW=>h W' (fun k hk hlt=>hW k (hok k hk) hlt)
theorem bound (h:Foot P W ok):Foot P W (fun k=>ok k∧k < W.heap.size):=fun W' hW=>h W' (fun k hk hlt=>hW k ⟨hk,hlt⟩ hlt)
theorem step (h:Foot P W ok) (hm: ∀k,ok k→k < W.heap.size→W1.heap[k]?=W.heap[k]?):Foot P W1 ok:=fun W' hW=>h W' (fun k hk hlt=>(hW k hk (heap_lt (hm k hk hlt) hlt)).trans (hm k hk hlt))
theorem imp (h:Foot P W ok) (hi: ∀W',P W'→Q W'):Foot Q W ok:=fun W' hW=>hi W' (h W' hW)
theorem old (h:Foot P W ok) (hb:Below W.heap.size W W1):Foot P W1 (fun k=>ok k∧k < W.heap.size):=(h.bound).step (fun k _ hlt=>hb.block k hlt)
end Foot
namespace Kd
def F {α:Type} (d:Kd α) (W:World) (ok:Nat→Prop) (A:Option Addr) (n:Nat) (xs:List α):Prop:=Foot (fun W=>d.C W A n xs) W ok
def FK {α:Type} (d:Kd α) (W:World) (ok:Nat→Prop) (x:α) (c:List Value):Prop:=Foot (fun W=>d.K W x c) W ok
section
variable {α β:Type} {d:Kd α} {e base n n' cc g N:Nat} {ok ok' okp S:Nat→Prop} {w w0 w1 W W1:World} {A A':Option Addr} {u v v1:Value} {xs:List α} {xs':List β} {d':Kd β} {x:α} {c:List Value}
theorem F_nil (d:Kd α) (W:World) (ok:Nat→Prop):F d W ok none ([]:List α).length []:=fun W' _=>C_nil d W'
theorem FK_of_M (h:d.M W base ok x c):FK d W ok x c:=fun _ hW=>d.K_of_M (M_step h hW)
end
end Kd
end Go.Proofs.YtmcddlpgffbmpaaW.PrintWords
end
section
namespace Go.Proofs.YtmcddlpgffbmpaaW.PrintWords
open Go.RowKit
namespace Kd
def chunks (sz:Nat) (n:Nat) (inner:List Value):List (List Value):=(List.range n).map fun j=>(inner.drop (j*sz)).take sz
theorem chunks_length (sz n:Nat) (inner:List Value):(chunks sz n inner).length=n:=by simp [chunks]
theorem chunks_at {sz n:Nat} {inner:List Value} {j:Nat} (hj:j < n):(chunks sz n inner)[j]?=some ((inner.drop (j*sz)).take sz):=by simp [chunks,hj]
theorem chunks_get {sz n:Nat} {inner:List Value} {j:Nat} {c:List Value} (h:(chunks sz n inner)[j]?=some c):c=(inner.drop (j*sz)).take sz:=by
 have hj:j < n:=by have:=(List.getElem?_eq_some_iff.1 h).1;rwa [chunks_length] at this
 rw [chunks_at hj] at h
 injection h with h
 exact h.symm
theorem reps_raw {α:Type} {Rr:α→List Value→Prop} {sz:Nat} {xs:List α} {inner:List Value} (h:Reps Rr sz xs inner) (hR: ∀x c,Rr x c→c.length=sz∧ ∀u ∈ c,u.oneCell'=true):Reps (fun x cs=>cs=x∧cs.length=sz∧ ∀u ∈ cs,u.oneCell'=true) sz (chunks sz xs.length inner) inner:=by
 refine⟨by rw [chunks_length];exact h.1,fun j p hj=>?_⟩
 have hjl:j < xs.length:=by have:=(List.getElem?_eq_some_iff.1 hj).1;rwa [chunks_length] at this
 have hp:=chunks_get hj
 exact⟨hp.symm,hR _ _ (h.2 j _ (List.getElem?_eq_getElem hjl))⟩
section
variable {α:Type} {d:Kd α} {e base n cc g:Nat} {ok ok' okp S:Nat→Prop} {w w1 W W1:World} {A:Option Addr} {u v v1:Value} {xs:List α} {x:α} {c:List Value}
def N {α:Type} (d:Kd α) (e:Nat) (w:World) (base:Nat) (ok:Nat→Prop) (v:Value) (xs:List α):Prop:=
 (∀k,v.ownBlock=some k→ok k)∧ ∃rows:List (List Value),rows.length=xs.length∧(raw d.sz).R e w base (fun k=>some k=v.ownBlock) v rows∧ ∀(j:Nat) (x:α) (c:List Value),xs[j]?=some x→rows[j]?=some c→FK d w (fun k=>ok k∧some k≠v.ownBlock) x c
theorem R_N (h:d.R e w base ok v xs):N d e w base ok v xs:=by
 obtain⟨h0,inner,ho,hr⟩:=h
 refine⟨h0,chunks d.sz xs.length inner,chunks_length _ _ _,⟨fun k hk=>hk.symm,inner,by rw [chunks_length];exact ho,reps_raw hr (fun x c hp=>⟨d.K_len (d.K_of_M hp),d.K_one (d.K_of_M hp)⟩)⟩,fun j x c hx hc=>?_⟩
 rw [chunks_get hc]
 exact FK_of_M (hr.2 j x hx)
theorem N_nil (d:Kd α) (e:Nat) (w:World) (base:Nat) (ok:Nat→Prop):N d e w base ok (.slice none 0 0) []:=R_N (R_nil _ _ _ _ _)
end
end Kd
end Go.Proofs.YtmcddlpgffbmpaaW.PrintWords
end
section
namespace Go.Proofs.YtmcddlpgffbmpaaW.PrintWords
open Go.RowKit
namespace Kd
section
variable {α:Type} {d:Kd α} {e base n cap g:Nat} {ok ok' okp:Nat→Prop} {w w1 W:World} {v v1:Value} {xs ys:List α}
end
section
variable {P:Program} {ops:Array Oper} {rest:List Oper} {o:Oper} {a:Act} {Q:Exit→Act→World→Prop} {Kc:Act→World→Prop} {α:Type}
end
end Kd
end Go.Proofs.YtmcddlpgffbmpaaW.PrintWords
end
section
namespace Go.Proofs.YtmcddlpgffbmpaaW.PrintMore
open Go.RowKit Go.Proofs.YtmcddlpgffbmpaaW.PrintWords
namespace Kd
open Go.Proofs.YtmcddlpgffbmpaaW.PrintWords.Kd
end Kd
namespace Kd
open Go.Proofs.YtmcddlpgffbmpaaW.PrintWords.Kd
section
variable {α:Type} {d:Kd α} {e base g N:Nat} {ok:Nat→Prop} {W w1:World} {u v:Value} {xs:List α}
end
end Kd
theorem max2_int (k k':IntKind) (x y:Int):Builtin.max2 (.int k x) (.int k' y)=pure (.int k (if x < y then y else x)):=by simp only [Builtin.max2,gt_iff_lt]
theorem min2_int (k k':IntKind) (x y:Int):Builtin.min2 (.int k x) (.int k' y)=pure (.int k (if y < x then y else x)):=by simp only [Builtin.min2]
theorem max_two (ats:Array TypeId) (ty:TypeId) (a b:Value):Builtin.max_ ats ty #[a,b]=(Builtin.max2 a b >>=fun s=>pure s):=by simp only [Builtin.max_,List.foldlM_cons,List.foldlM_nil]
theorem min_two (ats:Array TypeId) (ty:TypeId) (a b:Value):Builtin.min_ ats ty #[a,b]=(Builtin.min2 a b >>=fun s=>pure s):=by simp only [Builtin.min_,List.foldlM_cons,List.foldlM_nil]
theorem max_three (ats:Array TypeId) (ty:TypeId) (a b c:Value):Builtin.max_ ats ty #[a,b,c]=(Builtin.max2 a b >>=fun s=>Builtin.max2 s c >>=fun s=>pure s):=by simp only [Builtin.max_,List.foldlM_cons,List.foldlM_nil]
theorem min_three (ats:Array TypeId) (ty:TypeId) (a b c:Value):Builtin.min_ ats ty #[a,b,c]=(Builtin.min2 a b >>=fun s=>Builtin.min2 s c >>=fun s=>pure s):=by simp only [Builtin.min_,List.foldlM_cons,List.foldlM_nil]
theorem max_four (ats:Array TypeId) (ty:TypeId) (a b c d:Value):Builtin.max_ ats ty #[a,b,c,d]=(Builtin.max2 a b >>=fun s=>Builtin.max2 s c >>=fun s=>Builtin.max2 s d >>=fun s=>pure s):=by simp only [Builtin.max_,List.foldlM_cons,List.foldlM_nil]
theorem min_four (ats:Array TypeId) (ty:TypeId) (a b c d:Value):Builtin.min_ ats ty #[a,b,c,d]=(Builtin.min2 a b >>=fun s=>Builtin.min2 s c >>=fun s=>Builtin.min2 s d >>=fun s=>pure s):=by simp only [Builtin.min_,List.foldlM_cons,List.foldlM_nil]
end Go.Proofs.YtmcddlpgffbmpaaW.PrintMore
namespace Go.Proofs.YtmcddlpgffbmpaaW.PrintWords
open Go.RowKit
section
variable {P:Program} {ops:Array Oper} {rest:List Oper} {o:Oper} {a:Act} {Q:Exit→Act→World→Prop} {W:World}
theorem gate_callee {f:FuncId} {as_:Array Operand} {ts:Array TypeId} (_ho:o.op= .call { callee:= .value (.func f),args:=as_,argTypes:=ts}) (h:wpList P ops Q (o::rest) a W):wpList P ops Q (o::rest) a W:=h
theorem gate_builtin {b:Builtin} {xs:Array Operand} {ts:Array TypeId} (_ho:o.op= .call { callee:= .builtin b,args:=xs,argTypes:=ts}) (h:wpList P ops Q (o::rest) a W):wpList P ops Q (o::rest) a W:=h
end
namespace Kd
section
variable {α:Type} {d:Kd α} {e base:Nat} {ok:Nat→Prop} {W w1:World} {v:Value} {xs:List α}
end
section
variable {α:Type} {d:Kd α} {e base g n cap:Nat} {ok oki okp:Nat→Prop} {W:World} {xs:List α} {i:Int} {c:List Value}
end
section
variable {α:Type} {d:Kd α} {e base b b' g N:Nat} {ok ok1:Nat→Prop} {W W2 w1:World} {u v:Value} {xs ys:List α} {S:Nat→Prop}
theorem R_tight2 (hE:d.E= []) (h:d.R e W base ok v xs):d.R e W base (fun k=>some k=v.ownBlock∧ok k) v xs:=R_mono (R_tight hE h) (fun k hk=>⟨hk,h.1 k hk.symm⟩)
end
end Kd
end Go.Proofs.YtmcddlpgffbmpaaW.PrintWords
namespace Go.Proofs.YtmcddlpgffbmpaaW.PrintWords
open Go.RowKit
namespace Kd
def V {α:Type} (d:Kd α) (_e:Nat) (W:World) (_base:Nat) (ok:Nat→Prop) (v:Value) (xs:List α):Prop:= ∃A c,v= .slice A xs.length c∧xs.length≤c∧F d W ok A xs.length xs
section
variable {α β:Type} {d:Kd α} {e base base' n m c g N' lo hi:Nat} {ok ok' S:Nat→Prop} {w W w1:World} {A:Option Addr} {ad:Addr} {u v v1:Value} {xs:List α}
theorem V_nil (d:Kd α) (e:Nat) (W:World) (base:Nat) (ok:Nat→Prop):V d e W base ok (.slice none 0 0) []:=⟨none,0,rfl,Nat.le_refl _,F_nil d W ok⟩
end
end Kd
end Go.Proofs.YtmcddlpgffbmpaaW.PrintWords
end
section
namespace Go.Proofs.YtmcddlpgffbmpaaW.PrintLast
open Go.Proofs.YtmcddlpgffbmpaaW.PrintWords (Aside0)
def needsOf (md:Region.Mode) (o:Oper):List Nat:=(o.after.toList.filter (fun e=>Region.binds md e)).map (fun e=>e.on)
def clashOf (md:Region.Mode) (ops:Array Oper) (i:Nat) (oi:Oper):List Nat:=(List.range ops.size).filter fun j=>!(j==i) && match ops[j]? with
 | some oj=>!(oj.after.any (fun e=>Region.binds md e && e.on==i) || oi.apart ops oj)
 | none=>false
def rtab (md:Region.Mode) (ops:Array Oper):Bool × List (List Nat × List Nat):=(Region.noSelect ops,(List.range ops.size).map fun i=>match ops[i]? with
 | some o=>(needsOf md o,clashOf md ops i o)
 | none=>([], []))
def readyAt (T:List (List Nat × List Nat)) (l:List Bool) (i:Nat):Bool:=!l.getD i true && match T[i]? with
 | some r=>r.1.all (fun j=>l.getD j false)
 | none=>false
def readyT (T:List (List Nat × List Nat)) (l:List Bool):List Nat:=(List.range T.length).filter (readyAt T l)
def freeT (T:List (List Nat × List Nat)) (l:List Bool) (i:Nat):Bool:=match T[i]? with
 | some r=>r.2.all (fun j=>l.getD j true)
 | none=>false
def closedT (T:List (List Nat × List Nat)) (l:List Bool):Bool:=(List.range T.length).all fun j=>!l.getD j false || match T[j]? with
 | some r=>r.1.all (fun k=>l.getD k false)
 | none=>true
def reachT (T:List (List Nat × List Nat)) (i:Nat):Nat→Nat→Bool
 | 0,_=>false
 | fuel+1,d=>match T[d]? with
  | some r=>r.1.any fun j=>j==i || reachT T i fuel j
  | none=>false
def lastT (T:List (List Nat × List Nat)) (l:List Bool) (ds:List Nat) (i:Nat):Bool:=ds.all fun d=>l.getD d true || reachT T i T.length d
section
variable {md:Region.Mode} {ops:Array Oper} {T:Bool × List (List Nat × List Nat)} {l l' li lj lk:Array Bool} {ds:List Nat} {i j k:Nat}
theorem gd (l:Array Bool) (j:Nat) (b:Bool):l.getD j b=l.toList.getD j b:=by simp [Array.getD_eq_getD_getElem?,List.getD_eq_getElem?_getD]
theorem needs_all (o:Oper) (p:Nat→Bool):o.after.all (fun e=>!Region.binds md e || p e.on)=(needsOf md o).all p:=by
 unfold needsOf
 rw [← Array.all_toList]
 induction o.after.toList with
 | nil=>rfl
 | cons e r ih=>
  rw [List.all_cons,ih,List.filter_cons]
  cases h:Region.binds md e <;> simp
theorem needs_any (o:Oper) (p:Nat→Bool):o.after.any (fun e=>Region.binds md e && p e.on)=(needsOf md o).any p:=by
 unfold needsOf
 rw [← Array.any_toList]
 induction o.after.toList with
 | nil=>rfl
 | cons e r ih=>
  rw [List.any_cons,ih,List.filter_cons]
  cases h:Region.binds md e <;> simp
theorem rtab_length:(rtab md ops).2.length=ops.size:=by simp [rtab]
theorem rtab_some {o:Oper} (h:ops[i]?=some o):(rtab md ops).2[i]?=some (needsOf md o,clashOf md ops i o):=by
 have hi:=(Array.getElem?_eq_some_iff.1 h).1
 unfold rtab
 rw [List.getElem?_map,List.getElem?_range hi,Option.map_some,h]
theorem rtab_none (h:ops[i]?=none):(rtab md ops).2[i]?=none:=by
 have hi:ops.size≤i:=Array.getElem?_eq_none_iff.1 h
 exact List.getElem?_eq_none (by rw [rtab_length];exact hi)
theorem readyAt_eq:readyAt (rtab md ops).2 l.toList i=(!l.getD i true && ((ops[i]?).map (·.after.all fun e=>!Region.binds md e || l.getD e.on false)).getD false):=by
  unfold readyAt
  rw [gd]
  cases h:ops[i]? with
  | none=>rw [rtab_none h];rfl
  | some o=>
    rw [rtab_some h]
    simp only [Option.map_some,Option.getD_some]
    rw [← needs_all]
    simp only [gd]
theorem ready_eq:Region.ready md ops l=readyT (rtab md ops).2 l.toList:=by
 unfold Region.ready readyT
 rw [rtab_length]
 refine List.filter_congr (fun i _=>?_)
 rw [readyAt_eq]
theorem free_eq:Region.free md ops l i=freeT (rtab md ops).2 l.toList i:=by
 unfold Region.free freeT
 cases h:ops[i]? with
 | none=>rw [rtab_none h]
 | some oi=>
  rw [rtab_some h]
  simp only [clashOf]
  rw [List.all_filter]
  congr 1
  funext j
  rw [gd]
  cases hj:ops[j]? with
  | none=>cases (j==i) <;> cases (l.toList.getD j true) <;> simp
  | some oj=>
   cases (j==i) <;> cases (l.toList.getD j true) <;> cases (oj.after.any (fun e=>Region.binds md e && e.on==i) || oi.apart ops oj) <;> simp_all
theorem closed_eq:Region.closedB md ops l=closedT (rtab md ops).2 l.toList:=by
 unfold Region.closedB closedT
 rw [rtab_length]
 congr 1
 funext j
 rw [gd]
 cases h:ops[j]? with
 | none=>rw [rtab_none h]
 | some o=>
  rw [rtab_some h]
  simp only
  rw [← needs_all]
  simp only [gd]
theorem reach_eq: ∀(fuel d:Nat),Region.reachB md ops i fuel d=reachT (rtab md ops).2 i fuel d
 | 0,_=>rfl
 | fuel+1,d=>by
  unfold Region.reachB reachT
  cases h:ops[d]? with
  | none=>rw [rtab_none h]
  | some o=>
   rw [rtab_some h]
   simp only
   rw [← needs_any]
   congr 1
   funext e
   rw [reach_eq fuel]
theorem last_eq:Region.lastB md ops l ds i=lastT (rtab md ops).2 l.toList ds i:=by
 unfold Region.lastB lastT
 rw [rtab_length]
 congr 1
 funext d
 rw [gd,reach_eq]
theorem readyAt_mem (h:readyAt T.2 l.toList i=true) (hT:rtab md ops=T):(Region.ready md ops l).contains i=true:=by
 subst hT
 rw [ready_eq]
 unfold readyT
 rw [List.contains_iff_mem,List.mem_filter,List.mem_range]
 refine⟨?_,h⟩
 unfold readyAt at h
 rw [Bool.and_eq_true] at h
 cases hq:(rtab md ops).2[i]? with
 | none=>rw [hq] at h;simp at h
 | some r=>exact(List.getElem?_eq_some_iff.1 hq).1
theorem set_of (h:(l.toList.set i true==l'.toList)=true):(l.setIfInBounds i true==l')=true:=by
 rw [beq_iff_eq] at h ⊢
 apply Array.ext'
 rw [Array.toList_setIfInBounds]
 exact h
def anyT (T:Bool × List (List Nat × List Nat)) (l l':List Bool) (i:Nat):Bool:=T.1 && freeT T.2 l i && readyAt T.2 l i && (l.set i true==l')
theorem any_of (hT:rtab md ops=T) (h:anyT T l.toList l'.toList i=true):anyB md ops l l' i=true:=by
 simp only [anyT,Bool.and_eq_true] at h
 obtain⟨⟨⟨h1,h2⟩,h3⟩,h4⟩:=h
 have h5:=readyAt_mem h3 hT
 have h6:=set_of h4
 subst hT
 simp only [anyB,Bool.and_eq_true]
 exact⟨⟨⟨h1,by rw [free_eq];exact h2⟩,h5⟩,h6⟩
def takeT (T:Bool × List (List Nat × List Nat)) (ds:List Nat) (l l':List Bool) (i:Nat):Bool:=T.1 && freeT T.2 l i && readyAt T.2 l i && closedT T.2 l && lastT T.2 l ds i && (l.set i true==l')
theorem take_of (hT:rtab md ops=T) (h:takeT T ds l.toList l'.toList i=true):takeB md ops ds l l' i=true:=by
 simp only [takeT,Bool.and_eq_true] at h
 obtain⟨⟨⟨⟨⟨h1,h2⟩,h3⟩,h4⟩,h5⟩,h6⟩:=h
 have h7:=readyAt_mem h3 hT
 have h8:=set_of h6
 subst hT
 simp only [takeB,Bool.and_eq_true]
 exact⟨⟨⟨⟨⟨h1,by rw [free_eq];exact h2⟩,h7⟩,by rw [closed_eq];exact h4⟩,by rw [last_eq];exact h5⟩,h8⟩
theorem one_of (hT:rtab md ops=T) (h:(readyT T.2 l.toList== [i] && l.toList.set i true==l'.toList)=true):readyB md ops l l' i=true:=by
 simp only [Bool.and_eq_true] at h
 obtain⟨h1,h2⟩:=h
 subst hT
 simp only [readyB,Bool.and_eq_true]
 exact⟨by rw [ready_eq];exact h1,set_of h2⟩
def upM (B:List Nat) (d:Nat):List Nat→Nat
 | []=>0
 | n::r=>(2 ^ n ||| (if n < d then B.getD n 0 else 0)) ||| upM B d r
def waitsOk (T:List (List Nat × List Nat)) (B:List Nat):Bool:=(List.range T.length).all fun d=>match T[d]? with
 | some r=>(B.getD d 0 ||| upM B d r.1)==upM B d r.1
 | none=>false
theorem upM_bit {B:List Nat} {d i:Nat}: ∀ {ns:List Nat},(upM B d ns).testBit i=true→ ∃n ∈ ns,n=i∨(n < d∧(B.getD n 0).testBit i=true)
 | [],h=>by simp [upM] at h
 | n::r,h=>by
  unfold upM at h
  rw [Nat.testBit_or,Nat.testBit_or,Bool.or_eq_true,Bool.or_eq_true] at h
  rcases h with (h | h) | h
  ·rw [Nat.testBit_two_pow] at h
   exact⟨n,List.mem_cons_self, .inl (by simpa using h)⟩
  ·by_cases hn:n < d
   ·rw [if_pos hn] at h
    exact⟨n,List.mem_cons_self, .inr ⟨hn,h⟩⟩
   ·rw [if_neg hn] at h
    simp at h
  ·obtain⟨m,hm,h2⟩:=upM_bit h
   exact⟨m,List.mem_cons_of_mem _ hm,h2⟩
theorem reach_bit {T:List (List Nat × List Nat)} {B:List Nat} (hB:waitsOk T B=true): ∀(fuel d:Nat),d < fuel→d < T.length→(B.getD d 0).testBit i=true→reachT T i fuel d=true
 | 0,d,h,_,_=>by omega
 | fuel+1,d,h,hd,hb=>by
  have h1:=List.all_eq_true.1 hB d (List.mem_range.2 hd)
  cases hr:T[d]? with
  | none=>rw [hr] at h1;simp at h1
  | some r=>
   rw [hr] at h1
   simp only [beq_iff_eq] at h1
   have h2:(upM B d r.1).testBit i=true:=by rw [← h1,Nat.testBit_or,hb,Bool.true_or]
   obtain⟨n,hn,h3⟩:=upM_bit h2
   unfold reachT
   rw [hr]
   simp only
   rw [List.any_eq_true]
   refine⟨n,hn,?_⟩
   rcases h3 with rfl | ⟨h4,h5⟩
   ·simp
   ·rw [reach_bit hB fuel n (by omega) (by omega) h5,Bool.or_true]
def lastW (T:List (List Nat × List Nat)) (B:List Nat) (l:List Bool) (ds:List Nat) (i:Nat):Bool:=ds.all fun d=>l.getD d true || (decide (d < T.length) && (B.getD d 0).testBit i)
def takeW (T:Bool × List (List Nat × List Nat)) (B:List Nat) (ds:List Nat) (l l':List Bool) (i:Nat):Bool:=T.1 && freeT T.2 l i && readyAt T.2 l i && closedT T.2 l && lastW T.2 B l ds i && (l.set i true==l')
theorem take_ofW {B:List Nat} (hT:rtab md ops=T) (hB:waitsOk T.2 B=true) (h:takeW T B ds l.toList l'.toList i=true):takeB md ops ds l l' i=true:=by
 refine take_of hT ?_
 simp only [takeW,takeT,Bool.and_eq_true] at h ⊢
 obtain⟨⟨⟨⟨⟨h1,h2⟩,h3⟩,h4⟩,h5⟩,h6⟩:=h
 refine⟨⟨⟨⟨⟨h1,h2⟩,h3⟩,h4⟩,?_⟩,h6⟩
 unfold lastW at h5
 unfold lastT
 rw [List.all_eq_true] at h5 ⊢
 intro d hd
 have h7:=h5 d hd
 rw [Bool.or_eq_true,Bool.and_eq_true,decide_eq_true_eq] at h7
 rcases h7 with h7 | ⟨h8,h9⟩
 ·rw [h7,Bool.true_or]
 ·rw [reach_bit hB _ d h8 h8 h9,Bool.or_true]
end
end Go.Proofs.YtmcddlpgffbmpaaW.PrintLast
end
section
namespace Go.Proofs.YtmcddlpgffbmpaaW.PrintMore
open Go.RowKit Go.Proofs.YtmcddlpgffbmpaaW.PrintWords Go.Proofs.YtmcddlpgffbmpaaW.PrintLast
theorem hb_ {B:Nat} {w W:World} (h:Below B w W:=by repeat (first | (with_reducible first | exact HB.out | apply below_alloc | apply pw_below_drewN | apply below_drew1 | refine below_set ?_ (Aside0.out (by assumption))) | exact HB.out)):Below B w W:=h
theorem bs_ {w0 w w':World} (hb:Below w.heap.size w w') (h:Below w0.heap.size w0 w:=by repeat (first | (with_reducible first | exact HB.out | apply below_alloc | apply pw_below_drewN | apply below_drew1 | refine below_set ?_ (Aside0.out (by assumption))) | exact HB.out)):Below w0.heap.size w0 w':=below_step h hb
theorem bz_ {w0 w:World} (h:Below w0.heap.size w0 w:=by repeat (first | (with_reducible first | exact HB.out | apply below_alloc | apply pw_below_drewN | apply below_drew1 | refine below_set ?_ (Aside0.out (by assumption))) | exact HB.out)):w0.heap.size≤w.heap.size:=below_size h
theorem bk_ {g:Nat} {o:Obj} {W:World} (h:W.heap[g]?=some o:=by(with_reducible repeat (first | refine blk_drewN ?_ _ | refine blk_drew ?_ | refine blk_alloc ?_ _));exact Aside0.out (by assumption)):W.heap[g]?=some o:=h
theorem bb_ {g:Nat} {o:Obj} {w w' W:World} (h0:W.heap[g]?=some o) (hb:Below w.heap.size w w') (h:w.heap[g]?=some o:=by(with_reducible repeat (first | refine blk_drewN ?_ _ | refine blk_drew ?_ | refine blk_alloc ?_ _));exact Aside0.out (by assumption)):w'.heap[g]?=some o:=blk_below h hb
theorem bg_ {g:Nat} {o:Obj} {w w' W:World} {row:Option Nat} (h0:W.heap[g]?=some o) (hg:w.grownBy w' row) (hn:some g≠row) (h:w.heap[g]?=some o:=by(with_reducible repeat (first | refine blk_drewN ?_ _ | refine blk_drew ?_ | refine blk_alloc ?_ _));exact Aside0.out (by assumption)):w'.heap[g]?=some o:=blk_grown h hg hn
theorem lt_ {g:Nat} {o:Obj} {w W:World} (h0:W.heap[g]?=some o) (h:w.heap[g]?=some o:=by(with_reducible repeat (first | refine blk_drewN ?_ _ | refine blk_drew ?_ | refine blk_alloc ?_ _));exact Aside0.out (by assumption)):g≠w.heap.size:=Nat.ne_of_lt (blk_lt h)
theorem gt_ {g:Nat} {o:Obj} {w W:World} (h0:W.heap[g]?=some o) (h:w.heap[g]?=some o:=by(with_reducible repeat (first | refine blk_drewN ?_ _ | refine blk_drew ?_ | refine blk_alloc ?_ _));exact Aside0.out (by assumption)):w.heap.size≠g:=Nat.ne_of_gt (blk_lt h)
section
variable {α:Type} {d:Kd α} {e base:Nat} {ok:Nat→Prop} {v:Value} {xs:List α} {w w' W:World}
theorem ro_ (h0:d.R e W base ok v xs) (h:d.R e w base ok v xs:=by(with_reducible repeat (first | apply Kd.R_alloc | apply Kd.R_drewN | apply Kd.R_drew));exact Aside0.out (by assumption)):d.R e w base ok v xs:=h
theorem rb_ (h0:d.R e W base ok v xs) (hb:Below w.heap.size w w') (h:d.R e w base ok v xs:=by(with_reducible repeat (first | apply Kd.R_alloc | apply Kd.R_drewN | apply Kd.R_drew));exact Aside0.out (by assumption)):d.R e w' base ok v xs:=Kd.R_below h hb
theorem so_ (h0:d.S e W base ok v xs) (h:d.S e w base ok v xs:=by(with_reducible repeat (first | apply Kd.S_alloc | apply Kd.S_drewN | apply Kd.S_drew));exact Aside0.out (by assumption)):d.S e w base ok v xs:=h
theorem cb_ {A:Option Addr} {n:Nat} (h0:d.C W A n xs) (hb:Below W.heap.size W w') (h:d.C w A n xs:=by repeat (first | exact(Kd.C_below (Aside0.out (by assumption)) HB.out) | (with_reducible refine Kd.C_alloc ?_ _) | (with_reducible refine Kd.C_drewN ?_ _) | (with_reducible refine Kd.C_drew ?_))):d.C w A n xs:=h
end
section
variable {P:Program} {ops:Array Oper} {Q:Exit→Act→World→Prop} {md:Region.Mode} {S:World→Prop} {ds:List Nat}
def fm (n m:Nat):Array Bool:=((List.range n).map m.testBit).toArray
theorem st_ {id n:Nat} {a:Act} {w:World} (hS:S w.drew) (h:S w.drew→wpAnyLast P .any ops Q S ds n (fm n 0) a w.drew) (hn:ops.size=n:=by rfl) (hm:P.follows .mixedOrders=true:=by kernel_rfl):(Code.region id ops true).wp P Q a w:=
 start_ (fm n 0) hm hn (by unfold fm;apply Array.ext <;> simp) hS h
theorem pu_ {n m:Nat} (i:Nat) (N:Tmp) {oi:Oper} {v:Value} {fuel:Nat} {a a':Act} {w:World} (h:wpAnyLast P md ops Q S ds fuel (fm n (m ||| 2 ^ i)) a' w)
  (hi:ops[i]?=some oi:=by rfl) (hN:oi.dst=some N:=by rfl) (hc:anyB md ops (fm n m) (fm n (m ||| 2 ^ i)) i=true:=by first | exact any_of HT_.out (by kernel_rfl) | kernel_rfl) (hQ: ∀c a w,Q (.panic c) (a.put oi.dst v) w→Q (.panic c) a w:=by exact fun _ _ _ h=>h)
  (hy:Yields P ops oi v a:=by(refine Or.inl ⟨by rfl,?_⟩;intro w';go_simp;with_reducible rfl)) (ha:a.put (some N) v=a':=by(simp only [Act.put,List.setIfInBounds_toArray,List.set_cons_zero,List.set_cons_succ,i64_w,i32_w];rfl)):wpAnyLast P md ops Q S ds (fuel+1) (fm n m) a w:=
 pure_ _ hi hN hc hQ hy ha h
theorem tk_ {n m:Nat} (i:Nat) (N:Tmp) {oi:Oper} {v:Value} {fuel:Nat} {a a':Act} {w:World} (h:wpAnyLast P md ops Q S ds fuel (fm n (m ||| 2 ^ i)) a' w)
  (hi:ops[i]?=some oi:=by rfl) (hN:oi.dst=some N:=by rfl) (hc:takeB md ops ds (fm n m) (fm n (m ||| 2 ^ i)) i=true:=by first | exact take_ofW HT_.out HW_.out (by kernel_rfl) | exact take_of HT_.out (by kernel_rfl) | kernel_rfl) (hQ: ∀c a w,Q (.panic c) (a.put oi.dst v) w→Q (.panic c) a w:=by exact fun _ _ _ h=>h)
  (hy:YieldsIf P ops S oi v a:=by(refine Or.inl ⟨by rfl,?_⟩;intro w' hs_;go_simp;with_reducible rfl)) (hS:S w:=by exact hHeld) (ha:a.put (some N) v=a':=by(simp only [Act.put,List.setIfInBounds_toArray,List.set_cons_zero,List.set_cons_succ,i64_w,i32_w];rfl)):wpAnyLast P md ops Q S ds (fuel+1) (fm n m) a w:=
 take_ _ hi hN hc hQ hy hS ha h
theorem on_ {n m:Nat} (i:Nat) (N:Option Tmp) {oi:Oper} {fuel:Nat} {a:Act} {w:World}
  (h: ∀K:Act→World→Prop,Shut (∀a' w',S w'→(S w'→wpAnyLast P md ops Q S ds fuel (fm n (m ||| 2 ^ i)) a' w')→K a' w')→if Region.wanted oi (yielded ops a.tmps)=true then Oper.wp P oi a w K Q else K (a.put N undef) w)
  (hi:ops[i]?=some oi:=by rfl) (hN:oi.dst=N:=by rfl) (hc:readyB md ops (fm n m) (fm n (m ||| 2 ^ i)) i=true:=by first | exact one_of HT_.out (by kernel_rfl) | kernel_rfl) (hd:i ∉ ds:=by decide):wpAnyLast P md ops Q S ds (fuel+1) (fm n m) a w:=
 one_ _ hi hN hc hd h
theorem no_ {fuel:Nat} {l:Array Bool} {a a':Act} {w:World} (h:wpAnyLast P md ops Q S ds fuel l a' w) (ha:a=a':=by(show Act.put _ _ _=_;simp only [Act.put,List.setIfInBounds_toArray,List.set_cons_zero,List.set_cons_succ,i64_w,i32_w];rfl)):wpAnyLast P md ops Q S ds fuel l a w:=norm_ ha h
end
theorem cz_ {g t:Nat} {cells:Array Value} {w:World} (h:Aside0 (w.heap[g]?=some (.cells cells t (0,0)))) (i:Nat) {v:Value} (hv:cells[i]?=some v:=by first | ((simp only [List.getElem?_toArray,List.getElem?_cons_succ,List.getElem?_cons_zero]);rfl) | rfl):w.cell? ⟨g,i,none⟩=some v:=(blk_cell h.out i).trans hv
end Go.Proofs.YtmcddlpgffbmpaaW.PrintMore
end
section
namespace Go.Proofs.YtmcddlpgffbmpaaW.PrintMore
open Go.RowKit Go.Proofs.YtmcddlpgffbmpaaW.PrintWords Go.Proofs.YtmcddlpgffbmpaaW.PrintLast
set_option linter.unusedVariables false
theorem od_ {p:Prop} {i_:Decidable p} (h:decide p=true:=by first | (with_reducible assumption) | assumption):p:=of_decide_eq_true h
theorem rs_ {α:Sort _} {a b:α} (h:a=b:=by first | rfl | (simp;done) | (simp [*];done)):a=b:=h
theorem gL_ {P:Program} {ops:Array Oper} {Q:Exit→Act→World→Prop} {rest:List Oper} {oi:Oper} {a:Act} {w:World} (N:Tmp) {f:FuncId} {fn:Func} {ar:Array Operand} {ts:Array TypeId} (hf:P.funcs[f]?=some fn) (args:Array Value) (h:Calls P f args w fun e w'=> ∃v,e= .returned v∧wpList P ops Q rest (a.put (some N) v) w')
  (hd:oi.dst=some N:=by rfl) (hg:oi.guard=none:=by rfl) (hname:(fn.name== "runtime.NumGoroutine")=false:=by kernel_rfl) (hb:fn.body.isSome=true:=by rfl) (hop:oi.op= .call { callee:= .value (.func f),args:=ar,argTypes:=ts}:=by rfl)
  (hargs:ar.map a.eval=args:=by(try simp only [List.map_toArray,List.map_cons,List.map_nil]);first | done | rfl | (simp only [List.length_drop,List.length_take];rfl)):wpList P ops Q (oi::rest) a w:=goesL_ (some N) hd hg hf hname hb args hop hargs h
end Go.Proofs.YtmcddlpgffbmpaaW.PrintMore
end
section
namespace Go.Proofs.YtmcddlpgffbmpaaW.PrintLast
section
variable {P:Program} {ops:Array Oper} {Q:Exit→Act→World→Prop} {md:Region.Mode} {S:World→Prop} {ds:List Nat} {T:Bool × List (List Nat × List Nat)}
end
end Go.Proofs.YtmcddlpgffbmpaaW.PrintLast
end
section
namespace Go.Proofs.YtmcddlpgffbmpaaW.PrintWords
open Go.RowKit
namespace Kd
section
variable {α:Type} {d:Kd α} {W:World} {g n:Nat} {S ok:Nat→Prop} {A:Option Addr} {ad:Addr} {xs:List α}
end
end Kd
end Go.Proofs.YtmcddlpgffbmpaaW.PrintWords
end
section
namespace Go.Proofs.YtmcddlpgffbmpaaW.PrintWords
open Go.RowKit
section
variable {w w' u:World} {m B g:Nat} {o:Obj} {row:Option Nat} {S:Nat→Prop} {a:Addr} {v:Value}
end
namespace Kd
section
variable {α:Type} {d:Kd α} {e base n m:Nat} {ok:Nat→Prop} {w w':World} {v:Value} {A:Option Addr} {xs:List α}
end
end Kd
end Go.Proofs.YtmcddlpgffbmpaaW.PrintWords
end
section
namespace Go.Proofs.YtmcddlpgffbmpaaW.PrintWords
open Go.RowKit
section
variable {P:Program} {d:Nat} {xs ys:Array Value} {f:Field} {fs:List Field} {a b:Value} {r s:Bool} {w:World}
end
end Go.Proofs.YtmcddlpgffbmpaaW.PrintWords
end
section
namespace Go.Proofs.YtmcddlpgffbmpaaW.PrintWords
theorem Reps.one {α:Type} {R:α→List Value→Prop} {ps:List α} {cs:List Value} {p:α} {v:Value} (hp:R p [v]) (h:Reps R 1 ps cs):Reps R 1 (p::ps) (v::cs):=by
 refine⟨by simp [h.1],fun j q hq=>?_⟩
 cases j with
 | zero=>
  simp only [List.getElem?_cons_zero,Option.some.injEq] at hq
  subst hq
  simpa using hp
 | succ j=>
  simp only [List.getElem?_cons_succ] at hq
  have h1:=h.2 j q hq
  simpa [Nat.mul_one] using h1
theorem Reps.front {α:Type} {R:α→List Value→Prop} {size:Nat} {ps:List α} {cs c all:List Value} {p:α} (hp:R p c) (hc:c.length=size) (h:Reps R size ps cs) (ha:c++cs=all):Reps R size (p::ps) all:=by
 subst ha
 refine⟨by rw [List.length_append,hc,h.1,List.length_cons,Nat.succ_mul,Nat.add_comm],fun j q hq=>?_⟩
 cases j with
 | zero=>
  simp only [List.getElem?_cons_zero,Option.some.injEq] at hq
  subst hq
  rw [Nat.zero_mul,List.drop_zero,List.take_append_of_le_length (by omega),List.take_of_length_le (by omega)]
  exact hp
 | succ j=>
  simp only [List.getElem?_cons_succ] at hq
  have h1:=h.2 j q hq
  rw [Nat.succ_mul,List.drop_append,List.drop_of_length_le (by rw [hc];exact Nat.le_add_left _ _),List.nil_append,hc,Nat.add_sub_cancel]
  exact h1
theorem Reps.c2 {α:Type} {R:α→List Value→Prop} {ps:List α} {cs:List Value} {p:α} {va vb:Value} (hp:R p [va,vb]) (h:Reps R 2 ps cs):Reps R 2 (p::ps) (va::vb::cs):=Reps.front hp rfl h rfl
theorem Reps.c3 {α:Type} {R:α→List Value→Prop} {ps:List α} {cs:List Value} {p:α} {va vb vc:Value} (hp:R p [va,vb,vc]) (h:Reps R 3 ps cs):Reps R 3 (p::ps) (va::vb::vc::cs):=Reps.front hp rfl h rfl
theorem Reps.c4 {α:Type} {R:α→List Value→Prop} {ps:List α} {cs:List Value} {p:α} {va vb vc vd:Value} (hp:R p [va,vb,vc,vd]) (h:Reps R 4 ps cs):Reps R 4 (p::ps) (va::vb::vc::vd::cs):=Reps.front hp rfl h rfl
theorem Reps.c5 {α:Type} {R:α→List Value→Prop} {ps:List α} {cs:List Value} {p:α} {va vb vc vd ve:Value} (hp:R p [va,vb,vc,vd,ve]) (h:Reps R 5 ps cs):Reps R 5 (p::ps) (va::vb::vc::vd::ve::cs):=Reps.front hp rfl h rfl
theorem Reps.c6 {α:Type} {R:α→List Value→Prop} {ps:List α} {cs:List Value} {p:α} {va vb vc vd ve vf:Value} (hp:R p [va,vb,vc,vd,ve,vf]) (h:Reps R 6 ps cs):Reps R 6 (p::ps) (va::vb::vc::vd::ve::vf::cs):=Reps.front hp rfl h rfl
theorem Reps.c7 {α:Type} {R:α→List Value→Prop} {ps:List α} {cs:List Value} {p:α} {va vb vc vd ve vf vg:Value} (hp:R p [va,vb,vc,vd,ve,vf,vg]) (h:Reps R 7 ps cs):Reps R 7 (p::ps) (va::vb::vc::vd::ve::vf::vg::cs):=Reps.front hp rfl h rfl
theorem Reps.c8 {α:Type} {R:α→List Value→Prop} {ps:List α} {cs:List Value} {p:α} {va vb vc vd ve vf vg vh:Value} (hp:R p [va,vb,vc,vd,ve,vf,vg,vh]) (h:Reps R 8 ps cs):Reps R 8 (p::ps) (va::vb::vc::vd::ve::vf::vg::vh::cs):=Reps.front hp rfl h rfl
theorem Reps.c9 {α:Type} {R:α→List Value→Prop} {ps:List α} {cs:List Value} {p:α} {va vb vc vd ve vf vg vh vi:Value} (hp:R p [va,vb,vc,vd,ve,vf,vg,vh,vi]) (h:Reps R 9 ps cs):Reps R 9 (p::ps) (va::vb::vc::vd::ve::vf::vg::vh::vi::cs):=Reps.front hp rfl h rfl
theorem Reps.c10 {α:Type} {R:α→List Value→Prop} {ps:List α} {cs:List Value} {p:α} {va vb vc vd ve vf vg vh vi vj:Value} (hp:R p [va,vb,vc,vd,ve,vf,vg,vh,vi,vj]) (h:Reps R 10 ps cs):Reps R 10 (p::ps) (va::vb::vc::vd::ve::vf::vg::vh::vi::vj::cs):=Reps.front hp rfl h rfl
end Go.Proofs.YtmcddlpgffbmpaaW.PrintWords
end
section
namespace Go.Proofs.YtmcddlpgffbmpaaW.PrintLast
def up (b:Nat→Bool) (i:Nat):Nat→Bool:=fun j=>if j=i then true else b j
section
variable {P:Program} {ops:Array Oper} {Q:Exit→Act→World→Prop} {md:Region.Mode} {T:Bool × List (List Nat × List Nat)} {B:List Nat} {O:List Nat} {b:Nat→Bool} {i j n:Nat}
end
end Go.Proofs.YtmcddlpgffbmpaaW.PrintLast
end
section
namespace Go.Proofs.YtmcddlpgffbmpaaW.PrintWords
open Go.RowKit
end Go.Proofs.YtmcddlpgffbmpaaW.PrintWords
namespace Go.Proofs.YtmcddlpgffbmpaaW.PrintLast
section
variable {ops:Array Oper} {a:Act} {o og:Oper} {g:Nat} {t:Tmp} {u:Bool}
end
end Go.Proofs.YtmcddlpgffbmpaaW.PrintLast
end
section
namespace Go.Proofs.YtmcddlpgffbmpaaW.PrintWords
open Go.RowKit
section
variable {P:Program} {ops:Array Oper} {rest:List Oper} {o:Oper} {a:Act} {Q:Exit→Act→World→Prop} {W:World}
theorem gate_guard (hw:Region.wanted o (yielded ops a.tmps)=true) (h:wpList P ops Q ({ o with guard:=none}::rest) a W):wpList P ops Q (o::rest) a W:=by
 have h1:Region.wanted { o with guard:=none} (yielded ops a.tmps)=true:=rfl
 unfold wpList at h ⊢
 rw [if_pos h1] at h
 rw [if_pos hw]
 exact h
end
end Go.Proofs.YtmcddlpgffbmpaaW.PrintWords
end
section
namespace Go.Proofs.Ytmcddlpgffbmpaa.Pr
open Go.RowKit Go.Proofs.YtmcddlpgffbmpaaW.PrintWords Go.Proofs.YtmcddlpgffbmpaaW.PrintLast Go.Proofs.YtmcddlpgffbmpaaW.PrintMore
attribute [local go_sem] max2_int min2_int max_two min_two max_three min_three max_four min_four
def errW:Option Int→Value
 | none=> .nilIface
 | some c=> .iface 0 (.int .i64 c)
theorem errW_none:errW none= .nilIface:=rfl
theorem errW_some (c:Int):errW (some c)= .iface 0 (.int .i64 c):=rfl
theorem info2:(Try.prog.info? 2).map (fun i=>(i.zero,i.size,i.bytes))=some (some (.int .i64 0),1,8):=by kernel_rfl
theorem info29:(Try.prog.info? 29).map (fun i=>(i.zero,i.size,i.bytes))=some (some (.slice none 0 0),1,24):=by kernel_rfl
def rd_L1 (xs:List (List Int)) (i:Int):(List Int):=xs.getD i.toNat ([]:List Int)
theorem at_L1 {w:World} {A:Option Addr} {n:Nat} {xs:List (List Int)} (h:Kd.C (Kd.slice 2 (Kd.int .i64)) w A n xs) (i:Int) (h0:0≤i) (h1:i < n): ∃ad A0 c0,A=some ad∧w.cell? (ad.add i.toNat)=some (.slice A0 (rd_L1 xs i).length c0)∧(rd_L1 xs i).length≤c0∧(Kd.int .i64).C w A0 (rd_L1 xs i).length (rd_L1 xs i):=by
 obtain⟨ad,c,e,_,hK,hc0⟩:=Kd.C_get h ([]:List Int) i h0 h1
 have hc: ∀j u,c[j]?=some u→w.cell? (ad.add (i.toNat*1+j))=some u:=hc0
 obtain⟨A0,c0,rfl,l0,g0⟩:=hK
 exact⟨ad,A0,c0,e,by have hq:=hc 0 _ rfl;rwa [Nat.mul_one,Nat.add_zero] at hq,l0,g0⟩
structure S32 where
 f0:(List (List Int))
 f1:(List (List Int))
end Go.Proofs.Ytmcddlpgffbmpaa.Pr
end
section
namespace Go.Proofs.Ytmcddlpgffbmpaa.Pr
open Go.RowKit Go.Proofs.YtmcddlpgffbmpaaW.PrintWords Go.Proofs.YtmcddlpgffbmpaaW.PrintLast Go.Proofs.YtmcddlpgffbmpaaW.PrintMore
def idxP {α:Type} (p:α→Bool):List α→Int→Int
 | [],_=> -1
 | x::l,i=>if p x then i else idxP p l (i+1)
theorem idxP_nonneg {α:Type} (p:α→Bool) (l:List α) (i:Int) (h:0≤i):decide (0≤idxP p l i)=l.any p:=by
 induction l generalizing i with
 | nil=>simp [idxP]
 | cons x l ih=>
  rw [idxP,List.any_cons]
  cases hx:p x
  ·rw [if_neg (by simp),ih (i+1) (by omega)];simp
  ·rw [if_pos rfl];simp [h]
theorem idxP_from {α:Type} (p:α→Bool) (l:List α) (j:Nat) (hj:j≤l.length) (h: ∀i (hi:i < l.length),i < j→p l[i]=false) (a:Int):idxP p l a=idxP p (l.drop j) (a+j):=by
 induction j generalizing l a with
 | zero=>simp
 | succ j ih=>
  cases l with
  | nil=>simp at hj
  | cons x l=>
   have h0:=h 0 (by simp) (by omega)
   simp at h0
   rw [idxP,if_neg (by simp [h0]),List.drop_succ_cons,ih l (by simpa using hj) (fun i hi hij=>by have:=h (i+1) (by simpa using hi) (by omega);simpa using this)]
   congr 1
   omega
theorem idxP_hit {α:Type} (p:α→Bool) (l:List α) (j:Nat) (hj:j < l.length) (h: ∀i (hi:i < l.length),i < j→p l[i]=false) (hp:p l[j]=true):idxP p l 0=j:=by
 rw [idxP_from p l j (by omega) h 0,List.drop_eq_getElem_cons hj,idxP,if_pos hp]
 omega
theorem idxP_miss {α:Type} (p:α→Bool) (l:List α) (h: ∀i (hi:i < l.length),p l[i]=false):idxP p l 0= -1:=by
 rw [idxP_from p l l.length (Nat.le_refl _) (fun i hi _=>h i hi) 0,List.drop_length,idxP]
theorem enters_fn {P:Program} {f:FuncId} {fn:Func} {c:Code} (hf:P.funcs[f]?=some fn) (hname:(fn.name== "runtime.NumGoroutine")=false) (hb:fn.body=some c): ∀args w,(callFunc f args).run P w= .ok (.enter f args) w:=by
 intro args w
 have h1:fn.name≠ "runtime.NumGoroutine" :=by simpa using hname
 simp [callFunc,hf,h1,hb,mark]
end Go.Proofs.Ytmcddlpgffbmpaa.Pr
end
section
namespace Go.Proofs.Ytmcddlpgffbmpaa.Ma
open Go.RowKit Go.Proofs.YtmcddlpgffbmpaaW.PrintWords Go.Proofs.YtmcddlpgffbmpaaW.PrintMore
theorem evc {α:Type} {g:Option α} {r:α} (h:g=some r):Ev (fun _=>g) r:=⟨0,fun _ _=>h⟩
theorem evpos {α:Type} {A B:Nat→Option α} {r:α} {c:Prop} [Decidable c] (h:c) (k:Ev A r):Ev (fun n=>if c then A n else B n) r:=by
 obtain⟨K,k⟩:=k
 exact⟨K,fun n hn=>by simp only [if_pos h];exact k n hn⟩
theorem evneg {α:Type} {A B:Nat→Option α} {r:α} {c:Prop} [Decidable c] (h: ¬ c) (k:Ev B r):Ev (fun n=>if c then A n else B n) r:=by
 obtain⟨K,k⟩:=k
 exact⟨K,fun n hn=>by simp only [if_neg h];exact k n hn⟩
theorem evbind {α β:Type} {g:Nat→Option α} {f:Nat→α→Option β} {a:α} {r:β} (h:Ev g a) (k:Ev (fun n=>f n a) r):Ev (fun n=>(g n).bind (f n)) r:=Ev.bind h k
theorem evsome {α β:Type} {g:Option α} {f:Nat→α→Option β} {a:α} {r:β} (h:g=some a) (k:Ev (fun n=>f n a) r):Ev (fun n=>g.bind (f n)) r:=Ev.bind (evc h) k
theorem evstep {α:Type} {g f:Nat→Option α} {r:α} (h: ∀k,g (k+1)=f k) (k:Ev f r):Ev g r:=Ev.step h k
theorem evk {α:Type} {g:Nat→Option α} {r:α} (h:Ev g r): ∃k,g k=some r:=Ev.rounds h
theorem w64 {x:Int} (h0: -9223372036854775808≤x) (h1:x≤9223372036854775807):wrap64 x=x:=by unfold wrap64;omega
theorem rd_nat (l:List Int) (i:Nat):rd l (i:Int)=l.getD i 0:=by simp [rd]
end Go.Proofs.Ytmcddlpgffbmpaa.Ma
end
section
namespace Go.Proofs.Ytmcddlpgffbmpaa.Pr
open Go.RowKit Go.Proofs.YtmcddlpgffbmpaaW.PrintWords Go.Proofs.YtmcddlpgffbmpaaW.PrintLast Go.Proofs.YtmcddlpgffbmpaaW.PrintMore
attribute [local go_sem] max2_int min2_int max_two min_two max_three min_three max_four min_four
def laws_szInt64S.f (l0:List Int) (a1:Int):Option (Int):=if(wrap64 (a1 - (l0.length:Int))) < 0 then(some (-1)) else(some (wrap64 (a1 - (l0.length:Int))))
theorem laws_szInt64S.calls (A0:Option Addr) (c0:Nat) (l0:List Int) (a1:Int) (r:Int) (w:World) (hr0:Kd.C (Kd.int .i64) w A0 l0.length l0) (hc0:l0.length≤c0) (h:laws_szInt64S.f l0 a1=some r):
  Calls Try.prog 37 #[.slice A0 l0.length c0, .int .i64 a1] w fun e w'=>e= .returned (.int .i64 r)∧Drawn0 w w':=by
 have HR0:=q_ hr0
 have HC0:=q_ hc0
 clear hr0 hc0
 have H:(if(wrap64 (a1 - (l0.length:Int))) < 0 then(some (-1)) else(some (wrap64 (a1 - (l0.length:Int)))))=some r:=h
 clear h
 by_cases c3:(wrap64 (a1 - (l0.length:Int))) < 0
 ·rw [if_pos c3] at H
  have c3b0:decide ((wrap64 (a1 - (l0.length:Int))) < 0)=true:=decide_eq_true c3
  clear c3
  obtain rfl:=Option.some.inj H
  go_enter Try.func37,Try.ntmps37
  go_wp2
  go_ret
  exact⟨by first | rfl | (simp;done) | (simp [*];done),by repeat (first | exact Drawn0.refl _ | apply Drawn0.step)⟩
 ·rw [if_neg c3] at H
  have c3b0:decide ((wrap64 (a1 - (l0.length:Int))) < 0)=false:=decide_eq_false c3
  clear c3
  obtain rfl:=Option.some.inj H
  go_enter Try.func37,Try.ntmps37
  go_wp2
  go_ret
  exact⟨by first | rfl | (simp;done) | (simp [*];done),by repeat (first | exact Drawn0.refl _ | apply Drawn0.step)⟩
def laws_toInt64S.l0:Nat→List Int→List Int→Int→Option (List Int)
 | 0,_,_,_=>none
 | k+1,x0,x3,x4=>if x4 < (x0.length:Int) then(if 0≤x4 then(if x4 < (x3.length:Int) then(laws_toInt64S.l0 k x0 (x3.set (x4:Int).toNat (rd x0 x4)) (wrap64 (x4+1))) else(none)) else(none)) else(some x3)
def laws_toInt64S.f (k:Nat) (l0:List Int):Option (List Int):=if 0≤(l0.length:Int) then(if((l0.length:Int):Int).toNat≤35184372088832 then(laws_toInt64S.l0 k l0 (List.replicate ((l0.length:Int):Int).toNat 0) 0) else(none)) else(none)
theorem laws_toInt64S.mono_l: ∀k,(∀y0 y1 y2,LeO (laws_toInt64S.l0 k y0 y1 y2) (laws_toInt64S.l0 (k+1) y0 y1 y2))
 | 0=>fun _ _ _ r h=>by simp [laws_toInt64S.l0] at h
 | k+1=>by
  have ih0:=laws_toInt64S.mono_l k
  ·intro y0 y1 y2
   unfold laws_toInt64S.l0
   repeat' first
   | (with_reducible exact ih0 _ _ _)
   | (with_reducible exact LeO.refl _)
   | (with_reducible exact LeO.none _)
   | (with_reducible refine LeO.ite ?_ ?_)
   | (with_reducible refine LeO.bind ?_ (fun _=>?_))
   | exact ih0 _ _ _
   | exact LeO.none _
   | refine LeO.ite ?_ ?_
   | refine LeO.bind ?_ (fun _=>?_)
theorem laws_toInt64S.mono: ∀a0 k,LeO (laws_toInt64S.f k a0) (laws_toInt64S.f (k+1) a0):=by
 intro a0 k
 have ih0:=laws_toInt64S.mono_l k
 unfold laws_toInt64S.f
 repeat' first
   | (with_reducible exact ih0 _ _ _)
   | (with_reducible exact LeO.refl _)
   | (with_reducible exact LeO.none _)
   | (with_reducible refine LeO.ite ?_ ?_)
   | (with_reducible refine LeO.bind ?_ (fun _=>?_))
   | exact ih0 _ _ _
   | exact LeO.none _
   | refine LeO.ite ?_ ?_
   | refine LeO.bind ?_ (fun _=>?_)
theorem laws_toInt64S.calls (k:Nat) (A0:Option Addr) (c0:Nat) (l0:List Int) (r:List Int) (w:World) (hr0:Kd.C (Kd.int .i64) w A0 l0.length l0) (hc0:l0.length≤c0) (h:laws_toInt64S.f k l0=some r):
  Calls Try.prog 38 #[.slice A0 l0.length c0] w fun e w'=> ∃v0_:Value,e= .returned (v0_)∧Kd.R (Kd.int .i64) 2 w' w.heap.size (fun _=>True) v0_ r∧Below w.heap.size w w':=by
 have HR0:=q_ hr0
 have HC0:=q_ hc0
 clear hr0 hc0
 have HB:=q_ (Below.refl w.heap.size w)
 have H:(if 0≤(l0.length:Int) then(if((l0.length:Int):Int).toNat≤35184372088832 then(laws_toInt64S.l0 k l0 (List.replicate ((l0.length:Int):Int).toNat 0) 0) else(none)) else(none))=some r:=h
 clear h
 by_cases c2:0≤(l0.length:Int)
 ·rw [if_pos c2] at H
  have c2b0:=eq_true c2
  have c2b1:decide (0≤(l0.length:Int))=true:=decide_eq_true c2
  clear c2
  by_cases c3:((l0.length:Int):Int).toNat≤35184372088832
  ·rw [if_pos c3] at H
   have c3b0:=eq_true c3
   have c3b1:decide (((l0.length:Int):Int).toNat≤35184372088832)=true:=decide_eq_true c3
   clear c3
   obtain⟨ai,hy101⟩: ∃y_:List Int,y_=(List.replicate ((l0.length:Int):Int).toNat 0):=⟨_,rfl⟩
   replace H:(laws_toInt64S.l0 k l0 ai 0)=some r:=by first | (rw [hy101];with_reducible exact H) | (have H2_:=(Option.bind_some _ _).symm.trans H;rw [hy101];with_reducible exact H2_) | (have H2_:=(Option.bind_some _ _).symm.trans H;with_reducible exact H2_) | with_reducible exact H | (rw [hy101];exact H) | exact H
   have ah:=q_ hy101
   clear hy101
   have H':=q_ H
   clear H
   go_enter Try.func38,Try.ntmps38
   go_wp2_with (first | ((with_reducible refine gate_dst (N:=7) rfl ?_);refine Kd.R_make (Kd.int .i64) _ 2 rfl (N:=7) rfl 29 _ _ rfl (l0.length:Int) rfl rfl Try.underlying29 (.int .i64 0) 8 info2 rfl (by decide) (by omega) 0 (ok:=fun _=>True) (okp:=fun _=>True) rfl (fun _ hk=>hk) trivial od_ (Nat.le_trans (Nat.mul_le_mul_right _ (od_:(l0.length:Int).toNat≤35184372088832)) (by omega)) (Below.refl _ _) (Nat.le_refl _) ?_;intro av w4 ho5 hb hg_ hnew_;clear hg_ hnew_;(first | rw [← ah.out] at ho5 | (simp only [Int.reduceToNat] at ho5;rw [← ah.out] at ho5));have aj:=q_ (Kd.R_lower ho5 bz_);replace HB:=q_ (bs_ hb);clear hb ho5))
   go_loopg [4] k (fun kq v4 w'=> ∃(ae:List Int) (aa:Int),v4= .int .i64 aa∧Aside0 (laws_toInt64S.l0 kq l0 ae aa=some r)∧Aside0 (kq≤k)∧Aside0 (Kd.R (Kd.int .i64) 2 w' w.heap.size (fun _=>True) av ae)∧Aside0 (Below w.heap.size w w'))
   case atStart=>exact⟨(ai),(0),rs_,H',⟨Nat.le_refl _⟩,⟨ro_ aj.out⟩,⟨hb_⟩⟩
   case round=>
    clear H'
    try clear c2
    try clear c2b0
    try clear c2b1
    try clear p2
    try clear c3
    try clear c3b0
    try clear c3b1
    obtain⟨ae,aa,rfl,HA,HK1,af,HB⟩:=hrel
    cases gk with
    | zero=>exact absurd HA.out (by simp [laws_toInt64S.l0])
    | succ k1=>
     have H:=HA.out
     clear HA
     simp only [laws_toInt64S.l0] at H
     by_cases c6:aa < (l0.length:Int)
     ·rw [if_pos c6] at H
      have c6b0:decide (aa < (l0.length:Int))=true:=decide_eq_true c6
      clear c6
      by_cases c7:0≤aa
      ·rw [if_pos c7] at H
       have c7b0:decide (0≤aa)=true:=decide_eq_true c7
       clear c7
       by_cases c8:aa < (ae.length:Int)
       ·rw [if_pos c8] at H
        have c8b0:decide (aa < (ae.length:Int))=true:=decide_eq_true c8
        clear c8
        obtain⟨ag,hy105⟩: ∃y_:List Int,y_=(ae.set (aa:Int).toNat (rd l0 aa)):=⟨_,rfl⟩
        replace H:(laws_toInt64S.l0 k1 l0 ag (wrap64 (aa+1)))=some r:=by first | (rw [hy105];with_reducible exact H) | (have H2_:=(Option.bind_some _ _).symm.trans H;rw [hy105];with_reducible exact H2_) | (have H2_:=(Option.bind_some _ _).symm.trans H;with_reducible exact H2_) | with_reducible exact H | (rw [hy105];exact H) | exact H
        have ak:=q_ hy105
        clear hy105
        have H':=q_ H
        clear H
        have p104:0≤(aa:Int):=od_
        have q104:aa < (l0.length:Int):=od_
        obtain⟨ax,e104,hx104_0⟩:=Kd.at_int HR0.out aa p104 q104
        cases e104
        replace hx104_0:=(HB.out.cell (World.block_lt_of_cell? w _ hx104_0)).trans hx104_0
        replace p104:=eq_true p104
        replace q104:=eq_true q104
        have p9:0≤(aa:Int):=od_
        have q9:(aa:Int) < ((ae.length:Int):Int):=od_
        obtain⟨go9,aw,aq,au,gl9,cl9,HG9⟩:=Kd.R_form af.out (by omega)
        (first | cases aq | (injection aq with ea_ en_ ec_;(first | subst ea_ | (injection ea_ with ea_;subst ea_));subst ec_;clear en_))
        have GB9:=q_ au
        have GG9:=q_ HG9
        clear au gl9 HG9
        obtain⟨hx9_0,hf9_0⟩:=Kd.R_celln 0 af.out (aa:Int) p9 q9
        replace p9:=eq_true p9
        replace q9:=eq_true q9
        have HP10:=Kd.R_putg af.out (aa:Int) (rd l0 aa)
        go_wp2_with (first | ((with_reducible refine gate_store (t:=2) (p:=20) rfl ?_);refine store_event (t:=2) (p:=20) (v:=?vo_w11) (w1:=(wr.setCell ⟨go9,(aa:Int).toNat,none⟩ (.int .i64 (rd l0 aa)))) ?hg ?ho ?hn ?hr ?_;(case ho=>rfl);(case hg=>rfl);(case hn=>rfl);(case hr=>first | (go_simp;done) | (go_simp;rfl));intro w11 hw;have hg:wr.grownBy w11 (some go9):=(by rw [hw];exact HP10.2);have hp_:Kd.R (Kd.int .i64) 2 w11 w.heap.size (fun _=>True) (.slice (some ⟨go9,0,none⟩) ae.length aw) ag:=(by rw [hw,ak.out];exact HP10.1);clear HP10;replace af:=q_ (hp_);replace HB:=q_ ((by rw [hw];exact below_set (HB.out) GB9.out:Below w.heap.size w w11));clear hg hw hp_))
        go_roundg k1
        case measure=>have:=HK1.out;omega
        case rel=>exact⟨(ag),(wrap64 (aa+1)),rs_,H',⟨by have:=HK1.out;omega⟩,⟨ro_ af.out⟩,⟨hb_⟩⟩
       ·rw [if_neg c8] at H
        exact absurd H (by simp)
      ·rw [if_neg c7] at H
       exact absurd H (by simp)
     ·rw [if_neg c6] at H
      have c6b0:decide (aa < (l0.length:Int))=false:=decide_eq_false c6
      clear c6
      obtain rfl:=Option.some.inj H
      go_wp2
      go_ret
      exact⟨_,by first | rfl | (simp [errW_none,errW_some] <;> rfl) | (simp [*,errW_none,errW_some] <;> rfl),ro_ af.out,hb_⟩
  ·rw [if_neg c3] at H
   exact absurd H (by simp)
 ·rw [if_neg c2] at H
  exact absurd H (by simp)
def laws_eqInt64S.l0:Nat→List Int→List Int→Int→Option (Bool)
 | 0,_,_,_=>none
 | k+1,x0,x1,x5=>if x5 < (x0.length:Int) then(if 0≤x5 then(if x5 < (x1.length:Int) then(if(rd x0 x5)=(rd x1 x5) then(laws_eqInt64S.l0 k x0 x1 (wrap64 (x5+1))) else(some false)) else(none)) else(none)) else(some true)
def laws_eqInt64S.f (k:Nat) (l0:List Int) (l1:List Int):Option (Bool):=if(l0.length:Int)=(l1.length:Int) then(laws_eqInt64S.l0 k l0 l1 0) else(some false)
theorem laws_eqInt64S.mono_l: ∀k,(∀y0 y1 y2,LeO (laws_eqInt64S.l0 k y0 y1 y2) (laws_eqInt64S.l0 (k+1) y0 y1 y2))
 | 0=>fun _ _ _ r h=>by simp [laws_eqInt64S.l0] at h
 | k+1=>by
  have ih0:=laws_eqInt64S.mono_l k
  ·intro y0 y1 y2
   unfold laws_eqInt64S.l0
   repeat' first
   | (with_reducible exact ih0 _ _ _)
   | (with_reducible exact LeO.refl _)
   | (with_reducible exact LeO.none _)
   | (with_reducible refine LeO.ite ?_ ?_)
   | (with_reducible refine LeO.bind ?_ (fun _=>?_))
   | exact ih0 _ _ _
   | exact LeO.none _
   | refine LeO.ite ?_ ?_
   | refine LeO.bind ?_ (fun _=>?_)
theorem laws_eqInt64S.mono: ∀a0 a1 k,LeO (laws_eqInt64S.f k a0 a1) (laws_eqInt64S.f (k+1) a0 a1):=by
 intro a0 a1 k
 have ih0:=laws_eqInt64S.mono_l k
 unfold laws_eqInt64S.f
 repeat' first
   | (with_reducible exact ih0 _ _ _)
   | (with_reducible exact LeO.refl _)
   | (with_reducible exact LeO.none _)
   | (with_reducible refine LeO.ite ?_ ?_)
   | (with_reducible refine LeO.bind ?_ (fun _=>?_))
   | exact ih0 _ _ _
   | exact LeO.none _
   | refine LeO.ite ?_ ?_
   | refine LeO.bind ?_ (fun _=>?_)
theorem laws_eqInt64S.calls (k:Nat) (A0:Option Addr) (c0:Nat) (l0:List Int) (A1:Option Addr) (c1:Nat) (l1:List Int) (r:Bool) (w:World) (hr0:Kd.C (Kd.int .i64) w A0 l0.length l0) (hc0:l0.length≤c0) (hr1:Kd.C (Kd.int .i64) w A1 l1.length l1) (hc1:l1.length≤c1) (h:laws_eqInt64S.f k l0 l1=some r):
  Calls Try.prog 11 #[.slice A0 l0.length c0, .slice A1 l1.length c1] w fun e w'=>e= .returned (.bool r)∧Drawn0 w w':=by
 have HR0:=q_ hr0
 have HC0:=q_ hc0
 clear hr0 hc0
 have HR1:=q_ hr1
 have HC1:=q_ hc1
 clear hr1 hc1
 have H:(if(l0.length:Int)=(l1.length:Int) then(laws_eqInt64S.l0 k l0 l1 0) else(some false))=some r:=h
 clear h
 by_cases c3:(l0.length:Int)=(l1.length:Int)
 ·rw [if_pos c3] at H
  have c3b0:((l0.length:Int)==(l1.length:Int))=true:=beq_iff_eq.mpr c3
  have c3b1:((l0.length:Int) !=(l1.length:Int))=false:=bne_eq_false_iff_eq.mpr c3
  have c3b2:(l0.length==l1.length)=true:=by first | simpa using c3 | (simp at c3 ⊢;omega)
  clear c3
  have H':=q_ H
  clear H
  go_enter Try.func11,Try.ntmps11
  go_wp2
  repeat (go_quiet (fail);try go_wp2)
  go_loopg [5] k (fun kq v5 w'=> ∃(aa:Int),v5= .int .i64 aa∧Aside0 (laws_eqInt64S.l0 kq l0 l1 aa=some r)∧Aside0 (kq≤k)∧Drawn0 w w')
  case atStart=>exact⟨(0),rs_,H',⟨Nat.le_refl _⟩,by repeat (first | exact Drawn0.refl _ | apply Drawn0.step)⟩
  case round=>
   clear H'
   try clear c1
   try clear p2
   try clear c3
   try clear c3b0
   try clear c3b1
   try clear c3b2
   obtain⟨aa,rfl,HA,HK1,⟨m1,rfl⟩⟩:=hrel
   cases gk with
   | zero=>exact absurd HA.out (by simp [laws_eqInt64S.l0])
   | succ k1=>
    have H:=HA.out
    clear HA
    simp only [laws_eqInt64S.l0] at H
    by_cases c4:aa < (l0.length:Int)
    ·rw [if_pos c4] at H
     have c4b0:decide (aa < (l0.length:Int))=true:=decide_eq_true c4
     clear c4
     by_cases c5:0≤aa
     ·rw [if_pos c5] at H
      have c5b0:decide (0≤aa)=true:=decide_eq_true c5
      clear c5
      by_cases c6:aa < (l1.length:Int)
      ·rw [if_pos c6] at H
       have c6b0:decide (aa < (l1.length:Int))=true:=decide_eq_true c6
       clear c6
       by_cases c7:(rd l0 aa)=(rd l1 aa)
       ·rw [if_pos c7] at H
        have c7b0:((rd l0 aa)==(rd l1 aa))=true:=beq_iff_eq.mpr c7
        have c7b1:((rd l0 aa) !=(rd l1 aa))=false:=bne_eq_false_iff_eq.mpr c7
        clear c7
        have H':=q_ H
        clear H
        have p106:0≤(aa:Int):=od_
        have q106:aa < (l0.length:Int):=od_
        obtain⟨ae,e106,hx106_0⟩:=Kd.at_int HR0.out aa p106 q106
        cases e106
        replace p106:=eq_true p106
        replace q106:=eq_true q106
        have p107:0≤(aa:Int):=od_
        have q107:aa < (l1.length:Int):=od_
        obtain⟨af,e107,hx107_0⟩:=Kd.at_int HR1.out aa p107 q107
        cases e107
        replace p107:=eq_true p107
        replace q107:=eq_true q107
        go_wp2
        repeat (go_quiet (fail);try go_wp2)
        go_roundg k1
        case measure=>have:=HK1.out;omega
        case rel=>exact⟨(wrap64 (aa+1)),rs_,H',⟨by have:=HK1.out;omega⟩,by repeat (first | exact Drawn0.refl _ | apply Drawn0.step)⟩
       ·rw [if_neg c7] at H
        have c7b0:((rd l0 aa)==(rd l1 aa))=false:=beq_eq_false_iff_ne.mpr c7
        have c7b1:((rd l0 aa) !=(rd l1 aa))=true:=bne_iff_ne.mpr c7
        obtain rfl:=Option.some.inj H
        have p106:0≤(aa:Int):=od_
        have q106:aa < (l0.length:Int):=od_
        obtain⟨ae,e106,hx106_0⟩:=Kd.at_int HR0.out aa p106 q106
        cases e106
        replace p106:=eq_true p106
        replace q106:=eq_true q106
        have p107:0≤(aa:Int):=od_
        have q107:aa < (l1.length:Int):=od_
        obtain⟨af,e107,hx107_0⟩:=Kd.at_int HR1.out aa p107 q107
        cases e107
        replace p107:=eq_true p107
        replace q107:=eq_true q107
        go_wp2
        repeat (go_quiet (fail);try go_wp2)
        go_ret
        exact⟨by first | rfl | (simp;done) | (simp [*];done),by repeat (first | exact Drawn0.refl _ | apply Drawn0.step)⟩
      ·rw [if_neg c6] at H
       exact absurd H (by simp)
     ·rw [if_neg c5] at H
      exact absurd H (by simp)
    ·rw [if_neg c4] at H
     have c4b0:decide (aa < (l0.length:Int))=false:=decide_eq_false c4
     clear c4
     obtain rfl:=Option.some.inj H
     go_wp2
     repeat (go_quiet (fail);try go_wp2)
     go_ret
     exact⟨by first | rfl | (simp;done) | (simp [*];done),by repeat (first | exact Drawn0.refl _ | apply Drawn0.step)⟩
 ·rw [if_neg c3] at H
  have c3b0:((l0.length:Int)==(l1.length:Int))=false:=beq_eq_false_iff_ne.mpr c3
  have c3b1:((l0.length:Int) !=(l1.length:Int))=true:=bne_iff_ne.mpr c3
  have c3b2:(l0.length==l1.length)=false:=by first | simpa using c3 | (simp at c3 ⊢;omega)
  obtain rfl:=Option.some.inj H
  go_enter Try.func11,Try.ntmps11
  go_wp2
  repeat (go_quiet (fail);try go_wp2)
  go_ret
  exact⟨by first | rfl | (simp;done) | (simp [*];done),by repeat (first | exact Drawn0.refl _ | apply Drawn0.step)⟩
end Go.Proofs.Ytmcddlpgffbmpaa.Pr
end
section
namespace Go.Proofs.Ytmcddlpgffbmpaa.La
open Go.RowKit Go.Proofs.YtmcddlpgffbmpaaW.PrintWords Go.Proofs.YtmcddlpgffbmpaaW.PrintMore Go.Proofs.Ytmcddlpgffbmpaa.Ma Go.Proofs.Ytmcddlpgffbmpaa.Pr
theorem sz_eq {l:List Int} {n:Int} (hn:0≤n) (hn2:n≤1048576) (hl:l.length≤maxLen):laws_szInt64S.f l n=some (if n < l.length then(-1:Int) else n - (l.length:Int)):=by
 unfold maxLen at hl
 unfold laws_szInt64S.f
 rw [w64 (by omega) (by omega)]
 by_cases h:n < l.length
 ·rw [if_pos (by omega),if_pos h]
 ·rw [if_neg (by omega),if_neg h]
theorem set_append_nat {α:Type} (a b:List α) (x y:α):(a++y::b).set a.length x=a++x::b:=by
 rw [List.set_append_right _ _ (Nat.le_refl _),Nat.sub_self,List.set_cons_zero]
theorem toI (l:List Int) (hl:l.length≤1048576):Ev (fun k=>laws_toInt64S.f k l) l:=by
 have key: ∀(m i:Nat),i+m=l.length→Ev (fun k=>laws_toInt64S.l0 k l (l.take i++List.replicate m 0) i) l:=by
  intro m
  induction m with
  | zero=>
   intro i hi
   refine evstep (fun k=>by rw [laws_toInt64S.l0]) (evneg (by omega) (evc ?_))
   rw [List.replicate_zero,List.append_nil,List.take_of_length_le (by omega)]
  | succ m ih=>
   intro i hi
   refine evstep (fun k=>by rw [laws_toInt64S.l0]) (evpos (by omega) (evpos (by omega) (evpos (by simp;omega) ?_)))
   rw [w64 (by omega) (by omega),Int.toNat_natCast,rd_nat]
   have e:(l.take i++List.replicate (m+1) 0).set i (l.getD i 0)=l.take (i+1)++List.replicate m 0:=by
    have hlt:i < l.length:=by omega
    have h1:(l.take i).length=i:=by rw [List.length_take];omega
    have h2:=set_append_nat (l.take i) (List.replicate m 0) (l.getD i 0) 0
    rw [h1] at h2
    rw [List.replicate_succ,h2,List.take_succ_eq_append_getElem hlt,List.append_assoc]
    simp [hlt]
   rw [e]
   exact ih (i+1) (by omega)
 unfold laws_toInt64S.f
 refine evpos (by omega) (evpos (by omega) ?_)
 have:=key l.length 0 (by omega)
 simpa using this
theorem eqI (a b:List Int) (ha:a.length≤1152921504606846976):Ev (fun k=>laws_eqInt64S.f k a b) (decide (a=b)):=by
 unfold laws_eqInt64S.f
 by_cases hl:a.length=b.length
 ·refine evpos (by omega) ?_
  have key: ∀(m i:Nat),i+m=a.length→a.take i=b.take i→Ev (fun k=>laws_eqInt64S.l0 k a b i) (decide (a=b)):=by
   intro m
   induction m with
   | zero=>
    intro i hi ht
    refine evstep (fun k=>by rw [laws_eqInt64S.l0]) (evneg (by omega) (evc ?_))
    rw [List.take_of_length_le (by omega),List.take_of_length_le (by omega)] at ht
    simp [ht]
   | succ m ih=>
    intro i hi ht
    refine evstep (fun k=>by rw [laws_eqInt64S.l0]) (evpos (by omega) (evpos (by omega) (evpos (by omega) ?_)))
    rw [rd_nat,rd_nat]
    have h1:i < a.length:=by omega
    have h2:i < b.length:=by omega
    by_cases e:a.getD i 0=b.getD i 0
    ·refine evpos e ?_
     rw [w64 (by omega) (by omega)]
     refine ih (i+1) (by omega) ?_
     rw [List.take_succ_eq_append_getElem h1,List.take_succ_eq_append_getElem h2,ht]
     simp [h1,h2] at e
     rw [e]
    ·refine evneg e (evc ?_)
     have:a≠b:=fun h=>e (by rw [h])
     simp [this]
  exact key a.length 0 (by omega) rfl
 ·refine evneg (by omega) (evc ?_)
  have:a≠b:=fun h=>hl (by rw [h])
  simp [this]
theorem eqI_same (a:List Int) (ha:a.length≤1152921504606846976):Ev (fun k=>laws_eqInt64S.f k a a) true:=by
 have:=eqI a a ha
 simpa using this
end Go.Proofs.Ytmcddlpgffbmpaa.La
end
section
namespace Go.Proofs.Ytmcddlpgffbmpaa.Pr
open Go.RowKit Go.Proofs.YtmcddlpgffbmpaaW.PrintWords Go.Proofs.YtmcddlpgffbmpaaW.PrintLast Go.Proofs.YtmcddlpgffbmpaaW.PrintMore
attribute [local go_sem] max2_int min2_int max_two min_two max_three min_three max_four min_four
def laws_markInt64S.l0:Nat→List Int→Int→Int→Option (Int × List Int)
 | 0,_,_,_=>none
 | k+1,x0,x1,x5=>if x5 < (x0.length:Int) then(if 0≤x5 then(laws_markInt64S.l0 k (x0.set (x5:Int).toNat x1) (wrap64 (x1+1)) (wrap64 (x5+1))) else(none)) else(some (x1,x0))
def laws_markInt64S.f (k:Nat) (l0:List Int) (a1:Int):Option (Int × List Int):=laws_markInt64S.l0 k l0 a1 0
theorem laws_markInt64S.mono_l: ∀k,(∀y0 y1 y2,LeO (laws_markInt64S.l0 k y0 y1 y2) (laws_markInt64S.l0 (k+1) y0 y1 y2))
 | 0=>fun _ _ _ r h=>by simp [laws_markInt64S.l0] at h
 | k+1=>by
  have ih0:=laws_markInt64S.mono_l k
  ·intro y0 y1 y2
   unfold laws_markInt64S.l0
   repeat' first
   | (with_reducible exact ih0 _ _ _)
   | (with_reducible exact LeO.refl _)
   | (with_reducible exact LeO.none _)
   | (with_reducible refine LeO.ite ?_ ?_)
   | (with_reducible refine LeO.bind ?_ (fun _=>?_))
   | exact ih0 _ _ _
   | exact LeO.none _
   | refine LeO.ite ?_ ?_
   | refine LeO.bind ?_ (fun _=>?_)
theorem laws_markInt64S.mono: ∀a0 a1 k,LeO (laws_markInt64S.f k a0 a1) (laws_markInt64S.f (k+1) a0 a1):=by
 intro a0 a1 k
 have ih0:=laws_markInt64S.mono_l k
 unfold laws_markInt64S.f
 repeat' first
   | (with_reducible exact ih0 _ _ _)
   | (with_reducible exact LeO.refl _)
   | (with_reducible exact LeO.none _)
   | (with_reducible refine LeO.ite ?_ ?_)
   | (with_reducible refine LeO.bind ?_ (fun _=>?_))
   | exact ih0 _ _ _
   | exact LeO.none _
   | refine LeO.ite ?_ ?_
   | refine LeO.bind ?_ (fun _=>?_)
theorem laws_markInt64S.calls (k:Nat) (P0_:Nat→Prop) (u9000_:Value) (l0:List Int) (a1:Int) (r1:Int) (r2:List Int) (w0 w:World) (hB:Below w0.heap.size w0 w) (ho0:Kd.R (Kd.int .i64) 2 w w0.heap.size P0_ u9000_ l0) (h:laws_markInt64S.f k l0 a1=some (r1,r2)):
  Calls Try.prog 14 #[u9000_, .int .i64 a1] w fun e w'=>e= .returned (.int .i64 r1)∧Kd.R (Kd.int .i64) 2 w' w0.heap.size (fun k_=>(P0_ k_∨w.heap.size≤k_)) u9000_ r2∧Below w0.heap.size w0 w'∧Kept w w' (fun k_=>P0_ k_):=by
 have aq:=q_ (show Kd.R (Kd.int .i64) 2 w w0.heap.size (fun k_=>(P0_ k_∨w.heap.size≤k_)) u9000_ l0 from Kd.R_mono ho0 (fun k_ hk=>(.inl hk)))
 have HK:=q_ (Kept.refl w (fun k_=>P0_ k_))
 have HW0:=q_ hB.size
 have HB:=q_ hB
 clear hB
 have H:(laws_markInt64S.l0 k l0 a1 0)=some (r1,r2):=h
 clear h
 have H':=q_ H
 clear H
 go_enter Try.func14,Try.ntmps14
 go_wp2
 go_loopg [1,5] k (fun kq v1 v5 w'=> ∃(af:List Int) (ag:Int) (aa:Int),v1= .int .i64 ag∧v5= .int .i64 aa∧Aside0 (laws_markInt64S.l0 kq af ag aa=some (r1,r2))∧Aside0 (kq≤k)∧Aside0 (Kd.R (Kd.int .i64) 2 w' w0.heap.size (fun k_=>(P0_ k_∨w.heap.size≤k_)) u9000_ af)∧Aside0 (Kept w w' (fun k_=>P0_ k_))∧Aside0 (Below w0.heap.size w0 w'))
 case atStart=>exact⟨(l0),(a1),(0),rs_,rs_,H',⟨Nat.le_refl _⟩,⟨ro_ aq.out⟩,⟨by repeat (first | (with_reducible first | exact HK.out | apply Kept.alloc | apply Kept.drewN | apply Kept.drew) | exact HK.out)⟩,⟨hb_⟩⟩
 case round=>
  clear H'
  try clear c1
  try clear p2
  obtain⟨af,ag,aa,rfl,rfl,HA,HK1,ae,HK,HB⟩:=hrel
  cases gk with
  | zero=>exact absurd HA.out (by simp [laws_markInt64S.l0])
  | succ k1=>
   have H:=HA.out
   clear HA
   simp only [laws_markInt64S.l0] at H
   by_cases c3:aa < (af.length:Int)
   ·rw [if_pos c3] at H
    have c3b0:decide (aa < (af.length:Int))=true:=decide_eq_true c3
    clear c3
    by_cases c4:0≤aa
    ·rw [if_pos c4] at H
     have c4b0:decide (0≤aa)=true:=decide_eq_true c4
     clear c4
     obtain⟨ah,hy108⟩: ∃y_:List Int,y_=(af.set (aa:Int).toNat ag):=⟨_,rfl⟩
     replace H:(laws_markInt64S.l0 k1 ah (wrap64 (ag+1)) (wrap64 (aa+1)))=some (r1,r2):=by first | (rw [hy108];with_reducible exact H) | (have H2_:=(Option.bind_some _ _).symm.trans H;rw [hy108];with_reducible exact H2_) | (have H2_:=(Option.bind_some _ _).symm.trans H;with_reducible exact H2_) | with_reducible exact H | (rw [hy108];exact H) | exact H
     have ai:=q_ hy108
     clear hy108
     have H':=q_ H
     clear H
     obtain⟨ax,au,av⟩:=Kd.R_slice ae.out
     subst av
     have p5:0≤(aa:Int):=od_
     have q5:(aa:Int) < ((af.length:Int):Int):=od_
     obtain⟨go5,ay,aj,ak,gl5,cl5,HG5⟩:=Kd.R_form ae.out (by omega)
     (first | cases aj | (injection aj with ea_ en_ ec_;(first | subst ea_ | (injection ea_ with ea_;subst ea_));subst ec_;clear en_))
     have GB5:=q_ ak
     have GG5:=q_ HG5
     clear ak gl5 HG5
     have HMgo5:=q_ (show (P0_ go5∨w.heap.size≤go5) from (ae.out.1 _ rfl))
     obtain⟨hx5_0,hf5_0⟩:=Kd.R_celln 0 ae.out (aa:Int) p5 q5
     replace p5:=eq_true p5
     replace q5:=eq_true q5
     have HP7:=Kd.R_putg ae.out (aa:Int) ag
     go_wp2_with (first | ((with_reducible refine gate_store (t:=2) (p:=15) rfl ?_);refine store_event (t:=2) (p:=15) (v:=?vo_w8) (w1:=(wr.setCell ⟨go5,(aa:Int).toNat,none⟩ (.int .i64 ag))) ?hg ?ho ?hn ?hr ?_;(case ho=>rfl);(case hg=>rfl);(case hn=>rfl);(case hr=>first | (go_simp;done) | (go_simp;rfl));intro w8 hw;have hg:wr.grownBy w8 (some go5):=(by rw [hw];exact HP7.2);have hp_:Kd.R (Kd.int .i64) 2 w8 w0.heap.size (fun k_=>(P0_ k_∨w.heap.size≤k_)) (.slice (some ⟨go5,0,none⟩) af.length au) ah:=(by rw [hw,ai.out];exact HP7.1);clear HP7;replace HB:=q_ ((by rw [hw];exact below_set (HB.out) GB5.out:Below w0.heap.size w0 w8));replace HK:=q_ (Kept.of_grown (S:=(fun k_=>P0_ k_)) hg (by repeat (first | (with_reducible first | exact HK.out | apply Kept.alloc | apply Kept.drewN | apply Kept.drew) | exact HK.out)) (fun k_ e_=>(ae.out.1 k_ e_)));replace ae:=q_ (hp_);clear hg hw hp_))
     go_roundg k1
     case measure=>have:=HK1.out;omega
     case rel=>exact⟨(ah),(wrap64 (ag+1)),(wrap64 (aa+1)),rs_,rs_,H',⟨by have:=HK1.out;omega⟩,⟨ro_ ae.out⟩,⟨by repeat (first | (with_reducible first | exact HK.out | apply Kept.alloc | apply Kept.drewN | apply Kept.drew) | exact HK.out)⟩,⟨hb_⟩⟩
    ·rw [if_neg c4] at H
     exact absurd H (by simp)
   ·rw [if_neg c3] at H
    have c3b0:decide (aa < (af.length:Int))=false:=decide_eq_false c3
    clear c3
    simp only [Option.some.injEq,Prod.mk.injEq] at H
    obtain⟨rfl,rfl⟩:=H
    obtain⟨az,aA,aw⟩:=Kd.R_slice ae.out
    subst aw
    go_wp2
    go_ret
    exact⟨by first | rfl | (simp [errW_none,errW_some] <;> rfl) | (simp [*,errW_none,errW_some] <;> rfl),ro_ ae.out,by repeat (first | (with_reducible first | exact HB.out | apply below_alloc | apply pw_below_drewN | apply below_drew1) | exact HB.out),by repeat (first | (with_reducible first | exact HK.out | apply Kept.alloc | apply Kept.drewN | apply Kept.drew) | exact HK.out)⟩
def laws_heldInt64S.l0:Nat→List Int→Int→Int→Option (Int)
 | 0,_,_,_=>none
 | k+1,x0,x1,x5=>if x5 < (x0.length:Int) then(if 0≤x5 then(if(rd x0 x5)=x1 then(laws_heldInt64S.l0 k x0 (wrap64 (x1+1)) (wrap64 (x5+1))) else(some (-1))) else(none)) else(some x1)
def laws_heldInt64S.f (k:Nat) (l0:List Int) (a1:Int):Option (Int):=laws_heldInt64S.l0 k l0 a1 0
theorem laws_heldInt64S.mono_l: ∀k,(∀y0 y1 y2,LeO (laws_heldInt64S.l0 k y0 y1 y2) (laws_heldInt64S.l0 (k+1) y0 y1 y2))
 | 0=>fun _ _ _ r h=>by simp [laws_heldInt64S.l0] at h
 | k+1=>by
  have ih0:=laws_heldInt64S.mono_l k
  ·intro y0 y1 y2
   unfold laws_heldInt64S.l0
   repeat' first
   | (with_reducible exact ih0 _ _ _)
   | (with_reducible exact LeO.refl _)
   | (with_reducible exact LeO.none _)
   | (with_reducible refine LeO.ite ?_ ?_)
   | (with_reducible refine LeO.bind ?_ (fun _=>?_))
   | exact ih0 _ _ _
   | exact LeO.none _
   | refine LeO.ite ?_ ?_
   | refine LeO.bind ?_ (fun _=>?_)
theorem laws_heldInt64S.mono: ∀a0 a1 k,LeO (laws_heldInt64S.f k a0 a1) (laws_heldInt64S.f (k+1) a0 a1):=by
 intro a0 a1 k
 have ih0:=laws_heldInt64S.mono_l k
 unfold laws_heldInt64S.f
 repeat' first
   | (with_reducible exact ih0 _ _ _)
   | (with_reducible exact LeO.refl _)
   | (with_reducible exact LeO.none _)
   | (with_reducible refine LeO.ite ?_ ?_)
   | (with_reducible refine LeO.bind ?_ (fun _=>?_))
   | exact ih0 _ _ _
   | exact LeO.none _
   | refine LeO.ite ?_ ?_
   | refine LeO.bind ?_ (fun _=>?_)
theorem laws_heldInt64S.calls (k:Nat) (A0:Option Addr) (c0:Nat) (l0:List Int) (a1:Int) (r:Int) (w:World) (hr0:Kd.C (Kd.int .i64) w A0 l0.length l0) (hc0:l0.length≤c0) (h:laws_heldInt64S.f k l0 a1=some r):
  Calls Try.prog 15 #[.slice A0 l0.length c0, .int .i64 a1] w fun e w'=>e= .returned (.int .i64 r)∧Drawn0 w w':=by
 have HR0:=q_ hr0
 have HC0:=q_ hc0
 clear hr0 hc0
 have H:(laws_heldInt64S.l0 k l0 a1 0)=some r:=h
 clear h
 have H':=q_ H
 clear H
 go_enter Try.func15,Try.ntmps15
 go_wp2
 go_loopg [1,5] k (fun kq v1 v5 w'=> ∃(ae:Int) (aa:Int),v1= .int .i64 ae∧v5= .int .i64 aa∧Aside0 (laws_heldInt64S.l0 kq l0 ae aa=some r)∧Aside0 (kq≤k)∧Drawn0 w w')
 case atStart=>exact⟨(a1),(0),rs_,rs_,H',⟨Nat.le_refl _⟩,by repeat (first | exact Drawn0.refl _ | apply Drawn0.step)⟩
 case round=>
  clear H'
  try clear c1
  try clear p2
  obtain⟨ae,aa,rfl,rfl,HA,HK1,⟨m1,rfl⟩⟩:=hrel
  cases gk with
  | zero=>exact absurd HA.out (by simp [laws_heldInt64S.l0])
  | succ k1=>
   have H:=HA.out
   clear HA
   simp only [laws_heldInt64S.l0] at H
   by_cases c3:aa < (l0.length:Int)
   ·rw [if_pos c3] at H
    have c3b0:decide (aa < (l0.length:Int))=true:=decide_eq_true c3
    clear c3
    by_cases c4:0≤aa
    ·rw [if_pos c4] at H
     have c4b0:decide (0≤aa)=true:=decide_eq_true c4
     clear c4
     by_cases c5:(rd l0 aa)=ae
     ·rw [if_pos c5] at H
      have c5b0:((rd l0 aa)==ae)=true:=beq_iff_eq.mpr c5
      have c5b1:((rd l0 aa) !=ae)=false:=bne_eq_false_iff_eq.mpr c5
      clear c5
      have H':=q_ H
      clear H
      have p109:0≤(aa:Int):=od_
      have q109:aa < (l0.length:Int):=od_
      obtain⟨af,e109,hx109_0⟩:=Kd.at_int HR0.out aa p109 q109
      cases e109
      replace p109:=eq_true p109
      replace q109:=eq_true q109
      go_wp2
      go_roundg k1
      case measure=>have:=HK1.out;omega
      case rel=>exact⟨(wrap64 (ae+1)),(wrap64 (aa+1)),rs_,rs_,H',⟨by have:=HK1.out;omega⟩,by repeat (first | exact Drawn0.refl _ | apply Drawn0.step)⟩
     ·rw [if_neg c5] at H
      have c5b0:((rd l0 aa)==ae)=false:=beq_eq_false_iff_ne.mpr c5
      have c5b1:((rd l0 aa) !=ae)=true:=bne_iff_ne.mpr c5
      obtain rfl:=Option.some.inj H
      have p109:0≤(aa:Int):=od_
      have q109:aa < (l0.length:Int):=od_
      obtain⟨af,e109,hx109_0⟩:=Kd.at_int HR0.out aa p109 q109
      cases e109
      replace p109:=eq_true p109
      replace q109:=eq_true q109
      go_wp2
      go_ret
      exact⟨by first | rfl | (simp;done) | (simp [*];done),by repeat (first | exact Drawn0.refl _ | apply Drawn0.step)⟩
    ·rw [if_neg c4] at H
     exact absurd H (by simp)
   ·rw [if_neg c3] at H
    have c3b0:decide (aa < (l0.length:Int))=false:=decide_eq_false c3
    clear c3
    obtain rfl:=Option.some.inj H
    go_wp2
    go_ret
    exact⟨by first | rfl | (simp;done) | (simp [*];done),by repeat (first | exact Drawn0.refl _ | apply Drawn0.step)⟩
def laws_szInt64SS.l0:Nat→List (List Int)→Int→Int→Option (Int)
 | 0,_,_,_=>none
 | k+1,x0,x1,x5=>if x5 < (x0.length:Int) then(if 0≤x5 then((laws_szInt64S.f (rd_L1 x0 x5) x1).bind fun aa=>(if aa < 0 then(some (-1)) else(laws_szInt64SS.l0 k x0 aa (wrap64 (x5+1))))) else(none)) else(some x1)
def laws_szInt64SS.f (k:Nat) (l0:List (List Int)) (a1:Int):Option (Int):=if(wrap64 (a1 - (l0.length:Int))) < 0 then(some (-1)) else(laws_szInt64SS.l0 k l0 (wrap64 (a1 - (l0.length:Int))) 0)
theorem laws_szInt64SS.mono_l: ∀k,(∀y0 y1 y2,LeO (laws_szInt64SS.l0 k y0 y1 y2) (laws_szInt64SS.l0 (k+1) y0 y1 y2))
 | 0=>fun _ _ _ r h=>by simp [laws_szInt64SS.l0] at h
 | k+1=>by
  have ih0:=laws_szInt64SS.mono_l k
  ·intro y0 y1 y2
   unfold laws_szInt64SS.l0
   repeat' first
   | (with_reducible exact ih0 _ _ _)
   | (with_reducible exact LeO.refl _)
   | (with_reducible exact LeO.none _)
   | (with_reducible refine LeO.ite ?_ ?_)
   | (with_reducible refine LeO.bind ?_ (fun _=>?_))
   | exact ih0 _ _ _
   | exact LeO.none _
   | refine LeO.ite ?_ ?_
   | refine LeO.bind ?_ (fun _=>?_)
theorem laws_szInt64SS.mono: ∀a0 a1 k,LeO (laws_szInt64SS.f k a0 a1) (laws_szInt64SS.f (k+1) a0 a1):=by
 intro a0 a1 k
 have ih0:=laws_szInt64SS.mono_l k
 unfold laws_szInt64SS.f
 repeat' first
   | (with_reducible exact ih0 _ _ _)
   | (with_reducible exact LeO.refl _)
   | (with_reducible exact LeO.none _)
   | (with_reducible refine LeO.ite ?_ ?_)
   | (with_reducible refine LeO.bind ?_ (fun _=>?_))
   | exact ih0 _ _ _
   | exact LeO.none _
   | refine LeO.ite ?_ ?_
   | refine LeO.bind ?_ (fun _=>?_)
theorem laws_szInt64SS.calls (k:Nat) (A0:Option Addr) (c0:Nat) (l0:List (List Int)) (a1:Int) (r:Int) (w:World) (hr0:Kd.C (Kd.slice 2 (Kd.int .i64)) w A0 l0.length l0) (hc0:l0.length≤c0) (h:laws_szInt64SS.f k l0 a1=some r):
  Calls Try.prog 21 #[.slice A0 l0.length c0, .int .i64 a1] w fun e w'=>e= .returned (.int .i64 r)∧Drawn0 w w':=by
 have HR0:=q_ hr0
 have HC0:=q_ hc0
 clear hr0 hc0
 have H:(if(wrap64 (a1 - (l0.length:Int))) < 0 then(some (-1)) else(laws_szInt64SS.l0 k l0 (wrap64 (a1 - (l0.length:Int))) 0))=some r:=h
 clear h
 by_cases c3:(wrap64 (a1 - (l0.length:Int))) < 0
 ·rw [if_pos c3] at H
  have c3b0:decide ((wrap64 (a1 - (l0.length:Int))) < 0)=true:=decide_eq_true c3
  clear c3
  obtain rfl:=Option.some.inj H
  go_enter Try.func21,Try.ntmps21
  go_wp2
  go_ret
  exact⟨by first | rfl | (simp;done) | (simp [*];done),by repeat (first | exact Drawn0.refl _ | apply Drawn0.step)⟩
 ·rw [if_neg c3] at H
  have c3b0:decide ((wrap64 (a1 - (l0.length:Int))) < 0)=false:=decide_eq_false c3
  clear c3
  have H':=q_ H
  clear H
  go_enter Try.func21,Try.ntmps21
  go_wp2
  go_loopg [1,5] k (fun kq v1 v5 w'=> ∃(af:Int) (aa:Int),v1= .int .i64 af∧v5= .int .i64 aa∧Aside0 (laws_szInt64SS.l0 kq l0 af aa=some r)∧Aside0 (kq≤k)∧Drawn0 w w')
  case atStart=>exact⟨(wrap64 (a1 - (l0.length:Int))),(0),rs_,rs_,H',⟨Nat.le_refl _⟩,by repeat (first | exact Drawn0.refl _ | apply Drawn0.step)⟩
  case round=>
   clear H'
   try clear c2
   try clear p2
   try clear c3
   try clear c3b0
   obtain⟨af,aa,rfl,rfl,HA,HK1,⟨m1,rfl⟩⟩:=hrel
   cases gk with
   | zero=>exact absurd HA.out (by simp [laws_szInt64SS.l0])
   | succ k1=>
    have H:=HA.out
    clear HA
    simp only [laws_szInt64SS.l0] at H
    by_cases c4:aa < (l0.length:Int)
    ·rw [if_pos c4] at H
     have c4b0:decide (aa < (l0.length:Int))=true:=decide_eq_true c4
     clear c4
     by_cases c5:0≤aa
     ·rw [if_pos c5] at H
      have c5b0:decide (0≤aa)=true:=decide_eq_true c5
      clear c5
      replace H:=Option.bind_eq_some_iff.mp H
      obtain⟨ae,A60,H⟩:=H
      replace H:(if ae < 0 then(some (-1)) else(laws_szInt64SS.l0 k1 l0 ae (wrap64 (aa+1))))=some r:=H
      have A6:=q_ A60
      clear A60
      by_cases c7:ae < 0
      ·rw [if_pos c7] at H
       have c7b0:decide (ae < 0)=true:=decide_eq_true c7
       clear c7
       obtain rfl:=Option.some.inj H
       have p110:0≤(aa:Int):=od_
       have q110:aa < (l0.length:Int):=od_
       obtain⟨ak,ag,ah,e110,hx110_0,hl110_0,hi110_0⟩:=at_L1 HR0.out aa p110 q110
       cases e110
       have HR110_0:=q_ hi110_0
       have HC110_0:=q_ hl110_0
       clear hi110_0 hl110_0
       replace p110:=eq_true p110
       replace q110:=eq_true q110
       go_wp2_with (first | ((with_reducible refine gate_callee (f:=37) rfl ?_);refine gL_ 23 Try.func37 #[.slice ag (rd_L1 l0 aa).length ah, .int .i64 af] ?_;(with_reducible refine(laws_szInt64S.calls _ _ (rd_L1 l0 aa) af ae _ ?ai ?aj A6.out).mono ?_);(case ai=>repeat (first | exact HR110_0.out | (with_reducible refine Kd.C_alloc ?_ _) | (with_reducible refine Kd.C_drewN ?_ _) | (with_reducible refine Kd.C_drew ?_)));(case aj=>exact HC110_0.out);rintro e w' ⟨rfl,⟨nd,rfl⟩⟩;refine⟨_,rfl,?_⟩))
       go_ret
       exact⟨by first | rfl | (simp;done) | (simp [*];done),by repeat (first | exact Drawn0.refl _ | apply Drawn0.step)⟩
      ·rw [if_neg c7] at H
       have c7b0:decide (ae < 0)=false:=decide_eq_false c7
       clear c7
       have H':=q_ H
       clear H
       have p110:0≤(aa:Int):=od_
       have q110:aa < (l0.length:Int):=od_
       obtain⟨ak,ag,ah,e110,hx110_0,hl110_0,hi110_0⟩:=at_L1 HR0.out aa p110 q110
       cases e110
       have HR110_0:=q_ hi110_0
       have HC110_0:=q_ hl110_0
       clear hi110_0 hl110_0
       replace p110:=eq_true p110
       replace q110:=eq_true q110
       go_wp2_with (first | ((with_reducible refine gate_callee (f:=37) rfl ?_);refine gL_ 23 Try.func37 #[.slice ag (rd_L1 l0 aa).length ah, .int .i64 af] ?_;(with_reducible refine(laws_szInt64S.calls _ _ (rd_L1 l0 aa) af ae _ ?ai ?aj A6.out).mono ?_);(case ai=>repeat (first | exact HR110_0.out | (with_reducible refine Kd.C_alloc ?_ _) | (with_reducible refine Kd.C_drewN ?_ _) | (with_reducible refine Kd.C_drew ?_)));(case aj=>exact HC110_0.out);rintro e w' ⟨rfl,⟨nd,rfl⟩⟩;refine⟨_,rfl,?_⟩))
       go_roundg k1
       case measure=>have:=HK1.out;omega
       case rel=>exact⟨(ae),(wrap64 (aa+1)),rs_,rs_,H',⟨by have:=HK1.out;omega⟩,by repeat (first | exact Drawn0.refl _ | apply Drawn0.step)⟩
     ·rw [if_neg c5] at H
      exact absurd H (by simp)
    ·rw [if_neg c4] at H
     have c4b0:decide (aa < (l0.length:Int))=false:=decide_eq_false c4
     clear c4
     obtain rfl:=Option.some.inj H
     go_wp2
     go_ret
     exact⟨by first | rfl | (simp;done) | (simp [*];done),by repeat (first | exact Drawn0.refl _ | apply Drawn0.step)⟩
end Go.Proofs.Ytmcddlpgffbmpaa.Pr
end
section
namespace Go.Proofs.Ytmcddlpgffbmpaa.La
open Go.RowKit Go.Proofs.YtmcddlpgffbmpaaW.PrintWords Go.Proofs.YtmcddlpgffbmpaaW.PrintMore Go.Proofs.Ytmcddlpgffbmpaa.Ma Go.Proofs.Ytmcddlpgffbmpaa.Pr
def count (n:Int) (m:Nat):List Int:=(List.range m).map fun i:Nat=>n+(i:Int)
theorem count_length (n:Int) (m:Nat):(count n m).length=m:=by simp [count]
theorem count_at (n:Int) (m i:Nat) (h:i < m):(count n m).getD i 0=n+i:=by simp [count,h]
theorem markI (l:List Int) (n:Int) (hl:l.length≤1152921504606846976) (h0:0≤n) (h1:n≤1152921504606846976):Ev (fun k=>laws_markInt64S.f k l n) (n+l.length,count n l.length):=by
 have key: ∀(m i:Nat),i+m=l.length→Ev (fun k=>laws_markInt64S.l0 k (count n i++l.drop i) (n+i) i) (n+l.length,count n l.length):=by
  intro m
  induction m with
  | zero=>
   intro i hi
   refine evstep (fun k=>by rw [laws_markInt64S.l0]) (evneg (by simp [count_length];omega) (evc ?_))
   have e:i=l.length:=by omega
   subst e
   rw [List.drop_of_length_le (Nat.le_refl _),List.append_nil]
  | succ m ih=>
   intro i hi
   refine evstep (fun k=>by rw [laws_markInt64S.l0]) (evpos (by simp [count_length];omega) (evpos (by omega) ?_))
   rw [w64 (by omega) (by omega),w64 (by omega) (by omega),Int.toNat_natCast]
   have hlt:i < l.length:=by omega
   have e:(count n i++l.drop i).set i (n+i)=count n (i+1)++l.drop (i+1):=by
    have h2:=set_append_nat (count n i) (l.drop (i+1)) (n+i) l[i]
    rw [count_length] at h2
    rw [List.drop_eq_getElem_cons hlt,h2]
    simp [count,List.range_succ]
   rw [e]
   have:=ih (i+1) (by omega)
   rw [show n+((i+1:Nat):Int)=n+i+1 from by omega] at this
   exact this
 have:=key l.length 0 (by omega)
 simpa [laws_markInt64S.f,count] using this
end Go.Proofs.Ytmcddlpgffbmpaa.La
end
section
namespace Go.Proofs.YtmcddlpgffbmpaaW.PrintWords
open Go.ChangeShapes Go.WideShapes
end Go.Proofs.YtmcddlpgffbmpaaW.PrintWords
end
section
namespace Go.Proofs.Ytmcddlpgffbmpaa.Op
open Go.ChangeShapes Go.WideShapes Go.ChangeAt Go.RowKit Go.Deep Go.Joins Go.Proofs.YtmcddlpgffbmpaaW.PrintWords
def Opens (P:Program) (t:TypeId) {α:Type} (d:Kd α) (G:α→Prop):Prop:=
 ∀(H:Type) (enc:TypeId × Value→H) (w:World) (base:Nat) (held:Bool) (fuel:Nat) (cs:List Value) (x:DataW H × List MemPlace),
  DataW.trod enc P w base (fun _=>true) held fuel t cs=some x→ ∃a,d.K w a cs∧G a
def GoodInt (k:IntKind) (n:Int):Prop:=(Lit.int k n).wf=true
def GoodList {α:Type} (G:α→Prop) (l:List α):Prop:=l.length≤maxLen∧ ∀x ∈ l,G x
theorem opens_int {P:Program} {t:TypeId} {k:IntKind} (ht:P.underlying t=some (.int k)):Opens P t (Kd.int k) (GoodInt k):=by
 intro H enc w base held fuel cs x h
 obtain⟨n,rfl,_,hw⟩:=DataW.trod_int ht h
 exact⟨n,rfl,hw⟩
theorem opens_slice {P:Program} {t e:TypeId} {α:Type} [Inhabited α] {d:Kd α} {G:α→Prop} (ht:P.underlying t=some (.slice e)) (hc:P.cellsOf e=d.sz) (he:Opens P e d G):
  Opens P t (Kd.slice e d) (GoodList G):=by
 intro H enc w base held fuel cs x h
 rcases open_slice ht h with ⟨rfl,_⟩ | ⟨a,len,cap,m,n,D,Pl,rfl,hb,hl,hm,hmm,_,hx⟩
 ·exact⟨[],⟨none,0,rfl,Nat.le_refl _,⟨rfl,Nat.zero_le _,fun hn=>absurd hn (Nat.lt_irrefl 0)⟩⟩,⟨Nat.zero_le _,fun x hx=>by cases hx⟩⟩
 ·simp only [if_true] at hmm
  subst hmm
  have each: ∀i,i < m→ ∃y:α,(∃c,c.length=d.sz∧d.K w y c∧ ∀j u,c[j]?=some u→w.cell? (a.add (i*d.sz+j))=some u)∧G y:=by
   intro i hi
   obtain⟨cs',h1,h2⟩:=hx i hi
   obtain⟨_,hlen,hcell⟩:=World.cells?_some h1
   obtain⟨y,hy,hg⟩:=he H enc w base held n cs' _ h2
   rw [hc] at hlen hcell
   refine⟨y,⟨cs',hlen,hy,fun j u hu=>?_⟩,hg⟩
   have hj:j < d.sz:=by rw [← hlen];exact(List.getElem?_eq_some_iff.1 hu).1
   rw [← hu, ← hcell j hj]
   congr 1
   unfold Addr.add
   by_cases h1:i*d.sz=0 <;> by_cases h2:j=0 <;> simp [h1,h2,Nat.add_assoc]
  obtain⟨Y,hY⟩:=choose_lt each
  have hmax:m≤9223372036854775807:=by unfold maxLen at hm;omega
  refine⟨(List.range len).map Y,⟨some a,m,by simp,by simpa using hl,?_⟩,by simp;omega,?_⟩
  ·refine⟨rfl,by simp;omega,fun _=>⟨a,rfl,fun j p hj=>?_⟩⟩
   have hjl:j < len:=by have:=(List.getElem?_eq_some_iff.1 hj).1;simpa using this
   have hp:p=Y j:=by
    rw [List.getElem?_map,List.getElem?_range hjl] at hj
    simpa using hj.symm
   subst hp
   exact(hY j (by omega)).1
  ·intro y hy
   obtain⟨j,hj,rfl⟩:=List.mem_map.1 hy
   exact(hY j (by have:=List.mem_range.1 hj;omega)).2
theorem opens_struct2 {P:Program} {t:TypeId} {f0 f1:Field} {α β γ:Type} {d0:Kd α} {d1:Kd β} {G0:α→Prop} {G1:β→Prop} (ht:P.underlying t=some (.struct #[f0,f1]))
  (h0:f0.offset=0∧P.cellsOf f0.type=d0.sz) (h1:f1.offset=d0.sz∧P.cellsOf f1.type=d1.sz) (hC:P.cellsOf t=d0.sz+d1.sz)
  (he0:Opens P f0.type d0 G0) (he1:Opens P f1.type d1 G1) (mk:α × β→γ) (d:Kd γ) (hd: ∀w x cs,(Kd.pair d0 d1).K w x cs→d.K w (mk x) cs) (G:γ→Prop) (hG: ∀x,G0 x.1→G1 x.2→G (mk x)):Opens P t d G:=by
 intro H enc w base held fuel cs x h
 obtain⟨y0,y1,n,_,hl,t0,t1⟩:=trod_struct2 ht h
 rw [h0.1,h0.2] at t0
 rw [h1.1,h1.2] at t1
 obtain⟨a,ha,ga⟩:=he0 H enc w base held n _ _ t0
 obtain⟨b,hb,gb⟩:=he1 H enc w base held n _ _ t1
 refine⟨mk (a,b),hd w (a,b) cs ⟨_,_,?_,ha,hb⟩,hG (a,b) ga gb⟩
 rw [hC] at hl
 rw [List.drop_zero]
 have:(List.drop d0.sz cs).take d1.sz=List.drop d0.sz cs:=List.take_of_length_le (by rw [List.length_drop];omega)
 rw [this,List.take_append_drop]
section
variable {P:Program} {W:World} {H:Type} {enc:TypeId × Value→H} {base:Nat} {held:Bool} {t:TypeId} {v:Value} {dd:DataW H} {ps:List MemPlace} {r:Reach} {b0:Nat}
theorem arg_struct {fs:Array Field} {α:Type} {d:Kd α} {G:α→Prop} (ht:P.underlying t=some (.struct fs)) (he:Opens P t d G) (hv:Value.okWide P W r b0 t v) (h:DataW.Trod enc P W base (fun _=>true) held t v dd ps):
  ∃a cs,v= .agg cs∧d.K W a cs.toList∧G a:=by
 obtain⟨cs,rfl,_⟩:=okWide_struct ht hv
 obtain⟨fuel,hf⟩:=h
 obtain⟨a,ha,hg⟩:=he H enc W base held fuel _ _ hf
 exact⟨a,cs,rfl,by simpa [Value.cells] using ha,hg⟩
theorem trod_blocks (h:DataW.Trod enc P W base (fun _=>true) held t v dd ps): ∀x ∈ ps,x.block < W.heap.size:=by
 obtain⟨m,hm⟩:=h
 exact DataW.trod_lt m _ _ _ hm
theorem cells_slice_slice {e0 e1:Nat} {α β:Type} {d0:Kd α} {d1:Kd β} {w:World} {x:List α × List β} {cs:Array Value} (h:(Kd.pair (Kd.slice e0 d0) (Kd.slice e1 d1)).K w x cs.toList):
  ∃A0 c0 A1 c1,cs= #[.slice A0 x.1.length c0, .slice A1 x.2.length c1]∧x.1.length≤c0∧d0.C w A0 x.1.length x.1∧x.2.length≤c1∧d1.C w A1 x.2.length x.2:=by
 obtain⟨c0,c1,hcs,⟨A,c,rfl,hl,hr⟩,A',c',rfl,hl',hr'⟩:=h
 exact⟨A,c,A',c',by cases cs;simp at hcs;simp [hcs],hl,hr,hl',hr'⟩
end
end Go.Proofs.Ytmcddlpgffbmpaa.Op
end
section
namespace Go.Proofs.Ytmcddlpgffbmpaa.Pr
open Go.RowKit Go.Proofs.YtmcddlpgffbmpaaW.PrintWords Go.Proofs.YtmcddlpgffbmpaaW.PrintLast Go.Proofs.YtmcddlpgffbmpaaW.PrintMore
attribute [local go_sem] max2_int min2_int max_two min_two max_three min_three max_four min_four
def laws_szGame.f (k:Nat) (af:List (List Int)) (ag:List (List Int)) (a1:Int):Option (Int):=(laws_szInt64SS.f k af a1).bind fun aa=>(if aa < 0 then(some (-1)) else((laws_szInt64SS.f k ag aa).bind fun ae=>(if ae < 0 then(some (-1)) else(some ae))))
theorem laws_szGame.mono: ∀a0 a1 a2 k,LeO (laws_szGame.f k a0 a1 a2) (laws_szGame.f (k+1) a0 a1 a2):=by
 intro a0 a1 a2 k
 unfold laws_szGame.f
 repeat' first
   | (with_reducible exact laws_szInt64SS.mono _ _ _)
   | (with_reducible exact LeO.refl _)
   | (with_reducible exact LeO.none _)
   | (with_reducible refine LeO.ite ?_ ?_)
   | (with_reducible refine LeO.bind ?_ (fun _=>?_))
   | exact laws_szInt64SS.mono _ _ _
   | exact LeO.none _
   | refine LeO.ite ?_ ?_
   | refine LeO.bind ?_ (fun _=>?_)
theorem laws_szGame.calls (k:Nat) (aq:Option Addr) (au:Nat) (aa:List (List Int)) (av:Option Addr) (aw:Nat) (ag:List (List Int)) (a1:Int) (r:Int) (w:World) (ax:Kd.C (Kd.slice 2 (Kd.int .i64)) w aq aa.length aa) (ay:aa.length≤au) (az:Kd.C (Kd.slice 2 (Kd.int .i64)) w av ag.length ag) (aA:ag.length≤aw) (h:laws_szGame.f k aa ag a1=some r):
  Calls Try.prog 7 #[.agg #[.slice aq aa.length au, .slice av ag.length aw], .int .i64 a1] w fun e w'=>e= .returned (.int .i64 r)∧Below w.heap.size w w':=by
 have hu27:=Try.underlying27
 have HR0_0:=q_ ax
 have HC0_0:=q_ ay
 clear ax ay
 have HR0_1:=q_ az
 have HC0_1:=q_ aA
 clear az aA
 have HB:=q_ (Below.refl w.heap.size w)
 have H:((laws_szInt64SS.f k aa a1).bind fun ah=>(if ah < 0 then(some (-1)) else((laws_szInt64SS.f k ag ah).bind fun ai=>(if ai < 0 then(some (-1)) else(some ai)))))=some r:=h
 clear h
 replace H:=Option.bind_eq_some_iff.mp H
 obtain⟨ah,A30,H⟩:=H
 replace H:(if ah < 0 then(some (-1)) else((laws_szInt64SS.f k ag ah).bind fun ai=>(if ai < 0 then(some (-1)) else(some ai))))=some r:=H
 have A3:=q_ A30
 clear A30
 by_cases c4:ah < 0
 ·rw [if_pos c4] at H
  have c4b0:decide (ah < 0)=true:=decide_eq_true c4
  clear c4
  obtain rfl:=Option.some.inj H
  go_enter Try.func7,Try.ntmps7
  go_wp2_with (first | ((with_reducible refine gate_dst (N:=2) rfl ?_);refine box_event ?hg (N:=2) ?hd (cs:= #[.slice aq aa.length au, .slice av ag.length aw]) (t:=27) ?hr ?_;(case hd=>rfl);(case hg=>rfl);(case hr=>first | (go_simp;done) | (go_simp;rfl));intro ae hg w5 hbox hb;have af:=q_ (hbox);have aC:=q_ ((by rw [hg];exact bz_:w.heap.size≤ae));have aD:=q_ ((by rw [hg];exact bz_:w.heap.size≤ae));replace HB:=q_ (bs_ hb);clear hb hbox hg;have aR:w5.cell? ⟨ae,0,none⟩=some (.slice aq aa.length au):=(blk_cell af.out 0).trans rfl;have aT:w5.cell? ⟨ae,1,none⟩=some (.slice av ag.length aw):=(blk_cell af.out 1).trans rfl;have aU:=blk_frozen af.out 0;have aV:=blk_frozen af.out 1) | ((with_reducible refine gate_callee (f:=21) rfl ?_);refine gL_ 8 Try.func21 #[.slice aq aa.length au, .int .i64 a1] ?_;(with_reducible refine(laws_szInt64SS.calls k _ _ aa a1 ah _ ?aj ?ak A3.out).mono ?_);(case aj=>exact cb_ HR0_0.out HB.out);(case ak=>exact HC0_0.out);rintro e w' ⟨rfl,⟨nd,rfl⟩⟩;refine⟨_,rfl,?_⟩))
  go_ret
  exact⟨by first | rfl | (simp [errW_none,errW_some] <;> rfl) | (simp [*,errW_none,errW_some] <;> rfl),hb_⟩
 ·rw [if_neg c4] at H
  have c4b0:decide (ah < 0)=false:=decide_eq_false c4
  clear c4
  replace H:=Option.bind_eq_some_iff.mp H
  obtain⟨ai,A70,H⟩:=H
  replace H:(if ai < 0 then(some (-1)) else(some ai))=some r:=H
  have A7:=q_ A70
  clear A70
  by_cases c8:ai < 0
  ·rw [if_pos c8] at H
   have c8b0:decide (ai < 0)=true:=decide_eq_true c8
   clear c8
   obtain rfl:=Option.some.inj H
   go_enter Try.func7,Try.ntmps7
   go_wp2_with (first | ((with_reducible refine gate_dst (N:=2) rfl ?_);refine box_event ?hg (N:=2) ?hd (cs:= #[.slice aq aa.length au, .slice av ag.length aw]) (t:=27) ?hr ?_;(case hd=>rfl);(case hg=>rfl);(case hr=>first | (go_simp;done) | (go_simp;rfl));intro ae hg w9 hbox hb;have af:=q_ (hbox);have aC:=q_ ((by rw [hg];exact bz_:w.heap.size≤ae));have aD:=q_ ((by rw [hg];exact bz_:w.heap.size≤ae));replace HB:=q_ (bs_ hb);clear hb hbox hg;have aG:w9.cell? ⟨ae,0,none⟩=some (.slice aq aa.length au):=(blk_cell af.out 0).trans rfl;have aH:w9.cell? ⟨ae,1,none⟩=some (.slice av ag.length aw):=(blk_cell af.out 1).trans rfl;have aI:=blk_frozen af.out 0;have aJ:=blk_frozen af.out 1) | ((with_reducible refine gate_callee (f:=21) rfl ?_);refine gL_ 8 Try.func21 #[.slice aq aa.length au, .int .i64 a1] ?_;(with_reducible refine(laws_szInt64SS.calls k _ _ aa a1 ah _ ?aj ?ak A3.out).mono ?_);(case aj=>exact cb_ HR0_0.out HB.out);(case ak=>exact HC0_0.out);rintro e w' ⟨rfl,⟨nd,rfl⟩⟩;refine⟨_,rfl,?_⟩) | ((with_reducible refine gate_callee (f:=21) rfl ?_);refine gL_ 14 Try.func21 #[.slice av ag.length aw, .int .i64 ah] ?_;(with_reducible refine(laws_szInt64SS.calls k _ _ ag ah ai _ ?aj ?ak A7.out).mono ?_);(case aj=>repeat (first | exact(Kd.C_below HR0_1.out hb_) | (with_reducible refine Kd.C_alloc ?_ _) | (with_reducible refine Kd.C_drewN ?_ _) | (with_reducible refine Kd.C_drew ?_)));(case ak=>exact HC0_1.out);rintro e w' ⟨rfl,⟨nd,rfl⟩⟩;refine⟨_,rfl,?_⟩))
   go_ret
   exact⟨by first | rfl | (simp [errW_none,errW_some] <;> rfl) | (simp [*,errW_none,errW_some] <;> rfl),hb_⟩
  ·rw [if_neg c8] at H
   have c8b0:decide (ai < 0)=false:=decide_eq_false c8
   clear c8
   obtain rfl:=Option.some.inj H
   go_enter Try.func7,Try.ntmps7
   go_wp2_with (first | ((with_reducible refine gate_dst (N:=2) rfl ?_);refine box_event ?hg (N:=2) ?hd (cs:= #[.slice aq aa.length au, .slice av ag.length aw]) (t:=27) ?hr ?_;(case hd=>rfl);(case hg=>rfl);(case hr=>first | (go_simp;done) | (go_simp;rfl));intro ae hg w11 hbox hb;have af:=q_ (hbox);have aC:=q_ ((by rw [hg];exact bz_:w.heap.size≤ae));have aD:=q_ ((by rw [hg];exact bz_:w.heap.size≤ae));replace HB:=q_ (bs_ hb);clear hb hbox hg;have aK:w11.cell? ⟨ae,0,none⟩=some (.slice aq aa.length au):=(blk_cell af.out 0).trans rfl;have aM:w11.cell? ⟨ae,1,none⟩=some (.slice av ag.length aw):=(blk_cell af.out 1).trans rfl;have aN:=blk_frozen af.out 0;have aQ:=blk_frozen af.out 1) | ((with_reducible refine gate_callee (f:=21) rfl ?_);refine gL_ 8 Try.func21 #[.slice aq aa.length au, .int .i64 a1] ?_;(with_reducible refine(laws_szInt64SS.calls k _ _ aa a1 ah _ ?aj ?ak A3.out).mono ?_);(case aj=>exact cb_ HR0_0.out HB.out);(case ak=>exact HC0_0.out);rintro e w' ⟨rfl,⟨nd,rfl⟩⟩;refine⟨_,rfl,?_⟩) | ((with_reducible refine gate_callee (f:=21) rfl ?_);refine gL_ 14 Try.func21 #[.slice av ag.length aw, .int .i64 ah] ?_;(with_reducible refine(laws_szInt64SS.calls k _ _ ag ah ai _ ?aj ?ak A7.out).mono ?_);(case aj=>repeat (first | exact(Kd.C_below HR0_1.out hb_) | (with_reducible refine Kd.C_alloc ?_ _) | (with_reducible refine Kd.C_drewN ?_ _) | (with_reducible refine Kd.C_drew ?_)));(case ak=>exact HC0_1.out);rintro e w' ⟨rfl,⟨nd,rfl⟩⟩;refine⟨_,rfl,?_⟩))
   go_ret
   exact⟨by first | rfl | (simp [errW_none,errW_some] <;> rfl) | (simp [*,errW_none,errW_some] <;> rfl),hb_⟩
def laws_toInt64SS.l0:Nat→List (List Int)→List (List Int)→Int→Option ((List (List Int)))
 | 0,_,_,_=>none
 | k+1,x0,x3,x4=>if x4 < (x0.length:Int) then(if 0≤x4 then((laws_toInt64S.f k (rd_L1 x0 x4)).bind fun aa=>(if x4 < (x3.length:Int) then(laws_toInt64SS.l0 k x0 (x3.set (x4:Int).toNat aa) (wrap64 (x4+1))) else(none))) else(none)) else(some x3)
def laws_toInt64SS.f (k:Nat) (l0:List (List Int)):Option ((List (List Int))):=if 0≤(l0.length:Int) then(if((l0.length:Int):Int).toNat≤11728124029610 then(laws_toInt64SS.l0 k l0 (List.replicate ((l0.length:Int):Int).toNat []) 0) else(none)) else(none)
theorem laws_toInt64SS.mono_l: ∀k,(∀y0 y1 y2,LeO (laws_toInt64SS.l0 k y0 y1 y2) (laws_toInt64SS.l0 (k+1) y0 y1 y2))
 | 0=>fun _ _ _ r h=>by simp [laws_toInt64SS.l0] at h
 | k+1=>by
  have ih0:=laws_toInt64SS.mono_l k
  ·intro y0 y1 y2
   unfold laws_toInt64SS.l0
   repeat' first
   | (with_reducible exact ih0 _ _ _)
   | (with_reducible exact laws_toInt64S.mono _ _)
   | (with_reducible exact LeO.refl _)
   | (with_reducible exact LeO.none _)
   | (with_reducible refine LeO.ite ?_ ?_)
   | (with_reducible refine LeO.bind ?_ (fun _=>?_))
   | exact ih0 _ _ _
   | exact laws_toInt64S.mono _ _
   | exact LeO.none _
   | refine LeO.ite ?_ ?_
   | refine LeO.bind ?_ (fun _=>?_)
theorem laws_toInt64SS.mono: ∀a0 k,LeO (laws_toInt64SS.f k a0) (laws_toInt64SS.f (k+1) a0):=by
 intro a0 k
 have ih0:=laws_toInt64SS.mono_l k
 unfold laws_toInt64SS.f
 repeat' first
   | (with_reducible exact ih0 _ _ _)
   | (with_reducible exact laws_toInt64S.mono _ _)
   | (with_reducible exact LeO.refl _)
   | (with_reducible exact LeO.none _)
   | (with_reducible refine LeO.ite ?_ ?_)
   | (with_reducible refine LeO.bind ?_ (fun _=>?_))
   | exact ih0 _ _ _
   | exact laws_toInt64S.mono _ _
   | exact LeO.none _
   | refine LeO.ite ?_ ?_
   | refine LeO.bind ?_ (fun _=>?_)
theorem laws_toInt64SS.calls (k:Nat) (A0:Option Addr) (c0:Nat) (l0:List (List Int)) (r:List (List Int)) (w:World) (hr0:Kd.C (Kd.slice 2 (Kd.int .i64)) w A0 l0.length l0) (hc0:l0.length≤c0) (h:laws_toInt64SS.f k l0=some r):
  Calls Try.prog 26 #[.slice A0 l0.length c0] w fun e w'=> ∃v0_:Value,e= .returned (v0_)∧Kd.S (Kd.slice 2 (Kd.int .i64)) 29 w' w.heap.size (fun _=>True) v0_ r∧Below w.heap.size w w':=by
 have HR0:=q_ hr0
 have HC0:=q_ hc0
 clear hr0 hc0
 have HB:=q_ (Below.refl w.heap.size w)
 have H:(if 0≤(l0.length:Int) then(if((l0.length:Int):Int).toNat≤11728124029610 then(laws_toInt64SS.l0 k l0 (List.replicate ((l0.length:Int):Int).toNat []) 0) else(none)) else(none))=some r:=h
 clear h
 by_cases c2:0≤(l0.length:Int)
 ·rw [if_pos c2] at H
  have c2b0:=eq_true c2
  have c2b1:decide (0≤(l0.length:Int))=true:=decide_eq_true c2
  clear c2
  by_cases c3:((l0.length:Int):Int).toNat≤11728124029610
  ·rw [if_pos c3] at H
   have c3b0:=eq_true c3
   have c3b1:decide (((l0.length:Int):Int).toNat≤11728124029610)=true:=decide_eq_true c3
   clear c3
   obtain⟨aq,hy115⟩: ∃y_:List (List Int),y_=(List.replicate ((l0.length:Int):Int).toNat []):=⟨_,rfl⟩
   replace H:(laws_toInt64SS.l0 k l0 aq 0)=some r:=by first | (rw [hy115];with_reducible exact H) | (have H2_:=(Option.bind_some _ _).symm.trans H;rw [hy115];with_reducible exact H2_) | (have H2_:=(Option.bind_some _ _).symm.trans H;with_reducible exact H2_) | with_reducible exact H | (rw [hy115];exact H) | exact H
   have ak:=q_ hy115
   clear hy115
   have H':=q_ H
   clear H
   go_enter Try.func26,Try.ntmps26
   go_wp2_with (first | ((with_reducible refine gate_dst (N:=7) rfl ?_);refine Kd.S_make (Kd.slice 2 (Kd.int .i64)) _ 29 rfl (N:=7) rfl 25 _ _ rfl (l0.length:Int) rfl rfl Try.underlying25 (.slice none 0 0) 24 info29 rfl (by decide) (by omega) [] (ok:=fun _=>True) (okp:=fun _=>True) ⟨_,rfl,Kd.R_nil _ _ _ _ _⟩ (fun _ hk=>hk) trivial od_ (Nat.le_trans (Nat.mul_le_mul_right _ (od_:(l0.length:Int).toNat≤11728124029610)) (by omega)) (Below.refl _ _) (Nat.le_refl _) ?_;intro aG w4 ho5 hb hg_ hnew_;clear hg_ hnew_;(first | rw [← ak.out] at ho5 | (simp only [Int.reduceToNat] at ho5;rw [← ak.out] at ho5));have az:=q_ (Kd.S_lower ho5 bz_);replace HB:=q_ (bs_ hb);clear hb ho5))
   go_loopg [4] k (fun kq v4 w'=> ∃(af:List (List Int)) (aa:Int),v4= .int .i64 aa∧Aside0 (laws_toInt64SS.l0 kq l0 af aa=some r)∧Aside0 (kq≤k)∧Aside0 (Kd.S (Kd.slice 2 (Kd.int .i64)) 29 w' w.heap.size (fun _=>True) aG af)∧Aside0 (Below w.heap.size w w'))
   case atStart=>exact⟨(aq),(0),rs_,H',⟨Nat.le_refl _⟩,⟨so_ az.out⟩,⟨hb_⟩⟩
   case round=>
    clear H'
    try clear c2
    try clear c2b0
    try clear c2b1
    try clear p2
    try clear c3
    try clear c3b0
    try clear c3b1
    obtain⟨af,aa,rfl,HA,HK1,ae,HB⟩:=hrel
    cases gk with
    | zero=>exact absurd HA.out (by simp [laws_toInt64SS.l0])
    | succ k1=>
     have H:=HA.out
     clear HA
     simp only [laws_toInt64SS.l0] at H
     by_cases c6:aa < (l0.length:Int)
     ·rw [if_pos c6] at H
      have c6b0:decide (aa < (l0.length:Int))=true:=decide_eq_true c6
      clear c6
      by_cases c7:0≤aa
      ·rw [if_pos c7] at H
       have c7b0:decide (0≤aa)=true:=decide_eq_true c7
       clear c7
       replace H:=Option.bind_eq_some_iff.mp H
       obtain⟨ah,A80,H⟩:=H
       replace H:(if aa < (af.length:Int) then(laws_toInt64SS.l0 k1 l0 (af.set (aa:Int).toNat ah) (wrap64 (aa+1))) else(none))=some r:=H
       have A8:=q_ A80
       clear A80
       by_cases c9:aa < (af.length:Int)
       ·rw [if_pos c9] at H
        have c9b0:decide (aa < (af.length:Int))=true:=decide_eq_true c9
        clear c9
        obtain⟨aj,hy122⟩: ∃y_:List (List Int),y_=(af.set (aa:Int).toNat ah):=⟨_,rfl⟩
        replace H:(laws_toInt64SS.l0 k1 l0 aj (wrap64 (aa+1)))=some r:=by first | (rw [hy122];with_reducible exact H) | (have H2_:=(Option.bind_some _ _).symm.trans H;rw [hy122];with_reducible exact H2_) | (have H2_:=(Option.bind_some _ _).symm.trans H;with_reducible exact H2_) | with_reducible exact H | (rw [hy122];exact H) | exact H
        have aA:=q_ hy122
        clear hy122
        have H':=q_ H
        clear H
        have p118:0≤(aa:Int):=od_
        have q118:aa < (l0.length:Int):=od_
        obtain⟨aH,au,av,e118,hx118_0,hl118_0,hi118_0⟩:=at_L1 HR0.out aa p118 q118
        cases e118
        replace hx118_0:=(HB.out.cell (World.block_lt_of_cell? w _ hx118_0)).trans hx118_0
        have HR118_0:=q_ hi118_0
        have HC118_0:=q_ hl118_0
        clear hi118_0 hl118_0
        replace p118:=eq_true p118
        replace q118:=eq_true q118
        go_wp2_with (first | ((with_reducible refine gate_callee (f:=38) rfl ?_);refine gL_ 20 Try.func38 #[.slice au (rd_L1 l0 aa).length av] ?_;(with_reducible refine(laws_toInt64S.calls k1 _ _ (rd_L1 l0 aa) ah _ ?aC ?aD A8.out).mono ?_);(case aC=>exact cb_ HR118_0.out HB.out);(case aD=>exact HC118_0.out);rintro e w11 ⟨ai,rfl,ho0,hb⟩;refine⟨_,rfl,?_⟩;replace ae:=q_ (Kd.S_elder' (so_ ae.out) (Kd.R_base ho0) hb);have ag:=q_ (Kd.R_lower ho0 bz_);replace HB:=q_ (bs_ hb);(try clear hb);(try clear hb2);(try clear hk);(try clear hi);(try clear ho0);have p10:0≤(aa:Int):=od_;have q10:(aa:Int) < ((af.length:Int):Int):=od_;obtain⟨go10,aw,ax,ay,gl10,cl10,HG10⟩:=Kd.S_form ae.out (by omega);(first | cases ax | (injection ax with ea_ en_ ec_;(first | subst ea_ | (injection ea_ with ea_;subst ea_));subst ec_;clear en_));have GB10:=q_ ay;have GG10:=q_ HG10;clear ay gl10 HG10;obtain⟨_,ce10,hcl10,hM10,hcc10,hfr10,_,_⟩:=Kd.S_elem ae.out [] (aa:Int) p10 q10;obtain⟨ve10_0,rfl,ge10_0⟩:=hM10;have hx10_0:=hcc10 0 _ rfl;have hf10_0:=hfr10 0;(try simp only [show ((Kd.slice 2 (Kd.int .i64))).sz=1 from rfl,Nat.mul_one,Nat.add_zero] at hx10_0);(try simp only [show ((Kd.slice 2 (Kd.int .i64))).sz=1 from rfl,Nat.mul_one,Nat.add_zero] at hf10_0);(try clear hcl10);(try clear hcc10);(try clear hfr10);(try clear hM10);replace p10:=eq_true p10;replace q10:=eq_true q10;have n_:=q_ (Kd.S_mono (ok':=(fun k_=>some k_≠(ai:Value).ownBlock)) ae.out (fun k_ hk=>hk.2));clear ae;have ae:=n_;clear n_;have HX12:=q_ (show Kd.S (Kd.slice 2 (Kd.int .i64)) 29 w11 w.heap.size (fun k_=>((fun _=>True)) k_∧ ¬ ((fun k_=>some k_=(ai:Value).ownBlock)) k_) (.slice (some ⟨go10,0,none⟩) af.length aw) af from (by(with_reducible repeat (first | apply Kd.S_alloc | apply Kd.S_drewN | apply Kd.S_drew));exact Kd.S_mono ae.out (fun k_ hk=>⟨trivial,fun e_=>hk e_⟩)));obtain⟨oki12,ce12,hcl12,hM12,hcc12,hfr12,hoki12,hH12⟩:=Kd.S_elem HX12.out [] (aa:Int) od_ (by have h_:(aa:Int) < ((af.length:Int):Int):=od_;first | exact h_ | (have e_:=(Kd.S_reads' ae.out).1;omega) | simpa using h_);obtain⟨ve12_0,rfl,ge12_0⟩:=hM12;have HP12:=Kd.S_seg hH12 od_ (by have h_:(aa:Int) < ((af.length:Int):Int):=od_;first | exact h_ | (have e_:=(Kd.S_reads' ae.out).1;omega) | simpa using h_) (seg:= [ai]) (j:=0) (show 1≤1 from by decide) (x':=ah) (Kd.M_row (Kd.R_mono (Kd.R_tight rfl (Kd.R_mono (ok':=fun k_=>((fun _=>True)) k_∧k_≠go10) (Kd.R_apart' (ag.out) (Kd.S_typed ae.out) (by decide)) (fun k_ hk=>⟨trivial,fun e_=>(hk.2) (by rw [e_];rfl)⟩))) (fun _ h_=>Or.inr (h_)))) (fun _ hk=>hk) (fun k_ hk_=>((Kd.R_mono (ok':=fun k_=>((fun _=>True)) k_∧k_≠go10) (Kd.R_apart' (ag.out) (Kd.S_typed ae.out) (by decide)) (fun k_ hk=>⟨trivial,fun e_=>(hk.2) (by rw [e_];rfl)⟩))).1 k_ hk_.symm);have hx12_0:=hcc12 0 _ rfl;(try simp only [show ((Kd.slice 2 (Kd.int .i64))).sz=1 from rfl,Nat.mul_one,Nat.add_zero] at hx12_0);have hf12_0:=hfr12 0;(try simp only [show ((Kd.slice 2 (Kd.int .i64))).sz=1 from rfl,Nat.mul_one,Nat.add_zero] at hf12_0);(try clear hcl12);(try clear hcc12);(try clear hfr12);(try clear hM12);(try clear hoki12);(try clear hH12);(try simp only [show ((Kd.slice 2 (Kd.int .i64))).sz=1 from rfl,Nat.mul_one,Nat.add_zero] at HP12)) | ((with_reducible refine gate_store (t:=29) (p:=21) rfl ?_);refine store_event (t:=29) (p:=21) (v:=?vo_w13) (w1:=(w11.setCell ⟨go10,(aa:Int).toNat,none⟩ (ai))) ?hg ?ho ?hn ?hr ?_;(case ho=>rfl);(case hg=>rfl);(case hn=>rfl);(case hr=>first | (go_simp;done) | (go_simp;rfl) | ((try (obtain⟨_,_,e_⟩:=Kd.R_slice ag.out;subst e_));first | (go_simp;done) | (go_simp;rfl)));intro w13 hw;have hg:w11.grownBy w13 (some go10):=(by rw [hw];exact HP12.2);have hp_:Kd.S (Kd.slice 2 (Kd.int .i64)) 29 w13 w.heap.size (fun _=>True) (.slice (some ⟨go10,0,none⟩) af.length aw) aj:=(by rw [hw,aA.out];exact HP12.1);clear HP12;replace ae:=q_ (hp_);replace HB:=q_ ((by rw [hw];exact below_set (HB.out) GB10.out:Below w.heap.size w w13));clear ag hg hw hp_))
        go_roundg k1
        case measure=>have:=HK1.out;omega
        case rel=>exact⟨(aj),(wrap64 (aa+1)),rs_,H',⟨by have:=HK1.out;omega⟩,⟨so_ ae.out⟩,⟨hb_⟩⟩
       ·rw [if_neg c9] at H
        exact absurd H (by simp)
      ·rw [if_neg c7] at H
       exact absurd H (by simp)
     ·rw [if_neg c6] at H
      have c6b0:decide (aa < (l0.length:Int))=false:=decide_eq_false c6
      clear c6
      obtain rfl:=Option.some.inj H
      go_wp2
      go_ret
      exact⟨_,by first | rfl | (simp [errW_none,errW_some] <;> rfl) | (simp [*,errW_none,errW_some] <;> rfl),so_ ae.out,hb_⟩
  ·rw [if_neg c3] at H
   exact absurd H (by simp)
 ·rw [if_neg c2] at H
  exact absurd H (by simp)
def laws_eqInt64SS.l0:Nat→List (List Int)→List (List Int)→Int→Option (Bool)
 | 0,_,_,_=>none
 | k+1,x0,x1,x5=>if x5 < (x0.length:Int) then(if 0≤x5 then(if x5 < (x1.length:Int) then((laws_eqInt64S.f k (rd_L1 x0 x5) (rd_L1 x1 x5)).bind fun aa=>(if aa=true then(laws_eqInt64SS.l0 k x0 x1 (wrap64 (x5+1))) else(some false))) else(none)) else(none)) else(some true)
def laws_eqInt64SS.f (k:Nat) (l0:List (List Int)) (l1:List (List Int)):Option (Bool):=if(l0.length:Int)=(l1.length:Int) then(laws_eqInt64SS.l0 k l0 l1 0) else(some false)
theorem laws_eqInt64SS.mono_l: ∀k,(∀y0 y1 y2,LeO (laws_eqInt64SS.l0 k y0 y1 y2) (laws_eqInt64SS.l0 (k+1) y0 y1 y2))
 | 0=>fun _ _ _ r h=>by simp [laws_eqInt64SS.l0] at h
 | k+1=>by
  have ih0:=laws_eqInt64SS.mono_l k
  ·intro y0 y1 y2
   unfold laws_eqInt64SS.l0
   repeat' first
   | (with_reducible exact ih0 _ _ _)
   | (with_reducible exact laws_eqInt64S.mono _ _ _)
   | (with_reducible exact LeO.refl _)
   | (with_reducible exact LeO.none _)
   | (with_reducible refine LeO.ite ?_ ?_)
   | (with_reducible refine LeO.bind ?_ (fun _=>?_))
   | exact ih0 _ _ _
   | exact laws_eqInt64S.mono _ _ _
   | exact LeO.none _
   | refine LeO.ite ?_ ?_
   | refine LeO.bind ?_ (fun _=>?_)
theorem laws_eqInt64SS.mono: ∀a0 a1 k,LeO (laws_eqInt64SS.f k a0 a1) (laws_eqInt64SS.f (k+1) a0 a1):=by
 intro a0 a1 k
 have ih0:=laws_eqInt64SS.mono_l k
 unfold laws_eqInt64SS.f
 repeat' first
   | (with_reducible exact ih0 _ _ _)
   | (with_reducible exact laws_eqInt64S.mono _ _ _)
   | (with_reducible exact LeO.refl _)
   | (with_reducible exact LeO.none _)
   | (with_reducible refine LeO.ite ?_ ?_)
   | (with_reducible refine LeO.bind ?_ (fun _=>?_))
   | exact ih0 _ _ _
   | exact laws_eqInt64S.mono _ _ _
   | exact LeO.none _
   | refine LeO.ite ?_ ?_
   | refine LeO.bind ?_ (fun _=>?_)
theorem laws_eqInt64SS.calls (k:Nat) (A0:Option Addr) (c0:Nat) (l0:List (List Int)) (A1:Option Addr) (c1:Nat) (l1:List (List Int)) (r:Bool) (w:World) (hr0:Kd.C (Kd.slice 2 (Kd.int .i64)) w A0 l0.length l0) (hc0:l0.length≤c0) (hr1:Kd.C (Kd.slice 2 (Kd.int .i64)) w A1 l1.length l1) (hc1:l1.length≤c1) (h:laws_eqInt64SS.f k l0 l1=some r):
  Calls Try.prog 34 #[.slice A0 l0.length c0, .slice A1 l1.length c1] w fun e w'=>e= .returned (.bool r)∧Drawn0 w w':=by
 have HR0:=q_ hr0
 have HC0:=q_ hc0
 clear hr0 hc0
 have HR1:=q_ hr1
 have HC1:=q_ hc1
 clear hr1 hc1
 have H:(if(l0.length:Int)=(l1.length:Int) then(laws_eqInt64SS.l0 k l0 l1 0) else(some false))=some r:=h
 clear h
 by_cases c3:(l0.length:Int)=(l1.length:Int)
 ·rw [if_pos c3] at H
  have c3b0:((l0.length:Int)==(l1.length:Int))=true:=beq_iff_eq.mpr c3
  have c3b1:((l0.length:Int) !=(l1.length:Int))=false:=bne_eq_false_iff_eq.mpr c3
  have c3b2:(l0.length==l1.length)=true:=by first | simpa using c3 | (simp at c3 ⊢;omega)
  clear c3
  have H':=q_ H
  clear H
  go_enter Try.func34,Try.ntmps34
  go_wp2
  repeat (go_quiet (fail);try go_wp2)
  go_loopg [5] k (fun kq v5 w'=> ∃(aa:Int),v5= .int .i64 aa∧Aside0 (laws_eqInt64SS.l0 kq l0 l1 aa=some r)∧Aside0 (kq≤k)∧Drawn0 w w')
  case atStart=>exact⟨(0),rs_,H',⟨Nat.le_refl _⟩,by repeat (first | exact Drawn0.refl _ | apply Drawn0.step)⟩
  case round=>
   clear H'
   try clear c1
   try clear p2
   try clear c3
   try clear c3b0
   try clear c3b1
   try clear c3b2
   obtain⟨aa,rfl,HA,HK1,⟨m1,rfl⟩⟩:=hrel
   cases gk with
   | zero=>exact absurd HA.out (by simp [laws_eqInt64SS.l0])
   | succ k1=>
    have H:=HA.out
    clear HA
    simp only [laws_eqInt64SS.l0] at H
    by_cases c4:aa < (l0.length:Int)
    ·rw [if_pos c4] at H
     have c4b0:decide (aa < (l0.length:Int))=true:=decide_eq_true c4
     clear c4
     by_cases c5:0≤aa
     ·rw [if_pos c5] at H
      have c5b0:decide (0≤aa)=true:=decide_eq_true c5
      clear c5
      by_cases c6:aa < (l1.length:Int)
      ·rw [if_pos c6] at H
       have c6b0:decide (aa < (l1.length:Int))=true:=decide_eq_true c6
       clear c6
       replace H:=Option.bind_eq_some_iff.mp H
       obtain⟨ai,A70,H⟩:=H
       replace H:(if ai=true then(laws_eqInt64SS.l0 k1 l0 l1 (wrap64 (aa+1))) else(some false))=some r:=H
       have A7:=q_ A70
       clear A70
       by_cases c8:ai=true
       ·subst c8
        have H1:(laws_eqInt64SS.l0 k1 l0 l1 (wrap64 (aa+1)))=some r:=by rw [if_pos rfl] at H;exact H
        clear H
        have H:=H1
        clear H1
        have H':=q_ H
        clear H
        have p132:0≤(aa:Int):=od_
        have q132:aa < (l0.length:Int):=od_
        obtain⟨av,aj,ak,e132,hx132_0,hl132_0,hi132_0⟩:=at_L1 HR0.out aa p132 q132
        cases e132
        have HR132_0:=q_ hi132_0
        have HC132_0:=q_ hl132_0
        clear hi132_0 hl132_0
        replace p132:=eq_true p132
        replace q132:=eq_true q132
        have p133:0≤(aa:Int):=od_
        have q133:aa < (l1.length:Int):=od_
        obtain⟨aw,aq,au,e133,hx133_0,hl133_0,hi133_0⟩:=at_L1 HR1.out aa p133 q133
        cases e133
        have HR133_0:=q_ hi133_0
        have HC133_0:=q_ hl133_0
        clear hi133_0 hl133_0
        replace p133:=eq_true p133
        replace q133:=eq_true q133
        go_wp2_with (first | (go_at_call 11;(with_reducible refine(laws_eqInt64S.calls k1 _ _ (rd_L1 l0 aa) _ _ (rd_L1 l1 aa) true _ ?ae ?af ?ag ?ah A7.out).mono ?_);(case ae=>repeat (first | exact HR132_0.out | (with_reducible refine Kd.C_alloc ?_ _) | (with_reducible refine Kd.C_drewN ?_ _) | (with_reducible refine Kd.C_drew ?_)));(case af=>exact HC132_0.out);(case ag=>repeat (first | exact HR133_0.out | (with_reducible refine Kd.C_alloc ?_ _) | (with_reducible refine Kd.C_drewN ?_ _) | (with_reducible refine Kd.C_drew ?_)));(case ah=>exact HC133_0.out);rintro e w' ⟨rfl,⟨nd,rfl⟩⟩;(try first | exact⟨rfl,_,World.drewN_drewN _ _ _⟩ | exact⟨rfl,_,Eq.trans (World.drewN_drewN _ _ _) (congrArg (World.drewN _) (Nat.add_assoc _ _ _))⟩)))
        repeat (go_quiet (first | (go_at_call 11;(with_reducible refine(laws_eqInt64S.calls k1 _ _ (rd_L1 l0 aa) _ _ (rd_L1 l1 aa) true _ ?ae ?af ?ag ?ah A7.out).mono ?_);(case ae=>repeat (first | exact HR132_0.out | (with_reducible refine Kd.C_alloc ?_ _) | (with_reducible refine Kd.C_drewN ?_ _) | (with_reducible refine Kd.C_drew ?_)));(case af=>exact HC132_0.out);(case ag=>repeat (first | exact HR133_0.out | (with_reducible refine Kd.C_alloc ?_ _) | (with_reducible refine Kd.C_drewN ?_ _) | (with_reducible refine Kd.C_drew ?_)));(case ah=>exact HC133_0.out);rintro e w' ⟨rfl,⟨nd,rfl⟩⟩;(try first | exact⟨rfl,_,World.drewN_drewN _ _ _⟩ | exact⟨rfl,_,Eq.trans (World.drewN_drewN _ _ _) (congrArg (World.drewN _) (Nat.add_assoc _ _ _))⟩)));try go_wp2_with (first | (go_at_call 11;(with_reducible refine(laws_eqInt64S.calls k1 _ _ (rd_L1 l0 aa) _ _ (rd_L1 l1 aa) true _ ?ae ?af ?ag ?ah A7.out).mono ?_);(case ae=>repeat (first | exact HR132_0.out | (with_reducible refine Kd.C_alloc ?_ _) | (with_reducible refine Kd.C_drewN ?_ _) | (with_reducible refine Kd.C_drew ?_)));(case af=>exact HC132_0.out);(case ag=>repeat (first | exact HR133_0.out | (with_reducible refine Kd.C_alloc ?_ _) | (with_reducible refine Kd.C_drewN ?_ _) | (with_reducible refine Kd.C_drew ?_)));(case ah=>exact HC133_0.out);rintro e w' ⟨rfl,⟨nd,rfl⟩⟩;(try first | exact⟨rfl,_,World.drewN_drewN _ _ _⟩ | exact⟨rfl,_,Eq.trans (World.drewN_drewN _ _ _) (congrArg (World.drewN _) (Nat.add_assoc _ _ _))⟩))))
        go_roundg k1
        case measure=>have:=HK1.out;omega
        case rel=>exact⟨(wrap64 (aa+1)),rs_,H',⟨by have:=HK1.out;omega⟩,by repeat (first | exact Drawn0.refl _ | apply Drawn0.step)⟩
       ·replace c8:=Bool.eq_false_iff.mpr c8
        subst c8
        have H1:(some false)=some r:=by rw [if_neg (show ¬ (false=true) by decide)] at H;exact H
        clear H
        have H:=H1
        clear H1
        obtain rfl:=Option.some.inj H
        have p132:0≤(aa:Int):=od_
        have q132:aa < (l0.length:Int):=od_
        obtain⟨av,aj,ak,e132,hx132_0,hl132_0,hi132_0⟩:=at_L1 HR0.out aa p132 q132
        cases e132
        have HR132_0:=q_ hi132_0
        have HC132_0:=q_ hl132_0
        clear hi132_0 hl132_0
        replace p132:=eq_true p132
        replace q132:=eq_true q132
        have p133:0≤(aa:Int):=od_
        have q133:aa < (l1.length:Int):=od_
        obtain⟨aw,aq,au,e133,hx133_0,hl133_0,hi133_0⟩:=at_L1 HR1.out aa p133 q133
        cases e133
        have HR133_0:=q_ hi133_0
        have HC133_0:=q_ hl133_0
        clear hi133_0 hl133_0
        replace p133:=eq_true p133
        replace q133:=eq_true q133
        go_wp2_with (first | (go_at_call 11;(with_reducible refine(laws_eqInt64S.calls k1 _ _ (rd_L1 l0 aa) _ _ (rd_L1 l1 aa) false _ ?ae ?af ?ag ?ah A7.out).mono ?_);(case ae=>repeat (first | exact HR132_0.out | (with_reducible refine Kd.C_alloc ?_ _) | (with_reducible refine Kd.C_drewN ?_ _) | (with_reducible refine Kd.C_drew ?_)));(case af=>exact HC132_0.out);(case ag=>repeat (first | exact HR133_0.out | (with_reducible refine Kd.C_alloc ?_ _) | (with_reducible refine Kd.C_drewN ?_ _) | (with_reducible refine Kd.C_drew ?_)));(case ah=>exact HC133_0.out);rintro e w' ⟨rfl,⟨nd,rfl⟩⟩;(try first | exact⟨rfl,_,World.drewN_drewN _ _ _⟩ | exact⟨rfl,_,Eq.trans (World.drewN_drewN _ _ _) (congrArg (World.drewN _) (Nat.add_assoc _ _ _))⟩)))
        repeat (go_quiet (first | (go_at_call 11;(with_reducible refine(laws_eqInt64S.calls k1 _ _ (rd_L1 l0 aa) _ _ (rd_L1 l1 aa) false _ ?ae ?af ?ag ?ah A7.out).mono ?_);(case ae=>repeat (first | exact HR132_0.out | (with_reducible refine Kd.C_alloc ?_ _) | (with_reducible refine Kd.C_drewN ?_ _) | (with_reducible refine Kd.C_drew ?_)));(case af=>exact HC132_0.out);(case ag=>repeat (first | exact HR133_0.out | (with_reducible refine Kd.C_alloc ?_ _) | (with_reducible refine Kd.C_drewN ?_ _) | (with_reducible refine Kd.C_drew ?_)));(case ah=>exact HC133_0.out);rintro e w' ⟨rfl,⟨nd,rfl⟩⟩;(try first | exact⟨rfl,_,World.drewN_drewN _ _ _⟩ | exact⟨rfl,_,Eq.trans (World.drewN_drewN _ _ _) (congrArg (World.drewN _) (Nat.add_assoc _ _ _))⟩)));try go_wp2_with (first | (go_at_call 11;(with_reducible refine(laws_eqInt64S.calls k1 _ _ (rd_L1 l0 aa) _ _ (rd_L1 l1 aa) false _ ?ae ?af ?ag ?ah A7.out).mono ?_);(case ae=>repeat (first | exact HR132_0.out | (with_reducible refine Kd.C_alloc ?_ _) | (with_reducible refine Kd.C_drewN ?_ _) | (with_reducible refine Kd.C_drew ?_)));(case af=>exact HC132_0.out);(case ag=>repeat (first | exact HR133_0.out | (with_reducible refine Kd.C_alloc ?_ _) | (with_reducible refine Kd.C_drewN ?_ _) | (with_reducible refine Kd.C_drew ?_)));(case ah=>exact HC133_0.out);rintro e w' ⟨rfl,⟨nd,rfl⟩⟩;(try first | exact⟨rfl,_,World.drewN_drewN _ _ _⟩ | exact⟨rfl,_,Eq.trans (World.drewN_drewN _ _ _) (congrArg (World.drewN _) (Nat.add_assoc _ _ _))⟩))))
        go_ret
        exact⟨by first | rfl | (simp;done) | (simp [*];done),by repeat (first | exact Drawn0.refl _ | apply Drawn0.step)⟩
      ·rw [if_neg c6] at H
       exact absurd H (by simp)
     ·rw [if_neg c5] at H
      exact absurd H (by simp)
    ·rw [if_neg c4] at H
     have c4b0:decide (aa < (l0.length:Int))=false:=decide_eq_false c4
     clear c4
     obtain rfl:=Option.some.inj H
     go_wp2
     repeat (go_quiet (fail);try go_wp2)
     go_ret
     exact⟨by first | rfl | (simp;done) | (simp [*];done),by repeat (first | exact Drawn0.refl _ | apply Drawn0.step)⟩
 ·rw [if_neg c3] at H
  have c3b0:((l0.length:Int)==(l1.length:Int))=false:=beq_eq_false_iff_ne.mpr c3
  have c3b1:((l0.length:Int) !=(l1.length:Int))=true:=bne_iff_ne.mpr c3
  have c3b2:(l0.length==l1.length)=false:=by first | simpa using c3 | (simp at c3 ⊢;omega)
  obtain rfl:=Option.some.inj H
  go_enter Try.func34,Try.ntmps34
  go_wp2
  repeat (go_quiet (fail);try go_wp2)
  go_ret
  exact⟨by first | rfl | (simp;done) | (simp [*];done),by repeat (first | exact Drawn0.refl _ | apply Drawn0.step)⟩
def laws_eqGame.f (k:Nat) (aa:List (List Int)) (ae:List (List Int)) (af:List (List Int)) (ag:List (List Int)):Option (Bool):=(laws_eqInt64SS.f k aa af).bind fun ah=>(if ah=true then((laws_eqInt64SS.f k ae ag).bind fun ai=>(if ai=true then(some true) else(some false))) else(some false))
theorem laws_eqGame.mono: ∀a0 a1 a2 a3 k,LeO (laws_eqGame.f k a0 a1 a2 a3) (laws_eqGame.f (k+1) a0 a1 a2 a3):=by
 intro a0 a1 a2 a3 k
 unfold laws_eqGame.f
 repeat' first
   | (with_reducible exact laws_eqInt64SS.mono _ _ _)
   | (with_reducible exact LeO.refl _)
   | (with_reducible exact LeO.none _)
   | (with_reducible refine LeO.ite ?_ ?_)
   | (with_reducible refine LeO.bind ?_ (fun _=>?_))
   | exact laws_eqInt64SS.mono _ _ _
   | exact LeO.none _
   | refine LeO.ite ?_ ?_
   | refine LeO.bind ?_ (fun _=>?_)
theorem laws_eqGame.calls (k:Nat) (az:Option Addr) (aA:Nat) (ag:List (List Int)) (aG:Option Addr) (aH:Nat) (ah:List (List Int)) (aC:Option Addr) (aD:Nat) (ai:List (List Int)) (aI:Option Addr) (aJ:Nat) (aj:List (List Int)) (r:Bool) (w:World) (aN:Kd.C (Kd.slice 2 (Kd.int .i64)) w az ag.length ag) (aQ:ag.length≤aA) (aR:Kd.C (Kd.slice 2 (Kd.int .i64)) w aG ah.length ah) (aT:ah.length≤aH) (aU:Kd.C (Kd.slice 2 (Kd.int .i64)) w aC ai.length ai) (aV:ai.length≤aD) (aW:Kd.C (Kd.slice 2 (Kd.int .i64)) w aI aj.length aj) (aX:aj.length≤aJ) (h:laws_eqGame.f k ag ah ai aj=some r):
  Calls Try.prog 12 #[.agg #[.slice az ag.length aA, .slice aG ah.length aH], .agg #[.slice aC ai.length aD, .slice aI aj.length aJ]] w fun e w'=>e= .returned (.bool r)∧Below w.heap.size w w':=by
 have hu32:=Try.underlying32
 have HR0_0:=q_ aN
 have HC0_0:=q_ aQ
 clear aN aQ
 have HR0_1:=q_ aR
 have HC0_1:=q_ aT
 clear aR aT
 have HR1_0:=q_ aU
 have HC1_0:=q_ aV
 clear aU aV
 have HR1_1:=q_ aW
 have HC1_1:=q_ aX
 clear aW aX
 have HB:=q_ (Below.refl w.heap.size w)
 have H:((laws_eqInt64SS.f k ag ai).bind fun aM=>(if aM=true then((laws_eqInt64SS.f k ah aj).bind fun aK=>(if aK=true then(some true) else(some false))) else(some false)))=some r:=h
 clear h
 replace H:=Option.bind_eq_some_iff.mp H
 obtain⟨aM,A30,H⟩:=H
 replace H:(if aM=true then((laws_eqInt64SS.f k ah aj).bind fun aK=>(if aK=true then(some true) else(some false))) else(some false))=some r:=H
 have A3:=q_ A30
 clear A30
 by_cases c4:aM=true
 ·subst c4
  have H1:((laws_eqInt64SS.f k ah aj).bind fun aK=>(if aK=true then(some true) else(some false)))=some r:=by rw [if_pos rfl] at H;exact H
  clear H
  have H:=H1
  clear H1
  replace H:=Option.bind_eq_some_iff.mp H
  obtain⟨aK,A50,H⟩:=H
  replace H:(if aK=true then(some true) else(some false))=some r:=H
  have A5:=q_ A50
  clear A50
  by_cases c6:aK=true
  ·subst c6
   have H1:(some true)=some r:=by rw [if_pos rfl] at H;exact H
   clear H
   have H:=H1
   clear H1
   obtain rfl:=Option.some.inj H
   go_enter Try.func12,Try.ntmps12
   go_wp2_with (first | ((with_reducible refine gate_dst (N:=2) rfl ?_);refine box_event ?hg (N:=2) ?hd (cs:= #[.slice az ag.length aA, .slice aG ah.length aH]) (t:=32) ?hr ?_;(case hd=>rfl);(case hg=>rfl);(case hr=>first | (go_simp;done) | (go_simp;rfl));intro ae hg w7 hbox hb;have aa:=q_ (hbox);have aY:=q_ ((by rw [hg];exact bz_:w.heap.size≤ae));have aZ:=q_ ((by rw [hg];exact bz_:w.heap.size≤ae));replace HB:=q_ (bs_ hb);clear hb hbox hg) | ((with_reducible refine gate_dst (N:=3) rfl ?_);refine box_event ?hg (N:=3) ?hd (cs:= #[.slice aC ai.length aD, .slice aI aj.length aJ]) (t:=32) ?hr ?_;(case hd=>rfl);(case hg=>rfl);(case hr=>first | (go_simp;done) | (go_simp;rfl));intro af hg w8 hbox hb;have ak:=q_ (hbox);have a9:=q_ ((by rw [hg];exact bz_:w.heap.size≤af));have ba:=q_ ((by rw [hg];exact bz_:w.heap.size≤af));have aq:=q_ ((by rw [hg];exact lt_ aa.out:ae≠af));have au:=q_ ((by rw [hg];exact gt_ aa.out:af≠ae));replace aa:=q_ (bb_ aa.out hb);replace HB:=q_ (bs_ hb);clear hb hbox hg;have bR:=aq.out;have bS:=au.out;have bb:w8.cell? ⟨ae,0,none⟩=some (.slice az ag.length aA):=(blk_cell aa.out 0).trans rfl;have bf:w8.cell? ⟨ae,1,none⟩=some (.slice aG ah.length aH):=(blk_cell aa.out 1).trans rfl;have bg:=blk_frozen aa.out 0;have bh:=blk_frozen aa.out 1;have bk:w8.cell? ⟨af,0,none⟩=some (.slice aC ai.length aD):=(blk_cell ak.out 0).trans rfl;have bn:w8.cell? ⟨af,1,none⟩=some (.slice aI aj.length aJ):=(blk_cell ak.out 1).trans rfl;have bq:=blk_frozen ak.out 0;have bu:=blk_frozen ak.out 1) | ((with_reducible refine gate_callee (f:=34) rfl ?_);refine gL_ 9 Try.func34 #[.slice az ag.length aA, .slice aC ai.length aD] ?_;(with_reducible refine(laws_eqInt64SS.calls k _ _ ag _ _ ai true _ ?av ?aw ?ax ?ay A3.out).mono ?_);(case av=>exact cb_ HR0_0.out HB.out);(case aw=>exact HC0_0.out);(case ax=>exact cb_ HR1_0.out HB.out);(case ay=>exact HC1_0.out);rintro e w' ⟨rfl,⟨nd,rfl⟩⟩;refine⟨_,rfl,?_⟩) | ((with_reducible refine gate_callee (f:=34) rfl ?_);refine gL_ 15 Try.func34 #[.slice aG ah.length aH, .slice aI aj.length aJ] ?_;(with_reducible refine(laws_eqInt64SS.calls k _ _ ah _ _ aj true _ ?av ?aw ?ax ?ay A5.out).mono ?_);(case av=>repeat (first | exact(Kd.C_below HR0_1.out hb_) | (with_reducible refine Kd.C_alloc ?_ _) | (with_reducible refine Kd.C_drewN ?_ _) | (with_reducible refine Kd.C_drew ?_)));(case aw=>exact HC0_1.out);(case ax=>repeat (first | exact(Kd.C_below HR1_1.out hb_) | (with_reducible refine Kd.C_alloc ?_ _) | (with_reducible refine Kd.C_drewN ?_ _) | (with_reducible refine Kd.C_drew ?_)));(case ay=>exact HC1_1.out);rintro e w' ⟨rfl,⟨nd,rfl⟩⟩;refine⟨_,rfl,?_⟩))
   go_ret
   exact⟨by first | rfl | (simp [errW_none,errW_some] <;> rfl) | (simp [*,errW_none,errW_some] <;> rfl),hb_⟩
  ·replace c6:=Bool.eq_false_iff.mpr c6
   subst c6
   have H1:(some false)=some r:=by rw [if_neg (show ¬ (false=true) by decide)] at H;exact H
   clear H
   have H:=H1
   clear H1
   obtain rfl:=Option.some.inj H
   go_enter Try.func12,Try.ntmps12
   go_wp2_with (first | ((with_reducible refine gate_dst (N:=2) rfl ?_);refine box_event ?hg (N:=2) ?hd (cs:= #[.slice az ag.length aA, .slice aG ah.length aH]) (t:=32) ?hr ?_;(case hd=>rfl);(case hg=>rfl);(case hr=>first | (go_simp;done) | (go_simp;rfl));intro ae hg w12 hbox hb;have aa:=q_ (hbox);have aY:=q_ ((by rw [hg];exact bz_:w.heap.size≤ae));have aZ:=q_ ((by rw [hg];exact bz_:w.heap.size≤ae));replace HB:=q_ (bs_ hb);clear hb hbox hg) | ((with_reducible refine gate_dst (N:=3) rfl ?_);refine box_event ?hg (N:=3) ?hd (cs:= #[.slice aC ai.length aD, .slice aI aj.length aJ]) (t:=32) ?hr ?_;(case hd=>rfl);(case hg=>rfl);(case hr=>first | (go_simp;done) | (go_simp;rfl));intro af hg w13 hbox hb;have ak:=q_ (hbox);have a9:=q_ ((by rw [hg];exact bz_:w.heap.size≤af));have ba:=q_ ((by rw [hg];exact bz_:w.heap.size≤af));have aq:=q_ ((by rw [hg];exact lt_ aa.out:ae≠af));have au:=q_ ((by rw [hg];exact gt_ aa.out:af≠ae));replace aa:=q_ (bb_ aa.out hb);replace HB:=q_ (bs_ hb);clear hb hbox hg;have bN:=aq.out;have bO:=au.out;have bv:w13.cell? ⟨ae,0,none⟩=some (.slice az ag.length aA):=(blk_cell aa.out 0).trans rfl;have bw:w13.cell? ⟨ae,1,none⟩=some (.slice aG ah.length aH):=(blk_cell aa.out 1).trans rfl;have bz:=blk_frozen aa.out 0;have bA:=blk_frozen aa.out 1;have bB:w13.cell? ⟨af,0,none⟩=some (.slice aC ai.length aD):=(blk_cell ak.out 0).trans rfl;have bC:w13.cell? ⟨af,1,none⟩=some (.slice aI aj.length aJ):=(blk_cell ak.out 1).trans rfl;have bD:=blk_frozen ak.out 0;have bE:=blk_frozen ak.out 1) | ((with_reducible refine gate_callee (f:=34) rfl ?_);refine gL_ 9 Try.func34 #[.slice az ag.length aA, .slice aC ai.length aD] ?_;(with_reducible refine(laws_eqInt64SS.calls k _ _ ag _ _ ai true _ ?av ?aw ?ax ?ay A3.out).mono ?_);(case av=>exact cb_ HR0_0.out HB.out);(case aw=>exact HC0_0.out);(case ax=>exact cb_ HR1_0.out HB.out);(case ay=>exact HC1_0.out);rintro e w' ⟨rfl,⟨nd,rfl⟩⟩;refine⟨_,rfl,?_⟩) | ((with_reducible refine gate_callee (f:=34) rfl ?_);refine gL_ 15 Try.func34 #[.slice aG ah.length aH, .slice aI aj.length aJ] ?_;(with_reducible refine(laws_eqInt64SS.calls k _ _ ah _ _ aj false _ ?av ?aw ?ax ?ay A5.out).mono ?_);(case av=>repeat (first | exact(Kd.C_below HR0_1.out hb_) | (with_reducible refine Kd.C_alloc ?_ _) | (with_reducible refine Kd.C_drewN ?_ _) | (with_reducible refine Kd.C_drew ?_)));(case aw=>exact HC0_1.out);(case ax=>repeat (first | exact(Kd.C_below HR1_1.out hb_) | (with_reducible refine Kd.C_alloc ?_ _) | (with_reducible refine Kd.C_drewN ?_ _) | (with_reducible refine Kd.C_drew ?_)));(case ay=>exact HC1_1.out);rintro e w' ⟨rfl,⟨nd,rfl⟩⟩;refine⟨_,rfl,?_⟩))
   go_ret
   exact⟨by first | rfl | (simp [errW_none,errW_some] <;> rfl) | (simp [*,errW_none,errW_some] <;> rfl),hb_⟩
 ·replace c4:=Bool.eq_false_iff.mpr c4
  subst c4
  have H1:(some false)=some r:=by rw [if_neg (show ¬ (false=true) by decide)] at H;exact H
  clear H
  have H:=H1
  clear H1
  obtain rfl:=Option.some.inj H
  go_enter Try.func12,Try.ntmps12
  go_wp2_with (first | ((with_reducible refine gate_dst (N:=2) rfl ?_);refine box_event ?hg (N:=2) ?hd (cs:= #[.slice az ag.length aA, .slice aG ah.length aH]) (t:=32) ?hr ?_;(case hd=>rfl);(case hg=>rfl);(case hr=>first | (go_simp;done) | (go_simp;rfl));intro ae hg w17 hbox hb;have aa:=q_ (hbox);have aY:=q_ ((by rw [hg];exact bz_:w.heap.size≤ae));have aZ:=q_ ((by rw [hg];exact bz_:w.heap.size≤ae));replace HB:=q_ (bs_ hb);clear hb hbox hg) | ((with_reducible refine gate_dst (N:=3) rfl ?_);refine box_event ?hg (N:=3) ?hd (cs:= #[.slice aC ai.length aD, .slice aI aj.length aJ]) (t:=32) ?hr ?_;(case hd=>rfl);(case hg=>rfl);(case hr=>first | (go_simp;done) | (go_simp;rfl));intro af hg w18 hbox hb;have ak:=q_ (hbox);have a9:=q_ ((by rw [hg];exact bz_:w.heap.size≤af));have ba:=q_ ((by rw [hg];exact bz_:w.heap.size≤af));have aq:=q_ ((by rw [hg];exact lt_ aa.out:ae≠af));have au:=q_ ((by rw [hg];exact gt_ aa.out:af≠ae));replace aa:=q_ (bb_ aa.out hb);replace HB:=q_ (bs_ hb);clear hb hbox hg;have bP:=aq.out;have bQ:=au.out;have bF:w18.cell? ⟨ae,0,none⟩=some (.slice az ag.length aA):=(blk_cell aa.out 0).trans rfl;have bG:w18.cell? ⟨ae,1,none⟩=some (.slice aG ah.length aH):=(blk_cell aa.out 1).trans rfl;have bH:=blk_frozen aa.out 0;have bI:=blk_frozen aa.out 1;have bJ:w18.cell? ⟨af,0,none⟩=some (.slice aC ai.length aD):=(blk_cell ak.out 0).trans rfl;have bK:w18.cell? ⟨af,1,none⟩=some (.slice aI aj.length aJ):=(blk_cell ak.out 1).trans rfl;have bL:=blk_frozen ak.out 0;have bM:=blk_frozen ak.out 1) | ((with_reducible refine gate_callee (f:=34) rfl ?_);refine gL_ 9 Try.func34 #[.slice az ag.length aA, .slice aC ai.length aD] ?_;(with_reducible refine(laws_eqInt64SS.calls k _ _ ag _ _ ai false _ ?av ?aw ?ax ?ay A3.out).mono ?_);(case av=>exact cb_ HR0_0.out HB.out);(case aw=>exact HC0_0.out);(case ax=>exact cb_ HR1_0.out HB.out);(case ay=>exact HC1_0.out);rintro e w' ⟨rfl,⟨nd,rfl⟩⟩;refine⟨_,rfl,?_⟩))
  go_ret
  exact⟨by first | rfl | (simp [errW_none,errW_some] <;> rfl) | (simp [*,errW_none,errW_some] <;> rfl),hb_⟩
def impl_within.f (a0:Int) (a1:Int) (a2:Int):Option (Bool):=if a0 ≥ a1 then(some (decide (a0≤a2))) else(some false)
theorem impl_within.calls (a0:Int) (a1:Int) (a2:Int) (r:Bool) (w:World) (h:impl_within.f a0 a1 a2=some r):
  Calls Try.prog 18 #[.int .i64 a0, .int .i64 a1, .int .i64 a2] w fun e w'=>e= .returned (.bool r)∧Drawn0 w w':=by
 have H:(if a0 ≥ a1 then(some (decide (a0≤a2))) else(some false))=some r:=h
 clear h
 by_cases c4:a0 ≥ a1
 ·rw [if_pos c4] at H
  have c4b0:decide (a1≤a0)=true:=decide_eq_true c4
  clear c4
  obtain rfl:=Option.some.inj H
  go_enter Try.func18,Try.ntmps18
  go_wp2
  go_ret
  exact⟨by first | rfl | (simp;done) | (simp [*];done),by repeat (first | exact Drawn0.refl _ | apply Drawn0.step)⟩
 ·rw [if_neg c4] at H
  have c4b0:decide (a1≤a0)=false:=decide_eq_false c4
  clear c4
  obtain rfl:=Option.some.inj H
  go_enter Try.func18,Try.ntmps18
  go_wp2
  go_ret
  exact⟨by first | rfl | (simp;done) | (simp [*];done),by repeat (first | exact Drawn0.refl _ | apply Drawn0.step)⟩
def spec_l01In.f (a0:Int) (a1:Int) (a2:Int):Option (Bool):=if a0 ≥ a1 then(some (decide (a0≤a2))) else(some false)
theorem spec_l01In.calls (a0:Int) (a1:Int) (a2:Int) (r:Bool) (w:World) (h:spec_l01In.f a0 a1 a2=some r):
  Calls Try.prog 16 #[.int .i64 a0, .int .i64 a1, .int .i64 a2] w fun e w'=>e= .returned (.bool r)∧Drawn0 w w':=by
 have H:(if a0 ≥ a1 then(some (decide (a0≤a2))) else(some false))=some r:=h
 clear h
 by_cases c4:a0 ≥ a1
 ·rw [if_pos c4] at H
  have c4b0:decide (a1≤a0)=true:=decide_eq_true c4
  clear c4
  obtain rfl:=Option.some.inj H
  go_enter Try.func16,Try.ntmps16
  go_wp2
  go_ret
  exact⟨by first | rfl | (simp;done) | (simp [*];done),by repeat (first | exact Drawn0.refl _ | apply Drawn0.step)⟩
 ·rw [if_neg c4] at H
  have c4b0:decide (a1≤a0)=false:=decide_eq_false c4
  clear c4
  obtain rfl:=Option.some.inj H
  go_enter Try.func16,Try.ntmps16
  go_wp2
  go_ret
  exact⟨by first | rfl | (simp;done) | (simp [*];done),by repeat (first | exact Drawn0.refl _ | apply Drawn0.step)⟩
end Go.Proofs.Ytmcddlpgffbmpaa.Pr
end
section
namespace Go.Proofs.Ytmcddlpgffbmpaa.La
open Go.RowKit Go.Proofs.YtmcddlpgffbmpaaW.PrintWords Go.Proofs.YtmcddlpgffbmpaaW.PrintMore Go.Proofs.Ytmcddlpgffbmpaa.Ma Go.Proofs.Ytmcddlpgffbmpaa.Pr Go.Proofs.Ytmcddlpgffbmpaa.Op
theorem rdL (l:List (List Int)) (i:Nat):rd_L1 l (i:Int)=l.getD i []:=by simp [rd_L1]
theorem rdL_at {l:List (List Int)} {i:Nat} (h:i < l.length):rd_L1 l (i:Int)=l[i]:=by simp [rd_L1,h]
def lens:List (List Int)→Nat
 | []=>0
 | x::l=>x.length+lens l
theorem lens_cons (x:List Int) (l:List (List Int)):(lens (x::l):Int)=(x.length:Int)+(lens l:Int):=by simp [lens]
def tot (l:List (List Int)):Nat:=l.length+lens l
theorem lens_mem {l:List (List Int)} {x:List Int} (h:x ∈ l):x.length≤lens l:=by
 induction l with
 | nil=>cases h
 | cons y l ih=>
  rcases List.mem_cons.1 h with rfl | h
  ·exact Nat.le_add_right _ _
  ·exact Nat.le_trans (ih h) (Nat.le_add_left _ _)
theorem szSS_loop (l:List (List Int)) (hr: ∀x ∈ l,x.length≤maxLen) (hlen:l.length≤1048576): ∀m i (n:Int),i+m=l.length→0≤n→n≤1048576→
  Ev (fun k=>laws_szInt64SS.l0 k l n i) (if n < (lens (l.drop i):Int) then(-1:Int) else n - (lens (l.drop i):Int)):=by
 intro m
 induction m with
 | zero=>
  intro i n hi h0 h1
  refine evstep (fun k=>by rw [laws_szInt64SS.l0]) (evneg (by omega) (evc ?_))
  rw [List.drop_of_length_le (by omega),if_neg (by simp [lens];omega)]
  simp [lens]
 | succ m ih=>
  intro i n hi h0 h1
  have hlt:i < l.length:=by omega
  have hx:=hr l[i] (List.getElem_mem hlt)
  refine evstep (fun k=>by rw [laws_szInt64SS.l0]) (evpos (by omega) (evpos (by omega) ?_))
  rw [rdL_at hlt]
  refine evsome (sz_eq h0 h1 hx) ?_
  rw [List.drop_eq_getElem_cons hlt]
  by_cases c:n < (l[i].length:Int)
  ·rw [if_pos c,if_pos (by rw [lens_cons];omega)]
   exact evpos (by decide) (evc rfl)
  ·rw [if_neg c]
   refine evneg (by omega) ?_
   rw [w64 (by omega) (by omega)]
   have:=ih (i+1) (n - (l[i].length:Int)) (by omega) (by omega) (by omega)
   have e:(if n - (l[i].length:Int) < (lens (l.drop (i+1)):Int) then(-1:Int) else n - (l[i].length:Int) - (lens (l.drop (i+1)):Int))=(if n < (lens (l[i]::l.drop (i+1)):Int) then(-1:Int) else n - (lens (l[i]::l.drop (i+1)):Int)):=by
    rw [lens_cons]
    by_cases c2:n - (l[i].length:Int) < (lens (l.drop (i+1)):Int)
    ·rw [if_pos c2,if_pos (by omega)]
    ·rw [if_neg c2,if_neg (by omega)];omega
   rw [← e]
   exact this
theorem szSS (l:List (List Int)) (hg:GoodList (GoodList (GoodInt .i64)) l) {n:Int} (h0:0≤n) (h1:n≤1048576):Ev (fun k=>laws_szInt64SS.f k l n) (if n < (tot l:Int) then(-1:Int) else n - (tot l:Int)):=by
 have hl:=hg.1
 unfold maxLen at hl
 unfold laws_szInt64SS.f
 rw [w64 (by omega) (by omega)]
 by_cases c:n < (l.length:Int)
 ·rw [if_pos (by unfold tot;omega)]
  exact evpos (by omega) (evc rfl)
 ·refine evneg (by omega) ?_
  have:=szSS_loop l (fun x hx=>(hg.2 x hx).1) (by omega) l.length 0 (n - (l.length:Int)) (by omega) (by omega) (by omega)
  rw [List.drop_zero] at this
  have e:(if n - (l.length:Int) < (lens l:Int) then(-1:Int) else n - (l.length:Int) - (lens l:Int))=(if n < (tot l:Int) then(-1:Int) else n - (tot l:Int)):=by
   unfold tot
   by_cases c2:n - (l.length:Int) < (lens l:Int)
   ·rw [if_pos c2,if_pos (by omega)]
   ·rw [if_neg c2,if_neg (by omega)];omega
  rw [← e]
  exact this
theorem set_append_at {α:Type} (a b:List α) (x y:α):(a++y::b).set a.length x=a++x::b:=by
 rw [List.set_append_right _ _ (Nat.le_refl _),Nat.sub_self,List.set_cons_zero]
theorem toSS (l:List (List Int)) (hl:l.length≤1048576) (hr: ∀x ∈ l,x.length≤1048576):Ev (fun k=>laws_toInt64SS.f k l) l:=by
 have key: ∀(m i:Nat),i+m=l.length→Ev (fun k=>laws_toInt64SS.l0 k l (l.take i++List.replicate m []) i) l:=by
  intro m
  induction m with
  | zero=>
   intro i hi
   refine evstep (fun k=>by rw [laws_toInt64SS.l0]) (evneg (by omega) (evc ?_))
   rw [List.replicate_zero,List.append_nil,List.take_of_length_le (by omega)]
  | succ m ih=>
   intro i hi
   have hlt:i < l.length:=by omega
   refine evstep (fun k=>by rw [laws_toInt64SS.l0]) (evpos (by omega) (evpos (by omega) ?_))
   rw [rdL_at hlt]
   refine evbind (toI l[i] (hr _ (List.getElem_mem hlt))) (evpos (by simp;omega) ?_)
   rw [w64 (by omega) (by omega),Int.toNat_natCast]
   have e:(l.take i++List.replicate (m+1) []).set i l[i]=l.take (i+1)++List.replicate m []:=by
    have h1:(l.take i).length=i:=by rw [List.length_take];omega
    have h2:=set_append_at (l.take i) (List.replicate m []) l[i] []
    rw [h1] at h2
    rw [List.replicate_succ,h2,List.take_succ_eq_append_getElem hlt,List.append_assoc]
    rfl
   rw [e]
   exact ih (i+1) (by omega)
 unfold laws_toInt64SS.f
 refine evpos (by omega) (evpos (by omega) ?_)
 have:=key l.length 0 (by omega)
 simpa using this
theorem eqSS (l:List (List Int)) (hl:l.length≤1152921504606846976) (hr: ∀x ∈ l,x.length≤1152921504606846976):Ev (fun k=>laws_eqInt64SS.f k l l) true:=by
 have key: ∀(m i:Nat),i+m=l.length→Ev (fun k=>laws_eqInt64SS.l0 k l l i) true:=by
  intro m
  induction m with
  | zero=>
   intro i hi
   refine evstep (fun k=>by rw [laws_eqInt64SS.l0]) ?_
   exact evneg (by omega) (evc rfl)
  | succ m ih=>
   intro i hi
   have hlt:i < l.length:=by omega
   refine evstep (fun k=>by rw [laws_eqInt64SS.l0]) (evpos (by omega) (evpos (by omega) (evpos (by omega) ?_)))
   rw [rdL_at hlt]
   refine evbind (eqI_same _ (hr _ (List.getElem_mem hlt))) (evpos rfl ?_)
   rw [w64 (by omega) (by omega)]
   exact ih (i+1) (by omega)
 unfold laws_eqInt64SS.f
 exact evpos rfl (key l.length 0 (by omega))
structure Fit (l:List (List Int)):Prop where
 len:l.length≤1048576
 row: ∀x ∈ l,x.length≤1048576
theorem fit_of {l:List (List Int)} (h:tot l≤1048576):Fit l:=⟨by unfold tot at h;omega,fun x hx=>by have:=lens_mem hx;unfold tot at h;omega⟩
theorem fit_eq {l:List (List Int)} (h:Fit l):Ev (fun k=>laws_eqInt64SS.f k l l) true:=eqSS l (by have:=h.len;omega) (fun x hx=>by have:=h.row x hx;omega)
theorem fit_to {l:List (List Int)} (h:Fit l):Ev (fun k=>laws_toInt64SS.f k l) l:=toSS l h.len h.row
end Go.Proofs.Ytmcddlpgffbmpaa.La
end
section
namespace Go.Proofs.Ytmcddlpgffbmpaa.Hm
open Go.RowKit Go.Proofs.YtmcddlpgffbmpaaW.PrintWords Go.Proofs.YtmcddlpgffbmpaaW.PrintLast Go.Proofs.YtmcddlpgffbmpaaW.PrintMore Go.Proofs.Ytmcddlpgffbmpaa.Pr Go.Proofs.Ytmcddlpgffbmpaa.La Go.Proofs.Ytmcddlpgffbmpaa.Ma
def marks:List (List Int)→Int→List (List Int)
 | [],_=> []
 | x::l,n=>count n x.length::marks l (n+x.length)
def part (l:List (List Int)) (n:Int) (i:Nat):List (List Int):=marks (l.take i) n++l.drop i
theorem marks_length: ∀(l:List (List Int)) (n:Int),(marks l n).length=l.length
 | [],_=>rfl
 | x::l,n=>by simp [marks,marks_length l]
theorem part_length (l:List (List Int)) (n:Int) (i:Nat) (h:i≤l.length):(part l n i).length=l.length:=by
 simp [part,marks_length];omega
theorem lens_append (a b:List (List Int)):lens (a++b)=lens a+lens b:=by
 induction a with
 | nil=>simp [lens]
 | cons x a ih=>simp only [List.cons_append,lens,ih];omega
theorem marks_append: ∀(a b:List (List Int)) (n:Int),marks (a++b) n=marks a n++marks b (n+lens a)
 | [],b,n=>by simp [marks,lens]
 | x::a,b,n=>by
  simp only [List.cons_append,marks,marks_append a b,lens]
  congr 3
  push_cast
  omega
theorem part_at (l:List (List Int)) (n:Int) (i:Nat) (h:i < l.length):(part l n i).getD i []=l[i]:=by
 have hm:(marks (l.take i) n).length=i:=by rw [marks_length,List.length_take];omega
 unfold part
 rw [List.getD_eq_getElem?_getD,List.getElem?_append_right (by omega),hm,Nat.sub_self,List.getElem?_drop,Nat.add_zero,List.getElem?_eq_getElem h]
 rfl
theorem part_set (l:List (List Int)) (n:Int) (i:Nat) (h:i < l.length):(part l n i).set i (count (n+lens (l.take i)) l[i].length)=part l n (i+1):=by
 have hm:(marks (l.take i) n).length=i:=by rw [marks_length,List.length_take];omega
 unfold part
 rw [List.take_succ_eq_append_getElem h,marks_append,List.append_assoc,List.set_append_right _ _ (by omega),hm,Nat.sub_self,List.drop_eq_getElem_cons h,List.set_cons_zero]
 simp [marks]
theorem lens_take_succ (l:List (List Int)) (i:Nat) (h:i < l.length):lens (l.take (i+1))=lens (l.take i)+l[i].length:=by
 rw [List.take_succ_eq_append_getElem h,lens_append];simp [lens]
theorem lens_take_le (l:List (List Int)) (i:Nat):lens (l.take i)≤lens l:=by
 have:=lens_append (l.take i) (l.drop i)
 rw [List.take_append_drop] at this
 omega
theorem mark_k (l:List Int) (n:Int) (hl:l.length≤1152921504606846976) (h0:0≤n) (h1:n≤1152921504606846976): ∃k,laws_markInt64S.f k l n=some (n+l.length,count n l.length):=evk (markI l n hl h0 h1)
section
variable {w0:World} {ok:Nat→Prop}
abbrev SS (w0 w:World) (ok:Nat→Prop) (v:Value) (l:List (List Int)):Prop:=Kd.S (Kd.slice 2 (Kd.int .i64)) 29 w w0.heap.size ok v l
theorem mark_row {g cap:Nat} {w:World} {l:List (List Int)} (hB:Below w0.heap.size w0 w) (h:SS w0 w ok (.slice (some ⟨g,0,none⟩) l.length cap) l) (i:Nat) (hi:i < l.length) (n:Int) (hl:l[i].length≤1152921504606846976) (h0:0≤n) (h1:n≤1152921504606846976):
  ∃u:Value,w.cell? ⟨g,i,none⟩=some u∧Calls Try.prog 14 #[u, .int .i64 n] w fun e w'=>e= .returned (.int .i64 (n+l[i].length))∧SS w0 w' ok (.slice (some ⟨g,0,none⟩) l.length cap) (l.set i (count n l[i].length))∧Below w0.heap.size w0 w'∧Kept w w' ok:=by
 obtain⟨oki,c,hcl,hM,hcc,hoki,hH⟩:=Kd.S_lend h [] (i:Int) (by omega) (by omega)
 rw [Int.toNat_natCast,List.getD_eq_getElem?_getD,List.getElem?_eq_getElem hi] at hM
 obtain⟨u,rfl,hR⟩:=hM
 refine⟨u,by have:=hcc 0 u rfl;rw [show (Kd.slice 2 (Kd.int .i64)).sz=1 from rfl] at this;simpa using this,?_⟩
 obtain⟨k,hk⟩:=mark_k l[i] n hl h0 h1
 refine(laws_markInt64S.calls k (fun b=>some b=u.ownBlock) u l[i] n _ _ w0 w hB (Kd.R_tight rfl hR) hk).mono ?_
 rintro e w' ⟨rfl,hR',hB',hK⟩
 have hok: ∀b,some b=u.ownBlock→oki b:=fun b hb=>hR.1 b hb.symm
 refine⟨rfl,?_,hB',hK.mono (fun b hb=>(hoki b (hok b hb)).1)⟩
 have hH':=Kd.H_step (w1:=w') hH (fun b _ hn hlt=>hK.2 b hlt (fun hb=>hn (hok b hb)))
 have hT:=Kd.R_tight (d:=Kd.int .i64) rfl hR'
 have:=Kd.H_back hH' (x':=count n l[i].length) (okp:=fun b=>some b=u.ownBlock) ⟨u,rfl,hT⟩ hok
 rw [Int.toNat_natCast] at this
 exact this
end
theorem markSS {w0 w:World} {ok:Nat→Prop} (v:Value) (l:List (List Int)) (n:Int) (hB:Below w0.heap.size w0 w) (h:SS w0 w ok v l) (h0:0≤n) (h1:n+lens l≤1099511627776) (hl:l.length≤1099511627776):
  Calls Try.prog 35 #[v, .int .i64 n] w fun e w'=>e= .returned (.int .i64 (n+lens l))∧SS w0 w' ok v (marks l n)∧Below w0.heap.size w0 w'∧Kept w w' ok:=by
 obtain⟨A,c,rfl⟩:=Kd.S_slice h
 have HS:=q_ h
 have HB:=q_ hB
 have H1:=q_ h1
 have H0:=q_ h0
 have HL:=q_ hl
 clear h hB h1 h0 hl
 go_enter Try.func35,Try.ntmps35
 go_wp2
 go_loopg [1,5] l.length (fun gg v1 v5 wr=> ∃(i:Nat) (m:Int),i≤l.length∧l.length - i≤gg∧v1= .int .i64 m∧v5= .int .i64 (i:Int)∧Aside0 (m=n+lens (l.take i))∧Aside0 (SS w0 wr ok (.slice A l.length c) (part l n i))∧Aside0 (Below w0.heap.size w0 wr)∧Aside0 (Kept w wr ok))
 case atStart=>exact⟨0,n,Nat.zero_le _,by omega,rfl,rfl,⟨by simp [lens]⟩,⟨by simpa [part,marks] using HS.out⟩,HB,⟨Kept.refl _ _⟩⟩
 case round=>
  obtain⟨i,m,hi,hg,rfl,rfl,HM,RS,RB,RK⟩:=hrel
  by_cases hlt:i < l.length
  ·have hpl:=part_length l n i hi
   obtain⟨g,cap,hv,hb1,hb2,cells,hc1⟩:=Kd.S_form RS.out (by rw [hpl];omega)
   rw [hpl] at hv
   injection hv with hA hn hc
   subst hA;subst hc
   have hm0:0≤m:=by have:=HM.out;have:=H0.out;omega
   have hm1:m+l[i].length≤1099511627776:=by
    have e1:=lens_take_succ l i hlt
    have e2:=lens_take_le l (i+1)
    have:=HM.out;have:=H1.out;omega
   have e:(part l n i)[i]'(by omega)=l[i]:=by
    have:=part_at l n i hlt
    rwa [List.getD_eq_getElem?_getD,List.getElem?_eq_getElem (by omega)] at this
   have hrow:=mark_row (g:=g) (cap:=c) RB.out (by rw [hpl];exact RS.out) i (by omega) m (by rw [e];omega) hm0 (by omega)
   rw [e,hpl] at hrow
   obtain⟨u,hcell,hcall⟩:=hrow
   have HCALL:=q_ hcall
   have hltz:(i:Int) < (l.length:Int):=by omega
   have h0z:(0:Int)≤(i:Int):=by omega
   have hlen:=HL.out
   have hw:IntKind.i64.wrap ((i:Int)+1)=((i+1:Nat):Int):=by rw [IntWalk.i64_in _ (by omega)];rfl
   have HLT:=q_ hlt
   clear hcall hm0 hm1 e hc1 hb1 hb2 hpl hn hlen
   go_wp2_with fail
   refine HCALL.out.mono ?_
   rintro e w' ⟨rfl,hS,hB',hK⟩
   have HS':=q_ hS
   have HB':=q_ hB'
   have HK':=q_ hK
   clear hS hB' hK HCALL
   go_wp2
   go_roundg (l.length - (i+1))
   case measure=>omega
   case rel=>
    have hle:=HLT.out
    refine⟨i+1,m+l[i].length,by omega,by omega,rfl,by first | rfl | (rw [hw]) | simp [hw],⟨?_⟩,⟨?_⟩,⟨HB'.out⟩,⟨?_⟩⟩
    ·rw [HM.out,lens_take_succ l i hle];push_cast;omega
    ·have:=HS'.out
     rw [HM.out,part_set l n i hle] at this
     exact this
    ·exact RK.out.then_ HK'.out (fun b hb=> .inl hb)
  ·have hltz: ¬ (i:Int) < (l.length:Int):=by omega
   obtain rfl:i=l.length:=by omega
   go_wp2
   go_ret
   have e1:l.take l.length=l:=List.take_length
   refine⟨by rw [HM.out,e1];rfl,?_,RB.out,RK.out⟩
   have:=RS.out
   simpa [part,e1] using this
end Go.Proofs.Ytmcddlpgffbmpaa.Hm
end
section
namespace Go.Proofs.Ytmcddlpgffbmpaa.Lw
open Go.RowKit Go.Proofs.YtmcddlpgffbmpaaW.PrintWords Go.Proofs.YtmcddlpgffbmpaaW.PrintLast Go.Proofs.YtmcddlpgffbmpaaW.PrintMore Go.Proofs.Ytmcddlpgffbmpaa.Pr Go.Proofs.Ytmcddlpgffbmpaa.La Go.Proofs.Ytmcddlpgffbmpaa.Ma Go.Proofs.Ytmcddlpgffbmpaa.Hm
structure Frm (w w':World) (a b:Nat):Prop where
 size:w.heap.size≤w'.heap.size
 same: ∀k,k < w.heap.size→k < a∨b≤k→w'.heap[k]?=w.heap[k]?
theorem Frm.below {w w':World} (h:Below w.heap.size w w'):Frm w w' 0 0:=⟨h.size,fun k hk _=>h.block k hk⟩
theorem Frm.set (w:World) (g i:Nat) (u:Value):Frm w (w.setCell ⟨g,i,none⟩ u) g (g+1):=
 ⟨by simp,fun k _ hk=>Below.heap_setCell w ⟨g,i,none⟩ u k (by simp;omega)⟩
theorem Frm.trans {w w1 w2:World} {a b:Nat} (h:Frm w w1 a b) (k:Frm w1 w2 a b):Frm w w2 a b:=
 ⟨Nat.le_trans h.size k.size,fun i hi hn=>(k.same i (Nat.lt_of_lt_of_le hi h.size) hn).trans (h.same i hi hn)⟩
theorem Frm.kept {w w':World} {ok:Nat→Prop} {a b:Nat} (h:Kept w w' ok) (hok: ∀k,ok k→a≤k∧k < b):Frm w w' a b:=
 ⟨h.1,fun k hk hn=>h.2 k hk (fun ho=>by have:=hok k ho;omega)⟩
section
variable {α:Type} {d:Kd α} {e lo hi a b:Nat} {w0 w w':World} {v v1:Value} {xs:List α}
def UR (d:Kd α) (e:Nat) (w0 w:World) (lo hi:Nat) (v:Value) (xs:List α):Prop:=d.R e w w0.heap.size (fun k=>lo≤k∧k < hi) v xs
def US (d:Kd α) (e:Nat) (w0 w:World) (lo hi:Nat) (v:Value) (xs:List α):Prop:=d.S e w w0.heap.size (fun k=>lo≤k∧k < hi) v xs
theorem UR.mv (h:UR d e w0 w lo hi v xs) (F:Frm w w' a b) (hd:hi≤a∨b≤lo):UR d e w0 w' lo hi v xs:=Kd.R_step h (fun k hk hlt=>F.same k hlt (by omega))
theorem US.mv (h:US d e w0 w lo hi v xs) (F:Frm w w' a b) (hd:hi≤a∨b≤lo):US d e w0 w' lo hi v xs:=Kd.S_step h (fun k hk hlt=>F.same k hlt (by omega))
theorem UR.mvB (h:UR d e w0 w lo hi v xs) (F:Frm w w' 0 0):UR d e w0 w' lo hi v xs:=h.mv F (.inr (Nat.zero_le _))
theorem US.mvB (h:US d e w0 w lo hi v xs) (F:Frm w w' 0 0):US d e w0 w' lo hi v xs:=h.mv F (.inr (Nat.zero_le _))
theorem UR.of {ok:Nat→Prop} (h:d.R e w' w.heap.size ok v xs) (hb:w0.heap.size≤w.heap.size):UR d e w0 w' w.heap.size w'.heap.size v xs:=
 Kd.R_lower (Kd.R_mono (Kd.R_bound h) (fun k hk=>⟨hk.2.1,hk.2.2.1⟩)) hb
theorem US.of {ok:Nat→Prop} (h:d.S e w' w.heap.size ok v xs) (hb:w0.heap.size≤w.heap.size):US d e w0 w' w.heap.size w'.heap.size v xs:=
 Kd.S_lower (Kd.S_mono (Kd.S_bound h) (fun k hk=>⟨hk.2.1,hk.2.2.1⟩)) hb
theorem UR.C {A:Option Addr} {n c:Nat} (h:UR d e w0 w lo hi (.slice A n c) xs):d.C w A xs.length xs:=(Kd.R_reads' h).2.2
theorem UR.len {A:Option Addr} {n c:Nat} (h:UR d e w0 w lo hi (.slice A n c) xs):n=xs.length:=(Kd.R_reads' h).1
theorem UR.cap {A:Option Addr} {n c:Nat} (h:UR d e w0 w lo hi (.slice A n c) xs):xs.length≤c:=(Kd.R_reads' h).1 ▸ (Kd.R_reads' h).2.1
theorem US.C {A:Option Addr} {n c:Nat} (h:US d e w0 w lo hi (.slice A n c) xs):d.C w A xs.length xs:=(Kd.S_reads' h).2.2
theorem US.cap {A:Option Addr} {n c:Nat} (h:US d e w0 w lo hi (.slice A n c) xs):xs.length≤c:=(Kd.S_reads' h).1 ▸ (Kd.S_reads' h).2.1
end
structure UP (w0 w:World) (lo hi:Nat) (v0 v1:Value) (M:List (List Int)) (Q:List Int):Prop where
 m:Kd.S (Kd.slice 2 (Kd.int .i64)) 29 w w0.heap.size (fun k=>(lo≤k∧k < hi)∧some k≠v1.ownBlock) v0 M
 q:Kd.R (Kd.int .i64) 2 w w0.heap.size (fun k=>lo≤k∧k < hi) v1 Q
section
variable {lo hi a b:Nat} {w0 w w':World} {v0 v1:Value} {M:List (List Int)} {Q:List Int}
theorem UP.mv (h:UP w0 w lo hi v0 v1 M Q) (F:Frm w w' a b) (hd:hi≤a∨b≤lo):UP w0 w' lo hi v0 v1 M Q:=
 ⟨Kd.S_step h.m (fun k hk hlt=>F.same k hlt (by have:=hk.1;omega)),Kd.R_step h.q (fun k hk hlt=>F.same k hlt (by omega))⟩
theorem UP.mvB (h:UP w0 w lo hi v0 v1 M Q) (F:Frm w w' 0 0):UP w0 w' lo hi v0 v1 M Q:=h.mv F (.inr (Nat.zero_le _))
theorem UP.of {ok:Nat→Prop} (h:Kd.S (Kd.slice 2 (Kd.int .i64)) 29 w' w.heap.size (fun k=>some k≠v1.ownBlock) v0 M) (h':Kd.R (Kd.int .i64) 2 w' w.heap.size ok v1 Q) (hb:w0.heap.size≤w.heap.size):UP w0 w' w.heap.size w'.heap.size v0 v1 M Q:=
 ⟨Kd.S_lower (Kd.S_mono (Kd.S_bound h) (fun k hk=>⟨⟨hk.2.1,hk.2.2.1⟩,hk.1⟩)) hb,UR.of h' hb⟩
theorem UP.slices (h:UP w0 w lo hi v0 v1 M Q): ∃A0 c0 A1 c1,v0= .slice A0 M.length c0∧v1= .slice A1 Q.length c1:=by
 obtain⟨A0,c0,e0⟩:=Kd.S_slice h.m
 obtain⟨A1,c1,e1⟩:=Kd.R_slice h.q
 exact⟨A0,c0,A1,c1,e0,e1⟩
variable {A0 A1:Option Addr} {n0 c0 n1 c1:Nat}
theorem UP.C0 (h:UP w0 w lo hi (.slice A0 n0 c0) v1 M Q):Kd.C (Kd.slice 2 (Kd.int .i64)) w A0 M.length M:=(Kd.S_reads' h.m).2.2
theorem UP.C1 (h:UP w0 w lo hi v0 (.slice A1 n1 c1) M Q):Kd.C (Kd.int .i64) w A1 Q.length Q:=(Kd.R_reads' h.q).2.2
theorem UP.cap0 (h:UP w0 w lo hi (.slice A0 n0 c0) v1 M Q):M.length≤c0:=(Kd.S_reads' h.m).1 ▸ (Kd.S_reads' h.m).2.1
theorem UP.cap1 (h:UP w0 w lo hi v0 (.slice A1 n1 c1) M Q):Q.length≤c1:=(Kd.R_reads' h.q).1 ▸ (Kd.R_reads' h.q).2.1
end
theorem mark_US {w0 w:World} {lo hi:Nat} (v:Value) (l:List (List Int)) (n m:Int) (hB:Below w0.heap.size w0 w) (h:US (Kd.slice 2 (Kd.int .i64)) 29 w0 w lo hi v l) (h0:0≤n) (h1:n+lens l≤1099511627776) (hl:l.length≤1099511627776) (hm:m=n+lens l):
  Calls Try.prog 35 #[v, .int .i64 n] w fun e w'=>e= .returned (.int .i64 m)∧US (Kd.slice 2 (Kd.int .i64)) 29 w0 w' lo hi v (marks l n)∧Below w0.heap.size w0 w'∧Frm w w' lo hi:=by
 subst hm
 refine(markSS v l n hB h h0 h1 hl).mono ?_
 rintro e w' ⟨rfl,hS,hB',hK⟩
 exact⟨rfl,hS,hB',Frm.kept hK (fun _ hk=>hk)⟩
end Go.Proofs.Ytmcddlpgffbmpaa.Lw
end
section
namespace Go.Proofs.Ytmcddlpgffbmpaa.Lw
open Go.RowKit Go.Proofs.YtmcddlpgffbmpaaW.PrintWords Go.Proofs.YtmcddlpgffbmpaaW.PrintLast Go.Proofs.YtmcddlpgffbmpaaW.PrintMore Go.Proofs.Ytmcddlpgffbmpaa.Pr Go.Proofs.Ytmcddlpgffbmpaa.La Go.Proofs.Ytmcddlpgffbmpaa.Ma Go.Proofs.Ytmcddlpgffbmpaa.Hm
abbrev U2 (w0 w:World) (lo hi:Nat) (v:Value) (l:List (List Int)):Prop:=US (Kd.slice 2 (Kd.int .i64)) 29 w0 w lo hi v l
structure UG (w0 w:World) (lo hi:Nat) (v0 v1:Value) (a b:List (List Int)):Prop where
 ex: ∃mid,lo≤mid∧mid≤hi∧U2 w0 w lo mid v0 a∧U2 w0 w mid hi v1 b
section
variable {lo hi x y:Nat} {w0 w w':World} {v0 v1:Value} {a b:List (List Int)}
theorem UG.mv (h:UG w0 w lo hi v0 v1 a b) (F:Frm w w' x y) (hd:hi≤x∨y≤lo):UG w0 w' lo hi v0 v1 a b:=by
 obtain⟨mid,h1,h2,h3,h4⟩:=h.ex
 exact⟨mid,h1,h2,h3.mv F (by omega),h4.mv F (by omega)⟩
theorem UG.mvB (h:UG w0 w lo hi v0 v1 a b) (F:Frm w w' 0 0):UG w0 w' lo hi v0 v1 a b:=h.mv F (.inr (Nat.zero_le _))
theorem US.low {α:Type} {d:Kd α} {e:Nat} {v:Value} {xs:List α} (h:US d e w w' lo hi v xs) (hb:w0.heap.size≤w.heap.size):US d e w0 w' lo hi v xs:=Kd.S_lower h hb
theorem UG.of (h:UG w w' lo hi v0 v1 a b) (hb:w0.heap.size≤w.heap.size):UG w0 w' lo hi v0 v1 a b:=by
 obtain⟨mid,h1,h2,h3,h4⟩:=h.ex
 exact⟨mid,h1,h2,h3.low hb,h4.low hb⟩
theorem UG.nil (w0 w:World) (lo hi:Nat) (h:lo≤hi):UG w0 w lo hi (.slice none 0 0) (.slice none 0 0) [] []:=⟨lo,Nat.le_refl _,h,Kd.S_nil _ _ _ _ _,Kd.S_nil _ _ _ _ _⟩
theorem UG.slices (h:UG w0 w lo hi v0 v1 a b): ∃A0 c0 A1 c1,v0= .slice A0 a.length c0∧v1= .slice A1 b.length c1:=by
 obtain⟨mid,h1,h2,h3,h4⟩:=h.ex
 obtain⟨A0,c0,e0⟩:=Kd.S_slice h3
 obtain⟨A1,c1,e1⟩:=Kd.S_slice h4
 exact⟨A0,c0,A1,c1,e0,e1⟩
variable {A0 A1:Option Addr} {n0 c0 n1 c1:Nat}
theorem UG.C0 (h:UG w0 w lo hi (.slice A0 n0 c0) v1 a b):Kd.C (Kd.slice 2 (Kd.int .i64)) w A0 a.length a:=by obtain⟨_,_,_,h3,_⟩:=h.ex;exact US.C h3
theorem UG.C1 (h:UG w0 w lo hi v0 (.slice A1 n1 c1) a b):Kd.C (Kd.slice 2 (Kd.int .i64)) w A1 b.length b:=by obtain⟨_,_,_,_,h4⟩:=h.ex;exact US.C h4
theorem UG.cap0 (h:UG w0 w lo hi (.slice A0 n0 c0) v1 a b):a.length≤c0:=by obtain⟨_,_,_,h3,_⟩:=h.ex;exact US.cap h3
theorem UG.cap1 (h:UG w0 w lo hi v0 (.slice A1 n1 c1) a b):b.length≤c1:=by obtain⟨_,_,_,_,h4⟩:=h.ex;exact US.cap h4
end
theorem mark_UG {w0 w:World} {lo hi:Nat} (A0:Option Addr) (c0:Nat) (A1:Option Addr) (c1:Nat) (a b:List (List Int)) (n m:Int) (hB:Below w0.heap.size w0 w) (h:UG w0 w lo hi (.slice A0 a.length c0) (.slice A1 b.length c1) a b) (h0:0≤n)
  (h1:n+lens a+lens b≤1099511627776) (hl:a.length≤1099511627776) (hl':b.length≤1099511627776) (hm:m=n+lens a+lens b) (hhi:hi≤w.heap.size):
  Calls Try.prog 13 #[.agg #[.slice A0 a.length c0, .slice A1 b.length c1], .int .i64 n] w fun e w'=>e= .returned (.int .i64 m)∧UG w0 w' lo hi (.slice A0 a.length c0) (.slice A1 b.length c1) (marks a n) (marks b (n+lens a))∧Below w0.heap.size w0 w'∧Frm w w' lo hi:=by
 obtain⟨mid,hm1,hm2,hA,hB2⟩:=h.ex
 have HB:=q_ hB
 have HU:=q_ hA
 have HV:=q_ hB2
 have H0:=q_ h0
 have H1:=q_ h1
 have HL:=q_ hl
 have HL':=q_ hl'
 have HM:=q_ hm
 have HF:=q_ (show Kept w w (fun k=>lo≤k∧k < hi) from Kept.refl _ _)
 obtain⟨n1,hn1⟩: ∃x,x=n+lens a:=⟨_,rfl⟩
 have HN:=q_ hn1
 have HHI:=q_ hhi
 have HD:=q_ (And.intro hm1 hm2)
 clear hB h h0 h1 hl hl' hm hn1 hhi hA hB2 hm1 hm2
 go_enter Try.func13,Try.ntmps13
 go_wp2_with (first | ((with_reducible refine gate_dst (N:=2) rfl ?_);refine box_event ?hg (N:=2) ?hd (cs:= #[.slice A0 a.length c0, .slice A1 b.length c1]) (t:=32) ?hr ?_;(case hd=>rfl);(case hg=>rfl);(case hr=>first | (go_simp;done) | (go_simp;rfl));intro gb hg w1 hbox hb;have n0:=q_ (HU.out.mvB (Frm.below hb));have n0v:=q_ (HV.out.mvB (Frm.below hb));have n1_:=q_ (below_then HB.out HB.out.size hb);have n2:=q_ (HF.out.below hb);have BK:=q_ hbox;have HG:=q_ (show hi≤gb by rw [hg];exact HHI.out);clear HU HV HB HF hb hbox hg;have HU:=n0;have HV:=n0v;have HB:=n1_;have HF:=n2;clear n0 n0v n1_ n2;have hc0:w1.cell? ⟨gb,0,none⟩=some (.slice A0 a.length c0):=(blk_cell BK.out 0).trans rfl;have hc1:w1.cell? ⟨gb,1,none⟩=some (.slice A1 b.length c1):=(blk_cell BK.out 1).trans rfl) | ((with_reducible refine gate_callee (f:=35) rfl ?_);refine gL_ 8 Try.func35 #[.slice A0 a.length c0, .int .i64 n] ?_;refine(mark_US _ a n _ HB.out HU.out H0.out (by have:=H1.out;omega) HL.out HN.out).mono ?_;rintro e w2 ⟨rfl,hS,hB',hF⟩;refine⟨_,rfl,?_⟩;have n0:=q_ hS;have n0v:=q_ (HV.out.mv hF (.inr (Nat.le_refl _)));have n1_:=q_ hB';have n2:=q_ (show Kept w w2 (fun k=>lo≤k∧k < hi) from ⟨Nat.le_trans HF.out.1 hF.size,fun k hk hn=>(hF.same k (Nat.lt_of_lt_of_le hk HF.out.1) (by have:=HD.out;omega)).trans (HF.out.2 k hk hn)⟩);have n3:=q_ ((hF.same gb (blk_lt BK.out) (by have:=HG.out;have:=HD.out;omega)).trans BK.out);clear HU HV HB HF BK hS hB' hF hc0 hc1;have HU:=n0;have HV:=n0v;have HB:=n1_;have HF:=n2;have BK:=n3;clear n0 n0v n1_ n2 n3;have hc0:w2.cell? ⟨gb,0,none⟩=some (.slice A0 a.length c0):=(blk_cell BK.out 0).trans rfl;have hc1:w2.cell? ⟨gb,1,none⟩=some (.slice A1 b.length c1):=(blk_cell BK.out 1).trans rfl) | ((with_reducible refine gate_callee (f:=35) rfl ?_);refine gL_ 12 Try.func35 #[.slice A1 b.length c1, .int .i64 n1] ?_;refine(mark_US _ b n1 m HB.out HV.out (by rw [HN.out];have:=H0.out;omega) (by rw [HN.out];exact H1.out) HL'.out (by rw [HN.out];exact HM.out)).mono ?_;rintro e w3 ⟨rfl,hS,hB',hF⟩;refine⟨_,rfl,?_⟩;have n0:=q_ hS;have n0v:=q_ (HU.out.mv hF (.inl (Nat.le_refl _)));have n1_:=q_ hB';have n2:=q_ (show Kept w w3 (fun k=>lo≤k∧k < hi) from ⟨Nat.le_trans HF.out.1 hF.size,fun k hk hn=>(hF.same k (Nat.lt_of_lt_of_le hk HF.out.1) (by have:=HD.out;omega)).trans (HF.out.2 k hk hn)⟩);clear HU HV HB HF hS hB' hF hc0 hc1;have HV:=n0;have HU:=n0v;have HB:=n1_;have HF:=n2;clear n0 n0v n1_ n2))
 go_ret
 have hv:=HV.out
 rw [HN.out] at hv
 exact⟨rfl,⟨mid,HD.out.1,HD.out.2,HU.out,hv⟩,HB.out,Frm.kept HF.out (fun _ hk=>hk)⟩
end Go.Proofs.Ytmcddlpgffbmpaa.Lw
end
section
namespace Go.Proofs.Ytmcddlpgffbmpaa.Lw
open Go.RowKit Go.Proofs.YtmcddlpgffbmpaaW.PrintWords Go.Proofs.YtmcddlpgffbmpaaW.PrintLast Go.Proofs.YtmcddlpgffbmpaaW.PrintMore Go.Proofs.Ytmcddlpgffbmpaa.Pr Go.Proofs.Ytmcddlpgffbmpaa.La Go.Proofs.Ytmcddlpgffbmpaa.Ma Go.Proofs.Ytmcddlpgffbmpaa.Hm
theorem mark_UR (A:Option Addr) (c:Nat) (l:List Int) {w0 w:World} {lo:Nat} (hi:Nat) (n m:Int) (hB:Below w0.heap.size w0 w) (h:UR (Kd.int .i64) 2 w0 w lo hi (.slice A l.length c) l) (h0:0≤n) (h1:n+l.length≤1099511627776) (hm:m=n+l.length):
  Calls Try.prog 14 #[.slice A l.length c, .int .i64 n] w fun e w'=>e= .returned (.int .i64 m)∧UR (Kd.int .i64) 2 w0 w' lo hi (.slice A l.length c) (count n l.length)∧Below w0.heap.size w0 w'∧Frm w w' lo hi:=by
 subst hm
 obtain⟨k,hk⟩:=evk (markI l n (by omega) h0 (by omega))
 refine(laws_markInt64S.calls k _ _ l n _ _ w0 w hB h hk).mono ?_
 rintro e w' ⟨rfl,hS,hB',hK⟩
 exact⟨rfl,⟨h.1,hS.2⟩,hB',Frm.kept hK (fun _ hk=>hk)⟩
theorem UR.split {w0 w w':World} {e lo hi:Nat} {ok:Nat→Prop} {v:Value} {xs:List Int} (h:(Kd.int .i64).R e w' w.heap.size ok v xs) (hb:w0.heap.size≤w.heap.size) (hk: ∀k,ok k→w.heap.size≤k→k < w'.heap.size→lo≤k∧k < hi):UR (Kd.int .i64) e w0 w' lo hi v xs:=
 Kd.R_mono (Kd.R_tight2 rfl (UR.of h hb)) (fun k hk2=>hk k (h.1 k hk2.1.symm) hk2.2.1 hk2.2.2)
end Go.Proofs.Ytmcddlpgffbmpaa.Lw
end
section
namespace Go.Proofs.Ytmcddlpgffbmpaa.Pr
open Go.RowKit Go.Proofs.YtmcddlpgffbmpaaW.PrintWords Go.Proofs.YtmcddlpgffbmpaaW.PrintLast Go.Proofs.YtmcddlpgffbmpaaW.PrintMore
def IntsPred (g:Nat) (lb:Array Value) (p:Int→Bool) (w:World) (l:List Int):Prop:=
 ∀(W:World) (x:Int),x ∈ l→Below w.heap.size w W→Calls Try.prog g (#[.int .i64 x]++lb) W fun e w'=>e= .returned (.bool (p x))∧Below W.heap.size W w'
theorem indexFuncInts (p:Int→Bool) (g:Nat) (lb:Array Value) (eg: ∀args w,(callFunc g args).run Try.prog w= .ok (.enter g args) w) (A:Option Addr) (c:Nat) (l:List Int) (w:World)
  (hr:Kd.C (Kd.int .i64) w A l.length l) (hp:IntsPred g lb p w l):
  Calls Try.prog 47 #[.slice A l.length c, .func (.func g) #[] lb] w fun e w'=>e= .returned (.int .i64 (idxP p l 0))∧Below w.heap.size w w':=by
 have HR:=q_ hr
 have HP:=q_ hp
 have hbig:l.length≤9223372036854775807:=hr.2.1
 clear hr hp
 go_enter Try.func47,Try.ntmps47
 go_wp2
 go_loopg [5,8] l.length (fun gg _ s8 wr=> ∃kk:Nat,kk≤l.length∧l.length - kk≤gg∧s8= .int .i64 kk∧Aside0 (Below w.heap.size w wr)∧Aside0 (∀j (hj:j < l.length),j < kk→p l[j]=false))
 case atStart=>exact⟨0,Nat.zero_le _,by omega,rfl,⟨Below.refl _ w⟩,⟨fun j _ hj=>absurd hj (Nat.not_lt_zero _)⟩⟩
 case round=>
  obtain⟨kk,hkk,hg,rfl,BW,F⟩:=hrel
  by_cases hlt:kk < l.length
  ·obtain⟨ad,e,hx⟩:=Kd.at_int HR.out kk (by omega) (by omega)
   cases e
   rw [Int.toNat_natCast] at hx
   have hx':=(BW.out.cell (World.block_lt_of_cell? w _ hx)).trans hx
   clear hx
   have hel:rd l (kk:Int)=l[kk]:=by simp [rd,hlt]
   have hcall:=HP.out wr l[kk] (List.getElem_mem hlt) BW.out
   rw [hel] at hx'
   clear hel
   have hltz:(kk:Int) < (l.length:Int):=by omega
   have h0z:(0:Int)≤(kk:Int):=by omega
   generalize hy:l[kk]=y at hx' hcall
   have HY:=q_ hy
   clear hy
   cases hq:p y with
   | true=>
    rw [hq] at hcall
    have HQ:=q_ hq
    clear hq
    go_wp2_with fail
    refine hcall.mono ?_
    rintro e w' ⟨rfl,hb'⟩
    clear hcall
    go_wp2
    go_ret
    refine⟨?_,Below.trans BW.out (hb'.mono BW.out.size)⟩
    rw [idxP_hit p l kk hlt F.out (by rw [HY.out];exact HQ.out)]
    rfl
   | false=>
    rw [hq] at hcall
    have HQ:=q_ hq
    clear hq
    go_wp2_with fail
    refine hcall.mono ?_
    rintro e w' ⟨rfl,hb'⟩
    clear hcall
    go_wp2
    go_roundg (l.length - (kk+1))
    case measure=>omega
    case rel=>
     refine⟨kk+1,by omega,by omega,by go_num,⟨Below.trans BW.out (hb'.mono BW.out.size)⟩,⟨fun j hj hjk=>?_⟩⟩
     by_cases e:j=kk
     ·subst e
      rw [HY.out];exact HQ.out
     ·exact F.out j hj (by omega)
  ·have hltz: ¬ (kk:Int) < (l.length:Int):=by omega
   obtain rfl:kk=l.length:=by omega
   go_wp2
   go_ret
   refine⟨?_,BW.out⟩
   rw [idxP_miss p l (fun i hi=>F.out i hi hi)]
   rfl
theorem containsFuncInts (p:Int→Bool) (g:Nat) (lb:Array Value) (eg: ∀args w,(callFunc g args).run Try.prog w= .ok (.enter g args) w) (A:Option Addr) (c:Nat) (l:List Int) (w:World)
  (hr:Kd.C (Kd.int .i64) w A l.length l) (hp:IntsPred g lb p w l):
  Calls Try.prog 40 #[.slice A l.length c, .func (.func g) #[] lb] w fun e w'=>e= .returned (.bool (l.any p))∧Below w.heap.size w w':=by
 rw [← idxP_nonneg p l 0 (Int.le_refl _)]
 have HR:=q_ hr
 have HP:=q_ hp
 clear hr hp
 go_enter Try.func40,Try.ntmps40
 go_wp2_with fail
 refine(indexFuncInts p g lb eg A c l _ HR.out HP.out).mono ?_
 rintro e w' ⟨rfl,hb'⟩
 go_wp2
 go_ret
 exact⟨rfl,hb'⟩
end Go.Proofs.Ytmcddlpgffbmpaa.Pr
end
