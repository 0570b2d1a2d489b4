/- Texts of one claim (the words of the kit's print that the claim uses, printed functions, and this session's own texts), joined in the order of their imports by this session's own program (merge.py). -/
import Derived.Laws.CopyRow
import Derived.Laws.IdiomCopy
import Derived.Test.YtmcddlpgffbmpaaJnFnExactRemainingChoices0
set_option linter.unusedVariables false
set_option linter.unusedSimpArgs false
set_option maxHeartbeats 8000000
set_option maxRecDepth 100000
section
namespace Go.Proofs.Ytmcddlpgffbmpaa.Pr
open Go.RowKit Go.Proofs.YtmcddlpgffbmpaaW.PrintWords Go.Proofs.YtmcddlpgffbmpaaW.PrintLast Go.Proofs.YtmcddlpgffbmpaaW.PrintMore
theorem run_clear_at {P:Program} (w:World) (dT ty elem:TypeId) (g s n c:Nat) (hu:P.underlying dT=some (.slice elem)) (i:TypeInfo) (hi:P.info? elem=some i) (hz:i.zero=some (.int .i64 0)) (hn:0 < n)
  (hc: ∀j,j < n→(w.cell? ⟨g,s+j,none⟩).isSome=true) (hf: ∀j,j < n→w.frozen? ⟨g,s+j,none⟩=false):
  (Builtin.clear_ #[dT] ty #[.slice (some ⟨g,s,none⟩) n c]).run P w= .ok (.tuple #[]) (w.setCells g s (List.replicate n (.int .i64 0))):=by
 have e:(Builtin.zeroCells (Value.int IntKind.i64 0).cells n).toList=List.replicate n (Value.int .i64 0):=by
  apply List.ext_getElem
  ·simp [Builtin.zeroCells,Value.cells]
  ·intro k h1 h2
   simp [Builtin.zeroCells,Value.cells,Nat.mod_one]
 have hst:=run_storeCells_cells (P:=P) g s (List.replicate n (Value.int .i64 0)) 0 w (fun j hj=>by simpa using hc j (by simpa using hj)) (fun j hj=>by simpa using hf j (by simpa using hj)) (fun v hv=>by rw [List.eq_of_mem_replicate hv];rfl)
 obtain⟨m,rfl⟩: ∃m,n=m+1:=⟨n - 1,by omega⟩
 simp [Builtin.clear_,run_underlying hu,zeroValue,typeInfo,hi,hz,e,hst,Result.andThen]
theorem wpList_clear_at {P:Program} {w:World} {ops:Array Oper} {rest:List Oper} {o:Oper} {a:Act} {Q:Exit→Act→World→Prop} (hgd:o.guard=none) (d:Operand) (dT:TypeId)
    (ho:o.op= .call { callee:= .builtin .clear,args:= #[d],argTypes:= #[dT]}) (elem:TypeId) (g s n c:Nat) (hu:P.underlying dT=some (.slice elem)) (hinfo:(P.info? elem).map (fun i=>(i.zero,i.size,i.bytes))=some (some (.int .i64 0),1,8)) (hn:0 < n)
    (hd:a.eval d= .slice (some ⟨g,s,none⟩) n c)
    (hc: ∀j,j < n→(w.cell? ⟨g,s+j,none⟩).isSome=true) (hf: ∀j,j < n→w.frozen? ⟨g,s+j,none⟩=false)
    (h: ∀w1,w1=w.setCells g s (List.replicate n (.int .i64 0))→wpList P ops Q rest (a.put o.dst (.tuple #[])) w1):wpList P ops Q (o::rest) a w:=by
  refine wpList_plain hgd fun K hK=>?_
  obtain⟨i,hi,hii⟩:=Option.map_eq_some_iff.1 hinfo
  have hz:i.zero=some (.int .i64 0):=congrArg (·.1) hii
  have hrun:=run_clear_at (P:=P) w dT o.type elem g s n c hu i hi hz hn hc hf
  unfold Oper.wp
  simp [execOp,ho,resolve,invoke,builtin,hd,hrun,Result.andThen]
  exact hK _ _ (h _ rfl)
theorem clear_R_at {w0:World} {base g n c B s:Nat} {ok:Nat→Prop} (hB:B≤g): ∀q o (w:World) (xs:List Int),s≤o→Kd.R (Kd.int .i64) 2 w base ok (.slice (some ⟨g,0,none⟩) n c) xs→Below B w0 w→
  ∃ys,Kd.R (Kd.int .i64) 2 (w.setCells g o (List.replicate q (.int .i64 0))) base ok (.slice (some ⟨g,0,none⟩) n c) ys∧Below B w0 (w.setCells g o (List.replicate q (.int .i64 0)))∧ys.take s=xs.take s:=by
 intro q
 induction q with
 | zero=>intro o w xs ho h hb;exact⟨xs,h,hb,rfl⟩
 | succ q ih=>
  intro o w xs ho h hb
  have hp:=(Kd.R_putg h (o:Int) 0).1
  rw [Int.toNat_natCast] at hp
  rw [List.replicate_succ]
  obtain⟨ys,h1,h2,h3⟩:=ih (o+1) (w.setCell ⟨g,o,none⟩ (.int .i64 0)) (xs.set o 0) (by omega) hp (hb.setCell hB _)
  exact⟨ys,h1,h2,h3.trans (List.take_set_of_le ho)⟩
theorem clear_far_at {α:Type} {d:Kd α} {e base g:Nat} {ok:Nat→Prop} {v:Value} {xs:List α} (hok: ∀k,ok k→k≠g): ∀(q o:Nat) (w:World),d.R e w base ok v xs→d.R e (w.setCells g o (List.replicate q (.int .i64 0))) base ok v xs:=by
 intro q
 induction q with
 | zero=>intro o w h;exact h
 | succ q ih=>
  intro o w h
  rw [List.replicate_succ]
  exact ih (o+1) _ (Kd.R_far h (p:=⟨g,o,none⟩) hok _)
theorem setCells_size (g:Nat): ∀(vs:List Value) (o:Nat) (w:World),(w.setCells g o vs).heap.size=w.heap.size
 | [],o,w=>rfl
 | v::vs,o,w=>(setCells_size g vs (o+1) _).trans (World.size_setCell w _ _)
structure Kp (ok:Nat→Prop) (w w':World):Prop where
 row: ∀base (ok':Nat→Prop) v (xs:List Int),(∀k,ok' k→ ¬ ok k)→Kd.R (Kd.int .i64) 2 w base ok' v xs→Kd.R (Kd.int .i64) 2 w' base ok' v xs
 size:w.heap.size≤w'.heap.size
theorem Kp.refl (ok:Nat→Prop) (w:World):Kp ok w w:=⟨fun _ _ _ _ _ h=>h,Nat.le_refl _⟩
theorem Kp.trans {ok:Nat→Prop} {w w1 w2:World} (h:Kp ok w w1) (h2:Kp ok w1 w2):Kp ok w w2:=⟨fun b o v xs hk hr=>h2.row b o v xs hk (h.row b o v xs hk hr),Nat.le_trans h.size h2.size⟩
theorem Kp.below {ok:Nat→Prop} {w w1:World} (h:Below w.heap.size w w1):Kp ok w w1:=⟨fun b o v xs hk hr=>Kd.R_below hr h,h.size⟩
theorem Kp.set {ok:Nat→Prop} {w:World} {g:Nat} (hg:ok g) (i:Nat) (u:Value):Kp ok w (w.setCell ⟨g,i,none⟩ u):=⟨fun b o v xs hk hr=>Kd.R_far hr (p:=⟨g,i,none⟩) (fun k h e=>hk k h (by rw [e];exact hg)) u,by rw [World.size_setCell];exact Nat.le_refl _⟩
theorem Kp.zeros {ok:Nat→Prop} {w:World} {g:Nat} (hg:ok g) (o q:Nat):Kp ok w (w.setCells g o (List.replicate q (.int .i64 0))):=⟨fun b o' v xs hk hr=>clear_far_at (fun k h e=>hk k h (by rw [e];exact hg)) q o w hr,by rw [setCells_size];exact Nat.le_refl _⟩
end Go.Proofs.Ytmcddlpgffbmpaa.Pr
end
section
namespace Go.Proofs.Ytmcddlpgffbmpaa.Pr
open Go.RowKit Go.Proofs.YtmcddlpgffbmpaaW.PrintWords Go.Proofs.YtmcddlpgffbmpaaW.PrintLast Go.Proofs.YtmcddlpgffbmpaaW.PrintMore Go.Proofs.Ytmcddlpgffbmpaa.Ma
theorem without1 (gb:Nat) (n x:Int) (w:World) (hb:w.cell? ⟨gb,0,none⟩=some (.int .i64 n)):
  Calls Try.prog 43 (#[.int .i64 x]++ #[.pointer (some ⟨gb,0,none⟩)]) w fun e w'=>e= .returned (.bool (x==n))∧Below w.heap.size w w':=by
 show Calls Try.prog 43 #[.int .i64 x, .pointer (some ⟨gb,0,none⟩)] w _
 go_enter Try.func43,Try.ntmps43
 go_wp2
 go_ret
 exact⟨rfl,Below.refl _ _⟩
theorem without1_enters: ∀args w,(callFunc 43 args).run Try.prog w= .ok (.enter 43 args) w:=enters_fn Try.func43 (by kernel_rfl) rfl
theorem first_or (p:Int→Bool): ∀l:List Int,(∃j, ∃hj:j < l.length,p l[j]=true∧ ∀i (hi:i < l.length),i < j→p l[i]=false)∨ ∀i (hi:i < l.length),p l[i]=false
 | []=> .inr (fun i hi=>by simp at hi)
 | x::l=>by
  by_cases h:p x=true
  ·exact .inl ⟨0,by simp,h,fun i hi h0=>by omega⟩
  ·rcases first_or p l with ⟨j,hj,a,b⟩ | b
   ·refine .inl ⟨j+1,by simpa using hj,by simpa using a,fun i hi hij=>?_⟩
    cases i with
    | zero=>simpa using h
    | succ i=>simpa using b i (by simpa using hi) (by omega)
   ·refine .inr (fun i hi=>?_)
    cases i with
    | zero=>simpa using h
    | succ i=>simpa using b i (by simpa using hi)
def wo (l:List Int) (n:Int):List Int:=l.filter (fun m=>!(m==n))
theorem wo_none {l:List Int} {n:Int} (h: ∀i (hi:i < l.length),(l[i]==n)=false):wo l n=l:=by
 unfold wo
 rw [List.filter_eq_self]
 intro x hx
 obtain⟨i,hi,rfl⟩:=List.getElem_of_mem hx
 rw [h i hi];rfl
theorem wo_take_first {l:List Int} {n:Int} {j:Nat} (hj:j < l.length) (h:(l[j]==n)=true) (h2: ∀i (hi:i < l.length),i < j→(l[i]==n)=false):wo (l.take (j+1)) n=l.take j:=by
 rw [List.take_succ_eq_append_getElem hj]
 unfold wo
 rw [List.filter_append,show ([l[j]]:List Int).filter (fun m=>!(m==n))= [] by simp [h],List.append_nil]
 refine wo_none (fun i hi=>?_)
 rw [List.getElem_take]
 exact h2 i (by simp at hi;omega) (by simp at hi;omega)
theorem wo_take_succ {l:List Int} {n:Int} {j:Nat} (hj:j < l.length):wo (l.take (j+1)) n=if(l[j]==n)=true then wo (l.take j) n else wo (l.take j) n++ [l[j]]:=by
 rw [List.take_succ_eq_append_getElem hj]
 unfold wo
 rw [List.filter_append]
 split
 ·rename_i h;simp [h]
 ·rename_i h;simp [h]
theorem delete_calls {w0 w:World} {base:Nat} {ok:Nat→Prop} (gb:Nat) (n:Int) (A:Option Addr) (c:Nat) (l:List Int) (hB:Below base w0 w) (h:Kd.R (Kd.int .i64) 2 w base ok (.slice A l.length c) l) (hbx:w.cell? ⟨gb,0,none⟩=some (.int .i64 n)) (hne: ∀k,ok k→k≠gb) (hl:l.length≤1000) (hbs:base≤w.heap.size):
  Calls Try.prog 42 #[.slice A l.length c, .func (.func 43) #[] #[.pointer (some ⟨gb,0,none⟩)]] w fun e w'=> ∃v,e= .returned v∧Kd.R (Kd.int .i64) 2 w' base ok v (wo l n)∧Below base w0 w'∧Kp ok w w':=by
 have hidx:=indexFuncInts (fun m=>m==n) 43 #[.pointer (some ⟨gb,0,none⟩)] without1_enters A c l w (Kd.R_reads' h).2.2 (fun W x _ hb=>without1 gb n x W ((hb.cell (p:=⟨gb,0,none⟩) (World.block_lt_of_cell? _ _ hbx)).trans hbx))
 have eg:=without1_enters
 rcases first_or (fun m=>m==n) l with ⟨i0,hi0,hp,hmin⟩ | hall
 ·obtain⟨g,c',e',hg1,hg2,cells,hcl⟩:=Kd.R_form h (by omega)
  injection e' with e1 _ e3
  subst e1 e3
  have hokg:ok g:=h.1 g (by simp [Value.ownBlock])
  rw [idxP_hit (fun m=>m==n) l i0 hi0 hmin hp] at hidx
  have HT:=q_ (wo_take_first hi0 hp hmin)
  have HI0:=q_ hi0
  have HOK:=q_ hokg
  have HNE:=q_ (hne g hokg)
  have HBG:=q_ hg1
  have HL:=q_ hl
  have HR:=q_ h
  have HBX:=q_ hbx
  have HB:=q_ hB
  have HIDX:=q_ hidx
  have hi0z:((i0:Int)== -1)=false:=by first | (simp;done) | (simp;omega)
  clear hp hmin hi0 hokg hne hg1 hg2 hcl hl h hbx hB hidx hbs
  go_enter Try.func42,Try.ntmps42
  go_wp2_with fail
  refine HIDX.out.mono ?_
  rintro e w1 ⟨rfl,hb⟩
  have HR1:=q_ (Kd.R_below HR.out hb)
  have HBX1:Aside0 (w1.cell? ⟨gb,0,none⟩=some (.int .i64 n)):=⟨(hb.cell (World.block_lt_of_cell? _ _ HBX.out)).trans HBX.out⟩
  have HB1:Aside0 (Below base w0 w1):=⟨below_then HB.out (Nat.le_trans HBG.out (Nat.le_of_lt (by
   have:=(Kd.R_celln 0 HR.out (i0:Int) (by omega) (by have:=HI0.out;omega)).1
   exact World.block_lt_of_cell? _ _ this))) hb⟩
  have HK1:Aside0 (Kp ok w w1):=⟨Kp.below hb⟩
  have hw0:IntKind.i64.wrap ((i0:Int)+1)=((i0+1:Nat):Int):=by rw [IntWalk.i64_in _ (by have:=HI0.out;have:=HL.out;omega)];rfl
  clear hb HIDX HR HBX HB
  go_wp2
  go_loopg [5,6,7] l.length (fun gg v5 v6 v7 wr=> ∃(i j:Nat) (xs:List Int),i < j∧j≤l.length∧l.length - j≤gg∧v6= .int .i64 (j:Int)∧v5= .int .i64 (i:Int)∧Aside0 (xs.take i=wo (l.take j) n∧xs.drop j=l.drop j)∧Aside0 (Kd.R (Kd.int .i64) 2 wr base ok (.slice (some ⟨g,0,none⟩) l.length c) xs)∧Aside0 (wr.cell? ⟨gb,0,none⟩=some (.int .i64 n))∧Aside0 (Below base w0 wr)∧Aside0 (Kp ok w wr))
  case atStart=>exact⟨i0,i0+1,l,by omega,HI0.out,by omega,by first | rfl | (rw [hw0]) | (simp [hw0]),rfl,⟨HT.out.symm,rfl⟩,HR1,HBX1,HB1,HK1⟩
  case round=>
   clear HR1 HBX1 HB1 HK1 hw0
   obtain⟨i,j,xs,hij,hj,hg,rfl,rfl,HX,HR,HBX,HB,HK⟩:=hrel
   have hlen:=(Kd.R_reads' HR.out).1
   by_cases hlt:j < l.length
   ·have hltz:(j:Int) < (l.length:Int):=by omega
    have h0z:(0:Int)≤(j:Int):=by omega
    have hiz:(i:Int) < (l.length:Int):=by omega
    have h0i:(0:Int)≤(i:Int):=by omega
    have hxj:xs.getD j 0=l.getD j 0:=by
     have:=congrArg (fun y=>y.getD 0 0) HX.out.2
     simpa [List.getD_eq_getElem?_getD] using this
    obtain⟨hcj,_⟩:=Kd.R_celln 0 HR.out (j:Int) (by omega) (by omega)
    rw [Int.toNat_natCast] at hcj
    have e1:rdOf 0 xs (j:Int)=l.getD j 0:=by show xs.getD (j:Int).toNat 0=_;rw [Int.toNat_natCast,hxj]
    rw [e1] at hcj
    obtain⟨hci,hfi⟩:=Kd.R_celln 0 HR.out (i:Int) (by omega) (by omega)
    rw [Int.toNat_natCast] at hci hfi
    have hgx:l[j]=l.getD j 0:=by rw [List.getD_eq_getElem?_getD,List.getElem?_eq_getElem hlt];rfl
    have hsucc:=wo_take_succ (n:=n) hlt
    rw [hgx] at hsucc
    have hwj:IntKind.i64.wrap ((j:Int)+1)=((j+1:Nat):Int):=by rw [IntWalk.i64_in _ (by have:=HL.out;omega)];rfl
    have hwi:IntKind.i64.wrap ((i:Int)+1)=((i+1:Nat):Int):=by rw [IntWalk.i64_in _ (by have:=HL.out;omega)];rfl
    have hdrop:xs.drop (j+1)=l.drop (j+1):=by
     have:=congrArg (fun y=>y.drop 1) HX.out.2
     simpa [List.drop_drop,Nat.add_comm] using this
    have HG:=q_ hg
    have HLT:=q_ hlt
    have HIJ:=q_ hij
    have HLEN:=q_ hlen
    have HS:=q_ hsucc
    have HD:=q_ hdrop
    have hcall:=without1 gb n (l.getD j 0) wr HBX.out
    have HCALL:=q_ hcall
    generalize hx:l.getD j 0=x at hcj HCALL HS
    clear hg hlt hij hj hlen hsucc hdrop hxj e1 hgx hcall hx
    have hci0:=hci
    have hfi0:=hfi
    go_wp2_with fail
    refine HCALL.out.mono ?_
    rintro e w2 ⟨rfl,hb⟩
    replace HR:=q_ (Kd.R_below HR.out hb)
    replace HBX:Aside0 (w2.cell? ⟨gb,0,none⟩=some (.int .i64 n)):=⟨(hb.cell (World.block_lt_of_cell? _ _ HBX.out)).trans HBX.out⟩
    replace hci:=(hb.cell (World.block_lt_of_cell? _ _ hci)).trans hci
    replace hfi:=(Kd.R_celln 0 HR.out (i:Int) (by omega) (by omega)).2
    rw [Int.toNat_natCast] at hfi
    replace HB:Aside0 (Below base w0 w2):=⟨below_then HB.out (Nat.le_trans HBG.out (Nat.le_of_lt (World.block_lt_of_cell? _ _ hci0))) hb⟩
    replace HK:=q_ (HK.out.trans (Kp.below hb))
    clear hb HCALL hcj hci0 hfi0
    by_cases hxn:(x==n)=true
    ·rw [hxn]
     clear hci hfi
     go_wp2
     go_roundg (l.length - (j+1))
     case measure=>have:=HG.out;have:=HLT.out;omega
     case rel=>
      have hs:=HS.out
      rw [if_pos hxn] at hs
      exact⟨i,j+1,xs,by have:=HIJ.out;omega,HLT.out,by omega,by first | rfl | (rw [hwj]) | (simp [hwj]),rfl,⟨by rw [hs];exact HX.out.1,HD.out⟩,HR,HBX,HB,HK⟩
    ·have hxf:(x==n)=false:=by simpa using hxn
     rw [hxf]
     go_wp2
     go_roundg (l.length - (j+1))
     case measure=>have:=HG.out;have:=HLT.out;omega
     case rel=>
      have hs:=HS.out
      rw [if_neg hxn] at hs
      have hput:=(Kd.R_putg HR.out (i:Int) x).1
      rw [Int.toNat_natCast] at hput
      have hil:i < xs.length:=by have:=HLEN.out;have:=HIJ.out;have:=HLT.out;omega
      refine⟨i+1,j+1,xs.set i x,by have:=HIJ.out;omega,HLT.out,by omega,by first | rfl | (rw [hwj]) | (simp [hwj]),by first | rfl | (rw [hwi]) | (simp [hwi]),⟨?_,?_⟩,⟨hput⟩,⟨(cell_far (p:=⟨g,i,none⟩) (fun e=>HNE.out e.symm) _).trans HBX.out⟩,⟨HB.out.setCell HBG.out _⟩,⟨HK.out.trans (Kp.set HOK.out i _)⟩⟩
      ·rw [hs, ← HX.out.1,List.take_succ_eq_append_getElem (by rw [List.length_set];exact hil),List.take_set_of_le (Nat.le_refl _),List.getElem_set_self]
      ·rw [List.drop_set_of_lt (by have:=HIJ.out;omega)]
       exact HD.out
   ·have hltz: ¬ (j:Int) < (l.length:Int):=by omega
    obtain rfl:j=l.length:=by omega
    have hiz:(i:Int)≤(l.length:Int):=by omega
    have h0i:(0:Int)≤(i:Int):=by omega
    have hcap:=(Kd.R_reads' HR.out).2.1
    have hcz:(l.length:Int)≤(c:Int):=by omega
    have hic:i < c:=by omega
    have HIJ:=q_ hij
    have HLEN:=q_ hlen
    clear hj hg hlt hij hlen
    go_wp2_with (first | ((with_reducible refine gate_builtin (b:= .clear) (xs:= #[.tmp 38]) rfl ?_);refine wpList_clear_at rfl (.tmp 38) 29 rfl 2 g i (l.length - i) (c - i) Try.underlying29 info2 (by have:=HIJ.out;omega) rfl ?hc ?hf ?_;(case hc=>intro y hy;have q:=(Kd.R_celln 0 HR.out ((i+y:Nat):Int) (by omega) (by omega)).1;rw [Int.toNat_natCast] at q;rw [q];rfl);(case hf=>intro y hy;have q:=(Kd.R_celln 0 HR.out ((i+y:Nat):Int) (by omega) (by omega)).2;rw [Int.toNat_natCast] at q;exact q);intro w6 hw6;have HW6:=q_ hw6;clear hw6))
    go_ret
    obtain⟨ys,y1,y2,y3⟩:=clear_R_at HBG.out (l.length - i) i wr xs (Nat.le_refl i) HR.out HB.out
    rw [← HW6.out] at y1 y2
    have hk:=HK.out.trans (Kp.zeros HOK.out i (l.length - i))
    rw [← HW6.out] at hk
    refine⟨_,rfl,?_,y2,hk⟩
    have:=Kd.R_take y1 (m:=i) (by have:=(Kd.R_reads' y1).1;have:=HIJ.out;omega)
    rw [y3,HX.out.1,List.take_length] at this
    exact this
 ·rw [idxP_miss _ l hall] at hidx
  have HW:=q_ (wo_none hall)
  have HR:=q_ h
  have HB:=q_ hB
  have HIDX:=q_ hidx
  have HSZ:Aside0 (base≤w.heap.size):=⟨hbs⟩
  clear hall hne hl h hbx hB hidx hbs
  go_enter Try.func42,Try.ntmps42
  go_wp2_with fail
  refine HIDX.out.mono ?_
  rintro e w1 ⟨rfl,hb⟩
  go_wp2
  go_ret
  exact⟨_,rfl,by rw [HW.out];exact Kd.R_below HR.out hb,below_then HB.out HSZ.out hb,Kp.below hb⟩
theorem without_calls {w0 w:World} {base:Nat} {ok:Nat→Prop} (n:Int) (A:Option Addr) (c:Nat) (l:List Int) (hB:Below base w0 w) (h:Kd.R (Kd.int .i64) 2 w base ok (.slice A l.length c) l) (hok: ∀k,ok k→k < w.heap.size) (hl:l.length≤1000) (hbs:base≤w.heap.size):
  Calls Try.prog 32 #[.slice A l.length c, .int .i64 n] w fun e w'=> ∃v,e= .returned v∧Kd.R (Kd.int .i64) 2 w' base ok v (wo l n)∧Below base w0 w'∧Kp ok w w':=by
 have HD:=q_ (fun(W:World) (hW:Below w.heap.size w W) (gb:Nat) (hg:w.heap.size≤gb) (hc:W.cell? ⟨gb,0,none⟩=some (.int .i64 n))=>
  delete_calls gb n A c l (below_then hB hbs hW) (Kd.R_below h hW) hc (fun k hk=>by have:=hok k hk;omega) hl (Nat.le_trans hbs hW.size))
 clear hB h hok hl hbs
 generalize l.length=m at HD ⊢
 go_enter Try.func32,Try.ntmps32
 go_wp2_with fail
 refine(HD.out _ ((Below.refl _ _).alloc (Nat.le_refl _) _) _ (Nat.le_refl _) (by simp)).mono ?_
 rintro e w2 ⟨v,rfl,h1,h2,h3⟩
 go_wp2
 go_ret
 exact⟨v,rfl,h1,h2,(Kp.below ((Below.refl _ _).alloc (Nat.le_refl _) _)).trans h3⟩
end Go.Proofs.Ytmcddlpgffbmpaa.Pr
end
section
namespace Go.Proofs.Ytmcddlpgffbmpaa.Pr
open Go.RowKit Go.Proofs.YtmcddlpgffbmpaaW.PrintWords Go.Proofs.YtmcddlpgffbmpaaW.PrintLast Go.Proofs.YtmcddlpgffbmpaaW.PrintMore Go.Proofs.Ytmcddlpgffbmpaa.Ma
theorem choice1 (gb:Nat) (A0:Option Addr) (c0:Nat) (A:List (List Int)) (i j:Int) (w:World) (h0:w.cell? ⟨gb,0,none⟩=some (.slice A0 A.length c0)) (hA:Kd.C (Kd.slice 2 (Kd.int .i64)) w A0 A.length A) (hi:0≤i) (hi2:i < A.length) (hj:0≤j) (hj2:j < (rd_L1 A i).length):
  Calls Try.prog 31 (#[.int .i64 i, .int .i64 j]++ #[.pointer (some ⟨gb,0,none⟩)]) w fun e w'=>e= .returned (.int .i64 (rd (rd_L1 A i) j))∧Below w.heap.size w w':=by
 show Calls Try.prog 31 #[.int .i64 i, .int .i64 j, .pointer (some ⟨gb,0,none⟩)] w _
 obtain⟨ad,A1,c1,e,hx,hc,hC⟩:=at_L1 hA i hi hi2
 subst e
 obtain⟨aa,e,hy⟩:=Kd.at_int hC j hj hj2
 subst e
 clear hA hC
 go_enter Try.func31,Try.ntmps31
 go_wp2
 go_ret
 exact⟨rfl,Below.refl _ _⟩
theorem choice2 (gb:Nat) (A0:Option Addr) (c0:Nat) (A:List (List Int)) (j i:Int) (w:World) (h0:w.cell? ⟨gb,1,none⟩=some (.slice A0 A.length c0)) (hA:Kd.C (Kd.slice 2 (Kd.int .i64)) w A0 A.length A) (hi:0≤i) (hi2:i < A.length) (hj:0≤j) (hj2:j < (rd_L1 A i).length):
  Calls Try.prog 33 (#[.int .i64 j, .int .i64 i]++ #[.pointer (some ⟨gb,0,none⟩)]) w fun e w'=>e= .returned (.int .i64 (rd (rd_L1 A i) j))∧Below w.heap.size w w':=by
 show Calls Try.prog 33 #[.int .i64 j, .int .i64 i, .pointer (some ⟨gb,0,none⟩)] w _
 obtain⟨ad,A1,c1,e,hx,hc,hC⟩:=at_L1 hA i hi hi2
 subst e
 obtain⟨aa,e,hy⟩:=Kd.at_int hC j hj hj2
 subst e
 clear hA hC
 go_enter Try.func33,Try.ntmps33
 go_wp2
 go_ret
 exact⟨rfl,Below.refl _ _⟩
theorem choice1_enters: ∀args w,(callFunc 31 args).run Try.prog w= .ok (.enter 31 args) w:=enters_fn Try.func31 (by kernel_rfl) rfl
theorem choice2_enters: ∀args w,(callFunc 33 args).run Try.prog w= .ok (.enter 33 args) w:=enters_fn Try.func33 (by kernel_rfl) rfl
theorem beaten1_enters: ∀args w,(callFunc 41 args).run Try.prog w= .ok (.enter 41 args) w:=enters_fn Try.func41 (by kernel_rfl) rfl
theorem dyn_ {P:Program} {ops:Array Oper} {Q:Exit→Act→World→Prop} {oi:Oper} {N:Option Tmp} {a:Act} {w:World} {K:Act→World→Prop} {f:FuncId} {lb:Array Value} {ar:Array Operand} {ts:Array TypeId} (ef: ∀args w,(callFunc f args).run P w= .ok (.enter f args) w) (t:Operand) (args:Array Value)
  (h:Calls P f (args++lb) w fun e w'=> ∃v,e= .returned v∧K (a.put N v) w') (ht:a.eval t= .func (.func f) #[] lb:=by rfl) (hw:Region.wanted oi (yielded ops a.tmps)=true:=by rfl) (hN:oi.dst=N:=by rfl) (hop:oi.op= .call { callee:= .value t,args:=ar,argTypes:=ts}:=by rfl)
  (hargs:ar.map a.eval=args:=by(try simp only [List.map_toArray,List.map_cons,List.map_nil]);first | done | rfl):if Region.wanted oi (yielded ops a.tmps)=true then Oper.wp P oi a w K Q else K (a.put N undef) w:=by
 refine call_ f (args++lb) hw hN ?_ h
 have he:=ef (args++lb) w
 unfold execOp
 simp [hop,resolve,Deferred.ofValue,invoke,ht,hargs,he]
def AtF (f:Nat) (lb:Array Value) (a:Int→Int→Int) (w:World) (own others:List Int):Prop:=
 ∀(W:World) (x y:Int),x ∈ own→y ∈ others→Below w.heap.size w W→Calls Try.prog f (#[.int .i64 x, .int .i64 y]++lb) W fun e w'=>e= .returned (.int .i64 (a x y))∧Below W.heap.size W w'
theorem beaten1 (f:Nat) (lb:Array Value) (ef: ∀args w,(callFunc f args).run Try.prog w= .ok (.enter f args) w) (a:Int→Int→Int) (i k j:Int) (b5 b10 b8:Nat) (w:World) (h5:w.cell? ⟨b5,0,none⟩=some (.func (.func f) #[] lb)) (h10:w.cell? ⟨b10,0,none⟩=some (.int .i64 k)) (h8:w.cell? ⟨b8,0,none⟩=some (.int .i64 i)) (hf:AtF f lb a w [i,k] [j]):
  Calls Try.prog 41 (#[.int .i64 j]++ #[.pointer (some ⟨b5,0,none⟩), .pointer (some ⟨b10,0,none⟩), .pointer (some ⟨b8,0,none⟩)]) w fun e w'=>e= .returned (.bool (decide (a k j≤a i j)))∧Below w.heap.size w w':=by
 show Calls Try.prog 41 #[.int .i64 j, .pointer (some ⟨b5,0,none⟩), .pointer (some ⟨b10,0,none⟩), .pointer (some ⟨b8,0,none⟩)] w _
 have HF:=q_ hf
 clear hf
 go_enter Try.func41,Try.ntmps41
 go_wp2
 refine st_ (n:=10) (S:=fun w'=>w'.cell? ⟨b5,0,none⟩=some (.func (.func f) #[] lb)∧w'.cell? ⟨b10,0,none⟩=some (.int .i64 k)∧w'.cell? ⟨b8,0,none⟩=some (.int .i64 i)) (ds:= []) ⟨h5,h10,h8⟩ (fun hHeld=>?_)
 have HB:=q_ (below_drew (Below.refl w.heap.size w))
 clear h5 h10 h8
 generalize w.drew=w1 at HB hHeld ⊢
 refine tk_ 0 6 ?_;refine tk_ 1 7 ?_;refine pu_ 2 8 ?_;refine tk_ 4 10 ?_;refine tk_ 5 11 ?_;refine pu_ 6 12 ?_
 refine on_ 3 (some 9) (fun K hK=>?_)
 refine dyn_ ef (.tmp 6) #[.int .i64 k, .int .i64 j] ?_
 refine(HF.out w1 k j (by simp) (by simp) HB.out).mono ?_
 rintro e w2 ⟨rfl,hb⟩
 refine⟨_,rfl,?_⟩
 have h2:w2.cell? ⟨b5,0,none⟩=some (.func (.func f) #[] lb)∧w2.cell? ⟨b10,0,none⟩=some (.int .i64 k)∧w2.cell? ⟨b8,0,none⟩=some (.int .i64 i):=⟨(hb.cell (World.block_lt_of_cell? _ _ hHeld.1)).trans hHeld.1,(hb.cell (World.block_lt_of_cell? _ _ hHeld.2.1)).trans hHeld.2.1,(hb.cell (World.block_lt_of_cell? _ _ hHeld.2.2)).trans hHeld.2.2⟩
 replace HB:=q_ (below_step HB.out hb)
 clear hHeld hb
 refine hK.out _ _ h2 (fun hHeld=>?_)
 clear hK K
 refine no_ ?_
 refine on_ 7 (some 13) (fun K hK=>?_)
 refine dyn_ ef (.tmp 10) #[.int .i64 i, .int .i64 j] ?_
 refine(HF.out w2 i j (by simp) (by simp) HB.out).mono ?_
 rintro e w3 ⟨rfl,hb⟩
 refine⟨_,rfl,?_⟩
 have h3:w3.cell? ⟨b5,0,none⟩=some (.func (.func f) #[] lb)∧w3.cell? ⟨b10,0,none⟩=some (.int .i64 k)∧w3.cell? ⟨b8,0,none⟩=some (.int .i64 i):=⟨(hb.cell (World.block_lt_of_cell? _ _ hHeld.1)).trans hHeld.1,(hb.cell (World.block_lt_of_cell? _ _ hHeld.2.1)).trans hHeld.2.1,(hb.cell (World.block_lt_of_cell? _ _ hHeld.2.2)).trans hHeld.2.2⟩
 replace HB:=q_ (below_step HB.out hb)
 clear hHeld hb h2
 refine hK.out _ _ h3 (fun hHeld=>?_)
 clear hK K h3
 refine no_ ?_
 refine pu_ 8 14 ?_;refine pu_ 9 5 ?_
 refine done_ (by kernel_rfl) ?_
 clear hHeld
 go_wp2
 go_ret
 exact⟨rfl,HB.out⟩
def btP (a:Int→Int→Int) (own others:List Int) (i:Int):Bool:=own.any (fun k=>!(others.any (fun j=>decide (a k j≤a i j))))
def bt (a:Int→Int→Int) (own others:List Int):Int:=match own.find? (btP a own others) with
 | some i=>i
 | none=> -1
theorem bt_hit {a:Int→Int→Int} {own others:List Int} {j:Nat} (hj:j < own.length) (h: ∀q,q < j→btP a own others (own.getD q 0)=false) (hp:btP a own others (own.getD j 0)=true):bt a own others=own.getD j 0:=by
 have:own.find? (btP a own others)=some (own.getD j 0):=by
  rw [List.getD_eq_getElem?_getD,List.getElem?_eq_getElem hj] at hp ⊢
  rw [List.find?_eq_some_iff_getElem]
  refine⟨hp,j,hj,rfl,fun q hq=>?_⟩
  have:=h q hq
  rw [List.getD_eq_getElem?_getD,List.getElem?_eq_getElem (by omega)] at this
  have this2:btP a own others own[q]=false:=this
  rw [this2];rfl
 unfold bt
 rw [this]
theorem bt_miss {a:Int→Int→Int} {own others:List Int} (h: ∀q,q < own.length→btP a own others (own.getD q 0)=false):bt a own others= -1:=by
 have:own.find? (btP a own others)=none:=by
  rw [List.find?_eq_none]
  intro x hx
  obtain⟨q,hq,rfl⟩:=List.getElem_of_mem hx
  have:=h q hq
  rw [List.getD_eq_getElem?_getD,List.getElem?_eq_getElem hq] at this
  have this2:btP a own others own[q]=false:=this
  rw [this2];simp
 unfold bt
 rw [this]
theorem btP_of {a:Int→Int→Int} {own others:List Int} {i:Int} {q:Nat} (hq:q < own.length) (h:others.any (fun j=>decide (a (own.getD q 0) j≤a i j))=false):btP a own others i=true:=by
 unfold btP
 rw [List.any_eq_true]
 refine⟨own.getD q 0,?_,by rw [h];rfl⟩
 rw [List.getD_eq_getElem?_getD,List.getElem?_eq_getElem hq]
 exact List.getElem_mem hq
theorem btP_not {a:Int→Int→Int} {own others:List Int} {i:Int} (h: ∀q,q < own.length→others.any (fun j=>decide (a (own.getD q 0) j≤a i j))=true):btP a own others i=false:=by
 unfold btP
 rw [List.any_eq_false]
 intro x hx
 obtain⟨q,hq,rfl⟩:=List.getElem_of_mem hx
 have:=h q hq
 rw [List.getD_eq_getElem?_getD,List.getElem?_eq_getElem hq] at this
 have this2:others.any (fun j=>decide (a own[q] j≤a i j))=true:=this
 rw [this2];decide
theorem getD_mem {l:List Int} {q:Nat} (hq:q < l.length):l.getD q 0 ∈ l:=by
 rw [List.getD_eq_getElem?_getD,List.getElem?_eq_getElem hq]
 exact List.getElem_mem hq
theorem beaten_calls (f:Nat) (lb:Array Value) (ef: ∀args w,(callFunc f args).run Try.prog w= .ok (.enter f args) w) (a:Int→Int→Int) (A:Option Addr) (c:Nat) (own:List Int) (B:Option Addr) (d:Nat) (others:List Int) (w:World) (hA:Kd.C (Kd.int .i64) w A own.length own) (hB:Kd.C (Kd.int .i64) w B others.length others) (hf:AtF f lb a w own others) (hl:own.length≤1000):
  Calls Try.prog 30 #[.slice A own.length c, .slice B others.length d, .func (.func f) #[] lb] w fun e w'=>e= .returned (.int .i64 (bt a own others))∧Below w.heap.size w w':=by
 have HA:=q_ hA
 have HO:=q_ hB
 have HF:=q_ hf
 have HL:=q_ hl
 clear hA hB hf hl
 go_enter Try.func30,Try.ntmps30
 go_wp2
 have H5:Aside0 ((w.alloc (Obj.cells #[Value.func (Fn.func f) #[] lb] 58)).cell? ⟨w.heap.size,0,none⟩=some (.func (.func f) #[] lb)):=⟨by simp⟩
 have HB:Aside0 (Below w.heap.size w (w.alloc (Obj.cells #[Value.func (Fn.func f) #[] lb] 58))):=⟨(Below.refl _ _).alloc (Nat.le_refl _) _⟩
 go_loopg [13] own.length (fun gg v13 wr=> ∃i:Nat,i≤own.length∧own.length - i≤gg∧v13= .int .i64 (i:Int)∧Aside0 (∀q,q < i→btP a own others (own.getD q 0)=false)∧Aside0 (wr.cell? ⟨w.heap.size,0,none⟩=some (.func (.func f) #[] lb))∧Aside0 (Below w.heap.size w wr))
 case atStart=>exact⟨0,Nat.zero_le _,by omega,rfl,⟨fun q hq=>by omega⟩,H5,HB⟩
 case round=>
  clear H5 HB
  obtain⟨i,hi,hg,rfl,HP,H5,HB⟩:=hrel
  by_cases hlt:i < own.length
  ·have hltz:(i:Int) < (own.length:Int):=by omega
   have h0z:(0:Int)≤(i:Int):=by omega
   have hwi:IntKind.i64.wrap ((i:Int)+1)=((i+1:Nat):Int):=by rw [IntWalk.i64_in _ (by have:=HL.out;omega)];rfl
   obtain⟨ad,ea,hx⟩:=Kd.at_int (Kd.C_below HA.out HB.out) (i:Int) h0z hltz
   rw [Int.toNat_natCast,rd_nat] at hx
   have HG:=q_ hg
   have HLT:=q_ hlt
   obtain⟨x,hgx⟩: ∃x,own.getD i 0=x:=⟨_,rfl⟩
   rw [hgx] at hx
   have HGX:=q_ hgx
   have HAD:=q_ ea
   clear hi hg hlt hgx
   subst ea
   go_wp2_with (first | ((with_reducible refine gate_dst (N:=8) rfl ?_);refine box_event ?hg (N:=8) ?hd (cs:= #[.int .i64 0]) (t:=2) ?hr ?_;(case hd=>rfl);(case hg=>rfl);(case hr=>first | (go_simp;done) | (go_simp;rfl));intro g8 hg w3 hbox hb;have B8:=q_ hbox;have G8:=q_ (show wr.heap.size≤g8 by rw [hg];exact Nat.le_refl _);have HB8:=q_ hb;have hx0:=cz_ B8 0;have fx0:=blk_frozen hbox 0;clear hg hbox hb) | ((with_reducible refine gate_store (t:=2) (p:=8) rfl ?_);refine store_event (t:=2) (p:=8) (v:=?vo8) (w1:=w3.setCell ⟨g8,0,none⟩ (.int .i64 x)) ?hg ?ho ?hn ?hr ?_;(case ho=>rfl);(case hg=>rfl);(case hn=>rfl);(case hr=>first | (go_simp;done) | (go_simp;rfl));intro w4 hw;have hs_:Below wr.heap.size wr w4:=(by rw [hw];exact below_set HB8.out G8.out);replace B8:=q_ (show w4.heap[g8]?=some (.cells #[.int .i64 x] 2 (0,0)) by rw [hw];exact blk_put B8.out 0 _ rfl);replace H5:Aside0 (w4.cell? ⟨w.heap.size,0,none⟩=some (.func (.func f) #[] lb)):=⟨(hs_.cell (World.block_lt_of_cell? _ _ H5.out)).trans H5.out⟩;replace HB:=q_ (below_step HB.out hs_);clear hs_ hw hx0 fx0 HB8 G8))
   have H8:Aside0 (w4.cell? ⟨g8,0,none⟩=some (.int .i64 x)):=⟨cz_ B8 0⟩
   clear B8
   go_loopg [19] own.length (fun gg v19 wr=> ∃k:Nat,k≤own.length∧own.length - k≤gg∧v19= .int .i64 (k:Int)∧Aside0 (∀q,q < k→others.any (fun j=>decide (a (own.getD q 0) j≤a x j))=true)∧Aside0 (wr.cell? ⟨g8,0,none⟩=some (.int .i64 x))∧Aside0 (wr.cell? ⟨w.heap.size,0,none⟩=some (.func (.func f) #[] lb))∧Aside0 (Below w.heap.size w wr))
   case atStart=>exact⟨0,Nat.zero_le _,by omega,rfl,⟨fun q hq=>by omega⟩,H8,H5,HB⟩
   case round=>
    clear H8 H5 HB
    obtain⟨k,hk,hg,rfl,HQ,H8,H5,HB⟩:=hrel
    by_cases hlt:k < own.length
    ·have hlk:(k:Int) < (own.length:Int):=by omega
     have h0k:(0:Int)≤(k:Int):=by omega
     have hwk:IntKind.i64.wrap ((k:Int)+1)=((k+1:Nat):Int):=by rw [IntWalk.i64_in _ (by have:=HL.out;omega)];rfl
     obtain⟨aa,ea,hy⟩:=Kd.at_int (Kd.C_below HA.out HB.out) (k:Int) h0k hlk
     rw [Int.toNat_natCast,rd_nat] at hy
     injection ea with ea
     subst ea
     have HGK:=q_ hg
     have HKL:=q_ hlt
     obtain⟨y,hgy⟩: ∃y,own.getD k 0=y:=⟨_,rfl⟩
     rw [hgy] at hy
     have HGY:=q_ hgy
     clear hk hg hlt hgy
     go_wp2_with (first | ((with_reducible refine gate_dst (N:=10) rfl ?_);refine box_event ?hg (N:=10) ?hd (cs:= #[.int .i64 0]) (t:=2) ?hr ?_;(case hd=>rfl);(case hg=>rfl);(case hr=>first | (go_simp;done) | (go_simp;rfl));intro g10 hg w6 hbox hb;have B10:=q_ hbox;have G10:=q_ (show wr.heap.size≤g10 by rw [hg];exact Nat.le_refl _);have HB10:=q_ hb;have hx0:=cz_ B10 0;have fx0:=blk_frozen hbox 0;clear hg hbox hb) | ((with_reducible refine gate_store (t:=2) (p:=10) rfl ?_);refine store_event (t:=2) (p:=10) (v:=?vo10) (w1:=w6.setCell ⟨g10,0,none⟩ (.int .i64 y)) ?hg ?ho ?hn ?hr ?_;(case ho=>rfl);(case hg=>rfl);(case hn=>rfl);(case hr=>first | (go_simp;done) | (go_simp;rfl));intro w7 hw;have hs_:Below wr.heap.size wr w7:=(by rw [hw];exact below_set HB10.out G10.out);replace B10:=q_ (show w7.heap[g10]?=some (.cells #[.int .i64 y] 2 (0,0)) by rw [hw];exact blk_put B10.out 0 _ rfl);replace H5:Aside0 (w7.cell? ⟨w.heap.size,0,none⟩=some (.func (.func f) #[] lb)):=⟨(hs_.cell (World.block_lt_of_cell? _ _ H5.out)).trans H5.out⟩;replace H8:Aside0 (w7.cell? ⟨g8,0,none⟩=some (.int .i64 x)):=⟨(hs_.cell (World.block_lt_of_cell? _ _ H8.out)).trans H8.out⟩;replace HB:=q_ (below_step HB.out hs_);clear hs_ hw hx0 fx0 HB10 G10 hy))
     have H10:w7.cell? ⟨g10,0,none⟩=some (.int .i64 y):=cz_ B10 0
     have hxm:x ∈ own:=by rw [← HGX.out];exact getD_mem HLT.out
     have hym:y ∈ own:=by rw [← HGY.out];exact getD_mem HKL.out
     refine(containsFuncInts (fun j=>decide (a y j≤a x j)) 41 #[.pointer (some ⟨w.heap.size,0,none⟩), .pointer (some ⟨g10,0,none⟩), .pointer (some ⟨g8,0,none⟩)] beaten1_enters B d others w7 (Kd.C_below HO.out HB.out) (fun W j hj hW=>beaten1 f lb ef a x y j w.heap.size g10 g8 W ((hW.cell (World.block_lt_of_cell? _ _ H5.out)).trans H5.out) ((hW.cell (World.block_lt_of_cell? _ _ H10)).trans H10) ((hW.cell (World.block_lt_of_cell? _ _ H8.out)).trans H8.out) (fun W2 u v hu hv hW2=>HF.out W2 u v (by simp only [List.mem_cons,List.not_mem_nil,or_false] at hu;rcases hu with rfl | rfl;exact hxm;exact hym) (by simp only [List.mem_cons,List.not_mem_nil,or_false] at hv;rw [hv];exact hj) (below_step (below_step HB.out hW) hW2)))).mono ?_
     rintro e w8 ⟨rfl,hb⟩
     have H8':=q_ ((hb.cell (World.block_lt_of_cell? _ _ H8.out)).trans H8.out)
     have H5':=q_ ((hb.cell (World.block_lt_of_cell? _ _ H5.out)).trans H5.out)
     replace HB:=q_ (below_step HB.out hb)
     clear hb H10 B10 hxm hym
     have h8:=H8'.out
     by_cases hany:others.any (fun j=>decide (a y j≤a x j))=true
     ·rw [hany]
      have HANY:=q_ hany
      clear hany h8
      go_wp2
      go_roundg (own.length - (k+1))
      case measure=>have:=HGK.out;have:=HKL.out;omega
      case rel=>
       refine⟨k+1,HKL.out,by omega,by first | rfl | (rw [hwk]) | (simp [hwk]),⟨fun q hq=>?_⟩,H8',H5',HB⟩
       by_cases e:q=k
       ·subst e;rw [HGY.out];exact HANY.out
       ·exact HQ.out q (by omega)
     ·have hanf:others.any (fun j=>decide (a y j≤a x j))=false:=by simpa using hany
      rw [hanf]
      have HP2:Aside0 (bt a own others=x):=⟨by
       rw [bt_hit HLT.out HP.out (by rw [HGX.out];exact btP_of HKL.out (by rw [HGY.out];exact hanf)),HGX.out]⟩
      clear hany hanf
      go_wp2
      go_ret
      exact⟨by rw [HP2.out];first | done | rfl,HB.out⟩
    ·have hlk: ¬ (k:Int) < (own.length:Int):=by omega
     obtain rfl:k=own.length:=by omega
     clear hk hg hlt
     go_wp2
     go_roundg (own.length - (i+1))
     case measure=>have:=HG.out;have:=HLT.out;omega
     case rel=>
      refine⟨i+1,HLT.out,by omega,by first | rfl | (rw [hwi]) | (simp [hwi]),⟨fun q hq=>?_⟩,H5,HB⟩
      by_cases e:q=i
      ·subst e;rw [HGX.out];exact btP_not HQ.out
      ·exact HP.out q (by omega)
  ·have hltz: ¬ (i:Int) < (own.length:Int):=by omega
   obtain rfl:i=own.length:=by omega
   have HP2:Aside0 (bt a own others= -1):=⟨bt_miss HP.out⟩
   clear hi hg hlt
   go_wp2
   go_ret
   exact⟨by rw [HP2.out];first | done | rfl,HB.out⟩
end Go.Proofs.Ytmcddlpgffbmpaa.Pr
end
section
namespace Go.Proofs.Ytmcddlpgffbmpaa.Pr
open Go.RowKit Go.Proofs.YtmcddlpgffbmpaaW.PrintWords Go.Proofs.YtmcddlpgffbmpaaW.PrintLast Go.Proofs.YtmcddlpgffbmpaaW.PrintMore
attribute [local go_sem] max2_int min2_int max_two min_two max_three min_three max_four min_four
mutual
def spec_l07Is.j0:Nat→Int→Bool→List (List Int)→List (List Int)→Option (Bool)
 | 0,_,_,_,_=>none
 | k+1,x3,x22,aa,ae=>if x22=true then(some false) else(if 0 < (aa.length:Int) then(if((rd_L1 aa 0).length:Int) < 1 then(spec_l07Is.j1 k x3 ((rd_L1 aa 0).length:Int) true aa ae) else(if((rd_L1 aa 0).length:Int) > 4 then(spec_l07Is.j1 k x3 ((rd_L1 aa 0).length:Int) true aa ae) else(spec_l07Is.j1 k x3 ((rd_L1 aa 0).length:Int) (decide ((wrap64 (x3+((rd_L1 aa 0).length:Int))) > 5)) aa ae))) else(none))
def spec_l07Is.j1:Nat→Int→Int→Bool→List (List Int)→List (List Int)→Option (Bool)
 | 0,_,_,_,_,_=>none
 | k+1,x3,x4,x39,aa,ae=>if x39=true then(some false) else(spec_l07Is.l0 k x3 x4 0 aa ae)
def spec_l07Is.l0:Nat→Int→Int→Int→List (List Int)→List (List Int)→Option (Bool)
 | 0,_,_,_,_,_=>none
 | k+1,x3,x4,x5,aa,ae=>if x5 < x3 then(if 0≤x5 then(if x5 < (aa.length:Int) then(if((rd_L1 aa x5).length:Int)=x4 then(if x5 < (ae.length:Int) then(spec_l07Is.j3 k x3 x4 x5 (((rd_L1 ae x5).length:Int) !=x4) aa ae) else(none)) else(spec_l07Is.j3 k x3 x4 x5 true aa ae)) else(none)) else(none)) else(some true)
def spec_l07Is.j3:Nat→Int→Int→Int→Bool→List (List Int)→List (List Int)→Option (Bool)
 | 0,_,_,_,_,_,_=>none
 | k+1,x3,x4,x5,x62,aa,ae=>if x62=true then(some false) else(spec_l07Is.l1 k x3 x4 x5 0 aa ae)
def spec_l07Is.l1:Nat→Int→Int→Int→Int→List (List Int)→List (List Int)→Option (Bool)
 | 0,_,_,_,_,_,_=>none
 | k+1,x3,x4,x5,x6,aa,ae=>if x6 < x4 then(if 0≤x5 then(if x5 < (aa.length:Int) then(if 0≤x6 then(if x6 < ((rd_L1 aa x5).length:Int) then((spec_l01In.f (rd (rd_L1 aa x5) x6) 1 20).bind fun af=>(if af=true then(if x5 < (ae.length:Int) then(if x6 < ((rd_L1 ae x5).length:Int) then((spec_l01In.f (rd (rd_L1 ae x5) x6) 1 20).bind fun ag=>(if ag=true then(spec_l07Is.l1 k x3 x4 x5 (wrap64 (x6+1)) aa ae) else(some false))) else(none)) else(none)) else(some false))) else(none)) else(none)) else(none)) else(none)) else(spec_l07Is.l0 k x3 x4 (wrap64 (x5+1)) aa ae)
end
def spec_l07Is.f (k:Nat) (aa:List (List Int)) (ae:List (List Int)):Option (Bool):=if(aa.length:Int) < 1 then(spec_l07Is.j0 k (aa.length:Int) true aa ae) else(if(aa.length:Int) > 4 then(spec_l07Is.j0 k (aa.length:Int) true aa ae) else(spec_l07Is.j0 k (aa.length:Int) ((ae.length:Int) !=(aa.length:Int)) aa ae))
theorem spec_l07Is.mono_l: ∀k,(∀y0 y1 y2 y3,LeO (spec_l07Is.j0 k y0 y1 y2 y3) (spec_l07Is.j0 (k+1) y0 y1 y2 y3))∧(∀y0 y1 y2 y3 y4,LeO (spec_l07Is.j1 k y0 y1 y2 y3 y4) (spec_l07Is.j1 (k+1) y0 y1 y2 y3 y4))∧(∀y0 y1 y2 y3 y4,LeO (spec_l07Is.l0 k y0 y1 y2 y3 y4) (spec_l07Is.l0 (k+1) y0 y1 y2 y3 y4))∧(∀y0 y1 y2 y3 y4 y5,LeO (spec_l07Is.j3 k y0 y1 y2 y3 y4 y5) (spec_l07Is.j3 (k+1) y0 y1 y2 y3 y4 y5))∧(∀y0 y1 y2 y3 y4 y5,LeO (spec_l07Is.l1 k y0 y1 y2 y3 y4 y5) (spec_l07Is.l1 (k+1) y0 y1 y2 y3 y4 y5))
 | 0=>⟨fun _ _ _ _ r h=>by simp [spec_l07Is.j0] at h,fun _ _ _ _ _ r h=>by simp [spec_l07Is.j1] at h,fun _ _ _ _ _ r h=>by simp [spec_l07Is.l0] at h,fun _ _ _ _ _ _ r h=>by simp [spec_l07Is.j3] at h,fun _ _ _ _ _ _ r h=>by simp [spec_l07Is.l1] at h⟩
 | k+1=>by
  obtain⟨ih0,ih1,ih2,ih3,ih4⟩:=spec_l07Is.mono_l k
  refine⟨?_,?_,?_,?_,?_⟩
  ·intro y0 y1 y2 y3
   unfold spec_l07Is.j0
   repeat' first
   | (with_reducible exact ih0 _ _ _ _)
   | (with_reducible exact ih1 _ _ _ _ _)
   | (with_reducible exact ih2 _ _ _ _ _)
   | (with_reducible exact ih3 _ _ _ _ _ _)
   | (with_reducible exact ih4 _ _ _ _ _ _)
   | (with_reducible exact LeO.refl _)
   | (with_reducible exact LeO.none _)
   | (with_reducible refine LeO.ite ?_ ?_)
   | (with_reducible refine LeO.bind ?_ (fun _=>?_))
   | exact ih0 _ _ _ _
   | exact ih1 _ _ _ _ _
   | exact ih2 _ _ _ _ _
   | exact ih3 _ _ _ _ _ _
   | exact ih4 _ _ _ _ _ _
   | exact LeO.none _
   | refine LeO.ite ?_ ?_
   | refine LeO.bind ?_ (fun _=>?_)
  ·intro y0 y1 y2 y3 y4
   unfold spec_l07Is.j1
   repeat' first
   | (with_reducible exact ih0 _ _ _ _)
   | (with_reducible exact ih1 _ _ _ _ _)
   | (with_reducible exact ih2 _ _ _ _ _)
   | (with_reducible exact ih3 _ _ _ _ _ _)
   | (with_reducible exact ih4 _ _ _ _ _ _)
   | (with_reducible exact LeO.refl _)
   | (with_reducible exact LeO.none _)
   | (with_reducible refine LeO.ite ?_ ?_)
   | (with_reducible refine LeO.bind ?_ (fun _=>?_))
   | exact ih0 _ _ _ _
   | exact ih1 _ _ _ _ _
   | exact ih2 _ _ _ _ _
   | exact ih3 _ _ _ _ _ _
   | exact ih4 _ _ _ _ _ _
   | exact LeO.none _
   | refine LeO.ite ?_ ?_
   | refine LeO.bind ?_ (fun _=>?_)
  ·intro y0 y1 y2 y3 y4
   unfold spec_l07Is.l0
   repeat' first
   | (with_reducible exact ih0 _ _ _ _)
   | (with_reducible exact ih1 _ _ _ _ _)
   | (with_reducible exact ih2 _ _ _ _ _)
   | (with_reducible exact ih3 _ _ _ _ _ _)
   | (with_reducible exact ih4 _ _ _ _ _ _)
   | (with_reducible exact LeO.refl _)
   | (with_reducible exact LeO.none _)
   | (with_reducible refine LeO.ite ?_ ?_)
   | (with_reducible refine LeO.bind ?_ (fun _=>?_))
   | exact ih0 _ _ _ _
   | exact ih1 _ _ _ _ _
   | exact ih2 _ _ _ _ _
   | exact ih3 _ _ _ _ _ _
   | exact ih4 _ _ _ _ _ _
   | exact LeO.none _
   | refine LeO.ite ?_ ?_
   | refine LeO.bind ?_ (fun _=>?_)
  ·intro y0 y1 y2 y3 y4 y5
   unfold spec_l07Is.j3
   repeat' first
   | (with_reducible exact ih0 _ _ _ _)
   | (with_reducible exact ih1 _ _ _ _ _)
   | (with_reducible exact ih2 _ _ _ _ _)
   | (with_reducible exact ih3 _ _ _ _ _ _)
   | (with_reducible exact ih4 _ _ _ _ _ _)
   | (with_reducible exact LeO.refl _)
   | (with_reducible exact LeO.none _)
   | (with_reducible refine LeO.ite ?_ ?_)
   | (with_reducible refine LeO.bind ?_ (fun _=>?_))
   | exact ih0 _ _ _ _
   | exact ih1 _ _ _ _ _
   | exact ih2 _ _ _ _ _
   | exact ih3 _ _ _ _ _ _
   | exact ih4 _ _ _ _ _ _
   | exact LeO.none _
   | refine LeO.ite ?_ ?_
   | refine LeO.bind ?_ (fun _=>?_)
  ·intro y0 y1 y2 y3 y4 y5
   unfold spec_l07Is.l1
   repeat' first
   | (with_reducible exact ih0 _ _ _ _)
   | (with_reducible exact ih1 _ _ _ _ _)
   | (with_reducible exact ih2 _ _ _ _ _)
   | (with_reducible exact ih3 _ _ _ _ _ _)
   | (with_reducible exact ih4 _ _ _ _ _ _)
   | (with_reducible exact LeO.refl _)
   | (with_reducible exact LeO.none _)
   | (with_reducible refine LeO.ite ?_ ?_)
   | (with_reducible refine LeO.bind ?_ (fun _=>?_))
   | exact ih0 _ _ _ _
   | exact ih1 _ _ _ _ _
   | exact ih2 _ _ _ _ _
   | exact ih3 _ _ _ _ _ _
   | exact ih4 _ _ _ _ _ _
   | exact LeO.none _
   | refine LeO.ite ?_ ?_
   | refine LeO.bind ?_ (fun _=>?_)
theorem spec_l07Is.mono: ∀a0 a1 k,LeO (spec_l07Is.f k a0 a1) (spec_l07Is.f (k+1) a0 a1):=by
 intro a0 a1 k
 obtain⟨ih0,ih1,ih2,ih3,ih4⟩:=spec_l07Is.mono_l k
 unfold spec_l07Is.f
 repeat' first
   | (with_reducible exact ih0 _ _ _ _)
   | (with_reducible exact ih1 _ _ _ _ _)
   | (with_reducible exact ih2 _ _ _ _ _)
   | (with_reducible exact ih3 _ _ _ _ _ _)
   | (with_reducible exact ih4 _ _ _ _ _ _)
   | (with_reducible exact LeO.refl _)
   | (with_reducible exact LeO.none _)
   | (with_reducible refine LeO.ite ?_ ?_)
   | (with_reducible refine LeO.bind ?_ (fun _=>?_))
   | exact ih0 _ _ _ _
   | exact ih1 _ _ _ _ _
   | exact ih2 _ _ _ _ _
   | exact ih3 _ _ _ _ _ _
   | exact ih4 _ _ _ _ _ _
   | exact LeO.none _
   | refine LeO.ite ?_ ?_
   | refine LeO.bind ?_ (fun _=>?_)
theorem spec_l07Is.calls (k:Nat) (aK:Option Addr) (ak:Nat) (aa:List (List Int)) (aq:Option Addr) (au:Nat) (af:List (List Int)) (r:Bool) (w:World) (bh:Kd.C (Kd.slice 2 (Kd.int .i64)) w aK aa.length aa) (bk:aa.length≤ak) (bn:Kd.C (Kd.slice 2 (Kd.int .i64)) w aq af.length af) (bq:af.length≤au) (h:spec_l07Is.f k aa af=some r):
  Calls Try.prog 22 #[.agg #[.slice aK aa.length ak, .slice aq af.length au]] w fun e w'=>e= .returned (.bool r)∧Below w.heap.size w w':=by
 have hu32:=Try.underlying32
 have HR0_0:=q_ bh
 have HC0_0:=q_ bk
 clear bh bk
 have HR0_1:=q_ bn
 have HC0_1:=q_ bq
 clear bn bq
 have HB:=q_ (Below.refl w.heap.size w)
 have H:(if(aa.length:Int) < 1 then(spec_l07Is.j0 k (aa.length:Int) true aa af) else(if(aa.length:Int) > 4 then(spec_l07Is.j0 k (aa.length:Int) true aa af) else(spec_l07Is.j0 k (aa.length:Int) ((af.length:Int) !=(aa.length:Int)) aa af)))=some r:=h
 clear h
 have HC2:=q_ H
 clear H
 go_enter Try.func22,Try.ntmps22
 go_upto_region 2 with (first | ((with_reducible refine gate_dst (N:=1) rfl ?_);(try (refine gate_guard (by rfl) ?_;dsimp only));refine box_event ?hg (N:=1) ?hd (cs:= #[.slice aK aa.length ak, .slice aq af.length au]) (t:=32) ?hr ?_;(case hd=>rfl);(case hg=>rfl);(case hr=>first | (go_simp;done) | (go_simp;rfl));intro ai hg w3 hbox hb;have ag:=q_ (hbox);have bU:=q_ ((by rw [hg];exact bz_:w.heap.size≤ai));have bV:=q_ ((by rw [hg];exact bz_:w.heap.size≤ai));replace HB:=q_ (bs_ hb);clear hb hbox hg;have av:w3.cell? ⟨ai,0,none⟩=some (.slice aK aa.length ak):=(blk_cell ag.out 0).trans rfl;have aw:w3.cell? ⟨ai,1,none⟩=some (.slice aq af.length au):=(blk_cell ag.out 1).trans rfl;have ax:=blk_frozen ag.out 0;have ay:=blk_frozen ag.out 1))
 (try simp only [Act.put,List.setIfInBounds_toArray,List.set_cons_zero,List.set_cons_succ])
 go_cut [22] (fun v22 wc=> ∃(kq:Nat) (aR:Bool),v22= .bool aR∧Aside0 (spec_l07Is.j0 kq (aa.length:Int) aR aa af=some r)∧Aside0 (kq≤k)∧Aside0 (wc.heap[ai]?=some (.cells #[(.slice aK aa.length ak),(.slice aq af.length au)] 32 (0,0)))∧Aside0 (Below w.heap.size w wc))
 case first=>
  have H:=HC2.out
  clear HC2
  by_cases c5:(aa.length:Int) < 1
  ·rw [if_pos c5] at H
   have c5b0:decide ((aa.length:Int) < 1)=true:=decide_eq_true c5
   have c5b1:decide (aa.length < 1)=true:=decide_eq_true (by omega)
   clear c5
   (first | rw [c5b0] | (simp only [i64_w,i32_w];rw [c5b0]) | skip)
   have H':=q_ H
   clear H
   go_wp2
   go_meet
   case rel=>exact⟨_,(true),rs_,H',⟨by first | omega | exact Nat.le_refl _⟩,⟨bk_⟩,⟨hb_⟩⟩
  ·rw [if_neg c5] at H
   have c5b0:decide ((aa.length:Int) < 1)=false:=decide_eq_false c5
   have c5b1:decide (aa.length < 1)=false:=decide_eq_false (by omega)
   clear c5
   (first | rw [c5b0] | (simp only [i64_w,i32_w];rw [c5b0]) | skip)
   by_cases c6:(aa.length:Int) > 4
   ·rw [if_pos c6] at H
    have c6b0:decide (4 < (aa.length:Int))=true:=decide_eq_true c6
    have c6b1:decide (4 < aa.length)=true:=decide_eq_true (by omega)
    clear c6
    have H':=q_ H
    clear H
    go_wp2
    go_meet
    case rel=>exact⟨_,(true),rs_,H',⟨by first | omega | exact Nat.le_refl _⟩,⟨bk_⟩,⟨hb_⟩⟩
   ·rw [if_neg c6] at H
    have c6b0:decide (4 < (aa.length:Int))=false:=decide_eq_false c6
    have c6b1:decide (4 < aa.length)=false:=decide_eq_false (by omega)
    clear c6
    have H':=q_ H
    clear H
    have az:w3.cell? ⟨ai,0,none⟩=some (.slice aK aa.length ak):=(blk_cell ag.out 0).trans rfl
    have aA:w3.cell? ⟨ai,1,none⟩=some (.slice aq af.length au):=(blk_cell ag.out 1).trans rfl
    have aC:=blk_frozen ag.out 0
    have aD:=blk_frozen ag.out 1
    go_wp2
    go_meet
    case rel=>exact⟨_,(((af.length:Int) !=(aa.length:Int))),rs_,H',⟨by first | omega | exact Nat.le_refl _⟩,⟨bk_⟩,⟨hb_⟩⟩
 case rest=>
  clear HC2
  try clear c2
  try clear p2
  try clear c5
  try clear c5b0
  try clear c5b1
  try clear c6
  try clear c6b0
  try clear c6b1
  try clear av
  try clear aw
  try clear az
  try clear aA
  try clear ax
  try clear ay
  try clear aC
  try clear aD
  obtain⟨kq,aR,rfl,HA,HJ1,ag,HB⟩:=hcut
  cases kq with
  | zero=>exact absurd HA.out (by simp [spec_l07Is.j0])
  | succ kj1=>
   have H:=HA.out
   clear HA
   simp only [spec_l07Is.j0] at H
   by_cases c8:aR=true
   ·subst c8
    have H1:(some false)=some r:=by rw [if_pos rfl] at H;exact H
    clear H
    have H:=H1
    clear H1
    obtain rfl:=Option.some.inj H
    go_wp2
    go_ret
    exact⟨by first | rfl | (simp [errW_none,errW_some] <;> rfl) | (simp [*,errW_none,errW_some] <;> rfl),hb_⟩
   ·replace c8:=Bool.eq_false_iff.mpr c8
    subst c8
    have H1:(if 0 < (aa.length:Int) then(if((rd_L1 aa 0).length:Int) < 1 then(spec_l07Is.j1 kj1 (aa.length:Int) ((rd_L1 aa 0).length:Int) true aa af) else(if((rd_L1 aa 0).length:Int) > 4 then(spec_l07Is.j1 kj1 (aa.length:Int) ((rd_L1 aa 0).length:Int) true aa af) else(spec_l07Is.j1 kj1 (aa.length:Int) ((rd_L1 aa 0).length:Int) (decide ((wrap64 ((aa.length:Int)+((rd_L1 aa 0).length:Int))) > 5)) aa af))) else(none))=some r:=by rw [if_neg (show ¬ (false=true) by decide)] at H;exact H
    clear H
    have H:=H1
    clear H1
    by_cases c9:0 < (aa.length:Int)
    ·rw [if_pos c9] at H
     have c9b0:decide (0 < (aa.length:Int))=true:=decide_eq_true c9
     have c9b1:decide (0 < aa.length)=true:=decide_eq_true (by omega)
     clear c9
     have HC10:=q_ H
     clear H
     have aG:wc.cell? ⟨ai,0,none⟩=some (.slice aK aa.length ak):=(blk_cell ag.out 0).trans rfl
     have aH:wc.cell? ⟨ai,1,none⟩=some (.slice aq af.length au):=(blk_cell ag.out 1).trans rfl
     have aI:=blk_frozen ag.out 0
     have aJ:=blk_frozen ag.out 1
     have p180:0≤(0:Int):=(by omega)
     have q180:0 < (aa.length:Int):=od_
     obtain⟨aj,bQ,bR,e180,hx180_0,hl180_0,hi180_0⟩:=at_L1 HR0_0.out 0 p180 q180
     cases e180
     have qi180:(0 < aa.length)=True:=eq_true (by omega)
     (try rw [show ((0:Int)).toNat=0 from rfl] at hx180_0)
     (try rw [Addr.add_zero'] at hx180_0)
     replace hx180_0:=(HB.out.cell (World.block_lt_of_cell? w _ hx180_0)).trans hx180_0
     have HR180_0:=q_ hi180_0
     have HC180_0:=q_ hl180_0
     clear hi180_0 hl180_0
     replace p180:=eq_true p180
     replace q180:=eq_true q180
     go_upto_region 5 with (fail)
     go_cut [39] (fun v39 wc=> ∃(kq:Nat) (aT:Bool),v39= .bool aT∧Aside0 (spec_l07Is.j1 kq (aa.length:Int) ((rd_L1 aa 0).length:Int) aT aa af=some r)∧Aside0 (kq≤kj1)∧Aside0 (wc.heap[ai]?=some (.cells #[(.slice (some aj) aa.length ak),(.slice aq af.length au)] 32 (0,0)))∧Aside0 (Below w.heap.size w wc))
     case first=>
      have H:=HC10.out
      clear HC10
      by_cases c12:((rd_L1 aa 0).length:Int) < 1
      ·rw [if_pos c12] at H
       have c12b0:decide (((rd_L1 aa 0).length:Int) < 1)=true:=decide_eq_true c12
       have c12b1:decide ((rd_L1 aa 0).length < 1)=true:=decide_eq_true (by omega)
       clear c12
       (first | rw [c12b0] | (simp only [i64_w,i32_w];rw [c12b0]) | skip)
       have H':=q_ H
       clear H
       go_wp2
       go_meet
       case rel=>exact⟨_,(true),rs_,H',⟨by have:=HJ1.out;first | omega | exact Nat.le_refl _⟩,⟨bk_⟩,⟨hb_⟩⟩
      ·rw [if_neg c12] at H
       have c12b0:decide (((rd_L1 aa 0).length:Int) < 1)=false:=decide_eq_false c12
       have c12b1:decide ((rd_L1 aa 0).length < 1)=false:=decide_eq_false (by omega)
       clear c12
       (first | rw [c12b0] | (simp only [i64_w,i32_w];rw [c12b0]) | skip)
       by_cases c13:((rd_L1 aa 0).length:Int) > 4
       ·rw [if_pos c13] at H
        have c13b0:decide (4 < ((rd_L1 aa 0).length:Int))=true:=decide_eq_true c13
        have c13b1:decide (4 < (rd_L1 aa 0).length)=true:=decide_eq_true (by omega)
        clear c13
        have H':=q_ H
        clear H
        go_wp2
        go_meet
        case rel=>exact⟨_,(true),rs_,H',⟨by have:=HJ1.out;first | omega | exact Nat.le_refl _⟩,⟨bk_⟩,⟨hb_⟩⟩
       ·rw [if_neg c13] at H
        have c13b0:decide (4 < ((rd_L1 aa 0).length:Int))=false:=decide_eq_false c13
        have c13b1:decide (4 < (rd_L1 aa 0).length)=false:=decide_eq_false (by omega)
        clear c13
        have H':=q_ H
        clear H
        go_wp2
        go_meet
        case rel=>exact⟨_,(decide ((wrap64 ((aa.length:Int)+((rd_L1 aa 0).length:Int))) > 5)),rs_,H',⟨by have:=HJ1.out;first | omega | exact Nat.le_refl _⟩,⟨bk_⟩,⟨hb_⟩⟩
     case rest=>
      clear HC10
      try clear c1
      try clear p1
      try clear q1
      try clear hx1
      try clear qi1
      try clear c2
      try clear p2
      try clear c5
      try clear c5b0
      try clear c5b1
      try clear c6
      try clear c6b0
      try clear c6b1
      try clear p6
      try clear c8
      try clear c9
      try clear c9b0
      try clear c9b1
      try clear c12
      try clear c12b0
      try clear c12b1
      try clear c13
      try clear c13b0
      try clear c13b1
      try clear aG
      try clear aH
      try clear av
      try clear aw
      try clear az
      try clear aA
      try clear aI
      try clear aJ
      try clear ax
      try clear ay
      try clear aC
      try clear aD
      try clear hx180_0
      try clear p180
      try clear p2
      try clear q180
      obtain⟨kq,aT,rfl,HA,HJ9,ag,HB⟩:=hcut
      cases kq with
      | zero=>exact absurd HA.out (by simp [spec_l07Is.j1])
      | succ kj9=>
       have H:=HA.out
       clear HA
       simp only [spec_l07Is.j1] at H
       by_cases c14:aT=true
       ·subst c14
        have H1:(some false)=some r:=by rw [if_pos rfl] at H;exact H
        clear H
        have H:=H1
        clear H1
        obtain rfl:=Option.some.inj H
        go_wp2
        go_ret
        exact⟨by first | rfl | (simp [errW_none,errW_some] <;> rfl) | (simp [*,errW_none,errW_some] <;> rfl),hb_⟩
       ·replace c14:=Bool.eq_false_iff.mpr c14
        subst c14
        have H1:(spec_l07Is.l0 kj9 (aa.length:Int) ((rd_L1 aa 0).length:Int) 0 aa af)=some r:=by rw [if_neg (show ¬ (false=true) by decide)] at H;exact H
        clear H
        have H:=H1
        clear H1
        have H':=q_ H
        clear H
        go_wp2
        go_loopg [5] kj9 (fun kq v5 w'=> ∃(ae:Int),v5= .int .i64 ae∧Aside0 (spec_l07Is.l0 kq (aa.length:Int) ((rd_L1 aa 0).length:Int) ae aa af=some r)∧Aside0 (kq≤kj9)∧Aside0 (w'.heap[ai]?=some (.cells #[(.slice (some aj) aa.length ak),(.slice aq af.length au)] 32 (0,0)))∧Aside0 (Below w.heap.size w w'))
        case atStart=>exact⟨(0),rs_,H',⟨Nat.le_refl _⟩,⟨bk_⟩,⟨hb_⟩⟩
        case round=>
         clear H'
         try clear c1
         try clear p1
         try clear q1
         try clear hx1
         try clear qi1
         try clear c2
         try clear p2
         try clear c5
         try clear c5b0
         try clear c5b1
         try clear c6
         try clear c6b0
         try clear c6b1
         try clear p6
         try clear c8
         try clear c9
         try clear c9b0
         try clear c9b1
         try clear c12
         try clear c12b0
         try clear c12b1
         try clear c13
         try clear c13b0
         try clear c13b1
         try clear c14
         try clear aG
         try clear aH
         try clear av
         try clear aw
         try clear az
         try clear aA
         try clear aI
         try clear aJ
         try clear ax
         try clear ay
         try clear aC
         try clear aD
         try clear hx180_0
         try clear p1
         try clear p180
         try clear p2
         try clear p6
         try clear q1
         try clear q180
         obtain⟨ae,rfl,HA,HK3,ag,HB⟩:=hrel
         cases gk with
         | zero=>exact absurd HA.out (by simp [spec_l07Is.l0])
         | succ k3=>
          have H:=HA.out
          clear HA
          simp only [spec_l07Is.l0] at H
          by_cases c15:ae < (aa.length:Int)
          ·rw [if_pos c15] at H
           have c15b0:decide (ae < (aa.length:Int))=true:=decide_eq_true c15
           clear c15
           have HC16:=q_ H
           clear H
           go_upto_region 10 with (fail)
           go_cut [62] (fun v62 wc=> ∃(kq:Nat) (aM:Bool),v62= .bool aM∧Aside0 (spec_l07Is.j3 kq (aa.length:Int) ((rd_L1 aa 0).length:Int) ae aM aa af=some r)∧Aside0 (kq≤k3)∧Aside0 (wc.heap[ai]?=some (.cells #[(.slice (some aj) aa.length ak),(.slice aq af.length au)] 32 (0,0)))∧Aside0 (Below w.heap.size w wc))
           case first=>
            have H:=HC16.out
            clear HC16
            by_cases c17:0≤ae
            ·rw [if_pos c17] at H
             have c17b0:decide (0≤ae)=true:=decide_eq_true c17
             clear c17
             (first | rw [c17b0] | (simp only [i64_w,i32_w];rw [c17b0]) | skip)
             by_cases c18:ae < (aa.length:Int)
             ·rw [if_pos c18] at H
              have c18b0:decide (ae < (aa.length:Int))=true:=decide_eq_true c18
              clear c18
              by_cases c19:((rd_L1 aa ae).length:Int)=((rd_L1 aa 0).length:Int)
              ·rw [if_pos c19] at H
               have c19b0:(((rd_L1 aa ae).length:Int)==((rd_L1 aa 0).length:Int))=true:=beq_iff_eq.mpr c19
               have c19b1:(((rd_L1 aa ae).length:Int) !=((rd_L1 aa 0).length:Int))=false:=bne_eq_false_iff_eq.mpr c19
               have c19b2:((rd_L1 aa ae).length==(rd_L1 aa 0).length)=true:=by first | simpa using c19 | (simp at c19 ⊢;omega)
               clear c19
               by_cases c20:ae < (af.length:Int)
               ·rw [if_pos c20] at H
                have c20b0:decide (ae < (af.length:Int))=true:=decide_eq_true c20
                clear c20
                have H':=q_ H
                clear H
                have aU:wr.cell? ⟨ai,0,none⟩=some (.slice (some aj) aa.length ak):=(blk_cell ag.out 0).trans rfl
                have aV:wr.cell? ⟨ai,1,none⟩=some (.slice aq af.length au):=(blk_cell ag.out 1).trans rfl
                have aW:=blk_frozen ag.out 0
                have aX:=blk_frozen ag.out 1
                have p181:0≤(ae:Int):=od_
                have q181:ae < (aa.length:Int):=od_
                obtain⟨bb,bv,bw,e181,hx181_0,hl181_0,hi181_0⟩:=at_L1 HR0_0.out ae p181 q181
                obtain rfl:aj=bb:=(by injection e181)
                replace hx181_0:=(HB.out.cell (World.block_lt_of_cell? w _ hx181_0)).trans hx181_0
                have HR181_0:=q_ hi181_0
                have HC181_0:=q_ hl181_0
                clear hi181_0 hl181_0
                replace p181:=eq_true p181
                replace q181:=eq_true q181
                have p182:0≤(ae:Int):=od_
                have q182:ae < (af.length:Int):=od_
                obtain⟨bW,bS,bT,e182,hx182_0,hl182_0,hi182_0⟩:=at_L1 HR0_1.out ae p182 q182
                cases e182
                replace hx182_0:=(HB.out.cell (World.block_lt_of_cell? w _ hx182_0)).trans hx182_0
                have HR182_0:=q_ hi182_0
                have HC182_0:=q_ hl182_0
                clear hi182_0 hl182_0
                replace p182:=eq_true p182
                replace q182:=eq_true q182
                go_wp2
                go_meet
                case rel=>exact⟨_,((((rd_L1 af ae).length:Int) !=((rd_L1 aa 0).length:Int))),rs_,H',⟨by have:=HJ1.out;have:=HJ9.out;have:=HK3.out;first | omega | exact Nat.le_refl _⟩,⟨bk_⟩,⟨hb_⟩⟩
               ·rw [if_neg c20] at H
                exact absurd H (by simp)
              ·rw [if_neg c19] at H
               have c19b0:(((rd_L1 aa ae).length:Int)==((rd_L1 aa 0).length:Int))=false:=beq_eq_false_iff_ne.mpr c19
               have c19b1:(((rd_L1 aa ae).length:Int) !=((rd_L1 aa 0).length:Int))=true:=bne_iff_ne.mpr c19
               have c19b2:((rd_L1 aa ae).length==(rd_L1 aa 0).length)=false:=by first | simpa using c19 | (simp at c19 ⊢;omega)
               have H':=q_ H
               clear H
               have aY:wr.cell? ⟨ai,0,none⟩=some (.slice (some aj) aa.length ak):=(blk_cell ag.out 0).trans rfl
               have aZ:wr.cell? ⟨ai,1,none⟩=some (.slice aq af.length au):=(blk_cell ag.out 1).trans rfl
               have a9:=blk_frozen ag.out 0
               have ba:=blk_frozen ag.out 1
               have p181:0≤(ae:Int):=od_
               have q181:ae < (aa.length:Int):=od_
               obtain⟨bb,bv,bw,e181,hx181_0,hl181_0,hi181_0⟩:=at_L1 HR0_0.out ae p181 q181
               obtain rfl:aj=bb:=(by injection e181)
               replace hx181_0:=(HB.out.cell (World.block_lt_of_cell? w _ hx181_0)).trans hx181_0
               have HR181_0:=q_ hi181_0
               have HC181_0:=q_ hl181_0
               clear hi181_0 hl181_0
               replace p181:=eq_true p181
               replace q181:=eq_true q181
               go_wp2
               go_meet
               case rel=>exact⟨_,(true),rs_,H',⟨by have:=HJ1.out;have:=HJ9.out;have:=HK3.out;first | omega | exact Nat.le_refl _⟩,⟨bk_⟩,⟨hb_⟩⟩
             ·rw [if_neg c18] at H
              exact absurd H (by simp)
            ·rw [if_neg c17] at H
             exact absurd H (by simp)
           case rest=>
            clear HC16
            try clear c1
            try clear p1
            try clear q1
            try clear hx1
            try clear qi1
            try clear c2
            try clear p2
            try clear c5
            try clear c5b0
            try clear c5b1
            try clear c6
            try clear c6b0
            try clear c6b1
            try clear p6
            try clear c8
            try clear c9
            try clear c9b0
            try clear c9b1
            try clear c12
            try clear c12b0
            try clear c12b1
            try clear c13
            try clear c13b0
            try clear c13b1
            try clear c14
            try clear c15
            try clear c15b0
            try clear c17
            try clear c17b0
            try clear c18
            try clear c18b0
            try clear p18
            try clear q18
            try clear hx18
            try clear qi18
            try clear c19
            try clear c19b0
            try clear c19b1
            try clear c19b2
            try clear c20
            try clear c20b0
            try clear c22
            try clear aG
            try clear aH
            try clear aU
            try clear aV
            try clear aY
            try clear aZ
            try clear av
            try clear aw
            try clear az
            try clear aA
            try clear aI
            try clear aJ
            try clear aW
            try clear aX
            try clear a9
            try clear ba
            try clear ax
            try clear ay
            try clear aC
            try clear aD
            try clear hx180_0
            try clear hx181_0
            try clear hx182_0
            try clear p1
            try clear p180
            try clear p181
            try clear p182
            try clear p2
            try clear p6
            try clear q1
            try clear q180
            try clear q181
            try clear q182
            obtain⟨kq,aM,rfl,HA,HJ15,ag,HB⟩:=hcut
            cases kq with
            | zero=>exact absurd HA.out (by simp [spec_l07Is.j3])
            | succ kj15=>
             have H:=HA.out
             clear HA
             simp only [spec_l07Is.j3] at H
             by_cases c23:aM=true
             ·subst c23
              have H1:(some false)=some r:=by rw [if_pos rfl] at H;exact H
              clear H
              have H:=H1
              clear H1
              obtain rfl:=Option.some.inj H
              go_wp2
              go_ret
              exact⟨by first | rfl | (simp [errW_none,errW_some] <;> rfl) | (simp [*,errW_none,errW_some] <;> rfl),hb_⟩
             ·replace c23:=Bool.eq_false_iff.mpr c23
              subst c23
              have H1:(spec_l07Is.l1 kj15 (aa.length:Int) ((rd_L1 aa 0).length:Int) ae 0 aa af)=some r:=by rw [if_neg (show ¬ (false=true) by decide)] at H;exact H
              clear H
              have H:=H1
              clear H1
              have H':=q_ H
              clear H
              go_wp2
              go_loopg [6] kj15 (fun kq v6 w'=> ∃(ah:Int),v6= .int .i64 ah∧Aside0 (spec_l07Is.l1 kq (aa.length:Int) ((rd_L1 aa 0).length:Int) ae ah aa af=some r)∧Aside0 (kq≤kj15)∧Aside0 (w'.heap[ai]?=some (.cells #[(.slice (some aj) aa.length ak),(.slice aq af.length au)] 32 (0,0)))∧Aside0 (Below w.heap.size w w'))
              case atStart=>exact⟨(0),rs_,H',⟨Nat.le_refl _⟩,⟨bk_⟩,⟨hb_⟩⟩
              case round=>
               clear H'
               try clear c1
               try clear p1
               try clear q1
               try clear hx1
               try clear qi1
               try clear c2
               try clear p2
               try clear c5
               try clear c5b0
               try clear c5b1
               try clear c6
               try clear c6b0
               try clear c6b1
               try clear p6
               try clear c8
               try clear c9
               try clear c9b0
               try clear c9b1
               try clear c12
               try clear c12b0
               try clear c12b1
               try clear c13
               try clear c13b0
               try clear c13b1
               try clear c14
               try clear c15
               try clear c15b0
               try clear c17
               try clear c17b0
               try clear c18
               try clear c18b0
               try clear p18
               try clear q18
               try clear hx18
               try clear qi18
               try clear c19
               try clear c19b0
               try clear c19b1
               try clear c19b2
               try clear c20
               try clear c20b0
               try clear c22
               try clear c23
               try clear aG
               try clear aH
               try clear aU
               try clear aV
               try clear aY
               try clear aZ
               try clear av
               try clear aw
               try clear az
               try clear aA
               try clear aI
               try clear aJ
               try clear aW
               try clear aX
               try clear a9
               try clear ba
               try clear ax
               try clear ay
               try clear aC
               try clear aD
               try clear hx180_0
               try clear hx181_0
               try clear hx182_0
               try clear p1
               try clear p18
               try clear p180
               try clear p181
               try clear p182
               try clear p2
               try clear p6
               try clear q1
               try clear q18
               try clear q180
               try clear q181
               try clear q182
               obtain⟨ah,rfl,HA,HK5,ag,HB⟩:=hrel
               cases gk with
               | zero=>exact absurd HA.out (by simp [spec_l07Is.l1])
               | succ k5=>
                have H:=HA.out
                clear HA
                simp only [spec_l07Is.l1] at H
                by_cases c24:ah < ((rd_L1 aa 0).length:Int)
                ·rw [if_pos c24] at H
                 have c24b0:decide (ah < ((rd_L1 aa 0).length:Int))=true:=decide_eq_true c24
                 clear c24
                 by_cases c25:0≤ae
                 ·rw [if_pos c25] at H
                  have c25b0:decide (0≤ae)=true:=decide_eq_true c25
                  clear c25
                  by_cases c26:ae < (aa.length:Int)
                  ·rw [if_pos c26] at H
                   have c26b0:decide (ae < (aa.length:Int))=true:=decide_eq_true c26
                   clear c26
                   by_cases c27:0≤ah
                   ·rw [if_pos c27] at H
                    have c27b0:decide (0≤ah)=true:=decide_eq_true c27
                    clear c27
                    by_cases c28:ah < ((rd_L1 aa ae).length:Int)
                    ·rw [if_pos c28] at H
                     have c28b0:decide (ah < ((rd_L1 aa ae).length:Int))=true:=decide_eq_true c28
                     clear c28
                     replace H:=Option.bind_eq_some_iff.mp H
                     obtain⟨bz,A290,H⟩:=H
                     replace H:(if bz=true then(if ae < (af.length:Int) then(if ah < ((rd_L1 af ae).length:Int) then((spec_l01In.f (rd (rd_L1 af ae) ah) 1 20).bind fun aQ=>(if aQ=true then(spec_l07Is.l1 k5 (aa.length:Int) ((rd_L1 aa 0).length:Int) ae (wrap64 (ah+1)) aa af) else(some false))) else(none)) else(none)) else(some false))=some r:=H
                     have A29:=q_ A290
                     clear A290
                     by_cases c30:bz=true
                     ·subst c30
                      have H1:(if ae < (af.length:Int) then(if ah < ((rd_L1 af ae).length:Int) then((spec_l01In.f (rd (rd_L1 af ae) ah) 1 20).bind fun aQ=>(if aQ=true then(spec_l07Is.l1 k5 (aa.length:Int) ((rd_L1 aa 0).length:Int) ae (wrap64 (ah+1)) aa af) else(some false))) else(none)) else(none))=some r:=by rw [if_pos rfl] at H;exact H
                      clear H
                      have H:=H1
                      clear H1
                      by_cases c31:ae < (af.length:Int)
                      ·rw [if_pos c31] at H
                       have c31b0:decide (ae < (af.length:Int))=true:=decide_eq_true c31
                       clear c31
                       by_cases c32:ah < ((rd_L1 af ae).length:Int)
                       ·rw [if_pos c32] at H
                        have c32b0:decide (ah < ((rd_L1 af ae).length:Int))=true:=decide_eq_true c32
                        clear c32
                        replace H:=Option.bind_eq_some_iff.mp H
                        obtain⟨aQ,A330,H⟩:=H
                        replace H:(if aQ=true then(spec_l07Is.l1 k5 (aa.length:Int) ((rd_L1 aa 0).length:Int) ae (wrap64 (ah+1)) aa af) else(some false))=some r:=H
                        have A33:=q_ A330
                        clear A330
                        by_cases c34:aQ=true
                        ·subst c34
                         have H1:(spec_l07Is.l1 k5 (aa.length:Int) ((rd_L1 aa 0).length:Int) ae (wrap64 (ah+1)) aa af)=some r:=by rw [if_pos rfl] at H;exact H
                         clear H
                         have H:=H1
                         clear H1
                         have H':=q_ H
                         clear H
                         have bE:wr.cell? ⟨ai,0,none⟩=some (.slice (some aj) aa.length ak):=(blk_cell ag.out 0).trans rfl
                         have bF:wr.cell? ⟨ai,1,none⟩=some (.slice aq af.length au):=(blk_cell ag.out 1).trans rfl
                         have bG:=blk_frozen ag.out 0
                         have bH:=blk_frozen ag.out 1
                         have p183:0≤(ae:Int):=od_
                         have q183:ae < (aa.length:Int):=od_
                         obtain⟨aN,bf,bg,e183,hx183_0,hl183_0,hi183_0⟩:=at_L1 HR0_0.out ae p183 q183
                         obtain rfl:aj=aN:=(by injection e183)
                         replace hx183_0:=(HB.out.cell (World.block_lt_of_cell? w _ hx183_0)).trans hx183_0
                         have HR183_0:=q_ hi183_0
                         have HC183_0:=q_ hl183_0
                         clear hi183_0 hl183_0
                         replace p183:=eq_true p183
                         replace q183:=eq_true q183
                         have p184:0≤(ah:Int):=od_
                         have q184:ah < ((rd_L1 aa ae).length:Int):=od_
                         obtain⟨bu,e184,hx184_0⟩:=Kd.at_int HR183_0.out ah p184 q184
                         cases e184
                         replace hx184_0:=(HB.out.cell (World.block_lt_of_cell? w _ hx184_0)).trans hx184_0
                         replace p184:=eq_true p184
                         replace q184:=eq_true q184
                         go_wp2_with (first | ((with_reducible refine gate_callee (f:=16) rfl ?_);refine gL_ 76 Try.func16 #[.int .i64 (rd (rd_L1 aa ae) ah), .int .i64 1, .int .i64 20] ?_;(with_reducible refine(spec_l01In.calls (rd (rd_L1 aa ae) ah) 1 20 true _ A29.out).mono ?_);rintro e w' ⟨rfl,⟨nd,rfl⟩⟩;refine⟨_,rfl,?_⟩;have p186:0≤(ae:Int):=od_;have q186:ae < (af.length:Int):=od_;obtain⟨bC,bA,bB,e186,hx186_0,hl186_0,hi186_0⟩:=at_L1 HR0_1.out ae p186 q186;cases e186;replace hx186_0:=(HB.out.cell (World.block_lt_of_cell? w _ hx186_0)).trans hx186_0;have HR186_0:=q_ hi186_0;have HC186_0:=q_ hl186_0;clear hi186_0 hl186_0;replace p186:=eq_true p186;replace q186:=eq_true q186;have p187:0≤(ah:Int):=od_;have q187:ah < ((rd_L1 af ae).length:Int):=od_;obtain⟨bD,e187,hx187_0⟩:=Kd.at_int HR186_0.out ah p187 q187;cases e187;replace hx187_0:=(HB.out.cell (World.block_lt_of_cell? w _ hx187_0)).trans hx187_0;replace p187:=eq_true p187;replace q187:=eq_true q187) | (go_at_call 16;(with_reducible refine(spec_l01In.calls (rd (rd_L1 af ae) ah) 1 20 true _ A33.out).mono ?_);rintro e w' ⟨rfl,⟨nd,rfl⟩⟩))
                         go_roundg k5
                         case measure=>have:=HJ1.out;have:=HJ9.out;have:=HK3.out;have:=HJ15.out;have:=HK5.out;omega
                         case rel=>exact⟨(wrap64 (ah+1)),rs_,H',⟨by have:=HJ1.out;have:=HJ9.out;have:=HK3.out;have:=HJ15.out;have:=HK5.out;omega⟩,⟨bk_⟩,⟨hb_⟩⟩
                        ·replace c34:=Bool.eq_false_iff.mpr c34
                         subst c34
                         have H1:(some false)=some r:=by rw [if_neg (show ¬ (false=true) by decide)] at H;exact H
                         clear H
                         have H:=H1
                         clear H1
                         obtain rfl:=Option.some.inj H
                         have bI:wr.cell? ⟨ai,0,none⟩=some (.slice (some aj) aa.length ak):=(blk_cell ag.out 0).trans rfl
                         have bJ:wr.cell? ⟨ai,1,none⟩=some (.slice aq af.length au):=(blk_cell ag.out 1).trans rfl
                         have bK:=blk_frozen ag.out 0
                         have bL:=blk_frozen ag.out 1
                         have p183:0≤(ae:Int):=od_
                         have q183:ae < (aa.length:Int):=od_
                         obtain⟨aN,bf,bg,e183,hx183_0,hl183_0,hi183_0⟩:=at_L1 HR0_0.out ae p183 q183
                         obtain rfl:aj=aN:=(by injection e183)
                         replace hx183_0:=(HB.out.cell (World.block_lt_of_cell? w _ hx183_0)).trans hx183_0
                         have HR183_0:=q_ hi183_0
                         have HC183_0:=q_ hl183_0
                         clear hi183_0 hl183_0
                         replace p183:=eq_true p183
                         replace q183:=eq_true q183
                         have p184:0≤(ah:Int):=od_
                         have q184:ah < ((rd_L1 aa ae).length:Int):=od_
                         obtain⟨bu,e184,hx184_0⟩:=Kd.at_int HR183_0.out ah p184 q184
                         cases e184
                         replace hx184_0:=(HB.out.cell (World.block_lt_of_cell? w _ hx184_0)).trans hx184_0
                         replace p184:=eq_true p184
                         replace q184:=eq_true q184
                         go_wp2_with (first | ((with_reducible refine gate_callee (f:=16) rfl ?_);refine gL_ 76 Try.func16 #[.int .i64 (rd (rd_L1 aa ae) ah), .int .i64 1, .int .i64 20] ?_;(with_reducible refine(spec_l01In.calls (rd (rd_L1 aa ae) ah) 1 20 true _ A29.out).mono ?_);rintro e w' ⟨rfl,⟨nd,rfl⟩⟩;refine⟨_,rfl,?_⟩;have p186:0≤(ae:Int):=od_;have q186:ae < (af.length:Int):=od_;obtain⟨bC,bA,bB,e186,hx186_0,hl186_0,hi186_0⟩:=at_L1 HR0_1.out ae p186 q186;cases e186;replace hx186_0:=(HB.out.cell (World.block_lt_of_cell? w _ hx186_0)).trans hx186_0;have HR186_0:=q_ hi186_0;have HC186_0:=q_ hl186_0;clear hi186_0 hl186_0;replace p186:=eq_true p186;replace q186:=eq_true q186;have p187:0≤(ah:Int):=od_;have q187:ah < ((rd_L1 af ae).length:Int):=od_;obtain⟨bD,e187,hx187_0⟩:=Kd.at_int HR186_0.out ah p187 q187;cases e187;replace hx187_0:=(HB.out.cell (World.block_lt_of_cell? w _ hx187_0)).trans hx187_0;replace p187:=eq_true p187;replace q187:=eq_true q187) | (go_at_call 16;(with_reducible refine(spec_l01In.calls (rd (rd_L1 af ae) ah) 1 20 false _ A33.out).mono ?_);rintro e w' ⟨rfl,⟨nd,rfl⟩⟩))
                         go_ret
                         exact⟨by first | rfl | (simp [errW_none,errW_some] <;> rfl) | (simp [*,errW_none,errW_some] <;> rfl),hb_⟩
                       ·rw [if_neg c32] at H
                        exact absurd H (by simp)
                      ·rw [if_neg c31] at H
                       exact absurd H (by simp)
                     ·replace c30:=Bool.eq_false_iff.mpr c30
                      subst c30
                      have H1:(some false)=some r:=by rw [if_neg (show ¬ (false=true) by decide)] at H;exact H
                      clear H
                      have H:=H1
                      clear H1
                      obtain rfl:=Option.some.inj H
                      have bM:wr.cell? ⟨ai,0,none⟩=some (.slice (some aj) aa.length ak):=(blk_cell ag.out 0).trans rfl
                      have bN:wr.cell? ⟨ai,1,none⟩=some (.slice aq af.length au):=(blk_cell ag.out 1).trans rfl
                      have bO:=blk_frozen ag.out 0
                      have bP:=blk_frozen ag.out 1
                      have p183:0≤(ae:Int):=od_
                      have q183:ae < (aa.length:Int):=od_
                      obtain⟨aN,bf,bg,e183,hx183_0,hl183_0,hi183_0⟩:=at_L1 HR0_0.out ae p183 q183
                      obtain rfl:aj=aN:=(by injection e183)
                      replace hx183_0:=(HB.out.cell (World.block_lt_of_cell? w _ hx183_0)).trans hx183_0
                      have HR183_0:=q_ hi183_0
                      have HC183_0:=q_ hl183_0
                      clear hi183_0 hl183_0
                      replace p183:=eq_true p183
                      replace q183:=eq_true q183
                      have p184:0≤(ah:Int):=od_
                      have q184:ah < ((rd_L1 aa ae).length:Int):=od_
                      obtain⟨bu,e184,hx184_0⟩:=Kd.at_int HR183_0.out ah p184 q184
                      cases e184
                      replace hx184_0:=(HB.out.cell (World.block_lt_of_cell? w _ hx184_0)).trans hx184_0
                      replace p184:=eq_true p184
                      replace q184:=eq_true q184
                      go_wp2_with (first | ((with_reducible refine gate_callee (f:=16) rfl ?_);refine gL_ 76 Try.func16 #[.int .i64 (rd (rd_L1 aa ae) ah), .int .i64 1, .int .i64 20] ?_;(with_reducible refine(spec_l01In.calls (rd (rd_L1 aa ae) ah) 1 20 false _ A29.out).mono ?_);rintro e w' ⟨rfl,⟨nd,rfl⟩⟩;refine⟨_,rfl,?_⟩))
                      go_ret
                      exact⟨by first | rfl | (simp [errW_none,errW_some] <;> rfl) | (simp [*,errW_none,errW_some] <;> rfl),hb_⟩
                    ·rw [if_neg c28] at H
                     exact absurd H (by simp)
                   ·rw [if_neg c27] at H
                    exact absurd H (by simp)
                  ·rw [if_neg c26] at H
                   exact absurd H (by simp)
                 ·rw [if_neg c25] at H
                  exact absurd H (by simp)
                ·rw [if_neg c24] at H
                 have c24b0:decide (ah < ((rd_L1 aa 0).length:Int))=false:=decide_eq_false c24
                 clear c24
                 have H':=q_ H
                 clear H
                 go_wp2
                 go_roundg k5
                 case measure=>have:=HJ1.out;have:=HJ9.out;have:=HK3.out;have:=HJ15.out;have:=HK5.out;omega
                 case rel=>exact⟨(wrap64 (ae+1)),rs_,H',⟨by have:=HJ1.out;have:=HJ9.out;have:=HK3.out;have:=HJ15.out;have:=HK5.out;omega⟩,⟨bk_⟩,⟨hb_⟩⟩
          ·rw [if_neg c15] at H
           have c15b0:decide (ae < (aa.length:Int))=false:=decide_eq_false c15
           clear c15
           obtain rfl:=Option.some.inj H
           go_wp2
           go_ret
           exact⟨by first | rfl | (simp [errW_none,errW_some] <;> rfl) | (simp [*,errW_none,errW_some] <;> rfl),hb_⟩
    ·rw [if_neg c9] at H
     exact absurd H (by simp)
end Go.Proofs.Ytmcddlpgffbmpaa.Pr
end
section
namespace Go.Proofs.Ytmcddlpgffbmpaa.Pr
open Go.RowKit Go.Proofs.YtmcddlpgffbmpaaW.PrintWords Go.Proofs.YtmcddlpgffbmpaaW.PrintLast Go.Proofs.YtmcddlpgffbmpaaW.PrintMore
def RowsPred (g:Nat) (lb:Array Value) (p:List Int→Bool) (w:World) (l:List (List Int)):Prop:=
 ∀(W:World) (A:Option Addr) (c:Nat) (x:List Int),x ∈ l→Below w.heap.size w W→x.length≤c→Kd.C (Kd.int .i64) W A x.length x→Calls Try.prog g (#[.slice A x.length c]++lb) W fun e w'=>e= .returned (.bool (p x))∧Below W.heap.size W w'
theorem indexFuncRows (p:List Int→Bool) (g:Nat) (lb:Array Value) (eg: ∀args w,(callFunc g args).run Try.prog w= .ok (.enter g args) w) (A:Option Addr) (c:Nat) (l:List (List Int)) (w:World)
  (hr:Kd.C (Kd.slice 2 (Kd.int .i64)) w A l.length l) (hp:RowsPred g lb p w l):
  Calls Try.prog 48 #[.slice A l.length c, .func (.func g) #[] lb] w fun e w'=>e= .returned (.int .i64 (idxP p l 0))∧Below w.heap.size w w':=by
 have HR:=q_ hr
 have HP:=q_ hp
 have hbig:l.length≤9223372036854775807:=hr.2.1
 clear hr hp
 go_enter Try.func48,Try.ntmps48
 go_wp2
 go_loopg [5,8] l.length (fun gg _ s8 wr=> ∃kk:Nat,kk≤l.length∧l.length - kk≤gg∧s8= .int .i64 kk∧Aside0 (Below w.heap.size w wr)∧Aside0 (∀j (hj:j < l.length),j < kk→p l[j]=false))
 case atStart=>exact⟨0,Nat.zero_le _,by omega,rfl,⟨Below.refl _ w⟩,⟨fun j _ hj=>absurd hj (Nat.not_lt_zero _)⟩⟩
 case round=>
  obtain⟨kk,hkk,hg,rfl,BW,F⟩:=hrel
  by_cases hlt:kk < l.length
  ·obtain⟨ad,A',c',e,hx,hc',hi⟩:=at_L1 HR.out kk (by omega) (by omega)
   cases e
   rw [Int.toNat_natCast] at hx
   have hx':=(BW.out.cell (World.block_lt_of_cell? w _ hx)).trans hx
   clear hx
   have hel:rd_L1 l (kk:Int)=l[kk]:=by simp [rd_L1,hlt]
   have hcall:=HP.out wr A' c' l[kk] (List.getElem_mem hlt) BW.out (by rw [← hel];exact hc') (by rw [← hel];exact Kd.C_below hi BW.out)
   rw [hel] at hx' hc' hi
   have HI:=q_ hi
   have HC:=q_ hc'
   clear hi hc' hel
   have hltz:(kk:Int) < (l.length:Int):=by omega
   have h0z:(0:Int)≤(kk:Int):=by omega
   generalize hy:l[kk]=y at hx' hcall HI HC
   have HY:=q_ hy
   clear hy
   cases hq:p y with
   | true=>
    rw [hq] at hcall
    have HQ:=q_ hq
    clear hq
    go_wp2_with fail
    refine hcall.mono ?_
    rintro e w' ⟨rfl,hb'⟩
    clear hcall
    go_wp2
    go_ret
    refine⟨?_,Below.trans BW.out (hb'.mono BW.out.size)⟩
    rw [idxP_hit p l kk hlt F.out (by rw [HY.out];exact HQ.out)]
    rfl
   | false=>
    rw [hq] at hcall
    have HQ:=q_ hq
    clear hq
    go_wp2_with fail
    refine hcall.mono ?_
    rintro e w' ⟨rfl,hb'⟩
    clear hcall
    go_wp2
    go_roundg (l.length - (kk+1))
    case measure=>omega
    case rel=>
     refine⟨kk+1,by omega,by omega,by go_num,⟨Below.trans BW.out (hb'.mono BW.out.size)⟩,⟨fun j hj hjk=>?_⟩⟩
     by_cases e:j=kk
     ·subst e
      rw [HY.out];exact HQ.out
     ·exact F.out j hj (by omega)
  ·have hltz: ¬ (kk:Int) < (l.length:Int):=by omega
   obtain rfl:kk=l.length:=by omega
   go_wp2
   go_ret
   refine⟨?_,BW.out⟩
   rw [idxP_miss p l (fun i hi=>F.out i hi hi)]
   rfl
theorem containsFuncRows (p:List Int→Bool) (g:Nat) (lb:Array Value) (eg: ∀args w,(callFunc g args).run Try.prog w= .ok (.enter g args) w) (A:Option Addr) (c:Nat) (l:List (List Int)) (w:World)
  (hr:Kd.C (Kd.slice 2 (Kd.int .i64)) w A l.length l) (hp:RowsPred g lb p w l):
  Calls Try.prog 44 #[.slice A l.length c, .func (.func g) #[] lb] w fun e w'=>e= .returned (.bool (l.any p))∧Below w.heap.size w w':=by
 rw [← idxP_nonneg p l 0 (Int.le_refl _)]
 have HR:=q_ hr
 have HP:=q_ hp
 clear hr hp
 go_enter Try.func44,Try.ntmps44
 go_wp2_with fail
 refine(indexFuncRows p g lb eg A c l _ HR.out HP.out).mono ?_
 rintro e w' ⟨rfl,hb'⟩
 go_wp2
 go_ret
 exact⟨rfl,hb'⟩
end Go.Proofs.Ytmcddlpgffbmpaa.Pr
end
section
namespace Go.Proofs.Ytmcddlpgffbmpaa.Pr
open Go.RowKit Go.Proofs.YtmcddlpgffbmpaaW.PrintWords Go.Proofs.YtmcddlpgffbmpaaW.PrintLast Go.Proofs.YtmcddlpgffbmpaaW.PrintMore
def badE (n:Int):Bool:=!(decide (1≤n) && decide (n≤20))
def badR (k:Int) (row:List Int):Bool:=((row.length:Int) !=k) || row.any badE
theorem within_f (n a b:Int):impl_within.f n a b=some (decide (a≤n) && decide (n≤b)):=by
 unfold impl_within.f
 by_cases h:a≤n
 ·rw [if_pos (by omega)];simp [h]
 ·rw [if_neg (by omega)];simp [h]
theorem isTable11 (n:Int) (w:World):Calls Try.prog 46 #[.int .i64 n] w fun e w'=>e= .returned (.bool (badE n))∧Below w.heap.size w w':=by
 unfold badE
 have hf:=within_f n 1 20
 generalize (decide (1≤n) && decide (n≤20))=b at hf ⊢
 have HF:=q_ hf
 clear hf
 go_enter Try.func46,Try.ntmps46
 go_wp2_with fail
 refine(impl_within.calls n 1 20 _ _ HF.out).mono ?_
 rintro e w' ⟨rfl,⟨nd,rfl⟩⟩
 go_wp2
 go_ret
 exact⟨rfl,pw_below_drewN (Below.refl _ _) _⟩
theorem isTable11_enters: ∀args w,(callFunc 46 args).run Try.prog w= .ok (.enter 46 args) w:=enters_fn Try.func46 (by kernel_rfl) rfl
theorem isTable1 (gb:Nat) (k:Int) (A:Option Addr) (c:Nat) (x:List Int) (w:World) (hx:Kd.C (Kd.int .i64) w A x.length x) (hb:w.cell? ⟨gb,0,none⟩=some (.int .i64 k)):
  Calls Try.prog 45 (#[.slice A x.length c]++ #[.pointer (some ⟨gb,0,none⟩)]) w fun e w'=>e= .returned (.bool (badR k x))∧Below w.heap.size w w':=by
 have HX:=q_ hx
 clear hx
 unfold badR
 show Calls Try.prog 45 #[.slice A x.length c, .pointer (some ⟨gb,0,none⟩)] w _
 by_cases e:(x.length:Int)=k
 ·have h1:((x.length:Int) !=k)=false:=by simp [e]
  have h2:((x.length:Int)==k)=true:=by simp [e]
  have hcall:=fun W (hW:Below w.heap.size w W)=>containsFuncInts badE 46 #[] isTable11_enters A c x W (Kd.C_below HX.out hW) (fun W' n _ _=>isTable11 n W')
  clear e
  have HC:=q_ hcall
  clear hcall
  generalize x.any badE=b at HC ⊢
  go_enter Try.func45,Try.ntmps45
  go_wp2_with fail
  refine(HC.out _ (Below.refl _ _)).mono ?_
  rintro e w' ⟨rfl,hb'⟩
  go_wp2
  go_ret
  exact⟨by rw [h1];rfl,hb'⟩
 ·have h1:((x.length:Int) !=k)=true:=by simp [e]
  have h2:((x.length:Int)==k)=false:=by simp [e]
  clear e
  go_enter Try.func45,Try.ntmps45
  go_wp2
  go_ret
  exact⟨by rw [h1];rfl,Below.refl _ _⟩
theorem isTable1_enters: ∀args w,(callFunc 45 args).run Try.prog w= .ok (.enter 45 args) w:=enters_fn Try.func45 (by kernel_rfl) rfl
def impl_isTable.f (l0:List (List Int)) (a1:Int) (a2:Int):Option (Bool):=some (((l0.length:Int)==a1) && !(l0.any (badR a2)))
theorem impl_isTable.calls (A0:Option Addr) (c0:Nat) (l0:List (List Int)) (a1:Int) (a2:Int) (r:Bool) (w:World) (hr0:Kd.C (Kd.slice 2 (Kd.int .i64)) w A0 l0.length l0) (hc0:l0.length≤c0) (h:impl_isTable.f l0 a1 a2=some r):
  Calls Try.prog 39 #[.slice A0 l0.length c0, .int .i64 a1, .int .i64 a2] w fun e w'=>e= .returned (.bool r)∧Below w.heap.size w w':=by
 have HR:=q_ hr0
 clear hr0 hc0
 have hv:=(Option.some.inj h)
 clear h
 by_cases e:(l0.length:Int)=a1
 ·have h1:((l0.length:Int)==a1)=true:=by simp [e]
  rw [h1,Bool.true_and] at hv
  have HV:=q_ hv
  clear hv e
  have hcall:=fun(gb:Nat) W (hW:Below w.heap.size w W) (hgb:gb < W.heap.size) (hcell:W.cell? ⟨gb,0,none⟩=some (.int .i64 a2))=>
   containsFuncRows (badR a2) 45 #[.pointer (some ⟨gb,0,none⟩)] isTable1_enters A0 c0 l0 W (Kd.C_below HR.out hW)
    (fun W' A c x _ hb _ hC=>isTable1 gb a2 A c x W' hC ((hb.cell (p:=⟨gb,0,none⟩) hgb).trans hcell))
  have HC:=q_ hcall
  clear hcall
  generalize l0.any (badR a2)=b at HC HV
  go_enter Try.func39,Try.ntmps39
  go_wp2_with fail
  refine(HC.out _ _ ((Below.refl _ _).alloc (Nat.le_refl _) _) (by simp) (by simp)).mono ?_
  rintro e w' ⟨rfl,hb'⟩
  go_wp2
  go_ret
  exact⟨by rw [← HV.out];rfl,((Below.refl _ _).alloc (Nat.le_refl _) _).trans (hb'.mono (by simp))⟩
 ·have h1:((l0.length:Int)==a1)=false:=by simp [e]
  rw [h1,Bool.false_and] at hv
  have HV:=q_ hv
  clear hv e
  go_enter Try.func39,Try.ntmps39
  go_wp2
  go_ret
  exact⟨by rw [← HV.out];rfl,(Below.refl _ _).alloc (Nat.le_refl _) _⟩
end Go.Proofs.Ytmcddlpgffbmpaa.Pr
end
section
namespace Go.Proofs.Ytmcddlpgffbmpaa.Pr
open Go.RowKit Go.Proofs.YtmcddlpgffbmpaaW.PrintWords Go.Proofs.YtmcddlpgffbmpaaW.PrintLast Go.Proofs.YtmcddlpgffbmpaaW.PrintMore
attribute [local go_sem] max2_int min2_int max_two min_two max_three min_three max_four min_four
def impl_IsGame.f (aa:List (List Int)) (ae:List (List Int)):Option (Bool):=(impl_within.f (aa.length:Int) 1 4).bind fun af=>(if af=true then(if 0 < (aa.length:Int) then((impl_within.f ((rd_L1 aa 0).length:Int) 1 4).bind fun ag=>(if ag=true then(if(wrap64 ((aa.length:Int)+((rd_L1 aa 0).length:Int)))≤5 then((impl_isTable.f aa (aa.length:Int) ((rd_L1 aa 0).length:Int)).bind fun ah=>(if ah=true then((impl_isTable.f ae (aa.length:Int) ((rd_L1 aa 0).length:Int)).bind fun ai=>(some ai)) else(some false))) else(some false)) else(some false))) else(none)) else(some false))
theorem impl_IsGame.calls (aq:Option Addr) (ai:Nat) (aa:List (List Int)) (aj:Option Addr) (ak:Nat) (ag:List (List Int)) (r:Bool) (w:World) (aH:Kd.C (Kd.slice 2 (Kd.int .i64)) w aq aa.length aa) (aI:aa.length≤ai) (aJ:Kd.C (Kd.slice 2 (Kd.int .i64)) w aj ag.length ag) (aK:ag.length≤ak) (h:impl_IsGame.f aa ag=some r):
  Calls Try.prog 27 #[.agg #[.slice aq aa.length ai, .slice aj ag.length ak]] w fun e w'=>e= .returned (.bool r)∧Below w.heap.size w w':=by
 have hu32:=Try.underlying32
 have HR0_0:=q_ aH
 have HC0_0:=q_ aI
 clear aH aI
 have HR0_1:=q_ aJ
 have HC0_1:=q_ aK
 clear aJ aK
 have HB:=q_ (Below.refl w.heap.size w)
 have H:((impl_within.f (aa.length:Int) 1 4).bind fun aG=>(if aG=true then(if 0 < (aa.length:Int) then((impl_within.f ((rd_L1 aa 0).length:Int) 1 4).bind fun av=>(if av=true then(if(wrap64 ((aa.length:Int)+((rd_L1 aa 0).length:Int)))≤5 then((impl_isTable.f aa (aa.length:Int) ((rd_L1 aa 0).length:Int)).bind fun au=>(if au=true then((impl_isTable.f ag (aa.length:Int) ((rd_L1 aa 0).length:Int)).bind fun ah=>(some ah)) else(some false))) else(some false)) else(some false))) else(none)) else(some false)))=some r:=h
 clear h
 replace H:=Option.bind_eq_some_iff.mp H
 obtain⟨aG,A20,H⟩:=H
 replace H:(if aG=true then(if 0 < (aa.length:Int) then((impl_within.f ((rd_L1 aa 0).length:Int) 1 4).bind fun av=>(if av=true then(if(wrap64 ((aa.length:Int)+((rd_L1 aa 0).length:Int)))≤5 then((impl_isTable.f aa (aa.length:Int) ((rd_L1 aa 0).length:Int)).bind fun au=>(if au=true then((impl_isTable.f ag (aa.length:Int) ((rd_L1 aa 0).length:Int)).bind fun ah=>(some ah)) else(some false))) else(some false)) else(some false))) else(none)) else(some false))=some r:=H
 have A2:=q_ A20
 clear A20
 by_cases c3:aG=true
 ·subst c3
  have H1:(if 0 < (aa.length:Int) then((impl_within.f ((rd_L1 aa 0).length:Int) 1 4).bind fun av=>(if av=true then(if(wrap64 ((aa.length:Int)+((rd_L1 aa 0).length:Int)))≤5 then((impl_isTable.f aa (aa.length:Int) ((rd_L1 aa 0).length:Int)).bind fun au=>(if au=true then((impl_isTable.f ag (aa.length:Int) ((rd_L1 aa 0).length:Int)).bind fun ah=>(some ah)) else(some false))) else(some false)) else(some false))) else(none))=some r:=by rw [if_pos rfl] at H;exact H
  clear H
  have H:=H1
  clear H1
  by_cases c4:0 < (aa.length:Int)
  ·rw [if_pos c4] at H
   have c4b0:decide (0 < (aa.length:Int))=true:=decide_eq_true c4
   have c4b1:decide (0 < aa.length)=true:=decide_eq_true (by omega)
   clear c4
   replace H:=Option.bind_eq_some_iff.mp H
   obtain⟨av,A50,H⟩:=H
   replace H:(if av=true then(if(wrap64 ((aa.length:Int)+((rd_L1 aa 0).length:Int)))≤5 then((impl_isTable.f aa (aa.length:Int) ((rd_L1 aa 0).length:Int)).bind fun au=>(if au=true then((impl_isTable.f ag (aa.length:Int) ((rd_L1 aa 0).length:Int)).bind fun ah=>(some ah)) else(some false))) else(some false)) else(some false))=some r:=H
   have A5:=q_ A50
   clear A50
   by_cases c6:av=true
   ·subst c6
    have H1:(if(wrap64 ((aa.length:Int)+((rd_L1 aa 0).length:Int)))≤5 then((impl_isTable.f aa (aa.length:Int) ((rd_L1 aa 0).length:Int)).bind fun au=>(if au=true then((impl_isTable.f ag (aa.length:Int) ((rd_L1 aa 0).length:Int)).bind fun ah=>(some ah)) else(some false))) else(some false))=some r:=by rw [if_pos rfl] at H;exact H
    clear H
    have H:=H1
    clear H1
    by_cases c7:(wrap64 ((aa.length:Int)+((rd_L1 aa 0).length:Int)))≤5
    ·rw [if_pos c7] at H
     have c7b0:decide ((wrap64 ((aa.length:Int)+((rd_L1 aa 0).length:Int)))≤5)=true:=decide_eq_true c7
     clear c7
     replace H:=Option.bind_eq_some_iff.mp H
     obtain⟨au,A80,H⟩:=H
     replace H:(if au=true then((impl_isTable.f ag (aa.length:Int) ((rd_L1 aa 0).length:Int)).bind fun ah=>(some ah)) else(some false))=some r:=H
     have A8:=q_ A80
     clear A80
     by_cases c9:au=true
     ·subst c9
      have H1:((impl_isTable.f ag (aa.length:Int) ((rd_L1 aa 0).length:Int)).bind fun ah=>(some ah))=some r:=by rw [if_pos rfl] at H;exact H
      clear H
      have H:=H1
      clear H1
      replace H:=Option.bind_eq_some_iff.mp H
      obtain⟨ah,A100,H⟩:=H
      replace H:(some ah)=some r:=H
      have A10:=q_ A100
      clear A100
      obtain rfl:=Option.some.inj H
      go_enter Try.func27,Try.ntmps27
      go_wp2_with (first | ((with_reducible refine gate_dst (N:=1) rfl ?_);refine box_event ?hg (N:=1) ?hd (cs:= #[.slice aq aa.length ai, .slice aj ag.length ak]) (t:=32) ?hr ?_;(case hd=>rfl);(case hg=>rfl);(case hr=>first | (go_simp;done) | (go_simp;rfl));intro af hg w11 hbox hb;have ae:=q_ (hbox);have ay:=q_ ((by rw [hg];exact bz_:w.heap.size≤af));have az:=q_ ((by rw [hg];exact bz_:w.heap.size≤af));replace HB:=q_ (bs_ hb);clear hb hbox hg;have aM:w11.cell? ⟨af,0,none⟩=some (.slice aq aa.length ai):=(blk_cell ae.out 0).trans rfl;have aN:w11.cell? ⟨af,1,none⟩=some (.slice aj ag.length ak):=(blk_cell ae.out 1).trans rfl;have aQ:=blk_frozen ae.out 0;have aR:=blk_frozen ae.out 1) | ((with_reducible refine gate_callee (f:=18) rfl ?_);refine gL_ 9 Try.func18 #[.int .i64 (aa.length:Int), .int .i64 1, .int .i64 4] ?_;(with_reducible refine(impl_within.calls (aa.length:Int) 1 4 true _ A2.out).mono ?_);rintro e w' ⟨rfl,⟨nd,rfl⟩⟩;refine⟨_,rfl,?_⟩;have p249:0≤(0:Int):=(by omega);have q249:0 < (aa.length:Int):=od_;obtain⟨aA,aC,aD,e249,hx249_0,hl249_0,hi249_0⟩:=at_L1 HR0_0.out 0 p249 q249;cases e249;have qi249:(0 < aa.length)=True:=eq_true (by omega);(try rw [show ((0:Int)).toNat=0 from rfl] at hx249_0);(try rw [Addr.add_zero'] at hx249_0);replace hx249_0:=(HB.out.cell (World.block_lt_of_cell? w _ hx249_0)).trans hx249_0;have HR249_0:=q_ hi249_0;have HC249_0:=q_ hl249_0;clear hi249_0 hl249_0;replace p249:=eq_true p249;replace q249:=eq_true q249) | ((with_reducible refine gate_callee (f:=18) rfl ?_);refine gL_ 17 Try.func18 #[.int .i64 ((rd_L1 aa 0).length:Int), .int .i64 1, .int .i64 4] ?_;(with_reducible refine(impl_within.calls ((rd_L1 aa 0).length:Int) 1 4 true _ A5.out).mono ?_);rintro e w' ⟨rfl,⟨nd,rfl⟩⟩;refine⟨_,rfl,?_⟩) | (go_at_call 39;(with_reducible refine(impl_isTable.calls _ _ aa (aa.length:Int) ((rd_L1 aa 0).length:Int) true _ ?aw ?ax A8.out).mono ?_);(case aw=>repeat (first | exact(Kd.C_below HR0_0.out hb_) | (with_reducible refine Kd.C_alloc ?_ _) | (with_reducible refine Kd.C_drewN ?_ _) | (with_reducible refine Kd.C_drew ?_)));(case ax=>exact HC0_0.out);rintro e w13 ⟨rfl,hb⟩;replace ae:=q_ (bb_ ae.out hb);replace HB:=q_ (bs_ hb);(try clear hb);(try clear hb2);(try clear hk);(try clear hi);have aT:w13.cell? ⟨af,0,none⟩=some (.slice (some aA) aa.length ai):=(blk_cell ae.out 0).trans rfl;have aU:w13.cell? ⟨af,1,none⟩=some (.slice aj ag.length ak):=(blk_cell ae.out 1).trans rfl;have aV:=blk_frozen ae.out 0;have aW:=blk_frozen ae.out 1) | (go_at_call 39;(with_reducible refine(impl_isTable.calls _ _ ag (aa.length:Int) ((rd_L1 aa 0).length:Int) ah _ ?aw ?ax A10.out).mono ?_);(case aw=>exact cb_ HR0_1.out HB.out);(case ax=>exact HC0_1.out);rintro e w15 ⟨rfl,hb⟩;replace ae:=q_ (bb_ ae.out hb);replace HB:=q_ (bs_ hb);(try clear hb);(try clear hb2);(try clear hk);(try clear hi)))
      go_ret
      exact⟨by first | rfl | (simp [errW_none,errW_some] <;> rfl) | (simp [*,errW_none,errW_some] <;> rfl),hb_⟩
     ·replace c9:=Bool.eq_false_iff.mpr c9
      subst c9
      have H1:(some false)=some r:=by rw [if_neg (show ¬ (false=true) by decide)] at H;exact H
      clear H
      have H:=H1
      clear H1
      obtain rfl:=Option.some.inj H
      go_enter Try.func27,Try.ntmps27
      go_wp2_with (first | ((with_reducible refine gate_dst (N:=1) rfl ?_);refine box_event ?hg (N:=1) ?hd (cs:= #[.slice aq aa.length ai, .slice aj ag.length ak]) (t:=32) ?hr ?_;(case hd=>rfl);(case hg=>rfl);(case hr=>first | (go_simp;done) | (go_simp;rfl));intro af hg w16 hbox hb;have ae:=q_ (hbox);have ay:=q_ ((by rw [hg];exact bz_:w.heap.size≤af));have az:=q_ ((by rw [hg];exact bz_:w.heap.size≤af));replace HB:=q_ (bs_ hb);clear hb hbox hg;have aX:w16.cell? ⟨af,0,none⟩=some (.slice aq aa.length ai):=(blk_cell ae.out 0).trans rfl;have aY:w16.cell? ⟨af,1,none⟩=some (.slice aj ag.length ak):=(blk_cell ae.out 1).trans rfl;have aZ:=blk_frozen ae.out 0;have a9:=blk_frozen ae.out 1) | ((with_reducible refine gate_callee (f:=18) rfl ?_);refine gL_ 9 Try.func18 #[.int .i64 (aa.length:Int), .int .i64 1, .int .i64 4] ?_;(with_reducible refine(impl_within.calls (aa.length:Int) 1 4 true _ A2.out).mono ?_);rintro e w' ⟨rfl,⟨nd,rfl⟩⟩;refine⟨_,rfl,?_⟩;have p249:0≤(0:Int):=(by omega);have q249:0 < (aa.length:Int):=od_;obtain⟨aA,aC,aD,e249,hx249_0,hl249_0,hi249_0⟩:=at_L1 HR0_0.out 0 p249 q249;cases e249;have qi249:(0 < aa.length)=True:=eq_true (by omega);(try rw [show ((0:Int)).toNat=0 from rfl] at hx249_0);(try rw [Addr.add_zero'] at hx249_0);replace hx249_0:=(HB.out.cell (World.block_lt_of_cell? w _ hx249_0)).trans hx249_0;have HR249_0:=q_ hi249_0;have HC249_0:=q_ hl249_0;clear hi249_0 hl249_0;replace p249:=eq_true p249;replace q249:=eq_true q249) | ((with_reducible refine gate_callee (f:=18) rfl ?_);refine gL_ 17 Try.func18 #[.int .i64 ((rd_L1 aa 0).length:Int), .int .i64 1, .int .i64 4] ?_;(with_reducible refine(impl_within.calls ((rd_L1 aa 0).length:Int) 1 4 true _ A5.out).mono ?_);rintro e w' ⟨rfl,⟨nd,rfl⟩⟩;refine⟨_,rfl,?_⟩) | (go_at_call 39;(with_reducible refine(impl_isTable.calls _ _ aa (aa.length:Int) ((rd_L1 aa 0).length:Int) false _ ?aw ?ax A8.out).mono ?_);(case aw=>repeat (first | exact(Kd.C_below HR0_0.out hb_) | (with_reducible refine Kd.C_alloc ?_ _) | (with_reducible refine Kd.C_drewN ?_ _) | (with_reducible refine Kd.C_drew ?_)));(case ax=>exact HC0_0.out);rintro e w18 ⟨rfl,hb⟩;replace ae:=q_ (bb_ ae.out hb);replace HB:=q_ (bs_ hb);(try clear hb);(try clear hb2);(try clear hk);(try clear hi)))
      go_ret
      exact⟨by first | rfl | (simp [errW_none,errW_some] <;> rfl) | (simp [*,errW_none,errW_some] <;> rfl),hb_⟩
    ·rw [if_neg c7] at H
     have c7b0:decide ((wrap64 ((aa.length:Int)+((rd_L1 aa 0).length:Int)))≤5)=false:=decide_eq_false c7
     clear c7
     obtain rfl:=Option.some.inj H
     go_enter Try.func27,Try.ntmps27
     go_wp2_with (first | ((with_reducible refine gate_dst (N:=1) rfl ?_);refine box_event ?hg (N:=1) ?hd (cs:= #[.slice aq aa.length ai, .slice aj ag.length ak]) (t:=32) ?hr ?_;(case hd=>rfl);(case hg=>rfl);(case hr=>first | (go_simp;done) | (go_simp;rfl));intro af hg w19 hbox hb;have ae:=q_ (hbox);have ay:=q_ ((by rw [hg];exact bz_:w.heap.size≤af));have az:=q_ ((by rw [hg];exact bz_:w.heap.size≤af));replace HB:=q_ (bs_ hb);clear hb hbox hg;have ba:w19.cell? ⟨af,0,none⟩=some (.slice aq aa.length ai):=(blk_cell ae.out 0).trans rfl;have bb:w19.cell? ⟨af,1,none⟩=some (.slice aj ag.length ak):=(blk_cell ae.out 1).trans rfl;have bf:=blk_frozen ae.out 0;have bg:=blk_frozen ae.out 1) | ((with_reducible refine gate_callee (f:=18) rfl ?_);refine gL_ 9 Try.func18 #[.int .i64 (aa.length:Int), .int .i64 1, .int .i64 4] ?_;(with_reducible refine(impl_within.calls (aa.length:Int) 1 4 true _ A2.out).mono ?_);rintro e w' ⟨rfl,⟨nd,rfl⟩⟩;refine⟨_,rfl,?_⟩;have p249:0≤(0:Int):=(by omega);have q249:0 < (aa.length:Int):=od_;obtain⟨aA,aC,aD,e249,hx249_0,hl249_0,hi249_0⟩:=at_L1 HR0_0.out 0 p249 q249;cases e249;have qi249:(0 < aa.length)=True:=eq_true (by omega);(try rw [show ((0:Int)).toNat=0 from rfl] at hx249_0);(try rw [Addr.add_zero'] at hx249_0);replace hx249_0:=(HB.out.cell (World.block_lt_of_cell? w _ hx249_0)).trans hx249_0;have HR249_0:=q_ hi249_0;have HC249_0:=q_ hl249_0;clear hi249_0 hl249_0;replace p249:=eq_true p249;replace q249:=eq_true q249) | ((with_reducible refine gate_callee (f:=18) rfl ?_);refine gL_ 17 Try.func18 #[.int .i64 ((rd_L1 aa 0).length:Int), .int .i64 1, .int .i64 4] ?_;(with_reducible refine(impl_within.calls ((rd_L1 aa 0).length:Int) 1 4 true _ A5.out).mono ?_);rintro e w' ⟨rfl,⟨nd,rfl⟩⟩;refine⟨_,rfl,?_⟩))
     go_ret
     exact⟨by first | rfl | (simp [errW_none,errW_some] <;> rfl) | (simp [*,errW_none,errW_some] <;> rfl),hb_⟩
   ·replace c6:=Bool.eq_false_iff.mpr c6
    subst c6
    have H1:(some false)=some r:=by rw [if_neg (show ¬ (false=true) by decide)] at H;exact H
    clear H
    have H:=H1
    clear H1
    obtain rfl:=Option.some.inj H
    go_enter Try.func27,Try.ntmps27
    go_wp2_with (first | ((with_reducible refine gate_dst (N:=1) rfl ?_);refine box_event ?hg (N:=1) ?hd (cs:= #[.slice aq aa.length ai, .slice aj ag.length ak]) (t:=32) ?hr ?_;(case hd=>rfl);(case hg=>rfl);(case hr=>first | (go_simp;done) | (go_simp;rfl));intro af hg w21 hbox hb;have ae:=q_ (hbox);have ay:=q_ ((by rw [hg];exact bz_:w.heap.size≤af));have az:=q_ ((by rw [hg];exact bz_:w.heap.size≤af));replace HB:=q_ (bs_ hb);clear hb hbox hg;have bh:w21.cell? ⟨af,0,none⟩=some (.slice aq aa.length ai):=(blk_cell ae.out 0).trans rfl;have bk:w21.cell? ⟨af,1,none⟩=some (.slice aj ag.length ak):=(blk_cell ae.out 1).trans rfl;have bn:=blk_frozen ae.out 0;have bq:=blk_frozen ae.out 1) | ((with_reducible refine gate_callee (f:=18) rfl ?_);refine gL_ 9 Try.func18 #[.int .i64 (aa.length:Int), .int .i64 1, .int .i64 4] ?_;(with_reducible refine(impl_within.calls (aa.length:Int) 1 4 true _ A2.out).mono ?_);rintro e w' ⟨rfl,⟨nd,rfl⟩⟩;refine⟨_,rfl,?_⟩;have p249:0≤(0:Int):=(by omega);have q249:0 < (aa.length:Int):=od_;obtain⟨aA,aC,aD,e249,hx249_0,hl249_0,hi249_0⟩:=at_L1 HR0_0.out 0 p249 q249;cases e249;have qi249:(0 < aa.length)=True:=eq_true (by omega);(try rw [show ((0:Int)).toNat=0 from rfl] at hx249_0);(try rw [Addr.add_zero'] at hx249_0);replace hx249_0:=(HB.out.cell (World.block_lt_of_cell? w _ hx249_0)).trans hx249_0;have HR249_0:=q_ hi249_0;have HC249_0:=q_ hl249_0;clear hi249_0 hl249_0;replace p249:=eq_true p249;replace q249:=eq_true q249) | ((with_reducible refine gate_callee (f:=18) rfl ?_);refine gL_ 17 Try.func18 #[.int .i64 ((rd_L1 aa 0).length:Int), .int .i64 1, .int .i64 4] ?_;(with_reducible refine(impl_within.calls ((rd_L1 aa 0).length:Int) 1 4 false _ A5.out).mono ?_);rintro e w' ⟨rfl,⟨nd,rfl⟩⟩;refine⟨_,rfl,?_⟩))
    go_ret
    exact⟨by first | rfl | (simp [errW_none,errW_some] <;> rfl) | (simp [*,errW_none,errW_some] <;> rfl),hb_⟩
  ·rw [if_neg c4] at H
   exact absurd H (by simp)
 ·replace c3:=Bool.eq_false_iff.mpr c3
  subst c3
  have H1:(some false)=some r:=by rw [if_neg (show ¬ (false=true) by decide)] at H;exact H
  clear H
  have H:=H1
  clear H1
  obtain rfl:=Option.some.inj H
  go_enter Try.func27,Try.ntmps27
  go_wp2_with (first | ((with_reducible refine gate_dst (N:=1) rfl ?_);refine box_event ?hg (N:=1) ?hd (cs:= #[.slice aq aa.length ai, .slice aj ag.length ak]) (t:=32) ?hr ?_;(case hd=>rfl);(case hg=>rfl);(case hr=>first | (go_simp;done) | (go_simp;rfl));intro af hg w23 hbox hb;have ae:=q_ (hbox);have ay:=q_ ((by rw [hg];exact bz_:w.heap.size≤af));have az:=q_ ((by rw [hg];exact bz_:w.heap.size≤af));replace HB:=q_ (bs_ hb);clear hb hbox hg;have bu:w23.cell? ⟨af,0,none⟩=some (.slice aq aa.length ai):=(blk_cell ae.out 0).trans rfl;have bv:w23.cell? ⟨af,1,none⟩=some (.slice aj ag.length ak):=(blk_cell ae.out 1).trans rfl;have bw:=blk_frozen ae.out 0;have bz:=blk_frozen ae.out 1) | ((with_reducible refine gate_callee (f:=18) rfl ?_);refine gL_ 9 Try.func18 #[.int .i64 (aa.length:Int), .int .i64 1, .int .i64 4] ?_;(with_reducible refine(impl_within.calls (aa.length:Int) 1 4 false _ A2.out).mono ?_);rintro e w' ⟨rfl,⟨nd,rfl⟩⟩;refine⟨_,rfl,?_⟩))
  go_ret
  exact⟨by first | rfl | (simp [errW_none,errW_some] <;> rfl) | (simp [*,errW_none,errW_some] <;> rfl),hb_⟩
def impl_Game_sizes.f (aa:List (List Int)) (ae:List (List Int)):Option (Int × Int):=if 0 < (aa.length:Int) then(some ((aa.length:Int),((rd_L1 aa 0).length:Int))) else(none)
theorem impl_Game_sizes.calls (ah:Option Addr) (ai:Nat) (aa:List (List Int)) (aj:Option Addr) (ak:Nat) (ag:List (List Int)) (r1:Int) (r2:Int) (w:World) (az:Kd.C (Kd.slice 2 (Kd.int .i64)) w ah aa.length aa) (aA:aa.length≤ai) (aC:Kd.C (Kd.slice 2 (Kd.int .i64)) w aj ag.length ag) (aD:ag.length≤ak) (h:impl_Game_sizes.f aa ag=some (r1,r2)):
  Calls Try.prog 28 #[.agg #[.slice ah aa.length ai, .slice aj ag.length ak]] w fun e w'=>e= .returned (.tuple #[.int .i64 r1, .int .i64 r2])∧Below w.heap.size w w':=by
 have hu32:=Try.underlying32
 have HR0_0:=q_ az
 have HC0_0:=q_ aA
 clear az aA
 have HR0_1:=q_ aC
 have HC0_1:=q_ aD
 clear aC aD
 have HB:=q_ (Below.refl w.heap.size w)
 have H:(if 0 < (aa.length:Int) then(some ((aa.length:Int),((rd_L1 aa 0).length:Int))) else(none))=some (r1,r2):=h
 clear h
 by_cases c2:0 < (aa.length:Int)
 ·rw [if_pos c2] at H
  have c2b0:decide (0 < (aa.length:Int))=true:=decide_eq_true c2
  have c2b1:decide (0 < aa.length)=true:=decide_eq_true (by omega)
  clear c2
  simp only [Option.some.injEq,Prod.mk.injEq] at H
  obtain⟨rfl,rfl⟩:=H
  go_enter Try.func28,Try.ntmps28
  go_wp2_with (first | ((with_reducible refine gate_dst (N:=1) rfl ?_);refine box_event ?hg (N:=1) ?hd (cs:= #[.slice ah aa.length ai, .slice aj ag.length ak]) (t:=32) ?hr ?_;(case hd=>rfl);(case hg=>rfl);(case hr=>first | (go_simp;done) | (go_simp;rfl));intro ae hg w3 hbox hb;have af:=q_ (hbox);have aG:=q_ ((by rw [hg];exact bz_:w.heap.size≤ae));have aH:=q_ ((by rw [hg];exact bz_:w.heap.size≤ae));replace HB:=q_ (bs_ hb);clear hb hbox hg;have aq:w3.cell? ⟨ae,0,none⟩=some (.slice ah aa.length ai):=(blk_cell af.out 0).trans rfl;have au:w3.cell? ⟨ae,1,none⟩=some (.slice aj ag.length ak):=(blk_cell af.out 1).trans rfl;have av:=blk_frozen af.out 0;have aw:=blk_frozen af.out 1;have p254:0≤(0:Int):=(by omega);have q254:0 < (aa.length:Int):=od_;obtain⟨aI,ax,ay,e254,hx254_0,hl254_0,hi254_0⟩:=at_L1 HR0_0.out 0 p254 q254;cases e254;have qi254:(0 < aa.length)=True:=eq_true (by omega);(try rw [show ((0:Int)).toNat=0 from rfl] at hx254_0);(try rw [Addr.add_zero'] at hx254_0);replace hx254_0:=(HB.out.cell (World.block_lt_of_cell? w _ hx254_0)).trans hx254_0;have HR254_0:=q_ hi254_0;have HC254_0:=q_ hl254_0;clear hi254_0 hl254_0;replace p254:=eq_true p254;replace q254:=eq_true q254))
  repeat (go_quiet (first | ((with_reducible refine gate_dst (N:=1) rfl ?_);refine box_event ?hg (N:=1) ?hd (cs:= #[.slice ah aa.length ai, .slice aj ag.length ak]) (t:=32) ?hr ?_;(case hd=>rfl);(case hg=>rfl);(case hr=>first | (go_simp;done) | (go_simp;rfl));intro ae hg w3 hbox hb;have af:=q_ (hbox);have aG:=q_ ((by rw [hg];exact bz_:w.heap.size≤ae));have aH:=q_ ((by rw [hg];exact bz_:w.heap.size≤ae));replace HB:=q_ (bs_ hb);clear hb hbox hg;have aq:w3.cell? ⟨ae,0,none⟩=some (.slice ah aa.length ai):=(blk_cell af.out 0).trans rfl;have au:w3.cell? ⟨ae,1,none⟩=some (.slice aj ag.length ak):=(blk_cell af.out 1).trans rfl;have av:=blk_frozen af.out 0;have aw:=blk_frozen af.out 1;have p254:0≤(0:Int):=(by omega);have q254:0 < (aa.length:Int):=od_;obtain⟨aI,ax,ay,e254,hx254_0,hl254_0,hi254_0⟩:=at_L1 HR0_0.out 0 p254 q254;cases e254;have qi254:(0 < aa.length)=True:=eq_true (by omega);(try rw [show ((0:Int)).toNat=0 from rfl] at hx254_0);(try rw [Addr.add_zero'] at hx254_0);replace hx254_0:=(HB.out.cell (World.block_lt_of_cell? w _ hx254_0)).trans hx254_0;have HR254_0:=q_ hi254_0;have HC254_0:=q_ hl254_0;clear hi254_0 hl254_0;replace p254:=eq_true p254;replace q254:=eq_true q254));try go_wp2_with (first | ((with_reducible refine gate_dst (N:=1) rfl ?_);refine box_event ?hg (N:=1) ?hd (cs:= #[.slice ah aa.length ai, .slice aj ag.length ak]) (t:=32) ?hr ?_;(case hd=>rfl);(case hg=>rfl);(case hr=>first | (go_simp;done) | (go_simp;rfl));intro ae hg w3 hbox hb;have af:=q_ (hbox);have aG:=q_ ((by rw [hg];exact bz_:w.heap.size≤ae));have aH:=q_ ((by rw [hg];exact bz_:w.heap.size≤ae));replace HB:=q_ (bs_ hb);clear hb hbox hg;have aq:w3.cell? ⟨ae,0,none⟩=some (.slice ah aa.length ai):=(blk_cell af.out 0).trans rfl;have au:w3.cell? ⟨ae,1,none⟩=some (.slice aj ag.length ak):=(blk_cell af.out 1).trans rfl;have av:=blk_frozen af.out 0;have aw:=blk_frozen af.out 1;have p254:0≤(0:Int):=(by omega);have q254:0 < (aa.length:Int):=od_;obtain⟨aI,ax,ay,e254,hx254_0,hl254_0,hi254_0⟩:=at_L1 HR0_0.out 0 p254 q254;cases e254;have qi254:(0 < aa.length)=True:=eq_true (by omega);(try rw [show ((0:Int)).toNat=0 from rfl] at hx254_0);(try rw [Addr.add_zero'] at hx254_0);replace hx254_0:=(HB.out.cell (World.block_lt_of_cell? w _ hx254_0)).trans hx254_0;have HR254_0:=q_ hi254_0;have HC254_0:=q_ hl254_0;clear hi254_0 hl254_0;replace p254:=eq_true p254;replace q254:=eq_true q254)))
  go_ret2
  exact⟨by first | rfl | (simp [errW_none,errW_some] <;> rfl) | (simp [*,errW_none,errW_some] <;> rfl),hb_⟩
 ·rw [if_neg c2] at H
  exact absurd H (by simp)
def impl_numbersTo.l0:Nat→List Int→Int→Int→Option (List Int)
 | 0,_,_,_=>none
 | k+1,x3,x5,x6=>if x6 < x5 then(if x3.length < 17592186044416 then(impl_numbersTo.l0 k (x3++ [x6]) x5 (wrap64 (x6+1))) else(none)) else(some x3)
def impl_numbersTo.f (k:Nat) (a0:Int):Option (List Int):=impl_numbersTo.l0 k ([]:List Int) a0 0
theorem impl_numbersTo.mono_l: ∀k,(∀y0 y1 y2,LeO (impl_numbersTo.l0 k y0 y1 y2) (impl_numbersTo.l0 (k+1) y0 y1 y2))
 | 0=>fun _ _ _ r h=>by simp [impl_numbersTo.l0] at h
 | k+1=>by
  have ih0:=impl_numbersTo.mono_l k
  ·intro y0 y1 y2
   unfold impl_numbersTo.l0
   repeat' first
   | (with_reducible exact ih0 _ _ _)
   | (with_reducible exact LeO.refl _)
   | (with_reducible exact LeO.none _)
   | (with_reducible refine LeO.ite ?_ ?_)
   | (with_reducible refine LeO.bind ?_ (fun _=>?_))
   | exact ih0 _ _ _
   | exact LeO.none _
   | refine LeO.ite ?_ ?_
   | refine LeO.bind ?_ (fun _=>?_)
theorem impl_numbersTo.mono: ∀a0 k,LeO (impl_numbersTo.f k a0) (impl_numbersTo.f (k+1) a0):=by
 intro a0 k
 have ih0:=impl_numbersTo.mono_l k
 unfold impl_numbersTo.f
 repeat' first
   | (with_reducible exact ih0 _ _ _)
   | (with_reducible exact LeO.refl _)
   | (with_reducible exact LeO.none _)
   | (with_reducible refine LeO.ite ?_ ?_)
   | (with_reducible refine LeO.bind ?_ (fun _=>?_))
   | exact ih0 _ _ _
   | exact LeO.none _
   | refine LeO.ite ?_ ?_
   | refine LeO.bind ?_ (fun _=>?_)
theorem impl_numbersTo.calls (k:Nat) (a0:Int) (r:List Int) (w:World) (h:impl_numbersTo.f k a0=some r):
  Calls Try.prog 29 #[.int .i64 a0] w fun e w'=> ∃v0_:Value,e= .returned (v0_)∧Kd.R (Kd.int .i64) 2 w' w.heap.size (fun _=>True) v0_ r∧Below w.heap.size w w':=by
 have HB:=q_ (Below.refl w.heap.size w)
 have H:(impl_numbersTo.l0 k ([]:List Int) a0 0)=some r:=h
 clear h
 have H':=q_ H
 clear H
 go_enter Try.func29,Try.ntmps29
 go_wp2
 go_loopg [3,6] k (fun kq v3 v6 w'=> ∃(ae:List Int) (aa:Int),v6= .int .i64 aa∧Aside0 (impl_numbersTo.l0 kq ae a0 aa=some r)∧Aside0 (kq≤k)∧Aside0 (Kd.R (Kd.int .i64) 2 w' w.heap.size (fun _=>True) v3 ae)∧Aside0 (Below w.heap.size w w'))
 case atStart=>exact⟨(([]:List Int)),(0),rs_,H',⟨Nat.le_refl _⟩,⟨by first | exact Kd.R_nil _ _ _ _ _ | exact Kd.N_nil _ _ _ _ _ | exact Kd.V_nil _ _ _ _ _ | exact Kd.Q_nil _ _ _ _ _ | exact Kd.S_nil _ _ _ _ _⟩,⟨hb_⟩⟩
 case round=>
  clear H'
  obtain⟨ae,aa,rfl,HA,HK1,af,HB⟩:=hrel
  cases gk with
  | zero=>exact absurd HA.out (by simp [impl_numbersTo.l0])
  | succ k1=>
   have H:=HA.out
   clear HA
   simp only [impl_numbersTo.l0] at H
   by_cases c2:aa < a0
   ·rw [if_pos c2] at H
    have c2b0:decide (aa < a0)=true:=decide_eq_true c2
    clear c2
    by_cases c3:ae.length < 17592186044416
    ·rw [if_pos c3] at H
     have aj:=q_ c3
     clear c3
     obtain⟨ag,hy255⟩: ∃y_:List Int,y_=(ae++ [aa]):=⟨_,rfl⟩
     replace H:(impl_numbersTo.l0 k1 ag a0 (wrap64 (aa+1)))=some r:=by first | (rw [hy255];with_reducible exact H) | (have H2_:=(Option.bind_some _ _).symm.trans H;rw [hy255];with_reducible exact H2_) | (have H2_:=(Option.bind_some _ _).symm.trans H;with_reducible exact H2_) | with_reducible exact H | (rw [hy255];exact H) | exact H
     have ah:=q_ hy255
     clear hy255
     have H':=q_ H
     clear H
     go_wp2_with (first | ((with_reducible refine gate_builtin (b:= .append) (xs:= #[.tmp 9, .tmp 11]) rfl ?_);at_builtin;refine Kd.R_append (Kd.int .i64) (w0:=w) w.heap.size rfl (.tmp 9) (.tmp 11) 29 2 (.int .i64 0) 8 rfl Try.underlying29 info2 rfl (by decide) (by omega) u3 ae aa [.int .i64 aa] (fun _=>True) (fun _=>False) rfl rfl ?aP (fun _ hk=>hk.elim) ?aF ?aO ?aB ?aS ?aL ?_;(case aP=>exact rfl);(case aB=>exact hb_);(case aF=>exact(fun _ _=>trivial));(case aO=>exact(ro_ af.out));(case aS=>exact bz_);(case aL=>have:=aj.out;omega);intro ak w4 ho hb hg hat;rw [← ah.out] at ho;replace HB:=q_ (hb);have ai:=q_ (ho);clear af ho hb hg hat))
     go_roundg k1
     case measure=>have:=HK1.out;omega
     case rel=>exact⟨(ag),(wrap64 (aa+1)),rs_,H',⟨by have:=HK1.out;omega⟩,⟨ro_ ai.out⟩,⟨hb_⟩⟩
    ·rw [if_neg c3] at H
     exact absurd H (by simp)
   ·rw [if_neg c2] at H
    have c2b0:decide (aa < a0)=false:=decide_eq_false c2
    clear c2
    obtain rfl:=Option.some.inj H
    go_wp2
    go_ret
    exact⟨_,by first | rfl | (simp [errW_none,errW_some] <;> rfl) | (simp [*,errW_none,errW_some] <;> rfl),ro_ af.out,hb_⟩
end Go.Proofs.Ytmcddlpgffbmpaa.Pr
end
section
namespace Go.Proofs.Ytmcddlpgffbmpaa.Gm
open Go.RowKit Go.Proofs.YtmcddlpgffbmpaaW.PrintWords Go.Proofs.YtmcddlpgffbmpaaW.PrintMore Go.Proofs.Ytmcddlpgffbmpaa.Ma Go.Proofs.Ytmcddlpgffbmpaa.Pr Go.Proofs.Ytmcddlpgffbmpaa.La
theorem sin_eq (x a b:Int):spec_l01In.f x a b=some (decide (a≤x∧x≤b)):=by
 unfold spec_l01In.f
 by_cases h:a≤x
 ·rw [if_pos (by omega)];simp [h]
 ·rw [if_neg (by omega)];simp [h]
theorem iin_eq (x a b:Int):impl_within.f x a b=some (decide (a≤x∧x≤b)):=by
 unfold impl_within.f
 by_cases h:a≤x
 ·rw [if_pos (by omega)];simp [h]
 ·rw [if_neg (by omega)];simp [h]
theorem head_step {P:Nat→Prop} {i d:Nat} (h:i < d):(∀j,i≤j→j < d→P j)↔P i∧ ∀j,i+1≤j→j < d→P j:=
 ⟨fun f=>⟨f i (Nat.le_refl _) h,fun j h1 h2=>f j (by omega) h2⟩,fun⟨a,f⟩ j h1 h2=>by
  by_cases e:i=j
  ·subst e;exact a
  ·exact f j (by omega) h2⟩
theorem no_iff {b:Bool} {p:Prop} (h:b=true↔p) (hp: ¬ p):b=false:=by
 cases b
 ·rfl
 ·exact absurd (h.1 rfl) hp
def rw_ (a:List (List Int)) (i:Nat):List Int:=a.getD i []
def ent (a:List (List Int)) (i j:Nat):Int:=(rw_ a i).getD j 0
theorem rw_eq (a:List (List Int)) (i:Nat):rd_L1 a (i:Int)=rw_ a i:=rdL a i
theorem rw_at {a:List (List Int)} {i:Nat} (h:i < a.length):rw_ a i=a[i]:=by simp [rw_,h]
def E20 (n:Int):Prop:=1≤n∧n≤20
def RowOK (a b:List (List Int)) (l i:Nat):Prop:=(rw_ a i).length=l∧(rw_ b i).length=l∧ ∀j,0≤j→j < l→E20 (ent a i j)∧E20 (ent b i j)
structure GameOK (a b:List (List Int)):Prop where
 k1:1≤a.length
 k4:a.length≤4
 same:b.length=a.length
 l1:1≤(rw_ a 0).length
 l4:(rw_ a 0).length≤4
 sum:a.length+(rw_ a 0).length≤5
 rows: ∀i,0≤i→i < a.length→RowOK a b (rw_ a 0).length i
section
variable {a b:List (List Int)} {l:Nat} (hk:a.length≤4) (hl:l≤4) (hs:b.length=a.length)
include hk hl hs
theorem spec_row (i:Nat) (hi:i < a.length) (e1:(rw_ a i).length=l) (e2:(rw_ b i).length=l)
  (next: ∀t,(t=true↔ ∀u,i+1≤u→u < a.length→RowOK a b l u)→Ev (fun k=>spec_l07Is.l0 k (a.length:Int) l ((i+1:Nat):Int) a b) t):
  ∀m j,j+m=l→ ∀t,(t=true↔(∀c,j≤c→c < l→E20 (ent a i c)∧E20 (ent b i c))∧ ∀u,i+1≤u→u < a.length→RowOK a b l u)→Ev (fun k=>spec_l07Is.l1 k (a.length:Int) l i j a b) t:=by
 intro m
 induction m with
 | zero=>
  intro j hj t ht
  refine evstep (fun k=>by rw [spec_l07Is.l1]) (evneg (by omega) ?_)
  rw [w64 (by omega) (by omega)]
  exact next t (ht.trans ⟨fun h=>h.2,fun h=>⟨fun c h1 h2=>by omega,h⟩⟩)
 | succ m ih=>
  intro j hj t ht
  have hjl:j < l:=by omega
  rw [head_step (P:=fun c=>E20 (ent a i c)∧E20 (ent b i c)) hjl,and_assoc,and_assoc] at ht
  refine evstep (fun k=>by rw [spec_l07Is.l1]) (evpos (by omega) (evpos (by omega) (evpos (by omega) (evpos (by omega) ?_))))
  rw [rw_eq,rw_eq,rd_nat,rd_nat]
  refine evpos (by omega) (evsome (sin_eq _ _ _) ?_)
  by_cases c1:E20 (ent a i j)
  ·refine evpos (decide_eq_true (show 1≤ent a i j∧ent a i j≤20 from c1)) (evpos (by omega) (evpos (by omega) (evsome (sin_eq _ _ _) ?_)))
   by_cases c2:E20 (ent b i j)
   ·refine evpos (decide_eq_true (show 1≤ent b i j∧ent b i j≤20 from c2)) ?_
    rw [w64 (by omega) (by omega)]
    exact ih (j+1) (by omega) t (ht.trans ⟨fun h=>h.2.2,fun h=>⟨c1,c2,h⟩⟩)
   ·refine evneg (fun h=>c2 (of_decide_eq_true (p:=1≤ent b i j∧ent b i j≤20) h)) ?_
    rw [no_iff ht (fun h=>c2 h.2.1)]
    exact evc rfl
  ·refine evneg (fun h=>c1 (of_decide_eq_true (p:=1≤ent a i j∧ent a i j≤20) h)) ?_
   rw [no_iff ht (fun h=>c1 h.1)]
   exact evc rfl
theorem spec_rows: ∀m i,i+m=a.length→ ∀t,(t=true↔ ∀u,i≤u→u < a.length→RowOK a b l u)→Ev (fun k=>spec_l07Is.l0 k (a.length:Int) l i a b) t:=by
 intro m
 induction m with
 | zero=>
  intro i hi t ht
  refine evstep (fun k=>by rw [spec_l07Is.l0]) (evneg (by omega) ?_)
  rw [ht.2 (fun u h1 h2=>by omega)]
  exact evc rfl
 | succ m ih=>
  intro i hi t ht
  have hlt:i < a.length:=by omega
  rw [head_step (P:=fun u=>RowOK a b l u) hlt] at ht
  refine evstep (fun k=>by rw [spec_l07Is.l0]) (evpos (by omega) (evpos (by omega) (evpos (by omega) ?_)))
  rw [rw_eq,rw_eq]
  by_cases c1:(rw_ a i).length=l
  ·refine evpos (by omega) (evpos (by omega) (evstep (fun k=>by rw [spec_l07Is.j3]) ?_))
   by_cases c2:(rw_ b i).length=l
   ·refine evneg (by simp [c2]) ?_
    exact spec_row hk hl hs i hlt c1 c2 (ih (i+1) (by omega)) l 0 (by omega) t (ht.trans ⟨fun h=>⟨h.1.2.2,h.2⟩,fun h=>⟨⟨c1,c2,h.1⟩,h.2⟩⟩)
   ·refine evpos (by simp;omega) ?_
    rw [no_iff ht (fun h=>c2 h.1.2.1)]
    exact evc rfl
  ·refine evneg (by omega) (evstep (fun k=>by rw [spec_l07Is.j3]) (evpos rfl ?_))
   rw [no_iff ht (fun h=>c1 h.1.1)]
   exact evc rfl
end
theorem spec_is (a b:List (List Int)) (ha:a.length≤1048576) (hr: ∀x ∈ a,x.length≤1048576) (t:Bool) (ht:t=true↔GameOK a b):Ev (fun k=>spec_l07Is.f k a b) t:=by
 unfold spec_l07Is.f
 by_cases c1:(a.length:Int) < 1
 ·refine evpos c1 (evstep (fun k=>by rw [spec_l07Is.j0]) (evpos rfl ?_))
  rw [no_iff ht (fun h=>by have:=h.k1;omega)]
  exact evc rfl
 ·refine evneg c1 ?_
  by_cases c2:(a.length:Int) > 4
  ·refine evpos c2 (evstep (fun k=>by rw [spec_l07Is.j0]) (evpos rfl ?_))
   rw [no_iff ht (fun h=>by have:=h.k4;omega)]
   exact evc rfl
  ·refine evneg c2 (evstep (fun k=>by rw [spec_l07Is.j0]) ?_)
   by_cases c3:b.length=a.length
   ·refine evneg (by simp [c3]) (evpos (by omega) ?_)
    have e0:rd_L1 a 0=rw_ a 0:=rw_eq a 0
    have h0:(rw_ a 0).length≤1048576:=by rw [rw_at (by omega)];exact hr _ (List.getElem_mem (by omega))
    rw [e0]
    by_cases c4:((rw_ a 0).length:Int) < 1
    ·refine evpos c4 (evstep (fun k=>by rw [spec_l07Is.j1]) (evpos rfl ?_))
     rw [no_iff ht (fun h=>by have:=h.l1;omega)]
     exact evc rfl
    ·refine evneg c4 ?_
     by_cases c5:((rw_ a 0).length:Int) > 4
     ·refine evpos c5 (evstep (fun k=>by rw [spec_l07Is.j1]) (evpos rfl ?_))
      rw [no_iff ht (fun h=>by have:=h.l4;omega)]
      exact evc rfl
     ·refine evneg c5 (evstep (fun k=>by rw [spec_l07Is.j1]) ?_)
      rw [w64 (by omega) (by omega)]
      by_cases c6:(a.length:Int)+((rw_ a 0).length:Int) > 5
      ·refine evpos (decide_eq_true c6) ?_
       rw [no_iff ht (fun h=>by have:=h.sum;omega)]
       exact evc rfl
      ·refine evneg (by simpa using c6) ?_
       exact spec_rows (l:=(rw_ a 0).length) (by omega) (by omega) c3 a.length 0 (by omega) t (ht.trans ⟨fun h=>h.rows,fun h=>⟨by omega,by omega,c3,by omega,by omega,by omega,h⟩⟩)
   ·refine evpos (by simp;omega) ?_
    rw [no_iff ht (fun h=>c3 h.same)]
    exact evc rfl
theorem badE_iff (n:Int):badE n=false↔E20 n:=by unfold badE E20;simp
theorem any_false {α:Type} (p:α→Bool) (l:List α):l.any p=false↔ ∀i (h:i < l.length),p l[i]=false:=by
 rw [List.any_eq_false]
 constructor
 ·intro h i hi
  have:=h l[i] (List.getElem_mem hi)
  simpa using this
 ·intro h x hx
  obtain⟨i,hi,rfl⟩:=List.getElem_of_mem hx
  simp [h i hi]
theorem badR_iff (k:Nat) (row:List Int):badR (k:Int) row=false↔row.length=k∧ ∀j,0≤j→j < k→E20 (row.getD j 0):=by
 unfold badR
 rw [Bool.or_eq_false_iff,any_false]
 constructor
 ·rintro ⟨h1,h2⟩
  have e:row.length=k:=by simp at h1;omega
  exact⟨e,fun j _ hj=>by have:=(badE_iff _).1 (h2 j (by omega));simpa [show j < row.length from by omega] using this⟩
 ·rintro ⟨h1,h2⟩
  exact⟨by simp [h1],fun i hi=>(badE_iff _).2 (by have:=h2 i (Nat.zero_le _) (by omega);simpa [hi] using this)⟩
theorem table_f (a:List (List Int)) (k l:Nat): ∃t,impl_isTable.f a k l=some t∧(t=true↔a.length=k∧ ∀i,0≤i→i < a.length→(rw_ a i).length=l∧ ∀j,0≤j→j < l→E20 (ent a i j)):=by
 refine⟨_,rfl,?_⟩
 rw [Bool.and_eq_true,Bool.not_eq_true',any_false]
 constructor
 ·rintro ⟨h1,h2⟩
  refine⟨by simp at h1;omega,fun i _ hi=>?_⟩
  have:=(badR_iff l a[i]).1 (h2 i hi)
  rw [← rw_at hi] at this
  exact this
 ·rintro ⟨h1,h2⟩
  refine⟨by simp [h1],fun i hi=>(badR_iff l a[i]).2 ?_⟩
  have:=h2 i (Nat.zero_le _) hi
  rw [← rw_at hi]
  exact this
theorem impl_is (a b:List (List Int)) (ha:a.length≤1048576) (hr: ∀x ∈ a,x.length≤1048576) (t:Bool) (ht:t=true↔GameOK a b):impl_IsGame.f a b=some t:=by
 unfold impl_IsGame.f
 rw [iin_eq,Option.bind_some]
 by_cases c1:1≤(a.length:Int)∧(a.length:Int)≤4
 ·have e0:rd_L1 a 0=rw_ a 0:=rw_eq a 0
  have h0:(rw_ a 0).length≤1048576:=by rw [rw_at (by omega)];exact hr _ (List.getElem_mem (by omega))
  rw [if_pos (decide_eq_true c1),if_pos (by omega),e0,iin_eq,Option.bind_some,w64 (by omega) (by omega)]
  by_cases c2:1≤((rw_ a 0).length:Int)∧((rw_ a 0).length:Int)≤4
  ·rw [if_pos (decide_eq_true c2)]
   by_cases c3:(a.length:Int)+((rw_ a 0).length:Int)≤5
   ·rw [if_pos c3]
    obtain⟨t1,h1,i1⟩:=table_f a a.length (rw_ a 0).length
    obtain⟨t2,h2,i2⟩:=table_f b a.length (rw_ a 0).length
    rw [h1,Option.bind_some,h2]
    have key:GameOK a b↔t1=true∧t2=true:=by
     rw [i1,i2]
     constructor
     ·intro h
      exact⟨⟨rfl,fun i z hi=>⟨(h.rows i z hi).1,fun j z2 hj=>((h.rows i z hi).2.2 j z2 hj).1⟩⟩,h.same,fun i z hi=>⟨(h.rows i z (by have:=h.same;omega)).2.1,fun j z2 hj=>((h.rows i z (by have:=h.same;omega)).2.2 j z2 hj).2⟩⟩
     ·rintro ⟨⟨_,ha'⟩,hs,hb'⟩
      exact⟨by omega,by omega,hs,by omega,by omega,by omega,fun i z hi=>⟨(ha' i z hi).1,(hb' i z (by omega)).1,fun j z2 hj=>⟨(ha' i z hi).2 j z2 hj,(hb' i z (by omega)).2 j z2 hj⟩⟩⟩
    rw [key] at ht
    cases t1
    ·rw [no_iff ht (fun h=>by cases h.1)];rfl
    ·cases t2
     ·rw [no_iff ht (fun h=>by cases h.2)];rfl
     ·rw [ht.2 ⟨rfl,rfl⟩];rfl
   ·rw [if_neg c3,no_iff ht (fun h=>c3 (by have:=h.sum;omega))]
  ·rw [if_neg (by simpa using c2),no_iff ht (fun h=>c2 (by have:=h.l1;have:=h.l4;omega))]
 ·rw [if_neg (by simpa using c1),no_iff ht (fun h=>c1 (by have:=h.k1;have:=h.k4;omega))]
end Go.Proofs.Ytmcddlpgffbmpaa.Gm
end
section
namespace Go.Proofs.Ytmcddlpgffbmpaa.Pr
open Go.RowKit Go.Proofs.YtmcddlpgffbmpaaW.PrintWords Go.Proofs.YtmcddlpgffbmpaaW.PrintLast Go.Proofs.YtmcddlpgffbmpaaW.PrintMore Go.Proofs.Ytmcddlpgffbmpaa.Ma Go.Proofs.Ytmcddlpgffbmpaa.Gm
def numL (n:Nat):List Int:=(List.range n).map (fun(i:Nat)=>(i:Int))
theorem numL_len (n:Nat):(numL n).length=n:=by simp [numL]
theorem numL_mem {n:Nat} {x:Int} (h:x ∈ numL n):0≤x∧x < n:=by
 unfold numL at h
 obtain⟨i,hi,rfl⟩:=List.mem_map.1 h
 have:=List.mem_range.1 hi
 omega
theorem numbers_eq (n:Nat) (hn:n≤1000):Ev (fun k=>impl_numbersTo.f k (n:Int)) (numL n):=by
 have key: ∀q i,i+q=n→Ev (fun k=>impl_numbersTo.l0 k (numL i) (n:Int) (i:Int)) (numL n):=by
  intro q
  induction q with
  | zero=>
   intro i hi
   obtain rfl:i=n:=by omega
   exact evstep (fun k=>by rw [impl_numbersTo.l0]) (evneg (by omega) (evc rfl))
  | succ q ih=>
   intro i hi
   refine evstep (fun k=>by rw [impl_numbersTo.l0]) (evpos (by omega) (evpos (by rw [numL_len];omega) ?_))
   rw [w64 (x:=(i:Int)+1) (by omega) (by omega)]
   have:=ih (i+1) (by omega)
   have e:numL (i+1)=numL i++ [(i:Int)]:=by simp [numL,List.range_succ]
   rw [e] at this
   exact this
 exact key n 0 (by omega)
def tA (A:List (List Int)) (i j:Int):Int:=rd (rd_L1 A i) j
def tB (B:List (List Int)) (j i:Int):Int:=rd (rd_L1 B i) j
def rcGo (a b:Int→Int→Int):Nat→List Int→List Int→List Int × List Int
 | 0,r,c=>(r,c)
 | q+1,r,c=>if 0≤bt a r c then rcGo a b q (wo r (bt a r c)) c else if bt b c r < 0 then(r,c) else rcGo a b q r (wo c (bt b c r))
theorem rcGo_succ (a b:Int→Int→Int) (q:Nat) (r c:List Int):rcGo a b (q+1) r c=if 0≤bt a r c then rcGo a b q (wo r (bt a r c)) c else if bt b c r < 0 then(r,c) else rcGo a b q r (wo c (bt b c r)):=rfl
theorem bt_mem {a:Int→Int→Int} {own others:List Int} (h:0≤bt a own others):bt a own others ∈ own∧btP a own others (bt a own others)=true:=by
 unfold bt at h ⊢
 cases hf:own.find? (btP a own others) with
 | none=>rw [hf] at h;exact absurd h (by decide)
 | some i=>exact⟨List.mem_of_find?_eq_some hf,List.find?_some hf⟩
theorem wo_mem {l:List Int} {n x:Int} (h:x ∈ wo l n):x ∈ l:=(List.mem_filter.1 h).1
theorem wo_lt {l:List Int} {n:Int} (h:n ∈ l):(wo l n).length < l.length:=by
 unfold wo
 refine Nat.lt_of_le_of_ne (List.length_filter_le _ _) (fun e=>?_)
 have:=List.length_filter_eq_length_iff.1 e n h
 simp at this
def impl_RemainingChoices.f (A B:List (List Int)):Option (List Int × List Int × Int):=
 if A.length≤1048576∧(A.all fun x=>decide (x.length≤1048576))=true then(impl_IsGame.f A B).bind fun t=>if t=true then some ((rcGo (tA A) (tB B) (A.length+(rd_L1 A 0).length+1) (numL A.length) (numL (rd_L1 A 0).length)).1,(rcGo (tA A) (tB B) (A.length+(rd_L1 A 0).length+1) (numL A.length) (numL (rd_L1 A 0).length)).2,0) else some ([], [],1) else none
theorem impl_RemainingChoices.calls2 (ah:Option Addr) (aj:Nat) (aa:List (List Int)) (ai:Option Addr) (ak:Nat) (ae:List (List Int)) (r1:List Int) (r2:List Int) (r3:Int) (w:World) (au:Kd.C (Kd.slice 2 (Kd.int .i64)) w ah aa.length aa) (av:aa.length≤aj) (aw:Kd.C (Kd.slice 2 (Kd.int .i64)) w ai ae.length ae) (ax:ae.length≤ak) (h:impl_RemainingChoices.f aa ae=some (r1,r2,r3)):
  Calls Try.prog 10 #[.agg #[.slice ah aa.length aj, .slice ai ae.length ak]] w fun e w'=> ∃(v0_ v1_:Value) (m_:Nat),e= .returned (.tuple #[v0_,v1_, .int .i64 r3])∧Kd.R (Kd.int .i64) 2 w' w.heap.size (fun k_=>k_ < m_) v0_ r1∧Kd.R (Kd.int .i64) 2 w' w.heap.size (fun k_=>m_≤k_) v1_ r2∧w.heap.size≤m_∧m_≤w'.heap.size∧Below w.heap.size w w':=by
 unfold impl_RemainingChoices.f at h
 split at h
 case isFalse=>cases h
 rename_i hsz
 obtain⟨t,ht,h⟩:=Option.bind_eq_some_iff.1 h
 have HT:=q_ ht
 have HRA:=q_ au
 have HRB:=q_ aw
 have HCA:=q_ av
 have HCB:=q_ ax
 have hbox: ∀W:World,W=w.alloc (Obj.cells #[Value.slice ah aa.length aj,Value.slice ai ae.length ak] 32)→Aside0 (W.cell? ⟨w.heap.size,0,none⟩=some (.slice ah aa.length aj)∧W.cell? ⟨w.heap.size,1,none⟩=some (.slice ai ae.length ak))∧Aside0 (Below w.heap.size w W)∧Aside0 (w.heap.size < W.heap.size):=by
  rintro W rfl
  exact⟨⟨by simp,by simp⟩,⟨(Below.refl _ _).alloc (Nat.le_refl _) _⟩,⟨by simp⟩⟩
 have HBX:=q_ hbox
 clear ht au aw av ax hbox
 go_enter Try.func10,Try.ntmps10
 go_wp2_with fail
 generalize hW1:w.alloc _=w1
 obtain⟨HC1,HB,HS1⟩:=HBX.out w1 hW1.symm
 clear hW1 HBX
 refine(impl_IsGame.calls ah aj aa ai ak ae t w1 (Kd.C_below HRA.out HB.out) HCA.out (Kd.C_below HRB.out HB.out) HCB.out HT.out).mono ?_
 rintro e w2 ⟨rfl,hb⟩
 have HBB:=q_ hb
 clear hb
 have HSW:Aside0 (w.heap.size≤w1.heap.size):=⟨Nat.le_of_lt HS1.out⟩
 have CEL: ∀W,Below w1.heap.size w1 W→W.cell? ⟨w.heap.size,0,none⟩=some (.slice ah aa.length aj)∧W.cell? ⟨w.heap.size,1,none⟩=some (.slice ai ae.length ak):=fun W hW=>⟨(hW.cell HS1.out).trans HC1.out.1,(hW.cell HS1.out).trans HC1.out.2⟩
 have ROW: ∀W,Below w1.heap.size w1 W→Kd.C (Kd.slice 2 (Kd.int .i64)) W ah aa.length aa∧Kd.C (Kd.slice 2 (Kd.int .i64)) W ai ae.length ae:=fun W hW=>⟨Kd.C_below (Kd.C_below HRA.out HB.out) hW,Kd.C_below (Kd.C_below HRB.out HB.out) hW⟩
 have HCE:=q_ CEL
 have HRO:=q_ ROW
 clear CEL ROW HC1
 by_cases hT:t=true
 ·rw [if_pos hT] at h
  subst hT
  injection h with h
  injection h with e1 h
  injection h with e2 e3
  subst e3
  have hok:GameOK aa ae:=by
   by_cases g:GameOK aa ae
   ·exact g
   ·have:=impl_is aa ae hsz.1 (fun x hx=>of_decide_eq_true (List.all_eq_true.1 hsz.2 x hx)) false (by simp [g])
    rw [HT.out] at this
    cases this
  have e0:rd_L1 aa 0=rw_ aa 0:=rw_eq aa 0
  have HSZ:Aside0 (impl_Game_sizes.f aa ae=some ((aa.length:Int),((rd_L1 aa 0).length:Int))):=⟨by unfold impl_Game_sizes.f;rw [if_pos (by have:=hok.k1;omega)]⟩
  obtain⟨K,hK⟩: ∃K,aa.length=K:=⟨_,rfl⟩
  obtain⟨L,hL⟩: ∃L,(rd_L1 aa 0).length=L:=⟨_,rfl⟩
  rw [hK,hL] at e1 e2
  have HAI:Aside0 (∀x y:Int,0≤x∧x < K→0≤y∧y < L→x < aa.length∧y < (rd_L1 aa x).length∧x < ae.length∧y < (rd_L1 ae x).length):=⟨fun x y hx hy=>by
   obtain⟨i,rfl⟩:=Int.eq_ofNat_of_zero_le hx.1
   have hr:=hok.rows i (Nat.zero_le _) (by omega)
   rw [rw_eq,rw_eq,hr.1,hr.2.1, ← e0,hL]
   have:=hok.same
   exact⟨by omega,hy.2,by omega,hy.2⟩⟩
  have HK:=q_ (show 1≤K∧K≤4 by have:=hok.k1;have:=hok.k4;omega)
  have HL:=q_ (show 1≤L∧L≤4 by have:=hok.l1;have:=hok.l4;rw [← hL,e0];omega)
  rw [hK,hL] at HSZ
  obtain⟨k7,h7⟩:=numbers_eq K (by have:=HK.out;omega)
  obtain⟨k8,h8⟩:=numbers_eq L (by have:=HL.out;omega)
  have H7:Aside0 (impl_numbersTo.f k7 (K:Int)=some (numL K)):=⟨h7 k7 (Nat.le_refl _)⟩
  have H8:Aside0 (impl_numbersTo.f k8 (L:Int)=some (numL L)):=⟨h8 k8 (Nat.le_refl _)⟩
  obtain⟨F,hF⟩: ∃F,rcGo (tA aa) (tB ae) (K+L+1) (numL K) (numL L)=F:=⟨_,rfl⟩
  rw [hF] at e1 e2
  have HFI:=q_ hF
  clear hF
  have HR1:=q_ e1
  have HR2:=q_ e2
  clear e1 e2 h7 h8 hok e0 hsz HT hK hL
  have hc0:=(HCE.out w2 HBB.out).1
  have hc1:=(HCE.out w2 HBB.out).2
  go_wp2_with fail
  refine(impl_Game_sizes.calls ah aj aa ai ak ae (K:Int) (L:Int) w2 (HRO.out w2 HBB.out).1 HCA.out (HRO.out w2 HBB.out).2 HCB.out HSZ.out).mono ?_
  rintro e w3 ⟨rfl,hb⟩
  replace HBB:=q_ (below_step HBB.out hb)
  clear hb hc0 hc1 HSZ
  go_wp2_with fail
  refine(impl_numbersTo.calls k7 (K:Int) (numL K) w3 H7.out).mono ?_
  rintro e w4 ⟨v7,rfl,ho,hb⟩
  obtain⟨g7,c7,rfl,hg1,hg2,_,_⟩:=Kd.R_form ho (by rw [numL_len];exact HK.out.1)
  have hb7:w1.heap.size≤w3.heap.size:=HBB.out.size
  have af:Aside0 (Kd.R (Kd.int .i64) 2 w4 w1.heap.size (fun k=>k < w4.heap.size) (.slice (some ⟨g7,0,none⟩) (numL K).length c7) (numL K)):=⟨Kd.R_lower (Kd.R_mono (Kd.R_tight rfl ho) (fun k hk=>by have hk2:some k=some g7:=hk;injection hk2 with hk2;omega)) hb7⟩
  replace HBB:=q_ (below_step HBB.out hb)
  clear ho hb hg1 hg2 hb7 H7
  go_wp2_with fail
  refine(impl_numbersTo.calls k8 (L:Int) (numL L) w4 H8.out).mono ?_
  rintro e w5 ⟨v8,rfl,ho,hb⟩
  obtain⟨g8,c8,rfl,hg1,hg2,_,_⟩:=Kd.R_form ho (by rw [numL_len];exact HL.out.1)
  have hb8:w1.heap.size≤w4.heap.size:=HBB.out.size
  have ag:Aside0 (Kd.R (Kd.int .i64) 2 w5 w1.heap.size (fun k=>w4.heap.size≤k∧k < w5.heap.size) (.slice (some ⟨g8,0,none⟩) (numL L).length c8) (numL L)):=⟨Kd.R_lower (Kd.R_mono (Kd.R_tight rfl ho) (fun k hk=>by have hk2:some k=some g8:=hk;injection hk2 with hk2;omega)) hb8⟩
  replace af:=q_ (Kd.R_below af.out hb)
  replace HBB:=q_ (below_step HBB.out hb)
  have H45:=q_ hb.size
  have HW14:=q_ hb8
  clear ho hb hg1 hg2 hb8 H8
  go_wp2
  go_loopg [7,8] (K+L) (fun gg v7 v8 wr=> ∃(q:Nat) (r c:List Int),r.length+c.length < q∧r.length+c.length≤gg∧Aside0 (rcGo (tA aa) (tB ae) q r c=F)∧Aside0 ((∀x ∈ r,0≤x∧x < K)∧(∀y ∈ c,0≤y∧y < L)∧r.length+c.length≤100)∧Aside0 (Kd.R (Kd.int .i64) 2 wr w1.heap.size (fun k=>k < w4.heap.size) v7 r)∧Aside0 (Kd.R (Kd.int .i64) 2 wr w1.heap.size (fun k=>w4.heap.size≤k∧k < w5.heap.size) v8 c)∧Aside0 (Below w1.heap.size w1 wr)∧Aside0 (w5.heap.size≤wr.heap.size))
  case atStart=>exact⟨K+L+1,numL K,numL L,by rw [numL_len,numL_len];omega,by rw [numL_len,numL_len];exact Nat.le_refl _,HFI,⟨fun x hx=>numL_mem hx,fun x hx=>numL_mem hx,by rw [numL_len,numL_len];have:=HK.out;have:=HL.out;omega⟩,af,ag,HBB,⟨Nat.le_refl _⟩⟩
  case round=>
   clear af ag HBB
   obtain⟨q,r,c,hq,hg,HQ,HM,af,ag,HBB,H5⟩:=hrel
   obtain⟨q,rfl⟩: ∃q',q=q'+1:=⟨q - 1,by omega⟩
   obtain⟨A7,c7,e7⟩:=Kd.R_slice af.out
   obtain⟨A8,c8,e8⟩:=Kd.R_slice ag.out
   subst e7
   subst e8
   have HQL:=q_ hq
   have HG:=q_ hg
   clear hq hg
   have ef:=choice1_enters
   have ef2:=choice2_enters
   have hcall:=beaten_calls 31 #[.pointer (some ⟨w.heap.size,0,none⟩)] choice1_enters (tA aa) A7 c7 r A8 c8 c wr (Kd.R_reads' af.out).2.2 (Kd.R_reads' ag.out).2.2 (fun W x y hx hy hW=>by
    have hx2:=HM.out.1 x hx
    have hy2:=HM.out.2.1 y hy
    obtain⟨i1,i2,i3,i4⟩:=HAI.out x y hx2 hy2
    have hBW:=below_step HBB.out hW
    exact choice1 w.heap.size ah aj aa x y W (HCE.out W hBW).1 (HRO.out W hBW).1 hx2.1 i1 hy2.1 i2) (by have:=HM.out.2.2;omega)
   obtain⟨bi,hbi⟩: ∃bi,bt (tA aa) r c=bi:=⟨_,rfl⟩
   rw [hbi] at hcall
   have HBI:=q_ hbi
   have HCALL:=q_ hcall
   have HLR:=q_ (show ∃n,r.length=n from ⟨_,rfl⟩)
   clear hcall hbi
   go_wp2_with fail
   refine HCALL.out.mono ?_
   rintro e w6 ⟨rfl,hb⟩
   replace af:=q_ (Kd.R_below af.out hb)
   replace ag:=q_ (Kd.R_below ag.out hb)
   replace HBB:=q_ (below_step HBB.out hb)
   replace H5:=q_ (Nat.le_trans H5.out hb.size)
   clear hb HCALL HLR
   by_cases hi:0≤bi
   ·have hdi:decide (bi ≥ 0)=true:=decide_eq_true hi
    have hmem:=(bt_mem (a:=tA aa) (own:=r) (others:=c) (by rw [HBI.out];exact hi)).1
    rw [HBI.out] at hmem
    have HMEM:=q_ hmem
    have HI:=q_ hi
    have hw:=without_calls (w0:=w1) (base:=w1.heap.size) bi A7 c7 r HBB.out af.out (fun k hk=>by have:=H45.out;have:=H5.out;have:k < w4.heap.size:=hk;omega) (by have:=HM.out.2.2;omega) (HBB.out.size)
    have HW:=q_ hw
    clear hi hmem hw
    go_wp2_with fail
    refine HW.out.mono ?_
    rintro e w7 ⟨v,rfl,h1,h2,h3⟩
    have ay:=q_ h1
    have aq:=q_ (h3.row _ _ _ _ (fun k hk hk2=>by have:k < w4.heap.size:=hk2;have:=hk.1;omega) ag.out)
    have HB7:=q_ h2
    have H57:=q_ (Nat.le_trans H5.out h3.size)
    clear h1 h2 h3 HW af ag hdi
    go_wp2
    go_roundg ((wo r bi).length+c.length)
    case measure=>have:=HG.out;have:=wo_lt HMEM.out;omega
    case rel=>exact⟨q,wo r bi,c,by have:=HQL.out;have:=wo_lt HMEM.out;omega,Nat.le_refl _,⟨by have h:=HQ.out;rw [rcGo_succ,HBI.out,if_pos (by have:=HI.out;omega)] at h;exact h⟩,⟨fun x hx=>HM.out.1 x (wo_mem hx),HM.out.2.1,by have:=HM.out.2.2;have:=wo_lt HMEM.out;omega⟩,ay,aq,HB7,H57⟩
   ·have hdi:decide (bi ≥ 0)=false:=decide_eq_false hi
    have HI:=q_ hi
    have hcall:=beaten_calls 33 #[.pointer (some ⟨w.heap.size,0,none⟩)] choice2_enters (tB ae) A8 c8 c A7 c7 r w6 (Kd.R_reads' ag.out).2.2 (Kd.R_reads' af.out).2.2 (fun W x y hx hy hW=>by
     have hx2:=HM.out.2.1 x hx
     have hy2:=HM.out.1 y hy
     obtain⟨i1,i2,i3,i4⟩:=HAI.out y x hy2 hx2
     have hBW:=below_step HBB.out hW
     exact choice2 w.heap.size ai ak ae x y W (HCE.out W hBW).2 (HRO.out W hBW).2 hy2.1 i3 hx2.1 i4) (by have:=HM.out.2.2;omega)
    obtain⟨bj,hbj⟩: ∃bj,bt (tB ae) c r=bj:=⟨_,rfl⟩
    rw [hbj] at hcall
    have HBJ:=q_ hbj
    have HCALL:=q_ hcall
    clear hcall hbj hi
    go_wp2_with fail
    refine HCALL.out.mono ?_
    rintro e w7 ⟨rfl,hb⟩
    replace af:=q_ (Kd.R_below af.out hb)
    replace ag:=q_ (Kd.R_below ag.out hb)
    replace HBB:=q_ (below_step HBB.out hb)
    replace H5:=q_ (Nat.le_trans H5.out hb.size)
    clear hb HCALL hdi
    by_cases hj:bj < 0
    ·have hdj:decide (bj < 0)=true:=decide_eq_true hj
     have HRC:Aside0 (r=r1∧c=r2):=⟨by
      have h:=HQ.out
      rw [rcGo_succ,HBI.out,HBJ.out,if_neg (by have:=HI.out;omega),if_pos hj] at h
      have a1:=HR1.out
      have a2:=HR2.out
      rw [← h] at a1 a2
      exact⟨a1,a2⟩⟩
     clear hj
     go_wp2
     go_ret3
     obtain⟨rfl,rfl⟩:=HRC.out
     exact⟨_,_,w4.heap.size,rfl,Kd.R_lower af.out HSW.out,Kd.R_lower (Kd.R_mono ag.out (fun k hk=>hk.1)) HSW.out,Nat.le_trans HSW.out HW14.out,Nat.le_trans H45.out H5.out,below_then HB.out HB.out.size HBB.out⟩
    ·have hdj:decide (bj < 0)=false:=decide_eq_false hj
     have hmem:=(bt_mem (a:=tB ae) (own:=c) (others:=r) (by rw [HBJ.out];omega)).1
     rw [HBJ.out] at hmem
     have HMEM:=q_ hmem
     have HJ:=q_ hj
     have hw:=without_calls (w0:=w1) (base:=w1.heap.size) bj A8 c8 c HBB.out ag.out (fun k hk=>by have:=H5.out;have:=hk.2;omega) (by have:=HM.out.2.2;omega) (HBB.out.size)
     have HW:=q_ hw
     clear hj hmem hw
     go_wp2_with fail
     refine HW.out.mono ?_
     rintro e w8 ⟨v,rfl,h1,h2,h3⟩
     have ay:=q_ h1
     have aq:=q_ (h3.row _ _ _ _ (fun k hk hk2=>by have:k < w4.heap.size:=hk;have:=hk2.1;omega) af.out)
     have HB7:=q_ h2
     have H57:=q_ (Nat.le_trans H5.out h3.size)
     clear h1 h2 h3 HW af ag hdj
     go_wp2
     go_roundg (r.length+(wo c bj).length)
     case measure=>have:=HG.out;have:=wo_lt HMEM.out;omega
     case rel=>exact⟨q,r,wo c bj,by have:=HQL.out;have:=wo_lt HMEM.out;omega,Nat.le_refl _,⟨by have h:=HQ.out;rw [rcGo_succ,HBI.out,if_neg (by have:=HI.out;omega),HBJ.out,if_neg (by have:=HJ.out;omega)] at h;exact h⟩,⟨HM.out.1,fun x hx=>HM.out.2.1 x (wo_mem hx),by have:=HM.out.2.2;have:=wo_lt HMEM.out;omega⟩,aq,ay,HB7,H57⟩
 ·have hTf:t=false:=by simpa using hT
  subst hTf
  rw [if_neg (by decide)] at h
  injection h with h
  injection h with e1 h
  injection h with e2 e3
  subst e1 e2 e3
  clear hT hsz
  go_wp2
  go_ret3
  exact⟨_,_,w.heap.size,rfl,Kd.R_nil _ _ _ _ _,Kd.R_nil _ _ _ _ _,Nat.le_refl _,Nat.le_trans HSW.out HBB.out.size,below_then HB.out HB.out.size HBB.out⟩
theorem impl_RemainingChoices.calls (af:Option Addr) (ag:Nat) (aa:List (List Int)) (ah:Option Addr) (ai:Nat) (ae:List (List Int)) (r1:List Int) (r2:List Int) (r3:Int) (w:World) (aj:Kd.C (Kd.slice 2 (Kd.int .i64)) w af aa.length aa) (ak:aa.length≤ag) (aq:Kd.C (Kd.slice 2 (Kd.int .i64)) w ah ae.length ae) (au:ae.length≤ai) (h:impl_RemainingChoices.f aa ae=some (r1,r2,r3)):
  Calls Try.prog 10 #[.agg #[.slice af aa.length ag, .slice ah ae.length ai]] w fun e w'=> ∃v0_ v1_:Value,e= .returned (.tuple #[v0_,v1_, .int .i64 r3])∧Kd.R (Kd.int .i64) 2 w' w.heap.size (fun k_=>some k_≠(v1_:Value).ownBlock) v0_ r1∧Kd.R (Kd.int .i64) 2 w' w.heap.size (fun k_=>some k_≠(v0_:Value).ownBlock) v1_ r2∧Below w.heap.size w w':=by
 refine(impl_RemainingChoices.calls2 af ag aa ah ai ae r1 r2 r3 w aj ak aq au h).mono ?_
 rintro e w' ⟨v0,v1,m,rfl,h1,h2,_,_,hb⟩
 refine⟨v0,v1,rfl,Kd.R_mono (Kd.R_tight rfl h1) (fun k hk e=>?_),Kd.R_mono (Kd.R_tight rfl h2) (fun k hk e=>?_),hb⟩
 ·have a1:=h1.1 k hk.symm
  have a2:=h2.1 k e.symm
  omega
 ·have a1:=h2.1 k hk.symm
  have a2:=h1.1 k e.symm
  omega
end Go.Proofs.Ytmcddlpgffbmpaa.Pr
end
section
namespace Go.Proofs.Ytmcddlpgffbmpaa.Pr
open Go.RowKit Go.Proofs.YtmcddlpgffbmpaaW.PrintWords Go.Proofs.YtmcddlpgffbmpaaW.PrintLast Go.Proofs.YtmcddlpgffbmpaaW.PrintMore Go.Proofs.Ytmcddlpgffbmpaa.La Go.Proofs.Ytmcddlpgffbmpaa.Hm Go.Proofs.Ytmcddlpgffbmpaa.Lw
theorem laws_toGame.walk2 (k:Nat) (aq:Option Addr) (au:Nat) (aa:List (List Int)) (av:Option Addr) (aw:Nat) (ae:List (List Int))  (w:World) (az:Kd.C (Kd.slice 2 (Kd.int .i64)) w aq aa.length aa) (aA:aa.length≤au) (aC:Kd.C (Kd.slice 2 (Kd.int .i64)) w av ae.length ae) (aD:ae.length≤aw) (h1:laws_toInt64SS.f k aa=some aa) (h2:laws_toInt64SS.f k ae=some ae):
  Calls Try.prog 9 #[.agg #[.slice aq aa.length au, .slice av ae.length aw]] w fun e w'=> ∃v0_ v1_:Value,e= .returned (.agg #[v0_,v1_])∧UG w w' w.heap.size w'.heap.size v0_ v1_ aa ae∧Below w.heap.size w w':=by
 have HR0_0:=q_ az
 have HC0_0:=q_ aA
 clear az aA
 have HR0_1:=q_ aC
 have HC0_1:=q_ aD
 clear aC aD
 have HB:=q_ (Below.refl w.heap.size w)
 have H1':=q_ h1
 clear h1
 have H2':=q_ h2
 clear h2
 go_enter Try.func9,Try.ntmps9
 go_wp2_with (first | ((with_reducible refine gate_dst (N:=1) rfl ?_);refine box_event ?hg (N:=1) ?hd (cs:= #[.slice aq aa.length au, .slice av ae.length aw]) (t:=27) ?hr ?_;(case hd=>rfl);(case hg=>rfl);(case hr=>first | (go_simp;done) | (go_simp;rfl));intro g1 hg w1 hbox hb;have Gg1:Aside0 (g1=w.heap.size):=⟨hg⟩;have Kg1:=q_ (blk_lt hbox);clear hg;have n_HB:=q_ (below_step HB.out hb);have NN1:Aside0 (w.heap.size≤w1.heap.size):=⟨hb.size⟩;clear HB;have HB:=n_HB;clear n_HB;have Bg1:=q_ hbox;clear hb hbox) | ((with_reducible refine gate_dst (N:=2) rfl ?_);refine box_event ?hg (N:=2) ?hd (cs:= #[.slice none 0 0, .slice none 0 0]) (t:=32) ?hr ?_;(case hd=>rfl);(case hg=>rfl);(case hr=>first | (go_simp;done) | (go_simp;rfl));intro g2 hg w2 hbox hb;have Gg2:Aside0 (g2=w1.heap.size):=⟨hg⟩;have Kg2:=q_ (blk_lt hbox);clear hg;have n_Bg1:=q_ (blk_below Bg1.out hb);have n_HB:=q_ (below_step HB.out hb);have NN2:Aside0 (w1.heap.size≤w2.heap.size):=⟨hb.size⟩;clear Bg1 HB;have Bg1:=n_Bg1;have HB:=n_HB;clear n_Bg1 n_HB;have Bg2:=q_ hbox;clear hb hbox) | ((with_reducible refine gate_dst (N:=3) rfl ?_);refine box_event ?hg (N:=3) ?hd (cs:= #[.slice none 0 0, .slice none 0 0]) (t:=32) ?hr ?_;(case hd=>rfl);(case hg=>rfl);(case hr=>first | (go_simp;done) | (go_simp;rfl));intro g3 hg w3 hbox hb;have Gg3:Aside0 (g3=w2.heap.size):=⟨hg⟩;have Kg3:=q_ (blk_lt hbox);clear hg;have n_Bg1:=q_ (blk_below Bg1.out hb);have n_Bg2:=q_ (blk_below Bg2.out hb);have n_HB:=q_ (below_step HB.out hb);have NN3:Aside0 (w2.heap.size≤w3.heap.size):=⟨hb.size⟩;clear Bg1 Bg2 HB;have Bg1:=n_Bg1;have Bg2:=n_Bg2;have HB:=n_HB;clear n_Bg1 n_Bg2 n_HB;have Bg3:=q_ hbox;clear hb hbox;have ax:w3.cell? ⟨g1,0,none⟩=some (.slice aq aa.length au):=(blk_cell Bg1.out 0).trans rfl;have hf1_0:=blk_frozen Bg1.out 0;have ay:w3.cell? ⟨g1,1,none⟩=some (.slice av ae.length aw):=(blk_cell Bg1.out 1).trans rfl;have hf1_1:=blk_frozen Bg1.out 1) | ((with_reducible refine gate_callee (f:=26) rfl ?_);refine gL_ 6 Try.func26 #[.slice aq aa.length au] ?_;refine(laws_toInt64SS.calls k _ _ aa aa _ ?s1 ?s2 H1'.out).mono ?_;(case s1=>exact Kd.C_below HR0_0.out HB.out);(case s2=>exact HC0_0.out);rintro e w4 ⟨v6_0,rfl,ho0,hb⟩;refine⟨_,rfl,?_⟩;have nu0:=q_ (US.of ho0 HB.out.size);have n_Bg1:=q_ (blk_below Bg1.out hb);have n_Bg2:=q_ (blk_below Bg2.out hb);have n_Bg3:=q_ (blk_below Bg3.out hb);have n_HB:=q_ (below_step HB.out hb);have NN4:Aside0 (w3.heap.size≤w4.heap.size):=⟨hb.size⟩;clear ax hf1_0 ay hf1_1 Bg1 Bg2 Bg3 HB;have Bg1:=n_Bg1;have Bg2:=n_Bg2;have Bg3:=n_Bg3;have HB:=n_HB;clear n_Bg1 n_Bg2 n_Bg3 n_HB hb ho0;have U6_0:=nu0;clear nu0;obtain⟨af,ag,e0⟩:=Kd.S_slice U6_0.out;subst e0;have aj:w4.cell? ⟨g3,0,none⟩=some (.slice none 0 0):=(blk_cell Bg3.out 0).trans rfl;have hf3_0:=blk_frozen Bg3.out 0;have ak:w4.cell? ⟨g3,1,none⟩=some (.slice none 0 0):=(blk_cell Bg3.out 1).trans rfl;have hf3_1:=blk_frozen Bg3.out 1) | ((with_reducible refine gate_store (t:=25) (p:=7) rfl ?_);refine store_event (t:=25) (p:=7) (v:=?vo_w5) (w1:=(w4.setCell ⟨g3,0,none⟩ (.slice af aa.length ag))) ?hg ?ho ?hn ?hr ?_;(case ho=>rfl);(case hg=>rfl);(case hn=>rfl);(case hr=>first | (go_simp;done) | (go_simp;rfl));intro w5 hw;have hge:w.heap.size≤g3:=(by have:=NN1.out;have:=Gg1.out;have:=Kg1.out;have:=NN2.out;have:=Gg2.out;have:=Kg2.out;have:=NN3.out;have:=Gg3.out;have:=Kg3.out;have:=NN4.out;have:=HB.out.size;omega);have hF:Frm w4 w5 g3 (g3+1):=(by rw [hw];exact Frm.set _ _ _ _);have nb:=q_ (show w5.heap[g3]?=some (.cells #[.slice af aa.length ag, .slice none 0 0] 32 (0,0)) from (by rw [hw];exact blk_put Bg3.out 0 _ rfl));have n_U6_0:=q_ (U6_0.out.mv hF (by have:=NN1.out;have:=Gg1.out;have:=Kg1.out;have:=NN2.out;have:=Gg2.out;have:=Kg2.out;have:=NN3.out;have:=Gg3.out;have:=Kg3.out;have:=NN4.out;omega));have n_Bg1:=q_ ((hF.same g1 (blk_lt Bg1.out) (by have:=NN1.out;have:=Gg1.out;have:=Kg1.out;have:=NN2.out;have:=Gg2.out;have:=Kg2.out;have:=NN3.out;have:=Gg3.out;have:=Kg3.out;have:=NN4.out;omega)).trans Bg1.out);have n_Bg2:=q_ ((hF.same g2 (blk_lt Bg2.out) (by have:=NN1.out;have:=Gg1.out;have:=Kg1.out;have:=NN2.out;have:=Gg2.out;have:=Kg2.out;have:=NN3.out;have:=Gg3.out;have:=Kg3.out;have:=NN4.out;omega)).trans Bg2.out);have n_HB:=q_ ((by rw [hw];exact below_set HB.out hge:Below w.heap.size w w5));have NN5:Aside0 (w4.heap.size≤w5.heap.size):=⟨hF.size⟩;clear aj hf3_0 ak hf3_1 U6_0 Bg1 Bg2 HB;have U6_0:=n_U6_0;have Bg1:=n_Bg1;have Bg2:=n_Bg2;have HB:=n_HB;clear n_U6_0 n_Bg1 n_Bg2 n_HB Bg3;have Bg3:=nb;clear nb hF hge hw;have ax:w5.cell? ⟨g1,0,none⟩=some (.slice aq aa.length au):=(blk_cell Bg1.out 0).trans rfl;have hf1_0:=blk_frozen Bg1.out 0;have ay:w5.cell? ⟨g1,1,none⟩=some (.slice av ae.length aw):=(blk_cell Bg1.out 1).trans rfl;have hf1_1:=blk_frozen Bg1.out 1) | ((with_reducible refine gate_callee (f:=26) rfl ?_);refine gL_ 10 Try.func26 #[.slice av ae.length aw] ?_;refine(laws_toInt64SS.calls k _ _ ae ae _ ?s1 ?s2 H2'.out).mono ?_;(case s1=>exact Kd.C_below HR0_1.out HB.out);(case s2=>exact HC0_1.out);rintro e w6 ⟨v10_0,rfl,ho0,hb⟩;refine⟨_,rfl,?_⟩;have nu0:=q_ (US.of ho0 HB.out.size);have n_U6_0:=q_ (U6_0.out.mvB (Frm.below hb));have n_Bg1:=q_ (blk_below Bg1.out hb);have n_Bg2:=q_ (blk_below Bg2.out hb);have n_Bg3:=q_ (blk_below Bg3.out hb);have n_HB:=q_ (below_step HB.out hb);have NN6:Aside0 (w5.heap.size≤w6.heap.size):=⟨hb.size⟩;clear ax hf1_0 ay hf1_1 U6_0 Bg1 Bg2 Bg3 HB;have U6_0:=n_U6_0;have Bg1:=n_Bg1;have Bg2:=n_Bg2;have Bg3:=n_Bg3;have HB:=n_HB;clear n_U6_0 n_Bg1 n_Bg2 n_Bg3 n_HB hb ho0;have U10_0:=nu0;clear nu0;obtain⟨ah,ai,e0⟩:=Kd.S_slice U10_0.out;subst e0;have aj:w6.cell? ⟨g3,0,none⟩=some (.slice af aa.length ag):=(blk_cell Bg3.out 0).trans rfl;have hf3_0:=blk_frozen Bg3.out 0;have ak:w6.cell? ⟨g3,1,none⟩=some (.slice none 0 0):=(blk_cell Bg3.out 1).trans rfl;have hf3_1:=blk_frozen Bg3.out 1) | ((with_reducible refine gate_store (t:=25) (p:=11) rfl ?_);refine store_event (t:=25) (p:=11) (v:=?vo_w7) (w1:=(w6.setCell ⟨g3,1,none⟩ (.slice ah ae.length ai))) ?hg ?ho ?hn ?hr ?_;(case ho=>rfl);(case hg=>rfl);(case hn=>rfl);(case hr=>first | (go_simp;done) | (go_simp;rfl));intro w7 hw;have hge:w.heap.size≤g3:=(by have:=NN1.out;have:=Gg1.out;have:=Kg1.out;have:=NN2.out;have:=Gg2.out;have:=Kg2.out;have:=NN3.out;have:=Gg3.out;have:=Kg3.out;have:=NN4.out;have:=NN5.out;have:=NN6.out;have:=HB.out.size;omega);have hF:Frm w6 w7 g3 (g3+1):=(by rw [hw];exact Frm.set _ _ _ _);have nb:=q_ (show w7.heap[g3]?=some (.cells #[.slice af aa.length ag, .slice ah ae.length ai] 32 (0,0)) from (by rw [hw];exact blk_put Bg3.out 1 _ rfl));have n_U6_0:=q_ (U6_0.out.mv hF (by have:=NN1.out;have:=Gg1.out;have:=Kg1.out;have:=NN2.out;have:=Gg2.out;have:=Kg2.out;have:=NN3.out;have:=Gg3.out;have:=Kg3.out;have:=NN4.out;have:=NN5.out;have:=NN6.out;omega));have n_U10_0:=q_ (U10_0.out.mv hF (by have:=NN1.out;have:=Gg1.out;have:=Kg1.out;have:=NN2.out;have:=Gg2.out;have:=Kg2.out;have:=NN3.out;have:=Gg3.out;have:=Kg3.out;have:=NN4.out;have:=NN5.out;have:=NN6.out;omega));have n_Bg1:=q_ ((hF.same g1 (blk_lt Bg1.out) (by have:=NN1.out;have:=Gg1.out;have:=Kg1.out;have:=NN2.out;have:=Gg2.out;have:=Kg2.out;have:=NN3.out;have:=Gg3.out;have:=Kg3.out;have:=NN4.out;have:=NN5.out;have:=NN6.out;omega)).trans Bg1.out);have n_Bg2:=q_ ((hF.same g2 (blk_lt Bg2.out) (by have:=NN1.out;have:=Gg1.out;have:=Kg1.out;have:=NN2.out;have:=Gg2.out;have:=Kg2.out;have:=NN3.out;have:=Gg3.out;have:=Kg3.out;have:=NN4.out;have:=NN5.out;have:=NN6.out;omega)).trans Bg2.out);have n_HB:=q_ ((by rw [hw];exact below_set HB.out hge:Below w.heap.size w w7));have NN7:Aside0 (w6.heap.size≤w7.heap.size):=⟨hF.size⟩;clear aj hf3_0 ak hf3_1 U6_0 U10_0 Bg1 Bg2 HB;have U6_0:=n_U6_0;have U10_0:=n_U10_0;have Bg1:=n_Bg1;have Bg2:=n_Bg2;have HB:=n_HB;clear n_U6_0 n_U10_0 n_Bg1 n_Bg2 n_HB Bg3;have Bg3:=nb;clear nb hF hge hw;have aG:w7.cell? ⟨g2,0,none⟩=some (.slice none 0 0):=(blk_cell Bg2.out 0).trans rfl;have hf2_0:=blk_frozen Bg2.out 0;have aH:w7.cell? ⟨g2,1,none⟩=some (.slice none 0 0):=(blk_cell Bg2.out 1).trans rfl;have hf2_1:=blk_frozen Bg2.out 1;have aj:w7.cell? ⟨g3,0,none⟩=some (.slice af aa.length ag):=(blk_cell Bg3.out 0).trans rfl;have hf3_0:=blk_frozen Bg3.out 0;have ak:w7.cell? ⟨g3,1,none⟩=some (.slice ah ae.length ai):=(blk_cell Bg3.out 1).trans rfl;have hf3_1:=blk_frozen Bg3.out 1) | ((with_reducible refine gate_store (t:=32) (p:=2) rfl ?_);refine store_event (t:=32) (p:=2) (v:=?vo_w8) (w1:=((w7.setCell ⟨g2,0,none⟩ (.slice af aa.length ag)).setCell ⟨g2,1,none⟩ (.slice ah ae.length ai))) ?hg ?ho ?hn ?hr ?_;(case ho=>rfl);(case hg=>rfl);(case hn=>rfl);(case hr=>first | (go_simp;done) | (go_simp;rfl));intro w8 hw;have hge:w.heap.size≤g2:=(by have:=NN1.out;have:=Gg1.out;have:=Kg1.out;have:=NN2.out;have:=Gg2.out;have:=Kg2.out;have:=NN3.out;have:=Gg3.out;have:=Kg3.out;have:=NN4.out;have:=NN5.out;have:=NN6.out;have:=NN7.out;have:=HB.out.size;omega);have hF:Frm w7 w8 g2 (g2+1):=(by rw [hw];exact(Frm.trans (Frm.set _ _ _ _) (Frm.set _ _ _ _)));have nb:=q_ (show w8.heap[g2]?=some (.cells #[.slice af aa.length ag, .slice ah ae.length ai] 32 (0,0)) from (by rw [hw];exact(blk_put (blk_put Bg2.out 0 _ rfl) 1 _ rfl)));have n_U6_0:=q_ (U6_0.out.mv hF (by have:=NN1.out;have:=Gg1.out;have:=Kg1.out;have:=NN2.out;have:=Gg2.out;have:=Kg2.out;have:=NN3.out;have:=Gg3.out;have:=Kg3.out;have:=NN4.out;have:=NN5.out;have:=NN6.out;have:=NN7.out;omega));have n_U10_0:=q_ (U10_0.out.mv hF (by have:=NN1.out;have:=Gg1.out;have:=Kg1.out;have:=NN2.out;have:=Gg2.out;have:=Kg2.out;have:=NN3.out;have:=Gg3.out;have:=Kg3.out;have:=NN4.out;have:=NN5.out;have:=NN6.out;have:=NN7.out;omega));have n_Bg1:=q_ ((hF.same g1 (blk_lt Bg1.out) (by have:=NN1.out;have:=Gg1.out;have:=Kg1.out;have:=NN2.out;have:=Gg2.out;have:=Kg2.out;have:=NN3.out;have:=Gg3.out;have:=Kg3.out;have:=NN4.out;have:=NN5.out;have:=NN6.out;have:=NN7.out;omega)).trans Bg1.out);have n_Bg3:=q_ ((hF.same g3 (blk_lt Bg3.out) (by have:=NN1.out;have:=Gg1.out;have:=Kg1.out;have:=NN2.out;have:=Gg2.out;have:=Kg2.out;have:=NN3.out;have:=Gg3.out;have:=Kg3.out;have:=NN4.out;have:=NN5.out;have:=NN6.out;have:=NN7.out;omega)).trans Bg3.out);have n_HB:=q_ ((by rw [hw];exact(below_set (below_set HB.out hge) hge):Below w.heap.size w w8));have NN8:Aside0 (w7.heap.size≤w8.heap.size):=⟨hF.size⟩;clear aG hf2_0 aH hf2_1 aj hf3_0 ak hf3_1 U6_0 U10_0 Bg1 Bg3 HB;have U6_0:=n_U6_0;have U10_0:=n_U10_0;have Bg1:=n_Bg1;have Bg3:=n_Bg3;have HB:=n_HB;clear n_U6_0 n_U10_0 n_Bg1 n_Bg3 n_HB Bg2;have Bg2:=nb;clear nb hF hge hw))
 refine bodyPost_ret (results_cell_row rfl _ _ g2 32 #[.slice af aa.length ag, .slice ah ae.length ai] (0,0) _ rfl Bg2.out Try.underlying32 rfl (by kernel_rfl)) rfl ?_
 refine⟨_,_,rfl,⟨w4.heap.size,(by have:=NN1.out;have:=Gg1.out;have:=Kg1.out;have:=NN2.out;have:=Gg2.out;have:=Kg2.out;have:=NN3.out;have:=Gg3.out;have:=Kg3.out;have:=NN4.out;have:=NN5.out;have:=NN6.out;have:=NN7.out;have:=NN8.out;omega),(by have:=NN1.out;have:=Gg1.out;have:=Kg1.out;have:=NN2.out;have:=Gg2.out;have:=Kg2.out;have:=NN3.out;have:=Gg3.out;have:=Kg3.out;have:=NN4.out;have:=NN5.out;have:=NN6.out;have:=NN7.out;have:=NN8.out;omega),Kd.S_mono U6_0.out (fun k hk=>⟨(by have:=NN1.out;have:=Gg1.out;have:=Kg1.out;have:=NN2.out;have:=Gg2.out;have:=Kg2.out;have:=NN3.out;have:=Gg3.out;have:=Kg3.out;have:=NN4.out;have:=NN5.out;have:=NN6.out;have:=NN7.out;have:=NN8.out;have:=hk.1;omega),hk.2⟩),Kd.S_mono U10_0.out (fun k hk=>⟨(by have:=NN1.out;have:=Gg1.out;have:=Kg1.out;have:=NN2.out;have:=Gg2.out;have:=Kg2.out;have:=NN3.out;have:=Gg3.out;have:=Kg3.out;have:=NN4.out;have:=NN5.out;have:=NN6.out;have:=NN7.out;have:=NN8.out;have:=hk.1;omega),(by have:=NN1.out;have:=Gg1.out;have:=Kg1.out;have:=NN2.out;have:=Gg2.out;have:=Kg2.out;have:=NN3.out;have:=Gg3.out;have:=Kg3.out;have:=NN4.out;have:=NN5.out;have:=NN6.out;have:=NN7.out;have:=NN8.out;have:=hk.2;omega)⟩)⟩,HB.out⟩
end Go.Proofs.Ytmcddlpgffbmpaa.Pr
end
section
namespace Go.Proofs.Ytmcddlpgffbmpaa.Pr
open Go.RowKit Go.Proofs.YtmcddlpgffbmpaaW.PrintWords Go.Proofs.YtmcddlpgffbmpaaW.PrintLast Go.Proofs.YtmcddlpgffbmpaaW.PrintMore Go.Proofs.Ytmcddlpgffbmpaa.La Go.Proofs.Ytmcddlpgffbmpaa.Hm Go.Proofs.Ytmcddlpgffbmpaa.Lw
theorem laws_toGame2.calls (k:Nat) (af:Option Addr) (ag:Nat) (aa:List (List Int)) (ah:Option Addr) (ai:Nat) (ae:List (List Int)) (w:World) (aj:Kd.C (Kd.slice 2 (Kd.int .i64)) w af aa.length aa) (ak:aa.length≤ag) (aq:Kd.C (Kd.slice 2 (Kd.int .i64)) w ah ae.length ae) (au:ae.length≤ai) (h:laws_toInt64SS.f k aa=some aa∧laws_toInt64SS.f k ae=some ae):
  Calls Try.prog 9 #[.agg #[.slice af aa.length ag, .slice ah ae.length ai]] w fun e w'=> ∃v0_ v1_:Value,e= .returned (.agg #[v0_,v1_])∧UG w w' w.heap.size w'.heap.size v0_ v1_ aa ae∧Below w.heap.size w w':=by
 exact laws_toGame.walk2 k af ag aa ah ai ae w aj ak aq au h.1 h.2
end Go.Proofs.Ytmcddlpgffbmpaa.Pr
end
section
namespace Go.Proofs.Ytmcddlpgffbmpaa.Pr
open Go.RowKit Go.Proofs.YtmcddlpgffbmpaaW.PrintWords Go.Proofs.YtmcddlpgffbmpaaW.PrintLast Go.Proofs.YtmcddlpgffbmpaaW.PrintMore
attribute [local go_sem] max2_int min2_int max_two min_two max_three min_three max_four min_four
mutual
def spec_l07Turn.l0:Nat→List (List Int)→List (List Int)→Int→Option ((List (List Int)))
 | 0,_,_,_=>none
 | k+1,x0,x3,x4=>if 0 < (x0.length:Int) then(if x4 < ((rd_L1 x0 0).length:Int) then(spec_l07Turn.l1 k x0 x3 x4 (([]:List Int)) 0) else(some x3)) else(none)
def spec_l07Turn.l1:Nat→List (List Int)→List (List Int)→Int→List Int→Int→Option ((List (List Int)))
 | 0,_,_,_,_,_=>none
 | k+1,x0,x3,x4,x5,x6=>if x6 < (x0.length:Int) then(if 0≤x6 then(if 0≤x4 then(if x4 < ((rd_L1 x0 x6).length:Int) then(if x5.length < 17592186044416 then(spec_l07Turn.l1 k x0 x3 x4 (x5++ [rd (rd_L1 x0 x6) x4]) (wrap64 (x6+1))) else(none)) else(none)) else(none)) else(none)) else(if x3.length < 5864062014805 then(spec_l07Turn.l0 k x0 (x3++ [x5]) (wrap64 (x4+1))) else(none))
end
def spec_l07Turn.f (k:Nat) (l0:List (List Int)):Option ((List (List Int))):=spec_l07Turn.l0 k l0 (([]:List (List Int))) 0
theorem spec_l07Turn.mono_l: ∀k,(∀y0 y1 y2,LeO (spec_l07Turn.l0 k y0 y1 y2) (spec_l07Turn.l0 (k+1) y0 y1 y2))∧(∀y0 y1 y2 y3 y4,LeO (spec_l07Turn.l1 k y0 y1 y2 y3 y4) (spec_l07Turn.l1 (k+1) y0 y1 y2 y3 y4))
 | 0=>⟨fun _ _ _ r h=>by simp [spec_l07Turn.l0] at h,fun _ _ _ _ _ r h=>by simp [spec_l07Turn.l1] at h⟩
 | k+1=>by
  obtain⟨ih0,ih1⟩:=spec_l07Turn.mono_l k
  refine⟨?_,?_⟩
  ·intro y0 y1 y2
   unfold spec_l07Turn.l0
   repeat' first
   | (with_reducible exact ih0 _ _ _)
   | (with_reducible exact ih1 _ _ _ _ _)
   | (with_reducible exact LeO.refl _)
   | (with_reducible exact LeO.none _)
   | (with_reducible refine LeO.ite ?_ ?_)
   | (with_reducible refine LeO.bind ?_ (fun _=>?_))
   | exact ih0 _ _ _
   | exact ih1 _ _ _ _ _
   | exact LeO.none _
   | refine LeO.ite ?_ ?_
   | refine LeO.bind ?_ (fun _=>?_)
  ·intro y0 y1 y2 y3 y4
   unfold spec_l07Turn.l1
   repeat' first
   | (with_reducible exact ih0 _ _ _)
   | (with_reducible exact ih1 _ _ _ _ _)
   | (with_reducible exact LeO.refl _)
   | (with_reducible exact LeO.none _)
   | (with_reducible refine LeO.ite ?_ ?_)
   | (with_reducible refine LeO.bind ?_ (fun _=>?_))
   | exact ih0 _ _ _
   | exact ih1 _ _ _ _ _
   | exact LeO.none _
   | refine LeO.ite ?_ ?_
   | refine LeO.bind ?_ (fun _=>?_)
theorem spec_l07Turn.mono: ∀a0 k,LeO (spec_l07Turn.f k a0) (spec_l07Turn.f (k+1) a0):=by
 intro a0 k
 obtain⟨ih0,ih1⟩:=spec_l07Turn.mono_l k
 unfold spec_l07Turn.f
 repeat' first
   | (with_reducible exact ih0 _ _ _)
   | (with_reducible exact ih1 _ _ _ _ _)
   | (with_reducible exact LeO.refl _)
   | (with_reducible exact LeO.none _)
   | (with_reducible refine LeO.ite ?_ ?_)
   | (with_reducible refine LeO.bind ?_ (fun _=>?_))
   | exact ih0 _ _ _
   | exact ih1 _ _ _ _ _
   | exact LeO.none _
   | refine LeO.ite ?_ ?_
   | refine LeO.bind ?_ (fun _=>?_)
theorem spec_l07Turn.calls (k:Nat) (A0:Option Addr) (c0:Nat) (l0:List (List Int)) (r:List (List Int)) (w:World) (hr0:Kd.C (Kd.slice 2 (Kd.int .i64)) w A0 l0.length l0) (hc0:l0.length≤c0) (h:spec_l07Turn.f k l0=some r):
  Calls Try.prog 23 #[.slice A0 l0.length c0] w fun e w'=> ∃v0_:Value,e= .returned (v0_)∧Kd.S (Kd.slice 2 (Kd.int .i64)) 29 w' w.heap.size (fun _=>True) v0_ r∧Below w.heap.size w w':=by
 have HR0:=q_ hr0
 have HC0:=q_ hc0
 clear hr0 hc0
 have HB:=q_ (Below.refl w.heap.size w)
 have H:(spec_l07Turn.l0 k l0 (([]:List (List Int))) 0)=some r:=h
 clear h
 obtain⟨au,hy189⟩: ∃y_:List (List Int),y_=(([]:List (List Int))):=⟨_,rfl⟩
 replace H:(spec_l07Turn.l0 k l0 au 0)=some r:=by first | (rw [hy189];with_reducible exact H) | (have H2_:=(Option.bind_some _ _).symm.trans H;rw [hy189];with_reducible exact H2_) | (have H2_:=(Option.bind_some _ _).symm.trans H;with_reducible exact H2_) | with_reducible exact H | (rw [hy189];exact H) | exact H
 have aj:=q_ hy189
 clear hy189
 have H':=q_ H
 clear H
 go_enter Try.func23,Try.ntmps23
 go_wp2_with (first | ((with_reducible refine gate_dst (N:=7) rfl ?_);refine Kd.S_lit (Kd.slice 2 (Kd.int .i64)) _ 29 ?hg (N:=7) ?hd (xs:=([]:List (List Int))) (inner:= []) (ok:=fun _=>True) (okp:=fun _=>True) ?hr ?hp (fun _ hk=>hk) trivial (Below.refl _ _) (Nat.le_refl _) (by simp) ?_;(case hd=>rfl);(case hg=>rfl);(case hr=>first | (go_simp;done) | (go_simp;rfl));(case hp=>exact(Reps.none _ _));intro aW w2 ho3 hb hg_ hnew_;clear hg_ hnew_;(first | rw [← aj.out] at ho3 | (simp only [Int.reduceToNat] at ho3;rw [← aj.out] at ho3));have aD:=q_ (Kd.S_lower ho3 bz_);replace HB:=q_ (bs_ hb);clear hb ho3))
 go_loopg [3,4] k (fun kq v3 v4 w'=> ∃(ag:List (List Int)) (aa:Int),v4= .int .i64 aa∧Aside0 (spec_l07Turn.l0 kq l0 ag aa=some r)∧Aside0 (kq≤k)∧Aside0 (Kd.S (Kd.slice 2 (Kd.int .i64)) 29 w' w.heap.size (fun _=>True) v3 ag)∧Aside0 (Below w.heap.size w w'))
 case atStart=>exact⟨(au),(0),rs_,H',⟨Nat.le_refl _⟩,⟨so_ aD.out⟩,⟨hb_⟩⟩
 case round=>
  clear H'
  try clear c2
  try clear p2
  obtain⟨ag,aa,rfl,HA,HK1,af,HB⟩:=hrel
  cases gk with
  | zero=>exact absurd HA.out (by simp [spec_l07Turn.l0])
  | succ k1=>
   have H:=HA.out
   clear HA
   simp only [spec_l07Turn.l0] at H
   by_cases c4:0 < (l0.length:Int)
   ·rw [if_pos c4] at H
    have c4b0:decide (0 < (l0.length:Int))=true:=decide_eq_true c4
    have c4b1:decide (0 < l0.length)=true:=decide_eq_true (by omega)
    clear c4
    by_cases c5:aa < ((rd_L1 l0 0).length:Int)
    ·rw [if_pos c5] at H
     have c5b0:decide (aa < ((rd_L1 l0 0).length:Int))=true:=decide_eq_true c5
     clear c5
     obtain⟨av,hy193⟩: ∃y_:List Int,y_=(([]:List Int)):=⟨_,rfl⟩
     replace H:(spec_l07Turn.l1 k1 l0 ag aa av 0)=some r:=by first | (rw [hy193];with_reducible exact H) | (have H2_:=(Option.bind_some _ _).symm.trans H;rw [hy193];with_reducible exact H2_) | (have H2_:=(Option.bind_some _ _).symm.trans H;with_reducible exact H2_) | with_reducible exact H | (rw [hy193];exact H) | exact H
     have ak:=q_ hy193
     clear hy193
     have H':=q_ H
     clear H
     have p192:0≤(0:Int):=(by omega)
     have q192:0 < (l0.length:Int):=od_
     obtain⟨aq,aw,ax,e192,hx192_0,hl192_0,hi192_0⟩:=at_L1 HR0.out 0 p192 q192
     cases e192
     have qi192:(0 < l0.length)=True:=eq_true (by omega)
     (try rw [show ((0:Int)).toNat=0 from rfl] at hx192_0)
     (try rw [Addr.add_zero'] at hx192_0)
     replace hx192_0:=(HB.out.cell (World.block_lt_of_cell? w _ hx192_0)).trans hx192_0
     have HR192_0:=q_ hi192_0
     have HC192_0:=q_ hl192_0
     clear hi192_0 hl192_0
     replace p192:=eq_true p192
     replace q192:=eq_true q192
     go_wp2_with (first | ((with_reducible refine gate_dst (N:=16) rfl ?_);refine Kd.R_lit (Kd.int .i64) _ 2 ?hg (N:=16) ?hd (xs:=([]:List Int)) (inner:= []) (ok:=fun _=>True) (okp:=fun _=>True) ?hr ?hp (fun _ hk=>hk) trivial (Below.refl _ _) (Nat.le_refl _) (by simp) ?_;(case hd=>rfl);(case hg=>rfl);(case hr=>first | (go_simp;done) | (go_simp;rfl));(case hp=>exact(Reps.none _ _));intro aX w6 ho7 hb hg_ hnew_;clear hg_ hnew_;(first | rw [← ak.out] at ho7 | (simp only [Int.reduceToNat] at ho7;rw [← ak.out] at ho7));replace af:=q_ (Kd.S_elder' (so_ af.out) (Kd.R_base ho7) hb);have aG:=q_ (Kd.R_lower ho7 bz_);replace HB:=q_ (bs_ hb);clear hb ho7))
     go_loopg [5,6] k1 (fun kq v5 v6 w'=> ∃(ah:List Int) (ae:Int),v6= .int .i64 ae∧Aside0 (spec_l07Turn.l1 kq l0 ag aa ah ae=some r)∧Aside0 (kq≤k1)∧Aside0 (Kd.S (Kd.slice 2 (Kd.int .i64)) 29 w' w.heap.size (fun k_=>some k_≠(v5:Value).ownBlock) u3 ag)∧Aside0 (Kd.R (Kd.int .i64) 2 w' w.heap.size (fun _=>True) v5 ah)∧Aside0 (Below w.heap.size w w'))
     case atStart=>exact⟨(av),(0),rs_,H',⟨Nat.le_refl _⟩,⟨by(with_reducible repeat (first | apply Kd.S_alloc | apply Kd.S_drewN | apply Kd.S_drew));exact Kd.S_mono af.out (fun _ hk=>hk.2)⟩,⟨ro_ aG.out⟩,⟨hb_⟩⟩
     case round=>
      clear H'
      try clear c1
      try clear p1
      try clear q1
      try clear hx1
      try clear qi1
      try clear c2
      try clear p2
      try clear c4
      try clear c4b0
      try clear c4b1
      try clear c5
      try clear c5b0
      try clear hx192_0
      try clear p192
      try clear p2
      try clear q192
      obtain⟨ah,ae,rfl,HA,HK2,af,ai,HB⟩:=hrel
      cases gk with
      | zero=>exact absurd HA.out (by simp [spec_l07Turn.l1])
      | succ k2=>
       have H:=HA.out
       clear HA
       simp only [spec_l07Turn.l1] at H
       by_cases c8:ae < (l0.length:Int)
       ·rw [if_pos c8] at H
        have c8b0:decide (ae < (l0.length:Int))=true:=decide_eq_true c8
        clear c8
        by_cases c9:0≤ae
        ·rw [if_pos c9] at H
         have c9b0:decide (0≤ae)=true:=decide_eq_true c9
         clear c9
         by_cases c10:0≤aa
         ·rw [if_pos c10] at H
          have c10b0:decide (0≤aa)=true:=decide_eq_true c10
          clear c10
          by_cases c11:aa < ((rd_L1 l0 ae).length:Int)
          ·rw [if_pos c11] at H
           have c11b0:decide (aa < ((rd_L1 l0 ae).length:Int))=true:=decide_eq_true c11
           clear c11
           by_cases c12:ah.length < 17592186044416
           ·rw [if_pos c12] at H
            have aH:=q_ c12
            clear c12
            obtain⟨ay,hy198⟩: ∃y_:List Int,y_=(ah++ [rd (rd_L1 l0 ae) aa]):=⟨_,rfl⟩
            replace H:(spec_l07Turn.l1 k2 l0 ag aa ay (wrap64 (ae+1)))=some r:=by first | (rw [hy198];with_reducible exact H) | (have H2_:=(Option.bind_some _ _).symm.trans H;rw [hy198];with_reducible exact H2_) | (have H2_:=(Option.bind_some _ _).symm.trans H;with_reducible exact H2_) | with_reducible exact H | (rw [hy198];exact H) | exact H
            have aI:=q_ hy198
            clear hy198
            have H':=q_ H
            clear H
            have p196:0≤(ae:Int):=od_
            have q196:ae < (l0.length:Int):=od_
            obtain⟨aJ,aT,aU,e196,hx196_0,hl196_0,hi196_0⟩:=at_L1 HR0.out ae p196 q196
            obtain rfl:aq=aJ:=(by injection e196)
            replace hx196_0:=(HB.out.cell (World.block_lt_of_cell? w _ hx196_0)).trans hx196_0
            have HR196_0:=q_ hi196_0
            have HC196_0:=q_ hl196_0
            clear hi196_0 hl196_0
            replace p196:=eq_true p196
            replace q196:=eq_true q196
            have p197:0≤(aa:Int):=od_
            have q197:aa < ((rd_L1 l0 ae).length:Int):=od_
            obtain⟨aV,e197,hx197_0⟩:=Kd.at_int HR196_0.out aa p197 q197
            cases e197
            replace hx197_0:=(HB.out.cell (World.block_lt_of_cell? w _ hx197_0)).trans hx197_0
            replace p197:=eq_true p197
            replace q197:=eq_true q197
            go_wp2_with (first | ((with_reducible refine gate_builtin (b:= .append) (xs:= #[.tmp 23, .tmp 31]) rfl ?_);at_builtin;refine Kd.R_append (Kd.int .i64) (w0:=w) w.heap.size rfl (.tmp 23) (.tmp 31) 29 2 (.int .i64 0) 8 rfl Try.underlying29 info2 rfl (by decide) (by omega) u5 ah (rd (rd_L1 l0 ae) aa) [.int .i64 (rd (rd_L1 l0 ae) aa)] (fun _=>True) (fun _=>False) rfl rfl ?aP (fun _ hk=>hk.elim) ?aF ?aO ?aB ?aS ?aL ?_;(case aP=>exact rfl);(case aB=>exact hb_);(case aF=>exact(fun _ _=>trivial));(case aO=>exact(ro_ ai.out));(case aS=>exact bz_);(case aL=>have:=aH.out;omega);intro aY w13 ho hb hg hat;rw [← aI.out] at ho;replace af:=q_ (Kd.S_after (ok:=(fun _=>True)) (by(with_reducible repeat (first | apply Kd.S_alloc | apply Kd.S_drewN | apply Kd.S_drew));exact Kd.S_mono af.out (fun _ hk=>⟨trivial,hk⟩)) hg hat);replace HB:=q_ (hb);have aK:=q_ (ho);clear ai ho hb hg hat))
            go_roundg k2
            case measure=>have:=HK1.out;have:=HK2.out;omega
            case rel=>exact⟨(ay),(wrap64 (ae+1)),rs_,H',⟨by have:=HK1.out;have:=HK2.out;omega⟩,⟨by(with_reducible repeat (first | apply Kd.S_alloc | apply Kd.S_drewN | apply Kd.S_drew));exact Kd.S_mono af.out (fun _ hk=>hk.2)⟩,⟨ro_ aK.out⟩,⟨hb_⟩⟩
           ·rw [if_neg c12] at H
            exact absurd H (by simp)
          ·rw [if_neg c11] at H
           exact absurd H (by simp)
         ·rw [if_neg c10] at H
          exact absurd H (by simp)
        ·rw [if_neg c9] at H
         exact absurd H (by simp)
       ·rw [if_neg c8] at H
        have c8b0:decide (ae < (l0.length:Int))=false:=decide_eq_false c8
        clear c8
        by_cases c14:ag.length < 5864062014805
        ·rw [if_pos c14] at H
         have aM:=q_ c14
         clear c14
         obtain⟨az,hy201⟩: ∃y_:List (List Int),y_=(ag++ [ah]):=⟨_,rfl⟩
         replace H:(spec_l07Turn.l0 k2 l0 az (wrap64 (aa+1)))=some r:=by first | (rw [hy201];with_reducible exact H) | (have H2_:=(Option.bind_some _ _).symm.trans H;rw [hy201];with_reducible exact H2_) | (have H2_:=(Option.bind_some _ _).symm.trans H;with_reducible exact H2_) | with_reducible exact H | (rw [hy201];exact H) | exact H
         have aN:=q_ hy201
         clear hy201
         have H':=q_ H
         clear H
         obtain⟨aA,aC,aR⟩:=Kd.R_slice ai.out
         subst aR
         go_wp2_with (first | ((with_reducible refine gate_builtin (b:= .append) (xs:= #[.tmp 33, .tmp 35]) rfl ?_);at_builtin;refine Kd.S_append (Kd.slice 2 (Kd.int .i64)) (w0:=w) w.heap.size rfl (.tmp 33) (.tmp 35) 25 29 (.slice none 0 0) 24 rfl Try.underlying25 info29 rfl (by decide) (by omega) u3 ag ah [.slice aA ah.length aC] (fun _=>True) (fun k_=>some k_=(.slice aA ah.length aC:Value).ownBlock) rfl rfl ?aP (fun k_ hk_=>((Kd.R_mono (ok':=fun k_=>((fun _=>True)) k_∧some k_≠(u3:Value).ownBlock) (Kd.R_apart' (ai.out) (Kd.S_typed af.out) (by decide)) (fun k_ hk=>⟨trivial,hk.2⟩))).1 k_ hk_.symm) ?aF ?aO ?aB ?aS ?aL ?_;(case aP=>exact Kd.M_row (Kd.R_mono (Kd.R_tight rfl (Kd.R_mono (ok':=fun k_=>((fun _=>True)) k_∧some k_≠(u3:Value).ownBlock) (Kd.R_apart' (ai.out) (Kd.S_typed af.out) (by decide)) (fun k_ hk=>⟨trivial,hk.2⟩))) (fun _ h_=>h_)));(case aB=>exact hb_);(case aF=>exact(fun _ _=>trivial));(case aO=>exact(by(with_reducible repeat (first | apply Kd.S_alloc | apply Kd.S_drewN | apply Kd.S_drew));exact Kd.S_mono af.out (fun k_ hk=>⟨trivial,fun e_=>hk e_⟩)));(case aS=>exact bz_);(case aL=>have:=aM.out;omega);intro aZ w15 ho hb hg hat;rw [← aN.out] at ho;replace HB:=q_ (hb);have aQ:=q_ (ho);clear af ai ho hb hg hat))
         go_roundg k2
         case measure=>have:=HK1.out;have:=HK2.out;omega
         case rel=>exact⟨(az),(wrap64 (aa+1)),rs_,H',⟨by have:=HK1.out;have:=HK2.out;omega⟩,⟨so_ aQ.out⟩,⟨hb_⟩⟩
        ·rw [if_neg c14] at H
         exact absurd H (by simp)
    ·rw [if_neg c5] at H
     have c5b0:decide (aa < ((rd_L1 l0 0).length:Int))=false:=decide_eq_false c5
     clear c5
     obtain rfl:=Option.some.inj H
     have p192:0≤(0:Int):=(by omega)
     have q192:0 < (l0.length:Int):=od_
     obtain⟨aq,aw,ax,e192,hx192_0,hl192_0,hi192_0⟩:=at_L1 HR0.out 0 p192 q192
     cases e192
     have qi192:(0 < l0.length)=True:=eq_true (by omega)
     (try rw [show ((0:Int)).toNat=0 from rfl] at hx192_0)
     (try rw [Addr.add_zero'] at hx192_0)
     replace hx192_0:=(HB.out.cell (World.block_lt_of_cell? w _ hx192_0)).trans hx192_0
     have HR192_0:=q_ hi192_0
     have HC192_0:=q_ hl192_0
     clear hi192_0 hl192_0
     replace p192:=eq_true p192
     replace q192:=eq_true q192
     go_wp2
     go_ret
     exact⟨_,by first | rfl | (simp [errW_none,errW_some] <;> rfl) | (simp [*,errW_none,errW_some] <;> rfl),so_ af.out,hb_⟩
   ·rw [if_neg c4] at H
    exact absurd H (by simp)
mutual
def spec_l07Worse.l0:Nat→List (List Int)→List Int→List Int→Int→Option (Int)
 | 0,_,_,_,_=>none
 | k+1,x0,x1,x2,x7=>if x7 < (x1.length:Int) then(spec_l07Worse.l1 k x0 x1 x2 x7 0) else(some (-1))
def spec_l07Worse.l1:Nat→List (List Int)→List Int→List Int→Int→Int→Option (Int)
 | 0,_,_,_,_,_=>none
 | k+1,x0,x1,x2,x7,x8=>if x8 < (x1.length:Int) then(spec_l07Worse.l2 k x0 x1 x2 x7 x8 (x7 !=x8) 0) else(spec_l07Worse.l0 k x0 x1 x2 (wrap64 (x7+1)))
def spec_l07Worse.l2:Nat→List (List Int)→List Int→List Int→Int→Int→Bool→Int→Option (Int)
 | 0,_,_,_,_,_,_,_=>none
 | k+1,x0,x1,x2,x7,x8,x9,x10=>if x10 < (x2.length:Int) then(if x9=true then(if 0≤x7 then(if x7 < (x1.length:Int) then(if 0≤(rd x1 x7) then(if(rd x1 x7) < (x0.length:Int) then(if 0≤x10 then(if 0≤(rd x2 x10) then(if(rd x2 x10) < ((rd_L1 x0 (rd x1 x7)).length:Int) then(if 0≤x8 then(if x8 < (x1.length:Int) then(if 0≤(rd x1 x8) then(if(rd x1 x8) < (x0.length:Int) then(if(rd x2 x10) < ((rd_L1 x0 (rd x1 x8)).length:Int) then(spec_l07Worse.l2 k x0 x1 x2 x7 x8 (decide ((rd (rd_L1 x0 (rd x1 x7)) (rd x2 x10)) < (rd (rd_L1 x0 (rd x1 x8)) (rd x2 x10)))) (wrap64 (x10+1))) else(none)) else(none)) else(none)) else(none)) else(none)) else(none)) else(none)) else(none)) else(none)) else(none)) else(none)) else(none)) else(spec_l07Worse.l2 k x0 x1 x2 x7 x8 false (wrap64 (x10+1)))) else(if x9=true then(if 0≤x7 then(if x7 < (x1.length:Int) then(some (rd x1 x7)) else(none)) else(none)) else(spec_l07Worse.l1 k x0 x1 x2 x7 (wrap64 (x8+1))))
end
def spec_l07Worse.f (k:Nat) (l0:List (List Int)) (l1:List Int) (l2:List Int):Option (Int):=spec_l07Worse.l0 k l0 l1 l2 0
theorem spec_l07Worse.mono_l: ∀k,(∀y0 y1 y2 y3,LeO (spec_l07Worse.l0 k y0 y1 y2 y3) (spec_l07Worse.l0 (k+1) y0 y1 y2 y3))∧(∀y0 y1 y2 y3 y4,LeO (spec_l07Worse.l1 k y0 y1 y2 y3 y4) (spec_l07Worse.l1 (k+1) y0 y1 y2 y3 y4))∧(∀y0 y1 y2 y3 y4 y5 y6,LeO (spec_l07Worse.l2 k y0 y1 y2 y3 y4 y5 y6) (spec_l07Worse.l2 (k+1) y0 y1 y2 y3 y4 y5 y6))
 | 0=>⟨fun _ _ _ _ r h=>by simp [spec_l07Worse.l0] at h,fun _ _ _ _ _ r h=>by simp [spec_l07Worse.l1] at h,fun _ _ _ _ _ _ _ r h=>by simp [spec_l07Worse.l2] at h⟩
 | k+1=>by
  obtain⟨ih0,ih1,ih2⟩:=spec_l07Worse.mono_l k
  refine⟨?_,?_,?_⟩
  ·intro y0 y1 y2 y3
   unfold spec_l07Worse.l0
   repeat' first
   | (with_reducible exact ih0 _ _ _ _)
   | (with_reducible exact ih1 _ _ _ _ _)
   | (with_reducible exact ih2 _ _ _ _ _ _ _)
   | (with_reducible exact LeO.refl _)
   | (with_reducible exact LeO.none _)
   | (with_reducible refine LeO.ite ?_ ?_)
   | (with_reducible refine LeO.bind ?_ (fun _=>?_))
   | exact ih0 _ _ _ _
   | exact ih1 _ _ _ _ _
   | exact ih2 _ _ _ _ _ _ _
   | exact LeO.none _
   | refine LeO.ite ?_ ?_
   | refine LeO.bind ?_ (fun _=>?_)
  ·intro y0 y1 y2 y3 y4
   unfold spec_l07Worse.l1
   repeat' first
   | (with_reducible exact ih0 _ _ _ _)
   | (with_reducible exact ih1 _ _ _ _ _)
   | (with_reducible exact ih2 _ _ _ _ _ _ _)
   | (with_reducible exact LeO.refl _)
   | (with_reducible exact LeO.none _)
   | (with_reducible refine LeO.ite ?_ ?_)
   | (with_reducible refine LeO.bind ?_ (fun _=>?_))
   | exact ih0 _ _ _ _
   | exact ih1 _ _ _ _ _
   | exact ih2 _ _ _ _ _ _ _
   | exact LeO.none _
   | refine LeO.ite ?_ ?_
   | refine LeO.bind ?_ (fun _=>?_)
  ·intro y0 y1 y2 y3 y4 y5 y6
   unfold spec_l07Worse.l2
   repeat' first
   | (with_reducible exact ih0 _ _ _ _)
   | (with_reducible exact ih1 _ _ _ _ _)
   | (with_reducible exact ih2 _ _ _ _ _ _ _)
   | (with_reducible exact LeO.refl _)
   | (with_reducible exact LeO.none _)
   | (with_reducible refine LeO.ite ?_ ?_)
   | (with_reducible refine LeO.bind ?_ (fun _=>?_))
   | exact ih0 _ _ _ _
   | exact ih1 _ _ _ _ _
   | exact ih2 _ _ _ _ _ _ _
   | exact LeO.none _
   | refine LeO.ite ?_ ?_
   | refine LeO.bind ?_ (fun _=>?_)
theorem spec_l07Worse.mono: ∀a0 a1 a2 k,LeO (spec_l07Worse.f k a0 a1 a2) (spec_l07Worse.f (k+1) a0 a1 a2):=by
 intro a0 a1 a2 k
 obtain⟨ih0,ih1,ih2⟩:=spec_l07Worse.mono_l k
 unfold spec_l07Worse.f
 repeat' first
   | (with_reducible exact ih0 _ _ _ _)
   | (with_reducible exact ih1 _ _ _ _ _)
   | (with_reducible exact ih2 _ _ _ _ _ _ _)
   | (with_reducible exact LeO.refl _)
   | (with_reducible exact LeO.none _)
   | (with_reducible refine LeO.ite ?_ ?_)
   | (with_reducible refine LeO.bind ?_ (fun _=>?_))
   | exact ih0 _ _ _ _
   | exact ih1 _ _ _ _ _
   | exact ih2 _ _ _ _ _ _ _
   | exact LeO.none _
   | refine LeO.ite ?_ ?_
   | refine LeO.bind ?_ (fun _=>?_)
theorem spec_l07Worse.calls (k:Nat) (A0:Option Addr) (c0:Nat) (l0:List (List Int)) (A1:Option Addr) (c1:Nat) (l1:List Int) (A2:Option Addr) (c2:Nat) (l2:List Int) (r:Int) (w:World) (hr0:Kd.C (Kd.slice 2 (Kd.int .i64)) w A0 l0.length l0) (hc0:l0.length≤c0) (hr1:Kd.C (Kd.int .i64) w A1 l1.length l1) (hc1:l1.length≤c1) (hr2:Kd.C (Kd.int .i64) w A2 l2.length l2) (hc2:l2.length≤c2) (h:spec_l07Worse.f k l0 l1 l2=some r):
  Calls Try.prog 24 #[.slice A0 l0.length c0, .slice A1 l1.length c1, .slice A2 l2.length c2] w fun e w'=>e= .returned (.int .i64 r)∧Drawn0 w w':=by
 have HR0:=q_ hr0
 have HC0:=q_ hc0
 clear hr0 hc0
 have HR1:=q_ hr1
 have HC1:=q_ hc1
 clear hr1 hc1
 have HR2:=q_ hr2
 have HC2:=q_ hc2
 clear hr2 hc2
 have H:(spec_l07Worse.l0 k l0 l1 l2 0)=some r:=h
 clear h
 have H':=q_ H
 clear H
 go_enter Try.func24,Try.ntmps24
 go_wp2
 repeat (go_quiet (fail);try go_wp2)
 go_loopg [7] k (fun kq v7 w'=> ∃(ae:Int),v7= .int .i64 ae∧Aside0 (spec_l07Worse.l0 kq l0 l1 l2 ae=some r)∧Aside0 (kq≤k)∧Drawn0 w w')
 case atStart=>exact⟨(0),(by first | rfl | (simp;done) | (simp [*];done)),H',⟨Nat.le_refl _⟩,by repeat (first | exact Drawn0.refl _ | apply Drawn0.step)⟩
 case round=>
  clear H'
  try clear c1
  try clear c2
  try clear p2
  obtain⟨ae,rfl,HA,HK1,⟨m1,rfl⟩⟩:=hrel
  cases gk with
  | zero=>exact absurd HA.out (by simp [spec_l07Worse.l0])
  | succ k1=>
   have H:=HA.out
   clear HA
   simp only [spec_l07Worse.l0] at H
   by_cases c4:ae < (l1.length:Int)
   ·rw [if_pos c4] at H
    have c4b0:decide (ae < (l1.length:Int))=true:=decide_eq_true c4
    clear c4
    have H':=q_ H
    clear H
    go_wp2
    repeat (go_quiet (fail);try go_wp2)
    go_loopg [8] k1 (fun kq v8 w'=> ∃(af:Int),v8= .int .i64 af∧Aside0 (spec_l07Worse.l1 kq l0 l1 l2 ae af=some r)∧Aside0 (kq≤k1)∧Drawn0 w w')
    case atStart=>exact⟨(0),(by first | rfl | (simp;done) | (simp [*];done)),H',⟨Nat.le_refl _⟩,by repeat (first | exact Drawn0.refl _ | apply Drawn0.step)⟩
    case round=>
     clear H'
     try clear c1
     try clear c2
     try clear p2
     try clear c4
     try clear c4b0
     try clear p2
     obtain⟨af,rfl,HA,HK2,⟨m2,rfl⟩⟩:=hrel
     cases gk with
     | zero=>exact absurd HA.out (by simp [spec_l07Worse.l1])
     | succ k2=>
      have H:=HA.out
      clear HA
      simp only [spec_l07Worse.l1] at H
      by_cases c5:af < (l1.length:Int)
      ·rw [if_pos c5] at H
       have c5b0:decide (af < (l1.length:Int))=true:=decide_eq_true c5
       clear c5
       have H':=q_ H
       clear H
       go_wp2
       repeat (go_quiet (fail);try go_wp2)
       go_loopg [9,10] k2 (fun kq v9 v10 w'=> ∃(ag:Bool) (aa:Int),v9= .bool ag∧v10= .int .i64 aa∧Aside0 (spec_l07Worse.l2 kq l0 l1 l2 ae af ag aa=some r)∧Aside0 (kq≤k2)∧Drawn0 w w')
       case atStart=>exact⟨((ae !=af)),(0),(by first | rfl | (simp;done) | (simp [*];done)),(by first | rfl | (simp;done) | (simp [*];done)),H',⟨Nat.le_refl _⟩,by repeat (first | exact Drawn0.refl _ | apply Drawn0.step)⟩
       case round=>
        clear H'
        try clear c1
        try clear c2
        try clear p2
        try clear c4
        try clear c4b0
        try clear c5
        try clear c5b0
        try clear p2
        obtain⟨ag,aa,rfl,rfl,HA,HK3,⟨m3,rfl⟩⟩:=hrel
        cases gk with
        | zero=>exact absurd HA.out (by simp [spec_l07Worse.l2])
        | succ k3=>
         have H:=HA.out
         clear HA
         simp only [spec_l07Worse.l2] at H
         by_cases c6:aa < (l2.length:Int)
         ·rw [if_pos c6] at H
          have c6b0:decide (aa < (l2.length:Int))=true:=decide_eq_true c6
          clear c6
          by_cases c7:ag=true
          ·subst c7
           have H1:(if 0≤ae then(if ae < (l1.length:Int) then(if 0≤(rd l1 ae) then(if(rd l1 ae) < (l0.length:Int) then(if 0≤aa then(if 0≤(rd l2 aa) then(if(rd l2 aa) < ((rd_L1 l0 (rd l1 ae)).length:Int) then(if 0≤af then(if af < (l1.length:Int) then(if 0≤(rd l1 af) then(if(rd l1 af) < (l0.length:Int) then(if(rd l2 aa) < ((rd_L1 l0 (rd l1 af)).length:Int) then(spec_l07Worse.l2 k3 l0 l1 l2 ae af (decide ((rd (rd_L1 l0 (rd l1 ae)) (rd l2 aa)) < (rd (rd_L1 l0 (rd l1 af)) (rd l2 aa)))) (wrap64 (aa+1))) else(none)) else(none)) else(none)) else(none)) else(none)) else(none)) else(none)) else(none)) else(none)) else(none)) else(none)) else(none))=some r:=by rw [if_pos rfl] at H;exact H
           clear H
           have H:=H1
           clear H1
           by_cases c8:0≤ae
           ·rw [if_pos c8] at H
            have c8b0:decide (0≤ae)=true:=decide_eq_true c8
            clear c8
            by_cases c9:ae < (l1.length:Int)
            ·rw [if_pos c9] at H
             have c9b0:decide (ae < (l1.length:Int))=true:=decide_eq_true c9
             clear c9
             by_cases c10:0≤(rd l1 ae)
             ·rw [if_pos c10] at H
              have c10b0:decide (0≤(rd l1 ae))=true:=decide_eq_true c10
              clear c10
              by_cases c11:(rd l1 ae) < (l0.length:Int)
              ·rw [if_pos c11] at H
               have c11b0:decide ((rd l1 ae) < (l0.length:Int))=true:=decide_eq_true c11
               clear c11
               by_cases c12:0≤aa
               ·rw [if_pos c12] at H
                have c12b0:decide (0≤aa)=true:=decide_eq_true c12
                clear c12
                by_cases c13:0≤(rd l2 aa)
                ·rw [if_pos c13] at H
                 have c13b0:decide (0≤(rd l2 aa))=true:=decide_eq_true c13
                 clear c13
                 by_cases c14:(rd l2 aa) < ((rd_L1 l0 (rd l1 ae)).length:Int)
                 ·rw [if_pos c14] at H
                  have c14b0:decide ((rd l2 aa) < ((rd_L1 l0 (rd l1 ae)).length:Int))=true:=decide_eq_true c14
                  clear c14
                  by_cases c15:0≤af
                  ·rw [if_pos c15] at H
                   have c15b0:decide (0≤af)=true:=decide_eq_true c15
                   clear c15
                   by_cases c16:af < (l1.length:Int)
                   ·rw [if_pos c16] at H
                    have c16b0:decide (af < (l1.length:Int))=true:=decide_eq_true c16
                    clear c16
                    by_cases c17:0≤(rd l1 af)
                    ·rw [if_pos c17] at H
                     have c17b0:decide (0≤(rd l1 af))=true:=decide_eq_true c17
                     clear c17
                     by_cases c18:(rd l1 af) < (l0.length:Int)
                     ·rw [if_pos c18] at H
                      have c18b0:decide ((rd l1 af) < (l0.length:Int))=true:=decide_eq_true c18
                      clear c18
                      by_cases c19:(rd l2 aa) < ((rd_L1 l0 (rd l1 af)).length:Int)
                      ·rw [if_pos c19] at H
                       have c19b0:decide ((rd l2 aa) < ((rd_L1 l0 (rd l1 af)).length:Int))=true:=decide_eq_true c19
                       clear c19
                       have H':=q_ H
                       clear H
                       have p204:0≤(ae:Int):=of_decide_eq_true (by first | (with_reducible assumption) | assumption)
                       have q204:ae < (l1.length:Int):=of_decide_eq_true (by first | (with_reducible assumption) | assumption)
                       obtain⟨ah,e204,hx204_0⟩:=Kd.at_int HR1.out ae p204 q204
                       cases e204
                       replace p204:=eq_true p204
                       replace q204:=eq_true q204
                       have p205:0≤((rd l1 ae):Int):=of_decide_eq_true (by first | (with_reducible assumption) | assumption)
                       have q205:(rd l1 ae) < (l0.length:Int):=of_decide_eq_true (by first | (with_reducible assumption) | assumption)
                       obtain⟨ai,av,aw,e205,hx205_0,hl205_0,hi205_0⟩:=at_L1 HR0.out (rd l1 ae) p205 q205
                       cases e205
                       have HR205_0:=q_ hi205_0
                       have HC205_0:=q_ hl205_0
                       clear hi205_0 hl205_0
                       replace p205:=eq_true p205
                       replace q205:=eq_true q205
                       have p206:0≤(aa:Int):=of_decide_eq_true (by first | (with_reducible assumption) | assumption)
                       have q206:aa < (l2.length:Int):=of_decide_eq_true (by first | (with_reducible assumption) | assumption)
                       obtain⟨aj,e206,hx206_0⟩:=Kd.at_int HR2.out aa p206 q206
                       cases e206
                       replace p206:=eq_true p206
                       replace q206:=eq_true q206
                       have p207:0≤((rd l2 aa):Int):=of_decide_eq_true (by first | (with_reducible assumption) | assumption)
                       have q207:(rd l2 aa) < ((rd_L1 l0 (rd l1 ae)).length:Int):=of_decide_eq_true (by first | (with_reducible assumption) | assumption)
                       obtain⟨az,e207,hx207_0⟩:=Kd.at_int HR205_0.out (rd l2 aa) p207 q207
                       cases e207
                       replace p207:=eq_true p207
                       replace q207:=eq_true q207
                       have p208:0≤(af:Int):=of_decide_eq_true (by first | (with_reducible assumption) | assumption)
                       have q208:af < (l1.length:Int):=of_decide_eq_true (by first | (with_reducible assumption) | assumption)
                       obtain⟨ak,e208,hx208_0⟩:=Kd.at_int HR1.out af p208 q208
                       obtain rfl:ah=ak:=(by injection e208)
                       replace p208:=eq_true p208
                       replace q208:=eq_true q208
                       have p209:0≤((rd l1 af):Int):=of_decide_eq_true (by first | (with_reducible assumption) | assumption)
                       have q209:(rd l1 af) < (l0.length:Int):=of_decide_eq_true (by first | (with_reducible assumption) | assumption)
                       obtain⟨aq,ax,ay,e209,hx209_0,hl209_0,hi209_0⟩:=at_L1 HR0.out (rd l1 af) p209 q209
                       obtain rfl:ai=aq:=(by injection e209)
                       have HR209_0:=q_ hi209_0
                       have HC209_0:=q_ hl209_0
                       clear hi209_0 hl209_0
                       replace p209:=eq_true p209
                       replace q209:=eq_true q209
                       have p210:0≤(aa:Int):=of_decide_eq_true (by first | (with_reducible assumption) | assumption)
                       have q210:aa < (l2.length:Int):=of_decide_eq_true (by first | (with_reducible assumption) | assumption)
                       obtain⟨au,e210,hx210_0⟩:=Kd.at_int HR2.out aa p210 q210
                       obtain rfl:aj=au:=(by injection e210)
                       replace p210:=eq_true p210
                       replace q210:=eq_true q210
                       have p211:0≤((rd l2 aa):Int):=of_decide_eq_true (by first | (with_reducible assumption) | assumption)
                       have q211:(rd l2 aa) < ((rd_L1 l0 (rd l1 af)).length:Int):=of_decide_eq_true (by first | (with_reducible assumption) | assumption)
                       obtain⟨aA,e211,hx211_0⟩:=Kd.at_int HR209_0.out (rd l2 aa) p211 q211
                       cases e211
                       replace p211:=eq_true p211
                       replace q211:=eq_true q211
                       go_wp2
                       repeat (go_quiet (fail);try go_wp2)
                       go_roundg k3
                       case measure=>have:=HK1.out;have:=HK2.out;have:=HK3.out;omega
                       case rel=>exact⟨(decide ((rd (rd_L1 l0 (rd l1 ae)) (rd l2 aa)) < (rd (rd_L1 l0 (rd l1 af)) (rd l2 aa)))),(wrap64 (aa+1)),(by first | rfl | (simp;done) | (simp [*];done)),(by first | rfl | (simp;done) | (simp [*];done)),H',⟨by have:=HK1.out;have:=HK2.out;have:=HK3.out;omega⟩,by repeat (first | exact Drawn0.refl _ | apply Drawn0.step)⟩
                      ·rw [if_neg c19] at H
                       exact absurd H (by simp)
                     ·rw [if_neg c18] at H
                      exact absurd H (by simp)
                    ·rw [if_neg c17] at H
                     exact absurd H (by simp)
                   ·rw [if_neg c16] at H
                    exact absurd H (by simp)
                  ·rw [if_neg c15] at H
                   exact absurd H (by simp)
                 ·rw [if_neg c14] at H
                  exact absurd H (by simp)
                ·rw [if_neg c13] at H
                 exact absurd H (by simp)
               ·rw [if_neg c12] at H
                exact absurd H (by simp)
              ·rw [if_neg c11] at H
               exact absurd H (by simp)
             ·rw [if_neg c10] at H
              exact absurd H (by simp)
            ·rw [if_neg c9] at H
             exact absurd H (by simp)
           ·rw [if_neg c8] at H
            exact absurd H (by simp)
          ·replace c7:=Bool.eq_false_iff.mpr c7
           subst c7
           have H1:(spec_l07Worse.l2 k3 l0 l1 l2 ae af false (wrap64 (aa+1)))=some r:=by rw [if_neg (show ¬ (false=true) by decide)] at H;exact H
           clear H
           have H:=H1
           clear H1
           have H':=q_ H
           clear H
           go_wp2
           repeat (go_quiet (fail);try go_wp2)
           go_roundg k3
           case measure=>have:=HK1.out;have:=HK2.out;have:=HK3.out;omega
           case rel=>exact⟨(false),(wrap64 (aa+1)),(by first | rfl | (simp;done) | (simp [*];done)),(by first | rfl | (simp;done) | (simp [*];done)),H',⟨by have:=HK1.out;have:=HK2.out;have:=HK3.out;omega⟩,by repeat (first | exact Drawn0.refl _ | apply Drawn0.step)⟩
         ·rw [if_neg c6] at H
          have c6b0:decide (aa < (l2.length:Int))=false:=decide_eq_false c6
          clear c6
          by_cases c20:ag=true
          ·subst c20
           have H1:(if 0≤ae then(if ae < (l1.length:Int) then(some (rd l1 ae)) else(none)) else(none))=some r:=by rw [if_pos rfl] at H;exact H
           clear H
           have H:=H1
           clear H1
           by_cases c21:0≤ae
           ·rw [if_pos c21] at H
            have c21b0:decide (0≤ae)=true:=decide_eq_true c21
            clear c21
            by_cases c22:ae < (l1.length:Int)
            ·rw [if_pos c22] at H
             have c22b0:decide (ae < (l1.length:Int))=true:=decide_eq_true c22
             clear c22
             obtain rfl:=Option.some.inj H
             have p212:0≤(ae:Int):=of_decide_eq_true (by first | (with_reducible assumption) | assumption)
             have q212:ae < (l1.length:Int):=of_decide_eq_true (by first | (with_reducible assumption) | assumption)
             obtain⟨aC,e212,hx212_0⟩:=Kd.at_int HR1.out ae p212 q212
             cases e212
             replace p212:=eq_true p212
             replace q212:=eq_true q212
             go_wp2
             repeat (go_quiet (fail);try go_wp2)
             go_ret
             exact⟨by first | rfl | (simp;done) | (simp [*];done),by repeat (first | exact Drawn0.refl _ | apply Drawn0.step)⟩
            ·rw [if_neg c22] at H
             exact absurd H (by simp)
           ·rw [if_neg c21] at H
            exact absurd H (by simp)
          ·replace c20:=Bool.eq_false_iff.mpr c20
           subst c20
           have H1:(spec_l07Worse.l1 k3 l0 l1 l2 ae (wrap64 (af+1)))=some r:=by rw [if_neg (show ¬ (false=true) by decide)] at H;exact H
           clear H
           have H:=H1
           clear H1
           have H':=q_ H
           clear H
           go_wp2
           repeat (go_quiet (fail);try go_wp2)
           go_roundg k3
           case measure=>have:=HK1.out;have:=HK2.out;have:=HK3.out;omega
           case rel=>exact⟨(wrap64 (af+1)),(by first | rfl | (simp;done) | (simp [*];done)),H',⟨by have:=HK1.out;have:=HK2.out;have:=HK3.out;omega⟩,by repeat (first | exact Drawn0.refl _ | apply Drawn0.step)⟩
      ·rw [if_neg c5] at H
       have c5b0:decide (af < (l1.length:Int))=false:=decide_eq_false c5
       clear c5
       have H':=q_ H
       clear H
       go_wp2
       repeat (go_quiet (fail);try go_wp2)
       go_roundg k2
       case measure=>have:=HK1.out;have:=HK2.out;omega
       case rel=>exact⟨(wrap64 (ae+1)),(by first | rfl | (simp;done) | (simp [*];done)),H',⟨by have:=HK1.out;have:=HK2.out;omega⟩,by repeat (first | exact Drawn0.refl _ | apply Drawn0.step)⟩
   ·rw [if_neg c4] at H
    have c4b0:decide (ae < (l1.length:Int))=false:=decide_eq_false c4
    clear c4
    obtain rfl:=Option.some.inj H
    go_wp2
    repeat (go_quiet (fail);try go_wp2)
    go_ret
    exact⟨by first | rfl | (simp;done) | (simp [*];done),by repeat (first | exact Drawn0.refl _ | apply Drawn0.step)⟩
def spec_l07Less.l0:Nat→List Int→Int→List Int→Int→Option (List Int)
 | 0,_,_,_,_=>none
 | k+1,x0,x1,x5,x6=>if x6 < (x0.length:Int) then(if 0≤x6 then(if(rd x0 x6)=x1 then(spec_l07Less.l0 k x0 x1 x5 (wrap64 (x6+1))) else(if x5.length < 17592186044416 then(spec_l07Less.l0 k x0 x1 (x5++ [rd x0 x6]) (wrap64 (x6+1))) else(none))) else(none)) else(some x5)
def spec_l07Less.f (k:Nat) (l0:List Int) (a1:Int):Option (List Int):=spec_l07Less.l0 k l0 a1 (([]:List Int)) 0
theorem spec_l07Less.mono_l: ∀k,(∀y0 y1 y2 y3,LeO (spec_l07Less.l0 k y0 y1 y2 y3) (spec_l07Less.l0 (k+1) y0 y1 y2 y3))
 | 0=>fun _ _ _ _ r h=>by simp [spec_l07Less.l0] at h
 | k+1=>by
  have ih0:=spec_l07Less.mono_l k
  ·intro y0 y1 y2 y3
   unfold spec_l07Less.l0
   repeat' first
   | (with_reducible exact ih0 _ _ _ _)
   | (with_reducible exact LeO.refl _)
   | (with_reducible exact LeO.none _)
   | (with_reducible refine LeO.ite ?_ ?_)
   | (with_reducible refine LeO.bind ?_ (fun _=>?_))
   | exact ih0 _ _ _ _
   | exact LeO.none _
   | refine LeO.ite ?_ ?_
   | refine LeO.bind ?_ (fun _=>?_)
theorem spec_l07Less.mono: ∀a0 a1 k,LeO (spec_l07Less.f k a0 a1) (spec_l07Less.f (k+1) a0 a1):=by
 intro a0 a1 k
 have ih0:=spec_l07Less.mono_l k
 unfold spec_l07Less.f
 repeat' first
   | (with_reducible exact ih0 _ _ _ _)
   | (with_reducible exact LeO.refl _)
   | (with_reducible exact LeO.none _)
   | (with_reducible refine LeO.ite ?_ ?_)
   | (with_reducible refine LeO.bind ?_ (fun _=>?_))
   | exact ih0 _ _ _ _
   | exact LeO.none _
   | refine LeO.ite ?_ ?_
   | refine LeO.bind ?_ (fun _=>?_)
theorem spec_l07Less.calls (k:Nat) (A0:Option Addr) (c0:Nat) (l0:List Int) (a1:Int) (r:List Int) (w:World) (hr0:Kd.C (Kd.int .i64) w A0 l0.length l0) (hc0:l0.length≤c0) (h:spec_l07Less.f k l0 a1=some r):
  Calls Try.prog 25 #[.slice A0 l0.length c0, .int .i64 a1] w fun e w'=> ∃v0_:Value,e= .returned (v0_)∧Kd.R (Kd.int .i64) 2 w' w.heap.size (fun _=>True) v0_ r∧Below w.heap.size w w':=by
 have HR0:=q_ hr0
 have HC0:=q_ hc0
 clear hr0 hc0
 have HB:=q_ (Below.refl w.heap.size w)
 have H:(spec_l07Less.l0 k l0 a1 (([]:List Int)) 0)=some r:=h
 clear h
 obtain⟨ai,hy213⟩: ∃y_:List Int,y_=(([]:List Int)):=⟨_,rfl⟩
 replace H:(spec_l07Less.l0 k l0 a1 ai 0)=some r:=by first | (rw [hy213];with_reducible exact H) | (have H2_:=(Option.bind_some _ _).symm.trans H;rw [hy213];with_reducible exact H2_) | (have H2_:=(Option.bind_some _ _).symm.trans H;with_reducible exact H2_) | with_reducible exact H | (rw [hy213];exact H) | exact H
 have ag:=q_ hy213
 clear hy213
 have H':=q_ H
 clear H
 go_enter Try.func25,Try.ntmps25
 go_wp2_with (first | ((with_reducible refine gate_dst (N:=7) rfl ?_);refine Kd.R_lit (Kd.int .i64) _ 2 ?hg (N:=7) ?hd (xs:=([]:List Int)) (inner:= []) (ok:=fun _=>True) (okp:=fun _=>True) ?hr ?hp (fun _ hk=>hk) trivial (Below.refl _ _) (Nat.le_refl _) (by simp) ?_;(case hd=>rfl);(case hg=>rfl);(case hr=>first | (go_simp;done) | (go_simp;rfl));(case hp=>exact(Reps.none _ _));intro ax w3 ho4 hb hg_ hnew_;clear hg_ hnew_;(first | rw [← ag.out] at ho4 | (simp only [Int.reduceToNat] at ho4;rw [← ag.out] at ho4));have ak:=q_ (Kd.R_lower ho4 bz_);replace HB:=q_ (bs_ hb);clear hb ho4))
 go_loopg [5,6] k (fun kq v5 v6 w'=> ∃(ae:List Int) (aa:Int),v6= .int .i64 aa∧Aside0 (spec_l07Less.l0 kq l0 a1 ae aa=some r)∧Aside0 (kq≤k)∧Aside0 (Kd.R (Kd.int .i64) 2 w' w.heap.size (fun _=>True) v5 ae)∧Aside0 (Below w.heap.size w w'))
 case atStart=>exact⟨(ai),(0),rs_,H',⟨Nat.le_refl _⟩,⟨ro_ ak.out⟩,⟨hb_⟩⟩
 case round=>
  clear H'
  try clear c2
  try clear p2
  obtain⟨ae,aa,rfl,HA,HK1,af,HB⟩:=hrel
  cases gk with
  | zero=>exact absurd HA.out (by simp [spec_l07Less.l0])
  | succ k1=>
   have H:=HA.out
   clear HA
   simp only [spec_l07Less.l0] at H
   by_cases c5:aa < (l0.length:Int)
   ·rw [if_pos c5] at H
    have c5b0:decide (aa < (l0.length:Int))=true:=decide_eq_true c5
    clear c5
    by_cases c6:0≤aa
    ·rw [if_pos c6] at H
     have c6b0:decide (0≤aa)=true:=decide_eq_true c6
     clear c6
     by_cases c7:(rd l0 aa)=a1
     ·rw [if_pos c7] at H
      have c7b0:((rd l0 aa)==a1)=true:=beq_iff_eq.mpr c7
      have c7b1:((rd l0 aa) !=a1)=false:=bne_eq_false_iff_eq.mpr c7
      clear c7
      have H':=q_ H
      clear H
      have p216:0≤(aa:Int):=od_
      have q216:aa < (l0.length:Int):=od_
      obtain⟨ah,e216,hx216_0⟩:=Kd.at_int HR0.out aa p216 q216
      cases e216
      replace hx216_0:=(HB.out.cell (World.block_lt_of_cell? w _ hx216_0)).trans hx216_0
      replace p216:=eq_true p216
      replace q216:=eq_true q216
      go_wp2
      go_roundg k1
      case measure=>have:=HK1.out;omega
      case rel=>exact⟨(ae),(wrap64 (aa+1)),rs_,H',⟨by have:=HK1.out;omega⟩,⟨ro_ af.out⟩,⟨hb_⟩⟩
     ·rw [if_neg c7] at H
      have c7b0:((rd l0 aa)==a1)=false:=beq_eq_false_iff_ne.mpr c7
      have c7b1:((rd l0 aa) !=a1)=true:=bne_iff_ne.mpr c7
      by_cases c8:ae.length < 17592186044416
      ·rw [if_pos c8] at H
       have aw:=q_ c8
       clear c8
       obtain⟨aj,hy218⟩: ∃y_:List Int,y_=(ae++ [rd l0 aa]):=⟨_,rfl⟩
       replace H:(spec_l07Less.l0 k1 l0 a1 aj (wrap64 (aa+1)))=some r:=by first | (rw [hy218];with_reducible exact H) | (have H2_:=(Option.bind_some _ _).symm.trans H;rw [hy218];with_reducible exact H2_) | (have H2_:=(Option.bind_some _ _).symm.trans H;with_reducible exact H2_) | with_reducible exact H | (rw [hy218];exact H) | exact H
       have aq:=q_ hy218
       clear hy218
       have H':=q_ H
       clear H
       have p216:0≤(aa:Int):=od_
       have q216:aa < (l0.length:Int):=od_
       obtain⟨ah,e216,hx216_0⟩:=Kd.at_int HR0.out aa p216 q216
       cases e216
       replace hx216_0:=(HB.out.cell (World.block_lt_of_cell? w _ hx216_0)).trans hx216_0
       replace p216:=eq_true p216
       replace q216:=eq_true q216
       have p217:0≤(aa:Int):=od_
       have q217:aa < (l0.length:Int):=od_
       obtain⟨au,e217,hx217_0⟩:=Kd.at_int HR0.out aa p217 q217
       obtain rfl:ah=au:=(by injection e217)
       replace hx217_0:=(HB.out.cell (World.block_lt_of_cell? w _ hx217_0)).trans hx217_0
       replace p217:=eq_true p217
       replace q217:=eq_true q217
       go_wp2_with (first | ((with_reducible refine gate_builtin (b:= .append) (xs:= #[.tmp 20, .tmp 25]) rfl ?_);at_builtin;refine Kd.R_append (Kd.int .i64) (w0:=w) w.heap.size rfl (.tmp 20) (.tmp 25) 29 2 (.int .i64 0) 8 rfl Try.underlying29 info2 rfl (by decide) (by omega) u5 ae (rd l0 aa) [.int .i64 (rd l0 aa)] (fun _=>True) (fun _=>False) rfl rfl ?aP (fun _ hk=>hk.elim) ?aF ?aO ?aB ?aS ?aL ?_;(case aP=>exact rfl);(case aB=>exact hb_);(case aF=>exact(fun _ _=>trivial));(case aO=>exact(ro_ af.out));(case aS=>exact bz_);(case aL=>have:=aw.out;omega);intro ay w9 ho hb hg hat;rw [← aq.out] at ho;replace HB:=q_ (hb);have av:=q_ (ho);clear af ho hb hg hat))
       go_roundg k1
       case measure=>have:=HK1.out;omega
       case rel=>exact⟨(aj),(wrap64 (aa+1)),rs_,H',⟨by have:=HK1.out;omega⟩,⟨ro_ av.out⟩,⟨hb_⟩⟩
      ·rw [if_neg c8] at H
       exact absurd H (by simp)
    ·rw [if_neg c6] at H
     exact absurd H (by simp)
   ·rw [if_neg c5] at H
    have c5b0:decide (aa < (l0.length:Int))=false:=decide_eq_false c5
    clear c5
    obtain rfl:=Option.some.inj H
    go_wp2
    go_ret
    exact⟨_,by first | rfl | (simp [errW_none,errW_some] <;> rfl) | (simp [*,errW_none,errW_some] <;> rfl),ro_ af.out,hb_⟩
mutual
def spec_RemainingChoices.l0:Nat→List Int→List Int→List (List Int)→Int→List (List Int)→List (List Int)→Option (List Int × List Int × Int)
 | 0,_,_,_,_,_,_=>none
 | k+1,x5,x6,x7,x8,aa,ae=>if x8 < (aa.length:Int) then(if x5.length < 17592186044416 then(spec_RemainingChoices.l0 k (x5++ [x8]) x6 x7 (wrap64 (x8+1)) aa ae) else(none)) else(spec_RemainingChoices.l1 k x5 x6 x7 0 aa ae)
def spec_RemainingChoices.l1:Nat→List Int→List Int→List (List Int)→Int→List (List Int)→List (List Int)→Option (List Int × List Int × Int)
 | 0,_,_,_,_,_,_=>none
 | k+1,x5,x6,x7,x9,aa,ae=>if 0 < (aa.length:Int) then(if x9 < ((rd_L1 aa 0).length:Int) then(if x6.length < 17592186044416 then(spec_RemainingChoices.l1 k x5 (x6++ [x9]) x7 (wrap64 (x9+1)) aa ae) else(none)) else(spec_RemainingChoices.l2 k x5 x6 x7 aa ae)) else(none)
def spec_RemainingChoices.l2:Nat→List Int→List Int→List (List Int)→List (List Int)→List (List Int)→Option (List Int × List Int × Int)
 | 0,_,_,_,_,_=>none
 | k+1,x5,x6,x7,aa,ae=>(spec_l07Worse.f k aa x5 x6).bind fun af=>(if af ≥ 0 then((spec_l07Less.f k x5 af).bind fun ah=>(spec_RemainingChoices.l2 k ah x6 x7 aa ae)) else((spec_l07Worse.f k x7 x6 x5).bind fun ag=>(if ag < 0 then(some (x5,x6,0)) else((spec_l07Less.f k x6 ag).bind fun ai=>(spec_RemainingChoices.l2 k x5 ai x7 aa ae)))))
end
def spec_RemainingChoices.f (k:Nat) (ae:List (List Int)) (aa:List (List Int)):Option (List Int × List Int × Int):=(spec_l07Is.f k ae aa).bind fun af=>(if af=true then((spec_l07Turn.f k aa).bind fun ag=>(spec_RemainingChoices.l0 k (([]:List Int)) (([]:List Int)) ag 0 ae aa)) else(some (([]:List Int),([]:List Int),1)))
theorem spec_RemainingChoices.mono_l: ∀k,(∀y0 y1 y2 y3 y4 y5,LeO (spec_RemainingChoices.l0 k y0 y1 y2 y3 y4 y5) (spec_RemainingChoices.l0 (k+1) y0 y1 y2 y3 y4 y5))∧(∀y0 y1 y2 y3 y4 y5,LeO (spec_RemainingChoices.l1 k y0 y1 y2 y3 y4 y5) (spec_RemainingChoices.l1 (k+1) y0 y1 y2 y3 y4 y5))∧(∀y0 y1 y2 y3 y4,LeO (spec_RemainingChoices.l2 k y0 y1 y2 y3 y4) (spec_RemainingChoices.l2 (k+1) y0 y1 y2 y3 y4))
 | 0=>⟨fun _ _ _ _ _ _ r h=>by simp [spec_RemainingChoices.l0] at h,fun _ _ _ _ _ _ r h=>by simp [spec_RemainingChoices.l1] at h,fun _ _ _ _ _ r h=>by simp [spec_RemainingChoices.l2] at h⟩
 | k+1=>by
  obtain⟨ih0,ih1,ih2⟩:=spec_RemainingChoices.mono_l k
  refine⟨?_,?_,?_⟩
  ·intro y0 y1 y2 y3 y4 y5
   unfold spec_RemainingChoices.l0
   repeat' first
   | (with_reducible exact ih0 _ _ _ _ _ _)
   | (with_reducible exact ih1 _ _ _ _ _ _)
   | (with_reducible exact ih2 _ _ _ _ _)
   | (with_reducible exact spec_l07Is.mono _ _ _)
   | (with_reducible exact spec_l07Less.mono _ _ _)
   | (with_reducible exact spec_l07Turn.mono _ _)
   | (with_reducible exact spec_l07Worse.mono _ _ _ _)
   | (with_reducible exact LeO.refl _)
   | (with_reducible exact LeO.none _)
   | (with_reducible refine LeO.ite ?_ ?_)
   | (with_reducible refine LeO.bind ?_ (fun _=>?_))
   | exact ih0 _ _ _ _ _ _
   | exact ih1 _ _ _ _ _ _
   | exact ih2 _ _ _ _ _
   | exact spec_l07Is.mono _ _ _
   | exact spec_l07Less.mono _ _ _
   | exact spec_l07Turn.mono _ _
   | exact spec_l07Worse.mono _ _ _ _
   | exact LeO.none _
   | refine LeO.ite ?_ ?_
   | refine LeO.bind ?_ (fun _=>?_)
  ·intro y0 y1 y2 y3 y4 y5
   unfold spec_RemainingChoices.l1
   repeat' first
   | (with_reducible exact ih0 _ _ _ _ _ _)
   | (with_reducible exact ih1 _ _ _ _ _ _)
   | (with_reducible exact ih2 _ _ _ _ _)
   | (with_reducible exact spec_l07Is.mono _ _ _)
   | (with_reducible exact spec_l07Less.mono _ _ _)
   | (with_reducible exact spec_l07Turn.mono _ _)
   | (with_reducible exact spec_l07Worse.mono _ _ _ _)
   | (with_reducible exact LeO.refl _)
   | (with_reducible exact LeO.none _)
   | (with_reducible refine LeO.ite ?_ ?_)
   | (with_reducible refine LeO.bind ?_ (fun _=>?_))
   | exact ih0 _ _ _ _ _ _
   | exact ih1 _ _ _ _ _ _
   | exact ih2 _ _ _ _ _
   | exact spec_l07Is.mono _ _ _
   | exact spec_l07Less.mono _ _ _
   | exact spec_l07Turn.mono _ _
   | exact spec_l07Worse.mono _ _ _ _
   | exact LeO.none _
   | refine LeO.ite ?_ ?_
   | refine LeO.bind ?_ (fun _=>?_)
  ·intro y0 y1 y2 y3 y4
   unfold spec_RemainingChoices.l2
   repeat' first
   | (with_reducible exact ih0 _ _ _ _ _ _)
   | (with_reducible exact ih1 _ _ _ _ _ _)
   | (with_reducible exact ih2 _ _ _ _ _)
   | (with_reducible exact spec_l07Is.mono _ _ _)
   | (with_reducible exact spec_l07Less.mono _ _ _)
   | (with_reducible exact spec_l07Turn.mono _ _)
   | (with_reducible exact spec_l07Worse.mono _ _ _ _)
   | (with_reducible exact LeO.refl _)
   | (with_reducible exact LeO.none _)
   | (with_reducible refine LeO.ite ?_ ?_)
   | (with_reducible refine LeO.bind ?_ (fun _=>?_))
   | exact ih0 _ _ _ _ _ _
   | exact ih1 _ _ _ _ _ _
   | exact ih2 _ _ _ _ _
   | exact spec_l07Is.mono _ _ _
   | exact spec_l07Less.mono _ _ _
   | exact spec_l07Turn.mono _ _
   | exact spec_l07Worse.mono _ _ _ _
   | exact LeO.none _
   | refine LeO.ite ?_ ?_
   | refine LeO.bind ?_ (fun _=>?_)
theorem spec_RemainingChoices.mono: ∀a0 a1 k,LeO (spec_RemainingChoices.f k a0 a1) (spec_RemainingChoices.f (k+1) a0 a1):=by
 intro a0 a1 k
 obtain⟨ih0,ih1,ih2⟩:=spec_RemainingChoices.mono_l k
 unfold spec_RemainingChoices.f
 repeat' first
   | (with_reducible exact ih0 _ _ _ _ _ _)
   | (with_reducible exact ih1 _ _ _ _ _ _)
   | (with_reducible exact ih2 _ _ _ _ _)
   | (with_reducible exact spec_l07Is.mono _ _ _)
   | (with_reducible exact spec_l07Less.mono _ _ _)
   | (with_reducible exact spec_l07Turn.mono _ _)
   | (with_reducible exact spec_l07Worse.mono _ _ _ _)
   | (with_reducible exact LeO.refl _)
   | (with_reducible exact LeO.none _)
   | (with_reducible refine LeO.ite ?_ ?_)
   | (with_reducible refine LeO.bind ?_ (fun _=>?_))
   | exact ih0 _ _ _ _ _ _
   | exact ih1 _ _ _ _ _ _
   | exact ih2 _ _ _ _ _
   | exact spec_l07Is.mono _ _ _
   | exact spec_l07Less.mono _ _ _
   | exact spec_l07Turn.mono _ _
   | exact spec_l07Worse.mono _ _ _ _
   | exact LeO.none _
   | refine LeO.ite ?_ ?_
   | refine LeO.bind ?_ (fun _=>?_)
theorem spec_RemainingChoices.calls (k:Nat) (aD:Option Addr) (aw:Nat) (ae:List (List Int)) (ay:Option Addr) (az:Nat) (af:List (List Int)) (r1:List Int) (r2:List Int) (r3:Int) (w:World) (bI:Kd.C (Kd.slice 2 (Kd.int .i64)) w aD ae.length ae) (bJ:ae.length≤aw) (bK:Kd.C (Kd.slice 2 (Kd.int .i64)) w ay af.length af) (bL:af.length≤az) (h:spec_RemainingChoices.f k ae af=some (r1,r2,r3)):
  Calls Try.prog 8 #[.agg #[.slice aD ae.length aw, .slice ay af.length az]] w fun e w'=> ∃v0_ v1_:Value,e= .returned (.tuple #[v0_,v1_, .int .i64 r3])∧Kd.R (Kd.int .i64) 2 w' w.heap.size (fun k_=>some k_≠(v1_:Value).ownBlock) v0_ r1∧Kd.R (Kd.int .i64) 2 w' w.heap.size (fun k_=>some k_≠(v0_:Value).ownBlock) v1_ r2∧Below w.heap.size w w':=by
 have hu32:=Try.underlying32
 have HR0_0:=q_ bI
 have HC0_0:=q_ bJ
 clear bI bJ
 have HR0_1:=q_ bK
 have HC0_1:=q_ bL
 clear bK bL
 have HB:=q_ (Below.refl w.heap.size w)
 have H:((spec_l07Is.f k ae af).bind fun bD=>(if bD=true then((spec_l07Turn.f k af).bind fun aj=>(spec_RemainingChoices.l0 k (([]:List Int)) (([]:List Int)) aj 0 ae af)) else(some (([]:List Int),([]:List Int),1))))=some (r1,r2,r3):=h
 clear h
 replace H:=Option.bind_eq_some_iff.mp H
 obtain⟨bD,A20,H⟩:=H
 replace H:(if bD=true then((spec_l07Turn.f k af).bind fun aj=>(spec_RemainingChoices.l0 k (([]:List Int)) (([]:List Int)) aj 0 ae af)) else(some (([]:List Int),([]:List Int),1)))=some (r1,r2,r3):=H
 have A2:=q_ A20
 clear A20
 by_cases c3:bD=true
 ·subst c3
  have H1:((spec_l07Turn.f k af).bind fun aj=>(spec_RemainingChoices.l0 k (([]:List Int)) (([]:List Int)) aj 0 ae af))=some (r1,r2,r3):=by rw [if_pos rfl] at H;exact H
  clear H
  have H:=H1
  clear H1
  obtain⟨bE,hy223⟩: ∃y_:List Int,y_=(([]:List Int)):=⟨_,rfl⟩
  replace H:((spec_l07Turn.f k af).bind fun aj=>(spec_RemainingChoices.l0 k bE (([]:List Int)) aj 0 ae af))=some (r1,r2,r3):=by first | (rw [hy223];with_reducible exact H) | (have H2_:=(Option.bind_some _ _).symm.trans H;rw [hy223];with_reducible exact H2_) | (have H2_:=(Option.bind_some _ _).symm.trans H;with_reducible exact H2_) | with_reducible exact H | (rw [hy223];exact H) | exact H
  have bM:=q_ hy223
  clear hy223
  obtain⟨aV,hy226⟩: ∃y_:List Int,y_=(([]:List Int)):=⟨_,rfl⟩
  replace H:((spec_l07Turn.f k af).bind fun aj=>(spec_RemainingChoices.l0 k bE aV aj 0 ae af))=some (r1,r2,r3):=by first | (rw [hy226];with_reducible exact H) | (have H2_:=(Option.bind_some _ _).symm.trans H;rw [hy226];with_reducible exact H2_) | (have H2_:=(Option.bind_some _ _).symm.trans H;with_reducible exact H2_) | with_reducible exact H | (rw [hy226];exact H) | exact H
  have bN:=q_ hy226
  clear hy226
  replace H:=Option.bind_eq_some_iff.mp H
  obtain⟨aj,A40,H⟩:=H
  replace H:(spec_RemainingChoices.l0 k bE aV aj 0 ae af)=some (r1,r2,r3):=H
  have A4:=q_ A40
  clear A40
  have H':=q_ H
  clear H
  go_enter Try.func8,Try.ntmps8
  go_wp2_with (first | ((with_reducible refine gate_dst (N:=1) rfl ?_);refine box_event ?hg (N:=1) ?hd (cs:= #[.slice aD ae.length aw, .slice ay af.length az]) (t:=32) ?hr ?_;(case hd=>rfl);(case hg=>rfl);(case hr=>first | (go_simp;done) | (go_simp;rfl));intro ag hg w5 hbox hb;have aa:=q_ (hbox);have cq:=q_ ((by rw [hg];exact bz_:w.heap.size≤ag));have ct:=q_ ((by rw [hg];exact bz_:w.heap.size≤ag));replace HB:=q_ (bs_ hb);clear hb hbox hg;have bb:w5.cell? ⟨ag,0,none⟩=some (.slice aD ae.length aw):=(blk_cell aa.out 0).trans rfl;have bf:w5.cell? ⟨ag,1,none⟩=some (.slice ay af.length az):=(blk_cell aa.out 1).trans rfl;have bg:=blk_frozen aa.out 0;have bh:=blk_frozen aa.out 1) | ((with_reducible refine gate_callee (f:=22) rfl ?_);refine gL_ 13 Try.func22 #[.agg #[.slice aD ae.length aw, .slice ay af.length az]] ?_;(with_reducible refine(spec_l07Is.calls k _ _ ae _ _ af true _ ?ak ?aq ?aA ?aC A2.out).mono ?_);(case ak=>exact cb_ HR0_0.out HB.out);(case aq=>exact HC0_0.out);(case aA=>exact cb_ HR0_1.out HB.out);(case aC=>exact HC0_1.out);rintro e w7 ⟨rfl,hb⟩;refine⟨_,rfl,?_⟩;replace aa:=q_ (bb_ aa.out hb);replace HB:=q_ (bs_ hb);(try clear hb);(try clear hb2);(try clear hk);(try clear hi)) | ((with_reducible refine gate_dst (N:=15) rfl ?_);refine Kd.R_lit (Kd.int .i64) _ 2 ?hg (N:=15) ?hd (xs:=([]:List Int)) (inner:= []) (ok:=fun _=>True) (okp:=fun _=>True) ?hr ?hp (fun _ hk=>hk) trivial (Below.refl _ _) (Nat.le_refl _) (by simp) ?_;(case hd=>rfl);(case hg=>rfl);(case hr=>first | (go_simp;done) | (go_simp;rfl));(case hp=>exact(Reps.none _ _));intro dz w8 ho9 hb hg_ hnew_;clear hg_ hnew_;(first | rw [← bM.out] at ho9 | (simp only [Int.reduceToNat] at ho9;rw [← bM.out] at ho9));have aR:=q_ (Kd.R_lower ho9 bz_);replace aa:=q_ (bb_ aa.out hb);replace HB:=q_ (bs_ hb);clear hb ho9) | ((with_reducible refine gate_dst (N:=16) rfl ?_);refine Kd.R_lit (Kd.int .i64) _ 2 ?hg (N:=16) ?hd (xs:=([]:List Int)) (inner:= []) (ok:=fun _=>True) (okp:=fun _=>True) ?hr ?hp (fun _ hk=>hk) trivial (Below.refl _ _) (Nat.le_refl _) (by simp) ?_;(case hd=>rfl);(case hg=>rfl);(case hr=>first | (go_simp;done) | (go_simp;rfl));(case hp=>exact(Reps.none _ _));intro bk w10 aW hb hg_ hnew_;clear hg_ hnew_;(first | rw [← bN.out] at aW | (simp only [Int.reduceToNat] at aW;rw [← bN.out] at aW));have ba:=q_ (Kd.R_lower (Kd.R_new' aW (Kd.R_lt (ro_ aR.out))) bz_);replace aa:=q_ (bb_ aa.out hb);replace aR:=q_ (Kd.R_elder' (ro_ aR.out) (Kd.R_base aW) hb);replace HB:=q_ (bs_ hb);clear hb aW;have aX:w10.cell? ⟨ag,0,none⟩=some (.slice aD ae.length aw):=(blk_cell aa.out 0).trans rfl;have aY:w10.cell? ⟨ag,1,none⟩=some (.slice ay af.length az):=(blk_cell aa.out 1).trans rfl;have aZ:=blk_frozen aa.out 0;have a9:=blk_frozen aa.out 1) | ((with_reducible refine gate_callee (f:=23) rfl ?_);refine gL_ 19 Try.func23 #[.slice ay af.length az] ?_;(with_reducible refine(spec_l07Turn.calls k _ _ af aj _ ?ak ?aq A4.out).mono ?_);(case ak=>exact cb_ HR0_1.out HB.out);(case aq=>exact HC0_1.out);rintro e w13 ⟨bF,rfl,ho0,hb⟩;refine⟨_,rfl,?_⟩;have cu:=q_ (Kd.S_lower (Kd.S_new' (Kd.S_new' ho0 (Kd.R_lt (ro_ aR.out))) (Kd.R_lt (ro_ ba.out))) bz_);replace aa:=q_ (bb_ aa.out hb);replace aR:=q_ (rb_ aR.out hb);replace ba:=q_ (rb_ ba.out hb);replace HB:=q_ (bs_ hb);(try clear hb);(try clear hb2);(try clear hk);(try clear hi);(try clear ho0)))
  go_loopg [5,8] k (fun kq v5 v8 w'=> ∃(aN:List Int) (aJ:Int),v8= .int .i64 aJ∧Aside0 (spec_RemainingChoices.l0 kq aN aV aj aJ ae af=some (r1,r2,r3))∧Aside0 (kq≤k)∧Aside0 (Kd.R (Kd.int .i64) 2 w' w.heap.size (fun k_=>some k_≠(bk:Value).ownBlock) v5 aN)∧Aside0 (Kd.R (Kd.int .i64) 2 w' w.heap.size (fun k_=>some k_≠(v5:Value).ownBlock) bk aV)∧Aside0 (Kd.S (Kd.slice 2 (Kd.int .i64)) 29 w' w.heap.size (fun k_=>some k_≠(v5:Value).ownBlock∧some k_≠(bk:Value).ownBlock) bF aj)∧Aside0 (w'.heap[ag]?=some (.cells #[(.slice aD ae.length aw),(.slice ay af.length az)] 32 (0,0)))∧Aside0 (Below w.heap.size w w'))
  case atStart=>exact⟨(bE),(0),rs_,H',⟨Nat.le_refl _⟩,⟨by(with_reducible repeat (first | apply Kd.R_alloc | apply Kd.R_drewN | apply Kd.R_drew));exact Kd.R_mono aR.out (fun _ hk=>hk.2)⟩,⟨by(with_reducible repeat (first | apply Kd.R_alloc | apply Kd.R_drewN | apply Kd.R_drew));exact Kd.R_mono ba.out (fun _ hk=>hk.2)⟩,⟨by(with_reducible repeat (first | apply Kd.S_alloc | apply Kd.S_drewN | apply Kd.S_drew));exact Kd.S_mono cu.out (fun _ hk=>⟨hk.1.2,hk.2⟩)⟩,⟨bk_⟩,⟨hb_⟩⟩
  case round=>
   clear H'
   try clear c2
   try clear p2
   try clear c3
   try clear c8
   try clear aX
   try clear aY
   try clear bb
   try clear bf
   try clear aZ
   try clear a9
   try clear bg
   try clear bh
   obtain⟨aN,aJ,rfl,HA,HK1,ah,ai,ax,aa,HB⟩:=hrel
   cases gk with
   | zero=>exact absurd HA.out (by simp [spec_RemainingChoices.l0])
   | succ k1=>
    have H:=HA.out
    clear HA
    simp only [spec_RemainingChoices.l0] at H
    by_cases c14:aJ < (ae.length:Int)
    ·rw [if_pos c14] at H
     have c14b0:decide (aJ < (ae.length:Int))=true:=decide_eq_true c14
     clear c14
     by_cases c15:aN.length < 17592186044416
     ·rw [if_pos c15] at H
      have cz:=q_ c15
      clear c15
      obtain⟨bW,hy232⟩: ∃y_:List Int,y_=(aN++ [aJ]):=⟨_,rfl⟩
      replace H:(spec_RemainingChoices.l0 k1 bW aV aj (wrap64 (aJ+1)) ae af)=some (r1,r2,r3):=by first | (rw [hy232];with_reducible exact H) | (have H2_:=(Option.bind_some _ _).symm.trans H;rw [hy232];with_reducible exact H2_) | (have H2_:=(Option.bind_some _ _).symm.trans H;with_reducible exact H2_) | with_reducible exact H | (rw [hy232];exact H) | exact H
      have cA:=q_ hy232
      clear hy232
      have H':=q_ H
      clear H
      have bq:wr.cell? ⟨ag,0,none⟩=some (.slice aD ae.length aw):=(blk_cell aa.out 0).trans rfl
      have bu:wr.cell? ⟨ag,1,none⟩=some (.slice ay af.length az):=(blk_cell aa.out 1).trans rfl
      have bv:=blk_frozen aa.out 0
      have bw:=blk_frozen aa.out 1
      go_wp2_with (first | ((with_reducible refine gate_builtin (b:= .append) (xs:= #[.tmp 27, .tmp 29]) rfl ?_);at_builtin;refine Kd.R_append (Kd.int .i64) (w0:=w) w.heap.size rfl (.tmp 27) (.tmp 29) 29 2 (.int .i64 0) 8 rfl Try.underlying29 info2 rfl (by decide) (by omega) u5 aN aJ [.int .i64 aJ] (fun k_=>some k_≠(bk:Value).ownBlock) (fun _=>False) rfl rfl ?aP (fun _ hk=>hk.elim) ?aF ?aO ?aB ?aS ?aL ?_;(case aP=>exact rfl);(case aB=>exact hb_);(case aF=>exact(fun k_ hk=>Kd.fresh' (Kd.R_lt (ro_ ai.out)) k_ hk));(case aO=>exact(ro_ ah.out));(case aS=>exact bz_);(case aL=>have:=cz.out;omega);intro dA w17 ho hb hg hat;rw [← cA.out] at ho;replace ai:=q_ (Kd.R_after (ok:=(fun _=>True)) (by(with_reducible repeat (first | apply Kd.R_alloc | apply Kd.R_drewN | apply Kd.R_drew));exact Kd.R_mono ai.out (fun _ hk=>⟨trivial,hk⟩)) hg hat);replace ax:=q_ (Kd.S_after (ok:=(fun k_=>some k_≠(bk:Value).ownBlock)) (by(with_reducible repeat (first | apply Kd.S_alloc | apply Kd.S_drewN | apply Kd.S_drew));exact Kd.S_mono ax.out (fun _ hk=>⟨hk.2,hk.1⟩)) hg hat);replace aa:=q_ (bg_ aa.out hg (Kd.R_ne ah.out aa.out (by decide)));replace HB:=q_ (hb);have cB:=q_ (ho);clear ah ho hb hg hat))
      go_roundg k1
      case measure=>have:=HK1.out;omega
      case rel=>exact⟨(bW),(wrap64 (aJ+1)),rs_,H',⟨by have:=HK1.out;omega⟩,⟨ro_ cB.out⟩,⟨by(with_reducible repeat (first | apply Kd.R_alloc | apply Kd.R_drewN | apply Kd.R_drew));exact Kd.R_mono ai.out (fun _ hk=>hk.2)⟩,⟨by(with_reducible repeat (first | apply Kd.S_alloc | apply Kd.S_drewN | apply Kd.S_drew));exact Kd.S_mono ax.out (fun _ hk=>⟨hk.2,hk.1⟩)⟩,⟨bk_⟩,⟨hb_⟩⟩
     ·rw [if_neg c15] at H
      exact absurd H (by simp)
    ·rw [if_neg c14] at H
     have c14b0:decide (aJ < (ae.length:Int))=false:=decide_eq_false c14
     clear c14
     have H':=q_ H
     clear H
     have bz:wr.cell? ⟨ag,0,none⟩=some (.slice aD ae.length aw):=(blk_cell aa.out 0).trans rfl
     have bA:wr.cell? ⟨ag,1,none⟩=some (.slice ay af.length az):=(blk_cell aa.out 1).trans rfl
     have bB:=blk_frozen aa.out 0
     have bC:=blk_frozen aa.out 1
     go_wp2
     go_loopg [6,9] k1 (fun kq v6 v9 w'=> ∃(aT:List Int) (aK:Int),v9= .int .i64 aK∧Aside0 (spec_RemainingChoices.l1 kq aN aT aj aK ae af=some (r1,r2,r3))∧Aside0 (kq≤k1)∧Aside0 (Kd.R (Kd.int .i64) 2 w' w.heap.size (fun k_=>some k_≠(v6:Value).ownBlock) u5 aN)∧Aside0 (Kd.R (Kd.int .i64) 2 w' w.heap.size (fun k_=>some k_≠(u5:Value).ownBlock) v6 aT)∧Aside0 (Kd.S (Kd.slice 2 (Kd.int .i64)) 29 w' w.heap.size (fun k_=>some k_≠(u5:Value).ownBlock∧some k_≠(v6:Value).ownBlock) bF aj)∧Aside0 (w'.heap[ag]?=some (.cells #[(.slice aD ae.length aw),(.slice ay af.length az)] 32 (0,0)))∧Aside0 (Below w.heap.size w w'))
     case atStart=>exact⟨(aV),(0),rs_,H',⟨Nat.le_refl _⟩,⟨ro_ ah.out⟩,⟨ro_ ai.out⟩,⟨so_ ax.out⟩,⟨bk_⟩,⟨hb_⟩⟩
     case round=>
      clear H'
      try clear c1
      try clear c2
      try clear p2
      try clear c3
      try clear p6
      try clear c8
      try clear c14
      try clear c14b0
      try clear c15
      try clear aX
      try clear aY
      try clear bq
      try clear bu
      try clear bz
      try clear bA
      try clear bb
      try clear bf
      try clear aZ
      try clear a9
      try clear bv
      try clear bw
      try clear bB
      try clear bC
      try clear bg
      try clear bh
      try clear p2
      obtain⟨aT,aK,rfl,HA,HK2,ah,ai,ax,aa,HB⟩:=hrel
      cases gk with
      | zero=>exact absurd HA.out (by simp [spec_RemainingChoices.l1])
      | succ k2=>
       have H:=HA.out
       clear HA
       simp only [spec_RemainingChoices.l1] at H
       by_cases c19:0 < (ae.length:Int)
       ·rw [if_pos c19] at H
        have c19b0:decide (0 < (ae.length:Int))=true:=decide_eq_true c19
        have c19b1:decide (0 < ae.length)=true:=decide_eq_true (by omega)
        clear c19
        by_cases c20:aK < ((rd_L1 ae 0).length:Int)
        ·rw [if_pos c20] at H
         have c20b0:decide (aK < ((rd_L1 ae 0).length:Int))=true:=decide_eq_true c20
         clear c20
         by_cases c21:aT.length < 17592186044416
         ·rw [if_pos c21] at H
          have cC:=q_ c21
          clear c21
          obtain⟨bX,hy236⟩: ∃y_:List Int,y_=(aT++ [aK]):=⟨_,rfl⟩
          replace H:(spec_RemainingChoices.l1 k2 aN bX aj (wrap64 (aK+1)) ae af)=some (r1,r2,r3):=by first | (rw [hy236];with_reducible exact H) | (have H2_:=(Option.bind_some _ _).symm.trans H;rw [hy236];with_reducible exact H2_) | (have H2_:=(Option.bind_some _ _).symm.trans H;with_reducible exact H2_) | with_reducible exact H | (rw [hy236];exact H) | exact H
          have cD:=q_ hy236
          clear hy236
          have H':=q_ H
          clear H
          have bO:wr.cell? ⟨ag,0,none⟩=some (.slice aD ae.length aw):=(blk_cell aa.out 0).trans rfl
          have bP:wr.cell? ⟨ag,1,none⟩=some (.slice ay af.length az):=(blk_cell aa.out 1).trans rfl
          have bQ:=blk_frozen aa.out 0
          have bR:=blk_frozen aa.out 1
          have p235:0≤(0:Int):=(by omega)
          have q235:0 < (ae.length:Int):=od_
          obtain⟨aM,bY,bZ,e235,hx235_0,hl235_0,hi235_0⟩:=at_L1 HR0_0.out 0 p235 q235
          cases e235
          have qi235:(0 < ae.length)=True:=eq_true (by omega)
          (try rw [show ((0:Int)).toNat=0 from rfl] at hx235_0)
          (try rw [Addr.add_zero'] at hx235_0)
          replace hx235_0:=(HB.out.cell (World.block_lt_of_cell? w _ hx235_0)).trans hx235_0
          have HR235_0:=q_ hi235_0
          have HC235_0:=q_ hl235_0
          clear hi235_0 hl235_0
          replace p235:=eq_true p235
          replace q235:=eq_true q235
          go_wp2_with (first | ((with_reducible refine gate_builtin (b:= .append) (xs:= #[.tmp 40, .tmp 42]) rfl ?_);at_builtin;refine Kd.R_append (Kd.int .i64) (w0:=w) w.heap.size rfl (.tmp 40) (.tmp 42) 29 2 (.int .i64 0) 8 rfl Try.underlying29 info2 rfl (by decide) (by omega) u6 aT aK [.int .i64 aK] (fun k_=>some k_≠(u5:Value).ownBlock) (fun _=>False) rfl rfl ?aP (fun _ hk=>hk.elim) ?aF ?aO ?aB ?aS ?aL ?_;(case aP=>exact rfl);(case aB=>exact hb_);(case aF=>exact(fun k_ hk=>Kd.fresh' (Kd.R_lt (ro_ ah.out)) k_ hk));(case aO=>exact(ro_ ai.out));(case aS=>exact bz_);(case aL=>have:=cC.out;omega);intro dB w23 ho hb hg hat;rw [← cD.out] at ho;replace ah:=q_ (Kd.R_after (ok:=(fun _=>True)) (by(with_reducible repeat (first | apply Kd.R_alloc | apply Kd.R_drewN | apply Kd.R_drew));exact Kd.R_mono ah.out (fun _ hk=>⟨trivial,hk⟩)) hg hat);replace ax:=q_ (Kd.S_after (ok:=(fun k_=>some k_≠(u5:Value).ownBlock)) (so_ ax.out) hg hat);replace aa:=q_ (bg_ aa.out hg (Kd.R_ne ai.out aa.out (by decide)));replace HB:=q_ (hb);have cE:=q_ (ho);clear ai ho hb hg hat))
          go_roundg k2
          case measure=>have:=HK1.out;have:=HK2.out;omega
          case rel=>exact⟨(bX),(wrap64 (aK+1)),rs_,H',⟨by have:=HK1.out;have:=HK2.out;omega⟩,⟨by(with_reducible repeat (first | apply Kd.R_alloc | apply Kd.R_drewN | apply Kd.R_drew));exact Kd.R_mono ah.out (fun _ hk=>hk.2)⟩,⟨ro_ cE.out⟩,⟨so_ ax.out⟩,⟨bk_⟩,⟨hb_⟩⟩
         ·rw [if_neg c21] at H
          exact absurd H (by simp)
        ·rw [if_neg c20] at H
         have c20b0:decide (aK < ((rd_L1 ae 0).length:Int))=false:=decide_eq_false c20
         clear c20
         have H':=q_ H
         clear H
         have bS:wr.cell? ⟨ag,0,none⟩=some (.slice aD ae.length aw):=(blk_cell aa.out 0).trans rfl
         have bT:wr.cell? ⟨ag,1,none⟩=some (.slice ay af.length az):=(blk_cell aa.out 1).trans rfl
         have bU:=blk_frozen aa.out 0
         have bV:=blk_frozen aa.out 1
         have p235:0≤(0:Int):=(by omega)
         have q235:0 < (ae.length:Int):=od_
         obtain⟨aM,bY,bZ,e235,hx235_0,hl235_0,hi235_0⟩:=at_L1 HR0_0.out 0 p235 q235
         cases e235
         have qi235:(0 < ae.length)=True:=eq_true (by omega)
         (try rw [show ((0:Int)).toNat=0 from rfl] at hx235_0)
         (try rw [Addr.add_zero'] at hx235_0)
         replace hx235_0:=(HB.out.cell (World.block_lt_of_cell? w _ hx235_0)).trans hx235_0
         have HR235_0:=q_ hi235_0
         have HC235_0:=q_ hl235_0
         clear hi235_0 hl235_0
         replace p235:=eq_true p235
         replace q235:=eq_true q235
         go_wp2
         go_loopg [5,6] k2 (fun kq v5 v6 w'=> ∃(au:List Int) (av:List Int),Aside0 (spec_RemainingChoices.l2 kq au av aj ae af=some (r1,r2,r3))∧Aside0 (kq≤k2)∧Aside0 (Kd.R (Kd.int .i64) 2 w' w.heap.size (fun k_=>some k_≠(v6:Value).ownBlock) v5 au)∧Aside0 (Kd.R (Kd.int .i64) 2 w' w.heap.size (fun k_=>some k_≠(v5:Value).ownBlock) v6 av)∧Aside0 (Kd.S (Kd.slice 2 (Kd.int .i64)) 29 w' w.heap.size (fun k_=>some k_≠(v5:Value).ownBlock∧some k_≠(v6:Value).ownBlock) bF aj)∧Aside0 (w'.heap[ag]?=some (.cells #[(.slice (some aM) ae.length aw),(.slice ay af.length az)] 32 (0,0)))∧Aside0 (Below w.heap.size w w'))
         case atStart=>exact⟨(aN),(aT),H',⟨Nat.le_refl _⟩,⟨ro_ ah.out⟩,⟨ro_ ai.out⟩,⟨so_ ax.out⟩,⟨bk_⟩,⟨hb_⟩⟩
         case round=>
          clear H'
          try clear c1
          try clear c2
          try clear p2
          try clear q2
          try clear hx2
          try clear qi2
          try clear c3
          try clear p6
          try clear c8
          try clear c14
          try clear c14b0
          try clear c15
          try clear c19
          try clear c19b0
          try clear c19b1
          try clear c20
          try clear c20b0
          try clear c21
          try clear c22
          try clear c23
          try clear p23
          try clear q23
          try clear hx23
          try clear qi23
          try clear aX
          try clear aY
          try clear bq
          try clear bu
          try clear bz
          try clear bA
          try clear bO
          try clear bP
          try clear bS
          try clear bT
          try clear bb
          try clear bf
          try clear aZ
          try clear a9
          try clear bv
          try clear bw
          try clear bB
          try clear bC
          try clear bQ
          try clear bR
          try clear bU
          try clear bV
          try clear bg
          try clear bh
          try clear hx235_0
          try clear p2
          try clear p235
          try clear p6
          try clear q235
          obtain⟨au,av,HA,HK3,ah,ai,ax,aa,HB⟩:=hrel
          cases gk with
          | zero=>exact absurd HA.out (by simp [spec_RemainingChoices.l2])
          | succ k3=>
           have H:=HA.out
           clear HA
           simp only [spec_RemainingChoices.l2] at H
           replace H:=Option.bind_eq_some_iff.mp H
           obtain⟨aQ,A250,H⟩:=H
           replace H:(if aQ ≥ 0 then((spec_l07Less.f k3 au aQ).bind fun bn=>(spec_RemainingChoices.l2 k3 bn av aj ae af)) else((spec_l07Worse.f k3 aj av au).bind fun aG=>(if aG < 0 then(some (au,av,0)) else((spec_l07Less.f k3 av aG).bind fun aU=>(spec_RemainingChoices.l2 k3 au aU aj ae af)))))=some (r1,r2,r3):=H
           have A25:=q_ A250
           clear A250
           by_cases c26:aQ ≥ 0
           ·rw [if_pos c26] at H
            have c26b0:decide (0≤aQ)=true:=decide_eq_true c26
            clear c26
            replace H:=Option.bind_eq_some_iff.mp H
            obtain⟨bn,A270,H⟩:=H
            replace H:(spec_RemainingChoices.l2 k3 bn av aj ae af)=some (r1,r2,r3):=H
            have A27:=q_ A270
            clear A270
            have H':=q_ H
            clear H
            have cW:wr.cell? ⟨ag,0,none⟩=some (.slice (some aM) ae.length aw):=(blk_cell aa.out 0).trans rfl
            have cZ:wr.cell? ⟨ag,1,none⟩=some (.slice ay af.length az):=(blk_cell aa.out 1).trans rfl
            have da:=blk_frozen aa.out 0
            have db:=blk_frozen aa.out 1
            obtain⟨cf,cg,cH⟩:=Kd.R_slice ah.out
            subst cH
            obtain⟨cI,cJ,cK⟩:=Kd.R_slice ai.out
            subst cK
            go_wp2_with (first | ((with_reducible refine gate_callee (f:=24) rfl ?_);refine gL_ 48 Try.func24 #[.slice (some aM) ae.length aw, .slice cf au.length cg, .slice cI av.length cJ] ?_;(with_reducible refine(spec_l07Worse.calls k3 _ _ ae _ _ au _ _ av aQ _ ?ak ?aq ?aA ?aC ?aH ?aI A25.out).mono ?_);(case ak=>exact cb_ HR0_0.out HB.out);(case aq=>exact HC0_0.out);(case aA=>repeat (first | exact(Kd.R_reads' ah.out).2.2 | (with_reducible refine Kd.C_alloc ?_ _) | (with_reducible refine Kd.C_drewN ?_ _) | (with_reducible refine Kd.C_drew ?_)));(case aC=>exact(Kd.R_reads' ah.out).2.1);(case aH=>repeat (first | exact(Kd.R_reads' ai.out).2.2 | (with_reducible refine Kd.C_alloc ?_ _) | (with_reducible refine Kd.C_drewN ?_ _) | (with_reducible refine Kd.C_drew ?_)));(case aI=>exact(Kd.R_reads' ai.out).2.1);rintro e w' ⟨rfl,⟨nd,rfl⟩⟩;refine⟨_,rfl,?_⟩) | ((with_reducible refine gate_callee (f:=25) rfl ?_);refine gL_ 53 Try.func25 #[.slice cf au.length cg, .int .i64 aQ] ?_;(with_reducible refine(spec_l07Less.calls k3 _ _ au aQ bn _ ?ak ?aq A27.out).mono ?_);(case ak=>repeat (first | exact(Kd.R_reads' ah.out).2.2 | (with_reducible refine Kd.C_alloc ?_ _) | (with_reducible refine Kd.C_drewN ?_ _) | (with_reducible refine Kd.C_drew ?_)));(case aq=>exact(Kd.R_reads' ah.out).2.1);rintro e w31 ⟨dC,rfl,ho0,hb⟩;refine⟨_,rfl,?_⟩;replace ax:=q_ (Kd.S_elder' (so_ ax.out) (Kd.R_base ho0) hb);have cF:=q_ (Kd.R_lower (Kd.R_new' (Kd.R_new' ho0 (Kd.R_lt (ro_ ah.out))) (Kd.R_lt (ro_ ai.out))) bz_);replace aa:=q_ (bb_ aa.out hb);replace ah:=q_ (Kd.R_elder' (ro_ ah.out) (Kd.R_base ho0) hb);replace ai:=q_ (Kd.R_elder' (ro_ ai.out) (Kd.R_base ho0) hb);replace HB:=q_ (bs_ hb);(try clear hb);(try clear hb2);(try clear hk);(try clear hi);(try clear ho0)))
            go_roundg k3
            case measure=>have:=HK1.out;have:=HK2.out;have:=HK3.out;omega
            case rel=>exact⟨(bn),(av),H',⟨by have:=HK1.out;have:=HK2.out;have:=HK3.out;omega⟩,⟨by(with_reducible repeat (first | apply Kd.R_alloc | apply Kd.R_drewN | apply Kd.R_drew));exact Kd.R_mono cF.out (fun _ hk=>hk.2)⟩,⟨by(with_reducible repeat (first | apply Kd.R_alloc | apply Kd.R_drewN | apply Kd.R_drew));exact Kd.R_mono ai.out (fun _ hk=>hk.2)⟩,⟨by(with_reducible repeat (first | apply Kd.S_alloc | apply Kd.S_drewN | apply Kd.S_drew));exact Kd.S_mono ax.out (fun _ hk=>⟨hk.2,hk.1.2⟩)⟩,⟨bk_⟩,⟨hb_⟩⟩
           ·rw [if_neg c26] at H
            have c26b0:decide (0≤aQ)=false:=decide_eq_false c26
            clear c26
            replace H:=Option.bind_eq_some_iff.mp H
            obtain⟨aG,A320,H⟩:=H
            replace H:(if aG < 0 then(some (au,av,0)) else((spec_l07Less.f k3 av aG).bind fun aU=>(spec_RemainingChoices.l2 k3 au aU aj ae af)))=some (r1,r2,r3):=H
            have A32:=q_ A320
            clear A320
            by_cases c33:aG < 0
            ·rw [if_pos c33] at H
             have c33b0:decide (aG < 0)=true:=decide_eq_true c33
             clear c33
             simp only [Option.some.injEq,Prod.mk.injEq] at H
             obtain⟨rfl,rfl,rfl⟩:=H
             have dc:wr.cell? ⟨ag,0,none⟩=some (.slice (some aM) ae.length aw):=(blk_cell aa.out 0).trans rfl
             have df:wr.cell? ⟨ag,1,none⟩=some (.slice ay af.length az):=(blk_cell aa.out 1).trans rfl
             have dh:=blk_frozen aa.out 0
             have di:=blk_frozen aa.out 1
             obtain⟨cj,ck,cL⟩:=Kd.R_slice ah.out
             subst cL
             obtain⟨cl,cm,cN⟩:=Kd.R_slice ai.out
             subst cN
             go_wp2_with (first | ((with_reducible refine gate_callee (f:=24) rfl ?_);refine gL_ 48 Try.func24 #[.slice (some aM) ae.length aw, .slice cj au.length ck, .slice cl av.length cm] ?_;(with_reducible refine(spec_l07Worse.calls k3 _ _ ae _ _ au _ _ av aQ _ ?ak ?aq ?aA ?aC ?aH ?aI A25.out).mono ?_);(case ak=>exact cb_ HR0_0.out HB.out);(case aq=>exact HC0_0.out);(case aA=>repeat (first | exact(Kd.R_reads' ah.out).2.2 | (with_reducible refine Kd.C_alloc ?_ _) | (with_reducible refine Kd.C_drewN ?_ _) | (with_reducible refine Kd.C_drew ?_)));(case aC=>exact(Kd.R_reads' ah.out).2.1);(case aH=>repeat (first | exact(Kd.R_reads' ai.out).2.2 | (with_reducible refine Kd.C_alloc ?_ _) | (with_reducible refine Kd.C_drewN ?_ _) | (with_reducible refine Kd.C_drew ?_)));(case aI=>exact(Kd.R_reads' ai.out).2.1);rintro e w' ⟨rfl,⟨nd,rfl⟩⟩;refine⟨_,rfl,?_⟩;obtain⟨cO,cP,cQ⟩:=Kd.S_slice ax.out;subst cQ) | ((with_reducible refine gate_callee (f:=24) rfl ?_);refine gL_ 57 Try.func24 #[.slice cO aj.length cP, .slice cl av.length cm, .slice cj au.length ck] ?_;(with_reducible refine(spec_l07Worse.calls k3 _ _ aj _ _ av _ _ au aG _ ?ak ?aq ?aA ?aC ?aH ?aI A32.out).mono ?_);(case ak=>repeat (first | exact(Kd.S_reads' ax.out).2.2 | (with_reducible refine Kd.C_alloc ?_ _) | (with_reducible refine Kd.C_drewN ?_ _) | (with_reducible refine Kd.C_drew ?_)));(case aq=>exact(Kd.S_reads' ax.out).2.1);(case aA=>repeat (first | exact(Kd.R_reads' ai.out).2.2 | (with_reducible refine Kd.C_alloc ?_ _) | (with_reducible refine Kd.C_drewN ?_ _) | (with_reducible refine Kd.C_drew ?_)));(case aC=>exact(Kd.R_reads' ai.out).2.1);(case aH=>repeat (first | exact(Kd.R_reads' ah.out).2.2 | (with_reducible refine Kd.C_alloc ?_ _) | (with_reducible refine Kd.C_drewN ?_ _) | (with_reducible refine Kd.C_drew ?_)));(case aI=>exact(Kd.R_reads' ah.out).2.1);rintro e w' ⟨rfl,⟨nd,rfl⟩⟩;refine⟨_,rfl,?_⟩))
             go_ret3
             exact⟨_,_,by first | rfl | (simp [errW_none,errW_some] <;> rfl) | (simp [*,errW_none,errW_some] <;> rfl),ro_ ah.out,ro_ ai.out,hb_⟩
            ·rw [if_neg c33] at H
             have c33b0:decide (aG < 0)=false:=decide_eq_false c33
             clear c33
             replace H:=Option.bind_eq_some_iff.mp H
             obtain⟨aU,A380,H⟩:=H
             replace H:(spec_RemainingChoices.l2 k3 au aU aj ae af)=some (r1,r2,r3):=H
             have A38:=q_ A380
             clear A380
             have H':=q_ H
             clear H
             have dl:wr.cell? ⟨ag,0,none⟩=some (.slice (some aM) ae.length aw):=(blk_cell aa.out 0).trans rfl
             have dm:wr.cell? ⟨ag,1,none⟩=some (.slice ay af.length az):=(blk_cell aa.out 1).trans rfl
             have dn:=blk_frozen aa.out 0
             have dq:=blk_frozen aa.out 1
             obtain⟨cn,co,cR⟩:=Kd.R_slice ah.out
             subst cR
             obtain⟨bG,bH,cS⟩:=Kd.R_slice ai.out
             subst cS
             go_wp2_with (first | ((with_reducible refine gate_callee (f:=24) rfl ?_);refine gL_ 48 Try.func24 #[.slice (some aM) ae.length aw, .slice cn au.length co, .slice bG av.length bH] ?_;(with_reducible refine(spec_l07Worse.calls k3 _ _ ae _ _ au _ _ av aQ _ ?ak ?aq ?aA ?aC ?aH ?aI A25.out).mono ?_);(case ak=>exact cb_ HR0_0.out HB.out);(case aq=>exact HC0_0.out);(case aA=>repeat (first | exact(Kd.R_reads' ah.out).2.2 | (with_reducible refine Kd.C_alloc ?_ _) | (with_reducible refine Kd.C_drewN ?_ _) | (with_reducible refine Kd.C_drew ?_)));(case aC=>exact(Kd.R_reads' ah.out).2.1);(case aH=>repeat (first | exact(Kd.R_reads' ai.out).2.2 | (with_reducible refine Kd.C_alloc ?_ _) | (with_reducible refine Kd.C_drewN ?_ _) | (with_reducible refine Kd.C_drew ?_)));(case aI=>exact(Kd.R_reads' ai.out).2.1);rintro e w' ⟨rfl,⟨nd,rfl⟩⟩;refine⟨_,rfl,?_⟩;obtain⟨cT,cU,cV⟩:=Kd.S_slice ax.out;subst cV) | ((with_reducible refine gate_callee (f:=24) rfl ?_);refine gL_ 57 Try.func24 #[.slice cT aj.length cU, .slice bG av.length bH, .slice cn au.length co] ?_;(with_reducible refine(spec_l07Worse.calls k3 _ _ aj _ _ av _ _ au aG _ ?ak ?aq ?aA ?aC ?aH ?aI A32.out).mono ?_);(case ak=>repeat (first | exact(Kd.S_reads' ax.out).2.2 | (with_reducible refine Kd.C_alloc ?_ _) | (with_reducible refine Kd.C_drewN ?_ _) | (with_reducible refine Kd.C_drew ?_)));(case aq=>exact(Kd.S_reads' ax.out).2.1);(case aA=>repeat (first | exact(Kd.R_reads' ai.out).2.2 | (with_reducible refine Kd.C_alloc ?_ _) | (with_reducible refine Kd.C_drewN ?_ _) | (with_reducible refine Kd.C_drew ?_)));(case aC=>exact(Kd.R_reads' ai.out).2.1);(case aH=>repeat (first | exact(Kd.R_reads' ah.out).2.2 | (with_reducible refine Kd.C_alloc ?_ _) | (with_reducible refine Kd.C_drewN ?_ _) | (with_reducible refine Kd.C_drew ?_)));(case aI=>exact(Kd.R_reads' ah.out).2.1);rintro e w' ⟨rfl,⟨nd,rfl⟩⟩;refine⟨_,rfl,?_⟩) | ((with_reducible refine gate_callee (f:=25) rfl ?_);refine gL_ 64 Try.func25 #[.slice bG av.length bH, .int .i64 aG] ?_;(with_reducible refine(spec_l07Less.calls k3 _ _ av aG aU _ ?ak ?aq A38.out).mono ?_);(case ak=>repeat (first | exact(Kd.R_reads' ai.out).2.2 | (with_reducible refine Kd.C_alloc ?_ _) | (with_reducible refine Kd.C_drewN ?_ _) | (with_reducible refine Kd.C_drew ?_)));(case aq=>exact(Kd.R_reads' ai.out).2.1);rintro e w43 ⟨dD,rfl,ho0,hb⟩;refine⟨_,rfl,?_⟩;replace ax:=q_ (Kd.S_elder' (so_ ax.out) (Kd.R_base ho0) hb);have cG:=q_ (Kd.R_lower (Kd.R_new' (Kd.R_new' ho0 (Kd.R_lt (ro_ ah.out))) (Kd.R_lt (ro_ ai.out))) bz_);replace aa:=q_ (bb_ aa.out hb);replace ah:=q_ (Kd.R_elder' (ro_ ah.out) (Kd.R_base ho0) hb);replace ai:=q_ (Kd.R_elder' (ro_ ai.out) (Kd.R_base ho0) hb);replace HB:=q_ (bs_ hb);(try clear hb);(try clear hb2);(try clear hk);(try clear hi);(try clear ho0)))
             go_roundg k3
             case measure=>have:=HK1.out;have:=HK2.out;have:=HK3.out;omega
             case rel=>exact⟨(au),(aU),H',⟨by have:=HK1.out;have:=HK2.out;have:=HK3.out;omega⟩,⟨by(with_reducible repeat (first | apply Kd.R_alloc | apply Kd.R_drewN | apply Kd.R_drew));exact Kd.R_mono ah.out (fun _ hk=>hk.2)⟩,⟨by(with_reducible repeat (first | apply Kd.R_alloc | apply Kd.R_drewN | apply Kd.R_drew));exact Kd.R_mono cG.out (fun _ hk=>hk.1.2)⟩,⟨by(with_reducible repeat (first | apply Kd.S_alloc | apply Kd.S_drewN | apply Kd.S_drew));exact Kd.S_mono ax.out (fun _ hk=>⟨hk.1.1,hk.2⟩)⟩,⟨bk_⟩,⟨hb_⟩⟩
       ·rw [if_neg c19] at H
        exact absurd H (by simp)
 ·replace c3:=Bool.eq_false_iff.mpr c3
  subst c3
  have H1:(some (([]:List Int),([]:List Int),1))=some (r1,r2,r3):=by rw [if_neg (show ¬ (false=true) by decide)] at H;exact H
  clear H
  have H:=H1
  clear H1
  simp only [Option.some.injEq,Prod.mk.injEq] at H
  obtain⟨rfl,rfl,rfl⟩:=H
  go_enter Try.func8,Try.ntmps8
  go_wp2_with (first | ((with_reducible refine gate_dst (N:=1) rfl ?_);refine box_event ?hg (N:=1) ?hd (cs:= #[.slice aD ae.length aw, .slice ay af.length az]) (t:=32) ?hr ?_;(case hd=>rfl);(case hg=>rfl);(case hr=>first | (go_simp;done) | (go_simp;rfl));intro ag hg w44 hbox hb;have aa:=q_ (hbox);have cq:=q_ ((by rw [hg];exact bz_:w.heap.size≤ag));have ct:=q_ ((by rw [hg];exact bz_:w.heap.size≤ag));replace HB:=q_ (bs_ hb);clear hb hbox hg;have dr:w44.cell? ⟨ag,0,none⟩=some (.slice aD ae.length aw):=(blk_cell aa.out 0).trans rfl;have du:w44.cell? ⟨ag,1,none⟩=some (.slice ay af.length az):=(blk_cell aa.out 1).trans rfl;have dw:=blk_frozen aa.out 0;have dx:=blk_frozen aa.out 1) | ((with_reducible refine gate_callee (f:=22) rfl ?_);refine gL_ 13 Try.func22 #[.agg #[.slice aD ae.length aw, .slice ay af.length az]] ?_;(with_reducible refine(spec_l07Is.calls k _ _ ae _ _ af false _ ?ak ?aq ?aA ?aC A2.out).mono ?_);(case ak=>exact cb_ HR0_0.out HB.out);(case aq=>exact HC0_0.out);(case aA=>exact cb_ HR0_1.out HB.out);(case aC=>exact HC0_1.out);rintro e w46 ⟨rfl,hb⟩;refine⟨_,rfl,?_⟩;replace aa:=q_ (bb_ aa.out hb);replace HB:=q_ (bs_ hb);(try clear hb);(try clear hb2);(try clear hk);(try clear hi)))
  go_ret3
  exact⟨_,_,by first | rfl | (simp [errW_none,errW_some] <;> rfl) | (simp [*,errW_none,errW_some] <;> rfl),by first | exact Kd.R_nil _ _ _ _ _ | exact Kd.N_nil _ _ _ _ _ | exact Kd.V_nil _ _ _ _ _ | exact Kd.Q_nil _ _ _ _ _ | exact Kd.S_nil _ _ _ _ _,by first | exact Kd.R_nil _ _ _ _ _ | exact Kd.N_nil _ _ _ _ _ | exact Kd.V_nil _ _ _ _ _ | exact Kd.Q_nil _ _ _ _ _ | exact Kd.S_nil _ _ _ _ _,hb_⟩
end Go.Proofs.Ytmcddlpgffbmpaa.Pr
end
