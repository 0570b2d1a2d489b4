/- Texts of one claim (the words of the kit's print that the claim uses, printed functions, and this session's own texts), joined in the order of their imports by this session's own program (merge.py). -/
import Derived.Test.YtmpkckiifeikkaaJnFnExactLemkeSolution0
import Derived.Test.YtmpkckiifeikkaaJnFnExactLemkeSolution1
set_option linter.unusedVariables false
set_option linter.unusedSimpArgs false
set_option maxHeartbeats 8000000
set_option maxRecDepth 100000
section
namespace Go.Proofs.Ytmpkckiifeikkaa.Pr
open Go.RowKit Go.Proofs.YtmpkckiifeikkaaW.PrintWords Go.Proofs.YtmpkckiifeikkaaW.PrintLast Go.Proofs.YtmpkckiifeikkaaW.PrintMore
def RowsPred (g:Nat) (lb:Array Value) (p:List Int→Bool) (w:World) (l:List (List Int)):Prop:=
 ∀(W:World) (A:Option Addr) (c:Nat) (x:List Int),x ∈ l→Below w.heap.size w W→x.length≤c→Kd.C (Kd.int .i64) W A x.length x→Calls Try.prog g (#[.slice A x.length c]++lb) W fun e w'=>e= .returned (.bool (p x))∧Below W.heap.size W w'
theorem indexFuncRows (p:List Int→Bool) (g:Nat) (lb:Array Value) (eg: ∀args w,(callFunc g args).run Try.prog w= .ok (.enter g args) w) (A:Option Addr) (c:Nat) (l:List (List Int)) (w:World)
  (hr:Kd.C (Kd.slice 2 (Kd.int .i64)) w A l.length l) (hp:RowsPred g lb p w l):
  Calls Try.prog 177 #[.slice A l.length c, .func (.func g) #[] lb] w fun e w'=>e= .returned (.int .i64 (idxP p l 0))∧Below w.heap.size w w':=by
 have HR:=Aside0.mk hr
 have HP:=Aside0.mk hp
 have hbig:l.length≤9223372036854775807:=hr.2.1
 clear hr hp
 go_enter Try.func177,Try.ntmps177
 go_wp2
 go_loopg [5,8] l.length (fun gg _ s8 wr=> ∃kk:Nat,kk≤l.length∧l.length - kk≤gg∧s8= .int .i64 kk∧Aside0 (Below w.heap.size w wr)∧Aside0 (∀j (hj:j < l.length),j < kk→p l[j]=false))
 case atStart=>exact⟨0,Nat.zero_le _,by omega,rfl,⟨Below.refl _ w⟩,⟨fun j _ hj=>absurd hj (Nat.not_lt_zero _)⟩⟩
 case round=>
  obtain⟨kk,hkk,hg,rfl,BW,F⟩:=hrel
  by_cases hlt:kk < l.length
  ·obtain⟨ad,A',c',e,hx,hc',hi⟩:=at_L1 HR.out kk (by omega) (by omega)
   cases e
   rw [Int.toNat_natCast] at hx
   have hx':=(BW.out.cell (World.block_lt_of_cell? w _ hx)).trans hx
   clear hx
   have hel:rd_L1 l (kk:Int)=l[kk]:=by simp [rd_L1,hlt]
   have hcall:=HP.out wr A' c' l[kk] (List.getElem_mem hlt) BW.out (by rw [← hel];exact hc') (by rw [← hel];exact Kd.C_below hi BW.out)
   rw [hel] at hx' hc' hi
   have HI:=Aside0.mk hi
   have HC:=Aside0.mk hc'
   clear hi hc' hel
   have hltz:(kk:Int) < (l.length:Int):=by omega
   have h0z:(0:Int)≤(kk:Int):=by omega
   generalize hy:l[kk]=y at hx' hcall HI HC
   have HY:=Aside0.mk hy
   clear hy
   cases hq:p y with
   | true=>
    rw [hq] at hcall
    have HQ:=Aside0.mk hq
    clear hq
    go_wp2_with fail
    refine hcall.mono ?_
    rintro e w' ⟨rfl,hb'⟩
    clear hcall
    go_wp2
    go_ret
    refine⟨?_,Below.trans BW.out (hb'.mono BW.out.size)⟩
    rw [idxP_hit p l kk hlt F.out (by rw [HY.out];exact HQ.out)]
    rfl
   | false=>
    rw [hq] at hcall
    have HQ:=Aside0.mk hq
    clear hq
    go_wp2_with fail
    refine hcall.mono ?_
    rintro e w' ⟨rfl,hb'⟩
    clear hcall
    go_wp2
    go_roundg (l.length - (kk+1))
    case measure=>omega
    case rel=>
     refine⟨kk+1,by omega,by omega,by go_num,⟨Below.trans BW.out (hb'.mono BW.out.size)⟩,⟨fun j hj hjk=>?_⟩⟩
     by_cases e:j=kk
     ·subst e
      rw [HY.out];exact HQ.out
     ·exact F.out j hj (by omega)
  ·have hltz: ¬ (kk:Int) < (l.length:Int):=by omega
   obtain rfl:kk=l.length:=by omega
   go_wp2
   go_ret
   refine⟨?_,BW.out⟩
   rw [idxP_miss p l (fun i hi=>F.out i hi hi)]
   rfl
theorem containsFuncRows (p:List Int→Bool) (g:Nat) (lb:Array Value) (eg: ∀args w,(callFunc g args).run Try.prog w= .ok (.enter g args) w) (A:Option Addr) (c:Nat) (l:List (List Int)) (w:World)
  (hr:Kd.C (Kd.slice 2 (Kd.int .i64)) w A l.length l) (hp:RowsPred g lb p w l):
  Calls Try.prog 195 #[.slice A l.length c, .func (.func g) #[] lb] w fun e w'=>e= .returned (.bool (l.any p))∧Below w.heap.size w w':=by
 rw [← idxP_nonneg p l 0 (Int.le_refl _)]
 have HR:=Aside0.mk hr
 have HP:=Aside0.mk hp
 clear hr hp
 go_enter Try.func195,Try.ntmps195
 go_wp2_with fail
 refine(indexFuncRows p g lb eg A c l _ HR.out HP.out).mono ?_
 rintro e w' ⟨rfl,hb'⟩
 go_wp2
 go_ret
 exact⟨rfl,hb'⟩
end Go.Proofs.Ytmpkckiifeikkaa.Pr
end
section
namespace Go.Proofs.Ytmpkckiifeikkaa.Pr
open Go.RowKit Go.Proofs.YtmpkckiifeikkaaW.PrintWords Go.Proofs.YtmpkckiifeikkaaW.PrintLast Go.Proofs.YtmpkckiifeikkaaW.PrintMore
def badL (k:Int) (row:List Int):Bool:=(row.length:Int) !=k
theorem isSquare1 (gb:Nat) (k:Int) (A:Option Addr) (c:Nat) (x:List Int) (w:World) (hb:w.cell? ⟨gb,0,none⟩=some (.int .i64 k)):
  Calls Try.prog 209 (#[.slice A x.length c]++ #[.pointer (some ⟨gb,0,none⟩)]) w fun e w'=>e= .returned (.bool (badL k x))∧Below w.heap.size w w':=by
 unfold badL
 show Calls Try.prog 209 #[.slice A x.length c, .pointer (some ⟨gb,0,none⟩)] w _
 by_cases e:(x.length:Int)=k
 ·have h1:((x.length:Int) !=k)=false:=by simp [e]
  have h2:((x.length:Int)==k)=true:=by simp [e]
  clear e
  go_enter Try.func209,Try.ntmps209
  go_wp2
  go_ret
  exact⟨by rw [h1];rfl,Below.refl _ _⟩
 ·have h1:((x.length:Int) !=k)=true:=by simp [e]
  have h2:((x.length:Int)==k)=false:=by simp [e]
  clear e
  go_enter Try.func209,Try.ntmps209
  go_wp2
  go_ret
  exact⟨by rw [h1];rfl,Below.refl _ _⟩
theorem isSquare1_enters: ∀args w,(callFunc 209 args).run Try.prog w= .ok (.enter 209 args) w:=enters_fn Try.func209 (by kernel_rfl) rfl
def impl_isSquare.f (l0:List (List Int)) (a1:Int):Option Bool:=some (((l0.length:Int)==a1) && !(l0.any (badL a1)))
theorem impl_isSquare.calls (A0:Option Addr) (c0:Nat) (l0:List (List Int)) (a1:Int) (r:Bool) (w:World) (hr0:Kd.C (Kd.slice 2 (Kd.int .i64)) w A0 l0.length l0) (hc0:l0.length≤c0) (h:impl_isSquare.f l0 a1=some r):
  Calls Try.prog 194 #[.slice A0 l0.length c0, .int .i64 a1] w fun e w'=>e= .returned (.bool r)∧Below w.heap.size w w':=by
 have HR:=Aside0.mk hr0
 clear hr0 hc0
 have hv:=(Option.some.inj h)
 clear h
 by_cases e:(l0.length:Int)=a1
 ·have h1:((l0.length:Int)==a1)=true:=by simp [e]
  rw [h1,Bool.true_and] at hv
  have HV:=Aside0.mk hv
  clear hv e
  have hcall:=fun(gb:Nat) W (hW:Below w.heap.size w W) (hgb:gb < W.heap.size) (hcell:W.cell? ⟨gb,0,none⟩=some (.int .i64 a1))=>
   containsFuncRows (badL a1) 209 #[.pointer (some ⟨gb,0,none⟩)] isSquare1_enters A0 c0 l0 W (Kd.C_below HR.out hW)
    (fun W' A c x _ hb _ hC=>isSquare1 gb a1 A c x W' ((hb.cell (p:=⟨gb,0,none⟩) hgb).trans hcell))
  have HC:=Aside0.mk hcall
  clear hcall
  generalize l0.any (badL a1)=b at HC HV
  go_enter Try.func194,Try.ntmps194
  go_wp2_with fail
  refine(HC.out _ _ ((Below.refl _ _).alloc (Nat.le_refl _) _) (by simp) (by simp)).mono ?_
  rintro e w' ⟨rfl,hb'⟩
  go_wp2
  go_ret
  exact⟨by rw [← HV.out];rfl,((Below.refl _ _).alloc (Nat.le_refl _) _).trans (hb'.mono (by simp))⟩
 ·have h1:((l0.length:Int)==a1)=false:=by simp [e]
  rw [h1,Bool.false_and] at hv
  have HV:=Aside0.mk hv
  clear hv e
  go_enter Try.func194,Try.ntmps194
  go_wp2
  go_ret
  exact⟨by rw [← HV.out];rfl,(Below.refl _ _).alloc (Nat.le_refl _) _⟩
end Go.Proofs.Ytmpkckiifeikkaa.Pr
end
section
namespace Go.Proofs.Ytmpkckiifeikkaa.Pr
open Go.RowKit Go.Proofs.YtmpkckiifeikkaaW.PrintWords Go.Proofs.YtmpkckiifeikkaaW.PrintLast Go.Proofs.YtmpkckiifeikkaaW.PrintMore
attribute [local go_sem] max2_int min2_int max_two min_two max_three min_three max_four min_four
def impl_common.l0:Nat→Int→Int→Option (Int)
 | 0,_,_=>none
 | k+1,x0,x1=>if x1=0 then(some x0) else(impl_common.l0 k x1 (Int.tmod x0 x1))
def impl_common.f (k:Nat) (a0:Int) (a1:Int):Option (Int):=(impl_size.f a0).bind fun aa=>((impl_size.f a1).bind fun ae=>(impl_common.l0 k aa ae))
theorem impl_common.mono_l: ∀k,(∀y0 y1,LeO (impl_common.l0 k y0 y1) (impl_common.l0 (k+1) y0 y1))
 | 0=>fun _ _ r h=>by simp [impl_common.l0] at h
 | k+1=>by
  have ih0:=impl_common.mono_l k
  ·intro y0 y1
   unfold impl_common.l0
   repeat' first
   | (with_reducible exact ih0 _ _)
   | (with_reducible exact LeO.refl _)
   | (with_reducible exact LeO.none _)
   | (with_reducible refine LeO.ite ?_ ?_)
   | (with_reducible refine LeO.bind ?_ (fun _=>?_))
   | exact ih0 _ _
   | exact LeO.none _
   | refine LeO.ite ?_ ?_
   | refine LeO.bind ?_ (fun _=>?_)
theorem impl_common.mono: ∀a0 a1 k,LeO (impl_common.f k a0 a1) (impl_common.f (k+1) a0 a1):=by
 intro a0 a1 k
 have ih0:=impl_common.mono_l k
 unfold impl_common.f
 repeat' first
   | (with_reducible exact ih0 _ _)
   | (with_reducible exact LeO.refl _)
   | (with_reducible exact LeO.none _)
   | (with_reducible refine LeO.ite ?_ ?_)
   | (with_reducible refine LeO.bind ?_ (fun _=>?_))
   | exact ih0 _ _
   | exact LeO.none _
   | refine LeO.ite ?_ ?_
   | refine LeO.bind ?_ (fun _=>?_)
theorem impl_common.calls (k:Nat) (a0:Int) (a1:Int) (r:Int) (w:World) (h:impl_common.f k a0 a1=some r):
  Calls Try.prog 182 #[.int .i64 a0, .int .i64 a1] w fun e w'=>e= .returned (.int .i64 r)∧Below w.heap.size w w':=by
 have HB:=Aside0.mk (Below.refl w.heap.size w)
 have H:((impl_size.f a0).bind fun af=>((impl_size.f a1).bind fun ae=>(impl_common.l0 k af ae)))=some r:=h
 clear h
 replace H:=Option.bind_eq_some_iff.mp H
 obtain⟨af,A30,H⟩:=H
 replace H:((impl_size.f a1).bind fun ae=>(impl_common.l0 k af ae))=some r:=H
 have A3:=Aside0.mk A30
 clear A30
 replace H:=Option.bind_eq_some_iff.mp H
 obtain⟨ae,A40,H⟩:=H
 replace H:(impl_common.l0 k af ae)=some r:=H
 have A4:=Aside0.mk A40
 clear A40
 have H':=Aside0.mk H
 clear H
 go_enter Try.func182,Try.ntmps182
 go_wp2_with (first | (go_at_call 205;(with_reducible refine(impl_size.calls a0 af _ A3.out).mono ?_);rintro e w5 ⟨rfl,hb⟩;replace HB:=Aside0.mk (bs_ hb);(try clear hb);(try clear hb2);(try clear hk);(try clear hi)) | (go_at_call 205;(with_reducible refine(impl_size.calls a1 ae _ A4.out).mono ?_);rintro e w6 ⟨rfl,hb⟩;replace HB:=Aside0.mk (bs_ hb);(try clear hb);(try clear hb2);(try clear hk);(try clear hi)))
 repeat (go_quiet (first | (go_at_call 205;(with_reducible refine(impl_size.calls a0 af _ A3.out).mono ?_);rintro e w5 ⟨rfl,hb⟩;replace HB:=Aside0.mk (bs_ hb);(try clear hb);(try clear hb2);(try clear hk);(try clear hi)) | (go_at_call 205;(with_reducible refine(impl_size.calls a1 ae _ A4.out).mono ?_);rintro e w6 ⟨rfl,hb⟩;replace HB:=Aside0.mk (bs_ hb);(try clear hb);(try clear hb2);(try clear hk);(try clear hi)));try go_wp2_with (first | (go_at_call 205;(with_reducible refine(impl_size.calls a0 af _ A3.out).mono ?_);rintro e w5 ⟨rfl,hb⟩;replace HB:=Aside0.mk (bs_ hb);(try clear hb);(try clear hb2);(try clear hk);(try clear hi)) | (go_at_call 205;(with_reducible refine(impl_size.calls a1 ae _ A4.out).mono ?_);rintro e w6 ⟨rfl,hb⟩;replace HB:=Aside0.mk (bs_ hb);(try clear hb);(try clear hb2);(try clear hk);(try clear hi))))
 go_loopg [0,1] k (fun kq v0 v1 w'=> ∃(ag:Int) (aa:Int),v0= .int .i64 ag∧v1= .int .i64 aa∧Aside0 (impl_common.l0 kq ag aa=some r)∧Aside0 (kq≤k)∧Aside0 (Below w.heap.size w w'))
 case atStart=>exact⟨(af),(ae),rs_,rs_,H',⟨Nat.le_refl _⟩,⟨hb_⟩⟩
 case round=>
  clear H'
  try clear c1
  try clear p2
  obtain⟨ag,aa,rfl,rfl,HA,HK1,HB⟩:=hrel
  cases gk with
  | zero=>exact absurd HA.out (by simp [impl_common.l0])
  | succ k1=>
   have H:=HA.out
   clear HA
   simp only [impl_common.l0] at H
   by_cases c7:aa=0
   ·rw [if_pos c7] at H
    have c7b0:(aa==0)=true:=beq_iff_eq.mpr c7
    have c7b1:(aa !=0)=false:=bne_eq_false_iff_eq.mpr c7
    clear c7
    obtain rfl:=Option.some.inj H
    go_wp2
    repeat (go_quiet (fail);try go_wp2)
    go_ret
    exact⟨by first | rfl | (simp [errW_none,errW_some] <;> rfl) | (simp [*,errW_none,errW_some] <;> rfl),hb_⟩
   ·rw [if_neg c7] at H
    have c7b0:(aa==0)=false:=beq_eq_false_iff_ne.mpr c7
    have c7b1:(aa !=0)=true:=bne_iff_ne.mpr c7
    have H':=Aside0.mk H
    clear H
    go_wp2
    repeat (go_quiet (fail);try go_wp2)
    go_roundg k1
    case measure=>have:=HK1.out;omega
    case rel=>exact⟨(aa),(Int.tmod ag aa),rs_,rs_,H',⟨by have:=HK1.out;omega⟩,⟨hb_⟩⟩
def impl_upTo.f (a0:Int) (a1:Int):Option (Bool):=(impl_within.f a0 (wrap64 (-a1)) a1).bind fun aa=>(some aa)
theorem impl_upTo.calls (a0:Int) (a1:Int) (r:Bool) (w:World) (h:impl_upTo.f a0 a1=some r):
  Calls Try.prog 198 #[.int .i64 a0, .int .i64 a1] w fun e w'=>e= .returned (.bool r)∧Drawn0 w w':=by
 have H:((impl_within.f a0 (wrap64 (-a1)) a1).bind fun aa=>(some aa))=some r:=h
 clear h
 replace H:=Option.bind_eq_some_iff.mp H
 obtain⟨aa,A30,H⟩:=H
 replace H:(some aa)=some r:=H
 have A3:=Aside0.mk A30
 clear A30
 obtain rfl:=Option.some.inj H
 go_enter Try.func198,Try.ntmps198
 go_wp2_with (first | ((with_reducible refine gate_callee (f:=117) rfl ?_);refine gL_ 9 Try.func117 #[.int .i64 a0, .int .i64 (wrap64 (-a1)), .int .i64 a1] ?_;(with_reducible refine(impl_within.calls a0 (wrap64 (-a1)) a1 aa _ A3.out).mono ?_);rintro e w' ⟨rfl,⟨nd,rfl⟩⟩;refine⟨_,rfl,?_⟩))
 go_ret
 exact⟨by first | rfl | (simp;done) | (simp [*];done),by repeat (first | exact Drawn0.refl _ | apply Drawn0.step)⟩
def impl_IsFrac.f (k:Nat) (a0_0:Int) (a0_1:Int):Option (Bool):=(impl_within.f a0_1 1 1000000000).bind fun aa=>(if aa=true then((impl_upTo.f a0_0 1000000000).bind fun ae=>(if ae=true then((impl_common.f k a0_0 a0_1).bind fun af=>(some (af==1))) else(some false))) else(some false))
theorem impl_IsFrac.mono: ∀a0 a1 k,LeO (impl_IsFrac.f k a0 a1) (impl_IsFrac.f (k+1) a0 a1):=by
 intro a0 a1 k
 unfold impl_IsFrac.f
 repeat' first
   | (with_reducible exact impl_common.mono _ _ _)
   | (with_reducible exact LeO.refl _)
   | (with_reducible exact LeO.none _)
   | (with_reducible refine LeO.ite ?_ ?_)
   | (with_reducible refine LeO.bind ?_ (fun _=>?_))
   | exact impl_common.mono _ _ _
   | exact LeO.none _
   | refine LeO.ite ?_ ?_
   | refine LeO.bind ?_ (fun _=>?_)
theorem impl_IsFrac.calls (k:Nat) (a0_0:Int) (a0_1:Int) (r:Bool) (w:World) (h:impl_IsFrac.f k a0_0 a0_1=some r):
  Calls Try.prog 183 #[.agg #[.int .i64 a0_0, .int .i64 a0_1]] w fun e w'=>e= .returned (.bool r)∧Below w.heap.size w w':=by
 have hu93:=Try.underlying93
 have HB:=Aside0.mk (Below.refl w.heap.size w)
 have H:((impl_within.f a0_1 1 1000000000).bind fun ah=>(if ah=true then((impl_upTo.f a0_0 1000000000).bind fun ag=>(if ag=true then((impl_common.f k a0_0 a0_1).bind fun af=>(some (af==1))) else(some false))) else(some false)))=some r:=h
 clear h
 replace H:=Option.bind_eq_some_iff.mp H
 obtain⟨ah,A20,H⟩:=H
 replace H:(if ah=true then((impl_upTo.f a0_0 1000000000).bind fun ag=>(if ag=true then((impl_common.f k a0_0 a0_1).bind fun af=>(some (af==1))) else(some false))) else(some false))=some r:=H
 have A2:=Aside0.mk A20
 clear A20
 by_cases c3:ah=true
 ·subst c3
  have H1:((impl_upTo.f a0_0 1000000000).bind fun ag=>(if ag=true then((impl_common.f k a0_0 a0_1).bind fun af=>(some (af==1))) else(some false)))=some r:=by rw [if_pos rfl] at H;exact H
  clear H
  have H:=H1
  clear H1
  replace H:=Option.bind_eq_some_iff.mp H
  obtain⟨ag,A40,H⟩:=H
  replace H:(if ag=true then((impl_common.f k a0_0 a0_1).bind fun af=>(some (af==1))) else(some false))=some r:=H
  have A4:=Aside0.mk A40
  clear A40
  by_cases c5:ag=true
  ·subst c5
   have H1:((impl_common.f k a0_0 a0_1).bind fun af=>(some (af==1)))=some r:=by rw [if_pos rfl] at H;exact H
   clear H
   have H:=H1
   clear H1
   replace H:=Option.bind_eq_some_iff.mp H
   obtain⟨af,A60,H⟩:=H
   replace H:(some (af==1))=some r:=H
   have A6:=Aside0.mk A60
   clear A60
   obtain rfl:=Option.some.inj H
   go_enter Try.func183,Try.ntmps183
   go_wp2_with (first | ((with_reducible refine gate_dst (N:=1) rfl ?_);refine box_event ?hg (N:=1) ?hd (cs:= #[.int .i64 a0_0, .int .i64 a0_1]) (t:=93) ?hr ?_;(case hd=>rfl);(case hg=>rfl);(case hr=>first | (go_simp;done) | (go_simp;rfl));intro ae hg w7 hbox hb;have aa:=Aside0.mk (hbox);have ai:=Aside0.mk ((by rw [hg];exact bz_:w.heap.size≤ae));have aj:=Aside0.mk ((by rw [hg];exact bz_:w.heap.size≤ae));replace HB:=Aside0.mk (bs_ hb);clear hb hbox hg;have aA:w7.cell? ⟨ae,0,none⟩=some (.int .i64 a0_0):=(blk_cell aa.out 0).trans rfl;have aC:w7.cell? ⟨ae,1,none⟩=some (.int .i64 a0_1):=(blk_cell aa.out 1).trans rfl;have aD:=blk_frozen aa.out 0;have aG:=blk_frozen aa.out 1) | ((with_reducible refine gate_callee (f:=117) rfl ?_);refine gL_ 5 Try.func117 #[.int .i64 a0_1, .int .i64 1, .int .i64 1000000000] ?_;(with_reducible refine(impl_within.calls a0_1 1 1000000000 true _ A2.out).mono ?_);rintro e w' ⟨rfl,⟨nd,rfl⟩⟩;refine⟨_,rfl,?_⟩) | (go_at_call 198;(with_reducible refine(impl_upTo.calls a0_0 1000000000 true _ A4.out).mono ?_);rintro e w' ⟨rfl,⟨nd,rfl⟩⟩) | (go_at_call 182;(with_reducible refine(impl_common.calls k a0_0 a0_1 af _ A6.out).mono ?_);rintro e w9 ⟨rfl,hb⟩;replace aa:=Aside0.mk (bb_ aa.out hb);replace HB:=Aside0.mk (bs_ hb);(try clear hb);(try clear hb2);(try clear hk);(try clear hi)))
   go_ret
   exact⟨by first | rfl | (simp [errW_none,errW_some] <;> rfl) | (simp [*,errW_none,errW_some] <;> rfl),hb_⟩
  ·replace c5:=Bool.eq_false_iff.mpr c5
   subst c5
   have H1:(some false)=some r:=by rw [if_neg (show ¬ (false=true) by decide)] at H;exact H
   clear H
   have H:=H1
   clear H1
   obtain rfl:=Option.some.inj H
   go_enter Try.func183,Try.ntmps183
   go_wp2_with (first | ((with_reducible refine gate_dst (N:=1) rfl ?_);refine box_event ?hg (N:=1) ?hd (cs:= #[.int .i64 a0_0, .int .i64 a0_1]) (t:=93) ?hr ?_;(case hd=>rfl);(case hg=>rfl);(case hr=>first | (go_simp;done) | (go_simp;rfl));intro ae hg w10 hbox hb;have aa:=Aside0.mk (hbox);have ai:=Aside0.mk ((by rw [hg];exact bz_:w.heap.size≤ae));have aj:=Aside0.mk ((by rw [hg];exact bz_:w.heap.size≤ae));replace HB:=Aside0.mk (bs_ hb);clear hb hbox hg;have ak:w10.cell? ⟨ae,0,none⟩=some (.int .i64 a0_0):=(blk_cell aa.out 0).trans rfl;have aq:w10.cell? ⟨ae,1,none⟩=some (.int .i64 a0_1):=(blk_cell aa.out 1).trans rfl;have au:=blk_frozen aa.out 0;have av:=blk_frozen aa.out 1) | ((with_reducible refine gate_callee (f:=117) rfl ?_);refine gL_ 5 Try.func117 #[.int .i64 a0_1, .int .i64 1, .int .i64 1000000000] ?_;(with_reducible refine(impl_within.calls a0_1 1 1000000000 true _ A2.out).mono ?_);rintro e w' ⟨rfl,⟨nd,rfl⟩⟩;refine⟨_,rfl,?_⟩) | (go_at_call 198;(with_reducible refine(impl_upTo.calls a0_0 1000000000 false _ A4.out).mono ?_);rintro e w' ⟨rfl,⟨nd,rfl⟩⟩))
   go_ret
   exact⟨by first | rfl | (simp [errW_none,errW_some] <;> rfl) | (simp [*,errW_none,errW_some] <;> rfl),hb_⟩
 ·replace c3:=Bool.eq_false_iff.mpr c3
  subst c3
  have H1:(some false)=some r:=by rw [if_neg (show ¬ (false=true) by decide)] at H;exact H
  clear H
  have H:=H1
  clear H1
  obtain rfl:=Option.some.inj H
  go_enter Try.func183,Try.ntmps183
  go_wp2_with (first | ((with_reducible refine gate_dst (N:=1) rfl ?_);refine box_event ?hg (N:=1) ?hd (cs:= #[.int .i64 a0_0, .int .i64 a0_1]) (t:=93) ?hr ?_;(case hd=>rfl);(case hg=>rfl);(case hr=>first | (go_simp;done) | (go_simp;rfl));intro ae hg w12 hbox hb;have aa:=Aside0.mk (hbox);have ai:=Aside0.mk ((by rw [hg];exact bz_:w.heap.size≤ae));have aj:=Aside0.mk ((by rw [hg];exact bz_:w.heap.size≤ae));replace HB:=Aside0.mk (bs_ hb);clear hb hbox hg;have aw:w12.cell? ⟨ae,0,none⟩=some (.int .i64 a0_0):=(blk_cell aa.out 0).trans rfl;have ax:w12.cell? ⟨ae,1,none⟩=some (.int .i64 a0_1):=(blk_cell aa.out 1).trans rfl;have ay:=blk_frozen aa.out 0;have az:=blk_frozen aa.out 1) | ((with_reducible refine gate_callee (f:=117) rfl ?_);refine gL_ 5 Try.func117 #[.int .i64 a0_1, .int .i64 1, .int .i64 1000000000] ?_;(with_reducible refine(impl_within.calls a0_1 1 1000000000 false _ A2.out).mono ?_);rintro e w' ⟨rfl,⟨nd,rfl⟩⟩;refine⟨_,rfl,?_⟩))
  go_ret
  exact⟨by first | rfl | (simp [errW_none,errW_some] <;> rfl) | (simp [*,errW_none,errW_some] <;> rfl),hb_⟩
end Go.Proofs.Ytmpkckiifeikkaa.Pr
end
section
namespace Go.Proofs.Ytmpkckiifeikkaa.Pr
open Go.RowKit Go.Proofs.YtmpkckiifeikkaaW.PrintWords Go.Proofs.YtmpkckiifeikkaaW.PrintLast Go.Proofs.YtmpkckiifeikkaaW.PrintMore
def badU (a n:Int):Bool:=!(decide (-a≤n) && decide (n≤a))
theorem upTo_f (n a:Int) (h0:0≤a) (h1:a≤1099511627776):impl_upTo.f n a=some (!(badU a n)):=by
 unfold impl_upTo.f impl_within.f badU
 rw [Ma.w64 (by omega) (by omega),Bool.not_not]
 by_cases h: -a≤n
 ·rw [if_pos (by omega)];simp [h]
 ·rw [if_neg (by omega)];simp [h]
theorem allUpTo1 (gb:Nat) (a n:Int) (w:World) (h0:0≤a) (h1:a≤1099511627776) (hb:w.cell? ⟨gb,0,none⟩=some (.int .i64 a)):
  Calls Try.prog 197 (#[.int .i64 n]++ #[.pointer (some ⟨gb,0,none⟩)]) w fun e w'=>e= .returned (.bool (badU a n))∧Below w.heap.size w w':=by
 have hf:=upTo_f n a h0 h1
 have HF:=Aside0.mk hf
 clear hf h0 h1
 show Calls Try.prog 197 #[.int .i64 n, .pointer (some ⟨gb,0,none⟩)] w _
 generalize badU a n=b at HF ⊢
 go_enter Try.func197,Try.ntmps197
 go_wp2_with fail
 refine(impl_upTo.calls n a _ _ HF.out).mono ?_
 rintro e w' ⟨rfl,⟨nd,rfl⟩⟩
 go_wp2
 go_ret
 refine⟨by simp,pw_below_drewN (Below.refl _ _) _⟩
theorem allUpTo1_enters: ∀args w,(callFunc 197 args).run Try.prog w= .ok (.enter 197 args) w:=enters_fn Try.func197 (by kernel_rfl) rfl
def impl_allUpTo.f (l0:List Int) (a1:Int):Option Bool:=if 0≤a1∧a1≤1099511627776 then some (!(l0.any (badU a1))) else none
theorem impl_allUpTo.calls (A0:Option Addr) (c0:Nat) (l0:List Int) (a1:Int) (r:Bool) (w:World) (hr0:Kd.C (Kd.int .i64) w A0 l0.length l0) (hc0:l0.length≤c0) (h:impl_allUpTo.f l0 a1=some r):
  Calls Try.prog 161 #[.slice A0 l0.length c0, .int .i64 a1] w fun e w'=>e= .returned (.bool r)∧Below w.heap.size w w':=by
 unfold impl_allUpTo.f at h
 split at h
 case isFalse=>cases h
 rename_i ha
 have HR:=Aside0.mk hr0
 clear hr0 hc0
 have HV:=Aside0.mk (Option.some.inj h)
 clear h
 have hcall:=fun(gb:Nat) W (hW:Below w.heap.size w W) (hgb:gb < W.heap.size) (hcell:W.cell? ⟨gb,0,none⟩=some (.int .i64 a1))=>
  containsFuncInts (badU a1) 197 #[.pointer (some ⟨gb,0,none⟩)] allUpTo1_enters A0 c0 l0 W (Kd.C_below HR.out hW)
   (fun W' x _ hb=>allUpTo1 gb a1 x W' ha.1 ha.2 ((hb.cell (p:=⟨gb,0,none⟩) hgb).trans hcell))
 have HC:=Aside0.mk hcall
 clear hcall ha
 generalize l0.any (badU a1)=b at HC HV
 go_enter Try.func161,Try.ntmps161
 go_wp2_with fail
 refine(HC.out _ _ ((Below.refl _ _).alloc (Nat.le_refl _) _) (by simp) (by simp)).mono ?_
 rintro e w' ⟨rfl,hb'⟩
 go_wp2
 go_ret
 exact⟨by rw [← HV.out];rfl,((Below.refl _ _).alloc (Nat.le_refl _) _).trans (hb'.mono (by simp))⟩
end Go.Proofs.Ytmpkckiifeikkaa.Pr
end
section
namespace Go.Proofs.Ytmpkckiifeikkaa.Pr
open Go.RowKit Go.Proofs.YtmpkckiifeikkaaW.PrintWords Go.Proofs.YtmpkckiifeikkaaW.PrintLast Go.Proofs.YtmpkckiifeikkaaW.PrintMore
def badM (row:List Int):Bool:=row.any (badU 20)
theorem isMatrix1 (A:Option Addr) (c:Nat) (x:List Int) (w:World) (hx:Kd.C (Kd.int .i64) w A x.length x) (hc:x.length≤c):
  Calls Try.prog 196 (#[.slice A x.length c]++ #[]) w fun e w'=>e= .returned (.bool (badM x))∧Below w.heap.size w w':=by
 have HX:=Aside0.mk hx
 have HC:=Aside0.mk hc
 have hf:impl_allUpTo.f x 20=some (!(badM x)):=by unfold impl_allUpTo.f badM;rw [if_pos ⟨by decide,by decide⟩]
 have HF:=Aside0.mk hf
 clear hx hc hf
 show Calls Try.prog 196 #[.slice A x.length c] w _
 generalize badM x=b at HF ⊢
 go_enter Try.func196,Try.ntmps196
 go_wp2_with fail
 refine(impl_allUpTo.calls A c x 20 _ _ HX.out HC.out HF.out).mono ?_
 rintro e w' ⟨rfl,hb⟩
 go_wp2
 go_ret
 exact⟨by simp,hb⟩
theorem isMatrix1_enters: ∀args w,(callFunc 196 args).run Try.prog w= .ok (.enter 196 args) w:=enters_fn Try.func196 (by kernel_rfl) rfl
def impl_IsMatrix.f (l0:List (List Int)):Option Bool:=some ((decide (1≤(l0.length:Int)) && decide ((l0.length:Int)≤5)) && !(l0.any (badL l0.length)) && !(l0.any badM))
theorem within_b (n a b:Int):impl_within.f n a b=some (decide (a≤n) && decide (n≤b)):=by
 unfold impl_within.f
 by_cases h:a≤n
 ·rw [if_pos (by omega)];simp [h]
 ·rw [if_neg (by omega)];simp [h]
theorem impl_IsMatrix.calls (A0:Option Addr) (c0:Nat) (l0:List (List Int)) (r:Bool) (w:World) (hr0:Kd.C (Kd.slice 2 (Kd.int .i64)) w A0 l0.length l0) (hc0:l0.length≤c0) (h:impl_IsMatrix.f l0=some r):
  Calls Try.prog 160 #[.slice A0 l0.length c0] w fun e w'=>e= .returned (.bool r)∧Below w.heap.size w w':=by
 have HR:=Aside0.mk hr0
 have HC0:=Aside0.mk hc0
 have HW:=Aside0.mk (within_b (l0.length:Int) 1 5)
 have hsq:impl_isSquare.f l0 (l0.length:Int)=some (!(l0.any (badL l0.length))):=by unfold impl_isSquare.f;simp
 have HS:=Aside0.mk hsq
 have hv:=(Option.some.inj h)
 have hcall:=fun W (hW:Below w.heap.size w W)=>containsFuncRows badM 196 #[] isMatrix1_enters A0 c0 l0 W (Kd.C_below HR.out hW) (fun W' A c x _ _ hc hC=>isMatrix1 A c x W' hC hc)
 have HC:=Aside0.mk hcall
 have HV:=Aside0.mk hv
 clear hr0 hc0 h hsq hv hcall
 generalize l0.any badM=b3 at HC HV
 generalize l0.any (badL l0.length)=b2 at HS HV
 generalize (decide (1≤(l0.length:Int)) && decide ((l0.length:Int)≤5))=b1 at HW HV
 go_enter Try.func160,Try.ntmps160
 go_wp2_with fail
 refine(impl_within.calls _ 1 5 _ _ HW.out).mono ?_
 rintro e w1 ⟨rfl,hd⟩
 have hb1:=hd.below
 have HB1:=Aside0.mk hb1
 clear hb1 hd
 cases b1 with
 | false=>
  go_wp2
  go_ret
  exact⟨by rw [← HV.out];rfl,HB1.out⟩
 | true=>
  go_wp2_with fail
  refine(impl_isSquare.calls A0 c0 l0 _ _ _ (Kd.C_below HR.out HB1.out) HC0.out HS.out).mono ?_
  rintro e w2 ⟨rfl,hb2⟩
  have HB2:=Aside0.mk (HB1.out.trans (hb2.mono HB1.out.size))
  clear hb2
  cases b2 with
  | true=>
   go_wp2
   go_ret
   exact⟨by rw [← HV.out];rfl,HB2.out⟩
  | false=>
   go_wp2_with fail
   refine(HC.out _ HB2.out).mono ?_
   rintro e w3 ⟨rfl,hb3⟩
   go_wp2
   go_ret
   exact⟨by rw [← HV.out];simp,HB2.out.trans (hb3.mono HB2.out.size)⟩
end Go.Proofs.Ytmpkckiifeikkaa.Pr
end
section
namespace Go.Proofs.Ytmpkckiifeikkaa.Pr
open Go.RowKit Go.Proofs.YtmpkckiifeikkaaW.PrintWords Go.Proofs.YtmpkckiifeikkaaW.PrintLast Go.Proofs.YtmpkckiifeikkaaW.PrintMore
attribute [local go_sem] max2_int min2_int max_two min_two max_three min_three max_four min_four
def impl_IsProblem.f (aa:List (List Int)) (ae:List Int):Option (Bool):=(impl_IsMatrix.f aa).bind fun af=>(if af=true then(if(ae.length:Int)=(aa.length:Int) then((impl_allUpTo.f ae 100).bind fun ag=>(some ag)) else(some false)) else(some false))
theorem impl_IsProblem.calls (ah:Option Addr) (ai:Nat) (ae:List (List Int)) (aj:Option Addr) (ak:Nat) (af:List Int) (r:Bool) (w:World) (ax:Kd.C (Kd.slice 2 (Kd.int .i64)) w ah ae.length ae) (ay:ae.length≤ai) (az:Kd.C (Kd.int .i64) w aj af.length af) (aA:af.length≤ak) (h:impl_IsProblem.f ae af=some r):
  Calls Try.prog 102 #[.agg #[.slice ah ae.length ai, .slice aj af.length ak]] w fun e w'=>e= .returned (.bool r)∧Below w.heap.size w w':=by
 have hu30:=Try.underlying30
 have HR0_0:=Aside0.mk ax
 have HC0_0:=Aside0.mk ay
 clear ax ay
 have HR0_1:=Aside0.mk az
 have HC0_1:=Aside0.mk aA
 clear az aA
 have HB:=Aside0.mk (Below.refl w.heap.size w)
 have H:((impl_IsMatrix.f ae).bind fun aw=>(if aw=true then(if(af.length:Int)=(ae.length:Int) then((impl_allUpTo.f af 100).bind fun av=>(some av)) else(some false)) else(some false)))=some r:=h
 clear h
 replace H:=Option.bind_eq_some_iff.mp H
 obtain⟨aw,A20,H⟩:=H
 replace H:(if aw=true then(if(af.length:Int)=(ae.length:Int) then((impl_allUpTo.f af 100).bind fun av=>(some av)) else(some false)) else(some false))=some r:=H
 have A2:=Aside0.mk A20
 clear A20
 by_cases c3:aw=true
 ·subst c3
  have H1:(if(af.length:Int)=(ae.length:Int) then((impl_allUpTo.f af 100).bind fun av=>(some av)) else(some false))=some r:=by rw [if_pos rfl] at H;exact H
  clear H
  have H:=H1
  clear H1
  by_cases c4:(af.length:Int)=(ae.length:Int)
  ·rw [if_pos c4] at H
   have c4b0:((af.length:Int)==(ae.length:Int))=true:=beq_iff_eq.mpr c4
   have c4b1:((af.length:Int) !=(ae.length:Int))=false:=bne_eq_false_iff_eq.mpr c4
   have c4b2:(af.length==ae.length)=true:=by first | simpa using c4 | (simp at c4 ⊢;omega)
   clear c4
   replace H:=Option.bind_eq_some_iff.mp H
   obtain⟨av,A50,H⟩:=H
   replace H:(some av)=some r:=H
   have A5:=Aside0.mk A50
   clear A50
   obtain rfl:=Option.some.inj H
   go_enter Try.func102,Try.ntmps102
   go_wp2_with (first | ((with_reducible refine gate_dst (N:=1) rfl ?_);(try (refine gate_guard (by rfl) ?_;dsimp only));refine box_event ?hg (N:=1) ?hd (cs:= #[.slice ah ae.length ai, .slice aj af.length ak]) (t:=30) ?hr ?_;(case hd=>rfl);(case hg=>rfl);(case hr=>first | (go_simp;done) | (go_simp;rfl));intro ag hg w6 hbox hb;have aa:=Aside0.mk (hbox);have aC:=Aside0.mk ((by rw [hg];exact bz_:w.heap.size≤ag));have aD:=Aside0.mk ((by rw [hg];exact bz_:w.heap.size≤ag));replace HB:=Aside0.mk (bs_ hb);clear hb hbox hg;have aY:w6.cell? ⟨ag,0,none⟩=some (.slice ah ae.length ai):=(blk_cell aa.out 0).trans rfl;have aZ:w6.cell? ⟨ag,1,none⟩=some (.slice aj af.length ak):=(blk_cell aa.out 1).trans rfl;have a9:=blk_frozen aa.out 0;have ba:=blk_frozen aa.out 1) | ((with_reducible refine gate_callee (f:=160) rfl ?_);refine gL_ 5 Try.func160 #[.slice ah ae.length ai] ?_;(with_reducible refine(impl_IsMatrix.calls _ _ ae true _ ?aq ?au A2.out).mono ?_);(case aq=>exact cb_ HR0_0.out HB.out);(case au=>exact HC0_0.out);rintro e w8 ⟨rfl,hb⟩;refine⟨_,rfl,?_⟩;replace aa:=Aside0.mk (bb_ aa.out hb);replace HB:=Aside0.mk (bs_ hb);(try clear hb);(try clear hb2);(try clear hk);(try clear hi);have bb:w8.cell? ⟨ag,0,none⟩=some (.slice ah ae.length ai):=(blk_cell aa.out 0).trans rfl;have bg:w8.cell? ⟨ag,1,none⟩=some (.slice aj af.length ak):=(blk_cell aa.out 1).trans rfl;have bh:=blk_frozen aa.out 0;have bi:=blk_frozen aa.out 1) | (go_at_call 161;(with_reducible refine(impl_allUpTo.calls _ _ af 100 av _ ?aq ?au A5.out).mono ?_);(case aq=>exact cb_ HR0_1.out HB.out);(case au=>exact HC0_1.out);rintro e w10 ⟨rfl,hb⟩;replace aa:=Aside0.mk (bb_ aa.out hb);replace HB:=Aside0.mk (bs_ hb);(try clear hb);(try clear hb2);(try clear hk);(try clear hi)))
   go_ret
   exact⟨by first | rfl | (simp [errW_none,errW_some] <;> rfl) | (simp [*,errW_none,errW_some] <;> rfl),hb_⟩
  ·rw [if_neg c4] at H
   have c4b0:((af.length:Int)==(ae.length:Int))=false:=beq_eq_false_iff_ne.mpr c4
   have c4b1:((af.length:Int) !=(ae.length:Int))=true:=bne_iff_ne.mpr c4
   have c4b2:(af.length==ae.length)=false:=by first | simpa using c4 | (simp at c4 ⊢;omega)
   obtain rfl:=Option.some.inj H
   go_enter Try.func102,Try.ntmps102
   go_wp2_with (first | ((with_reducible refine gate_dst (N:=1) rfl ?_);(try (refine gate_guard (by rfl) ?_;dsimp only));refine box_event ?hg (N:=1) ?hd (cs:= #[.slice ah ae.length ai, .slice aj af.length ak]) (t:=30) ?hr ?_;(case hd=>rfl);(case hg=>rfl);(case hr=>first | (go_simp;done) | (go_simp;rfl));intro ag hg w11 hbox hb;have aa:=Aside0.mk (hbox);have aC:=Aside0.mk ((by rw [hg];exact bz_:w.heap.size≤ag));have aD:=Aside0.mk ((by rw [hg];exact bz_:w.heap.size≤ag));replace HB:=Aside0.mk (bs_ hb);clear hb hbox hg;have aG:w11.cell? ⟨ag,0,none⟩=some (.slice ah ae.length ai):=(blk_cell aa.out 0).trans rfl;have aH:w11.cell? ⟨ag,1,none⟩=some (.slice aj af.length ak):=(blk_cell aa.out 1).trans rfl;have aI:=blk_frozen aa.out 0;have aJ:=blk_frozen aa.out 1) | ((with_reducible refine gate_callee (f:=160) rfl ?_);refine gL_ 5 Try.func160 #[.slice ah ae.length ai] ?_;(with_reducible refine(impl_IsMatrix.calls _ _ ae true _ ?aq ?au A2.out).mono ?_);(case aq=>exact cb_ HR0_0.out HB.out);(case au=>exact HC0_0.out);rintro e w13 ⟨rfl,hb⟩;refine⟨_,rfl,?_⟩;replace aa:=Aside0.mk (bb_ aa.out hb);replace HB:=Aside0.mk (bs_ hb);(try clear hb);(try clear hb2);(try clear hk);(try clear hi);have aK:w13.cell? ⟨ag,0,none⟩=some (.slice ah ae.length ai):=(blk_cell aa.out 0).trans rfl;have aM:w13.cell? ⟨ag,1,none⟩=some (.slice aj af.length ak):=(blk_cell aa.out 1).trans rfl;have aN:=blk_frozen aa.out 0;have aT:=blk_frozen aa.out 1))
   go_ret
   exact⟨by first | rfl | (simp [errW_none,errW_some] <;> rfl) | (simp [*,errW_none,errW_some] <;> rfl),hb_⟩
 ·replace c3:=Bool.eq_false_iff.mpr c3
  subst c3
  have H1:(some false)=some r:=by rw [if_neg (show ¬ (false=true) by decide)] at H;exact H
  clear H
  have H:=H1
  clear H1
  obtain rfl:=Option.some.inj H
  go_enter Try.func102,Try.ntmps102
  go_wp2_with (first | ((with_reducible refine gate_dst (N:=1) rfl ?_);(try (refine gate_guard (by rfl) ?_;dsimp only));refine box_event ?hg (N:=1) ?hd (cs:= #[.slice ah ae.length ai, .slice aj af.length ak]) (t:=30) ?hr ?_;(case hd=>rfl);(case hg=>rfl);(case hr=>first | (go_simp;done) | (go_simp;rfl));intro ag hg w15 hbox hb;have aa:=Aside0.mk (hbox);have aC:=Aside0.mk ((by rw [hg];exact bz_:w.heap.size≤ag));have aD:=Aside0.mk ((by rw [hg];exact bz_:w.heap.size≤ag));replace HB:=Aside0.mk (bs_ hb);clear hb hbox hg;have aU:w15.cell? ⟨ag,0,none⟩=some (.slice ah ae.length ai):=(blk_cell aa.out 0).trans rfl;have aV:w15.cell? ⟨ag,1,none⟩=some (.slice aj af.length ak):=(blk_cell aa.out 1).trans rfl;have aW:=blk_frozen aa.out 0;have aX:=blk_frozen aa.out 1) | ((with_reducible refine gate_callee (f:=160) rfl ?_);refine gL_ 5 Try.func160 #[.slice ah ae.length ai] ?_;(with_reducible refine(impl_IsMatrix.calls _ _ ae false _ ?aq ?au A2.out).mono ?_);(case aq=>exact cb_ HR0_0.out HB.out);(case au=>exact HC0_0.out);rintro e w17 ⟨rfl,hb⟩;refine⟨_,rfl,?_⟩;replace aa:=Aside0.mk (bb_ aa.out hb);replace HB:=Aside0.mk (bs_ hb);(try clear hb);(try clear hb2);(try clear hk);(try clear hi)))
  go_ret
  exact⟨by first | rfl | (simp [errW_none,errW_some] <;> rfl) | (simp [*,errW_none,errW_some] <;> rfl),hb_⟩
end Go.Proofs.Ytmpkckiifeikkaa.Pr
end
section
namespace Go.Proofs.Ytmpkckiifeikkaa.Pb
open Go.RowKit Go.Proofs.YtmpkckiifeikkaaW.PrintWords Go.Proofs.YtmpkckiifeikkaaW.PrintMore Go.Proofs.Ytmpkckiifeikkaa.Ma Go.Proofs.Ytmpkckiifeikkaa.Pr Go.Proofs.Ytmpkckiifeikkaa.Dt Go.Proofs.Ytmpkckiifeikkaa.Bz Go.Proofs.Ytmpkckiifeikkaa.Cz
theorem sin_eq (x a b:Int):spec_l01In.f x a b=some (decide (a≤x∧x≤b)):=by
 unfold spec_l01In.f
 by_cases h:x ≥ a
 ·rw [if_pos h];congr 1;rw [Bool.eq_iff_iff];simp;omega
 ·rw [if_neg h];congr 1;rw [Bool.eq_iff_iff];simp;omega
theorem head_step {P:Nat→Prop} {i d:Nat} (h:i < d):(∀j,i≤j→j < d→P j)↔P i∧ ∀j,i+1≤j→j < d→P j:=
 ⟨fun q=>⟨q i (Nat.le_refl _) h,fun j h1 h2=>q j (by omega) h2⟩,fun q j h1 h2=>by
  by_cases e:j=i
  ·subst e;exact q.1
  ·exact q.2 j (by omega) h2⟩
theorem no_iff {b:Bool} {p:Prop} (h:b=true↔p) (hp: ¬ p):b=false:=by
 cases b with
 | false=>rfl
 | true=>exact absurd (h.1 rfl) hp
def N20 (x:Int):Prop:= -20≤x∧x≤20
def N100 (x:Int):Prop:= -100≤x∧x≤100
def RowM (M:List (List Int)) (i:Nat):Prop:=(M.getD i []).length=M.length∧ ∀j,0≤j→j < M.length→N20 (en M i j)
structure MatOK (M:List (List Int)):Prop where
 n1:1≤M.length
 n5:M.length≤5
 rows: ∀i,0≤i→i < M.length→RowM M i
structure POK (M:List (List Int)) (q:List Int):Prop where
 mat:MatOK M
 len:q.length=M.length
 num: ∀i,0≤i→i < q.length→N100 (q.getD i 0)
section
variable {M:List (List Int)} (hM:M.length≤5)
include hM
theorem spec_mrows: ∀m i,i+m=M.length→ ∀t:Bool,(t=true↔ ∀u,i≤u→u < M.length→RowM M u)→Ev (fun k=>spec_l01Matrix.l0 k M (M.length:Int) i) t:=by
 intro m
 induction m with
 | zero=>
  intro i hi t ht
  obtain rfl:t=true:=ht.2 (fun u h1 h2=>by omega)
  exact evstep (fun k=>by rw [spec_l01Matrix.l0]) (evneg (by omega) (evc rfl))
 | succ m ih=>
  intro i hi t ht
  have hs:=head_step (P:=RowM M) (i:=i) (d:=M.length) (by omega)
  have ht2:=ht.trans hs
  refine evstep (fun k=>by rw [spec_l01Matrix.l0]) (evpos (by omega) (evpos (by omega) (evpos (by omega) ?_)))
  rw [rdL1]
  by_cases c:(M.getD i []).length=M.length
  ·refine evpos (by omega) ?_
   have cols: ∀p j,j+p=M.length→ ∀t:Bool,(t=true↔(∀v,j≤v→v < M.length→N20 (en M i v))∧ ∀u,i+1≤u→u < M.length→RowM M u)→Ev (fun k=>spec_l01Matrix.l1 k M (M.length:Int) i j) t:=by
    intro p
    induction p with
    | zero=>
     intro j hj t ht
     refine evstep (fun k=>by rw [spec_l01Matrix.l1]) (evneg (by omega) ?_)
     rw [w64 (x:=(i:Int)+1) (by omega) (by omega)]
     exact ih (i+1) (by omega) t (ht.trans ⟨fun h=>h.2,fun h=>⟨fun v h1 h2=>by omega,h⟩⟩)
    | succ p ihp=>
     intro j hj t ht
     have hs2:=head_step (P:=fun v=>N20 (en M i v)) (i:=j) (d:=M.length) (by omega)
     refine evstep (fun k=>by rw [spec_l01Matrix.l1]) ?_
     rw [rdL1]
     refine evpos (by omega) (evpos (by omega) (evpos (by omega) (evpos (by omega) (evpos (by omega) (evsome (sin_eq _ _ _) ?_)))))
     rw [rd_nat,show (M.getD i []).getD j 0=en M i j from rfl,w64 (x:=(j:Int)+1) (by omega) (by omega)]
     by_cases d: -20≤en M i j∧en M i j≤20
     ·exact evpos (decide_eq_true d) (ihp (j+1) (by omega) t (ht.trans ⟨fun h=>⟨(hs2.1 h.1).2,h.2⟩,fun h=>⟨hs2.2 ⟨d,h.1⟩,h.2⟩⟩))
     ·rw [no_iff ht (fun h=>d ((hs2.1 h.1).1))]
      exact evneg (by simpa using d) (evc rfl)
   exact cols M.length 0 (by omega) t (ht2.trans ⟨fun h=>⟨fun v h1 h2=>h.1.2 v h1 h2,h.2⟩,fun h=>⟨⟨c,fun v h1 h2=>h.1 v h1 h2⟩,h.2⟩⟩)
  ·rw [no_iff ht2 (fun h=>c h.1.1)]
   exact evneg (by omega) (evc rfl)
end
theorem spec_mat (M:List (List Int)) (t:Bool) (ht:t=true↔MatOK M):Ev (fun k=>spec_l01Matrix.f k M) t:=by
 unfold spec_l01Matrix.f
 by_cases c1:(M.length:Int) < 1
 ·rw [no_iff ht (fun h=>by have:=h.n1;omega)]
  exact evpos c1 (evstep (fun k=>by rw [spec_l01Matrix.j0]) (evpos rfl (evc rfl)))
 ·refine evneg c1 (evstep (fun k=>by rw [spec_l01Matrix.j0]) ?_)
  by_cases c2:(M.length:Int) > 5
  ·rw [no_iff ht (fun h=>by have:=h.n5;omega)]
   exact evpos (decide_eq_true c2) (evc rfl)
  ·refine evneg (by simpa using c2) ?_
   exact spec_mrows (by omega) M.length 0 (by omega) t (ht.trans ⟨fun h=>h.rows,fun h=>⟨by omega,by omega,h⟩⟩)
open Classical in
theorem spec_is (M:List (List Int)) (q:List Int) (hq:q.length≤1048576) (t:Bool) (ht:t=true↔POK M q):Ev (fun k=>spec_l01Is.f k M q) t:=by
 unfold spec_l01Is.f
 refine evbind (spec_mat M (decide (MatOK M)) (by simp)) ?_
 by_cases m:MatOK M
 ·refine evpos (by simpa using m) (evstep (fun k=>by rw [spec_l01Is.j0]) ?_)
  by_cases c:q.length=M.length
  ·refine evneg (by simp [c]) ?_
   have loop: ∀p i,i+p=q.length→ ∀t:Bool,(t=true↔ ∀u,i≤u→u < q.length→N100 (q.getD u 0))→Ev (fun k=>spec_l01Is.l0 k i M q) t:=by
    intro p
    induction p with
    | zero=>
     intro i hi t ht
     obtain rfl:t=true:=ht.2 (fun u h1 h2=>by omega)
     exact evstep (fun k=>by rw [spec_l01Is.l0]) (evneg (by omega) (evc rfl))
    | succ p ih=>
     intro i hi t ht
     have hs:=head_step (P:=fun u=>N100 (q.getD u 0)) (i:=i) (d:=q.length) (by omega)
     refine evstep (fun k=>by rw [spec_l01Is.l0]) (evpos (by omega) (evpos (by omega) (evsome (sin_eq _ _ _) ?_)))
     rw [rd_nat,w64 (x:=(i:Int)+1) (by omega) (by omega)]
     by_cases d: -100≤q.getD i 0∧q.getD i 0≤100
     ·exact evpos (decide_eq_true d) (ih (i+1) (by omega) t (ht.trans (hs.trans ⟨fun h=>h.2,fun h=>⟨d,h⟩⟩)))
     ·rw [no_iff (ht.trans hs) (fun h=>d h.1)]
      exact evneg (by simpa using d) (evc rfl)
   exact loop q.length 0 (by omega) t (ht.trans ⟨fun h=>h.num,fun h=>⟨m,c,h⟩⟩)
  ·rw [no_iff ht (fun h=>c h.len)]
   exact evpos (by simp;omega) (evc rfl)
 ·rw [no_iff ht (fun h=>m h.mat)]
  exact evneg (by simpa using m) (evstep (fun k=>by rw [spec_l01Is.j0]) (evpos rfl (evc rfl)))
theorem any_false {α:Type} (p:α→Bool) (l:List α):l.any p=false↔ ∀i (h:i < l.length),p l[i]=false:=by
 rw [List.any_eq_false]
 constructor
 ·intro h i hi
  have:=h l[i] (List.getElem_mem hi)
  simpa using this
 ·intro h x hx
  obtain⟨i,hi,rfl⟩:=List.getElem_of_mem hx
  simp [h i hi]
theorem badU_iff (a n:Int):badU a n=false↔ -a≤n∧n≤a:=by unfold badU;simp
theorem any_badU (a:Int) (l:List Int):l.any (badU a)=false↔ ∀i,0≤i→i < l.length→ -a≤l.getD i 0∧l.getD i 0≤a:=by
 rw [any_false]
 constructor
 ·intro h i _ hi
  have:=(badU_iff a _).1 (h i hi)
  simpa [hi] using this
 ·intro h i hi
  have:=h i (Nat.zero_le _) hi
  exact(badU_iff a _).2 (by simpa [hi] using this)
theorem gD {M:List (List Int)} {i:Nat} (h:i < M.length):M.getD i []=M[i]:=by simp [h]
open Classical in
theorem impl_mat (M:List (List Int)):impl_IsMatrix.f M=some (decide (MatOK M)):=by
 unfold impl_IsMatrix.f
 congr 1
 rw [Bool.eq_iff_iff]
 simp only [Bool.and_eq_true,decide_eq_true_eq,Bool.not_eq_true']
 rw [any_false,any_false]
 constructor
 ·rintro ⟨⟨h1,h2⟩,h3⟩
  refine⟨by omega,by omega,fun i _ hi=>?_⟩
  have r1:=h2 i hi
  have r2:=h3 i hi
  unfold badL at r1
  unfold badM at r2
  have e:M[i].length=M.length:=by simp at r1;omega
  refine⟨by rw [gD hi];exact e,fun j _ hj=>?_⟩
  have:=(any_badU 20 M[i]).1 r2 j (Nat.zero_le _) (by omega)
  rw [← gD hi] at this
  exact this
 ·intro h
  refine⟨⟨⟨by have:=h.n1;omega,by have:=h.n5;omega⟩,fun i hi=>?_⟩,fun i hi=>?_⟩
  ·have:=(h.rows i (Nat.zero_le _) hi).1
   rw [gD hi] at this
   unfold badL;simp [this]
  ·have:=h.rows i (Nat.zero_le _) hi
   unfold badM
   refine(any_badU 20 M[i]).2 (fun j h0 hj=>?_)
   have e:=this.1
   rw [gD hi] at e
   have:=this.2 j h0 (by omega)
   unfold N20 en at this
   rwa [gD hi] at this
open Classical in
theorem impl_is (M:List (List Int)) (q:List Int) (t:Bool) (ht:t=true↔POK M q):impl_IsProblem.f M q=some t:=by
 unfold impl_IsProblem.f
 rw [impl_mat,Option.bind_some]
 by_cases m:MatOK M
 ·rw [if_pos (by simpa using m)]
  by_cases c:q.length=M.length
  ·rw [if_pos (by omega)]
   unfold impl_allUpTo.f
   rw [if_pos (by decide),Option.bind_some]
   congr 1
   rw [Bool.eq_iff_iff,ht,Bool.not_eq_true',any_badU]
   exact⟨fun h=>⟨m,c,h⟩,fun h=>h.num⟩
  ·rw [if_neg (by omega),no_iff ht (fun h=>c h.len)]
 ·rw [if_neg (by simpa using m),no_iff ht (fun h=>m h.mat)]
end Go.Proofs.Ytmpkckiifeikkaa.Pb
end
section
namespace Go.Proofs.Ytmpkckiifeikkaa.Pr
open Go.RowKit Go.Proofs.YtmpkckiifeikkaaW.PrintWords Go.Proofs.YtmpkckiifeikkaaW.PrintLast Go.Proofs.YtmpkckiifeikkaaW.PrintMore Go.Proofs.Ytmpkckiifeikkaa.Ma Go.Proofs.Ytmpkckiifeikkaa.Dt Go.Proofs.Ytmpkckiifeikkaa.Lk Go.Proofs.Ytmpkckiifeikkaa.Lt Go.Proofs.Ytmpkckiifeikkaa.Lq
def badV (n:Int):Bool:=!(decide (1≤n) && decide (n≤20))
theorem within_f (n:Int):impl_within.f n 1 20=some (!(badV n)):=by
 unfold impl_within.f badV
 rw [Bool.not_not]
 by_cases h:1≤n
 ·rw [if_pos (by omega)];simp [h]
 ·rw [if_neg (by omega)];simp [h]
theorem isCover1 (n:Int) (w:World):Calls Try.prog 193 (#[.int .i64 n]++ #[]) w fun e w'=>e= .returned (.bool (badV n))∧Below w.heap.size w w':=by
 have HF:=Aside0.mk (within_f n)
 show Calls Try.prog 193 #[.int .i64 n] w _
 generalize badV n=b at HF ⊢
 go_enter Try.func193,Try.ntmps193
 go_wp2_with fail
 refine(impl_within.calls n 1 20 _ _ HF.out).mono ?_
 rintro e w' ⟨rfl,⟨nd,rfl⟩⟩
 go_wp2
 go_ret
 refine⟨by simp,pw_below_drewN (Below.refl _ _) _⟩
theorem isCover1_enters: ∀args w,(callFunc 193 args).run Try.prog w= .ok (.enter 193 args) w:=enters_fn Try.func193 (by kernel_rfl) rfl
def cvB (n:Int) (cv:List Int):Bool:=decide ((cv.length:Int)=n) && !(cv.any badV)
theorem isCover_calls (A:Option Addr) (c:Nat) (cv:List Int) (n:Int) (w:World) (hC:Kd.C (Kd.int .i64) w A cv.length cv):
  Calls Try.prog 159 #[.slice A cv.length c, .int .i64 n] w fun e w'=>e= .returned (.bool (cvB n cv))∧Below w.heap.size w w':=by
 have HC:=Aside0.mk hC
 have hcall:=fun W (hW:Below w.heap.size w W)=>
  containsFuncInts badV 193 #[] isCover1_enters A c cv W (Kd.C_below HC.out hW) (fun W' x _ hb=>isCover1 x W')
 have HL:=Aside0.mk hcall
 clear hcall hC
 unfold cvB
 obtain⟨b,hb⟩: ∃b,cv.any badV=b:=⟨_,rfl⟩
 rw [hb] at HL ⊢
 clear hb HC
 by_cases hl:(cv.length:Int)=n
 ·subst hl
  simp only [decide_true,Bool.true_and]
  generalize cv.length=l at*
  go_enter Try.func159,Try.ntmps159
  go_wp2_with fail
  refine(HL.out _ (Below.refl _ _)).mono ?_
  rintro e w' ⟨rfl,hb'⟩
  go_wp2
  go_ret
  exact⟨rfl,hb'⟩
 ·have hl2:decide ((cv.length:Int)=n)=false:=decide_eq_false hl
  have hl3:((cv.length:Int)==n)=false:=by simpa using hl
  rw [hl2]
  simp only [Bool.false_and]
  clear HL hl2
  generalize cv.length=l at*
  go_enter Try.func159,Try.ntmps159
  go_wp2
  go_ret
  exact⟨rfl,Below.refl _ _⟩
def lkCode (M:List (List Int)) (Q cv:List Int):Int:=if impl_IsProblem.f M Q=some true then(if cvB (Q.length:Int) cv=true then 0 else 2) else 1
def lkR (M:List (List Int)) (Q cv:List Int) (most:Nat):TS × List (List Int) × Bool × Int × Int:=runI Q.length (enL M) (fun i=>cv.getD i 0) (fun i=>Q.getD i 0) most
theorem isP_ok {M:List (List Int)} {Q:List Int} (h:impl_IsProblem.f M Q=some true):Pb.POK M Q:=by
 classical
 have:=Pb.impl_is M Q (decide (Pb.POK M Q)) (by simp)
 rw [h] at this
 injection this with this
 exact of_decide_eq_true this.symm
structure PC (M:List (List Int)) (Q cv:List Int) (n:Nat):Prop where
 lM:M.length=n
 lQ:Q.length=n
 rows: ∀x ∈ M,x.length=n
 pos:0 < n
 le:n≤5
 lcv:cv.length=n
 Mb: ∀i k,i < n→k < n→((enL M) i k).natAbs≤20
 cb: ∀i,i < n→0 < cv.getD i 0∧cv.getD i 0≤20
 qb: ∀i,i < n→(Q.getD i 0).natAbs≤100
theorem pc_of {M:List (List Int)} {Q cv:List Int} (h:Pb.POK M Q) (hc:cvB (Q.length:Int) cv=true):PC M Q cv Q.length:=by
 unfold cvB at hc
 rw [Bool.and_eq_true] at hc
 obtain⟨h1,h2⟩:=hc
 have hl:(cv.length:Int)=(Q.length:Int):=of_decide_eq_true h1
 have ha:cv.any badV=false:=by simpa using h2
 have hml:M.length=Q.length:=h.len.symm
 refine⟨hml,rfl,fun x hx=>?_,by have:=h.mat.n1;omega,by have:=h.mat.n5;omega,by omega,fun i k hi hk=>?_,fun i hi=>?_,fun i hi=>?_⟩
 ·obtain⟨i,hi,rfl⟩:=List.mem_iff_getElem.1 hx
  have:=(h.mat.rows i (Nat.zero_le _) hi).1
  rw [List.getD_eq_getElem?_getD,List.getElem?_eq_getElem hi,Option.getD_some] at this
  omega
 ·have:=(h.mat.rows i (Nat.zero_le _) (by omega)).2 k (Nat.zero_le _) (by omega)
  unfold Pb.N20 at this
  show (((M.getD i []).getD k 0)).natAbs≤20
  change -20≤((M.getD i []).getD k 0)∧((M.getD i []).getD k 0)≤20 at this
  omega
 ·have hi':i < cv.length:=by omega
  have:=(Pb.any_false badV cv).1 ha i hi'
  unfold badV at this
  rw [List.getD_eq_getElem?_getD,List.getElem?_eq_getElem hi',Option.getD_some]
  simp at this
  omega
 ·have:=h.num i (Nat.zero_le _) hi
  unfold Pb.N100 at this
  omega
theorem lkCode_pc {M:List (List Int)} {Q cv:List Int} (h:lkCode M Q cv=0):PC M Q cv Q.length:=by
 unfold lkCode at h
 by_cases h1:impl_IsProblem.f M Q=some true
 ·rw [if_pos h1] at h
  by_cases h2:cvB (Q.length:Int) cv=true
  ·exact pc_of (isP_ok h1) h2
  ·rw [if_neg h2] at h;cases h
 ·rw [if_neg h1] at h;cases h
theorem runOf_calls (A0:Option Addr) (c0:Nat) (M:List (List Int)) (A1:Option Addr) (c1:Nat) (Q:List Int) (A2:Option Addr) (c2:Nat) (cv:List Int) (w:World)
  (hC0:Kd.C (Kd.slice 2 (Kd.int .i64)) w A0 M.length M) (hc0:M.length≤c0) (hC1:Kd.C (Kd.int .i64) w A1 Q.length Q) (hc1:Q.length≤c1) (hC2:Kd.C (Kd.int .i64) w A2 cv.length cv) (hc2:cv.length≤c2):
  Calls Try.prog 97 #[.agg #[.slice A0 M.length c0, .slice A1 Q.length c1], .slice A2 cv.length c2] w fun e w'=>
   ((lkCode M Q cv≠0∧e= .returned (.tuple #[.pointer none, .int .i64 (lkCode M Q cv)]))∨(lkCode M Q cv=0∧ ∃p,e= .returned (.tuple #[.pointer (some ⟨p,0,none⟩), .int .i64 (lkR M Q cv 201).2.2.2.2])∧PlE w w' p Q.length (2*Q.length+2) (lkR M Q cv 201).1 (lkR M Q cv 201).2.1 (lkR M Q cv 201).2.2.1 (lkR M Q cv 201).2.2.2.1 (lkR M Q cv 201).2.2.2.2))∧Below w.heap.size w w':=by
 have HB:=Aside0.mk (Below.refl w.heap.size w)
 have HC0:=Aside0.mk hC0
 have HC1:=Aside0.mk hC1
 have HC2:=Aside0.mk hC2
 have H0:=Aside0.mk hc0
 have H1:=Aside0.mk hc1
 have H2:=Aside0.mk hc2
 obtain⟨b,hb⟩: ∃b,impl_IsProblem.f M Q=some b:=by
  classical
  exact⟨_,Pb.impl_is M Q (decide (Pb.POK M Q)) (by simp)⟩
 have HP:=Aside0.mk hb
 have HCD:Aside0 (lkCode M Q cv=if b=true then(if cvB (Q.length:Int) cv=true then 0 else 2) else 1):=⟨by
  unfold lkCode
  rw [hb]
  cases b <;> simp⟩
 clear hC0 hC1 hC2 hc0 hc1 hc2 hb
 obtain⟨cd,hcd⟩: ∃cd,lkCode M Q cv=cd:=⟨_,rfl⟩
 rw [hcd]
 rw [hcd] at HCD
 have HCD0:=Aside0.mk hcd
 clear hcd
 obtain⟨R,hR⟩: ∃R,lkR M Q cv 201=R:=⟨_,rfl⟩
 rw [hR]
 have HR:=Aside0.mk hR
 clear hR
 go_enter Try.func97,Try.ntmps97
 go_wp2_with (first | ((with_reducible refine gate_dst (N:=2) rfl ?_);refine box_event ?hg (N:=2) ?hd (cs:= #[.slice A0 M.length c0, .slice A1 Q.length c1]) (t:=30) ?hr ?_;(case hd=>rfl);(case hg=>rfl);(case hr=>first | (go_simp;done) | (go_simp;rfl));intro g2 hg w2 hbox hb;replace HB:=Aside0.mk (below_step HB.out hb);have B2:=Aside0.mk hbox;have hz0:=cz_ B2 0;have hz1:=cz_ B2 1;clear hb hbox hg))
 refine(impl_IsProblem.calls A0 c0 M A1 c1 Q b w2 (Kd.C_below HC0.out HB.out) H0.out (Kd.C_below HC1.out HB.out) H1.out HP.out).mono ?_
 rintro e w3 ⟨rfl,hb⟩
 replace HB:=Aside0.mk (below_step HB.out hb)
 replace B2:=Aside0.mk (blk_below B2.out hb)
 clear hb hz0 hz1
 have hz1:=cz_ B2 1
 cases b with
 | false=>
  have e1:cd=1:=by have:=HCD.out;simpa using this
  subst e1
  go_wp2
  go_ret2
  exact⟨.inl ⟨by decide,rfl⟩,HB.out⟩
 | true=>
  go_wp2_with fail
  refine(isCover_calls A2 c2 cv (Q.length:Int) w3 (Kd.C_below HC2.out HB.out)).mono ?_
  obtain⟨cb,hcb⟩: ∃cb,cvB (Q.length:Int) cv=cb:=⟨_,rfl⟩
  rw [hcb]
  rw [hcb] at HCD
  have HCB:=Aside0.mk hcb
  clear hcb
  rintro e w4 ⟨rfl,hb⟩
  replace HB:=Aside0.mk (below_step HB.out hb)
  replace B2:=Aside0.mk (blk_below B2.out hb)
  clear hb hz1
  have hz0:=cz_ B2 0
  have hz1:=cz_ B2 1
  cases cb with
  | false=>
   have e1:cd=2:=by have:=HCD.out;simpa using this
   subst e1
   go_wp2
   go_ret2
   exact⟨.inl ⟨by decide,rfl⟩,HB.out⟩
  | true=>
   have e1:cd=0:=by have:=HCD.out;simpa using this
   subst e1
   have HPC:=Aside0.mk (lkCode_pc HCD0.out)
   obtain⟨N,hN⟩: ∃N:Nat,N=201:=⟨_,rfl⟩
   have hrun:=run_calls A0 c0 M A1 c1 Q A2 c2 cv N w4 Q.length (Kd.C_below HC0.out HB.out) (Kd.C_below HC1.out HB.out) (Kd.C_below HC2.out HB.out) H0.out H1.out H2.out HPC.out.lM rfl HPC.out.rows HPC.out.pos HPC.out.le HPC.out.lcv HPC.out.Mb HPC.out.cb HPC.out.qb R (by rw [hN, ← HR.out];unfold lkR;rfl)
   have e201:(N:Int)=201:=by omega
   rw [e201] at hrun
   have HRUN:=Aside0.mk hrun
   clear hrun e201 hN
   go_wp2_with fail
   refine HRUN.out.mono ?_
   rintro e w5 ⟨p,rfl,hP,hb⟩
   have HPL:=Aside0.mk (hP.base HB.out.size)
   replace HB:=Aside0.mk (below_step HB.out hb)
   replace B2:=Aside0.mk (blk_below B2.out hb)
   clear hP hb hz0 hz1 HRUN
   obtain⟨cR,hcR⟩: ∃c,R.2.2.2.2=c:=⟨_,rfl⟩
   rw [hcR] at HPL
   have HCR:=Aside0.mk hcR
   clear hcR
   go_wp2
   have HPD:=Aside0.mk (HPL.out.mv (below_drew (Below.refl w5.heap.size w5)))
   replace HB:=Aside0.mk (below_step HB.out (below_drew (Below.refl w5.heap.size w5)))
   obtain⟨lo,hi,t,u1,h1,h2,h3,hT,hB,hS⟩:=HPD.out
   have hc4:=cz_ ⟨hB⟩ 4
   clear h1 h2 h3 hT hB hS HPL
   refine st_ (n:=7) (S:=fun w'=>w'.cell? ⟨p,4,none⟩=some (.int .i64 cR)) (ds:= []) hc4 (fun hHeld=>?_)
   generalize w5.drew=w6 at HB HPD hHeld ⊢
   clear hc4
   refine pu_ 0 21 ?_;refine pu_ 1 22 ?_;refine pu_ 2 23 ?_;refine pu_ 3 24 ?_;refine tk_ 4 25 ?_;refine pu_ 5 4 ?_;refine pu_ 6 5 ?_
   refine done_ (by kernel_rfl) ?_
   go_wp2
   go_ret2
   exact⟨⟨p,by rw [HCR.out];rfl,by rw [HCR.out];exact HPD.out⟩,HB.out⟩
end Go.Proofs.Ytmpkckiifeikkaa.Pr
end
section
namespace Go.Proofs.Ytmpkckiifeikkaa.Pr
open Go.RowKit Go.Proofs.YtmpkckiifeikkaaW.PrintWords Go.Proofs.YtmpkckiifeikkaaW.PrintMore Go.Proofs.Ytmpkckiifeikkaa.Ma Go.Proofs.Ytmpkckiifeikkaa.Dt Go.Proofs.Ytmpkckiifeikkaa.Lk Go.Proofs.Ytmpkckiifeikkaa.Lt Go.Proofs.Ytmpkckiifeikkaa.Lq
theorem goI_ok {n m:Nat} {A:Mat} (hn:n≤5) (hn0:0 < n) (hm:m=2*n+2) (hA:Small n m A): ∀(q:Nat) (s:TS) (v r:Nat) (st:List (List Int)),Ok n m A s→r < n→v+1 < m→s.T r v≠0→
  Ok n m A (goI n m q s v r st).1∧0≤(goI n m q s v r st).2.2.2.1∧(goI n m q s v r st).2.2.2.1 < 2*(n:Int)+1:=by
 intro q
 induction q with
 | zero=>intro s v r st hs hr hv hp;exact⟨hs,Int.le_refl _,by show (0:Int) < 2*(n:Int)+1;omega⟩
 | succ q ih=>
  intro s v r st hs hr hv hp
  have hs2:=hs.step hn hA hr hv hp
  unfold goI
  split
  ·exact⟨hs,Int.le_refl _,by show (0:Int) < 2*(n:Int)+1;omega⟩
  ·split
   ·exact⟨hs2,Int.le_refl _,by show (0:Int) < 2*(n:Int)+1;omega⟩
   ·rename_i hl
    have hlt:=hs.lt r hr
    have hnn:=hs.nn r hr
    have hp2:partner n (s.bs.getD r 0).toNat < 2*n:=by unfold partner;split <;> omega
    obtain⟨o,ho⟩: ∃o,rowB n m (s.step r v) (fun i=>(s.step r v).T i (partner n (s.bs.getD r 0).toNat))=o:=⟨_,rfl⟩
    rw [ho]
    cases o with
    | none=>exact⟨hs2,by show (0:Int)≤((partner n (s.bs.getD r 0).toNat:Nat):Int);omega,by show ((partner n (s.bs.getD r 0).toNat:Nat):Int) < _;omega⟩
    | some r'=>
     have h2:=rowB_some ho
     exact ih _ _ _ _ hs2 h2.1 (by omega) (by have:=h2.2;omega)
theorem lkR_ok {M:List (List Int)} {Q cv:List Int} (h:PC M Q cv Q.length) (most:Nat):
  Ok Q.length (2*Q.length+2) (tab0 Q.length (enL M) (fun i=>cv.getD i 0) (fun i=>Q.getD i 0)) (lkR M Q cv most).1∧0≤(lkR M Q cv most).2.2.2.1∧(lkR M Q cv most).2.2.2.1 < 2*(Q.length:Int)+1:=by
 have hA:=first_small (n:=Q.length) (M:=enL M) (cv:=fun i=>cv.getD i 0) (q:=fun i=>Q.getD i 0) h.Mb (fun i hi=>by have:=h.cb i hi;omega) h.qb
 have hok:=first_ok (n:=Q.length) (M:=enL M) (cv:=fun i=>cv.getD i 0) (q:=fun i=>Q.getD i 0)
 have hn0:=h.pos
 unfold lkR runI
 split
 ·exact⟨hok,Int.le_refl _,by show (0:Int) < 2*(Q.length:Int)+1;omega⟩
 ·obtain⟨o,ho⟩: ∃o,rowB Q.length (2*Q.length+2) (first Q.length (enL M) (fun i=>cv.getD i 0) (fun i=>Q.getD i 0)) (fun i=>cv.getD i 0)=o:=⟨_,rfl⟩
  rw [ho]
  cases o with
  | none=>exact⟨hok,Int.le_refl _,by show (0:Int) < 2*(Q.length:Int)+1;omega⟩
  | some r=>
   have h2:=rowB_some ho
   refine goI_ok h.le hn0 rfl hA most _ (2*Q.length) r [] hok h2.1 (by omega) ?_
   show tab0 Q.length (enL M) (fun i=>cv.getD i 0) (fun i=>Q.getD i 0) r (2*Q.length)≠0
   unfold tab0
   rw [if_neg (by omega),if_neg (by omega),if_pos rfl]
   have h3:0 < cv.getD r 0:=h2.2
   show - cv.getD r 0≠0
   omega
end Go.Proofs.Ytmpkckiifeikkaa.Pr
end
section
namespace Go.Proofs.Ytmpkckiifeikkaa.Pr
open Go.RowKit Go.Proofs.YtmpkckiifeikkaaW.PrintWords Go.Proofs.YtmpkckiifeikkaaW.PrintLast Go.Proofs.YtmpkckiifeikkaaW.PrintMore
attribute [local go_sem] max2_int min2_int max_two min_two max_three min_three max_four min_four
def impl_reduced.f (k:Nat) (a0:Int) (a1:Int):Option (Int × Int × Int):=(impl_common.f k a0 a1).bind fun aa=>(if a1 < 0 then(if(wrap64 (-aa))=0 then(none) else((impl_IsFrac.f k (wrap64 (Int.tdiv a0 (wrap64 (-aa)))) (wrap64 (Int.tdiv a1 (wrap64 (-aa))))).bind fun ae=>(if ae=true then(some (wrap64 (Int.tdiv a0 (wrap64 (-aa))),wrap64 (Int.tdiv a1 (wrap64 (-aa))),0)) else(some (0,0,3))))) else(if aa=0 then(none) else((impl_IsFrac.f k (wrap64 (Int.tdiv a0 aa)) (wrap64 (Int.tdiv a1 aa))).bind fun af=>(if af=true then(some (wrap64 (Int.tdiv a0 aa),wrap64 (Int.tdiv a1 aa),0)) else(some (0,0,3))))))
theorem impl_reduced.mono: ∀a0 a1 k,LeO (impl_reduced.f k a0 a1) (impl_reduced.f (k+1) a0 a1):=by
 intro a0 a1 k
 unfold impl_reduced.f
 repeat' first
   | (with_reducible exact impl_IsFrac.mono _ _ _)
   | (with_reducible exact impl_common.mono _ _ _)
   | (with_reducible exact LeO.refl _)
   | (with_reducible exact LeO.none _)
   | (with_reducible refine LeO.ite ?_ ?_)
   | (with_reducible refine LeO.bind ?_ (fun _=>?_))
   | exact impl_IsFrac.mono _ _ _
   | exact impl_common.mono _ _ _
   | exact LeO.none _
   | refine LeO.ite ?_ ?_
   | refine LeO.bind ?_ (fun _=>?_)
def impl_reduced.T4:Bool × List (List Nat × List Nat):=(true, [([], []),([], []),([0,1], [0,1]),([], []),([], []),([3,4], [3,4]),([2,5], [2,5]),([], []),([7,6,0,1,2,3,4,5,6,7], [6,7])])
def impl_reduced.B4:List Nat:= [0,0,3,0,0,24,63,0,255]
theorem impl_reduced.tab4:rtab .any (opsOf Try.f149 4)=impl_reduced.T4:=by kernel_rfl
theorem impl_reduced.bits4:waitsOk impl_reduced.T4.2 impl_reduced.B4=true:=by kernel_rfl
theorem impl_reduced.calls (k:Nat) (a0:Int) (a1:Int) (r1:Int) (r2:Int) (r3:Int) (w:World) (h:impl_reduced.f k a0 a1=some (r1,r2,r3)):
  Calls Try.prog 149 #[.int .i64 a0, .int .i64 a1] w fun e w'=>e= .returned (.tuple #[.agg #[.int .i64 r1, .int .i64 r2], .int .i64 r3])∧Below w.heap.size w w':=by
 have hu93:=Try.underlying93
 have HB:=Aside0.mk (Below.refl w.heap.size w)
 have H:((impl_common.f k a0 a1).bind fun ae=>(if a1 < 0 then(if(wrap64 (-ae))=0 then(none) else((impl_IsFrac.f k (wrap64 (Int.tdiv a0 (wrap64 (-ae)))) (wrap64 (Int.tdiv a1 (wrap64 (-ae))))).bind fun aw=>(if aw=true then(some (wrap64 (Int.tdiv a0 (wrap64 (-ae))),wrap64 (Int.tdiv a1 (wrap64 (-ae))),0)) else(some (0,0,3))))) else(if ae=0 then(none) else((impl_IsFrac.f k (wrap64 (Int.tdiv a0 ae)) (wrap64 (Int.tdiv a1 ae))).bind fun ax=>(if ax=true then(some (wrap64 (Int.tdiv a0 ae),wrap64 (Int.tdiv a1 ae),0)) else(some (0,0,3)))))))=some (r1,r2,r3):=h
 clear h
 replace H:=Option.bind_eq_some_iff.mp H
 obtain⟨ae,A30,H⟩:=H
 replace H:(if a1 < 0 then(if(wrap64 (-ae))=0 then(none) else((impl_IsFrac.f k (wrap64 (Int.tdiv a0 (wrap64 (-ae)))) (wrap64 (Int.tdiv a1 (wrap64 (-ae))))).bind fun aw=>(if aw=true then(some (wrap64 (Int.tdiv a0 (wrap64 (-ae))),wrap64 (Int.tdiv a1 (wrap64 (-ae))),0)) else(some (0,0,3))))) else(if ae=0 then(none) else((impl_IsFrac.f k (wrap64 (Int.tdiv a0 ae)) (wrap64 (Int.tdiv a1 ae))).bind fun ax=>(if ax=true then(some (wrap64 (Int.tdiv a0 ae),wrap64 (Int.tdiv a1 ae),0)) else(some (0,0,3))))))=some (r1,r2,r3):=H
 have A3:=Aside0.mk A30
 clear A30
 by_cases c4:a1 < 0
 ·rw [if_pos c4] at H
  have c4b0:decide (a1 < 0)=true:=decide_eq_true c4
  clear c4
  by_cases c5:(wrap64 (-ae))=0
  ·rw [if_pos c5] at H
   exact absurd H (by simp)
  ·rw [if_neg c5] at H
   have c5b0:((wrap64 (-ae))==0)=false:=beq_eq_false_iff_ne.mpr c5
   have c5b1:((wrap64 (-ae)) !=0)=true:=bne_iff_ne.mpr c5
   replace H:=Option.bind_eq_some_iff.mp H
   obtain⟨aw,A60,H⟩:=H
   replace H:(if aw=true then(some (wrap64 (Int.tdiv a0 (wrap64 (-ae))),wrap64 (Int.tdiv a1 (wrap64 (-ae))),0)) else(some (0,0,3)))=some (r1,r2,r3):=H
   have A6:=Aside0.mk A60
   clear A60
   by_cases c7:aw=true
   ·subst c7
    have H1:(some (wrap64 (Int.tdiv a0 (wrap64 (-ae))),wrap64 (Int.tdiv a1 (wrap64 (-ae))),0))=some (r1,r2,r3):=by rw [if_pos rfl] at H;exact H
    clear H
    have H:=H1
    clear H1
    simp only [Option.some.injEq,Prod.mk.injEq] at H
    obtain⟨rfl,rfl,rfl⟩:=H
    go_enter Try.func149,Try.ntmps149
    try go_wp2_with (first | ((with_reducible refine gate_dst (N:=4) rfl ?_);refine box_event ?hg (N:=4) ?hd (cs:= #[.int .i64 0, .int .i64 0]) (t:=93) ?hr ?_;(case hd=>rfl);(case hg=>rfl);(case hr=>first | (go_simp;done) | (go_simp;rfl));intro af hg w8 hbox hb;have aa:=Aside0.mk (hbox);have ay:=Aside0.mk ((by rw [hg];exact bz_:w.heap.size≤af));have az:=Aside0.mk ((by rw [hg];exact bz_:w.heap.size≤af));replace HB:=Aside0.mk (bs_ hb);clear hb hbox hg) | ((with_reducible refine gate_callee (f:=182) rfl ?_);refine gL_ 10 Try.func182 #[.int .i64 a0, .int .i64 a1] ?_;(with_reducible refine(impl_common.calls k a0 a1 ae _ A3.out).mono ?_);rintro e w9 ⟨rfl,hb⟩;refine⟨_,rfl,?_⟩;replace aa:=Aside0.mk (bb_ aa.out hb);replace HB:=Aside0.mk (bs_ hb);(try clear hb);(try clear hb2);(try clear hk);(try clear hi)))
    replace aa:=Aside0.mk (blk_drew aa.out)
    replace HB:=Aside0.mk (below_drew1 HB.out)
    refine st_ (n:=9) (S:=fun w'=>True) (ds:= []) trivial (fun hHeld=>?_);refine with_tabW impl_reduced.tab4 impl_reduced.bits4 (fun HT_ HW_=>?_)
    generalize w9.drew=w10 at aa HB hHeld ⊢
    refine pu_ 0 15 ?_;refine pu_ 1 16 ?_;refine pu_ 2 17 ?_;refine pu_ 3 18 ?_;refine pu_ 4 19 ?_;refine pu_ 5 20 ?_;refine pu_ 6 21 ?_
    refine on_ 7 (some 7) (fun K hK=>?_)
    refine box_step ?hg (N:=7) ?hd (cs:= #[.int .i64 0, .int .i64 0]) (t:=93) ?hr ?_;(case hd=>rfl);(case hg=>rfl);(case hr=>first | (go_simp;done) | (go_simp;rfl))
    intro ai hg w11 hbox hb
    have ag:=Aside0.mk (hbox)
    have aA:=Aside0.mk ((by rw [hg];exact bz_:w.heap.size≤ai))
    have aC:=Aside0.mk ((by rw [hg];exact bz_:w.heap.size≤ai))
    have ak:=Aside0.mk ((by rw [hg];exact lt_ aa.out:af≠ai))
    have au:=Aside0.mk ((by rw [hg];exact gt_ aa.out:ai≠af))
    replace aa:=Aside0.mk (bb_ aa.out hb)
    replace HB:=Aside0.mk (bs_ hb)
    clear hb hbox hg
    refine hK.out _ _ trivial (fun hHeld=>?_)
    clear hK K
    refine norm_ (a':=?_) ?_ ?_
    rotate_left
    ·show Act.put _ (some 7) _=_
     simp only [Act.put,List.setIfInBounds_toArray,List.set_cons_zero,List.set_cons_succ,i64_w,i32_w]
     rfl
    refine on_ 8 none (fun K hK=>?_)
    have hs12:w11.cell? ⟨ai,0,none⟩=some (.int .i64 0):=(blk_cell ag.out 0).trans rfl
    have hfs12:=blk_frozen ag.out 0
    have hns12_0:=ak.out
    have hms12_0:=au.out
    have hs13:w11.cell? ⟨ai,1,none⟩=some (.int .i64 0):=(blk_cell ag.out 1).trans rfl
    have hfs13:=blk_frozen ag.out 1
    have hns13_0:=ak.out
    have hms13_0:=au.out
    refine skip_ (w1:=?_) (by rfl) rfl ?_ ?_
    rotate_left
    ·go_simp
     rfl
    refine hK.out _ _ trivial (fun hHeld=>?_)
    clear hK K
    refine done_ (done_of HT_.out (by kernel_rfl)) ?_
    have bO:=au.out
    have bP:=ak.out
    have aH:w11.cell? ⟨ai,0,none⟩=some (.int .i64 0):=(blk_cell ag.out 0).trans rfl
    have aI:w11.cell? ⟨ai,1,none⟩=some (.int .i64 0):=(blk_cell ag.out 1).trans rfl
    have aJ:=blk_frozen ag.out 0
    have aK:=blk_frozen ag.out 1
    try go_wp2_with (first | ((with_reducible refine gate_callee (f:=183) rfl ?_);refine gL_ 23 Try.func183 #[.agg #[.int .i64 (wrap64 (Int.tdiv a0 (wrap64 (-ae)))), .int .i64 (wrap64 (Int.tdiv a1 (wrap64 (-ae))))]] ?_;(with_reducible refine(impl_IsFrac.calls k (wrap64 (Int.tdiv a0 (wrap64 (-ae)))) (wrap64 (Int.tdiv a1 (wrap64 (-ae)))) true _ A6.out).mono ?_);rintro e w16 ⟨rfl,hb⟩;refine⟨_,rfl,?_⟩;replace aa:=Aside0.mk (blk_below (g:=af) (o:= .cells #[.int .i64 0, .int .i64 0] 93 (0,0)) (by(with_reducible repeat (first | refine blk_drewN ?_ _ | refine blk_drew ?_ | refine blk_alloc ?_ _));refine blk_far ?_ ak.out _;(with_reducible repeat (first | refine blk_drewN ?_ _ | refine blk_drew ?_ | refine blk_alloc ?_ _));refine blk_far ?_ ak.out _;(with_reducible repeat (first | refine blk_drewN ?_ _ | refine blk_drew ?_ | refine blk_alloc ?_ _));exact aa.out) hb);replace ag:=Aside0.mk (blk_below (g:=ai) (o:= .cells #[.int .i64 (wrap64 (Int.tdiv a0 (wrap64 (-ae)))), .int .i64 (wrap64 (Int.tdiv a1 (wrap64 (-ae))))] 93 (0,0)) (by(with_reducible repeat (first | refine blk_drewN ?_ _ | refine blk_drew ?_ | refine blk_alloc ?_ _));refine blk_put (cs:= #[.int .i64 (wrap64 (Int.tdiv a0 (wrap64 (-ae)))), .int .i64 0]) ?_ 1 _ rfl;(with_reducible repeat (first | refine blk_drewN ?_ _ | refine blk_drew ?_ | refine blk_alloc ?_ _));refine blk_put (cs:= #[.int .i64 0, .int .i64 0]) ?_ 0 _ rfl;(with_reducible repeat (first | refine blk_drewN ?_ _ | refine blk_drew ?_ | refine blk_alloc ?_ _));exact ag.out) hb);replace HB:=Aside0.mk (bs_ hb);(try clear hb);(try clear hb2);(try clear hk);(try clear hi);have aM:w16.cell? ⟨ai,0,none⟩=some (.int .i64 (wrap64 (Int.tdiv a0 (wrap64 (-ae))))):=(blk_cell ag.out 0).trans rfl;have aN:w16.cell? ⟨ai,1,none⟩=some (.int .i64 (wrap64 (Int.tdiv a1 (wrap64 (-ae))))):=(blk_cell ag.out 1).trans rfl;have aT:=blk_frozen ag.out 0;have aU:=blk_frozen ag.out 1;have aV:w16.cell? ⟨af,0,none⟩=some (.int .i64 0):=(blk_cell aa.out 0).trans rfl;have aW:w16.cell? ⟨af,1,none⟩=some (.int .i64 0):=(blk_cell aa.out 1).trans rfl;have aX:=blk_frozen aa.out 0;have aY:=blk_frozen aa.out 1))
    refine bodyPost_ret (results_ct rfl _ _ af 93 #[.int .i64 (wrap64 (Int.tdiv a0 (wrap64 (-ae)))), .int .i64 (wrap64 (Int.tdiv a1 (wrap64 (-ae))))] (0,0) _ rfl (by(with_reducible repeat (first | refine blk_drewN ?_ _ | refine blk_drew ?_ | refine blk_alloc ?_ _));refine blk_put (cs:= #[.int .i64 (wrap64 (Int.tdiv a0 (wrap64 (-ae)))), .int .i64 0]) ?_ 1 _ rfl;(with_reducible repeat (first | refine blk_drewN ?_ _ | refine blk_drew ?_ | refine blk_alloc ?_ _));refine blk_put (cs:= #[.int .i64 0, .int .i64 0]) ?_ 0 _ rfl;(with_reducible repeat (first | refine blk_drewN ?_ _ | refine blk_drew ?_ | refine blk_alloc ?_ _));exact aa.out) Try.underlying93 rfl (by kernel_rfl)) rfl ?_
    exact⟨by first | rfl | (simp [errW_none,errW_some] <;> rfl) | (simp [*,errW_none,errW_some] <;> rfl),hb_⟩
   ·replace c7:=Bool.eq_false_iff.mpr c7
    subst c7
    have H1:(some (0,0,3))=some (r1,r2,r3):=by rw [if_neg (show ¬ (false=true) by decide)] at H;exact H
    clear H
    have H:=H1
    clear H1
    simp only [Option.some.injEq,Prod.mk.injEq] at H
    obtain⟨rfl,rfl,rfl⟩:=H
    go_enter Try.func149,Try.ntmps149
    try go_wp2_with (first | ((with_reducible refine gate_dst (N:=4) rfl ?_);refine box_event ?hg (N:=4) ?hd (cs:= #[.int .i64 0, .int .i64 0]) (t:=93) ?hr ?_;(case hd=>rfl);(case hg=>rfl);(case hr=>first | (go_simp;done) | (go_simp;rfl));intro af hg w19 hbox hb;have aa:=Aside0.mk (hbox);have ay:=Aside0.mk ((by rw [hg];exact bz_:w.heap.size≤af));have az:=Aside0.mk ((by rw [hg];exact bz_:w.heap.size≤af));replace HB:=Aside0.mk (bs_ hb);clear hb hbox hg) | ((with_reducible refine gate_callee (f:=182) rfl ?_);refine gL_ 10 Try.func182 #[.int .i64 a0, .int .i64 a1] ?_;(with_reducible refine(impl_common.calls k a0 a1 ae _ A3.out).mono ?_);rintro e w20 ⟨rfl,hb⟩;refine⟨_,rfl,?_⟩;replace aa:=Aside0.mk (bb_ aa.out hb);replace HB:=Aside0.mk (bs_ hb);(try clear hb);(try clear hb2);(try clear hk);(try clear hi)))
    replace aa:=Aside0.mk (blk_drew aa.out)
    replace HB:=Aside0.mk (below_drew1 HB.out)
    refine st_ (n:=9) (S:=fun w'=>True) (ds:= []) trivial (fun hHeld=>?_);refine with_tabW impl_reduced.tab4 impl_reduced.bits4 (fun HT_ HW_=>?_)
    generalize w20.drew=w21 at aa HB hHeld ⊢
    refine pu_ 0 15 ?_;refine pu_ 1 16 ?_;refine pu_ 2 17 ?_;refine pu_ 3 18 ?_;refine pu_ 4 19 ?_;refine pu_ 5 20 ?_;refine pu_ 6 21 ?_
    refine on_ 7 (some 7) (fun K hK=>?_)
    refine box_step ?hg (N:=7) ?hd (cs:= #[.int .i64 0, .int .i64 0]) (t:=93) ?hr ?_;(case hd=>rfl);(case hg=>rfl);(case hr=>first | (go_simp;done) | (go_simp;rfl))
    intro ai hg w22 hbox hb
    have ag:=Aside0.mk (hbox)
    have aA:=Aside0.mk ((by rw [hg];exact bz_:w.heap.size≤ai))
    have aC:=Aside0.mk ((by rw [hg];exact bz_:w.heap.size≤ai))
    have ak:=Aside0.mk ((by rw [hg];exact lt_ aa.out:af≠ai))
    have au:=Aside0.mk ((by rw [hg];exact gt_ aa.out:ai≠af))
    replace aa:=Aside0.mk (bb_ aa.out hb)
    replace HB:=Aside0.mk (bs_ hb)
    clear hb hbox hg
    refine hK.out _ _ trivial (fun hHeld=>?_)
    clear hK K
    refine norm_ (a':=?_) ?_ ?_
    rotate_left
    ·show Act.put _ (some 7) _=_
     simp only [Act.put,List.setIfInBounds_toArray,List.set_cons_zero,List.set_cons_succ,i64_w,i32_w]
     rfl
    refine on_ 8 none (fun K hK=>?_)
    have hs23:w22.cell? ⟨ai,0,none⟩=some (.int .i64 0):=(blk_cell ag.out 0).trans rfl
    have hfs23:=blk_frozen ag.out 0
    have hns23_0:=ak.out
    have hms23_0:=au.out
    have hs24:w22.cell? ⟨ai,1,none⟩=some (.int .i64 0):=(blk_cell ag.out 1).trans rfl
    have hfs24:=blk_frozen ag.out 1
    have hns24_0:=ak.out
    have hms24_0:=au.out
    refine skip_ (w1:=?_) (by rfl) rfl ?_ ?_
    rotate_left
    ·go_simp
     rfl
    refine hK.out _ _ trivial (fun hHeld=>?_)
    clear hK K
    refine done_ (done_of HT_.out (by kernel_rfl)) ?_
    have bQ:=au.out
    have bS:=ak.out
    have aZ:w22.cell? ⟨ai,0,none⟩=some (.int .i64 0):=(blk_cell ag.out 0).trans rfl
    have a9:w22.cell? ⟨ai,1,none⟩=some (.int .i64 0):=(blk_cell ag.out 1).trans rfl
    have ba:=blk_frozen ag.out 0
    have bb:=blk_frozen ag.out 1
    try go_wp2_with (first | ((with_reducible refine gate_callee (f:=183) rfl ?_);refine gL_ 23 Try.func183 #[.agg #[.int .i64 (wrap64 (Int.tdiv a0 (wrap64 (-ae)))), .int .i64 (wrap64 (Int.tdiv a1 (wrap64 (-ae))))]] ?_;(with_reducible refine(impl_IsFrac.calls k (wrap64 (Int.tdiv a0 (wrap64 (-ae)))) (wrap64 (Int.tdiv a1 (wrap64 (-ae)))) false _ A6.out).mono ?_);rintro e w27 ⟨rfl,hb⟩;refine⟨_,rfl,?_⟩;replace aa:=Aside0.mk (blk_below (g:=af) (o:= .cells #[.int .i64 0, .int .i64 0] 93 (0,0)) (by(with_reducible repeat (first | refine blk_drewN ?_ _ | refine blk_drew ?_ | refine blk_alloc ?_ _));refine blk_far ?_ ak.out _;(with_reducible repeat (first | refine blk_drewN ?_ _ | refine blk_drew ?_ | refine blk_alloc ?_ _));refine blk_far ?_ ak.out _;(with_reducible repeat (first | refine blk_drewN ?_ _ | refine blk_drew ?_ | refine blk_alloc ?_ _));exact aa.out) hb);replace ag:=Aside0.mk (blk_below (g:=ai) (o:= .cells #[.int .i64 (wrap64 (Int.tdiv a0 (wrap64 (-ae)))), .int .i64 (wrap64 (Int.tdiv a1 (wrap64 (-ae))))] 93 (0,0)) (by(with_reducible repeat (first | refine blk_drewN ?_ _ | refine blk_drew ?_ | refine blk_alloc ?_ _));refine blk_put (cs:= #[.int .i64 (wrap64 (Int.tdiv a0 (wrap64 (-ae)))), .int .i64 0]) ?_ 1 _ rfl;(with_reducible repeat (first | refine blk_drewN ?_ _ | refine blk_drew ?_ | refine blk_alloc ?_ _));refine blk_put (cs:= #[.int .i64 0, .int .i64 0]) ?_ 0 _ rfl;(with_reducible repeat (first | refine blk_drewN ?_ _ | refine blk_drew ?_ | refine blk_alloc ?_ _));exact ag.out) hb);replace HB:=Aside0.mk (bs_ hb);(try clear hb);(try clear hb2);(try clear hk);(try clear hi);have bg:w27.cell? ⟨af,0,none⟩=some (.int .i64 0):=(blk_cell aa.out 0).trans rfl;have bh:w27.cell? ⟨af,1,none⟩=some (.int .i64 0):=(blk_cell aa.out 1).trans rfl;have bi:=blk_frozen aa.out 0;have bk:=blk_frozen aa.out 1))
    refine bodyPost_ret (results_ct rfl _ _ af 93 #[.int .i64 0, .int .i64 0] (0,0) _ rfl (by(with_reducible repeat (first | refine blk_drewN ?_ _ | refine blk_drew ?_ | refine blk_alloc ?_ _));refine blk_put (cs:= #[.int .i64 0, .int .i64 0]) ?_ 1 _ rfl;(with_reducible repeat (first | refine blk_drewN ?_ _ | refine blk_drew ?_ | refine blk_alloc ?_ _));refine blk_put (cs:= #[.int .i64 0, .int .i64 0]) ?_ 0 _ rfl;(with_reducible repeat (first | refine blk_drewN ?_ _ | refine blk_drew ?_ | refine blk_alloc ?_ _));exact aa.out) Try.underlying93 rfl (by kernel_rfl)) rfl ?_
    exact⟨by first | rfl | (simp [errW_none,errW_some] <;> rfl) | (simp [*,errW_none,errW_some] <;> rfl),hb_⟩
 ·rw [if_neg c4] at H
  have c4b0:decide (a1 < 0)=false:=decide_eq_false c4
  clear c4
  by_cases c29:ae=0
  ·rw [if_pos c29] at H
   exact absurd H (by simp)
  ·rw [if_neg c29] at H
   have c29b0:(ae==0)=false:=beq_eq_false_iff_ne.mpr c29
   have c29b1:(ae !=0)=true:=bne_iff_ne.mpr c29
   replace H:=Option.bind_eq_some_iff.mp H
   obtain⟨ax,A300,H⟩:=H
   replace H:(if ax=true then(some (wrap64 (Int.tdiv a0 ae),wrap64 (Int.tdiv a1 ae),0)) else(some (0,0,3)))=some (r1,r2,r3):=H
   have A30:=Aside0.mk A300
   clear A300
   by_cases c31:ax=true
   ·subst c31
    have H1:(some (wrap64 (Int.tdiv a0 ae),wrap64 (Int.tdiv a1 ae),0))=some (r1,r2,r3):=by rw [if_pos rfl] at H;exact H
    clear H
    have H:=H1
    clear H1
    simp only [Option.some.injEq,Prod.mk.injEq] at H
    obtain⟨rfl,rfl,rfl⟩:=H
    go_enter Try.func149,Try.ntmps149
    try go_wp2_with (first | ((with_reducible refine gate_dst (N:=4) rfl ?_);refine box_event ?hg (N:=4) ?hd (cs:= #[.int .i64 0, .int .i64 0]) (t:=93) ?hr ?_;(case hd=>rfl);(case hg=>rfl);(case hr=>first | (go_simp;done) | (go_simp;rfl));intro af hg w32 hbox hb;have aa:=Aside0.mk (hbox);have ay:=Aside0.mk ((by rw [hg];exact bz_:w.heap.size≤af));have az:=Aside0.mk ((by rw [hg];exact bz_:w.heap.size≤af));replace HB:=Aside0.mk (bs_ hb);clear hb hbox hg) | ((with_reducible refine gate_callee (f:=182) rfl ?_);refine gL_ 10 Try.func182 #[.int .i64 a0, .int .i64 a1] ?_;(with_reducible refine(impl_common.calls k a0 a1 ae _ A3.out).mono ?_);rintro e w33 ⟨rfl,hb⟩;refine⟨_,rfl,?_⟩;replace aa:=Aside0.mk (bb_ aa.out hb);replace HB:=Aside0.mk (bs_ hb);(try clear hb);(try clear hb2);(try clear hk);(try clear hi)))
    replace aa:=Aside0.mk (blk_drew aa.out)
    replace HB:=Aside0.mk (below_drew1 HB.out)
    refine st_ (n:=9) (S:=fun w'=>True) (ds:= []) trivial (fun hHeld=>?_);refine with_tabW impl_reduced.tab4 impl_reduced.bits4 (fun HT_ HW_=>?_)
    generalize w33.drew=w34 at aa HB hHeld ⊢
    refine pu_ 0 15 ?_;refine pu_ 1 16 ?_;refine pu_ 2 17 ?_;refine pu_ 3 18 ?_;refine pu_ 4 19 ?_;refine pu_ 5 20 ?_;refine pu_ 6 21 ?_
    refine on_ 7 (some 7) (fun K hK=>?_)
    refine box_step ?hg (N:=7) ?hd (cs:= #[.int .i64 0, .int .i64 0]) (t:=93) ?hr ?_;(case hd=>rfl);(case hg=>rfl);(case hr=>first | (go_simp;done) | (go_simp;rfl))
    intro aj hg w35 hbox hb
    have ah:=Aside0.mk (hbox)
    have aD:=Aside0.mk ((by rw [hg];exact bz_:w.heap.size≤aj))
    have aG:=Aside0.mk ((by rw [hg];exact bz_:w.heap.size≤aj))
    have aq:=Aside0.mk ((by rw [hg];exact lt_ aa.out:af≠aj))
    have av:=Aside0.mk ((by rw [hg];exact gt_ aa.out:aj≠af))
    replace aa:=Aside0.mk (bb_ aa.out hb)
    replace HB:=Aside0.mk (bs_ hb)
    clear hb hbox hg
    refine hK.out _ _ trivial (fun hHeld=>?_)
    clear hK K
    refine norm_ (a':=?_) ?_ ?_
    rotate_left
    ·show Act.put _ (some 7) _=_
     simp only [Act.put,List.setIfInBounds_toArray,List.set_cons_zero,List.set_cons_succ,i64_w,i32_w]
     rfl
    refine on_ 8 none (fun K hK=>?_)
    have hs36:w35.cell? ⟨aj,0,none⟩=some (.int .i64 0):=(blk_cell ah.out 0).trans rfl
    have hfs36:=blk_frozen ah.out 0
    have hns36_0:=aq.out
    have hms36_0:=av.out
    have hs37:w35.cell? ⟨aj,1,none⟩=some (.int .i64 0):=(blk_cell ah.out 1).trans rfl
    have hfs37:=blk_frozen ah.out 1
    have hns37_0:=aq.out
    have hms37_0:=av.out
    refine skip_ (w1:=?_) (by rfl) rfl ?_ ?_
    rotate_left
    ·go_simp
     rfl
    refine hK.out _ _ trivial (fun hHeld=>?_)
    clear hK K
    refine done_ (done_of HT_.out (by kernel_rfl)) ?_
    have bT:=av.out
    have bU:=aq.out
    have bn:w35.cell? ⟨aj,0,none⟩=some (.int .i64 0):=(blk_cell ah.out 0).trans rfl
    have bq:w35.cell? ⟨aj,1,none⟩=some (.int .i64 0):=(blk_cell ah.out 1).trans rfl
    have bu:=blk_frozen ah.out 0
    have bv:=blk_frozen ah.out 1
    try go_wp2_with (first | ((with_reducible refine gate_callee (f:=183) rfl ?_);refine gL_ 23 Try.func183 #[.agg #[.int .i64 (wrap64 (Int.tdiv a0 ae)), .int .i64 (wrap64 (Int.tdiv a1 ae))]] ?_;(with_reducible refine(impl_IsFrac.calls k (wrap64 (Int.tdiv a0 ae)) (wrap64 (Int.tdiv a1 ae)) true _ A30.out).mono ?_);rintro e w40 ⟨rfl,hb⟩;refine⟨_,rfl,?_⟩;replace aa:=Aside0.mk (blk_below (g:=af) (o:= .cells #[.int .i64 0, .int .i64 0] 93 (0,0)) (by(with_reducible repeat (first | refine blk_drewN ?_ _ | refine blk_drew ?_ | refine blk_alloc ?_ _));refine blk_far ?_ aq.out _;(with_reducible repeat (first | refine blk_drewN ?_ _ | refine blk_drew ?_ | refine blk_alloc ?_ _));refine blk_far ?_ aq.out _;(with_reducible repeat (first | refine blk_drewN ?_ _ | refine blk_drew ?_ | refine blk_alloc ?_ _));exact aa.out) hb);replace ah:=Aside0.mk (blk_below (g:=aj) (o:= .cells #[.int .i64 (wrap64 (Int.tdiv a0 ae)), .int .i64 (wrap64 (Int.tdiv a1 ae))] 93 (0,0)) (by(with_reducible repeat (first | refine blk_drewN ?_ _ | refine blk_drew ?_ | refine blk_alloc ?_ _));refine blk_put (cs:= #[.int .i64 (wrap64 (Int.tdiv a0 ae)), .int .i64 0]) ?_ 1 _ rfl;(with_reducible repeat (first | refine blk_drewN ?_ _ | refine blk_drew ?_ | refine blk_alloc ?_ _));refine blk_put (cs:= #[.int .i64 0, .int .i64 0]) ?_ 0 _ rfl;(with_reducible repeat (first | refine blk_drewN ?_ _ | refine blk_drew ?_ | refine blk_alloc ?_ _));exact ah.out) hb);replace HB:=Aside0.mk (bs_ hb);(try clear hb);(try clear hb2);(try clear hk);(try clear hi);have bw:w40.cell? ⟨aj,0,none⟩=some (.int .i64 (wrap64 (Int.tdiv a0 ae))):=(blk_cell ah.out 0).trans rfl;have bz:w40.cell? ⟨aj,1,none⟩=some (.int .i64 (wrap64 (Int.tdiv a1 ae))):=(blk_cell ah.out 1).trans rfl;have bA:=blk_frozen ah.out 0;have bB:=blk_frozen ah.out 1;have bC:w40.cell? ⟨af,0,none⟩=some (.int .i64 0):=(blk_cell aa.out 0).trans rfl;have bD:w40.cell? ⟨af,1,none⟩=some (.int .i64 0):=(blk_cell aa.out 1).trans rfl;have bE:=blk_frozen aa.out 0;have bF:=blk_frozen aa.out 1))
    refine bodyPost_ret (results_ct rfl _ _ af 93 #[.int .i64 (wrap64 (Int.tdiv a0 ae)), .int .i64 (wrap64 (Int.tdiv a1 ae))] (0,0) _ rfl (by(with_reducible repeat (first | refine blk_drewN ?_ _ | refine blk_drew ?_ | refine blk_alloc ?_ _));refine blk_put (cs:= #[.int .i64 (wrap64 (Int.tdiv a0 ae)), .int .i64 0]) ?_ 1 _ rfl;(with_reducible repeat (first | refine blk_drewN ?_ _ | refine blk_drew ?_ | refine blk_alloc ?_ _));refine blk_put (cs:= #[.int .i64 0, .int .i64 0]) ?_ 0 _ rfl;(with_reducible repeat (first | refine blk_drewN ?_ _ | refine blk_drew ?_ | refine blk_alloc ?_ _));exact aa.out) Try.underlying93 rfl (by kernel_rfl)) rfl ?_
    exact⟨by first | rfl | (simp [errW_none,errW_some] <;> rfl) | (simp [*,errW_none,errW_some] <;> rfl),hb_⟩
   ·replace c31:=Bool.eq_false_iff.mpr c31
    subst c31
    have H1:(some (0,0,3))=some (r1,r2,r3):=by rw [if_neg (show ¬ (false=true) by decide)] at H;exact H
    clear H
    have H:=H1
    clear H1
    simp only [Option.some.injEq,Prod.mk.injEq] at H
    obtain⟨rfl,rfl,rfl⟩:=H
    go_enter Try.func149,Try.ntmps149
    try go_wp2_with (first | ((with_reducible refine gate_dst (N:=4) rfl ?_);refine box_event ?hg (N:=4) ?hd (cs:= #[.int .i64 0, .int .i64 0]) (t:=93) ?hr ?_;(case hd=>rfl);(case hg=>rfl);(case hr=>first | (go_simp;done) | (go_simp;rfl));intro af hg w43 hbox hb;have aa:=Aside0.mk (hbox);have ay:=Aside0.mk ((by rw [hg];exact bz_:w.heap.size≤af));have az:=Aside0.mk ((by rw [hg];exact bz_:w.heap.size≤af));replace HB:=Aside0.mk (bs_ hb);clear hb hbox hg) | ((with_reducible refine gate_callee (f:=182) rfl ?_);refine gL_ 10 Try.func182 #[.int .i64 a0, .int .i64 a1] ?_;(with_reducible refine(impl_common.calls k a0 a1 ae _ A3.out).mono ?_);rintro e w44 ⟨rfl,hb⟩;refine⟨_,rfl,?_⟩;replace aa:=Aside0.mk (bb_ aa.out hb);replace HB:=Aside0.mk (bs_ hb);(try clear hb);(try clear hb2);(try clear hk);(try clear hi)))
    replace aa:=Aside0.mk (blk_drew aa.out)
    replace HB:=Aside0.mk (below_drew1 HB.out)
    refine st_ (n:=9) (S:=fun w'=>True) (ds:= []) trivial (fun hHeld=>?_);refine with_tabW impl_reduced.tab4 impl_reduced.bits4 (fun HT_ HW_=>?_)
    generalize w44.drew=w45 at aa HB hHeld ⊢
    refine pu_ 0 15 ?_;refine pu_ 1 16 ?_;refine pu_ 2 17 ?_;refine pu_ 3 18 ?_;refine pu_ 4 19 ?_;refine pu_ 5 20 ?_;refine pu_ 6 21 ?_
    refine on_ 7 (some 7) (fun K hK=>?_)
    refine box_step ?hg (N:=7) ?hd (cs:= #[.int .i64 0, .int .i64 0]) (t:=93) ?hr ?_;(case hd=>rfl);(case hg=>rfl);(case hr=>first | (go_simp;done) | (go_simp;rfl))
    intro aj hg w46 hbox hb
    have ah:=Aside0.mk (hbox)
    have aD:=Aside0.mk ((by rw [hg];exact bz_:w.heap.size≤aj))
    have aG:=Aside0.mk ((by rw [hg];exact bz_:w.heap.size≤aj))
    have aq:=Aside0.mk ((by rw [hg];exact lt_ aa.out:af≠aj))
    have av:=Aside0.mk ((by rw [hg];exact gt_ aa.out:aj≠af))
    replace aa:=Aside0.mk (bb_ aa.out hb)
    replace HB:=Aside0.mk (bs_ hb)
    clear hb hbox hg
    refine hK.out _ _ trivial (fun hHeld=>?_)
    clear hK K
    refine norm_ (a':=?_) ?_ ?_
    rotate_left
    ·show Act.put _ (some 7) _=_
     simp only [Act.put,List.setIfInBounds_toArray,List.set_cons_zero,List.set_cons_succ,i64_w,i32_w]
     rfl
    refine on_ 8 none (fun K hK=>?_)
    have hs47:w46.cell? ⟨aj,0,none⟩=some (.int .i64 0):=(blk_cell ah.out 0).trans rfl
    have hfs47:=blk_frozen ah.out 0
    have hns47_0:=aq.out
    have hms47_0:=av.out
    have hs48:w46.cell? ⟨aj,1,none⟩=some (.int .i64 0):=(blk_cell ah.out 1).trans rfl
    have hfs48:=blk_frozen ah.out 1
    have hns48_0:=aq.out
    have hms48_0:=av.out
    refine skip_ (w1:=?_) (by rfl) rfl ?_ ?_
    rotate_left
    ·go_simp
     rfl
    refine hK.out _ _ trivial (fun hHeld=>?_)
    clear hK K
    refine done_ (done_of HT_.out (by kernel_rfl)) ?_
    have bV:=av.out
    have bW:=aq.out
    have bG:w46.cell? ⟨aj,0,none⟩=some (.int .i64 0):=(blk_cell ah.out 0).trans rfl
    have bH:w46.cell? ⟨aj,1,none⟩=some (.int .i64 0):=(blk_cell ah.out 1).trans rfl
    have bI:=blk_frozen ah.out 0
    have bJ:=blk_frozen ah.out 1
    try go_wp2_with (first | ((with_reducible refine gate_callee (f:=183) rfl ?_);refine gL_ 23 Try.func183 #[.agg #[.int .i64 (wrap64 (Int.tdiv a0 ae)), .int .i64 (wrap64 (Int.tdiv a1 ae))]] ?_;(with_reducible refine(impl_IsFrac.calls k (wrap64 (Int.tdiv a0 ae)) (wrap64 (Int.tdiv a1 ae)) false _ A30.out).mono ?_);rintro e w51 ⟨rfl,hb⟩;refine⟨_,rfl,?_⟩;replace aa:=Aside0.mk (blk_below (g:=af) (o:= .cells #[.int .i64 0, .int .i64 0] 93 (0,0)) (by(with_reducible repeat (first | refine blk_drewN ?_ _ | refine blk_drew ?_ | refine blk_alloc ?_ _));refine blk_far ?_ aq.out _;(with_reducible repeat (first | refine blk_drewN ?_ _ | refine blk_drew ?_ | refine blk_alloc ?_ _));refine blk_far ?_ aq.out _;(with_reducible repeat (first | refine blk_drewN ?_ _ | refine blk_drew ?_ | refine blk_alloc ?_ _));exact aa.out) hb);replace ah:=Aside0.mk (blk_below (g:=aj) (o:= .cells #[.int .i64 (wrap64 (Int.tdiv a0 ae)), .int .i64 (wrap64 (Int.tdiv a1 ae))] 93 (0,0)) (by(with_reducible repeat (first | refine blk_drewN ?_ _ | refine blk_drew ?_ | refine blk_alloc ?_ _));refine blk_put (cs:= #[.int .i64 (wrap64 (Int.tdiv a0 ae)), .int .i64 0]) ?_ 1 _ rfl;(with_reducible repeat (first | refine blk_drewN ?_ _ | refine blk_drew ?_ | refine blk_alloc ?_ _));refine blk_put (cs:= #[.int .i64 0, .int .i64 0]) ?_ 0 _ rfl;(with_reducible repeat (first | refine blk_drewN ?_ _ | refine blk_drew ?_ | refine blk_alloc ?_ _));exact ah.out) hb);replace HB:=Aside0.mk (bs_ hb);(try clear hb);(try clear hb2);(try clear hk);(try clear hi);have bK:w51.cell? ⟨af,0,none⟩=some (.int .i64 0):=(blk_cell aa.out 0).trans rfl;have bL:w51.cell? ⟨af,1,none⟩=some (.int .i64 0):=(blk_cell aa.out 1).trans rfl;have bM:=blk_frozen aa.out 0;have bN:=blk_frozen aa.out 1))
    refine bodyPost_ret (results_ct rfl _ _ af 93 #[.int .i64 0, .int .i64 0] (0,0) _ rfl (by(with_reducible repeat (first | refine blk_drewN ?_ _ | refine blk_drew ?_ | refine blk_alloc ?_ _));refine blk_put (cs:= #[.int .i64 0, .int .i64 0]) ?_ 1 _ rfl;(with_reducible repeat (first | refine blk_drewN ?_ _ | refine blk_drew ?_ | refine blk_alloc ?_ _));refine blk_put (cs:= #[.int .i64 0, .int .i64 0]) ?_ 0 _ rfl;(with_reducible repeat (first | refine blk_drewN ?_ _ | refine blk_drew ?_ | refine blk_alloc ?_ _));exact aa.out) Try.underlying93 rfl (by kernel_rfl)) rfl ?_
    exact⟨by first | rfl | (simp [errW_none,errW_some] <;> rfl) | (simp [*,errW_none,errW_some] <;> rfl),hb_⟩
def impl_allReduced.l0:Nat→Int→List (S93)→List Int→Int→Int→Option ((List (S93)) × Int)
 | 0,_,_,_,_,_=>none
 | k+1,x1,x6,x11,x12,x13=>if x13 < x12 then(if 0≤x13 then(if x13 < (x11.length:Int) then((impl_reduced.f k (rd x11 x13) x1).bind fun aa=>(if aa.2.2=0 then(if x6.length < 8796093022208 then(impl_allReduced.l0 k x1 (x6++ [(⟨aa.1,aa.2.1⟩:S93)]) x11 x12 (wrap64 (x13+1))) else(none)) else(some (([]:List (S93)),aa.2.2)))) else(none)) else(none)) else(some (x6,0))
def impl_allReduced.f (k:Nat) (l0:List Int) (a1:Int):Option ((List (S93)) × Int):=impl_allReduced.l0 k a1 ([]:List (S93)) l0 (l0.length:Int) 0
theorem impl_allReduced.mono_l: ∀k,(∀y0 y1 y2 y3 y4,LeO (impl_allReduced.l0 k y0 y1 y2 y3 y4) (impl_allReduced.l0 (k+1) y0 y1 y2 y3 y4))
 | 0=>fun _ _ _ _ _ r h=>by simp [impl_allReduced.l0] at h
 | k+1=>by
  have ih0:=impl_allReduced.mono_l k
  ·intro y0 y1 y2 y3 y4
   unfold impl_allReduced.l0
   repeat' first
   | (with_reducible exact ih0 _ _ _ _ _)
   | (with_reducible exact impl_reduced.mono _ _ _)
   | (with_reducible exact LeO.refl _)
   | (with_reducible exact LeO.none _)
   | (with_reducible refine LeO.ite ?_ ?_)
   | (with_reducible refine LeO.bind ?_ (fun _=>?_))
   | exact ih0 _ _ _ _ _
   | exact impl_reduced.mono _ _ _
   | exact LeO.none _
   | refine LeO.ite ?_ ?_
   | refine LeO.bind ?_ (fun _=>?_)
theorem impl_allReduced.mono: ∀a0 a1 k,LeO (impl_allReduced.f k a0 a1) (impl_allReduced.f (k+1) a0 a1):=by
 intro a0 a1 k
 have ih0:=impl_allReduced.mono_l k
 unfold impl_allReduced.f
 repeat' first
   | (with_reducible exact ih0 _ _ _ _ _)
   | (with_reducible exact impl_reduced.mono _ _ _)
   | (with_reducible exact LeO.refl _)
   | (with_reducible exact LeO.none _)
   | (with_reducible refine LeO.ite ?_ ?_)
   | (with_reducible refine LeO.bind ?_ (fun _=>?_))
   | exact ih0 _ _ _ _ _
   | exact impl_reduced.mono _ _ _
   | exact LeO.none _
   | refine LeO.ite ?_ ?_
   | refine LeO.bind ?_ (fun _=>?_)
theorem impl_allReduced.calls (k:Nat) (A0:Option Addr) (c0:Nat) (l0:List Int) (a1:Int) (r1:List (S93)) (r2:Int) (w:World) (hr0:Kd.C (Kd.int .i64) w A0 l0.length l0) (hc0:l0.length≤c0) (h:impl_allReduced.f k l0 a1=some (r1,r2)):
  Calls Try.prog 90 #[.slice A0 l0.length c0, .int .i64 a1] w fun e w'=> ∃v0_:Value,e= .returned (.tuple #[v0_, .int .i64 r2])∧Kd.R k93 93 w' w.heap.size (fun _=>True) v0_ r1∧Below w.heap.size w w':=by
 have hu93:=Try.underlying93
 have HR0:=Aside0.mk hr0
 have HC0:=Aside0.mk hc0
 clear hr0 hc0
 have HB:=Aside0.mk (Below.refl w.heap.size w)
 have H:(impl_allReduced.l0 k a1 ([]:List (S93)) l0 (l0.length:Int) 0)=some (r1,r2):=h
 clear h
 have H':=Aside0.mk H
 clear H
 go_enter Try.func90,Try.ntmps90
 go_wp2
 go_loopg [6,13] k (fun kq v6 v13 w'=> ∃(ak:List (S93)) (aa:Int),v13= .int .i64 aa∧Aside0 (impl_allReduced.l0 kq a1 ak l0 (l0.length:Int) aa=some (r1,r2))∧Aside0 (kq≤k)∧Aside0 (Kd.R k93 93 w' w.heap.size (fun _=>True) v6 ak)∧Aside0 (Below w.heap.size w w'))
 case atStart=>exact⟨(([]:List (S93))),(0),rs_,H',⟨Nat.le_refl _⟩,⟨by first | exact Kd.R_nil _ _ _ _ _ | exact Kd.N_nil _ _ _ _ _ | exact Kd.V_nil _ _ _ _ _ | exact Kd.Q_nil _ _ _ _ _ | exact Kd.S_nil _ _ _ _ _⟩,⟨hb_⟩⟩
 case round=>
  clear H'
  try clear p2
  obtain⟨ak,aa,rfl,HA,HK1,ag,HB⟩:=hrel
  cases gk with
  | zero=>exact absurd HA.out (by simp [impl_allReduced.l0])
  | succ k1=>
   have H:=HA.out
   clear HA
   simp only [impl_allReduced.l0] at H
   by_cases c3:aa < (l0.length:Int)
   ·rw [if_pos c3] at H
    have c3b0:decide (aa < (l0.length:Int))=true:=decide_eq_true c3
    clear c3
    by_cases c4:0≤aa
    ·rw [if_pos c4] at H
     have c4b0:decide (0≤aa)=true:=decide_eq_true c4
     clear c4
     by_cases c5:aa < (l0.length:Int)
     ·rw [if_pos c5] at H
      have c5b0:decide (aa < (l0.length:Int))=true:=decide_eq_true c5
      clear c5
      replace H:=Option.bind_eq_some_iff.mp H
      obtain⟨⟨ah,ai,aj⟩,A60,H⟩:=H
      replace H:(if aj=0 then(if ak.length < 8796093022208 then(impl_allReduced.l0 k1 a1 (ak++ [(⟨ah,ai⟩:S93)]) l0 (l0.length:Int) (wrap64 (aa+1))) else(none)) else(some (([]:List (S93)),aj)))=some (r1,r2):=H
      have A6:=Aside0.mk A60
      clear A60
      by_cases c7:aj=0
      ·rw [if_pos c7] at H
       have c7b0:(aj==0)=true:=beq_iff_eq.mpr c7
       have c7b1:(aj !=0)=false:=bne_eq_false_iff_eq.mpr c7
       clear c7
       by_cases c8:ak.length < 8796093022208
       ·rw [if_pos c8] at H
        have az:=Aside0.mk c8
        clear c8
        obtain⟨aq,hy360⟩: ∃y_:List (S93),y_=(ak++ [(⟨ah,ai⟩:S93)]):=⟨_,rfl⟩
        replace H:(impl_allReduced.l0 k1 a1 aq l0 (l0.length:Int) (wrap64 (aa+1)))=some (r1,r2):=by first | (rw [hy360];with_reducible exact H) | (have H2_:=(Option.bind_some _ _).symm.trans H;rw [hy360];with_reducible exact H2_) | (have H2_:=(Option.bind_some _ _).symm.trans H;with_reducible exact H2_) | with_reducible exact H | (rw [hy360];exact H) | exact H
        have au:=Aside0.mk hy360
        clear hy360
        have H':=Aside0.mk H
        clear H
        have p355:0≤(aa:Int):=od_
        have q355:aa < (l0.length:Int):=od_
        obtain⟨av,e355,hx355_0⟩:=Kd.at_int HR0.out aa p355 q355
        cases e355
        replace hx355_0:=(HB.out.cell (World.block_lt_of_cell? w _ hx355_0)).trans hx355_0
        replace p355:=eq_true p355
        replace q355:=eq_true q355
        go_wp2_with (first | ((with_reducible refine gate_callee (f:=149) rfl ?_);refine gL_ 20 Try.func149 #[.int .i64 (rd l0 aa), .int .i64 a1] ?_;(with_reducible refine(impl_reduced.calls k1 (rd l0 aa) a1 ah ai aj _ A6.out).mono ?_);rintro e w9 ⟨rfl,hb⟩;refine⟨_,rfl,?_⟩;replace ag:=Aside0.mk (rb_ ag.out hb);replace HB:=Aside0.mk (bs_ hb);(try clear hb);(try clear hb2);(try clear hk);(try clear hi)) | ((with_reducible refine gate_dst (N:=9) rfl ?_);refine box_event ?hg (N:=9) ?hd (cs:= #[.int .i64 0, .int .i64 0]) (t:=93) ?hr ?_;(case hd=>rfl);(case hg=>rfl);(case hr=>first | (go_simp;done) | (go_simp;rfl));intro ae hg w10 hbox hb;replace ag:=Aside0.mk (Kd.R_below (Kd.R_elderB (ro_ ag.out) ae (Nat.le_of_eq hg.symm)) hb);have af:=Aside0.mk (hbox);have aw:=Aside0.mk ((by rw [hg];exact bz_:w.heap.size≤ae));have ax:=Aside0.mk ((by rw [hg];exact bz_:w.heap.size≤ae));replace HB:=Aside0.mk (bs_ hb);clear hb hbox hg;have aA:w10.cell? ⟨ae,0,none⟩=some (.int .i64 0):=(blk_cell af.out 0).trans rfl;have aC:w10.cell? ⟨ae,1,none⟩=some (.int .i64 0):=(blk_cell af.out 1).trans rfl;have aD:=blk_frozen af.out 0;have aG:=blk_frozen af.out 1) | ((with_reducible refine gate_builtin (b:= .append) (xs:= #[.tmp 26, .tmp 28]) rfl ?_);at_builtin;refine Kd.R_append k93 (w0:=w) w.heap.size rfl (.tmp 26) (.tmp 28) 27 93 (.agg #[(.int .i64 0),(.int .i64 0)]) 16 rfl Try.underlying27 info93 rfl (by decide) (by omega) u6 ak (⟨ah,ai⟩:S93) [.int .i64 ah, .int .i64 ai] (fun k_=>k_≠ae) (fun _=>False) rfl (by first | (go_simp;done) | (go_simp;rfl)) ?aP (fun _ hk=>hk.elim) ?aF ?aO ?aB ?aS ?aL ?_;(case aP=>exact k93_mkM _ _ _ (⟨ah,ai⟩:S93));(case aB=>exact hb_);(case aF=>exact(fun k_ hk=>Kd.freshB (g:=ae) (o:= .cells #[.int .i64 ah, .int .i64 ai] 93 (0,0)) (by(with_reducible repeat (first | refine blk_drewN ?_ _ | refine blk_drew ?_ | refine blk_alloc ?_ _));refine blk_put (cs:= #[.int .i64 ah, .int .i64 0]) ?_ 1 _ rfl;(with_reducible repeat (first | refine blk_drewN ?_ _ | refine blk_drew ?_ | refine blk_alloc ?_ _));refine blk_put (cs:= #[.int .i64 0, .int .i64 0]) ?_ 0 _ rfl;(with_reducible repeat (first | refine blk_drewN ?_ _ | refine blk_drew ?_ | refine blk_alloc ?_ _));exact af.out) k_ hk));(case aO=>exact(by(with_reducible repeat (first | apply Kd.R_alloc | apply Kd.R_drewN | apply Kd.R_drew));exact Kd.R_mono (Kd.R_far (p:=⟨ae,1,none⟩) (Kd.R_far (p:=⟨ae,0,none⟩) (Kd.R_mono ag.out (fun k_ hk=>(⟨hk,hk.2⟩:_∧k_≠ae))) (fun _ hk=>hk.2) (.int .i64 ah)) (fun _ hk=>hk.2) (.int .i64 ai)) (fun _ hk=>hk.1.2)));(case aS=>exact bz_);(case aL=>have:=az.out;omega);intro aM w12 ho hb hg hat;rw [← au.out] at ho;replace af:=Aside0.mk (blk_grown (g:=ae) (o:= .cells #[.int .i64 ah, .int .i64 ai] 93 (0,0)) (by(with_reducible repeat (first | refine blk_drewN ?_ _ | refine blk_drew ?_ | refine blk_alloc ?_ _));refine blk_put (cs:= #[.int .i64 ah, .int .i64 0]) ?_ 1 _ rfl;(with_reducible repeat (first | refine blk_drewN ?_ _ | refine blk_drew ?_ | refine blk_alloc ?_ _));refine blk_put (cs:= #[.int .i64 0, .int .i64 0]) ?_ 0 _ rfl;(with_reducible repeat (first | refine blk_drewN ?_ _ | refine blk_drew ?_ | refine blk_alloc ?_ _));exact af.out) hg (Kd.R_away ag.out (fun _ hk=>hk.2)));replace HB:=Aside0.mk (hb);have ay:=Aside0.mk (ho);clear ag ho hb hg hat))
        go_roundg k1
        case measure=>have:=HK1.out;omega
        case rel=>exact⟨(aq),(wrap64 (aa+1)),rs_,H',⟨by have:=HK1.out;omega⟩,⟨by(with_reducible repeat (first | apply Kd.R_alloc | apply Kd.R_drewN | apply Kd.R_drew));exact Kd.R_mono ay.out (fun _ hk=>trivial)⟩,⟨hb_⟩⟩
       ·rw [if_neg c8] at H
        exact absurd H (by simp)
      ·rw [if_neg c7] at H
       have c7b0:(aj==0)=false:=beq_eq_false_iff_ne.mpr c7
       have c7b1:(aj !=0)=true:=bne_iff_ne.mpr c7
       simp only [Option.some.injEq,Prod.mk.injEq] at H
       obtain⟨rfl,rfl⟩:=H
       have p355:0≤(aa:Int):=od_
       have q355:aa < (l0.length:Int):=od_
       obtain⟨av,e355,hx355_0⟩:=Kd.at_int HR0.out aa p355 q355
       cases e355
       replace hx355_0:=(HB.out.cell (World.block_lt_of_cell? w _ hx355_0)).trans hx355_0
       replace p355:=eq_true p355
       replace q355:=eq_true q355
       go_wp2_with (first | ((with_reducible refine gate_callee (f:=149) rfl ?_);refine gL_ 20 Try.func149 #[.int .i64 (rd l0 aa), .int .i64 a1] ?_;(with_reducible refine(impl_reduced.calls k1 (rd l0 aa) a1 ah ai aj _ A6.out).mono ?_);rintro e w13 ⟨rfl,hb⟩;refine⟨_,rfl,?_⟩;replace ag:=Aside0.mk (rb_ ag.out hb);replace HB:=Aside0.mk (bs_ hb);(try clear hb);(try clear hb2);(try clear hk);(try clear hi)) | ((with_reducible refine gate_dst (N:=9) rfl ?_);refine box_event ?hg (N:=9) ?hd (cs:= #[.int .i64 0, .int .i64 0]) (t:=93) ?hr ?_;(case hd=>rfl);(case hg=>rfl);(case hr=>first | (go_simp;done) | (go_simp;rfl));intro ae hg w14 hbox hb;replace ag:=Aside0.mk (Kd.R_below (Kd.R_elderB (ro_ ag.out) ae (Nat.le_of_eq hg.symm)) hb);have af:=Aside0.mk (hbox);have aw:=Aside0.mk ((by rw [hg];exact bz_:w.heap.size≤ae));have ax:=Aside0.mk ((by rw [hg];exact bz_:w.heap.size≤ae));replace HB:=Aside0.mk (bs_ hb);clear hb hbox hg;have aH:w14.cell? ⟨ae,0,none⟩=some (.int .i64 0):=(blk_cell af.out 0).trans rfl;have aI:w14.cell? ⟨ae,1,none⟩=some (.int .i64 0):=(blk_cell af.out 1).trans rfl;have aJ:=blk_frozen af.out 0;have aK:=blk_frozen af.out 1))
       go_ret2
       exact⟨_,by first | rfl | (simp [errW_none,errW_some] <;> rfl) | (simp [*,errW_none,errW_some] <;> rfl),by first | exact Kd.R_nil _ _ _ _ _ | exact Kd.N_nil _ _ _ _ _ | exact Kd.V_nil _ _ _ _ _ | exact Kd.Q_nil _ _ _ _ _ | exact Kd.S_nil _ _ _ _ _,hb_⟩
     ·rw [if_neg c5] at H
      exact absurd H (by simp)
    ·rw [if_neg c4] at H
     exact absurd H (by simp)
   ·rw [if_neg c3] at H
    have c3b0:decide (aa < (l0.length:Int))=false:=decide_eq_false c3
    clear c3
    simp only [Option.some.injEq,Prod.mk.injEq] at H
    obtain⟨rfl,rfl⟩:=H
    go_wp2
    go_ret2
    exact⟨_,by first | rfl | (simp [errW_none,errW_some] <;> rfl) | (simp [*,errW_none,errW_some] <;> rfl),ro_ ag.out,hb_⟩
end Go.Proofs.Ytmpkckiifeikkaa.Pr
end
section
namespace Go.Proofs.Ytmpkckiifeikkaa.Lsa
open Go.RowKit Go.Proofs.YtmpkckiifeikkaaW.PrintWords Go.Proofs.YtmpkckiifeikkaaW.PrintLast Go.Proofs.YtmpkckiifeikkaaW.PrintMore Go.Proofs.Ytmpkckiifeikkaa.Ma Go.Proofs.Ytmpkckiifeikkaa.Dt Go.Proofs.Ytmpkckiifeikkaa.Lk Go.Proofs.Ytmpkckiifeikkaa.Lt Go.Proofs.Ytmpkckiifeikkaa.Lq
def valL (s:TS) (n:Nat):Nat→List Int
 | 0=>List.replicate (2*n) 0
 | i+1=>if s.bs.getD i 0 < 2*(n:Int) then(valL s n i).set (s.bs.getD i 0).toNat (s.T i (2*n+1)) else valL s n i
theorem valL_len (s:TS) (n:Nat): ∀i,(valL s n i).length=2*n
 | 0=>by simp [valL]
 | i+1=>by unfold valL;split <;> simp [valL_len s n i]
end Go.Proofs.Ytmpkckiifeikkaa.Lsa
namespace Go.Proofs.Ytmpkckiifeikkaa.Pr
open Go.RowKit Go.Proofs.YtmpkckiifeikkaaW.PrintWords Go.Proofs.YtmpkckiifeikkaaW.PrintLast Go.Proofs.YtmpkckiifeikkaaW.PrintMore Go.Proofs.Ytmpkckiifeikkaa.Ma Go.Proofs.Ytmpkckiifeikkaa.Dt Go.Proofs.Ytmpkckiifeikkaa.Lk Go.Proofs.Ytmpkckiifeikkaa.Lt Go.Proofs.Ytmpkckiifeikkaa.Lq Go.Proofs.Ytmpkckiifeikkaa.Lsa
theorem values_calls {w:World} {lo hi t g gb n cg cb:Nat} {b cp:Nat→Nat} {s:TS} (h:Tm w lo hi t g gb n (2*n+2) cg cb b cp s) (hn:n≤5) (hn0:0 < n) (hnn: ∀i,i < n→0≤s.bs.getD i 0):
  Calls Try.prog 98 #[.pointer (some ⟨t,0,none⟩)] w fun e w'=> ∃g8 c8,e= .returned (.slice (some ⟨g8,0,none⟩) (2*n) c8)∧Kd.R (Kd.int .i64) 2 w' w.heap.size (fun _=>True) (.slice (some ⟨g8,0,none⟩) (2*n) c8) (valL s n n)∧Below w.heap.size w w':=by
 have HT:=Aside0.mk h
 have HN:=Aside0.mk hn
 have HN0:=Aside0.mk hn0
 have HNN:=Aside0.mk hnn
 have hq3:=h.h3
 have hw:wrap64 (2*(n:Int))=((2*n:Nat):Int):=by rw [w64 (by omega) (by omega)];omega
 have HW:=Aside0.mk hw
 have HB:=Aside0.mk (Below.refl w.heap.size w)
 have HWB:=Aside0.mk (Nat.le_refl w.heap.size)
 clear h hn hn0 hnn hw
 go_enter Try.func98,Try.ntmps98
 go_wp2_with (first | ((with_reducible refine gate_dst (N:=11) rfl ?_);refine Kd.R_make (Kd.int .i64) (w0:=w) w.heap.size 2 rfl (N:=11) rfl 23 _ _ rfl (wrap64 (2*(n:Int))) rfl rfl Try.underlying23 (.int .i64 0) 8 info2 rfl (by decide) (by omega) 0 (ok:=fun _=>True) (okp:=fun _=>True) rfl (fun _ hk=>hk) trivial (by rw [HW.out];omega) (by have:=HN.out;rw [HW.out];omega) (Below.refl _ _) (Nat.le_refl _) ?_;intro v8 w4 ho hb hg_ hnew_;rw [HW.out,Int.toNat_natCast] at ho;have HR:=Aside0.mk ho;replace HB:=Aside0.mk hb;replace HWB:=Aside0.mk hb.size;clear ho hb hg_ hnew_ hq3;obtain⟨g8,c8,hv8,hb8,hl8,cells8,hc8⟩:=Kd.R_form HR.out (by simp;exact HN0.out);rw [List.length_replicate] at hv8;subst hv8;have HG8:=Aside0.mk hb8;have hq2:=(HT.out.mvB HB.out).h2;clear hb8 hl8 hc8))
 clear hq2
 have HR0:Aside0 (Kd.R (Kd.int .i64) 2 w4 w.heap.size (fun _=>True) (.slice (some ⟨g8,0,none⟩) (2*n) c8) (valL s n 0)):=HR
 clear HR
 go_loopg [17] n (fun gg v17 wr=> ∃(i:Nat),i≤n∧n - i≤gg∧v17= .int .i64 (i:Int)∧Aside0 (Kd.R (Kd.int .i64) 2 wr w.heap.size (fun _=>True) (.slice (some ⟨g8,0,none⟩) (2*n) c8) (valL s n i))∧Aside0 (Below w.heap.size w wr)∧Aside0 (w.heap.size≤wr.heap.size))
 case atStart=>exact⟨0,Nat.zero_le _,by omega,rfl,HR0,HB,HWB⟩
 case round=>
  clear HR0 HB HWB
  obtain⟨i,hi',hg,rfl,HR,HB,HWB⟩:=hrel
  have HG:=Aside0.mk hg
  by_cases hlt:i < n
  ·have hltz:(i:Int) < (n:Int):=by omega
   have h0z:(0:Int)≤(i:Int):=by omega
   have hwi:IntKind.i64.wrap ((i:Int)+1)=((i+1:Nat):Int):=by rw [IntWalk.i64_in _ (by have:=HN.out;omega)];rfl
   have HWI:=Aside0.mk hwi
   have HLT:=Aside0.mk hlt
   obtain⟨l,hl⟩: ∃l:Nat,s.bs.getD i 0=(l:Int):=⟨(s.bs.getD i 0).toNat,by have:=HNN.out i hlt;omega⟩
   have HLL:=Aside0.mk hl
   have HTw:=Aside0.mk (HT.out.mvB HB.out)
   have hcb:=(HTw.out.oq i hlt).1
   rw [hl] at hcb
   have hcn:=HTw.out.h3
   have hw2:IntKind.i64.wrap (2*(n:Int))=((2*n:Nat):Int):=by rw [IntWalk.i64_in _ (by have:=HN.out;omega)];omega
   clear hi' hg hlt hl HTw
   by_cases hc:l < 2*n
   ·have hcz:(l:Int) < ((2*n:Nat):Int):=by omega
    have hcz2:(l:Int) < 2*(n:Int):=by omega
    have h0l:(0:Int)≤(l:Int):=by omega
    have HC:=Aside0.mk hc
    clear hc
    go_wp2_with fail
    refine(right_calls (HT.out.mvB HB.out) i HLT.out (by omega) (by have:=HN.out;omega)).mono ?_
    rintro e w7 ⟨rfl,hb⟩
    replace HR:=Aside0.mk (Kd.R_below HR.out hb)
    replace HB:=Aside0.mk (below_step HB.out hb)
    replace HWB:=Aside0.mk (Nat.le_trans HWB.out hb.size)
    obtain⟨x,hx⟩: ∃x,s.T i (2*n+2 - 1)=x:=⟨_,rfl⟩
    rw [hx]
    have HX:=Aside0.mk hx
    have hat:=Kd.R_celln 0 HR.out (l:Int) (by omega) (by have:=HC.out;omega)
    rw [Int.toNat_natCast] at hat
    have hcell:=hat.1
    have hfr:=hat.2
    clear hb hx hat hcb hcn
    go_wp2
    have hput:=Kd.R_putg HR.out (l:Int) x
    rw [Int.toNat_natCast] at hput
    go_roundg (n - (i+1))
    case measure=>have:=HG.out;have:=HLT.out;omega
    case rel=>
     refine⟨i+1,HLT.out,by omega,by first | rfl | (rw [HWI.out]) | (simp [HWI.out]),?_,⟨HB.out.setCell HG8.out _⟩,⟨(HB.out.setCell (p:=⟨g8,l,none⟩) HG8.out (.int .i64 x)).size⟩⟩
     show Aside0 (Kd.R _ _ _ _ _ _ (if s.bs.getD i 0 < 2*(n:Int) then(valL s n i).set (s.bs.getD i 0).toNat (s.T i (2*n+1)) else valL s n i))
     rw [if_pos (by rw [HLL.out];have:=HC.out;omega),HLL.out,Int.toNat_natCast,show s.T i (2*n+1)=x from HX.out]
     exact⟨hput.1⟩
   ·have hcz: ¬ (l:Int) < ((2*n:Nat):Int):=by omega
    have hcz2: ¬ (l:Int) < 2*(n:Int):=by omega
    have HC:=Aside0.mk hc
    clear hc
    go_wp2
    go_roundg (n - (i+1))
    case measure=>have:=HG.out;have:=HLT.out;omega
    case rel=>
     refine⟨i+1,HLT.out,by omega,by first | rfl | (rw [HWI.out]) | (simp [HWI.out]),?_,HB,HWB⟩
     show Aside0 (Kd.R _ _ _ _ _ _ (if s.bs.getD i 0 < 2*(n:Int) then _ else _))
     rw [if_neg (by rw [HLL.out];have:=HC.out;omega)]
     exact HR
  ·have hltz: ¬ (i:Int) < (n:Int):=by omega
   obtain rfl:n=i:=by omega
   clear hi' hg hlt
   go_wp2
   go_ret
   exact⟨_,_,rfl,HR.out,HB.out⟩
def lsF (k:Nat) (R:TS × List (List Int) × Bool × Int × Int) (n:Nat) (c:Int):Option (List S93 × Int):=if c=0 then(if R.2.2.2.2=0 then(if R.2.2.1=true then impl_allReduced.f k ((valL R.1 n n).drop n) R.1.den else some ([],4)) else some ([],R.2.2.2.2)) else some ([],c)
def impl_LemkeSolution.f (k:Nat) (ae:List (List Int)) (aa l1:List Int):Option (List S93 × Int):=lsF k (lkR ae aa l1 201) aa.length (lkCode ae aa l1)
theorem impl_LemkeSolution.mono: ∀a0 a1 a2 k,LeO (impl_LemkeSolution.f k a0 a1 a2) (impl_LemkeSolution.f (k+1) a0 a1 a2):=by
 intro a0 a1 a2 k
 unfold impl_LemkeSolution.f lsF
 exact LeO.ite (LeO.ite (LeO.ite (impl_allReduced.mono _ _ _) (LeO.refl _)) (LeO.refl _)) (LeO.refl _)
theorem impl_LemkeSolution.calls (k:Nat) (af:Option Addr) (ag:Nat) (ae:List (List Int)) (ah:Option Addr) (ai:Nat) (aa:List Int) (A1:Option Addr) (c1:Nat) (l1:List Int) (r1:List (S93)) (r2:Int) (w:World) (aj:Kd.C (Kd.slice 2 (Kd.int .i64)) w af ae.length ae) (ak:ae.length≤ag) (aq:Kd.C (Kd.int .i64) w ah aa.length aa) (au:aa.length≤ai) (hr1:Kd.C (Kd.int .i64) w A1 l1.length l1) (hc1:l1.length≤c1) (h:impl_LemkeSolution.f k ae aa l1=some (r1,r2)):
  Calls Try.prog 22 #[.agg #[.slice af ae.length ag, .slice ah aa.length ai], .slice A1 l1.length c1] w fun e w'=> ∃v0_:Value,e= .returned (.tuple #[v0_, .int .i64 r2])∧Kd.R k93 93 w' w.heap.size (fun _=>True) v0_ r1∧Below w.heap.size w w':=by
 unfold impl_LemkeSolution.f at h
 have HB:=Aside0.mk (Below.refl w.heap.size w)
 have hcall:=fun W (hb:Below w.heap.size w W)=>runOf_calls af ag ae ah ai aa A1 c1 l1 W (Kd.C_below aj hb) ak (Kd.C_below aq hb) au (Kd.C_below hr1 hb) hc1
 have HL:=Aside0.mk hcall
 have hok:lkCode ae aa l1=0→(aa.length≤5∧0 < aa.length)∧_:=fun h0=>⟨⟨(lkCode_pc h0).le,(lkCode_pc h0).pos⟩,lkR_ok (lkCode_pc h0) 201⟩
 have HOK:=Aside0.mk hok
 clear hcall hok aj ak aq au hr1 hc1
 generalize tab0 aa.length (enL ae) (fun i=>l1.getD i 0) (fun i=>aa.getD i 0)=A at HOK
 obtain⟨R,hR⟩: ∃R,lkR ae aa l1 201=R:=⟨_,rfl⟩
 rw [hR] at h HL HOK
 clear hR
 obtain⟨c,hc⟩: ∃c,lkCode ae aa l1=c:=⟨_,rfl⟩
 rw [hc] at h HL HOK
 clear hc
 generalize ae.length=m0 at HL ⊢
 obtain⟨n,hn⟩: ∃n,aa.length=n:=⟨_,rfl⟩
 rw [hn] at HL HOK h ⊢
 clear hn
 have H:=Aside0.mk h
 clear h
 generalize l1.length=m2 at HL ⊢
 obtain⟨s,st,sv,ray,cR⟩:=R
 go_enter Try.func22,Try.ntmps22
 go_wp2_with (first | ((with_reducible refine gate_dst (N:=2) rfl ?_);refine box_event ?hg (N:=2) ?hd (cs:= #[.slice af m0 ag, .slice ah n ai]) (t:=30) ?hr ?_;(case hd=>rfl);(case hg=>rfl);(case hr=>first | (go_simp;done) | (go_simp;rfl));intro g2 hg w2 hbox hb;replace HB:=Aside0.mk (below_step HB.out hb);have B2:=Aside0.mk hbox;have hz0:=cz_ B2 0;have hz1:=cz_ B2 1;clear hb hbox hg))
 refine(HL.out w2 HB.out).mono ?_
 rintro e w3 ⟨hor,hb⟩
 have HBS:=Aside0.mk HB.out.size
 replace HB:=Aside0.mk (below_step HB.out hb)
 clear hb hz0 hz1 HL B2
 rcases hor with ⟨hc,rfl⟩ | ⟨rfl,p,rfl,hP⟩
 ·have hcb:(c==0)=false:=by simpa using hc
  have e:=H.out
  unfold lsF at e
  rw [if_neg hc] at e
  injection e with e
  injection e with e1 e2
  subst e1 e2
  clear H HOK
  go_wp2
  go_ret2
  exact⟨_,rfl,Kd.R_nil _ _ _ _ _,HB.out⟩
 ·have HP:=Aside0.mk (hP.base HBS.out)
  have e:=H.out
  unfold lsF at e
  rw [if_pos rfl] at e
  have H2:=Aside0.mk e
  obtain⟨⟨hn5,hn0⟩,hOK,hr0,hr1⟩:=HOK.out (by first | exact rfl | trivial)
  try simp only at hOK hr0 hr1
  have HN:=Aside0.mk hn5
  have HN0:=Aside0.mk hn0
  have HO:=Aside0.mk hOK
  obtain⟨rn,rfl⟩:=Int.eq_ofNat_of_zero_le hr0
  have HRN:Aside0 (rn < 2*n+1):=⟨by omega⟩
  clear hP H e HOK hOK hr0 hr1 hn5 hn0
  try simp only at HP
  by_cases hc0:cR=0
  ·subst hc0
   have e:=H2.out
   rw [if_pos rfl] at e
   have H3:=Aside0.mk e
   clear H2 e
   have hq:w3.cell? ⟨p,2,none⟩=some (.bool sv)∧ ∃t,w3.cell? ⟨p,0,none⟩=some (.pointer (some ⟨t,0,none⟩))∧w3.cell? ⟨t,3,none⟩=some (.int .i64 n):=by
    obtain⟨lo,hi,t,u1,h1,h2,h3,⟨g,gb,cg,cb,b,cp,hT⟩,hB,hS⟩:=HP.out
    exact⟨cz_ ⟨hB⟩ 2,t,cz_ ⟨hB⟩ 0,hT.h3⟩
   obtain⟨hq2,t0,hq0,hq3⟩:=hq
   cases sv with
   | false=>
    have e:=H3.out
    rw [if_neg (by show ¬ (false=true);decide)] at e
    injection e with e
    injection e with e1 e2
    subst e1 e2
    clear H3 HP
    go_wp2
    go_ret2
    exact⟨_,rfl,Kd.R_nil _ _ _ _ _,HB.out⟩
   | true=>
    have e:=H3.out
    rw [if_pos rfl] at e
    have H4:=Aside0.mk e
    clear H3 e hq0 hq3
    go_wp2
    clear hq2
    have HB3:=Aside0.mk (below_drew (Below.refl w3.heap.size w3))
    obtain⟨lo,hi,t,u1,h1,h2,h3,⟨g,gb,cg,cb,b,cp,hT⟩,hBp,hS⟩:=HP.out
    have HT:=Aside0.mk hT
    have BP:=Aside0.mk hBp
    have BPw:=Aside0.mk (blk_below BP.out HB3.out)
    have HTw:=Aside0.mk (HT.out.mvB HB3.out)
    have h0n:(0:Int)≤(n:Int):=by omega
    have hn2:(n:Int)≤2*(n:Int):=by omega
    clear h1 h2 h3 hT hBp hS
    refine st_ (n:=25) (S:=fun w'=>w'.cell? ⟨p,0,none⟩=some (.pointer (some ⟨t,0,none⟩))∧w'.cell? ⟨t,3,none⟩=some (.int .i64 n)∧w'.cell? ⟨t,1,none⟩=some (.int .i64 s.den)) (ds:= []) ⟨cz_ BPw 0,HTw.out.h3,HTw.out.h1.1⟩ (fun hHeld=>?_)
    generalize w3.drew=w5 at HB3 BPw HTw hHeld ⊢
    refine pu_ 0 22 ?_;refine pu_ 1 23 ?_;refine pu_ 2 24 ?_;refine tk_ 3 25 ?_;refine pu_ 5 27 ?_;refine pu_ 6 28 ?_;refine pu_ 7 29 ?_;refine tk_ 8 30 ?_;refine pu_ 9 31 ?_;refine pu_ 10 32 ?_;refine tk_ 11 33 ?_;refine pu_ 13 35 ?_;refine pu_ 14 36 ?_;refine pu_ 15 37 ?_;refine tk_ 16 38 ?_;refine pu_ 17 39 ?_;refine pu_ 18 40 ?_;refine tk_ 19 41 ?_
    refine on_ 4 (some 26) (fun K hK=>?_)
    refine ca_ Try.func98 #[.pointer (some ⟨t,0,none⟩)] ?_
    refine(values_calls HTw.out HN.out HN0.out HO.out.nn).mono ?_
    rintro e w6 ⟨g8,c8,rfl,hR,hb⟩
    refine⟨_,rfl,?_⟩
    have HR:=Aside0.mk hR
    have HWB:=Aside0.mk HB3.out.size
    replace HB3:=Aside0.mk (below_step HB3.out hb)
    replace BPw:=Aside0.mk (blk_below BP.out HB3.out)
    replace HTw:=Aside0.mk (HT.out.mvB HB3.out)
    have hc8:((2*n:Nat):Int)≤(c8:Int):=by have:=(Kd.R_reads' hR).2.1;omega
    have HC8:=Aside0.mk hc8
    have hcn8: ¬ c8=n:=by have:=HN0.out;omega
    clear hR hb hHeld
    refine hK.out _ _ ⟨cz_ BPw 0,HTw.out.h3,HTw.out.h1.1⟩ (fun hHeld=>?_)
    clear hK K
    refine no_ ?_
    refine pu_ 12 34 ?_
    have hD:=Kd.C_drop (m:=n) (c:=c8) (Kd.R_reads' HR.out).2.2 (by rw [valL_len];omega) (by rw [valL_len];omega)
    have hadd:Option.map (fun x:Addr=>x.add (n*(Kd.int IntKind.i64).sz)) (some (⟨g8,0,none⟩:Addr))=some ⟨g8,n,none⟩:=by
     show some ((⟨g8,0,none⟩:Addr).add (n*1))=_
     rw [Nat.mul_one,add_off,Nat.zero_add]
    have hdl:((valL s n n).drop n).length=2*n - n:=by rw [List.length_drop,valL_len]
    rw [if_neg hcn8,hadd,hdl] at hD
    have hcall:=impl_allReduced.calls k (some ⟨g8,n,none⟩) (c8 - n) ((valL s n n).drop n) s.den r1 r2 w6 (by rw [hdl];exact hD) (by rw [hdl];omega) H4.out
    rw [hdl] at hcall
    have HCALL:=Aside0.mk hcall
    clear hcall hD hadd hdl
    refine on_ 20 (some 42) (fun K hK=>?_)
    refine ca_ Try.func90 #[.slice (some ⟨g8,n,none⟩) (2*n - n) (c8 - n), .int .i64 s.den] ?_
    refine HCALL.out.mono ?_
    rintro e w8 ⟨v9,rfl,hR9,hb⟩
    refine⟨_,rfl,?_⟩
    have HR9:=Aside0.mk (Kd.R_lower hR9 (Nat.le_trans HB.out.size HB3.out.size))
    replace HB3:=Aside0.mk (below_step HB3.out hb)
    replace BPw:=Aside0.mk (blk_below BP.out HB3.out)
    replace HTw:=Aside0.mk (HT.out.mvB HB3.out)
    clear hR9 hb hHeld HCALL
    refine hK.out _ _ ⟨cz_ BPw 0,HTw.out.h3,HTw.out.h1.1⟩ (fun hHeld=>?_)
    clear hK K
    refine no_ ?_
    refine pu_ 21 43 ?_;refine pu_ 22 44 ?_;refine pu_ 23 4 ?_;refine pu_ 24 5 ?_
    refine done_ (by kernel_rfl) ?_
    go_wp2
    go_ret2
    exact⟨_,rfl,HR9.out,(Out.hi HB3.out).toBelow HB.out HB.out.size⟩
  ·have hcb:(cR==0)=false:=by simpa using hc0
   have e:=H2.out
   rw [if_neg hc0] at e
   injection e with e
   injection e with e1 e2
   subst e1 e2
   clear H2 HP
   go_wp2
   go_ret2
   exact⟨_,rfl,Kd.R_nil _ _ _ _ _,HB.out⟩
end Go.Proofs.Ytmpkckiifeikkaa.Pr
end
section
namespace Go.Proofs.Ytmpkckiifeikkaa.Pr
open Go.RowKit Go.Proofs.YtmpkckiifeikkaaW.PrintWords Go.Proofs.YtmpkckiifeikkaaW.PrintLast Go.Proofs.YtmpkckiifeikkaaW.PrintMore
attribute [local go_sem] max2_int min2_int max_two min_two max_three min_three max_four min_four
def spec_l05Code.l0:Nat→List Int→Int→Option (Int)
 | 0,_,_=>none
 | k+1,x1,x5=>if x5 < (x1.length:Int) then(if 0≤x5 then((spec_l01In.f (rd x1 x5) 1 20).bind fun aa=>(if aa=true then(spec_l05Code.l0 k x1 (wrap64 (x5+1))) else(some 2))) else(none)) else(some 0)
def spec_l05Code.f (k:Nat) (ae:List (List Int)) (aa:List Int) (l1:List Int):Option (Int):=(spec_l01Is.f k ae aa).bind fun af=>(if af=true then(if(l1.length:Int)=(aa.length:Int) then(spec_l05Code.l0 k l1 0) else(some 2)) else(some 1))
theorem spec_l05Code.mono_l: ∀k,(∀y0 y1,LeO (spec_l05Code.l0 k y0 y1) (spec_l05Code.l0 (k+1) y0 y1))
 | 0=>fun _ _ r h=>by simp [spec_l05Code.l0] at h
 | k+1=>by
  have ih0:=spec_l05Code.mono_l k
  ·intro y0 y1
   unfold spec_l05Code.l0
   repeat' first
   | (with_reducible exact ih0 _ _)
   | (with_reducible exact spec_l01Is.mono _ _ _)
   | (with_reducible exact LeO.refl _)
   | (with_reducible exact LeO.none _)
   | (with_reducible refine LeO.ite ?_ ?_)
   | (with_reducible refine LeO.bind ?_ (fun _=>?_))
   | exact ih0 _ _
   | exact spec_l01Is.mono _ _ _
   | exact LeO.none _
   | refine LeO.ite ?_ ?_
   | refine LeO.bind ?_ (fun _=>?_)
theorem spec_l05Code.mono: ∀a0 a1 a2 k,LeO (spec_l05Code.f k a0 a1 a2) (spec_l05Code.f (k+1) a0 a1 a2):=by
 intro a0 a1 a2 k
 have ih0:=spec_l05Code.mono_l k
 unfold spec_l05Code.f
 repeat' first
   | (with_reducible exact ih0 _ _)
   | (with_reducible exact spec_l01Is.mono _ _ _)
   | (with_reducible exact LeO.refl _)
   | (with_reducible exact LeO.none _)
   | (with_reducible refine LeO.ite ?_ ?_)
   | (with_reducible refine LeO.bind ?_ (fun _=>?_))
   | exact ih0 _ _
   | exact spec_l01Is.mono _ _ _
   | exact LeO.none _
   | refine LeO.ite ?_ ?_
   | refine LeO.bind ?_ (fun _=>?_)
theorem spec_l05Code.calls (k:Nat) (ai:Option Addr) (aj:Nat) (ag:List (List Int)) (ak:Option Addr) (aq:Nat) (ae:List Int) (A1:Option Addr) (c1:Nat) (l1:List Int) (r:Int) (w:World) (az:Kd.C (Kd.slice 2 (Kd.int .i64)) w ai ag.length ag) (aA:ag.length≤aj) (aC:Kd.C (Kd.int .i64) w ak ae.length ae) (aD:ae.length≤aq) (hr1:Kd.C (Kd.int .i64) w A1 l1.length l1) (hc1:l1.length≤c1) (h:spec_l05Code.f k ag ae l1=some r):
  Calls Try.prog 94 #[.agg #[.slice ai ag.length aj, .slice ak ae.length aq], .slice A1 l1.length c1] w fun e w'=>e= .returned (.int .i64 r)∧Below w.heap.size w w':=by
 have hu30:=Try.underlying30
 have HR0_0:=Aside0.mk az
 have HC0_0:=Aside0.mk aA
 clear az aA
 have HR0_1:=Aside0.mk aC
 have HC0_1:=Aside0.mk aD
 clear aC aD
 have HR1:=Aside0.mk hr1
 have HC1:=Aside0.mk hc1
 clear hr1 hc1
 have HB:=Aside0.mk (Below.refl w.heap.size w)
 have H:((spec_l01Is.f k ag ae).bind fun ay=>(if ay=true then(if(l1.length:Int)=(ae.length:Int) then(spec_l05Code.l0 k l1 0) else(some 2)) else(some 1)))=some r:=h
 clear h
 replace H:=Option.bind_eq_some_iff.mp H
 obtain⟨ay,A30,H⟩:=H
 replace H:(if ay=true then(if(l1.length:Int)=(ae.length:Int) then(spec_l05Code.l0 k l1 0) else(some 2)) else(some 1))=some r:=H
 have A3:=Aside0.mk A30
 clear A30
 by_cases c4:ay=true
 ·subst c4
  have H1:(if(l1.length:Int)=(ae.length:Int) then(spec_l05Code.l0 k l1 0) else(some 2))=some r:=by rw [if_pos rfl] at H;exact H
  clear H
  have H:=H1
  clear H1
  by_cases c5:(l1.length:Int)=(ae.length:Int)
  ·rw [if_pos c5] at H
   have c5b0:((l1.length:Int)==(ae.length:Int))=true:=beq_iff_eq.mpr c5
   have c5b1:((l1.length:Int) !=(ae.length:Int))=false:=bne_eq_false_iff_eq.mpr c5
   have c5b2:(l1.length==ae.length)=true:=by first | simpa using c5 | (simp at c5 ⊢;omega)
   clear c5
   have H':=Aside0.mk H
   clear H
   go_enter Try.func94,Try.ntmps94
   go_wp2_with (first | ((with_reducible refine gate_dst (N:=2) rfl ?_);refine box_event ?hg (N:=2) ?hd (cs:= #[.slice ai ag.length aj, .slice ak ae.length aq]) (t:=30) ?hr ?_;(case hd=>rfl);(case hg=>rfl);(case hr=>first | (go_simp;done) | (go_simp;rfl));intro af hg w6 hbox hb;have aa:=Aside0.mk (hbox);have aG:=Aside0.mk ((by rw [hg];exact bz_:w.heap.size≤af));have aH:=Aside0.mk ((by rw [hg];exact bz_:w.heap.size≤af));replace HB:=Aside0.mk (bs_ hb);clear hb hbox hg;have aI:w6.cell? ⟨af,0,none⟩=some (.slice ai ag.length aj):=(blk_cell aa.out 0).trans rfl;have aJ:w6.cell? ⟨af,1,none⟩=some (.slice ak ae.length aq):=(blk_cell aa.out 1).trans rfl;have aK:=blk_frozen aa.out 0;have aM:=blk_frozen aa.out 1) | ((with_reducible refine gate_callee (f:=118) rfl ?_);refine gL_ 7 Try.func118 #[.agg #[.slice ai ag.length aj, .slice ak ae.length aq]] ?_;(with_reducible refine(spec_l01Is.calls k _ _ ag _ _ ae true _ ?au ?av ?aw ?ax A3.out).mono ?_);(case au=>exact cb_ HR0_0.out HB.out);(case av=>exact HC0_0.out);(case aw=>exact cb_ HR0_1.out HB.out);(case ax=>exact HC0_1.out);rintro e w8 ⟨rfl,hb⟩;refine⟨_,rfl,?_⟩;replace aa:=Aside0.mk (bb_ aa.out hb);replace HB:=Aside0.mk (bs_ hb);(try clear hb);(try clear hb2);(try clear hk);(try clear hi);have aN:w8.cell? ⟨af,0,none⟩=some (.slice ai ag.length aj):=(blk_cell aa.out 0).trans rfl;have aT:w8.cell? ⟨af,1,none⟩=some (.slice ak ae.length aq):=(blk_cell aa.out 1).trans rfl;have aU:=blk_frozen aa.out 0;have aV:=blk_frozen aa.out 1))
   go_loopg [5] k (fun kq v5 w'=> ∃(ah:Int),v5= .int .i64 ah∧Aside0 (spec_l05Code.l0 kq l1 ah=some r)∧Aside0 (kq≤k)∧Aside0 (w'.heap[af]?=some (.cells #[(.slice ai ag.length aj),(.slice ak ae.length aq)] 30 (0,0)))∧Aside0 (Below w.heap.size w w'))
   case atStart=>exact⟨(0),rs_,H',⟨Nat.le_refl _⟩,⟨bk_⟩,⟨hb_⟩⟩
   case round=>
    clear H'
    try clear c1
    try clear p2
    try clear c4
    try clear c5
    try clear c5b0
    try clear c5b1
    try clear c5b2
    try clear c9
    try clear aI
    try clear aJ
    try clear aN
    try clear aT
    try clear aK
    try clear aM
    try clear aU
    try clear aV
    obtain⟨ah,rfl,HA,HK1,aa,HB⟩:=hrel
    cases gk with
    | zero=>exact absurd HA.out (by simp [spec_l05Code.l0])
    | succ k1=>
     have H:=HA.out
     clear HA
     simp only [spec_l05Code.l0] at H
     by_cases c10:ah < (l1.length:Int)
     ·rw [if_pos c10] at H
      have c10b0:decide (ah < (l1.length:Int))=true:=decide_eq_true c10
      clear c10
      by_cases c11:0≤ah
      ·rw [if_pos c11] at H
       have c11b0:decide (0≤ah)=true:=decide_eq_true c11
       clear c11
       replace H:=Option.bind_eq_some_iff.mp H
       obtain⟨aW,A120,H⟩:=H
       replace H:(if aW=true then(spec_l05Code.l0 k1 l1 (wrap64 (ah+1))) else(some 2))=some r:=H
       have A12:=Aside0.mk A120
       clear A120
       by_cases c13:aW=true
       ·subst c13
        have H1:(spec_l05Code.l0 k1 l1 (wrap64 (ah+1)))=some r:=by rw [if_pos rfl] at H;exact H
        clear H
        have H:=H1
        clear H1
        have H':=Aside0.mk H
        clear H
        have p165:0≤(ah:Int):=od_
        have q165:ah < (l1.length:Int):=od_
        obtain⟨aX,e165,hx165_0⟩:=Kd.at_int HR1.out ah p165 q165
        cases e165
        replace hx165_0:=(HB.out.cell (World.block_lt_of_cell? w _ hx165_0)).trans hx165_0
        replace p165:=eq_true p165
        replace q165:=eq_true q165
        go_wp2_with (first | ((with_reducible refine gate_callee (f:=119) rfl ?_);refine gL_ 25 Try.func119 #[.int .i64 (rd l1 ah), .int .i64 1, .int .i64 20] ?_;(with_reducible refine(spec_l01In.calls (rd l1 ah) 1 20 true _ A12.out).mono ?_);rintro e w' ⟨rfl,⟨nd,rfl⟩⟩;refine⟨_,rfl,?_⟩))
        go_roundg k1
        case measure=>have:=HK1.out;omega
        case rel=>exact⟨(wrap64 (ah+1)),rs_,H',⟨by have:=HK1.out;omega⟩,⟨bk_⟩,⟨hb_⟩⟩
       ·replace c13:=Bool.eq_false_iff.mpr c13
        subst c13
        have H1:(some 2)=some r:=by rw [if_neg (show ¬ (false=true) by decide)] at H;exact H
        clear H
        have H:=H1
        clear H1
        obtain rfl:=Option.some.inj H
        have p165:0≤(ah:Int):=od_
        have q165:ah < (l1.length:Int):=od_
        obtain⟨aX,e165,hx165_0⟩:=Kd.at_int HR1.out ah p165 q165
        cases e165
        replace hx165_0:=(HB.out.cell (World.block_lt_of_cell? w _ hx165_0)).trans hx165_0
        replace p165:=eq_true p165
        replace q165:=eq_true q165
        go_wp2_with (first | ((with_reducible refine gate_callee (f:=119) rfl ?_);refine gL_ 25 Try.func119 #[.int .i64 (rd l1 ah), .int .i64 1, .int .i64 20] ?_;(with_reducible refine(spec_l01In.calls (rd l1 ah) 1 20 false _ A12.out).mono ?_);rintro e w' ⟨rfl,⟨nd,rfl⟩⟩;refine⟨_,rfl,?_⟩))
        go_ret
        exact⟨by first | rfl | (simp [errW_none,errW_some] <;> rfl) | (simp [*,errW_none,errW_some] <;> rfl),hb_⟩
      ·rw [if_neg c11] at H
       exact absurd H (by simp)
     ·rw [if_neg c10] at H
      have c10b0:decide (ah < (l1.length:Int))=false:=decide_eq_false c10
      clear c10
      obtain rfl:=Option.some.inj H
      go_wp2
      go_ret
      exact⟨by first | rfl | (simp [errW_none,errW_some] <;> rfl) | (simp [*,errW_none,errW_some] <;> rfl),hb_⟩
  ·rw [if_neg c5] at H
   have c5b0:((l1.length:Int)==(ae.length:Int))=false:=beq_eq_false_iff_ne.mpr c5
   have c5b1:((l1.length:Int) !=(ae.length:Int))=true:=bne_iff_ne.mpr c5
   have c5b2:(l1.length==ae.length)=false:=by first | simpa using c5 | (simp at c5 ⊢;omega)
   obtain rfl:=Option.some.inj H
   go_enter Try.func94,Try.ntmps94
   go_wp2_with (first | ((with_reducible refine gate_dst (N:=2) rfl ?_);refine box_event ?hg (N:=2) ?hd (cs:= #[.slice ai ag.length aj, .slice ak ae.length aq]) (t:=30) ?hr ?_;(case hd=>rfl);(case hg=>rfl);(case hr=>first | (go_simp;done) | (go_simp;rfl));intro af hg w14 hbox hb;have aa:=Aside0.mk (hbox);have aG:=Aside0.mk ((by rw [hg];exact bz_:w.heap.size≤af));have aH:=Aside0.mk ((by rw [hg];exact bz_:w.heap.size≤af));replace HB:=Aside0.mk (bs_ hb);clear hb hbox hg;have aY:w14.cell? ⟨af,0,none⟩=some (.slice ai ag.length aj):=(blk_cell aa.out 0).trans rfl;have aZ:w14.cell? ⟨af,1,none⟩=some (.slice ak ae.length aq):=(blk_cell aa.out 1).trans rfl;have a9:=blk_frozen aa.out 0;have ba:=blk_frozen aa.out 1) | ((with_reducible refine gate_callee (f:=118) rfl ?_);refine gL_ 7 Try.func118 #[.agg #[.slice ai ag.length aj, .slice ak ae.length aq]] ?_;(with_reducible refine(spec_l01Is.calls k _ _ ag _ _ ae true _ ?au ?av ?aw ?ax A3.out).mono ?_);(case au=>exact cb_ HR0_0.out HB.out);(case av=>exact HC0_0.out);(case aw=>exact cb_ HR0_1.out HB.out);(case ax=>exact HC0_1.out);rintro e w16 ⟨rfl,hb⟩;refine⟨_,rfl,?_⟩;replace aa:=Aside0.mk (bb_ aa.out hb);replace HB:=Aside0.mk (bs_ hb);(try clear hb);(try clear hb2);(try clear hk);(try clear hi);have bb:w16.cell? ⟨af,0,none⟩=some (.slice ai ag.length aj):=(blk_cell aa.out 0).trans rfl;have bg:w16.cell? ⟨af,1,none⟩=some (.slice ak ae.length aq):=(blk_cell aa.out 1).trans rfl;have bh:=blk_frozen aa.out 0;have bi:=blk_frozen aa.out 1))
   go_ret
   exact⟨by first | rfl | (simp [errW_none,errW_some] <;> rfl) | (simp [*,errW_none,errW_some] <;> rfl),hb_⟩
 ·replace c4:=Bool.eq_false_iff.mpr c4
  subst c4
  have H1:(some 1)=some r:=by rw [if_neg (show ¬ (false=true) by decide)] at H;exact H
  clear H
  have H:=H1
  clear H1
  obtain rfl:=Option.some.inj H
  go_enter Try.func94,Try.ntmps94
  go_wp2_with (first | ((with_reducible refine gate_dst (N:=2) rfl ?_);refine box_event ?hg (N:=2) ?hd (cs:= #[.slice ai ag.length aj, .slice ak ae.length aq]) (t:=30) ?hr ?_;(case hd=>rfl);(case hg=>rfl);(case hr=>first | (go_simp;done) | (go_simp;rfl));intro af hg w18 hbox hb;have aa:=Aside0.mk (hbox);have aG:=Aside0.mk ((by rw [hg];exact bz_:w.heap.size≤af));have aH:=Aside0.mk ((by rw [hg];exact bz_:w.heap.size≤af));replace HB:=Aside0.mk (bs_ hb);clear hb hbox hg;have bk:w18.cell? ⟨af,0,none⟩=some (.slice ai ag.length aj):=(blk_cell aa.out 0).trans rfl;have bn:w18.cell? ⟨af,1,none⟩=some (.slice ak ae.length aq):=(blk_cell aa.out 1).trans rfl;have bq:=blk_frozen aa.out 0;have bu:=blk_frozen aa.out 1) | ((with_reducible refine gate_callee (f:=118) rfl ?_);refine gL_ 7 Try.func118 #[.agg #[.slice ai ag.length aj, .slice ak ae.length aq]] ?_;(with_reducible refine(spec_l01Is.calls k _ _ ag _ _ ae false _ ?au ?av ?aw ?ax A3.out).mono ?_);(case au=>exact cb_ HR0_0.out HB.out);(case av=>exact HC0_0.out);(case aw=>exact cb_ HR0_1.out HB.out);(case ax=>exact HC0_1.out);rintro e w20 ⟨rfl,hb⟩;refine⟨_,rfl,?_⟩;replace aa:=Aside0.mk (bb_ aa.out hb);replace HB:=Aside0.mk (bs_ hb);(try clear hb);(try clear hb2);(try clear hk);(try clear hi)))
  go_ret
  exact⟨by first | rfl | (simp [errW_none,errW_some] <;> rfl) | (simp [*,errW_none,errW_some] <;> rfl),hb_⟩
mutual
def spec_l05Begin.l0:Nat→List Int→Int→Int→List (List Int)→List Int→List (List Int)→Int→List Int→Option ((List (List Int)) × Int × List Int)
 | 0,_,_,_,_,_,_,_,_=>none
 | k+1,x1,x6,x7,ae,aa,af,ah,ag=>if x7 < x6 then(spec_l05Begin.l1 k x1 x6 x7 (([]:List Int)) 0 ae aa af ah ag) else(some (af,ah,ag))
def spec_l05Begin.l1:Nat→List Int→Int→Int→List Int→Int→List (List Int)→List Int→List (List Int)→Int→List Int→Option ((List (List Int)) × Int × List Int)
 | 0,_,_,_,_,_,_,_,_,_,_=>none
 | k+1,x1,x6,x7,x8,x9,ae,aa,af,ah,ag=>if x9 < x6 then(if x9=x7 then(if x8.length < 17592186044416 then(spec_l05Begin.l1 k x1 x6 x7 (x8++ [1]) (wrap64 (x9+1)) ae aa af ah ag) else(none)) else(if x8.length < 17592186044416 then(spec_l05Begin.l1 k x1 x6 x7 (x8++ [0]) (wrap64 (x9+1)) ae aa af ah ag) else(none))) else(spec_l05Begin.l2 k x1 x6 x7 x8 0 ae aa af ah ag)
def spec_l05Begin.l2:Nat→List Int→Int→Int→List Int→Int→List (List Int)→List Int→List (List Int)→Int→List Int→Option ((List (List Int)) × Int × List Int)
 | 0,_,_,_,_,_,_,_,_,_,_=>none
 | k+1,x1,x6,x7,x8,x10,ae,aa,af,ah,ag=>if x10 < x6 then(if 0≤x7 then(if x7 < (ae.length:Int) then(if 0≤x10 then(if x10 < ((rd_L1 ae x7).length:Int) then(if x8.length < 17592186044416 then(spec_l05Begin.l2 k x1 x6 x7 (x8++ [wrap64 (-(rd (rd_L1 ae x7) x10))]) (wrap64 (x10+1)) ae aa af ah ag) else(none)) else(none)) else(none)) else(none)) else(none)) else(if(x1.length:Int) > 0 then(if 0≤x7 then(if x7 < (x1.length:Int) then(if x8.length < 17592186044416 then((some (x8++ [wrap64 (-(rd x1 x7))]:List Int)).bind fun ai=>(if x7 < (aa.length:Int) then(if ai.length < 17592186044416 then(if af.length < 5864062014805 then(if ag.length < 17592186044416 then(spec_l05Begin.l0 k x1 x6 (wrap64 (x7+1)) ae aa (af++ [(ai++ [rd aa x7])]) ah (ag++ [x7])) else(none)) else(none)) else(none)) else(none))) else(none)) else(none)) else(none)) else(if 0≤x7 then(if x7 < (aa.length:Int) then(if x8.length < 17592186044416 then(if af.length < 5864062014805 then(if ag.length < 17592186044416 then(spec_l05Begin.l0 k x1 x6 (wrap64 (x7+1)) ae aa (af++ [(x8++ [rd aa x7])]) ah (ag++ [x7])) else(none)) else(none)) else(none)) else(none)) else(none)))
end
def spec_l05Begin.f (k:Nat) (ae:List (List Int)) (aa:List Int) (l1:List Int):Option ((List (List Int)) × Int × List Int):=spec_l05Begin.l0 k l1 (aa.length:Int) 0 ae aa ([]:List (List Int)) 1 ([]:List Int)
theorem spec_l05Begin.mono_l: ∀k,(∀y0 y1 y2 y3 y4 y5 y6 y7,LeO (spec_l05Begin.l0 k y0 y1 y2 y3 y4 y5 y6 y7) (spec_l05Begin.l0 (k+1) y0 y1 y2 y3 y4 y5 y6 y7))∧(∀y0 y1 y2 y3 y4 y5 y6 y7 y8 y9,LeO (spec_l05Begin.l1 k y0 y1 y2 y3 y4 y5 y6 y7 y8 y9) (spec_l05Begin.l1 (k+1) y0 y1 y2 y3 y4 y5 y6 y7 y8 y9))∧(∀y0 y1 y2 y3 y4 y5 y6 y7 y8 y9,LeO (spec_l05Begin.l2 k y0 y1 y2 y3 y4 y5 y6 y7 y8 y9) (spec_l05Begin.l2 (k+1) y0 y1 y2 y3 y4 y5 y6 y7 y8 y9))
 | 0=>⟨fun _ _ _ _ _ _ _ _ r h=>by simp [spec_l05Begin.l0] at h,fun _ _ _ _ _ _ _ _ _ _ r h=>by simp [spec_l05Begin.l1] at h,fun _ _ _ _ _ _ _ _ _ _ r h=>by simp [spec_l05Begin.l2] at h⟩
 | k+1=>by
  obtain⟨ih0,ih1,ih2⟩:=spec_l05Begin.mono_l k
  refine⟨?_,?_,?_⟩
  ·intro y0 y1 y2 y3 y4 y5 y6 y7
   unfold spec_l05Begin.l0
   repeat' first
   | (with_reducible exact ih0 _ _ _ _ _ _ _ _)
   | (with_reducible exact ih1 _ _ _ _ _ _ _ _ _ _)
   | (with_reducible exact ih2 _ _ _ _ _ _ _ _ _ _)
   | (with_reducible exact LeO.refl _)
   | (with_reducible exact LeO.none _)
   | (with_reducible refine LeO.ite ?_ ?_)
   | (with_reducible refine LeO.bind ?_ (fun _=>?_))
   | exact ih0 _ _ _ _ _ _ _ _
   | exact ih1 _ _ _ _ _ _ _ _ _ _
   | exact ih2 _ _ _ _ _ _ _ _ _ _
   | exact LeO.none _
   | refine LeO.ite ?_ ?_
   | refine LeO.bind ?_ (fun _=>?_)
  ·intro y0 y1 y2 y3 y4 y5 y6 y7 y8 y9
   unfold spec_l05Begin.l1
   repeat' first
   | (with_reducible exact ih0 _ _ _ _ _ _ _ _)
   | (with_reducible exact ih1 _ _ _ _ _ _ _ _ _ _)
   | (with_reducible exact ih2 _ _ _ _ _ _ _ _ _ _)
   | (with_reducible exact LeO.refl _)
   | (with_reducible exact LeO.none _)
   | (with_reducible refine LeO.ite ?_ ?_)
   | (with_reducible refine LeO.bind ?_ (fun _=>?_))
   | exact ih0 _ _ _ _ _ _ _ _
   | exact ih1 _ _ _ _ _ _ _ _ _ _
   | exact ih2 _ _ _ _ _ _ _ _ _ _
   | exact LeO.none _
   | refine LeO.ite ?_ ?_
   | refine LeO.bind ?_ (fun _=>?_)
  ·intro y0 y1 y2 y3 y4 y5 y6 y7 y8 y9
   unfold spec_l05Begin.l2
   repeat' first
   | (with_reducible exact ih0 _ _ _ _ _ _ _ _)
   | (with_reducible exact ih1 _ _ _ _ _ _ _ _ _ _)
   | (with_reducible exact ih2 _ _ _ _ _ _ _ _ _ _)
   | (with_reducible exact LeO.refl _)
   | (with_reducible exact LeO.none _)
   | (with_reducible refine LeO.ite ?_ ?_)
   | (with_reducible refine LeO.bind ?_ (fun _=>?_))
   | exact ih0 _ _ _ _ _ _ _ _
   | exact ih1 _ _ _ _ _ _ _ _ _ _
   | exact ih2 _ _ _ _ _ _ _ _ _ _
   | exact LeO.none _
   | refine LeO.ite ?_ ?_
   | refine LeO.bind ?_ (fun _=>?_)
theorem spec_l05Begin.mono: ∀a0 a1 a2 k,LeO (spec_l05Begin.f k a0 a1 a2) (spec_l05Begin.f (k+1) a0 a1 a2):=by
 intro a0 a1 a2 k
 obtain⟨ih0,ih1,ih2⟩:=spec_l05Begin.mono_l k
 unfold spec_l05Begin.f
 repeat' first
   | (with_reducible exact ih0 _ _ _ _ _ _ _ _)
   | (with_reducible exact ih1 _ _ _ _ _ _ _ _ _ _)
   | (with_reducible exact ih2 _ _ _ _ _ _ _ _ _ _)
   | (with_reducible exact LeO.refl _)
   | (with_reducible exact LeO.none _)
   | (with_reducible refine LeO.ite ?_ ?_)
   | (with_reducible refine LeO.bind ?_ (fun _=>?_))
   | exact ih0 _ _ _ _ _ _ _ _
   | exact ih1 _ _ _ _ _ _ _ _ _ _
   | exact ih2 _ _ _ _ _ _ _ _ _ _
   | exact LeO.none _
   | refine LeO.ite ?_ ?_
   | refine LeO.bind ?_ (fun _=>?_)
def spec_l05Begin.T18:Bool × List (List Nat × List Nat):=(true, [([], []),([0], [0]),([], []),([], []),([3], [3]),([], []),([4,5], [4,5]),([6], [6]),([7], [7]),([2,8], [2,8]),([9], [9]),([1,10,9], [1,10]),([0,1,2,3,4,5,6,7,8,9,10,11], []),([12,11,11,0,1,2,3,4,5,6,7,8,9,10,11], [11,12])])
def spec_l05Begin.B18:List Nat:= [0,1,0,0,8,0,56,120,248,508,1020,2047,4095,8191]
theorem spec_l05Begin.tab18:rtab .any (opsOf Try.f154 18)=spec_l05Begin.T18:=by kernel_rfl
theorem spec_l05Begin.bits18:waitsOk spec_l05Begin.T18.2 spec_l05Begin.B18=true:=by kernel_rfl
theorem spec_l05Begin.calls (k:Nat) (aN:Option Addr) (aT:Nat) (ay:List (List Int)) (a9:Option Addr) (aU:Nat) (ak:List Int) (A1:Option Addr) (c1:Nat) (l1:List Int) (r1:List (List Int)) (r2:Int) (r3:List Int) (w:World) (bO:Kd.C (Kd.slice 2 (Kd.int .i64)) w aN ay.length ay) (bP:ay.length≤aT) (bQ:Kd.C (Kd.int .i64) w a9 ak.length ak) (bS:ak.length≤aU) (hr1:Kd.C (Kd.int .i64) w A1 l1.length l1) (hc1:l1.length≤c1) (h:spec_l05Begin.f k ay ak l1=some (r1,r2,r3)):
  Calls Try.prog 154 #[.agg #[.slice aN ay.length aT, .slice a9 ak.length aU], .slice A1 l1.length c1] w fun e w'=> ∃v0_ v2_:Value,e= .returned (.agg #[v0_, .int .i64 r2,v2_])∧Kd.S (Kd.slice 2 (Kd.int .i64)) 23 w' w.heap.size (fun k_=>some k_≠(v2_:Value).ownBlock) v0_ r1∧Kd.R (Kd.int .i64) 2 w' w.heap.size (fun _=>True) v2_ r3∧Below w.heap.size w w':=by
 have hu30:=Try.underlying30
 have hu100:=Try.underlying100
 have HR0_0:=Aside0.mk bO
 have HC0_0:=Aside0.mk bP
 clear bO bP
 have HR0_1:=Aside0.mk bQ
 have HC0_1:=Aside0.mk bS
 clear bQ bS
 have HR1:=Aside0.mk hr1
 have HC1:=Aside0.mk hc1
 clear hr1 hc1
 have HB:=Aside0.mk (Below.refl w.heap.size w)
 have H:(spec_l05Begin.l0 k l1 (ak.length:Int) 0 ay ak ([]:List (List Int)) 1 ([]:List Int))=some (r1,r2,r3):=h
 clear h
 have H':=Aside0.mk H
 clear H
 go_enter Try.func154,Try.ntmps154
 try go_wp2_with (first | ((with_reducible refine gate_dst (N:=2) rfl ?_);refine box_event ?hg (N:=2) ?hd (cs:= #[.slice aN ay.length aT, .slice a9 ak.length aU]) (t:=30) ?hr ?_;(case hd=>rfl);(case hg=>rfl);(case hr=>first | (go_simp;done) | (go_simp;rfl));intro aH hg w3 hbox hb;have af:=Aside0.mk (hbox);have eJ:=Aside0.mk ((by rw [hg];exact bz_:w.heap.size≤aH));have eK:=Aside0.mk ((by rw [hg];exact bz_:w.heap.size≤aH));replace HB:=Aside0.mk (bs_ hb);clear hb hbox hg) | ((with_reducible refine gate_dst (N:=4) rfl ?_);refine box_event ?hg (N:=4) ?hd (cs:= #[.slice none 0 0, .int .i64 0, .slice none 0 0]) (t:=100) ?hr ?_;(case hd=>rfl);(case hg=>rfl);(case hr=>first | (go_simp;done) | (go_simp;rfl));intro aC hg w4 hbox hb;have aj:=Aside0.mk (hbox);have eL:=Aside0.mk ((by rw [hg];exact bz_:w.heap.size≤aC));have eM:=Aside0.mk ((by rw [hg];exact bz_:w.heap.size≤aC));have bk:=Aside0.mk ((by rw [hg];exact lt_ af.out:aH≠aC));have bn:=Aside0.mk ((by rw [hg];exact gt_ af.out:aC≠aH));replace af:=Aside0.mk (bb_ af.out hb);replace HB:=Aside0.mk (bs_ hb);clear hb hbox hg))
 replace af:=Aside0.mk (blk_drew af.out)
 replace aj:=Aside0.mk (blk_drew aj.out)
 replace HB:=Aside0.mk (below_drew1 HB.out)
 refine st_ (n:=7) (S:=fun w'=>w'.cell? ⟨aH,0,none⟩=some (.slice aN ay.length aT)∧w'.cell? ⟨aH,1,none⟩=some (.slice a9 ak.length aU)) (ds:= []) ⟨(blk_cell af.out 0).trans rfl,(blk_cell af.out 1).trans rfl⟩ (fun hHeld=>?_)
 generalize w4.drew=w5 at af aj HB hHeld ⊢
 refine pu_ 0 11 ?_;refine pu_ 1 12 ?_;refine tk_ 2 13 ?_;refine pu_ 3 14 ?_
 refine on_ 4 (some 5) (fun K hK=>?_)
 refine box_step ?hg (N:=5) ?hd (cs:= #[.slice none 0 0, .int .i64 0, .slice none 0 0]) (t:=100) ?hr ?_;(case hd=>rfl);(case hg=>rfl);(case hr=>first | (go_simp;done) | (go_simp;rfl))
 intro av hg w6 hbox hb
 have aa:=Aside0.mk (hbox)
 have eO:=Aside0.mk ((by rw [hg];exact bz_:w.heap.size≤av))
 have eP:=Aside0.mk ((by rw [hg];exact bz_:w.heap.size≤av))
 have aw:=Aside0.mk ((by rw [hg];exact lt_ af.out:aH≠av))
 have aJ:=Aside0.mk ((by rw [hg];exact gt_ af.out:av≠aH))
 have az:=Aside0.mk ((by rw [hg];exact lt_ aj.out:aC≠av))
 have aK:=Aside0.mk ((by rw [hg];exact gt_ aj.out:av≠aC))
 replace af:=Aside0.mk (bb_ af.out hb)
 replace aj:=Aside0.mk (bb_ aj.out hb)
 replace HB:=Aside0.mk (bs_ hb)
 clear hb hbox hg
 refine hK.out _ _ ⟨(blk_cell af.out 0).trans rfl,(blk_cell af.out 1).trans rfl⟩ (fun hHeld=>?_)
 clear hK K
 refine norm_ (a':=?_) ?_ ?_
 rotate_left
 ·show Act.put _ (some 5) _=_
  simp only [Act.put,List.setIfInBounds_toArray,List.set_cons_zero,List.set_cons_succ,i64_w,i32_w]
  rfl
 refine on_ 5 none (fun K hK=>?_)
 have hs7:w6.cell? ⟨av,0,none⟩=some (.slice none 0 0):=(blk_cell aa.out 0).trans rfl
 have hfs7:=blk_frozen aa.out 0
 have hns7_0:=aw.out
 have hns7_1:=az.out
 have hms7_0:=aJ.out
 have hms7_1:=aK.out
 have hs8:w6.cell? ⟨av,1,none⟩=some (.int .i64 0):=(blk_cell aa.out 1).trans rfl
 have hfs8:=blk_frozen aa.out 1
 have hns8_0:=aw.out
 have hns8_1:=az.out
 have hms8_0:=aJ.out
 have hms8_1:=aK.out
 have hs9:w6.cell? ⟨av,2,none⟩=some (.slice none 0 0):=(blk_cell aa.out 2).trans rfl
 have hfs9:=blk_frozen aa.out 2
 have hns9_0:=aw.out
 have hns9_1:=az.out
 have hms9_0:=aJ.out
 have hms9_1:=aK.out
 refine skip_ (w1:=?_) (by rfl) rfl ?_ ?_
 rotate_left
 ·go_simp
  rfl
 refine hK.out _ _ ⟨((cell_far (p:=⟨av,_,none⟩) aw.out _).trans (((cell_far (p:=⟨av,_,none⟩) aw.out _).trans (((cell_far (p:=⟨av,_,none⟩) aw.out _).trans (hHeld.1)))))),((cell_far (p:=⟨av,_,none⟩) aw.out _).trans (((cell_far (p:=⟨av,_,none⟩) aw.out _).trans (((cell_far (p:=⟨av,_,none⟩) aw.out _).trans (hHeld.2))))))⟩ (fun hHeld=>?_)
 clear hK K
 refine pu_ 6 6 ?_
 refine done_ (by kernel_rfl) ?_
 try go_wp2
 go_loopg [7] k (fun kq v7 w'=> ∃(ah:Int) (au:List (List Int)) (aq:List Int) (ax:Value) (ai:Value),v7= .int .i64 ah∧Aside0 (spec_l05Begin.l0 kq l1 (ak.length:Int) ah ay ak au 1 aq=some (r1,r2,r3))∧Aside0 (kq≤k)∧Aside0 (Kd.S (Kd.slice 2 (Kd.int .i64)) 23 w' w.heap.size (fun k_=>some k_≠(ai:Value).ownBlock) ax au)∧Aside0 (Kd.R (Kd.int .i64) 2 w' w.heap.size (fun _=>True) ai aq)∧Aside0 (w'.heap[aH]?=some (.cells #[(.slice aN ay.length aT),(.slice a9 ak.length aU)] 30 (0,0)))∧Aside0 (w'.heap[aC]?=some (.cells #[(.slice none 0 0), .int .i64 0,(.slice none 0 0)] 100 (0,0)))∧Aside0 (w'.heap[av]?=some (.cells #[ax, .int .i64 1,ai] 100 (0,0)))∧Aside0 (Below w.heap.size w w'))
 case atStart=>exact⟨(0),(([]:List (List Int))),(([]:List Int)),(.slice none 0 0),(.slice none 0 0),rs_,H',⟨Nat.le_refl _⟩,⟨by first | exact Kd.S_nil _ _ _ _ _ | exact Kd.N_nil _ _ _ _ _ | exact Kd.V_nil _ _ _ _ _ | exact Kd.Q_nil _ _ _ _ _ | exact Kd.R_nil _ _ _ _ _⟩,⟨by first | exact Kd.R_nil _ _ _ _ _ | exact Kd.N_nil _ _ _ _ _ | exact Kd.V_nil _ _ _ _ _ | exact Kd.Q_nil _ _ _ _ _ | exact Kd.S_nil _ _ _ _ _⟩,⟨by(with_reducible repeat (first | refine blk_drewN ?_ _ | refine blk_drew ?_ | refine blk_alloc ?_ _));refine blk_far ?_ aw.out _;(with_reducible repeat (first | refine blk_drewN ?_ _ | refine blk_drew ?_ | refine blk_alloc ?_ _));refine blk_far ?_ aw.out _;(with_reducible repeat (first | refine blk_drewN ?_ _ | refine blk_drew ?_ | refine blk_alloc ?_ _));refine blk_far ?_ aw.out _;(with_reducible repeat (first | refine blk_drewN ?_ _ | refine blk_drew ?_ | refine blk_alloc ?_ _));exact af.out⟩,⟨by(with_reducible repeat (first | refine blk_drewN ?_ _ | refine blk_drew ?_ | refine blk_alloc ?_ _));refine blk_far ?_ az.out _;(with_reducible repeat (first | refine blk_drewN ?_ _ | refine blk_drew ?_ | refine blk_alloc ?_ _));refine blk_far ?_ az.out _;(with_reducible repeat (first | refine blk_drewN ?_ _ | refine blk_drew ?_ | refine blk_alloc ?_ _));refine blk_far ?_ az.out _;(with_reducible repeat (first | refine blk_drewN ?_ _ | refine blk_drew ?_ | refine blk_alloc ?_ _));exact aj.out⟩,⟨by(with_reducible repeat (first | refine blk_drewN ?_ _ | refine blk_drew ?_ | refine blk_alloc ?_ _));refine blk_put (cs:= #[.slice none 0 0, .int .i64 1, .slice none 0 0]) ?_ 2 _ rfl;(with_reducible repeat (first | refine blk_drewN ?_ _ | refine blk_drew ?_ | refine blk_alloc ?_ _));refine blk_put (cs:= #[.slice none 0 0, .int .i64 0, .slice none 0 0]) ?_ 1 _ rfl;(with_reducible repeat (first | refine blk_drewN ?_ _ | refine blk_drew ?_ | refine blk_alloc ?_ _));refine blk_put (cs:= #[.slice none 0 0, .int .i64 0, .slice none 0 0]) ?_ 0 _ rfl;(with_reducible repeat (first | refine blk_drewN ?_ _ | refine blk_drew ?_ | refine blk_alloc ?_ _));exact aa.out⟩,⟨hb_⟩⟩
 case round=>
  clear H'
  try clear c1
  try clear p2
  obtain⟨ah,au,aq,ax,ai,rfl,HA,HK1,ag,ae,af,aj,aa,HB⟩:=hrel
  cases gk with
  | zero=>exact absurd HA.out (by simp [spec_l05Begin.l0])
  | succ k1=>
   have H:=HA.out
   clear HA
   simp only [spec_l05Begin.l0] at H
   by_cases c10:ah < (ak.length:Int)
   ·rw [if_pos c10] at H
    have c10b0:decide (ah < (ak.length:Int))=true:=decide_eq_true c10
    clear c10
    obtain⟨bW,hy170⟩: ∃y_:List Int,y_=(([]:List Int)):=⟨_,rfl⟩
    replace H:(spec_l05Begin.l1 k1 l1 (ak.length:Int) ah bW 0 ay ak au 1 aq)=some (r1,r2,r3):=by first | (rw [hy170];with_reducible exact H) | (have H2_:=(Option.bind_some _ _).symm.trans H;rw [hy170];with_reducible exact H2_) | (have H2_:=(Option.bind_some _ _).symm.trans H;with_reducible exact H2_) | with_reducible exact H | (rw [hy170];exact H) | exact H
    have bT:=Aside0.mk hy170
    clear hy170
    have H':=Aside0.mk H
    clear H
    go_wp2_with (first | ((with_reducible refine gate_dst (N:=20) rfl ?_);refine Kd.R_lit (Kd.int .i64) _ 2 ?hg (N:=20) ?hd (xs:=([]:List Int)) (inner:= []) (ok:=fun _=>True) (okp:=fun _=>True) ?hr ?hp (fun _ hk=>hk) trivial (Below.refl _ _) (Nat.le_refl _) (by simp) ?_;(case hd=>rfl);(case hg=>rfl);(case hr=>first | (go_simp;done) | (go_simp;rfl));(case hp=>exact(Reps.none _ _));intro fC w11 ba hb hg_ hnew_;clear hg_ hnew_;(first | rw [← bT.out] at ba | (simp only [Int.reduceToNat] at ba;rw [← bT.out] at ba));replace ag:=Aside0.mk (Kd.S_elder' (so_ ag.out) (Kd.R_base ba) hb);have cB:=Aside0.mk (Kd.R_lower (Kd.R_new' ba (Kd.R_lt (ro_ ae.out))) bz_);replace af:=Aside0.mk (bb_ af.out hb);replace aj:=Aside0.mk (bb_ aj.out hb);replace aa:=Aside0.mk (bb_ aa.out hb);replace ae:=Aside0.mk (Kd.R_elder' (ro_ ae.out) (Kd.R_base ba) hb);replace HB:=Aside0.mk (bs_ hb);clear hb ba))
    go_loopg [8,9] k1 (fun kq v8 v9 w'=> ∃(aX:List Int) (aM:Int),v9= .int .i64 aM∧Aside0 (spec_l05Begin.l1 kq l1 (ak.length:Int) ah aX aM ay ak au 1 aq=some (r1,r2,r3))∧Aside0 (kq≤k1)∧Aside0 (Kd.R (Kd.int .i64) 2 w' w.heap.size (fun k_=>some k_≠(ai:Value).ownBlock) v8 aX)∧Aside0 (Kd.S (Kd.slice 2 (Kd.int .i64)) 23 w' w.heap.size (fun k_=>some k_≠(v8:Value).ownBlock∧some k_≠(ai:Value).ownBlock) ax au)∧Aside0 (Kd.R (Kd.int .i64) 2 w' w.heap.size (fun k_=>some k_≠(v8:Value).ownBlock) ai aq)∧Aside0 (w'.heap[aH]?=some (.cells #[(.slice aN ay.length aT),(.slice a9 ak.length aU)] 30 (0,0)))∧Aside0 (w'.heap[aC]?=some (.cells #[(.slice none 0 0), .int .i64 0,(.slice none 0 0)] 100 (0,0)))∧Aside0 (w'.heap[av]?=some (.cells #[ax, .int .i64 1,ai] 100 (0,0)))∧Aside0 (Below w.heap.size w w'))
    case atStart=>exact⟨(bW),(0),rs_,H',⟨Nat.le_refl _⟩,⟨by(with_reducible repeat (first | apply Kd.R_alloc | apply Kd.R_drewN | apply Kd.R_drew));exact Kd.R_mono cB.out (fun _ hk=>hk.2)⟩,⟨by(with_reducible repeat (first | apply Kd.S_alloc | apply Kd.S_drewN | apply Kd.S_drew));exact Kd.S_mono ag.out (fun _ hk=>⟨hk.2,hk.1⟩)⟩,⟨by(with_reducible repeat (first | apply Kd.R_alloc | apply Kd.R_drewN | apply Kd.R_drew));exact Kd.R_mono ae.out (fun _ hk=>hk.2)⟩,⟨bk_⟩,⟨bk_⟩,⟨bk_⟩,⟨hb_⟩⟩
    case round=>
     clear H'
     try clear c1
     try clear p2
     try clear c10
     try clear c10b0
     try clear p2
     obtain⟨aX,aM,rfl,HA,HK2,aA,ag,ae,af,aj,aa,HB⟩:=hrel
     cases gk with
     | zero=>exact absurd HA.out (by simp [spec_l05Begin.l1])
     | succ k2=>
      have H:=HA.out
      clear HA
      simp only [spec_l05Begin.l1] at H
      by_cases c13:aM < (ak.length:Int)
      ·rw [if_pos c13] at H
       have c13b0:decide (aM < (ak.length:Int))=true:=decide_eq_true c13
       clear c13
       by_cases c14:aM=ah
       ·rw [if_pos c14] at H
        have c14b0:(aM==ah)=true:=beq_iff_eq.mpr c14
        have c14b1:(aM !=ah)=false:=bne_eq_false_iff_eq.mpr c14
        clear c14
        by_cases c15:aX.length < 17592186044416
        ·rw [if_pos c15] at H
         have cC:=Aside0.mk c15
         clear c15
         obtain⟨bX,hy173⟩: ∃y_:List Int,y_=(aX++ [1]):=⟨_,rfl⟩
         replace H:(spec_l05Begin.l1 k2 l1 (ak.length:Int) ah bX (wrap64 (aM+1)) ay ak au 1 aq)=some (r1,r2,r3):=by first | (rw [hy173];with_reducible exact H) | (have H2_:=(Option.bind_some _ _).symm.trans H;rw [hy173];with_reducible exact H2_) | (have H2_:=(Option.bind_some _ _).symm.trans H;with_reducible exact H2_) | with_reducible exact H | (rw [hy173];exact H) | exact H
         have cD:=Aside0.mk hy173
         clear hy173
         have H':=Aside0.mk H
         clear H
         go_wp2_with (first | ((with_reducible refine gate_builtin (b:= .append) (xs:= #[.tmp 29, .tmp 30]) rfl ?_);at_builtin;refine Kd.R_append (Kd.int .i64) (w0:=w) w.heap.size rfl (.tmp 29) (.tmp 30) 23 2 (.int .i64 0) 8 rfl Try.underlying23 info2 rfl (by decide) (by omega) u8 aX 1 [.int .i64 1] (fun k_=>some k_≠(ai:Value).ownBlock) (fun _=>False) rfl rfl ?aP (fun _ hk=>hk.elim) ?aF ?aO ?aB ?aS ?aL ?_;(case aP=>exact rfl);(case aB=>exact hb_);(case aF=>exact(fun k_ hk=>Kd.fresh' (Kd.R_lt (ro_ ae.out)) k_ hk));(case aO=>exact(ro_ aA.out));(case aS=>exact bz_);(case aL=>have:=cC.out;omega);intro fD w16 ho hb hg hat;rw [← cD.out] at ho;replace ag:=Aside0.mk (Kd.S_after (ok:=(fun k_=>some k_≠(ai:Value).ownBlock)) (by(with_reducible repeat (first | apply Kd.S_alloc | apply Kd.S_drewN | apply Kd.S_drew));exact Kd.S_mono ag.out (fun _ hk=>⟨hk.2,hk.1⟩)) hg hat);replace ae:=Aside0.mk (Kd.R_after (ok:=(fun _=>True)) (by(with_reducible repeat (first | apply Kd.R_alloc | apply Kd.R_drewN | apply Kd.R_drew));exact Kd.R_mono ae.out (fun _ hk=>⟨trivial,hk⟩)) hg hat);replace af:=Aside0.mk (bg_ af.out hg (Kd.R_ne aA.out af.out (by decide)));replace aj:=Aside0.mk (bg_ aj.out hg (Kd.R_ne aA.out aj.out (by decide)));replace aa:=Aside0.mk (bg_ aa.out hg (Kd.R_ne aA.out aa.out (by decide)));replace HB:=Aside0.mk (hb);have cE:=Aside0.mk (ho);clear aA ho hb hg hat))
         go_roundg k2
         case measure=>have:=HK1.out;have:=HK2.out;omega
         case rel=>exact⟨(bX),(wrap64 (aM+1)),rs_,H',⟨by have:=HK1.out;have:=HK2.out;omega⟩,⟨ro_ cE.out⟩,⟨by(with_reducible repeat (first | apply Kd.S_alloc | apply Kd.S_drewN | apply Kd.S_drew));exact Kd.S_mono ag.out (fun _ hk=>⟨hk.2,hk.1⟩)⟩,⟨by(with_reducible repeat (first | apply Kd.R_alloc | apply Kd.R_drewN | apply Kd.R_drew));exact Kd.R_mono ae.out (fun _ hk=>hk.2)⟩,⟨bk_⟩,⟨bk_⟩,⟨bk_⟩,⟨hb_⟩⟩
        ·rw [if_neg c15] at H
         exact absurd H (by simp)
       ·rw [if_neg c14] at H
        have c14b0:(aM==ah)=false:=beq_eq_false_iff_ne.mpr c14
        have c14b1:(aM !=ah)=true:=bne_iff_ne.mpr c14
        by_cases c17:aX.length < 17592186044416
        ·rw [if_pos c17] at H
         have cF:=Aside0.mk c17
         clear c17
         obtain⟨bY,hy176⟩: ∃y_:List Int,y_=(aX++ [0]):=⟨_,rfl⟩
         replace H:(spec_l05Begin.l1 k2 l1 (ak.length:Int) ah bY (wrap64 (aM+1)) ay ak au 1 aq)=some (r1,r2,r3):=by first | (rw [hy176];with_reducible exact H) | (have H2_:=(Option.bind_some _ _).symm.trans H;rw [hy176];with_reducible exact H2_) | (have H2_:=(Option.bind_some _ _).symm.trans H;with_reducible exact H2_) | with_reducible exact H | (rw [hy176];exact H) | exact H
         have cG:=Aside0.mk hy176
         clear hy176
         have H':=Aside0.mk H
         clear H
         go_wp2_with (first | ((with_reducible refine gate_builtin (b:= .append) (xs:= #[.tmp 32, .tmp 33]) rfl ?_);at_builtin;refine Kd.R_append (Kd.int .i64) (w0:=w) w.heap.size rfl (.tmp 32) (.tmp 33) 23 2 (.int .i64 0) 8 rfl Try.underlying23 info2 rfl (by decide) (by omega) u8 aX 0 [.int .i64 0] (fun k_=>some k_≠(ai:Value).ownBlock) (fun _=>False) rfl rfl ?aP (fun _ hk=>hk.elim) ?aF ?aO ?aB ?aS ?aL ?_;(case aP=>exact rfl);(case aB=>exact hb_);(case aF=>exact(fun k_ hk=>Kd.fresh' (Kd.R_lt (ro_ ae.out)) k_ hk));(case aO=>exact(ro_ aA.out));(case aS=>exact bz_);(case aL=>have:=cF.out;omega);intro fE w18 ho hb hg hat;rw [← cG.out] at ho;replace ag:=Aside0.mk (Kd.S_after (ok:=(fun k_=>some k_≠(ai:Value).ownBlock)) (by(with_reducible repeat (first | apply Kd.S_alloc | apply Kd.S_drewN | apply Kd.S_drew));exact Kd.S_mono ag.out (fun _ hk=>⟨hk.2,hk.1⟩)) hg hat);replace ae:=Aside0.mk (Kd.R_after (ok:=(fun _=>True)) (by(with_reducible repeat (first | apply Kd.R_alloc | apply Kd.R_drewN | apply Kd.R_drew));exact Kd.R_mono ae.out (fun _ hk=>⟨trivial,hk⟩)) hg hat);replace af:=Aside0.mk (bg_ af.out hg (Kd.R_ne aA.out af.out (by decide)));replace aj:=Aside0.mk (bg_ aj.out hg (Kd.R_ne aA.out aj.out (by decide)));replace aa:=Aside0.mk (bg_ aa.out hg (Kd.R_ne aA.out aa.out (by decide)));replace HB:=Aside0.mk (hb);have cH:=Aside0.mk (ho);clear aA ho hb hg hat))
         go_roundg k2
         case measure=>have:=HK1.out;have:=HK2.out;omega
         case rel=>exact⟨(bY),(wrap64 (aM+1)),rs_,H',⟨by have:=HK1.out;have:=HK2.out;omega⟩,⟨ro_ cH.out⟩,⟨by(with_reducible repeat (first | apply Kd.S_alloc | apply Kd.S_drewN | apply Kd.S_drew));exact Kd.S_mono ag.out (fun _ hk=>⟨hk.2,hk.1⟩)⟩,⟨by(with_reducible repeat (first | apply Kd.R_alloc | apply Kd.R_drewN | apply Kd.R_drew));exact Kd.R_mono ae.out (fun _ hk=>hk.2)⟩,⟨bk_⟩,⟨bk_⟩,⟨bk_⟩,⟨hb_⟩⟩
        ·rw [if_neg c17] at H
         exact absurd H (by simp)
      ·rw [if_neg c13] at H
       have c13b0:decide (aM < (ak.length:Int))=false:=decide_eq_false c13
       clear c13
       have H':=Aside0.mk H
       clear H
       go_wp2
       go_loopg [8,10] k2 (fun kq v8 v10 w'=> ∃(aV:List Int) (aI:Int),v10= .int .i64 aI∧Aside0 (spec_l05Begin.l2 kq l1 (ak.length:Int) ah aV aI ay ak au 1 aq=some (r1,r2,r3))∧Aside0 (kq≤k2)∧Aside0 (Kd.R (Kd.int .i64) 2 w' w.heap.size (fun k_=>some k_≠(ai:Value).ownBlock) v8 aV)∧Aside0 (Kd.S (Kd.slice 2 (Kd.int .i64)) 23 w' w.heap.size (fun k_=>some k_≠(v8:Value).ownBlock∧some k_≠(ai:Value).ownBlock) ax au)∧Aside0 (Kd.R (Kd.int .i64) 2 w' w.heap.size (fun k_=>some k_≠(v8:Value).ownBlock) ai aq)∧Aside0 (w'.heap[aH]?=some (.cells #[(.slice aN ay.length aT),(.slice a9 ak.length aU)] 30 (0,0)))∧Aside0 (w'.heap[aC]?=some (.cells #[(.slice none 0 0), .int .i64 0,(.slice none 0 0)] 100 (0,0)))∧Aside0 (w'.heap[av]?=some (.cells #[ax, .int .i64 1,ai] 100 (0,0)))∧Aside0 (Below w.heap.size w w'))
       case atStart=>exact⟨(aX),(0),rs_,H',⟨Nat.le_refl _⟩,⟨ro_ aA.out⟩,⟨so_ ag.out⟩,⟨ro_ ae.out⟩,⟨bk_⟩,⟨bk_⟩,⟨bk_⟩,⟨hb_⟩⟩
       case round=>
        clear H'
        try clear c1
        try clear p2
        try clear p6
        try clear c10
        try clear c10b0
        try clear c13
        try clear c13b0
        try clear c14
        try clear c14b0
        try clear c14b1
        try clear c15
        try clear c17
        try clear p2
        obtain⟨aV,aI,rfl,HA,HK3,aA,ag,ae,af,aj,aa,HB⟩:=hrel
        cases gk with
        | zero=>exact absurd HA.out (by simp [spec_l05Begin.l2])
        | succ k3=>
         have H:=HA.out
         clear HA
         simp only [spec_l05Begin.l2] at H
         by_cases c19:aI < (ak.length:Int)
         ·rw [if_pos c19] at H
          have c19b0:decide (aI < (ak.length:Int))=true:=decide_eq_true c19
          clear c19
          by_cases c20:0≤ah
          ·rw [if_pos c20] at H
           have c20b0:decide (0≤ah)=true:=decide_eq_true c20
           clear c20
           by_cases c21:ah < (ay.length:Int)
           ·rw [if_pos c21] at H
            have c21b0:decide (ah < (ay.length:Int))=true:=decide_eq_true c21
            clear c21
            by_cases c22:0≤aI
            ·rw [if_pos c22] at H
             have c22b0:decide (0≤aI)=true:=decide_eq_true c22
             clear c22
             by_cases c23:aI < ((rd_L1 ay ah).length:Int)
             ·rw [if_pos c23] at H
              have c23b0:decide (aI < ((rd_L1 ay ah).length:Int))=true:=decide_eq_true c23
              clear c23
              by_cases c24:aV.length < 17592186044416
              ·rw [if_pos c24] at H
               have cI:=Aside0.mk c24
               clear c24
               obtain⟨bZ,hy181⟩: ∃y_:List Int,y_=(aV++ [wrap64 (-(rd (rd_L1 ay ah) aI))]):=⟨_,rfl⟩
               replace H:(spec_l05Begin.l2 k3 l1 (ak.length:Int) ah bZ (wrap64 (aI+1)) ay ak au 1 aq)=some (r1,r2,r3):=by first | (rw [hy181];with_reducible exact H) | (have H2_:=(Option.bind_some _ _).symm.trans H;rw [hy181];with_reducible exact H2_) | (have H2_:=(Option.bind_some _ _).symm.trans H;with_reducible exact H2_) | with_reducible exact H | (rw [hy181];exact H) | exact H
               have cJ:=Aside0.mk hy181
               clear hy181
               have H':=Aside0.mk H
               clear H
               have eQ:=bk.out
               have eS:=bn.out
               have eT:=aw.out
               have eU:=aJ.out
               have dq:wr.cell? ⟨aH,0,none⟩=some (.slice aN ay.length aT):=(blk_cell af.out 0).trans rfl
               have dr:wr.cell? ⟨aH,1,none⟩=some (.slice a9 ak.length aU):=(blk_cell af.out 1).trans rfl
               have du:=blk_frozen af.out 0
               have dw:=blk_frozen af.out 1
               have p179:0≤(ah:Int):=od_
               have q179:ah < (ay.length:Int):=od_
               obtain⟨eV,eH,eI,e179,hx179_0,hl179_0,hi179_0⟩:=at_L1 HR0_0.out ah p179 q179
               cases e179
               replace hx179_0:=(HB.out.cell (World.block_lt_of_cell? w _ hx179_0)).trans hx179_0
               have HR179_0:=Aside0.mk hi179_0
               have HC179_0:=Aside0.mk hl179_0
               clear hi179_0 hl179_0
               replace p179:=eq_true p179
               replace q179:=eq_true q179
               have p180:0≤(aI:Int):=od_
               have q180:aI < ((rd_L1 ay ah).length:Int):=od_
               obtain⟨eW,e180,hx180_0⟩:=Kd.at_int HR179_0.out aI p180 q180
               cases e180
               replace hx180_0:=(HB.out.cell (World.block_lt_of_cell? w _ hx180_0)).trans hx180_0
               replace p180:=eq_true p180
               replace q180:=eq_true q180
               go_wp2_with (first | ((with_reducible refine gate_builtin (b:= .append) (xs:= #[.tmp 40, .tmp 50]) rfl ?_);at_builtin;refine Kd.R_append (Kd.int .i64) (w0:=w) w.heap.size rfl (.tmp 40) (.tmp 50) 23 2 (.int .i64 0) 8 rfl Try.underlying23 info2 rfl (by decide) (by omega) u8 aV (wrap64 (-(rd (rd_L1 ay ah) aI))) [.int .i64 (wrap64 (-(rd (rd_L1 ay ah) aI)))] (fun k_=>some k_≠(ai:Value).ownBlock) (fun _=>False) rfl rfl ?aP (fun _ hk=>hk.elim) ?aF ?aO ?aB ?aS ?aL ?_;(case aP=>exact rfl);(case aB=>exact hb_);(case aF=>exact(fun k_ hk=>Kd.fresh' (Kd.R_lt (ro_ ae.out)) k_ hk));(case aO=>exact(ro_ aA.out));(case aS=>exact bz_);(case aL=>have:=cI.out;omega);intro fF w28 ho hb hg hat;rw [← cJ.out] at ho;replace ag:=Aside0.mk (Kd.S_after (ok:=(fun k_=>some k_≠(ai:Value).ownBlock)) (by(with_reducible repeat (first | apply Kd.S_alloc | apply Kd.S_drewN | apply Kd.S_drew));exact Kd.S_mono ag.out (fun _ hk=>⟨hk.2,hk.1⟩)) hg hat);replace ae:=Aside0.mk (Kd.R_after (ok:=(fun _=>True)) (by(with_reducible repeat (first | apply Kd.R_alloc | apply Kd.R_drewN | apply Kd.R_drew));exact Kd.R_mono ae.out (fun _ hk=>⟨trivial,hk⟩)) hg hat);replace af:=Aside0.mk (bg_ af.out hg (Kd.R_ne aA.out af.out (by decide)));replace aj:=Aside0.mk (bg_ aj.out hg (Kd.R_ne aA.out aj.out (by decide)));replace aa:=Aside0.mk (bg_ aa.out hg (Kd.R_ne aA.out aa.out (by decide)));replace HB:=Aside0.mk (hb);have cK:=Aside0.mk (ho);clear aA ho hb hg hat))
               go_roundg k3
               case measure=>have:=HK1.out;have:=HK2.out;have:=HK3.out;omega
               case rel=>exact⟨(bZ),(wrap64 (aI+1)),rs_,H',⟨by have:=HK1.out;have:=HK2.out;have:=HK3.out;omega⟩,⟨ro_ cK.out⟩,⟨by(with_reducible repeat (first | apply Kd.S_alloc | apply Kd.S_drewN | apply Kd.S_drew));exact Kd.S_mono ag.out (fun _ hk=>⟨hk.2,hk.1⟩)⟩,⟨by(with_reducible repeat (first | apply Kd.R_alloc | apply Kd.R_drewN | apply Kd.R_drew));exact Kd.R_mono ae.out (fun _ hk=>hk.2)⟩,⟨bk_⟩,⟨bk_⟩,⟨bk_⟩,⟨hb_⟩⟩
              ·rw [if_neg c24] at H
               exact absurd H (by simp)
             ·rw [if_neg c23] at H
              exact absurd H (by simp)
            ·rw [if_neg c22] at H
             exact absurd H (by simp)
           ·rw [if_neg c21] at H
            exact absurd H (by simp)
          ·rw [if_neg c20] at H
           exact absurd H (by simp)
         ·rw [if_neg c19] at H
          have c19b0:decide (aI < (ak.length:Int))=false:=decide_eq_false c19
          clear c19
          by_cases c29:(l1.length:Int) > 0
          ·rw [if_pos c29] at H
           have c29b0:decide (0 < (l1.length:Int))=true:=decide_eq_true c29
           have c29b1:decide (0 < l1.length)=true:=decide_eq_true (by omega)
           clear c29
           by_cases c30:0≤ah
           ·rw [if_pos c30] at H
            have c30b0:decide (0≤ah)=true:=decide_eq_true c30
            clear c30
            by_cases c31:ah < (l1.length:Int)
            ·rw [if_pos c31] at H
             have c31b0:decide (ah < (l1.length:Int))=true:=decide_eq_true c31
             clear c31
             by_cases c32:aV.length < 17592186044416
             ·rw [if_pos c32] at H
              have cL:=Aside0.mk c32
              clear c32
              obtain⟨bz,hy185⟩: ∃y_:List Int,y_=(aV++ [wrap64 (-(rd l1 ah))]):=⟨_,rfl⟩
              replace H:(if ah < (ak.length:Int) then(if bz.length < 17592186044416 then(if au.length < 5864062014805 then(if aq.length < 17592186044416 then(spec_l05Begin.l0 k3 l1 (ak.length:Int) (wrap64 (ah+1)) ay ak (au++ [(bz++ [rd ak ah])]) 1 (aq++ [ah])) else(none)) else(none)) else(none)) else(none))=some (r1,r2,r3):=by first | (rw [hy185];with_reducible exact H) | (have H2_:=(Option.bind_some _ _).symm.trans H;rw [hy185];with_reducible exact H2_) | (have H2_:=(Option.bind_some _ _).symm.trans H;with_reducible exact H2_) | with_reducible exact H | (rw [hy185];exact H) | exact H
              have cN:=Aside0.mk hy185
              clear hy185
              by_cases c33:ah < (ak.length:Int)
              ·rw [if_pos c33] at H
               have c33b0:decide (ah < (ak.length:Int))=true:=decide_eq_true c33
               clear c33
               by_cases c34:bz.length < 17592186044416
               ·rw [if_pos c34] at H
                have cO:=Aside0.mk c34
                clear c34
                obtain⟨bA,hy189⟩: ∃y_:List Int,y_=(bz++ [rd ak ah]):=⟨_,rfl⟩
                replace H:(if au.length < 5864062014805 then(if aq.length < 17592186044416 then(spec_l05Begin.l0 k3 l1 (ak.length:Int) (wrap64 (ah+1)) ay ak (au++ [bA]) 1 (aq++ [ah])) else(none)) else(none))=some (r1,r2,r3):=by first | (rw [hy189];with_reducible exact H) | (have H2_:=(Option.bind_some _ _).symm.trans H;rw [hy189];with_reducible exact H2_) | (have H2_:=(Option.bind_some _ _).symm.trans H;with_reducible exact H2_) | with_reducible exact H | (rw [hy189];exact H) | exact H
                have cP:=Aside0.mk hy189
                clear hy189
                by_cases c35:au.length < 5864062014805
                ·rw [if_pos c35] at H
                 have cQ:=Aside0.mk c35
                 clear c35
                 obtain⟨aY,hy192⟩: ∃y_:List (List Int),y_=(au++ [bA]):=⟨_,rfl⟩
                 replace H:(if aq.length < 17592186044416 then(spec_l05Begin.l0 k3 l1 (ak.length:Int) (wrap64 (ah+1)) ay ak aY 1 (aq++ [ah])) else(none))=some (r1,r2,r3):=by first | (rw [hy192];with_reducible exact H) | (have H2_:=(Option.bind_some _ _).symm.trans H;rw [hy192];with_reducible exact H2_) | (have H2_:=(Option.bind_some _ _).symm.trans H;with_reducible exact H2_) | with_reducible exact H | (rw [hy192];exact H) | exact H
                 have cS:=Aside0.mk hy192
                 clear hy192
                 by_cases c36:aq.length < 17592186044416
                 ·rw [if_pos c36] at H
                  have cT:=Aside0.mk c36
                  clear c36
                  obtain⟨bB,hy195⟩: ∃y_:List Int,y_=(aq++ [ah]):=⟨_,rfl⟩
                  replace H:(spec_l05Begin.l0 k3 l1 (ak.length:Int) (wrap64 (ah+1)) ay ak aY 1 bB)=some (r1,r2,r3):=by first | (rw [hy195];with_reducible exact H) | (have H2_:=(Option.bind_some _ _).symm.trans H;rw [hy195];with_reducible exact H2_) | (have H2_:=(Option.bind_some _ _).symm.trans H;with_reducible exact H2_) | with_reducible exact H | (rw [hy195];exact H) | exact H
                  have cU:=Aside0.mk hy195
                  clear hy195
                  have H':=Aside0.mk H
                  clear H
                  have p184:0≤(ah:Int):=od_
                  have q184:ah < (l1.length:Int):=od_
                  obtain⟨eX,e184,hx184_0⟩:=Kd.at_int HR1.out ah p184 q184
                  cases e184
                  replace hx184_0:=(HB.out.cell (World.block_lt_of_cell? w _ hx184_0)).trans hx184_0
                  replace p184:=eq_true p184
                  replace q184:=eq_true q184
                  try go_wp2_with (first | ((with_reducible refine gate_builtin (b:= .append) (xs:= #[.tmp 55, .tmp 61]) rfl ?_);at_builtin;refine Kd.R_append (Kd.int .i64) (w0:=w) w.heap.size rfl (.tmp 55) (.tmp 61) 23 2 (.int .i64 0) 8 rfl Try.underlying23 info2 rfl (by decide) (by omega) u8 aV (wrap64 (-(rd l1 ah))) [.int .i64 (wrap64 (-(rd l1 ah)))] (fun k_=>some k_≠(ai:Value).ownBlock) (fun _=>False) rfl rfl ?aP (fun _ hk=>hk.elim) ?aF ?aO ?aB ?aS ?aL ?_;(case aP=>exact rfl);(case aB=>exact hb_);(case aF=>exact(fun k_ hk=>Kd.fresh' (Kd.R_lt (ro_ ae.out)) k_ hk));(case aO=>exact(ro_ aA.out));(case aS=>exact bz_);(case aL=>have:=cL.out;omega);intro df w37 ho hb hg hat;rw [← cN.out] at ho;replace ag:=Aside0.mk (Kd.S_after (ok:=(fun k_=>some k_≠(ai:Value).ownBlock)) (by(with_reducible repeat (first | apply Kd.S_alloc | apply Kd.S_drewN | apply Kd.S_drew));exact Kd.S_mono ag.out (fun _ hk=>⟨hk.2,hk.1⟩)) hg hat);replace ae:=Aside0.mk (Kd.R_after (ok:=(fun _=>True)) (by(with_reducible repeat (first | apply Kd.R_alloc | apply Kd.R_drewN | apply Kd.R_drew));exact Kd.R_mono ae.out (fun _ hk=>⟨trivial,hk⟩)) hg hat);replace af:=Aside0.mk (bg_ af.out hg (Kd.R_ne aA.out af.out (by decide)));replace aj:=Aside0.mk (bg_ aj.out hg (Kd.R_ne aA.out aj.out (by decide)));replace aa:=Aside0.mk (bg_ aa.out hg (Kd.R_ne aA.out aa.out (by decide)));replace HB:=Aside0.mk (hb);have aW:=Aside0.mk (ho);clear aA ho hb hg hat))
                  replace ag:=Aside0.mk (Kd.S_drew ag.out)
                  replace ae:=Aside0.mk (Kd.R_drew ae.out)
                  replace aW:=Aside0.mk (Kd.R_drew aW.out)
                  replace af:=Aside0.mk (blk_drew af.out)
                  replace aj:=Aside0.mk (blk_drew aj.out)
                  replace aa:=Aside0.mk (blk_drew aa.out)
                  replace HB:=Aside0.mk (below_drew1 HB.out)
                  have p188:0≤(ah:Int):=od_
                  have q188:ah < (ak.length:Int):=od_
                  obtain⟨bG,e188,hx188_0⟩:=Kd.at_int HR0_1.out ah p188 q188
                  have aD:=hx188_0
                  cases e188
                  replace hx188_0:=(HB.out.cell (World.block_lt_of_cell? w _ hx188_0)).trans hx188_0
                  replace p188:=eq_true p188
                  replace q188:=eq_true q188
                  refine st_ (n:=14) (S:=fun w'=>w'.cell? ⟨av,0,none⟩=some (ax)∧w'.cell? ⟨av,1,none⟩=some (.int .i64 1)∧w'.cell? ⟨av,2,none⟩=some (ai)∧w'.cell? ⟨aH,0,none⟩=some (.slice aN ay.length aT)∧w'.cell? ⟨aH,1,none⟩=some (.slice (some bG) ak.length aU)∧w'.cell? (bG.add (ah).toNat)=some (.int .i64 (rd ak ah))) (ds:= [13]) ⟨(blk_cell aa.out 0).trans rfl,(blk_cell aa.out 1).trans rfl,(blk_cell aa.out 2).trans rfl,(blk_cell af.out 0).trans rfl,(blk_cell af.out 1).trans rfl,((HB.out.cell (World.block_lt_of_cell? w _ aD)).trans aD)⟩ (fun hHeld=>?_);refine with_tabW spec_l05Begin.tab18 spec_l05Begin.bits18 (fun HT_ HW_=>?_)
                  generalize w37.drew=w38 at ag ae aW af aj aa HB hx188_0 hHeld ⊢
                  refine pu_ 0 63 ?_;refine pu_ 2 65 ?_;refine pu_ 3 66 ?_;refine pu_ 5 68 ?_;refine tk_ 1 64 ?_;refine tk_ 4 67 ?_;refine pu_ 6 69 ?_;refine tk_ 7 70 ?_
                  refine on_ 8 (some 71) (fun K hK=>?_)
                  refine value_ (w1:=?_) (v:=?_) (by rfl) rfl ?_ ?_
                  rotate_left 2
                  ·go_simp
                   constructor
                   ·rfl
                   ·rfl
                  refine hK.out _ _ ⟨(blk_cell (blk_alloc aa.out _) 0).trans rfl,(blk_cell (blk_alloc aa.out _) 1).trans rfl,(blk_cell (blk_alloc aa.out _) 2).trans rfl,(blk_cell (blk_alloc af.out _) 0).trans rfl,(blk_cell (blk_alloc af.out _) 1).trans rfl,(World.cell?_alloc_lt _ _ _ (World.block_lt_of_cell? _ _ (((HB.out.cell (World.block_lt_of_cell? w _ aD)).trans aD)))).trans (((HB.out.cell (World.block_lt_of_cell? w _ aD)).trans aD))⟩ (fun hHeld=>?_)
                  clear hK K
                  refine norm_ (a':=?_) ?_ ?_
                  rotate_left
                  ·show Act.put _ (some 71) _=_
                   simp only [Act.put,List.setIfInBounds_toArray,List.set_cons_zero,List.set_cons_succ,i64_w,i32_w]
                   rfl
                  refine on_ 9 (some 72) (fun K hK=>?_)
                  refine Kd.R_append_step (Kd.int .i64) (w0:=w) w.heap.size (by rfl) (.tmp 65) (.tmp 71) 23 2 (.int .i64 0) 8 rfl Try.underlying23 info2 rfl (by decide) (by omega) df bz (rd ak ah) [.int .i64 (rd ak ah)] (fun k_=>some k_≠(ai:Value).ownBlock) (fun _=>False) rfl rfl ?aP (fun _ hk=>hk.elim) ?aF ?aO ?aB ?aS ?aL ?_
                  (case aP=>exact rfl)
                  (case aB=>exact hb_)
                  (case aF=>exact(fun k_ hk=>Kd.fresh' (Kd.R_lt (ro_ ae.out)) k_ hk))
                  (case aO=>exact(ro_ aW.out))
                  (case aS=>exact bz_)
                  (case aL=>have:=cO.out;omega)
                  intro fG w39 ho hb hg hat
                  rw [← cP.out] at ho
                  replace ag:=Aside0.mk (Kd.S_after (ok:=(fun k_=>some k_≠(ai:Value).ownBlock)) (so_ ag.out) hg hat)
                  replace ae:=Aside0.mk (Kd.R_after (ok:=(fun _=>True)) (ro_ ae.out) hg hat)
                  replace af:=Aside0.mk (bg_ af.out hg (Kd.R_ne aW.out af.out (by decide)))
                  replace aj:=Aside0.mk (bg_ aj.out hg (Kd.R_ne aW.out aj.out (by decide)))
                  replace aa:=Aside0.mk (bg_ aa.out hg (Kd.R_ne aW.out aa.out (by decide)))
                  replace HB:=Aside0.mk (hb)
                  have bq:=Aside0.mk (ho)
                  clear aW ho hb hg hat
                  obtain⟨ck,cm,cn⟩:=Kd.R_slice bq.out
                  (first | subst cn | (injection cn with f1_ f2_ f3_;have f4_:=f1_.symm;have f5_:=f3_.symm;clear f1_ f2_ f3_;subst f4_;subst f5_))
                  refine hK.out _ _ ⟨(blk_cell aa.out 0).trans rfl,(blk_cell aa.out 1).trans rfl,(blk_cell aa.out 2).trans rfl,(blk_cell af.out 0).trans rfl,(blk_cell af.out 1).trans rfl,((HB.out.cell (World.block_lt_of_cell? w _ aD)).trans aD)⟩ (fun hHeld=>?_)
                  clear hK K
                  refine norm_ (a':=?_) ?_ ?_
                  rotate_left
                  ·show Act.put _ (some 72) _=_
                   simp only [Act.put,List.setIfInBounds_toArray,List.set_cons_zero,List.set_cons_succ,i64_w,i32_w]
                   rfl
                  refine on_ 10 (some 73) (fun K hK=>?_)
                  refine value_ (w1:=?_) (v:=?_) (by rfl) rfl ?_ ?_
                  rotate_left 2
                  ·go_simp
                   constructor
                   ·rfl
                   ·rfl
                  refine hK.out _ _ ⟨(blk_cell (blk_alloc aa.out _) 0).trans rfl,(blk_cell (blk_alloc aa.out _) 1).trans rfl,(blk_cell (blk_alloc aa.out _) 2).trans rfl,(blk_cell (blk_alloc af.out _) 0).trans rfl,(blk_cell (blk_alloc af.out _) 1).trans rfl,(World.cell?_alloc_lt _ _ _ (World.block_lt_of_cell? _ _ (((HB.out.cell (World.block_lt_of_cell? w _ aD)).trans aD)))).trans (((HB.out.cell (World.block_lt_of_cell? w _ aD)).trans aD))⟩ (fun hHeld=>?_)
                  clear hK K
                  refine norm_ (a':=?_) ?_ ?_
                  rotate_left
                  ·show Act.put _ (some 73) _=_
                   simp only [Act.put,List.setIfInBounds_toArray,List.set_cons_zero,List.set_cons_succ,i64_w,i32_w]
                   rfl
                  refine on_ 11 (some 74) (fun K hK=>?_)
                  refine Kd.S_append_step (Kd.slice 2 (Kd.int .i64)) (w0:=w) w.heap.size (by rfl) (.tmp 64) (.tmp 73) 22 23 (.slice none 0 0) 24 rfl Try.underlying22 info23 rfl (by decide) (by omega) ax au bA [.slice ck bA.length cm] (fun k_=>some k_≠(ai:Value).ownBlock) (fun k_=>some k_=(.slice ck bA.length cm:Value).ownBlock) rfl rfl ?aP (fun k_ hk_=>((Kd.R_mono (ok':=fun k_=>((fun k_=>some k_≠(ai:Value).ownBlock)) k_∧some k_≠(ax:Value).ownBlock) (Kd.R_apart' (bq.out) (Kd.S_typed ag.out) (by decide)) (fun k_ hk=>⟨hk.1,hk.2⟩))).1 k_ hk_.symm) ?aF ?aO ?aB ?aS ?aL ?_
                  (case aP=>exact Kd.M_row (Kd.R_mono (Kd.R_tight rfl (Kd.R_mono (ok':=fun k_=>((fun k_=>some k_≠(ai:Value).ownBlock)) k_∧some k_≠(ax:Value).ownBlock) (Kd.R_apart' (bq.out) (Kd.S_typed ag.out) (by decide)) (fun k_ hk=>⟨hk.1,hk.2⟩))) (fun _ h_=>h_)))
                  (case aB=>exact hb_)
                  (case aF=>exact(fun k_ hk=>Kd.fresh' (Kd.R_lt (ro_ ae.out)) k_ hk))
                  (case aO=>exact(by(with_reducible repeat (first | apply Kd.S_alloc | apply Kd.S_drewN | apply Kd.S_drew));exact Kd.S_mono ag.out (fun k_ hk=>⟨hk.1,fun e_=>hk.2 e_⟩)))
                  (case aS=>exact bz_)
                  (case aL=>have:=cQ.out;omega)
                  intro fH w40 ho hb hg hat
                  rw [← cS.out] at ho
                  replace ae:=Aside0.mk (Kd.R_over' (ro_ ae.out) (Kd.S_typed (so_ ag.out)) (by decide) hg)
                  replace af:=Aside0.mk (bg_ af.out hg (Kd.S_ne ag.out af.out (by decide)))
                  replace aj:=Aside0.mk (bg_ aj.out hg (Kd.S_ne ag.out aj.out (by decide)))
                  replace aa:=Aside0.mk (bg_ aa.out hg (Kd.S_ne ag.out aa.out (by decide)))
                  replace HB:=Aside0.mk (hb)
                  have bu:=Aside0.mk (ho)
                  clear ag bq ho hb hg hat
                  obtain⟨bb,bg,co⟩:=Kd.S_slice bu.out
                  (first | subst co | (injection co with f1_ f2_ f3_;have f4_:=f1_.symm;have f5_:=f3_.symm;clear f1_ f2_ f3_;subst f4_;subst f5_))
                  refine hK.out _ _ ⟨(blk_cell aa.out 0).trans rfl,(blk_cell aa.out 1).trans rfl,(blk_cell aa.out 2).trans rfl,(blk_cell af.out 0).trans rfl,(blk_cell af.out 1).trans rfl,((HB.out.cell (World.block_lt_of_cell? w _ aD)).trans aD)⟩ (fun hHeld=>?_)
                  clear hK K
                  refine norm_ (a':=?_) ?_ ?_
                  rotate_left
                  ·show Act.put _ (some 74) _=_
                   simp only [Act.put,List.setIfInBounds_toArray,List.set_cons_zero,List.set_cons_succ,i64_w,i32_w]
                   rfl
                  refine pu_ 12 75 ?_
                  refine la_ 13 none (fun K hK=>?_)
                  have hs43:w40.cell? ⟨av,0,none⟩=some (ax):=(blk_cell aa.out 0).trans rfl
                  have hfs43:=blk_frozen aa.out 0
                  have hns43_0:=aw.out
                  have hns43_1:=az.out
                  have hms43_0:=aJ.out
                  have hms43_1:=aK.out
                  refine skip_ (w1:=?_) (by rfl) rfl ?_ ?_
                  rotate_left
                  ·go_simp
                   rfl
                  refine hK.out _ _ ?_
                  clear hK K
                  refine done_ (done_of HT_.out (by kernel_rfl)) ?_
                  have eY:=aJ.out
                  have eZ:=aw.out
                  have fc:=aK.out
                  have fe:=az.out
                  have dx:w40.cell? ⟨av,0,none⟩=some (ax):=(blk_cell aa.out 0).trans rfl
                  have dz:w40.cell? ⟨av,1,none⟩=some (.int .i64 1):=(blk_cell aa.out 1).trans rfl
                  have dA:w40.cell? ⟨av,2,none⟩=some (ai):=(blk_cell aa.out 2).trans rfl
                  have dB:=blk_frozen aa.out 0
                  have dC:=blk_frozen aa.out 1
                  have dD:=blk_frozen aa.out 2
                  try go_wp2_with (first | ((with_reducible refine gate_builtin (b:= .append) (xs:= #[.tmp 77, .tmp 79]) rfl ?_);at_builtin;refine Kd.R_append (Kd.int .i64) (w0:=w) w.heap.size rfl (.tmp 77) (.tmp 79) 23 2 (.int .i64 0) 8 rfl Try.underlying23 info2 rfl (by decide) (by omega) ai aq ah [.int .i64 ah] (fun _=>True) (fun _=>False) rfl (by first | (go_simp;done) | (go_simp;rfl)) ?aP (fun _ hk=>hk.elim) ?aF ?aO ?aB ?aS ?aL ?_;(case aP=>exact rfl);(case aB=>exact hb_);(case aF=>exact(fun _ _=>trivial));(case aO=>exact(by(with_reducible repeat (first | apply Kd.R_alloc | apply Kd.R_drewN | apply Kd.R_drew));exact Kd.R_mono (Kd.R_far (p:=⟨av,0,none⟩) (Kd.R_types ae.out aa.out (by decide)) (fun _ hk=>hk.2) (.slice bb aY.length bg)) (fun _ hk=>trivial)));(case aS=>exact bz_);(case aL=>have:=cT.out;omega);intro fI w47 ho hb hg hat;rw [← cU.out] at ho;replace af:=Aside0.mk (blk_grown (g:=aH) (o:= .cells #[.slice aN ay.length aT, .slice (some bG) ak.length aU] 30 (0,0)) (by(with_reducible repeat (first | refine blk_drewN ?_ _ | refine blk_drew ?_ | refine blk_alloc ?_ _));refine blk_far ?_ aw.out _;(with_reducible repeat (first | refine blk_drewN ?_ _ | refine blk_drew ?_ | refine blk_alloc ?_ _));exact af.out) hg (Kd.R_ne ae.out af.out (by decide)));replace aj:=Aside0.mk (blk_grown (g:=aC) (o:= .cells #[.slice none 0 0, .int .i64 0, .slice none 0 0] 100 (0,0)) (by(with_reducible repeat (first | refine blk_drewN ?_ _ | refine blk_drew ?_ | refine blk_alloc ?_ _));refine blk_far ?_ az.out _;(with_reducible repeat (first | refine blk_drewN ?_ _ | refine blk_drew ?_ | refine blk_alloc ?_ _));exact aj.out) hg (Kd.R_ne ae.out aj.out (by decide)));replace bu:=Aside0.mk (Kd.S_after (ok:=(fun _=>True)) (by(with_reducible repeat (first | apply Kd.S_alloc | apply Kd.S_drewN | apply Kd.S_drew));exact Kd.S_mono (Kd.S_far (p:=⟨av,0,none⟩) (Kd.S_types bu.out aa.out (by decide)) (fun _ hk=>hk.2) (.slice bb aY.length bg)) (fun _ hk=>⟨trivial,hk.1⟩)) hg hat);replace HB:=Aside0.mk (hb);have bU:=Aside0.mk (ho);replace aa:=Aside0.mk (blk_grown (g:=av) (o:= .cells #[.slice bb aY.length bg, .int .i64 1,ai] 100 (0,0)) (by(with_reducible repeat (first | refine blk_drewN ?_ _ | refine blk_drew ?_ | refine blk_alloc ?_ _));refine blk_put (cs:= #[ax, .int .i64 1,ai]) ?_ 0 _ rfl;(with_reducible repeat (first | refine blk_drewN ?_ _ | refine blk_drew ?_ | refine blk_alloc ?_ _));exact aa.out) hg (Kd.R_ne ae.out aa.out (by decide)));clear ae ho hb hg hat;obtain⟨bI,bJ,dh⟩:=Kd.R_slice bU.out;subst dh;have dE:w47.cell? ⟨av,0,none⟩=some (.slice bb aY.length bg):=(blk_cell aa.out 0).trans rfl;have dF:w47.cell? ⟨av,1,none⟩=some (.int .i64 1):=(blk_cell aa.out 1).trans rfl;have dG:w47.cell? ⟨av,2,none⟩=some (ai):=(blk_cell aa.out 2).trans rfl;have dH:=blk_frozen aa.out 0;have dI:=blk_frozen aa.out 1;have dJ:=blk_frozen aa.out 2))
                  go_roundg k3
                  case measure=>have:=HK1.out;have:=HK2.out;have:=HK3.out;omega
                  case rel=>exact⟨(wrap64 (ah+1)),(aY),(bB),(.slice bb aY.length bg),(.slice bI bB.length bJ),rs_,H',⟨by have:=HK1.out;have:=HK2.out;have:=HK3.out;omega⟩,⟨by(with_reducible repeat (first | apply Kd.S_alloc | apply Kd.S_drewN | apply Kd.S_drew));exact Kd.S_mono (Kd.S_far (p:=⟨av,2,none⟩) (Kd.S_types bu.out aa.out (by decide)) (fun _ hk=>hk.2) (.slice bI bB.length bJ)) (fun _ hk=>hk.1.2)⟩,⟨by(with_reducible repeat (first | apply Kd.R_alloc | apply Kd.R_drewN | apply Kd.R_drew));exact Kd.R_mono (Kd.R_far (p:=⟨av,2,none⟩) (Kd.R_types bU.out aa.out (by decide)) (fun _ hk=>hk.2) (.slice bI bB.length bJ)) (fun _ hk=>trivial)⟩,⟨by(with_reducible repeat (first | refine blk_drewN ?_ _ | refine blk_drew ?_ | refine blk_alloc ?_ _));refine blk_far ?_ aw.out _;(with_reducible repeat (first | refine blk_drewN ?_ _ | refine blk_drew ?_ | refine blk_alloc ?_ _));exact af.out⟩,⟨by(with_reducible repeat (first | refine blk_drewN ?_ _ | refine blk_drew ?_ | refine blk_alloc ?_ _));refine blk_far ?_ az.out _;(with_reducible repeat (first | refine blk_drewN ?_ _ | refine blk_drew ?_ | refine blk_alloc ?_ _));exact aj.out⟩,⟨by(with_reducible repeat (first | refine blk_drewN ?_ _ | refine blk_drew ?_ | refine blk_alloc ?_ _));refine blk_put (cs:= #[.slice bb aY.length bg, .int .i64 1,ai]) ?_ 2 _ rfl;(with_reducible repeat (first | refine blk_drewN ?_ _ | refine blk_drew ?_ | refine blk_alloc ?_ _));exact aa.out⟩,⟨hb_⟩⟩
                 ·rw [if_neg c36] at H
                  exact absurd H (by simp)
                ·rw [if_neg c35] at H
                 exact absurd H (by simp)
               ·rw [if_neg c34] at H
                exact absurd H (by simp)
              ·rw [if_neg c33] at H
               exact absurd H (by simp)
             ·rw [if_neg c32] at H
              exact absurd H (by simp)
            ·rw [if_neg c31] at H
             exact absurd H (by simp)
           ·rw [if_neg c30] at H
            exact absurd H (by simp)
          ·rw [if_neg c29] at H
           have c29b0:decide (0 < (l1.length:Int))=false:=decide_eq_false c29
           have c29b1:decide (0 < l1.length)=false:=decide_eq_false (by omega)
           clear c29
           by_cases c50:0≤ah
           ·rw [if_pos c50] at H
            have c50b0:decide (0≤ah)=true:=decide_eq_true c50
            clear c50
            by_cases c51:ah < (ak.length:Int)
            ·rw [if_pos c51] at H
             have c51b0:decide (ah < (ak.length:Int))=true:=decide_eq_true c51
             clear c51
             by_cases c52:aV.length < 17592186044416
             ·rw [if_pos c52] at H
              have cV:=Aside0.mk c52
              clear c52
              obtain⟨bC,hy199⟩: ∃y_:List Int,y_=(aV++ [rd ak ah]):=⟨_,rfl⟩
              replace H:(if au.length < 5864062014805 then(if aq.length < 17592186044416 then(spec_l05Begin.l0 k3 l1 (ak.length:Int) (wrap64 (ah+1)) ay ak (au++ [bC]) 1 (aq++ [ah])) else(none)) else(none))=some (r1,r2,r3):=by first | (rw [hy199];with_reducible exact H) | (have H2_:=(Option.bind_some _ _).symm.trans H;rw [hy199];with_reducible exact H2_) | (have H2_:=(Option.bind_some _ _).symm.trans H;with_reducible exact H2_) | with_reducible exact H | (rw [hy199];exact H) | exact H
              have cW:=Aside0.mk hy199
              clear hy199
              by_cases c53:au.length < 5864062014805
              ·rw [if_pos c53] at H
               have cZ:=Aside0.mk c53
               clear c53
               obtain⟨aZ,hy202⟩: ∃y_:List (List Int),y_=(au++ [bC]):=⟨_,rfl⟩
               replace H:(if aq.length < 17592186044416 then(spec_l05Begin.l0 k3 l1 (ak.length:Int) (wrap64 (ah+1)) ay ak aZ 1 (aq++ [ah])) else(none))=some (r1,r2,r3):=by first | (rw [hy202];with_reducible exact H) | (have H2_:=(Option.bind_some _ _).symm.trans H;rw [hy202];with_reducible exact H2_) | (have H2_:=(Option.bind_some _ _).symm.trans H;with_reducible exact H2_) | with_reducible exact H | (rw [hy202];exact H) | exact H
               have da:=Aside0.mk hy202
               clear hy202
               by_cases c54:aq.length < 17592186044416
               ·rw [if_pos c54] at H
                have db:=Aside0.mk c54
                clear c54
                obtain⟨bD,hy205⟩: ∃y_:List Int,y_=(aq++ [ah]):=⟨_,rfl⟩
                replace H:(spec_l05Begin.l0 k3 l1 (ak.length:Int) (wrap64 (ah+1)) ay ak aZ 1 bD)=some (r1,r2,r3):=by first | (rw [hy205];with_reducible exact H) | (have H2_:=(Option.bind_some _ _).symm.trans H;rw [hy205];with_reducible exact H2_) | (have H2_:=(Option.bind_some _ _).symm.trans H;with_reducible exact H2_) | with_reducible exact H | (rw [hy205];exact H) | exact H
                have dc:=Aside0.mk hy205
                clear hy205
                have H':=Aside0.mk H
                clear H
                try go_wp2
                replace aA:=Aside0.mk (Kd.R_drew aA.out)
                replace ag:=Aside0.mk (Kd.S_drew ag.out)
                replace ae:=Aside0.mk (Kd.R_drew ae.out)
                replace af:=Aside0.mk (blk_drew af.out)
                replace aj:=Aside0.mk (blk_drew aj.out)
                replace aa:=Aside0.mk (blk_drew aa.out)
                replace HB:=Aside0.mk (below_drew1 HB.out)
                have p198:0≤(ah:Int):=od_
                have q198:ah < (ak.length:Int):=od_
                obtain⟨bH,e198,hx198_0⟩:=Kd.at_int HR0_1.out ah p198 q198
                have aG:=hx198_0
                cases e198
                replace hx198_0:=(HB.out.cell (World.block_lt_of_cell? w _ hx198_0)).trans hx198_0
                replace p198:=eq_true p198
                replace q198:=eq_true q198
                refine st_ (n:=14) (S:=fun w'=>w'.cell? ⟨av,0,none⟩=some (ax)∧w'.cell? ⟨av,1,none⟩=some (.int .i64 1)∧w'.cell? ⟨av,2,none⟩=some (ai)∧w'.cell? ⟨aH,0,none⟩=some (.slice aN ay.length aT)∧w'.cell? ⟨aH,1,none⟩=some (.slice (some bH) ak.length aU)∧w'.cell? (bH.add (ah).toNat)=some (.int .i64 (rd ak ah))) (ds:= [13]) ⟨(blk_cell aa.out 0).trans rfl,(blk_cell aa.out 1).trans rfl,(blk_cell aa.out 2).trans rfl,(blk_cell af.out 0).trans rfl,(blk_cell af.out 1).trans rfl,((HB.out.cell (World.block_lt_of_cell? w _ aG)).trans aG)⟩ (fun hHeld=>?_);refine with_tabW spec_l05Begin.tab18 spec_l05Begin.bits18 (fun HT_ HW_=>?_)
                generalize wr.drew=w55 at aA ag ae af aj aa HB hx198_0 hHeld ⊢
                refine pu_ 0 63 ?_;refine pu_ 2 65 ?_;refine pu_ 3 66 ?_;refine pu_ 5 68 ?_;refine tk_ 1 64 ?_;refine tk_ 4 67 ?_;refine pu_ 6 69 ?_;refine tk_ 7 70 ?_
                refine on_ 8 (some 71) (fun K hK=>?_)
                refine value_ (w1:=?_) (v:=?_) (by rfl) rfl ?_ ?_
                rotate_left 2
                ·go_simp
                 constructor
                 ·rfl
                 ·rfl
                refine hK.out _ _ ⟨(blk_cell (blk_alloc aa.out _) 0).trans rfl,(blk_cell (blk_alloc aa.out _) 1).trans rfl,(blk_cell (blk_alloc aa.out _) 2).trans rfl,(blk_cell (blk_alloc af.out _) 0).trans rfl,(blk_cell (blk_alloc af.out _) 1).trans rfl,(World.cell?_alloc_lt _ _ _ (World.block_lt_of_cell? _ _ (((HB.out.cell (World.block_lt_of_cell? w _ aG)).trans aG)))).trans (((HB.out.cell (World.block_lt_of_cell? w _ aG)).trans aG))⟩ (fun hHeld=>?_)
                clear hK K
                refine norm_ (a':=?_) ?_ ?_
                rotate_left
                ·show Act.put _ (some 71) _=_
                 simp only [Act.put,List.setIfInBounds_toArray,List.set_cons_zero,List.set_cons_succ,i64_w,i32_w]
                 rfl
                refine on_ 9 (some 72) (fun K hK=>?_)
                refine Kd.R_append_step (Kd.int .i64) (w0:=w) w.heap.size (by rfl) (.tmp 65) (.tmp 71) 23 2 (.int .i64 0) 8 rfl Try.underlying23 info2 rfl (by decide) (by omega) u8 aV (rd ak ah) [.int .i64 (rd ak ah)] (fun k_=>some k_≠(ai:Value).ownBlock) (fun _=>False) rfl rfl ?aP (fun _ hk=>hk.elim) ?aF ?aO ?aB ?aS ?aL ?_
                (case aP=>exact rfl)
                (case aB=>exact hb_)
                (case aF=>exact(fun k_ hk=>Kd.fresh' (Kd.R_lt (ro_ ae.out)) k_ hk))
                (case aO=>exact(ro_ aA.out))
                (case aS=>exact bz_)
                (case aL=>have:=cV.out;omega)
                intro fJ w56 ho hb hg hat
                rw [← cW.out] at ho
                replace ag:=Aside0.mk (Kd.S_after (ok:=(fun k_=>some k_≠(ai:Value).ownBlock)) (by(with_reducible repeat (first | apply Kd.S_alloc | apply Kd.S_drewN | apply Kd.S_drew));exact Kd.S_mono ag.out (fun _ hk=>⟨hk.2,hk.1⟩)) hg hat)
                replace ae:=Aside0.mk (Kd.R_after (ok:=(fun _=>True)) (by(with_reducible repeat (first | apply Kd.R_alloc | apply Kd.R_drewN | apply Kd.R_drew));exact Kd.R_mono ae.out (fun _ hk=>⟨trivial,hk⟩)) hg hat)
                replace af:=Aside0.mk (bg_ af.out hg (Kd.R_ne aA.out af.out (by decide)))
                replace aj:=Aside0.mk (bg_ aj.out hg (Kd.R_ne aA.out aj.out (by decide)))
                replace aa:=Aside0.mk (bg_ aa.out hg (Kd.R_ne aA.out aa.out (by decide)))
                replace HB:=Aside0.mk (hb)
                have bv:=Aside0.mk (ho)
                clear aA ho hb hg hat
                obtain⟨cq,ct,cz⟩:=Kd.R_slice bv.out
                (first | subst cz | (injection cz with f1_ f2_ f3_;have f4_:=f1_.symm;have f5_:=f3_.symm;clear f1_ f2_ f3_;subst f4_;subst f5_))
                refine hK.out _ _ ⟨(blk_cell aa.out 0).trans rfl,(blk_cell aa.out 1).trans rfl,(blk_cell aa.out 2).trans rfl,(blk_cell af.out 0).trans rfl,(blk_cell af.out 1).trans rfl,((HB.out.cell (World.block_lt_of_cell? w _ aG)).trans aG)⟩ (fun hHeld=>?_)
                clear hK K
                refine norm_ (a':=?_) ?_ ?_
                rotate_left
                ·show Act.put _ (some 72) _=_
                 simp only [Act.put,List.setIfInBounds_toArray,List.set_cons_zero,List.set_cons_succ,i64_w,i32_w]
                 rfl
                refine on_ 10 (some 73) (fun K hK=>?_)
                refine value_ (w1:=?_) (v:=?_) (by rfl) rfl ?_ ?_
                rotate_left 2
                ·go_simp
                 constructor
                 ·rfl
                 ·rfl
                refine hK.out _ _ ⟨(blk_cell (blk_alloc aa.out _) 0).trans rfl,(blk_cell (blk_alloc aa.out _) 1).trans rfl,(blk_cell (blk_alloc aa.out _) 2).trans rfl,(blk_cell (blk_alloc af.out _) 0).trans rfl,(blk_cell (blk_alloc af.out _) 1).trans rfl,(World.cell?_alloc_lt _ _ _ (World.block_lt_of_cell? _ _ (((HB.out.cell (World.block_lt_of_cell? w _ aG)).trans aG)))).trans (((HB.out.cell (World.block_lt_of_cell? w _ aG)).trans aG))⟩ (fun hHeld=>?_)
                clear hK K
                refine norm_ (a':=?_) ?_ ?_
                rotate_left
                ·show Act.put _ (some 73) _=_
                 simp only [Act.put,List.setIfInBounds_toArray,List.set_cons_zero,List.set_cons_succ,i64_w,i32_w]
                 rfl
                refine on_ 11 (some 74) (fun K hK=>?_)
                refine Kd.S_append_step (Kd.slice 2 (Kd.int .i64)) (w0:=w) w.heap.size (by rfl) (.tmp 64) (.tmp 73) 22 23 (.slice none 0 0) 24 rfl Try.underlying22 info23 rfl (by decide) (by omega) ax au bC [.slice cq bC.length ct] (fun k_=>some k_≠(ai:Value).ownBlock) (fun k_=>some k_=(.slice cq bC.length ct:Value).ownBlock) rfl rfl ?aP (fun k_ hk_=>((Kd.R_mono (ok':=fun k_=>((fun k_=>some k_≠(ai:Value).ownBlock)) k_∧some k_≠(ax:Value).ownBlock) (Kd.R_apart' (bv.out) (Kd.S_typed ag.out) (by decide)) (fun k_ hk=>⟨hk.1,hk.2⟩))).1 k_ hk_.symm) ?aF ?aO ?aB ?aS ?aL ?_
                (case aP=>exact Kd.M_row (Kd.R_mono (Kd.R_tight rfl (Kd.R_mono (ok':=fun k_=>((fun k_=>some k_≠(ai:Value).ownBlock)) k_∧some k_≠(ax:Value).ownBlock) (Kd.R_apart' (bv.out) (Kd.S_typed ag.out) (by decide)) (fun k_ hk=>⟨hk.1,hk.2⟩))) (fun _ h_=>h_)))
                (case aB=>exact hb_)
                (case aF=>exact(fun k_ hk=>Kd.fresh' (Kd.R_lt (ro_ ae.out)) k_ hk))
                (case aO=>exact(by(with_reducible repeat (first | apply Kd.S_alloc | apply Kd.S_drewN | apply Kd.S_drew));exact Kd.S_mono ag.out (fun k_ hk=>⟨hk.1,fun e_=>hk.2 e_⟩)))
                (case aS=>exact bz_)
                (case aL=>have:=cZ.out;omega)
                intro fK w57 ho hb hg hat
                rw [← da.out] at ho
                replace ae:=Aside0.mk (Kd.R_over' (ro_ ae.out) (Kd.S_typed (so_ ag.out)) (by decide) hg)
                replace af:=Aside0.mk (bg_ af.out hg (Kd.S_ne ag.out af.out (by decide)))
                replace aj:=Aside0.mk (bg_ aj.out hg (Kd.S_ne ag.out aj.out (by decide)))
                replace aa:=Aside0.mk (bg_ aa.out hg (Kd.S_ne ag.out aa.out (by decide)))
                replace HB:=Aside0.mk (hb)
                have bw:=Aside0.mk (ho)
                clear ag bv ho hb hg hat
                obtain⟨bh,bi,cA⟩:=Kd.S_slice bw.out
                (first | subst cA | (injection cA with f1_ f2_ f3_;have f4_:=f1_.symm;have f5_:=f3_.symm;clear f1_ f2_ f3_;subst f4_;subst f5_))
                refine hK.out _ _ ⟨(blk_cell aa.out 0).trans rfl,(blk_cell aa.out 1).trans rfl,(blk_cell aa.out 2).trans rfl,(blk_cell af.out 0).trans rfl,(blk_cell af.out 1).trans rfl,((HB.out.cell (World.block_lt_of_cell? w _ aG)).trans aG)⟩ (fun hHeld=>?_)
                clear hK K
                refine norm_ (a':=?_) ?_ ?_
                rotate_left
                ·show Act.put _ (some 74) _=_
                 simp only [Act.put,List.setIfInBounds_toArray,List.set_cons_zero,List.set_cons_succ,i64_w,i32_w]
                 rfl
                refine pu_ 12 75 ?_
                refine la_ 13 none (fun K hK=>?_)
                have hs60:w57.cell? ⟨av,0,none⟩=some (ax):=(blk_cell aa.out 0).trans rfl
                have hfs60:=blk_frozen aa.out 0
                have hns60_0:=aw.out
                have hns60_1:=az.out
                have hms60_0:=aJ.out
                have hms60_1:=aK.out
                refine skip_ (w1:=?_) (by rfl) rfl ?_ ?_
                rotate_left
                ·go_simp
                 rfl
                refine hK.out _ _ ?_
                clear hK K
                refine done_ (done_of HT_.out (by kernel_rfl)) ?_
                have fg:=aJ.out
                have fj:=aw.out
                have fk:=aK.out
                have fo:=az.out
                have dK:w57.cell? ⟨av,0,none⟩=some (ax):=(blk_cell aa.out 0).trans rfl
                have dL:w57.cell? ⟨av,1,none⟩=some (.int .i64 1):=(blk_cell aa.out 1).trans rfl
                have dM:w57.cell? ⟨av,2,none⟩=some (ai):=(blk_cell aa.out 2).trans rfl
                have dN:=blk_frozen aa.out 0
                have dO:=blk_frozen aa.out 1
                have dP:=blk_frozen aa.out 2
                try go_wp2_with (first | ((with_reducible refine gate_builtin (b:= .append) (xs:= #[.tmp 77, .tmp 79]) rfl ?_);at_builtin;refine Kd.R_append (Kd.int .i64) (w0:=w) w.heap.size rfl (.tmp 77) (.tmp 79) 23 2 (.int .i64 0) 8 rfl Try.underlying23 info2 rfl (by decide) (by omega) ai aq ah [.int .i64 ah] (fun _=>True) (fun _=>False) rfl (by first | (go_simp;done) | (go_simp;rfl)) ?aP (fun _ hk=>hk.elim) ?aF ?aO ?aB ?aS ?aL ?_;(case aP=>exact rfl);(case aB=>exact hb_);(case aF=>exact(fun _ _=>trivial));(case aO=>exact(by(with_reducible repeat (first | apply Kd.R_alloc | apply Kd.R_drewN | apply Kd.R_drew));exact Kd.R_mono (Kd.R_far (p:=⟨av,0,none⟩) (Kd.R_types ae.out aa.out (by decide)) (fun _ hk=>hk.2) (.slice bh aZ.length bi)) (fun _ hk=>trivial)));(case aS=>exact bz_);(case aL=>have:=db.out;omega);intro fL w64 ho hb hg hat;rw [← dc.out] at ho;replace af:=Aside0.mk (blk_grown (g:=aH) (o:= .cells #[.slice aN ay.length aT, .slice (some bH) ak.length aU] 30 (0,0)) (by(with_reducible repeat (first | refine blk_drewN ?_ _ | refine blk_drew ?_ | refine blk_alloc ?_ _));refine blk_far ?_ aw.out _;(with_reducible repeat (first | refine blk_drewN ?_ _ | refine blk_drew ?_ | refine blk_alloc ?_ _));exact af.out) hg (Kd.R_ne ae.out af.out (by decide)));replace aj:=Aside0.mk (blk_grown (g:=aC) (o:= .cells #[.slice none 0 0, .int .i64 0, .slice none 0 0] 100 (0,0)) (by(with_reducible repeat (first | refine blk_drewN ?_ _ | refine blk_drew ?_ | refine blk_alloc ?_ _));refine blk_far ?_ az.out _;(with_reducible repeat (first | refine blk_drewN ?_ _ | refine blk_drew ?_ | refine blk_alloc ?_ _));exact aj.out) hg (Kd.R_ne ae.out aj.out (by decide)));replace bw:=Aside0.mk (Kd.S_after (ok:=(fun _=>True)) (by(with_reducible repeat (first | apply Kd.S_alloc | apply Kd.S_drewN | apply Kd.S_drew));exact Kd.S_mono (Kd.S_far (p:=⟨av,0,none⟩) (Kd.S_types bw.out aa.out (by decide)) (fun _ hk=>hk.2) (.slice bh aZ.length bi)) (fun _ hk=>⟨trivial,hk.1⟩)) hg hat);replace HB:=Aside0.mk (hb);have bV:=Aside0.mk (ho);replace aa:=Aside0.mk (blk_grown (g:=av) (o:= .cells #[.slice bh aZ.length bi, .int .i64 1,ai] 100 (0,0)) (by(with_reducible repeat (first | refine blk_drewN ?_ _ | refine blk_drew ?_ | refine blk_alloc ?_ _));refine blk_put (cs:= #[ax, .int .i64 1,ai]) ?_ 0 _ rfl;(with_reducible repeat (first | refine blk_drewN ?_ _ | refine blk_drew ?_ | refine blk_alloc ?_ _));exact aa.out) hg (Kd.R_ne ae.out aa.out (by decide)));clear ae ho hb hg hat;obtain⟨bK,bL,di⟩:=Kd.R_slice bV.out;subst di;have dQ:w64.cell? ⟨av,0,none⟩=some (.slice bh aZ.length bi):=(blk_cell aa.out 0).trans rfl;have dR:w64.cell? ⟨av,1,none⟩=some (.int .i64 1):=(blk_cell aa.out 1).trans rfl;have dS:w64.cell? ⟨av,2,none⟩=some (ai):=(blk_cell aa.out 2).trans rfl;have dU:=blk_frozen aa.out 0;have dV:=blk_frozen aa.out 1;have dW:=blk_frozen aa.out 2))
                go_roundg k3
                case measure=>have:=HK1.out;have:=HK2.out;have:=HK3.out;omega
                case rel=>exact⟨(wrap64 (ah+1)),(aZ),(bD),(.slice bh aZ.length bi),(.slice bK bD.length bL),rs_,H',⟨by have:=HK1.out;have:=HK2.out;have:=HK3.out;omega⟩,⟨by(with_reducible repeat (first | apply Kd.S_alloc | apply Kd.S_drewN | apply Kd.S_drew));exact Kd.S_mono (Kd.S_far (p:=⟨av,2,none⟩) (Kd.S_types bw.out aa.out (by decide)) (fun _ hk=>hk.2) (.slice bK bD.length bL)) (fun _ hk=>hk.1.2)⟩,⟨by(with_reducible repeat (first | apply Kd.R_alloc | apply Kd.R_drewN | apply Kd.R_drew));exact Kd.R_mono (Kd.R_far (p:=⟨av,2,none⟩) (Kd.R_types bV.out aa.out (by decide)) (fun _ hk=>hk.2) (.slice bK bD.length bL)) (fun _ hk=>trivial)⟩,⟨by(with_reducible repeat (first | refine blk_drewN ?_ _ | refine blk_drew ?_ | refine blk_alloc ?_ _));refine blk_far ?_ aw.out _;(with_reducible repeat (first | refine blk_drewN ?_ _ | refine blk_drew ?_ | refine blk_alloc ?_ _));exact af.out⟩,⟨by(with_reducible repeat (first | refine blk_drewN ?_ _ | refine blk_drew ?_ | refine blk_alloc ?_ _));refine blk_far ?_ az.out _;(with_reducible repeat (first | refine blk_drewN ?_ _ | refine blk_drew ?_ | refine blk_alloc ?_ _));exact aj.out⟩,⟨by(with_reducible repeat (first | refine blk_drewN ?_ _ | refine blk_drew ?_ | refine blk_alloc ?_ _));refine blk_put (cs:= #[.slice bh aZ.length bi, .int .i64 1,ai]) ?_ 2 _ rfl;(with_reducible repeat (first | refine blk_drewN ?_ _ | refine blk_drew ?_ | refine blk_alloc ?_ _));exact aa.out⟩,⟨hb_⟩⟩
               ·rw [if_neg c54] at H
                exact absurd H (by simp)
              ·rw [if_neg c53] at H
               exact absurd H (by simp)
             ·rw [if_neg c52] at H
              exact absurd H (by simp)
            ·rw [if_neg c51] at H
             exact absurd H (by simp)
           ·rw [if_neg c50] at H
            exact absurd H (by simp)
   ·rw [if_neg c10] at H
    have c10b0:decide (ah < (ak.length:Int))=false:=decide_eq_false c10
    clear c10
    simp only [Option.some.injEq,Prod.mk.injEq] at H
    obtain⟨rfl,rfl,rfl⟩:=H
    have fp:=aJ.out
    have fq:=aw.out
    have fu:=aK.out
    have fw:=az.out
    have dX:wr.cell? ⟨av,0,none⟩=some (ax):=(blk_cell aa.out 0).trans rfl
    have dY:wr.cell? ⟨av,1,none⟩=some (.int .i64 1):=(blk_cell aa.out 1).trans rfl
    have dZ:wr.cell? ⟨av,2,none⟩=some (ai):=(blk_cell aa.out 2).trans rfl
    have d9:=blk_frozen aa.out 0
    have ep:=blk_frozen aa.out 1
    have eu:=blk_frozen aa.out 2
    obtain⟨bE,bF,dl⟩:=Kd.S_slice ag.out
    subst dl
    have fA:=bn.out
    have fB:=bk.out
    have ez:wr.cell? ⟨aC,0,none⟩=some (.slice none 0 0):=(blk_cell aj.out 0).trans rfl
    have eB:wr.cell? ⟨aC,1,none⟩=some (.int .i64 0):=(blk_cell aj.out 1).trans rfl
    have eC:wr.cell? ⟨aC,2,none⟩=some (.slice none 0 0):=(blk_cell aj.out 2).trans rfl
    have eD:=blk_frozen aj.out 0
    have eF:=blk_frozen aj.out 1
    have eG:=blk_frozen aj.out 2
    obtain⟨bM,bN,dm⟩:=Kd.R_slice ae.out
    subst dm
    go_wp2
    refine bodyPost_ret (results_cell_row rfl _ _ aC 100 #[.slice bE au.length bF, .int .i64 1, .slice bM aq.length bN] (0,0) _ rfl (by(with_reducible repeat (first | refine blk_drewN ?_ _ | refine blk_drew ?_ | refine blk_alloc ?_ _));refine blk_put (cs:= #[.slice bE au.length bF, .int .i64 1, .slice none 0 0]) ?_ 2 _ rfl;(with_reducible repeat (first | refine blk_drewN ?_ _ | refine blk_drew ?_ | refine blk_alloc ?_ _));refine blk_put (cs:= #[.slice bE au.length bF, .int .i64 0, .slice none 0 0]) ?_ 1 _ rfl;(with_reducible repeat (first | refine blk_drewN ?_ _ | refine blk_drew ?_ | refine blk_alloc ?_ _));refine blk_put (cs:= #[.slice none 0 0, .int .i64 0, .slice none 0 0]) ?_ 0 _ rfl;(with_reducible repeat (first | refine blk_drewN ?_ _ | refine blk_drew ?_ | refine blk_alloc ?_ _));exact aj.out) Try.underlying100 rfl (by kernel_rfl)) rfl ?_
    exact⟨_,_,by first | rfl | (simp [errW_none,errW_some] <;> rfl) | (simp [*,errW_none,errW_some] <;> rfl),by(with_reducible repeat (first | apply Kd.S_alloc | apply Kd.S_drewN | apply Kd.S_drew));exact Kd.S_mono (Kd.S_far (p:=⟨aC,2,none⟩) (Kd.S_far (p:=⟨aC,1,none⟩) (Kd.S_far (p:=⟨aC,0,none⟩) (Kd.S_types ag.out aj.out (by decide)) (fun _ hk=>hk.2) (.slice bE au.length bF)) (fun _ hk=>hk.2) (.int .i64 1)) (fun _ hk=>hk.2) (.slice bM aq.length bN)) (fun _ hk=>hk.1),by(with_reducible repeat (first | apply Kd.R_alloc | apply Kd.R_drewN | apply Kd.R_drew));exact Kd.R_mono (Kd.R_far (p:=⟨aC,2,none⟩) (Kd.R_far (p:=⟨aC,1,none⟩) (Kd.R_far (p:=⟨aC,0,none⟩) (Kd.R_types ae.out aj.out (by decide)) (fun _ hk=>hk.2) (.slice bE au.length bF)) (fun _ hk=>hk.2) (.int .i64 1)) (fun _ hk=>hk.2) (.slice bM aq.length bN)) (fun _ hk=>trivial),hb_⟩
def spec_l05Key.l0:Nat→Int→Int→Int→Int→Int→Int→Int→Int→List (List Int)→Int→List Int→Option (Bool)
 | 0,_,_,_,_,_,_,_,_,_,_,_=>none
 | k+1,x1,x2,x3,x4,x11,x13,x14,x15,aa,ae,af=>if x15 < x11 then(if x13=x14 then(if 0≤x1 then(if x1 < (aa.length:Int) then(if 0≤x15 then(if x15 < ((rd_L1 aa x1).length:Int) then(if 0≤x2 then(if x2 < (aa.length:Int) then(if x15 < ((rd_L1 aa x2).length:Int) then(spec_l05Key.l0 k x1 x2 x3 x4 x11 (wrap64 ((rd (rd_L1 aa x1) x15)*x4)) (wrap64 ((rd (rd_L1 aa x2) x15)*x3)) (wrap64 (x15+1)) aa ae af) else(none)) else(none)) else(none)) else(none)) else(none)) else(none)) else(none)) else(some (decide (x13 < x14)))) else(some (decide (x13 < x14)))
def spec_l05Key.f (k:Nat) (aa:List (List Int)) (a0_1:Int) (ae:List Int) (a1:Int) (a2:Int) (a3:Int) (a4:Int):Option (Bool):=if 0≤a1 then(if a1 < (aa.length:Int) then(if 0≤(wrap64 (((rd_L1 aa a1).length:Int) - 1)) then(if(wrap64 (((rd_L1 aa a1).length:Int) - 1)) < ((rd_L1 aa a1).length:Int) then(if 0≤a2 then(if a2 < (aa.length:Int) then(if(wrap64 (((rd_L1 aa a1).length:Int) - 1)) < ((rd_L1 aa a2).length:Int) then(spec_l05Key.l0 k a1 a2 a3 a4 (aa.length:Int) (wrap64 ((rd (rd_L1 aa a1) (wrap64 (((rd_L1 aa a1).length:Int) - 1)))*a4)) (wrap64 ((rd (rd_L1 aa a2) (wrap64 (((rd_L1 aa a1).length:Int) - 1)))*a3)) 0 aa a0_1 ae) else(none)) else(none)) else(none)) else(none)) else(none)) else(none)) else(none)
theorem spec_l05Key.mono_l: ∀k,(∀y0 y1 y2 y3 y4 y5 y6 y7 y8 y9 y10,LeO (spec_l05Key.l0 k y0 y1 y2 y3 y4 y5 y6 y7 y8 y9 y10) (spec_l05Key.l0 (k+1) y0 y1 y2 y3 y4 y5 y6 y7 y8 y9 y10))
 | 0=>fun _ _ _ _ _ _ _ _ _ _ _ r h=>by simp [spec_l05Key.l0] at h
 | k+1=>by
  have ih0:=spec_l05Key.mono_l k
  ·intro y0 y1 y2 y3 y4 y5 y6 y7 y8 y9 y10
   unfold spec_l05Key.l0
   repeat' first
   | (with_reducible exact ih0 _ _ _ _ _ _ _ _ _ _ _)
   | (with_reducible exact LeO.refl _)
   | (with_reducible exact LeO.none _)
   | (with_reducible refine LeO.ite ?_ ?_)
   | (with_reducible refine LeO.bind ?_ (fun _=>?_))
   | exact ih0 _ _ _ _ _ _ _ _ _ _ _
   | exact LeO.none _
   | refine LeO.ite ?_ ?_
   | refine LeO.bind ?_ (fun _=>?_)
theorem spec_l05Key.mono: ∀a0 a1 a2 a3 a4 a5 a6 k,LeO (spec_l05Key.f k a0 a1 a2 a3 a4 a5 a6) (spec_l05Key.f (k+1) a0 a1 a2 a3 a4 a5 a6):=by
 intro a0 a1 a2 a3 a4 a5 a6 k
 have ih0:=spec_l05Key.mono_l k
 unfold spec_l05Key.f
 repeat' first
   | (with_reducible exact ih0 _ _ _ _ _ _ _ _ _ _ _)
   | (with_reducible exact LeO.refl _)
   | (with_reducible exact LeO.none _)
   | (with_reducible refine LeO.ite ?_ ?_)
   | (with_reducible refine LeO.bind ?_ (fun _=>?_))
   | exact ih0 _ _ _ _ _ _ _ _ _ _ _
   | exact LeO.none _
   | refine LeO.ite ?_ ?_
   | refine LeO.bind ?_ (fun _=>?_)
theorem spec_l05Key.calls (k:Nat) (aw:Option Addr) (aq:Nat) (aa:List (List Int)) (a0_1:Int) (au:Option Addr) (av:Nat) (ah:List Int) (a1:Int) (a2:Int) (a3:Int) (a4:Int) (r:Bool) (w:World) (aU:Kd.C (Kd.slice 2 (Kd.int .i64)) w aw aa.length aa) (aV:aa.length≤aq) (aW:Kd.C (Kd.int .i64) w au ah.length ah) (aX:ah.length≤av) (h:spec_l05Key.f k aa a0_1 ah a1 a2 a3 a4=some r):
  Calls Try.prog 155 #[.agg #[.slice aw aa.length aq, .int .i64 a0_1, .slice au ah.length av], .int .i64 a1, .int .i64 a2, .int .i64 a3, .int .i64 a4] w fun e w'=>e= .returned (.bool r)∧Below w.heap.size w w':=by
 have hu100:=Try.underlying100
 have HR0_0:=Aside0.mk aU
 have HC0_0:=Aside0.mk aV
 clear aU aV
 have HR0_2:=Aside0.mk aW
 have HC0_2:=Aside0.mk aX
 clear aW aX
 have HB:=Aside0.mk (Below.refl w.heap.size w)
 have H:(if 0≤a1 then(if a1 < (aa.length:Int) then(if 0≤(wrap64 (((rd_L1 aa a1).length:Int) - 1)) then(if(wrap64 (((rd_L1 aa a1).length:Int) - 1)) < ((rd_L1 aa a1).length:Int) then(if 0≤a2 then(if a2 < (aa.length:Int) then(if(wrap64 (((rd_L1 aa a1).length:Int) - 1)) < ((rd_L1 aa a2).length:Int) then(spec_l05Key.l0 k a1 a2 a3 a4 (aa.length:Int) (wrap64 ((rd (rd_L1 aa a1) (wrap64 (((rd_L1 aa a1).length:Int) - 1)))*a4)) (wrap64 ((rd (rd_L1 aa a2) (wrap64 (((rd_L1 aa a1).length:Int) - 1)))*a3)) 0 aa a0_1 ah) else(none)) else(none)) else(none)) else(none)) else(none)) else(none)) else(none))=some r:=h
 clear h
 by_cases c6:0≤a1
 ·rw [if_pos c6] at H
  have c6b0:decide (0≤a1)=true:=decide_eq_true c6
  clear c6
  by_cases c7:a1 < (aa.length:Int)
  ·rw [if_pos c7] at H
   have c7b0:decide (a1 < (aa.length:Int))=true:=decide_eq_true c7
   clear c7
   obtain⟨ji8,hji8⟩: ∃j_:Int,(wrap64 (((rd_L1 aa a1).length:Int) - 1))=j_:=⟨_,rfl⟩
   replace H:(if 0≤(ji8) then(if(ji8) < ((rd_L1 aa a1).length:Int) then(if 0≤a2 then(if a2 < (aa.length:Int) then(if(ji8) < ((rd_L1 aa a2).length:Int) then(spec_l05Key.l0 k a1 a2 a3 a4 (aa.length:Int) (wrap64 ((rd (rd_L1 aa a1) (ji8))*a4)) (wrap64 ((rd (rd_L1 aa a2) (ji8))*a3)) 0 aa a0_1 ah) else(none)) else(none)) else(none)) else(none)) else(none))=some r:=by first | (rw [hji8] at H;exact H) | (simp only [hji8] at H ⊢;exact H)
   have hji8w:(IntKind.i64.wrap (((rd_L1 aa a1).length:Int) - 1))=ji8:=(i64_w _).trans hji8
   by_cases c9:0≤(ji8)
   ·rw [if_pos c9] at H
    have c9b0:decide (0≤(ji8))=true:=decide_eq_true c9
    clear c9
    by_cases c10:(ji8) < ((rd_L1 aa a1).length:Int)
    ·rw [if_pos c10] at H
     have c10b0:decide ((ji8) < ((rd_L1 aa a1).length:Int))=true:=decide_eq_true c10
     clear c10
     by_cases c11:0≤a2
     ·rw [if_pos c11] at H
      have c11b0:decide (0≤a2)=true:=decide_eq_true c11
      clear c11
      by_cases c12:a2 < (aa.length:Int)
      ·rw [if_pos c12] at H
       have c12b0:decide (a2 < (aa.length:Int))=true:=decide_eq_true c12
       clear c12
       by_cases c13:(ji8) < ((rd_L1 aa a2).length:Int)
       ·rw [if_pos c13] at H
        have c13b0:decide ((ji8) < ((rd_L1 aa a2).length:Int))=true:=decide_eq_true c13
        clear c13
        have H':=Aside0.mk H
        clear H
        go_enter Try.func155,Try.ntmps155
        go_wp2_with (first | ((with_reducible refine gate_dst (N:=5) rfl ?_);refine box_event ?hg (N:=5) ?hd (cs:= #[.slice aw aa.length aq, .int .i64 a0_1, .slice au ah.length av]) (t:=100) ?hr ?_;(case hd=>rfl);(case hg=>rfl);(case hr=>first | (go_simp;done) | (go_simp;rfl));intro af hg w14 hbox hb;have ae:=Aside0.mk (hbox);have aY:=Aside0.mk ((by rw [hg];exact bz_:w.heap.size≤af));have aZ:=Aside0.mk ((by rw [hg];exact bz_:w.heap.size≤af));replace HB:=Aside0.mk (bs_ hb);clear hb hbox hg;have az:w14.cell? ⟨af,0,none⟩=some (.slice aw aa.length aq):=(blk_cell ae.out 0).trans rfl;have aA:w14.cell? ⟨af,1,none⟩=some (.int .i64 a0_1):=(blk_cell ae.out 1).trans rfl;have aC:w14.cell? ⟨af,2,none⟩=some (.slice au ah.length av):=(blk_cell ae.out 2).trans rfl;have aD:=blk_frozen ae.out 0;have aG:=blk_frozen ae.out 1;have aH:=blk_frozen ae.out 2;have p209:0≤(a1:Int):=od_;have q209:a1 < (aa.length:Int):=od_;obtain⟨ai,aI,aJ,e209,hx209_0,hl209_0,hi209_0⟩:=at_L1 HR0_0.out a1 p209 q209;cases e209;replace hx209_0:=(HB.out.cell (World.block_lt_of_cell? w _ hx209_0)).trans hx209_0;have HR209_0:=Aside0.mk hi209_0;have HC209_0:=Aside0.mk hl209_0;clear hi209_0 hl209_0;replace p209:=eq_true p209;replace q209:=eq_true q209;have p210:0≤(a1:Int):=od_;have q210:a1 < (aa.length:Int):=od_;obtain⟨ax,aK,aM,e210,hx210_0,hl210_0,hi210_0⟩:=at_L1 HR0_0.out a1 p210 q210;obtain rfl:ai=ax:=(by injection e210);replace hx210_0:=(HB.out.cell (World.block_lt_of_cell? w _ hx210_0)).trans hx210_0;have HR210_0:=Aside0.mk hi210_0;have HC210_0:=Aside0.mk hl210_0;clear hi210_0 hl210_0;replace p210:=eq_true p210;replace q210:=eq_true q210;have ea_:=Option.some.inj (hx209_0.symm.trans hx210_0);injection ea_ with ea_ en_ ec_;subst ea_;subst ec_;clear en_;have p211:0≤((ji8):Int):=od_;have q211:(ji8) < ((rd_L1 aa a1).length:Int):=od_;obtain⟨a9,e211,hx211_0⟩:=Kd.at_int HR210_0.out (ji8) p211 q211;cases e211;replace hx211_0:=(HB.out.cell (World.block_lt_of_cell? w _ hx211_0)).trans hx211_0;replace p211:=eq_true p211;replace q211:=eq_true q211;have p212:0≤(a2:Int):=od_;have q212:a2 < (aa.length:Int):=od_;obtain⟨ay,aN,aT,e212,hx212_0,hl212_0,hi212_0⟩:=at_L1 HR0_0.out a2 p212 q212;obtain rfl:ai=ay:=(by injection e212);replace hx212_0:=(HB.out.cell (World.block_lt_of_cell? w _ hx212_0)).trans hx212_0;have HR212_0:=Aside0.mk hi212_0;have HC212_0:=Aside0.mk hl212_0;clear hi212_0 hl212_0;replace p212:=eq_true p212;replace q212:=eq_true q212;have p213:0≤((ji8):Int):=od_;have q213:(ji8) < ((rd_L1 aa a2).length:Int):=od_;obtain⟨ba,e213,hx213_0⟩:=Kd.at_int HR212_0.out (ji8) p213 q213;cases e213;replace hx213_0:=(HB.out.cell (World.block_lt_of_cell? w _ hx213_0)).trans hx213_0;replace p213:=eq_true p213;replace q213:=eq_true q213))
        repeat (go_quiet (first | ((with_reducible refine gate_dst (N:=5) rfl ?_);refine box_event ?hg (N:=5) ?hd (cs:= #[.slice aw aa.length aq, .int .i64 a0_1, .slice au ah.length av]) (t:=100) ?hr ?_;(case hd=>rfl);(case hg=>rfl);(case hr=>first | (go_simp;done) | (go_simp;rfl));intro af hg w14 hbox hb;have ae:=Aside0.mk (hbox);have aY:=Aside0.mk ((by rw [hg];exact bz_:w.heap.size≤af));have aZ:=Aside0.mk ((by rw [hg];exact bz_:w.heap.size≤af));replace HB:=Aside0.mk (bs_ hb);clear hb hbox hg;have az:w14.cell? ⟨af,0,none⟩=some (.slice aw aa.length aq):=(blk_cell ae.out 0).trans rfl;have aA:w14.cell? ⟨af,1,none⟩=some (.int .i64 a0_1):=(blk_cell ae.out 1).trans rfl;have aC:w14.cell? ⟨af,2,none⟩=some (.slice au ah.length av):=(blk_cell ae.out 2).trans rfl;have aD:=blk_frozen ae.out 0;have aG:=blk_frozen ae.out 1;have aH:=blk_frozen ae.out 2;have p209:0≤(a1:Int):=od_;have q209:a1 < (aa.length:Int):=od_;obtain⟨ai,aI,aJ,e209,hx209_0,hl209_0,hi209_0⟩:=at_L1 HR0_0.out a1 p209 q209;cases e209;replace hx209_0:=(HB.out.cell (World.block_lt_of_cell? w _ hx209_0)).trans hx209_0;have HR209_0:=Aside0.mk hi209_0;have HC209_0:=Aside0.mk hl209_0;clear hi209_0 hl209_0;replace p209:=eq_true p209;replace q209:=eq_true q209;have p210:0≤(a1:Int):=od_;have q210:a1 < (aa.length:Int):=od_;obtain⟨ax,aK,aM,e210,hx210_0,hl210_0,hi210_0⟩:=at_L1 HR0_0.out a1 p210 q210;obtain rfl:ai=ax:=(by injection e210);replace hx210_0:=(HB.out.cell (World.block_lt_of_cell? w _ hx210_0)).trans hx210_0;have HR210_0:=Aside0.mk hi210_0;have HC210_0:=Aside0.mk hl210_0;clear hi210_0 hl210_0;replace p210:=eq_true p210;replace q210:=eq_true q210;have ea_:=Option.some.inj (hx209_0.symm.trans hx210_0);injection ea_ with ea_ en_ ec_;subst ea_;subst ec_;clear en_;have p211:0≤((ji8):Int):=od_;have q211:(ji8) < ((rd_L1 aa a1).length:Int):=od_;obtain⟨a9,e211,hx211_0⟩:=Kd.at_int HR210_0.out (ji8) p211 q211;cases e211;replace hx211_0:=(HB.out.cell (World.block_lt_of_cell? w _ hx211_0)).trans hx211_0;replace p211:=eq_true p211;replace q211:=eq_true q211;have p212:0≤(a2:Int):=od_;have q212:a2 < (aa.length:Int):=od_;obtain⟨ay,aN,aT,e212,hx212_0,hl212_0,hi212_0⟩:=at_L1 HR0_0.out a2 p212 q212;obtain rfl:ai=ay:=(by injection e212);replace hx212_0:=(HB.out.cell (World.block_lt_of_cell? w _ hx212_0)).trans hx212_0;have HR212_0:=Aside0.mk hi212_0;have HC212_0:=Aside0.mk hl212_0;clear hi212_0 hl212_0;replace p212:=eq_true p212;replace q212:=eq_true q212;have p213:0≤((ji8):Int):=od_;have q213:(ji8) < ((rd_L1 aa a2).length:Int):=od_;obtain⟨ba,e213,hx213_0⟩:=Kd.at_int HR212_0.out (ji8) p213 q213;cases e213;replace hx213_0:=(HB.out.cell (World.block_lt_of_cell? w _ hx213_0)).trans hx213_0;replace p213:=eq_true p213;replace q213:=eq_true q213));try go_wp2_with (first | ((with_reducible refine gate_dst (N:=5) rfl ?_);refine box_event ?hg (N:=5) ?hd (cs:= #[.slice aw aa.length aq, .int .i64 a0_1, .slice au ah.length av]) (t:=100) ?hr ?_;(case hd=>rfl);(case hg=>rfl);(case hr=>first | (go_simp;done) | (go_simp;rfl));intro af hg w14 hbox hb;have ae:=Aside0.mk (hbox);have aY:=Aside0.mk ((by rw [hg];exact bz_:w.heap.size≤af));have aZ:=Aside0.mk ((by rw [hg];exact bz_:w.heap.size≤af));replace HB:=Aside0.mk (bs_ hb);clear hb hbox hg;have az:w14.cell? ⟨af,0,none⟩=some (.slice aw aa.length aq):=(blk_cell ae.out 0).trans rfl;have aA:w14.cell? ⟨af,1,none⟩=some (.int .i64 a0_1):=(blk_cell ae.out 1).trans rfl;have aC:w14.cell? ⟨af,2,none⟩=some (.slice au ah.length av):=(blk_cell ae.out 2).trans rfl;have aD:=blk_frozen ae.out 0;have aG:=blk_frozen ae.out 1;have aH:=blk_frozen ae.out 2;have p209:0≤(a1:Int):=od_;have q209:a1 < (aa.length:Int):=od_;obtain⟨ai,aI,aJ,e209,hx209_0,hl209_0,hi209_0⟩:=at_L1 HR0_0.out a1 p209 q209;cases e209;replace hx209_0:=(HB.out.cell (World.block_lt_of_cell? w _ hx209_0)).trans hx209_0;have HR209_0:=Aside0.mk hi209_0;have HC209_0:=Aside0.mk hl209_0;clear hi209_0 hl209_0;replace p209:=eq_true p209;replace q209:=eq_true q209;have p210:0≤(a1:Int):=od_;have q210:a1 < (aa.length:Int):=od_;obtain⟨ax,aK,aM,e210,hx210_0,hl210_0,hi210_0⟩:=at_L1 HR0_0.out a1 p210 q210;obtain rfl:ai=ax:=(by injection e210);replace hx210_0:=(HB.out.cell (World.block_lt_of_cell? w _ hx210_0)).trans hx210_0;have HR210_0:=Aside0.mk hi210_0;have HC210_0:=Aside0.mk hl210_0;clear hi210_0 hl210_0;replace p210:=eq_true p210;replace q210:=eq_true q210;have ea_:=Option.some.inj (hx209_0.symm.trans hx210_0);injection ea_ with ea_ en_ ec_;subst ea_;subst ec_;clear en_;have p211:0≤((ji8):Int):=od_;have q211:(ji8) < ((rd_L1 aa a1).length:Int):=od_;obtain⟨a9,e211,hx211_0⟩:=Kd.at_int HR210_0.out (ji8) p211 q211;cases e211;replace hx211_0:=(HB.out.cell (World.block_lt_of_cell? w _ hx211_0)).trans hx211_0;replace p211:=eq_true p211;replace q211:=eq_true q211;have p212:0≤(a2:Int):=od_;have q212:a2 < (aa.length:Int):=od_;obtain⟨ay,aN,aT,e212,hx212_0,hl212_0,hi212_0⟩:=at_L1 HR0_0.out a2 p212 q212;obtain rfl:ai=ay:=(by injection e212);replace hx212_0:=(HB.out.cell (World.block_lt_of_cell? w _ hx212_0)).trans hx212_0;have HR212_0:=Aside0.mk hi212_0;have HC212_0:=Aside0.mk hl212_0;clear hi212_0 hl212_0;replace p212:=eq_true p212;replace q212:=eq_true q212;have p213:0≤((ji8):Int):=od_;have q213:(ji8) < ((rd_L1 aa a2).length:Int):=od_;obtain⟨ba,e213,hx213_0⟩:=Kd.at_int HR212_0.out (ji8) p213 q213;cases e213;replace hx213_0:=(HB.out.cell (World.block_lt_of_cell? w _ hx213_0)).trans hx213_0;replace p213:=eq_true p213;replace q213:=eq_true q213)))
        go_loopg [13,14,15] k (fun kq v13 v14 v15 w'=> ∃(aj:Int) (ak:Int) (ag:Int),v13= .int .i64 aj∧v14= .int .i64 ak∧v15= .int .i64 ag∧Aside0 (spec_l05Key.l0 kq a1 a2 a3 a4 (aa.length:Int) aj ak ag aa a0_1 ah=some r)∧Aside0 (kq≤k)∧Aside0 (w'.heap[af]?=some (.cells #[(.slice (some ai) aa.length aq), .int .i64 a0_1,(.slice au ah.length av)] 100 (0,0)))∧Aside0 (Below w.heap.size w w'))
        case atStart=>exact⟨(wrap64 ((rd (rd_L1 aa a1) (ji8))*a4)),(wrap64 ((rd (rd_L1 aa a2) (ji8))*a3)),(0),(by first | rfl | (simp;done) | (simp only [← hji8] <;> (first | rfl | simp)) | (simp [*];done)),(by first | rfl | (simp;done) | (simp only [← hji8] <;> (first | rfl | simp)) | (simp [*];done)),rs_,H',⟨Nat.le_refl _⟩,⟨bk_⟩,⟨hb_⟩⟩
        case round=>
         clear H'
         try clear c1
         try clear c2
         try clear p2
         try clear q2
         try clear hx2
         try clear c6
         try clear c6b0
         try clear p6
         try clear c7
         try clear c7b0
         try clear c9
         try clear c9b0
         try clear c10
         try clear c10b0
         try clear c11
         try clear c11b0
         try clear c12
         try clear c12b0
         try clear c13
         try clear c13b0
         try clear c15
         try clear az
         try clear aA
         try clear aC
         try clear aD
         try clear aG
         try clear aH
         try clear hx209_0
         try clear hx210_0
         try clear hx211_0
         try clear hx212_0
         try clear hx213_0
         try clear p209
         try clear p210
         try clear p211
         try clear p212
         try clear p213
         try clear q209
         try clear q210
         try clear q211
         try clear q212
         try clear q213
         obtain⟨aj,ak,ag,rfl,rfl,rfl,HA,HK1,ae,HB⟩:=hrel
         cases gk with
         | zero=>exact absurd HA.out (by simp [spec_l05Key.l0])
         | succ k1=>
          have H:=HA.out
          clear HA
          simp only [spec_l05Key.l0] at H
          by_cases c16:ag < (aa.length:Int)
          ·rw [if_pos c16] at H
           have c16b0:decide (ag < (aa.length:Int))=true:=decide_eq_true c16
           clear c16
           by_cases c17:aj=ak
           ·rw [if_pos c17] at H
            have c17b0:(aj==ak)=true:=beq_iff_eq.mpr c17
            have c17b1:(aj !=ak)=false:=bne_eq_false_iff_eq.mpr c17
            clear c17
            by_cases c18:0≤a1
            ·rw [if_pos c18] at H
             have c18b0:decide (0≤a1)=true:=decide_eq_true c18
             clear c18
             by_cases c19:a1 < (aa.length:Int)
             ·rw [if_pos c19] at H
              have c19b0:decide (a1 < (aa.length:Int))=true:=decide_eq_true c19
              clear c19
              by_cases c20:0≤ag
              ·rw [if_pos c20] at H
               have c20b0:decide (0≤ag)=true:=decide_eq_true c20
               clear c20
               by_cases c21:ag < ((rd_L1 aa a1).length:Int)
               ·rw [if_pos c21] at H
                have c21b0:decide (ag < ((rd_L1 aa a1).length:Int))=true:=decide_eq_true c21
                clear c21
                by_cases c22:0≤a2
                ·rw [if_pos c22] at H
                 have c22b0:decide (0≤a2)=true:=decide_eq_true c22
                 clear c22
                 by_cases c23:a2 < (aa.length:Int)
                 ·rw [if_pos c23] at H
                  have c23b0:decide (a2 < (aa.length:Int))=true:=decide_eq_true c23
                  clear c23
                  by_cases c24:ag < ((rd_L1 aa a2).length:Int)
                  ·rw [if_pos c24] at H
                   have c24b0:decide (ag < ((rd_L1 aa a2).length:Int))=true:=decide_eq_true c24
                   clear c24
                   have H':=Aside0.mk H
                   clear H
                   have bh:wr.cell? ⟨af,0,none⟩=some (.slice (some ai) aa.length aq):=(blk_cell ae.out 0).trans rfl
                   have bi:wr.cell? ⟨af,1,none⟩=some (.int .i64 a0_1):=(blk_cell ae.out 1).trans rfl
                   have bk:wr.cell? ⟨af,2,none⟩=some (.slice au ah.length av):=(blk_cell ae.out 2).trans rfl
                   have bn:=blk_frozen ae.out 0
                   have bq:=blk_frozen ae.out 1
                   have bu:=blk_frozen ae.out 2
                   have p214:0≤(a1:Int):=od_
                   have q214:a1 < (aa.length:Int):=od_
                   obtain⟨bb,bv,bw,e214,hx214_0,hl214_0,hi214_0⟩:=at_L1 HR0_0.out a1 p214 q214
                   obtain rfl:ai=bb:=(by injection e214)
                   replace hx214_0:=(HB.out.cell (World.block_lt_of_cell? w _ hx214_0)).trans hx214_0
                   have HR214_0:=Aside0.mk hi214_0
                   have HC214_0:=Aside0.mk hl214_0
                   clear hi214_0 hl214_0
                   replace p214:=eq_true p214
                   replace q214:=eq_true q214
                   have p215:0≤(ag:Int):=od_
                   have q215:ag < ((rd_L1 aa a1).length:Int):=od_
                   obtain⟨bB,e215,hx215_0⟩:=Kd.at_int HR214_0.out ag p215 q215
                   cases e215
                   replace hx215_0:=(HB.out.cell (World.block_lt_of_cell? w _ hx215_0)).trans hx215_0
                   replace p215:=eq_true p215
                   replace q215:=eq_true q215
                   have p216:0≤(a2:Int):=od_
                   have q216:a2 < (aa.length:Int):=od_
                   obtain⟨bg,bz,bA,e216,hx216_0,hl216_0,hi216_0⟩:=at_L1 HR0_0.out a2 p216 q216
                   obtain rfl:ai=bg:=(by injection e216)
                   replace hx216_0:=(HB.out.cell (World.block_lt_of_cell? w _ hx216_0)).trans hx216_0
                   have HR216_0:=Aside0.mk hi216_0
                   have HC216_0:=Aside0.mk hl216_0
                   clear hi216_0 hl216_0
                   replace p216:=eq_true p216
                   replace q216:=eq_true q216
                   have p217:0≤(ag:Int):=od_
                   have q217:ag < ((rd_L1 aa a2).length:Int):=od_
                   obtain⟨bC,e217,hx217_0⟩:=Kd.at_int HR216_0.out ag p217 q217
                   cases e217
                   replace hx217_0:=(HB.out.cell (World.block_lt_of_cell? w _ hx217_0)).trans hx217_0
                   replace p217:=eq_true p217
                   replace q217:=eq_true q217
                   go_wp2
                   repeat (go_quiet (fail);try go_wp2)
                   go_roundg k1
                   case measure=>have:=HK1.out;omega
                   case rel=>exact⟨(wrap64 ((rd (rd_L1 aa a1) ag)*a4)),(wrap64 ((rd (rd_L1 aa a2) ag)*a3)),(wrap64 (ag+1)),rs_,rs_,rs_,H',⟨by have:=HK1.out;omega⟩,⟨bk_⟩,⟨hb_⟩⟩
                  ·rw [if_neg c24] at H
                   exact absurd H (by simp)
                 ·rw [if_neg c23] at H
                  exact absurd H (by simp)
                ·rw [if_neg c22] at H
                 exact absurd H (by simp)
               ·rw [if_neg c21] at H
                exact absurd H (by simp)
              ·rw [if_neg c20] at H
               exact absurd H (by simp)
             ·rw [if_neg c19] at H
              exact absurd H (by simp)
            ·rw [if_neg c18] at H
             exact absurd H (by simp)
           ·rw [if_neg c17] at H
            have c17b0:(aj==ak)=false:=beq_eq_false_iff_ne.mpr c17
            have c17b1:(aj !=ak)=true:=bne_iff_ne.mpr c17
            obtain rfl:=Option.some.inj H
            go_wp2
            repeat (go_quiet (fail);try go_wp2)
            go_ret
            exact⟨by first | rfl | (simp [errW_none,errW_some] <;> rfl) | (simp only [← hji8];first | rfl | (simp [errW_none,errW_some] <;> rfl)) | (simp [*,errW_none,errW_some] <;> rfl),hb_⟩
          ·rw [if_neg c16] at H
           have c16b0:decide (ag < (aa.length:Int))=false:=decide_eq_false c16
           clear c16
           obtain rfl:=Option.some.inj H
           go_wp2
           repeat (go_quiet (fail);try go_wp2)
           go_ret
           exact⟨by first | rfl | (simp [errW_none,errW_some] <;> rfl) | (simp only [← hji8];first | rfl | (simp [errW_none,errW_some] <;> rfl)) | (simp [*,errW_none,errW_some] <;> rfl),hb_⟩
       ·rw [if_neg c13] at H
        exact absurd H (by simp)
      ·rw [if_neg c12] at H
       exact absurd H (by simp)
     ·rw [if_neg c11] at H
      exact absurd H (by simp)
    ·rw [if_neg c10] at H
     exact absurd H (by simp)
   ·rw [if_neg c9] at H
    exact absurd H (by simp)
  ·rw [if_neg c7] at H
   exact absurd H (by simp)
 ·rw [if_neg c6] at H
  exact absurd H (by simp)
def spec_l05Row.l0:Nat→Int→Int→Int→List (List Int)→Int→List Int→Option (Int)
 | 0,_,_,_,_,_,_=>none
 | k+1,x1,x5,x6,aa,ae,af=>if x6 < (aa.length:Int) then(if 0≤x6 then(if 0≤x1 then(if x1 < ((rd_L1 aa x6).length:Int) then(if(rd (rd_L1 aa x6) x1) > 0 then(if x5 < 0 then(spec_l05Row.l0 k x1 x6 (wrap64 (x6+1)) aa ae af) else(if 0≤x5 then(if x5 < (aa.length:Int) then(if x1 < ((rd_L1 aa x5).length:Int) then((spec_l05Key.f k aa ae af x6 x5 (rd (rd_L1 aa x6) x1) (rd (rd_L1 aa x5) x1)).bind fun ag=>(if ag=true then(spec_l05Row.l0 k x1 x6 (wrap64 (x6+1)) aa ae af) else(spec_l05Row.l0 k x1 x5 (wrap64 (x6+1)) aa ae af))) else(none)) else(none)) else(none))) else(spec_l05Row.l0 k x1 x5 (wrap64 (x6+1)) aa ae af)) else(none)) else(none)) else(none)) else(some x5)
def spec_l05Row.f (k:Nat) (aa:List (List Int)) (a0_1:Int) (ae:List Int) (a1:Int):Option (Int):=spec_l05Row.l0 k a1 (-1) 0 aa a0_1 ae
theorem spec_l05Row.mono_l: ∀k,(∀y0 y1 y2 y3 y4 y5,LeO (spec_l05Row.l0 k y0 y1 y2 y3 y4 y5) (spec_l05Row.l0 (k+1) y0 y1 y2 y3 y4 y5))
 | 0=>fun _ _ _ _ _ _ r h=>by simp [spec_l05Row.l0] at h
 | k+1=>by
  have ih0:=spec_l05Row.mono_l k
  ·intro y0 y1 y2 y3 y4 y5
   unfold spec_l05Row.l0
   repeat' first
   | (with_reducible exact ih0 _ _ _ _ _ _)
   | (with_reducible exact spec_l05Key.mono _ _ _ _ _ _ _ _)
   | (with_reducible exact LeO.refl _)
   | (with_reducible exact LeO.none _)
   | (with_reducible refine LeO.ite ?_ ?_)
   | (with_reducible refine LeO.bind ?_ (fun _=>?_))
   | exact ih0 _ _ _ _ _ _
   | exact spec_l05Key.mono _ _ _ _ _ _ _ _
   | exact LeO.none _
   | refine LeO.ite ?_ ?_
   | refine LeO.bind ?_ (fun _=>?_)
theorem spec_l05Row.mono: ∀a0 a1 a2 a3 k,LeO (spec_l05Row.f k a0 a1 a2 a3) (spec_l05Row.f (k+1) a0 a1 a2 a3):=by
 intro a0 a1 a2 a3 k
 have ih0:=spec_l05Row.mono_l k
 unfold spec_l05Row.f
 repeat' first
   | (with_reducible exact ih0 _ _ _ _ _ _)
   | (with_reducible exact spec_l05Key.mono _ _ _ _ _ _ _ _)
   | (with_reducible exact LeO.refl _)
   | (with_reducible exact LeO.none _)
   | (with_reducible refine LeO.ite ?_ ?_)
   | (with_reducible refine LeO.bind ?_ (fun _=>?_))
   | exact ih0 _ _ _ _ _ _
   | exact spec_l05Key.mono _ _ _ _ _ _ _ _
   | exact LeO.none _
   | refine LeO.ite ?_ ?_
   | refine LeO.bind ?_ (fun _=>?_)
def spec_l05Row.T5:Bool × List (List Nat × List Nat):=(true, [([], []),([0], [0]),([], []),([1,2], [1,2]),([3], [3]),([], []),([4,5], [4,5]),([6], [6]),([7], [7]),([8], [8]),([9], [9]),([10,9], [9,10]),([11,9,9], [9,11]),([12], [12]),([12], [12]),([12], [12]),([12], [12]),([16,12], [12,16]),([12], [12]),([17,18,12], [12,17,18]),([19,12], [12,19]),([12], [12]),([20,21,12], [12,20,21]),([22,12], [12,22]),([12], [12]),([24,12], [12,24]),([12], [12]),([25,26,12], [12,25,26]),([27,12], [12,27]),([12], [12]),([28,29,12], [12,28,29]),([30,12], [12,30]),([13,14,15,23,31,12,12], [12,13,14,15,23,31]),([12,32,9], [9,12,32]),([9,33], [9,33])])
def spec_l05Row.B5:List Nat:= [0,1,0,7,15,0,63,127,255,511,1023,2047,4095,8191,8191,8191,8191,73727,8191,466943,991231,8191,4136959,8331263,8191,16785407,8191,117448703,251666431,8191,1056972799,2130714623,4294967295,8589934591,17179869183]
theorem spec_l05Row.tab5:rtab .any (opsOf Try.f156 5)=spec_l05Row.T5:=by kernel_rfl
theorem spec_l05Row.bits5:waitsOk spec_l05Row.T5.2 spec_l05Row.B5=true:=by kernel_rfl
theorem spec_l05Row.calls (k:Nat) (aG:Option Addr) (az:Nat) (ae:List (List Int)) (a0_1:Int) (aA:Option Addr) (aC:Nat) (aq:List Int) (a1:Int) (r:Int) (w:World) (aW:Kd.C (Kd.slice 2 (Kd.int .i64)) w aG ae.length ae) (aX:ae.length≤az) (aY:Kd.C (Kd.int .i64) w aA aq.length aq) (aZ:aq.length≤aC) (h:spec_l05Row.f k ae a0_1 aq a1=some r):
  Calls Try.prog 156 #[.agg #[.slice aG ae.length az, .int .i64 a0_1, .slice aA aq.length aC], .int .i64 a1] w fun e w'=>e= .returned (.int .i64 r)∧Below w.heap.size w w':=by
 have hu100:=Try.underlying100
 have HR0_0:=Aside0.mk aW
 have HC0_0:=Aside0.mk aX
 clear aW aX
 have HR0_2:=Aside0.mk aY
 have HC0_2:=Aside0.mk aZ
 clear aY aZ
 have HB:=Aside0.mk (Below.refl w.heap.size w)
 have H:(spec_l05Row.l0 k a1 (-1) 0 ae a0_1 aq)=some r:=h
 clear h
 have H':=Aside0.mk H
 clear H
 go_enter Try.func156,Try.ntmps156
 go_wp2_with (first | ((with_reducible refine gate_dst (N:=2) rfl ?_);refine box_event ?hg (N:=2) ?hd (cs:= #[.slice aG ae.length az, .int .i64 a0_1, .slice aA aq.length aC]) (t:=100) ?hr ?_;(case hd=>rfl);(case hg=>rfl);(case hr=>first | (go_simp;done) | (go_simp;rfl));intro ah hg w3 hbox hb;have aa:=Aside0.mk (hbox);have bX:=Aside0.mk ((by rw [hg];exact bz_:w.heap.size≤ah));have bY:=Aside0.mk ((by rw [hg];exact bz_:w.heap.size≤ah));replace HB:=Aside0.mk (bs_ hb);clear hb hbox hg))
 go_loopg [5,6] k (fun kq v5 v6 w'=> ∃(ag:Int) (af:Int),v5= .int .i64 ag∧v6= .int .i64 af∧Aside0 (spec_l05Row.l0 kq a1 ag af ae a0_1 aq=some r)∧Aside0 (kq≤k)∧Aside0 (w'.heap[ah]?=some (.cells #[(.slice aG ae.length az), .int .i64 a0_1,(.slice aA aq.length aC)] 100 (0,0)))∧Aside0 (Below w.heap.size w w'))
 case atStart=>exact⟨((-1)),(0),rs_,rs_,H',⟨Nat.le_refl _⟩,⟨bk_⟩,⟨hb_⟩⟩
 case round=>
  clear H'
  try clear c1
  try clear p2
  obtain⟨ag,af,rfl,rfl,HA,HK1,aa,HB⟩:=hrel
  cases gk with
  | zero=>exact absurd HA.out (by simp [spec_l05Row.l0])
  | succ k1=>
   have H:=HA.out
   clear HA
   simp only [spec_l05Row.l0] at H
   by_cases c4:af < (ae.length:Int)
   ·rw [if_pos c4] at H
    have c4b0:decide (af < (ae.length:Int))=true:=decide_eq_true c4
    clear c4
    by_cases c5:0≤af
    ·rw [if_pos c5] at H
     have c5b0:decide (0≤af)=true:=decide_eq_true c5
     clear c5
     by_cases c6:0≤a1
     ·rw [if_pos c6] at H
      have c6b0:decide (0≤a1)=true:=decide_eq_true c6
      clear c6
      by_cases c7:a1 < ((rd_L1 ae af).length:Int)
      ·rw [if_pos c7] at H
       have c7b0:decide (a1 < ((rd_L1 ae af).length:Int))=true:=decide_eq_true c7
       clear c7
       by_cases c8:(rd (rd_L1 ae af) a1) > 0
       ·rw [if_pos c8] at H
        have c8b0:decide (0 < (rd (rd_L1 ae af) a1))=true:=decide_eq_true c8
        clear c8
        by_cases c9:ag < 0
        ·rw [if_pos c9] at H
         have c9b0:decide (ag < 0)=true:=decide_eq_true c9
         clear c9
         have H':=Aside0.mk H
         clear H
         have bi:wr.cell? ⟨ah,0,none⟩=some (.slice aG ae.length az):=(blk_cell aa.out 0).trans rfl
         have bk:wr.cell? ⟨ah,1,none⟩=some (.int .i64 a0_1):=(blk_cell aa.out 1).trans rfl
         have bn:wr.cell? ⟨ah,2,none⟩=some (.slice aA aq.length aC):=(blk_cell aa.out 2).trans rfl
         have bq:=blk_frozen aa.out 0
         have bu:=blk_frozen aa.out 1
         have bv:=blk_frozen aa.out 2
         try go_wp2
         replace aa:=Aside0.mk (blk_drew aa.out)
         replace HB:=Aside0.mk (below_drew1 HB.out)
         have p219:0≤(af:Int):=od_
         have q219:af < (ae.length:Int):=od_
         obtain⟨ak,aI,aD,e219,hx219_0,hl219_0,hi219_0⟩:=at_L1 HR0_0.out af p219 q219
         have ai:=hx219_0
         cases e219
         replace hx219_0:=(HB.out.cell (World.block_lt_of_cell? w _ hx219_0)).trans hx219_0
         have HR219_0:=Aside0.mk hi219_0
         have HC219_0:=Aside0.mk hl219_0
         clear hi219_0 hl219_0
         replace p219:=eq_true p219
         replace q219:=eq_true q219
         have p220:0≤(a1:Int):=od_
         have q220:a1 < ((rd_L1 ae af).length:Int):=od_
         obtain⟨au,e220,hx220_0⟩:=Kd.at_int HR219_0.out a1 p220 q220
         have aj:=hx220_0
         cases e220
         replace hx220_0:=(HB.out.cell (World.block_lt_of_cell? w _ hx220_0)).trans hx220_0
         replace p220:=eq_true p220
         replace q220:=eq_true q220
         refine st_ (n:=35) (S:=fun w'=>w'.cell? ⟨ah,0,none⟩=some (.slice (some ak) ae.length az)∧w'.cell? ⟨ah,1,none⟩=some (.int .i64 a0_1)∧w'.cell? ⟨ah,2,none⟩=some (.slice aA aq.length aC)∧w'.cell? (ak.add (af).toNat)=some (.slice (some au) (rd_L1 ae af).length aD)∧w'.cell? (au.add (a1).toNat)=some (.int .i64 (rd (rd_L1 ae af) a1))) (ds:= []) ⟨(blk_cell aa.out 0).trans rfl,(blk_cell aa.out 1).trans rfl,(blk_cell aa.out 2).trans rfl,((HB.out.cell (World.block_lt_of_cell? w _ ai)).trans ai),((HB.out.cell (World.block_lt_of_cell? w _ aj)).trans aj)⟩ (fun hHeld=>?_);refine with_tabW spec_l05Row.tab5 spec_l05Row.bits5 (fun HT_ HW_=>?_)
         generalize wr.drew=w11 at aa HB HR219_0 hx219_0 hx220_0 hHeld ⊢
         refine pu_ 0 14 ?_;refine pu_ 2 16 ?_;refine pu_ 5 19 ?_;refine tk_ 1 15 ?_;refine pu_ 3 17 ?_;refine tk_ 4 18 ?_;refine pu_ 6 20 ?_;refine tk_ 7 21 ?_;refine pu_ 8 22 ?_;refine pu_ 9 23 ?_;refine pu_ 10 24 ?_;refine pu_ 11 25 ?_;refine pu_ 12 26 ?_;refine pn_ 13 27 ?_;refine pn_ 14 28 ?_;refine pn_ 15 29 ?_;refine pn_ 16 30 ?_;refine pn_ 17 31 ?_;refine pn_ 18 32 ?_;refine pn_ 19 33 ?_;refine pn_ 20 34 ?_;refine pn_ 21 35 ?_;refine pn_ 22 36 ?_;refine pn_ 23 37 ?_;refine pn_ 24 38 ?_;refine pn_ 25 39 ?_;refine pn_ 26 40 ?_;refine pn_ 27 41 ?_;refine pn_ 28 42 ?_;refine pn_ 29 43 ?_;refine pn_ 30 44 ?_;refine pn_ 31 45 ?_;refine pn_ 32 46 ?_;refine pu_ 33 47 ?_;refine pu_ 34 48 ?_
         refine done_ (done_of HT_.out (by kernel_rfl)) ?_
         try go_wp2
         go_roundg k1
         case measure=>have:=HK1.out;omega
         case rel=>exact⟨(af),(wrap64 (af+1)),rs_,rs_,H',⟨by have:=HK1.out;omega⟩,⟨bk_⟩,⟨hb_⟩⟩
        ·rw [if_neg c9] at H
         have c9b0:decide (ag < 0)=false:=decide_eq_false c9
         clear c9
         by_cases c12:0≤ag
         ·rw [if_pos c12] at H
          have c12b0:decide (0≤ag)=true:=decide_eq_true c12
          clear c12
          by_cases c13:ag < (ae.length:Int)
          ·rw [if_pos c13] at H
           have c13b0:decide (ag < (ae.length:Int))=true:=decide_eq_true c13
           clear c13
           by_cases c14:a1 < ((rd_L1 ae ag).length:Int)
           ·rw [if_pos c14] at H
            have c14b0:decide (a1 < ((rd_L1 ae ag).length:Int))=true:=decide_eq_true c14
            clear c14
            replace H:=Option.bind_eq_some_iff.mp H
            obtain⟨a9,A150,H⟩:=H
            replace H:(if a9=true then(spec_l05Row.l0 k1 a1 af (wrap64 (af+1)) ae a0_1 aq) else(spec_l05Row.l0 k1 a1 ag (wrap64 (af+1)) ae a0_1 aq))=some r:=H
            have A15:=Aside0.mk A150
            clear A150
            by_cases c16:a9=true
            ·subst c16
             have H1:(spec_l05Row.l0 k1 a1 af (wrap64 (af+1)) ae a0_1 aq)=some r:=by rw [if_pos rfl] at H;exact H
             clear H
             have H:=H1
             clear H1
             have H':=Aside0.mk H
             clear H
             have bw:wr.cell? ⟨ah,0,none⟩=some (.slice aG ae.length az):=(blk_cell aa.out 0).trans rfl
             have bz:wr.cell? ⟨ah,1,none⟩=some (.int .i64 a0_1):=(blk_cell aa.out 1).trans rfl
             have bA:wr.cell? ⟨ah,2,none⟩=some (.slice aA aq.length aC):=(blk_cell aa.out 2).trans rfl
             have bB:=blk_frozen aa.out 0
             have bC:=blk_frozen aa.out 1
             have bD:=blk_frozen aa.out 2
             try go_wp2
             replace aa:=Aside0.mk (blk_drew aa.out)
             replace HB:=Aside0.mk (below_drew1 HB.out)
             have p219:0≤(af:Int):=od_
             have q219:af < (ae.length:Int):=od_
             obtain⟨ak,aI,aD,e219,hx219_0,hl219_0,hi219_0⟩:=at_L1 HR0_0.out af p219 q219
             have ai:=hx219_0
             cases e219
             replace hx219_0:=(HB.out.cell (World.block_lt_of_cell? w _ hx219_0)).trans hx219_0
             have HR219_0:=Aside0.mk hi219_0
             have HC219_0:=Aside0.mk hl219_0
             clear hi219_0 hl219_0
             replace p219:=eq_true p219
             replace q219:=eq_true q219
             have p220:0≤(a1:Int):=od_
             have q220:a1 < ((rd_L1 ae af).length:Int):=od_
             obtain⟨au,e220,hx220_0⟩:=Kd.at_int HR219_0.out a1 p220 q220
             have aj:=hx220_0
             cases e220
             replace hx220_0:=(HB.out.cell (World.block_lt_of_cell? w _ hx220_0)).trans hx220_0
             replace p220:=eq_true p220
             replace q220:=eq_true q220
             have p221:0≤(af:Int):=od_
             have q221:af < (ae.length:Int):=od_
             obtain⟨aK,ba,bb,e221,hx221_0,hl221_0,hi221_0⟩:=at_L1 HR0_0.out af p221 q221
             have av:=hx221_0
             obtain rfl:ak=aK:=(by injection e221)
             replace hx221_0:=(HB.out.cell (World.block_lt_of_cell? w _ hx221_0)).trans hx221_0
             have HR221_0:=Aside0.mk hi221_0
             have HC221_0:=Aside0.mk hl221_0
             clear hi221_0 hl221_0
             replace p221:=eq_true p221
             replace q221:=eq_true q221
             have ea_:=Option.some.inj (hx219_0.symm.trans hx221_0)
             injection ea_ with ea_ en_ ec_
             subst ea_
             subst ec_
             clear en_
             have p222:0≤(a1:Int):=od_
             have q222:a1 < ((rd_L1 ae af).length:Int):=od_
             obtain⟨bh,e222,hx222_0⟩:=Kd.at_int HR221_0.out a1 p222 q222
             have aw:=hx222_0
             cases e222
             replace hx222_0:=(HB.out.cell (World.block_lt_of_cell? w _ hx222_0)).trans hx222_0
             replace p222:=eq_true p222
             replace q222:=eq_true q222
             have p223:0≤(ag:Int):=od_
             have q223:ag < (ae.length:Int):=od_
             obtain⟨aM,bg,aJ,e223,hx223_0,hl223_0,hi223_0⟩:=at_L1 HR0_0.out ag p223 q223
             have ax:=hx223_0
             obtain rfl:ak=aM:=(by injection e223)
             replace hx223_0:=(HB.out.cell (World.block_lt_of_cell? w _ hx223_0)).trans hx223_0
             have HR223_0:=Aside0.mk hi223_0
             have HC223_0:=Aside0.mk hl223_0
             clear hi223_0 hl223_0
             replace p223:=eq_true p223
             replace q223:=eq_true q223
             have p224:0≤(a1:Int):=od_
             have q224:a1 < ((rd_L1 ae ag).length:Int):=od_
             obtain⟨aH,e224,hx224_0⟩:=Kd.at_int HR223_0.out a1 p224 q224
             have ay:=hx224_0
             cases e224
             replace hx224_0:=(HB.out.cell (World.block_lt_of_cell? w _ hx224_0)).trans hx224_0
             replace p224:=eq_true p224
             replace q224:=eq_true q224
             refine st_ (n:=35) (S:=fun w'=>w'.cell? ⟨ah,0,none⟩=some (.slice (some ak) ae.length az)∧w'.cell? ⟨ah,1,none⟩=some (.int .i64 a0_1)∧w'.cell? ⟨ah,2,none⟩=some (.slice aA aq.length aC)∧w'.cell? (ak.add (af).toNat)=some (.slice (some au) (rd_L1 ae af).length aD)∧w'.cell? (au.add (a1).toNat)=some (.int .i64 (rd (rd_L1 ae af) a1))∧w'.cell? (ak.add (af).toNat)=some (.slice (some au) (rd_L1 ae af).length aD)∧w'.cell? (au.add (a1).toNat)=some (.int .i64 (rd (rd_L1 ae af) a1))∧w'.cell? (ak.add (ag).toNat)=some (.slice (some aH) (rd_L1 ae ag).length aJ)∧w'.cell? (aH.add (a1).toNat)=some (.int .i64 (rd (rd_L1 ae ag) a1))) (ds:= []) ⟨(blk_cell aa.out 0).trans rfl,(blk_cell aa.out 1).trans rfl,(blk_cell aa.out 2).trans rfl,((HB.out.cell (World.block_lt_of_cell? w _ ai)).trans ai),((HB.out.cell (World.block_lt_of_cell? w _ aj)).trans aj),((HB.out.cell (World.block_lt_of_cell? w _ av)).trans av),((HB.out.cell (World.block_lt_of_cell? w _ aw)).trans aw),((HB.out.cell (World.block_lt_of_cell? w _ ax)).trans ax),((HB.out.cell (World.block_lt_of_cell? w _ ay)).trans ay)⟩ (fun hHeld=>?_);refine with_tabW spec_l05Row.tab5 spec_l05Row.bits5 (fun HT_ HW_=>?_)
             generalize wr.drew=w18 at aa HB HR219_0 HR221_0 HR223_0 hx219_0 hx220_0 hx221_0 hx222_0 hx223_0 hx224_0 hHeld ⊢
             refine pu_ 0 14 ?_;refine pu_ 2 16 ?_;refine pu_ 5 19 ?_;refine tk_ 1 15 ?_;refine pu_ 3 17 ?_;refine tk_ 4 18 ?_;refine pu_ 6 20 ?_;refine tk_ 7 21 ?_;refine pu_ 8 22 ?_;refine pu_ 9 23 ?_;refine pu_ 10 24 ?_;refine pu_ 11 25 ?_;refine pu_ 12 26 ?_;refine pu_ 14 28 ?_;refine pu_ 15 29 ?_;refine pu_ 16 30 ?_;refine pu_ 18 32 ?_;refine pu_ 21 35 ?_;refine pu_ 24 38 ?_;refine pu_ 26 40 ?_;refine pu_ 29 43 ?_;refine tk_ 13 27 ?_;refine tk_ 17 31 ?_;refine pu_ 19 33 ?_;refine tk_ 20 34 ?_;refine pu_ 22 36 ?_;refine tk_ 23 37 ?_;refine tk_ 25 39 ?_;refine pu_ 27 41 ?_;refine tk_ 28 42 ?_;refine pu_ 30 44 ?_;refine tk_ 31 45 ?_
             refine on_ 32 (some 46) (fun K hK=>?_)
             refine goes_ Try.func155 (by kernel_rfl) rfl #[.agg #[.slice (some ak) ae.length az, .int .i64 a0_1, .slice aA aq.length aC], .int .i64 af, .int .i64 ag, .int .i64 (rd (rd_L1 ae af) a1), .int .i64 (rd (rd_L1 ae ag) a1)] (by rfl) rfl rfl (by(try simp only [List.map_toArray,List.map_cons,List.map_nil]);first | done | rfl | (simp only [List.length_drop,List.length_take];rfl)) ?_
             with_reducible refine(spec_l05Key.calls k1 _ _ ae a0_1 _ _ aq af ag (rd (rd_L1 ae af) a1) (rd (rd_L1 ae ag) a1) true _ ?aN ?aT ?aU ?aV A15.out).mono ?_
             (case aN=>exact cb_ HR0_0.out HB.out)
             (case aT=>exact HC0_0.out)
             (case aU=>exact cb_ HR0_2.out HB.out)
             (case aV=>exact HC0_2.out)
             rintro e w19 ⟨rfl,hb⟩
             refine⟨_,rfl,?_⟩
             replace aa:=Aside0.mk (bb_ aa.out hb)
             replace HB:=Aside0.mk (bs_ hb)
             (try clear hb)
             (try clear hb2)
             (try clear hk)
             (try clear hi)
             refine hK.out _ _ ⟨(blk_cell aa.out 0).trans rfl,(blk_cell aa.out 1).trans rfl,(blk_cell aa.out 2).trans rfl,((HB.out.cell (World.block_lt_of_cell? w _ ai)).trans ai),((HB.out.cell (World.block_lt_of_cell? w _ aj)).trans aj),((HB.out.cell (World.block_lt_of_cell? w _ av)).trans av),((HB.out.cell (World.block_lt_of_cell? w _ aw)).trans aw),((HB.out.cell (World.block_lt_of_cell? w _ ax)).trans ax),((HB.out.cell (World.block_lt_of_cell? w _ ay)).trans ay)⟩ (fun hHeld=>?_)
             clear hK K
             refine norm_ (a':=?_) ?_ ?_
             rotate_left
             ·show Act.put _ (some 46) _=_
              simp only [Act.put,List.setIfInBounds_toArray,List.set_cons_zero,List.set_cons_succ,i64_w,i32_w]
              rfl
             refine pu_ 33 47 ?_;refine pu_ 34 48 ?_
             refine done_ (done_of HT_.out (by kernel_rfl)) ?_
             try go_wp2
             go_roundg k1
             case measure=>have:=HK1.out;omega
             case rel=>exact⟨(af),(wrap64 (af+1)),rs_,rs_,H',⟨by have:=HK1.out;omega⟩,⟨bk_⟩,⟨hb_⟩⟩
            ·replace c16:=Bool.eq_false_iff.mpr c16
             subst c16
             have H1:(spec_l05Row.l0 k1 a1 ag (wrap64 (af+1)) ae a0_1 aq)=some r:=by rw [if_neg (show ¬ (false=true) by decide)] at H;exact H
             clear H
             have H:=H1
             clear H1
             have H':=Aside0.mk H
             clear H
             have bE:wr.cell? ⟨ah,0,none⟩=some (.slice aG ae.length az):=(blk_cell aa.out 0).trans rfl
             have bF:wr.cell? ⟨ah,1,none⟩=some (.int .i64 a0_1):=(blk_cell aa.out 1).trans rfl
             have bG:wr.cell? ⟨ah,2,none⟩=some (.slice aA aq.length aC):=(blk_cell aa.out 2).trans rfl
             have bH:=blk_frozen aa.out 0
             have bI:=blk_frozen aa.out 1
             have bJ:=blk_frozen aa.out 2
             try go_wp2
             replace aa:=Aside0.mk (blk_drew aa.out)
             replace HB:=Aside0.mk (below_drew1 HB.out)
             have p219:0≤(af:Int):=od_
             have q219:af < (ae.length:Int):=od_
             obtain⟨ak,aI,aD,e219,hx219_0,hl219_0,hi219_0⟩:=at_L1 HR0_0.out af p219 q219
             have ai:=hx219_0
             cases e219
             replace hx219_0:=(HB.out.cell (World.block_lt_of_cell? w _ hx219_0)).trans hx219_0
             have HR219_0:=Aside0.mk hi219_0
             have HC219_0:=Aside0.mk hl219_0
             clear hi219_0 hl219_0
             replace p219:=eq_true p219
             replace q219:=eq_true q219
             have p220:0≤(a1:Int):=od_
             have q220:a1 < ((rd_L1 ae af).length:Int):=od_
             obtain⟨au,e220,hx220_0⟩:=Kd.at_int HR219_0.out a1 p220 q220
             have aj:=hx220_0
             cases e220
             replace hx220_0:=(HB.out.cell (World.block_lt_of_cell? w _ hx220_0)).trans hx220_0
             replace p220:=eq_true p220
             replace q220:=eq_true q220
             have p221:0≤(af:Int):=od_
             have q221:af < (ae.length:Int):=od_
             obtain⟨aK,ba,bb,e221,hx221_0,hl221_0,hi221_0⟩:=at_L1 HR0_0.out af p221 q221
             have av:=hx221_0
             obtain rfl:ak=aK:=(by injection e221)
             replace hx221_0:=(HB.out.cell (World.block_lt_of_cell? w _ hx221_0)).trans hx221_0
             have HR221_0:=Aside0.mk hi221_0
             have HC221_0:=Aside0.mk hl221_0
             clear hi221_0 hl221_0
             replace p221:=eq_true p221
             replace q221:=eq_true q221
             have ea_:=Option.some.inj (hx219_0.symm.trans hx221_0)
             injection ea_ with ea_ en_ ec_
             subst ea_
             subst ec_
             clear en_
             have p222:0≤(a1:Int):=od_
             have q222:a1 < ((rd_L1 ae af).length:Int):=od_
             obtain⟨bh,e222,hx222_0⟩:=Kd.at_int HR221_0.out a1 p222 q222
             have aw:=hx222_0
             cases e222
             replace hx222_0:=(HB.out.cell (World.block_lt_of_cell? w _ hx222_0)).trans hx222_0
             replace p222:=eq_true p222
             replace q222:=eq_true q222
             have p223:0≤(ag:Int):=od_
             have q223:ag < (ae.length:Int):=od_
             obtain⟨aM,bg,aJ,e223,hx223_0,hl223_0,hi223_0⟩:=at_L1 HR0_0.out ag p223 q223
             have ax:=hx223_0
             obtain rfl:ak=aM:=(by injection e223)
             replace hx223_0:=(HB.out.cell (World.block_lt_of_cell? w _ hx223_0)).trans hx223_0
             have HR223_0:=Aside0.mk hi223_0
             have HC223_0:=Aside0.mk hl223_0
             clear hi223_0 hl223_0
             replace p223:=eq_true p223
             replace q223:=eq_true q223
             have p224:0≤(a1:Int):=od_
             have q224:a1 < ((rd_L1 ae ag).length:Int):=od_
             obtain⟨aH,e224,hx224_0⟩:=Kd.at_int HR223_0.out a1 p224 q224
             have ay:=hx224_0
             cases e224
             replace hx224_0:=(HB.out.cell (World.block_lt_of_cell? w _ hx224_0)).trans hx224_0
             replace p224:=eq_true p224
             replace q224:=eq_true q224
             refine st_ (n:=35) (S:=fun w'=>w'.cell? ⟨ah,0,none⟩=some (.slice (some ak) ae.length az)∧w'.cell? ⟨ah,1,none⟩=some (.int .i64 a0_1)∧w'.cell? ⟨ah,2,none⟩=some (.slice aA aq.length aC)∧w'.cell? (ak.add (af).toNat)=some (.slice (some au) (rd_L1 ae af).length aD)∧w'.cell? (au.add (a1).toNat)=some (.int .i64 (rd (rd_L1 ae af) a1))∧w'.cell? (ak.add (af).toNat)=some (.slice (some au) (rd_L1 ae af).length aD)∧w'.cell? (au.add (a1).toNat)=some (.int .i64 (rd (rd_L1 ae af) a1))∧w'.cell? (ak.add (ag).toNat)=some (.slice (some aH) (rd_L1 ae ag).length aJ)∧w'.cell? (aH.add (a1).toNat)=some (.int .i64 (rd (rd_L1 ae ag) a1))) (ds:= []) ⟨(blk_cell aa.out 0).trans rfl,(blk_cell aa.out 1).trans rfl,(blk_cell aa.out 2).trans rfl,((HB.out.cell (World.block_lt_of_cell? w _ ai)).trans ai),((HB.out.cell (World.block_lt_of_cell? w _ aj)).trans aj),((HB.out.cell (World.block_lt_of_cell? w _ av)).trans av),((HB.out.cell (World.block_lt_of_cell? w _ aw)).trans aw),((HB.out.cell (World.block_lt_of_cell? w _ ax)).trans ax),((HB.out.cell (World.block_lt_of_cell? w _ ay)).trans ay)⟩ (fun hHeld=>?_);refine with_tabW spec_l05Row.tab5 spec_l05Row.bits5 (fun HT_ HW_=>?_)
             generalize wr.drew=w21 at aa HB HR219_0 HR221_0 HR223_0 hx219_0 hx220_0 hx221_0 hx222_0 hx223_0 hx224_0 hHeld ⊢
             refine pu_ 0 14 ?_;refine pu_ 2 16 ?_;refine pu_ 5 19 ?_;refine tk_ 1 15 ?_;refine pu_ 3 17 ?_;refine tk_ 4 18 ?_;refine pu_ 6 20 ?_;refine tk_ 7 21 ?_;refine pu_ 8 22 ?_;refine pu_ 9 23 ?_;refine pu_ 10 24 ?_;refine pu_ 11 25 ?_;refine pu_ 12 26 ?_;refine pu_ 14 28 ?_;refine pu_ 15 29 ?_;refine pu_ 16 30 ?_;refine pu_ 18 32 ?_;refine pu_ 21 35 ?_;refine pu_ 24 38 ?_;refine pu_ 26 40 ?_;refine pu_ 29 43 ?_;refine tk_ 13 27 ?_;refine tk_ 17 31 ?_;refine pu_ 19 33 ?_;refine tk_ 20 34 ?_;refine pu_ 22 36 ?_;refine tk_ 23 37 ?_;refine tk_ 25 39 ?_;refine pu_ 27 41 ?_;refine tk_ 28 42 ?_;refine pu_ 30 44 ?_;refine tk_ 31 45 ?_
             refine on_ 32 (some 46) (fun K hK=>?_)
             refine goes_ Try.func155 (by kernel_rfl) rfl #[.agg #[.slice (some ak) ae.length az, .int .i64 a0_1, .slice aA aq.length aC], .int .i64 af, .int .i64 ag, .int .i64 (rd (rd_L1 ae af) a1), .int .i64 (rd (rd_L1 ae ag) a1)] (by rfl) rfl rfl (by(try simp only [List.map_toArray,List.map_cons,List.map_nil]);first | done | rfl | (simp only [List.length_drop,List.length_take];rfl)) ?_
             with_reducible refine(spec_l05Key.calls k1 _ _ ae a0_1 _ _ aq af ag (rd (rd_L1 ae af) a1) (rd (rd_L1 ae ag) a1) false _ ?aN ?aT ?aU ?aV A15.out).mono ?_
             (case aN=>exact cb_ HR0_0.out HB.out)
             (case aT=>exact HC0_0.out)
             (case aU=>exact cb_ HR0_2.out HB.out)
             (case aV=>exact HC0_2.out)
             rintro e w22 ⟨rfl,hb⟩
             refine⟨_,rfl,?_⟩
             replace aa:=Aside0.mk (bb_ aa.out hb)
             replace HB:=Aside0.mk (bs_ hb)
             (try clear hb)
             (try clear hb2)
             (try clear hk)
             (try clear hi)
             refine hK.out _ _ ⟨(blk_cell aa.out 0).trans rfl,(blk_cell aa.out 1).trans rfl,(blk_cell aa.out 2).trans rfl,((HB.out.cell (World.block_lt_of_cell? w _ ai)).trans ai),((HB.out.cell (World.block_lt_of_cell? w _ aj)).trans aj),((HB.out.cell (World.block_lt_of_cell? w _ av)).trans av),((HB.out.cell (World.block_lt_of_cell? w _ aw)).trans aw),((HB.out.cell (World.block_lt_of_cell? w _ ax)).trans ax),((HB.out.cell (World.block_lt_of_cell? w _ ay)).trans ay)⟩ (fun hHeld=>?_)
             clear hK K
             refine norm_ (a':=?_) ?_ ?_
             rotate_left
             ·show Act.put _ (some 46) _=_
              simp only [Act.put,List.setIfInBounds_toArray,List.set_cons_zero,List.set_cons_succ,i64_w,i32_w]
              rfl
             refine pu_ 33 47 ?_;refine pu_ 34 48 ?_
             refine done_ (done_of HT_.out (by kernel_rfl)) ?_
             try go_wp2
             go_roundg k1
             case measure=>have:=HK1.out;omega
             case rel=>exact⟨(ag),(wrap64 (af+1)),rs_,rs_,H',⟨by have:=HK1.out;omega⟩,⟨bk_⟩,⟨hb_⟩⟩
           ·rw [if_neg c14] at H
            exact absurd H (by simp)
          ·rw [if_neg c13] at H
           exact absurd H (by simp)
         ·rw [if_neg c12] at H
          exact absurd H (by simp)
       ·rw [if_neg c8] at H
        have c8b0:decide (0 < (rd (rd_L1 ae af) a1))=false:=decide_eq_false c8
        clear c8
        have H':=Aside0.mk H
        clear H
        have bK:wr.cell? ⟨ah,0,none⟩=some (.slice aG ae.length az):=(blk_cell aa.out 0).trans rfl
        have bL:wr.cell? ⟨ah,1,none⟩=some (.int .i64 a0_1):=(blk_cell aa.out 1).trans rfl
        have bM:wr.cell? ⟨ah,2,none⟩=some (.slice aA aq.length aC):=(blk_cell aa.out 2).trans rfl
        have bN:=blk_frozen aa.out 0
        have bO:=blk_frozen aa.out 1
        have bP:=blk_frozen aa.out 2
        try go_wp2
        replace aa:=Aside0.mk (blk_drew aa.out)
        replace HB:=Aside0.mk (below_drew1 HB.out)
        have p219:0≤(af:Int):=od_
        have q219:af < (ae.length:Int):=od_
        obtain⟨ak,aI,aD,e219,hx219_0,hl219_0,hi219_0⟩:=at_L1 HR0_0.out af p219 q219
        have ai:=hx219_0
        cases e219
        replace hx219_0:=(HB.out.cell (World.block_lt_of_cell? w _ hx219_0)).trans hx219_0
        have HR219_0:=Aside0.mk hi219_0
        have HC219_0:=Aside0.mk hl219_0
        clear hi219_0 hl219_0
        replace p219:=eq_true p219
        replace q219:=eq_true q219
        have p220:0≤(a1:Int):=od_
        have q220:a1 < ((rd_L1 ae af).length:Int):=od_
        obtain⟨au,e220,hx220_0⟩:=Kd.at_int HR219_0.out a1 p220 q220
        have aj:=hx220_0
        cases e220
        replace hx220_0:=(HB.out.cell (World.block_lt_of_cell? w _ hx220_0)).trans hx220_0
        replace p220:=eq_true p220
        replace q220:=eq_true q220
        refine st_ (n:=35) (S:=fun w'=>w'.cell? ⟨ah,0,none⟩=some (.slice (some ak) ae.length az)∧w'.cell? ⟨ah,1,none⟩=some (.int .i64 a0_1)∧w'.cell? ⟨ah,2,none⟩=some (.slice aA aq.length aC)∧w'.cell? (ak.add (af).toNat)=some (.slice (some au) (rd_L1 ae af).length aD)∧w'.cell? (au.add (a1).toNat)=some (.int .i64 (rd (rd_L1 ae af) a1))) (ds:= []) ⟨(blk_cell aa.out 0).trans rfl,(blk_cell aa.out 1).trans rfl,(blk_cell aa.out 2).trans rfl,((HB.out.cell (World.block_lt_of_cell? w _ ai)).trans ai),((HB.out.cell (World.block_lt_of_cell? w _ aj)).trans aj)⟩ (fun hHeld=>?_);refine with_tabW spec_l05Row.tab5 spec_l05Row.bits5 (fun HT_ HW_=>?_)
        generalize wr.drew=w24 at aa HB HR219_0 hx219_0 hx220_0 hHeld ⊢
        refine pu_ 0 14 ?_;refine pu_ 2 16 ?_;refine pu_ 5 19 ?_;refine tk_ 1 15 ?_;refine pu_ 3 17 ?_;refine tk_ 4 18 ?_;refine pu_ 6 20 ?_;refine tk_ 7 21 ?_;refine pu_ 8 22 ?_;refine pu_ 9 23 ?_;refine pn_ 10 24 ?_;refine pn_ 11 25 ?_;refine pn_ 12 26 ?_;refine pn_ 13 27 ?_;refine pn_ 14 28 ?_;refine pn_ 15 29 ?_;refine pn_ 16 30 ?_;refine pn_ 17 31 ?_;refine pn_ 18 32 ?_;refine pn_ 19 33 ?_;refine pn_ 20 34 ?_;refine pn_ 21 35 ?_;refine pn_ 22 36 ?_;refine pn_ 23 37 ?_;refine pn_ 24 38 ?_;refine pn_ 25 39 ?_;refine pn_ 26 40 ?_;refine pn_ 27 41 ?_;refine pn_ 28 42 ?_;refine pn_ 29 43 ?_;refine pn_ 30 44 ?_;refine pn_ 31 45 ?_;refine pn_ 32 46 ?_;refine pn_ 33 47 ?_;refine pu_ 34 48 ?_
        refine done_ (done_of HT_.out (by kernel_rfl)) ?_
        try go_wp2
        go_roundg k1
        case measure=>have:=HK1.out;omega
        case rel=>exact⟨(ag),(wrap64 (af+1)),rs_,rs_,H',⟨by have:=HK1.out;omega⟩,⟨bk_⟩,⟨hb_⟩⟩
      ·rw [if_neg c7] at H
       exact absurd H (by simp)
     ·rw [if_neg c6] at H
      exact absurd H (by simp)
    ·rw [if_neg c5] at H
     exact absurd H (by simp)
   ·rw [if_neg c4] at H
    have c4b0:decide (af < (ae.length:Int))=false:=decide_eq_false c4
    clear c4
    obtain rfl:=Option.some.inj H
    have bQ:wr.cell? ⟨ah,0,none⟩=some (.slice aG ae.length az):=(blk_cell aa.out 0).trans rfl
    have bS:wr.cell? ⟨ah,1,none⟩=some (.int .i64 a0_1):=(blk_cell aa.out 1).trans rfl
    have bT:wr.cell? ⟨ah,2,none⟩=some (.slice aA aq.length aC):=(blk_cell aa.out 2).trans rfl
    have bU:=blk_frozen aa.out 0
    have bV:=blk_frozen aa.out 1
    have bW:=blk_frozen aa.out 2
    go_wp2
    go_ret
    exact⟨by first | rfl | (simp [errW_none,errW_some] <;> rfl) | (simp [*,errW_none,errW_some] <;> rfl),hb_⟩
def spec_l05Partner.f (a0:Int) (a1:Int):Option (Int):=if a0 < a1 then(some (wrap64 (a0+a1))) else(some (wrap64 (a0 - a1)))
theorem spec_l05Partner.calls (a0:Int) (a1:Int) (r:Int) (w:World) (h:spec_l05Partner.f a0 a1=some r):
  Calls Try.prog 158 #[.int .i64 a0, .int .i64 a1] w fun e w'=>e= .returned (.int .i64 r)∧Drawn0 w w':=by
 have H:(if a0 < a1 then(some (wrap64 (a0+a1))) else(some (wrap64 (a0 - a1))))=some r:=h
 clear h
 by_cases c3:a0 < a1
 ·rw [if_pos c3] at H
  have c3b0:decide (a0 < a1)=true:=decide_eq_true c3
  clear c3
  obtain rfl:=Option.some.inj H
  go_enter Try.func158,Try.ntmps158
  go_wp2
  go_ret
  exact⟨by first | rfl | (simp;done) | (simp [*];done),by repeat (first | exact Drawn0.refl _ | apply Drawn0.step)⟩
 ·rw [if_neg c3] at H
  have c3b0:decide (a0 < a1)=false:=decide_eq_false c3
  clear c3
  obtain rfl:=Option.some.inj H
  go_enter Try.func158,Try.ntmps158
  go_wp2
  go_ret
  exact⟨by first | rfl | (simp;done) | (simp [*];done),by repeat (first | exact Drawn0.refl _ | apply Drawn0.step)⟩
end Go.Proofs.Ytmpkckiifeikkaa.Pr
end
section
namespace Go.Proofs.Ytmpkckiifeikkaa.Lp
open Go.RowKit Go.Proofs.YtmpkckiifeikkaaW.PrintWords Go.Proofs.YtmpkckiifeikkaaW.PrintLast Go.Proofs.YtmpkckiifeikkaaW.PrintMore Go.Proofs.Ytmpkckiifeikkaa.Pr Go.Proofs.Ytmpkckiifeikkaa.Ma Go.Proofs.Ytmpkckiifeikkaa.Dt Go.Proofs.Ytmpkckiifeikkaa.Lk Go.Proofs.Ytmpkckiifeikkaa.Lt Go.Proofs.Ytmpkckiifeikkaa.Lq
theorem tb_reads {w:World} {A0:Option Addr} {L:List (List Int)} {n m:Nat} (hC:Kd.C (Kd.slice 2 (Kd.int .i64)) w A0 L.length L) (hL:L.length=n) (hr: ∀x ∈ L,x.length=m) (hn:0 < n) (hm:0 < m):
  ∃(ad:Addr) (b:Nat→Addr) (cp:Nat→Nat),A0=some ad∧(∀i,i < n→w.cell? (ad.add i)=some (.slice (some (b i)) m (cp i)))∧ ∀i j,i < n→j < m→w.cell? ((b i).add j)=some (.int .i64 (enL L i j)):=by
 subst hL
 have key: ∀i, ∃x:Addr × Addr × Nat,i < L.length→A0=some x.1∧w.cell? (x.1.add i)=some (.slice (some x.2.1) m x.2.2)∧ ∀j,j < m→w.cell? (x.2.1.add j)=some (.int .i64 (enL L i j)):=by
  intro i
  by_cases hi:i < L.length
  ·obtain⟨ad,A',c',eA,hx,hc',hC'⟩:=at_L1 hC (i:Int) (by omega) (by omega)
   have el:rd_L1 L (i:Int)=L.getD i []:=by simp [rd_L1]
   rw [el] at hx hc' hC'
   have eln:(L.getD i []).length=m:=hr _ (by rw [List.getD_eq_getElem?_getD,List.getElem?_eq_getElem hi];exact List.getElem_mem _)
   obtain⟨aa,eA2,_⟩:=Kd.at_int hC' 0 (by omega) (by omega)
   subst eA2
   refine⟨(ad,aa,c'),fun _=>⟨eA,by rw [eln,Int.toNat_natCast] at hx;exact hx,fun j hj=>?_⟩⟩
   obtain⟨ae,eA3,hx3⟩:=Kd.at_int hC' (j:Int) (by omega) (by omega)
   injection eA3 with eA3
   subst eA3
   rw [Int.toNat_natCast,rd_nat] at hx3
   exact hx3
  ·exact⟨(⟨0,0,none⟩,⟨0,0,none⟩,0),fun h=>absurd h hi⟩
 obtain⟨f,hf⟩:=Classical.axiomOfChoice key
 refine⟨(f 0).1,fun i=>(f i).2.1,fun i=>(f i).2.2,(hf 0 hn).1,fun i hi=>?_,fun i j hi hj=>(hf i hi).2.2 j hj⟩
 have e1:=(hf 0 hn).1
 have e2:=(hf i hi).1
 rw [e1] at e2
 injection e2 with e2
 rw [e2];exact(hf i hi).2.1
def rowsM (n m:Nat) (Y:Mat):List (List Int):=(List.range n).map (fun a=>rowN Y a m)
theorem rowsM_len (n m:Nat) (Y:Mat):(rowsM n m Y).length=n:=by simp [rowsM]
theorem rowsM_next (n m:Nat) (Y:Mat):rowsM (n+1) m Y=rowsM n m Y++ [rowN Y n m]:=by unfold rowsM;rw [List.range_succ,List.map_append];rfl
theorem rowN_next (Y:Mat) (i k:Nat):rowN Y i (k+1)=rowN Y i k++ [Y i k]:=by unfold rowN;rw [List.range_succ,List.map_append];rfl
theorem rowsM_at {n m:Nat} {Y:Mat} {i:Nat} (hi:i < n):(rowsM n m Y).getD i []=rowN Y i m:=by unfold rowsM;rw [List.getD_eq_getElem?_getD,List.getElem?_map,List.getElem?_range hi];rfl
theorem rowN_at {m:Nat} {Y:Mat} {i k:Nat} (hk:k < m):(rowN Y i m).getD k 0=Y i k:=by unfold rowN;rw [List.getD_eq_getElem?_getD,List.getElem?_map,List.getElem?_range hk];rfl
theorem rowsM_congr {n m:Nat} {Y Z:Mat} (h: ∀i j,i < n→j < m→Y i j=Z i j):rowsM n m Y=rowsM n m Z:=List.map_congr_left (fun i hi=>List.map_congr_left (fun j hj=>h i j (List.mem_range.1 hi) (List.mem_range.1 hj)))
theorem rowsM_set {n m:Nat} {Y:Mat} {i k:Nat} (x:Int):(rowsM n m Y).set i ((rowN Y i m).set k x)=rowsM n m (mset Y i k x):=by
 refine List.ext_getElem (by simp [rowsM]) (fun a h1 h2=>?_)
 rw [List.getElem_set]
 have ha:a < n:=by simpa [rowsM] using h2
 simp only [rowsM,List.getElem_map,List.getElem_range]
 by_cases e:i=a
 ·subst e
  rw [if_pos rfl]
  refine List.ext_getElem (by simp [rowN]) (fun b h3 h4=>?_)
  rw [List.getElem_set]
  simp only [rowN,List.getElem_map,List.getElem_range,mset]
  by_cases e2:k=b
  ·subst e2;simp
  ·rw [if_neg e2,if_neg (fun q=>e2 q.2.symm)]
 ·rw [if_neg e]
  refine List.map_congr_left (fun b _=>?_)
  unfold mset
  rw [if_neg (fun q=>e q.1.symm)]
structure Pt (w wr:World) (g7:Nat) (u0 u2:Value) (den:Int) (L:List (List Int)) (B:List Int):Prop where
 below:Below w.heap.size w wr
 g:w.heap.size≤g7
 blk:wr.heap[g7]?=some (.cells #[u0, .int .i64 den,u2] 100 (0,0))
 S:Kd.S (Kd.slice 2 (Kd.int .i64)) 23 wr w.heap.size (fun k=>some k≠u2.ownBlock) u0 L
 R:Kd.R (Kd.int .i64) 2 wr w.heap.size (fun _=>True) u2 B
structure Pu (w wr:World) (g7:Nat) (u0 u2:Value) (den:Int) (L:List (List Int)) (B:List Int) (v:Value) (X:List Int):Prop where
 below:Below w.heap.size w wr
 g:w.heap.size≤g7
 blk:wr.heap[g7]?=some (.cells #[u0, .int .i64 den,u2] 100 (0,0))
 S:Kd.S (Kd.slice 2 (Kd.int .i64)) 23 wr w.heap.size (fun k=>some k≠u2.ownBlock∧some k≠v.ownBlock) u0 L
 R:Kd.R (Kd.int .i64) 2 wr w.heap.size (fun k=>True∧some k≠v.ownBlock) u2 B
 X:Kd.R (Kd.int .i64) 2 wr w.heap.size (fun k=>some k≠u2.ownBlock) v X
section
variable {w wr w1:World} {g7:Nat} {u0 u2 v v1:Value} {den:Int} {L:List (List Int)} {B X Y:List Int}
theorem Pt.mv (h:Pt w wr g7 u0 u2 den L B) (hb:Below wr.heap.size wr w1):Pt w w1 g7 u0 u2 den L B:=
 ⟨below_step h.below hb,h.g,blk_below h.blk hb,Kd.S_below h.S hb,Kd.R_below h.R hb⟩
theorem Pu.mv (h:Pu w wr g7 u0 u2 den L B v X) (hb:Below wr.heap.size wr w1):Pu w w1 g7 u0 u2 den L B v X:=
 ⟨below_step h.below hb,h.g,blk_below h.blk hb,Kd.S_below h.S hb,Kd.R_below h.R hb,Kd.R_below h.X hb⟩
theorem Pu.new (h:Pt w wr g7 u0 u2 den L B) (hb:Below wr.heap.size wr w1) (hX:Kd.R (Kd.int .i64) 2 w1 wr.heap.size (fun _=>True) v X):Pu w w1 g7 u0 u2 den L B v X:=
 ⟨below_step h.below hb,h.g,blk_below h.blk hb,Kd.S_elder' h.S (Kd.R_base hX) hb,Kd.R_elder' h.R (Kd.R_base hX) hb,Kd.R_mono (Kd.R_lower (Kd.R_new' hX (Kd.R_lt h.R)) h.below.size) (fun _ hk=>hk.2)⟩
theorem Pu.grow (h:Pu w wr g7 u0 u2 den L B v X) (hb:Below w.heap.size w w1) (hg:wr.grownBy w1 v.ownBlock) (hat:v1.ownBlock=v.ownBlock∨ ∃b,v1.ownBlock=some b∧wr.heap.size≤b) (hX:Kd.R (Kd.int .i64) 2 w1 w.heap.size (fun k=>some k≠u2.ownBlock) v1 Y):Pu w w1 g7 u0 u2 den L B v1 Y:=
 ⟨hb,h.g,blk_grown h.blk hg (Kd.R_ne h.X h.blk (by decide)),Kd.S_after h.S hg hat,Kd.R_after h.R hg hat,hX⟩
theorem Pu.other (h:Pu w wr g7 u0 u2 den L B v X) (hg:wr.grownBy w1 v.ownBlock) {g:Nat} {cs:Array Value} (hblk:wr.heap[g]?=some (.cells cs 100 (0,0))):w1.heap[g]?=some (.cells cs 100 (0,0)):=blk_grown hblk hg (Kd.R_ne h.X hblk (by decide))
theorem Pt.putB {gb c l:Nat} (h:Pt w wr g7 u0 (.slice (some ⟨gb,0,none⟩) l c) den L B) (j:Nat) (x:Int):Pt w (wr.setCell ⟨gb,j,none⟩ (.int .i64 x)) g7 u0 (.slice (some ⟨gb,0,none⟩) l c) den L (B.set j x)∧wr.grownBy (wr.setCell ⟨gb,j,none⟩ (.int .i64 x)) (Value.slice (some ⟨gb,0,none⟩) l c).ownBlock:=by
 have hp:=Kd.R_putg h.R (j:Int) x
 rw [Int.toNat_natCast] at hp
 have ho:(Value.slice (some ⟨gb,0,none⟩) l c).ownBlock=some gb:=by simp [Value.ownBlock]
 refine⟨⟨h.below.setCell (Kd.R_base h.R gb ho) _,h.g,blk_grown h.blk hp.2 (ho ▸ Kd.R_ne h.R h.blk (by decide)),?_,hp.1⟩,ho ▸ hp.2⟩
 refine Kd.S_mono (Kd.S_step (Kd.S_bound h.S) (fun k hk hlt=>hp.2.block k hlt (ho ▸ hk.1))) (fun _ hk=>hk.1)
theorem tsetR {α:Type} {d:Kd α} {e base g t j:Nat} {ok:Nat→Prop} {W:World} {u x:Value} {xs:List α} {cs:Array Value} (h:d.R e W base ok u xs) (hg:W.heap[g]?=some (.cells cs t (0,0))) (ht: ∀q,q ∈ e::d.E→q≠t):d.R e (W.setCell ⟨g,j,none⟩ x) base ok u xs:=Kd.R_set h hg ht j x
theorem tsetS {α:Type} {d:Kd α} {e base g t j:Nat} {ok:Nat→Prop} {W:World} {u x:Value} {xs:List α} {cs:Array Value} (h:Kd.S d e W base ok u xs) (hg:W.heap[g]?=some (.cells cs t (0,0))) (ht: ∀q,q ∈ e::d.E→q≠t):Kd.S d e (W.setCell ⟨g,j,none⟩ x) base ok u xs:=
 Kd.S_mono (Kd.S_step (Kd.S_bound h) (fun k hk hlt=>Below.heap_setCell W ⟨g,j,none⟩ x k (fun e1=>by
  obtain⟨_,_,_,q,hq,cells,hc⟩:=hk
  have e2:k=g:=e1
  rw [e2,hg] at hc
  injection hc with h1
  injection h1 with _ h2 _
  exact ht q hq h2.symm))) (fun _ hk=>hk.1)
theorem Pt.putD (h:Pt w wr g7 u0 u2 den L B) (d:Int):Pt w (wr.setCell ⟨g7,1,none⟩ (.int .i64 d)) g7 u0 u2 d L B:=
 ⟨h.below.setCell h.g _,h.g,blk_put h.blk 1 _ rfl,tsetS h.S h.blk (by decide),tsetR h.R h.blk (by decide)⟩
theorem Pt.rows {u:Value} (hb:Below w.heap.size w wr) (hg:w.heap.size≤g7) (hblk:wr.heap[g7]?=some (.cells #[u0, .int .i64 den,u2] 100 (0,0)))
  (hS:Kd.S (Kd.slice 2 (Kd.int .i64)) 23 wr w.heap.size (fun k=>some k≠u2.ownBlock) u L) (hR:Kd.R (Kd.int .i64) 2 wr w.heap.size (fun _=>True) u2 B):Pt w (wr.setCell ⟨g7,0,none⟩ u) g7 u u2 den L B:=
 ⟨hb.setCell hg _,hg,blk_put hblk 0 _ rfl,tsetS hS hblk (by decide),tsetR hR hblk (by decide)⟩
theorem S_row {e base n' cap i:Nat} {W:World} {ok:Nat→Prop} {ad:Addr} {Ls:List (List Int)} (h:Kd.S (Kd.slice 2 (Kd.int .i64)) e W base ok (.slice (some ad) n' cap) Ls) (hi:i < n'): ∃A c,W.cell? (ad.add i)=some (.slice A (Ls.getD i []).length c):=by
 obtain⟨oki,c,hcl,hM,hcc,_,_⟩:=Kd.S_borrow h ([]:List Int) (i:Int) (by omega) (by omega)
 rw [Int.toNat_natCast] at hM hcc
 obtain⟨v,hc,hR⟩:=hM
 subst hc
 have hv:=hcc 0 v rfl
 rw [show i*(Kd.slice 2 (Kd.int .i64)).sz+0=i from by show i*1+0=i;omega] at hv
 obtain⟨A,c,rfl⟩:=Kd.R_slice hR
 exact⟨A,c,hv⟩
theorem S_put {e base n' cap i k:Nat} {W:World} {ok:Nat→Prop} {ad:Addr} {Ls:List (List Int)} {v13:Value} (h:Kd.S (Kd.slice 2 (Kd.int .i64)) e W base ok (.slice (some ad) n' cap) Ls) (hi:i < n') (hcell:W.cell? (ad.add i)=some v13) (hk:k < (Ls.getD i []).length):
  ∃g c,v13= .slice (some ⟨g,0,none⟩) (Ls.getD i []).length c∧ok g∧some g≠(Value.slice (some ad) n' cap).ownBlock∧(∃cells,W.heap[g]?=some (.cells cells 2 (0,0)))∧W.cell? ⟨g,k,none⟩=some (.int .i64 ((Ls.getD i []).getD k 0))∧W.frozen? ⟨g,k,none⟩=false∧base≤g∧
   ∀x,W.grownBy (W.setCell ⟨g,k,none⟩ (.int .i64 x)) (some g)∧Kd.S (Kd.slice 2 (Kd.int .i64)) e (W.setCell ⟨g,k,none⟩ (.int .i64 x)) base ok (.slice (some ad) n' cap) (Ls.set i ((Ls.getD i []).set k x)):=by
 obtain⟨oki,c,hcl,hM,hcc,hoki,hback⟩:=Kd.S_borrow h ([]:List Int) (i:Int) (by omega) (by omega)
 rw [Int.toNat_natCast] at hM hcc hback
 obtain⟨v,hc,hR⟩:=hM
 subst hc
 have hv:=hcc 0 v rfl
 rw [show i*(Kd.slice 2 (Kd.int .i64)).sz+0=i from by show i*1+0=i;omega,hcell] at hv
 injection hv with hv
 subst hv
 obtain⟨g,cap8,hv8,hb8,hl8,cells,hc8⟩:=Kd.R_form hR (by omega)
 have ho:v13.ownBlock=some g:=by rw [hv8];simp [Value.ownBlock]
 have hokg:=hR.1 g ho
 rw [hv8] at hR
 have hat:=Kd.R_celln 0 hR (k:Int) (by omega) (by omega)
 rw [Int.toNat_natCast] at hat
 refine⟨g,cap8,hv8,(hoki g hokg).1,(hoki g hokg).2,⟨cells,hc8⟩,by simpa [rdOf] using hat.1,hat.2,hb8,fun x=>?_⟩
 have hp:=Kd.R_putg hR (k:Int) x
 rw [Int.toNat_natCast] at hp
 refine⟨hp.2,hback hp.2 (fun q hq=>by injection hq with hq;rw [← hq];exact hokg) ⟨_,by rw [hv8],?_⟩⟩
 have e:=hp.1
 rw [show (Ls.getD i []).length=((Ls.getD i []).set k x).length from by simp] at e ⊢
 exact e
end
end Go.Proofs.Ytmpkckiifeikkaa.Lp
end
