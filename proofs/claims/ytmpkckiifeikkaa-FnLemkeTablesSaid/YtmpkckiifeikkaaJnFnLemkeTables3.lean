/- Texts of one claim (the words of the kit's print that the claim uses, printed functions, and this session's own texts), joined in the order of their imports by this session's own program (merge.py). -/
import Derived.Test.YtmpkckiifeikkaaJnFnLemkeTables0
import Derived.Test.YtmpkckiifeikkaaJnFnLemkeTables1
import Derived.Test.YtmpkckiifeikkaaJnFnLemkeTables2
set_option linter.unusedVariables false
set_option linter.unusedSimpArgs false
set_option maxHeartbeats 8000000
set_option maxRecDepth 100000
section
namespace Go.Proofs.Ytmpkckiifeikkaa.Pr
open Go.RowKit Go.Proofs.YtmpkckiifeikkaaW.PrintWords Go.Proofs.YtmpkckiifeikkaaW.PrintLast Go.Proofs.YtmpkckiifeikkaaW.PrintMore
attribute [local go_sem] max2_int min2_int max_two min_two max_three min_three max_four min_four
def impl_common.l0:Nat→Int→Int→Option (Int)
 | 0,_,_=>none
 | k+1,x0,x1=>if x1=0 then(some x0) else(impl_common.l0 k x1 (Int.tmod x0 x1))
def impl_common.f (k:Nat) (a0:Int) (a1:Int):Option (Int):=(impl_size.f a0).bind fun aa=>((impl_size.f a1).bind fun ae=>(impl_common.l0 k aa ae))
theorem impl_common.mono_l: ∀k,(∀y0 y1,LeO (impl_common.l0 k y0 y1) (impl_common.l0 (k+1) y0 y1))
 | 0=>fun _ _ r h=>by simp [impl_common.l0] at h
 | k+1=>by
  have ih0:=impl_common.mono_l k
  ·intro y0 y1
   unfold impl_common.l0
   repeat' first
   | (with_reducible exact ih0 _ _)
   | (with_reducible exact LeO.refl _)
   | (with_reducible exact LeO.none _)
   | (with_reducible refine LeO.ite ?_ ?_)
   | (with_reducible refine LeO.bind ?_ (fun _=>?_))
   | exact ih0 _ _
   | exact LeO.none _
   | refine LeO.ite ?_ ?_
   | refine LeO.bind ?_ (fun _=>?_)
theorem impl_common.mono: ∀a0 a1 k,LeO (impl_common.f k a0 a1) (impl_common.f (k+1) a0 a1):=by
 intro a0 a1 k
 have ih0:=impl_common.mono_l k
 unfold impl_common.f
 repeat' first
   | (with_reducible exact ih0 _ _)
   | (with_reducible exact LeO.refl _)
   | (with_reducible exact LeO.none _)
   | (with_reducible refine LeO.ite ?_ ?_)
   | (with_reducible refine LeO.bind ?_ (fun _=>?_))
   | exact ih0 _ _
   | exact LeO.none _
   | refine LeO.ite ?_ ?_
   | refine LeO.bind ?_ (fun _=>?_)
theorem impl_common.calls (k:Nat) (a0:Int) (a1:Int) (r:Int) (w:World) (h:impl_common.f k a0 a1=some r):
  Calls Try.prog 182 #[.int .i64 a0, .int .i64 a1] w fun e w'=>e= .returned (.int .i64 r)∧Below w.heap.size w w':=by
 have HB:=q_ (Below.refl w.heap.size w)
 have H:((impl_size.f a0).bind fun af=>((impl_size.f a1).bind fun ae=>(impl_common.l0 k af ae)))=some r:=h
 clear h
 replace H:=Option.bind_eq_some_iff.mp H
 obtain⟨af,A30,H⟩:=H
 replace H:((impl_size.f a1).bind fun ae=>(impl_common.l0 k af ae))=some r:=H
 have A3:=q_ A30
 clear A30
 replace H:=Option.bind_eq_some_iff.mp H
 obtain⟨ae,A40,H⟩:=H
 replace H:(impl_common.l0 k af ae)=some r:=H
 have A4:=q_ A40
 clear A40
 have H':=q_ H
 clear H
 go_enter Try.func182,Try.ntmps182
 go_wp2_with (first | (go_at_call 205;(with_reducible refine(impl_size.calls a0 af _ A3.out).mono ?_);rintro e w5 ⟨rfl,hb⟩;replace HB:=q_ (bs_ hb);(try clear hb);(try clear hb2);(try clear hk);(try clear hi)) | (go_at_call 205;(with_reducible refine(impl_size.calls a1 ae _ A4.out).mono ?_);rintro e w6 ⟨rfl,hb⟩;replace HB:=q_ (bs_ hb);(try clear hb);(try clear hb2);(try clear hk);(try clear hi)))
 repeat (go_quiet (first | (go_at_call 205;(with_reducible refine(impl_size.calls a0 af _ A3.out).mono ?_);rintro e w5 ⟨rfl,hb⟩;replace HB:=q_ (bs_ hb);(try clear hb);(try clear hb2);(try clear hk);(try clear hi)) | (go_at_call 205;(with_reducible refine(impl_size.calls a1 ae _ A4.out).mono ?_);rintro e w6 ⟨rfl,hb⟩;replace HB:=q_ (bs_ hb);(try clear hb);(try clear hb2);(try clear hk);(try clear hi)));try go_wp2_with (first | (go_at_call 205;(with_reducible refine(impl_size.calls a0 af _ A3.out).mono ?_);rintro e w5 ⟨rfl,hb⟩;replace HB:=q_ (bs_ hb);(try clear hb);(try clear hb2);(try clear hk);(try clear hi)) | (go_at_call 205;(with_reducible refine(impl_size.calls a1 ae _ A4.out).mono ?_);rintro e w6 ⟨rfl,hb⟩;replace HB:=q_ (bs_ hb);(try clear hb);(try clear hb2);(try clear hk);(try clear hi))))
 go_loopg [0,1] k (fun kq v0 v1 w'=> ∃(ag:Int) (aa:Int),v0= .int .i64 ag∧v1= .int .i64 aa∧Aside0 (impl_common.l0 kq ag aa=some r)∧Aside0 (kq≤k)∧Aside0 (Below w.heap.size w w'))
 case atStart=>exact⟨(af),(ae),rs_,rs_,H',⟨Nat.le_refl _⟩,⟨hb_⟩⟩
 case round=>
  clear H'
  try clear c1
  try clear p2
  obtain⟨ag,aa,rfl,rfl,HA,HK1,HB⟩:=hrel
  cases gk with
  | zero=>exact absurd HA.out (by simp [impl_common.l0])
  | succ k1=>
   have H:=HA.out
   clear HA
   simp only [impl_common.l0] at H
   by_cases c7:aa=0
   ·rw [if_pos c7] at H
    have c7b0:(aa==0)=true:=beq_iff_eq.mpr c7
    have c7b1:(aa !=0)=false:=bne_eq_false_iff_eq.mpr c7
    clear c7
    obtain rfl:=Option.some.inj H
    go_wp2
    repeat (go_quiet (fail);try go_wp2)
    go_ret
    exact⟨by first | rfl | (simp [errW_none,errW_some] <;> rfl) | (simp [*,errW_none,errW_some] <;> rfl),hb_⟩
   ·rw [if_neg c7] at H
    have c7b0:(aa==0)=false:=beq_eq_false_iff_ne.mpr c7
    have c7b1:(aa !=0)=true:=bne_iff_ne.mpr c7
    have H':=q_ H
    clear H
    go_wp2
    repeat (go_quiet (fail);try go_wp2)
    go_roundg k1
    case measure=>have:=HK1.out;omega
    case rel=>exact⟨(aa),(Int.tmod ag aa),rs_,rs_,H',⟨by have:=HK1.out;omega⟩,⟨hb_⟩⟩
def impl_upTo.f (a0:Int) (a1:Int):Option (Bool):=(impl_within.f a0 (wrap64 (-a1)) a1).bind fun aa=>(some aa)
theorem impl_upTo.calls (a0:Int) (a1:Int) (r:Bool) (w:World) (h:impl_upTo.f a0 a1=some r):
  Calls Try.prog 198 #[.int .i64 a0, .int .i64 a1] w fun e w'=>e= .returned (.bool r)∧Drawn0 w w':=by
 have H:((impl_within.f a0 (wrap64 (-a1)) a1).bind fun aa=>(some aa))=some r:=h
 clear h
 replace H:=Option.bind_eq_some_iff.mp H
 obtain⟨aa,A30,H⟩:=H
 replace H:(some aa)=some r:=H
 have A3:=q_ A30
 clear A30
 obtain rfl:=Option.some.inj H
 go_enter Try.func198,Try.ntmps198
 go_wp2_with (first | ((with_reducible refine gate_callee (f:=117) rfl ?_);refine gL_ 9 Try.func117 #[.int .i64 a0, .int .i64 (wrap64 (-a1)), .int .i64 a1] ?_;(with_reducible refine(impl_within.calls a0 (wrap64 (-a1)) a1 aa _ A3.out).mono ?_);rintro e w' ⟨rfl,⟨nd,rfl⟩⟩;refine⟨_,rfl,?_⟩))
 go_ret
 exact⟨by first | rfl | (simp;done) | (simp [*];done),by repeat (first | exact Drawn0.refl _ | apply Drawn0.step)⟩
def impl_IsFrac.f (k:Nat) (a0_0:Int) (a0_1:Int):Option (Bool):=(impl_within.f a0_1 1 1000000000).bind fun aa=>(if aa=true then((impl_upTo.f a0_0 1000000000).bind fun ae=>(if ae=true then((impl_common.f k a0_0 a0_1).bind fun af=>(some (af==1))) else(some false))) else(some false))
theorem impl_IsFrac.mono: ∀a0 a1 k,LeO (impl_IsFrac.f k a0 a1) (impl_IsFrac.f (k+1) a0 a1):=by
 intro a0 a1 k
 unfold impl_IsFrac.f
 repeat' first
   | (with_reducible exact impl_common.mono _ _ _)
   | (with_reducible exact LeO.refl _)
   | (with_reducible exact LeO.none _)
   | (with_reducible refine LeO.ite ?_ ?_)
   | (with_reducible refine LeO.bind ?_ (fun _=>?_))
   | exact impl_common.mono _ _ _
   | exact LeO.none _
   | refine LeO.ite ?_ ?_
   | refine LeO.bind ?_ (fun _=>?_)
theorem impl_IsFrac.calls (k:Nat) (a0_0:Int) (a0_1:Int) (r:Bool) (w:World) (h:impl_IsFrac.f k a0_0 a0_1=some r):
  Calls Try.prog 183 #[.agg #[.int .i64 a0_0, .int .i64 a0_1]] w fun e w'=>e= .returned (.bool r)∧Below w.heap.size w w':=by
 have hu93:=Try.underlying93
 have HB:=q_ (Below.refl w.heap.size w)
 have H:((impl_within.f a0_1 1 1000000000).bind fun ah=>(if ah=true then((impl_upTo.f a0_0 1000000000).bind fun ag=>(if ag=true then((impl_common.f k a0_0 a0_1).bind fun af=>(some (af==1))) else(some false))) else(some false)))=some r:=h
 clear h
 replace H:=Option.bind_eq_some_iff.mp H
 obtain⟨ah,A20,H⟩:=H
 replace H:(if ah=true then((impl_upTo.f a0_0 1000000000).bind fun ag=>(if ag=true then((impl_common.f k a0_0 a0_1).bind fun af=>(some (af==1))) else(some false))) else(some false))=some r:=H
 have A2:=q_ A20
 clear A20
 by_cases c3:ah=true
 ·subst c3
  have H1:((impl_upTo.f a0_0 1000000000).bind fun ag=>(if ag=true then((impl_common.f k a0_0 a0_1).bind fun af=>(some (af==1))) else(some false)))=some r:=by rw [if_pos rfl] at H;exact H
  clear H
  have H:=H1
  clear H1
  replace H:=Option.bind_eq_some_iff.mp H
  obtain⟨ag,A40,H⟩:=H
  replace H:(if ag=true then((impl_common.f k a0_0 a0_1).bind fun af=>(some (af==1))) else(some false))=some r:=H
  have A4:=q_ A40
  clear A40
  by_cases c5:ag=true
  ·subst c5
   have H1:((impl_common.f k a0_0 a0_1).bind fun af=>(some (af==1)))=some r:=by rw [if_pos rfl] at H;exact H
   clear H
   have H:=H1
   clear H1
   replace H:=Option.bind_eq_some_iff.mp H
   obtain⟨af,A60,H⟩:=H
   replace H:(some (af==1))=some r:=H
   have A6:=q_ A60
   clear A60
   obtain rfl:=Option.some.inj H
   go_enter Try.func183,Try.ntmps183
   go_wp2_with (first | ((with_reducible refine gate_dst (N:=1) rfl ?_);refine box_event ?hg (N:=1) ?hd (cs:= #[.int .i64 a0_0, .int .i64 a0_1]) (t:=93) ?hr ?_;(case hd=>rfl);(case hg=>rfl);(case hr=>first | (go_simp;done) | (go_simp;rfl));intro ae hg w7 hbox hb;have aa:=q_ (hbox);have ai:=q_ ((by rw [hg];exact bz_:w.heap.size≤ae));have aj:=q_ ((by rw [hg];exact bz_:w.heap.size≤ae));replace HB:=q_ (bs_ hb);clear hb hbox hg;have aA:w7.cell? ⟨ae,0,none⟩=some (.int .i64 a0_0):=(blk_cell aa.out 0).trans rfl;have aC:w7.cell? ⟨ae,1,none⟩=some (.int .i64 a0_1):=(blk_cell aa.out 1).trans rfl;have aD:=blk_frozen aa.out 0;have aG:=blk_frozen aa.out 1) | ((with_reducible refine gate_callee (f:=117) rfl ?_);refine gL_ 5 Try.func117 #[.int .i64 a0_1, .int .i64 1, .int .i64 1000000000] ?_;(with_reducible refine(impl_within.calls a0_1 1 1000000000 true _ A2.out).mono ?_);rintro e w' ⟨rfl,⟨nd,rfl⟩⟩;refine⟨_,rfl,?_⟩) | (go_at_call 198;(with_reducible refine(impl_upTo.calls a0_0 1000000000 true _ A4.out).mono ?_);rintro e w' ⟨rfl,⟨nd,rfl⟩⟩) | (go_at_call 182;(with_reducible refine(impl_common.calls k a0_0 a0_1 af _ A6.out).mono ?_);rintro e w9 ⟨rfl,hb⟩;replace aa:=q_ (bb_ aa.out hb);replace HB:=q_ (bs_ hb);(try clear hb);(try clear hb2);(try clear hk);(try clear hi)))
   go_ret
   exact⟨by first | rfl | (simp [errW_none,errW_some] <;> rfl) | (simp [*,errW_none,errW_some] <;> rfl),hb_⟩
  ·replace c5:=Bool.eq_false_iff.mpr c5
   subst c5
   have H1:(some false)=some r:=by rw [if_neg (show ¬ (false=true) by decide)] at H;exact H
   clear H
   have H:=H1
   clear H1
   obtain rfl:=Option.some.inj H
   go_enter Try.func183,Try.ntmps183
   go_wp2_with (first | ((with_reducible refine gate_dst (N:=1) rfl ?_);refine box_event ?hg (N:=1) ?hd (cs:= #[.int .i64 a0_0, .int .i64 a0_1]) (t:=93) ?hr ?_;(case hd=>rfl);(case hg=>rfl);(case hr=>first | (go_simp;done) | (go_simp;rfl));intro ae hg w10 hbox hb;have aa:=q_ (hbox);have ai:=q_ ((by rw [hg];exact bz_:w.heap.size≤ae));have aj:=q_ ((by rw [hg];exact bz_:w.heap.size≤ae));replace HB:=q_ (bs_ hb);clear hb hbox hg;have ak:w10.cell? ⟨ae,0,none⟩=some (.int .i64 a0_0):=(blk_cell aa.out 0).trans rfl;have aq:w10.cell? ⟨ae,1,none⟩=some (.int .i64 a0_1):=(blk_cell aa.out 1).trans rfl;have au:=blk_frozen aa.out 0;have av:=blk_frozen aa.out 1) | ((with_reducible refine gate_callee (f:=117) rfl ?_);refine gL_ 5 Try.func117 #[.int .i64 a0_1, .int .i64 1, .int .i64 1000000000] ?_;(with_reducible refine(impl_within.calls a0_1 1 1000000000 true _ A2.out).mono ?_);rintro e w' ⟨rfl,⟨nd,rfl⟩⟩;refine⟨_,rfl,?_⟩) | (go_at_call 198;(with_reducible refine(impl_upTo.calls a0_0 1000000000 false _ A4.out).mono ?_);rintro e w' ⟨rfl,⟨nd,rfl⟩⟩))
   go_ret
   exact⟨by first | rfl | (simp [errW_none,errW_some] <;> rfl) | (simp [*,errW_none,errW_some] <;> rfl),hb_⟩
 ·replace c3:=Bool.eq_false_iff.mpr c3
  subst c3
  have H1:(some false)=some r:=by rw [if_neg (show ¬ (false=true) by decide)] at H;exact H
  clear H
  have H:=H1
  clear H1
  obtain rfl:=Option.some.inj H
  go_enter Try.func183,Try.ntmps183
  go_wp2_with (first | ((with_reducible refine gate_dst (N:=1) rfl ?_);refine box_event ?hg (N:=1) ?hd (cs:= #[.int .i64 a0_0, .int .i64 a0_1]) (t:=93) ?hr ?_;(case hd=>rfl);(case hg=>rfl);(case hr=>first | (go_simp;done) | (go_simp;rfl));intro ae hg w12 hbox hb;have aa:=q_ (hbox);have ai:=q_ ((by rw [hg];exact bz_:w.heap.size≤ae));have aj:=q_ ((by rw [hg];exact bz_:w.heap.size≤ae));replace HB:=q_ (bs_ hb);clear hb hbox hg;have aw:w12.cell? ⟨ae,0,none⟩=some (.int .i64 a0_0):=(blk_cell aa.out 0).trans rfl;have ax:w12.cell? ⟨ae,1,none⟩=some (.int .i64 a0_1):=(blk_cell aa.out 1).trans rfl;have ay:=blk_frozen aa.out 0;have az:=blk_frozen aa.out 1) | ((with_reducible refine gate_callee (f:=117) rfl ?_);refine gL_ 5 Try.func117 #[.int .i64 a0_1, .int .i64 1, .int .i64 1000000000] ?_;(with_reducible refine(impl_within.calls a0_1 1 1000000000 false _ A2.out).mono ?_);rintro e w' ⟨rfl,⟨nd,rfl⟩⟩;refine⟨_,rfl,?_⟩))
  go_ret
  exact⟨by first | rfl | (simp [errW_none,errW_some] <;> rfl) | (simp [*,errW_none,errW_some] <;> rfl),hb_⟩
end Go.Proofs.Ytmpkckiifeikkaa.Pr
end
section
namespace Go.Proofs.Ytmpkckiifeikkaa.Pr
open Go.RowKit Go.Proofs.YtmpkckiifeikkaaW.PrintWords Go.Proofs.YtmpkckiifeikkaaW.PrintLast Go.Proofs.YtmpkckiifeikkaaW.PrintMore
def badU (a n:Int):Bool:=!(decide (-a≤n) && decide (n≤a))
theorem upTo_f (n a:Int) (h0:0≤a) (h1:a≤1099511627776):impl_upTo.f n a=some (!(badU a n)):=by
 unfold impl_upTo.f impl_within.f badU
 rw [Ma.w64 (by omega) (by omega),Bool.not_not]
 by_cases h: -a≤n
 ·rw [if_pos (by omega)];simp [h]
 ·rw [if_neg (by omega)];simp [h]
theorem allUpTo1 (gb:Nat) (a n:Int) (w:World) (h0:0≤a) (h1:a≤1099511627776) (hb:w.cell? ⟨gb,0,none⟩=some (.int .i64 a)):
  Calls Try.prog 197 (#[.int .i64 n]++ #[.pointer (some ⟨gb,0,none⟩)]) w fun e w'=>e= .returned (.bool (badU a n))∧Below w.heap.size w w':=by
 have hf:=upTo_f n a h0 h1
 have HF:=q_ hf
 clear hf h0 h1
 show Calls Try.prog 197 #[.int .i64 n, .pointer (some ⟨gb,0,none⟩)] w _
 generalize badU a n=b at HF ⊢
 go_enter Try.func197,Try.ntmps197
 go_wp2_with fail
 refine(impl_upTo.calls n a _ _ HF.out).mono ?_
 rintro e w' ⟨rfl,⟨nd,rfl⟩⟩
 go_wp2
 go_ret
 refine⟨by simp,pw_below_drewN (Below.refl _ _) _⟩
theorem allUpTo1_enters: ∀args w,(callFunc 197 args).run Try.prog w= .ok (.enter 197 args) w:=enters_fn Try.func197 (by kernel_rfl) rfl
def impl_allUpTo.f (l0:List Int) (a1:Int):Option Bool:=if 0≤a1∧a1≤1099511627776 then some (!(l0.any (badU a1))) else none
theorem impl_allUpTo.calls (A0:Option Addr) (c0:Nat) (l0:List Int) (a1:Int) (r:Bool) (w:World) (hr0:Kd.C (Kd.int .i64) w A0 l0.length l0) (hc0:l0.length≤c0) (h:impl_allUpTo.f l0 a1=some r):
  Calls Try.prog 161 #[.slice A0 l0.length c0, .int .i64 a1] w fun e w'=>e= .returned (.bool r)∧Below w.heap.size w w':=by
 unfold impl_allUpTo.f at h
 split at h
 case isFalse=>cases h
 rename_i ha
 have HR:=q_ hr0
 clear hr0 hc0
 have HV:=q_ (Option.some.inj h)
 clear h
 have hcall:=fun(gb:Nat) W (hW:Below w.heap.size w W) (hgb:gb < W.heap.size) (hcell:W.cell? ⟨gb,0,none⟩=some (.int .i64 a1))=>
  containsFuncInts (badU a1) 197 #[.pointer (some ⟨gb,0,none⟩)] allUpTo1_enters A0 c0 l0 W (Kd.C_below HR.out hW)
   (fun W' x _ hb=>allUpTo1 gb a1 x W' ha.1 ha.2 ((hb.cell (p:=⟨gb,0,none⟩) hgb).trans hcell))
 have HC:=q_ hcall
 clear hcall ha
 generalize l0.any (badU a1)=b at HC HV
 go_enter Try.func161,Try.ntmps161
 go_wp2_with fail
 refine(HC.out _ _ ((Below.refl _ _).alloc (Nat.le_refl _) _) (by simp) (by simp)).mono ?_
 rintro e w' ⟨rfl,hb'⟩
 go_wp2
 go_ret
 exact⟨by rw [← HV.out];rfl,((Below.refl _ _).alloc (Nat.le_refl _) _).trans (hb'.mono (by simp))⟩
end Go.Proofs.Ytmpkckiifeikkaa.Pr
end
section
namespace Go.Proofs.Ytmpkckiifeikkaa.Pr
open Go.RowKit Go.Proofs.YtmpkckiifeikkaaW.PrintWords Go.Proofs.YtmpkckiifeikkaaW.PrintLast Go.Proofs.YtmpkckiifeikkaaW.PrintMore
def badM (row:List Int):Bool:=row.any (badU 20)
theorem isMatrix1 (A:Option Addr) (c:Nat) (x:List Int) (w:World) (hx:Kd.C (Kd.int .i64) w A x.length x) (hc:x.length≤c):
  Calls Try.prog 196 (#[.slice A x.length c]++ #[]) w fun e w'=>e= .returned (.bool (badM x))∧Below w.heap.size w w':=by
 have HX:=q_ hx
 have HC:=q_ hc
 have hf:impl_allUpTo.f x 20=some (!(badM x)):=by unfold impl_allUpTo.f badM;rw [if_pos ⟨by decide,by decide⟩]
 have HF:=q_ hf
 clear hx hc hf
 show Calls Try.prog 196 #[.slice A x.length c] w _
 generalize badM x=b at HF ⊢
 go_enter Try.func196,Try.ntmps196
 go_wp2_with fail
 refine(impl_allUpTo.calls A c x 20 _ _ HX.out HC.out HF.out).mono ?_
 rintro e w' ⟨rfl,hb⟩
 go_wp2
 go_ret
 exact⟨by simp,hb⟩
theorem isMatrix1_enters: ∀args w,(callFunc 196 args).run Try.prog w= .ok (.enter 196 args) w:=enters_fn Try.func196 (by kernel_rfl) rfl
def impl_IsMatrix.f (l0:List (List Int)):Option Bool:=some ((decide (1≤(l0.length:Int)) && decide ((l0.length:Int)≤5)) && !(l0.any (badL l0.length)) && !(l0.any badM))
theorem within_b (n a b:Int):impl_within.f n a b=some (decide (a≤n) && decide (n≤b)):=by
 unfold impl_within.f
 by_cases h:a≤n
 ·rw [if_pos (by omega)];simp [h]
 ·rw [if_neg (by omega)];simp [h]
theorem impl_IsMatrix.calls (A0:Option Addr) (c0:Nat) (l0:List (List Int)) (r:Bool) (w:World) (hr0:Kd.C (Kd.slice 2 (Kd.int .i64)) w A0 l0.length l0) (hc0:l0.length≤c0) (h:impl_IsMatrix.f l0=some r):
  Calls Try.prog 160 #[.slice A0 l0.length c0] w fun e w'=>e= .returned (.bool r)∧Below w.heap.size w w':=by
 have HR:=q_ hr0
 have HC0:=q_ hc0
 have HW:=q_ (within_b (l0.length:Int) 1 5)
 have hsq:impl_isSquare.f l0 (l0.length:Int)=some (!(l0.any (badL l0.length))):=by unfold impl_isSquare.f;simp
 have HS:=q_ hsq
 have hv:=(Option.some.inj h)
 have hcall:=fun W (hW:Below w.heap.size w W)=>containsFuncRows badM 196 #[] isMatrix1_enters A0 c0 l0 W (Kd.C_below HR.out hW) (fun W' A c x _ _ hc hC=>isMatrix1 A c x W' hC hc)
 have HC:=q_ hcall
 have HV:=q_ hv
 clear hr0 hc0 h hsq hv hcall
 generalize l0.any badM=b3 at HC HV
 generalize l0.any (badL l0.length)=b2 at HS HV
 generalize (decide (1≤(l0.length:Int)) && decide ((l0.length:Int)≤5))=b1 at HW HV
 go_enter Try.func160,Try.ntmps160
 go_wp2_with fail
 refine(impl_within.calls _ 1 5 _ _ HW.out).mono ?_
 rintro e w1 ⟨rfl,hd⟩
 have hb1:=hd.below
 have HB1:=q_ hb1
 clear hb1 hd
 cases b1 with
 | false=>
  go_wp2
  go_ret
  exact⟨by rw [← HV.out];rfl,HB1.out⟩
 | true=>
  go_wp2_with fail
  refine(impl_isSquare.calls A0 c0 l0 _ _ _ (Kd.C_below HR.out HB1.out) HC0.out HS.out).mono ?_
  rintro e w2 ⟨rfl,hb2⟩
  have HB2:=q_ (HB1.out.trans (hb2.mono HB1.out.size))
  clear hb2
  cases b2 with
  | true=>
   go_wp2
   go_ret
   exact⟨by rw [← HV.out];rfl,HB2.out⟩
  | false=>
   go_wp2_with fail
   refine(HC.out _ HB2.out).mono ?_
   rintro e w3 ⟨rfl,hb3⟩
   go_wp2
   go_ret
   exact⟨by rw [← HV.out];simp,HB2.out.trans (hb3.mono HB2.out.size)⟩
end Go.Proofs.Ytmpkckiifeikkaa.Pr
end
section
namespace Go.Proofs.Ytmpkckiifeikkaa.Pr
open Go.RowKit Go.Proofs.YtmpkckiifeikkaaW.PrintWords Go.Proofs.YtmpkckiifeikkaaW.PrintLast Go.Proofs.YtmpkckiifeikkaaW.PrintMore
attribute [local go_sem] max2_int min2_int max_two min_two max_three min_three max_four min_four
def impl_IsProblem.f (aa:List (List Int)) (ae:List Int):Option (Bool):=(impl_IsMatrix.f aa).bind fun af=>(if af=true then(if(ae.length:Int)=(aa.length:Int) then((impl_allUpTo.f ae 100).bind fun ag=>(some ag)) else(some false)) else(some false))
theorem impl_IsProblem.calls (ah:Option Addr) (ai:Nat) (ae:List (List Int)) (aj:Option Addr) (ak:Nat) (af:List Int) (r:Bool) (w:World) (ax:Kd.C (Kd.slice 2 (Kd.int .i64)) w ah ae.length ae) (ay:ae.length≤ai) (az:Kd.C (Kd.int .i64) w aj af.length af) (aA:af.length≤ak) (h:impl_IsProblem.f ae af=some r):
  Calls Try.prog 102 #[.agg #[.slice ah ae.length ai, .slice aj af.length ak]] w fun e w'=>e= .returned (.bool r)∧Below w.heap.size w w':=by
 have hu30:=Try.underlying30
 have HR0_0:=q_ ax
 have HC0_0:=q_ ay
 clear ax ay
 have HR0_1:=q_ az
 have HC0_1:=q_ aA
 clear az aA
 have HB:=q_ (Below.refl w.heap.size w)
 have H:((impl_IsMatrix.f ae).bind fun aw=>(if aw=true then(if(af.length:Int)=(ae.length:Int) then((impl_allUpTo.f af 100).bind fun av=>(some av)) else(some false)) else(some false)))=some r:=h
 clear h
 replace H:=Option.bind_eq_some_iff.mp H
 obtain⟨aw,A20,H⟩:=H
 replace H:(if aw=true then(if(af.length:Int)=(ae.length:Int) then((impl_allUpTo.f af 100).bind fun av=>(some av)) else(some false)) else(some false))=some r:=H
 have A2:=q_ A20
 clear A20
 by_cases c3:aw=true
 ·subst c3
  have H1:(if(af.length:Int)=(ae.length:Int) then((impl_allUpTo.f af 100).bind fun av=>(some av)) else(some false))=some r:=by rw [if_pos rfl] at H;exact H
  clear H
  have H:=H1
  clear H1
  by_cases c4:(af.length:Int)=(ae.length:Int)
  ·rw [if_pos c4] at H
   have c4b0:((af.length:Int)==(ae.length:Int))=true:=beq_iff_eq.mpr c4
   have c4b1:((af.length:Int) !=(ae.length:Int))=false:=bne_eq_false_iff_eq.mpr c4
   have c4b2:(af.length==ae.length)=true:=by first | simpa using c4 | (simp at c4 ⊢;omega)
   clear c4
   replace H:=Option.bind_eq_some_iff.mp H
   obtain⟨av,A50,H⟩:=H
   replace H:(some av)=some r:=H
   have A5:=q_ A50
   clear A50
   obtain rfl:=Option.some.inj H
   go_enter Try.func102,Try.ntmps102
   go_wp2_with (first | ((with_reducible refine gate_dst (N:=1) rfl ?_);(try (refine gate_guard (by rfl) ?_;dsimp only));refine box_event ?hg (N:=1) ?hd (cs:= #[.slice ah ae.length ai, .slice aj af.length ak]) (t:=30) ?hr ?_;(case hd=>rfl);(case hg=>rfl);(case hr=>first | (go_simp;done) | (go_simp;rfl));intro ag hg w6 hbox hb;have aa:=q_ (hbox);have aC:=q_ ((by rw [hg];exact bz_:w.heap.size≤ag));have aD:=q_ ((by rw [hg];exact bz_:w.heap.size≤ag));replace HB:=q_ (bs_ hb);clear hb hbox hg;have aY:w6.cell? ⟨ag,0,none⟩=some (.slice ah ae.length ai):=(blk_cell aa.out 0).trans rfl;have aZ:w6.cell? ⟨ag,1,none⟩=some (.slice aj af.length ak):=(blk_cell aa.out 1).trans rfl;have a9:=blk_frozen aa.out 0;have ba:=blk_frozen aa.out 1) | ((with_reducible refine gate_callee (f:=160) rfl ?_);refine gL_ 5 Try.func160 #[.slice ah ae.length ai] ?_;(with_reducible refine(impl_IsMatrix.calls _ _ ae true _ ?aq ?au A2.out).mono ?_);(case aq=>exact cb_ HR0_0.out HB.out);(case au=>exact HC0_0.out);rintro e w8 ⟨rfl,hb⟩;refine⟨_,rfl,?_⟩;replace aa:=q_ (bb_ aa.out hb);replace HB:=q_ (bs_ hb);(try clear hb);(try clear hb2);(try clear hk);(try clear hi);have bg:w8.cell? ⟨ag,0,none⟩=some (.slice ah ae.length ai):=(blk_cell aa.out 0).trans rfl;have bh:w8.cell? ⟨ag,1,none⟩=some (.slice aj af.length ak):=(blk_cell aa.out 1).trans rfl;have bi:=blk_frozen aa.out 0;have bk:=blk_frozen aa.out 1) | (go_at_call 161;(with_reducible refine(impl_allUpTo.calls _ _ af 100 av _ ?aq ?au A5.out).mono ?_);(case aq=>exact cb_ HR0_1.out HB.out);(case au=>exact HC0_1.out);rintro e w10 ⟨rfl,hb⟩;replace aa:=q_ (bb_ aa.out hb);replace HB:=q_ (bs_ hb);(try clear hb);(try clear hb2);(try clear hk);(try clear hi)))
   go_ret
   exact⟨by first | rfl | (simp [errW_none,errW_some] <;> rfl) | (simp [*,errW_none,errW_some] <;> rfl),hb_⟩
  ·rw [if_neg c4] at H
   have c4b0:((af.length:Int)==(ae.length:Int))=false:=beq_eq_false_iff_ne.mpr c4
   have c4b1:((af.length:Int) !=(ae.length:Int))=true:=bne_iff_ne.mpr c4
   have c4b2:(af.length==ae.length)=false:=by first | simpa using c4 | (simp at c4 ⊢;omega)
   obtain rfl:=Option.some.inj H
   go_enter Try.func102,Try.ntmps102
   go_wp2_with (first | ((with_reducible refine gate_dst (N:=1) rfl ?_);(try (refine gate_guard (by rfl) ?_;dsimp only));refine box_event ?hg (N:=1) ?hd (cs:= #[.slice ah ae.length ai, .slice aj af.length ak]) (t:=30) ?hr ?_;(case hd=>rfl);(case hg=>rfl);(case hr=>first | (go_simp;done) | (go_simp;rfl));intro ag hg w11 hbox hb;have aa:=q_ (hbox);have aC:=q_ ((by rw [hg];exact bz_:w.heap.size≤ag));have aD:=q_ ((by rw [hg];exact bz_:w.heap.size≤ag));replace HB:=q_ (bs_ hb);clear hb hbox hg;have aG:w11.cell? ⟨ag,0,none⟩=some (.slice ah ae.length ai):=(blk_cell aa.out 0).trans rfl;have aH:w11.cell? ⟨ag,1,none⟩=some (.slice aj af.length ak):=(blk_cell aa.out 1).trans rfl;have aI:=blk_frozen aa.out 0;have aJ:=blk_frozen aa.out 1) | ((with_reducible refine gate_callee (f:=160) rfl ?_);refine gL_ 5 Try.func160 #[.slice ah ae.length ai] ?_;(with_reducible refine(impl_IsMatrix.calls _ _ ae true _ ?aq ?au A2.out).mono ?_);(case aq=>exact cb_ HR0_0.out HB.out);(case au=>exact HC0_0.out);rintro e w13 ⟨rfl,hb⟩;refine⟨_,rfl,?_⟩;replace aa:=q_ (bb_ aa.out hb);replace HB:=q_ (bs_ hb);(try clear hb);(try clear hb2);(try clear hk);(try clear hi);have aK:w13.cell? ⟨ag,0,none⟩=some (.slice ah ae.length ai):=(blk_cell aa.out 0).trans rfl;have aM:w13.cell? ⟨ag,1,none⟩=some (.slice aj af.length ak):=(blk_cell aa.out 1).trans rfl;have aN:=blk_frozen aa.out 0;have aT:=blk_frozen aa.out 1))
   go_ret
   exact⟨by first | rfl | (simp [errW_none,errW_some] <;> rfl) | (simp [*,errW_none,errW_some] <;> rfl),hb_⟩
 ·replace c3:=Bool.eq_false_iff.mpr c3
  subst c3
  have H1:(some false)=some r:=by rw [if_neg (show ¬ (false=true) by decide)] at H;exact H
  clear H
  have H:=H1
  clear H1
  obtain rfl:=Option.some.inj H
  go_enter Try.func102,Try.ntmps102
  go_wp2_with (first | ((with_reducible refine gate_dst (N:=1) rfl ?_);(try (refine gate_guard (by rfl) ?_;dsimp only));refine box_event ?hg (N:=1) ?hd (cs:= #[.slice ah ae.length ai, .slice aj af.length ak]) (t:=30) ?hr ?_;(case hd=>rfl);(case hg=>rfl);(case hr=>first | (go_simp;done) | (go_simp;rfl));intro ag hg w15 hbox hb;have aa:=q_ (hbox);have aC:=q_ ((by rw [hg];exact bz_:w.heap.size≤ag));have aD:=q_ ((by rw [hg];exact bz_:w.heap.size≤ag));replace HB:=q_ (bs_ hb);clear hb hbox hg;have aU:w15.cell? ⟨ag,0,none⟩=some (.slice ah ae.length ai):=(blk_cell aa.out 0).trans rfl;have aV:w15.cell? ⟨ag,1,none⟩=some (.slice aj af.length ak):=(blk_cell aa.out 1).trans rfl;have aW:=blk_frozen aa.out 0;have aX:=blk_frozen aa.out 1) | ((with_reducible refine gate_callee (f:=160) rfl ?_);refine gL_ 5 Try.func160 #[.slice ah ae.length ai] ?_;(with_reducible refine(impl_IsMatrix.calls _ _ ae false _ ?aq ?au A2.out).mono ?_);(case aq=>exact cb_ HR0_0.out HB.out);(case au=>exact HC0_0.out);rintro e w17 ⟨rfl,hb⟩;refine⟨_,rfl,?_⟩;replace aa:=q_ (bb_ aa.out hb);replace HB:=q_ (bs_ hb);(try clear hb);(try clear hb2);(try clear hk);(try clear hi)))
  go_ret
  exact⟨by first | rfl | (simp [errW_none,errW_some] <;> rfl) | (simp [*,errW_none,errW_some] <;> rfl),hb_⟩
end Go.Proofs.Ytmpkckiifeikkaa.Pr
end
section
namespace Go.Proofs.Ytmpkckiifeikkaa.Pb
open Go.RowKit Go.Proofs.YtmpkckiifeikkaaW.PrintWords Go.Proofs.YtmpkckiifeikkaaW.PrintMore Go.Proofs.Ytmpkckiifeikkaa.Ma Go.Proofs.Ytmpkckiifeikkaa.Pr Go.Proofs.Ytmpkckiifeikkaa.Dt Go.Proofs.Ytmpkckiifeikkaa.Bz Go.Proofs.Ytmpkckiifeikkaa.Cz
theorem sin_eq (x a b:Int):spec_l01In.f x a b=some (decide (a≤x∧x≤b)):=by
 unfold spec_l01In.f
 by_cases h:x ≥ a
 ·rw [if_pos h];congr 1;rw [Bool.eq_iff_iff];simp;omega
 ·rw [if_neg h];congr 1;rw [Bool.eq_iff_iff];simp;omega
theorem head_step {P:Nat→Prop} {i d:Nat} (h:i < d):(∀j,i≤j→j < d→P j)↔P i∧ ∀j,i+1≤j→j < d→P j:=
 ⟨fun q=>⟨q i (Nat.le_refl _) h,fun j h1 h2=>q j (by omega) h2⟩,fun q j h1 h2=>by
  by_cases e:j=i
  ·subst e;exact q.1
  ·exact q.2 j (by omega) h2⟩
theorem no_iff {b:Bool} {p:Prop} (h:b=true↔p) (hp: ¬ p):b=false:=by
 cases b with
 | false=>rfl
 | true=>exact absurd (h.1 rfl) hp
def N20 (x:Int):Prop:= -20≤x∧x≤20
def N100 (x:Int):Prop:= -100≤x∧x≤100
def RowM (M:List (List Int)) (i:Nat):Prop:=(M.getD i []).length=M.length∧ ∀j,0≤j→j < M.length→N20 (en M i j)
structure MatOK (M:List (List Int)):Prop where
 n1:1≤M.length
 n5:M.length≤5
 rows: ∀i,0≤i→i < M.length→RowM M i
structure POK (M:List (List Int)) (q:List Int):Prop where
 mat:MatOK M
 len:q.length=M.length
 num: ∀i,0≤i→i < q.length→N100 (q.getD i 0)
section
variable {M:List (List Int)} (hM:M.length≤5)
include hM
theorem spec_mrows: ∀m i,i+m=M.length→ ∀t:Bool,(t=true↔ ∀u,i≤u→u < M.length→RowM M u)→Ev (fun k=>spec_l01Matrix.l0 k M (M.length:Int) i) t:=by
 intro m
 induction m with
 | zero=>
  intro i hi t ht
  obtain rfl:t=true:=ht.2 (fun u h1 h2=>by omega)
  exact evstep (fun k=>by rw [spec_l01Matrix.l0]) (evneg (by omega) (evc rfl))
 | succ m ih=>
  intro i hi t ht
  have hs:=head_step (P:=RowM M) (i:=i) (d:=M.length) (by omega)
  have ht2:=ht.trans hs
  refine evstep (fun k=>by rw [spec_l01Matrix.l0]) (evpos (by omega) (evpos (by omega) (evpos (by omega) ?_)))
  rw [rdL1]
  by_cases c:(M.getD i []).length=M.length
  ·refine evpos (by omega) ?_
   have cols: ∀p j,j+p=M.length→ ∀t:Bool,(t=true↔(∀v,j≤v→v < M.length→N20 (en M i v))∧ ∀u,i+1≤u→u < M.length→RowM M u)→Ev (fun k=>spec_l01Matrix.l1 k M (M.length:Int) i j) t:=by
    intro p
    induction p with
    | zero=>
     intro j hj t ht
     refine evstep (fun k=>by rw [spec_l01Matrix.l1]) (evneg (by omega) ?_)
     rw [w64 (x:=(i:Int)+1) (by omega) (by omega)]
     exact ih (i+1) (by omega) t (ht.trans ⟨fun h=>h.2,fun h=>⟨fun v h1 h2=>by omega,h⟩⟩)
    | succ p ihp=>
     intro j hj t ht
     have hs2:=head_step (P:=fun v=>N20 (en M i v)) (i:=j) (d:=M.length) (by omega)
     refine evstep (fun k=>by rw [spec_l01Matrix.l1]) ?_
     rw [rdL1]
     refine evpos (by omega) (evpos (by omega) (evpos (by omega) (evpos (by omega) (evpos (by omega) (evsome (sin_eq _ _ _) ?_)))))
     rw [rd_nat,show (M.getD i []).getD j 0=en M i j from rfl,w64 (x:=(j:Int)+1) (by omega) (by omega)]
     by_cases d: -20≤en M i j∧en M i j≤20
     ·exact evpos (decide_eq_true d) (ihp (j+1) (by omega) t (ht.trans ⟨fun h=>⟨(hs2.1 h.1).2,h.2⟩,fun h=>⟨hs2.2 ⟨d,h.1⟩,h.2⟩⟩))
     ·rw [no_iff ht (fun h=>d ((hs2.1 h.1).1))]
      exact evneg (by simpa using d) (evc rfl)
   exact cols M.length 0 (by omega) t (ht2.trans ⟨fun h=>⟨fun v h1 h2=>h.1.2 v h1 h2,h.2⟩,fun h=>⟨⟨c,fun v h1 h2=>h.1 v h1 h2⟩,h.2⟩⟩)
  ·rw [no_iff ht2 (fun h=>c h.1.1)]
   exact evneg (by omega) (evc rfl)
end
theorem spec_mat (M:List (List Int)) (t:Bool) (ht:t=true↔MatOK M):Ev (fun k=>spec_l01Matrix.f k M) t:=by
 unfold spec_l01Matrix.f
 by_cases c1:(M.length:Int) < 1
 ·rw [no_iff ht (fun h=>by have:=h.n1;omega)]
  exact evpos c1 (evstep (fun k=>by rw [spec_l01Matrix.j0]) (evpos rfl (evc rfl)))
 ·refine evneg c1 (evstep (fun k=>by rw [spec_l01Matrix.j0]) ?_)
  by_cases c2:(M.length:Int) > 5
  ·rw [no_iff ht (fun h=>by have:=h.n5;omega)]
   exact evpos (decide_eq_true c2) (evc rfl)
  ·refine evneg (by simpa using c2) ?_
   exact spec_mrows (by omega) M.length 0 (by omega) t (ht.trans ⟨fun h=>h.rows,fun h=>⟨by omega,by omega,h⟩⟩)
open Classical in
theorem spec_is (M:List (List Int)) (q:List Int) (hq:q.length≤1048576) (t:Bool) (ht:t=true↔POK M q):Ev (fun k=>spec_l01Is.f k M q) t:=by
 unfold spec_l01Is.f
 refine evbind (spec_mat M (decide (MatOK M)) (by simp)) ?_
 by_cases m:MatOK M
 ·refine evpos (by simpa using m) (evstep (fun k=>by rw [spec_l01Is.j0]) ?_)
  by_cases c:q.length=M.length
  ·refine evneg (by simp [c]) ?_
   have loop: ∀p i,i+p=q.length→ ∀t:Bool,(t=true↔ ∀u,i≤u→u < q.length→N100 (q.getD u 0))→Ev (fun k=>spec_l01Is.l0 k i M q) t:=by
    intro p
    induction p with
    | zero=>
     intro i hi t ht
     obtain rfl:t=true:=ht.2 (fun u h1 h2=>by omega)
     exact evstep (fun k=>by rw [spec_l01Is.l0]) (evneg (by omega) (evc rfl))
    | succ p ih=>
     intro i hi t ht
     have hs:=head_step (P:=fun u=>N100 (q.getD u 0)) (i:=i) (d:=q.length) (by omega)
     refine evstep (fun k=>by rw [spec_l01Is.l0]) (evpos (by omega) (evpos (by omega) (evsome (sin_eq _ _ _) ?_)))
     rw [rd_nat,w64 (x:=(i:Int)+1) (by omega) (by omega)]
     by_cases d: -100≤q.getD i 0∧q.getD i 0≤100
     ·exact evpos (decide_eq_true d) (ih (i+1) (by omega) t (ht.trans (hs.trans ⟨fun h=>h.2,fun h=>⟨d,h⟩⟩)))
     ·rw [no_iff (ht.trans hs) (fun h=>d h.1)]
      exact evneg (by simpa using d) (evc rfl)
   exact loop q.length 0 (by omega) t (ht.trans ⟨fun h=>h.num,fun h=>⟨m,c,h⟩⟩)
  ·rw [no_iff ht (fun h=>c h.len)]
   exact evpos (by simp;omega) (evc rfl)
 ·rw [no_iff ht (fun h=>m h.mat)]
  exact evneg (by simpa using m) (evstep (fun k=>by rw [spec_l01Is.j0]) (evpos rfl (evc rfl)))
theorem any_false {α:Type} (p:α→Bool) (l:List α):l.any p=false↔ ∀i (h:i < l.length),p l[i]=false:=by
 rw [List.any_eq_false]
 constructor
 ·intro h i hi
  have:=h l[i] (List.getElem_mem hi)
  simpa using this
 ·intro h x hx
  obtain⟨i,hi,rfl⟩:=List.getElem_of_mem hx
  simp [h i hi]
theorem badU_iff (a n:Int):badU a n=false↔ -a≤n∧n≤a:=by unfold badU;simp
theorem any_badU (a:Int) (l:List Int):l.any (badU a)=false↔ ∀i,0≤i→i < l.length→ -a≤l.getD i 0∧l.getD i 0≤a:=by
 rw [any_false]
 constructor
 ·intro h i _ hi
  have:=(badU_iff a _).1 (h i hi)
  simpa [hi] using this
 ·intro h i hi
  have:=h i (Nat.zero_le _) hi
  exact(badU_iff a _).2 (by simpa [hi] using this)
theorem gD {M:List (List Int)} {i:Nat} (h:i < M.length):M.getD i []=M[i]:=by simp [h]
open Classical in
theorem impl_mat (M:List (List Int)):impl_IsMatrix.f M=some (decide (MatOK M)):=by
 unfold impl_IsMatrix.f
 congr 1
 rw [Bool.eq_iff_iff]
 simp only [Bool.and_eq_true,decide_eq_true_eq,Bool.not_eq_true']
 rw [any_false,any_false]
 constructor
 ·rintro ⟨⟨h1,h2⟩,h3⟩
  refine⟨by omega,by omega,fun i _ hi=>?_⟩
  have r1:=h2 i hi
  have r2:=h3 i hi
  unfold badL at r1
  unfold badM at r2
  have e:M[i].length=M.length:=by simp at r1;omega
  refine⟨by rw [gD hi];exact e,fun j _ hj=>?_⟩
  have:=(any_badU 20 M[i]).1 r2 j (Nat.zero_le _) (by omega)
  rw [← gD hi] at this
  exact this
 ·intro h
  refine⟨⟨⟨by have:=h.n1;omega,by have:=h.n5;omega⟩,fun i hi=>?_⟩,fun i hi=>?_⟩
  ·have:=(h.rows i (Nat.zero_le _) hi).1
   rw [gD hi] at this
   unfold badL;simp [this]
  ·have:=h.rows i (Nat.zero_le _) hi
   unfold badM
   refine(any_badU 20 M[i]).2 (fun j h0 hj=>?_)
   have e:=this.1
   rw [gD hi] at e
   have:=this.2 j h0 (by omega)
   unfold N20 en at this
   rwa [gD hi] at this
open Classical in
theorem impl_is (M:List (List Int)) (q:List Int) (t:Bool) (ht:t=true↔POK M q):impl_IsProblem.f M q=some t:=by
 unfold impl_IsProblem.f
 rw [impl_mat,Option.bind_some]
 by_cases m:MatOK M
 ·rw [if_pos (by simpa using m)]
  by_cases c:q.length=M.length
  ·rw [if_pos (by omega)]
   unfold impl_allUpTo.f
   rw [if_pos (by decide),Option.bind_some]
   congr 1
   rw [Bool.eq_iff_iff,ht,Bool.not_eq_true',any_badU]
   exact⟨fun h=>⟨m,c,h⟩,fun h=>h.num⟩
  ·rw [if_neg (by omega),no_iff ht (fun h=>c h.len)]
 ·rw [if_neg (by simpa using m),no_iff ht (fun h=>m h.mat)]
end Go.Proofs.Ytmpkckiifeikkaa.Pb
end
section
namespace Go.Proofs.Ytmpkckiifeikkaa.Pr
open Go.RowKit Go.Proofs.YtmpkckiifeikkaaW.PrintWords Go.Proofs.YtmpkckiifeikkaaW.PrintLast Go.Proofs.YtmpkckiifeikkaaW.PrintMore Go.Proofs.Ytmpkckiifeikkaa.Ma Go.Proofs.Ytmpkckiifeikkaa.Dt Go.Proofs.Ytmpkckiifeikkaa.Lk Go.Proofs.Ytmpkckiifeikkaa.Lt Go.Proofs.Ytmpkckiifeikkaa.Lq
def badV (n:Int):Bool:=!(decide (1≤n) && decide (n≤20))
theorem within_f (n:Int):impl_within.f n 1 20=some (!(badV n)):=by
 unfold impl_within.f badV
 rw [Bool.not_not]
 by_cases h:1≤n
 ·rw [if_pos (by omega)];simp [h]
 ·rw [if_neg (by omega)];simp [h]
theorem isCover1 (n:Int) (w:World):Calls Try.prog 193 (#[.int .i64 n]++ #[]) w fun e w'=>e= .returned (.bool (badV n))∧Below w.heap.size w w':=by
 have HF:=q_ (within_f n)
 show Calls Try.prog 193 #[.int .i64 n] w _
 generalize badV n=b at HF ⊢
 go_enter Try.func193,Try.ntmps193
 go_wp2_with fail
 refine(impl_within.calls n 1 20 _ _ HF.out).mono ?_
 rintro e w' ⟨rfl,⟨nd,rfl⟩⟩
 go_wp2
 go_ret
 refine⟨by simp,pw_below_drewN (Below.refl _ _) _⟩
theorem isCover1_enters: ∀args w,(callFunc 193 args).run Try.prog w= .ok (.enter 193 args) w:=enters_fn Try.func193 (by kernel_rfl) rfl
def cvB (n:Int) (cv:List Int):Bool:=decide ((cv.length:Int)=n) && !(cv.any badV)
theorem isCover_calls (A:Option Addr) (c:Nat) (cv:List Int) (n:Int) (w:World) (hC:Kd.C (Kd.int .i64) w A cv.length cv):
  Calls Try.prog 159 #[.slice A cv.length c, .int .i64 n] w fun e w'=>e= .returned (.bool (cvB n cv))∧Below w.heap.size w w':=by
 have HC:=q_ hC
 have hcall:=fun W (hW:Below w.heap.size w W)=>
  containsFuncInts badV 193 #[] isCover1_enters A c cv W (Kd.C_below HC.out hW) (fun W' x _ hb=>isCover1 x W')
 have HL:=q_ hcall
 clear hcall hC
 unfold cvB
 obtain⟨b,hb⟩: ∃b,cv.any badV=b:=⟨_,rfl⟩
 rw [hb] at HL ⊢
 clear hb HC
 by_cases hl:(cv.length:Int)=n
 ·subst hl
  simp only [decide_true,Bool.true_and]
  generalize cv.length=l at*
  go_enter Try.func159,Try.ntmps159
  go_wp2_with fail
  refine(HL.out _ (Below.refl _ _)).mono ?_
  rintro e w' ⟨rfl,hb'⟩
  go_wp2
  go_ret
  exact⟨rfl,hb'⟩
 ·have hl2:decide ((cv.length:Int)=n)=false:=decide_eq_false hl
  have hl3:((cv.length:Int)==n)=false:=by simpa using hl
  rw [hl2]
  simp only [Bool.false_and]
  clear HL hl2
  generalize cv.length=l at*
  go_enter Try.func159,Try.ntmps159
  go_wp2
  go_ret
  exact⟨rfl,Below.refl _ _⟩
def lkCode (M:List (List Int)) (Q cv:List Int):Int:=if impl_IsProblem.f M Q=some true then(if cvB (Q.length:Int) cv=true then 0 else 2) else 1
def lkR (M:List (List Int)) (Q cv:List Int) (most:Nat):TS × List (List Int) × Bool × Int × Int:=runI Q.length (enL M) (fun i=>cv.getD i 0) (fun i=>Q.getD i 0) most
theorem isP_ok {M:List (List Int)} {Q:List Int} (h:impl_IsProblem.f M Q=some true):Pb.POK M Q:=by
 classical
 have:=Pb.impl_is M Q (decide (Pb.POK M Q)) (by simp)
 rw [h] at this
 injection this with this
 exact of_decide_eq_true this.symm
structure PC (M:List (List Int)) (Q cv:List Int) (n:Nat):Prop where
 lM:M.length=n
 lQ:Q.length=n
 rows: ∀x ∈ M,x.length=n
 pos:0 < n
 le:n≤5
 lcv:cv.length=n
 Mb: ∀i k,i < n→k < n→((enL M) i k).natAbs≤20
 cb: ∀i,i < n→0 < cv.getD i 0∧cv.getD i 0≤20
 qb: ∀i,i < n→(Q.getD i 0).natAbs≤100
theorem pc_of {M:List (List Int)} {Q cv:List Int} (h:Pb.POK M Q) (hc:cvB (Q.length:Int) cv=true):PC M Q cv Q.length:=by
 unfold cvB at hc
 rw [Bool.and_eq_true] at hc
 obtain⟨h1,h2⟩:=hc
 have hl:(cv.length:Int)=(Q.length:Int):=of_decide_eq_true h1
 have ha:cv.any badV=false:=by simpa using h2
 have hml:M.length=Q.length:=h.len.symm
 refine⟨hml,rfl,fun x hx=>?_,by have:=h.mat.n1;omega,by have:=h.mat.n5;omega,by omega,fun i k hi hk=>?_,fun i hi=>?_,fun i hi=>?_⟩
 ·obtain⟨i,hi,rfl⟩:=List.mem_iff_getElem.1 hx
  have:=(h.mat.rows i (Nat.zero_le _) hi).1
  rw [List.getD_eq_getElem?_getD,List.getElem?_eq_getElem hi,Option.getD_some] at this
  omega
 ·have:=(h.mat.rows i (Nat.zero_le _) (by omega)).2 k (Nat.zero_le _) (by omega)
  unfold Pb.N20 at this
  show (((M.getD i []).getD k 0)).natAbs≤20
  change -20≤((M.getD i []).getD k 0)∧((M.getD i []).getD k 0)≤20 at this
  omega
 ·have hi':i < cv.length:=by omega
  have:=(Pb.any_false badV cv).1 ha i hi'
  unfold badV at this
  rw [List.getD_eq_getElem?_getD,List.getElem?_eq_getElem hi',Option.getD_some]
  simp at this
  omega
 ·have:=h.num i (Nat.zero_le _) hi
  unfold Pb.N100 at this
  omega
theorem lkCode_pc {M:List (List Int)} {Q cv:List Int} (h:lkCode M Q cv=0):PC M Q cv Q.length:=by
 unfold lkCode at h
 by_cases h1:impl_IsProblem.f M Q=some true
 ·rw [if_pos h1] at h
  by_cases h2:cvB (Q.length:Int) cv=true
  ·exact pc_of (isP_ok h1) h2
  ·rw [if_neg h2] at h;cases h
 ·rw [if_neg h1] at h;cases h
theorem runOf_calls (A0:Option Addr) (c0:Nat) (M:List (List Int)) (A1:Option Addr) (c1:Nat) (Q:List Int) (A2:Option Addr) (c2:Nat) (cv:List Int) (w:World)
  (hC0:Kd.C (Kd.slice 2 (Kd.int .i64)) w A0 M.length M) (hc0:M.length≤c0) (hC1:Kd.C (Kd.int .i64) w A1 Q.length Q) (hc1:Q.length≤c1) (hC2:Kd.C (Kd.int .i64) w A2 cv.length cv) (hc2:cv.length≤c2):
  Calls Try.prog 97 #[.agg #[.slice A0 M.length c0, .slice A1 Q.length c1], .slice A2 cv.length c2] w fun e w'=>
   ((lkCode M Q cv≠0∧e= .returned (.tuple #[.pointer none, .int .i64 (lkCode M Q cv)]))∨(lkCode M Q cv=0∧ ∃p,e= .returned (.tuple #[.pointer (some ⟨p,0,none⟩), .int .i64 (lkR M Q cv 201).2.2.2.2])∧PlE w w' p Q.length (2*Q.length+2) (lkR M Q cv 201).1 (lkR M Q cv 201).2.1 (lkR M Q cv 201).2.2.1 (lkR M Q cv 201).2.2.2.1 (lkR M Q cv 201).2.2.2.2))∧Below w.heap.size w w':=by
 have HB:=q_ (Below.refl w.heap.size w)
 have HC0:=q_ hC0
 have HC1:=q_ hC1
 have HC2:=q_ hC2
 have H0:=q_ hc0
 have H1:=q_ hc1
 have H2:=q_ hc2
 obtain⟨b,hb⟩: ∃b,impl_IsProblem.f M Q=some b:=by
  classical
  exact⟨_,Pb.impl_is M Q (decide (Pb.POK M Q)) (by simp)⟩
 have HP:=q_ hb
 have HCD:Aside0 (lkCode M Q cv=if b=true then(if cvB (Q.length:Int) cv=true then 0 else 2) else 1):=⟨by
  unfold lkCode
  rw [hb]
  cases b <;> simp⟩
 clear hC0 hC1 hC2 hc0 hc1 hc2 hb
 obtain⟨cd,hcd⟩: ∃cd,lkCode M Q cv=cd:=⟨_,rfl⟩
 rw [hcd]
 rw [hcd] at HCD
 have HCD0:=q_ hcd
 clear hcd
 obtain⟨R,hR⟩: ∃R,lkR M Q cv 201=R:=⟨_,rfl⟩
 rw [hR]
 have HR:=q_ hR
 clear hR
 go_enter Try.func97,Try.ntmps97
 go_wp2_with (first | ((with_reducible refine gate_dst (N:=2) rfl ?_);refine box_event ?hg (N:=2) ?hd (cs:= #[.slice A0 M.length c0, .slice A1 Q.length c1]) (t:=30) ?hr ?_;(case hd=>rfl);(case hg=>rfl);(case hr=>first | (go_simp;done) | (go_simp;rfl));intro g2 hg w2 hbox hb;replace HB:=q_ (below_step HB.out hb);have B2:=q_ hbox;have hz0:=cz_ B2 0;have hz1:=cz_ B2 1;clear hb hbox hg))
 refine(impl_IsProblem.calls A0 c0 M A1 c1 Q b w2 (Kd.C_below HC0.out HB.out) H0.out (Kd.C_below HC1.out HB.out) H1.out HP.out).mono ?_
 rintro e w3 ⟨rfl,hb⟩
 replace HB:=q_ (below_step HB.out hb)
 replace B2:=q_ (blk_below B2.out hb)
 clear hb hz0 hz1
 have hz1:=cz_ B2 1
 cases b with
 | false=>
  have e1:cd=1:=by have:=HCD.out;simpa using this
  subst e1
  go_wp2
  go_ret2
  exact⟨.inl ⟨by decide,rfl⟩,HB.out⟩
 | true=>
  go_wp2_with fail
  refine(isCover_calls A2 c2 cv (Q.length:Int) w3 (Kd.C_below HC2.out HB.out)).mono ?_
  obtain⟨cb,hcb⟩: ∃cb,cvB (Q.length:Int) cv=cb:=⟨_,rfl⟩
  rw [hcb]
  rw [hcb] at HCD
  have HCB:=q_ hcb
  clear hcb
  rintro e w4 ⟨rfl,hb⟩
  replace HB:=q_ (below_step HB.out hb)
  replace B2:=q_ (blk_below B2.out hb)
  clear hb hz1
  have hz0:=cz_ B2 0
  have hz1:=cz_ B2 1
  cases cb with
  | false=>
   have e1:cd=2:=by have:=HCD.out;simpa using this
   subst e1
   go_wp2
   go_ret2
   exact⟨.inl ⟨by decide,rfl⟩,HB.out⟩
  | true=>
   have e1:cd=0:=by have:=HCD.out;simpa using this
   subst e1
   have HPC:=q_ (lkCode_pc HCD0.out)
   obtain⟨N,hN⟩: ∃N:Nat,N=201:=⟨_,rfl⟩
   have hrun:=run_calls A0 c0 M A1 c1 Q A2 c2 cv N w4 Q.length (Kd.C_below HC0.out HB.out) (Kd.C_below HC1.out HB.out) (Kd.C_below HC2.out HB.out) H0.out H1.out H2.out HPC.out.lM rfl HPC.out.rows HPC.out.pos HPC.out.le HPC.out.lcv HPC.out.Mb HPC.out.cb HPC.out.qb R (by rw [hN, ← HR.out];unfold lkR;rfl)
   have e201:(N:Int)=201:=by omega
   rw [e201] at hrun
   have HRUN:=q_ hrun
   clear hrun e201 hN
   go_wp2_with fail
   refine HRUN.out.mono ?_
   rintro e w5 ⟨p,rfl,hP,hb⟩
   have HPL:=q_ (hP.base HB.out.size)
   replace HB:=q_ (below_step HB.out hb)
   replace B2:=q_ (blk_below B2.out hb)
   clear hP hb hz0 hz1 HRUN
   obtain⟨cR,hcR⟩: ∃c,R.2.2.2.2=c:=⟨_,rfl⟩
   rw [hcR] at HPL
   have HCR:=q_ hcR
   clear hcR
   go_wp2
   have HPD:=q_ (HPL.out.mv (below_drew (Below.refl w5.heap.size w5)))
   replace HB:=q_ (below_step HB.out (below_drew (Below.refl w5.heap.size w5)))
   obtain⟨lo,hi,t,u1,h1,h2,h3,hT,hB,hS⟩:=HPD.out
   have hc4:=cz_ ⟨hB⟩ 4
   clear h1 h2 h3 hT hB hS HPL
   refine st_ (n:=7) (S:=fun w'=>w'.cell? ⟨p,4,none⟩=some (.int .i64 cR)) (ds:= []) hc4 (fun hHeld=>?_)
   generalize w5.drew=w6 at HB HPD hHeld ⊢
   clear hc4
   refine pu_ 0 21 ?_;refine pu_ 1 22 ?_;refine pu_ 2 23 ?_;refine pu_ 3 24 ?_;refine tk_ 4 25 ?_;refine pu_ 5 4 ?_;refine pu_ 6 5 ?_
   refine done_ (by kernel_rfl) ?_
   go_wp2
   go_ret2
   exact⟨⟨p,by rw [HCR.out];rfl,by rw [HCR.out];exact HPD.out⟩,HB.out⟩
end Go.Proofs.Ytmpkckiifeikkaa.Pr
end
section
namespace Go.Proofs.Ytmpkckiifeikkaa.Pr
open Go.RowKit Go.Proofs.YtmpkckiifeikkaaW.PrintWords Go.Proofs.YtmpkckiifeikkaaW.PrintLast Go.Proofs.YtmpkckiifeikkaaW.PrintMore
attribute [local go_sem] max2_int min2_int max_two min_two max_three min_three max_four min_four
mutual
def spec_l05Run.l0:Nat→List Int→Int→Int→List (List Int)→Bool→Int→Int→List (List Int)→List Int→List (List Int)→Int→List Int→Option ((List (List Int)) × Int × List Int × (List (List Int)) × Int × Bool)
 | 0,_,_,_,_,_,_,_,_,_,_,_,_=>none
 | k+1,x1,x2,x11,x12,x13,x14,x15,ah,ag,ae,af,aa=>if x15 < (ag.length:Int) then(if x13=true then(if 0≤x15 then(if x15 < (x1.length:Int) then(if 0≤x14 then(if x14 < (x1.length:Int) then((spec_l05Key.f k ae af aa x15 x14 (rd x1 x15) (rd x1 x14)).bind fun aq=>(if aq=true then(spec_l05Run.l0 k x1 x2 x11 x12 true x15 (wrap64 (x15+1)) ah ag ae af aa) else(spec_l05Run.l0 k x1 x2 x11 x12 true x14 (wrap64 (x15+1)) ah ag ae af aa))) else(none)) else(none)) else(none)) else(none)) else(if 0≤x15 then(if x15 < (x1.length:Int) then(if 0≤x14 then(if x14 < (x1.length:Int) then((spec_l05Key.f k ae af aa x15 x14 (rd x1 x15) (rd x1 x14)).bind fun au=>(if au=true then(spec_l05Run.l0 k x1 x2 x11 x12 (decide ((rd ag x15) < 0)) x15 (wrap64 (x15+1)) ah ag ae af aa) else(spec_l05Run.l0 k x1 x2 x11 x12 (decide ((rd ag x15) < 0)) x14 (wrap64 (x15+1)) ah ag ae af aa))) else(none)) else(none)) else(none)) else(none))) else(if x13=true then(spec_l05Run.l1 k x2 x11 x12 x14 (wrap64 (2*x11)) ae af aa) else(some (ae,af,aa,x12,(-1),true)))
def spec_l05Run.l1:Nat→Int→Int→List (List Int)→Int→Int→List (List Int)→Int→List Int→Option ((List (List Int)) × Int × List Int × (List (List Int)) × Int × Bool)
 | 0,_,_,_,_,_,_,_,_=>none
 | k+1,x2,x11,x12,x14,x16,ae,af,aa=>if(x12.length:Int) < x2 then(if x16 < (wrap64 (2*x11)) then((spec_l05Row.f k ae af aa x16).bind fun aj=>(if aj < 0 then(some (ae,af,aa,x12,x16,false)) else(spec_l05Run.j2 k x2 x11 x12 aj x16 ae af aa))) else(spec_l05Run.j2 k x2 x11 x12 x14 x16 ae af aa)) else(some (ae,af,aa,x12,x16,false))
def spec_l05Run.j2:Nat→Int→Int→List (List Int)→Int→Int→List (List Int)→Int→List Int→Option ((List (List Int)) × Int × List Int × (List (List Int)) × Int × Bool)
 | 0,_,_,_,_,_,_,_,_=>none
 | k+1,x2,x11,x12,x14,x16,ae,af,aa=>if 0≤x14 then(if x14 < (aa.length:Int) then(if x12.length < 5864062014805 then((some (x12++ [(([x16,rd aa x14]:List Int))]:List (List Int))).bind fun ak=>((spec_l05Pivot.f ae af aa x14 x16).bind fun ai=>(if(rd aa x14)=(wrap64 (2*x11)) then(some (ai.1,ai.2.1,ai.2.2,ak,(-1),true)) else((spec_l05Partner.f (rd aa x14) x11).bind fun av=>(spec_l05Run.l1 k x2 x11 ak x14 av ai.1 ai.2.1 ai.2.2))))) else(none)) else(none)) else(none)
end
def spec_l05Run.f (k:Nat) (af:List (List Int)) (ae:List Int) (l1:List Int) (a2:Int):Option ((List (List Int)) × Int × List Int × (List (List Int)) × Int × Bool):=(spec_l05Begin.f k af ae l1).bind fun aa=>(spec_l05Run.l0 k l1 a2 (ae.length:Int) (([]:List (List Int))) false 0 0 af ae aa.1 aa.2.1 aa.2.2)
theorem spec_l05Run.mono_l: ∀k,(∀y0 y1 y2 y3 y4 y5 y6 y7 y8 y9 y10 y11,LeO (spec_l05Run.l0 k y0 y1 y2 y3 y4 y5 y6 y7 y8 y9 y10 y11) (spec_l05Run.l0 (k+1) y0 y1 y2 y3 y4 y5 y6 y7 y8 y9 y10 y11))∧(∀y0 y1 y2 y3 y4 y5 y6 y7,LeO (spec_l05Run.l1 k y0 y1 y2 y3 y4 y5 y6 y7) (spec_l05Run.l1 (k+1) y0 y1 y2 y3 y4 y5 y6 y7))∧(∀y0 y1 y2 y3 y4 y5 y6 y7,LeO (spec_l05Run.j2 k y0 y1 y2 y3 y4 y5 y6 y7) (spec_l05Run.j2 (k+1) y0 y1 y2 y3 y4 y5 y6 y7))
 | 0=>⟨fun _ _ _ _ _ _ _ _ _ _ _ _ r h=>by simp [spec_l05Run.l0] at h,fun _ _ _ _ _ _ _ _ r h=>by simp [spec_l05Run.l1] at h,fun _ _ _ _ _ _ _ _ r h=>by simp [spec_l05Run.j2] at h⟩
 | k+1=>by
  obtain⟨ih0,ih1,ih2⟩:=spec_l05Run.mono_l k
  refine⟨?_,?_,?_⟩
  ·intro y0 y1 y2 y3 y4 y5 y6 y7 y8 y9 y10 y11
   unfold spec_l05Run.l0
   repeat' first
   | (with_reducible exact ih0 _ _ _ _ _ _ _ _ _ _ _ _)
   | (with_reducible exact ih1 _ _ _ _ _ _ _ _)
   | (with_reducible exact ih2 _ _ _ _ _ _ _ _)
   | (with_reducible exact spec_l05Begin.mono _ _ _ _)
   | (with_reducible exact spec_l05Key.mono _ _ _ _ _ _ _ _)
   | (with_reducible exact spec_l05Row.mono _ _ _ _ _)
   | (with_reducible exact LeO.refl _)
   | (with_reducible exact LeO.none _)
   | (with_reducible refine LeO.ite ?_ ?_)
   | (with_reducible refine LeO.bind ?_ (fun _=>?_))
   | exact ih0 _ _ _ _ _ _ _ _ _ _ _ _
   | exact ih1 _ _ _ _ _ _ _ _
   | exact ih2 _ _ _ _ _ _ _ _
   | exact spec_l05Begin.mono _ _ _ _
   | exact spec_l05Key.mono _ _ _ _ _ _ _ _
   | exact spec_l05Row.mono _ _ _ _ _
   | exact LeO.none _
   | refine LeO.ite ?_ ?_
   | refine LeO.bind ?_ (fun _=>?_)
  ·intro y0 y1 y2 y3 y4 y5 y6 y7
   unfold spec_l05Run.l1
   repeat' first
   | (with_reducible exact ih0 _ _ _ _ _ _ _ _ _ _ _ _)
   | (with_reducible exact ih1 _ _ _ _ _ _ _ _)
   | (with_reducible exact ih2 _ _ _ _ _ _ _ _)
   | (with_reducible exact spec_l05Begin.mono _ _ _ _)
   | (with_reducible exact spec_l05Key.mono _ _ _ _ _ _ _ _)
   | (with_reducible exact spec_l05Row.mono _ _ _ _ _)
   | (with_reducible exact LeO.refl _)
   | (with_reducible exact LeO.none _)
   | (with_reducible refine LeO.ite ?_ ?_)
   | (with_reducible refine LeO.bind ?_ (fun _=>?_))
   | exact ih0 _ _ _ _ _ _ _ _ _ _ _ _
   | exact ih1 _ _ _ _ _ _ _ _
   | exact ih2 _ _ _ _ _ _ _ _
   | exact spec_l05Begin.mono _ _ _ _
   | exact spec_l05Key.mono _ _ _ _ _ _ _ _
   | exact spec_l05Row.mono _ _ _ _ _
   | exact LeO.none _
   | refine LeO.ite ?_ ?_
   | refine LeO.bind ?_ (fun _=>?_)
  ·intro y0 y1 y2 y3 y4 y5 y6 y7
   unfold spec_l05Run.j2
   repeat' first
   | (with_reducible exact ih0 _ _ _ _ _ _ _ _ _ _ _ _)
   | (with_reducible exact ih1 _ _ _ _ _ _ _ _)
   | (with_reducible exact ih2 _ _ _ _ _ _ _ _)
   | (with_reducible exact spec_l05Begin.mono _ _ _ _)
   | (with_reducible exact spec_l05Key.mono _ _ _ _ _ _ _ _)
   | (with_reducible exact spec_l05Row.mono _ _ _ _ _)
   | (with_reducible exact LeO.refl _)
   | (with_reducible exact LeO.none _)
   | (with_reducible refine LeO.ite ?_ ?_)
   | (with_reducible refine LeO.bind ?_ (fun _=>?_))
   | exact ih0 _ _ _ _ _ _ _ _ _ _ _ _
   | exact ih1 _ _ _ _ _ _ _ _
   | exact ih2 _ _ _ _ _ _ _ _
   | exact spec_l05Begin.mono _ _ _ _
   | exact spec_l05Key.mono _ _ _ _ _ _ _ _
   | exact spec_l05Row.mono _ _ _ _ _
   | exact LeO.none _
   | refine LeO.ite ?_ ?_
   | refine LeO.bind ?_ (fun _=>?_)
theorem spec_l05Run.mono: ∀a0 a1 a2 a3 k,LeO (spec_l05Run.f k a0 a1 a2 a3) (spec_l05Run.f (k+1) a0 a1 a2 a3):=by
 intro a0 a1 a2 a3 k
 obtain⟨ih0,ih1,ih2⟩:=spec_l05Run.mono_l k
 unfold spec_l05Run.f
 repeat' first
   | (with_reducible exact ih0 _ _ _ _ _ _ _ _ _ _ _ _)
   | (with_reducible exact ih1 _ _ _ _ _ _ _ _)
   | (with_reducible exact ih2 _ _ _ _ _ _ _ _)
   | (with_reducible exact spec_l05Begin.mono _ _ _ _)
   | (with_reducible exact spec_l05Key.mono _ _ _ _ _ _ _ _)
   | (with_reducible exact spec_l05Row.mono _ _ _ _ _)
   | (with_reducible exact LeO.refl _)
   | (with_reducible exact LeO.none _)
   | (with_reducible refine LeO.ite ?_ ?_)
   | (with_reducible refine LeO.bind ?_ (fun _=>?_))
   | exact ih0 _ _ _ _ _ _ _ _ _ _ _ _
   | exact ih1 _ _ _ _ _ _ _ _
   | exact ih2 _ _ _ _ _ _ _ _
   | exact spec_l05Begin.mono _ _ _ _
   | exact spec_l05Key.mono _ _ _ _ _ _ _ _
   | exact spec_l05Row.mono _ _ _ _ _
   | exact LeO.none _
   | refine LeO.ite ?_ ?_
   | refine LeO.bind ?_ (fun _=>?_)
def spec_l05Run.T1:Bool × List (List Nat × List Nat):=(true, [([], []),([], []),([0,1], [0,1]),([], []),([3], [3]),([4], [4]),([], []),([], []),([7,2,2,0,1,2,7], [2,7]),([5,8,0,1,2,3,4,5,7,8], [5]),([6,9,0,1,2,3,4,5,6,7,8,9], [6])])
def spec_l05Run.B1:List Nat:= [0,0,3,0,8,24,0,0,135,447,1023]
theorem spec_l05Run.tab1:rtab .any (opsOf Try.f95 1)=spec_l05Run.T1:=by kernel_rfl
theorem spec_l05Run.bits1:waitsOk spec_l05Run.T1.2 spec_l05Run.B1=true:=by kernel_rfl
def spec_l05Run.T7:Bool × List (List Nat × List Nat):=(true, [([], []),([], []),([], []),([], []),([], []),([3,4], [3,4]),([5], [5]),([], []),([], []),([7,8], [7,8]),([9], [9]),([0,1,2,6,10], [0,1,2,6,10])])
def spec_l05Run.B7:List Nat:= [0,0,0,0,0,24,56,0,0,384,896,2047]
theorem spec_l05Run.tab7:rtab .any (opsOf Try.f95 7)=spec_l05Run.T7:=by kernel_rfl
theorem spec_l05Run.bits7:waitsOk spec_l05Run.T7.2 spec_l05Run.B7=true:=by kernel_rfl
theorem spec_l05Run.calls (k:Nat) (aN:Option Addr) (aT:Nat) (aC:List (List Int)) (aU:Option Addr) (aV:Nat) (aq:List Int) (A1:Option Addr) (c1:Nat) (l1:List Int) (a2:Int) (r1:List (List Int)) (r2:Int) (r3:List Int) (r4:List (List Int)) (r5:Int) (r6:Bool) (w:World) (eC:Kd.C (Kd.slice 2 (Kd.int .i64)) w aN aC.length aC) (eD:aC.length≤aT) (eF:Kd.C (Kd.int .i64) w aU aq.length aq) (eG:aq.length≤aV) (hr1:Kd.C (Kd.int .i64) w A1 l1.length l1) (hc1:l1.length≤c1) (h:spec_l05Run.f k aC aq l1 a2=some (r1,r2,r3,r4,r5,r6)):
  Calls Try.prog 95 #[.agg #[.slice aN aC.length aT, .slice aU aq.length aV], .slice A1 l1.length c1, .int .i64 a2] w fun e w'=> ∃v0_ v2_ v3_:Value,e= .returned (.tuple #[.agg #[v0_, .int .i64 r2,v2_],v3_, .int .i64 r5, .bool r6])∧Kd.S (Kd.slice 2 (Kd.int .i64)) 23 w' w.heap.size (fun k_=>some k_≠(v2_:Value).ownBlock∧some k_≠(v3_:Value).ownBlock) v0_ r1∧Kd.R (Kd.int .i64) 2 w' w.heap.size (fun _=>True) v2_ r3∧Kd.S (Kd.slice 2 (Kd.int .i64)) 23 w' w.heap.size (fun k_=>some k_≠(v0_:Value).ownBlock∧some k_≠(v2_:Value).ownBlock) v3_ r4∧Below w.heap.size w w':=by
 have hu30:=Try.underlying30
 have hu100:=Try.underlying100
 have HR0_0:=q_ eC
 have HC0_0:=q_ eD
 clear eC eD
 have HR0_1:=q_ eF
 have HC0_1:=q_ eG
 clear eF eG
 have HR1:=q_ hr1
 have HC1:=q_ hc1
 clear hr1 hc1
 have HB:=q_ (Below.refl w.heap.size w)
 have H:((spec_l05Begin.f k aC aq l1).bind fun dO=>(spec_l05Run.l0 k l1 a2 (aq.length:Int) (([]:List (List Int))) false 0 0 aC aq dO.1 dO.2.1 dO.2.2))=some (r1,r2,r3,r4,r5,r6):=h
 clear h
 replace H:=Option.bind_eq_some_iff.mp H
 obtain⟨⟨aJ,aK,aM⟩,A40,H⟩:=H
 replace H:(spec_l05Run.l0 k l1 a2 (aq.length:Int) (([]:List (List Int))) false 0 0 aC aq aJ aK aM)=some (r1,r2,r3,r4,r5,r6):=H
 have A4:=q_ A40
 clear A40
 obtain⟨bv,hy235⟩: ∃y_:List (List Int),y_=(([]:List (List Int))):=⟨_,rfl⟩
 replace H:(spec_l05Run.l0 k l1 a2 (aq.length:Int) bv false 0 0 aC aq aJ aK aM)=some (r1,r2,r3,r4,r5,r6):=by first | (rw [hy235];with_reducible exact H) | (have H2_:=(Option.bind_some _ _).symm.trans H;rw [hy235];with_reducible exact H2_) | (have H2_:=(Option.bind_some _ _).symm.trans H;with_reducible exact H2_) | with_reducible exact H | (rw [hy235];exact H) | exact H
 have bO:=q_ hy235
 clear hy235
 have H':=q_ H
 clear H
 go_enter Try.func95,Try.ntmps95
 try go_wp2_with (first | ((with_reducible refine gate_dst (N:=3) rfl ?_);refine box_event ?hg (N:=3) ?hd (cs:= #[.slice aN aC.length aT, .slice aU aq.length aV]) (t:=30) ?hr ?_;(case hd=>rfl);(case hg=>rfl);(case hr=>first | (go_simp;done) | (go_simp;rfl));intro au hg w5 hbox hb;have af:=q_ (hbox);have kx:=q_ ((by rw [hg];exact bz_:w.heap.size≤au));have ky:=q_ ((by rw [hg];exact bz_:w.heap.size≤au));replace HB:=q_ (bs_ hb);clear hb hbox hg) | ((with_reducible refine gate_dst (N:=6) rfl ?_);refine box_event ?hg (N:=6) ?hd (cs:= #[.slice none 0 0, .int .i64 0, .slice none 0 0]) (t:=100) ?hr ?_;(case hd=>rfl);(case hg=>rfl);(case hr=>first | (go_simp;done) | (go_simp;rfl));intro ak hg w6 hbox hb;have ai:=q_ (hbox);have kz:=q_ ((by rw [hg];exact bz_:w.heap.size≤ak));have kC:=q_ ((by rw [hg];exact bz_:w.heap.size≤ak));have bD:=q_ ((by rw [hg];exact lt_ af.out:au≠ak));have bE:=q_ ((by rw [hg];exact gt_ af.out:ak≠au));replace af:=q_ (bb_ af.out hb);replace HB:=q_ (bs_ hb);clear hb hbox hg))
 replace af:=q_ (blk_drew af.out)
 replace ai:=q_ (blk_drew ai.out)
 replace HB:=q_ (below_drew1 HB.out)
 refine st_ (n:=11) (S:=fun w'=>w'.cell? ⟨au,0,none⟩=some (.slice aN aC.length aT)∧w'.cell? ⟨au,1,none⟩=some (.slice aU aq.length aV)) (ds:= []) ⟨(blk_cell af.out 0).trans rfl,(blk_cell af.out 1).trans rfl⟩ (fun hHeld=>?_);refine with_tabW spec_l05Run.tab1 spec_l05Run.bits1 (fun HT_ HW_=>?_)
 generalize w6.drew=w7 at af ai HB hHeld ⊢
 refine pu_ 1 19 ?_;refine pu_ 3 21 ?_;refine tk_ 0 18 ?_;refine tk_ 4 22 ?_;refine pu_ 5 23 ?_
 refine join_ (σ:=Value × Value × Value × Nat) 1 (fm 11 1023) (fun s_=> [(20, .agg #[s_.1, .int .i64 aK,s_.2.1]),(24,s_.2.2.1),(10, .pointer (some ⟨s_.2.2.2,0,none⟩)),(11, .int .i64 (aq.length:Int))]) (fun s_ w'=>(w'.cell? ⟨au,0,none⟩=some (.slice aN aC.length aT)∧w'.cell? ⟨au,1,none⟩=some (.slice aU aq.length aV))∧(Kd.S (Kd.slice 2 (Kd.int .i64)) 23 w' w.heap.size (fun k_=>some k_≠(s_.2.1:Value).ownBlock∧some k_≠(s_.2.2.1:Value).ownBlock) s_.1 aJ)∧(Kd.R (Kd.int .i64) 2 w' w.heap.size (fun _=>True) s_.2.1 aM)∧(Kd.S (Kd.slice 2 (Kd.int .i64)) 23 w' w.heap.size (fun k_=>some k_≠(s_.1:Value).ownBlock∧some k_≠(s_.2.1:Value).ownBlock) s_.2.2.1 bv)∧(w'.heap[au]?=some (.cells #[.slice aN aC.length aT, .slice aU aq.length aV] 30 (0,0)))∧(w'.heap[ak]?=some (.cells #[.slice none 0 0, .int .i64 0, .slice none 0 0] 100 (0,0)))∧(w'.heap[s_.2.2.2]?=some (.cells #[s_.1, .int .i64 aK,s_.2.1] 100 (0,0)))∧(w.heap.size≤s_.2.2.2)∧(w.heap.size≤s_.2.2.2)∧(au≠s_.2.2.2)∧(s_.2.2.2≠au)∧(ak≠s_.2.2.2)∧(s_.2.2.2≠ak)∧(Below w.heap.size w w')) ?_ ?_
 rotate_left
 ·intro df
  refine join_ (σ:=Value × Value × Value × Nat) 3 (fm 11 255) (fun s_=> [(20, .agg #[s_.1, .int .i64 aK,s_.2.1]),(24,s_.2.2.1),(10, .pointer (some ⟨s_.2.2.2,0,none⟩))]) (fun s_ w'=>(w'.cell? ⟨au,0,none⟩=some (.slice aN aC.length aT)∧w'.cell? ⟨au,1,none⟩=some (.slice aU aq.length aV))∧(Kd.S (Kd.slice 2 (Kd.int .i64)) 23 w' w.heap.size (fun k_=>some k_≠(s_.2.1:Value).ownBlock∧some k_≠(s_.2.2.1:Value).ownBlock) s_.1 aJ)∧(Kd.R (Kd.int .i64) 2 w' w.heap.size (fun _=>True) s_.2.1 aM)∧(Kd.S (Kd.slice 2 (Kd.int .i64)) 23 w' w.heap.size (fun k_=>some k_≠(s_.1:Value).ownBlock∧some k_≠(s_.2.1:Value).ownBlock) s_.2.2.1 bv)∧(w'.heap[au]?=some (.cells #[.slice aN aC.length aT, .slice aU aq.length aV] 30 (0,0)))∧(w'.heap[ak]?=some (.cells #[.slice none 0 0, .int .i64 0, .slice none 0 0] 100 (0,0)))∧(w'.heap[s_.2.2.2]?=some (.cells #[.slice none 0 0, .int .i64 0, .slice none 0 0] 100 (0,0)))∧(w.heap.size≤s_.2.2.2)∧(w.heap.size≤s_.2.2.2)∧(au≠s_.2.2.2)∧(s_.2.2.2≠au)∧(ak≠s_.2.2.2)∧(s_.2.2.2≠ak)∧(Below w.heap.size w w')) ?_ ?_
  rotate_left
  ·intro cT
   refine join_ (σ:=Value × Value × Nat) 2 (fm 11 959) (fun s_=> [(20, .agg #[s_.1, .int .i64 aK,s_.2.1]),(10, .pointer (some ⟨s_.2.2,0,none⟩)),(11, .int .i64 (aq.length:Int))]) (fun s_ w'=>(w'.cell? ⟨au,0,none⟩=some (.slice aN aC.length aT)∧w'.cell? ⟨au,1,none⟩=some (.slice aU aq.length aV))∧(Kd.S (Kd.slice 2 (Kd.int .i64)) 23 w' w.heap.size (fun k_=>some k_≠(s_.2.1:Value).ownBlock) s_.1 aJ)∧(Kd.R (Kd.int .i64) 2 w' w.heap.size (fun _=>True) s_.2.1 aM)∧(w'.heap[au]?=some (.cells #[.slice aN aC.length aT, .slice aU aq.length aV] 30 (0,0)))∧(w'.heap[ak]?=some (.cells #[.slice none 0 0, .int .i64 0, .slice none 0 0] 100 (0,0)))∧(w'.heap[s_.2.2]?=some (.cells #[s_.1, .int .i64 aK,s_.2.1] 100 (0,0)))∧(w.heap.size≤s_.2.2)∧(w.heap.size≤s_.2.2)∧(au≠s_.2.2)∧(s_.2.2≠au)∧(ak≠s_.2.2)∧(s_.2.2≠ak)∧(Below w.heap.size w w')) ?_ ?_
   rotate_left
   ·intro eM
    refine join_ (σ:=Value × Value × Value) 4 (fm 11 127) (fun s_=> [(20, .agg #[s_.1, .int .i64 aK,s_.2.1]),(24,s_.2.2)]) (fun s_ w'=>(w'.cell? ⟨au,0,none⟩=some (.slice aN aC.length aT)∧w'.cell? ⟨au,1,none⟩=some (.slice aU aq.length aV))∧(Kd.S (Kd.slice 2 (Kd.int .i64)) 23 w' w.heap.size (fun k_=>some k_≠(s_.2.1:Value).ownBlock∧some k_≠(s_.2.2:Value).ownBlock) s_.1 aJ)∧(Kd.R (Kd.int .i64) 2 w' w.heap.size (fun _=>True) s_.2.1 aM)∧(Kd.S (Kd.slice 2 (Kd.int .i64)) 23 w' w.heap.size (fun k_=>some k_≠(s_.1:Value).ownBlock∧some k_≠(s_.2.1:Value).ownBlock) s_.2.2 bv)∧(w'.heap[au]?=some (.cells #[.slice aN aC.length aT, .slice aU aq.length aV] 30 (0,0)))∧(w'.heap[ak]?=some (.cells #[.slice none 0 0, .int .i64 0, .slice none 0 0] 100 (0,0)))∧(Below w.heap.size w w')) ?_ ?_
    rotate_left
    ·intro eH
     refine join_ (σ:=Value × Value × Nat) 4 (fm 11 191) (fun s_=> [(20, .agg #[s_.1, .int .i64 aK,s_.2.1]),(10, .pointer (some ⟨s_.2.2,0,none⟩))]) (fun s_ w'=>(w'.cell? ⟨au,0,none⟩=some (.slice aN aC.length aT)∧w'.cell? ⟨au,1,none⟩=some (.slice aU aq.length aV))∧(Kd.S (Kd.slice 2 (Kd.int .i64)) 23 w' w.heap.size (fun k_=>some k_≠(s_.2.1:Value).ownBlock) s_.1 aJ)∧(Kd.R (Kd.int .i64) 2 w' w.heap.size (fun _=>True) s_.2.1 aM)∧(w'.heap[au]?=some (.cells #[.slice aN aC.length aT, .slice aU aq.length aV] 30 (0,0)))∧(w'.heap[ak]?=some (.cells #[.slice none 0 0, .int .i64 0, .slice none 0 0] 100 (0,0)))∧(w'.heap[s_.2.2]?=some (.cells #[.slice none 0 0, .int .i64 0, .slice none 0 0] 100 (0,0)))∧(w.heap.size≤s_.2.2)∧(w.heap.size≤s_.2.2)∧(au≠s_.2.2)∧(s_.2.2≠au)∧(ak≠s_.2.2)∧(s_.2.2≠ak)∧(Below w.heap.size w w')) ?_ ?_
     rotate_left
     ·intro eI
      refine join_ (σ:=Value × Nat) 4 (fm 11 251) (fun s_=> [(24,s_.1),(10, .pointer (some ⟨s_.2,0,none⟩))]) (fun s_ w'=>(w'.cell? ⟨au,0,none⟩=some (.slice aN aC.length aT)∧w'.cell? ⟨au,1,none⟩=some (.slice aU aq.length aV))∧(Kd.S (Kd.slice 2 (Kd.int .i64)) 23 w' w.heap.size (fun _=>True) s_.1 bv)∧(w'.heap[au]?=some (.cells #[.slice aN aC.length aT, .slice aU aq.length aV] 30 (0,0)))∧(w'.heap[ak]?=some (.cells #[.slice none 0 0, .int .i64 0, .slice none 0 0] 100 (0,0)))∧(w'.heap[s_.2]?=some (.cells #[.slice none 0 0, .int .i64 0, .slice none 0 0] 100 (0,0)))∧(w.heap.size≤s_.2)∧(w.heap.size≤s_.2)∧(au≠s_.2)∧(s_.2≠au)∧(ak≠s_.2)∧(s_.2≠ak)∧(Below w.heap.size w w')) ?_ ?_
      rotate_left
      ·intro eJ
       refine join_ (σ:=Value × Value) 5 (fm 11 63) (fun s_=> [(20, .agg #[s_.1, .int .i64 aK,s_.2])]) (fun s_ w'=>(w'.cell? ⟨au,0,none⟩=some (.slice aN aC.length aT)∧w'.cell? ⟨au,1,none⟩=some (.slice aU aq.length aV))∧(Kd.S (Kd.slice 2 (Kd.int .i64)) 23 w' w.heap.size (fun k_=>some k_≠(s_.2:Value).ownBlock) s_.1 aJ)∧(Kd.R (Kd.int .i64) 2 w' w.heap.size (fun _=>True) s_.2 aM)∧(w'.heap[au]?=some (.cells #[.slice aN aC.length aT, .slice aU aq.length aV] 30 (0,0)))∧(w'.heap[ak]?=some (.cells #[.slice none 0 0, .int .i64 0, .slice none 0 0] 100 (0,0)))∧(Below w.heap.size w w')) ?_ ?_
       rotate_left
       ·intro jR
        refine join_ (σ:=Value) 5 (fm 11 123) (fun s_=> [(24,s_)]) (fun s_ w'=>(w'.cell? ⟨au,0,none⟩=some (.slice aN aC.length aT)∧w'.cell? ⟨au,1,none⟩=some (.slice aU aq.length aV))∧(Kd.S (Kd.slice 2 (Kd.int .i64)) 23 w' w.heap.size (fun _=>True) s_ bv)∧(w'.heap[au]?=some (.cells #[.slice aN aC.length aT, .slice aU aq.length aV] 30 (0,0)))∧(w'.heap[ak]?=some (.cells #[.slice none 0 0, .int .i64 0, .slice none 0 0] 100 (0,0)))∧(Below w.heap.size w w')) ?_ ?_
        rotate_left
        ·intro jS
         refine join_ (σ:=Nat) 5 (fm 11 187) (fun s_=> [(10, .pointer (some ⟨s_,0,none⟩))]) (fun s_ w'=>(w'.cell? ⟨au,0,none⟩=some (.slice aN aC.length aT)∧w'.cell? ⟨au,1,none⟩=some (.slice aU aq.length aV))∧(w'.heap[au]?=some (.cells #[.slice aN aC.length aT, .slice aU aq.length aV] 30 (0,0)))∧(w'.heap[ak]?=some (.cells #[.slice none 0 0, .int .i64 0, .slice none 0 0] 100 (0,0)))∧(w'.heap[s_]?=some (.cells #[.slice none 0 0, .int .i64 0, .slice none 0 0] 100 (0,0)))∧(w.heap.size≤s_)∧(w.heap.size≤s_)∧(au≠s_)∧(s_≠au)∧(ak≠s_)∧(s_≠ak)∧(Below w.heap.size w w')) ?_ ?_
         rotate_left
         ·intro jT
          refine three_ (i:=2) (j:=6) (k:=7) (Ni:=some 20) (Nj:=some 24) (Nk:=some 10) (fm 11 63) (fm 11 123) (fm 11 187) rfl rfl rfl rfl rfl rfl (three_of HT_.out (by kernel_rfl)) (by decide) (by decide) (by decide) (fun K hK=>?_) (fun K hK=>?_) (fun K hK=>?_)
          ·skip
           refine goes_ Try.func154 (by kernel_rfl) rfl #[.agg #[.slice aN aC.length aT, .slice aU aq.length aV], .slice A1 l1.length c1] (by rfl) rfl rfl (by(try simp only [List.map_toArray,List.map_cons,List.map_nil]);first | done | rfl | (simp only [List.length_drop,List.length_take];rfl)) ?_
           with_reducible refine(spec_l05Begin.calls k _ _ aC _ _ aq _ _ l1 aJ aK aM _ ?bi ?bk ?bn ?bq ?bY ?bZ A4.out).mono ?_
           (case bi=>exact cb_ HR0_0.out HB.out)
           (case bk=>exact HC0_0.out)
           (case bn=>exact cb_ HR0_1.out HB.out)
           (case bq=>exact HC0_1.out)
           (case bY=>exact cb_ HR1.out HB.out)
           (case bZ=>exact HC1.out)
           rintro e w8 ⟨bg,aY,rfl,ho0,ho1,hb⟩
           refine⟨_,rfl,?_⟩
           have aW:=q_ (Kd.S_lower ho0 bz_)
           have aX:=q_ (Kd.R_lower ho1 bz_)
           replace af:=q_ (bb_ af.out hb)
           replace ai:=q_ (bb_ ai.out hb)
           replace HB:=q_ (bs_ hb)
           (try clear hb)
           (try clear hb2)
           (try clear hk)
           (try clear hi)
           (try clear ho0)
           (try clear ho1)
           refine hK.out _ _ ⟨(blk_cell af.out 0).trans rfl,(blk_cell af.out 1).trans rfl⟩ (fun hHeld=>?_)
           clear hK K
           refine norm_ (a':=?_) ?_ ?_
           rotate_left
           ·show Act.put _ (some 20) _=_
            simp only [Act.put,List.setIfInBounds_toArray,List.set_cons_zero,List.set_cons_succ,i64_w,i32_w]
            rfl
           exact norm_ (by first | (simp only [putAll,Act.put,List.setIfInBounds_toArray,List.set_cons_zero,List.set_cons_succ];done) | (simp only [putAll,Act.put,List.setIfInBounds_toArray,List.set_cons_zero,List.set_cons_succ];rfl)) (jR (bg,aY) _ ⟨hHeld,(so_ aW.out),(ro_ aX.out),bk_,bk_,hb_⟩)
          ·skip
           refine Kd.S_lit_step (Kd.slice 2 (Kd.int .i64)) _ 23 ?hg (N:=24) ?hd (xs:=([]:List (List Int))) (inner:= []) (ok:=fun _=>True) (okp:=fun _=>True) ?hr ?hp (fun _ hk=>hk) trivial (Below.refl _ _) (Nat.le_refl _) (by simp) ?_;(case hd=>rfl);(case hg=>rfl);(case hr=>first | (go_simp;done) | (go_simp;rfl));(case hp=>exact(Reps.none _ _))
           intro bu w8 ho9 hb hg_ hnew_
           clear hg_ hnew_
           (first | rw [← bO.out] at ho9 | (simp only [Int.reduceToNat] at ho9;rw [← bO.out] at ho9))
           have aZ:=q_ (Kd.S_lower ho9 bz_)
           replace af:=q_ (bb_ af.out hb)
           replace ai:=q_ (bb_ ai.out hb)
           replace HB:=q_ (bs_ hb)
           clear hb ho9
           refine hK.out _ _ ⟨(blk_cell af.out 0).trans rfl,(blk_cell af.out 1).trans rfl⟩ (fun hHeld=>?_)
           clear hK K
           refine norm_ (a':=?_) ?_ ?_
           rotate_left
           ·show Act.put _ (some 24) _=_
            simp only [Act.put,List.setIfInBounds_toArray,List.set_cons_zero,List.set_cons_succ,i64_w,i32_w]
            rfl
           exact norm_ (by first | (simp only [putAll,Act.put,List.setIfInBounds_toArray,List.set_cons_zero,List.set_cons_succ];done) | (simp only [putAll,Act.put,List.setIfInBounds_toArray,List.set_cons_zero,List.set_cons_succ];rfl)) (jS (bu) _ ⟨hHeld,(so_ aZ.out),bk_,bk_,hb_⟩)
          ·skip
           refine box_step ?hg (N:=10) ?hd (cs:= #[.slice none 0 0, .int .i64 0, .slice none 0 0]) (t:=100) ?hr ?_;(case hd=>rfl);(case hg=>rfl);(case hr=>first | (go_simp;done) | (go_simp;rfl))
           intro aa hg w8 hbox hb
           have ae:=q_ (hbox)
           have bw:=q_ ((by rw [hg];exact bz_:w.heap.size≤aa))
           have bz:=q_ ((by rw [hg];exact bz_:w.heap.size≤aa))
           have av:=q_ ((by rw [hg];exact lt_ af.out:au≠aa))
           have az:=q_ ((by rw [hg];exact gt_ af.out:aa≠au))
           have ax:=q_ ((by rw [hg];exact lt_ ai.out:ak≠aa))
           have aG:=q_ ((by rw [hg];exact gt_ ai.out:aa≠ak))
           replace af:=q_ (bb_ af.out hb)
           replace ai:=q_ (bb_ ai.out hb)
           replace HB:=q_ (bs_ hb)
           clear hb hbox hg
           refine hK.out _ _ ⟨(blk_cell af.out 0).trans rfl,(blk_cell af.out 1).trans rfl⟩ (fun hHeld=>?_)
           clear hK K
           refine norm_ (a':=?_) ?_ ?_
           rotate_left
           ·show Act.put _ (some 10) _=_
            simp only [Act.put,List.setIfInBounds_toArray,List.set_cons_zero,List.set_cons_succ,i64_w,i32_w]
            rfl
           exact norm_ (by first | (simp only [putAll,Act.put,List.setIfInBounds_toArray,List.set_cons_zero,List.set_cons_succ];done) | (simp only [putAll,Act.put,List.setIfInBounds_toArray,List.set_cons_zero,List.set_cons_succ];rfl)) (jT (aa) _ ⟨hHeld,bk_,bk_,bk_,bw.out,bz.out,av.out,az.out,ax.out,aG.out,hb_⟩)
         ·skip
          rintro aa w9 ⟨hS_,h0_,h1_,h2_,h3_,h4_,h5_,h6_,h7_,h8_,h9_⟩
          have n0_:Aside0 (w9.heap[au]?=some (.cells #[.slice aN aC.length aT, .slice aU aq.length aV] 30 (0,0))):=⟨h0_⟩
          have n1_:Aside0 (w9.heap[ak]?=some (.cells #[.slice none 0 0, .int .i64 0, .slice none 0 0] 100 (0,0))):=⟨h1_⟩
          have n2_:Aside0 (w9.heap[aa]?=some (.cells #[.slice none 0 0, .int .i64 0, .slice none 0 0] 100 (0,0))):=⟨h2_⟩
          have n3_:Aside0 (w.heap.size≤aa):=⟨h3_⟩
          have n4_:Aside0 (w.heap.size≤aa):=⟨h4_⟩
          have n5_:Aside0 (au≠aa):=⟨h5_⟩
          have n6_:Aside0 (aa≠au):=⟨h6_⟩
          have n7_:Aside0 (ak≠aa):=⟨h7_⟩
          have n8_:Aside0 (aa≠ak):=⟨h8_⟩
          have n9_:Aside0 (Below w.heap.size w w9):=⟨h9_⟩
          clear af ai HB h0_ h1_ h2_ h3_ h4_ h5_ h6_ h7_ h8_ h9_
          have af:=n0_
          have ai:=n1_
          have ae:=n2_
          have bw:=n3_
          have bz:=n4_
          have av:=n5_
          have az:=n6_
          have ax:=n7_
          have aG:=n8_
          have HB:=n9_
          clear n0_ n1_ n2_ n3_ n4_ n5_ n6_ n7_ n8_ n9_
          have hHeld:w9.cell? ⟨au,0,none⟩=some (.slice aN aC.length aT)∧w9.cell? ⟨au,1,none⟩=some (.slice aU aq.length aV):=hS_
          refine norm_ (a':=?_) ?_ ?_
          rotate_left
          ·simp only [putAll,Act.put,List.setIfInBounds_toArray,List.set_cons_zero,List.set_cons_succ]
           rfl
          refine two_ (i:=2) (j:=6) (Ni:=some 20) (Nj:=some 24) (fm 11 191) (fm 11 251) rfl rfl rfl rfl (two_of HT_.out (by kernel_rfl)) (by decide) (by decide) (fun K hK=>?_) (fun K hK=>?_)
          ·skip
           refine goes_ Try.func154 (by kernel_rfl) rfl #[.agg #[.slice aN aC.length aT, .slice aU aq.length aV], .slice A1 l1.length c1] (by rfl) rfl rfl (by(try simp only [List.map_toArray,List.map_cons,List.map_nil]);first | done | rfl | (simp only [List.length_drop,List.length_take];rfl)) ?_
           with_reducible refine(spec_l05Begin.calls k _ _ aC _ _ aq _ _ l1 aJ aK aM _ ?bi ?bk ?bn ?bq ?bY ?bZ A4.out).mono ?_
           (case bi=>exact cb_ HR0_0.out HB.out)
           (case bk=>exact HC0_0.out)
           (case bn=>exact cb_ HR0_1.out HB.out)
           (case bq=>exact HC0_1.out)
           (case bY=>exact cb_ HR1.out HB.out)
           (case bZ=>exact HC1.out)
           rintro e w10 ⟨bg,aY,rfl,ho0,ho1,hb⟩
           refine⟨_,rfl,?_⟩
           have aW:=q_ (Kd.S_lower ho0 bz_)
           have aX:=q_ (Kd.R_lower ho1 bz_)
           replace af:=q_ (bb_ af.out hb)
           replace ai:=q_ (bb_ ai.out hb)
           replace ae:=q_ (bb_ ae.out hb)
           replace HB:=q_ (bs_ hb)
           (try clear hb)
           (try clear hb2)
           (try clear hk)
           (try clear hi)
           (try clear ho0)
           (try clear ho1)
           refine hK.out _ _ ⟨(blk_cell af.out 0).trans rfl,(blk_cell af.out 1).trans rfl⟩ (fun hHeld=>?_)
           clear hK K
           refine norm_ (a':=?_) ?_ ?_
           rotate_left
           ·show Act.put _ (some 20) _=_
            simp only [Act.put,List.setIfInBounds_toArray,List.set_cons_zero,List.set_cons_succ,i64_w,i32_w]
            rfl
           exact norm_ (by first | (simp only [putAll,Act.put,List.setIfInBounds_toArray,List.set_cons_zero,List.set_cons_succ];done) | (simp only [putAll,Act.put,List.setIfInBounds_toArray,List.set_cons_zero,List.set_cons_succ];rfl)) (eI (bg,aY,aa) _ ⟨hHeld,(so_ aW.out),(ro_ aX.out),bk_,bk_,bk_,bw.out,bz.out,av.out,az.out,ax.out,aG.out,hb_⟩)
          ·skip
           refine Kd.S_lit_step (Kd.slice 2 (Kd.int .i64)) _ 23 ?hg (N:=24) ?hd (xs:=([]:List (List Int))) (inner:= []) (ok:=fun _=>True) (okp:=fun _=>True) ?hr ?hp (fun _ hk=>hk) trivial (Below.refl _ _) (Nat.le_refl _) (by simp) ?_;(case hd=>rfl);(case hg=>rfl);(case hr=>first | (go_simp;done) | (go_simp;rfl));(case hp=>exact(Reps.none _ _))
           intro bu w10 bQ hb hg_ hnew_
           clear hg_ hnew_
           (first | rw [← bO.out] at bQ | (simp only [Int.reduceToNat] at bQ;rw [← bO.out] at bQ))
           have aZ:=q_ (Kd.S_lower bQ bz_)
           replace af:=q_ (bb_ af.out hb)
           replace ai:=q_ (bb_ ai.out hb)
           replace ae:=q_ (bb_ ae.out hb)
           replace HB:=q_ (bs_ hb)
           clear hb bQ
           refine hK.out _ _ ⟨(blk_cell af.out 0).trans rfl,(blk_cell af.out 1).trans rfl⟩ (fun hHeld=>?_)
           clear hK K
           refine norm_ (a':=?_) ?_ ?_
           rotate_left
           ·show Act.put _ (some 24) _=_
            simp only [Act.put,List.setIfInBounds_toArray,List.set_cons_zero,List.set_cons_succ,i64_w,i32_w]
            rfl
           exact norm_ (by first | (simp only [putAll,Act.put,List.setIfInBounds_toArray,List.set_cons_zero,List.set_cons_succ];done) | (simp only [putAll,Act.put,List.setIfInBounds_toArray,List.set_cons_zero,List.set_cons_succ];rfl)) (eJ (bu,aa) _ ⟨hHeld,(so_ aZ.out),bk_,bk_,bk_,bw.out,bz.out,av.out,az.out,ax.out,aG.out,hb_⟩)
        ·skip
         rintro bu w10 ⟨hS_,h0_,h1_,h2_,h3_⟩
         have n0_:Aside0 (Kd.S (Kd.slice 2 (Kd.int .i64)) 23 w10 w.heap.size (fun _=>True) bu bv):=⟨h0_⟩
         have n1_:Aside0 (w10.heap[au]?=some (.cells #[.slice aN aC.length aT, .slice aU aq.length aV] 30 (0,0))):=⟨h1_⟩
         have n2_:Aside0 (w10.heap[ak]?=some (.cells #[.slice none 0 0, .int .i64 0, .slice none 0 0] 100 (0,0))):=⟨h2_⟩
         have n3_:Aside0 (Below w.heap.size w w10):=⟨h3_⟩
         clear af ai HB h0_ h1_ h2_ h3_
         have aZ:=n0_
         have af:=n1_
         have ai:=n2_
         have HB:=n3_
         clear n0_ n1_ n2_ n3_
         have hHeld:w10.cell? ⟨au,0,none⟩=some (.slice aN aC.length aT)∧w10.cell? ⟨au,1,none⟩=some (.slice aU aq.length aV):=hS_
         refine norm_ (a':=?_) ?_ ?_
         rotate_left
         ·simp only [putAll,Act.put,List.setIfInBounds_toArray,List.set_cons_zero,List.set_cons_succ]
          rfl
         refine two_ (i:=2) (j:=7) (Ni:=some 20) (Nj:=some 10) (fm 11 127) (fm 11 251) rfl rfl rfl rfl (two_of HT_.out (by kernel_rfl)) (by decide) (by decide) (fun K hK=>?_) (fun K hK=>?_)
         ·skip
          refine goes_ Try.func154 (by kernel_rfl) rfl #[.agg #[.slice aN aC.length aT, .slice aU aq.length aV], .slice A1 l1.length c1] (by rfl) rfl rfl (by(try simp only [List.map_toArray,List.map_cons,List.map_nil]);first | done | rfl | (simp only [List.length_drop,List.length_take];rfl)) ?_
          with_reducible refine(spec_l05Begin.calls k _ _ aC _ _ aq _ _ l1 aJ aK aM _ ?bi ?bk ?bn ?bq ?bY ?bZ A4.out).mono ?_
          (case bi=>exact cb_ HR0_0.out HB.out)
          (case bk=>exact HC0_0.out)
          (case bn=>exact cb_ HR0_1.out HB.out)
          (case bq=>exact HC0_1.out)
          (case bY=>exact cb_ HR1.out HB.out)
          (case bZ=>exact HC1.out)
          rintro e w11 ⟨bg,aY,rfl,ho0,ho1,hb⟩
          refine⟨_,rfl,?_⟩
          have aW:=q_ (Kd.S_lower (Kd.S_new' ho0 (Kd.S_lt (so_ aZ.out))) bz_)
          have aX:=q_ (Kd.R_lower ho1 bz_)
          replace af:=q_ (bb_ af.out hb)
          replace ai:=q_ (bb_ ai.out hb)
          replace aZ:=q_ (Kd.S_mono (Kd.S_told (Kd.S_told (Kd.S_old (so_ aZ.out) hb) (Kd.S_base ho0)) (Kd.R_base ho1)) (fun _ h_=>h_.1))
          replace HB:=q_ (bs_ hb)
          (try clear hb)
          (try clear hb2)
          (try clear hk)
          (try clear hi)
          (try clear ho0)
          (try clear ho1)
          refine hK.out _ _ ⟨(blk_cell af.out 0).trans rfl,(blk_cell af.out 1).trans rfl⟩ (fun hHeld=>?_)
          clear hK K
          refine norm_ (a':=?_) ?_ ?_
          rotate_left
          ·show Act.put _ (some 20) _=_
           simp only [Act.put,List.setIfInBounds_toArray,List.set_cons_zero,List.set_cons_succ,i64_w,i32_w]
           rfl
          exact norm_ (by first | (simp only [putAll,Act.put,List.setIfInBounds_toArray,List.set_cons_zero,List.set_cons_succ];done) | (simp only [putAll,Act.put,List.setIfInBounds_toArray,List.set_cons_zero,List.set_cons_succ];rfl)) (eH (bg,aY,bu) _ ⟨hHeld,(so_ aW.out),(ro_ aX.out),(by(with_reducible repeat (first | apply Kd.S_alloc | apply Kd.S_drewN | apply Kd.S_drew));exact Kd.S_mono aZ.out (fun _ hk=>⟨hk.1.2,hk.2⟩)),bk_,bk_,hb_⟩)
         ·skip
          refine box_step ?hg (N:=10) ?hd (cs:= #[.slice none 0 0, .int .i64 0, .slice none 0 0]) (t:=100) ?hr ?_;(case hd=>rfl);(case hg=>rfl);(case hr=>first | (go_simp;done) | (go_simp;rfl))
          intro aa hg w11 hbox hb
          replace aZ:=q_ (Kd.S_below (so_ aZ.out) hb)
          have ae:=q_ (hbox)
          have bw:=q_ ((by rw [hg];exact bz_:w.heap.size≤aa))
          have bz:=q_ ((by rw [hg];exact bz_:w.heap.size≤aa))
          have av:=q_ ((by rw [hg];exact lt_ af.out:au≠aa))
          have az:=q_ ((by rw [hg];exact gt_ af.out:aa≠au))
          have ax:=q_ ((by rw [hg];exact lt_ ai.out:ak≠aa))
          have aG:=q_ ((by rw [hg];exact gt_ ai.out:aa≠ak))
          replace af:=q_ (bb_ af.out hb)
          replace ai:=q_ (bb_ ai.out hb)
          replace HB:=q_ (bs_ hb)
          clear hb hbox hg
          refine hK.out _ _ ⟨(blk_cell af.out 0).trans rfl,(blk_cell af.out 1).trans rfl⟩ (fun hHeld=>?_)
          clear hK K
          refine norm_ (a':=?_) ?_ ?_
          rotate_left
          ·show Act.put _ (some 10) _=_
           simp only [Act.put,List.setIfInBounds_toArray,List.set_cons_zero,List.set_cons_succ,i64_w,i32_w]
           rfl
          exact norm_ (by first | (simp only [putAll,Act.put,List.setIfInBounds_toArray,List.set_cons_zero,List.set_cons_succ];done) | (simp only [putAll,Act.put,List.setIfInBounds_toArray,List.set_cons_zero,List.set_cons_succ];rfl)) (eJ (bu,aa) _ ⟨hHeld,(so_ aZ.out),bk_,bk_,bk_,bw.out,bz.out,av.out,az.out,ax.out,aG.out,hb_⟩)
       ·skip
        rintro ⟨bg,aY⟩ w9 ⟨hS_,h0_,h1_,h2_,h3_,h4_⟩
        have n0_:Aside0 (Kd.S (Kd.slice 2 (Kd.int .i64)) 23 w9 w.heap.size (fun k_=>some k_≠(aY:Value).ownBlock) bg aJ):=⟨h0_⟩
        have n1_:Aside0 (Kd.R (Kd.int .i64) 2 w9 w.heap.size (fun _=>True) aY aM):=⟨h1_⟩
        have n2_:Aside0 (w9.heap[au]?=some (.cells #[.slice aN aC.length aT, .slice aU aq.length aV] 30 (0,0))):=⟨h2_⟩
        have n3_:Aside0 (w9.heap[ak]?=some (.cells #[.slice none 0 0, .int .i64 0, .slice none 0 0] 100 (0,0))):=⟨h3_⟩
        have n4_:Aside0 (Below w.heap.size w w9):=⟨h4_⟩
        clear af ai HB h0_ h1_ h2_ h3_ h4_
        have aW:=n0_
        have aX:=n1_
        have af:=n2_
        have ai:=n3_
        have HB:=n4_
        clear n0_ n1_ n2_ n3_ n4_
        have hHeld:w9.cell? ⟨au,0,none⟩=some (.slice aN aC.length aT)∧w9.cell? ⟨au,1,none⟩=some (.slice aU aq.length aV):=hS_
        refine norm_ (a':=?_) ?_ ?_
        rotate_left
        ·simp only [putAll,Act.put,List.setIfInBounds_toArray,List.set_cons_zero,List.set_cons_succ]
         rfl
        refine two_ (i:=6) (j:=7) (Ni:=some 24) (Nj:=some 10) (fm 11 127) (fm 11 191) rfl rfl rfl rfl (two_of HT_.out (by kernel_rfl)) (by decide) (by decide) (fun K hK=>?_) (fun K hK=>?_)
        ·skip
         refine Kd.S_lit_step (Kd.slice 2 (Kd.int .i64)) _ 23 ?hg (N:=24) ?hd (xs:=([]:List (List Int))) (inner:= []) (ok:=fun _=>True) (okp:=fun _=>True) ?hr ?hp (fun _ hk=>hk) trivial (Below.refl _ _) (Nat.le_refl _) (by simp) ?_;(case hd=>rfl);(case hg=>rfl);(case hr=>first | (go_simp;done) | (go_simp;rfl));(case hp=>exact(Reps.none _ _))
         intro bu w10 bQ hb hg_ hnew_
         clear hg_ hnew_
         (first | rw [← bO.out] at bQ | (simp only [Int.reduceToNat] at bQ;rw [← bO.out] at bQ))
         have aZ:=q_ (Kd.S_lower (Kd.S_new' (Kd.S_new' bQ (Kd.S_lt (so_ aW.out))) (Kd.R_lt (ro_ aX.out))) bz_)
         replace af:=q_ (bb_ af.out hb)
         replace ai:=q_ (bb_ ai.out hb)
         replace aW:=q_ (Kd.S_elder' (so_ aW.out) (Kd.S_base bQ) hb)
         replace aX:=q_ (rb_ aX.out hb)
         replace HB:=q_ (bs_ hb)
         clear hb bQ
         refine hK.out _ _ ⟨(blk_cell af.out 0).trans rfl,(blk_cell af.out 1).trans rfl⟩ (fun hHeld=>?_)
         clear hK K
         refine norm_ (a':=?_) ?_ ?_
         rotate_left
         ·show Act.put _ (some 24) _=_
          simp only [Act.put,List.setIfInBounds_toArray,List.set_cons_zero,List.set_cons_succ,i64_w,i32_w]
          rfl
         exact norm_ (by first | (simp only [putAll,Act.put,List.setIfInBounds_toArray,List.set_cons_zero,List.set_cons_succ];done) | (simp only [putAll,Act.put,List.setIfInBounds_toArray,List.set_cons_zero,List.set_cons_succ];rfl)) (eH (bg,aY,bu) _ ⟨hHeld,(so_ aW.out),(ro_ aX.out),(by(with_reducible repeat (first | apply Kd.S_alloc | apply Kd.S_drewN | apply Kd.S_drew));exact Kd.S_mono aZ.out (fun _ hk=>⟨hk.1.2,hk.2⟩)),bk_,bk_,hb_⟩)
        ·skip
         refine box_step ?hg (N:=10) ?hd (cs:= #[.slice none 0 0, .int .i64 0, .slice none 0 0]) (t:=100) ?hr ?_;(case hd=>rfl);(case hg=>rfl);(case hr=>first | (go_simp;done) | (go_simp;rfl))
         intro aa hg w10 hbox hb
         replace aW:=q_ (Kd.S_below (so_ aW.out) hb)
         replace aX:=q_ (rb_ aX.out hb)
         have ae:=q_ (hbox)
         have bw:=q_ ((by rw [hg];exact bz_:w.heap.size≤aa))
         have bz:=q_ ((by rw [hg];exact bz_:w.heap.size≤aa))
         have av:=q_ ((by rw [hg];exact lt_ af.out:au≠aa))
         have az:=q_ ((by rw [hg];exact gt_ af.out:aa≠au))
         have ax:=q_ ((by rw [hg];exact lt_ ai.out:ak≠aa))
         have aG:=q_ ((by rw [hg];exact gt_ ai.out:aa≠ak))
         replace af:=q_ (bb_ af.out hb)
         replace ai:=q_ (bb_ ai.out hb)
         replace HB:=q_ (bs_ hb)
         clear hb hbox hg
         refine hK.out _ _ ⟨(blk_cell af.out 0).trans rfl,(blk_cell af.out 1).trans rfl⟩ (fun hHeld=>?_)
         clear hK K
         refine norm_ (a':=?_) ?_ ?_
         rotate_left
         ·show Act.put _ (some 10) _=_
          simp only [Act.put,List.setIfInBounds_toArray,List.set_cons_zero,List.set_cons_succ,i64_w,i32_w]
          rfl
         exact norm_ (by first | (simp only [putAll,Act.put,List.setIfInBounds_toArray,List.set_cons_zero,List.set_cons_succ];done) | (simp only [putAll,Act.put,List.setIfInBounds_toArray,List.set_cons_zero,List.set_cons_succ];rfl)) (eI (bg,aY,aa) _ ⟨hHeld,(so_ aW.out),(ro_ aX.out),bk_,bk_,bk_,bw.out,bz.out,av.out,az.out,ax.out,aG.out,hb_⟩)
      ·skip
       rintro ⟨bu,aa⟩ w11 ⟨hS_,h0_,h1_,h2_,h3_,h4_,h5_,h6_,h7_,h8_,h9_,h10_⟩
       have n0_:Aside0 (Kd.S (Kd.slice 2 (Kd.int .i64)) 23 w11 w.heap.size (fun _=>True) bu bv):=⟨h0_⟩
       have n1_:Aside0 (w11.heap[au]?=some (.cells #[.slice aN aC.length aT, .slice aU aq.length aV] 30 (0,0))):=⟨h1_⟩
       have n2_:Aside0 (w11.heap[ak]?=some (.cells #[.slice none 0 0, .int .i64 0, .slice none 0 0] 100 (0,0))):=⟨h2_⟩
       have n3_:Aside0 (w11.heap[aa]?=some (.cells #[.slice none 0 0, .int .i64 0, .slice none 0 0] 100 (0,0))):=⟨h3_⟩
       have n4_:Aside0 (w.heap.size≤aa):=⟨h4_⟩
       have n5_:Aside0 (w.heap.size≤aa):=⟨h5_⟩
       have n6_:Aside0 (au≠aa):=⟨h6_⟩
       have n7_:Aside0 (aa≠au):=⟨h7_⟩
       have n8_:Aside0 (ak≠aa):=⟨h8_⟩
       have n9_:Aside0 (aa≠ak):=⟨h9_⟩
       have n10_:Aside0 (Below w.heap.size w w11):=⟨h10_⟩
       clear af ai HB h0_ h1_ h2_ h3_ h4_ h5_ h6_ h7_ h8_ h9_ h10_
       have aZ:=n0_
       have af:=n1_
       have ai:=n2_
       have ae:=n3_
       have bw:=n4_
       have bz:=n5_
       have av:=n6_
       have az:=n7_
       have ax:=n8_
       have aG:=n9_
       have HB:=n10_
       clear n0_ n1_ n2_ n3_ n4_ n5_ n6_ n7_ n8_ n9_ n10_
       have hHeld:w11.cell? ⟨au,0,none⟩=some (.slice aN aC.length aT)∧w11.cell? ⟨au,1,none⟩=some (.slice aU aq.length aV):=hS_
       refine norm_ (a':=?_) ?_ ?_
       rotate_left
       ·simp only [putAll,Act.put,List.setIfInBounds_toArray,List.set_cons_zero,List.set_cons_succ]
        rfl
       refine on_ 2 (some 20) (fun K hK=>?_)
       refine goes_ Try.func154 (by kernel_rfl) rfl #[.agg #[.slice aN aC.length aT, .slice aU aq.length aV], .slice A1 l1.length c1] (by rfl) rfl rfl (by(try simp only [List.map_toArray,List.map_cons,List.map_nil]);first | done | rfl | (simp only [List.length_drop,List.length_take];rfl)) ?_
       with_reducible refine(spec_l05Begin.calls k _ _ aC _ _ aq _ _ l1 aJ aK aM _ ?bi ?bk ?bn ?bq ?bY ?bZ A4.out).mono ?_
       (case bi=>exact cb_ HR0_0.out HB.out)
       (case bk=>exact HC0_0.out)
       (case bn=>exact cb_ HR0_1.out HB.out)
       (case bq=>exact HC0_1.out)
       (case bY=>exact cb_ HR1.out HB.out)
       (case bZ=>exact HC1.out)
       rintro e w12 ⟨bg,aY,rfl,ho0,ho1,hb⟩
       refine⟨_,rfl,?_⟩
       have aW:=q_ (Kd.S_lower (Kd.S_new' ho0 (Kd.S_lt (so_ aZ.out))) bz_)
       have aX:=q_ (Kd.R_lower ho1 bz_)
       replace af:=q_ (bb_ af.out hb)
       replace ai:=q_ (bb_ ai.out hb)
       replace ae:=q_ (bb_ ae.out hb)
       replace aZ:=q_ (Kd.S_mono (Kd.S_told (Kd.S_told (Kd.S_old (so_ aZ.out) hb) (Kd.S_base ho0)) (Kd.R_base ho1)) (fun _ h_=>h_.1))
       replace HB:=q_ (bs_ hb)
       (try clear hb)
       (try clear hb2)
       (try clear hk)
       (try clear hi)
       (try clear ho0)
       (try clear ho1)
       refine hK.out _ _ ⟨(blk_cell af.out 0).trans rfl,(blk_cell af.out 1).trans rfl⟩ (fun hHeld=>?_)
       clear hK K
       refine norm_ (a':=?_) ?_ ?_
       rotate_left
       ·show Act.put _ (some 20) _=_
        simp only [Act.put,List.setIfInBounds_toArray,List.set_cons_zero,List.set_cons_succ,i64_w,i32_w]
        rfl
       exact norm_ (by first | (simp only [putAll,Act.put,List.setIfInBounds_toArray,List.set_cons_zero,List.set_cons_succ];done) | (simp only [putAll,Act.put,List.setIfInBounds_toArray,List.set_cons_zero,List.set_cons_succ];rfl)) (cT (bg,aY,bu,aa) _ ⟨hHeld,(so_ aW.out),(ro_ aX.out),(by(with_reducible repeat (first | apply Kd.S_alloc | apply Kd.S_drewN | apply Kd.S_drew));exact Kd.S_mono aZ.out (fun _ hk=>⟨hk.1.2,hk.2⟩)),bk_,bk_,bk_,bw.out,bz.out,av.out,az.out,ax.out,aG.out,hb_⟩)
     ·skip
      rintro ⟨bg,aY,aa⟩ w10 ⟨hS_,h0_,h1_,h2_,h3_,h4_,h5_,h6_,h7_,h8_,h9_,h10_,h11_⟩
      have n0_:Aside0 (Kd.S (Kd.slice 2 (Kd.int .i64)) 23 w10 w.heap.size (fun k_=>some k_≠(aY:Value).ownBlock) bg aJ):=⟨h0_⟩
      have n1_:Aside0 (Kd.R (Kd.int .i64) 2 w10 w.heap.size (fun _=>True) aY aM):=⟨h1_⟩
      have n2_:Aside0 (w10.heap[au]?=some (.cells #[.slice aN aC.length aT, .slice aU aq.length aV] 30 (0,0))):=⟨h2_⟩
      have n3_:Aside0 (w10.heap[ak]?=some (.cells #[.slice none 0 0, .int .i64 0, .slice none 0 0] 100 (0,0))):=⟨h3_⟩
      have n4_:Aside0 (w10.heap[aa]?=some (.cells #[.slice none 0 0, .int .i64 0, .slice none 0 0] 100 (0,0))):=⟨h4_⟩
      have n5_:Aside0 (w.heap.size≤aa):=⟨h5_⟩
      have n6_:Aside0 (w.heap.size≤aa):=⟨h6_⟩
      have n7_:Aside0 (au≠aa):=⟨h7_⟩
      have n8_:Aside0 (aa≠au):=⟨h8_⟩
      have n9_:Aside0 (ak≠aa):=⟨h9_⟩
      have n10_:Aside0 (aa≠ak):=⟨h10_⟩
      have n11_:Aside0 (Below w.heap.size w w10):=⟨h11_⟩
      clear af ai HB h0_ h1_ h2_ h3_ h4_ h5_ h6_ h7_ h8_ h9_ h10_ h11_
      have aW:=n0_
      have aX:=n1_
      have af:=n2_
      have ai:=n3_
      have ae:=n4_
      have bw:=n5_
      have bz:=n6_
      have av:=n7_
      have az:=n8_
      have ax:=n9_
      have aG:=n10_
      have HB:=n11_
      clear n0_ n1_ n2_ n3_ n4_ n5_ n6_ n7_ n8_ n9_ n10_ n11_
      have hHeld:w10.cell? ⟨au,0,none⟩=some (.slice aN aC.length aT)∧w10.cell? ⟨au,1,none⟩=some (.slice aU aq.length aV):=hS_
      refine norm_ (a':=?_) ?_ ?_
      rotate_left
      ·simp only [putAll,Act.put,List.setIfInBounds_toArray,List.set_cons_zero,List.set_cons_succ]
       rfl
      refine two_ (i:=6) (j:=8) (Ni:=some 24) (Nj:=none) (fm 11 255) (fm 11 447) rfl rfl rfl rfl (two_of HT_.out (by kernel_rfl)) (by decide) (by decide) (fun K hK=>?_) (fun K hK=>?_)
      ·skip
       refine Kd.S_lit_step (Kd.slice 2 (Kd.int .i64)) _ 23 ?hg (N:=24) ?hd (xs:=([]:List (List Int))) (inner:= []) (ok:=fun _=>True) (okp:=fun _=>True) ?hr ?hp (fun _ hk=>hk) trivial (Below.refl _ _) (Nat.le_refl _) (by simp) ?_;(case hd=>rfl);(case hg=>rfl);(case hr=>first | (go_simp;done) | (go_simp;rfl));(case hp=>exact(Reps.none _ _))
       intro bu w11 cU hb hg_ hnew_
       clear hg_ hnew_
       (first | rw [← bO.out] at cU | (simp only [Int.reduceToNat] at cU;rw [← bO.out] at cU))
       have aZ:=q_ (Kd.S_lower (Kd.S_new' (Kd.S_new' cU (Kd.S_lt (so_ aW.out))) (Kd.R_lt (ro_ aX.out))) bz_)
       replace af:=q_ (bb_ af.out hb)
       replace ai:=q_ (bb_ ai.out hb)
       replace ae:=q_ (bb_ ae.out hb)
       replace aW:=q_ (Kd.S_elder' (so_ aW.out) (Kd.S_base cU) hb)
       replace aX:=q_ (rb_ aX.out hb)
       replace HB:=q_ (bs_ hb)
       clear hb cU
       refine hK.out _ _ ⟨(blk_cell af.out 0).trans rfl,(blk_cell af.out 1).trans rfl⟩ (fun hHeld=>?_)
       clear hK K
       refine norm_ (a':=?_) ?_ ?_
       rotate_left
       ·show Act.put _ (some 24) _=_
        simp only [Act.put,List.setIfInBounds_toArray,List.set_cons_zero,List.set_cons_succ,i64_w,i32_w]
        rfl
       exact norm_ (by first | (simp only [putAll,Act.put,List.setIfInBounds_toArray,List.set_cons_zero,List.set_cons_succ];done) | (simp only [putAll,Act.put,List.setIfInBounds_toArray,List.set_cons_zero,List.set_cons_succ];rfl)) (cT (bg,aY,bu,aa) _ ⟨hHeld,(so_ aW.out),(ro_ aX.out),(by(with_reducible repeat (first | apply Kd.S_alloc | apply Kd.S_drewN | apply Kd.S_drew));exact Kd.S_mono aZ.out (fun _ hk=>⟨hk.1.2,hk.2⟩)),bk_,bk_,bk_,bw.out,bz.out,av.out,az.out,ax.out,aG.out,hb_⟩)
      ·skip
       have hs12:w10.cell? ⟨aa,0,none⟩=some (.slice none 0 0):=(blk_cell ae.out 0).trans rfl
       have hfs12:=blk_frozen ae.out 0
       have hns12_0:=av.out
       have hns12_1:=ax.out
       have hms12_0:=az.out
       have hms12_1:=aG.out
       have hs13:w10.cell? ⟨aa,1,none⟩=some (.int .i64 0):=(blk_cell ae.out 1).trans rfl
       have hfs13:=blk_frozen ae.out 1
       have hns13_0:=av.out
       have hns13_1:=ax.out
       have hms13_0:=az.out
       have hms13_1:=aG.out
       have hs15:w10.cell? ⟨aa,2,none⟩=some (.slice none 0 0):=(blk_cell ae.out 2).trans rfl
       have hfs15:=blk_frozen ae.out 2
       have hns15_0:=av.out
       have hns15_1:=ax.out
       have hms15_0:=az.out
       have hms15_1:=aG.out
       obtain⟨dA,dB,eo_⟩:=Kd.S_slice aW.out
       subst eo_
       obtain⟨d9,ep,eo_⟩:=Kd.R_slice aX.out
       subst eo_
       refine skip_ (w1:=?_) (by rfl) rfl ?_ ?_
       rotate_left
       ·go_simp
        rfl
       refine hK.out _ _ ⟨((cell_far (p:=⟨aa,_,none⟩) av.out _).trans (((cell_far (p:=⟨aa,_,none⟩) av.out _).trans (((cell_far (p:=⟨aa,_,none⟩) av.out _).trans (hHeld.1)))))),((cell_far (p:=⟨aa,_,none⟩) av.out _).trans (((cell_far (p:=⟨aa,_,none⟩) av.out _).trans (((cell_far (p:=⟨aa,_,none⟩) av.out _).trans (hHeld.2))))))⟩ (fun hHeld=>?_)
       clear hK K
       refine pu_ 9 11 ?_
       exact norm_ (by first | (simp only [putAll,Act.put,List.setIfInBounds_toArray,List.set_cons_zero,List.set_cons_succ];done) | (simp only [putAll,Act.put,List.setIfInBounds_toArray,List.set_cons_zero,List.set_cons_succ];rfl)) (eM (.slice dA aJ.length dB, .slice d9 aM.length ep,aa) _ ⟨hHeld,(by(with_reducible repeat (first | apply Kd.S_alloc | apply Kd.S_drewN | apply Kd.S_drew));exact Kd.S_mono (Kd.S_far (p:=⟨aa,2,none⟩) (Kd.S_far (p:=⟨aa,1,none⟩) (Kd.S_far (p:=⟨aa,0,none⟩) (Kd.S_types aW.out ae.out (by decide)) (fun _ hk=>hk.2) (.slice dA aJ.length dB)) (fun _ hk=>hk.2) (.int .i64 aK)) (fun _ hk=>hk.2) (.slice d9 aM.length ep)) (fun _ hk=>hk.1)),(by(with_reducible repeat (first | apply Kd.R_alloc | apply Kd.R_drewN | apply Kd.R_drew));exact Kd.R_mono (Kd.R_far (p:=⟨aa,2,none⟩) (Kd.R_far (p:=⟨aa,1,none⟩) (Kd.R_far (p:=⟨aa,0,none⟩) (Kd.R_types aX.out ae.out (by decide)) (fun _ hk=>hk.2) (.slice dA aJ.length dB)) (fun _ hk=>hk.2) (.int .i64 aK)) (fun _ hk=>hk.2) (.slice d9 aM.length ep)) (fun _ hk=>trivial)),(by(with_reducible repeat (first | refine blk_drewN ?_ _ | refine blk_drew ?_ | refine blk_alloc ?_ _));refine blk_far ?_ av.out _;(with_reducible repeat (first | refine blk_drewN ?_ _ | refine blk_drew ?_ | refine blk_alloc ?_ _));refine blk_far ?_ av.out _;(with_reducible repeat (first | refine blk_drewN ?_ _ | refine blk_drew ?_ | refine blk_alloc ?_ _));refine blk_far ?_ av.out _;(with_reducible repeat (first | refine blk_drewN ?_ _ | refine blk_drew ?_ | refine blk_alloc ?_ _));exact af.out),(by(with_reducible repeat (first | refine blk_drewN ?_ _ | refine blk_drew ?_ | refine blk_alloc ?_ _));refine blk_far ?_ ax.out _;(with_reducible repeat (first | refine blk_drewN ?_ _ | refine blk_drew ?_ | refine blk_alloc ?_ _));refine blk_far ?_ ax.out _;(with_reducible repeat (first | refine blk_drewN ?_ _ | refine blk_drew ?_ | refine blk_alloc ?_ _));refine blk_far ?_ ax.out _;(with_reducible repeat (first | refine blk_drewN ?_ _ | refine blk_drew ?_ | refine blk_alloc ?_ _));exact ai.out),(by(with_reducible repeat (first | refine blk_drewN ?_ _ | refine blk_drew ?_ | refine blk_alloc ?_ _));refine blk_put (cs:= #[.slice dA aJ.length dB, .int .i64 aK, .slice none 0 0]) ?_ 2 _ rfl;(with_reducible repeat (first | refine blk_drewN ?_ _ | refine blk_drew ?_ | refine blk_alloc ?_ _));refine blk_put (cs:= #[.slice dA aJ.length dB, .int .i64 0, .slice none 0 0]) ?_ 1 _ rfl;(with_reducible repeat (first | refine blk_drewN ?_ _ | refine blk_drew ?_ | refine blk_alloc ?_ _));refine blk_put (cs:= #[.slice none 0 0, .int .i64 0, .slice none 0 0]) ?_ 0 _ rfl;(with_reducible repeat (first | refine blk_drewN ?_ _ | refine blk_drew ?_ | refine blk_alloc ?_ _));exact ae.out),bw.out,bz.out,av.out,az.out,ax.out,aG.out,hb_⟩)
    ·skip
     rintro ⟨bg,aY,bu⟩ w11 ⟨hS_,h0_,h1_,h2_,h3_,h4_,h5_⟩
     have n0_:Aside0 (Kd.S (Kd.slice 2 (Kd.int .i64)) 23 w11 w.heap.size (fun k_=>some k_≠(aY:Value).ownBlock∧some k_≠(bu:Value).ownBlock) bg aJ):=⟨h0_⟩
     have n1_:Aside0 (Kd.R (Kd.int .i64) 2 w11 w.heap.size (fun _=>True) aY aM):=⟨h1_⟩
     have n2_:Aside0 (Kd.S (Kd.slice 2 (Kd.int .i64)) 23 w11 w.heap.size (fun k_=>some k_≠(bg:Value).ownBlock∧some k_≠(aY:Value).ownBlock) bu bv):=⟨h2_⟩
     have n3_:Aside0 (w11.heap[au]?=some (.cells #[.slice aN aC.length aT, .slice aU aq.length aV] 30 (0,0))):=⟨h3_⟩
     have n4_:Aside0 (w11.heap[ak]?=some (.cells #[.slice none 0 0, .int .i64 0, .slice none 0 0] 100 (0,0))):=⟨h4_⟩
     have n5_:Aside0 (Below w.heap.size w w11):=⟨h5_⟩
     clear af ai HB h0_ h1_ h2_ h3_ h4_ h5_
     have aW:=n0_
     have aX:=n1_
     have aZ:=n2_
     have af:=n3_
     have ai:=n4_
     have HB:=n5_
     clear n0_ n1_ n2_ n3_ n4_ n5_
     have hHeld:w11.cell? ⟨au,0,none⟩=some (.slice aN aC.length aT)∧w11.cell? ⟨au,1,none⟩=some (.slice aU aq.length aV):=hS_
     refine norm_ (a':=?_) ?_ ?_
     rotate_left
     ·simp only [putAll,Act.put,List.setIfInBounds_toArray,List.set_cons_zero,List.set_cons_succ]
      rfl
     refine on_ 7 (some 10) (fun K hK=>?_)
     refine box_step ?hg (N:=10) ?hd (cs:= #[.slice none 0 0, .int .i64 0, .slice none 0 0]) (t:=100) ?hr ?_;(case hd=>rfl);(case hg=>rfl);(case hr=>first | (go_simp;done) | (go_simp;rfl))
     intro aa hg w12 hbox hb
     replace aW:=q_ (Kd.S_below (so_ aW.out) hb)
     replace aX:=q_ (rb_ aX.out hb)
     replace aZ:=q_ (Kd.S_below (so_ aZ.out) hb)
     have ae:=q_ (hbox)
     have bw:=q_ ((by rw [hg];exact bz_:w.heap.size≤aa))
     have bz:=q_ ((by rw [hg];exact bz_:w.heap.size≤aa))
     have av:=q_ ((by rw [hg];exact lt_ af.out:au≠aa))
     have az:=q_ ((by rw [hg];exact gt_ af.out:aa≠au))
     have ax:=q_ ((by rw [hg];exact lt_ ai.out:ak≠aa))
     have aG:=q_ ((by rw [hg];exact gt_ ai.out:aa≠ak))
     replace af:=q_ (bb_ af.out hb)
     replace ai:=q_ (bb_ ai.out hb)
     replace HB:=q_ (bs_ hb)
     clear hb hbox hg
     refine hK.out _ _ ⟨(blk_cell af.out 0).trans rfl,(blk_cell af.out 1).trans rfl⟩ (fun hHeld=>?_)
     clear hK K
     refine norm_ (a':=?_) ?_ ?_
     rotate_left
     ·show Act.put _ (some 10) _=_
      simp only [Act.put,List.setIfInBounds_toArray,List.set_cons_zero,List.set_cons_succ,i64_w,i32_w]
      rfl
     exact norm_ (by first | (simp only [putAll,Act.put,List.setIfInBounds_toArray,List.set_cons_zero,List.set_cons_succ];done) | (simp only [putAll,Act.put,List.setIfInBounds_toArray,List.set_cons_zero,List.set_cons_succ];rfl)) (cT (bg,aY,bu,aa) _ ⟨hHeld,(so_ aW.out),(ro_ aX.out),(so_ aZ.out),bk_,bk_,bk_,bw.out,bz.out,av.out,az.out,ax.out,aG.out,hb_⟩)
   ·skip
    rintro ⟨bg,aY,aa⟩ w15 ⟨hS_,h0_,h1_,h2_,h3_,h4_,h5_,h6_,h7_,h8_,h9_,h10_,h11_⟩
    have n0_:Aside0 (Kd.S (Kd.slice 2 (Kd.int .i64)) 23 w15 w.heap.size (fun k_=>some k_≠(aY:Value).ownBlock) bg aJ):=⟨h0_⟩
    have n1_:Aside0 (Kd.R (Kd.int .i64) 2 w15 w.heap.size (fun _=>True) aY aM):=⟨h1_⟩
    have n2_:Aside0 (w15.heap[au]?=some (.cells #[.slice aN aC.length aT, .slice aU aq.length aV] 30 (0,0))):=⟨h2_⟩
    have n3_:Aside0 (w15.heap[ak]?=some (.cells #[.slice none 0 0, .int .i64 0, .slice none 0 0] 100 (0,0))):=⟨h3_⟩
    have n4_:Aside0 (w15.heap[aa]?=some (.cells #[bg, .int .i64 aK,aY] 100 (0,0))):=⟨h4_⟩
    have n5_:Aside0 (w.heap.size≤aa):=⟨h5_⟩
    have n6_:Aside0 (w.heap.size≤aa):=⟨h6_⟩
    have n7_:Aside0 (au≠aa):=⟨h7_⟩
    have n8_:Aside0 (aa≠au):=⟨h8_⟩
    have n9_:Aside0 (ak≠aa):=⟨h9_⟩
    have n10_:Aside0 (aa≠ak):=⟨h10_⟩
    have n11_:Aside0 (Below w.heap.size w w15):=⟨h11_⟩
    clear af ai HB h0_ h1_ h2_ h3_ h4_ h5_ h6_ h7_ h8_ h9_ h10_ h11_
    have aW:=n0_
    have aX:=n1_
    have af:=n2_
    have ai:=n3_
    have ae:=n4_
    have bw:=n5_
    have bz:=n6_
    have av:=n7_
    have az:=n8_
    have ax:=n9_
    have aG:=n10_
    have HB:=n11_
    clear n0_ n1_ n2_ n3_ n4_ n5_ n6_ n7_ n8_ n9_ n10_ n11_
    have hHeld:w15.cell? ⟨au,0,none⟩=some (.slice aN aC.length aT)∧w15.cell? ⟨au,1,none⟩=some (.slice aU aq.length aV):=hS_
    refine norm_ (a':=?_) ?_ ?_
    rotate_left
    ·simp only [putAll,Act.put,List.setIfInBounds_toArray,List.set_cons_zero,List.set_cons_succ]
     rfl
    refine on_ 6 (some 24) (fun K hK=>?_)
    refine Kd.S_lit_step (Kd.slice 2 (Kd.int .i64)) _ 23 ?hg (N:=24) ?hd (xs:=([]:List (List Int))) (inner:= []) (ok:=fun _=>True) (okp:=fun _=>True) ?hr ?hp (fun _ hk=>hk) trivial (Below.refl _ _) (Nat.le_refl _) (by simp) ?_;(case hd=>rfl);(case hg=>rfl);(case hr=>first | (go_simp;done) | (go_simp;rfl));(case hp=>exact(Reps.none _ _))
    intro bu w16 cV hb hg_ hnew_
    clear hg_ hnew_
    (first | rw [← bO.out] at cV | (simp only [Int.reduceToNat] at cV;rw [← bO.out] at cV))
    have aZ:=q_ (Kd.S_lower (Kd.S_new' (Kd.S_new' cV (Kd.S_lt (so_ aW.out))) (Kd.R_lt (ro_ aX.out))) bz_)
    replace af:=q_ (bb_ af.out hb)
    replace ai:=q_ (bb_ ai.out hb)
    replace ae:=q_ (bb_ ae.out hb)
    replace aW:=q_ (Kd.S_elder' (so_ aW.out) (Kd.S_base cV) hb)
    replace aX:=q_ (rb_ aX.out hb)
    replace HB:=q_ (bs_ hb)
    clear hb cV
    refine hK.out _ _ ⟨(blk_cell af.out 0).trans rfl,(blk_cell af.out 1).trans rfl⟩ (fun hHeld=>?_)
    clear hK K
    refine norm_ (a':=?_) ?_ ?_
    rotate_left
    ·show Act.put _ (some 24) _=_
     simp only [Act.put,List.setIfInBounds_toArray,List.set_cons_zero,List.set_cons_succ,i64_w,i32_w]
     rfl
    exact norm_ (by first | (simp only [putAll,Act.put,List.setIfInBounds_toArray,List.set_cons_zero,List.set_cons_succ];done) | (simp only [putAll,Act.put,List.setIfInBounds_toArray,List.set_cons_zero,List.set_cons_succ];rfl)) (df (bg,aY,bu,aa) _ ⟨hHeld,(so_ aW.out),(ro_ aX.out),(by(with_reducible repeat (first | apply Kd.S_alloc | apply Kd.S_drewN | apply Kd.S_drew));exact Kd.S_mono aZ.out (fun _ hk=>⟨hk.1.2,hk.2⟩)),bk_,bk_,bk_,bw.out,bz.out,av.out,az.out,ax.out,aG.out,hb_⟩)
  ·skip
   rintro ⟨bg,aY,bu,aa⟩ w12 ⟨hS_,h0_,h1_,h2_,h3_,h4_,h5_,h6_,h7_,h8_,h9_,h10_,h11_,h12_⟩
   have n0_:Aside0 (Kd.S (Kd.slice 2 (Kd.int .i64)) 23 w12 w.heap.size (fun k_=>some k_≠(aY:Value).ownBlock∧some k_≠(bu:Value).ownBlock) bg aJ):=⟨h0_⟩
   have n1_:Aside0 (Kd.R (Kd.int .i64) 2 w12 w.heap.size (fun _=>True) aY aM):=⟨h1_⟩
   have n2_:Aside0 (Kd.S (Kd.slice 2 (Kd.int .i64)) 23 w12 w.heap.size (fun k_=>some k_≠(bg:Value).ownBlock∧some k_≠(aY:Value).ownBlock) bu bv):=⟨h2_⟩
   have n3_:Aside0 (w12.heap[au]?=some (.cells #[.slice aN aC.length aT, .slice aU aq.length aV] 30 (0,0))):=⟨h3_⟩
   have n4_:Aside0 (w12.heap[ak]?=some (.cells #[.slice none 0 0, .int .i64 0, .slice none 0 0] 100 (0,0))):=⟨h4_⟩
   have n5_:Aside0 (w12.heap[aa]?=some (.cells #[.slice none 0 0, .int .i64 0, .slice none 0 0] 100 (0,0))):=⟨h5_⟩
   have n6_:Aside0 (w.heap.size≤aa):=⟨h6_⟩
   have n7_:Aside0 (w.heap.size≤aa):=⟨h7_⟩
   have n8_:Aside0 (au≠aa):=⟨h8_⟩
   have n9_:Aside0 (aa≠au):=⟨h9_⟩
   have n10_:Aside0 (ak≠aa):=⟨h10_⟩
   have n11_:Aside0 (aa≠ak):=⟨h11_⟩
   have n12_:Aside0 (Below w.heap.size w w12):=⟨h12_⟩
   clear af ai HB h0_ h1_ h2_ h3_ h4_ h5_ h6_ h7_ h8_ h9_ h10_ h11_ h12_
   have aW:=n0_
   have aX:=n1_
   have aZ:=n2_
   have af:=n3_
   have ai:=n4_
   have ae:=n5_
   have bw:=n6_
   have bz:=n7_
   have av:=n8_
   have az:=n9_
   have ax:=n10_
   have aG:=n11_
   have HB:=n12_
   clear n0_ n1_ n2_ n3_ n4_ n5_ n6_ n7_ n8_ n9_ n10_ n11_ n12_
   have hHeld:w12.cell? ⟨au,0,none⟩=some (.slice aN aC.length aT)∧w12.cell? ⟨au,1,none⟩=some (.slice aU aq.length aV):=hS_
   obtain⟨cW,cZ,fC⟩:=Kd.S_slice aW.out
   (first | subst fC | (injection fC with f1_ f2_ f3_;have f4_:=f1_.symm;have f5_:=f3_.symm;clear f1_ f2_ f3_;subst f4_;subst f5_))
   obtain⟨dP,dQ,fD⟩:=Kd.R_slice aX.out
   (first | subst fD | (injection fD with f1_ f2_ f3_;have f4_:=f1_.symm;have f5_:=f3_.symm;clear f1_ f2_ f3_;subst f4_;subst f5_))
   refine norm_ (a':=?_) ?_ ?_
   rotate_left
   ·simp only [putAll,Act.put,List.setIfInBounds_toArray,List.set_cons_zero,List.set_cons_succ]
    rfl
   refine on_ 8 none (fun K hK=>?_)
   have hs14:w12.cell? ⟨aa,0,none⟩=some (.slice none 0 0):=(blk_cell ae.out 0).trans rfl
   have hfs14:=blk_frozen ae.out 0
   have hns14_0:=av.out
   have hns14_1:=ax.out
   have hms14_0:=az.out
   have hms14_1:=aG.out
   have hs15:w12.cell? ⟨aa,1,none⟩=some (.int .i64 0):=(blk_cell ae.out 1).trans rfl
   have hfs15:=blk_frozen ae.out 1
   have hns15_0:=av.out
   have hns15_1:=ax.out
   have hms15_0:=az.out
   have hms15_1:=aG.out
   have hs17:w12.cell? ⟨aa,2,none⟩=some (.slice none 0 0):=(blk_cell ae.out 2).trans rfl
   have hfs17:=blk_frozen ae.out 2
   have hns17_0:=av.out
   have hns17_1:=ax.out
   have hms17_0:=az.out
   have hms17_1:=aG.out
   refine skip_ (w1:=?_) (by rfl) rfl ?_ ?_
   rotate_left
   ·go_simp
    rfl
   refine hK.out _ _ ⟨((cell_far (p:=⟨aa,_,none⟩) av.out _).trans (((cell_far (p:=⟨aa,_,none⟩) av.out _).trans (((cell_far (p:=⟨aa,_,none⟩) av.out _).trans (hHeld.1)))))),((cell_far (p:=⟨aa,_,none⟩) av.out _).trans (((cell_far (p:=⟨aa,_,none⟩) av.out _).trans (((cell_far (p:=⟨aa,_,none⟩) av.out _).trans (hHeld.2))))))⟩ (fun hHeld=>?_)
   clear hK K
   refine pu_ 9 11 ?_
   exact norm_ (by first | (simp only [putAll,Act.put,List.setIfInBounds_toArray,List.set_cons_zero,List.set_cons_succ];done) | (simp only [putAll,Act.put,List.setIfInBounds_toArray,List.set_cons_zero,List.set_cons_succ];rfl)) (df (.slice cW aJ.length cZ, .slice dP aM.length dQ,bu,aa) _ ⟨hHeld,(by(with_reducible repeat (first | apply Kd.S_alloc | apply Kd.S_drewN | apply Kd.S_drew));exact Kd.S_mono (Kd.S_far (p:=⟨aa,2,none⟩) (Kd.S_far (p:=⟨aa,1,none⟩) (Kd.S_far (p:=⟨aa,0,none⟩) (Kd.S_types aW.out ae.out (by decide)) (fun _ hk=>hk.2) (.slice cW aJ.length cZ)) (fun _ hk=>hk.2) (.int .i64 aK)) (fun _ hk=>hk.2) (.slice dP aM.length dQ)) (fun _ hk=>⟨hk.1.1,hk.1.2⟩)),(by(with_reducible repeat (first | apply Kd.R_alloc | apply Kd.R_drewN | apply Kd.R_drew));exact Kd.R_mono (Kd.R_far (p:=⟨aa,2,none⟩) (Kd.R_far (p:=⟨aa,1,none⟩) (Kd.R_far (p:=⟨aa,0,none⟩) (Kd.R_types aX.out ae.out (by decide)) (fun _ hk=>hk.2) (.slice cW aJ.length cZ)) (fun _ hk=>hk.2) (.int .i64 aK)) (fun _ hk=>hk.2) (.slice dP aM.length dQ)) (fun _ hk=>trivial)),(by(with_reducible repeat (first | apply Kd.S_alloc | apply Kd.S_drewN | apply Kd.S_drew));exact Kd.S_mono (Kd.S_far (p:=⟨aa,2,none⟩) (Kd.S_far (p:=⟨aa,1,none⟩) (Kd.S_far (p:=⟨aa,0,none⟩) (Kd.S_types aZ.out ae.out (by decide)) (fun _ hk=>hk.2) (.slice cW aJ.length cZ)) (fun _ hk=>hk.2) (.int .i64 aK)) (fun _ hk=>hk.2) (.slice dP aM.length dQ)) (fun _ hk=>⟨hk.1.1,hk.1.2⟩)),(by(with_reducible repeat (first | refine blk_drewN ?_ _ | refine blk_drew ?_ | refine blk_alloc ?_ _));refine blk_far ?_ av.out _;(with_reducible repeat (first | refine blk_drewN ?_ _ | refine blk_drew ?_ | refine blk_alloc ?_ _));refine blk_far ?_ av.out _;(with_reducible repeat (first | refine blk_drewN ?_ _ | refine blk_drew ?_ | refine blk_alloc ?_ _));refine blk_far ?_ av.out _;(with_reducible repeat (first | refine blk_drewN ?_ _ | refine blk_drew ?_ | refine blk_alloc ?_ _));exact af.out),(by(with_reducible repeat (first | refine blk_drewN ?_ _ | refine blk_drew ?_ | refine blk_alloc ?_ _));refine blk_far ?_ ax.out _;(with_reducible repeat (first | refine blk_drewN ?_ _ | refine blk_drew ?_ | refine blk_alloc ?_ _));refine blk_far ?_ ax.out _;(with_reducible repeat (first | refine blk_drewN ?_ _ | refine blk_drew ?_ | refine blk_alloc ?_ _));refine blk_far ?_ ax.out _;(with_reducible repeat (first | refine blk_drewN ?_ _ | refine blk_drew ?_ | refine blk_alloc ?_ _));exact ai.out),(by(with_reducible repeat (first | refine blk_drewN ?_ _ | refine blk_drew ?_ | refine blk_alloc ?_ _));refine blk_put (cs:= #[.slice cW aJ.length cZ, .int .i64 aK, .slice none 0 0]) ?_ 2 _ rfl;(with_reducible repeat (first | refine blk_drewN ?_ _ | refine blk_drew ?_ | refine blk_alloc ?_ _));refine blk_put (cs:= #[.slice cW aJ.length cZ, .int .i64 0, .slice none 0 0]) ?_ 1 _ rfl;(with_reducible repeat (first | refine blk_drewN ?_ _ | refine blk_drew ?_ | refine blk_alloc ?_ _));refine blk_put (cs:= #[.slice none 0 0, .int .i64 0, .slice none 0 0]) ?_ 0 _ rfl;(with_reducible repeat (first | refine blk_drewN ?_ _ | refine blk_drew ?_ | refine blk_alloc ?_ _));exact ae.out),bw.out,bz.out,av.out,az.out,ax.out,aG.out,hb_⟩)
 rintro ⟨bg,aY,bu,aa⟩ w17 ⟨hS_,h0_,h1_,h2_,h3_,h4_,h5_,h6_,h7_,h8_,h9_,h10_,h11_,h12_⟩
 have n0_:Aside0 (Kd.S (Kd.slice 2 (Kd.int .i64)) 23 w17 w.heap.size (fun k_=>some k_≠(aY:Value).ownBlock∧some k_≠(bu:Value).ownBlock) bg aJ):=⟨h0_⟩
 have n1_:Aside0 (Kd.R (Kd.int .i64) 2 w17 w.heap.size (fun _=>True) aY aM):=⟨h1_⟩
 have n2_:Aside0 (Kd.S (Kd.slice 2 (Kd.int .i64)) 23 w17 w.heap.size (fun k_=>some k_≠(bg:Value).ownBlock∧some k_≠(aY:Value).ownBlock) bu bv):=⟨h2_⟩
 have n3_:Aside0 (w17.heap[au]?=some (.cells #[.slice aN aC.length aT, .slice aU aq.length aV] 30 (0,0))):=⟨h3_⟩
 have n4_:Aside0 (w17.heap[ak]?=some (.cells #[.slice none 0 0, .int .i64 0, .slice none 0 0] 100 (0,0))):=⟨h4_⟩
 have n5_:Aside0 (w17.heap[aa]?=some (.cells #[bg, .int .i64 aK,aY] 100 (0,0))):=⟨h5_⟩
 have n6_:Aside0 (w.heap.size≤aa):=⟨h6_⟩
 have n7_:Aside0 (w.heap.size≤aa):=⟨h7_⟩
 have n8_:Aside0 (au≠aa):=⟨h8_⟩
 have n9_:Aside0 (aa≠au):=⟨h9_⟩
 have n10_:Aside0 (ak≠aa):=⟨h10_⟩
 have n11_:Aside0 (aa≠ak):=⟨h11_⟩
 have n12_:Aside0 (Below w.heap.size w w17):=⟨h12_⟩
 clear af ai HB h0_ h1_ h2_ h3_ h4_ h5_ h6_ h7_ h8_ h9_ h10_ h11_ h12_
 have aW:=n0_
 have aX:=n1_
 have aZ:=n2_
 have af:=n3_
 have ai:=n4_
 have ae:=n5_
 have bw:=n6_
 have bz:=n7_
 have av:=n8_
 have az:=n9_
 have ax:=n10_
 have aG:=n11_
 have HB:=n12_
 clear n0_ n1_ n2_ n3_ n4_ n5_ n6_ n7_ n8_ n9_ n10_ n11_ n12_
 have hHeld:w17.cell? ⟨au,0,none⟩=some (.slice aN aC.length aT)∧w17.cell? ⟨au,1,none⟩=some (.slice aU aq.length aV):=hS_
 refine norm_ (a':=?_) ?_ ?_
 rotate_left
 ·simp only [putAll,Act.put,List.setIfInBounds_toArray,List.set_cons_zero,List.set_cons_succ]
  rfl
 refine pu_ 10 12 ?_
 refine done_ (done_of HT_.out (by kernel_rfl)) ?_
 try go_wp2
 go_loopg [13,14,15] k (fun kq v13 v14 v15 w'=> ∃(cO:Bool) (aA:Int) (aw:Int),v13= .bool cO∧v14= .int .i64 aA∧v15= .int .i64 aw∧Aside0 (spec_l05Run.l0 kq l1 a2 (aq.length:Int) bv cO aA aw aC aq aJ aK aM=some (r1,r2,r3,r4,r5,r6))∧Aside0 (kq≤k)∧Aside0 (Kd.S (Kd.slice 2 (Kd.int .i64)) 23 w' w.heap.size (fun k_=>some k_≠(bg:Value).ownBlock∧some k_≠(aY:Value).ownBlock) bu bv)∧Aside0 (Kd.S (Kd.slice 2 (Kd.int .i64)) 23 w' w.heap.size (fun k_=>some k_≠(bu:Value).ownBlock∧some k_≠(aY:Value).ownBlock) bg aJ)∧Aside0 (Kd.R (Kd.int .i64) 2 w' w.heap.size (fun _=>True) aY aM)∧Aside0 (w'.heap[au]?=some (.cells #[(.slice aN aC.length aT),(.slice aU aq.length aV)] 30 (0,0)))∧Aside0 (w'.heap[ak]?=some (.cells #[(.slice none 0 0), .int .i64 0,(.slice none 0 0)] 100 (0,0)))∧Aside0 (w'.heap[aa]?=some (.cells #[bg, .int .i64 aK,aY] 100 (0,0)))∧Aside0 (Below w.heap.size w w'))
 case atStart=>exact⟨(false),(0),(0),rs_,rs_,rs_,H',⟨Nat.le_refl _⟩,⟨so_ aZ.out⟩,⟨by(with_reducible repeat (first | apply Kd.S_alloc | apply Kd.S_drewN | apply Kd.S_drew));exact Kd.S_mono aW.out (fun _ hk=>⟨hk.2,hk.1⟩)⟩,⟨ro_ aX.out⟩,⟨bk_⟩,⟨bk_⟩,⟨bk_⟩,⟨hb_⟩⟩
 case round=>
  clear H'
  try clear c1
  try clear p2
  try clear c15
  obtain⟨cO,aA,aw,rfl,rfl,rfl,HA,HK1,aH,ah,ag,af,ai,ae,HB⟩:=hrel
  cases gk with
  | zero=>exact absurd HA.out (by simp [spec_l05Run.l0])
  | succ k1=>
   have H:=HA.out
   clear HA
   simp only [spec_l05Run.l0] at H
   by_cases c18:aw < (aq.length:Int)
   ·rw [if_pos c18] at H
    have c18b0:decide (aw < (aq.length:Int))=true:=decide_eq_true c18
    clear c18
    by_cases c19:cO=true
    ·subst c19
     have H1:(if 0≤aw then(if aw < (l1.length:Int) then(if 0≤aA then(if aA < (l1.length:Int) then((spec_l05Key.f k1 aJ aK aM aw aA (rd l1 aw) (rd l1 aA)).bind fun dR=>(if dR=true then(spec_l05Run.l0 k1 l1 a2 (aq.length:Int) bv true aw (wrap64 (aw+1)) aC aq aJ aK aM) else(spec_l05Run.l0 k1 l1 a2 (aq.length:Int) bv true aA (wrap64 (aw+1)) aC aq aJ aK aM))) else(none)) else(none)) else(none)) else(none))=some (r1,r2,r3,r4,r5,r6):=by rw [if_pos rfl] at H;exact H
     clear H
     have H:=H1
     clear H1
     by_cases c20:0≤aw
     ·rw [if_pos c20] at H
      have c20b0:decide (0≤aw)=true:=decide_eq_true c20
      clear c20
      by_cases c21:aw < (l1.length:Int)
      ·rw [if_pos c21] at H
       have c21b0:decide (aw < (l1.length:Int))=true:=decide_eq_true c21
       clear c21
       by_cases c22:0≤aA
       ·rw [if_pos c22] at H
        have c22b0:decide (0≤aA)=true:=decide_eq_true c22
        clear c22
        by_cases c23:aA < (l1.length:Int)
        ·rw [if_pos c23] at H
         have c23b0:decide (aA < (l1.length:Int))=true:=decide_eq_true c23
         clear c23
         replace H:=Option.bind_eq_some_iff.mp H
         obtain⟨dR,A240,H⟩:=H
         replace H:(if dR=true then(spec_l05Run.l0 k1 l1 a2 (aq.length:Int) bv true aw (wrap64 (aw+1)) aC aq aJ aK aM) else(spec_l05Run.l0 k1 l1 a2 (aq.length:Int) bv true aA (wrap64 (aw+1)) aC aq aJ aK aM))=some (r1,r2,r3,r4,r5,r6):=H
         have A24:=q_ A240
         clear A240
         by_cases c25:dR=true
         ·subst c25
          have H1:(spec_l05Run.l0 k1 l1 a2 (aq.length:Int) bv true aw (wrap64 (aw+1)) aC aq aJ aK aM)=some (r1,r2,r3,r4,r5,r6):=by rw [if_pos rfl] at H;exact H
          clear H
          have H:=H1
          clear H1
          have H':=q_ H
          clear H
          have kD:=bD.out
          have kE:=bE.out
          have kF:=av.out
          have kG:=az.out
          have jx:wr.cell? ⟨au,0,none⟩=some (.slice aN aC.length aT):=(blk_cell af.out 0).trans rfl
          have jy:wr.cell? ⟨au,1,none⟩=some (.slice aU aq.length aV):=(blk_cell af.out 1).trans rfl
          have jz:=blk_frozen af.out 0
          have jA:=blk_frozen af.out 1
          try go_wp2
          replace aH:=q_ (Kd.S_drew aH.out)
          replace ah:=q_ (Kd.S_drew ah.out)
          replace ag:=q_ (Kd.R_drew ag.out)
          replace af:=q_ (blk_drew af.out)
          replace ai:=q_ (blk_drew ai.out)
          replace ae:=q_ (blk_drew ae.out)
          replace HB:=q_ (below_drew1 HB.out)
          have p239:0≤(aw:Int):=od_
          have q239:aw < (l1.length:Int):=od_
          obtain⟨cm,e239,hx239_0⟩:=Kd.at_int HR1.out aw p239 q239
          have bI:=hx239_0
          cases e239
          replace hx239_0:=(HB.out.cell (World.block_lt_of_cell? w _ hx239_0)).trans hx239_0
          replace p239:=eq_true p239
          replace q239:=eq_true q239
          have p240:0≤(aA:Int):=od_
          have q240:aA < (l1.length:Int):=od_
          obtain⟨dS,e240,hx240_0⟩:=Kd.at_int HR1.out aA p240 q240
          have bJ:=hx240_0
          obtain rfl:cm=dS:=(by injection e240)
          replace hx240_0:=(HB.out.cell (World.block_lt_of_cell? w _ hx240_0)).trans hx240_0
          replace p240:=eq_true p240
          replace q240:=eq_true q240
          obtain⟨fE,fF,fG⟩:=Kd.S_slice ah.out
          (first | subst fG | (injection fG with f1_ f2_ f3_;have f4_:=f1_.symm;have f5_:=f3_.symm;clear f1_ f2_ f3_;subst f4_;subst f5_))
          obtain⟨fH,fI,fJ⟩:=Kd.R_slice ag.out
          (first | subst fJ | (injection fJ with f1_ f2_ f3_;have f4_:=f1_.symm;have f5_:=f3_.symm;clear f1_ f2_ f3_;subst f4_;subst f5_))
          refine st_ (n:=12) (S:=fun w'=>w'.cell? ⟨aa,0,none⟩=some (.slice fE aJ.length fF)∧w'.cell? ⟨aa,1,none⟩=some (.int .i64 aK)∧w'.cell? ⟨aa,2,none⟩=some (.slice fH aM.length fI)∧w'.cell? (cm.add (aw).toNat)=some (.int .i64 (rd l1 aw))∧w'.cell? (cm.add (aA).toNat)=some (.int .i64 (rd l1 aA))) (ds:= []) ⟨(blk_cell ae.out 0).trans rfl,(blk_cell ae.out 1).trans rfl,(blk_cell ae.out 2).trans rfl,((HB.out.cell (World.block_lt_of_cell? w _ bI)).trans bI),((HB.out.cell (World.block_lt_of_cell? w _ bJ)).trans bJ)⟩ (fun hHeld=>?_);refine with_tabW spec_l05Run.tab7 spec_l05Run.bits7 (fun HT_ HW_=>?_)
          generalize wr.drew=w29 at aH ah ag af ai ae HB hx239_0 hx240_0 hHeld ⊢
          refine pu_ 1 42 ?_;refine pu_ 2 43 ?_;refine pu_ 3 44 ?_;refine pu_ 4 45 ?_;refine pu_ 5 46 ?_;refine pu_ 7 48 ?_;refine pu_ 8 49 ?_;refine pu_ 9 50 ?_;refine tk_ 0 41 ?_;refine tk_ 6 47 ?_;refine tk_ 10 51 ?_
          refine on_ 11 (some 52) (fun K hK=>?_)
          refine goes_ Try.func155 (by kernel_rfl) rfl #[.agg #[.slice fE aJ.length fF, .int .i64 aK, .slice fH aM.length fI], .int .i64 aw, .int .i64 aA, .int .i64 (rd l1 aw), .int .i64 (rd l1 aA)] (by rfl) rfl rfl (by(try simp only [List.map_toArray,List.map_cons,List.map_nil]);first | done | rfl | (simp only [List.length_drop,List.length_take];rfl)) ?_
          with_reducible refine(spec_l05Key.calls k1 _ _ aJ aK _ _ aM aw aA (rd l1 aw) (rd l1 aA) true _ ?bi ?bk ?bn ?bq A24.out).mono ?_
          (case bi=>repeat (first | exact(Kd.S_reads' ah.out).2.2 | (with_reducible refine Kd.C_alloc ?_ _) | (with_reducible refine Kd.C_drewN ?_ _) | (with_reducible refine Kd.C_drew ?_)))
          (case bk=>exact(Kd.S_reads' ah.out).2.1)
          (case bn=>repeat (first | exact(Kd.R_reads' ag.out).2.2 | (with_reducible refine Kd.C_alloc ?_ _) | (with_reducible refine Kd.C_drewN ?_ _) | (with_reducible refine Kd.C_drew ?_)))
          (case bq=>exact(Kd.R_reads' ag.out).2.1)
          rintro e w32 ⟨rfl,hb⟩
          refine⟨_,rfl,?_⟩
          replace aH:=q_ (Kd.S_below (so_ aH.out) hb)
          replace ah:=q_ (Kd.S_below (so_ ah.out) hb)
          replace ag:=q_ (rb_ ag.out hb)
          replace af:=q_ (bb_ af.out hb)
          replace ai:=q_ (bb_ ai.out hb)
          replace ae:=q_ (bb_ ae.out hb)
          replace HB:=q_ (bs_ hb)
          (try clear hb)
          (try clear hb2)
          (try clear hk)
          (try clear hi)
          refine hK.out _ _ ⟨(blk_cell ae.out 0).trans rfl,(blk_cell ae.out 1).trans rfl,(blk_cell ae.out 2).trans rfl,((HB.out.cell (World.block_lt_of_cell? w _ bI)).trans bI),((HB.out.cell (World.block_lt_of_cell? w _ bJ)).trans bJ)⟩ (fun hHeld=>?_)
          clear hK K
          refine norm_ (a':=?_) ?_ ?_
          rotate_left
          ·show Act.put _ (some 52) _=_
           simp only [Act.put,List.setIfInBounds_toArray,List.set_cons_zero,List.set_cons_succ,i64_w,i32_w]
           rfl
          refine done_ (done_of HT_.out (by kernel_rfl)) ?_
          try go_wp2
          go_roundg k1
          case measure=>have:=HK1.out;omega
          case rel=>exact⟨(true),(aw),(wrap64 (aw+1)),rs_,rs_,rs_,H',⟨by have:=HK1.out;omega⟩,⟨so_ aH.out⟩,⟨so_ ah.out⟩,⟨ro_ ag.out⟩,⟨bk_⟩,⟨bk_⟩,⟨bk_⟩,⟨hb_⟩⟩
         ·replace c25:=Bool.eq_false_iff.mpr c25
          subst c25
          have H1:(spec_l05Run.l0 k1 l1 a2 (aq.length:Int) bv true aA (wrap64 (aw+1)) aC aq aJ aK aM)=some (r1,r2,r3,r4,r5,r6):=by rw [if_neg (show ¬ (false=true) by decide)] at H;exact H
          clear H
          have H:=H1
          clear H1
          have H':=q_ H
          clear H
          have kH:=bD.out
          have kI:=bE.out
          have kJ:=av.out
          have kK:=az.out
          have jB:wr.cell? ⟨au,0,none⟩=some (.slice aN aC.length aT):=(blk_cell af.out 0).trans rfl
          have jC:wr.cell? ⟨au,1,none⟩=some (.slice aU aq.length aV):=(blk_cell af.out 1).trans rfl
          have jD:=blk_frozen af.out 0
          have jE:=blk_frozen af.out 1
          try go_wp2
          replace aH:=q_ (Kd.S_drew aH.out)
          replace ah:=q_ (Kd.S_drew ah.out)
          replace ag:=q_ (Kd.R_drew ag.out)
          replace af:=q_ (blk_drew af.out)
          replace ai:=q_ (blk_drew ai.out)
          replace ae:=q_ (blk_drew ae.out)
          replace HB:=q_ (below_drew1 HB.out)
          have p239:0≤(aw:Int):=od_
          have q239:aw < (l1.length:Int):=od_
          obtain⟨cm,e239,hx239_0⟩:=Kd.at_int HR1.out aw p239 q239
          have bI:=hx239_0
          cases e239
          replace hx239_0:=(HB.out.cell (World.block_lt_of_cell? w _ hx239_0)).trans hx239_0
          replace p239:=eq_true p239
          replace q239:=eq_true q239
          have p240:0≤(aA:Int):=od_
          have q240:aA < (l1.length:Int):=od_
          obtain⟨dS,e240,hx240_0⟩:=Kd.at_int HR1.out aA p240 q240
          have bJ:=hx240_0
          obtain rfl:cm=dS:=(by injection e240)
          replace hx240_0:=(HB.out.cell (World.block_lt_of_cell? w _ hx240_0)).trans hx240_0
          replace p240:=eq_true p240
          replace q240:=eq_true q240
          obtain⟨fK,fL,fM⟩:=Kd.S_slice ah.out
          (first | subst fM | (injection fM with f1_ f2_ f3_;have f4_:=f1_.symm;have f5_:=f3_.symm;clear f1_ f2_ f3_;subst f4_;subst f5_))
          obtain⟨fN,fO,fP⟩:=Kd.R_slice ag.out
          (first | subst fP | (injection fP with f1_ f2_ f3_;have f4_:=f1_.symm;have f5_:=f3_.symm;clear f1_ f2_ f3_;subst f4_;subst f5_))
          refine st_ (n:=12) (S:=fun w'=>w'.cell? ⟨aa,0,none⟩=some (.slice fK aJ.length fL)∧w'.cell? ⟨aa,1,none⟩=some (.int .i64 aK)∧w'.cell? ⟨aa,2,none⟩=some (.slice fN aM.length fO)∧w'.cell? (cm.add (aw).toNat)=some (.int .i64 (rd l1 aw))∧w'.cell? (cm.add (aA).toNat)=some (.int .i64 (rd l1 aA))) (ds:= []) ⟨(blk_cell ae.out 0).trans rfl,(blk_cell ae.out 1).trans rfl,(blk_cell ae.out 2).trans rfl,((HB.out.cell (World.block_lt_of_cell? w _ bI)).trans bI),((HB.out.cell (World.block_lt_of_cell? w _ bJ)).trans bJ)⟩ (fun hHeld=>?_);refine with_tabW spec_l05Run.tab7 spec_l05Run.bits7 (fun HT_ HW_=>?_)
          generalize wr.drew=w36 at aH ah ag af ai ae HB hx239_0 hx240_0 hHeld ⊢
          refine pu_ 1 42 ?_;refine pu_ 2 43 ?_;refine pu_ 3 44 ?_;refine pu_ 4 45 ?_;refine pu_ 5 46 ?_;refine pu_ 7 48 ?_;refine pu_ 8 49 ?_;refine pu_ 9 50 ?_;refine tk_ 0 41 ?_;refine tk_ 6 47 ?_;refine tk_ 10 51 ?_
          refine on_ 11 (some 52) (fun K hK=>?_)
          refine goes_ Try.func155 (by kernel_rfl) rfl #[.agg #[.slice fK aJ.length fL, .int .i64 aK, .slice fN aM.length fO], .int .i64 aw, .int .i64 aA, .int .i64 (rd l1 aw), .int .i64 (rd l1 aA)] (by rfl) rfl rfl (by(try simp only [List.map_toArray,List.map_cons,List.map_nil]);first | done | rfl | (simp only [List.length_drop,List.length_take];rfl)) ?_
          with_reducible refine(spec_l05Key.calls k1 _ _ aJ aK _ _ aM aw aA (rd l1 aw) (rd l1 aA) false _ ?bi ?bk ?bn ?bq A24.out).mono ?_
          (case bi=>repeat (first | exact(Kd.S_reads' ah.out).2.2 | (with_reducible refine Kd.C_alloc ?_ _) | (with_reducible refine Kd.C_drewN ?_ _) | (with_reducible refine Kd.C_drew ?_)))
          (case bk=>exact(Kd.S_reads' ah.out).2.1)
          (case bn=>repeat (first | exact(Kd.R_reads' ag.out).2.2 | (with_reducible refine Kd.C_alloc ?_ _) | (with_reducible refine Kd.C_drewN ?_ _) | (with_reducible refine Kd.C_drew ?_)))
          (case bq=>exact(Kd.R_reads' ag.out).2.1)
          rintro e w39 ⟨rfl,hb⟩
          refine⟨_,rfl,?_⟩
          replace aH:=q_ (Kd.S_below (so_ aH.out) hb)
          replace ah:=q_ (Kd.S_below (so_ ah.out) hb)
          replace ag:=q_ (rb_ ag.out hb)
          replace af:=q_ (bb_ af.out hb)
          replace ai:=q_ (bb_ ai.out hb)
          replace ae:=q_ (bb_ ae.out hb)
          replace HB:=q_ (bs_ hb)
          (try clear hb)
          (try clear hb2)
          (try clear hk)
          (try clear hi)
          refine hK.out _ _ ⟨(blk_cell ae.out 0).trans rfl,(blk_cell ae.out 1).trans rfl,(blk_cell ae.out 2).trans rfl,((HB.out.cell (World.block_lt_of_cell? w _ bI)).trans bI),((HB.out.cell (World.block_lt_of_cell? w _ bJ)).trans bJ)⟩ (fun hHeld=>?_)
          clear hK K
          refine norm_ (a':=?_) ?_ ?_
          rotate_left
          ·show Act.put _ (some 52) _=_
           simp only [Act.put,List.setIfInBounds_toArray,List.set_cons_zero,List.set_cons_succ,i64_w,i32_w]
           rfl
          refine done_ (done_of HT_.out (by kernel_rfl)) ?_
          try go_wp2
          go_roundg k1
          case measure=>have:=HK1.out;omega
          case rel=>exact⟨(true),(aA),(wrap64 (aw+1)),rs_,rs_,rs_,H',⟨by have:=HK1.out;omega⟩,⟨so_ aH.out⟩,⟨so_ ah.out⟩,⟨ro_ ag.out⟩,⟨bk_⟩,⟨bk_⟩,⟨bk_⟩,⟨hb_⟩⟩
        ·rw [if_neg c23] at H
         exact absurd H (by simp)
       ·rw [if_neg c22] at H
        exact absurd H (by simp)
      ·rw [if_neg c21] at H
       exact absurd H (by simp)
     ·rw [if_neg c20] at H
      exact absurd H (by simp)
    ·replace c19:=Bool.eq_false_iff.mpr c19
     subst c19
     have H1:(if 0≤aw then(if aw < (l1.length:Int) then(if 0≤aA then(if aA < (l1.length:Int) then((spec_l05Key.f k1 aJ aK aM aw aA (rd l1 aw) (rd l1 aA)).bind fun dU=>(if dU=true then(spec_l05Run.l0 k1 l1 a2 (aq.length:Int) bv (decide ((rd aq aw) < 0)) aw (wrap64 (aw+1)) aC aq aJ aK aM) else(spec_l05Run.l0 k1 l1 a2 (aq.length:Int) bv (decide ((rd aq aw) < 0)) aA (wrap64 (aw+1)) aC aq aJ aK aM))) else(none)) else(none)) else(none)) else(none))=some (r1,r2,r3,r4,r5,r6):=by rw [if_neg (show ¬ (false=true) by decide)] at H;exact H
     clear H
     have H:=H1
     clear H1
     by_cases c40:0≤aw
     ·rw [if_pos c40] at H
      have c40b0:decide (0≤aw)=true:=decide_eq_true c40
      clear c40
      by_cases c41:aw < (l1.length:Int)
      ·rw [if_pos c41] at H
       have c41b0:decide (aw < (l1.length:Int))=true:=decide_eq_true c41
       clear c41
       by_cases c42:0≤aA
       ·rw [if_pos c42] at H
        have c42b0:decide (0≤aA)=true:=decide_eq_true c42
        clear c42
        by_cases c43:aA < (l1.length:Int)
        ·rw [if_pos c43] at H
         have c43b0:decide (aA < (l1.length:Int))=true:=decide_eq_true c43
         clear c43
         replace H:=Option.bind_eq_some_iff.mp H
         obtain⟨dU,A440,H⟩:=H
         replace H:(if dU=true then(spec_l05Run.l0 k1 l1 a2 (aq.length:Int) bv (decide ((rd aq aw) < 0)) aw (wrap64 (aw+1)) aC aq aJ aK aM) else(spec_l05Run.l0 k1 l1 a2 (aq.length:Int) bv (decide ((rd aq aw) < 0)) aA (wrap64 (aw+1)) aC aq aJ aK aM))=some (r1,r2,r3,r4,r5,r6):=H
         have A44:=q_ A440
         clear A440
         by_cases c45:dU=true
         ·subst c45
          have H1:(spec_l05Run.l0 k1 l1 a2 (aq.length:Int) bv (decide ((rd aq aw) < 0)) aw (wrap64 (aw+1)) aC aq aJ aK aM)=some (r1,r2,r3,r4,r5,r6):=by rw [if_pos rfl] at H;exact H
          clear H
          have H:=H1
          clear H1
          have H':=q_ H
          clear H
          have kL:=bD.out
          have kM:=bE.out
          have kN:=av.out
          have kO:=az.out
          have dC:wr.cell? ⟨au,0,none⟩=some (.slice aN aC.length aT):=(blk_cell af.out 0).trans rfl
          have dD:wr.cell? ⟨au,1,none⟩=some (.slice aU aq.length aV):=(blk_cell af.out 1).trans rfl
          have dE:=blk_frozen af.out 0
          have dF:=blk_frozen af.out 1
          have p242:0≤(aw:Int):=od_
          have q242:aw < (aq.length:Int):=od_
          obtain⟨gx,e242,hx242_0⟩:=Kd.at_int HR0_1.out aw p242 q242
          cases e242
          replace hx242_0:=(HB.out.cell (World.block_lt_of_cell? w _ hx242_0)).trans hx242_0
          replace p242:=eq_true p242
          replace q242:=eq_true q242
          try go_wp2
          replace aH:=q_ (Kd.S_drew aH.out)
          replace ah:=q_ (Kd.S_drew ah.out)
          replace ag:=q_ (Kd.R_drew ag.out)
          replace af:=q_ (blk_drew af.out)
          replace ai:=q_ (blk_drew ai.out)
          replace ae:=q_ (blk_drew ae.out)
          replace HB:=q_ (below_drew1 HB.out)
          have p243:0≤(aw:Int):=od_
          have q243:aw < (l1.length:Int):=od_
          obtain⟨cn,e243,hx243_0⟩:=Kd.at_int HR1.out aw p243 q243
          have bK:=hx243_0
          cases e243
          replace hx243_0:=(HB.out.cell (World.block_lt_of_cell? w _ hx243_0)).trans hx243_0
          replace p243:=eq_true p243
          replace q243:=eq_true q243
          have p244:0≤(aA:Int):=od_
          have q244:aA < (l1.length:Int):=od_
          obtain⟨dV,e244,hx244_0⟩:=Kd.at_int HR1.out aA p244 q244
          have bL:=hx244_0
          obtain rfl:cn=dV:=(by injection e244)
          replace hx244_0:=(HB.out.cell (World.block_lt_of_cell? w _ hx244_0)).trans hx244_0
          replace p244:=eq_true p244
          replace q244:=eq_true q244
          obtain⟨fQ,fR,fS⟩:=Kd.S_slice ah.out
          (first | subst fS | (injection fS with f1_ f2_ f3_;have f4_:=f1_.symm;have f5_:=f3_.symm;clear f1_ f2_ f3_;subst f4_;subst f5_))
          obtain⟨fT,fU,fW⟩:=Kd.R_slice ag.out
          (first | subst fW | (injection fW with f1_ f2_ f3_;have f4_:=f1_.symm;have f5_:=f3_.symm;clear f1_ f2_ f3_;subst f4_;subst f5_))
          refine st_ (n:=12) (S:=fun w'=>w'.cell? ⟨aa,0,none⟩=some (.slice fQ aJ.length fR)∧w'.cell? ⟨aa,1,none⟩=some (.int .i64 aK)∧w'.cell? ⟨aa,2,none⟩=some (.slice fT aM.length fU)∧w'.cell? (cn.add (aw).toNat)=some (.int .i64 (rd l1 aw))∧w'.cell? (cn.add (aA).toNat)=some (.int .i64 (rd l1 aA))) (ds:= []) ⟨(blk_cell ae.out 0).trans rfl,(blk_cell ae.out 1).trans rfl,(blk_cell ae.out 2).trans rfl,((HB.out.cell (World.block_lt_of_cell? w _ bK)).trans bK),((HB.out.cell (World.block_lt_of_cell? w _ bL)).trans bL)⟩ (fun hHeld=>?_);refine with_tabW spec_l05Run.tab7 spec_l05Run.bits7 (fun HT_ HW_=>?_)
          generalize wr.drew=w49 at aH ah ag af ai ae HB hx243_0 hx244_0 hHeld ⊢
          refine pu_ 1 42 ?_;refine pu_ 2 43 ?_;refine pu_ 3 44 ?_;refine pu_ 4 45 ?_;refine pu_ 5 46 ?_;refine pu_ 7 48 ?_;refine pu_ 8 49 ?_;refine pu_ 9 50 ?_;refine tk_ 0 41 ?_;refine tk_ 6 47 ?_;refine tk_ 10 51 ?_
          refine on_ 11 (some 52) (fun K hK=>?_)
          refine goes_ Try.func155 (by kernel_rfl) rfl #[.agg #[.slice fQ aJ.length fR, .int .i64 aK, .slice fT aM.length fU], .int .i64 aw, .int .i64 aA, .int .i64 (rd l1 aw), .int .i64 (rd l1 aA)] (by rfl) rfl rfl (by(try simp only [List.map_toArray,List.map_cons,List.map_nil]);first | done | rfl | (simp only [List.length_drop,List.length_take];rfl)) ?_
          with_reducible refine(spec_l05Key.calls k1 _ _ aJ aK _ _ aM aw aA (rd l1 aw) (rd l1 aA) true _ ?bi ?bk ?bn ?bq A44.out).mono ?_
          (case bi=>repeat (first | exact(Kd.S_reads' ah.out).2.2 | (with_reducible refine Kd.C_alloc ?_ _) | (with_reducible refine Kd.C_drewN ?_ _) | (with_reducible refine Kd.C_drew ?_)))
          (case bk=>exact(Kd.S_reads' ah.out).2.1)
          (case bn=>repeat (first | exact(Kd.R_reads' ag.out).2.2 | (with_reducible refine Kd.C_alloc ?_ _) | (with_reducible refine Kd.C_drewN ?_ _) | (with_reducible refine Kd.C_drew ?_)))
          (case bq=>exact(Kd.R_reads' ag.out).2.1)
          rintro e w52 ⟨rfl,hb⟩
          refine⟨_,rfl,?_⟩
          replace aH:=q_ (Kd.S_below (so_ aH.out) hb)
          replace ah:=q_ (Kd.S_below (so_ ah.out) hb)
          replace ag:=q_ (rb_ ag.out hb)
          replace af:=q_ (bb_ af.out hb)
          replace ai:=q_ (bb_ ai.out hb)
          replace ae:=q_ (bb_ ae.out hb)
          replace HB:=q_ (bs_ hb)
          (try clear hb)
          (try clear hb2)
          (try clear hk)
          (try clear hi)
          refine hK.out _ _ ⟨(blk_cell ae.out 0).trans rfl,(blk_cell ae.out 1).trans rfl,(blk_cell ae.out 2).trans rfl,((HB.out.cell (World.block_lt_of_cell? w _ bK)).trans bK),((HB.out.cell (World.block_lt_of_cell? w _ bL)).trans bL)⟩ (fun hHeld=>?_)
          clear hK K
          refine norm_ (a':=?_) ?_ ?_
          rotate_left
          ·show Act.put _ (some 52) _=_
           simp only [Act.put,List.setIfInBounds_toArray,List.set_cons_zero,List.set_cons_succ,i64_w,i32_w]
           rfl
          refine done_ (done_of HT_.out (by kernel_rfl)) ?_
          try go_wp2
          go_roundg k1
          case measure=>have:=HK1.out;omega
          case rel=>exact⟨(decide ((rd aq aw) < 0)),(aw),(wrap64 (aw+1)),rs_,rs_,rs_,H',⟨by have:=HK1.out;omega⟩,⟨so_ aH.out⟩,⟨so_ ah.out⟩,⟨ro_ ag.out⟩,⟨bk_⟩,⟨bk_⟩,⟨bk_⟩,⟨hb_⟩⟩
         ·replace c45:=Bool.eq_false_iff.mpr c45
          subst c45
          have H1:(spec_l05Run.l0 k1 l1 a2 (aq.length:Int) bv (decide ((rd aq aw) < 0)) aA (wrap64 (aw+1)) aC aq aJ aK aM)=some (r1,r2,r3,r4,r5,r6):=by rw [if_neg (show ¬ (false=true) by decide)] at H;exact H
          clear H
          have H:=H1
          clear H1
          have H':=q_ H
          clear H
          have kP:=bD.out
          have kQ:=bE.out
          have kR:=av.out
          have kS:=az.out
          have dG:wr.cell? ⟨au,0,none⟩=some (.slice aN aC.length aT):=(blk_cell af.out 0).trans rfl
          have dH:wr.cell? ⟨au,1,none⟩=some (.slice aU aq.length aV):=(blk_cell af.out 1).trans rfl
          have dI:=blk_frozen af.out 0
          have dJ:=blk_frozen af.out 1
          have p242:0≤(aw:Int):=od_
          have q242:aw < (aq.length:Int):=od_
          obtain⟨gx,e242,hx242_0⟩:=Kd.at_int HR0_1.out aw p242 q242
          cases e242
          replace hx242_0:=(HB.out.cell (World.block_lt_of_cell? w _ hx242_0)).trans hx242_0
          replace p242:=eq_true p242
          replace q242:=eq_true q242
          try go_wp2
          replace aH:=q_ (Kd.S_drew aH.out)
          replace ah:=q_ (Kd.S_drew ah.out)
          replace ag:=q_ (Kd.R_drew ag.out)
          replace af:=q_ (blk_drew af.out)
          replace ai:=q_ (blk_drew ai.out)
          replace ae:=q_ (blk_drew ae.out)
          replace HB:=q_ (below_drew1 HB.out)
          have p243:0≤(aw:Int):=od_
          have q243:aw < (l1.length:Int):=od_
          obtain⟨cn,e243,hx243_0⟩:=Kd.at_int HR1.out aw p243 q243
          have bK:=hx243_0
          cases e243
          replace hx243_0:=(HB.out.cell (World.block_lt_of_cell? w _ hx243_0)).trans hx243_0
          replace p243:=eq_true p243
          replace q243:=eq_true q243
          have p244:0≤(aA:Int):=od_
          have q244:aA < (l1.length:Int):=od_
          obtain⟨dV,e244,hx244_0⟩:=Kd.at_int HR1.out aA p244 q244
          have bL:=hx244_0
          obtain rfl:cn=dV:=(by injection e244)
          replace hx244_0:=(HB.out.cell (World.block_lt_of_cell? w _ hx244_0)).trans hx244_0
          replace p244:=eq_true p244
          replace q244:=eq_true q244
          obtain⟨fZ,f7,f9⟩:=Kd.S_slice ah.out
          (first | subst f9 | (injection f9 with f1_ f2_ f3_;have f4_:=f1_.symm;have f5_:=f3_.symm;clear f1_ f2_ f3_;subst f4_;subst f5_))
          obtain⟨ga,gh,gi⟩:=Kd.R_slice ag.out
          (first | subst gi | (injection gi with f1_ f2_ f3_;have f4_:=f1_.symm;have f5_:=f3_.symm;clear f1_ f2_ f3_;subst f4_;subst f5_))
          refine st_ (n:=12) (S:=fun w'=>w'.cell? ⟨aa,0,none⟩=some (.slice fZ aJ.length f7)∧w'.cell? ⟨aa,1,none⟩=some (.int .i64 aK)∧w'.cell? ⟨aa,2,none⟩=some (.slice ga aM.length gh)∧w'.cell? (cn.add (aw).toNat)=some (.int .i64 (rd l1 aw))∧w'.cell? (cn.add (aA).toNat)=some (.int .i64 (rd l1 aA))) (ds:= []) ⟨(blk_cell ae.out 0).trans rfl,(blk_cell ae.out 1).trans rfl,(blk_cell ae.out 2).trans rfl,((HB.out.cell (World.block_lt_of_cell? w _ bK)).trans bK),((HB.out.cell (World.block_lt_of_cell? w _ bL)).trans bL)⟩ (fun hHeld=>?_);refine with_tabW spec_l05Run.tab7 spec_l05Run.bits7 (fun HT_ HW_=>?_)
          generalize wr.drew=w56 at aH ah ag af ai ae HB hx243_0 hx244_0 hHeld ⊢
          refine pu_ 1 42 ?_;refine pu_ 2 43 ?_;refine pu_ 3 44 ?_;refine pu_ 4 45 ?_;refine pu_ 5 46 ?_;refine pu_ 7 48 ?_;refine pu_ 8 49 ?_;refine pu_ 9 50 ?_;refine tk_ 0 41 ?_;refine tk_ 6 47 ?_;refine tk_ 10 51 ?_
          refine on_ 11 (some 52) (fun K hK=>?_)
          refine goes_ Try.func155 (by kernel_rfl) rfl #[.agg #[.slice fZ aJ.length f7, .int .i64 aK, .slice ga aM.length gh], .int .i64 aw, .int .i64 aA, .int .i64 (rd l1 aw), .int .i64 (rd l1 aA)] (by rfl) rfl rfl (by(try simp only [List.map_toArray,List.map_cons,List.map_nil]);first | done | rfl | (simp only [List.length_drop,List.length_take];rfl)) ?_
          with_reducible refine(spec_l05Key.calls k1 _ _ aJ aK _ _ aM aw aA (rd l1 aw) (rd l1 aA) false _ ?bi ?bk ?bn ?bq A44.out).mono ?_
          (case bi=>repeat (first | exact(Kd.S_reads' ah.out).2.2 | (with_reducible refine Kd.C_alloc ?_ _) | (with_reducible refine Kd.C_drewN ?_ _) | (with_reducible refine Kd.C_drew ?_)))
          (case bk=>exact(Kd.S_reads' ah.out).2.1)
          (case bn=>repeat (first | exact(Kd.R_reads' ag.out).2.2 | (with_reducible refine Kd.C_alloc ?_ _) | (with_reducible refine Kd.C_drewN ?_ _) | (with_reducible refine Kd.C_drew ?_)))
          (case bq=>exact(Kd.R_reads' ag.out).2.1)
          rintro e w59 ⟨rfl,hb⟩
          refine⟨_,rfl,?_⟩
          replace aH:=q_ (Kd.S_below (so_ aH.out) hb)
          replace ah:=q_ (Kd.S_below (so_ ah.out) hb)
          replace ag:=q_ (rb_ ag.out hb)
          replace af:=q_ (bb_ af.out hb)
          replace ai:=q_ (bb_ ai.out hb)
          replace ae:=q_ (bb_ ae.out hb)
          replace HB:=q_ (bs_ hb)
          (try clear hb)
          (try clear hb2)
          (try clear hk)
          (try clear hi)
          refine hK.out _ _ ⟨(blk_cell ae.out 0).trans rfl,(blk_cell ae.out 1).trans rfl,(blk_cell ae.out 2).trans rfl,((HB.out.cell (World.block_lt_of_cell? w _ bK)).trans bK),((HB.out.cell (World.block_lt_of_cell? w _ bL)).trans bL)⟩ (fun hHeld=>?_)
          clear hK K
          refine norm_ (a':=?_) ?_ ?_
          rotate_left
          ·show Act.put _ (some 52) _=_
           simp only [Act.put,List.setIfInBounds_toArray,List.set_cons_zero,List.set_cons_succ,i64_w,i32_w]
           rfl
          refine done_ (done_of HT_.out (by kernel_rfl)) ?_
          try go_wp2
          go_roundg k1
          case measure=>have:=HK1.out;omega
          case rel=>exact⟨(decide ((rd aq aw) < 0)),(aA),(wrap64 (aw+1)),rs_,rs_,rs_,H',⟨by have:=HK1.out;omega⟩,⟨so_ aH.out⟩,⟨so_ ah.out⟩,⟨ro_ ag.out⟩,⟨bk_⟩,⟨bk_⟩,⟨bk_⟩,⟨hb_⟩⟩
        ·rw [if_neg c43] at H
         exact absurd H (by simp)
       ·rw [if_neg c42] at H
        exact absurd H (by simp)
      ·rw [if_neg c41] at H
       exact absurd H (by simp)
     ·rw [if_neg c40] at H
      exact absurd H (by simp)
   ·rw [if_neg c18] at H
    have c18b0:decide (aw < (aq.length:Int))=false:=decide_eq_false c18
    clear c18
    by_cases c60:cO=true
    ·subst c60
     have H1:(spec_l05Run.l1 k1 a2 (aq.length:Int) bv aA (wrap64 (2*(aq.length:Int))) aJ aK aM)=some (r1,r2,r3,r4,r5,r6):=by rw [if_pos rfl] at H;exact H
     clear H
     have H:=H1
     clear H1
     have H':=q_ H
     clear H
     have kT:=bD.out
     have kU:=bE.out
     have kV:=av.out
     have kW:=az.out
     have dK:wr.cell? ⟨au,0,none⟩=some (.slice aN aC.length aT):=(blk_cell af.out 0).trans rfl
     have dL:wr.cell? ⟨au,1,none⟩=some (.slice aU aq.length aV):=(blk_cell af.out 1).trans rfl
     have dM:=blk_frozen af.out 0
     have dN:=blk_frozen af.out 1
     go_wp2
     go_loopg [12,14,16] k1 (fun kq v12 v14 v16 w'=> ∃(bh:List (List Int)) (dh:Int) (ba:Int) (bB:Int) (aD:List (List Int)) (ay:Int) (aj:List Int) (a9:Value) (bA:Value),v14= .int .i64 dh∧v16= .int .i64 ba∧Aside0 (spec_l05Run.l1 kq a2 (aq.length:Int) bh dh ba aD ay aj=some (r1,r2,r3,r4,r5,r6))∧Aside0 (kq≤k1)∧Aside0 (Kd.S (Kd.slice 2 (Kd.int .i64)) 23 w' w.heap.size (fun k_=>some k_≠(a9:Value).ownBlock∧some k_≠(bA:Value).ownBlock) v12 bh)∧Aside0 (Kd.S (Kd.slice 2 (Kd.int .i64)) 23 w' w.heap.size (fun k_=>some k_≠(v12:Value).ownBlock∧some k_≠(bA:Value).ownBlock) a9 aD)∧Aside0 (Kd.R (Kd.int .i64) 2 w' w.heap.size (fun _=>True) bA aj)∧Aside0 (w'.heap[au]?=some (.cells #[(.slice aN aC.length aT),(.slice aU aq.length aV)] 30 (0,0)))∧Aside0 (w'.heap[ak]?=some (.cells #[(.slice none 0 0), .int .i64 bB,(.slice none 0 0)] 100 (0,0)))∧Aside0 (w'.heap[aa]?=some (.cells #[a9, .int .i64 ay,bA] 100 (0,0)))∧Aside0 (Below w.heap.size w w'))
     case atStart=>exact⟨(bv),(aA),(wrap64 (2*(aq.length:Int))),(0),(aJ),(aK),(aM),(bg),(aY),rs_,rs_,H',⟨Nat.le_refl _⟩,⟨so_ aH.out⟩,⟨so_ ah.out⟩,⟨ro_ ag.out⟩,⟨bk_⟩,⟨bk_⟩,⟨bk_⟩,⟨hb_⟩⟩
     case round=>
      clear H'
      try clear c1
      try clear c2
      try clear p2
      try clear q2
      try clear hx2
      try clear c4
      try clear c5
      try clear c6
      try clear p6
      try clear c15
      try clear c18
      try clear c18b0
      try clear c19
      try clear c20
      try clear c21
      try clear c22
      try clear c23
      try clear p24
      try clear q24
      try clear hx24
      try clear c40
      try clear c40b0
      try clear c41
      try clear c41b0
      try clear c42
      try clear c42b0
      try clear c43
      try clear c43b0
      try clear c45
      try clear c46
      try clear c47
      try clear c53
      try clear c54
      try clear c60
      try clear c61
      try clear c62
      try clear dC
      try clear dD
      try clear dG
      try clear dH
      try clear dK
      try clear dL
      try clear dE
      try clear dF
      try clear dI
      try clear dJ
      try clear dM
      try clear dN
      try clear hx242_0
      try clear hx243_0
      try clear hx244_0
      try clear p242
      try clear p243
      try clear p244
      try clear q242
      try clear q243
      try clear q244
      obtain⟨bh,dh,ba,bB,aD,ay,aj,a9,bA,rfl,rfl,HA,HK2,aH,ah,ag,af,ai,ae,HB⟩:=hrel
      cases gk with
      | zero=>exact absurd HA.out (by simp [spec_l05Run.l1])
      | succ k2=>
       have H:=HA.out
       clear HA
       simp only [spec_l05Run.l1] at H
       by_cases c64:(bh.length:Int) < a2
       ·rw [if_pos c64] at H
        have c64b0:decide ((bh.length:Int) < a2)=true:=decide_eq_true c64
        clear c64
        have HC65:=q_ H
        clear H
        obtain⟨cA,cB,gM⟩:=Kd.S_slice aH.out
        subst gM
        go_upto_if 67 with (fail)
        go_cut [14] (fun v14 wc=> ∃(kq:Nat) (aI:Int) (bM:Int),v14= .int .i64 aI∧Aside0 (spec_l05Run.j2 kq a2 (aq.length:Int) bh aI ba aD ay aj=some (r1,r2,r3,r4,r5,r6))∧Aside0 (kq≤k2)∧Aside0 (Kd.S (Kd.slice 2 (Kd.int .i64)) 23 wc w.heap.size (fun k_=>some k_≠(a9:Value).ownBlock∧some k_≠(bA:Value).ownBlock) (.slice cA bh.length cB) bh)∧Aside0 (Kd.S (Kd.slice 2 (Kd.int .i64)) 23 wc w.heap.size (fun k_=>some k_≠((.slice cA bh.length cB):Value).ownBlock∧some k_≠(bA:Value).ownBlock) a9 aD)∧Aside0 (Kd.R (Kd.int .i64) 2 wc w.heap.size (fun _=>True) bA aj)∧Aside0 (wc.heap[au]?=some (.cells #[(.slice aN aC.length aT),(.slice aU aq.length aV)] 30 (0,0)))∧Aside0 (wc.heap[ak]?=some (.cells #[(.slice none 0 0), .int .i64 bM,(.slice none 0 0)] 100 (0,0)))∧Aside0 (wc.heap[aa]?=some (.cells #[a9, .int .i64 ay,bA] 100 (0,0)))∧Aside0 (Below w.heap.size w wc))
        case first=>
         have H:=HC65.out
         clear HC65
         by_cases c67:ba < (wrap64 (2*(aq.length:Int)))
         ·rw [if_pos c67] at H
          have c67b0:decide (ba < (wrap64 (2*(aq.length:Int))))=true:=decide_eq_true c67
          clear c67
          (first | rw [c67b0] | (simp only [i64_w,i32_w];rw [c67b0]) | skip)
          replace H:=Option.bind_eq_some_iff.mp H
          obtain⟨cC,A680,H⟩:=H
          replace H:(if cC < 0 then(some (aD,ay,aj,bh,ba,false)) else(spec_l05Run.j2 k2 a2 (aq.length:Int) bh cC ba aD ay aj))=some (r1,r2,r3,r4,r5,r6):=H
          have A68:=q_ A680
          clear A680
          by_cases c69:cC < 0
          ·rw [if_pos c69] at H
           have c69b0:decide (cC < 0)=true:=decide_eq_true c69
           clear c69
           simp only [Option.some.injEq,Prod.mk.injEq] at H
           obtain⟨rfl,rfl,rfl,rfl,rfl,rfl⟩:=H
           have kX:=az.out
           have kY:=av.out
           have kZ:=aG.out
           have ld:=ax.out
           have eO:wr.cell? ⟨aa,0,none⟩=some (a9):=(blk_cell ae.out 0).trans rfl
           have eP:wr.cell? ⟨aa,1,none⟩=some (.int .i64 ay):=(blk_cell ae.out 1).trans rfl
           have eQ:wr.cell? ⟨aa,2,none⟩=some (bA):=(blk_cell ae.out 2).trans rfl
           have eS:=blk_frozen ae.out 0
           have eT:=blk_frozen ae.out 1
           have eU:=blk_frozen ae.out 2
           obtain⟨cD,cE,gN⟩:=Kd.S_slice ah.out
           subst gN
           obtain⟨da,db,gO⟩:=Kd.R_slice ag.out
           subst gO
           go_wp2_with (first | ((with_reducible refine gate_callee (f:=156) rfl ?_);refine gL_ 70 Try.func156 #[.agg #[.slice cD aD.length cE, .int .i64 ay, .slice da aj.length db], .int .i64 ba] ?_;(with_reducible refine(spec_l05Row.calls k2 _ _ aD ay _ _ aj ba cC _ ?bi ?bk ?bn ?bq A68.out).mono ?_);(case bi=>repeat (first | exact(Kd.S_reads' ah.out).2.2 | (with_reducible refine Kd.C_alloc ?_ _) | (with_reducible refine Kd.C_drewN ?_ _) | (with_reducible refine Kd.C_drew ?_)));(case bk=>exact(Kd.S_reads' ah.out).2.1);(case bn=>repeat (first | exact(Kd.R_reads' ag.out).2.2 | (with_reducible refine Kd.C_alloc ?_ _) | (with_reducible refine Kd.C_drewN ?_ _) | (with_reducible refine Kd.C_drew ?_)));(case bq=>exact(Kd.R_reads' ag.out).2.1);rintro e w75 ⟨rfl,hb⟩;refine⟨_,rfl,?_⟩;replace aH:=q_ (Kd.S_below (so_ aH.out) hb);replace ah:=q_ (Kd.S_below (so_ ah.out) hb);replace ag:=q_ (rb_ ag.out hb);replace af:=q_ (bb_ af.out hb);replace ai:=q_ (bb_ ai.out hb);replace ae:=q_ (bb_ ae.out hb);replace HB:=q_ (bs_ hb);(try clear hb);(try clear hb2);(try clear hk);(try clear hi);have eV:w75.cell? ⟨aa,0,none⟩=some (.slice cD aD.length cE):=(blk_cell ae.out 0).trans rfl;have eW:w75.cell? ⟨aa,1,none⟩=some (.int .i64 ay):=(blk_cell ae.out 1).trans rfl;have eX:w75.cell? ⟨aa,2,none⟩=some (.slice da aj.length db):=(blk_cell ae.out 2).trans rfl;have eY:=blk_frozen ae.out 0;have eZ:=blk_frozen ae.out 1;have fa:=blk_frozen ae.out 2;have lf:=bE.out;have lg:=bD.out;have fc:w75.cell? ⟨ak,0,none⟩=some (.slice none 0 0):=(blk_cell ai.out 0).trans rfl;have fe:w75.cell? ⟨ak,1,none⟩=some (.int .i64 bB):=(blk_cell ai.out 1).trans rfl;have fg:w75.cell? ⟨ak,2,none⟩=some (.slice none 0 0):=(blk_cell ai.out 2).trans rfl;have fj:=blk_frozen ai.out 0;have fk:=blk_frozen ai.out 1;have fo:=blk_frozen ai.out 2))
           refine bodyPost_ret (results_list (rs:= [.cell 6 100, .tmp 7, .tmp 8, .tmp 9]) rfl (by simp) (.cell ak 100 #[.slice cD aD.length cE, .int .i64 ay, .slice da aj.length db] (0,0) _ rfl (by(with_reducible repeat (first | refine blk_drewN ?_ _ | refine blk_drew ?_ | refine blk_alloc ?_ _));refine blk_put (cs:= #[.slice cD aD.length cE, .int .i64 ay, .slice none 0 0]) ?_ 2 _ rfl;(with_reducible repeat (first | refine blk_drewN ?_ _ | refine blk_drew ?_ | refine blk_alloc ?_ _));refine blk_put (cs:= #[.slice cD aD.length cE, .int .i64 bB, .slice none 0 0]) ?_ 1 _ rfl;(with_reducible repeat (first | refine blk_drewN ?_ _ | refine blk_drew ?_ | refine blk_alloc ?_ _));refine blk_put (cs:= #[.slice none 0 0, .int .i64 bB, .slice none 0 0]) ?_ 0 _ rfl;(with_reducible repeat (first | refine blk_drewN ?_ _ | refine blk_drew ?_ | refine blk_alloc ?_ _));exact ai.out) Try.underlying100 rfl (by kernel_rfl) (.tmp (.tmp (.tmp .nil))))) rfl ?_
           exact⟨_,_,_,by first | rfl | (simp [errW_none,errW_some] <;> rfl) | (simp [*,errW_none,errW_some] <;> rfl),by(with_reducible repeat (first | apply Kd.S_alloc | apply Kd.S_drewN | apply Kd.S_drew));exact Kd.S_mono (Kd.S_far (p:=⟨ak,2,none⟩) (Kd.S_far (p:=⟨ak,1,none⟩) (Kd.S_far (p:=⟨ak,0,none⟩) (Kd.S_types ah.out ai.out (by decide)) (fun _ hk=>hk.2) (.slice cD aD.length cE)) (fun _ hk=>hk.2) (.int .i64 ay)) (fun _ hk=>hk.2) (.slice da aj.length db)) (fun _ hk=>⟨hk.1.2,hk.1.1⟩),by(with_reducible repeat (first | apply Kd.R_alloc | apply Kd.R_drewN | apply Kd.R_drew));exact Kd.R_mono (Kd.R_far (p:=⟨ak,2,none⟩) (Kd.R_far (p:=⟨ak,1,none⟩) (Kd.R_far (p:=⟨ak,0,none⟩) (Kd.R_types ag.out ai.out (by decide)) (fun _ hk=>hk.2) (.slice cD aD.length cE)) (fun _ hk=>hk.2) (.int .i64 ay)) (fun _ hk=>hk.2) (.slice da aj.length db)) (fun _ hk=>trivial),by(with_reducible repeat (first | apply Kd.S_alloc | apply Kd.S_drewN | apply Kd.S_drew));exact Kd.S_mono (Kd.S_far (p:=⟨ak,2,none⟩) (Kd.S_far (p:=⟨ak,1,none⟩) (Kd.S_far (p:=⟨ak,0,none⟩) (Kd.S_types aH.out ai.out (by decide)) (fun _ hk=>hk.2) (.slice cD aD.length cE)) (fun _ hk=>hk.2) (.int .i64 ay)) (fun _ hk=>hk.2) (.slice da aj.length db)) (fun _ hk=>⟨hk.1.1,hk.1.2⟩),hb_⟩
          ·rw [if_neg c69] at H
           have c69b0:decide (cC < 0)=false:=decide_eq_false c69
           clear c69
           have H':=q_ H
           clear H
           have lh:=az.out
           have ll:=av.out
           have lm:=aG.out
           have lp:=ax.out
           have fp:wr.cell? ⟨aa,0,none⟩=some (a9):=(blk_cell ae.out 0).trans rfl
           have fq:wr.cell? ⟨aa,1,none⟩=some (.int .i64 ay):=(blk_cell ae.out 1).trans rfl
           have fu:wr.cell? ⟨aa,2,none⟩=some (bA):=(blk_cell ae.out 2).trans rfl
           have fw:=blk_frozen ae.out 0
           have fA:=blk_frozen ae.out 1
           have fB:=blk_frozen ae.out 2
           obtain⟨gP,gQ,gS⟩:=Kd.S_slice ah.out
           subst gS
           obtain⟨gT,gU,gV⟩:=Kd.R_slice ag.out
           subst gV
           go_wp2_with (first | ((with_reducible refine gate_callee (f:=156) rfl ?_);refine gL_ 70 Try.func156 #[.agg #[.slice gP aD.length gQ, .int .i64 ay, .slice gT aj.length gU], .int .i64 ba] ?_;(with_reducible refine(spec_l05Row.calls k2 _ _ aD ay _ _ aj ba cC _ ?bi ?bk ?bn ?bq A68.out).mono ?_);(case bi=>repeat (first | exact(Kd.S_reads' ah.out).2.2 | (with_reducible refine Kd.C_alloc ?_ _) | (with_reducible refine Kd.C_drewN ?_ _) | (with_reducible refine Kd.C_drew ?_)));(case bk=>exact(Kd.S_reads' ah.out).2.1);(case bn=>repeat (first | exact(Kd.R_reads' ag.out).2.2 | (with_reducible refine Kd.C_alloc ?_ _) | (with_reducible refine Kd.C_drewN ?_ _) | (with_reducible refine Kd.C_drew ?_)));(case bq=>exact(Kd.R_reads' ag.out).2.1);rintro e w84 ⟨rfl,hb⟩;refine⟨_,rfl,?_⟩;replace aH:=q_ (Kd.S_below (so_ aH.out) hb);replace ah:=q_ (Kd.S_below (so_ ah.out) hb);replace ag:=q_ (rb_ ag.out hb);replace af:=q_ (bb_ af.out hb);replace ai:=q_ (bb_ ai.out hb);replace ae:=q_ (bb_ ae.out hb);replace HB:=q_ (bs_ hb);(try clear hb);(try clear hb2);(try clear hk);(try clear hi)))
           go_meet
           case rel=>exact⟨_,(cC),(bB),rs_,H',⟨by have:=HK1.out;have:=HK2.out;first | omega | exact Nat.le_refl _⟩,⟨so_ aH.out⟩,⟨so_ ah.out⟩,⟨ro_ ag.out⟩,⟨bk_⟩,⟨bk_⟩,⟨bk_⟩,⟨hb_⟩⟩
         ·rw [if_neg c67] at H
          have c67b0:decide (ba < (wrap64 (2*(aq.length:Int))))=false:=decide_eq_false c67
          clear c67
          (first | rw [c67b0] | (simp only [i64_w,i32_w];rw [c67b0]) | skip)
          have H':=q_ H
          clear H
          go_wp2
          go_meet
          case rel=>exact⟨_,(dh),(bB),rs_,H',⟨by have:=HK1.out;have:=HK2.out;first | omega | exact Nat.le_refl _⟩,⟨so_ aH.out⟩,⟨so_ ah.out⟩,⟨ro_ ag.out⟩,⟨bk_⟩,⟨bk_⟩,⟨bk_⟩,⟨hb_⟩⟩
        case rest=>
         clear HC65
         try clear c1
         try clear c2
         try clear p2
         try clear q2
         try clear hx2
         try clear c4
         try clear c5
         try clear c6
         try clear p6
         try clear c7
         try clear c8
         try clear c15
         try clear c18
         try clear c18b0
         try clear c19
         try clear c20
         try clear c21
         try clear c22
         try clear c23
         try clear p24
         try clear q24
         try clear hx24
         try clear c40
         try clear c40b0
         try clear c41
         try clear c41b0
         try clear c42
         try clear c42b0
         try clear c43
         try clear c43b0
         try clear c45
         try clear c46
         try clear c47
         try clear c53
         try clear c54
         try clear c60
         try clear c61
         try clear c62
         try clear c64
         try clear c64b0
         try clear p64
         try clear c67
         try clear c67b0
         try clear c69
         try clear c69b0
         try clear c70
         try clear c71
         try clear c77
         try clear c79
         try clear c80
         try clear dC
         try clear dD
         try clear dG
         try clear dH
         try clear dK
         try clear dL
         try clear eO
         try clear eP
         try clear eQ
         try clear eV
         try clear eW
         try clear eX
         try clear fc
         try clear fe
         try clear fg
         try clear fp
         try clear fq
         try clear fu
         try clear dE
         try clear dF
         try clear dI
         try clear dJ
         try clear dM
         try clear dN
         try clear eS
         try clear eT
         try clear eU
         try clear eY
         try clear eZ
         try clear fa
         try clear fj
         try clear fk
         try clear fo
         try clear fw
         try clear fA
         try clear fB
         try clear hx242_0
         try clear hx243_0
         try clear hx244_0
         try clear p2
         try clear p24
         try clear p242
         try clear p243
         try clear p244
         try clear p6
         try clear q2
         try clear q24
         try clear q242
         try clear q243
         try clear q244
         obtain⟨kq,aI,bM,rfl,HA,HJ64,aH,ah,ag,af,ai,ae,HB⟩:=hcut
         cases kq with
         | zero=>exact absurd HA.out (by simp [spec_l05Run.j2])
         | succ kj64=>
          have H:=HA.out
          clear HA
          simp only [spec_l05Run.j2] at H
          by_cases c85:0≤aI
          ·rw [if_pos c85] at H
           have c85b0:decide (0≤aI)=true:=decide_eq_true c85
           clear c85
           by_cases c86:aI < (aj.length:Int)
           ·rw [if_pos c86] at H
            have c86b0:decide (aI < (aj.length:Int))=true:=decide_eq_true c86
            clear c86
            obtain⟨bX,hy248⟩: ∃y_:List Int,y_=(([ba,rd aj aI]:List Int)):=⟨_,rfl⟩
            replace H:(if bh.length < 5864062014805 then((some (bh++ [bX]:List (List Int))).bind fun co=>((spec_l05Pivot.f aD ay aj aI ba).bind fun bN=>(if(rd aj aI)=(wrap64 (2*(aq.length:Int))) then(some (bN.1,bN.2.1,bN.2.2,co,(-1),true)) else((spec_l05Partner.f (rd aj aI) (aq.length:Int)).bind fun cq=>(spec_l05Run.l1 kj64 a2 (aq.length:Int) co aI cq bN.1 bN.2.1 bN.2.2))))) else(none))=some (r1,r2,r3,r4,r5,r6):=by first | (rw [hy248];with_reducible exact H) | (have H2_:=(Option.bind_some _ _).symm.trans H;rw [hy248];with_reducible exact H2_) | (have H2_:=(Option.bind_some _ _).symm.trans H;with_reducible exact H2_) | with_reducible exact H | (rw [hy248];exact H) | exact H
            have di:=q_ hy248
            clear hy248
            by_cases c87:bh.length < 5864062014805
            ·rw [if_pos c87] at H
             have eK:=q_ c87
             clear c87
             obtain⟨co,hy251⟩: ∃y_:List (List Int),y_=(bh++ [bX]):=⟨_,rfl⟩
             replace H:((spec_l05Pivot.f aD ay aj aI ba).bind fun bN=>(if(rd aj aI)=(wrap64 (2*(aq.length:Int))) then(some (bN.1,bN.2.1,bN.2.2,co,(-1),true)) else((spec_l05Partner.f (rd aj aI) (aq.length:Int)).bind fun cq=>(spec_l05Run.l1 kj64 a2 (aq.length:Int) co aI cq bN.1 bN.2.1 bN.2.2))))=some (r1,r2,r3,r4,r5,r6):=by first | (rw [hy251];with_reducible exact H) | (have H2_:=(Option.bind_some _ _).symm.trans H;rw [hy251];with_reducible exact H2_) | (have H2_:=(Option.bind_some _ _).symm.trans H;with_reducible exact H2_) | with_reducible exact H | (rw [hy251];exact H) | exact H
             have eL:=q_ hy251
             clear hy251
             replace H:=Option.bind_eq_some_iff.mp H
             obtain⟨⟨bF,bG,bH⟩,A880,H⟩:=H
             replace H:(if(rd aj aI)=(wrap64 (2*(aq.length:Int))) then(some (bF,bG,bH,co,(-1),true)) else((spec_l05Partner.f (rd aj aI) (aq.length:Int)).bind fun cq=>(spec_l05Run.l1 kj64 a2 (aq.length:Int) co aI cq bF bG bH)))=some (r1,r2,r3,r4,r5,r6):=H
             have A88:=q_ A880
             clear A880
             by_cases c89:(rd aj aI)=(wrap64 (2*(aq.length:Int)))
             ·rw [if_pos c89] at H
              have c89b0:((rd aj aI)==(wrap64 (2*(aq.length:Int))))=true:=beq_iff_eq.mpr c89
              have c89b1:((rd aj aI) !=(wrap64 (2*(aq.length:Int))))=false:=bne_eq_false_iff_eq.mpr c89
              clear c89
              simp only [Option.some.injEq,Prod.mk.injEq] at H
              obtain⟨rfl,rfl,rfl,rfl,rfl,rfl⟩:=H
              have lq:=az.out
              have lu:=av.out
              have lv:=aG.out
              have lz:=ax.out
              have jF:wc.cell? ⟨aa,0,none⟩=some (a9):=(blk_cell ae.out 0).trans rfl
              have jG:wc.cell? ⟨aa,1,none⟩=some (.int .i64 ay):=(blk_cell ae.out 1).trans rfl
              have jH:wc.cell? ⟨aa,2,none⟩=some (bA):=(blk_cell ae.out 2).trans rfl
              have jI:=blk_frozen ae.out 0
              have jJ:=blk_frozen ae.out 1
              have jK:=blk_frozen ae.out 2
              obtain⟨lD,cN,gW⟩:=Kd.R_slice ag.out
              subst gW
              have p247:0≤(aI:Int):=od_
              have q247:aI < (aj.length:Int):=od_
              obtain⟨bC,e247,hx247_0⟩:=Kd.at_int (Kd.R_reads' ag.out).2.2 aI p247 q247
              cases e247
              replace p247:=eq_true p247
              replace q247:=eq_true q247
              go_wp2_with (first | ((with_reducible refine gate_dst (N:=84) rfl ?_);refine Kd.R_lit (Kd.int .i64) _ 2 ?hg (N:=84) ?hd (xs:=([ba,rd aj aI]:List Int)) (inner:= [.int .i64 ba, .int .i64 (rd aj aI)]) (ok:=fun _=>True) (okp:=fun _=>True) ?hr ?hp (fun _ hk=>hk) trivial (Below.refl _ _) (Nat.le_refl _) (by simp) ?_;(case hd=>rfl);(case hg=>rfl);(case hr=>first | (go_simp;done) | (go_simp;rfl));(case hp=>exact(Reps.one (show Kd.M (Kd.int .i64) _ _ _ ba [.int .i64 ba] from rfl) (Reps.one (show Kd.M (Kd.int .i64) _ _ _ (rd aj aI) [.int .i64 (rd aj aI)] from rfl) (Reps.none _ _))));intro gX w94 cF hb hg_ hnew_;clear hg_ hnew_;(first | rw [← di.out] at cF | (simp only [Int.reduceToNat] at cF;rw [← di.out] at cF));replace aH:=q_ (Kd.S_elder' (so_ aH.out) (Kd.R_base cF) hb);replace ah:=q_ (Kd.S_elder' (so_ ah.out) (Kd.R_base cF) hb);have bS:=q_ (Kd.R_lower (Kd.R_new' cF (Kd.R_lt (ro_ ag.out))) bz_);replace af:=q_ (bb_ af.out hb);replace ai:=q_ (bb_ ai.out hb);replace ae:=q_ (bb_ ae.out hb);replace ag:=q_ (Kd.R_elder' (ro_ ag.out) (Kd.R_base cF) hb);replace HB:=q_ (bs_ hb);clear hb cF;obtain⟨ez,eB,gY⟩:=Kd.R_slice bS.out;subst gY) | ((with_reducible refine gate_builtin (b:= .append) (xs:= #[.tmp 81, .tmp 85]) rfl ?_);at_builtin;refine Kd.S_append (Kd.slice 2 (Kd.int .i64)) (w0:=w) w.heap.size rfl (.tmp 81) (.tmp 85) 22 23 (.slice none 0 0) 24 rfl Try.underlying22 info23 rfl (by decide) (by omega) (.slice cA bh.length cB) bh bX [.slice ez bX.length eB] (fun k_=>some k_≠(a9:Value).ownBlock∧some k_≠(.slice (some bC) aj.length cN:Value).ownBlock) (fun k_=>some k_=(.slice ez bX.length eB:Value).ownBlock) rfl rfl ?aP (fun k_ hk_=>((Kd.R_mono (ok':=fun k_=>((fun k_=>some k_≠(a9:Value).ownBlock∧some k_≠(.slice (some bC) aj.length cN:Value).ownBlock)) k_∧some k_≠(.slice cA bh.length cB:Value).ownBlock) (Kd.R_apart' (Kd.R_apart' (bS.out) (Kd.S_typed ah.out) (by decide)) (Kd.S_typed aH.out) (by decide)) (fun k_ hk=>⟨⟨hk.1.2,hk.1.1.2⟩,hk.2⟩))).1 k_ hk_.symm) ?aF ?aO ?aB ?aS ?aL ?_;(case aP=>exact Kd.M_row (Kd.R_mono (Kd.R_tight rfl (Kd.R_mono (ok':=fun k_=>((fun k_=>some k_≠(a9:Value).ownBlock∧some k_≠(.slice (some bC) aj.length cN:Value).ownBlock)) k_∧some k_≠(.slice cA bh.length cB:Value).ownBlock) (Kd.R_apart' (Kd.R_apart' (bS.out) (Kd.S_typed ah.out) (by decide)) (Kd.S_typed aH.out) (by decide)) (fun k_ hk=>⟨⟨hk.1.2,hk.1.1.2⟩,hk.2⟩))) (fun _ h_=>h_)));(case aB=>exact hb_);(case aF=>exact(fun k_ hk=>⟨Kd.fresh' (Kd.S_lt (so_ ah.out)) k_ hk,Kd.fresh' (Kd.R_lt (ro_ ag.out)) k_ hk⟩));(case aO=>exact(by(with_reducible repeat (first | apply Kd.S_alloc | apply Kd.S_drewN | apply Kd.S_drew));exact Kd.S_mono aH.out (fun k_ hk=>⟨⟨hk.1.1,hk.1.2⟩,fun e_=>hk.2 e_⟩)));(case aS=>exact bz_);(case aL=>have:=eK.out;omega);intro gZ w96 ho hb hg hat;rw [← eL.out] at ho;replace ah:=q_ (Kd.S_after (ok:=(fun k_=>some k_≠(.slice (some bC) aj.length cN:Value).ownBlock∧some k_≠(.slice ez bX.length eB:Value).ownBlock)) (by(with_reducible repeat (first | apply Kd.S_alloc | apply Kd.S_drewN | apply Kd.S_drew));exact Kd.S_mono ah.out (fun _ hk=>⟨⟨hk.1.2,hk.2⟩,hk.1.1⟩)) hg hat);replace ag:=q_ (Kd.R_over' (ro_ ag.out) (Kd.S_typed (so_ aH.out)) (by decide) hg);replace af:=q_ (bg_ af.out hg (Kd.S_ne aH.out af.out (by decide)));replace ai:=q_ (bg_ ai.out hg (Kd.S_ne aH.out ai.out (by decide)));replace ae:=q_ (bg_ ae.out hg (Kd.S_ne aH.out ae.out (by decide)));replace HB:=q_ (hb);have bT:=q_ (ho);clear aH bS ho hb hg hat;have jL:w96.cell? ⟨aa,0,none⟩=some (a9):=(blk_cell ae.out 0).trans rfl;have jM:w96.cell? ⟨aa,1,none⟩=some (.int .i64 ay):=(blk_cell ae.out 1).trans rfl;have jN:w96.cell? ⟨aa,2,none⟩=some (.slice (some bC) aj.length cN):=(blk_cell ae.out 2).trans rfl;have jO:=blk_frozen ae.out 0;have jP:=blk_frozen ae.out 1;have jQ:=blk_frozen ae.out 2;obtain⟨gj,gp,hU⟩:=Kd.S_slice ah.out;subst hU) | ((with_reducible refine gate_callee (f:=157) rfl ?_);refine gL_ 90 Try.func157 #[.agg #[.slice gj aD.length gp, .int .i64 ay, .slice (some bC) aj.length cN], .int .i64 aI, .int .i64 ba] ?_;(with_reducible refine(spec_l05Pivot.calls _ _ aD ay _ _ aj aI ba bF bG bH _ ?bi ?bk ?bn ?bq A88.out).mono ?_);(case bi=>repeat (first | exact(Kd.S_reads' ah.out).2.2 | (with_reducible refine Kd.C_alloc ?_ _) | (with_reducible refine Kd.C_drewN ?_ _) | (with_reducible refine Kd.C_drew ?_)));(case bk=>exact(Kd.S_reads' ah.out).2.1);(case bn=>repeat (first | exact(Kd.R_reads' ag.out).2.2 | (with_reducible refine Kd.C_alloc ?_ _) | (with_reducible refine Kd.C_drewN ?_ _) | (with_reducible refine Kd.C_drew ?_)));(case bq=>exact(Kd.R_reads' ag.out).2.1);rintro e w100 ⟨ia,ib,rfl,ho0,ho1,hb⟩;refine⟨_,rfl,?_⟩;have cP:=q_ (Kd.S_lower (Kd.S_new' (Kd.S_new' (Kd.S_new' ho0 (Kd.S_lt (so_ ah.out))) (Kd.R_lt (ro_ ag.out))) (Kd.S_lt (so_ bT.out))) bz_);have cQ:=q_ (Kd.R_lower (Kd.R_new' ho1 (Kd.R_lt (ro_ ag.out))) bz_);replace af:=q_ (bb_ af.out hb);replace ai:=q_ (bb_ ai.out hb);replace ae:=q_ (bb_ ae.out hb);replace ah:=q_ (Kd.S_mono (Kd.S_told (Kd.S_told (Kd.S_old (so_ ah.out) hb) (Kd.S_base ho0)) (Kd.R_base ho1)) (fun _ h_=>h_.1));replace ag:=q_ (Kd.R_elder' (ro_ ag.out) (Kd.R_base ho1) hb);replace bT:=q_ (Kd.S_mono (Kd.S_told (Kd.S_told (Kd.S_old (so_ bT.out) hb) (Kd.S_base ho0)) (Kd.R_base ho1)) (fun _ h_=>h_.1));replace HB:=q_ (bs_ hb);(try clear hb);(try clear hb2);(try clear hk);(try clear hi);(try clear ho0);(try clear ho1);obtain⟨bU,bV,gy⟩:=Kd.S_slice cP.out;subst gy;have ic:w100.cell? ⟨aa,0,none⟩=some (.slice gj aD.length gp):=(blk_cell ae.out 0).trans rfl;have ig:w100.cell? ⟨aa,1,none⟩=some (.int .i64 ay):=(blk_cell ae.out 1).trans rfl;have ij:w100.cell? ⟨aa,2,none⟩=some (.slice (some bC) aj.length cN):=(blk_cell ae.out 2).trans rfl;have ik:=blk_frozen ae.out 0;have il:=blk_frozen ae.out 1;have iq:=blk_frozen ae.out 2;obtain⟨ct,cz,gz⟩:=Kd.R_slice cQ.out;subst gz;have jU:=bE.out;have jV:=bD.out;have iw:w100.cell? ⟨ak,0,none⟩=some (.slice none 0 0):=(blk_cell ai.out 0).trans rfl;have iy:w100.cell? ⟨ak,1,none⟩=some (.int .i64 bM):=(blk_cell ai.out 1).trans rfl;have iz:w100.cell? ⟨ak,2,none⟩=some (.slice none 0 0):=(blk_cell ai.out 2).trans rfl;have iA:=blk_frozen ai.out 0;have iB:=blk_frozen ai.out 1;have iC:=blk_frozen ai.out 2))
              refine bodyPost_ret (results_list (rs:= [.cell 6 100, .tmp 7, .tmp 8, .tmp 9]) rfl (by simp) (.cell ak 100 #[.slice bU bF.length bV, .int .i64 bG, .slice ct bH.length cz] (0,0) _ rfl (by(with_reducible repeat (first | refine blk_drewN ?_ _ | refine blk_drew ?_ | refine blk_alloc ?_ _));refine blk_put (cs:= #[.slice bU bF.length bV, .int .i64 bG, .slice none 0 0]) ?_ 2 _ rfl;(with_reducible repeat (first | refine blk_drewN ?_ _ | refine blk_drew ?_ | refine blk_alloc ?_ _));refine blk_put (cs:= #[.slice bU bF.length bV, .int .i64 bM, .slice none 0 0]) ?_ 1 _ rfl;(with_reducible repeat (first | refine blk_drewN ?_ _ | refine blk_drew ?_ | refine blk_alloc ?_ _));refine blk_put (cs:= #[.slice none 0 0, .int .i64 bM, .slice none 0 0]) ?_ 0 _ rfl;(with_reducible repeat (first | refine blk_drewN ?_ _ | refine blk_drew ?_ | refine blk_alloc ?_ _));refine blk_far ?_ ax.out _;(with_reducible repeat (first | refine blk_drewN ?_ _ | refine blk_drew ?_ | refine blk_alloc ?_ _));refine blk_far ?_ ax.out _;(with_reducible repeat (first | refine blk_drewN ?_ _ | refine blk_drew ?_ | refine blk_alloc ?_ _));refine blk_far ?_ ax.out _;(with_reducible repeat (first | refine blk_drewN ?_ _ | refine blk_drew ?_ | refine blk_alloc ?_ _));exact ai.out) Try.underlying100 rfl (by kernel_rfl) (.tmp (.tmp (.tmp .nil))))) rfl ?_
              exact⟨_,_,_,by first | rfl | (simp [errW_none,errW_some] <;> rfl) | (simp [*,errW_none,errW_some] <;> rfl),by(with_reducible repeat (first | apply Kd.S_alloc | apply Kd.S_drewN | apply Kd.S_drew));exact Kd.S_mono (Kd.S_far (p:=⟨ak,2,none⟩) (Kd.S_far (p:=⟨ak,1,none⟩) (Kd.S_far (p:=⟨ak,0,none⟩) (Kd.S_far (p:=⟨aa,2,none⟩) (Kd.S_far (p:=⟨aa,1,none⟩) (Kd.S_far (p:=⟨aa,0,none⟩) (Kd.S_types (Kd.S_types cP.out ae.out (by decide)) ai.out (by decide)) (fun _ hk=>hk.1.2) (.slice bU bF.length bV)) (fun _ hk=>hk.1.2) (.int .i64 bG)) (fun _ hk=>hk.1.2) (.slice ct bH.length cz)) (fun _ hk=>hk.2) (.slice bU bF.length bV)) (fun _ hk=>hk.2) (.int .i64 bG)) (fun _ hk=>hk.2) (.slice ct bH.length cz)) (fun _ hk=>⟨hk.1.1.1.1.1,hk.1.1.2⟩),by(with_reducible repeat (first | apply Kd.R_alloc | apply Kd.R_drewN | apply Kd.R_drew));exact Kd.R_mono (Kd.R_far (p:=⟨ak,2,none⟩) (Kd.R_far (p:=⟨ak,1,none⟩) (Kd.R_far (p:=⟨ak,0,none⟩) (Kd.R_far (p:=⟨aa,2,none⟩) (Kd.R_far (p:=⟨aa,1,none⟩) (Kd.R_far (p:=⟨aa,0,none⟩) (Kd.R_types (Kd.R_types cQ.out ae.out (by decide)) ai.out (by decide)) (fun _ hk=>hk.1.2) (.slice bU bF.length bV)) (fun _ hk=>hk.1.2) (.int .i64 bG)) (fun _ hk=>hk.1.2) (.slice ct bH.length cz)) (fun _ hk=>hk.2) (.slice bU bF.length bV)) (fun _ hk=>hk.2) (.int .i64 bG)) (fun _ hk=>hk.2) (.slice ct bH.length cz)) (fun _ hk=>trivial),by(with_reducible repeat (first | apply Kd.S_alloc | apply Kd.S_drewN | apply Kd.S_drew));exact Kd.S_mono (Kd.S_far (p:=⟨ak,2,none⟩) (Kd.S_far (p:=⟨ak,1,none⟩) (Kd.S_far (p:=⟨ak,0,none⟩) (Kd.S_far (p:=⟨aa,2,none⟩) (Kd.S_far (p:=⟨aa,1,none⟩) (Kd.S_far (p:=⟨aa,0,none⟩) (Kd.S_types (Kd.S_types bT.out ae.out (by decide)) ai.out (by decide)) (fun _ hk=>hk.1.2) (.slice bU bF.length bV)) (fun _ hk=>hk.1.2) (.int .i64 bG)) (fun _ hk=>hk.1.2) (.slice ct bH.length cz)) (fun _ hk=>hk.2) (.slice bU bF.length bV)) (fun _ hk=>hk.2) (.int .i64 bG)) (fun _ hk=>hk.2) (.slice ct bH.length cz)) (fun _ hk=>⟨hk.1.1.1.2,hk.1.1.2⟩),hb_⟩
             ·rw [if_neg c89] at H
              have c89b0:((rd aj aI)==(wrap64 (2*(aq.length:Int))))=false:=beq_eq_false_iff_ne.mpr c89
              have c89b1:((rd aj aI) !=(wrap64 (2*(aq.length:Int))))=true:=bne_iff_ne.mpr c89
              replace H:=Option.bind_eq_some_iff.mp H
              obtain⟨cq,A1060,H⟩:=H
              replace H:(spec_l05Run.l1 kj64 a2 (aq.length:Int) co aI cq bF bG bH)=some (r1,r2,r3,r4,r5,r6):=H
              have A106:=q_ A1060
              clear A1060
              have H':=q_ H
              clear H
              have jW:=az.out
              have jX:=av.out
              have jY:=aG.out
              have jZ:=ax.out
              have iD:wc.cell? ⟨aa,0,none⟩=some (a9):=(blk_cell ae.out 0).trans rfl
              have iE:wc.cell? ⟨aa,1,none⟩=some (.int .i64 ay):=(blk_cell ae.out 1).trans rfl
              have iF:wc.cell? ⟨aa,2,none⟩=some (bA):=(blk_cell ae.out 2).trans rfl
              have iG:=blk_frozen ae.out 0
              have iH:=blk_frozen ae.out 1
              have iI:=blk_frozen ae.out 2
              obtain⟨lA,bP,gA⟩:=Kd.R_slice ag.out
              subst gA
              have p247:0≤(aI:Int):=od_
              have q247:aI < (aj.length:Int):=od_
              obtain⟨bC,e247,hx247_0⟩:=Kd.at_int (Kd.R_reads' ag.out).2.2 aI p247 q247
              cases e247
              replace p247:=eq_true p247
              replace q247:=eq_true q247
              go_wp2_with (first | ((with_reducible refine gate_dst (N:=84) rfl ?_);refine Kd.R_lit (Kd.int .i64) _ 2 ?hg (N:=84) ?hd (xs:=([ba,rd aj aI]:List Int)) (inner:= [.int .i64 ba, .int .i64 (rd aj aI)]) (ok:=fun _=>True) (okp:=fun _=>True) ?hr ?hp (fun _ hk=>hk) trivial (Below.refl _ _) (Nat.le_refl _) (by simp) ?_;(case hd=>rfl);(case hg=>rfl);(case hr=>first | (go_simp;done) | (go_simp;rfl));(case hp=>exact(Reps.one (show Kd.M (Kd.int .i64) _ _ _ ba [.int .i64 ba] from rfl) (Reps.one (show Kd.M (Kd.int .i64) _ _ _ (rd aj aI) [.int .i64 (rd aj aI)] from rfl) (Reps.none _ _))));intro gX w111 bW hb hg_ hnew_;clear hg_ hnew_;(first | rw [← di.out] at bW | (simp only [Int.reduceToNat] at bW;rw [← di.out] at bW));replace aH:=q_ (Kd.S_elder' (so_ aH.out) (Kd.R_base bW) hb);replace ah:=q_ (Kd.S_elder' (so_ ah.out) (Kd.R_base bW) hb);have bS:=q_ (Kd.R_lower (Kd.R_new' bW (Kd.R_lt (ro_ ag.out))) bz_);replace af:=q_ (bb_ af.out hb);replace ai:=q_ (bb_ ai.out hb);replace ae:=q_ (bb_ ae.out hb);replace ag:=q_ (Kd.R_elder' (ro_ ag.out) (Kd.R_base bW) hb);replace HB:=q_ (bs_ hb);clear hb bW;obtain⟨dW,dX,gB⟩:=Kd.R_slice bS.out;subst gB) | ((with_reducible refine gate_builtin (b:= .append) (xs:= #[.tmp 81, .tmp 85]) rfl ?_);at_builtin;refine Kd.S_append (Kd.slice 2 (Kd.int .i64)) (w0:=w) w.heap.size rfl (.tmp 81) (.tmp 85) 22 23 (.slice none 0 0) 24 rfl Try.underlying22 info23 rfl (by decide) (by omega) (.slice cA bh.length cB) bh bX [.slice dW bX.length dX] (fun k_=>some k_≠(a9:Value).ownBlock∧some k_≠(.slice (some bC) aj.length bP:Value).ownBlock) (fun k_=>some k_=(.slice dW bX.length dX:Value).ownBlock) rfl rfl ?aP (fun k_ hk_=>((Kd.R_mono (ok':=fun k_=>((fun k_=>some k_≠(a9:Value).ownBlock∧some k_≠(.slice (some bC) aj.length bP:Value).ownBlock)) k_∧some k_≠(.slice cA bh.length cB:Value).ownBlock) (Kd.R_apart' (Kd.R_apart' (bS.out) (Kd.S_typed ah.out) (by decide)) (Kd.S_typed aH.out) (by decide)) (fun k_ hk=>⟨⟨hk.1.2,hk.1.1.2⟩,hk.2⟩))).1 k_ hk_.symm) ?aF ?aO ?aB ?aS ?aL ?_;(case aP=>exact Kd.M_row (Kd.R_mono (Kd.R_tight rfl (Kd.R_mono (ok':=fun k_=>((fun k_=>some k_≠(a9:Value).ownBlock∧some k_≠(.slice (some bC) aj.length bP:Value).ownBlock)) k_∧some k_≠(.slice cA bh.length cB:Value).ownBlock) (Kd.R_apart' (Kd.R_apart' (bS.out) (Kd.S_typed ah.out) (by decide)) (Kd.S_typed aH.out) (by decide)) (fun k_ hk=>⟨⟨hk.1.2,hk.1.1.2⟩,hk.2⟩))) (fun _ h_=>h_)));(case aB=>exact hb_);(case aF=>exact(fun k_ hk=>⟨Kd.fresh' (Kd.S_lt (so_ ah.out)) k_ hk,Kd.fresh' (Kd.R_lt (ro_ ag.out)) k_ hk⟩));(case aO=>exact(by(with_reducible repeat (first | apply Kd.S_alloc | apply Kd.S_drewN | apply Kd.S_drew));exact Kd.S_mono aH.out (fun k_ hk=>⟨⟨hk.1.1,hk.1.2⟩,fun e_=>hk.2 e_⟩)));(case aS=>exact bz_);(case aL=>have:=eK.out;omega);intro gZ w113 ho hb hg hat;rw [← eL.out] at ho;replace ah:=q_ (Kd.S_after (ok:=(fun k_=>some k_≠(.slice (some bC) aj.length bP:Value).ownBlock∧some k_≠(.slice dW bX.length dX:Value).ownBlock)) (by(with_reducible repeat (first | apply Kd.S_alloc | apply Kd.S_drewN | apply Kd.S_drew));exact Kd.S_mono ah.out (fun _ hk=>⟨⟨hk.1.2,hk.2⟩,hk.1.1⟩)) hg hat);replace ag:=q_ (Kd.R_over' (ro_ ag.out) (Kd.S_typed (so_ aH.out)) (by decide) hg);replace af:=q_ (bg_ af.out hg (Kd.S_ne aH.out af.out (by decide)));replace ai:=q_ (bg_ ai.out hg (Kd.S_ne aH.out ai.out (by decide)));replace ae:=q_ (bg_ ae.out hg (Kd.S_ne aH.out ae.out (by decide)));replace HB:=q_ (hb);have bT:=q_ (ho);clear aH bS ho hb hg hat;have iJ:w113.cell? ⟨aa,0,none⟩=some (a9):=(blk_cell ae.out 0).trans rfl;have iK:w113.cell? ⟨aa,1,none⟩=some (.int .i64 ay):=(blk_cell ae.out 1).trans rfl;have iL:w113.cell? ⟨aa,2,none⟩=some (.slice (some bC) aj.length bP):=(blk_cell ae.out 2).trans rfl;have iM:=blk_frozen ae.out 0;have iN:=blk_frozen ae.out 1;have iO:=blk_frozen ae.out 2;obtain⟨dY,dZ,gC⟩:=Kd.S_slice ah.out;subst gC) | ((with_reducible refine gate_callee (f:=157) rfl ?_);refine gL_ 90 Try.func157 #[.agg #[.slice dY aD.length dZ, .int .i64 ay, .slice (some bC) aj.length bP], .int .i64 aI, .int .i64 ba] ?_;(with_reducible refine(spec_l05Pivot.calls _ _ aD ay _ _ aj aI ba bF bG bH _ ?bi ?bk ?bn ?bq A88.out).mono ?_);(case bi=>repeat (first | exact(Kd.S_reads' ah.out).2.2 | (with_reducible refine Kd.C_alloc ?_ _) | (with_reducible refine Kd.C_drewN ?_ _) | (with_reducible refine Kd.C_drew ?_)));(case bk=>exact(Kd.S_reads' ah.out).2.1);(case bn=>repeat (first | exact(Kd.R_reads' ag.out).2.2 | (with_reducible refine Kd.C_alloc ?_ _) | (with_reducible refine Kd.C_drewN ?_ _) | (with_reducible refine Kd.C_drew ?_)));(case bq=>exact(Kd.R_reads' ag.out).2.1);rintro e w117 ⟨ia,ib,rfl,ho0,ho1,hb⟩;refine⟨_,rfl,?_⟩;have cP:=q_ (Kd.S_lower (Kd.S_new' (Kd.S_new' (Kd.S_new' ho0 (Kd.S_lt (so_ ah.out))) (Kd.R_lt (ro_ ag.out))) (Kd.S_lt (so_ bT.out))) bz_);have cQ:=q_ (Kd.R_lower (Kd.R_new' ho1 (Kd.R_lt (ro_ ag.out))) bz_);replace af:=q_ (bb_ af.out hb);replace ai:=q_ (bb_ ai.out hb);replace ae:=q_ (bb_ ae.out hb);replace ah:=q_ (Kd.S_mono (Kd.S_told (Kd.S_told (Kd.S_old (so_ ah.out) hb) (Kd.S_base ho0)) (Kd.R_base ho1)) (fun _ h_=>h_.1));replace ag:=q_ (Kd.R_elder' (ro_ ag.out) (Kd.R_base ho1) hb);replace bT:=q_ (Kd.S_mono (Kd.S_told (Kd.S_told (Kd.S_old (so_ bT.out) hb) (Kd.S_base ho0)) (Kd.R_base ho1)) (fun _ h_=>h_.1));replace HB:=q_ (bs_ hb);(try clear hb);(try clear hb2);(try clear hk);(try clear hi);(try clear ho0);(try clear ho1);obtain⟨cG,cH,gF⟩:=Kd.S_slice cP.out;subst gF;have iP:w117.cell? ⟨aa,0,none⟩=some (.slice dY aD.length dZ):=(blk_cell ae.out 0).trans rfl;have iQ:w117.cell? ⟨aa,1,none⟩=some (.int .i64 ay):=(blk_cell ae.out 1).trans rfl;have iR:w117.cell? ⟨aa,2,none⟩=some (.slice (some bC) aj.length bP):=(blk_cell ae.out 2).trans rfl;have iS:=blk_frozen ae.out 0;have iT:=blk_frozen ae.out 1;have iU:=blk_frozen ae.out 2;obtain⟨dl,dr,gG⟩:=Kd.R_slice cQ.out;subst gG) | ((with_reducible refine gate_callee (f:=158) rfl ?_);refine gL_ 99 Try.func158 #[.int .i64 (rd aj aI), .int .i64 (aq.length:Int)] ?_;(with_reducible refine(spec_l05Partner.calls (rd aj aI) (aq.length:Int) cq _ A106.out).mono ?_);rintro e w' ⟨rfl,⟨nd,rfl⟩⟩;refine⟨_,rfl,?_⟩))
              go_roundg kj64
              case measure=>have:=HK1.out;have:=HK2.out;have:=HJ64.out;omega
              case rel=>exact⟨(co),(aI),(cq),(bM),(bF),(bG),(bH),(.slice cG bF.length cH),(.slice dl bH.length dr),rs_,rs_,H',⟨by have:=HK1.out;have:=HK2.out;have:=HJ64.out;omega⟩,⟨by(with_reducible repeat (first | apply Kd.S_alloc | apply Kd.S_drewN | apply Kd.S_drew));exact Kd.S_mono (Kd.S_far (p:=⟨aa,2,none⟩) (Kd.S_far (p:=⟨aa,1,none⟩) (Kd.S_far (p:=⟨aa,0,none⟩) (Kd.S_types bT.out ae.out (by decide)) (fun _ hk=>hk.2) (.slice cG bF.length cH)) (fun _ hk=>hk.2) (.int .i64 bG)) (fun _ hk=>hk.2) (.slice dl bH.length dr)) (fun _ hk=>⟨hk.1.1.2,hk.1.2⟩)⟩,⟨by(with_reducible repeat (first | apply Kd.S_alloc | apply Kd.S_drewN | apply Kd.S_drew));exact Kd.S_mono (Kd.S_far (p:=⟨aa,2,none⟩) (Kd.S_far (p:=⟨aa,1,none⟩) (Kd.S_far (p:=⟨aa,0,none⟩) (Kd.S_types cP.out ae.out (by decide)) (fun _ hk=>hk.2) (.slice cG bF.length cH)) (fun _ hk=>hk.2) (.int .i64 bG)) (fun _ hk=>hk.2) (.slice dl bH.length dr)) (fun _ hk=>⟨hk.1.2,hk.1.1.1.1⟩)⟩,⟨by(with_reducible repeat (first | apply Kd.R_alloc | apply Kd.R_drewN | apply Kd.R_drew));exact Kd.R_mono (Kd.R_far (p:=⟨aa,2,none⟩) (Kd.R_far (p:=⟨aa,1,none⟩) (Kd.R_far (p:=⟨aa,0,none⟩) (Kd.R_types cQ.out ae.out (by decide)) (fun _ hk=>hk.2) (.slice cG bF.length cH)) (fun _ hk=>hk.2) (.int .i64 bG)) (fun _ hk=>hk.2) (.slice dl bH.length dr)) (fun _ hk=>trivial)⟩,⟨by(with_reducible repeat (first | refine blk_drewN ?_ _ | refine blk_drew ?_ | refine blk_alloc ?_ _));refine blk_far ?_ av.out _;(with_reducible repeat (first | refine blk_drewN ?_ _ | refine blk_drew ?_ | refine blk_alloc ?_ _));refine blk_far ?_ av.out _;(with_reducible repeat (first | refine blk_drewN ?_ _ | refine blk_drew ?_ | refine blk_alloc ?_ _));refine blk_far ?_ av.out _;(with_reducible repeat (first | refine blk_drewN ?_ _ | refine blk_drew ?_ | refine blk_alloc ?_ _));exact af.out⟩,⟨by(with_reducible repeat (first | refine blk_drewN ?_ _ | refine blk_drew ?_ | refine blk_alloc ?_ _));refine blk_far ?_ ax.out _;(with_reducible repeat (first | refine blk_drewN ?_ _ | refine blk_drew ?_ | refine blk_alloc ?_ _));refine blk_far ?_ ax.out _;(with_reducible repeat (first | refine blk_drewN ?_ _ | refine blk_drew ?_ | refine blk_alloc ?_ _));refine blk_far ?_ ax.out _;(with_reducible repeat (first | refine blk_drewN ?_ _ | refine blk_drew ?_ | refine blk_alloc ?_ _));exact ai.out⟩,⟨by(with_reducible repeat (first | refine blk_drewN ?_ _ | refine blk_drew ?_ | refine blk_alloc ?_ _));refine blk_put (cs:= #[.slice cG bF.length cH, .int .i64 bG, .slice (some bC) aj.length bP]) ?_ 2 _ rfl;(with_reducible repeat (first | refine blk_drewN ?_ _ | refine blk_drew ?_ | refine blk_alloc ?_ _));refine blk_put (cs:= #[.slice cG bF.length cH, .int .i64 ay, .slice (some bC) aj.length bP]) ?_ 1 _ rfl;(with_reducible repeat (first | refine blk_drewN ?_ _ | refine blk_drew ?_ | refine blk_alloc ?_ _));refine blk_put (cs:= #[.slice dY aD.length dZ, .int .i64 ay, .slice (some bC) aj.length bP]) ?_ 0 _ rfl;(with_reducible repeat (first | refine blk_drewN ?_ _ | refine blk_drew ?_ | refine blk_alloc ?_ _));exact ae.out⟩,⟨hb_⟩⟩
            ·rw [if_neg c87] at H
             exact absurd H (by simp)
           ·rw [if_neg c86] at H
            exact absurd H (by simp)
          ·rw [if_neg c85] at H
           exact absurd H (by simp)
       ·rw [if_neg c64] at H
        have c64b0:decide ((bh.length:Int) < a2)=false:=decide_eq_false c64
        clear c64
        simp only [Option.some.injEq,Prod.mk.injEq] at H
        obtain⟨rfl,rfl,rfl,rfl,rfl,rfl⟩:=H
        obtain⟨lB,lC,gH⟩:=Kd.S_slice aH.out
        subst gH
        have j3:=az.out
        have j4:=av.out
        have j5:=aG.out
        have j6:=ax.out
        have iV:wr.cell? ⟨aa,0,none⟩=some (a9):=(blk_cell ae.out 0).trans rfl
        have iW:wr.cell? ⟨aa,1,none⟩=some (.int .i64 ay):=(blk_cell ae.out 1).trans rfl
        have iX:wr.cell? ⟨aa,2,none⟩=some (bA):=(blk_cell ae.out 2).trans rfl
        have iY:=blk_frozen ae.out 0
        have iZ:=blk_frozen ae.out 1
        have i9:=blk_frozen ae.out 2
        obtain⟨cI,cJ,gI⟩:=Kd.S_slice ah.out
        subst gI
        have j7:=bE.out
        have j8:=bD.out
        have ja:wr.cell? ⟨ak,0,none⟩=some (.slice none 0 0):=(blk_cell ai.out 0).trans rfl
        have jb:wr.cell? ⟨ak,1,none⟩=some (.int .i64 bB):=(blk_cell ai.out 1).trans rfl
        have jc:wr.cell? ⟨ak,2,none⟩=some (.slice none 0 0):=(blk_cell ai.out 2).trans rfl
        have jd:=blk_frozen ai.out 0
        have je:=blk_frozen ai.out 1
        have jf:=blk_frozen ai.out 2
        obtain⟨du,dw,gJ⟩:=Kd.R_slice ag.out
        subst gJ
        go_wp2
        refine bodyPost_ret (results_list (rs:= [.cell 6 100, .tmp 7, .tmp 8, .tmp 9]) rfl (by simp) (.cell ak 100 #[.slice cI aD.length cJ, .int .i64 ay, .slice du aj.length dw] (0,0) _ rfl (by(with_reducible repeat (first | refine blk_drewN ?_ _ | refine blk_drew ?_ | refine blk_alloc ?_ _));refine blk_put (cs:= #[.slice cI aD.length cJ, .int .i64 ay, .slice none 0 0]) ?_ 2 _ rfl;(with_reducible repeat (first | refine blk_drewN ?_ _ | refine blk_drew ?_ | refine blk_alloc ?_ _));refine blk_put (cs:= #[.slice cI aD.length cJ, .int .i64 bB, .slice none 0 0]) ?_ 1 _ rfl;(with_reducible repeat (first | refine blk_drewN ?_ _ | refine blk_drew ?_ | refine blk_alloc ?_ _));refine blk_put (cs:= #[.slice none 0 0, .int .i64 bB, .slice none 0 0]) ?_ 0 _ rfl;(with_reducible repeat (first | refine blk_drewN ?_ _ | refine blk_drew ?_ | refine blk_alloc ?_ _));exact ai.out) Try.underlying100 rfl (by kernel_rfl) (.tmp (.tmp (.tmp .nil))))) rfl ?_
        exact⟨_,_,_,by first | rfl | (simp [errW_none,errW_some] <;> rfl) | (simp [*,errW_none,errW_some] <;> rfl),by(with_reducible repeat (first | apply Kd.S_alloc | apply Kd.S_drewN | apply Kd.S_drew));exact Kd.S_mono (Kd.S_far (p:=⟨ak,2,none⟩) (Kd.S_far (p:=⟨ak,1,none⟩) (Kd.S_far (p:=⟨ak,0,none⟩) (Kd.S_types ah.out ai.out (by decide)) (fun _ hk=>hk.2) (.slice cI aD.length cJ)) (fun _ hk=>hk.2) (.int .i64 ay)) (fun _ hk=>hk.2) (.slice du aj.length dw)) (fun _ hk=>⟨hk.1.2,hk.1.1⟩),by(with_reducible repeat (first | apply Kd.R_alloc | apply Kd.R_drewN | apply Kd.R_drew));exact Kd.R_mono (Kd.R_far (p:=⟨ak,2,none⟩) (Kd.R_far (p:=⟨ak,1,none⟩) (Kd.R_far (p:=⟨ak,0,none⟩) (Kd.R_types ag.out ai.out (by decide)) (fun _ hk=>hk.2) (.slice cI aD.length cJ)) (fun _ hk=>hk.2) (.int .i64 ay)) (fun _ hk=>hk.2) (.slice du aj.length dw)) (fun _ hk=>trivial),by(with_reducible repeat (first | apply Kd.S_alloc | apply Kd.S_drewN | apply Kd.S_drew));exact Kd.S_mono (Kd.S_far (p:=⟨ak,2,none⟩) (Kd.S_far (p:=⟨ak,1,none⟩) (Kd.S_far (p:=⟨ak,0,none⟩) (Kd.S_types aH.out ai.out (by decide)) (fun _ hk=>hk.2) (.slice cI aD.length cJ)) (fun _ hk=>hk.2) (.int .i64 ay)) (fun _ hk=>hk.2) (.slice du aj.length dw)) (fun _ hk=>⟨hk.1.1,hk.1.2⟩),hb_⟩
    ·replace c60:=Bool.eq_false_iff.mpr c60
     subst c60
     have H1:(some (aJ,aK,aM,bv,(-1),true))=some (r1,r2,r3,r4,r5,r6):=by rw [if_neg (show ¬ (false=true) by decide)] at H;exact H
     clear H
     have H:=H1
     clear H1
     simp only [Option.some.injEq,Prod.mk.injEq] at H
     obtain⟨rfl,rfl,rfl,rfl,rfl,rfl⟩:=H
     have j9:=bD.out
     have kg:=bE.out
     have ko:=av.out
     have kr:=az.out
     have jg:wr.cell? ⟨au,0,none⟩=some (.slice aN aC.length aT):=(blk_cell af.out 0).trans rfl
     have jh:wr.cell? ⟨au,1,none⟩=some (.slice aU aq.length aV):=(blk_cell af.out 1).trans rfl
     have ji:=blk_frozen af.out 0
     have jk:=blk_frozen af.out 1
     have kv:=aG.out
     have kw:=ax.out
     have jl:wr.cell? ⟨aa,0,none⟩=some (bg):=(blk_cell ae.out 0).trans rfl
     have jm:wr.cell? ⟨aa,1,none⟩=some (.int .i64 aK):=(blk_cell ae.out 1).trans rfl
     have jn:wr.cell? ⟨aa,2,none⟩=some (aY):=(blk_cell ae.out 2).trans rfl
     have jo:=blk_frozen ae.out 0
     have jp:=blk_frozen ae.out 1
     have jq:=blk_frozen ae.out 2
     obtain⟨cK,cL,gK⟩:=Kd.S_slice ah.out
     subst gK
     have jr:wr.cell? ⟨ak,0,none⟩=some (.slice none 0 0):=(blk_cell ai.out 0).trans rfl
     have js:wr.cell? ⟨ak,1,none⟩=some (.int .i64 0):=(blk_cell ai.out 1).trans rfl
     have jt:wr.cell? ⟨ak,2,none⟩=some (.slice none 0 0):=(blk_cell ai.out 2).trans rfl
     have ju:=blk_frozen ai.out 0
     have jv:=blk_frozen ai.out 1
     have jw:=blk_frozen ai.out 2
     obtain⟨dx,dz,gL⟩:=Kd.R_slice ag.out
     subst gL
     go_wp2
     refine bodyPost_ret (results_list (rs:= [.cell 6 100, .tmp 7, .tmp 8, .tmp 9]) rfl (by simp) (.cell ak 100 #[.slice cK aJ.length cL, .int .i64 aK, .slice dx aM.length dz] (0,0) _ rfl (by(with_reducible repeat (first | refine blk_drewN ?_ _ | refine blk_drew ?_ | refine blk_alloc ?_ _));refine blk_put (cs:= #[.slice cK aJ.length cL, .int .i64 aK, .slice none 0 0]) ?_ 2 _ rfl;(with_reducible repeat (first | refine blk_drewN ?_ _ | refine blk_drew ?_ | refine blk_alloc ?_ _));refine blk_put (cs:= #[.slice cK aJ.length cL, .int .i64 0, .slice none 0 0]) ?_ 1 _ rfl;(with_reducible repeat (first | refine blk_drewN ?_ _ | refine blk_drew ?_ | refine blk_alloc ?_ _));refine blk_put (cs:= #[.slice none 0 0, .int .i64 0, .slice none 0 0]) ?_ 0 _ rfl;(with_reducible repeat (first | refine blk_drewN ?_ _ | refine blk_drew ?_ | refine blk_alloc ?_ _));exact ai.out) Try.underlying100 rfl (by kernel_rfl) (.tmp (.tmp (.tmp .nil))))) rfl ?_
     exact⟨_,_,_,by first | rfl | (simp [errW_none,errW_some] <;> rfl) | (simp [*,errW_none,errW_some] <;> rfl),by(with_reducible repeat (first | apply Kd.S_alloc | apply Kd.S_drewN | apply Kd.S_drew));exact Kd.S_mono (Kd.S_far (p:=⟨ak,2,none⟩) (Kd.S_far (p:=⟨ak,1,none⟩) (Kd.S_far (p:=⟨ak,0,none⟩) (Kd.S_types ah.out ai.out (by decide)) (fun _ hk=>hk.2) (.slice cK aJ.length cL)) (fun _ hk=>hk.2) (.int .i64 aK)) (fun _ hk=>hk.2) (.slice dx aM.length dz)) (fun _ hk=>⟨hk.1.2,hk.1.1⟩),by(with_reducible repeat (first | apply Kd.R_alloc | apply Kd.R_drewN | apply Kd.R_drew));exact Kd.R_mono (Kd.R_far (p:=⟨ak,2,none⟩) (Kd.R_far (p:=⟨ak,1,none⟩) (Kd.R_far (p:=⟨ak,0,none⟩) (Kd.R_types ag.out ai.out (by decide)) (fun _ hk=>hk.2) (.slice cK aJ.length cL)) (fun _ hk=>hk.2) (.int .i64 aK)) (fun _ hk=>hk.2) (.slice dx aM.length dz)) (fun _ hk=>trivial),by(with_reducible repeat (first | apply Kd.S_alloc | apply Kd.S_drewN | apply Kd.S_drew));exact Kd.S_mono (Kd.S_far (p:=⟨ak,2,none⟩) (Kd.S_far (p:=⟨ak,1,none⟩) (Kd.S_far (p:=⟨ak,0,none⟩) (Kd.S_types aH.out ai.out (by decide)) (fun _ hk=>hk.2) (.slice cK aJ.length cL)) (fun _ hk=>hk.2) (.int .i64 aK)) (fun _ hk=>hk.2) (.slice dx aM.length dz)) (fun _ hk=>⟨hk.1.1,hk.1.2⟩),hb_⟩
def spec_l05Code.l0:Nat→List Int→Int→Option (Int)
 | 0,_,_=>none
 | k+1,x1,x5=>if x5 < (x1.length:Int) then(if 0≤x5 then((spec_l01In.f (rd x1 x5) 1 20).bind fun aa=>(if aa=true then(spec_l05Code.l0 k x1 (wrap64 (x5+1))) else(some 2))) else(none)) else(some 0)
def spec_l05Code.f (k:Nat) (ae:List (List Int)) (aa:List Int) (l1:List Int):Option (Int):=(spec_l01Is.f k ae aa).bind fun af=>(if af=true then(if(l1.length:Int)=(aa.length:Int) then(spec_l05Code.l0 k l1 0) else(some 2)) else(some 1))
theorem spec_l05Code.mono_l: ∀k,(∀y0 y1,LeO (spec_l05Code.l0 k y0 y1) (spec_l05Code.l0 (k+1) y0 y1))
 | 0=>fun _ _ r h=>by simp [spec_l05Code.l0] at h
 | k+1=>by
  have ih0:=spec_l05Code.mono_l k
  ·intro y0 y1
   unfold spec_l05Code.l0
   repeat' first
   | (with_reducible exact ih0 _ _)
   | (with_reducible exact spec_l01Is.mono _ _ _)
   | (with_reducible exact LeO.refl _)
   | (with_reducible exact LeO.none _)
   | (with_reducible refine LeO.ite ?_ ?_)
   | (with_reducible refine LeO.bind ?_ (fun _=>?_))
   | exact ih0 _ _
   | exact spec_l01Is.mono _ _ _
   | exact LeO.none _
   | refine LeO.ite ?_ ?_
   | refine LeO.bind ?_ (fun _=>?_)
theorem spec_l05Code.mono: ∀a0 a1 a2 k,LeO (spec_l05Code.f k a0 a1 a2) (spec_l05Code.f (k+1) a0 a1 a2):=by
 intro a0 a1 a2 k
 have ih0:=spec_l05Code.mono_l k
 unfold spec_l05Code.f
 repeat' first
   | (with_reducible exact ih0 _ _)
   | (with_reducible exact spec_l01Is.mono _ _ _)
   | (with_reducible exact LeO.refl _)
   | (with_reducible exact LeO.none _)
   | (with_reducible refine LeO.ite ?_ ?_)
   | (with_reducible refine LeO.bind ?_ (fun _=>?_))
   | exact ih0 _ _
   | exact spec_l01Is.mono _ _ _
   | exact LeO.none _
   | refine LeO.ite ?_ ?_
   | refine LeO.bind ?_ (fun _=>?_)
theorem spec_l05Code.calls (k:Nat) (ai:Option Addr) (aj:Nat) (ag:List (List Int)) (ak:Option Addr) (aq:Nat) (ae:List Int) (A1:Option Addr) (c1:Nat) (l1:List Int) (r:Int) (w:World) (az:Kd.C (Kd.slice 2 (Kd.int .i64)) w ai ag.length ag) (aA:ag.length≤aj) (aC:Kd.C (Kd.int .i64) w ak ae.length ae) (aD:ae.length≤aq) (hr1:Kd.C (Kd.int .i64) w A1 l1.length l1) (hc1:l1.length≤c1) (h:spec_l05Code.f k ag ae l1=some r):
  Calls Try.prog 94 #[.agg #[.slice ai ag.length aj, .slice ak ae.length aq], .slice A1 l1.length c1] w fun e w'=>e= .returned (.int .i64 r)∧Below w.heap.size w w':=by
 have hu30:=Try.underlying30
 have HR0_0:=q_ az
 have HC0_0:=q_ aA
 clear az aA
 have HR0_1:=q_ aC
 have HC0_1:=q_ aD
 clear aC aD
 have HR1:=q_ hr1
 have HC1:=q_ hc1
 clear hr1 hc1
 have HB:=q_ (Below.refl w.heap.size w)
 have H:((spec_l01Is.f k ag ae).bind fun ay=>(if ay=true then(if(l1.length:Int)=(ae.length:Int) then(spec_l05Code.l0 k l1 0) else(some 2)) else(some 1)))=some r:=h
 clear h
 replace H:=Option.bind_eq_some_iff.mp H
 obtain⟨ay,A30,H⟩:=H
 replace H:(if ay=true then(if(l1.length:Int)=(ae.length:Int) then(spec_l05Code.l0 k l1 0) else(some 2)) else(some 1))=some r:=H
 have A3:=q_ A30
 clear A30
 by_cases c4:ay=true
 ·subst c4
  have H1:(if(l1.length:Int)=(ae.length:Int) then(spec_l05Code.l0 k l1 0) else(some 2))=some r:=by rw [if_pos rfl] at H;exact H
  clear H
  have H:=H1
  clear H1
  by_cases c5:(l1.length:Int)=(ae.length:Int)
  ·rw [if_pos c5] at H
   have c5b0:((l1.length:Int)==(ae.length:Int))=true:=beq_iff_eq.mpr c5
   have c5b1:((l1.length:Int) !=(ae.length:Int))=false:=bne_eq_false_iff_eq.mpr c5
   have c5b2:(l1.length==ae.length)=true:=by first | simpa using c5 | (simp at c5 ⊢;omega)
   clear c5
   have H':=q_ H
   clear H
   go_enter Try.func94,Try.ntmps94
   go_wp2_with (first | ((with_reducible refine gate_dst (N:=2) rfl ?_);refine box_event ?hg (N:=2) ?hd (cs:= #[.slice ai ag.length aj, .slice ak ae.length aq]) (t:=30) ?hr ?_;(case hd=>rfl);(case hg=>rfl);(case hr=>first | (go_simp;done) | (go_simp;rfl));intro af hg w6 hbox hb;have aa:=q_ (hbox);have aG:=q_ ((by rw [hg];exact bz_:w.heap.size≤af));have aH:=q_ ((by rw [hg];exact bz_:w.heap.size≤af));replace HB:=q_ (bs_ hb);clear hb hbox hg;have aI:w6.cell? ⟨af,0,none⟩=some (.slice ai ag.length aj):=(blk_cell aa.out 0).trans rfl;have aJ:w6.cell? ⟨af,1,none⟩=some (.slice ak ae.length aq):=(blk_cell aa.out 1).trans rfl;have aK:=blk_frozen aa.out 0;have aM:=blk_frozen aa.out 1) | ((with_reducible refine gate_callee (f:=118) rfl ?_);refine gL_ 7 Try.func118 #[.agg #[.slice ai ag.length aj, .slice ak ae.length aq]] ?_;(with_reducible refine(spec_l01Is.calls k _ _ ag _ _ ae true _ ?au ?av ?aw ?ax A3.out).mono ?_);(case au=>exact cb_ HR0_0.out HB.out);(case av=>exact HC0_0.out);(case aw=>exact cb_ HR0_1.out HB.out);(case ax=>exact HC0_1.out);rintro e w8 ⟨rfl,hb⟩;refine⟨_,rfl,?_⟩;replace aa:=q_ (bb_ aa.out hb);replace HB:=q_ (bs_ hb);(try clear hb);(try clear hb2);(try clear hk);(try clear hi);have aN:w8.cell? ⟨af,0,none⟩=some (.slice ai ag.length aj):=(blk_cell aa.out 0).trans rfl;have aT:w8.cell? ⟨af,1,none⟩=some (.slice ak ae.length aq):=(blk_cell aa.out 1).trans rfl;have aU:=blk_frozen aa.out 0;have aV:=blk_frozen aa.out 1))
   go_loopg [5] k (fun kq v5 w'=> ∃(ah:Int),v5= .int .i64 ah∧Aside0 (spec_l05Code.l0 kq l1 ah=some r)∧Aside0 (kq≤k)∧Aside0 (w'.heap[af]?=some (.cells #[(.slice ai ag.length aj),(.slice ak ae.length aq)] 30 (0,0)))∧Aside0 (Below w.heap.size w w'))
   case atStart=>exact⟨(0),rs_,H',⟨Nat.le_refl _⟩,⟨bk_⟩,⟨hb_⟩⟩
   case round=>
    clear H'
    try clear c1
    try clear p2
    try clear c4
    try clear c5
    try clear c5b0
    try clear c5b1
    try clear c5b2
    try clear c9
    try clear aI
    try clear aJ
    try clear aN
    try clear aT
    try clear aK
    try clear aM
    try clear aU
    try clear aV
    obtain⟨ah,rfl,HA,HK1,aa,HB⟩:=hrel
    cases gk with
    | zero=>exact absurd HA.out (by simp [spec_l05Code.l0])
    | succ k1=>
     have H:=HA.out
     clear HA
     simp only [spec_l05Code.l0] at H
     by_cases c10:ah < (l1.length:Int)
     ·rw [if_pos c10] at H
      have c10b0:decide (ah < (l1.length:Int))=true:=decide_eq_true c10
      clear c10
      by_cases c11:0≤ah
      ·rw [if_pos c11] at H
       have c11b0:decide (0≤ah)=true:=decide_eq_true c11
       clear c11
       replace H:=Option.bind_eq_some_iff.mp H
       obtain⟨aW,A120,H⟩:=H
       replace H:(if aW=true then(spec_l05Code.l0 k1 l1 (wrap64 (ah+1))) else(some 2))=some r:=H
       have A12:=q_ A120
       clear A120
       by_cases c13:aW=true
       ·subst c13
        have H1:(spec_l05Code.l0 k1 l1 (wrap64 (ah+1)))=some r:=by rw [if_pos rfl] at H;exact H
        clear H
        have H:=H1
        clear H1
        have H':=q_ H
        clear H
        have p165:0≤(ah:Int):=od_
        have q165:ah < (l1.length:Int):=od_
        obtain⟨aX,e165,hx165_0⟩:=Kd.at_int HR1.out ah p165 q165
        cases e165
        replace hx165_0:=(HB.out.cell (World.block_lt_of_cell? w _ hx165_0)).trans hx165_0
        replace p165:=eq_true p165
        replace q165:=eq_true q165
        go_wp2_with (first | ((with_reducible refine gate_callee (f:=119) rfl ?_);refine gL_ 25 Try.func119 #[.int .i64 (rd l1 ah), .int .i64 1, .int .i64 20] ?_;(with_reducible refine(spec_l01In.calls (rd l1 ah) 1 20 true _ A12.out).mono ?_);rintro e w' ⟨rfl,⟨nd,rfl⟩⟩;refine⟨_,rfl,?_⟩))
        go_roundg k1
        case measure=>have:=HK1.out;omega
        case rel=>exact⟨(wrap64 (ah+1)),rs_,H',⟨by have:=HK1.out;omega⟩,⟨bk_⟩,⟨hb_⟩⟩
       ·replace c13:=Bool.eq_false_iff.mpr c13
        subst c13
        have H1:(some 2)=some r:=by rw [if_neg (show ¬ (false=true) by decide)] at H;exact H
        clear H
        have H:=H1
        clear H1
        obtain rfl:=Option.some.inj H
        have p165:0≤(ah:Int):=od_
        have q165:ah < (l1.length:Int):=od_
        obtain⟨aX,e165,hx165_0⟩:=Kd.at_int HR1.out ah p165 q165
        cases e165
        replace hx165_0:=(HB.out.cell (World.block_lt_of_cell? w _ hx165_0)).trans hx165_0
        replace p165:=eq_true p165
        replace q165:=eq_true q165
        go_wp2_with (first | ((with_reducible refine gate_callee (f:=119) rfl ?_);refine gL_ 25 Try.func119 #[.int .i64 (rd l1 ah), .int .i64 1, .int .i64 20] ?_;(with_reducible refine(spec_l01In.calls (rd l1 ah) 1 20 false _ A12.out).mono ?_);rintro e w' ⟨rfl,⟨nd,rfl⟩⟩;refine⟨_,rfl,?_⟩))
        go_ret
        exact⟨by first | rfl | (simp [errW_none,errW_some] <;> rfl) | (simp [*,errW_none,errW_some] <;> rfl),hb_⟩
      ·rw [if_neg c11] at H
       exact absurd H (by simp)
     ·rw [if_neg c10] at H
      have c10b0:decide (ah < (l1.length:Int))=false:=decide_eq_false c10
      clear c10
      obtain rfl:=Option.some.inj H
      go_wp2
      go_ret
      exact⟨by first | rfl | (simp [errW_none,errW_some] <;> rfl) | (simp [*,errW_none,errW_some] <;> rfl),hb_⟩
  ·rw [if_neg c5] at H
   have c5b0:((l1.length:Int)==(ae.length:Int))=false:=beq_eq_false_iff_ne.mpr c5
   have c5b1:((l1.length:Int) !=(ae.length:Int))=true:=bne_iff_ne.mpr c5
   have c5b2:(l1.length==ae.length)=false:=by first | simpa using c5 | (simp at c5 ⊢;omega)
   obtain rfl:=Option.some.inj H
   go_enter Try.func94,Try.ntmps94
   go_wp2_with (first | ((with_reducible refine gate_dst (N:=2) rfl ?_);refine box_event ?hg (N:=2) ?hd (cs:= #[.slice ai ag.length aj, .slice ak ae.length aq]) (t:=30) ?hr ?_;(case hd=>rfl);(case hg=>rfl);(case hr=>first | (go_simp;done) | (go_simp;rfl));intro af hg w14 hbox hb;have aa:=q_ (hbox);have aG:=q_ ((by rw [hg];exact bz_:w.heap.size≤af));have aH:=q_ ((by rw [hg];exact bz_:w.heap.size≤af));replace HB:=q_ (bs_ hb);clear hb hbox hg;have aY:w14.cell? ⟨af,0,none⟩=some (.slice ai ag.length aj):=(blk_cell aa.out 0).trans rfl;have aZ:w14.cell? ⟨af,1,none⟩=some (.slice ak ae.length aq):=(blk_cell aa.out 1).trans rfl;have a9:=blk_frozen aa.out 0;have ba:=blk_frozen aa.out 1) | ((with_reducible refine gate_callee (f:=118) rfl ?_);refine gL_ 7 Try.func118 #[.agg #[.slice ai ag.length aj, .slice ak ae.length aq]] ?_;(with_reducible refine(spec_l01Is.calls k _ _ ag _ _ ae true _ ?au ?av ?aw ?ax A3.out).mono ?_);(case au=>exact cb_ HR0_0.out HB.out);(case av=>exact HC0_0.out);(case aw=>exact cb_ HR0_1.out HB.out);(case ax=>exact HC0_1.out);rintro e w16 ⟨rfl,hb⟩;refine⟨_,rfl,?_⟩;replace aa:=q_ (bb_ aa.out hb);replace HB:=q_ (bs_ hb);(try clear hb);(try clear hb2);(try clear hk);(try clear hi);have bg:w16.cell? ⟨af,0,none⟩=some (.slice ai ag.length aj):=(blk_cell aa.out 0).trans rfl;have bh:w16.cell? ⟨af,1,none⟩=some (.slice ak ae.length aq):=(blk_cell aa.out 1).trans rfl;have bi:=blk_frozen aa.out 0;have bk:=blk_frozen aa.out 1))
   go_ret
   exact⟨by first | rfl | (simp [errW_none,errW_some] <;> rfl) | (simp [*,errW_none,errW_some] <;> rfl),hb_⟩
 ·replace c4:=Bool.eq_false_iff.mpr c4
  subst c4
  have H1:(some 1)=some r:=by rw [if_neg (show ¬ (false=true) by decide)] at H;exact H
  clear H
  have H:=H1
  clear H1
  obtain rfl:=Option.some.inj H
  go_enter Try.func94,Try.ntmps94
  go_wp2_with (first | ((with_reducible refine gate_dst (N:=2) rfl ?_);refine box_event ?hg (N:=2) ?hd (cs:= #[.slice ai ag.length aj, .slice ak ae.length aq]) (t:=30) ?hr ?_;(case hd=>rfl);(case hg=>rfl);(case hr=>first | (go_simp;done) | (go_simp;rfl));intro af hg w18 hbox hb;have aa:=q_ (hbox);have aG:=q_ ((by rw [hg];exact bz_:w.heap.size≤af));have aH:=q_ ((by rw [hg];exact bz_:w.heap.size≤af));replace HB:=q_ (bs_ hb);clear hb hbox hg;have bn:w18.cell? ⟨af,0,none⟩=some (.slice ai ag.length aj):=(blk_cell aa.out 0).trans rfl;have bq:w18.cell? ⟨af,1,none⟩=some (.slice ak ae.length aq):=(blk_cell aa.out 1).trans rfl;have bu:=blk_frozen aa.out 0;have bv:=blk_frozen aa.out 1) | ((with_reducible refine gate_callee (f:=118) rfl ?_);refine gL_ 7 Try.func118 #[.agg #[.slice ai ag.length aj, .slice ak ae.length aq]] ?_;(with_reducible refine(spec_l01Is.calls k _ _ ag _ _ ae false _ ?au ?av ?aw ?ax A3.out).mono ?_);(case au=>exact cb_ HR0_0.out HB.out);(case av=>exact HC0_0.out);(case aw=>exact cb_ HR0_1.out HB.out);(case ax=>exact HC0_1.out);rintro e w20 ⟨rfl,hb⟩;refine⟨_,rfl,?_⟩;replace aa:=q_ (bb_ aa.out hb);replace HB:=q_ (bs_ hb);(try clear hb);(try clear hb2);(try clear hk);(try clear hi)))
  go_ret
  exact⟨by first | rfl | (simp [errW_none,errW_some] <;> rfl) | (simp [*,errW_none,errW_some] <;> rfl),hb_⟩
end Go.Proofs.Ytmpkckiifeikkaa.Pr
end
section
namespace Go.Proofs.Ytmpkckiifeikkaa.Lsa
open Go.RowKit Go.Proofs.YtmpkckiifeikkaaW.PrintWords Go.Proofs.YtmpkckiifeikkaaW.PrintMore Go.Proofs.Ytmpkckiifeikkaa.Ma Go.Proofs.Ytmpkckiifeikkaa.Pr Go.Proofs.Ytmpkckiifeikkaa.Dt Go.Proofs.Ytmpkckiifeikkaa.Lk Go.Proofs.Ytmpkckiifeikkaa.Lt Go.Proofs.Ytmpkckiifeikkaa.Lq Go.Proofs.Ytmpkckiifeikkaa.Lp
def goS (n m:Nat):Nat→TS→Nat→Nat→List (List Int)→TS × List (List Int) × Int × Bool
 | 0,s,v,r,st=>(s,st,(v:Int),false)
 | q+1,s,v,r,st=>
  if s.bs.getD r 0=2*(n:Int) then(s.step r v,st++ [[(v:Int),s.bs.getD r 0]], -1,true)
  else match rowB n m (s.step r v) (fun i=>(s.step r v).T i (partner n (s.bs.getD r 0).toNat)) with
   | none=>(s.step r v,st++ [[(v:Int),s.bs.getD r 0]],(partner n (s.bs.getD r 0).toNat:Nat),false)
   | some r'=>goS n m q (s.step r v) (partner n (s.bs.getD r 0).toNat) r' (st++ [[(v:Int),s.bs.getD r 0]])
def runS (n:Nat) (M:Mat) (cv q:Nat→Int) (most:Nat):TS × List (List Int) × Int × Bool:=
 if feas n q=true then(first n M cv q, [], -1,true)
 else match rowB n (2*n+2) (first n M cv q) cv with
  | none=>(first n M cv q, [], -1,false)
  | some r=>goS n (2*n+2) most (first n M cv q) (2*n) r []
def encS (n m:Nat) (R:TS × List (List Int) × Int × Bool):(List (List Int)) × Int × List Int × (List (List Int)) × Int × Bool:=(rowsM n m R.1.T,R.1.den,R.1.bs,R.2.1,R.2.2.1,R.2.2.2)
theorem partner_lt {n l:Nat} (h:l < 2*n):partner n l < 2*n:=by unfold partner;split <;> omega
theorem spartner {n l:Nat} (hn:n≤1000) (h:l < 2*n):spec_l05Partner.f (l:Int) (n:Int)=some ((partner n l:Nat):Int):=by
 unfold spec_l05Partner.f partner
 by_cases c:l < n
 ·rw [if_pos (by omega),if_pos c,w64 (by omega) (by omega)];rfl
 ·rw [if_neg (by omega),if_neg c,w64 (by omega) (by omega),show (l:Int) - (n:Int)=((l - n:Nat):Int) from by omega]
section
variable {n m:Nat} {A:Mat} (hn:n≤5) (hn0:0 < n) (hm:m=2*n+2) (hA:Small n m A) (most:Nat) (hmost:most≤100000)
include hn hn0 hm hA hmost
theorem j2_eq: ∀(q:Nat) (s:TS) (v r:Nat) (st:List (List Int)),Ok n m A s→st.length+(q+1)=most→r < n→v < m - 1→s.T r v≠0→
  Ev (fun k=>spec_l05Run.j2 k (most:Int) (n:Int) st (r:Int) (v:Int) (rowsM n m s.T) s.den s.bs) (encS n m (goS n m (q+1) s v r st)):=by
 intro q
 induction q with
 | zero=>
  intro s v r st hs hq hr hv hp
  obtain⟨l,hl⟩: ∃l:Nat,s.bs.getD r 0=(l:Int):=⟨(s.bs.getD r 0).toNat,by have:=hs.nn r hr;omega⟩
  have hlt:l < m - 1:=by have:=hs.lt r hr;rw [hl] at this;simp only [Int.toNat_natCast] at this;omega
  refine evstep (fun k=>by rw [spec_l05Run.j2]) ?_
  rw [rd_nat,hl]
  refine evpos (by omega) (evpos (by rw [hs.len];omega) (evpos (by omega) (evsome rfl (evsome (pivot_eq hr (by omega) hs.len (by omega) (by omega) (by have:=hs.tab.pos;omega)) ?_))))
  rw [w64 (x:=2*(n:Int)) (by omega) (by omega)]
  unfold goS
  rw [hl]
  by_cases c:(l:Int)=2*(n:Int)
  ·rw [if_pos c]
   exact evpos c (evc rfl)
  ·rw [if_neg c]
   have hp2:=partner_lt (n:=n) (l:=l) (by omega)
   refine evneg c (evsome (spartner (by omega) (by omega)) (evstep (fun k=>by rw [spec_l05Run.l1]) (evneg (by rw [List.length_append];simp only [List.length_singleton];omega) (evc ?_))))
   rw [Int.toNat_natCast]
   generalize rowB n m _ _=o
   cases o <;> rfl
 | succ q ih=>
  intro s v r st hs hq hr hv hp
  obtain⟨l,hl⟩: ∃l:Nat,s.bs.getD r 0=(l:Int):=⟨(s.bs.getD r 0).toNat,by have:=hs.nn r hr;omega⟩
  have hlt:l < m - 1:=by have:=hs.lt r hr;rw [hl] at this;simp only [Int.toNat_natCast] at this;omega
  have hs2:=hs.step hn hA hr (v:=v) (by omega) hp
  refine evstep (fun k=>by rw [spec_l05Run.j2]) ?_
  rw [rd_nat,hl]
  refine evpos (by omega) (evpos (by rw [hs.len];omega) (evpos (by omega) (evsome rfl (evsome (pivot_eq hr (by omega) hs.len (by omega) (by omega) (by have:=hs.tab.pos;omega)) ?_))))
  rw [w64 (x:=2*(n:Int)) (by omega) (by omega)]
  unfold goS
  rw [hl]
  by_cases c:(l:Int)=2*(n:Int)
  ·rw [if_pos c]
   exact evpos c (evc rfl)
  ·rw [if_neg c]
   have hp2:=partner_lt (n:=n) (l:=l) (by omega)
   refine evneg c (evsome (spartner (by omega) (by omega)) (evstep (fun k=>by rw [spec_l05Run.l1]) (evpos (by rw [List.length_append];simp only [List.length_singleton];omega) ?_)))
   rw [w64 (x:=2*(n:Int)) (by omega) (by omega),Int.toNat_natCast]
   obtain⟨v2,hv2⟩: ∃v2,partner n l=v2:=⟨_,rfl⟩
   rw [hv2] at hp2 ⊢
   refine evpos (by omega) (evbind (row_eq (T:=(s.step r v).T) (fun a c ha hc=>hs2.abs hn hA ha hc) (by omega) (by omega) (by omega) (s.step r v) rfl (by omega) (s.step r v).den (s.step r v).bs) ?_)
   obtain⟨o,ho⟩: ∃o,rowB n m (s.step r v) (fun i=>(s.step r v).T i v2)=o:=⟨_,rfl⟩
   rw [ho]
   cases o with
   | none=>exact evpos (by decide) (evc rfl)
   | some r2=>
    have h2:=rowB_some ho
    refine evneg (by show ¬ (r2:Int) < 0;omega) ?_
    exact ih (s.step r v) v2 r2 _ hs2 (by rw [List.length_append];simp only [List.length_singleton];omega) h2.1 (by omega) (by have:=h2.2;omega)
end
theorem lst_app2 (bf:Nat→Int) (less:Nat→Nat→Bool) (l l':List Nat) (o:Option Nat):lst bf less (l++l') o=lst bf less l' (lst bf less l o):=by
 induction l generalizing o with
 | nil=>rfl
 | cons x l ih=>simp only [List.cons_append,lst];exact ih _
theorem run_eq {M:List (List Int)} {Q cv:List Int} {n:Nat} (h:PC M Q cv n) (most:Nat) (hmost:most≤100000):
  Ev (fun k=>spec_l05Run.f k M Q cv (most:Int)) (encS n (2*n+2) (runS n (enL M) (fun i=>cv.getD i 0) (fun i=>Q.getD i 0) most)):=by
 have hA:=first_small (n:=n) (M:=enL M) (cv:=fun i=>cv.getD i 0) (q:=fun i=>Q.getD i 0) h.Mb (fun i hi=>by have:=h.cb i hi;omega) h.qb
 have hok:=first_ok (n:=n) (M:=enL M) (cv:=fun i=>cv.getD i 0) (q:=fun i=>Q.getD i 0)
 have hn:=h.le
 have hn0:=h.pos
 have hcl:=h.lcv
 obtain⟨s,hs⟩: ∃s,first n (enL M) (fun i=>cv.getD i 0) (fun i=>Q.getD i 0)=s:=⟨_,rfl⟩
 have hT:tab0 n (enL M) (fun i=>cv.getD i 0) (fun i=>Q.getD i 0)=s.T:=by rw [← hs];rfl
 have hT2: ∀a c,a < n→c < 2*n+2→Bnd (s.T a c):=fun a c ha hc=>by rw [← hs];exact hok.abs hn hA ha hc
 have hcb: ∀i,i < n→Bnd (cv.getD i 0):=fun i hi=>by have:=h.cb i hi;exact⟨by omega,by omega⟩
 unfold spec_l05Run.f
 refine evbind (begin_eq h.lM h.lQ h.rows h.lcv h.pos h.le h.Mb h.cb) ?_
 rw [hT,h.lQ]
 have e1:(1:Int)=s.den:=by rw [← hs];rfl
 have e2:idl n=s.bs:=by rw [← hs];rfl
 have ed:((rowsM n (2*n+2) s.T,(1:Int),idl n):List (List Int) × Int × List Int)=(rowsM n (2*n+2) s.T,s.den,s.bs):=by rw [← e1, ← e2]
 rw [ed]
 unfold runS
 rw [hs]
 have loop: ∀q i,i+q=n→ ∀(f:Bool) (r:Nat),f=(List.range i).any (fun j=>decide (Q.getD j 0 < 0))→r < n→(i=0→r=0)→(0 < i→lst (fun i=>cv.getD i 0) (fun i j=>kl s.T i j (cv.getD i 0) (cv.getD j 0) (cols n (2*n+2))) (List.range i) none=some r)→
   Ev (fun k=>spec_l05Run.l0 k cv (most:Int) (n:Int) [] f (r:Int) (i:Int) M Q (rowsM n (2*n+2) s.T) s.den s.bs) (encS n (2*n+2) (if feas n (fun i=>Q.getD i 0)=true then(s, [], -1,true) else match rowB n (2*n+2) s (fun i=>cv.getD i 0) with
    | none=>(s, [], -1,false)
    | some r=>goS n (2*n+2) most s (2*n) r [])):=by
  intro q
  induction q with
  | zero=>
   intro i hi f r hf hr h0 h1
   obtain rfl:i=n:=by omega
   refine evstep (fun k=>by rw [spec_l05Run.l0]) (evneg (by rw [h.lQ];omega) ?_)
   have hrow:rowB i (2*i+2) s (fun i=>cv.getD i 0)=some r:=h1 hn0
   have hfe:feas i (fun i=>Q.getD i 0)=!f:=by
    rw [hf];unfold feas
    rw [List.not_any_eq_all_not]
    refine List.all_congr rfl (fun j=>?_)
    by_cases c:Q.getD j 0 < 0
    ·rw [decide_eq_true c,decide_eq_false (by show ¬ 0≤Q.getD j 0;omega)];rfl
    ·rw [decide_eq_false c,decide_eq_true (by show 0≤Q.getD j 0;omega)];rfl
   rw [hfe,hrow]
   cases f with
   | false=>
    rw [if_pos (show (!false)=true from rfl)]
    exact evneg (by decide) (evc rfl)
   | true=>
    rw [if_neg (by decide)]
    show Ev _ (encS i (2*i+2) (goS i (2*i+2) most s (2*i) r []))
    refine evpos rfl ?_
    rw [w64 (x:=2*(i:Int)) (by omega) (by omega),show (2*(i:Int))=((2*i:Nat):Int) from by omega]
    cases most with
    | zero=>
     refine evstep (fun k=>by rw [spec_l05Run.l1]) ?_
     exact(evneg (by show ¬ ((0:Nat):Int) < ((0:Nat):Int);omega) (evc rfl))
    | succ mm=>
     refine evstep (fun k=>by rw [spec_l05Run.l1]) (evpos (by show ((0:Nat):Int) < ((mm+1:Nat):Int);omega) (evneg (by rw [w64 (by omega) (by omega)];omega) ?_))
     refine j2_eq hn hn0 rfl hA (mm+1) hmost mm s (2*i) r [] (by rw [← hs];exact hok) (by simp) hr (by omega) ?_
     rw [← hT];unfold tab0
     rw [if_neg (by omega),if_neg (by omega),if_pos rfl]
     have:=(h.cb r hr).1
     show - cv.getD r 0≠0
     omega
  | succ q ih=>
   intro i hi f r hf hr h0 h1
   have hl:=h.lQ
   have key:=key_eq (T:=s.T) hT2 (by omega) (by omega) (by omega) (show i < n by omega) hr (hcb i (by omega)) (hcb r hr) s.den s.bs
   obtain⟨z,hz⟩: ∃z,kl s.T i r (cv.getD i 0) (cv.getD r 0) (cols n (2*n+2))=z:=⟨_,rfl⟩
   rw [hz] at key
   have hnext:lst (fun i=>cv.getD i 0) (fun i j=>kl s.T i j (cv.getD i 0) (cv.getD j 0) (cols n (2*n+2))) (List.range (i+1)) none=some (if z=true then i else r):=by
    rw [List.range_succ,lst_app2]
    by_cases c:i=0
    ·subst c
     have:=h0 rfl
     subst this
     simp only [List.range_zero,lst,bet]
     rw [if_pos ⟨(h.cb 0 hn0).1,trivial⟩]
     simp
    ·rw [h1 (by omega)]
     by_cases d:z=true
     ·rw [if_pos d]
      exact(if_pos ⟨(h.cb i (by omega)).1,hz.trans d⟩:(if 0 < cv.getD i 0∧kl s.T i r (cv.getD i 0) (cv.getD r 0) (cols n (2*n+2))=true then some i else some r)=some i)
     ·rw [if_neg d]
      exact(if_neg (fun q=>d (hz.symm.trans q.2)):(if 0 < cv.getD i 0∧kl s.T i r (cv.getD i 0) (cv.getD r 0) (cols n (2*n+2))=true then some i else some r)=some r)
   refine evstep (fun k=>by rw [spec_l05Run.l0]) (evpos (by rw [hl];omega) ?_)
   have hw:wrap64 ((i:Int)+1)=((i+1:Nat):Int):=by rw [w64 (by omega) (by omega)];rfl
   have hfn: ∀g:Bool,g=(f || decide (Q.getD i 0 < 0))→g=(List.range (i+1)).any (fun j=>decide (Q.getD j 0 < 0)):=fun g hg=>by rw [hg,List.range_succ,List.any_append,hf];simp
   have step: ∀g:Bool,g=(f || decide (Q.getD i 0 < 0))→Ev (fun k=>(spec_l05Key.f k (rowsM n (2*n+2) s.T) s.den s.bs (i:Int) (r:Int) (rd cv (i:Int)) (rd cv (r:Int))).bind fun t=>if t=true then spec_l05Run.l0 k cv (most:Int) (n:Int) [] g (i:Int) (wrap64 ((i:Int)+1)) M Q (rowsM n (2*n+2) s.T) s.den s.bs else spec_l05Run.l0 k cv (most:Int) (n:Int) [] g (r:Int) (wrap64 ((i:Int)+1)) M Q (rowsM n (2*n+2) s.T) s.den s.bs) (encS n (2*n+2) (if feas n (fun i=>Q.getD i 0)=true then(s, [], -1,true) else match rowB n (2*n+2) s (fun i=>cv.getD i 0) with
    | none=>(s, [], -1,false)
    | some r=>goS n (2*n+2) most s (2*n) r [])):=by
    intro g hg
    rw [rd_nat,rd_nat,hw]
    refine evbind key ?_
    by_cases d:z=true
    ·rw [if_pos d] at hnext
     exact evpos d (ih (i+1) (by omega) g i (hfn g hg) (by omega) (fun e=>by omega) (fun _=>hnext))
    ·rw [if_neg d] at hnext
     exact evneg d (ih (i+1) (by omega) g r (hfn g hg) hr (fun e=>by omega) (fun _=>hnext))
   by_cases cf:f=true
   ·refine evpos cf (evpos (by omega) (evpos (by omega) (evpos (by omega) (evpos (by omega) ?_))))
    exact step true (by rw [cf];rfl)
   ·refine evneg cf (evpos (by omega) (evpos (by omega) (evpos (by omega) (evpos (by omega) ?_))))
    have e:decide (rd Q (i:Int) < 0)=(f || decide (Q.getD i 0 < 0)):=by rw [rd_nat];cases f with | false=>rfl | true=>exact absurd rfl cf
    exact step _ e
 exact loop n 0 (by omega) false 0 rfl hn0 (fun _=>rfl) (fun e=>by omega)
end Go.Proofs.Ytmpkckiifeikkaa.Lsa
end
section
namespace Go.Proofs.Ytmpkckiifeikkaa.Lsa
open Go.RowKit Go.Proofs.YtmpkckiifeikkaaW.PrintWords Go.Proofs.YtmpkckiifeikkaaW.PrintMore Go.Proofs.Ytmpkckiifeikkaa.Ma Go.Proofs.Ytmpkckiifeikkaa.Pr Go.Proofs.Ytmpkckiifeikkaa.Dt Go.Proofs.Ytmpkckiifeikkaa.Lk Go.Proofs.Ytmpkckiifeikkaa.Lt Go.Proofs.Ytmpkckiifeikkaa.Lq Go.Proofs.Ytmpkckiifeikkaa.Lp
theorem goS_len (n m:Nat): ∀(q:Nat) (s:TS) (v r:Nat) (st:List (List Int)),st.length≤(goS n m q s v r st).2.1.length∧(0 < q→st.length < (goS n m q s v r st).2.1.length):=by
 intro q
 induction q with
 | zero=>intro s v r st;exact⟨Nat.le_refl _,fun h=>absurd h (by omega)⟩
 | succ q ih=>
  intro s v r st
  suffices h:st.length < (goS n m (q+1) s v r st).2.1.length from ⟨by omega,fun _=>h⟩
  unfold goS
  split
  ·simp
  ·generalize rowB n m _ _=o
   cases o with
   | none=>simp
   | some r'=>have:=(ih (s.step r v) (partner n (s.bs.getD r 0).toNat) r' (st++ [[(v:Int),s.bs.getD r 0]])).1;simp at this ⊢;omega
def Rel (most:Nat) (R:TS × List (List Int) × Bool × Int × Int) (S:TS × List (List Int) × Int × Bool):Prop:=
 (R.2.2.2.2=3∧200 < S.2.1.length)∨(R.2.2.2.2=0∧S.2.1.length≤200∧S.1=R.1∧S.2.1=R.2.1∧S.2.2.2=R.2.2.1∧(most=201→R.2.2.1=false→S.2.2.1=R.2.2.2.1))
theorem go_rel (n m most:Nat): ∀(q:Nat) (s:TS) (v r:Nat) (st:List (List Int)),st.length+q=most→st.length≤200→Rel most (goI n m q s v r st) (goS n m q s v r st):=by
 intro q
 induction q with
 | zero=>intro s v r st h1 h2;exact .inr ⟨rfl,h2,rfl,rfl,rfl,fun e=>by omega⟩
 | succ q ih=>
  intro s v r st h1 h2
  by_cases c:st.length=200
  ·have:=(goS_len n m (q+1) s v r st).2 (by omega)
   refine .inl ⟨?_,by omega⟩
   unfold goI
   rw [if_pos c]
  ·unfold goI goS
   rw [if_neg c]
   split
   ·exact .inr ⟨rfl,by simp;omega,rfl,rfl,rfl,fun _ e=>by cases e⟩
   ·generalize rowB n m _ _=o
    cases o with
    | none=>exact .inr ⟨rfl,by simp;omega,rfl,rfl,rfl,fun _ _=>rfl⟩
    | some r'=>exact ih _ _ _ _ (by simp;omega) (by simp;omega)
theorem go_two (n m:Nat): ∀(q:Nat) (s:TS) (v r:Nat) (st:List (List Int)),(∀x ∈ st,x.length=2)→ ∀x ∈ (goI n m q s v r st).2.1,x.length=2:=by
 intro q
 induction q with
 | zero=>intro s v r st h;exact h
 | succ q ih=>
  intro s v r st h
  have h2: ∀x ∈ st++ [[(v:Int),s.bs.getD r 0]],x.length=2:=fun x hx=>by
   rcases List.mem_append.1 hx with h3 | h3
   ·exact h x h3
   ·simp at h3;rw [h3];rfl
  unfold goI
  split
  ·exact h
  ·split
   ·exact h2
   ·generalize rowB n m _ _=o
    cases o with
    | none=>exact h2
    | some r'=>exact ih _ _ _ _ h2
section
variable {M:List (List Int)} {Q cv:List Int} {n:Nat} (h:PC M Q cv n)
include h
theorem row0: ∃r,rowB n (2*n+2) (first n (enL M) (fun i=>cv.getD i 0) (fun i=>Q.getD i 0)) (fun i=>cv.getD i 0)=some r:=by
 cases e:rowB n (2*n+2) (first n (enL M) (fun i=>cv.getD i 0) (fun i=>Q.getD i 0)) (fun i=>cv.getD i 0) with
 | none=>
  have h1:=rowB_none e 0 h.pos
  have h2:=(h.cb 0 h.pos).1
  exact absurd h1 (by show ¬ cv.getD 0 0≤0;omega)
 | some r=>exact⟨r,rfl⟩
theorem run_rel {most:Nat}:Rel most (runI n (enL M) (fun i=>cv.getD i 0) (fun i=>Q.getD i 0) most) (runS n (enL M) (fun i=>cv.getD i 0) (fun i=>Q.getD i 0) most):=by
 obtain⟨r,hr⟩:=row0 h
 unfold runI runS
 split
 ·exact .inr ⟨rfl,by simp,rfl,rfl,rfl,fun _ e=>by cases e⟩
 ·rw [hr]
  exact go_rel n _ most most _ _ _ [] (by simp) (by simp)
theorem run_two {most:Nat}: ∀x ∈ (runI n (enL M) (fun i=>cv.getD i 0) (fun i=>Q.getD i 0) most).2.1,x.length=2:=by
 obtain⟨r,hr⟩:=row0 h
 unfold runI
 split
 ·intro x hx;cases hx
 ·rw [hr]
  exact go_two n _ most _ _ _ [] (fun x hx=>by cases hx)
end
theorem code_eq (M:List (List Int)) (Q cv:List Int) (hQ:Q.length≤1048576) (hcv:cv.length≤1048576):Ev (fun k=>spec_l05Code.f k M Q cv) (lkCode M Q cv):=by
 classical
 have loop: ∀q i,i+q=cv.length→Ev (fun k=>spec_l05Code.l0 k cv (i:Int)) (if(cv.drop i).any badV=true then 2 else 0):=by
  intro q
  induction q with
  | zero=>
   intro i hi
   refine evstep (fun k=>by rw [spec_l05Code.l0]) (evneg (by omega) (evc ?_))
   rw [List.drop_of_length_le (by omega)];rfl
  | succ q ih=>
   intro i hi
   refine evstep (fun k=>by rw [spec_l05Code.l0]) (evpos (by omega) (evpos (by omega) (evsome (Pb.sin_eq _ _ _) ?_)))
   rw [rd_nat,w64 (x:=(i:Int)+1) (by omega) (by omega),List.drop_eq_getElem_cons (show i < cv.length by omega),List.any_cons]
   have e:cv.getD i 0=cv[i]:=by rw [List.getD_eq_getElem?_getD,List.getElem?_eq_getElem (by omega)];rfl
   rw [e]
   unfold badV
   by_cases c:1≤cv[i]∧cv[i]≤20
   ·have d:(!(decide (1≤cv[i]) && decide (cv[i]≤20)))=false:=by simp [c]
    rw [d,Bool.false_or]
    exact evpos (decide_eq_true c) (ih (i+1) (by omega))
   ·have d:(!(decide (1≤cv[i]) && decide (cv[i]≤20)))=true:=by
     rw [Bool.not_eq_true',Bool.and_eq_false_iff]
     by_cases c1:1≤cv[i]
     ·right;exact decide_eq_false (fun c2=>c ⟨c1,c2⟩)
     ·left;exact decide_eq_false c1
    rw [d,Bool.true_or,if_pos rfl]
    exact evneg (by simpa using c) (evc rfl)
 unfold spec_l05Code.f lkCode
 refine evbind (Pb.spec_is M Q hQ (decide (Pb.POK M Q)) (by simp)) ?_
 rw [Pb.impl_is M Q (decide (Pb.POK M Q)) (by simp)]
 by_cases p:Pb.POK M Q
 ·rw [decide_eq_true p,if_pos rfl]
  refine evpos rfl ?_
  unfold cvB
  by_cases c:(cv.length:Int)=(Q.length:Int)
  ·refine evpos c ?_
   have:=loop cv.length 0 (by omega)
   rw [List.drop_zero] at this
   rw [decide_eq_true c,Bool.true_and]
   cases hb:cv.any badV with
   | true=>rw [hb] at this;exact this
   | false=>rw [hb] at this;exact this
  ·refine evneg c (evc ?_)
   rw [decide_eq_false c];rfl
 ·rw [decide_eq_false p,if_neg (by simp)]
  exact evneg (by decide) (evc rfl)
theorem spec_run {M:List (List Int)} {Q cv:List Int} (h:lkCode M Q cv=0) (most:Nat) (hm:most≤100000): ∃S:TS × List (List Int) × Int × Bool,Ev (fun k=>spec_l05Run.f k M Q cv (most:Int)) (encS Q.length (2*Q.length+2) S)∧Rel most (lkR M Q cv most) S:=⟨_,run_eq (lkCode_pc h) most hm,run_rel (lkCode_pc h)⟩
end Go.Proofs.Ytmpkckiifeikkaa.Lsa
end
section
namespace Go.Proofs.Ytmpkckiifeikkaa.Lcy
open Go.RowKit Go.Proofs.YtmpkckiifeikkaaW.PrintWords Go.Proofs.YtmpkckiifeikkaaW.PrintMore Go.Proofs.Ytmpkckiifeikkaa.Ma Go.Proofs.Ytmpkckiifeikkaa.Dt Go.Proofs.Ytmpkckiifeikkaa.Bz Go.Proofs.Ytmpkckiifeikkaa.Lk Go.Proofs.Ytmpkckiifeikkaa.Lt
section
variable {n m:Nat} {A:Mat} {bs:Nat→Nat} {T:Mat} {den:Int} (h:Tab n m A bs T den)
include h
theorem unit_ {i j:Nat} (hi:i < n) (hj:j < n) (hb:bs j < m):T i (bs j)=if i=j then den else 0:=by
 obtain⟨s,hs,hd,hT⟩:=h.num
 rw [hT i (bs j) hi hb]
 by_cases e:i=j
 ·subst e
  rw [if_pos rfl,hd]
  unfold cd
  congr 1
  refine det_congr (fun a b _ _=>?_)
  unfold cset bas
  split
  ·rename_i e;rw [e]
  ·rfl
 ·rw [if_neg e]
  unfold cd
  rw [det_col_alt (c:=i) (d:=j) hi hj e (fun a _=>by unfold cset bas;rw [if_pos rfl,if_neg (Ne.symm e)]),Int.mul_zero]
theorem lin_ (hA: ∀i j,i < n→j < n→A i j=if i=j then 1 else 0) (hnm:n≤m) {i x:Nat} (hi:i < n) (hx:x < m):T i x=sm n (fun c=>A c x*T i c):=by
 obtain⟨s,hs,hd,hT⟩:=h.num
 rw [hT i x hi hx]
 have e:cd n A bs i x=sm n (fun c=>A c x*cd n A bs i c):=by
  unfold cd
  rw [← det_csum hi]
  refine det_congr (fun a b ha hb=>?_)
  unfold cset
  split
  ·show A a x=sm n (fun k=>A k x*A a k)
   rw [sm_one (f:=fun k=>A k x*A a k) (k:=a) ha (fun c hc hne=>by rw [hA a c ha hc,if_neg (Ne.symm hne),Int.mul_zero]),hA a a ha ha,if_pos rfl,Int.mul_one]
  ·rfl
 rw [e, ← sm_mul]
 refine sm_congr (fun c hc=>?_)
 rw [hT i c hi (by omega)]
 grind
theorem inj_ {i j:Nat} (hi:i < n) (hj:j < n) (hb: ∀j,j < n→bs j < m) (e:bs i=bs j):i=j:=by
 have h1:=unit_ h hi hi (hb i hi)
 have h2:=unit_ h hi hj (hb j hj)
 rw [if_pos rfl] at h1
 rw [← e,h1] at h2
 by_cases c:i=j
 ·exact c
 ·rw [if_neg c] at h2
  have:=h.pos
  omega
theorem same_rows {bs':Nat→Nat} {T':Mat} {den':Int} (h':Tab n m A bs' T' den') (hA: ∀i j,i < n→j < n→A i j=if i=j then 1 else 0) (hnm:n≤m) (hb: ∀j,j < n→bs j < m) (hb': ∀j,j < n→bs' j < m)
  (hs: ∀j',j' < n→ ∃j,j < n∧bs' j'=bs j) {i i' c:Nat} (hi:i < n) (hi':i' < n) (hc:c < m) (e:bs i=bs' i'):T i c*den'=T' i' c*den:=by
 have cr: ∀k,k < n→sm n (fun j=>A k (bs' j)*T' j c)=den'*A k c:=fun k hk=>h'.cramer hk hc
 have e1:T i c*den'=sm n (fun j=>T' j c*T i (bs' j)):=by
  rw [lin_ h hA hnm hi hc, ← sm_mulr]
  rw [show sm n (fun k=>A k c*T i k*den')=sm n (fun k=>sm n (fun j=>T i k*(A k (bs' j)*T' j c))) from sm_congr (fun k hk=>by rw [sm_mul,cr k hk];grind)]
  rw [sm_swap]
  refine sm_congr (fun j hj=>?_)
  rw [lin_ h hA hnm hi (hb' j hj), ← sm_mul]
  exact sm_congr (fun k hk=>by grind)
 rw [e1,sm_one (k:=i') hi' (fun j hj hne=>?_)]
 ·rw [← e,unit_ h hi hi (hb i hi),if_pos rfl]
 ·obtain⟨j2,hj2,e2⟩:=hs j hj
  rw [e2,unit_ h hi hj2 (hb j2 hj2),if_neg (fun q=>?_),Int.mul_zero]
  exact hne (inj_ h' hj hi' hb' (by rw [e2, ← q,e]))
end
def lexpos (f:Nat→Int):List Nat→Prop
 | []=>False
 | c::l=>0 < f c∨(f c=0∧lexpos f l)
theorem lexpos.congr {f g:Nat→Int}: ∀ {l:List Nat},(∀c ∈ l,f c=g c)→lexpos f l→lexpos g l
 | [],_,h=>h
 | c::l,e,h=>by
  have e1:=e c List.mem_cons_self
  rcases h with h | ⟨h1,h2⟩
  ·exact .inl (by omega)
  ·exact .inr ⟨by omega,lexpos.congr (fun d hd=>e d (List.mem_cons_of_mem _ hd)) h2⟩
theorem lexpos.add {f g:Nat→Int}: ∀ {l:List Nat},lexpos f l→lexpos g l→lexpos (fun c=>f c+g c) l
 | [],h,_=>h
 | c::l,h,k=>by
  rcases h with h | ⟨h1,h2⟩
  ·rcases k with k | ⟨k1,k2⟩
   ·exact .inl (by show 0 < f c+g c;omega)
   ·exact .inl (by show 0 < f c+g c;omega)
  ·rcases k with k | ⟨k1,k2⟩
   ·exact .inl (by show 0 < f c+g c;omega)
   ·exact .inr ⟨by show f c+g c=0;omega,h2.add k2⟩
theorem lexpos.mul {f:Nat→Int} {a:Int} (ha:0 < a): ∀ {l:List Nat},lexpos f l→lexpos (fun c=>a*f c) l
 | [],h=>h
 | c::l,h=>by
  rcases h with h | ⟨h1,h2⟩
  ·exact .inl (Int.mul_pos ha h)
  ·exact .inr ⟨by show a*f c=0;rw [h1,Int.mul_zero],lexpos.mul ha h2⟩
theorem lexpos.of_mul {f:Nat→Int} {a:Int} (ha:0 < a): ∀ {l:List Nat},lexpos (fun c=>a*f c) l→lexpos f l
 | [],h=>h
 | c::l,h=>by
  rcases h with h | ⟨h1,h2⟩
  ·exact .inl (Int.pos_of_mul_pos_right (by simpa [Int.mul_comm] using h) ha)
  ·refine .inr ⟨?_,lexpos.of_mul ha h2⟩
   rcases Int.mul_eq_zero.1 h1 with e | e
   ·omega
   ·exact e
theorem lexpos.not_neg {f:Nat→Int}: ∀ {l:List Nat},lexpos f l→ ¬ lexpos (fun c=> - f c) l
 | [],h,_=>h
 | c::l,h,k=>by
  rcases h with h | ⟨h1,h2⟩
  ·rcases k with k | ⟨k1,k2⟩ <;> simp at* <;> omega
  ·rcases k with k | ⟨k1,k2⟩
   ·simp at*;omega
   ·exact h2.not_neg k2
theorem lex_tri (f:Nat→Int): ∀l:List Nat,lexpos f l∨lexpos (fun c=> - f c) l∨ ∀c ∈ l,f c=0
 | []=> .inr (.inr (fun c hc=>by cases hc))
 | c::l=>by
  rcases Int.lt_trichotomy (f c) 0 with h | h | h
  ·exact .inr (.inl (.inl (by show 0 < - f c;omega)))
  ·rcases lex_tri f l with k | k | k
   ·exact .inl (.inr ⟨h,k⟩)
   ·exact .inr (.inl (.inr ⟨by show - f c=0;omega,k⟩))
   ·refine .inr (.inr (fun d hd=>?_))
    rcases List.mem_cons.1 hd with e | e
    ·rw [e];exact h
    ·exact k d e
  ·exact .inl (.inl h)
theorem kl_iff (T:Mat) (i k:Nat) (x y:Int): ∀l:List Nat,kl T i k x y l=true↔lexpos (fun c=>T k c*x - T i c*y) l
 | []=>by simp [kl,lexpos]
 | c::l=>by
  have ih:=kl_iff T i k x y l
  unfold kl lexpos
  by_cases h1:T i c*y < T k c*x
  ·rw [if_pos h1];simp;left;omega
  ·rw [if_neg h1]
   by_cases h2:T k c*x < T i c*y
   ·rw [if_pos h2];simp;constructor;omega;intro e;omega
   ·rw [if_neg h2,ih]
    constructor
    ·intro h;exact .inr ⟨by omega,h⟩
    ·intro h
     rcases h with h | h
     ·omega
     ·exact h.2
def Least (T:Mat) (n:Nat) (l:List Nat) (b:Nat→Int) (r:Nat):Prop:=r < n∧0 < b r∧ ∀i,i < n→i≠r→0 < b i→lexpos (fun c=>T i c*b r - T r c*b i) l
def Apart (T:Mat) (n:Nat) (l:List Nat):Prop:= ∀i j (x y:Int),i < n→j < n→i≠j→0 < x→0 < y→ ¬ ∀c ∈ l,T i c*y=T j c*x
theorem Apart.or {T:Mat} {n:Nat} {l:List Nat} (h:Apart T n l) {i j:Nat} {x y:Int} (hi:i < n) (hj:j < n) (hij:i≠j) (hx:0 < x) (hy:0 < y):lexpos (fun c=>T j c*x - T i c*y) l∨lexpos (fun c=>T i c*y - T j c*x) l:=by
 rcases lex_tri (fun c=>T j c*x - T i c*y) l with k | k | k
 ·exact .inl k
 ·exact .inr (k.congr (fun c _=>by omega))
 ·exact absurd (fun c hc=>by have:=k c hc;omega) (h i j x y hi hj hij hx hy)
theorem lst_least {T:Mat} {n:Nat} {cl:List Nat} {b:Nat→Int} (ha:Apart T n cl): ∀(l done:List Nat) (o:Option Nat) (r:Nat),(∀i ∈ l,i < n)→(∀i ∈ done,i < n)→
  (∀j,o=some j→j < n∧0 < b j∧ ∀i ∈ done,i≠j→0 < b i→lexpos (fun c=>T i c*b j - T j c*b i) cl)→(o=none→ ∀i ∈ done, ¬ 0 < b i)→lst b (fun i j=>kl T i j (b i) (b j) cl) l o=some r→
  r < n∧0 < b r∧ ∀i,i ∈ l∨i ∈ done→i≠r→0 < b i→lexpos (fun c=>T i c*b r - T r c*b i) cl
 | [],done,o,r,hl,hd,ho,hn,h=>by
  obtain⟨h1,h2,h3⟩:=ho r h
  refine⟨h1,h2,fun i hi=>?_⟩
  rcases hi with hi | hi
  ·cases hi
  ·exact h3 i hi
 | k::l,done,o,r,hl,hd,ho,hn,h=>by
  have hk:=hl k List.mem_cons_self
  have step: ∀o',lst b (fun i j=>kl T i j (b i) (b j) cl) l o'=some r→(∀j,o'=some j→j < n∧0 < b j∧ ∀i ∈ k::done,i≠j→0 < b i→lexpos (fun c=>T i c*b j - T j c*b i) cl)→(o'=none→ ∀i ∈ k::done, ¬ 0 < b i)→
    r < n∧0 < b r∧ ∀i,i ∈ k::l∨i ∈ done→i≠r→0 < b i→lexpos (fun c=>T i c*b r - T r c*b i) cl:=fun o' ho' h1 h2=>by
   obtain⟨g1,g2,g3⟩:=lst_least ha l (k::done) o' r (fun i hi=>hl i (List.mem_cons_of_mem _ hi)) (fun i hi=>by rcases List.mem_cons.1 hi with e | e;rw [e];exact hk;exact hd i e) h1 h2 ho'
   refine⟨g1,g2,fun i hi=>g3 i ?_⟩
   rcases hi with hi | hi
   ·rcases List.mem_cons.1 hi with e | e
    ·exact .inr (by rw [e];exact List.mem_cons_self)
    ·exact .inl e
   ·exact .inr (List.mem_cons_of_mem _ hi)
  unfold lst at h
  by_cases c:0 < b k∧bet (fun i j=>kl T i j (b i) (b j) cl) k o=true
  ·rw [if_pos c] at h
   refine step _ h (fun j hj=>?_) (fun e=>by cases e)
   injection hj with hj
   subst hj
   refine⟨hk,c.1,fun i hi hne hb=>?_⟩
   rcases List.mem_cons.1 hi with e | e
   ·exact absurd e hne
   ·cases o with
    | none=>exact absurd hb (hn rfl i e)
    | some j=>
     obtain⟨g1,g2,g3⟩:=ho j rfl
     have hkj:lexpos (fun c=>T j c*b k - T k c*b j) cl:=(kl_iff _ _ _ _ _ _).1 c.2
     by_cases eij:i=j
     ·rw [eij];exact hkj
     ·have hij:=g3 i e eij hb
      refine lexpos.of_mul g2 ?_
      refine((hij.mul c.1).add (hkj.mul hb)).congr (fun d _=>?_)
      grind
  ·rw [if_neg c] at h
   refine step _ h (fun j hj=>?_) (fun e i hi=>?_)
   ·obtain⟨g1,g2,g3⟩:=ho j hj
    refine⟨g1,g2,fun i hi hne hb=>?_⟩
    rcases List.mem_cons.1 hi with e | e
    ·subst e
     rcases ha.or (x:=b j) (y:=b i) g1 hk (Ne.symm hne) g2 hb with q | q
     ·exact q
     ·exfalso
      apply c
      refine⟨hb,?_⟩
      rw [hj]
      exact(kl_iff _ _ _ _ _ _).2 q
    ·exact g3 i e hne hb
   ·rcases List.mem_cons.1 hi with e2 | e2
    ·subst e2
     intro hb
     exact c ⟨hb,by rw [e];rfl⟩
    ·exact hn e i e2
theorem rowB_least {n m:Nat} {s:TS} {b:Nat→Int} {r:Nat} (ha:Apart s.T n (cols n m)) (h:rowB n m s b=some r):Least s.T n (cols n m) b r:=by
 obtain⟨h1,h2,h3⟩:=lst_least ha (List.range n) [] none r (fun i hi=>List.mem_range.1 hi) (fun i hi=>by cases hi) (fun j hj=>by cases hj) (fun _ i hi=>by cases hi) h
 exact⟨h1,h2,fun i hi hne hb=>h3 i (.inl (List.mem_range.2 hi)) hne hb⟩
theorem least_one {T:Mat} {n:Nat} {l:List Nat} {b:Nat→Int} {r r':Nat} (h:Least T n l b r) (h':Least T n l b r'):r=r':=by
 by_cases e:r=r'
 ·exact e
 ·have h1:=h.2.2 r' h'.1 (Ne.symm e) h'.2.1
  have h2:=h'.2.2 r h.1 e h.2.1
  exact absurd (h2.congr (fun c _=>by omega)) h1.not_neg
end Go.Proofs.Ytmpkckiifeikkaa.Lcy
end
section
namespace Go.Proofs.Ytmpkckiifeikkaa.Lcy
open Go.RowKit Go.Proofs.YtmpkckiifeikkaaW.PrintWords Go.Proofs.YtmpkckiifeikkaaW.PrintMore Go.Proofs.Ytmpkckiifeikkaa.Ma Go.Proofs.Ytmpkckiifeikkaa.Dt Go.Proofs.Ytmpkckiifeikkaa.Bz Go.Proofs.Ytmpkckiifeikkaa.Lk Go.Proofs.Ytmpkckiifeikkaa.Lt
def LexRows (n m:Nat) (s:TS):Prop:= ∀i,i < n→lexpos (fun c=>s.T i c) (cols n m)
theorem cols_lt {n m c:Nat} (hnm:n < m) (h:c ∈ cols n m):c < m:=by
 unfold cols at h
 rcases List.mem_cons.1 h with e | e
 ·omega
 ·have:=List.mem_range.1 e;omega
section
variable {n m:Nat} {A:Mat} (hn:n≤5) (hnm:n < m) (hA:Small n m A) (hI: ∀i j,i < n→j < n→A i j=if i=j then 1 else 0) {s:TS} (hs:Ok n m A s)
include hnm hI hs in
theorem apart_of:Apart s.T n (cols n m):=by
 intro i j x y hi hj hij hx hy h
 have hb:=hs.lt i hi
 have h1:=lin_ hs.tab hI (by omega) hi (show (s.bs.getD i 0).toNat < m by omega)
 have h2:=lin_ hs.tab hI (by omega) hj (show (s.bs.getD i 0).toNat < m by omega)
 have u1:=unit_ hs.tab hi hi (show (fun j=>(s.bs.getD j 0).toNat) i < m by show (s.bs.getD i 0).toNat < m;omega)
 have u2:=unit_ hs.tab hj hi (show (fun j=>(s.bs.getD j 0).toNat) i < m by show (s.bs.getD i 0).toNat < m;omega)
 rw [if_pos rfl] at u1
 rw [if_neg (Ne.symm hij)] at u2
 have e:s.T i (s.bs.getD i 0).toNat*y=s.T j (s.bs.getD i 0).toNat*x:=by
  rw [h1,h2, ← sm_mulr, ← sm_mulr]
  refine sm_congr (fun c hc=>?_)
  have:=h c (by unfold cols;exact List.mem_cons_of_mem _ (List.mem_range.2 hc))
  rw [Int.mul_assoc,this,Int.mul_assoc]
 rw [u1,u2,Int.zero_mul] at e
 have:=Int.mul_pos hs.tab.pos hy
 omega
include hn hA hs
theorem step_at {r v i c:Nat} (hr:r < n) (hv:v+1 < m) (hi:i < n) (hc:c < m):
  (i=r→(s.step r v).T i c=(if s.T r v < 0 then -1 else 1)*s.T r c)∧(i≠r→s.den*(s.step r v).T i c=(if s.T r v < 0 then -1 else 1)*(s.T i c*s.T r v - s.T i v*s.T r c)):=by
 have hb:=hs.stE_abs hn hA hr hv hi hc
 have ha:=hs.stA_eq hn hA hr hv hi hc
 obtain⟨g,_,_,_,key,h4⟩:=hs.tab.stE_eq hr (show v < m by omega) hi hc
 have e:(s.step r v).T i c=(if s.T r v < 0 then -1 else 1)*stE s.T s.den r v i c:=by
  show stT s.T s.den r v i c=_
  unfold stT
  rw [ha]
  split
  ·rw [w64 (by omega) (by omega)];omega
  ·omega
 refine⟨fun hir=>?_,fun hir=>?_⟩
 ·rw [e];unfold stE;rw [if_pos hir]
 ·rw [e,key hir,h4];grind
include hnm in
theorem step_lex {r v:Nat} (hv:v+1 < m) (hx:LexRows n m s) (hl:Least s.T n (cols n m) (fun i=>s.T i v) r):LexRows n m (s.step r v):=by
 obtain⟨hr,hp,hl⟩:=hl
 simp only at hp hl
 intro i hi
 by_cases e:i=r
 ·refine(hx r hr).congr (fun c hc=>?_)
  have:=(step_at hn hA hs hr hv hi (cols_lt hnm hc)).1 e
  rw [if_neg (by omega)] at this
  rw [this];omega
 ·refine lexpos.of_mul hs.tab.pos ?_
  have hst: ∀c ∈ cols n m,s.den*(s.step r v).T i c=s.T i c*s.T r v - s.T i v*s.T r c:=fun c hc=>by
   have:=(step_at hn hA hs hr hv hi (cols_lt hnm hc)).2 e
   rw [if_neg (by omega)] at this
   rw [this];omega
  rcases Int.lt_trichotomy (s.T i v) 0 with h | h | h
  ·refine(((hx i hi).mul hp).add ((hx r hr).mul (show 0 < - s.T i v by omega))).congr (fun c hc=>?_)
   rw [hst c hc];grind
  ·refine((hx i hi).mul hp).congr (fun c hc=>?_)
   rw [hst c hc,h];grind
  ·refine(hl i hi e h).congr (fun c hc=>?_)
   rw [hst c hc];grind
include hnm in
theorem step_back {r v:Nat} (hv:v+1 < m) (hx:LexRows n m s) (hr:r < n) (hp:0 < s.T r v):Least (s.step r v).T n (cols n m) (fun i=>(s.step r v).T i (s.bs.getD r 0).toNat) r:=by
 have hd:=hs.tab.pos
 have hlt:=hs.lt r hr
 obtain⟨l,hl⟩: ∃l,(s.bs.getD r 0).toNat=l:=⟨_,rfl⟩
 rw [hl] at hlt ⊢
 have u: ∀i,i < n→s.T i l=if i=r then s.den else 0:=fun i hi=>by
  have h:=unit_ hs.tab hi hr (show (fun j=>(s.bs.getD j 0).toNat) r < m by show (s.bs.getD r 0).toNat < m;omega)
  rw [hl] at h;exact h
 have e1:(s.step r v).T r l=s.den:=by
  have h:=(step_at hn hA hs hr hv hr (show l < m by omega)).1 rfl
  rw [if_neg (by omega),u r hr,if_pos rfl] at h
  omega
 have e2: ∀i,i < n→i≠r→(s.step r v).T i l= - s.T i v:=fun i hi hne=>by
  have h:=(step_at hn hA hs hr hv hi (show l < m by omega)).2 hne
  rw [if_neg (by omega),u i hi,u r hr,if_neg hne,if_pos rfl] at h
  have:s.den*(s.step r v).T i l=s.den* - s.T i v:=by rw [h];grind
  exact Int.eq_of_mul_eq_mul_left (by omega) this
 refine⟨hr,by show 0 < (s.step r v).T r l;omega,fun i hi hne hb=>?_⟩
 simp only at hb ⊢
 refine lexpos.congr (fun c hc=>?_) ((hx i hi).mul hp)
 have h1:=(step_at hn hA hs hr hv hr (cols_lt hnm hc)).1 rfl
 have h2:=(step_at hn hA hs hr hv hi (cols_lt hnm hc)).2 hne
 rw [if_neg (by omega)] at h1 h2
 rw [e1,e2 i hi hne,h1]
 have:(s.step r v).T i c*s.den=s.T i c*s.T r v - s.T i v*s.T r c:=by rw [Int.mul_comm,h2];omega
 rw [this];grind
end
section
variable {n:Nat} {M:Mat} {cv q:Nat→Int} (hn:n≤5) (hA:Small n (2*n+2) (tab0 n M cv q)) (hcv: ∀i,i < n→0 < cv i) {r:Nat} (hl:Least (tab0 n M cv q) n (cols n (2*n+2)) cv r) (hf:feas n q≠true)
theorem tab0_unit {i j:Nat} (hi:i < n) (hj:j < n):tab0 n M cv q i j=if i=j then 1 else 0:=by
 unfold tab0
 rw [if_pos hj]
 by_cases e:i=j
 ·rw [if_pos e,if_pos e.symm]
 ·rw [if_neg e,if_neg (Ne.symm e)]
theorem tab0_cv {i:Nat}:tab0 n M cv q i (2*n)= - cv i:=by
 unfold tab0
 by_cases h:2*n < n
 ·omega
 ·rw [if_neg h,if_neg (by omega),if_pos rfl]
include hn hA hcv hl
theorem first_at {i c:Nat} (hi:i < n) (hc:c < 2*n+2):((first n M cv q).step r (2*n)).T i c=if i=r then - tab0 n M cv q r c else tab0 n M cv q i c*cv r - cv i*tab0 n M cv q r c:=by
 have hok:=first_ok (n:=n) (M:=M) (cv:=cv) (q:=q)
 have hr:=hl.1
 have hc0:=hcv r hr
 have hs:=step_at hn hA hok hr (show 2*n+1 < 2*n+2 by omega) hi hc
 have e:(first n M cv q).T=tab0 n M cv q:=rfl
 rw [e,tab0_cv,tab0_cv,if_pos (show - cv r < 0 by omega)] at hs
 by_cases h:i=r
 ·rw [if_pos h,hs.1 h];omega
 ·rw [if_neg h]
  have:=hs.2 h
  rw [show (first n M cv q).den=1 from rfl,Int.one_mul] at this
  rw [this];grind
theorem first_neg {i:Nat} (hi:i < n):((first n M cv q).step r (2*n)).T i r < 0:=by
 have hr:=hl.1
 rw [first_at hn hA hcv hl hi (by omega)]
 have:=hcv i hi
 by_cases h:i=r
 ·rw [if_pos h,tab0_unit hr hr,if_pos rfl];omega
 ·rw [if_neg h,tab0_unit hi hr,tab0_unit hr hr,if_neg h,if_pos rfl];omega
include hf in
theorem first_lex:LexRows n (2*n+2) ((first n M cv q).step r (2*n)):=by
 have hr:=hl.1
 intro i hi
 by_cases h:i=r
 ·have hq:q r < 0:=by
   have hex: ∃j,j < n∧q j < 0:=by
    apply Classical.byContradiction
    intro hno
    apply hf
    unfold feas
    rw [List.all_eq_true]
    intro j hj
    have hj:=List.mem_range.1 hj
    have: ¬ q j < 0:=fun h=>hno ⟨j,hj,h⟩
    simp;omega
   obtain⟨j,hj,hqj⟩:=hex
   by_cases e:j=r
   ·rw [← e];exact hqj
   ·have hlj:=hl.2.2 j hj e (hcv j hj)
    have e1: ∀i,tab0 n M cv q i (2*n+2 - 1)=q i:=fun i=>by
     unfold tab0
     rw [if_neg (by omega),if_neg (by omega),if_neg (by omega)]
    have hge:0≤q j*cv r - q r*cv j:=by
     unfold cols lexpos at hlj
     simp only [e1] at hlj
     rcases hlj with h | h <;> omega
    have h1:q j*cv r < 0:=Int.mul_neg_of_neg_of_pos hqj (hcv r hr)
    have h2:q r*cv j < 0:=by omega
    apply Classical.byContradiction
    intro hneg
    have:=Int.mul_nonneg (show 0≤q r by omega) (Int.le_of_lt (hcv j hj))
    omega
  unfold cols lexpos
  left
  rw [first_at hn hA hcv hl hi (by omega),if_pos h]
  unfold tab0
  rw [if_neg (by omega),if_neg (by omega),if_neg (by omega)]
  omega
 ·refine(hl.2.2 i hi h (hcv i hi)).congr (fun c hc=>?_)
  rw [first_at hn hA hcv hl hi (cols_lt (by omega) hc),if_neg h]
  grind
end
end Go.Proofs.Ytmpkckiifeikkaa.Lcy
end
section
namespace Go.Proofs.Ytmpkckiifeikkaa.Lcy
open Go.RowKit Go.Proofs.YtmpkckiifeikkaaW.PrintWords Go.Proofs.YtmpkckiifeikkaaW.PrintMore Go.Proofs.Ytmpkckiifeikkaa.Ma Go.Proofs.Ytmpkckiifeikkaa.Dt Go.Proofs.Ytmpkckiifeikkaa.Bz Go.Proofs.Ytmpkckiifeikkaa.Lk Go.Proofs.Ytmpkckiifeikkaa.Lt
def inB (n:Nat) (bs:List Int) (x:Nat):Prop:= ∃i,i < n∧bs.getD i 0=(x:Int)
structure Comp (n:Nat) (bs:List Int) (v:Nat):Prop where
 lt:v < 2*n
 z0:inB n bs (2*n)
 out: ¬ inB n bs v
 out2: ¬ inB n bs (partner n v)
 one: ∀x,x < 2*n→x≠v→x≠partner n v→(inB n bs x↔ ¬ inB n bs (partner n x))
theorem par_lt {n x:Nat} (h:x < 2*n):partner n x < 2*n:=by unfold partner;split <;> omega
theorem par_par {n x:Nat} (h:x < 2*n):partner n (partner n x)=x:=by
 unfold partner
 by_cases c:x < n
 ·rw [if_pos c,if_neg (by omega)];omega
 ·rw [if_neg c,if_pos (by omega)];omega
theorem par_ne {n x:Nat} (hn:0 < n) (h:x < 2*n):partner n x≠x:=by unfold partner;split <;> omega
theorem getD_set {bs:List Int} {r i:Nat} {v:Int} (hr:r < bs.length):(bs.set r v).getD i 0=if i=r then v else bs.getD i 0:=by
 rw [List.getD_eq_getElem?_getD,List.getElem?_set]
 by_cases e:r=i
 ·subst e;rw [if_pos rfl,if_pos hr,if_pos rfl];rfl
 ·rw [if_neg e,if_neg (Ne.symm e),List.getD_eq_getElem?_getD]
theorem inB_set {n r v l:Nat} {bs:List Int} (hl:bs.length=n) (hr:r < n) (hb:bs.getD r 0=(l:Int)) (inj: ∀i j,i < n→j < n→bs.getD i 0=bs.getD j 0→i=j) (x:Nat):inB n (bs.set r (v:Int)) x↔x=v∨(inB n bs x∧x≠l):=by
 constructor
 ·rintro ⟨i,hi,e⟩
  rw [getD_set (by omega)] at e
  by_cases c:i=r
  ·rw [if_pos c] at e;left;omega
  ·rw [if_neg c] at e
   right
   refine⟨⟨i,hi,e⟩,fun q=>c (inj i r hi hr (by rw [e,hb,q]))⟩
 ·rintro (e | ⟨⟨i,hi,e⟩,hne⟩)
  ·exact⟨r,hr,by rw [getD_set (by omega),if_pos rfl,e]⟩
  ·refine⟨i,hi,?_⟩
   rw [getD_set (by omega),if_neg (fun q=>hne (by rw [q,hb] at e;omega))]
   exact e
theorem comp_step {n r v l:Nat} {bs:List Int} (hn:0 < n) (hl:bs.length=n) (hr:r < n) (hb:bs.getD r 0=(l:Int)) (inj: ∀i j,i < n→j < n→bs.getD i 0=bs.getD j 0→i=j) (hl2:l < 2*n) (h:Comp n bs v):Comp n (bs.set r (v:Int)) (partner n l):=by
 have hin:inB n bs l:=⟨r,hr,hb⟩
 have hlv:l≠v:=fun e=>h.out (e ▸ hin)
 have hlp:l≠partner n v:=fun e=>h.out2 (e ▸ hin)
 have hpl: ¬ inB n bs (partner n l):=(h.one l hl2 hlv hlp).1 hin
 have hpv:partner n l≠v:=fun e=>hlp (by rw [← e,par_par hl2])
 have S:=inB_set (v:=v) hl hr hb inj
 refine⟨par_lt hl2,(S _).2 (.inr ⟨h.z0,by omega⟩),fun q=>?_,fun q=>?_,fun x hx h1 h2=>?_⟩
 ·rcases (S _).1 q with e | e
  ·exact hpv e
  ·exact hpl e.1
 ·rw [par_par hl2] at q
  rcases (S _).1 q with e | e
  ·exact hlv e
  ·exact e.2 rfl
 ·rw [par_par hl2] at h2
  have hpx:partner n x≠l:=fun e=>h1 (by rw [← e,par_par hx])
  rw [S,S]
  by_cases c:x=v
  ·subst c
   constructor
   ·intro _ q
    rcases q with e | e
    ·exact par_ne hn hx e
    ·exact h.out2 e.1
   ·intro _;exact .inl rfl
  ·by_cases d:x=partner n v
   ·have e2:partner n x=v:=by rw [d,par_par h.lt]
    constructor
    ·intro q
     rcases q with e | e
     ·exact absurd e c
     ·exact absurd (d ▸ e.1) h.out2
    ·intro q;exact absurd (.inl e2) q
   ·have ho:=h.one x hx c d
    have hpxv:partner n x≠v:=fun e=>d (by rw [← e,par_par hx])
    constructor
    ·intro q
     rcases q with e | e
     ·exact absurd e c
     ·intro q2
      rcases q2 with e2 | e2
      ·exact hpxv e2
      ·exact ho.1 e.1 e2.1
    ·intro q
     refine .inr ⟨ho.2 (fun q2=>q (.inr ⟨q2,hpx⟩)),h2⟩
section
variable {n m:Nat} {A:Mat} (hn:n≤5) (hn0:0 < n) (hm:m=2*n+2) (hA:Small n m A) (hI: ∀i j,i < n→j < n→A i j=if i=j then 1 else 0)
structure J (n m:Nat) (A:Mat) (s:TS) (v r:Nat):Prop where
 ok:Ok n m A s
 lex:LexRows n m s
 comp:Comp n s.bs v
 least:Least s.T n (cols n m) (fun i=>s.T i v) r
def nx (n m:Nat) (s:TS) (v r:Nat):Option (TS × Nat × Nat):=
 if s.bs.getD r 0=2*(n:Int) then none
 else match rowB n m (s.step r v) (fun i=>(s.step r v).T i (partner n (s.bs.getD r 0).toNat)) with
  | none=>none
  | some r'=>some (s.step r v,partner n (s.bs.getD r 0).toNat,r')
theorem ok_inj {s:TS} (hs:Ok n m A s) (i j:Nat) (hi:i < n) (hj:j < n) (e:s.bs.getD i 0=s.bs.getD j 0):i=j:=
 inj_ hs.tab hi hj (fun k hk=>by have:=hs.lt k hk;omega) (by show (s.bs.getD i 0).toNat=(s.bs.getD j 0).toNat;rw [e])
structure Bk (n m:Nat) (s:TS) (v r:Nat) (s':TS) (v':Nat):Prop where
 least:Least s'.T n (cols n m) (fun i=>s'.T i (partner n v')) r
 ent:s'.bs.getD r 0=(v:Int)
 mem: ∀x,inB n s.bs x↔x=partner n v'∨(inB n s'.bs x∧x≠v)
include hn hn0 hm hA hI in
theorem nx_J {s:TS} {v r:Nat} (h:J n m A s v r) {s':TS} {v' r':Nat} (e:nx n m s v r=some (s',v',r')):J n m A s' v' r'∧Bk n m s v r s' v':=by
 have hr:=h.least.1
 have hp:0 < s.T r v:=h.least.2.1
 have hv:v+1 < m:=by have:=h.comp.lt;omega
 have hnn:=h.ok.nn r hr
 have hlt:=h.ok.lt r hr
 have hs2:=h.ok.step hn hA hr hv (show s.T r v≠0 by omega)
 have inj:=ok_inj h.ok
 obtain⟨l,hl⟩: ∃l:Nat,s.bs.getD r 0=(l:Int):=⟨(s.bs.getD r 0).toNat,by omega⟩
 unfold nx at e
 rw [hl,Int.toNat_natCast] at e
 rw [hl,Int.toNat_natCast] at hlt
 by_cases c:(l:Int)=2*(n:Int)
 ·rw [if_pos c] at e;cases e
 ·rw [if_neg c] at e
  have hl2:l < 2*n:=by omega
  cases hrow:rowB n m (s.step r v) (fun i=>(s.step r v).T i (partner n l)) with
  | none=>rw [hrow] at e;cases e
  | some r2=>
   rw [hrow] at e
   injection e with e
   injection e with e1 e
   injection e with e2 e3
   subst e1 e2 e3
   have hb:s.bs.length=n:=h.ok.len
   refine⟨⟨hs2,step_lex hn (by omega) hA h.ok hv h.lex h.least,comp_step hn0 hb hr hl inj hl2 h.comp,rowB_least (apart_of (by omega) hI hs2) hrow⟩,?_,?_,fun x=>?_⟩
   ·rw [par_par hl2]
    have:=step_back hn (by omega) hA h.ok hv h.lex hr hp
    rw [hl,Int.toNat_natCast] at this
    exact this
   ·show (s.bs.set r (v:Int)).getD r 0=v
    rw [getD_set (by omega),if_pos rfl]
   ·rw [par_par hl2]
    show _↔x=l∨(inB n (s.bs.set r (v:Int)) x∧x≠v)
    rw [inB_set hb hr hl inj]
    constructor
    ·intro hx
     by_cases d:x=l
     ·exact .inl d
     ·exact .inr ⟨.inr ⟨hx,d⟩,fun q=>h.comp.out (q ▸ hx)⟩
    ·rintro (d | ⟨d | d,hne⟩)
     ·exact d ▸ ⟨r,hr,hl⟩
     ·exact absurd d hne
     ·exact d.1
def SE (n:Nat) (s s':TS):Prop:= ∀x,inB n s.bs x↔inB n s'.bs x
include hm hI in
theorem se_rows {s s':TS} (h:Ok n m A s) (h':Ok n m A s') (e:SE n s s') {i i' c:Nat} (hi:i < n) (hi':i' < n) (hc:c < m) (hb:s.bs.getD i 0=s'.bs.getD i' 0):s.T i c*s'.den=s'.T i' c*s.den:=by
 refine same_rows h.tab h'.tab hI (by omega) (fun j hj=>by have:=h.lt j hj;omega) (fun j hj=>by have:=h'.lt j hj;omega) (fun j' hj'=>?_) hi hi' hc (by show (s.bs.getD i 0).toNat=(s'.bs.getD i' 0).toNat;rw [hb])
 have hnn:=h'.nn j' hj'
 obtain⟨j,hj,e2⟩:=(e (s'.bs.getD j' 0).toNat).2 ⟨j',hj',by omega⟩
 exact⟨j,hj,by show (s'.bs.getD j' 0).toNat=(s.bs.getD j 0).toNat;rw [e2,Int.toNat_natCast]⟩
include hm hI in
theorem se_least {s s':TS} (h:Ok n m A s) (h':Ok n m A s') (e:SE n s s') {l r i:Nat} (hl:l < m) (hr:Least s.T n (cols n m) (fun i=>s.T i l) r) (hi:i < n) (hb:s.bs.getD r 0=s'.bs.getD i 0):Least s'.T n (cols n m) (fun i=>s'.T i l) i:=by
 have hd:=h.tab.pos
 have hd':=h'.tab.pos
 have hrn:=hr.1
 have hp:0 < s.T r l:=hr.2.1
 have h1:=se_rows hm hI h h' e hrn hi hl hb
 refine⟨hi,?_,fun i2 hi2 hne hb2=>?_⟩
 ·show 0 < s'.T i l
  have:0 < s'.T i l*s.den:=by rw [← h1];exact Int.mul_pos hp hd'
  exact Int.pos_of_mul_pos_left this hd
 ·have hnn:=h'.nn i2 hi2
  obtain⟨j,hj,ej⟩:=(e (s'.bs.getD i2 0).toNat).2 ⟨i2,hi2,by omega⟩
  have ej2:s.bs.getD j 0=s'.bs.getD i2 0:=by rw [ej];omega
  have hjr:j≠r:=fun q=>hne (ok_inj h' i2 i hi2 hi (by rw [← ej2,q,hb]))
  have h2:=se_rows hm hI h h' e hj hi2 hl ej2
  simp only at hb2 ⊢
  have hjp:0 < s.T j l:=by
   have:0 < s.T j l*s'.den:=by rw [h2];exact Int.mul_pos hb2 hd
   exact Int.pos_of_mul_pos_left this hd'
  have hx:=hr.2.2 j hj hjr hjp
  simp only at hx
  refine lexpos.of_mul (Int.mul_pos hd hd) (((hx.mul (Int.mul_pos hd' hd'))).congr (fun c hc=>?_))
  have h3:=se_rows hm hI h h' e hrn hi (cols_lt (by omega) hc) hb
  have h4:=se_rows hm hI h h' e hj hi2 (cols_lt (by omega) hc) ej2
  grind
include hm hI in
theorem back_one {a:TS} {va ra:Nat} {b:TS} {vb rb:Nat} {a' b':TS} {v':Nat} (ha:J n m A a va ra) (hb:J n m A b vb rb) (ha':Ok n m A a') (hb':Ok n m A b') (hv:v' < 2*n) (ka:Bk n m a va ra a' v') (kb:Bk n m b vb rb b' v') (e:SE n a' b'):SE n a b∧va=vb:=by
 obtain⟨i,hi,ei⟩:=(e va).1 ⟨ra,ka.least.1,ka.ent⟩
 have hL:=se_least hm hI ha' hb' e (show partner n v' < m by have:=par_lt hv;omega) ka.least hi (by rw [ka.ent,ei])
 have hir:=least_one hL kb.least
 have hv2:va=vb:=by
  have h1:=kb.ent
  rw [← hir,ei] at h1
  omega
 refine⟨fun x=>?_,hv2⟩
 rw [ka.mem,kb.mem,e x,hv2]
theorem pigeon: ∀(k N:Nat) (f:Nat→Nat),(∀i,i < N→f i < k)→(∀i j,i < j→j < N→f i≠f j)→N≤k
 | 0,N,f,h1,h2=>by
  cases N with
  | zero=>exact Nat.le_refl _
  | succ N=>exact absurd (h1 0 (by omega)) (by omega)
 | k+1,N,f,h1,h2=>by
  by_cases c: ∃i,i < N∧f i=k
  ·obtain⟨i0,hi0,e0⟩:=c
   have:=pigeon k (N - 1) (fun i=>if i < i0 then f i else f (i+1)) (fun i hi=>by
    show (if i < i0 then f i else f (i+1)) < k
    by_cases d:i < i0
    ·rw [if_pos d]
     have h3:=h1 i (by omega)
     have h4:=h2 i i0 d hi0
     omega
    ·rw [if_neg d]
     have h3:=h1 (i+1) (by omega)
     have h4:=h2 i0 (i+1) (by omega) (by omega)
     omega) (fun i j hij hj=>by
    show (if i < i0 then f i else f (i+1))≠(if j < i0 then f j else f (j+1))
    by_cases d:i < i0
    ·rw [if_pos d]
     by_cases d2:j < i0
     ·rw [if_pos d2];exact h2 i j hij (by omega)
     ·rw [if_neg d2];exact h2 i (j+1) (by omega) (by omega)
    ·rw [if_neg d,if_neg (by omega)]
     exact h2 (i+1) (j+1) (by omega) (by omega))
   omega
  ·have:=pigeon k N f (fun i hi=>by
    have h3:=h1 i hi
    have h4:f i≠k:=fun e=>c ⟨i,hi,e⟩
    omega) h2
   omega
def cf (i0:Nat) (f:Nat→Bool):Nat→Nat
 | 0=>0
 | j+1=>if j=i0 then cf i0 f j else 2*cf i0 f j+(if f j=true then 1 else 0)
theorem cf_eq {i0:Nat} {f g:Nat→Bool}: ∀ {j:Nat},cf i0 f j=cf i0 g j→ ∀k,k < j→k≠i0→f k=g k
 | 0,_,k,hk,_=>absurd hk (by omega)
 | j+1,h,k,hk,hne=>by
  unfold cf at h
  by_cases c:j=i0
  ·rw [if_pos c,if_pos c] at h
   exact cf_eq h k (by omega) hne
  ·rw [if_neg c,if_neg c] at h
   have hb: ∀b:Bool,(if b=true then 1 else 0)≤1:=fun b=>by cases b <;> decide
   have h1:=hb (f j)
   have h2:=hb (g j)
   have e:cf i0 f j=cf i0 g j∧(if f j=true then 1 else 0)=(if g j=true then 1 else 0):=by omega
   by_cases d:k=j
   ·rw [d]
    have:=e.2
    cases hf:f j <;> cases hg:g j <;> simp [hf,hg] at this ⊢
   ·exact cf_eq e.1 k (by omega) hne
theorem cf_lt (i0:Nat) (f:Nat→Bool): ∀j,cf i0 f j+1≤2 ^ j∧(i0 < j→cf i0 f j+1≤2 ^ (j - 1))
 | 0=>⟨by simp [cf],fun h=>absurd h (by omega)⟩
 | j+1=>by
  have ih:=cf_lt i0 f j
  have hb:(if f j=true then 1 else 0)≤1:=by cases f j <;> decide
  unfold cf
  rw [Nat.pow_succ,Nat.add_sub_cancel]
  by_cases c:j=i0
  ·rw [if_pos c]
   have:=ih.1
   exact⟨by omega,fun _=>by omega⟩
  ·rw [if_neg c]
   refine⟨by have:=ih.1;omega,fun h=>?_⟩
   have h2:=ih.2 (by omega)
   obtain⟨j',rfl⟩: ∃j',j=j'+1:=⟨j - 1,by omega⟩
   rw [Nat.add_sub_cancel] at h2
   rw [Nat.pow_succ]
   omega
open Classical in
include hn hn0 hm in
theorem many (a:Nat→TS × Nat × Nat) (N:Nat) (hN:160 < N) (hJ: ∀t,t < N→J n m A (a t).1 (a t).2.1 (a t).2.2): ∃i j,i < j∧j < N∧SE n (a i).1 (a j).1∧(a i).2.1=(a j).2.1:=by
 apply Classical.byContradiction
 intro hno
 have hp:=pigeon 160 N (fun t=>(a t).2.1*16+cf ((a t).2.1 % n) (fun j=>decide (inB n (a t).1.bs j)) n) (fun t ht=>?_) (fun i j hij hj he=>?_)
 ·omega
 ·have hv:=(hJ t ht).comp.lt
  have hc:=(cf_lt ((a t).2.1 % n) (fun j=>decide (inB n (a t).1.bs j)) n).2 (Nat.mod_lt _ hn0)
  have h5:2 ^ (n - 1)≤16:=Nat.le_trans (Nat.pow_le_pow_right (by decide) (show n - 1≤4 by omega)) (by decide)
  show (a t).2.1*16+_ < 160
  omega
 ·have hc: ∀t,cf ((a t).2.1 % n) (fun j=>decide (inB n (a t).1.bs j)) n < 16:=fun t=>by
   have hc:=(cf_lt ((a t).2.1 % n) (fun j=>decide (inB n (a t).1.bs j)) n).2 (Nat.mod_lt _ hn0)
   have h5:2 ^ (n - 1)≤16:=Nat.le_trans (Nat.pow_le_pow_right (by decide) (show n - 1≤4 by omega)) (by decide)
   omega
  have h1:=hc i
  have h2:=hc j
  have hv:(a i).2.1=(a j).2.1:=by
   have he':(a i).2.1*16+cf ((a i).2.1 % n) (fun k=>decide (inB n (a i).1.bs k)) n=(a j).2.1*16+cf ((a j).2.1 % n) (fun k=>decide (inB n (a j).1.bs k)) n:=he
   omega
  have hcc:cf ((a i).2.1 % n) (fun k=>decide (inB n (a i).1.bs k)) n=cf ((a i).2.1 % n) (fun k=>decide (inB n (a j).1.bs k)) n:=by
   have he':(a i).2.1*16+cf ((a i).2.1 % n) (fun k=>decide (inB n (a i).1.bs k)) n=(a j).2.1*16+cf ((a j).2.1 % n) (fun k=>decide (inB n (a j).1.bs k)) n:=he
   rw [← hv] at he'
   omega
  have Ji:=hJ i (by omega)
  have Jj:=hJ j hj
  have hci:=Ji.comp
  have hcj:=Jj.comp
  rw [← hv] at hcj
  obtain⟨v,hvv⟩: ∃v,(a i).2.1=v:=⟨_,rfl⟩
  rw [hvv] at hci hcj hcc
  have hlow: ∀k,k < n→k≠v→k≠partner n v→(inB n (a i).1.bs k↔inB n (a j).1.bs k):=fun k hk h3 h4=>by
   have hk2:k≠v % n:=fun e=>by
    have hvl:=hci.lt
    by_cases c:v < n
    ·rw [Nat.mod_eq_of_lt c] at e;exact h3 e
    ·have:v % n=v - n:=by rw [Nat.mod_eq_sub_mod (by omega),Nat.mod_eq_of_lt (by omega)]
     rw [this] at e
     exact h4 (by unfold partner;rw [if_neg c];exact e)
   have:=cf_eq hcc k hk hk2
   simpa using this
  refine hno ⟨i,j,hij,hj,fun x=>?_,hv⟩
  by_cases cx:x < 2*n
  ·by_cases h3:x=v
   ·rw [h3];exact⟨fun q=>absurd q hci.out,fun q=>absurd q hcj.out⟩
   ·by_cases h4:x=partner n v
    ·rw [h4];exact⟨fun q=>absurd q hci.out2,fun q=>absurd q hcj.out2⟩
    ·by_cases c:x < n
     ·exact hlow x c h3 h4
     ·rw [hci.one x cx h3 h4,hcj.one x cx h3 h4]
      have h5:partner n x≠v:=fun e=>h4 (by rw [← e,par_par cx])
      have h6:partner n x≠partner n v:=fun e=>h3 (by rw [← par_par cx,e,par_par hci.lt])
      have h7:partner n x < n:=by unfold partner;rw [if_neg c];omega
      rw [hlow _ h7 h5 h6]
  ·by_cases c:x=2*n
   ·rw [c];exact⟨fun _=>hcj.z0,fun _=>hci.z0⟩
   ·constructor
    ·rintro ⟨k,hk,e⟩
     have:=Ji.ok.lt k hk
     rw [e] at this;simp only [Int.toNat_natCast] at this;omega
    ·rintro ⟨k,hk,e⟩
     have:=Jj.ok.lt k hk
     rw [e] at this;simp only [Int.toNat_natCast] at this;omega
end
section
variable {n m:Nat}
def tr (n m:Nat) (x:TS × Nat × Nat):Nat→Option (TS × Nat × Nat)
 | 0=>some x
 | t+1=>(tr n m x t).bind fun y=>nx n m y.1 y.2.1 y.2.2
theorem go_tr (x:TS × Nat × Nat): ∀(q:Nat) (s:TS) (v r:Nat) (st:List (List Int)) (t:Nat),tr n m x t=some (s,v,r)→st.length=t+1→st.length≤200→(goI n m q s v r st).2.2.2.2≠0→tr n m x 199≠none
 | 0,s,v,r,st,t,_,_,_,h=>absurd rfl h
 | q+1,s,v,r,st,t,ht,hl,hle,h=>by
  unfold goI at h
  by_cases c:st.length=200
  ·obtain rfl:t=199:=by omega
   rw [ht];simp
  ·rw [if_neg c] at h
   by_cases d:s.bs.getD r 0=2*(n:Int)
   ·rw [if_pos d] at h;exact absurd rfl h
   ·rw [if_neg d] at h
    cases hrow:rowB n m (s.step r v) (fun i=>(s.step r v).T i (partner n (s.bs.getD r 0).toNat)) with
    | none=>rw [hrow] at h;exact absurd rfl h
    | some r'=>
     rw [hrow] at h
     have ht2:tr n m x (t+1)=some (s.step r v,partner n (s.bs.getD r 0).toNat,r'):=by
      show (tr n m x t).bind _=_
      rw [ht]
      show nx n m s v r=_
      unfold nx
      rw [if_neg d,hrow]
     exact go_tr x q _ _ _ _ (t+1) ht2 (by simp;omega) (by simp;omega) h
theorem tr_le (x:TS × Nat × Nat): ∀k t,tr n m x (t+k)≠none→tr n m x t≠none
 | 0,t,h=>h
 | k+1,t,h=>tr_le x k t (fun e=>h (by show (tr n m x (t+k)).bind _=none;rw [e];rfl))
variable {A:Mat} (hn:n≤5) (hn0:0 < n) (hm:m=2*n+2) (hA:Small n m A) (hI: ∀i j,i < n→j < n→A i j=if i=j then 1 else 0)
include hn hn0 hm hA hI
theorem no_199 {s:TS} {v r:Nat} (h:J n m A s v r) (hneg: ∀i,i < n→s.T i (partner n v)≤0):tr n m (s,v,r) 199=none:=by
 apply Classical.byContradiction
 intro hne
 have hall: ∀t, ∃y,t < 200→tr n m (s,v,r) t=some y:=fun t=>by
  by_cases c:t < 200
  ·cases e:tr n m (s,v,r) t with
   | none=>exact absurd e (tr_le _ (199 - t) t (by rw [show t+(199 - t)=199 from by omega];exact hne))
   | some y=>exact⟨y,fun _=>rfl⟩
  ·exact⟨(s,v,r),fun q=>absurd q c⟩
 obtain⟨a,ha⟩:=Classical.axiomOfChoice hall
 have h0:a 0=(s,v,r):=by have:=ha 0 (by omega);injection this with this;exact this.symm
 have hnx: ∀t,t+1 < 200→nx n m (a t).1 (a t).2.1 (a t).2.2=some (a (t+1)):=fun t ht=>by
  have h1:=ha (t+1) ht
  have h2:(tr n m (s,v,r) t).bind (fun y=>nx n m y.1 y.2.1 y.2.2)=some (a (t+1)):=h1
  rw [ha t (by omega)] at h2
  exact h2
 have hJ: ∀t,t < 200→J n m A (a t).1 (a t).2.1 (a t).2.2:=by
  intro t
  induction t with
  | zero=>intro _;rw [h0];exact h
  | succ t ih=>intro ht;exact(nx_J hn hn0 hm hA hI (ih (by omega)) (hnx t ht)).1
 have hB: ∀t,t+1 < 200→Bk n m (a t).1 (a t).2.1 (a t).2.2 (a (t+1)).1 (a (t+1)).2.1:=fun t ht=>(nx_J hn hn0 hm hA hI (hJ t (by omega)) (hnx t ht)).2
 obtain⟨i,j,hij,hj,hse,hv⟩:=many hn hn0 hm a 200 (by omega) hJ
 have back: ∀k d,k+d < 200→SE n (a k).1 (a (k+d)).1→(a k).2.1=(a (k+d)).2.1→SE n (a 0).1 (a d).1∧(a 0).2.1=(a d).2.1:=by
  intro k
  induction k with
  | zero=>intro d _ h1 h2;rw [Nat.zero_add] at h1 h2;exact⟨h1,h2⟩
  | succ k ih=>
   intro d hd h1 h2
   have e:k+1+d=k+d+1:=by omega
   rw [e] at h1 h2
   have hb2:=hB (k+d) (by omega)
   rw [← h2] at hb2
   obtain⟨g1,g2⟩:=back_one hm hI (hJ k (by omega)) (hJ (k+d) (by omega)) (hJ (k+1) (by omega)).ok (hJ (k+d+1) (by omega)).ok (hJ (k+1) (by omega)).comp.lt (hB k (by omega)) hb2 h1
   exact ih d (by omega) g1 g2
 obtain⟨g1,g2⟩:=back i (j - i) (by omega) (by rw [show i+(j - i)=j from by omega];exact hse) (by rw [show i+(j - i)=j from by omega];exact hv)
 obtain⟨d,hd⟩: ∃d,j - i=d+1:=⟨j - i - 1,by omega⟩
 rw [hd] at g1 g2
 have hb:=hB d (by omega)
 rw [h0] at g1 g2
 simp only at g1 g2
 rw [← g2] at hb
 have hr2:=hb.least.1
 have hp:0 < (a (d+1)).1.T (a d).2.2 (partner n v):=hb.least.2.1
 have hok:=(hJ (d+1) (by omega)).ok
 have hnn:=hok.nn _ hr2
 obtain⟨k,hk,ek⟩:=(g1 ((a (d+1)).1.bs.getD (a d).2.2 0).toNat).2 ⟨_,hr2,by omega⟩
 have hrow:=se_rows hm hI h.ok hok g1 hk hr2 (show partner n v < m by have:=par_lt h.comp.lt;omega) (by rw [ek];omega)
 have h1:=Int.mul_pos hp h.ok.tab.pos
 have h2:=hneg k hk
 rw [← hrow] at h1
 have h3:=hok.tab.pos
 have h4:s.T k (partner n v)*(a (d+1)).1.den≤0:=Int.mul_nonpos_of_nonpos_of_nonneg h2 (Int.le_of_lt h3)
 omega
end
open Go.Proofs.Ytmpkckiifeikkaa.Pr Go.Proofs.Ytmpkckiifeikkaa.Lq in
theorem no_limit {M:List (List Int)} {Q cv:List Int} (h:PC M Q cv Q.length) (most:Nat):(lkR M Q cv most).2.2.2.2=0:=by
 have hn0:=h.pos
 have hA:=first_small (n:=Q.length) (M:=enL M) (cv:=fun i=>cv.getD i 0) (q:=fun i=>Q.getD i 0) h.Mb (fun i hi=>by have:=h.cb i hi;omega) h.qb
 have hok:=first_ok (n:=Q.length) (M:=enL M) (cv:=fun i=>cv.getD i 0) (q:=fun i=>Q.getD i 0)
 have hI: ∀i j,i < Q.length→j < Q.length→tab0 Q.length (enL M) (fun i=>cv.getD i 0) (fun i=>Q.getD i 0) i j=if i=j then 1 else 0:=fun i j hi hj=>tab0_unit hi hj
 have hcv: ∀i,i < Q.length→0 < (fun i=>cv.getD i 0) i:=fun i hi=>(h.cb i hi).1
 unfold lkR runI
 by_cases hf:feas Q.length (fun i=>Q.getD i 0)=true
 ·rw [if_pos hf]
 ·rw [if_neg hf]
  cases hrow:rowB Q.length (2*Q.length+2) (first Q.length (enL M) (fun i=>cv.getD i 0) (fun i=>Q.getD i 0)) (fun i=>cv.getD i 0) with
  | none=>rfl
  | some r=>
   have hl:=rowB_least (apart_of (by omega) hI hok) hrow
   have hl':Least (tab0 Q.length (enL M) (fun i=>cv.getD i 0) (fun i=>Q.getD i 0)) Q.length (cols Q.length (2*Q.length+2)) (fun i=>cv.getD i 0) r:=hl
   have hr:=hl.1
   cases most with
   | zero=>rfl
   | succ q=>
    show (goI Q.length (2*Q.length+2) (q+1) (first Q.length (enL M) (fun i=>cv.getD i 0) (fun i=>Q.getD i 0)) (2*Q.length) r []).2.2.2.2=0
    have hbr:(first Q.length (enL M) (fun i=>cv.getD i 0) (fun i=>Q.getD i 0)).bs.getD r 0=(r:Int):=by simp [first,idl,hr]
    obtain⟨s1,hs1⟩: ∃s1,(first Q.length (enL M) (fun i=>cv.getD i 0) (fun i=>Q.getD i 0)).step r (2*Q.length)=s1:=⟨_,rfl⟩
    unfold goI
    rw [if_neg (by simp),hbr,if_neg (by omega),Int.toNat_natCast,hs1]
    have hneg: ∀i,i < Q.length→s1.T i r < 0:=fun i hi=>by rw [← hs1];exact first_neg h.le hA hcv hl' hi
    have hlex:LexRows Q.length (2*Q.length+2) s1:=by rw [← hs1];exact first_lex h.le hA hcv hl' hf
    have hok1:Ok Q.length (2*Q.length+2) (tab0 Q.length (enL M) (fun i=>cv.getD i 0) (fun i=>Q.getD i 0)) s1:=by
     rw [← hs1]
     refine hok.step h.le hA hr (by omega) ?_
     show tab0 Q.length (enL M) (fun i=>cv.getD i 0) (fun i=>Q.getD i 0) r (2*Q.length)≠0
     rw [tab0_cv]
     have h3:0 < cv.getD r 0:=hcv r hr
     show - cv.getD r 0≠0
     omega
    cases hrow2:rowB Q.length (2*Q.length+2) s1 (fun i=>s1.T i (partner Q.length r)) with
    | none=>rfl
    | some r1=>
     show (goI Q.length (2*Q.length+2) q s1 (partner Q.length r) r1 ([]++ [[((2*Q.length:Nat):Int),(r:Int)]])).2.2.2.2=0
     have hidl: ∀x,inB Q.length (idl Q.length) x↔x < Q.length:=fun x=>by
      constructor
      ·rintro ⟨i,hi,e⟩
       simp [idl,hi] at e;omega
      ·intro hx;exact⟨x,hx,by simp [idl,hx]⟩
     have hbr2:(idl Q.length).getD r 0=(r:Int):=by simp [idl,hr]
     have hbs:s1.bs=(idl Q.length).set r ((2*Q.length:Nat):Int):=by rw [← hs1];rfl
     have hS: ∀x,inB Q.length s1.bs x↔x=2*Q.length∨(x < Q.length∧x≠r):=fun x=>by
      rw [hbs,inB_set (l:=r) (by simp [idl]) hr hbr2 (fun i j hi hj e=>by simp [idl,hi,hj] at e;omega),hidl]
     have hp:partner Q.length r=r+Q.length:=by unfold partner;rw [if_pos hr]
     have hpp:partner Q.length (partner Q.length r)=r:=par_par (by omega)
     have hcomp:Comp Q.length s1.bs (partner Q.length r):=by
      refine⟨by rw [hp];omega,(hS _).2 (.inl rfl),fun q=>?_,fun q=>?_,fun x hx h1 h2=>?_⟩
      ·rw [hS,hp] at q;omega
      ·rw [hpp,hS] at q;omega
      ·rw [hpp] at h2
       rw [hp] at h1
       rw [hS,hS]
       have hx2:partner Q.length x=if x < Q.length then x+Q.length else x - Q.length:=rfl
       by_cases c:x < Q.length
       ·rw [hx2,if_pos c];omega
       ·rw [hx2,if_neg c];omega
     have aa:J Q.length (2*Q.length+2) (tab0 Q.length (enL M) (fun i=>cv.getD i 0) (fun i=>Q.getD i 0)) s1 (partner Q.length r) r1:=⟨hok1,hlex,hcomp,rowB_least (apart_of (by omega) hI hok1) hrow2⟩
     apply Classical.byContradiction
     intro hne
     exact go_tr (s1,partner Q.length r,r1) q s1 (partner Q.length r) r1 _ 0 rfl (by simp) (by simp) hne (no_199 h.le hn0 rfl hA hI aa (fun i hi=>by rw [hpp];exact Int.le_of_lt (hneg i hi)))
end Go.Proofs.Ytmpkckiifeikkaa.Lcy
end
section
namespace Go.Proofs.Ytmpkckiifeikkaa.Pr
open Go.RowKit Go.Proofs.YtmpkckiifeikkaaW.PrintWords Go.Proofs.YtmpkckiifeikkaaW.PrintLast Go.Proofs.YtmpkckiifeikkaaW.PrintMore Go.Proofs.Ytmpkckiifeikkaa.Ma Go.Proofs.Ytmpkckiifeikkaa.Dt Go.Proofs.Ytmpkckiifeikkaa.Lk Go.Proofs.Ytmpkckiifeikkaa.Lt Go.Proofs.Ytmpkckiifeikkaa.Lq
def afC' (R:TS × List (List Int) × Bool × Int × Int) (c k:Int):Int:=if c=0 then(if R.2.2.2.2=0 then(if 0≤k∧k≤(R.2.1.length:Int) then 0 else 2) else R.2.2.2.2) else c
def afC (M:List (List Int)) (Q cv:List Int) (k:Int):Int:=afC' (lkR M Q cv 201) (lkCode M Q cv) k
theorem afC_lk {M:List (List Int)} {Q cv:List Int} {k:Int} (h:afC M Q cv k=0):lkCode M Q cv=0∧(lkR M Q cv 201).2.2.2.2=0∧0≤k∧k≤((lkR M Q cv 201).2.1.length:Int):=by
 unfold afC afC' at h
 by_cases c:lkCode M Q cv=0
 ·rw [if_pos c] at h
  by_cases d:(lkR M Q cv 201).2.2.2.2=0
  ·rw [if_pos d] at h
   by_cases e:0≤k∧k≤((lkR M Q cv 201).2.1.length:Int)
   ·exact⟨c,d,e.1,e.2⟩
   ·rw [if_neg e] at h;cases h
  ·rw [if_neg d] at h;exact absurd h d
 ·rw [if_neg c] at h;exact absurd h c
theorem within2_f (n a b:Int):impl_within.f n a b=some (decide (a≤n∧n≤b)):=by
 unfold impl_within.f
 by_cases h:a≤n
 ·rw [if_pos (by omega)];simp [h]
 ·rw [if_neg (by omega)];simp [h]
theorem after_calls (A0:Option Addr) (c0:Nat) (M:List (List Int)) (A1:Option Addr) (c1:Nat) (Q:List Int) (A2:Option Addr) (c2:Nat) (cv:List Int) (k:Int) (w:World)
  (hC0:Kd.C (Kd.slice 2 (Kd.int .i64)) w A0 M.length M) (hc0:M.length≤c0) (hC1:Kd.C (Kd.int .i64) w A1 Q.length Q) (hc1:Q.length≤c1) (hC2:Kd.C (Kd.int .i64) w A2 cv.length cv) (hc2:cv.length≤c2):
  Calls Try.prog 88 #[.agg #[.slice A0 M.length c0, .slice A1 Q.length c1], .slice A2 cv.length c2, .int .i64 k] w fun e w'=>
   ((afC M Q cv k≠0∧e= .returned (.tuple #[.pointer none, .int .i64 (afC M Q cv k)]))∨(afC M Q cv k=0∧ ∃lo hi t,e= .returned (.tuple #[.pointer (some ⟨t,0,none⟩), .int .i64 0])∧w.heap.size≤lo∧TmE w' lo hi t Q.length (2*Q.length+2) (lkR M Q cv k.toNat).1))∧Below w.heap.size w w':=by
 have HB:=q_ (Below.refl w.heap.size w)
 have hcall:=fun W (hb:Below w.heap.size w W)=>runOf_calls A0 c0 M A1 c1 Q A2 c2 cv W (Kd.C_below hC0 hb) hc0 (Kd.C_below hC1 hb) hc1 (Kd.C_below hC2 hb) hc2
 have HL:=q_ hcall
 have hrun:=fun(h:lkCode M Q cv=0) W (hb:Below w.heap.size w W) (N:Nat)=>run_calls A0 c0 M A1 c1 Q A2 c2 cv N W Q.length (Kd.C_below hC0 hb) (Kd.C_below hC1 hb) (Kd.C_below hC2 hb) hc0 hc1 hc2 (lkCode_pc h).lM rfl (lkCode_pc h).rows (lkCode_pc h).pos (lkCode_pc h).le (lkCode_pc h).lcv (lkCode_pc h).Mb (lkCode_pc h).cb (lkCode_pc h).qb (lkR M Q cv N) (by unfold lkR;rfl)
 have HRUN:=q_ hrun
 clear hcall hrun hC0 hc0 hC1 hc1 hC2 hc2
 obtain⟨a,ha⟩: ∃a,afC M Q cv k=a:=⟨_,rfl⟩
 have HA0:Aside0 (afC' (lkR M Q cv 201) (lkCode M Q cv) k=a):=⟨ha⟩
 rw [ha]
 clear ha
 obtain⟨R,hR⟩: ∃R,lkR M Q cv 201=R:=⟨_,rfl⟩
 rw [hR] at HA0 HL
 clear hR
 obtain⟨c,hc⟩: ∃c,lkCode M Q cv=c:=⟨_,rfl⟩
 rw [hc] at HA0 HL HRUN
 clear hc
 generalize M.length=m0 at HL HRUN ⊢
 obtain⟨n,hn⟩: ∃n,Q.length=n:=⟨_,rfl⟩
 rw [hn] at HL HRUN ⊢
 clear hn
 generalize cv.length=m2 at HL HRUN ⊢
 go_enter Try.func88,Try.ntmps88
 go_wp2_with (first | ((with_reducible refine gate_dst (N:=3) rfl ?_);refine box_event ?hg (N:=3) ?hd (cs:= #[.slice A0 m0 c0, .slice A1 n c1]) (t:=30) ?hr ?_;(case hd=>rfl);(case hg=>rfl);(case hr=>first | (go_simp;done) | (go_simp;rfl));intro g3 hg w2 hbox hb;replace HB:=q_ (below_step HB.out hb);have B3:=q_ hbox;have hz0:=cz_ B3 0;have hz1:=cz_ B3 1;clear hb hbox hg))
 refine(HL.out w2 HB.out).mono ?_
 rintro e w3 ⟨hor,hb⟩
 have HBS:=q_ HB.out.size
 replace HB:=q_ (below_step HB.out hb)
 replace B3:=q_ (blk_below B3.out hb)
 clear hb hz0 hz1 HL
 rcases hor with ⟨hc,rfl⟩ | ⟨rfl,p,rfl,hP⟩
 ·have hcb:(c==0)=false:=by simpa using hc
  have e1:c=a:=by have h:=HA0.out;unfold afC' at h;rw [if_neg hc] at h;exact h
  subst e1
  clear HA0 HRUN
  go_wp2
  go_ret2
  exact⟨.inl ⟨hc,rfl⟩,HB.out⟩
 ·obtain⟨cR,hcR⟩: ∃c,R.2.2.2.2=c:=⟨_,rfl⟩
  rw [hcR] at hP
  have HP:=q_ (hP.base HBS.out)
  have HA1:Aside0 ((if cR=0 then(if 0≤k∧k≤(R.2.1.length:Int) then 0 else 2) else cR)=a):=⟨by have h:=HA0.out;unfold afC' at h;rw [if_pos rfl,hcR] at h;exact h⟩
  clear HA0 hP
  rw [hcR]
  clear hcR
  by_cases hc0:cR=0
  ·subst hc0
   have HA2:Aside0 ((if 0≤k∧k≤(R.2.1.length:Int) then 0 else 2)=a):=⟨by have h:=HA1.out;rw [if_pos rfl] at h;exact h⟩
   clear HA1
   have hq1: ∃A9 c9,w3.cell? ⟨p,1,none⟩=some (.slice A9 R.2.1.length c9):=by
    obtain⟨lo,hi,t,u1,h1,h2,h3,hT,hB,hS⟩:=HP.out
    obtain⟨A9,c9,rfl⟩:=Kd.S_slice hS
    exact⟨A9,c9,cz_ ⟨hB⟩ 1⟩
   obtain⟨A9,c9,hq1⟩:=hq1
   clear HP
   obtain⟨ls,hls⟩: ∃x,R.2.1.length=x:=⟨_,rfl⟩
   rw [hls] at hq1 HA2
   clear hls
   obtain⟨z,hz⟩: ∃z,decide (0≤k∧k≤(ls:Int))=z:=⟨_,rfl⟩
   have HW:=q_ ((within2_f k 0 (ls:Int)).trans (by rw [hz]))
   have HZ:=q_ hz
   clear hz
   go_wp2_with fail
   refine(impl_within.calls k 0 (ls:Int) z _ HW.out).mono ?_
   rintro e w4 ⟨rfl,⟨nd,rfl⟩⟩
   replace HB:=q_ (below_step HB.out (pw_below_drewN (Below.refl w3.heap.size w3) nd))
   replace B3:=q_ (blk_below B3.out (pw_below_drewN (Below.refl w3.heap.size w3) nd))
   clear hq1 HW
   generalize w3.drewN nd=w4 at HB B3 ⊢
   cases z with
   | false=>
    have e1:a=2:=by have h:=HA2.out;rw [if_neg (of_decide_eq_false HZ.out)] at h;exact h.symm
    subst e1
    clear HA2 HRUN
    go_wp2
    go_ret2
    exact⟨.inl ⟨by decide,rfl⟩,HB.out⟩
   | true=>
    have hk:=of_decide_eq_true HZ.out
    have e1:a=0:=by have h:=HA2.out;rw [if_pos hk] at h;exact h.symm
    subst e1
    obtain⟨N,rfl⟩:=Int.eq_ofNat_of_zero_le hk.1
    have HR2:=q_ (HRUN.out (by first | exact rfl | trivial) w4 HB.out N)
    clear HRUN HA2 hk HZ
    have hz0:=cz_ B3 0
    have hz1:=cz_ B3 1
    obtain⟨R2,hR2⟩: ∃x,lkR M Q cv N=x:=⟨_,rfl⟩
    rw [hR2] at HR2
    have HE:=q_ hR2
    clear hR2
    go_wp2_with fail
    refine HR2.out.mono ?_
    rintro e w5 ⟨p2,rfl,hP,hb⟩
    have HP2:=q_ (hP.base HB.out.size)
    replace HB:=q_ (below_step HB.out hb)
    clear hP hb hz0 hz1 HR2 B3
    obtain⟨lo,hi,t,u1,h1,h2,h3,hT,hB,hS⟩:=HP2.out
    have hq0:=cz_ ⟨hB⟩ 0
    have HT:=q_ hT
    have HLO:=q_ h1
    clear h1 h2 h3 hT hB hS HP2
    go_wp2
    go_ret2
    exact⟨⟨lo,hi,t,rfl,HLO.out,by first | (rw [HE.out];exact HT.out) | (rw [Int.toNat_natCast,HE.out];exact HT.out)⟩,HB.out⟩
  ·have hcb:(cR==0)=false:=by simpa using hc0
   have e1:cR=a:=by have h:=HA1.out;rw [if_neg hc0] at h;exact h
   subst e1
   clear HA1 HP HRUN
   go_wp2
   go_ret2
   exact⟨.inl ⟨hc0,rfl⟩,HB.out⟩
end Go.Proofs.Ytmpkckiifeikkaa.Pr
end
