/- Texts of one claim (the words of the kit's print that the claim uses, printed functions, and this session's own texts), joined in the order of their imports by this session's own program (merge.py). -/
import Derived.WalkLawsBesides
import Derived.Test.YtbjljcpngbhkeaaJnFnPivots0
set_option linter.unusedVariables false
set_option linter.unusedSimpArgs false
set_option maxHeartbeats 8000000
set_option maxRecDepth 100000
section
namespace Go.Proofs.Ytbjljcpngbhkeaa.Pr
open Go.RowKit Go.Proofs.YtbjljcpngbhkeaaW.PrintWords Go.Proofs.YtbjljcpngbhkeaaW.PrintLast Go.Proofs.YtbjljcpngbhkeaaW.PrintMore
attribute [local go_sem] max2_int min2_int max_two min_two max_three min_three max_four min_four
def spec_l01Own.f (l0:List Int):Option (List Int):=(some (([]:List Int):List Int)).bind fun aa=>(if aa.length+l0.length < 17592186044416 then(some (aa++l0)) else(none))
theorem spec_l01Own.calls (A0:Option Addr) (c0:Nat) (l0:List Int) (r:List Int) (w:World) (hr0:Kd.C (Kd.int .i64) w A0 l0.length l0) (hc0:l0.length≤c0) (h:spec_l01Own.f l0=some r):
  Calls Try.prog 71 #[.slice A0 l0.length c0] w fun e w'=> ∃v0_:Value,e= .returned (v0_)∧Kd.R (Kd.int .i64) 2 w' w.heap.size (fun _=>True) v0_ r∧Below w.heap.size w w':=by
 have HR0:=q_ hr0;have HC0:=q_ hc0;clear hr0 hc0;have HB:=q_ (Below.refl w.heap.size w);have H:((some (([]:List Int):List Int)).bind fun aa=>(if aa.length+l0.length < 17592186044416 then(some (aa++l0)) else(none)))=some r:=h;clear h;obtain⟨aa,hy⟩: ∃y_:List Int,y_=(([]:List Int)):=⟨_,rfl⟩
 replace H:(if aa.length+l0.length < 17592186044416 then(some (aa++l0)) else(none))=some r:=hh_;have ae:=q_ hy;clear hy
 by_cases c2:aa.length+l0.length < 17592186044416
 ·rw [if_pos c2] at H;have ai:=q_ c2;clear c2;obtain⟨aj,hy⟩: ∃y_:List Int,y_=(aa++l0):=⟨_,rfl⟩
  replace H:(some aj)=some r:=hh_;have ag:=q_ hy;clear hy;obtain rfl:=Option.some.inj H
  go_enter Try.func71,Try.ntmps71
  go_wp2_with (first | ((with_reducible refine gate_dst (N:=3) rfl ?_);refine Kd.R_lit (Kd.int .i64) _ 2 ?hg (N:=3) ?hd (xs:=([]:List Int)) (inner:= []) (ok:=fun _=>True) (okp:=fun _=>True) ?hr ?hp (fun _ hk=>hk) trivial (Below.refl _ _) (Nat.le_refl _) (by simp) ?_;(case hd=>rfl);(case hg=>rfl);(case hr=>first | (go_simp;done) | (go_simp;rfl));(case hp=>exact(Reps.none _ _));intro ak w3 ho4 hb hg_ hnew_;clear hg_ hnew_;(first | rw [← ae.out] at ho4 | (simp only [Int.reduceToNat] at ho4;rw [← ae.out] at ho4));have af:=q_ (Kd.R_lower ho4 bz_);replace HB:=q_ (bs_ hb);clear hb ho4) | ((with_reducible refine gate_builtin (b:= .append) (xs:= #[.tmp 3, .tmp 4]) rfl ?_);at_builtin;refine Kd.R_append_rows (Kd.int .i64) (w0:=w) w.heap.size rfl (.tmp 3) (.tmp 4) 25 2 (.int .i64 0) 8 rfl Try.underlying25 info2 rfl (by decide) (by omega) ak aa l0 _ _ _ (fun _=>True) (fun _=>False) rfl rfl ?aO ?aR (fun _ _ h=>h) (fun _ h=>h.elim) ?aF ?aB ?aS ?aL ?_;(case aR=>exact cb_ HR0.out HB.out);(case aB=>exact hb_);(case aF=>exact(fun _ _=>trivial));(case aO=>exact(ro_ af.out));(case aS=>exact bz_);(case aL=>have:=ai.out;omega);intro aq w5 ho hb hg hat;rw [← ag.out] at ho;replace HB:=q_ (hb);have ah:=q_ (ho);clear af ho hb hg hat))
  go_ret
  exact⟨_,by first | rfl | (simp [errW_none,errW_some] <;> rfl) | (simp [*,errW_none,errW_some] <;> rfl),ro_ ah.out,hb_⟩
 ·rw [if_neg c2] at H;exact absurd H (by simp)
def impl_within.f (a0:Int) (a1:Int) (a2:Int):Option (Bool):=if a0 ≥ a1 then(some (decide (a0≤a2))) else(some false)
theorem impl_within.calls (a0:Int) (a1:Int) (a2:Int) (r:Bool) (w:World) (h:impl_within.f a0 a1 a2=some r):
  Calls Try.prog 54 #[.int .i64 a0, .int .i64 a1, .int .i64 a2] w fun e w'=>e= .returned (.bool r)∧Drawn0 w w':=by
 have H:(if a0 ≥ a1 then(some (decide (a0≤a2))) else(some false))=some r:=h;clear h
 by_cases c4:a0 ≥ a1
 ·rw [if_pos c4] at H;have c4b0:=decide_eq_true c4;clear c4;obtain rfl:=Option.some.inj H
  go_enter Try.func54,Try.ntmps54
  go_wp2
  go_ret
  exact⟨by first | rfl | (simp;done) | (simp [*];done),by repeat (first | exact Drawn0.refl _ | apply Drawn0.step)⟩
 ·rw [if_neg c4] at H;have c4b0:=decide_eq_false c4;clear c4;obtain rfl:=Option.some.inj H
  go_enter Try.func54,Try.ntmps54
  go_wp2
  go_ret
  exact⟨by first | rfl | (simp;done) | (simp [*];done),by repeat (first | exact Drawn0.refl _ | apply Drawn0.step)⟩
def impl_has.f (a0:Int) (a1:Int):Option (Bool):=if 0≤a1 then(some ((Go.bits .and .i64 (shr .i64 a0 a1) 1)==1)) else(none)
theorem impl_has.calls (a0:Int) (a1:Int) (r:Bool) (w:World) (h:impl_has.f a0 a1=some r):
  Calls Try.prog 73 #[.int .i64 a0, .int .i64 a1] w fun e w'=>e= .returned (.bool r)∧Drawn0 w w':=by
 have H:(if 0≤a1 then(some ((Go.bits .and .i64 (shr .i64 a0 a1) 1)==1)) else(none))=some r:=h;clear h
 by_cases c3:0≤a1
 ·rw [if_pos c3] at H;have c3b0:=eq_true c3;have c3b1:=decide_eq_true c3;clear c3;obtain⟨ji4,hji4⟩: ∃j_:Int,(shr .i64 a0 a1)=j_:=⟨_,rfl⟩
  replace H:(some ((Go.bits .and .i64 (ji4) 1)==1))=some r:=by first | (rw [hji4] at H;exact H) | (simp only [hji4] at H ⊢;exact H)
  have hji4_:(a0 / 2 ^ min a1.toNat 64)=ji4:=hji4;have hji4z:a1≤64→(a0 / 2 ^ a1.toNat)=ji4:=shr_small hji4;obtain rfl:=Option.some.inj H
  go_enter Try.func73,Try.ntmps73
  go_wp2
  go_ret
  exact⟨by first | rfl | (simp;done) | (simp only [← hji4] <;> (first | rfl | simp)) | (simp [*];done),by repeat (first | exact Drawn0.refl _ | apply Drawn0.step)⟩
 ·rw [if_neg c3] at H;exact absurd H (by simp)
def impl_sign.f (a0:Int):Option (Int):=if a0 < 0 then(some (-1)) else(if a0 > 0 then(some 1) else(some 0))
theorem impl_sign.calls (a0:Int) (r:Int) (w:World) (h:impl_sign.f a0=some r):
  Calls Try.prog 65 #[.int .i64 a0] w fun e w'=>e= .returned (.int .i64 r)∧Drawn0 w w':=by
 have H:(if a0 < 0 then(some (-1)) else(if a0 > 0 then(some 1) else(some 0)))=some r:=h;clear h
 by_cases c2:a0 < 0
 ·rw [if_pos c2] at H;have c2b0:=decide_eq_true c2;clear c2;obtain rfl:=Option.some.inj H
  go_enter Try.func65,Try.ntmps65
  go_wp2
  go_ret
  exact⟨by first | rfl | (simp;done) | (simp [*];done),by repeat (first | exact Drawn0.refl _ | apply Drawn0.step)⟩
 ·rw [if_neg c2] at H;have c2b0:=decide_eq_false c2;clear c2
  by_cases c3:a0 > 0
  ·rw [if_pos c3] at H;have c3b0:=decide_eq_true c3;clear c3;obtain rfl:=Option.some.inj H
   go_enter Try.func65,Try.ntmps65
   go_wp2
   go_ret
   exact⟨by first | rfl | (simp;done) | (simp [*];done),by repeat (first | exact Drawn0.refl _ | apply Drawn0.step)⟩
  ·rw [if_neg c3] at H;have c3b0:=decide_eq_false c3;clear c3;obtain rfl:=Option.some.inj H
   go_enter Try.func65,Try.ntmps65
   go_wp2
   go_ret
   exact⟨by first | rfl | (simp;done) | (simp [*];done),by repeat (first | exact Drawn0.refl _ | apply Drawn0.step)⟩
def impl_size.f (a0:Int):Option (Int):=some (mx a0 (wrap64 (-a0)))
theorem impl_size.calls (a0:Int) (r:Int) (w:World) (h:impl_size.f a0=some r):
  Calls Try.prog 99 #[.int .i64 a0] w fun e w'=>e= .returned (.int .i64 r)∧Below w.heap.size w w':=by
 have HB:=q_ (Below.refl w.heap.size w);have H:(some (mx a0 (wrap64 (-a0))))=some r:=h;clear h;obtain⟨ji2,hji2⟩: ∃j_:Int,(mx a0 (wrap64 (-a0)))=j_:=⟨_,rfl⟩
 replace H:(some ji2)=some r:=by first | (rw [hji2] at H;exact H) | (simp only [hji2] at H ⊢;exact H)
 have hji2_:(if a0 < (wrap64 (-a0)) then(wrap64 (-a0)) else a0)=ji2:=hji2;obtain rfl:=Option.some.inj H
 go_enter Try.func99,Try.ntmps99
 go_wp2
 go_ret
 exact⟨by first | rfl | (simp [errW_none,errW_some] <;> rfl) | (simp only [← hji2];first | rfl | (simp [errW_none,errW_some] <;> rfl)) | (simp [*,errW_none,errW_some] <;> rfl),hb_⟩
def laws_big.f (l0:List Int):Option (Bool):=some (decide ((l0.length:Int) > 4096))
theorem laws_big.calls (A0:Option Addr) (c0:Nat) (l0:List Int) (r:Bool) (w:World) (hr0:Kd.C (Kd.int .u8) w A0 l0.length l0) (hc0:l0.length≤c0) (h:laws_big.f l0=some r):
  Calls Try.prog 5 #[.slice A0 l0.length c0] w fun e w'=>e= .returned (.bool r)∧Drawn0 w w':=by
 have HR0:=q_ hr0;have HC0:=q_ hc0;clear hr0 hc0;have H:(some (decide ((l0.length:Int) > 4096)))=some r:=h;clear h;obtain rfl:=Option.some.inj H
 go_enter Try.func5,Try.ntmps5
 go_wp2
 go_ret
 exact⟨by first | rfl | (simp;done) | (simp [*];done),by repeat (first | exact Drawn0.refl _ | apply Drawn0.step)⟩
def IsS89 (w0 W:World) (g:Nat) (f0:List Int) (f1:Int) (f2:Int):Prop:= ∃A0 c0,W.heap[g]?=some (.cells #[.slice A0 f0.length c0, .int .i64 f1, .int .u64 f2] 89 (0,0))∧w0.heap.size≤g∧Kd.C (Kd.int .u8) w0 A0 f0.length f0
theorem IsS89.grown {w0 W:World} {g:Nat} {f0:List Int} {f1:Int} {f2:Int} {W1:World} {row:Option Nat} (h:IsS89 w0 W g f0 f1 f2) (hw:W.grownBy W1 row) (hne:some g≠row):IsS89 w0 W1 g f0 f1 f2:=by
 obtain⟨A0,c0,hb,hg,hr0⟩:=h
 exact⟨A0,c0,blk_grown hb hw hne,hg,hr0⟩
theorem IsS89.own_neN {w0 W:World} {g:Nat} {f0:List Int} {f1:Int} {f2:Int} {α:Type} {d:Kd α} {e:Nat} {base:Nat} {ok:Nat→Prop} {v:Value} {xs:List α} (h:IsS89 w0 W g f0 f1 f2) (ho:Kd.N d e W base ok v xs) (ht:e≠89):some g≠v.ownBlock:=by
 obtain⟨A0,c0,hb,hg,hr0⟩:=h
 exact Kd.N_ne ho hb ht
theorem IsS89.fresh {w0 W:World} {g:Nat} {f0:List Int} {f1:Int} {f2:Int} (h:IsS89 w0 W g f0 f1 f2): ∀k,W.heap.size≤k→k≠g:=by
 obtain⟨A0,c0,hb,hg,hr0⟩:=h
 exact Kd.freshB hb
theorem IsS89.kept {w0 W:World} {g:Nat} {f0:List Int} {f1:Int} {f2:Int} {W1:World} {S:Nat→Prop} (h:IsS89 w0 W g f0 f1 f2) (hk:Kept W W1 S) (hne: ¬ S g):IsS89 w0 W1 g f0 f1 f2:=by
 obtain⟨A0,c0,hb,hg,hr0⟩:=h
 exact⟨A0,c0,blk_kept hb hk hne,hg,hr0⟩
theorem IsS89.below {w0 W:World} {g:Nat} {f0:List Int} {f1:Int} {f2:Int} {W1:World} (h:IsS89 w0 W g f0 f1 f2) (hw:Below W.heap.size W W1):IsS89 w0 W1 g f0 f1 f2:=h.grown (grown_of_below hw none) (by simp)
theorem IsS89.alloc {w0 W:World} {g:Nat} {f0:List Int} {f1:Int} {f2:Int} (h:IsS89 w0 W g f0 f1 f2) (o:Obj):IsS89 w0 (W.alloc o) g f0 f1 f2:=h.below (below_alloc (Below.refl _ _) o)
theorem IsS89.drewN {w0 W:World} {g:Nat} {f0:List Int} {f1:Int} {f2:Int} (h:IsS89 w0 W g f0 f1 f2) (m:Nat):IsS89 w0 (W.drewN m) g f0 f1 f2:=h
theorem IsS89.drew {w0 W:World} {g:Nat} {f0:List Int} {f1:Int} {f2:Int} (h:IsS89 w0 W g f0 f1 f2):IsS89 w0 W.drew g f0 f1 f2:=h
theorem IsS89.at_ {w0 W:World} {g:Nat} {f0:List Int} {f1:Int} {f2:Int} {w':World} {m:Nat} (hq:W.drewN m=w') (h:IsS89 w0 W g f0 f1 f2):IsS89 w0 w' g f0 f1 f2:=by subst hq;exact IsS89.drewN h m
theorem IsS89.apart {w0 W:World} {g:Nat} {f0:List Int} {f1:Int} {f2:Int} {α:Type} {d:Kd α} {e:Nat} {base:Nat} {ok:Nat→Prop} {v:Value} {xs:List α} (h:IsS89 w0 W g f0 f1 f2) (ho:d.R e W base ok v xs) (ht: ∀q,q ∈ e::d.E→q≠89):d.R e W base (fun k=>ok k∧k≠g) v xs:=by
 obtain⟨A0,c0,hb,hg,hr0⟩:=h
 exact Kd.R_types ho hb ht
theorem IsS89.own_ne {w0 W:World} {g:Nat} {f0:List Int} {f1:Int} {f2:Int} {α:Type} {d:Kd α} {e:Nat} {base:Nat} {ok:Nat→Prop} {v:Value} {xs:List α} (h:IsS89 w0 W g f0 f1 f2) (ho:d.R e W base ok v xs) (ht:e≠89):some g≠v.ownBlock:=by
 obtain⟨A0,c0,hb,hg,hr0⟩:=h
 exact Kd.R_ne ho hb ht
theorem IsS89.apartQ {w0 W:World} {g:Nat} {f0:List Int} {f1:Int} {f2:Int} {α:Type} {d:Kd α} {e:Nat} {base:Nat} {ok:Nat→Prop} {v:Value} {xs:List α} (h:IsS89 w0 W g f0 f1 f2) (ho:d.Q e W base ok v xs) (ht: ∀q,q ∈ e::d.E→q≠89):d.Q e W base (fun k=>ok k∧k≠g) v xs:=by
 obtain⟨A0,c0,hb,hg,hr0⟩:=h
 exact Kd.Q_types ho hb ht
theorem IsS89.own_neQ {w0 W:World} {g:Nat} {f0:List Int} {f1:Int} {f2:Int} {α:Type} {d:Kd α} {e:Nat} {base:Nat} {ok:Nat→Prop} {v:Value} {xs:List α} (h:IsS89 w0 W g f0 f1 f2) (ho:d.Q e W base ok v xs) (ht:e≠89):some g≠v.ownBlock:=by
 obtain⟨A0,c0,hb,hg,hr0⟩:=h
 exact Kd.Q_ne ho hb ht
theorem IsS89.apartS {w0 W:World} {g:Nat} {f0:List Int} {f1:Int} {f2:Int} {α:Type} {d:Kd α} {e:Nat} {base:Nat} {ok:Nat→Prop} {v:Value} {xs:List α} (h:IsS89 w0 W g f0 f1 f2) (ho:d.S e W base ok v xs) (ht: ∀q,q ∈ e::d.E→q≠89):d.S e W base (fun k=>ok k∧k≠g) v xs:=by
 obtain⟨A0,c0,hb,hg,hr0⟩:=h
 exact Kd.S_types ho hb ht
theorem IsS89.own_neS {w0 W:World} {g:Nat} {f0:List Int} {f1:Int} {f2:Int} {α:Type} {d:Kd α} {e:Nat} {base:Nat} {ok:Nat→Prop} {v:Value} {xs:List α} (h:IsS89 w0 W g f0 f1 f2) (ho:d.S e W base ok v xs) (ht:e≠89):some g≠v.ownBlock:=by
 obtain⟨A0,c0,hb,hg,hr0⟩:=h
 exact Kd.S_ne ho hb ht
theorem IsS89.lt {w0 W:World} {g:Nat} {f0:List Int} {f1:Int} {f2:Int} (h:IsS89 w0 W g f0 f1 f2):g < W.heap.size:=by
 obtain⟨A0,c0,hb,hg,hr0⟩:=h
 exact blk_lt hb
theorem IsS89.ge {w0 W:World} {g:Nat} {f0:List Int} {f1:Int} {f2:Int} (h:IsS89 w0 W g f0 f1 f2):w0.heap.size≤g:=by
 obtain⟨A0,c0,hb,hg,hr0⟩:=h
 exact hg
theorem IsS89.ne_blk {w0 W:World} {g:Nat} {f0:List Int} {f1:Int} {f2:Int} {a:Nat} {cs:Array Value} {t:TypeId} {fr:Nat × Nat} (h:IsS89 w0 W g f0 f1 f2) (hb2:W.heap[a]?=some (.cells cs t fr)) (ht:t≠89):g≠a:=by
 obtain⟨A0,c0,hb,hg,hr0⟩:=h
 rintro rfl
 rw [hb] at hb2
 injection hb2 with hb2
 injection hb2 with _ ht2
 exact ht ht2.symm
theorem IsS89.far {w0 W:World} {g:Nat} {f0:List Int} {f1:Int} {f2:Int} {p:Addr} (h:IsS89 w0 W g f0 f1 f2) (hne:g≠p.block) (u:Value):IsS89 w0 (W.setCell p u) g f0 f1 f2:=by
 obtain⟨A0,c0,hb,hg,hr0⟩:=h
 exact⟨A0,c0,blk_far hb hne u,hg,hr0⟩
theorem cellS89_0 {W:World} {g:Nat} {A0:Option Addr} {c0:Nat} {f0:List Int} {f1:Int} {f2:Int} (h:W.heap[g]?=some (.cells #[.slice A0 f0.length c0, .int .i64 f1, .int .u64 f2] 89 (0,0))):W.cell? ⟨g,0,none⟩=some (.slice A0 f0.length c0):=(blk_cell h 0).trans rfl
theorem cellS89_1 {W:World} {g:Nat} {A0:Option Addr} {c0:Nat} {f0:List Int} {f1:Int} {f2:Int} (h:W.heap[g]?=some (.cells #[.slice A0 f0.length c0, .int .i64 f1, .int .u64 f2] 89 (0,0))):W.cell? ⟨g,1,none⟩=some (.int .i64 f1):=(blk_cell h 1).trans rfl
theorem IsS89.set_1 {w0 W:World} {g:Nat} {f0:List Int} {f1:Int} {f2:Int} (h:IsS89 w0 W g f0 f1 f2) (x:Int):IsS89 w0 (W.setCell ⟨g,1,none⟩ (.int .i64 x)) g f0 x f2:=by
 obtain⟨A0,c0,hb,hg,hr0⟩:=h
 exact⟨A0,c0,by simpa using blk_set hb 1 (.int .i64 x),hg,hr0⟩
theorem cellS89_2 {W:World} {g:Nat} {A0:Option Addr} {c0:Nat} {f0:List Int} {f1:Int} {f2:Int} (h:W.heap[g]?=some (.cells #[.slice A0 f0.length c0, .int .i64 f1, .int .u64 f2] 89 (0,0))):W.cell? ⟨g,2,none⟩=some (.int .u64 f2):=(blk_cell h 2).trans rfl
theorem IsS89.set_2 {w0 W:World} {g:Nat} {f0:List Int} {f1:Int} {f2:Int} (h:IsS89 w0 W g f0 f1 f2) (x:Int):IsS89 w0 (W.setCell ⟨g,2,none⟩ (.int .u64 x)) g f0 f1 x:=by
 obtain⟨A0,c0,hb,hg,hr0⟩:=h
 exact⟨A0,c0,by simpa using blk_set hb 2 (.int .u64 x),hg,hr0⟩
theorem IsS89.new (w0 W:World) (A0:Option Addr) (c0:Nat) (f0:List Int) (f1:Int) (f2:Int) (hB:Below w0.heap.size w0 W) (hr0:Kd.C (Kd.int .u8) w0 A0 f0.length f0):IsS89 w0 (W.alloc (.cells #[.slice A0 f0.length c0, .int .i64 f1, .int .u64 f2] 89)) W.heap.size f0 f1 f2:=⟨A0,c0,by simpa using heap_alloc_new W _,hB.size,hr0⟩
theorem hi_ {w0 w:World} {g:Nat} {a:List Int} {b c:Int} (h:IsS89 w0 w g a b c:=by repeat (first | (with_reducible first | exact HI0.out | apply IsS89.alloc | apply IsS89.drew | apply IsS89.drewN | apply IsS89.set_1 | apply IsS89.set_2 | refine IsS89.far ?_ (Aside0.out (by assumption)) _) | exact HI0.out)):IsS89 w0 w g a b c:=h
theorem hj_ {B:Nat} {w W:World} (h:Below B w W:=by repeat (first | (with_reducible first | exact HB.out | apply below_alloc | apply pw_below_drewN | apply below_drew1 | refine below_set ?_ (IsS89.ge HI0.out) | refine below_set ?_ (Aside0.out (by assumption))) | exact HB.out)):Below B w W:=h
def spec_l01Next.f (s0_0:List Int) (s0_1:Int) (s0_2:Int) (a1:Int):Option (Int × Int × Int):=if a1 < 1 then(some (0,s0_1,s0_2)) else(if s0_1 < (s0_0.length:Int) then(if 0≤s0_1 then(if a1=0 then(none) else(some (Int.tmod (wrap64 ((wrap64 (Go.bits .and .u64 ((IntKind.u64.wrap ((IntKind.u64.wrap (s0_2*6364136223846793005))+1442695040888963407)) / 2147483648) 1073741823))+(wrap64 (rd s0_0 s0_1)))) a1,wrap64 (s0_1+1),IntKind.u64.wrap ((IntKind.u64.wrap (s0_2*6364136223846793005))+1442695040888963407)))) else(none)) else(if a1=0 then(none) else(some (Int.tmod (wrap64 (Go.bits .and .u64 ((IntKind.u64.wrap ((IntKind.u64.wrap (s0_2*6364136223846793005))+1442695040888963407)) / 2147483648) 1073741823)) a1,s0_1,IntKind.u64.wrap ((IntKind.u64.wrap (s0_2*6364136223846793005))+1442695040888963407)))))
theorem spec_l01Next.calls (g:Nat) (s0_0:List Int) (s0_1:Int) (s0_2:Int) (a1:Int) (r1:Int) (r2:Int) (r3:Int) (w0 w:World) (hI:IsS89 w0 w g s0_0 s0_1 s0_2) (hB:Below w0.heap.size w0 w) (h:spec_l01Next.f s0_0 s0_1 s0_2 a1=some (r1,r2,r3)):
  Calls Try.prog 37 #[.pointer (some ⟨g,0,none⟩), .int .i64 a1] w fun e w'=>e= .returned (.int .i64 r1)∧IsS89 w0 w' g s0_0 r2 r3∧Below w0.heap.size w0 w'∧KeepBut w w' g none:=by
 have HI0:=q_ hI;have HK:=q_ (KeepBut.refl w g none);have HL:=q_ hB.size;clear hI;have HW0:=q_ hB.size;have HB:=q_ hB;clear hB;have H:(if a1 < 1 then(some (0,s0_1,s0_2)) else(if s0_1 < (s0_0.length:Int) then(if 0≤s0_1 then(if a1=0 then(none) else(some (Int.tmod (wrap64 ((wrap64 (Go.bits .and .u64 ((IntKind.u64.wrap ((IntKind.u64.wrap (s0_2*6364136223846793005))+1442695040888963407)) / 2147483648) 1073741823))+(wrap64 (rd s0_0 s0_1)))) a1,wrap64 (s0_1+1),IntKind.u64.wrap ((IntKind.u64.wrap (s0_2*6364136223846793005))+1442695040888963407)))) else(none)) else(if a1=0 then(none) else(some (Int.tmod (wrap64 (Go.bits .and .u64 ((IntKind.u64.wrap ((IntKind.u64.wrap (s0_2*6364136223846793005))+1442695040888963407)) / 2147483648) 1073741823)) a1,s0_1,IntKind.u64.wrap ((IntKind.u64.wrap (s0_2*6364136223846793005))+1442695040888963407))))))=some (r1,r2,r3):=h;clear h
 by_cases c3:a1 < 1
 ·rw [if_pos c3] at H;have c3b0:=decide_eq_true c3;clear c3;simp only [Option.some.injEq,Prod.mk.injEq] at H;obtain⟨rfl,rfl,rfl⟩:=H
  go_enter Try.func37,Try.ntmps37
  go_wp2
  repeat (go_quiet (fail);try go_wp2)
  go_ret
  exact⟨by first | rfl | (simp [errW_none,errW_some] <;> rfl) | (simp [*,errW_none,errW_some] <;> rfl),hi_,hj_,hk_⟩
 ·rw [if_neg c3] at H;have c3b0:=decide_eq_false c3;clear c3
  by_cases c4:s0_1 < (s0_0.length:Int)
  ·rw [if_pos c4] at H;have c4b0:=decide_eq_true c4;clear c4
   by_cases c5:0≤s0_1
   ·rw [if_pos c5] at H;have c5b0:=decide_eq_true c5;clear c5
    by_cases c6:a1=0
    ·rw [if_pos c6] at H;exact absurd H (by simp)
    ·rw [if_neg c6] at H;have c6b0:=e3_ c6;have c6b1:=e4_ c6;simp only [Option.some.injEq,Prod.mk.injEq] at H;obtain⟨rfl,rfl,rfl⟩:=H;obtain⟨ASz7_0,cSz7_0,HGz7,hgz7,HSz7_0⟩:=HI0.out;have ae:=cellS89_0 HGz7;have af:=cellS89_1 HGz7;have ag:=cellS89_2 HGz7;have ah:=blk_frozen HGz7 1;have ai:=blk_frozen HGz7 2;clear HGz7 hgz7;have p107:0≤(s0_1:Int):=od_;have q107:s0_1 < (s0_0.length:Int):=od_;obtain⟨aa,e107,hx107_0⟩:=Kd.at_int HSz7_0 s0_1 p107 q107;cases e107
     have hn107_0:aa.block≠g:=Nat.ne_of_lt (Nat.lt_of_lt_of_le (by have:=World.block_lt_of_cell? _ _ hx107_0;first | rwa [add_block] at this | exact this) (IsS89.ge HI0.out));replace hx107_0:=pw_cell_below HB.out hx107_0;replace hx107_0:=(cell_far (p:=⟨g,2,none⟩) (by first | (rw [add_block];exact hn107_0) | (show (Addr.add _ _).block≠_;rw [add_block];exact hn107_0) | exact hn107_0) (.int .u64 (IntKind.u64.wrap ((IntKind.u64.wrap (s0_2*6364136223846793005))+1442695040888963407)))).trans hx107_0
     (try have hy107_0:=fun(n_:Nat)=>(show (((w.drewN n_).setCell ⟨g,2,none⟩ (.int .u64 (IntKind.u64.wrap ((IntKind.u64.wrap (s0_2*6364136223846793005))+1442695040888963407))))).cell? _=some _ from hx107_0))
     clear hn107_0;replace p107:=eq_true p107;replace q107:=eq_true q107
     go_enter Try.func37,Try.ntmps37
     go_wp2
     repeat (go_quiet (fail);try go_wp2)
     go_ret
     exact⟨by first | rfl | (simp [errW_none,errW_some] <;> rfl) | (simp [*,errW_none,errW_some] <;> rfl),hi_,hj_,hk_⟩
   ·rw [if_neg c5] at H;exact absurd H (by simp)
  ·rw [if_neg c4] at H;have c4b0:=decide_eq_false c4;clear c4
   by_cases c8:a1=0
   ·rw [if_pos c8] at H;exact absurd H (by simp)
   ·rw [if_neg c8] at H;have c8b0:=e3_ c8;have c8b1:=e4_ c8;simp only [Option.some.injEq,Prod.mk.injEq] at H;obtain⟨rfl,rfl,rfl⟩:=H;obtain⟨ASz9_0,cSz9_0,HGz9,hgz9,HSz9_0⟩:=HI0.out;have aj:=cellS89_0 HGz9;have ak:=cellS89_1 HGz9;have aq:=cellS89_2 HGz9;have au:=blk_frozen HGz9 1;have av:=blk_frozen HGz9 2;clear HGz9 hgz9
    go_enter Try.func37,Try.ntmps37
    go_wp2
    repeat (go_quiet (fail);try go_wp2)
    go_ret
    exact⟨by first | rfl | (simp [errW_none,errW_some] <;> rfl) | (simp [*,errW_none,errW_some] <;> rfl),hi_,hj_,hk_⟩
end Go.Proofs.Ytbjljcpngbhkeaa.Pr
end
section
namespace Go.Proofs.Ytbjljcpngbhkeaa.Hd
open Go.RowKit Go.Proofs.YtbjljcpngbhkeaaW.PrintWords Go.Proofs.YtbjljcpngbhkeaaW.PrintLast Go.Proofs.YtbjljcpngbhkeaaW.PrintMore Go.Proofs.Ytbjljcpngbhkeaa.Pr Go.Proofs.Ytbjljcpngbhkeaa.La Go.Proofs.Ytbjljcpngbhkeaa.Ma Go.Proofs.Ytbjljcpngbhkeaa.Hm Go.Proofs.Ytbjljcpngbhkeaa.Dt
structure Pre (w0 w:World) (g n r:Nat) (b cp:Nat→Nat):Prop where
 below:Below w0.heap.size w0 w
 gb:w0.heap.size≤g
 bb: ∀j,j < r→w0.heap.size≤b j
 inj: ∀i j,i < r→j < r→b i=b j→i=j
 ne: ∀j,j < r→b j≠g
 cap: ∀j,j < r→n≤cp j
 og: ∀j,j < r→w.cell? ⟨g,j,none⟩=some (.slice (some ⟨b j,0,none⟩) n (cp j))
 ob: ∀j c,j < r→c < n→w.cell? ⟨b j,c,none⟩=some (.int .i64 0)∧w.frozen? ⟨b j,c,none⟩=false
 rest: ∀j,j < n→(∃v,w.cell? ⟨g,j,none⟩=some v)∧w.frozen? ⟨g,j,none⟩=false
section
variable {w0 w w1:World} {g n r:Nat} {b cp:Nat→Nat}
theorem Pre.step (h:Pre w0 w g n r b cp) (hr:r≤n) (hb:Below w.heap.size w w1):Pre w0 w1 g n r b cp:=
  ⟨Below.trans h.below (hb.mono h.below.size),h.gb,h.bb,h.inj,h.ne,h.cap,
   fun j hj=>by have:=lt_of_cell (h.og j hj);exact(hb.cell (p:=⟨g,j,none⟩) this).trans (h.og j hj),
   fun j c hj hc=>by have:=lt_of_cell (h.ob j c hj hc).1;exact⟨(hb.cell (p:=⟨b j,c,none⟩) this).trans (h.ob j c hj hc).1,(frozen_below hb this).trans (h.ob j c hj hc).2⟩,
   fun j hj=>by obtain⟨⟨v,hv⟩,hf⟩:=h.rest j hj;have:=lt_of_cell hv;exact⟨⟨v,(hb.cell (p:=⟨g,j,none⟩) this).trans hv⟩,(frozen_below hb this).trans hf⟩⟩
theorem Pre.full (h:Pre w0 w g n n b cp):Own w0 w g n b cp (fun _ _=>0):=
 ⟨h.below,h.gb,h.bb,h.inj,h.ne,h.cap,fun j hj=>⟨h.og j hj,(h.rest j hj).2⟩,h.ob⟩
theorem Pre.add {bn cn:Nat} (h:Pre w0 w g n r b cp) (hr:r < n) (hb:Below w.heap.size w w1) (hR:Kd.R (Kd.int .i64) 2 w1 w.heap.size (fun _=>True) (.slice (some ⟨bn,0,none⟩) n cn) (List.replicate n 0)):
  Pre w0 (w1.setCell ⟨g,r,none⟩ (.slice (some ⟨bn,0,none⟩) n cn)) g n (r+1) (fun j=>if j=r then bn else b j) (fun j=>if j=r then cn else cp j):=by
 have h1:=h.step (Nat.le_of_lt hr) hb
 have hbn:w.heap.size≤bn:=Kd.R_base hR bn (by simp [Value.ownBlock])
 have hcn:=(Kd.R_reads' hR).2.1
 have hlt (j:Nat) (hj:j < r):b j < w.heap.size:=lt_of_cell (h.ob j 0 hj (by omega)).1
 have hg:g < w.heap.size:=by obtain⟨⟨v,hv⟩,_⟩:=h.rest r hr;exact lt_of_cell hv
 refine⟨h1.below.setCell h1.gb _,h1.gb,fun j hj=>?_,fun i j hi hj e=>?_,fun j hj=>?_,fun j hj=>?_,fun j hj=>?_,fun j c hj hc=>?_,fun j hj=>?_⟩
 ·show w0.heap.size≤if j=r then bn else b j
  split
  ·have:=h.below.size;omega
  ·exact h.bb j (by omega)
 ·by_cases ei:i=r <;> by_cases ej:j=r
  ·omega
  ·simp only [if_pos ei,if_neg ej] at e;have:=hlt j (by omega);omega
  ·simp only [if_neg ei,if_pos ej] at e;have:=hlt i (by omega);omega
  ·simp only [if_neg ei,if_neg ej] at e;exact h.inj i j (by omega) (by omega) e
 ·show (if j=r then bn else b j)≠g
  split
  ·omega
  ·exact h.ne j (by omega)
 ·show n≤if j=r then cn else cp j
  split
  ·exact hcn
  ·exact h.cap j (by omega)
 ·by_cases e:j=r
  ·subst e
   simp only [if_true]
   obtain⟨⟨v,hv⟩,_⟩:=h1.rest j hr
   exact cset_same hv
  ·simp only [if_neg e]
   rw [cset_other (by intro q;exact e (congrArg Addr.off q).symm)]
   exact h1.og j (by omega)
 ·rw [fset]
  by_cases e:j=r
  ·subst e
   simp only [if_true]
   have hat:=Kd.R_celln 0 hR (c:Int) (by omega) (by simp;omega)
   rw [Int.toNat_natCast] at hat
   rw [cset_other (by intro q;have:=congrArg Addr.block q;simp only at this;omega)]
   exact⟨by simpa [rdOf,hc] using hat.1,hat.2⟩
  ·simp only [if_neg e]
   rw [cset_other (by intro q;exact h.ne j (by omega) (congrArg Addr.block q).symm)]
   exact h1.ob j c (by omega) hc
 ·rw [fset]
  refine⟨?_,(h1.rest j hj).2⟩
  by_cases e:j=r
  ·subst e
   obtain⟨⟨v,hv⟩,_⟩:=h1.rest j hr
   exact⟨_,cset_same hv⟩
  ·rw [cset_other (by intro q;exact e (congrArg Addr.off q).symm)]
   exact(h1.rest j hj).1
theorem pre_of_S {ok:Nat→Prop} {v:Value} (h:SS w0 w ok v (List.replicate n [])) (hB:Below w0.heap.size w0 w) (hp:0 < n): ∃g cap,v= .slice (some ⟨g,0,none⟩) n cap∧n≤cap∧Pre w0 w g n 0 (fun _=>0) (fun _=>0):=by
 obtain⟨g,cap,rfl,hg0,hg1,cells,hgc⟩:=Kd.S_form h (by simpa using hp)
 have hrd:=Kd.S_reads' h
 rw [List.length_replicate] at hrd ⊢
 refine⟨g,cap,rfl,hrd.2.1,⟨hB,hg0,fun j hj=>by omega,fun i j hi=>by omega,fun j hj=>by omega,fun j hj=>by omega,fun j hj=>by omega,fun j c hj=>by omega,fun j hj=>⟨?_,blk_frozen hgc j⟩⟩⟩
 obtain⟨ad,A',c',e,hx,_⟩:=at_L2 hrd.2.2 (j:Int) (by omega) (by simp;omega)
 cases e
 rw [Int.toNat_natCast,add_off,Nat.zero_add] at hx
 exact⟨_,hx⟩
theorem R_keptC {ok:Nat→Prop} {A:Option Addr} {c base:Nat} {xs:List Int} {W:World} {m:Nat} (hR:Kd.R (Kd.int .i64) 2 w base ok (.slice A m c) xs) (hK:Kept w W (okB n b)) (hlt: ∀j,j < n→b j < base):Kd.C (Kd.int .i64) W A xs.length xs:=by
 have h2:=Kd.R_step (w1:=W) (Kd.R_bound hR) (fun k hk hlt2=>hK.2 k hlt2 (fun⟨j,hj,e⟩=>by have:=hlt j hj;have:=hk.2.1;omega))
 exact(Kd.R_reads' h2).2.2
end
def cM (cl:Nat→List Int) (i:Nat):Mat:=fun a d=>if d < i then(cl d).getD a 0 else 0
theorem cM_next (cl:Nat→List Int) (i n a d:Nat) (ha:a < n):pcol (cM cl i) i (cl i) n a d=cM cl (i+1) a d:=by
 unfold pcol cM
 by_cases e:d=i
 ·subst e;rw [if_pos ⟨rfl,ha⟩,if_pos (by omega)]
 ·rw [if_neg (by omega)]
  by_cases q:d < i
  ·rw [if_pos q,if_pos (by omega)]
  ·rw [if_neg q,if_neg (by omega)]
theorem columns_calls (k n:Nat) (s:Int) (cl:Nat→List Int) (A0:Option Addr) (c0:Nat) (M:List (List Int)) (A1:Option Addr) (c1:Nat) (Q:List Int) (w:World) (hr0:Kd.C (Kd.slice 2 (Kd.int .i64)) w A0 M.length M) (hc0:M.length≤c0) (hr1:Kd.C (Kd.int .i64) w A1 Q.length Q) (hc1:Q.length≤c1) (hQ:Q.length=n) (hp:0 < n) (hn:n≤1000)
  (hcl: ∀i,i < n→ ∃t,impl_has.f s (i:Int)=some t∧impl_Problem_column.f k M Q (i:Int) t=some (cl i)∧(cl i).length=n):
  Calls Try.prog 68 #[.agg #[.slice A0 M.length c0, .slice A1 Q.length c1], .int .i64 s] w fun e w'=> ∃(g cap:Nat) (b cp:Nat→Nat),e= .returned (.slice (some ⟨g,0,none⟩) n cap)∧n≤cap∧Own w w' g n b cp (cM cl n):=by
 have HR0:=q_ hr0;have HC0:=q_ hc0;have HR1:=q_ hr1;have HC1:=q_ hc1;have HQ:=q_ hQ;have HP:=q_ hp;have HN:=q_ hn;have HCL:=q_ hcl;have HB:=q_ (Below.refl w.heap.size w);clear hr0 hc0 hr1 hc1 hp hn hcl;rw [hQ];clear hQ;have hn0:(0:Int)≤(n:Int):=by omega
 go_enter Try.func68,Try.ntmps68
 go_wp2_with (first | ((with_reducible refine gate_dst (N:=2) rfl ?_);refine be_ 2 #[.slice A0 M.length c0, .slice A1 n c1] 27 ?_;intro gb hg w6 hbox hb;replace HB:=q_ (below_step HB.out hb);have BK:=q_ hbox;clear hb hbox hg;have hcz0:=cz_ BK 0;have hcz1:=cz_ BK 1) | ((with_reducible refine gate_dst (N:=13) rfl ?_);refine Kd.S_make (Kd.slice 2 (Kd.int .i64)) w.heap.size 25 rfl (N:=13) rfl 24 _ _ rfl (n:Int) rfl rfl Try.underlying24 (.slice none 0 0) 24 info25 rfl (by decide) (by omega) [] (ok:=fun _=>True) (okp:=fun _=>True) ⟨_,rfl,Kd.R_nil _ _ _ _ _⟩ (fun _ hk=>hk) trivial hn0 (by have:=HN.out;omega) HB.out HB.out.size ?_;intro v13 w7 ho hb hg hat;have n0_:=q_ ho;have n1_:=q_ (blk_grown BK.out hg (by simp));have aa:=BK;clear HB BK hcz0 hcz1;have HS:=n0_;have BK:=n1_;have HB:=q_ hb;have HGN:Aside0 (∀k,v13.ownBlock=some k→gb < k):=⟨fun k hk=>by obtain⟨b_,hb_,hl_⟩:=hat;rw [hb_] at hk;injection hk with hk;have:=blk_lt aa.out;omega⟩;clear aa n0_ n1_ ho hb hg hat))
 obtain⟨g,cap,rfl,hcap,hpre⟩:=pre_of_S (by simpa using HS.out) HB.out HP.out;have HPRE:=q_ hpre;have HCAP:=q_ hcap;have HGB:Aside0 (gb < g):=⟨by have:=HGN.out g (by simp [Value.ownBlock]);omega⟩
 clear HS hcap hpre HGN;go_wp2
 go_loopg [16] n (fun gg v16 wr=> ∃(r:Nat) (b cp:Nat→Nat),r≤n∧n - r≤gg∧v16= .int .i64 (r:Int)∧Aside0 (Pre w wr g n r b cp)∧Aside0 (∀j,j < r→gb < b j)∧Aside0 (wr.heap[gb]?=some (.cells #[.slice A0 M.length c0, .slice A1 n c1] 27 (0,0))))
 case atStart=>exact⟨0,_,_,Nat.zero_le _,by omega,rfl,HPRE,⟨fun j hj=>by omega⟩,BK⟩
 case round=>
  clear HPRE BK HB;obtain⟨r,b,cp,hr,hg,rfl,HPRE,HGJ,BK⟩:=hrel;have HR:=q_ hr;have HG:=q_ hg
  by_cases hlt:r < n
  ·have hltz:(r:Int) < (n:Int):=by omega
   have h0z:(0:Int)≤(r:Int):=by omega
   have HLT:=q_ hlt;have hr1:IntKind.i64.wrap ((r:Int)+1)=((r+1:Nat):Int):=by rw [IntWalk.i64_in _ (by have:=HN.out;omega)];rfl
   have HR1:=q_ hr1;clear hlt hr hg
   go_wp2_with (first | ((with_reducible refine gate_dst (N:=22) rfl ?_);refine Kd.R_make (w0:=wr) (Kd.int .i64) wr.heap.size 2 rfl (N:=22) rfl 25 _ _ rfl (n:Int) rfl rfl Try.underlying25 (.int .i64 0) 8 info2 rfl (by decide) (by decide) 0 (ok:=fun _=>True) (okp:=fun _=>True) rfl (fun _ hk=>hk) trivial hn0 (by have:=HN.out;omega) (Below.refl _ _) (Nat.le_refl _) ?_;intro v22 w8 ho hb hg2 hat;obtain⟨bn,cn,rfl,hbn1,hbn2,cells,hbc⟩:=Kd.R_form ho (by have:=HP.out;simp;omega);simp only [Int.toNat_natCast,List.length_replicate] at ho ⊢;have HADD:=q_ (HPRE.out.add HLT.out hb ho);have hcg:=(((HPRE.out.step (Nat.le_of_lt HLT.out) hb).rest r HLT.out).1);have hfr:=(((HPRE.out.step (Nat.le_of_lt HLT.out) hb).rest r HLT.out).2);obtain⟨vg,hcg⟩:=hcg;have HBN:Aside0 (wr.heap.size≤bn):=⟨hbn1⟩;have n1_:=q_ (blk_below BK.out hb);have HGBW:=q_ (blk_lt BK.out);clear BK HPRE;have BK:=n1_;clear n1_ ho hb hg2 hat hbn1 hbn2 hbc))
   go_roundg (n - (r+1))
   case measure=>have:=HG.out;have:=HLT.out;omega
   case rel=>
    refine⟨r+1,_,_,by have:=HLT.out;omega,by omega,by first | rfl | (rw [HR1.out]) | (simp [HR1.out]),HADD,⟨fun j hj=>?_⟩,⟨?_⟩⟩
    ·show gb < if j=r then bn else b j
     split
     ·have:=HBN.out;have:=HGBW.out;omega
     ·exact HGJ.out j (by omega)
    ·exact(Below.heap_setCell _ _ _ gb (by have:=HGB.out;simp;omega)).trans BK.out
  ·have hltz: ¬ (r:Int) < (n:Int):=by omega
   obtain rfl:r=n:=by omega
   have HO:=q_ (HPRE.out.full);have HO:=q_ (HO.out.congr (M':=cM cl 0) (fun a d _ _=>by simp [cM]));clear HPRE hr hg;go_wp2
   go_loopg [26] r (fun gg v26 w4=> ∃i:Nat,i≤r∧r - i≤gg∧v26= .int .i64 (i:Int)∧Aside0 (Own w w4 g r b cp (cM cl i))∧Aside0 (w4.heap[gb]?=some (.cells #[.slice A0 M.length c0, .slice A1 r c1] 27 (0,0))))
   case atStart=>exact⟨0,Nat.zero_le _,by omega,rfl,HO,BK⟩
   case round=>
    clear HO BK;obtain⟨i,hi,hg2,rfl,HO,BK⟩:=hrel;have HG2:=q_ hg2
    by_cases hin:i < r
    ·have hiz:(i:Int) < (r:Int):=by omega
     have h0i:(0:Int)≤(i:Int):=by omega
     have HIN:=q_ hin;have hi1:IntKind.i64.wrap ((i:Int)+1)=((i+1:Nat):Int):=by rw [IntWalk.i64_in _ (by have:=HN.out;omega)];rfl
     have HI1:=q_ hi1;obtain⟨th,hth,hcol,hclen⟩:=HCL.out i hin;have HTH:=q_ hth;have HCOLF:=q_ hcol;have HCLEN:=q_ hclen;replace HO:=q_ (HO.out.step (below_drew (Below.refl wr.heap.size wr)));replace BK:=q_ (blk_drew BK.out);have hcz0:wr.drew.cell? ⟨gb,0,none⟩=some (.slice A0 M.length c0):=(blk_cell BK.out 0).trans rfl;have hcz1:wr.drew.cell? ⟨gb,1,none⟩=some (.slice A1 r c1):=(blk_cell BK.out 1).trans rfl;go_wp2
     refine st_ (n:=9) (S:=fun w'=>w'.cell? ⟨gb,0,none⟩=some (.slice A0 M.length c0)∧w'.cell? ⟨gb,1,none⟩=some (.slice A1 r c1)) (ds:= []) ⟨hcz0,hcz1⟩ (fun hHeld=>?_)
     generalize wr.drew=w9 at HO BK hcz0 hcz1 hHeld ⊢
     refine pu_ 0 29 ?_;refine pu_ 1 30 ?_;refine tk_ 2 31 ?_;refine pu_ 3 32 ?_;refine pu_ 4 33 ?_;refine pu_ 5 34 ?_
     refine on_ 6 (some 35) (fun K hK=>?_)
     refine goes_ Try.func73 (by kernel_rfl) rfl #[.int .i64 s, .int .i64 (i:Int)] (by rfl) rfl rfl (by(try simp only [List.map_toArray,List.map_cons,List.map_nil]);first | done | rfl) ?_
     refine(impl_has.calls s (i:Int) th _ HTH.out).mono ?_
     rintro e w5 ⟨rfl,hd5⟩;refine⟨_,rfl,?_⟩
     replace HO:=q_ (HO.out.step hd5.below);replace BK:=q_ (blk_below BK.out hd5.below);clear hd5 hHeld hcz0 hcz1;refine hK.out _ _ ⟨(blk_cell BK.out 0).trans rfl,(blk_cell BK.out 1).trans rfl⟩ (fun hHeld=>?_)
     clear hK K;refine norm_ (a':=?_) ?_ ?_
     rotate_left
     ·show Act.put _ (some 35) _=_
      simp only [Act.put,List.setIfInBounds_toArray,List.set_cons_zero,List.set_cons_succ,i64_w,i32_w]
      rfl
     refine on_ 7 (some 36) (fun K hK=>?_)
     refine goes_ Try.func87 (by kernel_rfl) rfl #[.agg #[.slice A0 M.length c0, .slice A1 r c1], .int .i64 (i:Int), .bool th] (by rfl) rfl rfl (by(try simp only [List.map_toArray,List.map_cons,List.map_nil]);first | done | rfl) ?_
     have hcc:=impl_Problem_column.calls k A0 c0 M A1 c1 Q (i:Int) th (cl i) w5 (Kd.C_below HR0.out HO.out.below) HC0.out (Kd.C_below HR1.out HO.out.below) HC1.out HCOLF.out;rw [HQ.out] at hcc;refine hcc.mono ?_
     clear hcc;rintro e w6' ⟨vc,rfl,hRc,hb6⟩;obtain⟨Ac,cc,rfl⟩:=Kd.R_slice hRc;refine⟨_,rfl,?_⟩
     have HRC:=q_ hRc;have HBL:Aside0 (∀j,j < r→b j < w5.heap.size):=⟨fun j hj=>lt_of_cell (HO.out.ob j i hj HIN.out).1⟩
     replace HO:=q_ (HO.out.step hb6);replace BK:=q_ (blk_below BK.out hb6);clear hb6 hHeld hRc;refine hK.out _ _ ⟨(blk_cell BK.out 0).trans rfl,(blk_cell BK.out 1).trans rfl⟩ (fun hHeld=>?_)
     clear hK K;refine norm_ (a':=?_) ?_ ?_
     rotate_left
     ·show Act.put _ (some 36) _=_
      simp only [Act.put,List.setIfInBounds_toArray,List.set_cons_zero,List.set_cons_succ,i64_w,i32_w]
      rfl
     refine on_ 8 (some 37) (fun K hK=>?_)
     refine goes_ Try.func86 (by kernel_rfl) rfl #[.slice (some ⟨g,0,none⟩) r cap, .int .i64 (i:Int), .slice Ac (cl i).length cc] (by rfl) rfl rfl (by(try simp only [List.map_toArray,List.map_cons,List.map_nil]);first | done | rfl) ?_
     refine(putO (w0:=w) i HIN.out cap Ac cc (cl i) HO.out HN.out (by rw [HCLEN.out];exact Nat.le_refl _) (fun W hK hB=>R_keptC HRC.out hK HBL.out)).mono ?_
     rintro e w7' ⟨rfl,hO7,hK7⟩;refine⟨_,rfl,?_⟩
     replace HO:=q_ (hO7.congr (M':=cM cl (i+1)) (fun a d ha _=>cM_next cl i r a d ha));replace BK:=q_ (blk_kept BK.out hK7 (fun⟨j,hj,e⟩=>by have:=HGJ.out j hj;omega));clear hK7 hO7 hHeld;refine hK.out _ _ ⟨(blk_cell BK.out 0).trans rfl,(blk_cell BK.out 1).trans rfl⟩ (fun hHeld=>?_)
     clear hK K;refine norm_ (a':=?_) ?_ ?_
     rotate_left
     ·show Act.put _ (some 37) _=_
      simp only [Act.put,List.setIfInBounds_toArray,List.set_cons_zero,List.set_cons_succ,i64_w,i32_w]
      rfl
     refine done_ (by kernel_rfl) ?_
     go_wp2
     go_roundg (r - (i+1))
     case measure=>have:=HG2.out;have:=HIN.out;omega
     case rel=>exact⟨i+1,by have:=HIN.out;omega,by omega,by first | rfl | (rw [HI1.out]) | (simp [HI1.out]),HO,BK⟩
    ·have hiz: ¬ (i:Int) < (r:Int):=by omega
     obtain rfl:i=r:=by omega
     go_wp2
     go_ret
     exact⟨g,cap,rfl,HCAP.out,b,cp,HO.out⟩
end Go.Proofs.Ytbjljcpngbhkeaa.Hd
end
section
namespace Go.Proofs.Ytbjljcpngbhkeaa.Bd
open Go.RowKit Go.Proofs.YtbjljcpngbhkeaaW.PrintWords Go.Proofs.YtbjljcpngbhkeaaW.PrintMore Go.Proofs.Ytbjljcpngbhkeaa.Ma Go.Proofs.Ytbjljcpngbhkeaa.Dt
def ev (M:Mat) (i:Nat) (last:Int) (r c:Nat):Int:=wrap64 (Int.tdiv (wrap64 (wrap64 (M r c*M i i) - wrap64 (M r i*M i c))) last)
def mid (M:Mat) (i:Nat) (last:Int) (r c:Nat):Mat:=fun a b=>if i≤b∧i < a∧(a < r∨a=r∧b < c) then ev M i last a b else M a b
def el (M:Mat) (i:Nat) (last:Int):Mat:=fun a b=>if i≤b∧i < a then ev M i last a b else M a b
def fnd (M:Mat) (i:Nat):Nat→Nat→Option Nat
 | 0,_=>none
 | q+1,k=>if M (i+k) i≠0 then some k else fnd M i q (k+1)
def swp (M:Mat) (r q:Nat):Mat:=fun j=>M (if j=r then q else if j=q then r else j)
def dgo (n:Nat):Nat→Nat→Mat→Int→Int→Int
 | 0,_,_,last,turn=>wrap64 (turn*last)
 | q+1,i,M,last,turn=>match fnd M i (n - i) 0 with
  | none=>0
  | some 0=>dgo n q (i+1) (el M i last) (M i i) turn
  | some (k+1)=>dgo n q (i+1) (el (swp M i (i+(k+1))) i last) (swp M i (i+(k+1)) i i) (wrap64 (-turn))
theorem fnd_some {M:Mat} {i:Nat}: ∀ {q k j:Nat},fnd M i q k=some j→k≤j∧j < k+q∧M (i+j) i≠0∧ ∀t,k≤t→t < j→M (i+t) i=0
 | 0,_,_,h=>by cases h
 | q+1,k,j,h=>by
  unfold fnd at h
  by_cases c:M (i+k) i≠0
  ·rw [if_pos c] at h
   cases h
   exact⟨Nat.le_refl _,by omega,c,fun t h1 h2=>by omega⟩
  ·rw [if_neg c] at h
   obtain⟨h1,h2,h3,h4⟩:=fnd_some h
   refine⟨by omega,by omega,h3,fun t h5 h6=>?_⟩
   by_cases e:t=k
   ·subst e;exact Decidable.not_not.1 c
   ·exact h4 t (by omega) h6
theorem fnd_none {M:Mat} {i:Nat}: ∀ {q k:Nat},fnd M i q k=none→ ∀t,k≤t→t < k+q→M (i+t) i=0
 | 0,_,_,t,h1,h2=>by omega
 | q+1,k,h,t,h1,h2=>by
  unfold fnd at h
  by_cases c:M (i+k) i≠0
  ·rw [if_pos c] at h;cases h
  ·rw [if_neg c] at h
   by_cases e:t=k
   ·subst e;exact Decidable.not_not.1 c
   ·exact fnd_none h t (by omega) (by omega)
theorem mid_start (M:Mat) (i:Nat) (last:Int) (a b:Nat):mid M i last (i+1) i a b=M a b:=by unfold mid;rw [if_neg (by omega)]
theorem mid_row (M:Mat) (i:Nat) (last:Int) {n:Nat} (r a b:Nat) (hb:b < n):mid M i last r n a b=mid M i last (r+1) i a b:=by
 unfold mid
 by_cases c:i≤b∧i < a∧(a < r∨a=r∧b < n)
 ·rw [if_pos c,if_pos (by omega)]
 ·rw [if_neg c,if_neg (by omega)]
theorem mid_end (M:Mat) (i:Nat) (last:Int) {n:Nat} (a b:Nat) (ha:a < n):mid M i last n i a b=el M i last a b:=by
 unfold mid el
 by_cases c:i≤b∧i < a
 ·rw [if_pos c,if_pos (by omega)]
 ·rw [if_neg c,if_neg (by omega)]
theorem mid_next (M:Mat) (i:Nat) (last:Int) (r c:Nat) (hr:i < r) (hc:i≤c) (a b:Nat):(if a=r∧b=c then ev M i last r c else mid M i last r c a b)=mid M i last r (c+1) a b:=by
 unfold mid
 by_cases e:a=r∧b=c
 ·obtain⟨rfl,rfl⟩:=e
  rw [if_pos ⟨rfl,rfl⟩,if_pos (by omega)]
 ·rw [if_neg e]
  by_cases q:i≤b∧i < a∧(a < r∨a=r∧b < c)
  ·rw [if_pos q,if_pos (by omega)]
  ·rw [if_neg q,if_neg (by omega)]
theorem mid_head (M:Mat) (i:Nat) (last:Int) (r c b:Nat):mid M i last r c i b=M i b:=by unfold mid;rw [if_neg (by omega)]
theorem mid_at (M:Mat) (i:Nat) (last:Int) (r c b:Nat) (h:c≤b):mid M i last r c r b=M r b:=by unfold mid;rw [if_neg (by omega)]
end Go.Proofs.Ytbjljcpngbhkeaa.Bd
end
section
namespace Go.Proofs.Ytbjljcpngbhkeaa.Pr
open Go Go.RowKit Go.Proofs.YtbjljcpngbhkeaaW.PrintWords Go.Proofs.YtbjljcpngbhkeaaW.PrintLast Go.Proofs.YtbjljcpngbhkeaaW.PrintMore
theorem run_eql_slice_nil {P:Program} (w:World) (t e:TypeId) (a:Option Addr) (l c:Nat) (h:P.underlying t=some (.slice e)):(binOp .eql t (.slice a l c) (.slice none 0 0)).run P w= .ok (.bool a.isNone) w:=by
 simp only [binOp]
 simp [run_equal_slice_nil w t e a l c h]
def slices_Clone.f (l0:List Int):Option (List Int):=if l0.length≤1099511627776 then some l0 else none
theorem slices_Clone.calls (A0:Option Addr) (c0:Nat) (l0:List Int) (r:List Int) (w:World) (hr0:Kd.C (Kd.int .i64) w A0 l0.length l0) (hc0:l0.length≤c0) (h:slices_Clone.f l0=some r):
  Calls Try.prog 97 #[.slice A0 l0.length c0] w fun e w'=> ∃v0_:Value,e= .returned (v0_)∧Kd.R (Kd.int .i64) 2 w' w.heap.size (fun _=>True) v0_ r∧Below w.heap.size w w':=by
 unfold slices_Clone.f at h
 split at h
 case isFalse=>cases h
 rename_i hl
 cases h
 have hu:=Try.underlying25;have HR:=q_ hr0;have HL:=q_ hl;clear hc0 hl;cases A0 with
 | none=>
  have h0:l0= []:=by
   cases l0 with
   | nil=>rfl
   | cons a t=>obtain⟨ad,e,_⟩:=Kd.at_int hr0 0 (by simp) (by simp);cases e
  subst h0;clear hr0 HR;have he:=run_eql_slice_nil (P:=Try.prog) w 25 2 none 0 c0 hu
  go_enter Try.func97,Try.ntmps97
  go_wp2
  go_ret
  exact⟨_,rfl,Kd.R_nil _ _ _ _ _,Below.refl _ _⟩
 | some ad=>
  clear hr0;have he:=run_eql_slice_nil (P:=Try.prog) w 25 2 (some ad) l0.length c0 hu
  go_enter Try.func97,Try.ntmps97
  go_wp2_with (first | ((with_reducible refine gate_dst (N:=5) rfl ?_);refine Kd.R_lit (Kd.int .i64) _ 2 ?hg (N:=5) ?hd (xs:=([]:List Int)) (inner:= []) (ok:=fun _=>True) (okp:=fun _=>True) ?hr ?hp (fun _ hk=>hk) trivial (Below.refl _ _) (Nat.le_refl _) (by simp) ?_;(case hd=>rfl);(case hg=>rfl);(case hr=>first | (go_simp;done) | (go_simp;rfl));(case hp=>exact(Reps.none _ _));intro v1 w1 ho hb hg_ hat_;clear hg_ hat_;have HO:=q_ ho;have HB:=q_ hb;clear ho hb) | ((with_reducible refine gate_dst (N:=7) rfl ?_);(refine Kd.R_append_row (Value.int .i64) 0 (w0:=w) w.heap.size rfl (.tmp 5) (.tmp 6) 25 2 (.int .i64 0) 8 rfl Try.underlying25 info2 rfl (by decide) v1 [] l0 (some ad) l0.length c0 (fun _=>True) (by rfl) (by rfl) (fun _ _=>trivial) HO.out (Kd.C_below HR.out HB.out) HB.out HB.out.size (by have:=HL.out;simp;omega) ?_;intro v2 w2 ho hb hg_ hat_;clear hg_ hat_;have aa:=q_ ho;have HB2:=q_ hb;clear ho hb)))
  go_ret
  exact⟨_,rfl,aa.out,HB2.out⟩
end Go.Proofs.Ytbjljcpngbhkeaa.Pr
end
section
namespace Go.Proofs.Ytbjljcpngbhkeaa.Pr
open Go.RowKit Go.Proofs.YtbjljcpngbhkeaaW.PrintWords Go.Proofs.YtbjljcpngbhkeaaW.PrintLast Go.Proofs.YtbjljcpngbhkeaaW.PrintMore
attribute [local go_sem] max2_int min2_int max_two min_two max_three min_three max_four min_four
def impl_copyRows.l0:Nat→List (List Int)→List (List Int)→Int→Int→Option ((List (List Int)))
 | 0,_,_,_,_=>none
 | k+1,x3,x6,x7,x8=>if x8 < x7 then(if 0≤x8 then(if x8 < (x6.length:Int) then((slices_Clone.f (rd_L2 x6 x8)).bind fun aa=>(if x3.length < 5864062014805 then(impl_copyRows.l0 k (x3++ [aa]) x6 x7 (wrap64 (x8+1))) else(none))) else(none)) else(none)) else(some x3)
def impl_copyRows.f (k:Nat) (l0:List (List Int)):Option ((List (List Int))):=impl_copyRows.l0 k ([]:List (List Int)) l0 (l0.length:Int) 0
theorem impl_copyRows.mono_l: ∀k,(∀y0 y1 y2 y3,LeO (impl_copyRows.l0 k y0 y1 y2 y3) (impl_copyRows.l0 (k+1) y0 y1 y2 y3))
 | 0=>fun _ _ _ _ r h=>by simp [impl_copyRows.l0] at h
 | k+1=>by
  have ih0:=impl_copyRows.mono_l k
  intros;unfold impl_copyRows.l0;repeat' first | (with_reducible first | exact ih0 _ _ _ _ | exact LeO.refl _ | exact LeO.none _ | refine LeO.ite ?_ ?_ | refine LeO.bind ?_ (fun _=>?_)) | exact ih0 _ _ _ _ | exact LeO.none _ | refine LeO.ite ?_ ?_ | refine LeO.bind ?_ (fun _=>?_)
theorem impl_copyRows.mono: ∀a0 k,LeO (impl_copyRows.f k a0) (impl_copyRows.f (k+1) a0):=by
 intro a0 k
 have ih0:=impl_copyRows.mono_l k
 unfold impl_copyRows.f
 repeat' first | (with_reducible first | exact ih0 _ _ _ _ | exact LeO.refl _ | exact LeO.none _ | refine LeO.ite ?_ ?_ | refine LeO.bind ?_ (fun _=>?_)) | exact ih0 _ _ _ _ | exact LeO.none _ | refine LeO.ite ?_ ?_ | refine LeO.bind ?_ (fun _=>?_)
theorem impl_copyRows.calls (k:Nat) (A0:Option Addr) (c0:Nat) (l0:List (List Int)) (r:List (List Int)) (w:World) (hr0:Kd.C (Kd.slice 2 (Kd.int .i64)) w A0 l0.length l0) (hc0:l0.length≤c0) (h:impl_copyRows.f k l0=some r):
  Calls Try.prog 83 #[.slice A0 l0.length c0] w fun e w'=> ∃v0_:Value,e= .returned (v0_)∧Kd.S (Kd.slice 2 (Kd.int .i64)) 25 w' w.heap.size (fun _=>True) v0_ r∧Below w.heap.size w w':=by
 have HR0:=q_ hr0;have HC0:=q_ hc0;clear hr0 hc0;have HB:=q_ (Below.refl w.heap.size w);have H:(impl_copyRows.l0 k ([]:List (List Int)) l0 (l0.length:Int) 0)=some r:=h;clear h;have H':=q_ H;clear H
 go_enter Try.func83,Try.ntmps83
 go_wp2
 go_loopg [3,8] k (fun kq v3 v8 w'=> ∃(ae:List (List Int)) (aa:Int),v8= .int .i64 aa∧Aside0 (impl_copyRows.l0 kq ae l0 (l0.length:Int) aa=some r)∧Aside0 (kq≤k)∧Aside0 (Kd.S (Kd.slice 2 (Kd.int .i64)) 25 w' w.heap.size (fun _=>True) v3 ae)∧Aside0 (Below w.heap.size w w'))
 case atStart=>exact⟨(([]:List (List Int))),(0),rs_,H',⟨Nat.le_refl _⟩,⟨by first | exact Kd.S_nil _ _ _ _ _ | exact Kd.N_nil _ _ _ _ _ | exact Kd.V_nil _ _ _ _ _ | exact Kd.Q_nil _ _ _ _ _ | exact Kd.R_nil _ _ _ _ _⟩,⟨hb_⟩⟩
 case round=>
  clear H';obtain⟨ae,aa,rfl,HA,HK1,af,HB⟩:=hrel;cases gk with
  | zero=>exact absurd HA.out (by simp [impl_copyRows.l0])
  | succ k1=>
   have H:=HA.out;clear HA;simp only [impl_copyRows.l0] at H
   by_cases c2:aa < (l0.length:Int)
   ·rw [if_pos c2] at H;have c2b0:=decide_eq_true c2;clear c2
    by_cases c3:0≤aa
    ·rw [if_pos c3] at H;have c3b0:=decide_eq_true c3;clear c3
     by_cases c4:aa < (l0.length:Int)
     ·rw [if_pos c4] at H;have c4b0:=decide_eq_true c4;clear c4;replace H:=Option.bind_eq_some_iff.mp H;obtain⟨ag,A50,H⟩:=H;replace H:(if ae.length < 5864062014805 then(impl_copyRows.l0 k1 (ae++ [ag]) l0 (l0.length:Int) (wrap64 (aa+1))) else(none))=some r:=H;have A5:=q_ A50;clear A50
      by_cases c6:ae.length < 5864062014805
      ·rw [if_pos c6] at H;have az:=q_ c6;clear c6;obtain⟨ai,hy⟩: ∃y_:List (List Int),y_=(ae++ [ag]):=⟨_,rfl⟩
       replace H:(impl_copyRows.l0 k1 ai l0 (l0.length:Int) (wrap64 (aa+1)))=some r:=hh_;have aq:=q_ hy;clear hy;have H':=q_ H;clear H;have p224:0≤(aa:Int):=od_;have q224:aa < (l0.length:Int):=od_;obtain⟨aC,aj,ak,e224,hx224_0,hl224_0,hi224_0⟩:=at_L2 HR0.out aa p224 q224;cases e224
       replace hx224_0:=(HB.out.cell (World.block_lt_of_cell? w _ hx224_0)).trans hx224_0;have HR224_0:=q_ hi224_0;have HC224_0:=q_ hl224_0;clear hi224_0 hl224_0;replace p224:=eq_true p224;replace q224:=eq_true q224
       go_wp2_with (first | ((with_reducible refine gate_callee (f:=97) rfl ?_);refine gL_ 14 Try.func97 #[.slice aj (rd_L2 l0 aa).length ak] ?_;(with_reducible refine(slices_Clone.calls _ _ (rd_L2 l0 aa) ag _ ?au ?av A5.out).mono ?_);(case au=>exact cb_ HR224_0.out HB.out);(case av=>exact HC224_0.out);rintro e w7 ⟨aD,rfl,ho0,hb⟩;refine⟨_,rfl,?_⟩;replace af:=q_ (Kd.S_elder' (so_ af.out) (Kd.R_base ho0) hb);have ah:=q_ (Kd.R_lower ho0 bz_);replace HB:=q_ (bs_ hb);(try clear hb);(try clear hk);(try clear ho0);obtain⟨ax,ay,aA⟩:=Kd.R_slice ah.out;subst aA) | ((with_reducible refine gate_builtin (b:= .append) (xs:= #[.tmp 12, .tmp 15]) rfl ?_);at_builtin;refine Kd.S_append (Kd.slice 2 (Kd.int .i64)) (w0:=w) w.heap.size rfl (.tmp 12) (.tmp 15) 24 25 (.slice none 0 0) 24 rfl Try.underlying24 info25 rfl (by decide) (by omega) u3 ae ag [.slice ax ag.length ay] (fun _=>True) (fun k_=>some k_=(.slice ax ag.length ay:Value).ownBlock) rfl rfl ?aP (fun k_ hk_=>((Kd.R_mono (ok':=fun k_=>((fun _=>True)) k_∧some k_≠(u3:Value).ownBlock) (Kd.R_apart' (ah.out) (Kd.S_typed af.out) (by decide)) (fun k_ hk=>⟨trivial,hk.2⟩))).1 k_ hk_.symm) ?aF ?aO ?aB ?aS ?aL ?_;(case aP=>exact Kd.M_row (Kd.R_mono (Kd.R_tight rfl (Kd.R_mono (ok':=fun k_=>((fun _=>True)) k_∧some k_≠(u3:Value).ownBlock) (Kd.R_apart' (ah.out) (Kd.S_typed af.out) (by decide)) (fun k_ hk=>⟨trivial,hk.2⟩))) (fun _ h_=>h_)));(case aB=>exact hb_);(case aF=>exact(fun _ _=>trivial));(case aO=>exact(by(with_reducible repeat (first | apply Kd.S_alloc | apply Kd.S_drewN | apply Kd.S_drew));exact Kd.S_mono af.out (fun k_ hk=>⟨trivial,fun e_=>hk.2 e_⟩)));(case aS=>exact bz_);(case aL=>have:=az.out;omega);intro aG w8 ho hb hg hat;rw [← aq.out] at ho;replace HB:=q_ (hb);have aw:=q_ (ho);clear af ah ho hb hg hat))
       go_roundg k1
       case measure=>have:=HK1.out;omega
       case rel=>exact⟨(ai),(wrap64 (aa+1)),rs_,H',⟨by have:=HK1.out;omega⟩,⟨so_ aw.out⟩,⟨hb_⟩⟩
      ·rw [if_neg c6] at H;exact absurd H (by simp)
     ·rw [if_neg c4] at H;exact absurd H (by simp)
    ·rw [if_neg c3] at H;exact absurd H (by simp)
   ·rw [if_neg c2] at H;have c2b0:=decide_eq_false c2;clear c2;obtain rfl:=Option.some.inj H;go_wp2
    go_ret
    exact⟨_,by first | rfl | (simp [errW_none,errW_some] <;> rfl) | (simp [*,errW_none,errW_some] <;> rfl),so_ af.out,hb_⟩
end Go.Proofs.Ytbjljcpngbhkeaa.Pr
end
section
namespace Go.Proofs.Ytbjljcpngbhkeaa.Cp
open Go.RowKit Go.Proofs.YtbjljcpngbhkeaaW.PrintWords Go.Proofs.YtbjljcpngbhkeaaW.PrintMore Go.Proofs.Ytbjljcpngbhkeaa.Ma Go.Proofs.Ytbjljcpngbhkeaa.Pr
theorem copy_eq (l:List (List Int)) (hl:l.length≤1000) (hr: ∀x ∈ l,x.length≤1099511627776):Ev (fun k=>impl_copyRows.f k l) l:=by
 have key: ∀q i,i+q=l.length→Ev (fun k=>impl_copyRows.l0 k (l.take i) l (l.length:Int) i) l:=by
  intro q
  induction q with
  | zero=>
   intro i hi
   rw [List.take_of_length_le (by omega)]
   exact evstep (fun k=>by rw [impl_copyRows.l0]) (evneg (by omega) (evc rfl))
  | succ q ih=>
   intro i hi
   have hlt:i < l.length:=by omega
   have e:rd_L2 l (i:Int)=l[i]:=by simp [rd_L2,hlt]
   have hri:=hr l[i] (List.getElem_mem hlt)
   have h:=ih (i+1) (by omega)
   rw [List.take_succ_eq_append_getElem hlt] at h
   refine evstep (fun k=>by rw [impl_copyRows.l0]) (evpos (by omega) (evpos (by omega) (evpos (by omega) ?_)))
   rw [e]
   refine evsome (a:=l[i]) (by unfold slices_Clone.f;rw [if_pos hri]) (evpos (by rw [List.length_take];omega) ?_)
   rw [w64 (x:=(i:Int)+1) (by omega) (by omega)]
   exact h
 exact key l.length 0 (by omega)
end Go.Proofs.Ytbjljcpngbhkeaa.Cp
end
section
namespace Go.Proofs.Ytbjljcpngbhkeaa.Pr
open Go.RowKit Go.Proofs.YtbjljcpngbhkeaaW.PrintWords Go.Proofs.YtbjljcpngbhkeaaW.PrintLast Go.Proofs.YtbjljcpngbhkeaaW.PrintMore
def RowsPred (g:Nat) (lb:Array Value) (p:List Int→Bool) (w:World) (l:List (List Int)):Prop:=
 ∀(W:World) (A:Option Addr) (c:Nat) (x:List Int),x ∈ l→Below w.heap.size w W→x.length≤c→Kd.C (Kd.int .i64) W A x.length x→Calls Try.prog g (#[.slice A x.length c]++lb) W fun e w'=>e= .returned (.bool (p x))∧Below W.heap.size W w'
theorem indexFuncRows (p:List Int→Bool) (g:Nat) (lb:Array Value) (eg: ∀args w,(callFunc g args).run Try.prog w= .ok (.enter g args) w) (A:Option Addr) (c:Nat) (l:List (List Int)) (w:World)
  (hr:Kd.C (Kd.slice 2 (Kd.int .i64)) w A l.length l) (hp:RowsPred g lb p w l):
  Calls Try.prog 84 #[.slice A l.length c, .func (.func g) #[] lb] w fun e w'=>e= .returned (.int .i64 (idxP p l 0))∧Below w.heap.size w w':=by
 have HR:=q_ hr;have HP:=q_ hp;have hbig:l.length≤9223372036854775807:=hr.2.1;clear hr hp
 go_enter Try.func84,Try.ntmps84
 go_wp2
 go_loopg [5,8] l.length (fun gg _ s8 wr=> ∃kk:Nat,kk≤l.length∧l.length - kk≤gg∧s8= .int .i64 kk∧Aside0 (Below w.heap.size w wr)∧Aside0 (∀j (hj:j < l.length),j < kk→p l[j]=false))
 case atStart=>exact⟨0,Nat.zero_le _,by omega,rfl,⟨Below.refl _ w⟩,⟨fun j _ hj=>absurd hj (Nat.not_lt_zero _)⟩⟩
 case round=>
  obtain⟨kk,hkk,hg,rfl,BW,F⟩:=hrel
  by_cases hlt:kk < l.length
  ·obtain⟨ad,A',c',e,hx,hc',hi⟩:=at_L2 HR.out kk (by omega) (by omega);cases e
   rw [Int.toNat_natCast] at hx;have hx':=(BW.out.cell (World.block_lt_of_cell? w _ hx)).trans hx;clear hx;have hel:rd_L2 l (kk:Int)=l[kk]:=by simp [rd_L2,hlt]
   have hcall:=HP.out wr A' c' l[kk] (List.getElem_mem hlt) BW.out (by rw [← hel];exact hc') (by rw [← hel];exact Kd.C_below hi BW.out);rw [hel] at hx' hc' hi;have HI:=q_ hi;have HC:=q_ hc';clear hi hc' hel;have hltz:(kk:Int) < (l.length:Int):=by omega
   have h0z:(0:Int)≤(kk:Int):=by omega
   generalize hy:l[kk]=y at hx' hcall HI HC
   have HY:=q_ hy;clear hy;cases hq:p y with
   | true=>
    rw [hq] at hcall;have HQ:=q_ hq;clear hq
    go_wp2_with fail
    refine hcall.mono ?_
    rintro e w' ⟨rfl,hb'⟩;clear hcall;go_wp2
    go_ret
    refine⟨?_,Below.trans BW.out (hb'.mono BW.out.size)⟩
    rw [idxP_hit p l kk hlt F.out (by rw [HY.out];exact HQ.out)]
    rfl
   | false=>
    rw [hq] at hcall;have HQ:=q_ hq;clear hq
    go_wp2_with fail
    refine hcall.mono ?_
    rintro e w' ⟨rfl,hb'⟩;clear hcall;go_wp2
    go_roundg (l.length - (kk+1))
    case measure=>omega
    case rel=>
     refine⟨kk+1,by omega,by omega,by go_num,⟨Below.trans BW.out (hb'.mono BW.out.size)⟩,⟨fun j hj hjk=>?_⟩⟩
     by_cases e:j=kk
     ·subst e;rw [HY.out];exact HQ.out
     ·exact F.out j hj (by omega)
  ·have hltz: ¬ (kk:Int) < (l.length:Int):=by omega
   obtain rfl:kk=l.length:=by omega
   go_wp2
   go_ret
   refine⟨?_,BW.out⟩
   rw [idxP_miss p l (fun i hi=>F.out i hi hi)]
   rfl
theorem containsFuncRows (p:List Int→Bool) (g:Nat) (lb:Array Value) (eg: ∀args w,(callFunc g args).run Try.prog w= .ok (.enter g args) w) (A:Option Addr) (c:Nat) (l:List (List Int)) (w:World)
  (hr:Kd.C (Kd.slice 2 (Kd.int .i64)) w A l.length l) (hp:RowsPred g lb p w l):
  Calls Try.prog 89 #[.slice A l.length c, .func (.func g) #[] lb] w fun e w'=>e= .returned (.bool (l.any p))∧Below w.heap.size w w':=by
 rw [← idxP_nonneg p l 0 (Int.le_refl _)];have HR:=q_ hr;have HP:=q_ hp;clear hr hp
 go_enter Try.func89,Try.ntmps89
 go_wp2_with fail
 refine(indexFuncRows p g lb eg A c l _ HR.out HP.out).mono ?_
 rintro e w' ⟨rfl,hb'⟩;go_wp2
 go_ret
 exact⟨rfl,hb'⟩
end Go.Proofs.Ytbjljcpngbhkeaa.Pr
end
section
namespace Go.Proofs.Ytbjljcpngbhkeaa.Pr
open Go.RowKit Go.Proofs.YtbjljcpngbhkeaaW.PrintWords Go.Proofs.YtbjljcpngbhkeaaW.PrintLast Go.Proofs.YtbjljcpngbhkeaaW.PrintMore Go.Proofs.Ytbjljcpngbhkeaa.La Go.Proofs.Ytbjljcpngbhkeaa.Ma Go.Proofs.Ytbjljcpngbhkeaa.Hm Go.Proofs.Ytbjljcpngbhkeaa.Dt Go.Proofs.Ytbjljcpngbhkeaa.Hd Go.Proofs.Ytbjljcpngbhkeaa.Bd Go.Proofs.Ytbjljcpngbhkeaa.Cp
def nz (i:Nat) (row:List Int):Bool:=row.getD i 0 !=0
theorem det1 (gb i:Nat) (A:Option Addr) (c:Nat) (x:List Int) (w:World) (hb:w.cell? ⟨gb,0,none⟩=some (.int .i64 (i:Int))) (hC:Kd.C (Kd.int .i64) w A x.length x) (hi:i < x.length):
  Calls Try.prog 85 (#[.slice A x.length c]++ #[.pointer (some ⟨gb,0,none⟩)]) w fun e w'=>e= .returned (.bool (nz i x))∧Below w.heap.size w w':=by
 unfold nz
 show Calls Try.prog 85 #[.slice A x.length c, .pointer (some ⟨gb,0,none⟩)] w _
 obtain⟨ad,rfl,hcell⟩:=Kd.at_int hC (i:Int) (by omega) (by omega);rw [Int.toNat_natCast,rd_nat] at hcell;have hiz:(i:Int) < (x.length:Int):=by omega
 have h0z:(0:Int)≤(i:Int):=by omega
 generalize x.getD i 0=y at hcell ⊢
 generalize x.length=n at hiz hC ⊢
 clear hC hi
 by_cases e:y=0
 ·have h1:(y !=0)=false:=by simp [e]
  have h2:(y==0)=true:=by simp [e]
  clear e
  go_enter Try.func85,Try.ntmps85
  go_wp2
  go_ret
  exact⟨by rw [h1];rfl,Below.refl _ _⟩
 ·have h1:(y !=0)=true:=by simp [e]
  have h2:(y==0)=false:=by simp [e]
  clear e
  go_enter Try.func85,Try.ntmps85
  go_wp2
  go_ret
  exact⟨by rw [h1];rfl,Below.refl _ _⟩
theorem det1_enters: ∀args w,(callFunc 85 args).run Try.prog w= .ok (.enter 85 args) w:=enters_fn Try.func85 (by kernel_rfl) rfl
theorem idxP_fnd (M:Mat) (n i:Nat) (hi:i < n):idxP (nz i) (rowsFrom M n i) 0=match fnd M i (n - i) 0 with | none=> -1 | some k=>(k:Int):=by
 have hat: ∀r (h:r < (rowsFrom M n i).length),nz i (rowsFrom M n i)[r]=(M (i+r) i !=0):=by
  intro r h
  simp [rowsFrom,nz,hi]
 have hl:=rowsFrom_len M n i
 cases h:fnd M i (n - i) 0 with
 | none=>exact idxP_miss _ _ (fun r hr=>by rw [hat r hr,fnd_none h r (Nat.zero_le _) (by omega)];rfl)
 | some k=>
  obtain⟨_,h2,h3,h4⟩:=fnd_some h
  exact idxP_hit _ _ k (by omega) (fun r hr hrk=>by rw [hat r hr,h4 r (Nat.zero_le _) hrk];rfl) (by rw [hat k (by omega)];simpa using h3)
theorem det_calls (n:Nat) (R:Int) (A:Option Addr) (c:Nat) (l:List (List Int)) (w:World) (hr:Kd.C (Kd.slice 2 (Kd.int .i64)) w A l.length l) (hc:l.length≤c) (hln:l.length=n) (hp:0 < n) (hn:n≤1000) (hsq: ∀x ∈ l,x.length=l.length) (hR:dgo n n 0 (en l) 1 1=R):
  Calls Try.prog 67 #[.slice A n c] w fun e w'=>e= .returned (.int .i64 R)∧Below w.heap.size w w':=by
 obtain⟨k,hk⟩:=evk (copy_eq l (by omega) (fun x hx=>by rw [hsq x hx];omega));have hcopy:=fun W (hW:Below w.heap.size w W)=>impl_copyRows.calls k A c l l W (Kd.C_below hr hW) hc hk
 rw [hln] at hcopy;have HCOPY:=q_ hcopy;have HLN:=q_ hln;have HP:=q_ hp;have HN:=q_ hn;have HSQ:=q_ hsq;have HR:=q_ hR;clear hcopy hk hr hc hln hp hn hsq hR
 go_enter Try.func67,Try.ntmps67
 go_wp2_with fail
 refine(HCOPY.out _ (Below.refl _ _)).mono ?_
 rintro e w1 ⟨v0,rfl,hS,hB⟩;obtain⟨g,cap,b,cp,rfl,hcap,hO⟩:=own_of_S (w0:=w) hS hB (by rw [HLN.out];exact HP.out) HSQ.out;rw [HLN.out] at hcap hO;rw [HLN.out];have HO:=q_ hO;have HCAP:=q_ hcap;clear HCOPY hS hB hO hcap HSQ;go_wp2
 go_loopg [4,5,16] n (fun gg v4 v5 v16 wr=> ∃(i:Nat) (M:Mat) (b cp:Nat→Nat) (last turn:Int),i≤n∧n - i≤gg∧v4= .int .i64 last∧v5= .int .i64 turn∧v16= .int .i64 (i:Int)∧Aside0 (Own w wr g n b cp M)∧Aside0 (last≠0)∧Aside0 (dgo n (n - i) i M last turn=R))
 case atStart=>exact⟨0,en l,b,cp,1,1,Nat.zero_le _,by omega,rfl,rfl,rfl,HO,⟨by decide⟩,HR⟩
 case round=>
  clear HO HR b cp;obtain⟨i,M,b,cp,last,turn,hi,hg,rfl,rfl,rfl,HO,HL,HR⟩:=hrel
  by_cases hlt:i < n
  ·have hltz:(i:Int) < (n:Int):=by omega
   have HLT:=q_ hlt;have HI:=q_ hi;have HG:=q_ hg;clear hlt hi hg;have hne: ¬ cap=i:=by have:=HCAP.out;have:=HLT.out;omega
   have hle:(i:Int)≤(n:Int):=by omega
   have h0i:(0:Int)≤(i:Int):=by omega
   have HA:Below wr.heap.size wr (wr.alloc (Obj.cells #[.int .i64 (i:Int)] 3)):=(Below.refl _ _).alloc (Nat.le_refl _) _;have ah:=q_ (HO.out.step HA);have HPC:Aside0 ((wr.alloc (Obj.cells #[.int .i64 (i:Int)] 3)).cell? ⟨wr.heap.size,0,none⟩=some (.int .i64 (i:Int))):=⟨by simp⟩
   have hcall:=indexFuncRows (nz i) 85 #[.pointer (some ⟨wr.heap.size,0,none⟩)] det1_enters (some ⟨g,i,none⟩) (cap - i) (rowsFrom M n i) _ (ah.out.C i (by have:=HN.out;omega))
    (fun W' A' c' x hx hb hxc hC=>det1 wr.heap.size i A' c' x W' ((hb.cell (p:=⟨wr.heap.size,0,none⟩) (by simp)).trans HPC.out) hC (by
     have:=HLT.out;obtain⟨r,_,rfl⟩:=List.mem_map.1 hx
     simpa using this))
   rw [rowsFrom_len,idxP_fnd M n i HLT.out] at hcall;have HCALL:=q_ hcall;clear hcall;have HNB:Aside0 (∀j,j < n→b j≠wr.heap.size):=⟨fun j hj e=>by have:=lt_of_cell (HO.out.ob j i hj HLT.out).1;rw [e] at this;exact Nat.lt_irrefl _ this⟩
   have HNG:Aside0 (g≠wr.heap.size):=⟨fun e=>by have:=lt_of_cell (HO.out.og i HLT.out).1;rw [e] at this;exact Nat.lt_irrefl _ this⟩
   obtain⟨q,hq⟩: ∃q,n - i=q+1:=⟨n - i - 1,by have:=HLT.out;omega⟩
   have HQ:=q_ hq;have hR2:=HR.out;rw [hq] at hR2;unfold dgo at hR2;clear hq HA;cases hf:fnd M i (n - i) 0 with
   | none=>
    rw [hf] at hR2;simp only [hf] at HCALL;have HR2:=q_ hR2;clear hR2 hf
    go_wp2_with fail
    refine HCALL.out.mono ?_
    rintro e w2 ⟨rfl,hb2⟩;have HB2:=q_ hb2;clear hb2 HCALL;go_wp2
    go_ret
    exact⟨by rw [← HR2.out];rfl,Below.trans ah.out.below (HB2.out.mono ah.out.below.size)⟩
   | some kk=>
    have HF:=q_ hf;rw [hf] at hR2;simp only [hf] at HCALL;cases kk with
    | zero=>
     have HR2:=q_ hR2;clear hR2 hf
     go_wp2_with fail
     refine HCALL.out.mono ?_
     rintro e w2 ⟨rfl,hb2⟩;have ag:=q_ (ah.out.step hb2);have HPV:Aside0 (w2.cell? ⟨wr.heap.size,0,none⟩=some (.int .i64 (i:Int))):=⟨(hb2.cell (p:=⟨wr.heap.size,0,none⟩) (by simp)).trans HPC.out⟩
     generalize wr.heap.size=pv at*
     clear hb2 HCALL HO ah HR HPC;have hgi1:IntKind.i64.wrap ((i:Int)+1)=((i+1:Nat):Int):=by rw [IntWalk.i64_in _ (by have:=HN.out;have:=HLT.out;omega)];rfl
     have HGI1:=q_ hgi1;have hi1z:((i+1:Nat):Int)≤(n:Int):=by have:=HLT.out;omega
     have h0z1:(0:Int)≤((i+1:Nat):Int):=by omega
     by_cases hcc:cap=i+1
     ·have hp0:=HPV.out;have hn1:n=i+1:=by have:=HCAP.out;have:=HLT.out;omega
      have h00: ¬ (0:Int) < ((n - (i+1):Nat):Int):=by omega
      have HN1:=q_ hn1;have hcct:=eq_true hcc;clear hn1 hcc;go_wp2
      go_loopg [53] 1 (fun gg v53 w3=>v53= .int .i64 0∧Aside0 (Own w w3 g n b cp M)∧Aside0 (w3.cell? ⟨pv,0,none⟩=some (.int .i64 (i:Int))))
      case atStart=>exact⟨rfl,ag,HPV⟩
      case round=>
       clear ag HPV hp0;obtain⟨rfl,aa,HPV3⟩:=hrel;have ae:=q_ (aa.out.step (below_drew (Below.refl wr.heap.size wr)));have HPV4:Aside0 (wr.drew.cell? ⟨pv,0,none⟩=some (.int .i64 (i:Int))):=⟨HPV3.out⟩
       have hp3:=HPV4.out;have hog:=(ae.out.og i HLT.out).1;have hii:=(ae.out.ob i i HLT.out HLT.out).1;go_wp2
       refine st_ (n:=8) (S:=fun w'=>w'.cell? ⟨pv,0,none⟩=some (.int .i64 (i:Int))∧w'.cell? ⟨g,i,none⟩=some (.slice (some ⟨b i,0,none⟩) n (cp i))∧w'.cell? ⟨b i,i,none⟩=some (.int .i64 ((M) i i))) (ds:= []) ⟨hp3,hog,hii⟩ (fun hHeld=>?_)
       generalize wr.drew=w5 at ae HPV4 hp3 hog hii hHeld ⊢
       refine pu_ 0 96 ?_;refine tk_ 1 97 ?_;refine pu_ 2 98 ?_;refine tk_ 3 99 ?_;refine tk_ 4 100 ?_;refine pu_ 5 101 ?_;refine tk_ 6 102 ?_;refine pu_ 7 4 ?_
       refine done_ (by kernel_rfl) ?_
       go_wp2
       go_roundg (n - (i+1))
       case measure=>have:=HG.out;have:=HLT.out;omega
       case rel=>exact⟨i+1,el (M) i last,b,cp,(M) i i,turn,by have:=HLT.out;omega,by omega,rfl,rfl,by first | rfl | (rw [HGI1.out]),⟨ae.out.congr (fun a b ha _=>by unfold el;rw [if_neg (by have:=HN1.out;omega)])⟩,⟨(fnd_some HF.out).2.2.1⟩,⟨by rw [show n - (i+1)=q from by have:=HQ.out;omega];exact HR2.out⟩⟩
     ·have hp0:=HPV.out;go_wp2
      go_loopg [53] n (fun gg v53 w3=> ∃t:Nat,i+1+t≤n∧n - (i+1+t)≤gg∧v53= .int .i64 (t:Int)∧Aside0 (Own w w3 g n b cp (mid M i last (i+1+t) i))∧Aside0 (w3.cell? ⟨pv,0,none⟩=some (.int .i64 (i:Int))))
      case atStart=>exact⟨0,by have:=HLT.out;omega,by omega,by simp,⟨ag.out.congr (fun a b _ _=>(mid_start _ i last a b).symm)⟩,HPV⟩
      case round=>
       clear ag HPV hp0;obtain⟨t,ht,hg2,rfl,aa,HPV3⟩:=hrel;have HT:=q_ ht;have HG2:=q_ hg2
       by_cases htn:i+1+t < n
       ·have htz:(t:Int) < ((n - (i+1):Nat):Int):=by omega
        have h0t:(0:Int)≤(t:Int):=by omega
        have HTN:=q_ htn;have hog:=(aa.out.og (i+1+t) htn).1;have hf0:=(aa.out.ob (i+1+t) i htn HLT.out).1;rw [mid_at _ i last (i+1+t) i i (Nat.le_refl _)] at hf0;have hp3:=HPV3.out;have ht1:IntKind.i64.wrap ((t:Int)+1)=((t+1:Nat):Int):=by rw [IntWalk.i64_in _ (by have:=HN.out;omega)];rfl
        have HT1:=q_ ht1
        generalize hr:i+1+t=r at*
        have HRE:=q_ hr;have htr:i+1+t=r:=hr;clear hr;go_wp2
        go_loopg [11] n (fun gg v11 w4=> ∃c':Nat,i≤c'∧c'≤n∧n - c'≤gg∧v11= .int .i64 (c':Int)∧Aside0 (Own w w4 g n b cp (mid M i last r c'))∧Aside0 (w4.cell? ⟨pv,0,none⟩=some (.int .i64 (i:Int))))
        case atStart=>exact⟨i,Nat.le_refl _,HI.out,by omega,rfl,aa,HPV3⟩
        case round=>
         clear aa HPV3 hp3 hog hf0;obtain⟨c',hc1,hc2,hg3,rfl,ae,HPV4⟩:=hrel;have HC1:=q_ hc1;have HC2:=q_ hc2;have HG3:=q_ hg3
         by_cases hcn:c' < n
         ·have hcz:(c':Int) < (n:Int):=by omega
          have h0c:(0:Int)≤(c':Int):=by omega
          have HCN:=q_ hcn;have af:=q_ (ae.out.step (below_drew (Below.refl wr.heap.size wr)));have HPV5:Aside0 (wr.drew.cell? ⟨pv,0,none⟩=some (.int .i64 (i:Int))):=⟨HPV4.out⟩
          have h1:=(af.out.ob r c' HTN.out hcn).1;have h1f:=(af.out.ob r c' HTN.out hcn).2;have h2:=(af.out.og i HLT.out).1;have h3:=(af.out.ob i i HLT.out HLT.out).1;have h4:=(af.out.ob i c' HLT.out hcn).1;rw [mid_at _ i last r c' c' (Nat.le_refl _)] at h1;rw [mid_head] at h3 h4;have hp4:=HPV5.out;have hl0:(last==0)=false:=by have:=HL.out;simpa using this
          have hl1: ¬ last=0:=HL.out;have hc11:IntKind.i64.wrap ((c':Int)+1)=((c'+1:Nat):Int):=by rw [IntWalk.i64_in _ (by have:=HN.out;omega)];rfl
          have HC11:=q_ hc11;clear hc1 hc2 hg3 hcn;go_wp2
          refine st_ (n:=28) (S:=fun w'=>w'.cell? ⟨b r,c',none⟩=some (.int .i64 ((M) r c'))∧w'.cell? ⟨pv,0,none⟩=some (.int .i64 (i:Int))∧w'.cell? ⟨g,i,none⟩=some (.slice (some ⟨b i,0,none⟩) n (cp i))∧w'.cell? ⟨b i,i,none⟩=some (.int .i64 ((M) i i))∧w'.cell? ⟨b i,c',none⟩=some (.int .i64 ((M) i c'))) (ds:= [27]) ⟨h1,hp4,h2,h3,h4⟩ (fun hHeld=>?_)
          generalize wr.drew=w5 at af HPV5 h1 hp4 h2 h3 h4 h1f hHeld ⊢
          refine pu_ 0 68 ?_;refine pu_ 1 69 ?_;refine pu_ 2 70 ?_;refine pu_ 3 71 ?_;refine pu_ 4 72 ?_;refine tk_ 5 73 ?_;refine pu_ 6 74 ?_;refine tk_ 7 75 ?_;refine pu_ 8 76 ?_;refine tk_ 9 77 ?_;refine tk_ 10 78 ?_;refine pu_ 11 79 ?_;refine tk_ 12 80 ?_;refine pu_ 13 81 ?_;refine pu_ 14 82 ?_;refine pu_ 15 83 ?_;refine tk_ 16 84 ?_;refine pu_ 17 85 ?_;refine tk_ 18 86 ?_;refine pu_ 19 87 ?_;refine pu_ 20 88 ?_;refine tk_ 21 89 ?_;refine pu_ 22 90 ?_;refine pu_ 23 91 ?_;refine pu_ 24 92 ?_;refine pu_ 25 93 ?_;refine pu_ 26 94 ?_
          refine la_ 27 none (fun K hK=>?_)
          refine skip_ (w1:=?_) (by rfl) rfl ?_ ?_
          rotate_left
          ·go_simp
           rfl
          refine hK.out _ _ ?_
          clear hK K;refine done_ (by kernel_rfl) ?_
          go_wp2
          go_roundg (n - (c'+1))
          case measure=>have:=HG3.out;have:=HCN.out;omega
          case rel=>
           have hput:=(af.out.put HTN.out HCN.out (ev M i last r c')).congr (M':=mid M i last r (c'+1)) (fun a b _ _=>mid_next _ i last r c' (by have:=HRE.out;omega) HC1.out a b);refine⟨c'+1,by have:=HC1.out;omega,HCN.out,by omega,by first | rfl | (rw [HC11.out]) | (simp [HC11.out]),⟨hput⟩,⟨?_⟩⟩
           rw [cset_other (by intro e;exact HNB.out r HTN.out (congrArg Addr.block e))];exact HPV5.out
         ·have hcz: ¬ (c':Int) < (n:Int):=by omega
          obtain rfl:c'=n:=by have:=HC2.out;omega
          clear hcn hc1 hc2 hg3;go_wp2
          go_roundg (c' - (r+1))
          case measure=>have:=HG2.out;have:=HTN.out;omega
          case rel=>exact⟨t+1,by have:=HTN.out;have:=HRE.out;omega,by have:=HRE.out;omega,by first | rfl | (rw [HT1.out]) | (simp [HT1.out]),⟨ae.out.congr (fun a b _ hb=>by rw [mid_row _ i last r a b hb,show i+1+(t+1)=r+1 from by have:=HRE.out;omega])⟩,HPV4⟩
       ·have htz: ¬ (t:Int) < ((n - (i+1):Nat):Int):=by omega
        have hn1:i+1+t=n:=by omega
        rw [hn1] at aa;have ae:=q_ (aa.out.step (below_drew (Below.refl wr.heap.size wr)));have HPV4:Aside0 (wr.drew.cell? ⟨pv,0,none⟩=some (.int .i64 (i:Int))):=⟨HPV3.out⟩
        have hp3:=HPV4.out;have hog:=(ae.out.og i HLT.out).1;have hii:=(ae.out.ob i i HLT.out HLT.out).1;rw [mid_head] at hii;clear hn1 htn ht hg2;go_wp2
        refine st_ (n:=8) (S:=fun w'=>w'.cell? ⟨pv,0,none⟩=some (.int .i64 (i:Int))∧w'.cell? ⟨g,i,none⟩=some (.slice (some ⟨b i,0,none⟩) n (cp i))∧w'.cell? ⟨b i,i,none⟩=some (.int .i64 ((M) i i))) (ds:= []) ⟨hp3,hog,hii⟩ (fun hHeld=>?_)
        generalize wr.drew=w5 at ae HPV4 hp3 hog hii hHeld ⊢
        refine pu_ 0 96 ?_;refine tk_ 1 97 ?_;refine pu_ 2 98 ?_;refine tk_ 3 99 ?_;refine tk_ 4 100 ?_;refine pu_ 5 101 ?_;refine tk_ 6 102 ?_;refine pu_ 7 4 ?_
        refine done_ (by kernel_rfl) ?_
        go_wp2
        go_roundg (n - (i+1))
        case measure=>have:=HG.out;have:=HLT.out;omega
        case rel=>exact⟨i+1,el (M) i last,b,cp,(M) i i,turn,by have:=HLT.out;omega,by omega,rfl,rfl,by first | rfl | (rw [HGI1.out]),⟨ae.out.congr (fun a b ha _=>mid_end _ i last a b ha)⟩,⟨(fnd_some HF.out).2.2.1⟩,⟨by rw [show n - (i+1)=q from by have:=HQ.out;omega];exact HR2.out⟩⟩
    | succ kk=>
     obtain⟨kp,hkp⟩: ∃kp,kp=kk+1:=⟨_,rfl⟩
     simp only [← hkp] at hf hR2 HCALL;obtain⟨s,hs⟩: ∃s,s=i+kp:=⟨_,rfl⟩
     have hfs:=fnd_some hf;have hsn:s < n:=by have:=HLT.out;omega
     have hsi: ¬ s=i:=by omega
     have hik:IntKind.i64.wrap ((i:Int)+(kp:Int))=(s:Int):=by rw [IntWalk.i64_in _ (by have:=HN.out;omega),hs];rfl
     have hnz:M s i≠0:=by rw [hs];exact hfs.2.2.1
     rw [← hs] at hR2;have HNZ:=q_ hnz;have HSN:=q_ hsn;have HSI:=q_ hsi;have HR2:=q_ hR2;have hkz:(0:Int) < (kp:Int):=by omega
     have hkz': ¬ (kp:Int) < 0:=by omega
     clear hR2 hf HF hfs hnz hs hkp kk
     go_wp2_with fail
     refine HCALL.out.mono ?_
     rintro e w2 ⟨rfl,hb2⟩;have ag:=q_ (ah.out.step hb2);have HPV:Aside0 (w2.cell? ⟨wr.heap.size,0,none⟩=some (.int .i64 (i:Int))):=⟨(hb2.cell (p:=⟨wr.heap.size,0,none⟩) (by simp)).trans HPC.out⟩
     generalize wr.heap.size=pv at*
     clear hb2 HCALL HO ah HR HPC;have aa:=q_ (ag.out.step (below_drew (Below.refl w2.heap.size w2)));have HPV3:Aside0 (w2.drew.cell? ⟨pv,0,none⟩=some (.int .i64 (i:Int))):=⟨HPV.out⟩
     have HSW:=q_ (aa.out.swap HLT.out HSN.out);have hp0:=HPV3.out;have hgs:=(aa.out.og s HSN.out).1;have hgsf:=(aa.out.og s HSN.out).2;have hgi:=(aa.out.og i HLT.out).1;have hgif:=(aa.out.og i HLT.out).2;have hst:(w2.drew.setCell ⟨g,i,none⟩ (.slice (some ⟨b s,0,none⟩) n (cp s))).cell? ⟨g,s,none⟩=some (.slice (some ⟨b s,0,none⟩) n (cp s)):=by rw [cset_other (by intro e;exact HSI.out (congrArg Addr.off e).symm)];exact hgs
     have hstf:(w2.drew.setCell ⟨g,i,none⟩ (.slice (some ⟨b s,0,none⟩) n (cp s))).frozen? ⟨g,s,none⟩=false:=by rw [fset];exact hgsf
     have hsz:(s:Int) < (n:Int):=by omega
     have h0s:(0:Int)≤(s:Int):=by omega
     clear ag HPV hsn hsi;go_wp2
     refine st_ (n:=20) (S:=fun w'=>w'.cell? ⟨pv,0,none⟩=some (.int .i64 (i:Int))∧w'.cell? ⟨g,s,none⟩=some (.slice (some ⟨b s,0,none⟩) n (cp s))) (ds:= [19]) ⟨hp0,hgs⟩ (fun hHeld=>?_)
     generalize w2.drew=w5 at aa HPV3 HSW hp0 hgs hgi hgsf hgif hst hstf hHeld ⊢
     refine pu_ 0 28 ?_;refine tk_ 1 29 ?_;refine pu_ 2 30 ?_;refine tk_ 3 31 ?_;refine pu_ 4 32 ?_;refine pu_ 5 33 ?_;refine pu_ 6 34 ?_;refine tk_ 7 35 ?_;refine pu_ 8 36 ?_;refine pu_ 9 37 ?_;refine pu_ 10 38 ?_;refine tk_ 11 39 ?_;refine pu_ 12 40 ?_;refine tk_ 13 41 ?_;refine pu_ 14 42 ?_
     refine on_ 15 (some 43) (fun K hK=>?_)
     refine value_ (w1:=w5) (v:= .slice (some ⟨b i,0,none⟩) n (cp i)) (by rfl) rfl (by go_simp) ?_
     refine hK.out _ _ hHeld (fun hHeld=>?_)
     clear hK K;refine norm_ (a':=?_) ?_ ?_
     rotate_left
     ·show Act.put _ (some 43) _=_
      simp only [Act.put,List.setIfInBounds_toArray,List.set_cons_zero,List.set_cons_succ,i64_w,i32_w]
      rfl
     refine pu_ 16 44 ?_
     refine on_ 17 none (fun K hK=>?_)
     refine skip_ (w1:=?_) (by rfl) rfl ?_ ?_
     rotate_left
     ·go_simp
      rfl
     refine hK.out _ _ ⟨(cset_other (by intro e;exact HNG.out (congrArg Addr.block e))).trans hp0,hst⟩ (fun hHeld=>?_)
     clear hK K;refine pu_ 18 45 ?_
     refine la_ 19 none (fun K hK=>?_)
     refine skip_ (w1:=?_) (by rfl) rfl ?_ ?_
     rotate_left
     ·go_simp
      rfl
     refine hK.out _ _ ?_
     clear hK K;refine done_ (by kernel_rfl) ?_
     have HPV:Aside0 (((w5.setCell ⟨g,i,none⟩ (.slice (some ⟨b s,0,none⟩) n (cp s))).setCell ⟨g,s,none⟩ (.slice (some ⟨b i,0,none⟩) n (cp i))).cell? ⟨pv,0,none⟩=some (.int .i64 (i:Int))):=⟨by
      rw [cset_other (by intro e;exact HNG.out (congrArg Addr.block e)),cset_other (by intro e;exact HNG.out (congrArg Addr.block e))];exact HPV3.out⟩
     have HNB2:Aside0 (∀j,j < n→b (sw i s j)≠pv):=⟨fun j hj=>HNB.out _ (sw_lt HLT.out HSN.out hj)⟩
     have HNZ2:Aside0 ((fun j=>M (sw i s j)) i i≠0):=⟨by show M (sw i s i) i≠0;rw [show sw i s i=s from by simp [sw]];exact HNZ.out⟩
     have HR3:Aside0 (dgo n q (i+1) (el (fun j=>M (sw i s j)) i last) ((fun j=>M (sw i s j)) i i) (wrap64 (-turn))=R):=HR2;clear HR2 HNB HNZ aa HPV3 hp0 hgs hgi hgsf hgif hst hstf hHeld;have ag:=HSW;clear HSW
     generalize (w5.setCell ⟨g,i,none⟩ (.slice (some ⟨b s,0,none⟩) n (cp s))).setCell ⟨g,s,none⟩ (.slice (some ⟨b i,0,none⟩) n (cp i))=w6 at ag HPV ⊢
     generalize Value.bool (decide ((kp:Int) < 0))=uu1
     generalize Value.bool (decide (0 < kp))=uu2
     have ⟨b2,hb2⟩: ∃b2:Nat→Nat,b2=fun j=>b (sw i s j):=⟨_,rfl⟩
     have ⟨cp2,hcp2⟩: ∃cp2:Nat→Nat,cp2=fun j=>cp (sw i s j):=⟨_,rfl⟩
     have ⟨M2,hM2⟩: ∃M2:Mat,M2=fun j=>M (sw i s j):=⟨_,rfl⟩
     have HNB:Aside0 (∀j,j < n→b2 j≠pv):=⟨fun j hj=>by rw [hb2];exact HNB2.out j hj⟩
     rw [← hb2, ← hcp2, ← hM2] at ag;rw [← hM2] at HNZ2 HR3;have HR2:=HR3;clear HR3 HNB2 hb2 hcp2 hM2;have HF:=HNZ2;clear HNZ2;have hgi1:IntKind.i64.wrap ((i:Int)+1)=((i+1:Nat):Int):=by rw [IntWalk.i64_in _ (by have:=HN.out;have:=HLT.out;omega)];rfl
     have HGI1:=q_ hgi1;have hi1z:((i+1:Nat):Int)≤(n:Int):=by have:=HLT.out;omega
     have h0z1:(0:Int)≤((i+1:Nat):Int):=by omega
     by_cases hcc:cap=i+1
     ·have hp0:=HPV.out;have hn1:n=i+1:=by have:=HCAP.out;have:=HLT.out;omega
      have h00: ¬ (0:Int) < ((n - (i+1):Nat):Int):=by omega
      have HN1:=q_ hn1;have hcct:=eq_true hcc;clear hn1 hcc;go_wp2
      go_loopg [53] 1 (fun gg v53 w3=>v53= .int .i64 0∧Aside0 (Own w w3 g n b2 cp2 M2)∧Aside0 (w3.cell? ⟨pv,0,none⟩=some (.int .i64 (i:Int))))
      case atStart=>exact⟨rfl,ag,HPV⟩
      case round=>
       clear ag HPV hp0;obtain⟨rfl,aa,HPV3⟩:=hrel;have ae:=q_ (aa.out.step (below_drew (Below.refl wr.heap.size wr)));have HPV4:Aside0 (wr.drew.cell? ⟨pv,0,none⟩=some (.int .i64 (i:Int))):=⟨HPV3.out⟩
       have hp3:=HPV4.out;have hog:=(ae.out.og i HLT.out).1;have hii:=(ae.out.ob i i HLT.out HLT.out).1;go_wp2
       refine st_ (n:=8) (S:=fun w'=>w'.cell? ⟨pv,0,none⟩=some (.int .i64 (i:Int))∧w'.cell? ⟨g,i,none⟩=some (.slice (some ⟨b2 i,0,none⟩) n (cp2 i))∧w'.cell? ⟨b2 i,i,none⟩=some (.int .i64 ((M2) i i))) (ds:= []) ⟨hp3,hog,hii⟩ (fun hHeld=>?_)
       generalize wr.drew=w5 at ae HPV4 hp3 hog hii hHeld ⊢
       refine pu_ 0 96 ?_;refine tk_ 1 97 ?_;refine pu_ 2 98 ?_;refine tk_ 3 99 ?_;refine tk_ 4 100 ?_;refine pu_ 5 101 ?_;refine tk_ 6 102 ?_;refine pu_ 7 4 ?_
       refine done_ (by kernel_rfl) ?_
       go_wp2
       go_roundg (n - (i+1))
       case measure=>have:=HG.out;have:=HLT.out;omega
       case rel=>exact⟨i+1,el (M2) i last,b2,cp2,(M2) i i,wrap64 (-turn),by have:=HLT.out;omega,by omega,rfl,rfl,by first | rfl | (rw [HGI1.out]),⟨ae.out.congr (fun a b ha _=>by unfold el;rw [if_neg (by have:=HN1.out;omega)])⟩,HF,⟨by rw [show n - (i+1)=q from by have:=HQ.out;omega];exact HR2.out⟩⟩
     ·have hp0:=HPV.out;go_wp2
      go_loopg [53] n (fun gg v53 w3=> ∃t:Nat,i+1+t≤n∧n - (i+1+t)≤gg∧v53= .int .i64 (t:Int)∧Aside0 (Own w w3 g n b2 cp2 (mid M2 i last (i+1+t) i))∧Aside0 (w3.cell? ⟨pv,0,none⟩=some (.int .i64 (i:Int))))
      case atStart=>exact⟨0,by have:=HLT.out;omega,by omega,by simp,⟨ag.out.congr (fun a b _ _=>(mid_start _ i last a b).symm)⟩,HPV⟩
      case round=>
       clear ag HPV hp0;obtain⟨t,ht,hg2,rfl,aa,HPV3⟩:=hrel;have HT:=q_ ht;have HG2:=q_ hg2
       by_cases htn:i+1+t < n
       ·have htz:(t:Int) < ((n - (i+1):Nat):Int):=by omega
        have h0t:(0:Int)≤(t:Int):=by omega
        have HTN:=q_ htn;have hog:=(aa.out.og (i+1+t) htn).1;have hf0:=(aa.out.ob (i+1+t) i htn HLT.out).1;rw [mid_at _ i last (i+1+t) i i (Nat.le_refl _)] at hf0;have hp3:=HPV3.out;have ht1:IntKind.i64.wrap ((t:Int)+1)=((t+1:Nat):Int):=by rw [IntWalk.i64_in _ (by have:=HN.out;omega)];rfl
        have HT1:=q_ ht1
        generalize hr:i+1+t=r at*
        have HRE:=q_ hr;have htr:i+1+t=r:=hr;clear hr;go_wp2
        go_loopg [11] n (fun gg v11 w4=> ∃c':Nat,i≤c'∧c'≤n∧n - c'≤gg∧v11= .int .i64 (c':Int)∧Aside0 (Own w w4 g n b2 cp2 (mid M2 i last r c'))∧Aside0 (w4.cell? ⟨pv,0,none⟩=some (.int .i64 (i:Int))))
        case atStart=>exact⟨i,Nat.le_refl _,HI.out,by omega,rfl,aa,HPV3⟩
        case round=>
         clear aa HPV3 hp3 hog hf0;obtain⟨c',hc1,hc2,hg3,rfl,ae,HPV4⟩:=hrel;have HC1:=q_ hc1;have HC2:=q_ hc2;have HG3:=q_ hg3
         by_cases hcn:c' < n
         ·have hcz:(c':Int) < (n:Int):=by omega
          have h0c:(0:Int)≤(c':Int):=by omega
          have HCN:=q_ hcn;have af:=q_ (ae.out.step (below_drew (Below.refl wr.heap.size wr)));have HPV5:Aside0 (wr.drew.cell? ⟨pv,0,none⟩=some (.int .i64 (i:Int))):=⟨HPV4.out⟩
          have h1:=(af.out.ob r c' HTN.out hcn).1;have h1f:=(af.out.ob r c' HTN.out hcn).2;have h2:=(af.out.og i HLT.out).1;have h3:=(af.out.ob i i HLT.out HLT.out).1;have h4:=(af.out.ob i c' HLT.out hcn).1;rw [mid_at _ i last r c' c' (Nat.le_refl _)] at h1;rw [mid_head] at h3 h4;have hp4:=HPV5.out;have hl0:(last==0)=false:=by have:=HL.out;simpa using this
          have hl1: ¬ last=0:=HL.out;have hc11:IntKind.i64.wrap ((c':Int)+1)=((c'+1:Nat):Int):=by rw [IntWalk.i64_in _ (by have:=HN.out;omega)];rfl
          have HC11:=q_ hc11;clear hc1 hc2 hg3 hcn;go_wp2
          refine st_ (n:=28) (S:=fun w'=>w'.cell? ⟨b2 r,c',none⟩=some (.int .i64 ((M2) r c'))∧w'.cell? ⟨pv,0,none⟩=some (.int .i64 (i:Int))∧w'.cell? ⟨g,i,none⟩=some (.slice (some ⟨b2 i,0,none⟩) n (cp2 i))∧w'.cell? ⟨b2 i,i,none⟩=some (.int .i64 ((M2) i i))∧w'.cell? ⟨b2 i,c',none⟩=some (.int .i64 ((M2) i c'))) (ds:= [27]) ⟨h1,hp4,h2,h3,h4⟩ (fun hHeld=>?_)
          generalize wr.drew=w5 at af HPV5 h1 hp4 h2 h3 h4 h1f hHeld ⊢
          refine pu_ 0 68 ?_;refine pu_ 1 69 ?_;refine pu_ 2 70 ?_;refine pu_ 3 71 ?_;refine pu_ 4 72 ?_;refine tk_ 5 73 ?_;refine pu_ 6 74 ?_;refine tk_ 7 75 ?_;refine pu_ 8 76 ?_;refine tk_ 9 77 ?_;refine tk_ 10 78 ?_;refine pu_ 11 79 ?_;refine tk_ 12 80 ?_;refine pu_ 13 81 ?_;refine pu_ 14 82 ?_;refine pu_ 15 83 ?_;refine tk_ 16 84 ?_;refine pu_ 17 85 ?_;refine tk_ 18 86 ?_;refine pu_ 19 87 ?_;refine pu_ 20 88 ?_;refine tk_ 21 89 ?_;refine pu_ 22 90 ?_;refine pu_ 23 91 ?_;refine pu_ 24 92 ?_;refine pu_ 25 93 ?_;refine pu_ 26 94 ?_
          refine la_ 27 none (fun K hK=>?_)
          refine skip_ (w1:=?_) (by rfl) rfl ?_ ?_
          rotate_left
          ·go_simp
           rfl
          refine hK.out _ _ ?_
          clear hK K;refine done_ (by kernel_rfl) ?_
          go_wp2
          go_roundg (n - (c'+1))
          case measure=>have:=HG3.out;have:=HCN.out;omega
          case rel=>
           have hput:=(af.out.put HTN.out HCN.out (ev M2 i last r c')).congr (M':=mid M2 i last r (c'+1)) (fun a b _ _=>mid_next _ i last r c' (by have:=HRE.out;omega) HC1.out a b);refine⟨c'+1,by have:=HC1.out;omega,HCN.out,by omega,by first | rfl | (rw [HC11.out]) | (simp [HC11.out]),⟨hput⟩,⟨?_⟩⟩
           rw [cset_other (by intro e;exact HNB.out r HTN.out (congrArg Addr.block e))];exact HPV5.out
         ·have hcz: ¬ (c':Int) < (n:Int):=by omega
          obtain rfl:c'=n:=by have:=HC2.out;omega
          clear hcn hc1 hc2 hg3;go_wp2
          go_roundg (c' - (r+1))
          case measure=>have:=HG2.out;have:=HTN.out;omega
          case rel=>exact⟨t+1,by have:=HTN.out;have:=HRE.out;omega,by have:=HRE.out;omega,by first | rfl | (rw [HT1.out]) | (simp [HT1.out]),⟨ae.out.congr (fun a b _ hb=>by rw [mid_row _ i last r a b hb,show i+1+(t+1)=r+1 from by have:=HRE.out;omega])⟩,HPV4⟩
       ·have htz: ¬ (t:Int) < ((n - (i+1):Nat):Int):=by omega
        have hn1:i+1+t=n:=by omega
        rw [hn1] at aa;have ae:=q_ (aa.out.step (below_drew (Below.refl wr.heap.size wr)));have HPV4:Aside0 (wr.drew.cell? ⟨pv,0,none⟩=some (.int .i64 (i:Int))):=⟨HPV3.out⟩
        have hp3:=HPV4.out;have hog:=(ae.out.og i HLT.out).1;have hii:=(ae.out.ob i i HLT.out HLT.out).1;rw [mid_head] at hii;clear hn1 htn ht hg2;go_wp2
        refine st_ (n:=8) (S:=fun w'=>w'.cell? ⟨pv,0,none⟩=some (.int .i64 (i:Int))∧w'.cell? ⟨g,i,none⟩=some (.slice (some ⟨b2 i,0,none⟩) n (cp2 i))∧w'.cell? ⟨b2 i,i,none⟩=some (.int .i64 ((M2) i i))) (ds:= []) ⟨hp3,hog,hii⟩ (fun hHeld=>?_)
        generalize wr.drew=w5 at ae HPV4 hp3 hog hii hHeld ⊢
        refine pu_ 0 96 ?_;refine tk_ 1 97 ?_;refine pu_ 2 98 ?_;refine tk_ 3 99 ?_;refine tk_ 4 100 ?_;refine pu_ 5 101 ?_;refine tk_ 6 102 ?_;refine pu_ 7 4 ?_
        refine done_ (by kernel_rfl) ?_
        go_wp2
        go_roundg (n - (i+1))
        case measure=>have:=HG.out;have:=HLT.out;omega
        case rel=>exact⟨i+1,el (M2) i last,b2,cp2,(M2) i i,wrap64 (-turn),by have:=HLT.out;omega,by omega,rfl,rfl,by first | rfl | (rw [HGI1.out]),⟨ae.out.congr (fun a b ha _=>mid_end _ i last a b ha)⟩,HF,⟨by rw [show n - (i+1)=q from by have:=HQ.out;omega];exact HR2.out⟩⟩
  ·obtain rfl:i=n:=by omega
   have hltz: ¬ (i:Int) < (i:Int):=by omega
   rw [Nat.sub_self] at HR;go_wp2
   go_ret
   exact⟨by rw [← HR.out];rfl,HO.out.below⟩
def impl_determinant.f (l0:List (List Int)):Option Int:=if l0.length≤1000∧ ∀x ∈ l0,x.length=l0.length then some (dgo l0.length l0.length 0 (en l0) 1 1) else none
theorem det_none (A:Option Addr) (c:Nat) (w:World) (hr:Kd.C (Kd.slice 2 (Kd.int .i64)) w A 0 []):
  Calls Try.prog 67 #[.slice A 0 c] w fun e w'=>e= .returned (.int .i64 1)∧Below w.heap.size w w':=by
 obtain⟨k,hk⟩:=evk (copy_eq [] (by decide) (fun x hx=>by cases hx));have hcopy:=fun W (hW:Below w.heap.size w W)=>impl_copyRows.calls k A c [] [] W (Kd.C_below hr hW) (Nat.zero_le _) hk
 have HCOPY:=q_ hcopy;clear hcopy hk hr
 go_enter Try.func67,Try.ntmps67
 go_wp2_with fail
 refine(HCOPY.out _ (Below.refl _ _)).mono ?_
 rintro e w1 ⟨v0,rfl,hS,hB⟩;obtain⟨A1,c1,rfl⟩:=Kd.S_slice hS;have HB:=q_ hB;clear HCOPY hS hB;go_wp2
 go_loopg [4,5,16] 1 (fun gg v4 v5 v16 wr=>v4= .int .i64 1∧v5= .int .i64 1∧v16= .int .i64 0∧Aside0 (Below w.heap.size w wr))
 case atStart=>exact⟨rfl,rfl,rfl,HB⟩
 case round=>
  obtain⟨rfl,rfl,rfl,HB2⟩:=hrel;go_wp2
  go_ret
  exact⟨by rfl,HB2.out⟩
theorem impl_determinant.calls (A0:Option Addr) (c0:Nat) (l0:List (List Int)) (r:Int) (w:World) (hr0:Kd.C (Kd.slice 2 (Kd.int .i64)) w A0 l0.length l0) (hc0:l0.length≤c0) (h:impl_determinant.f l0=some r):
  Calls Try.prog 67 #[.slice A0 l0.length c0] w fun e w'=>e= .returned (.int .i64 r)∧Below w.heap.size w w':=by
 unfold impl_determinant.f at h
 split at h
 case isFalse=>cases h
 rename_i hc
 have h:=Option.some.inj h
 by_cases hp:0 < l0.length
 ·exact det_calls l0.length r A0 c0 l0 w hr0 hc0 rfl hp hc.1 hc.2 h
 ·have e:l0= []:=List.eq_nil_of_length_eq_zero (by omega);subst e;have e1:r=1:=by rw [← h];show wrap64 (1*1)=1;exact w64 (by omega) (by omega)
  subst e1;exact det_none A0 c0 w hr0
end Go.Proofs.Ytbjljcpngbhkeaa.Pr
end
section
namespace Go.Proofs.Ytbjljcpngbhkeaa.Hd
open Go.RowKit Go.Proofs.YtbjljcpngbhkeaaW.PrintWords Go.Proofs.YtbjljcpngbhkeaaW.PrintLast Go.Proofs.YtbjljcpngbhkeaaW.PrintMore Go.Proofs.Ytbjljcpngbhkeaa.Pr Go.Proofs.Ytbjljcpngbhkeaa.La Go.Proofs.Ytbjljcpngbhkeaa.Ma Go.Proofs.Ytbjljcpngbhkeaa.Hm Go.Proofs.Ytbjljcpngbhkeaa.Dt Go.Proofs.Ytbjljcpngbhkeaa.Bd Go.Proofs.Ytbjljcpngbhkeaa.Cp
def dO (n:Nat) (M:Mat):Int:=dgo n n 0 (en (rowsFrom M n 0)) 1 1
theorem rowsFrom_rows (M:Mat) (n i:Nat): ∀x ∈ rowsFrom M n i,x.length=n:=by
 intro x hx
 obtain⟨r,_,rfl⟩:=List.mem_map.1 hx
 simp
section
variable {w0 w w1:World} {g n cap:Nat} {b cp:Nat→Nat} {M:Mat}
theorem Own.low (h:Own w1 w g n b cp M) (hB:Below w0.heap.size w0 w1):Own w0 w g n b cp M:=
 ⟨Below.trans hB (h.below.mono hB.size),Nat.le_trans hB.size h.gb,fun j hj=>Nat.le_trans hB.size (h.bb j hj),h.inj,h.ne,h.cap,h.og,h.ob⟩
theorem Own.far (h:Own w0 w g n b cp M) {p:Addr} (hp:w0.heap.size≤p.block) (h1:p.block≠g) (h2: ∀j,j < n→b j≠p.block) (v:Value):Own w0 (w.setCell p v) g n b cp M:=
  ⟨h.below.setCell hp v,h.gb,h.bb,h.inj,h.ne,h.cap,
   fun j hj=>⟨by rw [cset_other (by intro e;exact h1 (congrArg Addr.block e))];exact(h.og j hj).1,by rw [fset];exact(h.og j hj).2⟩,
   fun j c hj hc=>⟨by rw [cset_other (by intro e;exact h2 j hj (congrArg Addr.block e).symm)];exact(h.ob j c hj hc).1,by rw [fset];exact(h.ob j c hj hc).2⟩⟩
theorem det_own (h:Own w0 w g n b cp M) (hcap:n≤cap) (hp:0 < n) (hn:n≤1000):
  Calls Try.prog 67 #[.slice (some ⟨g,0,none⟩) n cap] w fun e w'=>e= .returned (.int .i64 (dO n M))∧Below w.heap.size w w':=
 det_calls n (dO n M) (some ⟨g,0,none⟩) cap (rowsFrom M n 0) w (h.C 0 (by omega)) (by rw [rowsFrom_len];omega) (by rw [rowsFrom_len];omega) hp hn (fun x hx=>by rw [rowsFrom_rows M n 0 x hx,rowsFrom_len];omega) rfl
theorem copy_own (h:Own w0 w g n b cp M) (hcap:n≤cap) (hp:0 < n) (hn:n≤1000):
  Calls Try.prog 83 #[.slice (some ⟨g,0,none⟩) n cap] w fun e w'=> ∃(g2 cap2:Nat) (b2 cp2:Nat→Nat),e= .returned (.slice (some ⟨g2,0,none⟩) n cap2)∧n≤cap2∧Own w w' g2 n b2 cp2 (en (rowsFrom M n 0)):=by
 have hl:(rowsFrom M n 0).length=n:=by rw [rowsFrom_len];omega
 obtain⟨k,hk⟩:=evk (copy_eq (rowsFrom M n 0) (by omega) (fun x hx=>by rw [rowsFrom_rows M n 0 x hx];omega))
 have hc:=impl_copyRows.calls k (some ⟨g,0,none⟩) cap (rowsFrom M n 0) (rowsFrom M n 0) w (h.C 0 (by omega)) (by omega) hk
 rw [hl] at hc
 refine hc.mono ?_
 rintro e w' ⟨v,rfl,hS,hB⟩
 obtain⟨g2,cap2,b2,cp2,rfl,h1,h2⟩:=own_of_S (w0:=w) hS hB (by omega) (fun x hx=>by rw [rowsFrom_rows M n 0 x hx,hl])
 rw [hl] at h1 h2 ⊢
 exact⟨g2,cap2,b2,cp2,rfl,h1,h2⟩
end
def sl (n:Nat) (C:Mat) (right:List Int) (sg:Int) (i:Nat):Int:=wrap64 (sg*dO n (pcol (en (rowsFrom C n 0)) i right n))
def slL (n:Nat) (C:Mat) (right:List Int) (sg:Int) (i:Nat):List Int:=(List.range n).map fun u=>if u < i then sl n C right sg u else 0
theorem slL_zero (n:Nat) (C:Mat) (right:List Int) (sg:Int):List.replicate n (0:Int)=slL n C right sg 0:=by
 apply List.ext_getElem
 ·simp [slL]
 ·intro k h1 h2;simp [slL]
theorem slL_next (n:Nat) (C:Mat) (right:List Int) (sg:Int) (i:Nat) (h:i < n):(slL n C right sg i).set i (sl n C right sg i)=slL n C right sg (i+1):=by
 apply List.ext_getElem
 ·simp [slL]
 ·intro k h1 h2
  have hk:k < n:=by simpa [slL] using h2
  rw [List.getElem_set]
  simp only [slL,List.getElem_map,List.getElem_range]
  by_cases e:i=k
  ·subst e;rw [if_pos rfl,if_pos (by omega)]
  ·rw [if_neg e]
   by_cases c:k < i
   ·rw [if_pos c,if_pos (by omega)]
   ·rw [if_neg c,if_neg (by omega)]
theorem solve_calls (k n:Nat) (s D sg sz:Int) (cl:Nat→List Int) (A0:Option Addr) (c0:Nat) (M:List (List Int)) (A1:Option Addr) (c1:Nat) (Q:List Int) (A2:Option Addr) (c2:Nat) (right:List Int) (w:World) (hr0:Kd.C (Kd.slice 2 (Kd.int .i64)) w A0 M.length M) (hc0:M.length≤c0) (hr1:Kd.C (Kd.int .i64) w A1 Q.length Q) (hc1:Q.length≤c1) (hr2:Kd.C (Kd.int .i64) w A2 right.length right) (hc2:right.length≤c2) (hQ:Q.length=n) (hright:right.length=n) (hp:0 < n) (hn:n≤1000)
  (hcl: ∀i,i < n→ ∃t,impl_has.f s (i:Int)=some t∧impl_Problem_column.f k M Q (i:Int) t=some (cl i)∧(cl i).length=n)
  (hD:dO n (cM cl n)=D) (hsg:impl_sign.f D=some sg) (hsz:impl_size.f D=some sz):
  Calls Try.prog 93 #[.agg #[.slice A0 M.length c0, .slice A1 Q.length c1], .int .i64 s, .slice A2 right.length c2] w fun e w'=> ∃v0_:Value,e= .returned (if D=0 then .tuple #[v0_, .int .i64 0, .bool false] else .tuple #[v0_, .int .i64 sz, .bool true])∧Kd.R (Kd.int .i64) 2 w' w.heap.size (fun _=>True) v0_ (if D=0 then [] else slL n (cM cl n) right sg n)∧Below w.heap.size w w':=by
 have HR0:=q_ hr0;have HC0:=q_ hc0;have HR1:=q_ hr1;have HC1:=q_ hc1;have HR2:=q_ hr2;have HC2:=q_ hc2;have HQ:=q_ hQ;have HRI:=q_ hright;have HP:=q_ hp;have HN:=q_ hn;have HCL:=q_ hcl;have HD:=q_ hD;have HSG:=q_ hsg;have HSZ:=q_ hsz;have HB:=q_ (Below.refl w.heap.size w);clear hr0 hc0 hr1 hc1 hr2 hc2 hp hn hcl hD hsg hsz hQ;rw [hright];clear hright;have hn0:(0:Int)≤(n:Int):=by omega
 go_enter Try.func93,Try.ntmps93
 go_wp2_with (first | ((with_reducible refine gate_dst (N:=3) rfl ?_);refine be_ 3 #[.slice A0 M.length c0, .slice A1 Q.length c1] 27 ?_;intro gb hg w6 hbox hb;replace HB:=q_ (below_step HB.out hb);have BK:=q_ hbox;clear hb hbox hg;have hcz0:=cz_ BK 0;have hcz1:=cz_ BK 1))
 refine(columns_calls k n s cl A0 c0 M A1 c1 Q w6 (Kd.C_below HR0.out HB.out) HC0.out (Kd.C_below HR1.out HB.out) HC1.out HQ.out HP.out HN.out HCL.out).mono ?_
 rintro e w7 ⟨g,cap,b,cp,rfl,hcap,hO⟩;have n0_:=q_ (hO.low HB.out);have HCAP:=q_ hcap;clear hcz0 hcz1 BK HB hO hcap;have HO:=n0_;clear n0_
 go_wp2_with fail
 refine(det_own HO.out HCAP.out HP.out HN.out).mono ?_
 rintro e w8 ⟨rfl,hb⟩;rw [HD.out];replace HO:=q_ (HO.out.step hb);clear hb
 by_cases d0:D=0
 ·subst d0;go_wp2
  refine bodyPost_ret (results_list (rs:= [.tmp 6, .tmp 7, .tmp 8]) rfl (by simp) (.tmp (.tmp (.tmp .nil)))) rfl ?_
  exact⟨_,rfl,Kd.R_nil _ _ _ _ _,HO.out.below⟩
 ·have hd0:(D==0)=false:=by simpa using d0
  have D0:=q_ d0
  go_wp2_with (first | ((with_reducible refine gate_dst (N:=23) rfl ?_);refine Kd.R_make (w0:=w8) (Kd.int .i64) w8.heap.size 2 rfl (N:=23) rfl 25 _ _ rfl (n:Int) rfl rfl Try.underlying25 (.int .i64 0) 8 info2 rfl (by decide) (by decide) 0 (ok:=fun _=>True) (okp:=fun _=>True) rfl (fun _ hk=>hk) trivial hn0 (by have:=HN.out;omega) (Below.refl _ _) (Nat.le_refl _) ?_;intro v23 w9 ho hb hg2 hat;obtain⟨go,co,rfl,hgo1,hgo2,cells,hgoc⟩:=Kd.R_form ho (by have:=HP.out;simp;omega);simp only [Int.toNat_natCast,List.length_replicate] at ho ⊢;rw [slL_zero n (cM cl n) right sg] at ho;have HGO:Aside0 (w8.heap.size≤go):=⟨hgo1⟩;have HGL:=q_ (HO.out.og 0 HP.out).1;have HBL:=q_ (fun j (hj:j < n)=>(HO.out.ob j 0 hj HP.out).1);have n0_:=q_ (HO.out.step hb);have HRO:=q_ (Kd.R_lower ho HO.out.below.size);clear HO;have HO:=n0_;clear n0_ ho hb hg2 hat hgo1 hgo2 hgoc))
  have HSEP:Aside0 (w.heap.size≤go∧go≠g∧ ∀j,j < n→b j≠go):=⟨by
   have h1:=HGO.out;have h2:=lt_of_cell HGL.out;have h3:=HO.out.gb;refine⟨?_,?_,fun j hj=>?_⟩
   ·simp only at h2;omega
   ·simp only at h2;omega
   ·have h4:=lt_of_cell (HBL.out j hj);simp only at h4;omega⟩
  clear HGO HGL HBL
  go_loopg [26] n (fun gg v26 wr=> ∃i:Nat,i≤n∧n - i≤gg∧v26= .int .i64 (i:Int)∧Aside0 (Own w wr g n b cp (cM cl n))∧Aside0 (Kd.R (Kd.int .i64) 2 wr w.heap.size (fun _=>True) (.slice (some ⟨go,0,none⟩) n co) (slL n (cM cl n) right sg i)))
  case atStart=>exact⟨0,Nat.zero_le _,by omega,rfl,HO,HRO⟩
  case round=>
   clear HO HRO;obtain⟨i,hi,hg,rfl,HO,HRO⟩:=hrel;have HG:=q_ hg
   by_cases hlt:i < n
   ·have hltz:(i:Int) < (n:Int):=by omega
    have h0z:(0:Int)≤(i:Int):=by omega
    have HLT:=q_ hlt;have hi1:IntKind.i64.wrap ((i:Int)+1)=((i+1:Nat):Int):=by rw [IntWalk.i64_in _ (by have:=HN.out;omega)];rfl
    have HI1:=q_ hi1;clear hlt hi hg
    go_wp2_with fail
    refine(copy_own HO.out HCAP.out HP.out HN.out).mono ?_
    rintro e w10 ⟨g2,cap2,b2,cp2,rfl,hcap2,hO2⟩;have HCAP2:=q_ hcap2;have ae:=q_ hO2;clear hcap2 hO2
    go_wp2_with fail
    have hpc:=putO (w0:=wr) i HLT.out cap2 A2 c2 right ae.out HN.out (by rw [HRI.out];exact Nat.le_refl _) (fun W hK hB=>Kd.C_below HR2.out (Below.trans HO.out.below (hB.mono HO.out.below.size)));rw [HRI.out] at hpc;refine hpc.mono ?_
    clear hpc;rintro e w11 ⟨rfl,hO3,hK3⟩;have aa:=q_ hO3;clear hO3 hK3 ae
    go_wp2_with fail
    refine(impl_sign.calls D sg _ HSG.out).mono ?_
    rintro e w12 ⟨rfl,hd12⟩;replace aa:=q_ (aa.out.step hd12.below);clear hd12
    go_wp2_with fail
    refine(det_own aa.out HCAP2.out HP.out HN.out).mono ?_
    rintro e w13 ⟨rfl,hb13⟩;have hB13:Below wr.heap.size wr w13:=Below.trans aa.out.below (hb13.mono aa.out.below.size);replace HO:=q_ (HO.out.step hB13);replace HRO:=q_ (Kd.R_below HRO.out hB13);clear aa hb13 hB13;have hat:=Kd.R_celln 0 HRO.out (i:Int) (by omega) hltz;rw [Int.toNat_natCast] at hat;have hcg:=hat.1;have hfg:=hat.2;clear hat;have hput:=Kd.R_putg HRO.out (i:Int) (sl n (cM cl n) right sg i);rw [Int.toNat_natCast,slL_next _ _ _ _ _ HLT.out] at hput;have HPUT:=q_ hput.1;have HFAR:=q_ (HO.out.far (p:=⟨go,i,none⟩) HSEP.out.1 HSEP.out.2.1 HSEP.out.2.2 (.int .i64 (sl n (cM cl n) right sg i)));clear hput;go_wp2
    go_roundg (n - (i+1))
    case measure=>have:=HG.out;have:=HLT.out;omega
    case rel=>exact⟨i+1,by have:=HLT.out;omega,by omega,by first | rfl | (rw [HI1.out]) | (simp [HI1.out]),HFAR,HPUT⟩
   ·have hltz: ¬ (i:Int) < (n:Int):=by omega
    obtain rfl:i=n:=by omega
    go_wp2_with fail
    refine(impl_size.calls D sz _ HSZ.out).mono ?_
    rintro e w14 ⟨rfl,hb⟩;have n0_:=q_ (HO.out.step hb);have n1_:=q_ (Kd.R_below HRO.out hb);clear HO HRO hb;go_wp2
    refine bodyPost_ret (results_list (rs:= [.tmp 6, .tmp 7, .tmp 8]) rfl (by simp) (.tmp (.tmp (.tmp .nil)))) rfl ?_
    refine⟨.slice (some ⟨go,0,none⟩) i co,?_,?_,n0_.out.below⟩
    ·rfl
    ·exact n1_.out
end Go.Proofs.Ytbjljcpngbhkeaa.Hd
end
section
namespace Go.Proofs.Ytbjljcpngbhkeaa.Pr
open Go.RowKit Go.Proofs.YtbjljcpngbhkeaaW.PrintWords Go.Proofs.YtbjljcpngbhkeaaW.PrintLast Go.Proofs.YtbjljcpngbhkeaaW.PrintMore Go.Proofs.Ytbjljcpngbhkeaa.La Go.Proofs.Ytbjljcpngbhkeaa.Ma Go.Proofs.Ytbjljcpngbhkeaa.Hm Go.Proofs.Ytbjljcpngbhkeaa.Dt Go.Proofs.Ytbjljcpngbhkeaa.Hd
def colF (k:Nat) (M:List (List Int)) (Q:List Int) (s:Int) (i:Nat):Option (List Int):=(impl_has.f s (i:Int)).bind fun t=>impl_Problem_column.f k M Q (i:Int) t
def colOK (k:Nat) (M:List (List Int)) (Q:List Int) (s:Int) (n:Nat):Bool:=(List.range n).all fun i=>match colF k M Q s i with
 | some c=>c.length==n
 | none=>false
def colL (k:Nat) (M:List (List Int)) (Q:List Int) (s:Int) (i:Nat):List Int:=(colF k M Q s i).getD []
def impl_Problem_solve.f (k:Nat) (ae:List (List Int)) (aa:List Int) (a1:Int) (l2:List Int):Option (List Int × Int × Bool):=
 if 0 < aa.length∧aa.length≤1000∧l2.length=aa.length∧colOK k ae aa a1 aa.length=true then
  (impl_sign.f (dO aa.length (cM (colL k ae aa a1) aa.length))).bind fun sg=>(impl_size.f (dO aa.length (cM (colL k ae aa a1) aa.length))).bind fun sz=>
   some (if dO aa.length (cM (colL k ae aa a1) aa.length)=0 then([],0,false) else(slL aa.length (cM (colL k ae aa a1) aa.length) l2 sg aa.length,sz,true))
 else none
theorem colF_mono (k:Nat) (M:List (List Int)) (Q:List Int) (s:Int) (i:Nat):LeO (colF k M Q s i) (colF (k+1) M Q s i):=by
 unfold colF
 exact LeO.bind (LeO.refl _) (fun t=>impl_Problem_column.mono _ _ _ _ _)
theorem colOK_mono {k:Nat} {M:List (List Int)} {Q:List Int} {s:Int} {n:Nat} (h:colOK k M Q s n=true):colOK (k+1) M Q s n=true∧ ∀i,i < n→colL (k+1) M Q s i=colL k M Q s i:=by
 unfold colOK at h ⊢
 rw [List.all_eq_true] at h ⊢
 have key: ∀i,i < n→colF (k+1) M Q s i=colF k M Q s i∧ ∃c,colF k M Q s i=some c:=by
  intro i hi
  have:=h i (List.mem_range.2 hi)
  cases hc:colF k M Q s i with
  | none=>rw [hc] at this;cases this
  | some c=>exact⟨colF_mono k M Q s i c hc,c,rfl⟩
 refine⟨fun i hi=>?_,fun i hi=>?_⟩
 ·rw [(key i (List.mem_range.1 hi)).1];exact h i hi
 ·unfold colL;rw [(key i hi).1]
theorem impl_Problem_solve.mono: ∀a0 a1 a2 a3 k,LeO (impl_Problem_solve.f k a0 a1 a2 a3) (impl_Problem_solve.f (k+1) a0 a1 a2 a3):=by
 intro a0 a1 a2 a3 k r h
 unfold impl_Problem_solve.f at h ⊢
 split at h
 case isFalse=>cases h
 rename_i hc
 obtain⟨h1,h2,h3,h4⟩:=hc
 obtain⟨h5,hl⟩:=colOK_mono h4
 have hcm:cM (colL (k+1) a0 a1 a2) a1.length=cM (colL k a0 a1 a2) a1.length:=by
  funext a d
  unfold cM
  by_cases z:d < a1.length
  ·rw [if_pos z,if_pos z,hl d z]
  ·rw [if_neg z,if_neg z]
 rw [if_pos ⟨h1,h2,h3,h5⟩,hcm]
 exact h
theorem impl_Problem_solve.calls (k:Nat) (af:Option Addr) (ag:Nat) (ae:List (List Int)) (ah:Option Addr) (ai:Nat) (aa:List Int) (a1:Int) (A2:Option Addr) (c2:Nat) (l2:List Int) (r1:List Int) (r2:Int) (r3:Bool) (w:World) (aj:Kd.C (Kd.slice 2 (Kd.int .i64)) w af ae.length ae) (ak:ae.length≤ag) (aq:Kd.C (Kd.int .i64) w ah aa.length aa) (au:aa.length≤ai) (hr2:Kd.C (Kd.int .i64) w A2 l2.length l2) (hc2:l2.length≤c2) (h:impl_Problem_solve.f k ae aa a1 l2=some (r1,r2,r3)):
  Calls Try.prog 93 #[.agg #[.slice af ae.length ag, .slice ah aa.length ai], .int .i64 a1, .slice A2 l2.length c2] w fun e w'=> ∃v0_:Value,e= .returned (.tuple #[v0_, .int .i64 r2, .bool r3])∧Kd.R (Kd.int .i64) 2 w' w.heap.size (fun _=>True) v0_ r1∧Below w.heap.size w w':=by
 unfold impl_Problem_solve.f at h
 split at h
 case isFalse=>cases h
 rename_i hc
 obtain⟨h1,h2,h3,h4⟩:=hc;obtain⟨sg,hsg,h⟩:=Option.bind_eq_some_iff.mp h;obtain⟨sz,hsz,h⟩:=Option.bind_eq_some_iff.mp h;have h:=Option.some.inj h;have hcl: ∀i,i < aa.length→ ∃t,impl_has.f a1 (i:Int)=some t∧impl_Problem_column.f k ae aa (i:Int) t=some (colL k ae aa a1 i)∧(colL k ae aa a1 i).length=aa.length:=by
  intro i hi;unfold colOK at h4;rw [List.all_eq_true] at h4;have:=h4 i (List.mem_range.2 hi);unfold colL;cases hcf:colF k ae aa a1 i with
  | none=>rw [hcf] at this;cases this
  | some c=>
   rw [hcf] at this;obtain⟨t,ht1,ht2⟩:=Option.bind_eq_some_iff.mp hcf;exact⟨t,ht1,ht2,by simpa using this⟩
 have hs:=solve_calls k aa.length a1 (dO aa.length (cM (colL k ae aa a1) aa.length)) sg sz (colL k ae aa a1) af ag ae ah ai aa A2 c2 l2 w aj ak aq au hr2 hc2 rfl h3 h1 h2 hcl rfl hsg hsz
 by_cases d:dO aa.length (cM (colL k ae aa a1) aa.length)=0
 ·rw [if_pos d] at h;simp only [if_pos d] at hs;cases h
  exact hs
 ·rw [if_neg d] at h;simp only [if_neg d] at hs;cases h
  exact hs
end Go.Proofs.Ytbjljcpngbhkeaa.Pr
end
section
namespace Go.Proofs.Ytbjljcpngbhkeaa.Bz
open Go.RowKit Go.Proofs.YtbjljcpngbhkeaaW.PrintWords Go.Proofs.YtbjljcpngbhkeaaW.PrintMore Go.Proofs.Ytbjljcpngbhkeaa.Ma Go.Proofs.Ytbjljcpngbhkeaa.Dt Go.Proofs.Ytbjljcpngbhkeaa.Bd
theorem det_scal (L:Int): ∀n,det n (fun a b=>if a=b then L else 0)=L ^ n:=by
 intro n
 induction n with
 | zero=>simp [det]
 | succ n ih=>
  rw [det_succ,sm_one (k:=0) (by omega) (fun i _ h=>by rw [if_neg (by omega)];simp)]
  rw [det_congr (A:=mnr 0 (fun a b=>if a=b then L else 0)) (B:=fun a b=>if a=b then L else 0) (fun i j _ _=>by simp [mnr,up]),ih]
  rw [if_pos rfl,Int.pow_succ,show sg 0=1 from rfl]
  grind
theorem det_zero_col {n c:Nat} (hc:c < n) {A:Mat} (h: ∀i,i < n→A i c=0):det n A=0:=by
 have:=det_col_lin (A:=A) (B:=A) (C:=A) (s:=0) (t:=0) hc (fun i hi=>by rw [h i hi];simp) (fun i j _ _ _=>⟨rfl,rfl⟩)
 simpa using this
theorem det_1 (A:Mat):det 1 A=A 0 0:=by simp [det,sm,sg]
theorem det_2 (A:Mat):det 2 A=A 0 0*A 1 1 - A 0 1*A 1 0:=by
 simp [det,sm,sg,mnr,up]
 omega
def rs (i:Nat) (A:Mat) (r c:Nat):Int:=det i A*A r c - sm i (fun t=>det i (rset t (A r) A)*A t c)
theorem rs_zero (i:Nat) (A:Mat) (r:Nat) {j:Nat} (hj:j < i):rs i A r j=0:=by
 unfold rs
 rw [adj_row A (A r) hj];omega
theorem block_elim (i d:Nat) (A:Mat):det i A ^ d*det (i+d) A=det i A*det d (fun a b=>rs i A (i+a) (i+b)):=by
 let E:Mat:=fun a b=>if a < i then one a b else if b < i then - det i (rset b (A a) A) else if a=b then det i A else 0
 have hE:det (i+d) E=det i A ^ d:=by
  rw [det_block d i E (fun a b ha hb _=>by simp only [E,if_pos ha,one];rw [if_neg (by omega)])]
  rw [det_congr (A:=E) (B:=one) (fun a b ha _=>by simp only [E,if_pos ha]),det_one,Int.one_mul, ← det_scal]
  exact det_congr (fun a b _ _=>by simp only [sh,E];rw [if_neg (by omega),if_neg (by omega)];simp)
 have hlow (a b:Nat) (ha:i≤a) (ha2:a < i+d):mul (i+d) E A a b=rs i A a b:=by
  unfold mul
  rw [sm_split,sm_congr (f:=fun k=>E a k*A k b) (g:=fun k=>(-1)*(det i (rset k (A a) A)*A k b)) (fun k hk=>by simp only [E];rw [if_neg (by omega),if_pos hk];grind),sm_mul]
  rw [sm_one (n:=d) (k:=a - i) (by omega) (fun k hk hne=>by simp only [E];rw [if_neg (by omega),if_neg (by omega),if_neg (by omega)];simp)]
  simp only [E]
  rw [if_neg (by omega),if_neg (by omega),if_pos (by omega),show i+(a - i)=a from by omega]
  unfold rs
  omega
 have hup (a b:Nat) (ha:a < i):mul (i+d) E A a b=A a b:=by
  unfold mul
  rw [sm_one (k:=a) (by omega) (fun k hk hne=>by simp only [E,if_pos ha,one];rw [if_neg (by omega)];simp)]
  simp [E,ha,one]
 rw [← hE, ← det_mul,det_block' d i (mul (i+d) E A) (fun a b h1 h2 h3=>by rw [hlow a b h1 h2,rs_zero i A a h3])]
 rw [det_congr (A:=mul (i+d) E A) (B:=A) (fun a b ha _=>hup a b ha)]
 congr 1
 exact det_congr (fun a b ha _=>by simp only [sh];exact hlow _ _ (by omega) (by omega))
def bord (i r c:Nat) (A:Mat):Mat:=fun a b=>A (if a < i then a else r) (if b < i then b else c)
def bm (i r c:Nat) (A:Mat):Int:=det (i+1) (bord i r c A)
theorem rs_re (i:Nat) (A B:Mat) (r c r' c':Nat) (h1: ∀a b,a < i→b < i→B a b=A a b) (h2: ∀b,b < i→B r' b=A r b) (h3: ∀a,a < i→B a c'=A a c) (h4:B r' c'=A r c):rs i B r' c'=rs i A r c:=by
 unfold rs
 rw [det_congr (A:=B) (B:=A) h1,h4]
 congr 1
 refine sm_congr (fun t ht=>?_)
 rw [h3 t ht,det_congr (A:=rset t (B r') B) (B:=rset t (A r) A) (fun a b ha hb=>by
  unfold rset
  split
  ·exact h2 b hb
  ·exact h1 a b ha hb)]
theorem bm_rs {i:Nat} {A:Mat} (hL:det i A≠0) (r c:Nat):bm i r c A=rs i A r c:=by
 have h:=block_elim i 1 (bord i r c A)
 rw [det_1,det_congr (A:=bord i r c A) (B:=A) (n:=i) (fun a b ha hb=>by simp [bord,ha,hb]),Int.pow_succ,Int.pow_zero,Int.one_mul] at h
 rw [rs_re i A (bord i r c A) r c (i+0) (i+0) (fun a b ha hb=>by simp [bord,ha,hb]) (fun b hb=>by simp [bord,hb]) (fun a ha=>by simp [bord,ha]) (by simp [bord])] at h
 exact Int.eq_of_mul_eq_mul_left hL h
theorem sylv {i:Nat} {A:Mat} (hL:det i A≠0) (r c:Nat):det i A*bm (i+1) r c A=bm i i i A*bm i r c A - bm i i c A*bm i r i A:=by
 have h:=block_elim i 2 (bord (i+1) r c A)
 rw [det_2,det_congr (A:=bord (i+1) r c A) (B:=A) (n:=i) (fun a b ha hb=>by unfold bord;rw [if_pos (by omega),if_pos (by omega)])] at h
 have q (a b r' c':Nat) (ha:(if a < i+1 then a else r)=r') (hb:(if b < i+1 then b else c)=c'):rs i (bord (i+1) r c A) a b=rs i A r' c':=
  rs_re i A (bord (i+1) r c A) r' c' a b (fun x y hx hy=>by unfold bord;rw [if_pos (by omega),if_pos (by omega)]) (fun y hy=>by unfold bord;rw [ha,if_pos (by omega)]) (fun x hx=>by unfold bord;rw [hb,if_pos (by omega)]) (by unfold bord;rw [ha,hb])
 rw [q (i+0) (i+0) i i (by simp) (by simp),q (i+1) (i+1) r c (by simp) (by simp),q (i+0) (i+1) i c (by simp) (by simp),q (i+1) (i+0) r i (by simp) (by simp)] at h
 rw [← bm_rs hL, ← bm_rs hL, ← bm_rs hL, ← bm_rs hL] at h
 have e:det i A ^ 2*det (i+2) (bord (i+1) r c A)=det i A*(det i A*bm (i+1) r c A):=by unfold bm;grind
 rw [e] at h
 exact Int.eq_of_mul_eq_mul_left hL h
def fact:Nat→Nat
 | 0=>1
 | n+1=>(n+1)*fact n
def b20 (n:Nat):Nat:=fact n*20 ^ n
theorem sm_abs {n B:Nat} {f:Nat→Int} (h: ∀i,i < n→(f i).natAbs≤B):(sm n f).natAbs≤n*B:=by
 induction n with
 | zero=>simp [sm]
 | succ n ih=>
  have h1:=ih (fun i hi=>h i (by omega))
  have h2:=h n (by omega)
  have h3:=Int.natAbs_add_le (sm n f) (f n)
  simp only [sm]
  rw [Nat.add_mul,Nat.one_mul]
  omega
theorem sg_abs (k:Nat):(sg k).natAbs=1:=by unfold sg;split <;> rfl
theorem det_abs20: ∀(n:Nat) (A:Mat),(∀i j,i < n→j < n→(A i j).natAbs≤20)→(det n A).natAbs≤b20 n:=by
 intro n
 induction n with
 | zero=>intro A _;show (1:Int).natAbs≤1;decide
 | succ n ih=>
  intro A h
  rw [det_succ]
  refine Nat.le_trans (sm_abs (B:=20*b20 n) (fun k hk=>?_)) ?_
  ·rw [Int.natAbs_mul,Int.natAbs_mul,sg_abs,Nat.one_mul]
   exact Nat.mul_le_mul (h 0 k (by omega) hk) (ih (mnr k A) (fun i j hi hj=>h _ _ (by omega) (up_lt hj)))
  ·unfold b20;rw [fact,Nat.pow_succ]
   exact Nat.le_of_eq (by grind)
def Bk (n k:Nat) (A:Mat):Prop:= ∀i j,i < n→j < n→(A i j).natAbs≤if j=k then 100 else 20
theorem det_absk: ∀(n k:Nat) (A:Mat),Bk n k A→(det n A).natAbs≤5*b20 n:=by
 intro n
 induction n with
 | zero=>intro k A _;show (1:Int).natAbs≤5*1;decide
 | succ n ih=>
  intro k A h
  rw [det_succ]
  refine Nat.le_trans (sm_abs (B:=100*b20 n) (fun c hc=>?_)) ?_
  ·rw [Int.natAbs_mul,Int.natAbs_mul,sg_abs,Nat.one_mul]
   have h0:=h 0 c (by omega) hc
   by_cases e:c=k
   ·subst e
    rw [if_pos rfl] at h0
    exact Nat.mul_le_mul h0 (det_abs20 n (mnr c A) (fun i j hi hj=>by have:=h (i+1) (up c j) (by omega) (up_lt hj);rwa [if_neg (up_ne c j)] at this))
   ·rw [if_neg e] at h0
    have:=ih (dn c k) (mnr c A) (fun i j hi hj=>by
     have:=h (i+1) (up c j) (by omega) (up_lt hj)
     unfold mnr
     by_cases q:up c j=k
     ·rw [if_pos q] at this
      rw [if_pos (by rw [← q,dn_up])];exact this
     ·rw [if_neg q] at this
      split <;> omega)
    calc (A 0 c).natAbs*(det n (mnr c A)).natAbs≤20*(5*b20 n):=Nat.mul_le_mul h0 this
     _=100*b20 n:=by omega
  ·unfold b20;rw [fact,Nat.pow_succ]
   exact Nat.le_of_eq (by grind)
theorem b20_le: ∀n,n≤5→5*b20 n≤1920000000:=by
 intro n h
 match n,h with
 | 0,_=>decide
 | 1,_=>decide
 | 2,_=>decide
 | 3,_=>decide
 | 4,_=>decide
 | 5,_=>decide
 | n+6,h=>omega
theorem bm_abs {n k:Nat} (hn:n≤5) {A:Mat} (h:Bk n k A) {i r c:Nat} (hi:i < n) (hr:r < n) (hic:i≤c) (hc:c < n): -1920000000≤bm i r c A∧bm i r c A≤1920000000:=by
 have h1:(bm i r c A).natAbs≤5*b20 (i+1):=det_absk (i+1) (if k < i then k else i) _ (fun a b ha hb=>by
  unfold bord
  have:=h (if a < i then a else r) (if b < i then b else c) (by split <;> omega) (by split <;> omega)
  refine Nat.le_trans this ?_
  grind)
 have h2:=b20_le (i+1) (by omega)
 omega
theorem prod_b {x y:Int} (hx: -1920000000≤x∧x≤1920000000) (hy: -1920000000≤y∧y≤1920000000): -3686400000000000000≤x*y∧x*y≤3686400000000000000:=by
 have h:(x*y).natAbs≤1920000000*1920000000:=by rw [Int.natAbs_mul];exact Nat.mul_le_mul (by omega) (by omega)
 omega
structure Inv (n k i:Nat) (M:Mat) (last turn:Int) (A A0:Mat):Prop where
 le:i≤n
 small:Bk n k A
 num: ∀r c,i≤r→r < n→i≤c→c < n→M r c=bm i r c A
 last_:last=det i A
 nz:last≠0
 turn_:turn=1∨turn= -1
 det_:turn*det n A=det n A0
section
variable {n k:Nat} (hn:n≤5) {A0:Mat}
include hn
theorem Inv.step {i:Nat} {M A:Mat} {last turn:Int} (h:Inv n k i M last turn A A0) (hi:i < n) (hp:M i i≠0):Inv n k (i+1) (el M i last) (M i i) turn A A0:=by
 have hL:det i A≠0:=by rw [← h.last_];exact h.nz
 have hpi:=h.num i i (Nat.le_refl _) hi (Nat.le_refl _) hi
 refine⟨by omega,h.small,fun r c hr hrn hc hcn=>?_,?_,hp,h.turn_,h.det_⟩
 ·unfold el ev
  rw [if_pos (by omega),h.num r c (by omega) hrn (by omega) hcn,hpi,h.num r i (by omega) hrn (Nat.le_refl _) hi,h.num i c (Nat.le_refl _) hi (by omega) hcn]
  have p1:=prod_b (bm_abs hn h.small hi hrn (by omega) hcn) (bm_abs hn h.small hi hi (Nat.le_refl _) hi)
  have p2:=prod_b (bm_abs hn h.small hi hrn (Nat.le_refl _) hi) (bm_abs hn h.small hi hi (by omega) hcn)
  have s:=sylv hL r c
  have e:bm i r c A*bm i i i A - bm i r i A*bm i i c A=det i A*bm (i+1) r c A:=by rw [s];grind
  have b:=bm_abs hn h.small (i:=i+1) (r:=r) (c:=c) (by omega) hrn hc hcn
  rw [w64 (x:=bm i r c A*bm i i i A) (by omega) (by omega),w64 (x:=bm i r i A*bm i i c A) (by omega) (by omega),w64 (x:=bm i r c A*bm i i i A - bm i r i A*bm i i c A) (by omega) (by omega),e,h.last_,Int.mul_tdiv_cancel_left _ hL]
  exact w64 (by omega) (by omega)
 ·rw [hpi];unfold bm
  exact det_congr (fun a b ha hb=>by
   unfold bord
   have e1:(if a < i then a else i)=a:=by split <;> omega
   have e2:(if b < i then b else i)=b:=by split <;> omega
   rw [e1,e2])
theorem Inv.none_ {i:Nat} {M A:Mat} {last turn:Int} (h:Inv n k i M last turn A A0) (hi:i < n) (hz: ∀r,i≤r→r < n→M r i=0):det n A0=0:=by
 have _h:=hn
 have hL:det i A≠0:=by rw [← h.last_];exact h.nz
 have b:=block_elim i (n - i) A
 rw [show i+(n - i)=n from by omega,det_zero_col (c:=0) (A:=fun a b=>rs i A (i+a) (i+b)) (by omega) (fun a ha=>by
  rw [← bm_rs hL,Nat.add_zero, ← h.num (i+a) i (by omega) (by omega) (Nat.le_refl _) hi];exact hz _ (by omega) (by omega)),Int.mul_zero] at b
 have:det n A=0:=by
  rcases Int.mul_eq_zero.1 b with b | b
  ·exact absurd b (Int.pow_ne_zero hL)
  ·exact b
 rw [← h.det_,this,Int.mul_zero]
theorem Inv.swap {i s:Nat} {M A:Mat} {last turn:Int} (h:Inv n k i M last turn A A0) (his:i < s) (hs:s < n):Inv n k i (swp M i s) last (wrap64 (-turn)) (swp A i s) A0:=by
 have _h:=hn
 have hsr (r:Nat) (hr:r < n):(if r=i then s else if r=s then i else r) < n:=by grind
 have hlow (a:Nat) (ha:a < i):(if a=i then s else if a=s then i else a)=a:=by rw [if_neg (by omega),if_neg (by omega)]
 have w:wrap64 (-turn)= -turn:=w64 (by have:=h.turn_;omega) (by have:=h.turn_;omega)
 refine⟨h.le,fun a b ha hb=>h.small _ _ (hsr a ha) hb,fun r c hr hrn hc hcn=>?_,?_,h.nz,by rw [w];have:=h.turn_;omega,?_⟩
 ·unfold swp
  rw [h.num _ c (by grind) (hsr r hrn) hc hcn]
  unfold bm
  refine det_congr (fun a b _ _=>?_)
  unfold bord
  by_cases ha:a < i
  ·simp only [if_pos ha];rw [hlow a ha]
  ·simp only [if_neg ha]
 ·rw [h.last_]
  exact det_congr (fun a b ha _=>by unfold swp;rw [hlow a ha])
 ·have e:=(det_form n).swap (r:=i) (q:=s) (A:=A) (B:=swp A i s) (by omega) hs (by omega) (fun j _=>⟨by unfold swp;rw [if_pos rfl],by unfold swp;rw [if_neg (by omega),if_pos rfl]⟩) (fun a b _ _ h1 h2=>by unfold swp;rw [if_neg h1,if_neg h2])
  rw [e,w, ← h.det_]
  grind
theorem dgo_inv: ∀(q i:Nat),i+q=n→ ∀(M A:Mat) (last turn:Int),Inv n k i M last turn A A0→dgo n q i M last turn=det n A0:=by
 intro q
 induction q with
 | zero=>
  intro i hi M A last turn h
  obtain rfl:i=n:=by omega
  show wrap64 (turn*last)=_
  rw [h.last_,h.det_]
  have b:=det_absk i k A h.small
  have b2:=b20_le i hn
  have t:=h.turn_
  have e:=h.det_
  have:(det i A0).natAbs=(det i A).natAbs:=by
   rw [← e,Int.natAbs_mul]
   rcases t with t | t <;> rw [t] <;> simp
  exact w64 (by omega) (by omega)
 | succ q ih=>
  intro i hi M A last turn h
  unfold dgo
  cases hf:fnd M i (n - i) 0 with
  | none=>
   have hz:=fnd_none hf
   exact(h.none_ hn (by omega) (fun r h1 h2=>by have:=hz (r - i) (Nat.zero_le _) (by omega);rwa [show i+(r - i)=r from by omega] at this)).symm
  | some kk=>
   obtain⟨_,h2,h3,_⟩:=fnd_some hf
   cases kk with
   | zero=>exact ih (i+1) (by omega) _ A _ _ (h.step hn (by omega) h3)
   | succ kk=>
    have hs:=h.swap hn (s:=i+(kk+1)) (by omega) (by omega)
    exact ih (i+1) (by omega) _ _ _ _ (hs.step hn (by omega) (by unfold swp;rw [if_pos rfl];exact h3))
end
theorem dgo_det {n k:Nat} (hn:n≤5) (A:Mat) (h:Bk n k A):dgo n n 0 A 1 1=det n A:=by
 refine dgo_inv hn (k:=k) n 0 (by omega) A A 1 1 ⟨Nat.zero_le _,h,fun r c _ _ _ _=>?_,rfl,by decide, .inl rfl,Int.one_mul _⟩
 unfold bm
 rw [det_1];simp [bord]
end Go.Proofs.Ytbjljcpngbhkeaa.Bz
end
section
namespace Go.Proofs.Ytbjljcpngbhkeaa.Un
open Go.RowKit Go.Proofs.YtbjljcpngbhkeaaW.PrintWords Go.Proofs.YtbjljcpngbhkeaaW.PrintMore Go.Proofs.Ytbjljcpngbhkeaa.Ma Go.Proofs.Ytbjljcpngbhkeaa.Dt Go.Proofs.Ytbjljcpngbhkeaa.Bz
def colM (P:Nat→Bool) (M:Mat):Mat:=fun i k=>if P k=true then - M i k else if i=k then 1 else 0
end Go.Proofs.Ytbjljcpngbhkeaa.Un
end
section
namespace Go.Proofs.Ytbjljcpngbhkeaa.Pr
open Go.RowKit Go.Proofs.YtbjljcpngbhkeaaW.PrintWords Go.Proofs.YtbjljcpngbhkeaaW.PrintLast Go.Proofs.YtbjljcpngbhkeaaW.PrintMore
attribute [local go_sem] max2_int min2_int max_two min_two max_three min_three max_four min_four
mutual
def spec_l01Columns.l0:Nat→List (List Int)→Int→List (List Int)→Int→Option ((List (List Int)))
 | 0,_,_,_,_=>none
 | k+1,x0,x1,x5,x6=>if x6 < (x0.length:Int) then(spec_l01Columns.l1 k x0 x1 x5 x6 (([]:List Int)) 0) else(some x5)
def spec_l01Columns.l1:Nat→List (List Int)→Int→List (List Int)→Int→List Int→Int→Option ((List (List Int)))
 | 0,_,_,_,_,_,_=>none
 | k+1,x0,x1,x5,x6,x7,x8=>if x8 < (x0.length:Int) then(if 0≤(IntKind.u64.wrap (x8)) then(if(Go.bits .and .i64 (shr .i64 x1 (IntKind.u64.wrap (x8))) 1)=1 then(if 0≤x6 then(if x6 < (x0.length:Int) then(if 0≤x8 then(if x8 < ((rd_L2 x0 x6).length:Int) then(if x7.length < 17592186044416 then(spec_l01Columns.l1 k x0 x1 x5 x6 (x7++ [wrap64 (-(rd (rd_L2 x0 x6) x8))]) (wrap64 (x8+1))) else(none)) else(none)) else(none)) else(none)) else(none)) else(if x6=x8 then(if x7.length < 17592186044416 then(spec_l01Columns.l1 k x0 x1 x5 x6 (x7++ [1]) (wrap64 (x8+1))) else(none)) else(if x7.length < 17592186044416 then(spec_l01Columns.l1 k x0 x1 x5 x6 (x7++ [0]) (wrap64 (x8+1))) else(none)))) else(none)) else(if x5.length < 5864062014805 then(spec_l01Columns.l0 k x0 x1 (x5++ [x7]) (wrap64 (x6+1))) else(none))
end
def spec_l01Columns.f (k:Nat) (l0:List (List Int)) (a1:Int):Option ((List (List Int))):=spec_l01Columns.l0 k l0 a1 (([]:List (List Int))) 0
theorem spec_l01Columns.mono_l: ∀k,(∀y0 y1 y2 y3,LeO (spec_l01Columns.l0 k y0 y1 y2 y3) (spec_l01Columns.l0 (k+1) y0 y1 y2 y3))∧(∀y0 y1 y2 y3 y4 y5,LeO (spec_l01Columns.l1 k y0 y1 y2 y3 y4 y5) (spec_l01Columns.l1 (k+1) y0 y1 y2 y3 y4 y5))
 | 0=>⟨fun _ _ _ _ r h=>by simp [spec_l01Columns.l0] at h,fun _ _ _ _ _ _ r h=>by simp [spec_l01Columns.l1] at h⟩
 | k+1=>by
  obtain⟨ih0,ih1⟩:=spec_l01Columns.mono_l k
  refine⟨?_,?_⟩<;>intros<;>(first | unfold spec_l01Columns.l0 | unfold spec_l01Columns.l1)<;>(repeat' first | (with_reducible first | exact ih0 _ _ _ _ | exact ih1 _ _ _ _ _ _ | exact LeO.refl _ | exact LeO.none _ | refine LeO.ite ?_ ?_ | refine LeO.bind ?_ (fun _=>?_)) | exact ih0 _ _ _ _ | exact ih1 _ _ _ _ _ _ | exact LeO.none _ | refine LeO.ite ?_ ?_ | refine LeO.bind ?_ (fun _=>?_))
theorem spec_l01Columns.mono: ∀a0 a1 k,LeO (spec_l01Columns.f k a0 a1) (spec_l01Columns.f (k+1) a0 a1):=by
 intro a0 a1 k
 obtain⟨ih0,ih1⟩:=spec_l01Columns.mono_l k
 unfold spec_l01Columns.f
 repeat' first | (with_reducible first | exact ih0 _ _ _ _ | exact ih1 _ _ _ _ _ _ | exact LeO.refl _ | exact LeO.none _ | refine LeO.ite ?_ ?_ | refine LeO.bind ?_ (fun _=>?_)) | exact ih0 _ _ _ _ | exact ih1 _ _ _ _ _ _ | exact LeO.none _ | refine LeO.ite ?_ ?_ | refine LeO.bind ?_ (fun _=>?_)
theorem spec_l01Columns.calls (k:Nat) (A0:Option Addr) (c0:Nat) (l0:List (List Int)) (a1:Int) (r:List (List Int)) (w:World) (hr0:Kd.C (Kd.slice 2 (Kd.int .i64)) w A0 l0.length l0) (hc0:l0.length≤c0) (h:spec_l01Columns.f k l0 a1=some r):
  Calls Try.prog 57 #[.slice A0 l0.length c0, .int .i64 a1] w fun e w'=> ∃v0_:Value,e= .returned (v0_)∧Kd.S (Kd.slice 2 (Kd.int .i64)) 25 w' w.heap.size (fun _=>True) v0_ r∧Below w.heap.size w w':=by
 have HR0:=q_ hr0;have HC0:=q_ hc0;clear hr0 hc0;have HB:=q_ (Below.refl w.heap.size w);have H:(spec_l01Columns.l0 k l0 a1 (([]:List (List Int))) 0)=some r:=h;clear h;obtain⟨aq,hy⟩: ∃y_:List (List Int),y_=(([]:List (List Int))):=⟨_,rfl⟩
 replace H:(spec_l01Columns.l0 k l0 a1 aq 0)=some r:=hh_;have aj:=q_ hy;clear hy;have H':=q_ H;clear H
 go_enter Try.func57,Try.ntmps57
 go_wp2_with (first | ((with_reducible refine gate_dst (N:=9) rfl ?_);refine Kd.S_lit (Kd.slice 2 (Kd.int .i64)) _ 25 ?hg (N:=9) ?hd (xs:=([]:List (List Int))) (inner:= []) (ok:=fun _=>True) (okp:=fun _=>True) ?hr ?hp (fun _ hk=>hk) trivial (Below.refl _ _) (Nat.le_refl _) (by simp) ?_;(case hd=>rfl);(case hg=>rfl);(case hr=>first | (go_simp;done) | (go_simp;rfl));(case hp=>exact(Reps.none _ _));intro bf w3 ho4 hb hg_ hnew_;clear hg_ hnew_;(first | rw [← aj.out] at ho4 | (simp only [Int.reduceToNat] at ho4;rw [← aj.out] at ho4));have aC:=q_ (Kd.S_lower ho4 bz_);replace HB:=q_ (bs_ hb);clear hb ho4))
 go_loopg [5,6] k (fun kq v5 v6 w'=> ∃(ag:List (List Int)) (aa:Int),v6= .int .i64 aa∧Aside0 (spec_l01Columns.l0 kq l0 a1 ag aa=some r)∧Aside0 (kq≤k)∧Aside0 (Kd.S (Kd.slice 2 (Kd.int .i64)) 25 w' w.heap.size (fun _=>True) v5 ag)∧Aside0 (Below w.heap.size w w'))
 case atStart=>exact⟨(aq),(0),rs_,H',⟨Nat.le_refl _⟩,⟨so_ aC.out⟩,⟨hb_⟩⟩
 case round=>
  clear H';obtain⟨ag,aa,rfl,HA,HK1,ah,HB⟩:=hrel;cases gk with
  | zero=>exact absurd HA.out (by simp [spec_l01Columns.l0])
  | succ k1=>
   have H:=HA.out;clear HA;simp only [spec_l01Columns.l0] at H
   by_cases c5:aa < (l0.length:Int)
   ·rw [if_pos c5] at H;have c5b0:=decide_eq_true c5;clear c5;obtain⟨au,hy⟩: ∃y_:List Int,y_=(([]:List Int)):=⟨_,rfl⟩
    replace H:(spec_l01Columns.l1 k1 l0 a1 ag aa au 0)=some r:=hh_;have ak:=q_ hy;clear hy;have H':=q_ H;clear H
    go_wp2_with (first | ((with_reducible refine gate_dst (N:=16) rfl ?_);refine Kd.R_lit (Kd.int .i64) _ 2 ?hg (N:=16) ?hd (xs:=([]:List Int)) (inner:= []) (ok:=fun _=>True) (okp:=fun _=>True) ?hr ?hp (fun _ hk=>hk) trivial (Below.refl _ _) (Nat.le_refl _) (by simp) ?_;(case hd=>rfl);(case hg=>rfl);(case hr=>first | (go_simp;done) | (go_simp;rfl));(case hp=>exact(Reps.none _ _));intro bg w6 ho7 hb hg_ hnew_;clear hg_ hnew_;(first | rw [← ak.out] at ho7 | (simp only [Int.reduceToNat] at ho7;rw [← ak.out] at ho7));replace ah:=q_ (Kd.S_elder' (so_ ah.out) (Kd.R_base ho7) hb);have aD:=q_ (Kd.R_lower ho7 bz_);replace HB:=q_ (bs_ hb);clear hb ho7))
    go_loopg [7,8] k1 (fun kq v7 v8 w'=> ∃(af:List Int) (ae:Int),v8= .int .i64 ae∧Aside0 (spec_l01Columns.l1 kq l0 a1 ag aa af ae=some r)∧Aside0 (kq≤k1)∧Aside0 (Kd.S (Kd.slice 2 (Kd.int .i64)) 25 w' w.heap.size (fun k_=>some k_≠(v7:Value).ownBlock) u5 ag)∧Aside0 (Kd.R (Kd.int .i64) 2 w' w.heap.size (fun _=>True) v7 af)∧Aside0 (Below w.heap.size w w'))
    case atStart=>exact⟨(au),(0),rs_,H',⟨Nat.le_refl _⟩,⟨by(with_reducible repeat (first | apply Kd.S_alloc | apply Kd.S_drewN | apply Kd.S_drew));exact Kd.S_mono ah.out (fun _ hk=>hk.2)⟩,⟨ro_ aD.out⟩,⟨hb_⟩⟩
    case round=>
     clear H';(try clear c5b0);obtain⟨af,ae,rfl,HA,HK2,ah,ai,HB⟩:=hrel;cases gk with
     | zero=>exact absurd HA.out (by simp [spec_l01Columns.l1])
     | succ k2=>
      have H:=HA.out;clear HA;simp only [spec_l01Columns.l1] at H
      by_cases c8:ae < (l0.length:Int)
      ·rw [if_pos c8] at H;have c8b0:=decide_eq_true c8;clear c8;obtain⟨ji9,hji9⟩: ∃j_:Int,(IntKind.u64.wrap (ae))=j_:=⟨_,rfl⟩
       replace H:(if 0≤(ji9) then(if(Go.bits .and .i64 (shr .i64 a1 (ji9)) 1)=1 then(if 0≤aa then(if aa < (l0.length:Int) then(if 0≤ae then(if ae < ((rd_L2 l0 aa).length:Int) then(if af.length < 17592186044416 then(spec_l01Columns.l1 k2 l0 a1 ag aa (af++ [wrap64 (-(rd (rd_L2 l0 aa) ae))]) (wrap64 (ae+1))) else(none)) else(none)) else(none)) else(none)) else(none)) else(if aa=ae then(if af.length < 17592186044416 then(spec_l01Columns.l1 k2 l0 a1 ag aa (af++ [1]) (wrap64 (ae+1))) else(none)) else(if af.length < 17592186044416 then(spec_l01Columns.l1 k2 l0 a1 ag aa (af++ [0]) (wrap64 (ae+1))) else(none)))) else(none))=some r:=by first | (rw [hji9] at H;exact H) | (simp only [hji9] at H ⊢;exact H)
       by_cases c10:0≤(ji9)
       ·rw [if_pos c10] at H;have c10b0:=eq_true c10;have c10b1:=decide_eq_true c10;clear c10;obtain⟨ji11,hji11⟩: ∃j_:Int,(shr .i64 a1 (ji9))=j_:=⟨_,rfl⟩
        replace H:(if(Go.bits .and .i64 (ji11) 1)=1 then(if 0≤aa then(if aa < (l0.length:Int) then(if 0≤ae then(if ae < ((rd_L2 l0 aa).length:Int) then(if af.length < 17592186044416 then(spec_l01Columns.l1 k2 l0 a1 ag aa (af++ [wrap64 (-(rd (rd_L2 l0 aa) ae))]) (wrap64 (ae+1))) else(none)) else(none)) else(none)) else(none)) else(none)) else(if aa=ae then(if af.length < 17592186044416 then(spec_l01Columns.l1 k2 l0 a1 ag aa (af++ [1]) (wrap64 (ae+1))) else(none)) else(if af.length < 17592186044416 then(spec_l01Columns.l1 k2 l0 a1 ag aa (af++ [0]) (wrap64 (ae+1))) else(none))))=some r:=by first | (rw [hji11] at H;exact H) | (simp only [hji11] at H ⊢;exact H)
        have hji11_:(a1 / 2 ^ min (ji9).toNat 64)=ji11:=hji11;have hji11z:(ji9)≤64→(a1 / 2 ^ (ji9).toNat)=ji11:=shr_small hji11
        by_cases c12:(Go.bits .and .i64 (ji11) 1)=1
        ·rw [if_pos c12] at H;have c12b0:=e1_ c12;have c12b1:=e2_ c12;clear c12
         by_cases c13:0≤aa
         ·rw [if_pos c13] at H;have c13b0:=decide_eq_true c13;clear c13
          by_cases c14:aa < (l0.length:Int)
          ·rw [if_pos c14] at H;have c14b0:=decide_eq_true c14;clear c14
           by_cases c15:0≤ae
           ·rw [if_pos c15] at H;have c15b0:=decide_eq_true c15;clear c15
            by_cases c16:ae < ((rd_L2 l0 aa).length:Int)
            ·rw [if_pos c16] at H;have c16b0:=decide_eq_true c16;clear c16
             by_cases c17:af.length < 17592186044416
             ·rw [if_pos c17] at H;have aG:=q_ c17;clear c17;obtain⟨av,hy⟩: ∃y_:List Int,y_=(af++ [wrap64 (-(rd (rd_L2 l0 aa) ae))]):=⟨_,rfl⟩
              replace H:(spec_l01Columns.l1 k2 l0 a1 ag aa av (wrap64 (ae+1)))=some r:=hh_;have aH:=q_ hy;clear hy;have H':=q_ H;clear H;have p360:0≤(aa:Int):=od_;have q360:aa < (l0.length:Int):=od_;obtain⟨a9,aY,aZ,e360,hx360_0,hl360_0,hi360_0⟩:=at_L2 HR0.out aa p360 q360;cases e360
              replace hx360_0:=(HB.out.cell (World.block_lt_of_cell? w _ hx360_0)).trans hx360_0;have HR360_0:=q_ hi360_0;have HC360_0:=q_ hl360_0;clear hi360_0 hl360_0;replace p360:=eq_true p360;replace q360:=eq_true q360;have p361:0≤(ae:Int):=od_;have q361:ae < ((rd_L2 l0 aa).length:Int):=od_;obtain⟨ba,e361,hx361_0⟩:=Kd.at_int HR360_0.out ae p361 q361;cases e361
              replace hx361_0:=(HB.out.cell (World.block_lt_of_cell? w _ hx361_0)).trans hx361_0;replace p361:=eq_true p361;replace q361:=eq_true q361
              go_wp2_with (first | ((with_reducible refine gate_builtin (b:= .append) (xs:= #[.tmp 33, .tmp 42]) rfl ?_);at_builtin;refine Kd.R_append (Kd.int .i64) (w0:=w) w.heap.size rfl (.tmp 33) (.tmp 42) 25 2 (.int .i64 0) 8 rfl Try.underlying25 info2 rfl (by decide) (by omega) u7 af (wrap64 (-(rd (rd_L2 l0 aa) ae))) [.int .i64 (wrap64 (-(rd (rd_L2 l0 aa) ae)))] (fun _=>True) (fun _=>False) rfl rfl ?aP (fun _ hk=>hk.elim) ?aF ?aO ?aB ?aS ?aL ?_;(case aP=>exact rfl);(case aB=>exact hb_);(case aF=>exact(fun _ _=>trivial));(case aO=>exact(ro_ ai.out));(case aS=>exact bz_);(case aL=>have:=aG.out;omega);intro bh w18 ho hb hg hat;rw [← aH.out] at ho;replace ah:=q_ (Kd.S_after (ok:=(fun _=>True)) (by(with_reducible repeat (first | apply Kd.S_alloc | apply Kd.S_drewN | apply Kd.S_drew));exact Kd.S_mono ah.out (fun _ hk=>⟨trivial,hk⟩)) hg hat);replace HB:=q_ (hb);have aI:=q_ (ho);clear ai ho hb hg hat))
              go_roundg k2
              case measure=>have:=HK1.out;have:=HK2.out;omega
              case rel=>exact⟨(av),(wrap64 (ae+1)),rs_,H',⟨by have:=HK1.out;have:=HK2.out;omega⟩,⟨by(with_reducible repeat (first | apply Kd.S_alloc | apply Kd.S_drewN | apply Kd.S_drew));exact Kd.S_mono ah.out (fun _ hk=>hk.2)⟩,⟨ro_ aI.out⟩,⟨hb_⟩⟩
             ·rw [if_neg c17] at H;exact absurd H (by simp)
            ·rw [if_neg c16] at H;exact absurd H (by simp)
           ·rw [if_neg c15] at H;exact absurd H (by simp)
          ·rw [if_neg c14] at H;exact absurd H (by simp)
         ·rw [if_neg c13] at H;exact absurd H (by simp)
        ·rw [if_neg c12] at H;have c12b0:=e3_ c12;have c12b1:=e4_ c12
         by_cases c19:aa=ae
         ·rw [if_pos c19] at H;have c19b0:=e1_ c19;have c19b1:=e2_ c19;clear c19
          by_cases c20:af.length < 17592186044416
          ·rw [if_pos c20] at H;have aJ:=q_ c20;clear c20;obtain⟨aw,hy⟩: ∃y_:List Int,y_=(af++ [1]):=⟨_,rfl⟩
           replace H:(spec_l01Columns.l1 k2 l0 a1 ag aa aw (wrap64 (ae+1)))=some r:=hh_;have aK:=q_ hy;clear hy;have H':=q_ H;clear H
           go_wp2_with (first | ((with_reducible refine gate_builtin (b:= .append) (xs:= #[.tmp 48, .tmp 49]) rfl ?_);at_builtin;refine Kd.R_append (Kd.int .i64) (w0:=w) w.heap.size rfl (.tmp 48) (.tmp 49) 25 2 (.int .i64 0) 8 rfl Try.underlying25 info2 rfl (by decide) (by omega) u7 af 1 [.int .i64 1] (fun _=>True) (fun _=>False) rfl rfl ?aP (fun _ hk=>hk.elim) ?aF ?aO ?aB ?aS ?aL ?_;(case aP=>exact rfl);(case aB=>exact hb_);(case aF=>exact(fun _ _=>trivial));(case aO=>exact(ro_ ai.out));(case aS=>exact bz_);(case aL=>have:=aJ.out;omega);intro bk w21 ho hb hg hat;rw [← aK.out] at ho;replace ah:=q_ (Kd.S_after (ok:=(fun _=>True)) (by(with_reducible repeat (first | apply Kd.S_alloc | apply Kd.S_drewN | apply Kd.S_drew));exact Kd.S_mono ah.out (fun _ hk=>⟨trivial,hk⟩)) hg hat);replace HB:=q_ (hb);have aM:=q_ (ho);clear ai ho hb hg hat))
           go_roundg k2
           case measure=>have:=HK1.out;have:=HK2.out;omega
           case rel=>exact⟨(aw),(wrap64 (ae+1)),rs_,H',⟨by have:=HK1.out;have:=HK2.out;omega⟩,⟨by(with_reducible repeat (first | apply Kd.S_alloc | apply Kd.S_drewN | apply Kd.S_drew));exact Kd.S_mono ah.out (fun _ hk=>hk.2)⟩,⟨ro_ aM.out⟩,⟨hb_⟩⟩
          ·rw [if_neg c20] at H;exact absurd H (by simp)
         ·rw [if_neg c19] at H;have c19b0:=e3_ c19;have c19b1:=e4_ c19
          by_cases c22:af.length < 17592186044416
          ·rw [if_pos c22] at H;have aN:=q_ c22;clear c22;obtain⟨ax,hy⟩: ∃y_:List Int,y_=(af++ [0]):=⟨_,rfl⟩
           replace H:(spec_l01Columns.l1 k2 l0 a1 ag aa ax (wrap64 (ae+1)))=some r:=hh_;have aQ:=q_ hy;clear hy;have H':=q_ H;clear H
           go_wp2_with (first | ((with_reducible refine gate_builtin (b:= .append) (xs:= #[.tmp 23, .tmp 24]) rfl ?_);at_builtin;refine Kd.R_append (Kd.int .i64) (w0:=w) w.heap.size rfl (.tmp 23) (.tmp 24) 25 2 (.int .i64 0) 8 rfl Try.underlying25 info2 rfl (by decide) (by omega) u7 af 0 [.int .i64 0] (fun _=>True) (fun _=>False) rfl rfl ?aP (fun _ hk=>hk.elim) ?aF ?aO ?aB ?aS ?aL ?_;(case aP=>exact rfl);(case aB=>exact hb_);(case aF=>exact(fun _ _=>trivial));(case aO=>exact(ro_ ai.out));(case aS=>exact bz_);(case aL=>have:=aN.out;omega);intro bq w23 ho hb hg hat;rw [← aQ.out] at ho;replace ah:=q_ (Kd.S_after (ok:=(fun _=>True)) (by(with_reducible repeat (first | apply Kd.S_alloc | apply Kd.S_drewN | apply Kd.S_drew));exact Kd.S_mono ah.out (fun _ hk=>⟨trivial,hk⟩)) hg hat);replace HB:=q_ (hb);have aT:=q_ (ho);clear ai ho hb hg hat))
           go_roundg k2
           case measure=>have:=HK1.out;have:=HK2.out;omega
           case rel=>exact⟨(ax),(wrap64 (ae+1)),rs_,H',⟨by have:=HK1.out;have:=HK2.out;omega⟩,⟨by(with_reducible repeat (first | apply Kd.S_alloc | apply Kd.S_drewN | apply Kd.S_drew));exact Kd.S_mono ah.out (fun _ hk=>hk.2)⟩,⟨ro_ aT.out⟩,⟨hb_⟩⟩
          ·rw [if_neg c22] at H;exact absurd H (by simp)
       ·rw [if_neg c10] at H;exact absurd H (by simp)
      ·rw [if_neg c8] at H;have c8b0:=decide_eq_false c8;clear c8
       by_cases c24:ag.length < 5864062014805
       ·rw [if_pos c24] at H;have aU:=q_ c24;clear c24;obtain⟨ay,hy⟩: ∃y_:List (List Int),y_=(ag++ [af]):=⟨_,rfl⟩
        replace H:(spec_l01Columns.l0 k2 l0 a1 ay (wrap64 (aa+1)))=some r:=hh_;have aV:=q_ hy;clear hy;have H':=q_ H;clear H;obtain⟨az,aA,aX⟩:=Kd.R_slice ai.out;subst aX
        go_wp2_with (first | ((with_reducible refine gate_builtin (b:= .append) (xs:= #[.tmp 51, .tmp 53]) rfl ?_);at_builtin;refine Kd.S_append (Kd.slice 2 (Kd.int .i64)) (w0:=w) w.heap.size rfl (.tmp 51) (.tmp 53) 24 25 (.slice none 0 0) 24 rfl Try.underlying24 info25 rfl (by decide) (by omega) u5 ag af [.slice az af.length aA] (fun _=>True) (fun k_=>some k_=(.slice az af.length aA:Value).ownBlock) rfl rfl ?aP (fun k_ hk_=>((Kd.R_mono (ok':=fun k_=>((fun _=>True)) k_∧some k_≠(u5:Value).ownBlock) (Kd.R_apart' (ai.out) (Kd.S_typed ah.out) (by decide)) (fun k_ hk=>⟨trivial,hk.2⟩))).1 k_ hk_.symm) ?aF ?aO ?aB ?aS ?aL ?_;(case aP=>exact Kd.M_row (Kd.R_mono (Kd.R_tight rfl (Kd.R_mono (ok':=fun k_=>((fun _=>True)) k_∧some k_≠(u5:Value).ownBlock) (Kd.R_apart' (ai.out) (Kd.S_typed ah.out) (by decide)) (fun k_ hk=>⟨trivial,hk.2⟩))) (fun _ h_=>h_)));(case aB=>exact hb_);(case aF=>exact(fun _ _=>trivial));(case aO=>exact(by(with_reducible repeat (first | apply Kd.S_alloc | apply Kd.S_drewN | apply Kd.S_drew));exact Kd.S_mono ah.out (fun k_ hk=>⟨trivial,fun e_=>hk e_⟩)));(case aS=>exact bz_);(case aL=>have:=aU.out;omega);intro bu w25 ho hb hg hat;rw [← aV.out] at ho;replace HB:=q_ (hb);have aW:=q_ (ho);clear ah ai ho hb hg hat))
        go_roundg k2
        case measure=>have:=HK1.out;have:=HK2.out;omega
        case rel=>exact⟨(ay),(wrap64 (aa+1)),rs_,H',⟨by have:=HK1.out;have:=HK2.out;omega⟩,⟨so_ aW.out⟩,⟨hb_⟩⟩
       ·rw [if_neg c24] at H;exact absurd H (by simp)
   ·rw [if_neg c5] at H;have c5b0:=decide_eq_false c5;clear c5;obtain rfl:=Option.some.inj H;go_wp2
    go_ret
    exact⟨_,by first | rfl | (simp [errW_none,errW_some] <;> rfl) | (simp [*,errW_none,errW_some] <;> rfl),so_ ah.out,hb_⟩
end Go.Proofs.Ytbjljcpngbhkeaa.Pr
end
section
namespace Go.Proofs.Ytbjljcpngbhkeaa.Cz
open Go.RowKit Go.Proofs.YtbjljcpngbhkeaaW.PrintWords Go.Proofs.YtbjljcpngbhkeaaW.PrintMore Go.Proofs.Ytbjljcpngbhkeaa.Ma Go.Proofs.Ytbjljcpngbhkeaa.Pr Go.Proofs.Ytbjljcpngbhkeaa.Dt Go.Proofs.Ytbjljcpngbhkeaa.Bz Go.Proofs.Ytbjljcpngbhkeaa.Un
def en (l:List (List Int)):Mat:=fun i j=>(l.getD i []).getD j 0
structure Sq (n:Nat) (l:List (List Int)):Prop where
 len:l.length=n
 row: ∀i,i < n→(l.getD i []).length=n
 num: ∀i j,i < n→j < n→(en l i j).natAbs≤20
theorem rdL1 (l:List (List Int)) (i:Nat):rd_L2 l (i:Int)=l.getD i []:=by simp [rd_L2]
def rw1 (m:Nat) (f:Nat→Int):List Int:=(List.range m).map f
theorem rw1_len (m:Nat) (f:Nat→Int):(rw1 m f).length=m:=by simp [rw1]
theorem rw1_succ (m:Nat) (f:Nat→Int):rw1 (m+1) f=rw1 m f++ [f m]:=by simp [rw1,List.range_succ]
def mk (r m:Nat) (f:Nat→Nat→Int):List (List Int):=(List.range r).map fun i=>rw1 m (f i)
theorem mk_len (r m:Nat) (f:Nat→Nat→Int):(mk r m f).length=r:=by simp [mk]
theorem mk_succ (r m:Nat) (f:Nat→Nat→Int):mk (r+1) m f=mk r m f++ [rw1 m (f r)]:=by simp [mk,List.range_succ]
theorem mk_row (r m:Nat) (f:Nat→Nat→Int) (i:Nat) (hi:i < r):(mk r m f).getD i []=rw1 m (f i):=by simp [mk,hi]
theorem mk_en (r m:Nat) (f:Nat→Nat→Int) (i j:Nat) (hi:i < r) (hj:j < m):en (mk r m f) i j=f i j:=by
 unfold en;rw [mk_row r m f i hi];simp [rw1,hj]
theorem mk_rows (r m:Nat) (f:Nat→Nat→Int): ∀x ∈ mk r m f,x.length=m:=by
 intro x hx
 obtain⟨i,_,rfl⟩:=List.mem_map.1 hx
 exact rw1_len _ _
section
variable {n:Nat} {l:List (List Int)} (h:Sq n l) (hn:n≤5) (s:Int)
include h hn
theorem spec_cols:Ev (fun k=>spec_l01Columns.f k l s) (mk n n (colM (bB s) (en l))):=by
 have hl:=h.len
 have rows: ∀q i,i+q=n→Ev (fun k=>spec_l01Columns.l0 k l s (mk i n (colM (bB s) (en l))) i) (mk n n (colM (bB s) (en l))):=by
  intro q
  induction q with
  | zero=>
   intro i hi
   obtain rfl:i=n:=by omega
   exact evstep (fun k=>by rw [spec_l01Columns.l0]) (evneg (by omega) (evc rfl))
  | succ q ih=>
   intro i hi
   have nx:=ih (i+1) (by omega)
   have hr:=h.row i (by omega)
   have cols: ∀p c,c+p=n→Ev (fun k=>spec_l01Columns.l1 k l s (mk i n (colM (bB s) (en l))) i (rw1 c (colM (bB s) (en l) i)) c) (mk n n (colM (bB s) (en l))):=by
    intro p
    induction p with
    | zero=>
     intro c hc
     obtain rfl:c=n:=by omega
     refine evstep (fun k=>by rw [spec_l01Columns.l1]) (evneg (by omega) (evpos (by rw [mk_len];omega) ?_))
     rw [w64 (x:=(i:Int)+1) (by omega) (by omega), ← mk_succ]
     exact nx
    | succ p ihp=>
     intro c hc
     have nx2:=ihp (c+1) (by omega)
     rw [rw1_succ] at nx2
     have hnum:=h.num i c (by omega) (by omega)
     refine evstep (fun k=>by rw [spec_l01Columns.l1]) (evpos (by omega) ?_)
     rw [u64w (x:=(c:Int)) (by omega) (by omega),shr_and_one s (by omega)]
     refine evpos (by omega) ?_
     have ce:colM (bB s) (en l) i c=if bB s c=true then - en l i c else if i=c then 1 else 0:=rfl
     by_cases b:bB s c=true
     ·rw [if_pos b] at ce
      rw [ce] at nx2
      rw [rdL1]
      refine evpos (by rw [if_pos b]) (evpos (by omega) (evpos (by omega) (evpos (by omega) (evpos (by omega) (evpos (by rw [rw1_len];omega) ?_)))))
      rw [rd_nat,show (l.getD i []).getD c 0=en l i c from rfl,w64 (x:= - en l i c) (by omega) (by omega),w64 (x:=(c:Int)+1) (by omega) (by omega)]
      exact nx2
     ·rw [if_neg b] at ce
      refine evneg (by rw [if_neg b];decide) ?_
      rw [w64 (x:=(c:Int)+1) (by omega) (by omega)]
      by_cases e:i=c
      ·rw [if_pos e] at ce
       rw [ce] at nx2
       exact evpos (by omega) (evpos (by rw [rw1_len];omega) nx2)
      ·rw [if_neg e] at ce
       rw [ce] at nx2
       exact evneg (by omega) (evpos (by rw [rw1_len];omega) nx2)
   refine evstep (fun k=>by rw [spec_l01Columns.l0]) (evpos (by omega) ?_)
   exact cols n 0 (by omega)
 exact rows n 0 (by omega)
theorem has_eq (c:Nat) (hc:c < 64):impl_has.f s (c:Int)=some (bB s c):=by
 have _h:=h
 have _h2:=hn
 unfold impl_has.f
 rw [if_pos (by omega),shr_and_one s hc]
 congr 1
 cases hb:bB s c <;> simp
end
end Go.Proofs.Ytbjljcpngbhkeaa.Cz
end
section
namespace Go.Proofs.Ytbjljcpngbhkeaa.Pr
open Go.RowKit Go.Proofs.YtbjljcpngbhkeaaW.PrintWords Go.Proofs.YtbjljcpngbhkeaaW.PrintLast Go.Proofs.YtbjljcpngbhkeaaW.PrintMore
attribute [local go_sem] max2_int min2_int max_two min_two max_three min_three max_four min_four
def spec_l01From.l0:Nat→List Int→Int→List Int→Int→Int→Option (List Int × Int × Int)
 | 0,_,_,_,_,_=>none
 | k+1,x0,x4,aa,ae,af=>if x4 < (x0.length:Int) then(if x4 < 4096 then(if 0≤x4 then(spec_l01From.l0 k x0 (wrap64 (x4+1)) aa ae (IntKind.u64.wrap ((IntKind.u64.wrap ((IntKind.u64.wrap (af*1099511628211))+(IntKind.u64.wrap (rd x0 x4))))+167))) else(none)) else(some (aa,ae,af))) else(some (aa,ae,af))
def spec_l01From.f (k:Nat) (l0:List Int):Option (List Int × Int × Int):=spec_l01From.l0 k l0 0 l0 0 (IntKind.u64.wrap (13431+(IntKind.u64.wrap ((l0.length:Int)))))
theorem spec_l01From.mono_l: ∀k,(∀y0 y1 y2 y3 y4,LeO (spec_l01From.l0 k y0 y1 y2 y3 y4) (spec_l01From.l0 (k+1) y0 y1 y2 y3 y4))
 | 0=>fun _ _ _ _ _ r h=>by simp [spec_l01From.l0] at h
 | k+1=>by
  have ih0:=spec_l01From.mono_l k
  intros;unfold spec_l01From.l0;repeat' first | (with_reducible first | exact ih0 _ _ _ _ _ | exact LeO.refl _ | exact LeO.none _ | refine LeO.ite ?_ ?_ | refine LeO.bind ?_ (fun _=>?_)) | exact ih0 _ _ _ _ _ | exact LeO.none _ | refine LeO.ite ?_ ?_ | refine LeO.bind ?_ (fun _=>?_)
theorem spec_l01From.mono: ∀a0 k,LeO (spec_l01From.f k a0) (spec_l01From.f (k+1) a0):=by
 intro a0 k
 have ih0:=spec_l01From.mono_l k
 unfold spec_l01From.f
 repeat' first | (with_reducible first | exact ih0 _ _ _ _ _ | exact LeO.refl _ | exact LeO.none _ | refine LeO.ite ?_ ?_ | refine LeO.bind ?_ (fun _=>?_)) | exact ih0 _ _ _ _ _ | exact LeO.none _ | refine LeO.ite ?_ ?_ | refine LeO.bind ?_ (fun _=>?_)
def spec_l01From.T5:Bool × List (List Nat × List Nat):=(true, [([], []),([], []),([1], [1]),([2], [2]),([3], [3]),([4], [4]),([], []),([], []),([6,7], [6,7]),([8], [8]),([9], [9]),([5,10], [5,10]),([11], [11]),([0,0,1,2,3,4,5,6,7,8,9,10,11,12], [0]),([13,0,1,2,3,4,5,6,7,8,9,10,11,12], [13]),([14,12,0,1,2,3,4,5,6,7,8,9,10,11,12], [12,14])])
def spec_l01From.B5:List Nat:= [0,0,2,6,14,30,0,0,192,448,960,2046,4094,8191,16383,32767]
theorem spec_l01From.tab5:rtab .any (opsOf Try.f38 5)=spec_l01From.T5:=by kernel_rfl
theorem spec_l01From.bits5:waitsOk spec_l01From.T5.2 spec_l01From.B5=true:=by kernel_rfl
theorem spec_l01From.calls (k:Nat) (A0:Option Addr) (c0:Nat) (l0:List Int) (r1:List Int) (r2:Int) (r3:Int) (w0 w:World) (hB:Below w0.heap.size w0 w) (hr0:Kd.C (Kd.int .u8) w0 A0 l0.length l0) (hc0:l0.length≤c0) (h:spec_l01From.f k l0=some (r1,r2,r3)):
  Calls Try.prog 38 #[.slice A0 l0.length c0] w fun e w'=> ∃g_:Nat,e= .returned (.pointer (some ⟨g_,0,none⟩))∧IsS89 w0 w' g_ r1 r2 r3∧Below w0.heap.size w0 w'∧Below w.heap.size w w':=by
 have hu89:=Try.underlying89;have HR0:=q_ hr0;have HC0:=q_ hc0;clear hr0 hc0;have HBW:=q_ (Below.refl w.heap.size w);have HW0:=q_ hB.size;have HB:=q_ hB;clear hB;have H:(spec_l01From.l0 k l0 0 l0 0 (IntKind.u64.wrap (13431+(IntKind.u64.wrap ((l0.length:Int))))))=some (r1,r2,r3):=h;clear h;have H':=q_ H;clear H
 go_enter Try.func38,Try.ntmps38
 go_wp2_with (first | ((with_reducible refine gate_dst (N:=11) rfl ?_);refine be_ 11 #[.slice A0 l0.length c0, .int .i64 0, .int .u64 (IntKind.u64.wrap (13431+(IntKind.u64.wrap ((l0.length:Int)))))] 89 ?_;intro ag hg w2 hbox hb;replace HB:=q_ (bs_ hb);have af:=q_ (hbox);have ak:=q_ ((by rw [hg];exact(below_size (by repeat (first | (with_reducible first | exact HBW.out | apply below_alloc | apply pw_below_drewN | apply below_drew1) | exact HBW.out))):w.heap.size≤ag));have ah:=q_ ((Nat.le_trans HW0.out (by rw [hg];exact(below_size (by repeat (first | (with_reducible first | exact HBW.out | apply below_alloc | apply pw_below_drewN | apply below_drew1) | exact HBW.out))):w.heap.size≤ag):w0.heap.size≤ag));replace HBW:=q_ (below_step HBW.out hb);clear hb hbox hg))
 go_loopg [4] k (fun kq v4 w'=> ∃(ae:Int) (aa:Int),v4= .int .i64 ae∧Aside0 (spec_l01From.l0 kq l0 ae l0 0 aa=some (r1,r2,r3))∧Aside0 (kq≤k)∧Aside0 (w'.heap[ag]?=some (.cells #[(.slice A0 l0.length c0), .int .i64 0, .int .u64 aa] 89 (0,0)))∧Aside0 (Below w0.heap.size w0 w')∧Aside0 (Below w.heap.size w w'))
 case atStart=>exact⟨(0),(IntKind.u64.wrap (13431+(IntKind.u64.wrap ((l0.length:Int))))),rs_,H',⟨Nat.le_refl _⟩,⟨bk_⟩,⟨hb_⟩,HBW⟩
 case round=>
  clear H';obtain⟨ae,aa,rfl,HA,HK1,af,HB,HBW⟩:=hrel;cases gk with
  | zero=>exact absurd HA.out (by simp [spec_l01From.l0])
  | succ k1=>
   have H:=HA.out;clear HA;simp only [spec_l01From.l0] at H
   by_cases c3:ae < (l0.length:Int)
   ·rw [if_pos c3] at H;have c3b0:=decide_eq_true c3;clear c3
    by_cases c4:ae < 4096
    ·rw [if_pos c4] at H;have c4b0:=decide_eq_true c4;clear c4
     by_cases c5:0≤ae
     ·rw [if_pos c5] at H;have c5b0:=decide_eq_true c5;clear c5;have H':=q_ H;clear H
      try go_wp2
      have n0_:=q_ (blk_drew af.out);have n9_:=q_ (below_drew1 HBW.out);clear HBW;have HBW:=n9_;clear n9_;have n1_:=q_ (below_drew1 HB.out);clear af HB;have af:=n0_;have HB:=n1_;clear n0_ n1_;have p109:0≤(ae:Int):=od_;have q109:ae < (l0.length:Int):=od_;obtain⟨aj,e109,hx109_0⟩:=Kd.at_int HR0.out ae p109 q109;have ai:=hx109_0;cases e109
      replace hx109_0:=pw_cell_below HB.out hx109_0;replace p109:=eq_true p109;replace q109:=eq_true q109;refine st_ (n:=16) (S:=fun w'=>w'.cell? ⟨ag,0,none⟩=some (.slice (some aj) l0.length c0)∧w'.cell? ⟨ag,1,none⟩=some (.int .i64 0)∧w'.cell? ⟨ag,2,none⟩=some (.int .u64 aa)∧w'.cell? (aj.add (ae).toNat)=some (.int .u8 (rd l0 ae))) (ds:= [15]) ⟨(blk_cell af.out 0).trans rfl,(blk_cell af.out 1).trans rfl,(blk_cell af.out 2).trans rfl,((HB.out.cell (World.block_lt_of_cell? _ _ ai)).trans ai)⟩ (fun hHeld=>?_);refine with_tabW spec_l01From.tab5 spec_l01From.bits5 (fun HT_ HW_=>?_)
      generalize wr.drew=w6 at af HB HBW hx109_0 hHeld ⊢
      refine pu_ 0 22 ?_;refine pu_ 1 23 ?_;refine pu_ 2 24 ?_;refine pu_ 3 25 ?_;refine pu_ 6 28 ?_;refine pu_ 7 29 ?_;refine pu_ 8 30 ?_;refine tk_ 4 26 ?_;refine pu_ 5 27 ?_;refine tk_ 9 31 ?_;refine pu_ 10 32 ?_;refine pu_ 11 33 ?_;refine pu_ 12 34 ?_;refine pu_ 13 35 ?_;refine pu_ 14 36 ?_
      refine la_ 15 none (fun K hK=>?_)
      have hs7:=cz_ af 2;have hfs7:=blk_frozen af.out 2;refine skip_ (w1:=?_) (by rfl) rfl ?_ ?_
      rotate_left
      ·go_simp
       rfl
      refine hK.out _ _ ?_
      clear hK K;refine done_ (done_of HT_.out (by kernel_rfl)) ?_
      try go_wp2
      go_roundg k1
      case measure=>have:=HK1.out;omega
      case rel=>exact⟨(wrap64 (ae+1)),(IntKind.u64.wrap ((IntKind.u64.wrap ((IntKind.u64.wrap (aa*1099511628211))+(IntKind.u64.wrap (rd l0 ae))))+167)),rs_,H',⟨by have:=HK1.out;omega⟩,⟨by(with_reducible repeat (first | refine blk_drewN ?_ _ | refine blk_drew ?_ | refine blk_alloc ?_ _));refine blk_put (cs:= #[.slice (some aj) l0.length c0, .int .i64 0, .int .u64 aa]) ?_ 2 _ rfl;(with_reducible repeat (first | refine blk_drewN ?_ _ | refine blk_drew ?_ | refine blk_alloc ?_ _));exact af.out⟩,⟨hb_⟩,⟨by repeat (first | (with_reducible first | exact HBW.out | apply below_alloc | apply pw_below_drewN | apply below_drew1 | refine below_set ?_ (Aside0.out (by assumption))) | exact HBW.out)⟩⟩
     ·rw [if_neg c5] at H;exact absurd H (by simp)
    ·rw [if_neg c4] at H;have c4b0:=decide_eq_false c4;clear c4;simp only [Option.some.injEq,Prod.mk.injEq] at H;obtain⟨rfl,rfl,rfl⟩:=H;go_wp2
     go_ret
     exact⟨_,rfl,(show IsS89 w0 _ ag l0 0 aa from ⟨_,_,by(with_reducible repeat (first | refine blk_drewN ?_ _ | refine blk_drew ?_ | refine blk_alloc ?_ _));exact af.out,ah.out,HR0.out⟩),hb_,by repeat (first | (with_reducible first | exact HBW.out | apply below_alloc | apply pw_below_drewN | apply below_drew1 | refine below_set ?_ ak.out) | exact HBW.out)⟩
   ·rw [if_neg c3] at H;have c3b0:=decide_eq_false c3;clear c3;simp only [Option.some.injEq,Prod.mk.injEq] at H;obtain⟨rfl,rfl,rfl⟩:=H;go_wp2
    go_ret
    exact⟨_,rfl,(show IsS89 w0 _ ag l0 0 aa from ⟨_,_,by(with_reducible repeat (first | refine blk_drewN ?_ _ | refine blk_drew ?_ | refine blk_alloc ?_ _));exact af.out,ah.out,HR0.out⟩),hb_,by repeat (first | (with_reducible first | exact HBW.out | apply below_alloc | apply pw_below_drewN | apply below_drew1 | refine below_set ?_ ak.out) | exact HBW.out)⟩
def spec_l01Pick.f (s0_0:List Int) (s0_1:Int) (s0_2:Int) (l1:List Int):Option (Int × Int × Int):=(spec_l01Next.f s0_0 s0_1 s0_2 (l1.length:Int)).bind fun aa=>(if 0≤aa.1 then(if aa.1 < (l1.length:Int) then(some (rd l1 aa.1,aa.2.1,aa.2.2)) else(none)) else(none))
theorem spec_l01Pick.calls (g:Nat) (s0_0:List Int) (s0_1:Int) (s0_2:Int) (A1:Option Addr) (c1:Nat) (l1:List Int) (r1:Int) (r2:Int) (r3:Int) (w0 w:World) (hI:IsS89 w0 w g s0_0 s0_1 s0_2) (hB:Below w0.heap.size w0 w) (hr1:Kd.C (Kd.int .i64) w A1 l1.length l1) (hc1:l1.length≤c1) (hf1: ∀ad,A1=some ad→0 < l1.length→ad.block≠g) (h:spec_l01Pick.f s0_0 s0_1 s0_2 l1=some (r1,r2,r3)):
  Calls Try.prog 51 #[.pointer (some ⟨g,0,none⟩), .slice A1 l1.length c1] w fun e w'=>e= .returned (.int .i64 r1)∧IsS89 w0 w' g s0_0 r2 r3∧Below w0.heap.size w0 w'∧KeepBut w w' g none:=by
 have HR1:=q_ hr1;have HC1:=q_ hc1;clear hr1 hc1;have HI0:=q_ hI;have HK:=q_ (KeepBut.refl w g none);have HL:=q_ hB.size;clear hI;have HW0:=q_ hB.size;have HB:=q_ hB;clear hB;have H:((spec_l01Next.f s0_0 s0_1 s0_2 (l1.length:Int)).bind fun ae=>(if 0≤ae.1 then(if ae.1 < (l1.length:Int) then(some (rd l1 ae.1,ae.2.1,ae.2.2)) else(none)) else(none)))=some (r1,r2,r3):=h;clear h;replace H:=Option.bind_eq_some_iff.mp H;obtain⟨⟨aa,af,ag⟩,A30,H⟩:=H;replace H:(if 0≤aa then(if aa < (l1.length:Int) then(some (rd l1 aa,af,ag)) else(none)) else(none))=some (r1,r2,r3):=H;have A3:=q_ A30;clear A30
 by_cases c4:0≤aa
 ·rw [if_pos c4] at H;have c4b0:=decide_eq_true c4;clear c4
  by_cases c5:aa < (l1.length:Int)
  ·rw [if_pos c5] at H;have c5b0:=decide_eq_true c5;clear c5;simp only [Option.some.injEq,Prod.mk.injEq] at H;obtain⟨rfl,rfl,rfl⟩:=H
   go_enter Try.func51,Try.ntmps51
   go_wp2_with (first | ((with_reducible refine gate_callee (f:=37) rfl ?_);refine gL_ 9 Try.func37 #[.pointer (some ⟨g,0,none⟩), .int .i64 (l1.length:Int)] ?_;(with_reducible refine(spec_l01Next.calls g s0_0 s0_1 s0_2 (l1.length:Int) aa af ag w0 _ ?ah ?ai A3.out).mono ?_);(case ah=>exact hi_);(case ai=>exact hj_);rintro e w6 ⟨rfl,hi,hb,hk⟩;refine⟨_,rfl,?_⟩;replace HK:=q_ (KeepBut.trans hk_ hk (.inl rfl));replace HB:=q_ (hb);replace HI0:=q_ (hi);(try clear hb);(try clear hk);(try clear hi);have p113:0≤(aa:Int):=od_;have q113:aa < (l1.length:Int):=od_;obtain⟨aj,e113,hx113_0⟩:=Kd.at_int HR1.out aa p113 q113;cases e113;replace hx113_0:=keep_cell HK.out hx113_0 (by first | (rw [add_block];exact hf1 _ rfl (by omega)) | exact hf1 _ rfl (by omega) | exact hf1 aj rfl (by omega));replace p113:=eq_true p113;replace q113:=eq_true q113))
   go_ret
   exact⟨by first | rfl | (simp [errW_none,errW_some] <;> rfl) | (simp [*,errW_none,errW_some] <;> rfl),hi_,hj_,hk_⟩
  ·rw [if_neg c5] at H;exact absurd H (by simp)
 ·rw [if_neg c4] at H;exact absurd H (by simp)
def spec_l01In.f (a0:Int) (a1:Int) (a2:Int):Option (Bool):=if a0 ≥ a1 then(some (decide (a0≤a2))) else(some false)
theorem spec_l01In.calls (a0:Int) (a1:Int) (a2:Int) (r:Bool) (w:World) (h:spec_l01In.f a0 a1 a2=some r):
  Calls Try.prog 56 #[.int .i64 a0, .int .i64 a1, .int .i64 a2] w fun e w'=>e= .returned (.bool r)∧Drawn0 w w':=by
 have H:(if a0 ≥ a1 then(some (decide (a0≤a2))) else(some false))=some r:=h;clear h
 by_cases c4:a0 ≥ a1
 ·rw [if_pos c4] at H;have c4b0:=decide_eq_true c4;clear c4;obtain rfl:=Option.some.inj H
  go_enter Try.func56,Try.ntmps56
  go_wp2
  go_ret
  exact⟨by first | rfl | (simp;done) | (simp [*];done),by repeat (first | exact Drawn0.refl _ | apply Drawn0.step)⟩
 ·rw [if_neg c4] at H;have c4b0:=decide_eq_false c4;clear c4;obtain rfl:=Option.some.inj H
  go_enter Try.func56,Try.ntmps56
  go_wp2
  go_ret
  exact⟨by first | rfl | (simp;done) | (simp [*];done),by repeat (first | exact Drawn0.refl _ | apply Drawn0.step)⟩
mutual
def spec_l01Matrix.j0:Nat→List (List Int)→Int→Bool→Option (Bool)
 | 0,_,_,_=>none
 | k+1,x0,x3,x13=>if x13=true then(some false) else(spec_l01Matrix.l0 k x0 x3 0)
def spec_l01Matrix.l0:Nat→List (List Int)→Int→Int→Option (Bool)
 | 0,_,_,_=>none
 | k+1,x0,x3,x4=>if x4 < x3 then(if 0≤x4 then(if x4 < (x0.length:Int) then(if((rd_L2 x0 x4).length:Int)=x3 then(spec_l01Matrix.l1 k x0 x3 x4 0) else(some false)) else(none)) else(none)) else(some true)
def spec_l01Matrix.l1:Nat→List (List Int)→Int→Int→Int→Option (Bool)
 | 0,_,_,_,_=>none
 | k+1,x0,x3,x4,x5=>if x5 < x3 then(if 0≤x4 then(if x4 < (x0.length:Int) then(if 0≤x5 then(if x5 < ((rd_L2 x0 x4).length:Int) then((spec_l01In.f (rd (rd_L2 x0 x4) x5) (-20) 20).bind fun aa=>(if aa=true then(spec_l01Matrix.l1 k x0 x3 x4 (wrap64 (x5+1))) else(some false))) else(none)) else(none)) else(none)) else(none)) else(spec_l01Matrix.l0 k x0 x3 (wrap64 (x4+1)))
end
def spec_l01Matrix.f (k:Nat) (l0:List (List Int)):Option (Bool):=if(l0.length:Int) < 1 then(spec_l01Matrix.j0 k l0 (l0.length:Int) true) else(spec_l01Matrix.j0 k l0 (l0.length:Int) (decide ((l0.length:Int) > 5)))
theorem spec_l01Matrix.mono_l: ∀k,(∀y0 y1 y2,LeO (spec_l01Matrix.j0 k y0 y1 y2) (spec_l01Matrix.j0 (k+1) y0 y1 y2))∧(∀y0 y1 y2,LeO (spec_l01Matrix.l0 k y0 y1 y2) (spec_l01Matrix.l0 (k+1) y0 y1 y2))∧(∀y0 y1 y2 y3,LeO (spec_l01Matrix.l1 k y0 y1 y2 y3) (spec_l01Matrix.l1 (k+1) y0 y1 y2 y3))
 | 0=>⟨fun _ _ _ r h=>by simp [spec_l01Matrix.j0] at h,fun _ _ _ r h=>by simp [spec_l01Matrix.l0] at h,fun _ _ _ _ r h=>by simp [spec_l01Matrix.l1] at h⟩
 | k+1=>by
  obtain⟨ih0,ih1,ih2⟩:=spec_l01Matrix.mono_l k
  refine⟨?_,?_,?_⟩<;>intros<;>(first | unfold spec_l01Matrix.j0 | unfold spec_l01Matrix.l0 | unfold spec_l01Matrix.l1)<;>(repeat' first | (with_reducible first | exact ih0 _ _ _ | exact ih1 _ _ _ | exact ih2 _ _ _ _ | exact LeO.refl _ | exact LeO.none _ | refine LeO.ite ?_ ?_ | refine LeO.bind ?_ (fun _=>?_)) | exact ih0 _ _ _ | exact ih1 _ _ _ | exact ih2 _ _ _ _ | exact LeO.none _ | refine LeO.ite ?_ ?_ | refine LeO.bind ?_ (fun _=>?_))
theorem spec_l01Matrix.mono: ∀a0 k,LeO (spec_l01Matrix.f k a0) (spec_l01Matrix.f (k+1) a0):=by
 intro a0 k
 obtain⟨ih0,ih1,ih2⟩:=spec_l01Matrix.mono_l k
 unfold spec_l01Matrix.f
 repeat' first | (with_reducible first | exact ih0 _ _ _ | exact ih1 _ _ _ | exact ih2 _ _ _ _ | exact LeO.refl _ | exact LeO.none _ | refine LeO.ite ?_ ?_ | refine LeO.bind ?_ (fun _=>?_)) | exact ih0 _ _ _ | exact ih1 _ _ _ | exact ih2 _ _ _ _ | exact LeO.none _ | refine LeO.ite ?_ ?_ | refine LeO.bind ?_ (fun _=>?_)
theorem spec_l01Matrix.calls (k:Nat) (A0:Option Addr) (c0:Nat) (l0:List (List Int)) (r:Bool) (w:World) (hr0:Kd.C (Kd.slice 2 (Kd.int .i64)) w A0 l0.length l0) (hc0:l0.length≤c0) (h:spec_l01Matrix.f k l0=some r):
  Calls Try.prog 78 #[.slice A0 l0.length c0] w fun e w'=>e= .returned (.bool r)∧Drawn0 w w':=by
 have HR0:=q_ hr0;have HC0:=q_ hc0;clear hr0 hc0;have H:(if(l0.length:Int) < 1 then(spec_l01Matrix.j0 k l0 (l0.length:Int) true) else(spec_l01Matrix.j0 k l0 (l0.length:Int) (decide ((l0.length:Int) > 5))))=some r:=h;clear h;have HC2:=q_ H;clear H
 go_enter Try.func78,Try.ntmps78
 go_upto_region 2 with (fail)
 go_cut [13] (fun v13 wc=> ∃(kq:Nat) (af:Bool),v13= .bool af∧Aside0 (spec_l01Matrix.j0 kq l0 (l0.length:Int) af=some r)∧Aside0 (kq≤k)∧Drawn0 w wc)
 case first=>
  have H:=HC2.out;clear HC2
  by_cases c3:(l0.length:Int) < 1
  ·rw [if_pos c3] at H;have c3b0:=decide_eq_true c3;have c3b1:decide (l0.length < 1)=true:=decide_eq_true (by omega);clear c3
   (first | rw [c3b0] | (simp only [i64_w,i32_w];rw [c3b0]) | skip)
   have H':=q_ H;clear H;go_wp2
   go_meet
   case rel=>exact⟨_,(true),rs_,H',⟨by first | omega | exact Nat.le_refl _⟩,by repeat (first | exact Drawn0.refl _ | apply Drawn0.step)⟩
  ·rw [if_neg c3] at H;have c3b0:=decide_eq_false c3;have c3b1:decide (l0.length < 1)=false:=decide_eq_false (by omega);clear c3
   (first | rw [c3b0] | (simp only [i64_w,i32_w];rw [c3b0]) | skip)
   have H':=q_ H;clear H;go_wp2
   go_meet
   case rel=>exact⟨_,(decide ((l0.length:Int) > 5)),rs_,H',⟨by first | omega | exact Nat.le_refl _⟩,by repeat (first | exact Drawn0.refl _ | apply Drawn0.step)⟩
 case rest=>
  clear HC2;(try clear c3b0);(try clear c3b1);obtain⟨kq,af,rfl,HA,HJ1,⟨mc1,rfl⟩⟩:=hcut;cases kq with
  | zero=>exact absurd HA.out (by simp [spec_l01Matrix.j0])
  | succ kj1=>
   have H:=HA.out;clear HA;simp only [spec_l01Matrix.j0] at H
   by_cases c4:af=true
   ·subst c4;have H1:(some false)=some r:=by rw [if_pos rfl] at H;exact H
    clear H;have H:=H1;clear H1;obtain rfl:=Option.some.inj H;go_wp2
    go_ret
    exact⟨by first | rfl | (simp;done) | (simp [*];done),by repeat (first | exact Drawn0.refl _ | apply Drawn0.step)⟩
   ·replace c4:=Bool.eq_false_iff.mpr c4;subst c4;have H1:(spec_l01Matrix.l0 kj1 l0 (l0.length:Int) 0)=some r:=by rw [if_neg (show ¬ (false=true) by decide)] at H;exact H
    clear H;have H:=H1;clear H1;have H':=q_ H;clear H;go_wp2
    go_loopg [4] kj1 (fun kq v4 w'=> ∃(aa:Int),v4= .int .i64 aa∧Aside0 (spec_l01Matrix.l0 kq l0 (l0.length:Int) aa=some r)∧Aside0 (kq≤kj1)∧Drawn0 w w')
    case atStart=>exact⟨(0),rs_,H',⟨Nat.le_refl _⟩,by repeat (first | exact Drawn0.refl _ | apply Drawn0.step)⟩
    case round=>
     clear H';(try clear c3b0);(try clear c3b1);(try clear c4);obtain⟨aa,rfl,HA,HK2,⟨m2,rfl⟩⟩:=hrel;cases gk with
     | zero=>exact absurd HA.out (by simp [spec_l01Matrix.l0])
     | succ k2=>
      have H:=HA.out;clear HA;simp only [spec_l01Matrix.l0] at H
      by_cases c5:aa < (l0.length:Int)
      ·rw [if_pos c5] at H;have c5b0:=decide_eq_true c5;clear c5
       by_cases c6:0≤aa
       ·rw [if_pos c6] at H;have c6b0:=decide_eq_true c6;clear c6
        by_cases c7:aa < (l0.length:Int)
        ·rw [if_pos c7] at H;have c7b0:=decide_eq_true c7;clear c7
         by_cases c8:((rd_L2 l0 aa).length:Int)=(l0.length:Int)
         ·rw [if_pos c8] at H;have c8b0:=e1_ c8;have c8b1:=e2_ c8;have c8b2:((rd_L2 l0 aa).length==l0.length)=true:=by first | simpa using c8 | (simp at c8 ⊢;omega)
          clear c8;have H':=q_ H;clear H;have p114:0≤(aa:Int):=od_;have q114:aa < (l0.length:Int):=od_;obtain⟨ag,ai,aj,e114,hx114_0,hl114_0,hi114_0⟩:=at_L2 HR0.out aa p114 q114;cases e114
          have HR114_0:=q_ hi114_0;have HC114_0:=q_ hl114_0;clear hi114_0 hl114_0;replace p114:=eq_true p114;replace q114:=eq_true q114;go_wp2
          go_loopg [5] k2 (fun kq v5 w'=> ∃(ae:Int),v5= .int .i64 ae∧Aside0 (spec_l01Matrix.l1 kq l0 (l0.length:Int) aa ae=some r)∧Aside0 (kq≤k2)∧Drawn0 w w')
          case atStart=>exact⟨(0),rs_,H',⟨Nat.le_refl _⟩,by repeat (first | exact Drawn0.refl _ | apply Drawn0.step)⟩
          case round=>
           clear H';(try clear c3b0);(try clear c3b1);(try clear c4);(try clear c5b0);(try clear c6);(try clear c6b0);(try clear c7);(try clear c7b0);(try clear c8);(try clear c8b0);(try clear c8b1);(try clear c8b2);(try clear hx114_0);(try clear p114);(try clear q114);obtain⟨ae,rfl,HA,HK3,⟨m3,rfl⟩⟩:=hrel;cases gk with
           | zero=>exact absurd HA.out (by simp [spec_l01Matrix.l1])
           | succ k3=>
            have H:=HA.out;clear HA;simp only [spec_l01Matrix.l1] at H
            by_cases c9:ae < (l0.length:Int)
            ·rw [if_pos c9] at H;have c9b0:=decide_eq_true c9;clear c9
             by_cases c10:0≤aa
             ·rw [if_pos c10] at H;have c10b0:=decide_eq_true c10;clear c10
              by_cases c11:aa < (l0.length:Int)
              ·rw [if_pos c11] at H;have c11b0:=decide_eq_true c11;clear c11
               by_cases c12:0≤ae
               ·rw [if_pos c12] at H;have c12b0:=decide_eq_true c12;clear c12
                by_cases c13:ae < ((rd_L2 l0 aa).length:Int)
                ·rw [if_pos c13] at H;have c13b0:=decide_eq_true c13;clear c13;replace H:=Option.bind_eq_some_iff.mp H;obtain⟨ak,A140,H⟩:=H;replace H:(if ak=true then(spec_l01Matrix.l1 k3 l0 (l0.length:Int) aa (wrap64 (ae+1))) else(some false))=some r:=H;have A14:=q_ A140;clear A140
                 by_cases c15:ak=true
                 ·subst c15;have H1:(spec_l01Matrix.l1 k3 l0 (l0.length:Int) aa (wrap64 (ae+1)))=some r:=by rw [if_pos rfl] at H;exact H
                  clear H;have H:=H1;clear H1;have H':=q_ H;clear H;have p115:0≤(aa:Int):=od_;have q115:aa < (l0.length:Int):=od_;obtain⟨ah,aq,au,e115,hx115_0,hl115_0,hi115_0⟩:=at_L2 HR0.out aa p115 q115;obtain rfl:ag=ah:=(by injection e115)
                  have HR115_0:=q_ hi115_0;have HC115_0:=q_ hl115_0;clear hi115_0 hl115_0;replace p115:=eq_true p115;replace q115:=eq_true q115;have p116:0≤(ae:Int):=od_;have q116:ae < ((rd_L2 l0 aa).length:Int):=od_;obtain⟨av,e116,hx116_0⟩:=Kd.at_int HR115_0.out ae p116 q116;cases e116
                  replace p116:=eq_true p116;replace q116:=eq_true q116
                  go_wp2_with (first | ((with_reducible refine gate_callee (f:=56) rfl ?_);refine gL_ 38 Try.func56 #[.int .i64 (rd (rd_L2 l0 aa) ae), .int .i64 (-20), .int .i64 20] ?_;(with_reducible refine(spec_l01In.calls (rd (rd_L2 l0 aa) ae) (-20) 20 true _ A14.out).mono ?_);rintro e w' ⟨rfl,⟨nd,rfl⟩⟩;refine⟨_,rfl,?_⟩))
                  go_roundg k3
                  case measure=>have:=HJ1.out;have:=HK2.out;have:=HK3.out;omega
                  case rel=>exact⟨(wrap64 (ae+1)),rs_,H',⟨by have:=HJ1.out;have:=HK2.out;have:=HK3.out;omega⟩,by repeat (first | exact Drawn0.refl _ | apply Drawn0.step)⟩
                 ·replace c15:=Bool.eq_false_iff.mpr c15;subst c15;have H1:(some false)=some r:=by rw [if_neg (show ¬ (false=true) by decide)] at H;exact H
                  clear H;have H:=H1;clear H1;obtain rfl:=Option.some.inj H;have p115:0≤(aa:Int):=od_;have q115:aa < (l0.length:Int):=od_;obtain⟨ah,aq,au,e115,hx115_0,hl115_0,hi115_0⟩:=at_L2 HR0.out aa p115 q115;obtain rfl:ag=ah:=(by injection e115)
                  have HR115_0:=q_ hi115_0;have HC115_0:=q_ hl115_0;clear hi115_0 hl115_0;replace p115:=eq_true p115;replace q115:=eq_true q115;have p116:0≤(ae:Int):=od_;have q116:ae < ((rd_L2 l0 aa).length:Int):=od_;obtain⟨av,e116,hx116_0⟩:=Kd.at_int HR115_0.out ae p116 q116;cases e116
                  replace p116:=eq_true p116;replace q116:=eq_true q116
                  go_wp2_with (first | ((with_reducible refine gate_callee (f:=56) rfl ?_);refine gL_ 38 Try.func56 #[.int .i64 (rd (rd_L2 l0 aa) ae), .int .i64 (-20), .int .i64 20] ?_;(with_reducible refine(spec_l01In.calls (rd (rd_L2 l0 aa) ae) (-20) 20 false _ A14.out).mono ?_);rintro e w' ⟨rfl,⟨nd,rfl⟩⟩;refine⟨_,rfl,?_⟩))
                  go_ret
                  exact⟨by first | rfl | (simp;done) | (simp [*];done),by repeat (first | exact Drawn0.refl _ | apply Drawn0.step)⟩
                ·rw [if_neg c13] at H;exact absurd H (by simp)
               ·rw [if_neg c12] at H;exact absurd H (by simp)
              ·rw [if_neg c11] at H;exact absurd H (by simp)
             ·rw [if_neg c10] at H;exact absurd H (by simp)
            ·rw [if_neg c9] at H;have c9b0:=decide_eq_false c9;clear c9;have H':=q_ H;clear H;go_wp2
             go_roundg k3
             case measure=>have:=HJ1.out;have:=HK2.out;have:=HK3.out;omega
             case rel=>exact⟨(wrap64 (aa+1)),rs_,H',⟨by have:=HJ1.out;have:=HK2.out;have:=HK3.out;omega⟩,by repeat (first | exact Drawn0.refl _ | apply Drawn0.step)⟩
         ·rw [if_neg c8] at H;have c8b0:=e3_ c8;have c8b1:=e4_ c8;have c8b2:((rd_L2 l0 aa).length==l0.length)=false:=by first | simpa using c8 | (simp at c8 ⊢;omega)
          obtain rfl:=Option.some.inj H;have p114:0≤(aa:Int):=od_;have q114:aa < (l0.length:Int):=od_;obtain⟨ag,ai,aj,e114,hx114_0,hl114_0,hi114_0⟩:=at_L2 HR0.out aa p114 q114;cases e114
          have HR114_0:=q_ hi114_0;have HC114_0:=q_ hl114_0;clear hi114_0 hl114_0;replace p114:=eq_true p114;replace q114:=eq_true q114;go_wp2
          go_ret
          exact⟨by first | rfl | (simp;done) | (simp [*];done),by repeat (first | exact Drawn0.refl _ | apply Drawn0.step)⟩
        ·rw [if_neg c7] at H;exact absurd H (by simp)
       ·rw [if_neg c6] at H;exact absurd H (by simp)
      ·rw [if_neg c5] at H;have c5b0:=decide_eq_false c5;clear c5;obtain rfl:=Option.some.inj H;go_wp2
       go_ret
       exact⟨by first | rfl | (simp;done) | (simp [*];done),by repeat (first | exact Drawn0.refl _ | apply Drawn0.step)⟩
mutual
def spec_l01Is.j0:Nat→Bool→List (List Int)→List Int→Option (Bool)
 | 0,_,_,_=>none
 | k+1,x16,ae,aa=>if x16=true then(some false) else(spec_l01Is.l0 k 0 ae aa)
def spec_l01Is.l0:Nat→Int→List (List Int)→List Int→Option (Bool)
 | 0,_,_,_=>none
 | k+1,x3,ae,aa=>if x3 < (aa.length:Int) then(if 0≤x3 then((spec_l01In.f (rd aa x3) (-100) 100).bind fun af=>(if af=true then(spec_l01Is.l0 k (wrap64 (x3+1)) ae aa) else(some false))) else(none)) else(some true)
end
def spec_l01Is.f (k:Nat) (aa:List (List Int)) (ae:List Int):Option (Bool):=(spec_l01Matrix.f k aa).bind fun af=>(if af=true then(spec_l01Is.j0 k ((ae.length:Int) !=(aa.length:Int)) aa ae) else(spec_l01Is.j0 k true aa ae))
theorem spec_l01Is.mono_l: ∀k,(∀y0 y1 y2,LeO (spec_l01Is.j0 k y0 y1 y2) (spec_l01Is.j0 (k+1) y0 y1 y2))∧(∀y0 y1 y2,LeO (spec_l01Is.l0 k y0 y1 y2) (spec_l01Is.l0 (k+1) y0 y1 y2))
 | 0=>⟨fun _ _ _ r h=>by simp [spec_l01Is.j0] at h,fun _ _ _ r h=>by simp [spec_l01Is.l0] at h⟩
 | k+1=>by
  obtain⟨ih0,ih1⟩:=spec_l01Is.mono_l k
  refine⟨?_,?_⟩<;>intros<;>(first | unfold spec_l01Is.j0 | unfold spec_l01Is.l0)<;>(repeat' first | (with_reducible first | exact ih0 _ _ _ | exact ih1 _ _ _ | exact spec_l01Matrix.mono _ _ | exact LeO.refl _ | exact LeO.none _ | refine LeO.ite ?_ ?_ | refine LeO.bind ?_ (fun _=>?_)) | exact ih0 _ _ _ | exact ih1 _ _ _ | exact spec_l01Matrix.mono _ _ | exact LeO.none _ | refine LeO.ite ?_ ?_ | refine LeO.bind ?_ (fun _=>?_))
theorem spec_l01Is.mono: ∀a0 a1 k,LeO (spec_l01Is.f k a0 a1) (spec_l01Is.f (k+1) a0 a1):=by
 intro a0 a1 k
 obtain⟨ih0,ih1⟩:=spec_l01Is.mono_l k
 unfold spec_l01Is.f
 repeat' first | (with_reducible first | exact ih0 _ _ _ | exact ih1 _ _ _ | exact spec_l01Matrix.mono _ _ | exact LeO.refl _ | exact LeO.none _ | refine LeO.ite ?_ ?_ | refine LeO.bind ?_ (fun _=>?_)) | exact ih0 _ _ _ | exact ih1 _ _ _ | exact spec_l01Matrix.mono _ _ | exact LeO.none _ | refine LeO.ite ?_ ?_ | refine LeO.bind ?_ (fun _=>?_)
theorem spec_l01Is.calls (k:Nat) (ai:Option Addr) (aj:Nat) (ae:List (List Int)) (ak:Option Addr) (aq:Nat) (aa:List Int) (r:Bool) (w:World) (aJ:Kd.C (Kd.slice 2 (Kd.int .i64)) w ai ae.length ae) (aK:ae.length≤aj) (aM:Kd.C (Kd.int .i64) w ak aa.length aa) (aN:aa.length≤aq) (h:spec_l01Is.f k ae aa=some r):
  Calls Try.prog 55 #[.agg #[.slice ai ae.length aj, .slice ak aa.length aq]] w fun e w'=>e= .returned (.bool r)∧Below w.heap.size w w':=by
 have hu27:=Try.underlying27;have HR0_0:=q_ aJ;have HC0_0:=q_ aK;clear aJ aK;have HR0_1:=q_ aM;have HC0_1:=q_ aN;clear aM aN;have HB:=q_ (Below.refl w.heap.size w);have H:((spec_l01Matrix.f k ae).bind fun av=>(if av=true then(spec_l01Is.j0 k ((aa.length:Int) !=(ae.length:Int)) ae aa) else(spec_l01Is.j0 k true ae aa)))=some r:=h;clear h;have HC2:=q_ H;clear H
 go_enter Try.func55,Try.ntmps55
 go_upto_region 1 with (first | ((with_reducible refine gate_dst (N:=1) rfl ?_);(try (refine gate_guard (by rfl) ?_;dsimp only));refine be_ 1 #[.slice ai ae.length aj, .slice ak aa.length aq] 27 ?_;intro ah hg w3 hbox hb;have af:=q_ (hbox);have bq:=q_ ((by rw [hg];exact bz_:w.heap.size≤ah));have bu:=q_ ((by rw [hg];exact bz_:w.heap.size≤ah));replace HB:=q_ (bs_ hb);clear hb hbox hg))
 (try simp only [Act.put,List.setIfInBounds_toArray,List.set_cons_zero,List.set_cons_succ])
 go_cut [16] (fun v16 wc=> ∃(kq:Nat) (au:Bool),v16= .bool au∧Aside0 (spec_l01Is.j0 kq au ae aa=some r)∧Aside0 (kq≤k)∧Aside0 (wc.heap[ah]?=some (.cells #[(.slice ai ae.length aj),(.slice ak aa.length aq)] 27 (0,0)))∧Aside0 (Below w.heap.size w wc))
 case first=>
  have H:=HC2.out;clear HC2;replace H:=Option.bind_eq_some_iff.mp H;obtain⟨av,A40,H⟩:=H;replace H:(if av=true then(spec_l01Is.j0 k ((aa.length:Int) !=(ae.length:Int)) ae aa) else(spec_l01Is.j0 k true ae aa))=some r:=H;have A4:=q_ A40;clear A40
  by_cases c5:av=true
  ·subst c5;have H1:(spec_l01Is.j0 k ((aa.length:Int) !=(ae.length:Int)) ae aa)=some r:=by rw [if_pos rfl] at H;exact H
   clear H;have H:=H1;clear H1;have H':=q_ H;clear H;have ay:=cz_ af 0;have az:=cz_ af 1;have aA:=blk_frozen af.out 0;have aC:=blk_frozen af.out 1
   go_wp2_with (first | ((with_reducible refine gate_callee (f:=78) rfl ?_);refine gL_ 6 Try.func78 #[.slice ai ae.length aj] ?_;(with_reducible refine(spec_l01Matrix.calls k _ _ ae true _ ?aw ?ax A4.out).mono ?_);(case aw=>exact cb_ HR0_0.out HB.out);(case ax=>exact HC0_0.out);rintro e w' ⟨rfl,⟨nd,rfl⟩⟩;refine⟨_,rfl,?_⟩))
   go_meet
   case rel=>exact⟨_,(((aa.length:Int) !=(ae.length:Int))),rs_,H',⟨by first | omega | exact Nat.le_refl _⟩,⟨bk_⟩,⟨hb_⟩⟩
  ·replace c5:=Bool.eq_false_iff.mpr c5;subst c5;have H1:(spec_l01Is.j0 k true ae aa)=some r:=by rw [if_neg (show ¬ (false=true) by decide)] at H;exact H
   clear H;have H:=H1;clear H1;have H':=q_ H;clear H;have aD:=cz_ af 0;have aG:=cz_ af 1;have aH:=blk_frozen af.out 0;have aI:=blk_frozen af.out 1
   go_wp2_with (first | ((with_reducible refine gate_callee (f:=78) rfl ?_);refine gL_ 6 Try.func78 #[.slice ai ae.length aj] ?_;(with_reducible refine(spec_l01Matrix.calls k _ _ ae false _ ?aw ?ax A4.out).mono ?_);(case aw=>exact cb_ HR0_0.out HB.out);(case ax=>exact HC0_0.out);rintro e w' ⟨rfl,⟨nd,rfl⟩⟩;refine⟨_,rfl,?_⟩))
   go_meet
   case rel=>exact⟨_,(true),rs_,H',⟨by first | omega | exact Nat.le_refl _⟩,⟨bk_⟩,⟨hb_⟩⟩
 case rest=>
  clear HC2;(try clear c5);(try clear ay);(try clear az);(try clear aD);(try clear aG);(try clear aA);(try clear aC);(try clear aH);(try clear aI);obtain⟨kq,au,rfl,HA,HJ1,af,HB⟩:=hcut;cases kq with
  | zero=>exact absurd HA.out (by simp [spec_l01Is.j0])
  | succ kj1=>
   have H:=HA.out;clear HA;simp only [spec_l01Is.j0] at H
   by_cases c8:au=true
   ·subst c8;have H1:(some false)=some r:=by rw [if_pos rfl] at H;exact H
    clear H;have H:=H1;clear H1;obtain rfl:=Option.some.inj H;go_wp2
    go_ret
    exact⟨by first | rfl | (simp [errW_none,errW_some] <;> rfl) | (simp [*,errW_none,errW_some] <;> rfl),hb_⟩
   ·replace c8:=Bool.eq_false_iff.mpr c8;subst c8;have H1:(spec_l01Is.l0 kj1 0 ae aa)=some r:=by rw [if_neg (show ¬ (false=true) by decide)] at H;exact H
    clear H;have H:=H1;clear H1;have H':=q_ H;clear H;go_wp2
    go_loopg [3] kj1 (fun kq v3 w'=> ∃(ag:Int),v3= .int .i64 ag∧Aside0 (spec_l01Is.l0 kq ag ae aa=some r)∧Aside0 (kq≤kj1)∧Aside0 (w'.heap[ah]?=some (.cells #[(.slice ai ae.length aj),(.slice ak aa.length aq)] 27 (0,0)))∧Aside0 (Below w.heap.size w w'))
    case atStart=>exact⟨(0),rs_,H',⟨Nat.le_refl _⟩,⟨bk_⟩,⟨hb_⟩⟩
    case round=>
     clear H';(try clear c5);(try clear c8);(try clear ay);(try clear az);(try clear aD);(try clear aG);(try clear aA);(try clear aC);(try clear aH);(try clear aI);obtain⟨ag,rfl,HA,HK2,af,HB⟩:=hrel;cases gk with
     | zero=>exact absurd HA.out (by simp [spec_l01Is.l0])
     | succ k2=>
      have H:=HA.out;clear HA;simp only [spec_l01Is.l0] at H
      by_cases c9:ag < (aa.length:Int)
      ·rw [if_pos c9] at H;have c9b0:=decide_eq_true c9;clear c9
       by_cases c10:0≤ag
       ·rw [if_pos c10] at H;have c10b0:=decide_eq_true c10;clear c10;replace H:=Option.bind_eq_some_iff.mp H;obtain⟨aQ,A110,H⟩:=H;replace H:(if aQ=true then(spec_l01Is.l0 k2 (wrap64 (ag+1)) ae aa) else(some false))=some r:=H;have A11:=q_ A110;clear A110
        by_cases c12:aQ=true
        ·subst c12;have H1:(spec_l01Is.l0 k2 (wrap64 (ag+1)) ae aa)=some r:=by rw [if_pos rfl] at H;exact H
         clear H;have H:=H1;clear H1;have H':=q_ H;clear H;have aU:=cz_ af 0;have aV:=cz_ af 1;have aW:=blk_frozen af.out 0;have aX:=blk_frozen af.out 1;have p120:0≤(ag:Int):=od_;have q120:ag < (aa.length:Int):=od_;obtain⟨aT,e120,hx120_0⟩:=Kd.at_int HR0_1.out ag p120 q120;cases e120
         replace hx120_0:=(HB.out.cell (World.block_lt_of_cell? w _ hx120_0)).trans hx120_0;replace p120:=eq_true p120;replace q120:=eq_true q120
         go_wp2_with (first | ((with_reducible refine gate_callee (f:=56) rfl ?_);refine gL_ 29 Try.func56 #[.int .i64 (rd aa ag), .int .i64 (-100), .int .i64 100] ?_;(with_reducible refine(spec_l01In.calls (rd aa ag) (-100) 100 true _ A11.out).mono ?_);rintro e w' ⟨rfl,⟨nd,rfl⟩⟩;refine⟨_,rfl,?_⟩))
         go_roundg k2
         case measure=>have:=HJ1.out;have:=HK2.out;omega
         case rel=>exact⟨(wrap64 (ag+1)),rs_,H',⟨by have:=HJ1.out;have:=HK2.out;omega⟩,⟨bk_⟩,⟨hb_⟩⟩
        ·replace c12:=Bool.eq_false_iff.mpr c12;subst c12;have H1:(some false)=some r:=by rw [if_neg (show ¬ (false=true) by decide)] at H;exact H
         clear H;have H:=H1;clear H1;obtain rfl:=Option.some.inj H;have aY:=cz_ af 0;have aZ:=cz_ af 1;have a9:=blk_frozen af.out 0;have ba:=blk_frozen af.out 1;have p120:0≤(ag:Int):=od_;have q120:ag < (aa.length:Int):=od_;obtain⟨aT,e120,hx120_0⟩:=Kd.at_int HR0_1.out ag p120 q120;cases e120
         replace hx120_0:=(HB.out.cell (World.block_lt_of_cell? w _ hx120_0)).trans hx120_0;replace p120:=eq_true p120;replace q120:=eq_true q120
         go_wp2_with (first | ((with_reducible refine gate_callee (f:=56) rfl ?_);refine gL_ 29 Try.func56 #[.int .i64 (rd aa ag), .int .i64 (-100), .int .i64 100] ?_;(with_reducible refine(spec_l01In.calls (rd aa ag) (-100) 100 false _ A11.out).mono ?_);rintro e w' ⟨rfl,⟨nd,rfl⟩⟩;refine⟨_,rfl,?_⟩))
         go_ret
         exact⟨by first | rfl | (simp [errW_none,errW_some] <;> rfl) | (simp [*,errW_none,errW_some] <;> rfl),hb_⟩
       ·rw [if_neg c10] at H;exact absurd H (by simp)
      ·rw [if_neg c9] at H;have c9b0:=decide_eq_false c9;clear c9;obtain rfl:=Option.some.inj H;have bf:=cz_ af 0;have bg:=cz_ af 1;have bh:=blk_frozen af.out 0;have bk:=blk_frozen af.out 1;go_wp2
       go_ret
       exact⟨by first | rfl | (simp [errW_none,errW_some] <;> rfl) | (simp [*,errW_none,errW_some] <;> rfl),hb_⟩
end Go.Proofs.Ytbjljcpngbhkeaa.Pr
end
section
namespace Go.Proofs.Ytbjljcpngbhkeaa.Pr
open Go.RowKit Go.Proofs.YtbjljcpngbhkeaaW.PrintWords Go.Proofs.YtbjljcpngbhkeaaW.PrintLast Go.Proofs.YtbjljcpngbhkeaaW.PrintMore
def badL (k:Int) (row:List Int):Bool:=(row.length:Int) !=k
theorem isSquare1 (gb:Nat) (k:Int) (A:Option Addr) (c:Nat) (x:List Int) (w:World) (hb:w.cell? ⟨gb,0,none⟩=some (.int .i64 k)):
  Calls Try.prog 98 (#[.slice A x.length c]++ #[.pointer (some ⟨gb,0,none⟩)]) w fun e w'=>e= .returned (.bool (badL k x))∧Below w.heap.size w w':=by
 unfold badL
 show Calls Try.prog 98 #[.slice A x.length c, .pointer (some ⟨gb,0,none⟩)] w _
 by_cases e:(x.length:Int)=k
 ·have h1:((x.length:Int) !=k)=false:=by simp [e]
  have h2:((x.length:Int)==k)=true:=by simp [e]
  clear e
  go_enter Try.func98,Try.ntmps98
  go_wp2
  go_ret
  exact⟨by rw [h1];rfl,Below.refl _ _⟩
 ·have h1:((x.length:Int) !=k)=true:=by simp [e]
  have h2:((x.length:Int)==k)=false:=by simp [e]
  clear e
  go_enter Try.func98,Try.ntmps98
  go_wp2
  go_ret
  exact⟨by rw [h1];rfl,Below.refl _ _⟩
theorem isSquare1_enters: ∀args w,(callFunc 98 args).run Try.prog w= .ok (.enter 98 args) w:=enters_fn Try.func98 (by kernel_rfl) rfl
def impl_isSquare.f (l0:List (List Int)) (a1:Int):Option Bool:=some (((l0.length:Int)==a1) && !(l0.any (badL a1)))
theorem impl_isSquare.calls (A0:Option Addr) (c0:Nat) (l0:List (List Int)) (a1:Int) (r:Bool) (w:World) (hr0:Kd.C (Kd.slice 2 (Kd.int .i64)) w A0 l0.length l0) (hc0:l0.length≤c0) (h:impl_isSquare.f l0 a1=some r):
  Calls Try.prog 88 #[.slice A0 l0.length c0, .int .i64 a1] w fun e w'=>e= .returned (.bool r)∧Below w.heap.size w w':=by
 have HR:=q_ hr0;clear hr0 hc0;have hv:=(Option.some.inj h)
 clear h
 by_cases e:(l0.length:Int)=a1
 ·have h1:((l0.length:Int)==a1)=true:=by simp [e]
  rw [h1,Bool.true_and] at hv;have HV:=q_ hv;clear hv e;have hcall:=fun(gb:Nat) W (hW:Below w.heap.size w W) (hgb:gb < W.heap.size) (hcell:W.cell? ⟨gb,0,none⟩=some (.int .i64 a1))=>
   containsFuncRows (badL a1) 98 #[.pointer (some ⟨gb,0,none⟩)] isSquare1_enters A0 c0 l0 W (Kd.C_below HR.out hW)
    (fun W' A c x _ hb _ hC=>isSquare1 gb a1 A c x W' ((hb.cell (p:=⟨gb,0,none⟩) hgb).trans hcell))
  have HC:=q_ hcall;clear hcall
  generalize l0.any (badL a1)=b at HC HV
  go_enter Try.func88,Try.ntmps88
  go_wp2_with fail
  refine(HC.out _ _ ((Below.refl _ _).alloc (Nat.le_refl _) _) (by simp) (by simp)).mono ?_
  rintro e w' ⟨rfl,hb'⟩;go_wp2
  go_ret
  exact⟨by rw [← HV.out];rfl,((Below.refl _ _).alloc (Nat.le_refl _) _).trans (hb'.mono (by simp))⟩
 ·have h1:((l0.length:Int)==a1)=false:=by simp [e]
  rw [h1,Bool.false_and] at hv;have HV:=q_ hv;clear hv e
  go_enter Try.func88,Try.ntmps88
  go_wp2
  go_ret
  exact⟨by rw [← HV.out];rfl,(Below.refl _ _).alloc (Nat.le_refl _) _⟩
end Go.Proofs.Ytbjljcpngbhkeaa.Pr
end
section
namespace Go.Proofs.Ytbjljcpngbhkeaa.Pr
open Go.RowKit Go.Proofs.YtbjljcpngbhkeaaW.PrintWords Go.Proofs.YtbjljcpngbhkeaaW.PrintLast Go.Proofs.YtbjljcpngbhkeaaW.PrintMore
def IntsPred (g:Nat) (lb:Array Value) (p:Int→Bool) (w:World) (l:List Int):Prop:=
 ∀(W:World) (x:Int),x ∈ l→Below w.heap.size w W→Calls Try.prog g (#[.int .i64 x]++lb) W fun e w'=>e= .returned (.bool (p x))∧Below W.heap.size W w'
theorem indexFuncInts (p:Int→Bool) (g:Nat) (lb:Array Value) (eg: ∀args w,(callFunc g args).run Try.prog w= .ok (.enter g args) w) (A:Option Addr) (c:Nat) (l:List Int) (w:World)
  (hr:Kd.C (Kd.int .i64) w A l.length l) (hp:IntsPred g lb p w l):
  Calls Try.prog 77 #[.slice A l.length c, .func (.func g) #[] lb] w fun e w'=>e= .returned (.int .i64 (idxP p l 0))∧Below w.heap.size w w':=by
 have HR:=q_ hr;have HP:=q_ hp;have hbig:l.length≤9223372036854775807:=hr.2.1;clear hr hp
 go_enter Try.func77,Try.ntmps77
 go_wp2
 go_loopg [5,8] l.length (fun gg _ s8 wr=> ∃kk:Nat,kk≤l.length∧l.length - kk≤gg∧s8= .int .i64 kk∧Aside0 (Below w.heap.size w wr)∧Aside0 (∀j (hj:j < l.length),j < kk→p l[j]=false))
 case atStart=>exact⟨0,Nat.zero_le _,by omega,rfl,⟨Below.refl _ w⟩,⟨fun j _ hj=>absurd hj (Nat.not_lt_zero _)⟩⟩
 case round=>
  obtain⟨kk,hkk,hg,rfl,BW,F⟩:=hrel
  by_cases hlt:kk < l.length
  ·obtain⟨ad,e,hx⟩:=Kd.at_int HR.out kk (by omega) (by omega);cases e
   rw [Int.toNat_natCast] at hx;have hx':=(BW.out.cell (World.block_lt_of_cell? w _ hx)).trans hx;clear hx;have hel:rd l (kk:Int)=l[kk]:=by simp [rd,hlt]
   have hcall:=HP.out wr l[kk] (List.getElem_mem hlt) BW.out;rw [hel] at hx';clear hel;have hltz:(kk:Int) < (l.length:Int):=by omega
   have h0z:(0:Int)≤(kk:Int):=by omega
   generalize hy:l[kk]=y at hx' hcall
   have HY:=q_ hy;clear hy;cases hq:p y with
   | true=>
    rw [hq] at hcall;have HQ:=q_ hq;clear hq
    go_wp2_with fail
    refine hcall.mono ?_
    rintro e w' ⟨rfl,hb'⟩;clear hcall;go_wp2
    go_ret
    refine⟨?_,Below.trans BW.out (hb'.mono BW.out.size)⟩
    rw [idxP_hit p l kk hlt F.out (by rw [HY.out];exact HQ.out)]
    rfl
   | false=>
    rw [hq] at hcall;have HQ:=q_ hq;clear hq
    go_wp2_with fail
    refine hcall.mono ?_
    rintro e w' ⟨rfl,hb'⟩;clear hcall;go_wp2
    go_roundg (l.length - (kk+1))
    case measure=>omega
    case rel=>
     refine⟨kk+1,by omega,by omega,by go_num,⟨Below.trans BW.out (hb'.mono BW.out.size)⟩,⟨fun j hj hjk=>?_⟩⟩
     by_cases e:j=kk
     ·subst e;rw [HY.out];exact HQ.out
     ·exact F.out j hj (by omega)
  ·have hltz: ¬ (kk:Int) < (l.length:Int):=by omega
   obtain rfl:kk=l.length:=by omega
   go_wp2
   go_ret
   refine⟨?_,BW.out⟩
   rw [idxP_miss p l (fun i hi=>F.out i hi hi)]
   rfl
theorem containsFuncInts (p:Int→Bool) (g:Nat) (lb:Array Value) (eg: ∀args w,(callFunc g args).run Try.prog w= .ok (.enter g args) w) (A:Option Addr) (c:Nat) (l:List Int) (w:World)
  (hr:Kd.C (Kd.int .i64) w A l.length l) (hp:IntsPred g lb p w l):
  Calls Try.prog 52 #[.slice A l.length c, .func (.func g) #[] lb] w fun e w'=>e= .returned (.bool (l.any p))∧Below w.heap.size w w':=by
 rw [← idxP_nonneg p l 0 (Int.le_refl _)];have HR:=q_ hr;have HP:=q_ hp;clear hr hp
 go_enter Try.func52,Try.ntmps52
 go_wp2_with fail
 refine(indexFuncInts p g lb eg A c l _ HR.out HP.out).mono ?_
 rintro e w' ⟨rfl,hb'⟩;go_wp2
 go_ret
 exact⟨rfl,hb'⟩
end Go.Proofs.Ytbjljcpngbhkeaa.Pr
end
section
namespace Go.Proofs.Ytbjljcpngbhkeaa.Pr
open Go.RowKit Go.Proofs.YtbjljcpngbhkeaaW.PrintWords Go.Proofs.YtbjljcpngbhkeaaW.PrintLast Go.Proofs.YtbjljcpngbhkeaaW.PrintMore
attribute [local go_sem] max2_int min2_int max_two min_two max_three min_three max_four min_four
def impl_upTo.f (a0:Int) (a1:Int):Option (Bool):=(impl_within.f a0 (wrap64 (-a1)) a1).bind fun aa=>(some aa)
theorem impl_upTo.calls (a0:Int) (a1:Int) (r:Bool) (w:World) (h:impl_upTo.f a0 a1=some r):
  Calls Try.prog 92 #[.int .i64 a0, .int .i64 a1] w fun e w'=>e= .returned (.bool r)∧Drawn0 w w':=by
 have H:((impl_within.f a0 (wrap64 (-a1)) a1).bind fun aa=>(some aa))=some r:=h;clear h;replace H:=Option.bind_eq_some_iff.mp H;obtain⟨aa,A30,H⟩:=H;replace H:(some aa)=some r:=H;have A3:=q_ A30;clear A30;obtain rfl:=Option.some.inj H
 go_enter Try.func92,Try.ntmps92
 go_wp2_with (first | ((with_reducible refine gate_callee (f:=54) rfl ?_);refine gL_ 9 Try.func54 #[.int .i64 a0, .int .i64 (wrap64 (-a1)), .int .i64 a1] ?_;(with_reducible refine(impl_within.calls a0 (wrap64 (-a1)) a1 aa _ A3.out).mono ?_);rintro e w' ⟨rfl,⟨nd,rfl⟩⟩;refine⟨_,rfl,?_⟩))
 go_ret
 exact⟨by first | rfl | (simp;done) | (simp [*];done),by repeat (first | exact Drawn0.refl _ | apply Drawn0.step)⟩
end Go.Proofs.Ytbjljcpngbhkeaa.Pr
end
section
namespace Go.Proofs.Ytbjljcpngbhkeaa.Pr
open Go.RowKit Go.Proofs.YtbjljcpngbhkeaaW.PrintWords Go.Proofs.YtbjljcpngbhkeaaW.PrintLast Go.Proofs.YtbjljcpngbhkeaaW.PrintMore
def badU (a n:Int):Bool:=!(decide (-a≤n) && decide (n≤a))
theorem upTo_f (n a:Int) (h0:0≤a) (h1:a≤1099511627776):impl_upTo.f n a=some (!(badU a n)):=by
 unfold impl_upTo.f impl_within.f badU
 rw [Ma.w64 (by omega) (by omega),Bool.not_not]
 by_cases h: -a≤n
 ·rw [if_pos (by omega)];simp [h]
 ·rw [if_neg (by omega)];simp [h]
theorem allUpTo1 (gb:Nat) (a n:Int) (w:World) (h0:0≤a) (h1:a≤1099511627776) (hb:w.cell? ⟨gb,0,none⟩=some (.int .i64 a)):
  Calls Try.prog 91 (#[.int .i64 n]++ #[.pointer (some ⟨gb,0,none⟩)]) w fun e w'=>e= .returned (.bool (badU a n))∧Below w.heap.size w w':=by
 have hf:=upTo_f n a h0 h1;have HF:=q_ hf;clear hf h0 h1
 show Calls Try.prog 91 #[.int .i64 n, .pointer (some ⟨gb,0,none⟩)] w _
 generalize badU a n=b at HF ⊢
 go_enter Try.func91,Try.ntmps91
 go_wp2_with fail
 refine(impl_upTo.calls n a _ _ HF.out).mono ?_
 rintro e w' ⟨rfl,⟨nd,rfl⟩⟩;go_wp2
 go_ret
 refine⟨by simp,pw_below_drewN (Below.refl _ _) _⟩
theorem allUpTo1_enters: ∀args w,(callFunc 91 args).run Try.prog w= .ok (.enter 91 args) w:=enters_fn Try.func91 (by kernel_rfl) rfl
def impl_allUpTo.f (l0:List Int) (a1:Int):Option Bool:=if 0≤a1∧a1≤1099511627776 then some (!(l0.any (badU a1))) else none
theorem impl_allUpTo.calls (A0:Option Addr) (c0:Nat) (l0:List Int) (a1:Int) (r:Bool) (w:World) (hr0:Kd.C (Kd.int .i64) w A0 l0.length l0) (hc0:l0.length≤c0) (h:impl_allUpTo.f l0 a1=some r):
  Calls Try.prog 70 #[.slice A0 l0.length c0, .int .i64 a1] w fun e w'=>e= .returned (.bool r)∧Below w.heap.size w w':=by
 unfold impl_allUpTo.f at h
 split at h
 case isFalse=>cases h
 rename_i ha
 have HR:=q_ hr0;clear hr0 hc0;have HV:=q_ (Option.some.inj h);clear h;have hcall:=fun(gb:Nat) W (hW:Below w.heap.size w W) (hgb:gb < W.heap.size) (hcell:W.cell? ⟨gb,0,none⟩=some (.int .i64 a1))=>
  containsFuncInts (badU a1) 91 #[.pointer (some ⟨gb,0,none⟩)] allUpTo1_enters A0 c0 l0 W (Kd.C_below HR.out hW)
   (fun W' x _ hb=>allUpTo1 gb a1 x W' ha.1 ha.2 ((hb.cell (p:=⟨gb,0,none⟩) hgb).trans hcell))
 have HC:=q_ hcall;clear hcall ha
 generalize l0.any (badU a1)=b at HC HV
 go_enter Try.func70,Try.ntmps70
 go_wp2_with fail
 refine(HC.out _ _ ((Below.refl _ _).alloc (Nat.le_refl _) _) (by simp) (by simp)).mono ?_
 rintro e w' ⟨rfl,hb'⟩;go_wp2
 go_ret
 exact⟨by rw [← HV.out];rfl,((Below.refl _ _).alloc (Nat.le_refl _) _).trans (hb'.mono (by simp))⟩
end Go.Proofs.Ytbjljcpngbhkeaa.Pr
end
section
namespace Go.Proofs.Ytbjljcpngbhkeaa.Pr
open Go.RowKit Go.Proofs.YtbjljcpngbhkeaaW.PrintWords Go.Proofs.YtbjljcpngbhkeaaW.PrintLast Go.Proofs.YtbjljcpngbhkeaaW.PrintMore
def badM (row:List Int):Bool:=row.any (badU 20)
theorem isMatrix1 (A:Option Addr) (c:Nat) (x:List Int) (w:World) (hx:Kd.C (Kd.int .i64) w A x.length x) (hc:x.length≤c):
  Calls Try.prog 90 (#[.slice A x.length c]++ #[]) w fun e w'=>e= .returned (.bool (badM x))∧Below w.heap.size w w':=by
 have HX:=q_ hx;have HC:=q_ hc;have hf:impl_allUpTo.f x 20=some (!(badM x)):=by unfold impl_allUpTo.f badM;rw [if_pos ⟨by decide,by decide⟩]
 have HF:=q_ hf;clear hx hc hf
 show Calls Try.prog 90 #[.slice A x.length c] w _
 generalize badM x=b at HF ⊢
 go_enter Try.func90,Try.ntmps90
 go_wp2_with fail
 refine(impl_allUpTo.calls A c x 20 _ _ HX.out HC.out HF.out).mono ?_
 rintro e w' ⟨rfl,hb⟩;go_wp2
 go_ret
 exact⟨by simp,hb⟩
theorem isMatrix1_enters: ∀args w,(callFunc 90 args).run Try.prog w= .ok (.enter 90 args) w:=enters_fn Try.func90 (by kernel_rfl) rfl
def impl_IsMatrix.f (l0:List (List Int)):Option Bool:=some ((decide (1≤(l0.length:Int)) && decide ((l0.length:Int)≤5)) && !(l0.any (badL l0.length)) && !(l0.any badM))
theorem within_b (n a b:Int):impl_within.f n a b=some (decide (a≤n) && decide (n≤b)):=by
 unfold impl_within.f
 by_cases h:a≤n
 ·rw [if_pos (by omega)];simp [h]
 ·rw [if_neg (by omega)];simp [h]
theorem impl_IsMatrix.calls (A0:Option Addr) (c0:Nat) (l0:List (List Int)) (r:Bool) (w:World) (hr0:Kd.C (Kd.slice 2 (Kd.int .i64)) w A0 l0.length l0) (hc0:l0.length≤c0) (h:impl_IsMatrix.f l0=some r):
  Calls Try.prog 69 #[.slice A0 l0.length c0] w fun e w'=>e= .returned (.bool r)∧Below w.heap.size w w':=by
 have HR:=q_ hr0;have HC0:=q_ hc0;have HW:=q_ (within_b (l0.length:Int) 1 5);have hsq:impl_isSquare.f l0 (l0.length:Int)=some (!(l0.any (badL l0.length))):=by unfold impl_isSquare.f;simp
 have HS:=q_ hsq;have hv:=(Option.some.inj h)
 have hcall:=fun W (hW:Below w.heap.size w W)=>containsFuncRows badM 90 #[] isMatrix1_enters A0 c0 l0 W (Kd.C_below HR.out hW) (fun W' A c x _ _ hc hC=>isMatrix1 A c x W' hC hc)
 have HC:=q_ hcall;have HV:=q_ hv;clear hr0 hc0 h hsq hv hcall
 generalize l0.any badM=b3 at HC HV
 generalize l0.any (badL l0.length)=b2 at HS HV
 generalize (decide (1≤(l0.length:Int)) && decide ((l0.length:Int)≤5))=b1 at HW HV
 go_enter Try.func69,Try.ntmps69
 go_wp2_with fail
 refine(impl_within.calls _ 1 5 _ _ HW.out).mono ?_
 rintro e w1 ⟨rfl,hd⟩;have hb1:=hd.below;have HB1:=q_ hb1;clear hb1 hd;cases b1 with
 | false=>
  go_wp2
  go_ret
  exact⟨by rw [← HV.out];rfl,HB1.out⟩
 | true=>
  go_wp2_with fail
  refine(impl_isSquare.calls A0 c0 l0 _ _ _ (Kd.C_below HR.out HB1.out) HC0.out HS.out).mono ?_
  rintro e w2 ⟨rfl,hb2⟩;have HB2:=q_ (HB1.out.trans (hb2.mono HB1.out.size));clear hb2;cases b2 with
  | true=>
   go_wp2
   go_ret
   exact⟨by rw [← HV.out];rfl,HB2.out⟩
  | false=>
   go_wp2_with fail
   refine(HC.out _ HB2.out).mono ?_
   rintro e w3 ⟨rfl,hb3⟩;go_wp2
   go_ret
   exact⟨by rw [← HV.out];simp,HB2.out.trans (hb3.mono HB2.out.size)⟩
end Go.Proofs.Ytbjljcpngbhkeaa.Pr
end
section
namespace Go.Proofs.Ytbjljcpngbhkeaa.Pr
open Go.RowKit Go.Proofs.YtbjljcpngbhkeaaW.PrintWords Go.Proofs.YtbjljcpngbhkeaaW.PrintLast Go.Proofs.YtbjljcpngbhkeaaW.PrintMore
attribute [local go_sem] max2_int min2_int max_two min_two max_three min_three max_four min_four
def impl_IsProblem.f (aa:List (List Int)) (ae:List Int):Option (Bool):=(impl_IsMatrix.f aa).bind fun af=>(if af=true then(if(ae.length:Int)=(aa.length:Int) then((impl_allUpTo.f ae 100).bind fun ag=>(some ag)) else(some false)) else(some false))
theorem impl_IsProblem.calls (ah:Option Addr) (ai:Nat) (ae:List (List Int)) (aj:Option Addr) (ak:Nat) (af:List Int) (r:Bool) (w:World) (ax:Kd.C (Kd.slice 2 (Kd.int .i64)) w ah ae.length ae) (ay:ae.length≤ai) (az:Kd.C (Kd.int .i64) w aj af.length af) (aA:af.length≤ak) (h:impl_IsProblem.f ae af=some r):
  Calls Try.prog 39 #[.agg #[.slice ah ae.length ai, .slice aj af.length ak]] w fun e w'=>e= .returned (.bool r)∧Below w.heap.size w w':=by
 have hu27:=Try.underlying27;have HR0_0:=q_ ax;have HC0_0:=q_ ay;clear ax ay;have HR0_1:=q_ az;have HC0_1:=q_ aA;clear az aA;have HB:=q_ (Below.refl w.heap.size w);have H:((impl_IsMatrix.f ae).bind fun aw=>(if aw=true then(if(af.length:Int)=(ae.length:Int) then((impl_allUpTo.f af 100).bind fun av=>(some av)) else(some false)) else(some false)))=some r:=h;clear h;replace H:=Option.bind_eq_some_iff.mp H;obtain⟨aw,A20,H⟩:=H;replace H:(if aw=true then(if(af.length:Int)=(ae.length:Int) then((impl_allUpTo.f af 100).bind fun av=>(some av)) else(some false)) else(some false))=some r:=H;have A2:=q_ A20;clear A20
 by_cases c3:aw=true
 ·subst c3;have H1:(if(af.length:Int)=(ae.length:Int) then((impl_allUpTo.f af 100).bind fun av=>(some av)) else(some false))=some r:=by rw [if_pos rfl] at H;exact H
  clear H;have H:=H1;clear H1
  by_cases c4:(af.length:Int)=(ae.length:Int)
  ·rw [if_pos c4] at H;have c4b0:=e1_ c4;have c4b1:=e2_ c4;have c4b2:(af.length==ae.length)=true:=by first | simpa using c4 | (simp at c4 ⊢;omega)
   clear c4;replace H:=Option.bind_eq_some_iff.mp H;obtain⟨av,A50,H⟩:=H;replace H:(some av)=some r:=H;have A5:=q_ A50;clear A50;obtain rfl:=Option.some.inj H
   go_enter Try.func39,Try.ntmps39
   go_wp2_with (first | ((with_reducible refine gate_dst (N:=1) rfl ?_);(try (refine gate_guard (by rfl) ?_;dsimp only));refine be_ 1 #[.slice ah ae.length ai, .slice aj af.length ak] 27 ?_;intro ag hg w6 hbox hb;have aa:=q_ (hbox);have aC:=q_ ((by rw [hg];exact bz_:w.heap.size≤ag));have aD:=q_ ((by rw [hg];exact bz_:w.heap.size≤ag));replace HB:=q_ (bs_ hb);clear hb hbox hg;have aX:=cz_ aa 0;have aY:=cz_ aa 1;have aZ:=blk_frozen aa.out 0;have a9:=blk_frozen aa.out 1) | ((with_reducible refine gate_callee (f:=69) rfl ?_);refine gL_ 5 Try.func69 #[.slice ah ae.length ai] ?_;(with_reducible refine(impl_IsMatrix.calls _ _ ae true _ ?aq ?au A2.out).mono ?_);(case aq=>exact cb_ HR0_0.out HB.out);(case au=>exact HC0_0.out);rintro e w8 ⟨rfl,hb⟩;refine⟨_,rfl,?_⟩;replace aa:=q_ (bb_ aa.out hb);replace HB:=q_ (bs_ hb);(try clear hb);have ba:=cz_ aa 0;have bf:=cz_ aa 1;have bg:=blk_frozen aa.out 0;have bh:=blk_frozen aa.out 1) | (go_at_call 70;(with_reducible refine(impl_allUpTo.calls _ _ af 100 av _ ?aq ?au A5.out).mono ?_);(case aq=>exact cb_ HR0_1.out HB.out);(case au=>exact HC0_1.out);rintro e w10 ⟨rfl,hb⟩;replace aa:=q_ (bb_ aa.out hb);replace HB:=q_ (bs_ hb);(try clear hb)))
   go_ret
   exact⟨by first | rfl | (simp [errW_none,errW_some] <;> rfl) | (simp [*,errW_none,errW_some] <;> rfl),hb_⟩
  ·rw [if_neg c4] at H;have c4b0:=e3_ c4;have c4b1:=e4_ c4;have c4b2:(af.length==ae.length)=false:=by first | simpa using c4 | (simp at c4 ⊢;omega)
   obtain rfl:=Option.some.inj H
   go_enter Try.func39,Try.ntmps39
   go_wp2_with (first | ((with_reducible refine gate_dst (N:=1) rfl ?_);(try (refine gate_guard (by rfl) ?_;dsimp only));refine be_ 1 #[.slice ah ae.length ai, .slice aj af.length ak] 27 ?_;intro ag hg w11 hbox hb;have aa:=q_ (hbox);have aC:=q_ ((by rw [hg];exact bz_:w.heap.size≤ag));have aD:=q_ ((by rw [hg];exact bz_:w.heap.size≤ag));replace HB:=q_ (bs_ hb);clear hb hbox hg;have aG:=cz_ aa 0;have aH:=cz_ aa 1;have aI:=blk_frozen aa.out 0;have aJ:=blk_frozen aa.out 1) | ((with_reducible refine gate_callee (f:=69) rfl ?_);refine gL_ 5 Try.func69 #[.slice ah ae.length ai] ?_;(with_reducible refine(impl_IsMatrix.calls _ _ ae true _ ?aq ?au A2.out).mono ?_);(case aq=>exact cb_ HR0_0.out HB.out);(case au=>exact HC0_0.out);rintro e w13 ⟨rfl,hb⟩;refine⟨_,rfl,?_⟩;replace aa:=q_ (bb_ aa.out hb);replace HB:=q_ (bs_ hb);(try clear hb);have aK:=cz_ aa 0;have aM:=cz_ aa 1;have aN:=blk_frozen aa.out 0;have aQ:=blk_frozen aa.out 1))
   go_ret
   exact⟨by first | rfl | (simp [errW_none,errW_some] <;> rfl) | (simp [*,errW_none,errW_some] <;> rfl),hb_⟩
 ·replace c3:=Bool.eq_false_iff.mpr c3;subst c3;have H1:(some false)=some r:=by rw [if_neg (show ¬ (false=true) by decide)] at H;exact H
  clear H;have H:=H1;clear H1;obtain rfl:=Option.some.inj H
  go_enter Try.func39,Try.ntmps39
  go_wp2_with (first | ((with_reducible refine gate_dst (N:=1) rfl ?_);(try (refine gate_guard (by rfl) ?_;dsimp only));refine be_ 1 #[.slice ah ae.length ai, .slice aj af.length ak] 27 ?_;intro ag hg w15 hbox hb;have aa:=q_ (hbox);have aC:=q_ ((by rw [hg];exact bz_:w.heap.size≤ag));have aD:=q_ ((by rw [hg];exact bz_:w.heap.size≤ag));replace HB:=q_ (bs_ hb);clear hb hbox hg;have aT:=cz_ aa 0;have aU:=cz_ aa 1;have aV:=blk_frozen aa.out 0;have aW:=blk_frozen aa.out 1) | ((with_reducible refine gate_callee (f:=69) rfl ?_);refine gL_ 5 Try.func69 #[.slice ah ae.length ai] ?_;(with_reducible refine(impl_IsMatrix.calls _ _ ae false _ ?aq ?au A2.out).mono ?_);(case aq=>exact cb_ HR0_0.out HB.out);(case au=>exact HC0_0.out);rintro e w17 ⟨rfl,hb⟩;refine⟨_,rfl,?_⟩;replace aa:=q_ (bb_ aa.out hb);replace HB:=q_ (bs_ hb);(try clear hb)))
  go_ret
  exact⟨by first | rfl | (simp [errW_none,errW_some] <;> rfl) | (simp [*,errW_none,errW_some] <;> rfl),hb_⟩
def impl_isSet.f (a0:Int) (a1:Int):Option (Bool):=if 0≤a1 then((impl_within.f a0 0 (wrap64 ((shl .i64 1 a1) - 1))).bind fun aa=>(some aa)) else(none)
theorem impl_isSet.calls (a0:Int) (a1:Int) (r:Bool) (w:World) (h:impl_isSet.f a0 a1=some r):
  Calls Try.prog 40 #[.int .i64 a0, .int .i64 a1] w fun e w'=>e= .returned (.bool r)∧Drawn0 w w':=by
 have H:(if 0≤a1 then((impl_within.f a0 0 (wrap64 ((shl .i64 1 a1) - 1))).bind fun aa=>(some aa)) else(none))=some r:=h;clear h
 by_cases c3:0≤a1
 ·rw [if_pos c3] at H;have c3b0:=eq_true c3;have c3b1:=decide_eq_true c3;clear c3;obtain⟨ji4,hji4⟩: ∃j_:Int,(shl .i64 1 a1)=j_:=⟨_,rfl⟩
  replace H:((impl_within.f a0 0 (wrap64 ((ji4) - 1))).bind fun aa=>(some aa))=some r:=by first | (rw [hji4] at H;exact H) | (simp only [hji4] at H ⊢;exact H)
  have hji4_:(IntKind.i64.wrap (1*2 ^ min a1.toNat 64))=ji4:=hji4;have hji4z:a1≤64→(IntKind.i64.wrap (1*2 ^ a1.toNat))=ji4:=shl_small hji4;have hji4u:(IntKind.i64.wrap (2 ^ min a1.toNat 64))=ji4:=by have h_:=hji4_;rw [Int.one_mul] at h_;exact h_
  have hji4v:a1≤64→(IntKind.i64.wrap (2 ^ a1.toNat))=ji4:=fun hle_=>by have h_:=hji4z hle_;rw [Int.one_mul] at h_;exact h_
  have hji4y:(wrap64 (1*2 ^ min a1.toNat 64))=ji4:=(i64_w _).symm.trans hji4_;have hji4x:a1≤64→(wrap64 (1*2 ^ a1.toNat))=ji4:=fun h_=>(i64_w _).symm.trans (hji4z h_)
  replace H:=Option.bind_eq_some_iff.mp H;obtain⟨aa,A50,H⟩:=H;replace H:(some aa)=some r:=H;have A5:=q_ A50;clear A50;obtain rfl:=Option.some.inj H
  go_enter Try.func40,Try.ntmps40
  go_wp2_with (first | ((with_reducible refine gate_callee (f:=54) rfl ?_);refine goesL_ (some 9) rfl rfl Try.func54 (by kernel_rfl) rfl #[.int .i64 a0, .int .i64 0, .int .i64 (wrap64 ((ji4) - 1))] rfl (by(try simp only [List.map_toArray,List.map_cons,List.map_nil]);first | done | (simp only [hji4];rfl) | rfl | (simp only [List.length_drop,List.length_take];rfl)) ?_;(with_reducible refine(impl_within.calls a0 0 (wrap64 ((ji4) - 1)) aa _ A5.out).mono ?_);rintro e w' ⟨rfl,⟨nd,rfl⟩⟩;refine⟨_,rfl,?_⟩))
  go_ret
  exact⟨by first | rfl | (simp;done) | (simp only [← hji4] <;> (first | rfl | simp)) | (simp [*];done),by repeat (first | exact Drawn0.refl _ | apply Drawn0.step)⟩
 ·rw [if_neg c3] at H;exact absurd H (by simp)
end Go.Proofs.Ytbjljcpngbhkeaa.Pr
end
section
namespace Go.Proofs.Ytbjljcpngbhkeaa.Pb
open Go.RowKit Go.Proofs.YtbjljcpngbhkeaaW.PrintWords Go.Proofs.YtbjljcpngbhkeaaW.PrintMore Go.Proofs.Ytbjljcpngbhkeaa.Ma Go.Proofs.Ytbjljcpngbhkeaa.Pr Go.Proofs.Ytbjljcpngbhkeaa.Dt Go.Proofs.Ytbjljcpngbhkeaa.Bz Go.Proofs.Ytbjljcpngbhkeaa.Cz
theorem sin_eq (x a b:Int):spec_l01In.f x a b=some (decide (a≤x∧x≤b)):=by
 unfold spec_l01In.f
 by_cases h:x ≥ a
 ·rw [if_pos h];congr 1;rw [Bool.eq_iff_iff];simp;omega
 ·rw [if_neg h];congr 1;rw [Bool.eq_iff_iff];simp;omega
theorem head_step {P:Nat→Prop} {i d:Nat} (h:i < d):(∀j,i≤j→j < d→P j)↔P i∧ ∀j,i+1≤j→j < d→P j:=
 ⟨fun q=>⟨q i (Nat.le_refl _) h,fun j h1 h2=>q j (by omega) h2⟩,fun q j h1 h2=>by
  by_cases e:j=i
  ·subst e;exact q.1
  ·exact q.2 j (by omega) h2⟩
theorem no_iff {b:Bool} {p:Prop} (h:b=true↔p) (hp: ¬ p):b=false:=by
 cases b with
 | false=>rfl
 | true=>exact absurd (h.1 rfl) hp
def N20 (x:Int):Prop:= -20≤x∧x≤20
def N100 (x:Int):Prop:= -100≤x∧x≤100
def RowM (M:List (List Int)) (i:Nat):Prop:=(M.getD i []).length=M.length∧ ∀j,0≤j→j < M.length→N20 (en M i j)
structure MatOK (M:List (List Int)):Prop where
 n1:1≤M.length
 n5:M.length≤5
 rows: ∀i,0≤i→i < M.length→RowM M i
structure POK (M:List (List Int)) (q:List Int):Prop where
 mat:MatOK M
 len:q.length=M.length
 num: ∀i,0≤i→i < q.length→N100 (q.getD i 0)
theorem MatOK.sq {M:List (List Int)} (h:MatOK M):Sq M.length M:=⟨rfl,fun i hi=>(h.rows i (Nat.zero_le _) hi).1,fun i j hi hj=>by have:=(h.rows i (Nat.zero_le _) hi).2 j (Nat.zero_le _) hj;unfold N20 at this;omega⟩
section
variable {M:List (List Int)} (hM:M.length≤5)
include hM
theorem spec_mrows: ∀m i,i+m=M.length→ ∀t:Bool,(t=true↔ ∀u,i≤u→u < M.length→RowM M u)→Ev (fun k=>spec_l01Matrix.l0 k M (M.length:Int) i) t:=by
 intro m
 induction m with
 | zero=>
  intro i hi t ht
  obtain rfl:t=true:=ht.2 (fun u h1 h2=>by omega)
  exact evstep (fun k=>by rw [spec_l01Matrix.l0]) (evneg (by omega) (evc rfl))
 | succ m ih=>
  intro i hi t ht
  have hs:=head_step (P:=RowM M) (i:=i) (d:=M.length) (by omega)
  have ht2:=ht.trans hs
  refine evstep (fun k=>by rw [spec_l01Matrix.l0]) (evpos (by omega) (evpos (by omega) (evpos (by omega) ?_)))
  rw [rdL1]
  by_cases c:(M.getD i []).length=M.length
  ·refine evpos (by omega) ?_
   have cols: ∀p j,j+p=M.length→ ∀t:Bool,(t=true↔(∀v,j≤v→v < M.length→N20 (en M i v))∧ ∀u,i+1≤u→u < M.length→RowM M u)→Ev (fun k=>spec_l01Matrix.l1 k M (M.length:Int) i j) t:=by
    intro p
    induction p with
    | zero=>
     intro j hj t ht
     refine evstep (fun k=>by rw [spec_l01Matrix.l1]) (evneg (by omega) ?_)
     rw [w64 (x:=(i:Int)+1) (by omega) (by omega)]
     exact ih (i+1) (by omega) t (ht.trans ⟨fun h=>h.2,fun h=>⟨fun v h1 h2=>by omega,h⟩⟩)
    | succ p ihp=>
     intro j hj t ht
     have hs2:=head_step (P:=fun v=>N20 (en M i v)) (i:=j) (d:=M.length) (by omega)
     refine evstep (fun k=>by rw [spec_l01Matrix.l1]) ?_
     rw [rdL1]
     refine evpos (by omega) (evpos (by omega) (evpos (by omega) (evpos (by omega) (evpos (by omega) (evsome (sin_eq _ _ _) ?_)))))
     rw [rd_nat,show (M.getD i []).getD j 0=en M i j from rfl,w64 (x:=(j:Int)+1) (by omega) (by omega)]
     by_cases d: -20≤en M i j∧en M i j≤20
     ·exact evpos (decide_eq_true d) (ihp (j+1) (by omega) t (ht.trans ⟨fun h=>⟨(hs2.1 h.1).2,h.2⟩,fun h=>⟨hs2.2 ⟨d,h.1⟩,h.2⟩⟩))
     ·rw [no_iff ht (fun h=>d ((hs2.1 h.1).1))]
      exact evneg (by simpa using d) (evc rfl)
   exact cols M.length 0 (by omega) t (ht2.trans ⟨fun h=>⟨fun v h1 h2=>h.1.2 v h1 h2,h.2⟩,fun h=>⟨⟨c,fun v h1 h2=>h.1 v h1 h2⟩,h.2⟩⟩)
  ·rw [no_iff ht2 (fun h=>c h.1.1)]
   exact evneg (by omega) (evc rfl)
end
theorem spec_mat (M:List (List Int)) (t:Bool) (ht:t=true↔MatOK M):Ev (fun k=>spec_l01Matrix.f k M) t:=by
 unfold spec_l01Matrix.f
 by_cases c1:(M.length:Int) < 1
 ·rw [no_iff ht (fun h=>by have:=h.n1;omega)]
  exact evpos c1 (evstep (fun k=>by rw [spec_l01Matrix.j0]) (evpos rfl (evc rfl)))
 ·refine evneg c1 (evstep (fun k=>by rw [spec_l01Matrix.j0]) ?_)
  by_cases c2:(M.length:Int) > 5
  ·rw [no_iff ht (fun h=>by have:=h.n5;omega)]
   exact evpos (decide_eq_true c2) (evc rfl)
  ·refine evneg (by simpa using c2) ?_
   exact spec_mrows (by omega) M.length 0 (by omega) t (ht.trans ⟨fun h=>h.rows,fun h=>⟨by omega,by omega,h⟩⟩)
open Classical in
theorem spec_is (M:List (List Int)) (q:List Int) (hq:q.length≤1048576) (t:Bool) (ht:t=true↔POK M q):Ev (fun k=>spec_l01Is.f k M q) t:=by
 unfold spec_l01Is.f
 refine evbind (spec_mat M (decide (MatOK M)) (by simp)) ?_
 by_cases m:MatOK M
 ·refine evpos (by simpa using m) (evstep (fun k=>by rw [spec_l01Is.j0]) ?_)
  by_cases c:q.length=M.length
  ·refine evneg (by simp [c]) ?_
   have loop: ∀p i,i+p=q.length→ ∀t:Bool,(t=true↔ ∀u,i≤u→u < q.length→N100 (q.getD u 0))→Ev (fun k=>spec_l01Is.l0 k i M q) t:=by
    intro p
    induction p with
    | zero=>
     intro i hi t ht
     obtain rfl:t=true:=ht.2 (fun u h1 h2=>by omega)
     exact evstep (fun k=>by rw [spec_l01Is.l0]) (evneg (by omega) (evc rfl))
    | succ p ih=>
     intro i hi t ht
     have hs:=head_step (P:=fun u=>N100 (q.getD u 0)) (i:=i) (d:=q.length) (by omega)
     refine evstep (fun k=>by rw [spec_l01Is.l0]) (evpos (by omega) (evpos (by omega) (evsome (sin_eq _ _ _) ?_)))
     rw [rd_nat,w64 (x:=(i:Int)+1) (by omega) (by omega)]
     by_cases d: -100≤q.getD i 0∧q.getD i 0≤100
     ·exact evpos (decide_eq_true d) (ih (i+1) (by omega) t (ht.trans (hs.trans ⟨fun h=>h.2,fun h=>⟨d,h⟩⟩)))
     ·rw [no_iff (ht.trans hs) (fun h=>d h.1)]
      exact evneg (by simpa using d) (evc rfl)
   exact loop q.length 0 (by omega) t (ht.trans ⟨fun h=>h.num,fun h=>⟨m,c,h⟩⟩)
  ·rw [no_iff ht (fun h=>c h.len)]
   exact evpos (by simp;omega) (evc rfl)
 ·rw [no_iff ht (fun h=>m h.mat)]
  exact evneg (by simpa using m) (evstep (fun k=>by rw [spec_l01Is.j0]) (evpos rfl (evc rfl)))
theorem any_false {α:Type} (p:α→Bool) (l:List α):l.any p=false↔ ∀i (h:i < l.length),p l[i]=false:=by
 rw [List.any_eq_false]
 constructor
 ·intro h i hi
  have:=h l[i] (List.getElem_mem hi)
  simpa using this
 ·intro h x hx
  obtain⟨i,hi,rfl⟩:=List.getElem_of_mem hx
  simp [h i hi]
theorem badU_iff (a n:Int):badU a n=false↔ -a≤n∧n≤a:=by unfold badU;simp
theorem any_badU (a:Int) (l:List Int):l.any (badU a)=false↔ ∀i,0≤i→i < l.length→ -a≤l.getD i 0∧l.getD i 0≤a:=by
 rw [any_false]
 constructor
 ·intro h i _ hi
  have:=(badU_iff a _).1 (h i hi)
  simpa [hi] using this
 ·intro h i hi
  have:=h i (Nat.zero_le _) hi
  exact(badU_iff a _).2 (by simpa [hi] using this)
theorem gD {M:List (List Int)} {i:Nat} (h:i < M.length):M.getD i []=M[i]:=by simp [h]
open Classical in
theorem impl_mat (M:List (List Int)):impl_IsMatrix.f M=some (decide (MatOK M)):=by
 unfold impl_IsMatrix.f
 congr 1
 rw [Bool.eq_iff_iff]
 simp only [Bool.and_eq_true,decide_eq_true_eq,Bool.not_eq_true']
 rw [any_false,any_false]
 constructor
 ·rintro ⟨⟨h1,h2⟩,h3⟩
  refine⟨by omega,by omega,fun i _ hi=>?_⟩
  have r1:=h2 i hi
  have r2:=h3 i hi
  unfold badL at r1
  unfold badM at r2
  have e:M[i].length=M.length:=by simp at r1;omega
  refine⟨by rw [gD hi];exact e,fun j _ hj=>?_⟩
  have:=(any_badU 20 M[i]).1 r2 j (Nat.zero_le _) (by omega)
  rw [← gD hi] at this
  exact this
 ·intro h
  refine⟨⟨⟨by have:=h.n1;omega,by have:=h.n5;omega⟩,fun i hi=>?_⟩,fun i hi=>?_⟩
  ·have:=(h.rows i (Nat.zero_le _) hi).1
   rw [gD hi] at this
   unfold badL;simp [this]
  ·have:=h.rows i (Nat.zero_le _) hi
   unfold badM
   refine(any_badU 20 M[i]).2 (fun j h0 hj=>?_)
   have e:=this.1
   rw [gD hi] at e
   have:=this.2 j h0 (by omega)
   unfold N20 en at this
   rwa [gD hi] at this
open Classical in
theorem impl_is (M:List (List Int)) (q:List Int) (t:Bool) (ht:t=true↔POK M q):impl_IsProblem.f M q=some t:=by
 unfold impl_IsProblem.f
 rw [impl_mat,Option.bind_some]
 by_cases m:MatOK M
 ·rw [if_pos (by simpa using m)]
  by_cases c:q.length=M.length
  ·rw [if_pos (by omega)]
   unfold impl_allUpTo.f
   rw [if_pos (by decide),Option.bind_some]
   congr 1
   rw [Bool.eq_iff_iff,ht,Bool.not_eq_true',any_badU]
   exact⟨fun h=>⟨m,c,h⟩,fun h=>h.num⟩
  ·rw [if_neg (by omega),no_iff ht (fun h=>c h.len)]
 ·rw [if_neg (by simpa using m),no_iff ht (fun h=>m h.mat)]
end Go.Proofs.Ytbjljcpngbhkeaa.Pb
end
section
namespace Go.Proofs.Ytbjljcpngbhkeaa.Pr
open Go.RowKit Go.Proofs.YtbjljcpngbhkeaaW.PrintWords Go.Proofs.YtbjljcpngbhkeaaW.PrintLast Go.Proofs.YtbjljcpngbhkeaaW.PrintMore
attribute [local go_sem] max2_int min2_int max_two min_two max_three min_three max_four min_four
mutual
def spec_l01Det.l0:Nat→List (List Int)→Int→Int→Option (Int)
 | 0,_,_,_=>none
 | k+1,x0,x3,x4=>if x4 < (x0.length:Int) then(if 0 < (x0.length:Int) then(if 0≤x4 then(if x4 < ((rd_L2 x0 0).length:Int) then(if(rd (rd_L2 x0 0) x4)=0 then(spec_l01Det.l0 k x0 x3 (wrap64 (x4+1))) else(spec_l01Det.l1 k x0 x3 x4 (([]:List (List Int))) 1)) else(none)) else(none)) else(none)) else(some x3)
def spec_l01Det.l1:Nat→List (List Int)→Int→Int→List (List Int)→Int→Option (Int)
 | 0,_,_,_,_,_=>none
 | k+1,x0,x3,x4,x5,x6=>if x6 < (x0.length:Int) then(if 0≤x6 then(if 0≤x4 then(if x4≤((rd_L2 x0 x6).length:Int) then((spec_l01Own.f ((rd_L2 x0 x6).take (x4:Int).toNat)).bind fun aa=>(if 0≤(wrap64 (x4+1)) then(if(wrap64 (x4+1))≤((rd_L2 x0 x6).length:Int) then(if aa.length+((rd_L2 x0 x6).drop ((wrap64 (x4+1)):Int).toNat).length < 17592186044416 then(if x5.length < 5864062014805 then(spec_l01Det.l1 k x0 x3 x4 (x5++ [(aa++((rd_L2 x0 x6).drop ((wrap64 (x4+1)):Int).toNat))]) (wrap64 (x6+1))) else(none)) else(none)) else(none)) else(none))) else(none)) else(none)) else(none)) else(if 0 < (x0.length:Int) then(if 0≤x4 then(if x4 < ((rd_L2 x0 0).length:Int) then((spec_l01Det.f k x5).bind fun ae=>(if(Int.tmod x4 2)=1 then(spec_l01Det.l0 k x0 (wrap64 (x3+(wrap64 (-(wrap64 ((rd (rd_L2 x0 0) x4)*ae)))))) (wrap64 (x4+1))) else(spec_l01Det.l0 k x0 (wrap64 (x3+(wrap64 ((rd (rd_L2 x0 0) x4)*ae)))) (wrap64 (x4+1))))) else(none)) else(none)) else(none))
def spec_l01Det.f:Nat→List (List Int)→Option (Int)
 | 0,_=>none
 | k+1,l0=>if(l0.length:Int)=0 then(some 1) else(spec_l01Det.l0 k l0 0 0)
end
theorem spec_l01Det.mono_l: ∀k,(∀y0,LeO (spec_l01Det.f k y0) (spec_l01Det.f (k+1) y0))∧(∀y0 y1 y2,LeO (spec_l01Det.l0 k y0 y1 y2) (spec_l01Det.l0 (k+1) y0 y1 y2))∧(∀y0 y1 y2 y3 y4,LeO (spec_l01Det.l1 k y0 y1 y2 y3 y4) (spec_l01Det.l1 (k+1) y0 y1 y2 y3 y4))
 | 0=>⟨fun _ r h=>by simp [spec_l01Det.f] at h,fun _ _ _ r h=>by simp [spec_l01Det.l0] at h,fun _ _ _ _ _ r h=>by simp [spec_l01Det.l1] at h⟩
 | k+1=>by
  obtain⟨ih0,ih1,ih2⟩:=spec_l01Det.mono_l k
  refine⟨?_,?_,?_⟩<;>intros<;>(first | unfold spec_l01Det.f | unfold spec_l01Det.l0 | unfold spec_l01Det.l1)<;>(repeat' first | (with_reducible first | exact ih0 _ | exact ih1 _ _ _ | exact ih2 _ _ _ _ _ | exact LeO.refl _ | exact LeO.none _ | refine LeO.ite ?_ ?_ | refine LeO.bind ?_ (fun _=>?_)) | exact ih0 _ | exact ih1 _ _ _ | exact ih2 _ _ _ _ _ | exact LeO.none _ | refine LeO.ite ?_ ?_ | refine LeO.bind ?_ (fun _=>?_))
theorem spec_l01Det.mono: ∀a0 k,LeO (spec_l01Det.f k a0) (spec_l01Det.f (k+1) a0):=by
 intro a0 k
 obtain⟨ih0,ih1,ih2⟩:=spec_l01Det.mono_l k
 exact ih0 a0
def spec_l01Det.T12:Bool × List (List Nat × List Nat):=(true, [([], []),([], []),([], []),([1,2], [1,2]),([3], [3]),([], []),([4,5], [4,5]),([6], [6]),([], []),([], []),([8,9], [8,9]),([10], [10]),([], []),([12], [12]),([11,13], [11,13]),([7,14,7], [7,14]),([15], [15]),([0,16,15], [0,16]),([17,17,0,1,2,3,4,5,6,7,8,9,10,11,12,13,14,15,16,17], [0,17])])
def spec_l01Det.B12:List Nat:= [0,0,0,6,14,0,62,126,0,0,768,1792,0,4096,16128,32766,65534,131071,262143]
theorem spec_l01Det.tab12:rtab .any (opsOf Try.f43 12)=spec_l01Det.T12:=by kernel_rfl
theorem spec_l01Det.bits12:waitsOk spec_l01Det.T12.2 spec_l01Det.B12=true:=by kernel_rfl
def spec_l01Det.T13:Bool × List (List Nat × List Nat):=(true, [([], []),([0], [0]),([1], [1]),([], []),([2,3], [2,3]),([4], [4]),([], []),([6], [6]),([5,7], [5,7]),([8,7,0,1,2,3,4,5,6,7,8], [8])])
def spec_l01Det.B13:List Nat:= [0,1,3,0,15,31,0,64,255,511]
theorem spec_l01Det.tab13:rtab .any (opsOf Try.f43 13)=spec_l01Det.T13:=by kernel_rfl
theorem spec_l01Det.bits13:waitsOk spec_l01Det.T13.2 spec_l01Det.B13=true:=by kernel_rfl
theorem spec_l01Det.calls (k:Nat): ∀(A0:Option Addr) (c0:Nat) (l0:List (List Int)) (r:Int) (w:World) (hr0:Kd.C (Kd.slice 2 (Kd.int .i64)) w A0 l0.length l0) (hc0:l0.length≤c0) (h:spec_l01Det.f k l0=some r),
  Calls Try.prog 43 #[.slice A0 l0.length c0] w fun e w'=>e= .returned (.int .i64 r)∧Below w.heap.size w w':=by
 induction k using Nat.strongRecOn with
 | _ k ih=>
 intro A0 c0 l0 r w hr0 hc0 h;cases k with
 | zero=>exact absurd h (by simp [spec_l01Det.f])
 | succ k=>
 simp only [spec_l01Det.f] at h;have HR0:=q_ hr0;have HC0:=q_ hc0;clear hr0 hc0;have HB:=q_ (Below.refl w.heap.size w);have H:(if(l0.length:Int)=0 then(some 1) else(spec_l01Det.l0 k l0 0 0))=some r:=h;clear h
 by_cases c2:(l0.length:Int)=0
 ·rw [if_pos c2] at H;have c2b0:=e1_ c2;have c2b1:=e2_ c2;clear c2;obtain rfl:=Option.some.inj H
  go_enter Try.func43,Try.ntmps43
  go_wp2
  go_ret
  exact⟨by first | rfl | (simp [errW_none,errW_some] <;> rfl) | (simp [*,errW_none,errW_some] <;> rfl),hb_⟩
 ·rw [if_neg c2] at H;have c2b0:=e3_ c2;have c2b1:=e4_ c2;have c2b2: ¬ (l0= []):=fun h_=>c2 (by rw [h_];rfl)
  have H':=q_ H;clear H
  go_enter Try.func43,Try.ntmps43
  go_wp2
  go_loopg [3,4] k (fun kq v3 v4 w'=> ∃(aq:Int) (aa:Int),v3= .int .i64 aq∧v4= .int .i64 aa∧Aside0 (spec_l01Det.l0 kq l0 aq aa=some r)∧Aside0 (kq≤k)∧Aside0 (Below w.heap.size w w'))
  case atStart=>exact⟨(0),(0),rs_,rs_,H',⟨Nat.le_refl _⟩,⟨hb_⟩⟩
  case round=>
   clear H';(try clear c2);(try clear c2b0);(try clear c2b1);(try clear c2b2);obtain⟨aq,aa,rfl,rfl,HA,HK1,HB⟩:=hrel;cases gk with
   | zero=>exact absurd HA.out (by simp [spec_l01Det.l0])
   | succ k1=>
    have H:=HA.out;clear HA;simp only [spec_l01Det.l0] at H
    by_cases c3:aa < (l0.length:Int)
    ·rw [if_pos c3] at H;have c3b0:=decide_eq_true c3;clear c3
     by_cases c4:0 < (l0.length:Int)
     ·rw [if_pos c4] at H;have c4b0:=decide_eq_true c4;have c4b1:decide (0 < l0.length)=true:=decide_eq_true (by omega);clear c4
      by_cases c5:0≤aa
      ·rw [if_pos c5] at H;have c5b0:=decide_eq_true c5;clear c5
       by_cases c6:aa < ((rd_L2 l0 0).length:Int)
       ·rw [if_pos c6] at H;have c6b0:=decide_eq_true c6;clear c6
        by_cases c7:(rd (rd_L2 l0 0) aa)=0
        ·rw [if_pos c7] at H;have c7b0:=e1_ c7;have c7b1:=e2_ c7;clear c7;have H':=q_ H;clear H;have p244:0≤(0:Int):=(by omega)
         have q244:0 < (l0.length:Int):=od_;obtain⟨au,aM,aN,e244,hx244_0,hl244_0,hi244_0⟩:=at_L2 HR0.out 0 p244 q244;cases e244
         have qi244:(0 < l0.length)=True:=eq_true (by omega)
         (try rw [show ((0:Int)).toNat=0 from rfl] at hx244_0)
         (try rw [Addr.add_zero'] at hx244_0)
         replace hx244_0:=(HB.out.cell (World.block_lt_of_cell? w _ hx244_0)).trans hx244_0;have HR244_0:=q_ hi244_0;have HC244_0:=q_ hl244_0;clear hi244_0 hl244_0;replace p244:=eq_true p244;replace q244:=eq_true q244;have p245:0≤(aa:Int):=od_;have q245:aa < ((rd_L2 l0 0).length:Int):=od_;obtain⟨a9,e245,hx245_0⟩:=Kd.at_int HR244_0.out aa p245 q245;cases e245
         replace hx245_0:=(HB.out.cell (World.block_lt_of_cell? w _ hx245_0)).trans hx245_0;replace p245:=eq_true p245;replace q245:=eq_true q245;go_wp2
         go_roundg k1
         case measure=>have:=HK1.out;omega
         case rel=>exact⟨(aq),(wrap64 (aa+1)),rs_,rs_,H',⟨by have:=HK1.out;omega⟩,⟨hb_⟩⟩
        ·rw [if_neg c7] at H;have c7b0:=e3_ c7;have c7b1:=e4_ c7;obtain⟨aQ,hy⟩: ∃y_:List (List Int),y_=(([]:List (List Int))):=⟨_,rfl⟩
         replace H:(spec_l01Det.l1 k1 l0 aq aa aQ 1)=some r:=hh_;have aJ:=q_ hy;clear hy;have H':=q_ H;clear H;have p244:0≤(0:Int):=(by omega)
         have q244:0 < (l0.length:Int):=od_;obtain⟨au,aM,aN,e244,hx244_0,hl244_0,hi244_0⟩:=at_L2 HR0.out 0 p244 q244;cases e244
         have qi244:(0 < l0.length)=True:=eq_true (by omega)
         (try rw [show ((0:Int)).toNat=0 from rfl] at hx244_0)
         (try rw [Addr.add_zero'] at hx244_0)
         replace hx244_0:=(HB.out.cell (World.block_lt_of_cell? w _ hx244_0)).trans hx244_0;have HR244_0:=q_ hi244_0;have HC244_0:=q_ hl244_0;clear hi244_0 hl244_0;replace p244:=eq_true p244;replace q244:=eq_true q244;have p245:0≤(aa:Int):=od_;have q245:aa < ((rd_L2 l0 0).length:Int):=od_;obtain⟨a9,e245,hx245_0⟩:=Kd.at_int HR244_0.out aa p245 q245;cases e245
         replace hx245_0:=(HB.out.cell (World.block_lt_of_cell? w _ hx245_0)).trans hx245_0;replace p245:=eq_true p245;replace q245:=eq_true q245
         go_wp2_with (first | ((with_reducible refine gate_dst (N:=24) rfl ?_);refine Kd.S_lit (Kd.slice 2 (Kd.int .i64)) _ 25 ?hg (N:=24) ?hd (xs:=([]:List (List Int))) (inner:= []) (ok:=fun _=>True) (okp:=fun _=>True) ?hr ?hp (fun _ hk=>hk) trivial (Below.refl _ _) (Nat.le_refl _) (by simp) ?_;(case hd=>rfl);(case hg=>rfl);(case hr=>first | (go_simp;done) | (go_simp;rfl));(case hp=>exact(Reps.none _ _));intro bG w8 ho9 hb hg_ hnew_;clear hg_ hnew_;(first | rw [← aJ.out] at ho9 | (simp only [Int.reduceToNat] at ho9;rw [← aJ.out] at ho9));have ba:=q_ (Kd.S_lower ho9 bz_);replace HB:=q_ (bs_ hb);clear hb ho9))
         go_loopg [5,6] k1 (fun kq v5 v6 w'=> ∃(ak:List (List Int)) (ae:Int),v6= .int .i64 ae∧Aside0 (spec_l01Det.l1 kq l0 aq aa ak ae=some r)∧Aside0 (kq≤k1)∧Aside0 (Kd.S (Kd.slice 2 (Kd.int .i64)) 25 w' w.heap.size (fun _=>True) v5 ak)∧Aside0 (Below w.heap.size w w'))
         case atStart=>exact⟨(aQ),(1),rs_,H',⟨Nat.le_refl _⟩,⟨so_ ba.out⟩,⟨hb_⟩⟩
         case round=>
          clear H';(try clear c2);(try clear c2b0);(try clear c2b1);(try clear c2b2);(try clear c3b0);(try clear c4);(try clear c4b0);(try clear c4b1);(try clear c5);(try clear c5b0);(try clear c6);(try clear c6b0);(try clear c7);(try clear c7b0);(try clear c7b1);(try clear hx244_0);(try clear hx245_0);(try clear p244);(try clear p245);(try clear q244);(try clear q245);obtain⟨ak,ae,rfl,HA,HK2,af,HB⟩:=hrel;cases gk with
          | zero=>exact absurd HA.out (by simp [spec_l01Det.l1])
          | succ k2=>
           have H:=HA.out;clear HA;simp only [spec_l01Det.l1] at H
           by_cases c10:ae < (l0.length:Int)
           ·rw [if_pos c10] at H;have c10b0:=decide_eq_true c10;clear c10
            by_cases c11:0≤ae
            ·rw [if_pos c11] at H;have c11b0:=decide_eq_true c11;clear c11
             by_cases c12:0≤aa
             ·rw [if_pos c12] at H;have c12b0:=eq_true c12;have c12b1:=decide_eq_true c12;clear c12
              by_cases c13:aa≤((rd_L2 l0 ae).length:Int)
              ·rw [if_pos c13] at H;have c13b0:=eq_true c13;have c13b1:=decide_eq_true c13;clear c13;replace H:=Option.bind_eq_some_iff.mp H;obtain⟨av,A140,H⟩:=H;replace H:(if 0≤(wrap64 (aa+1)) then(if(wrap64 (aa+1))≤((rd_L2 l0 ae).length:Int) then(if av.length+((rd_L2 l0 ae).drop ((wrap64 (aa+1)):Int).toNat).length < 17592186044416 then(if ak.length < 5864062014805 then(spec_l01Det.l1 k2 l0 aq aa (ak++ [(av++((rd_L2 l0 ae).drop ((wrap64 (aa+1)):Int).toNat))]) (wrap64 (ae+1))) else(none)) else(none)) else(none)) else(none))=some r:=H;have A14:=q_ A140;clear A140;obtain⟨ji15,hji15⟩: ∃j_:Int,(wrap64 (aa+1))=j_:=⟨_,rfl⟩
               replace H:(if 0≤(ji15) then(if(ji15)≤((rd_L2 l0 ae).length:Int) then(if av.length+((rd_L2 l0 ae).drop ((ji15):Int).toNat).length < 17592186044416 then(if ak.length < 5864062014805 then(spec_l01Det.l1 k2 l0 aq aa (ak++ [(av++((rd_L2 l0 ae).drop ((ji15):Int).toNat))]) (wrap64 (ae+1))) else(none)) else(none)) else(none)) else(none))=some r:=by first | (rw [hji15] at H;exact H) | (simp only [hji15] at H ⊢;exact H)
               (try rw [hji15] at A14)
               have hji15w:(IntKind.i64.wrap (aa+1))=ji15:=(i64_w _).trans hji15
               by_cases c16:0≤(ji15)
               ·rw [if_pos c16] at H;have c16b0:=eq_true c16;have c16b1:=decide_eq_true c16;clear c16
                by_cases c17:(ji15)≤((rd_L2 l0 ae).length:Int)
                ·rw [if_pos c17] at H;have c17b0:=eq_true c17;have c17b1:=decide_eq_true c17;clear c17
                 by_cases c18:av.length+((rd_L2 l0 ae).drop ((ji15):Int).toNat).length < 17592186044416
                 ·rw [if_pos c18] at H;have bf:=q_ c18;clear c18;obtain⟨aG,hy⟩: ∃y_:List Int,y_=(av++((rd_L2 l0 ae).drop ((ji15):Int).toNat)):=⟨_,rfl⟩
                  replace H:(if ak.length < 5864062014805 then(spec_l01Det.l1 k2 l0 aq aa (ak++ [aG]) (wrap64 (ae+1))) else(none))=some r:=hh_;have bg:=q_ hy;clear hy
                  by_cases c19:ak.length < 5864062014805
                  ·rw [if_pos c19] at H;have bh:=q_ c19;clear c19;obtain⟨aT,hy⟩: ∃y_:List (List Int),y_=(ak++ [aG]):=⟨_,rfl⟩
                   replace H:(spec_l01Det.l1 k2 l0 aq aa aT (wrap64 (ae+1)))=some r:=hh_;have bk:=q_ hy;clear hy;have H':=q_ H;clear H
                   try go_wp2
                   replace af:=q_ (Kd.S_drew af.out);replace HB:=q_ (below_drew1 HB.out);have p249:0≤(ae:Int):=od_;have q249:ae < (l0.length:Int):=od_;obtain⟨bq,aw,ax,e249,hx249_0,hl249_0,hi249_0⟩:=at_L2 HR0.out ae p249 q249;have ah:=hx249_0;obtain rfl:au=bq:=(by injection e249)
                   replace hx249_0:=(HB.out.cell (World.block_lt_of_cell? w _ hx249_0)).trans hx249_0;have HR249_0:=q_ hi249_0;have HC249_0:=q_ hl249_0;clear hi249_0 hl249_0;replace p249:=eq_true p249;replace q249:=eq_true q249;obtain⟨i021,hi021,_,hsz21,_⟩:=info_parts info2;obtain⟨hcut21,hA21,hC21⟩:=print_take_of (P:=Try.prog) (Value.int .i64) 0 25 2 .i64 Try.underlying25 hi021 hsz21 aw ax (rd_L2 l0 ae) aa od_ od_ HC249_0.out;have HR250:=q_ (Kd.C_of_reads (h1:=fun _=>rfl) (hA21 _ (Kd.reads_of_C HR249_0.out)));have HC250:=q_ hC21;clear hA21 hC21 hi021 hsz21;have p254:0≤(ae:Int):=od_;have q254:ae < (l0.length:Int):=od_;obtain⟨bu,bE,bF,e254,hx254_0,hl254_0,hi254_0⟩:=at_L2 HR0.out ae p254 q254;have ai:=hx254_0;obtain rfl:au=bu:=(by injection e254)
                   replace hx254_0:=(HB.out.cell (World.block_lt_of_cell? w _ hx254_0)).trans hx254_0;have HR254_0:=q_ hi254_0;have HC254_0:=q_ hl254_0;clear hi254_0 hl254_0;replace p254:=eq_true p254;replace q254:=eq_true q254;have ea_:=Option.some.inj (hx249_0.symm.trans hx254_0);injection ea_ with ea_ en_ ec_
                   subst ea_;subst ec_;clear en_;obtain⟨i022,hi022,_,hsz22,_⟩:=info_parts info2;obtain⟨A22,hcut22,hA22,hC22⟩:=print_drop_of (P:=Try.prog) (Value.int .i64) 0 25 2 .i64 Try.underlying25 hi022 hsz22 aw ax (rd_L2 l0 ae) (ji15) od_ od_ HC254_0.out;have HR255:=q_ (Kd.C_of_reads (h1:=fun _=>rfl) (hA22 _ (Kd.reads_of_C HR254_0.out)));have HC255:=q_ hC22;clear hA22 hC22 hi022 hsz22;refine st_ (n:=19) (S:=fun w'=>w'.cell? (au.add (ae).toNat)=some (.slice aw (rd_L2 l0 ae).length ax)∧w'.cell? (au.add (ae).toNat)=some (.slice aw (rd_L2 l0 ae).length ax)) (ds:= []) ⟨((HB.out.cell (World.block_lt_of_cell? w _ ah)).trans ah),((HB.out.cell (World.block_lt_of_cell? w _ ai)).trans ai)⟩ (fun hHeld=>?_);refine with_tabW spec_l01Det.tab12 spec_l01Det.bits12 (fun HT_ HW_=>?_)
                   generalize wr.drew=w20 at af HB HR249_0 HR250 HR254_0 HR255 hx249_0 hx254_0 hHeld ⊢
                   refine pu_ 0 31 ?_;refine pu_ 1 32 ?_;refine pu_ 2 33 ?_;refine pu_ 3 34 ?_;refine pu_ 5 36 ?_;refine pu_ 8 39 ?_;refine pu_ 9 40 ?_;refine pu_ 10 41 ?_;refine pu_ 12 43 ?_;refine pu_ 13 44 ?_;refine tk_ 4 35 ?_;refine pu_ 6 37 ?_;refine tk_ 11 42 ?_;refine pu_ 14 45 ?_
                   refine on_ 7 (some 38) (fun K hK=>?_)
                   refine goes_ Try.func71 (by kernel_rfl) rfl #[.slice aw ((rd_L2 l0 ae).take (aa:Int).toNat).length ax] (by rfl) rfl rfl (by(try simp only [List.map_toArray,List.map_cons,List.map_nil]);first | done | (rw [show ((rd_L2 l0 ae).take (aa:Int).toNat).length=aa.toNat from (by rw [List.length_take];have h_:(aa:Int)≤((rd_L2 l0 ae).length:Int):=od_;omega)] <;> rfl) | rfl | (simp only [List.length_drop,List.length_take];rfl)) ?_
                   with_reducible refine(spec_l01Own.calls _ _ ((rd_L2 l0 ae).take (aa:Int).toNat) av _ ?ay ?az A14.out).mono ?_
                   (case ay=>exact cb_ HR250.out HB.out)
                   (case az=>exact HC250.out)
                   rintro e w23 ⟨bw,rfl,ho0,hb⟩;refine⟨_,rfl,?_⟩
                   replace af:=q_ (Kd.S_elder' (so_ af.out) (Kd.R_base ho0) hb);have aK:=q_ (Kd.R_lower ho0 bz_);replace HB:=q_ (bs_ hb);(try clear hb)
                   
                   (try clear hk)
                   
                   (try clear ho0);refine hK.out _ _ ⟨((HB.out.cell (World.block_lt_of_cell? w _ ah)).trans ah),((HB.out.cell (World.block_lt_of_cell? w _ ai)).trans ai)⟩ (fun hHeld=>?_)
                   clear hK K;refine norm_ (a':=?_) ?_ ?_
                   rotate_left
                   ·show Act.put _ (some 38) _=_
                    simp only [Act.put,List.setIfInBounds_toArray,List.set_cons_zero,List.set_cons_succ,i64_w,i32_w]
                    rfl
                   refine on_ 15 (some 46) (fun K hK=>?_)
                   refine Kd.R_append_rows_step (Kd.int .i64) (w0:=w) w.heap.size (by rfl) (.tmp 38) (.tmp 45) 25 2 (.int .i64 0) 8 rfl Try.underlying25 info2 rfl (by decide) (by omega) bw av ((rd_L2 l0 ae).drop ((ji15):Int).toNat) _ _ _ (fun _=>True) (fun _=>False) rfl rfl ?aO ?aR (fun _ _ h=>h) (fun _ h=>h.elim) ?aF ?aB ?aS ?aL ?_
                   (case aR=>first | (rw [← show ((rd_L2 l0 ae).drop ((ji15):Int).toNat).length=((rd_L2 l0 ae).length - (ji15).toNat) from List.length_drop];exact cb_ HR255.out HB.out) | (exact cb_ HR255.out HB.out))
                   (case aB=>exact hb_)
                   (case aF=>exact(fun _ _=>trivial))
                   (case aO=>exact(ro_ aK.out))
                   (case aS=>exact bz_)
                   (case aL=>have:=bf.out;have hlx_:=(show ((rd_L2 l0 ae).drop ((ji15):Int).toNat).length=((rd_L2 l0 ae).length - (ji15).toNat) from List.length_drop);omega)
                   intro bH w24 ho hb hg hat;rw [← bg.out] at ho;replace af:=q_ (Kd.S_after (ok:=(fun _=>True)) (so_ af.out) hg hat);replace HB:=q_ (hb);have aD:=q_ (ho);clear aK ho hb hg hat;obtain⟨aU,aV,aW⟩:=Kd.R_slice aD.out
                   (first | subst aW | (injection aW with f1_ f2_ f3_;have f4_:=f1_.symm;have f5_:=f3_.symm;clear f1_ f2_ f3_;subst f4_;subst f5_))
                   refine hK.out _ _ ⟨((HB.out.cell (World.block_lt_of_cell? w _ ah)).trans ah),((HB.out.cell (World.block_lt_of_cell? w _ ai)).trans ai)⟩ (fun hHeld=>?_)
                   clear hK K;refine norm_ (a':=?_) ?_ ?_
                   rotate_left
                   ·show Act.put _ (some 46) _=_
                    simp only [Act.put,List.setIfInBounds_toArray,List.set_cons_zero,List.set_cons_succ,i64_w,i32_w]
                    rfl
                   refine on_ 16 (some 47) (fun K hK=>?_)
                   refine value_ (w1:=?_) (v:=?_) (by rfl) rfl ?_ ?_
                   rotate_left 2
                   ·go_simp
                    constructor
                    ·rfl
                    ·rfl
                   refine hK.out _ _ ⟨(World.cell?_alloc_lt _ _ _ (World.block_lt_of_cell? _ _ (((HB.out.cell (World.block_lt_of_cell? w _ ah)).trans ah)))).trans (((HB.out.cell (World.block_lt_of_cell? w _ ah)).trans ah)),(World.cell?_alloc_lt _ _ _ (World.block_lt_of_cell? _ _ (((HB.out.cell (World.block_lt_of_cell? w _ ai)).trans ai)))).trans (((HB.out.cell (World.block_lt_of_cell? w _ ai)).trans ai))⟩ (fun hHeld=>?_)
                   clear hK K;refine norm_ (a':=?_) ?_ ?_
                   rotate_left
                   ·show Act.put _ (some 47) _=_
                    simp only [Act.put,List.setIfInBounds_toArray,List.set_cons_zero,List.set_cons_succ,i64_w,i32_w]
                    rfl
                   refine on_ 17 (some 48) (fun K hK=>?_)
                   refine Kd.S_append_step (Kd.slice 2 (Kd.int .i64)) (w0:=w) w.heap.size (by rfl) (.tmp 31) (.tmp 47) 24 25 (.slice none 0 0) 24 rfl Try.underlying24 info25 rfl (by decide) (by omega) u5 ak aG [.slice aU aG.length aV] (fun _=>True) (fun k_=>some k_=(.slice aU aG.length aV:Value).ownBlock) rfl rfl ?aP (fun k_ hk_=>((Kd.R_mono (ok':=fun k_=>((fun _=>True)) k_∧some k_≠(u5:Value).ownBlock) (Kd.R_apart' (aD.out) (Kd.S_typed af.out) (by decide)) (fun k_ hk=>⟨trivial,hk.2⟩))).1 k_ hk_.symm) ?aF ?aO ?aB ?aS ?aL ?_
                   (case aP=>exact Kd.M_row (Kd.R_mono (Kd.R_tight rfl (Kd.R_mono (ok':=fun k_=>((fun _=>True)) k_∧some k_≠(u5:Value).ownBlock) (Kd.R_apart' (aD.out) (Kd.S_typed af.out) (by decide)) (fun k_ hk=>⟨trivial,hk.2⟩))) (fun _ h_=>h_)))
                   (case aB=>exact hb_)
                   (case aF=>exact(fun _ _=>trivial))
                   (case aO=>exact(by(with_reducible repeat (first | apply Kd.S_alloc | apply Kd.S_drewN | apply Kd.S_drew));exact Kd.S_mono af.out (fun k_ hk=>⟨trivial,fun e_=>hk.2 e_⟩)))
                   (case aS=>exact bz_)
                   (case aL=>have:=bh.out;omega)
                   intro bI w25 ho hb hg hat;rw [← bk.out] at ho;replace HB:=q_ (hb);have bv:=q_ (ho);clear af aD ho hb hg hat;refine hK.out _ _ ⟨((HB.out.cell (World.block_lt_of_cell? w _ ah)).trans ah),((HB.out.cell (World.block_lt_of_cell? w _ ai)).trans ai)⟩ (fun hHeld=>?_)
                   clear hK K;refine norm_ (a':=?_) ?_ ?_
                   rotate_left
                   ·show Act.put _ (some 48) _=_
                    simp only [Act.put,List.setIfInBounds_toArray,List.set_cons_zero,List.set_cons_succ,i64_w,i32_w]
                    rfl
                   refine pu_ 18 5 ?_
                   refine done_ (done_of HT_.out (by kernel_rfl)) ?_
                   try go_wp2
                   go_roundg k2
                   case measure=>have:=HK1.out;have:=HK2.out;omega
                   case rel=>exact⟨(aT),(wrap64 (ae+1)),rs_,H',⟨by have:=HK1.out;have:=HK2.out;omega⟩,⟨so_ bv.out⟩,⟨hb_⟩⟩
                  ·rw [if_neg c19] at H;exact absurd H (by simp)
                 ·rw [if_neg c18] at H;exact absurd H (by simp)
                ·rw [if_neg c17] at H;exact absurd H (by simp)
               ·rw [if_neg c16] at H;exact absurd H (by simp)
              ·rw [if_neg c13] at H;exact absurd H (by simp)
             ·rw [if_neg c12] at H;exact absurd H (by simp)
            ·rw [if_neg c11] at H;exact absurd H (by simp)
           ·rw [if_neg c10] at H;have c10b0:=decide_eq_false c10;clear c10
            by_cases c27:0 < (l0.length:Int)
            ·rw [if_pos c27] at H;have c27b0:=decide_eq_true c27;have c27b1:decide (0 < l0.length)=true:=decide_eq_true (by omega);clear c27
             by_cases c28:0≤aa
             ·rw [if_pos c28] at H;have c28b0:=decide_eq_true c28;clear c28
              by_cases c29:aa < ((rd_L2 l0 0).length:Int)
              ·rw [if_pos c29] at H;have c29b0:=decide_eq_true c29;clear c29;replace H:=Option.bind_eq_some_iff.mp H;obtain⟨aC,A300,H⟩:=H;replace H:(if(Int.tmod aa 2)=1 then(spec_l01Det.l0 k2 l0 (wrap64 (aq+(wrap64 (-(wrap64 ((rd (rd_L2 l0 0) aa)*aC)))))) (wrap64 (aa+1))) else(spec_l01Det.l0 k2 l0 (wrap64 (aq+(wrap64 ((rd (rd_L2 l0 0) aa)*aC)))) (wrap64 (aa+1))))=some r:=H;have A30:=q_ A300;clear A300
               by_cases c31:(Int.tmod aa 2)=1
               ·rw [if_pos c31] at H;have c31b0:=e1_ c31;have c31b1:=e2_ c31;clear c31;have H':=q_ H;clear H
                try go_wp2
                replace af:=q_ (Kd.S_drew af.out);replace HB:=q_ (below_drew1 HB.out);have p262:0≤(0:Int):=(by omega)
                have q262:0 < (l0.length:Int):=od_;obtain⟨aI,aX,aH,e262,hx262_0,hl262_0,hi262_0⟩:=at_L2 HR0.out 0 p262 q262;have ag:=hx262_0
                (try rw [show ((0:Int)).toNat=0 from rfl] at ag)
                (try rw [show 0*1=0 from rfl] at ag)
                (try rw [Addr.add_zero'] at ag)
                obtain rfl:au=aI:=(by injection e262)
                have qi262:(0 < l0.length)=True:=eq_true (by omega)
                (try rw [show ((0:Int)).toNat=0 from rfl] at hx262_0)
                (try rw [Addr.add_zero'] at hx262_0)
                replace hx262_0:=(HB.out.cell (World.block_lt_of_cell? w _ hx262_0)).trans hx262_0;have HR262_0:=q_ hi262_0;have HC262_0:=q_ hl262_0;clear hi262_0 hl262_0;replace p262:=eq_true p262;replace q262:=eq_true q262;have p263:0≤(aa:Int):=od_;have q263:aa < ((rd_L2 l0 0).length:Int):=od_;obtain⟨aA,e263,hx263_0⟩:=Kd.at_int HR262_0.out aa p263 q263;have aj:=hx263_0;cases e263
                replace hx263_0:=(HB.out.cell (World.block_lt_of_cell? w _ hx263_0)).trans hx263_0;replace p263:=eq_true p263;replace q263:=eq_true q263;obtain⟨bz,bA,aY⟩:=Kd.S_slice af.out
                (first | subst aY | (injection aY with f1_ f2_ f3_;have f4_:=f1_.symm;have f5_:=f3_.symm;clear f1_ f2_ f3_;subst f4_;subst f5_))
                refine st_ (n:=10) (S:=fun w'=>w'.cell? au=some (.slice (some aA) (rd_L2 l0 0).length aH)∧w'.cell? (aA.add (aa).toNat)=some (.int .i64 (rd (rd_L2 l0 0) aa))) (ds:= []) ⟨((HB.out.cell (World.block_lt_of_cell? w _ ag)).trans ag),((HB.out.cell (World.block_lt_of_cell? w _ aj)).trans aj)⟩ (fun hHeld=>?_);refine with_tabW spec_l01Det.tab13 spec_l01Det.bits13 (fun HT_ HW_=>?_)
                generalize wr.drew=w32 at af HB HR262_0 hx262_0 hx263_0 hHeld ⊢
                refine pu_ 0 49 ?_;refine pu_ 1 50 ?_;refine pu_ 3 52 ?_;refine pu_ 6 55 ?_;refine tk_ 2 51 ?_;refine pu_ 4 53 ?_;refine tk_ 5 54 ?_
                refine on_ 7 (some 56) (fun K hK=>?_)
                refine goes_ Try.func43 (by kernel_rfl) rfl #[.slice bz ak.length bA] (by rfl) rfl rfl (by(try simp only [List.map_toArray,List.map_cons,List.map_nil]);first | done | rfl | (simp only [List.length_drop,List.length_take];rfl)) ?_
                with_reducible refine(ih k2 (by have:=HK1.out;have:=HK2.out;omega) _ _ ak aC _ ?ay ?az A30.out).mono ?_
                (case ay=>repeat (first | exact(Kd.S_reads' af.out).2.2 | (with_reducible refine Kd.C_alloc ?_ _) | (with_reducible refine Kd.C_drewN ?_ _) | (with_reducible refine Kd.C_drew ?_)))
                (case az=>exact(Kd.S_reads' af.out).2.1)
                rintro e w34 ⟨rfl,hb⟩;refine⟨_,rfl,?_⟩
                replace af:=q_ (Kd.S_below (so_ af.out) hb);replace HB:=q_ (bs_ hb);(try clear hb)
                
                (try clear hk)
                
                refine hK.out _ _ ⟨((HB.out.cell (World.block_lt_of_cell? w _ ag)).trans ag),((HB.out.cell (World.block_lt_of_cell? w _ aj)).trans aj)⟩ (fun hHeld=>?_)
                clear hK K;refine norm_ (a':=?_) ?_ ?_
                rotate_left
                ·show Act.put _ (some 56) _=_
                 simp only [Act.put,List.setIfInBounds_toArray,List.set_cons_zero,List.set_cons_succ,i64_w,i32_w]
                 rfl
                refine pu_ 8 57 ?_;refine pu_ 9 7 ?_
                refine done_ (done_of HT_.out (by kernel_rfl)) ?_
                try go_wp2
                go_roundg k2
                case measure=>have:=HK1.out;have:=HK2.out;omega
                case rel=>exact⟨(wrap64 (aq+(wrap64 (-(wrap64 ((rd (rd_L2 l0 0) aa)*aC)))))),(wrap64 (aa+1)),rs_,rs_,H',⟨by have:=HK1.out;have:=HK2.out;omega⟩,⟨hb_⟩⟩
               ·rw [if_neg c31] at H;have c31b0:=e3_ c31;have c31b1:=e4_ c31;have H':=q_ H;clear H
                try go_wp2
                replace af:=q_ (Kd.S_drew af.out);replace HB:=q_ (below_drew1 HB.out);have p262:0≤(0:Int):=(by omega)
                have q262:0 < (l0.length:Int):=od_;obtain⟨aI,aX,aH,e262,hx262_0,hl262_0,hi262_0⟩:=at_L2 HR0.out 0 p262 q262;have ag:=hx262_0
                (try rw [show ((0:Int)).toNat=0 from rfl] at ag)
                (try rw [show 0*1=0 from rfl] at ag)
                (try rw [Addr.add_zero'] at ag)
                obtain rfl:au=aI:=(by injection e262)
                have qi262:(0 < l0.length)=True:=eq_true (by omega)
                (try rw [show ((0:Int)).toNat=0 from rfl] at hx262_0)
                (try rw [Addr.add_zero'] at hx262_0)
                replace hx262_0:=(HB.out.cell (World.block_lt_of_cell? w _ hx262_0)).trans hx262_0;have HR262_0:=q_ hi262_0;have HC262_0:=q_ hl262_0;clear hi262_0 hl262_0;replace p262:=eq_true p262;replace q262:=eq_true q262;have p263:0≤(aa:Int):=od_;have q263:aa < ((rd_L2 l0 0).length:Int):=od_;obtain⟨aA,e263,hx263_0⟩:=Kd.at_int HR262_0.out aa p263 q263;have aj:=hx263_0;cases e263
                replace hx263_0:=(HB.out.cell (World.block_lt_of_cell? w _ hx263_0)).trans hx263_0;replace p263:=eq_true p263;replace q263:=eq_true q263;obtain⟨bC,bD,aZ⟩:=Kd.S_slice af.out
                (first | subst aZ | (injection aZ with f1_ f2_ f3_;have f4_:=f1_.symm;have f5_:=f3_.symm;clear f1_ f2_ f3_;subst f4_;subst f5_))
                refine st_ (n:=10) (S:=fun w'=>w'.cell? au=some (.slice (some aA) (rd_L2 l0 0).length aH)∧w'.cell? (aA.add (aa).toNat)=some (.int .i64 (rd (rd_L2 l0 0) aa))) (ds:= []) ⟨((HB.out.cell (World.block_lt_of_cell? w _ ag)).trans ag),((HB.out.cell (World.block_lt_of_cell? w _ aj)).trans aj)⟩ (fun hHeld=>?_);refine with_tabW spec_l01Det.tab13 spec_l01Det.bits13 (fun HT_ HW_=>?_)
                generalize wr.drew=w35 at af HB HR262_0 hx262_0 hx263_0 hHeld ⊢
                refine pu_ 0 49 ?_;refine pu_ 1 50 ?_;refine pu_ 3 52 ?_;refine pu_ 6 55 ?_;refine tk_ 2 51 ?_;refine pu_ 4 53 ?_;refine tk_ 5 54 ?_
                refine on_ 7 (some 56) (fun K hK=>?_)
                refine goes_ Try.func43 (by kernel_rfl) rfl #[.slice bC ak.length bD] (by rfl) rfl rfl (by(try simp only [List.map_toArray,List.map_cons,List.map_nil]);first | done | rfl | (simp only [List.length_drop,List.length_take];rfl)) ?_
                with_reducible refine(ih k2 (by have:=HK1.out;have:=HK2.out;omega) _ _ ak aC _ ?ay ?az A30.out).mono ?_
                (case ay=>repeat (first | exact(Kd.S_reads' af.out).2.2 | (with_reducible refine Kd.C_alloc ?_ _) | (with_reducible refine Kd.C_drewN ?_ _) | (with_reducible refine Kd.C_drew ?_)))
                (case az=>exact(Kd.S_reads' af.out).2.1)
                rintro e w37 ⟨rfl,hb⟩;refine⟨_,rfl,?_⟩
                replace af:=q_ (Kd.S_below (so_ af.out) hb);replace HB:=q_ (bs_ hb);(try clear hb)
                
                (try clear hk)
                
                refine hK.out _ _ ⟨((HB.out.cell (World.block_lt_of_cell? w _ ag)).trans ag),((HB.out.cell (World.block_lt_of_cell? w _ aj)).trans aj)⟩ (fun hHeld=>?_)
                clear hK K;refine norm_ (a':=?_) ?_ ?_
                rotate_left
                ·show Act.put _ (some 56) _=_
                 simp only [Act.put,List.setIfInBounds_toArray,List.set_cons_zero,List.set_cons_succ,i64_w,i32_w]
                 rfl
                refine pu_ 8 57 ?_;refine pu_ 9 7 ?_
                refine done_ (done_of HT_.out (by kernel_rfl)) ?_
                try go_wp2
                go_roundg k2
                case measure=>have:=HK1.out;have:=HK2.out;omega
                case rel=>exact⟨(wrap64 (aq+(wrap64 ((rd (rd_L2 l0 0) aa)*aC)))),(wrap64 (aa+1)),rs_,rs_,H',⟨by have:=HK1.out;have:=HK2.out;omega⟩,⟨hb_⟩⟩
              ·rw [if_neg c29] at H;exact absurd H (by simp)
             ·rw [if_neg c28] at H;exact absurd H (by simp)
            ·rw [if_neg c27] at H;exact absurd H (by simp)
       ·rw [if_neg c6] at H;exact absurd H (by simp)
      ·rw [if_neg c5] at H;exact absurd H (by simp)
     ·rw [if_neg c4] at H;exact absurd H (by simp)
    ·rw [if_neg c3] at H;have c3b0:=decide_eq_false c3;clear c3;obtain rfl:=Option.some.inj H;go_wp2
     go_ret
     exact⟨by first | rfl | (simp [errW_none,errW_some] <;> rfl) | (simp [*,errW_none,errW_some] <;> rfl),hb_⟩
end Go.Proofs.Ytbjljcpngbhkeaa.Pr
end
section
namespace Go.Proofs.Ytbjljcpngbhkeaa.Sd
open Go.RowKit Go.Proofs.YtbjljcpngbhkeaaW.PrintWords Go.Proofs.YtbjljcpngbhkeaaW.PrintMore Go.Proofs.Ytbjljcpngbhkeaa.Ma Go.Proofs.Ytbjljcpngbhkeaa.Pr Go.Proofs.Ytbjljcpngbhkeaa.Dt Go.Proofs.Ytbjljcpngbhkeaa.Bz
def en (l:List (List Int)):Mat:=fun i j=>(l.getD i []).getD j 0
def SB (n:Nat) (A:Mat):Prop:= ∃k,Bk n k A
theorem SB.mnr {n c:Nat} {A:Mat} (h:SB (n+1) A) (hc:c < n+1):SB n (mnr c A):=by
 obtain⟨k,h⟩:=h
 by_cases e:c=k
 ·subst e
  refine⟨n,fun i j hi hj=>?_⟩
  have:=h (i+1) (up c j) (by omega) (up_lt hj)
  rw [if_neg (up_ne c j)] at this
  unfold Dt.mnr
  split <;> omega
 ·refine⟨dn c k,fun i j hi hj=>?_⟩
  have:=h (i+1) (up c j) (by omega) (up_lt hj)
  unfold Dt.mnr
  by_cases q:up c j=k
  ·rw [if_pos q] at this
   rw [if_pos (by rw [← q,dn_up])];exact this
  ·rw [if_neg q] at this
   split <;> omega
theorem SB.det {n:Nat} {A:Mat} (h:SB n A) (hn:n≤5): -1920000000≤det n A∧det n A≤1920000000:=by
 obtain⟨k,h⟩:=h
 have h1:=det_absk n k A h
 have h2:=b20_le n hn
 omega
theorem SB.num {n:Nat} {A:Mat} (h:SB n A) {i j:Nat} (hi:i < n) (hj:j < n): -100≤A i j∧A i j≤100:=by
 obtain⟨k,h⟩:=h
 have:=h i j hi hj
 split at this <;> omega
def mrow (l:List (List Int)) (c r:Nat):List (List Int):=(List.range r).map fun i=>((l.getD (i+1) []).take c)++((l.getD (i+1) []).drop (c+1))
theorem mrow_len (l:List (List Int)) (c r:Nat):(mrow l c r).length=r:=by simp [mrow]
theorem mrow_succ (l:List (List Int)) (c r:Nat):mrow l c (r+1)=mrow l c r++ [((l.getD (r+1) []).take c)++((l.getD (r+1) []).drop (c+1))]:=by simp [mrow,List.range_succ]
theorem mrow_en (l:List (List Int)) (c r n:Nat) (hl: ∀x ∈ l,x.length=n+1) (hn:l.length=n+1) (hc:c < n+1) (i j:Nat) (hi:i < r) (hr:r≤n) (hj:j < n):en (mrow l c r) i j=Dt.mnr c (en l) i j:=by
 have hx:(l.getD (i+1) []).length=n+1:=by
  rw [List.getD_eq_getElem?_getD,List.getElem?_eq_getElem (show i+1 < l.length by omega)];exact hl _ (List.getElem_mem _)
 unfold en Dt.mnr mrow
 rw [List.getD_eq_getElem?_getD (l:=List.map _ _),List.getElem?_map,List.getElem?_range hi]
 simp only [Option.map_some,Option.getD_some]
 show _=(l.getD (i+1) []).getD (up c j) 0
 generalize l.getD (i+1) []=x at hx ⊢
 rw [List.getD_eq_getElem?_getD,List.getD_eq_getElem?_getD]
 congr 1
 unfold up
 by_cases q:j < c
 ·rw [if_pos q,List.getElem?_append_left (by rw [List.length_take];omega),List.getElem?_take_of_lt q]
 ·rw [if_neg q,List.getElem?_append_right (by rw [List.length_take];omega),List.length_take,Nat.min_eq_left (by omega),List.getElem?_drop,show c+1+(j - c)=j+1 from by omega]
theorem own_eq (x:List Int) (h:x.length < 17592186044416):spec_l01Own.f x=some x:=by
 unfold spec_l01Own.f
 simp only [Option.bind_some,List.length_nil,Nat.zero_add,List.nil_append]
 rw [if_pos h]
theorem rdL1 (l:List (List Int)) (i:Nat):rd_L2 l (i:Int)=l.getD i []:=by simp [rd_L2]
theorem odd_sg (c:Nat) (x:Int):(if Int.tmod (c:Int) 2=1 then -x else x)=sg c*x:=by
 have e:Int.tmod (c:Int) 2=((c % 2:Nat):Int):=by rw [Int.tmod_eq_emod_of_nonneg (by omega)];omega
 unfold sg
 by_cases q:c % 2=1
 ·rw [if_pos (by rw [e,q];rfl),if_pos q];omega
 ·rw [if_neg (by rw [e];omega),if_neg q];omega
theorem spec_det: ∀(n:Nat) (l:List (List Int)),n≤5→l.length=n→(∀x ∈ l,x.length=n)→SB n (en l)→Ev (fun k=>spec_l01Det.f k l) (det n (en l)):=by
 intro n
 induction n with
 | zero=>
  intro l _ hn _ _
  show Ev _ (1:Int)
  exact evstep (fun k=>by rw [spec_l01Det.f]) (evpos (by omega) (evc rfl))
 | succ n ih=>
  intro l h5 hn hl hs
  have hrow (i:Nat) (hi:i < n+1):(l.getD i []).length=n+1:=by
   rw [List.getD_eq_getElem?_getD,List.getElem?_eq_getElem (show i < l.length by omega)];exact hl _ (List.getElem_mem _)
  let F:Nat→Int:=fun k=>sg k*(en l 0 k*det n (Dt.mnr k (en l)))
  have hF (k:Nat) (hk:k < n+1): -192000000000≤F k∧F k≤192000000000:=by
   have h1:=(hs.mnr hk).det (by omega)
   have h2:=hs.num (i:=0) (j:=k) (by omega) hk
   have:(F k).natAbs≤100*1920000000:=by
    show (sg k*(en l 0 k*det n (Dt.mnr k (en l)))).natAbs≤_
    rw [Int.natAbs_mul,Int.natAbs_mul,sg_abs,Nat.one_mul]
    exact Nat.mul_le_mul (by omega) (by omega)
   omega
  have hS: ∀c,c≤n+1→ -192000000000*(c:Int)≤sm c F∧sm c F≤192000000000*(c:Int):=by
   intro c
   induction c with
   | zero=>intro _;simp [sm]
   | succ c ihc=>
    intro hc
    have h1:=ihc (by omega)
    have h2:=hF c (by omega)
    simp only [sm]
    push_cast
    omega
  have key: ∀q c,c+q=n+1→Ev (fun k=>spec_l01Det.l0 k l (sm c F) c) (sm (n+1) F):=by
   intro q
   induction q with
   | zero=>
    intro c hc
    obtain rfl:c=n+1:=by omega
    exact evstep (fun k=>by rw [spec_l01Det.l0]) (evneg (by omega) (evc rfl))
   | succ q ihq=>
    intro c hc
    have nx:=ihq (c+1) (by omega)
    have hr0:=hrow 0 (by omega)
    have e0:rd (rd_L2 l 0) (c:Int)=en l 0 c:=by
     rw [show rd_L2 l 0=l.getD 0 [] from rdL1 l 0,rd_nat];rfl
    have hr0':(rd_L2 l 0).length=n+1:=by rw [show rd_L2 l 0=l.getD 0 [] from rdL1 l 0];exact hr0
    have f1:=hF c (by omega)
    have s1:=hS c (by omega)
    have s2:=hS (c+1) (by omega)
    refine evstep (fun k=>by rw [spec_l01Det.l0]) (evpos (by omega) (evpos (by omega) (evpos (by omega) (evpos (by omega) ?_))))
    rw [e0]
    by_cases z:en l 0 c=0
    ·refine evpos z ?_
     rw [w64 (x:=(c:Int)+1) (by omega) (by omega)]
     have e:sm (c+1) F=sm c F:=by
      show sm c F+sg c*(en l 0 c*det n (Dt.mnr c (en l)))=_
      rw [z];simp
     rw [e] at nx
     exact nx
    ·refine evneg z ?_
     have build: ∀p r,r+p=n→Ev (fun k=>spec_l01Det.l1 k l (sm c F) c (mrow l c r) ((r+1:Nat):Int)) (sm (n+1) F):=by
      intro p
      induction p with
      | zero=>
       intro r hr
       obtain rfl:r=n:=by omega
       refine evstep (fun k=>by rw [spec_l01Det.l1]) (evneg (by omega) (evpos (by omega) (evpos (by omega) (evpos (by omega) ?_))))
       have hm:=ih (mrow l c r) (by omega) (mrow_len l c r) (fun x hx=>by
        obtain⟨i,hi,rfl⟩:=List.mem_map.1 hx
        have:=hrow (i+1) (by have:=List.mem_range.1 hi;omega)
        rw [List.length_append,List.length_take,List.length_drop];omega) (by
        obtain⟨k',hk'⟩:=hs.mnr (c:=c) (by omega)
        exact⟨k',fun i j hi hj=>by rw [mrow_en l c r r hl hn (by omega) i j hi (Nat.le_refl _) hj];exact hk' i j hi hj⟩)
       rw [det_congr (A:=en (mrow l c r)) (B:=Dt.mnr c (en l)) (fun i j hi hj=>mrow_en l c r r hl hn (by omega) i j hi (Nat.le_refl _) hj)] at hm
       have hd:=(hs.mnr (c:=c) (by omega)).det (by omega)
       have ha:=hs.num (i:=0) (j:=c) (by omega) (by omega)
       refine evbind hm ?_
       rw [e0]
       have hp: -192000000000≤en l 0 c*det r (Dt.mnr c (en l))∧en l 0 c*det r (Dt.mnr c (en l))≤192000000000:=by
        have:(en l 0 c*det r (Dt.mnr c (en l))).natAbs≤100*1920000000:=by
         rw [Int.natAbs_mul];exact Nat.mul_le_mul (by omega) (by omega)
        omega
       have o:=odd_sg c (en l 0 c*det r (Dt.mnr c (en l)))
       have fe:F c=sg c*(en l 0 c*det r (Dt.mnr c (en l))):=rfl
       have se:sm (c+1) F=sm c F+F c:=rfl
       rw [w64 (x:=en l 0 c*det r (Dt.mnr c (en l))) (by omega) (by omega)]
       by_cases od:Int.tmod (c:Int) 2=1
       ·refine evpos od ?_
        rw [if_pos od] at o
        rw [w64 (x:= -(en l 0 c*det r (Dt.mnr c (en l)))) (by omega) (by omega),o, ← fe, ← se,w64 (x:=sm (c+1) F) (by omega) (by omega),w64 (x:=(c:Int)+1) (by omega) (by omega)]
        exact nx
       ·refine evneg od ?_
        rw [if_neg od] at o
        rw [o, ← fe, ← se,w64 (x:=sm (c+1) F) (by omega) (by omega),w64 (x:=(c:Int)+1) (by omega) (by omega)]
        exact nx
      | succ p ihp=>
       intro r hr
       have hx:=hrow (r+1) (by omega)
       have nx2:=ihp (r+1) (by omega)
       rw [mrow_succ] at nx2
       refine evstep (fun k=>by rw [spec_l01Det.l1]) ?_
       rw [rdL1]
       refine evpos (by omega) (evpos (by omega) (evpos (by omega) (evpos (by omega) ?_)))
       rw [Int.toNat_natCast,w64 (x:=(c:Int)+1) (by omega) (by omega)]
       refine evsome (a:=(l.getD (r+1) []).take c) (own_eq _ (by rw [List.length_take];omega)) (evpos (by omega) (evpos (by omega) (evpos ?_ (evpos (by rw [mrow_len];omega) ?_))))
       ·rw [List.length_take,List.length_drop];omega
       ·rw [show ((c:Int)+1).toNat=c+1 from by omega,w64 (x:=((r+1:Nat):Int)+1) (by omega) (by omega)]
        exact nx2
     have:=build n 0 (by omega)
     exact this
  refine evstep (fun k=>by rw [spec_l01Det.f]) (evneg (by omega) ?_)
  exact key (n+1) 0 (by omega)
end Go.Proofs.Ytbjljcpngbhkeaa.Sd
end
section
namespace Go.Proofs.Ytbjljcpngbhkeaa.Mn
open Go.RowKit Go.Proofs.YtbjljcpngbhkeaaW.PrintWords Go.Proofs.YtbjljcpngbhkeaaW.PrintMore Go.Proofs.Ytbjljcpngbhkeaa.Ma Go.Proofs.Ytbjljcpngbhkeaa.Pr Go.Proofs.Ytbjljcpngbhkeaa.Dt Go.Proofs.Ytbjljcpngbhkeaa.Bz Go.Proofs.Ytbjljcpngbhkeaa.Bd Go.Proofs.Ytbjljcpngbhkeaa.Un Go.Proofs.Ytbjljcpngbhkeaa.Cz
section
variable {n:Nat} {l:List (List Int)} (h:Sq n l) (hn:n≤5) (s:Int)
include h hn
theorem colM_small (i j:Nat) (hi:i < n) (hj:j < n):(colM (bB s) (en l) i j).natAbs≤20:=by
 have _h:=hn
 have:=h.num i j hi hj
 unfold colM
 split
 ·omega
 ·split <;> decide
theorem cols_det:Ev (fun k=>spec_l01Det.f k (mk n n (colM (bB s) (en l)))) (det n (colM (bB s) (en l))):=by
 have he (i j:Nat) (hi:i < n) (hj:j < n):en (mk n n (colM (bB s) (en l))) i j=colM (bB s) (en l) i j:=mk_en n n _ i j hi hj
 have:=Sd.spec_det n (mk n n (colM (bB s) (en l))) hn (mk_len _ _ _) (mk_rows _ _ _) ⟨0,fun i j hi hj=>by
  show (en (mk n n (colM (bB s) (en l))) i j).natAbs≤_
  rw [he i j hi hj]
  have:=colM_small h hn s i j hi hj
  split <;> omega⟩
 have e:det n (Sd.en (mk n n (colM (bB s) (en l))))=det n (colM (bB s) (en l)):=det_congr he
 rw [e] at this
 exact this
end
end Go.Proofs.Ytbjljcpngbhkeaa.Mn
end
section
namespace Go.Proofs.Ytbjljcpngbhkeaa.Pr
open Go.RowKit Go.Proofs.YtbjljcpngbhkeaaW.PrintWords Go.Proofs.YtbjljcpngbhkeaaW.PrintLast Go.Proofs.YtbjljcpngbhkeaaW.PrintMore
attribute [local go_sem] max2_int min2_int max_two min_two max_three min_three max_four min_four
mutual
def spec_l01Solve.l0:Nat→List (List Int)→List Int→List Int→Int→Option (List Int × Int)
 | 0,_,_,_,_=>none
 | k+1,x0,x1,x6,x7=>if x7 < (x0.length:Int) then(spec_l01Solve.l1 k x0 x1 x6 x7 (([]:List (List Int))) 0) else((spec_l01Det.f k x0).bind fun ae=>(some (x6,ae)))
def spec_l01Solve.l1:Nat→List (List Int)→List Int→List Int→Int→List (List Int)→Int→Option (List Int × Int)
 | 0,_,_,_,_,_,_=>none
 | k+1,x0,x1,x6,x7,x8,x9=>if x9 < (x0.length:Int) then(if 0≤x9 then((spec_l01Own.f (rd_L2 x0 x9)).bind fun aa=>(if x9 < (x1.length:Int) then(if 0≤x7 then(if x7 < (aa.length:Int) then(if x8.length < 5864062014805 then(spec_l01Solve.l1 k x0 x1 x6 x7 (x8++ [(aa.set (x7:Int).toNat (rd x1 x9))]) (wrap64 (x9+1))) else(none)) else(none)) else(none)) else(none))) else(none)) else((spec_l01Det.f k x8).bind fun af=>(if x6.length < 17592186044416 then(spec_l01Solve.l0 k x0 x1 (x6++ [af]) (wrap64 (x7+1))) else(none)))
end
def spec_l01Solve.f (k:Nat) (l0:List (List Int)) (l1:List Int):Option (List Int × Int):=spec_l01Solve.l0 k l0 l1 (([]:List Int)) 0
theorem spec_l01Solve.mono_l: ∀k,(∀y0 y1 y2 y3,LeO (spec_l01Solve.l0 k y0 y1 y2 y3) (spec_l01Solve.l0 (k+1) y0 y1 y2 y3))∧(∀y0 y1 y2 y3 y4 y5,LeO (spec_l01Solve.l1 k y0 y1 y2 y3 y4 y5) (spec_l01Solve.l1 (k+1) y0 y1 y2 y3 y4 y5))
 | 0=>⟨fun _ _ _ _ r h=>by simp [spec_l01Solve.l0] at h,fun _ _ _ _ _ _ r h=>by simp [spec_l01Solve.l1] at h⟩
 | k+1=>by
  obtain⟨ih0,ih1⟩:=spec_l01Solve.mono_l k
  refine⟨?_,?_⟩<;>intros<;>(first | unfold spec_l01Solve.l0 | unfold spec_l01Solve.l1)<;>(repeat' first | (with_reducible first | exact ih0 _ _ _ _ | exact ih1 _ _ _ _ _ _ | exact spec_l01Det.mono _ _ | exact LeO.refl _ | exact LeO.none _ | refine LeO.ite ?_ ?_ | refine LeO.bind ?_ (fun _=>?_)) | exact ih0 _ _ _ _ | exact ih1 _ _ _ _ _ _ | exact spec_l01Det.mono _ _ | exact LeO.none _ | refine LeO.ite ?_ ?_ | refine LeO.bind ?_ (fun _=>?_))
theorem spec_l01Solve.mono: ∀a0 a1 k,LeO (spec_l01Solve.f k a0 a1) (spec_l01Solve.f (k+1) a0 a1):=by
 intro a0 a1 k
 obtain⟨ih0,ih1⟩:=spec_l01Solve.mono_l k
 unfold spec_l01Solve.f
 repeat' first | (with_reducible first | exact ih0 _ _ _ _ | exact ih1 _ _ _ _ _ _ | exact spec_l01Det.mono _ _ | exact LeO.refl _ | exact LeO.none _ | refine LeO.ite ?_ ?_ | refine LeO.bind ?_ (fun _=>?_)) | exact ih0 _ _ _ _ | exact ih1 _ _ _ _ _ _ | exact spec_l01Det.mono _ _ | exact LeO.none _ | refine LeO.ite ?_ ?_ | refine LeO.bind ?_ (fun _=>?_)
theorem spec_l01Solve.calls (k:Nat) (A0:Option Addr) (c0:Nat) (l0:List (List Int)) (A1:Option Addr) (c1:Nat) (l1:List Int) (r1:List Int) (r2:Int) (w:World) (hr0:Kd.C (Kd.slice 2 (Kd.int .i64)) w A0 l0.length l0) (hc0:l0.length≤c0) (hr1:Kd.C (Kd.int .i64) w A1 l1.length l1) (hc1:l1.length≤c1) (h:spec_l01Solve.f k l0 l1=some (r1,r2)):
  Calls Try.prog 74 #[.slice A0 l0.length c0, .slice A1 l1.length c1] w fun e w'=> ∃v0_:Value,e= .returned (.tuple #[v0_, .int .i64 r2])∧Kd.R (Kd.int .i64) 2 w' w.heap.size (fun _=>True) v0_ r1∧Below w.heap.size w w':=by
 have HR0:=q_ hr0;have HC0:=q_ hc0;clear hr0 hc0;have HR1:=q_ hr1;have HC1:=q_ hc1;clear hr1 hc1;have HB:=q_ (Below.refl w.heap.size w);have H:(spec_l01Solve.l0 k l0 l1 (([]:List Int)) 0)=some (r1,r2):=h;clear h;obtain⟨aC,hy⟩: ∃y_:List Int,y_=(([]:List Int)):=⟨_,rfl⟩
 replace H:(spec_l01Solve.l0 k l0 l1 aC 0)=some (r1,r2):=hh_;have az:=q_ hy;clear hy;have H':=q_ H;clear H
 go_enter Try.func74,Try.ntmps74
 go_wp2_with (first | ((with_reducible refine gate_dst (N:=11) rfl ?_);refine Kd.R_lit (Kd.int .i64) _ 2 ?hg (N:=11) ?hd (xs:=([]:List Int)) (inner:= []) (ok:=fun _=>True) (okp:=fun _=>True) ?hr ?hp (fun _ hk=>hk) trivial (Below.refl _ _) (Nat.le_refl _) (by simp) ?_;(case hd=>rfl);(case hg=>rfl);(case hr=>first | (go_simp;done) | (go_simp;rfl));(case hp=>exact(Reps.none _ _));intro bq w3 ho4 hb hg_ hnew_;clear hg_ hnew_;(first | rw [← az.out] at ho4 | (simp only [Int.reduceToNat] at ho4;rw [← az.out] at ho4));have aQ:=q_ (Kd.R_lower ho4 bz_);replace HB:=q_ (bs_ hb);clear hb ho4))
 go_loopg [6,7] k (fun kq v6 v7 w'=> ∃(aw:List Int) (aa:Int),v7= .int .i64 aa∧Aside0 (spec_l01Solve.l0 kq l0 l1 aw aa=some (r1,r2))∧Aside0 (kq≤k)∧Aside0 (Kd.R (Kd.int .i64) 2 w' w.heap.size (fun _=>True) v6 aw)∧Aside0 (Below w.heap.size w w'))
 case atStart=>exact⟨(aC),(0),rs_,H',⟨Nat.le_refl _⟩,⟨ro_ aQ.out⟩,⟨hb_⟩⟩
 case round=>
  clear H';(try clear c1);obtain⟨aw,aa,rfl,HA,HK1,af,HB⟩:=hrel;cases gk with
  | zero=>exact absurd HA.out (by simp [spec_l01Solve.l0])
  | succ k1=>
   have H:=HA.out;clear HA;simp only [spec_l01Solve.l0] at H
   by_cases c5:aa < (l0.length:Int)
   ·rw [if_pos c5] at H;have c5b0:=decide_eq_true c5;clear c5;obtain⟨aD,hy⟩: ∃y_:List (List Int),y_=(([]:List (List Int))):=⟨_,rfl⟩
    replace H:(spec_l01Solve.l1 k1 l0 l1 aw aa aD 0)=some (r1,r2):=hh_;have aA:=q_ hy;clear hy;have H':=q_ H;clear H
    go_wp2_with (first | ((with_reducible refine gate_dst (N:=18) rfl ?_);refine Kd.S_lit (Kd.slice 2 (Kd.int .i64)) _ 25 ?hg (N:=18) ?hd (xs:=([]:List (List Int))) (inner:= []) (ok:=fun _=>True) (okp:=fun _=>True) ?hr ?hp (fun _ hk=>hk) trivial (Below.refl _ _) (Nat.le_refl _) (by simp) ?_;(case hd=>rfl);(case hg=>rfl);(case hr=>first | (go_simp;done) | (go_simp;rfl));(case hp=>exact(Reps.none _ _));intro bu w6 ho7 hb hg_ hnew_;clear hg_ hnew_;(first | rw [← aA.out] at ho7 | (simp only [Int.reduceToNat] at ho7;rw [← aA.out] at ho7));have aT:=q_ (Kd.S_lower (Kd.S_new' ho7 (Kd.R_lt (ro_ af.out))) bz_);replace af:=q_ (rb_ af.out hb);replace HB:=q_ (bs_ hb);clear hb ho7))
    go_loopg [8,9] k1 (fun kq v8 v9 w'=> ∃(aj:List Int) (ak:List (List Int)) (ae:Int),v9= .int .i64 ae∧Aside0 (spec_l01Solve.l1 kq l0 l1 aj aa ak ae=some (r1,r2))∧Aside0 (kq≤k1)∧Aside0 (Kd.R (Kd.int .i64) 2 w' w.heap.size (fun _=>True) u6 aj)∧Aside0 (Kd.S (Kd.slice 2 (Kd.int .i64)) 25 w' w.heap.size (fun k_=>some k_≠(u6:Value).ownBlock) v8 ak)∧Aside0 (Below w.heap.size w w'))
    case atStart=>exact⟨(aw),(aD),(0),rs_,H',⟨Nat.le_refl _⟩,⟨ro_ af.out⟩,⟨by(with_reducible repeat (first | apply Kd.S_alloc | apply Kd.S_drewN | apply Kd.S_drew));exact Kd.S_mono aT.out (fun _ hk=>hk.2)⟩,⟨hb_⟩⟩
    case round=>
     clear H';(try clear c1);(try clear c5b0);obtain⟨aj,ak,ae,rfl,HA,HK2,af,ag,HB⟩:=hrel;cases gk with
     | zero=>exact absurd HA.out (by simp [spec_l01Solve.l1])
     | succ k2=>
      have H:=HA.out;clear HA;simp only [spec_l01Solve.l1] at H
      by_cases c8:ae < (l0.length:Int)
      ·rw [if_pos c8] at H;have c8b0:=decide_eq_true c8;clear c8
       by_cases c9:0≤ae
       ·rw [if_pos c9] at H;have c9b0:=decide_eq_true c9;clear c9;replace H:=Option.bind_eq_some_iff.mp H;obtain⟨ah,A100,H⟩:=H;replace H:(if ae < (l1.length:Int) then(if 0≤aa then(if aa < (ah.length:Int) then(if ak.length < 5864062014805 then(spec_l01Solve.l1 k2 l0 l1 aj aa (ak++ [(ah.set (aa:Int).toNat (rd l1 ae))]) (wrap64 (ae+1))) else(none)) else(none)) else(none)) else(none))=some (r1,r2):=H;have A10:=q_ A100;clear A100
        by_cases c11:ae < (l1.length:Int)
        ·rw [if_pos c11] at H;have c11b0:=decide_eq_true c11;clear c11
         by_cases c12:0≤aa
         ·rw [if_pos c12] at H;have c12b0:=decide_eq_true c12;clear c12
          by_cases c13:aa < (ah.length:Int)
          ·rw [if_pos c13] at H;have c13b0:=decide_eq_true c13;clear c13;obtain⟨ay,hy⟩: ∃y_:List Int,y_=(ah.set (aa:Int).toNat (rd l1 ae)):=⟨_,rfl⟩
           replace H:(if ak.length < 5864062014805 then(spec_l01Solve.l1 k2 l0 l1 aj aa (ak++ [ay]) (wrap64 (ae+1))) else(none))=some (r1,r2):=hh_;have aU:=q_ hy;clear hy
           by_cases c15:ak.length < 5864062014805
           ·rw [if_pos c15] at H;have aV:=q_ c15;clear c15;obtain⟨aG,hy⟩: ∃y_:List (List Int),y_=(ak++ [ay]):=⟨_,rfl⟩
            replace H:(spec_l01Solve.l1 k2 l0 l1 aj aa aG (wrap64 (ae+1)))=some (r1,r2):=hh_;have aW:=q_ hy;clear hy;have H':=q_ H;clear H;have p378:0≤(ae:Int):=od_;have q378:ae < (l0.length:Int):=od_;obtain⟨bh,aH,aI,e378,hx378_0,hl378_0,hi378_0⟩:=at_L2 HR0.out ae p378 q378;cases e378
            replace hx378_0:=(HB.out.cell (World.block_lt_of_cell? w _ hx378_0)).trans hx378_0;have HR378_0:=q_ hi378_0;have HC378_0:=q_ hl378_0;clear hi378_0 hl378_0;replace p378:=eq_true p378;replace q378:=eq_true q378
            go_wp2_with (first | ((with_reducible refine gate_callee (f:=71) rfl ?_);refine gL_ 29 Try.func71 #[.slice aH (rd_L2 l0 ae).length aI] ?_;(with_reducible refine(spec_l01Own.calls _ _ (rd_L2 l0 ae) ah _ ?au ?av A10.out).mono ?_);(case au=>exact cb_ HR378_0.out HB.out);(case av=>exact HC378_0.out);rintro e w16 ⟨bv,rfl,ho0,hb⟩;refine⟨_,rfl,?_⟩;replace ag:=q_ (Kd.S_elder' (so_ ag.out) (Kd.R_base ho0) hb);have ai:=q_ (Kd.R_lower (Kd.R_new' ho0 (Kd.R_lt (ro_ af.out))) bz_);replace af:=q_ (Kd.R_elder' (ro_ af.out) (Kd.R_base ho0) hb);replace HB:=q_ (bs_ hb);(try clear hb);(try clear hk);(try clear ho0);have p382:0≤(ae:Int):=od_;have q382:ae < (l1.length:Int):=od_;obtain⟨bk,e382,hx382_0⟩:=Kd.at_int HR1.out ae p382 q382;cases e382;replace hx382_0:=(HB.out.cell (World.block_lt_of_cell? w _ hx382_0)).trans hx382_0;replace p382:=eq_true p382;replace q382:=eq_true q382;have p14:0≤(aa:Int):=od_;have q14:(aa:Int) < ((ah.length:Int):Int):=od_;obtain⟨go14,aq,aJ,aK,gl14,cl14,HG14⟩:=Kd.R_form ai.out (by omega);(first | cases aJ | (injection aJ with ea_ en_ ec_;(first | subst ea_ | (injection ea_ with ea_;subst ea_));subst ec_;clear en_));have GB14:=q_ aK;have GG14:=q_ HG14;clear aK gl14 HG14;obtain⟨hx14_0,hf14_0⟩:=Kd.R_celln 0 ai.out (aa:Int) p14 q14;replace p14:=eq_true p14;replace q14:=eq_true q14;have n_:=q_ (Kd.R_mono (ok':=(fun k_=>some k_≠(u6:Value).ownBlock)) ai.out (fun k_ hk=>hk.2));clear ai;have ai:=n_;clear n_;obtain⟨hy17_,hz17_⟩:=Kd.R_celln 0 ai.out (aa:Int) od_ od_;have HP17:=Kd.R_putg ai.out (aa:Int) (rd l1 ae)) | ((with_reducible refine gate_store (t:=2) (p:=36) rfl ?_);refine store_event (t:=2) (p:=36) (v:=?vo_w18) (w1:=(w16.setCell ⟨go14,(aa:Int).toNat,none⟩ (.int .i64 (rd l1 ae)))) ?hg ?ho ?hn ?hr ?_;(case ho=>rfl);(case hg=>rfl);(case hn=>rfl);(case hr=>first | (go_simp;done) | (go_simp;rfl));intro w18 hw;have hg:w16.grownBy w18 (some go14):=(by rw [hw];exact HP17.2);have hp_:Kd.R (Kd.int .i64) 2 w18 w.heap.size (fun k_=>some k_≠(u6:Value).ownBlock) (.slice (some ⟨go14,0,none⟩) ah.length aq) ay:=(by rw [hw,aU.out];exact HP17.1);clear HP17;replace af:=q_ (Kd.R_after (v:=(.slice (some ⟨go14,0,none⟩) ah.length aq)) (v1:=(.slice (some ⟨go14,0,none⟩) ah.length aq)) (ok:=(fun _=>True)) (ro_ af.out) hg (.inl rfl));replace ag:=q_ (Kd.S_after (v:=(.slice (some ⟨go14,0,none⟩) ah.length aq)) (v1:=(.slice (some ⟨go14,0,none⟩) ah.length aq)) (ok:=(fun k_=>some k_≠(u6:Value).ownBlock)) (so_ ag.out) hg (.inl rfl));replace ai:=q_ (hp_);replace HB:=q_ ((by rw [hw];exact below_set (HB.out) GB14.out:Below w.heap.size w w18));clear hg hw hp_) | ((with_reducible refine gate_builtin (b:= .append) (xs:= #[.tmp 37, .tmp 39]) rfl ?_);at_builtin;refine Kd.S_append (Kd.slice 2 (Kd.int .i64)) (w0:=w) w.heap.size rfl (.tmp 37) (.tmp 39) 24 25 (.slice none 0 0) 24 rfl Try.underlying24 info25 rfl (by decide) (by omega) u8 ak ay [.slice (some ⟨go14,0,none⟩) ah.length aq] (fun k_=>some k_≠(u6:Value).ownBlock) (fun k_=>some k_=(.slice (some ⟨go14,0,none⟩) ah.length aq:Value).ownBlock) rfl rfl ?aP (fun k_ hk_=>((Kd.R_mono (ok':=fun k_=>((fun k_=>some k_≠(u6:Value).ownBlock)) k_∧some k_≠(u8:Value).ownBlock) (Kd.R_apart' (ai.out) (Kd.S_typed ag.out) (by decide)) (fun k_ hk=>⟨hk.1,hk.2⟩))).1 k_ hk_.symm) ?aF ?aO ?aB ?aS ?aL ?_;(case aP=>exact Kd.M_row (Kd.R_mono (Kd.R_tight rfl (Kd.R_mono (ok':=fun k_=>((fun k_=>some k_≠(u6:Value).ownBlock)) k_∧some k_≠(u8:Value).ownBlock) (Kd.R_apart' (ai.out) (Kd.S_typed ag.out) (by decide)) (fun k_ hk=>⟨hk.1,hk.2⟩))) (fun _ h_=>h_)));(case aB=>exact hb_);(case aF=>exact(fun k_ hk=>Kd.fresh' (Kd.R_lt (ro_ af.out)) k_ hk));(case aO=>exact(by(with_reducible repeat (first | apply Kd.S_alloc | apply Kd.S_drewN | apply Kd.S_drew));exact Kd.S_mono ag.out (fun k_ hk=>⟨hk.1,fun e_=>hk.2 e_⟩)));(case aS=>exact bz_);(case aL=>have:=aV.out;omega);intro bw w19 ho hb hg hat;rw [← aW.out] at ho;replace af:=q_ (Kd.R_over' (ro_ af.out) (Kd.S_typed (so_ ag.out)) (by decide) hg);replace HB:=q_ (hb);have aX:=q_ (ho);clear ag ai ho hb hg hat))
            go_roundg k2
            case measure=>have:=HK1.out;have:=HK2.out;omega
            case rel=>exact⟨(aj),(aG),(wrap64 (ae+1)),rs_,H',⟨by have:=HK1.out;have:=HK2.out;omega⟩,⟨by(with_reducible repeat (first | apply Kd.R_alloc | apply Kd.R_drewN | apply Kd.R_drew));exact Kd.R_mono af.out (fun _ hk=>trivial)⟩,⟨so_ aX.out⟩,⟨hb_⟩⟩
           ·rw [if_neg c15] at H;exact absurd H (by simp)
          ·rw [if_neg c13] at H;exact absurd H (by simp)
         ·rw [if_neg c12] at H;exact absurd H (by simp)
        ·rw [if_neg c11] at H;exact absurd H (by simp)
       ·rw [if_neg c9] at H;exact absurd H (by simp)
      ·rw [if_neg c8] at H;have c8b0:=decide_eq_false c8;clear c8;replace H:=Option.bind_eq_some_iff.mp H;obtain⟨ax,A200,H⟩:=H;replace H:(if aj.length < 17592186044416 then(spec_l01Solve.l0 k2 l0 l1 (aj++ [ax]) (wrap64 (aa+1))) else(none))=some (r1,r2):=H;have A20:=q_ A200;clear A200
       by_cases c21:aj.length < 17592186044416
       ·rw [if_pos c21] at H;have aY:=q_ c21;clear c21;obtain⟨aM,hy⟩: ∃y_:List Int,y_=(aj++ [ax]):=⟨_,rfl⟩
        replace H:(spec_l01Solve.l0 k2 l0 l1 aM (wrap64 (aa+1)))=some (r1,r2):=hh_;have aZ:=q_ hy;clear hy;have H':=q_ H;clear H;obtain⟨ba,bf,bg⟩:=Kd.S_slice ag.out;subst bg
        go_wp2_with (first | ((with_reducible refine gate_callee (f:=43) rfl ?_);refine gL_ 43 Try.func43 #[.slice ba ak.length bf] ?_;(with_reducible refine(spec_l01Det.calls k2 _ _ ak ax _ ?au ?av A20.out).mono ?_);(case au=>repeat (first | exact(Kd.S_reads' ag.out).2.2 | (with_reducible refine Kd.C_alloc ?_ _) | (with_reducible refine Kd.C_drewN ?_ _) | (with_reducible refine Kd.C_drew ?_)));(case av=>exact(Kd.S_reads' ag.out).2.1);rintro e w23 ⟨rfl,hb⟩;refine⟨_,rfl,?_⟩;replace af:=q_ (rb_ af.out hb);replace ag:=q_ (Kd.S_below (so_ ag.out) hb);replace HB:=q_ (bs_ hb);(try clear hb);(try clear hk)) | ((with_reducible refine gate_builtin (b:= .append) (xs:= #[.tmp 41, .tmp 44]) rfl ?_);at_builtin;refine Kd.R_append (Kd.int .i64) (w0:=w) w.heap.size rfl (.tmp 41) (.tmp 44) 25 2 (.int .i64 0) 8 rfl Try.underlying25 info2 rfl (by decide) (by omega) u6 aj ax [.int .i64 ax] (fun _=>True) (fun _=>False) rfl rfl ?aP (fun _ hk=>hk.elim) ?aF ?aO ?aB ?aS ?aL ?_;(case aP=>exact rfl);(case aB=>exact hb_);(case aF=>exact(fun _ _=>trivial));(case aO=>exact(ro_ af.out));(case aS=>exact bz_);(case aL=>have:=aY.out;omega);intro bz w24 ho hb hg hat;rw [← aZ.out] at ho;replace ag:=q_ (Kd.S_after (ok:=(fun _=>True)) (by(with_reducible repeat (first | apply Kd.S_alloc | apply Kd.S_drewN | apply Kd.S_drew));exact Kd.S_mono ag.out (fun _ hk=>⟨trivial,hk⟩)) hg hat);replace HB:=q_ (hb);have a9:=q_ (ho);clear af ho hb hg hat))
        go_roundg k2
        case measure=>have:=HK1.out;have:=HK2.out;omega
        case rel=>exact⟨(aM),(wrap64 (aa+1)),rs_,H',⟨by have:=HK1.out;have:=HK2.out;omega⟩,⟨ro_ a9.out⟩,⟨hb_⟩⟩
       ·rw [if_neg c21] at H;exact absurd H (by simp)
   ·rw [if_neg c5] at H;have c5b0:=decide_eq_false c5;clear c5;replace H:=Option.bind_eq_some_iff.mp H;obtain⟨aN,A250,H⟩:=H;replace H:(some (aw,aN))=some (r1,r2):=H;have A25:=q_ A250;clear A250;simp only [Option.some.injEq,Prod.mk.injEq] at H;obtain⟨rfl,rfl⟩:=H
    go_wp2_with (first | ((with_reducible refine gate_callee (f:=43) rfl ?_);refine gL_ 48 Try.func43 #[.slice A0 l0.length c0] ?_;(with_reducible refine(spec_l01Det.calls k1 _ _ l0 aN _ ?au ?av A25.out).mono ?_);(case au=>exact cb_ HR0.out HB.out);(case av=>exact HC0.out);rintro e w26 ⟨rfl,hb⟩;refine⟨_,rfl,?_⟩;replace af:=q_ (rb_ af.out hb);replace HB:=q_ (bs_ hb);(try clear hb);(try clear hk)))
    go_ret2
    exact⟨_,by first | rfl | (simp [errW_none,errW_some] <;> rfl) | (simp [*,errW_none,errW_some] <;> rfl),ro_ af.out,hb_⟩
end Go.Proofs.Ytbjljcpngbhkeaa.Pr
end
section
namespace Go.Proofs.Ytbjljcpngbhkeaa.Sv
open Go.RowKit Go.Proofs.YtbjljcpngbhkeaaW.PrintWords Go.Proofs.YtbjljcpngbhkeaaW.PrintMore Go.Proofs.Ytbjljcpngbhkeaa.Ma Go.Proofs.Ytbjljcpngbhkeaa.Pr Go.Proofs.Ytbjljcpngbhkeaa.Dt Go.Proofs.Ytbjljcpngbhkeaa.Bz Go.Proofs.Ytbjljcpngbhkeaa.Bd Go.Proofs.Ytbjljcpngbhkeaa.Un Go.Proofs.Ytbjljcpngbhkeaa.Cz Go.Proofs.Ytbjljcpngbhkeaa.Mn
open Go.Proofs.Ytbjljcpngbhkeaa.Hd (dO cM pcol rowsFrom rowsFrom_len sl slL)
def dc (n:Nat) (C:Mat) (x:List Int) (i:Nat):Int:=det n (cset i (fun r=>x.getD r 0) C)
def sgn (d:Int):Int:=if d < 0 then -1 else if d > 0 then 1 else 0
section
variable {n:Nat} {l:List (List Int)} (h:Sq n l) (hn:n≤5) (s:Int)
include h hn
theorem col_t (Q:List Int) (hQ:Q.length=n) (i:Nat) (hi:i < n):Ev (fun k=>impl_Problem_column.f k l Q (i:Int) true) (rw1 n (fun r=> - en l r i)):=by
 have hl:=h.len
 have at_ (r:Nat) (hr:r < n):((List.range n).map fun u=>if u < r then - en l u i else 0).set r (- en l r i)=(List.range n).map fun u=>if u < r+1 then - en l u i else 0:=by
  apply List.ext_getElem
  ·simp
  ·intro k h1 h2
   have hk:k < n:=by simpa using h2
   rw [List.getElem_set]
   simp only [List.getElem_map,List.getElem_range]
   by_cases e:r=k
   ·subst e;rw [if_pos rfl,if_pos (by omega)]
   ·rw [if_neg e]
    by_cases c:k < r
    ·rw [if_pos c,if_pos (by omega)]
    ·rw [if_neg c,if_neg (by omega)]
 have loop: ∀q r,r+q=n→Ev (fun k=>impl_Problem_column.l0 k (i:Int) true ((List.range n).map fun u=>if u < r then - en l u i else 0) l (n:Int) r) (rw1 n (fun r=> - en l r i)):=by
  intro q
  induction q with
  | zero=>
   intro r hr
   obtain rfl:r=n:=by omega
   refine evstep (fun k=>by rw [impl_Problem_column.l0]) (evneg (by omega) (evpos rfl (evc ?_)))
   congr 1
   exact List.map_congr_left (fun u hu=>by rw [if_pos (List.mem_range.1 hu)])
  | succ q ih=>
   intro r hr
   have nx:=ih (r+1) (by omega)
   have hrow:=h.row r (by omega)
   have hnum:=h.num r i (by omega) hi
   refine evstep (fun k=>by rw [impl_Problem_column.l0]) ?_
   rw [rdL1]
   refine evpos (by omega) (evpos (by omega) (evpos (by omega) (evpos rfl (evpos (by omega) (evpos (by omega) (evpos (by simp;omega) ?_))))))
   rw [rd_nat,show (l.getD r []).getD i 0=en l r i from rfl,w64 (x:= - en l r i) (by omega) (by omega),Int.toNat_natCast,at_ r (by omega),w64 (x:=(r:Int)+1) (by omega) (by omega)]
   exact nx
 unfold impl_Problem_column.f
 rw [hQ,hl]
 refine evpos (by omega) (evpos (by omega) ?_)
 have:=loop n 0 (by omega)
 rw [show ((List.range n).map fun u=>if u < 0 then - en l u i else 0)=List.replicate ((n:Int)).toNat 0 from by
  apply List.ext_getElem
  ·simp
  ·intro k h1 h2;simp] at this
 exact this
theorem col_f (Q:List Int) (hQ:Q.length=n) (i:Nat) (hi:i < n):Ev (fun k=>impl_Problem_column.f k l Q (i:Int) false) (rw1 n (fun r=>if r=i then 1 else 0)):=by
 have hl:=h.len
 have loop: ∀q r,r+q=n→Ev (fun k=>impl_Problem_column.l0 k (i:Int) false (List.replicate n 0) l (n:Int) r) (rw1 n (fun r=>if r=i then 1 else 0)):=by
  intro q
  induction q with
  | zero=>
   intro r hr
   obtain rfl:r=n:=by omega
   refine evstep (fun k=>by rw [impl_Problem_column.l0]) (evneg (by omega) (evneg (by simp) (evpos (by omega) (evpos (by simp;omega) (evc ?_)))))
   congr 1
   rw [Int.toNat_natCast]
   apply List.ext_getElem
   ·simp [rw1]
   ·intro k h1 h2
    rw [List.getElem_set]
    simp only [rw1,List.getElem_map,List.getElem_range,List.getElem_replicate]
    by_cases e:i=k
    ·subst e;simp
    ·rw [if_neg e,if_neg (Ne.symm e)]
  | succ q ih=>
   intro r hr
   have nx:=ih (r+1) (by omega)
   refine evstep (fun k=>by rw [impl_Problem_column.l0]) (evpos (by omega) (evpos (by omega) (evpos (by omega) (evneg (by simp) ?_))))
   rw [w64 (x:=(r:Int)+1) (by omega) (by omega)]
   exact nx
 unfold impl_Problem_column.f
 rw [hQ,hl]
 refine evpos (by omega) (evpos (by omega) ?_)
 have:=loop n 0 (by omega)
 rw [Int.toNat_natCast]
 exact this
theorem colF_eq (Q:List Int) (hQ:Q.length=n) (i:Nat) (hi:i < n):Ev (fun k=>colF k l Q s i) (rw1 n (fun r=>colM (bB s) (en l) r i)):=by
 unfold colF
 refine evsome (has_eq h hn s i (by omega)) ?_
 cases hb:bB s i with
 | true=>
  have:=col_t h hn Q hQ i hi
  have e:(fun r=>colM (bB s) (en l) r i)=fun r=> - en l r i:=by funext r;unfold colM;rw [if_pos hb]
  rw [e];exact this
 | false=>
  have:=col_f h hn Q hQ i hi
  have e:(fun r=>colM (bB s) (en l) r i)=fun r=>if r=i then 1 else 0:=by funext r;unfold colM;rw [if_neg (by simp [hb])]
  rw [e];exact this
theorem cols_all (Q:List Int) (hQ:Q.length=n): ∃K, ∀k,K≤k→ ∀i,i < n→colF k l Q s i=some (rw1 n (fun r=>colM (bB s) (en l) r i)):=by
 have key: ∀m,m≤n→ ∃K, ∀k,K≤k→ ∀i,i < m→colF k l Q s i=some (rw1 n (fun r=>colM (bB s) (en l) r i)):=by
  intro m
  induction m with
  | zero=>intro _;exact⟨0,fun k _ i hi=>by omega⟩
  | succ m ih=>
   intro hm
   obtain⟨K1,h1⟩:=ih (by omega)
   obtain⟨K2,h2⟩:=colF_eq h hn s Q hQ m (by omega)
   refine⟨K1+K2,fun k hk i hi=>?_⟩
   by_cases e:i=m
   ·subst e;exact h2 k (by omega)
   ·exact h1 k (by omega) i (by omega)
 exact key n (Nat.le_refl _)
end
theorem en_rows (M:Mat) (n a d:Nat) (ha:a < n) (hd:d < n):Hd.en (rowsFrom M n 0) a d=M a d:=by
 unfold Hd.en rowsFrom
 simp [ha,hd]
theorem dO_det {n k:Nat} (hn:n≤5) (M:Mat) (hb:Bk n k M):dO n M=det n M:=by
 unfold dO
 rw [dgo_det hn (k:=k) (Hd.en (rowsFrom M n 0)) (fun i j hi hj=>by rw [en_rows M n i j hi hj];exact hb i j hi hj)]
 exact det_congr (fun i j hi hj=>en_rows M n i j hi hj)
theorem sgn_mul (d x:Int) (hx: -1920000000≤x∧x≤1920000000):wrap64 (sgn d*x)=sgn d*x:=by
 unfold sgn
 split
 ·exact w64 (by omega) (by omega)
 ·split
  ·exact w64 (by omega) (by omega)
  ·exact w64 (by omega) (by omega)
section
variable {n:Nat} {l:List (List Int)} (h:Sq n l) (hn:n≤5) (s:Int)
include h hn
theorem D_b: -1920000000≤det n (colM (bB s) (en l))∧det n (colM (bB s) (en l))≤1920000000:=by
 have h1:=det_abs20 n (colM (bB s) (en l)) (fun i j hi hj=>colM_small h hn s i j hi hj)
 have h2:=b20_le n hn
 omega
end
section
variable {n:Nat} {l:List (List Int)} (h:Sq n l) (hn:n≤5) (s:Int) (x:List Int) (hx: ∀r,r < n→(x.getD r 0).natAbs≤100)
include h hn hx
theorem cset_small (i:Nat):Bk n i (cset i (fun r=>x.getD r 0) (colM (bB s) (en l))):=by
 intro a d ha hd
 unfold cset
 by_cases e:d=i
 ·rw [if_pos e,if_pos e];exact hx a ha
 ·rw [if_neg e,if_neg e];exact colM_small h hn s a d ha hd
theorem dc_b (i:Nat): -1920000000≤dc n (colM (bB s) (en l)) x i∧dc n (colM (bB s) (en l)) x i≤1920000000:=by
 have h1:=det_absk n i _ (cset_small h hn s x hx i)
 have h2:=b20_le n hn
 unfold dc
 omega
def solR (n:Nat) (C:Mat) (x:List Int):List Int × Int × Bool:=if det n C=0 then([],0,false) else((List.range n).map fun i=>sgn (det n C)*dc n C x i,(if det n C < 0 then - det n C else det n C),true)
theorem impl_solve (Q:List Int) (hQ:Q.length=n) (hxl:x.length=n) (hp:0 < n):Ev (fun k=>impl_Problem_solve.f k l Q s x) (solR n (colM (bB s) (en l)) x):=by
 obtain⟨K,hK⟩:=cols_all h hn s Q hQ
 refine⟨K,fun k hk=>?_⟩
 have hc:=hK k hk
 have hL (i:Nat) (hi:i < n):colL k l Q s i=rw1 n (fun r=>colM (bB s) (en l) r i):=by unfold colL;rw [hc i hi];rfl
 have hcM (a d:Nat) (ha:a < n) (hd:d < n):cM (colL k l Q s) n a d=colM (bB s) (en l) a d:=by
  unfold cM
  rw [if_pos hd,hL d hd]
  simp [rw1,ha]
 have hD:dO n (cM (colL k l Q s) n)=det n (colM (bB s) (en l)):=by
  rw [dO_det hn (k:=0) _ (fun i j hi hj=>by rw [hcM i j hi hj];have:=colM_small h hn s i j hi hj;split <;> omega)]
  exact det_congr hcM
 have db:=D_b h hn s
 show impl_Problem_solve.f k l Q s x=_
 unfold impl_Problem_solve.f
 rw [hQ]
 rw [if_pos ⟨hp,by omega,hxl,by
  unfold colOK
  rw [List.all_eq_true]
  intro i hi
  rw [hc i (List.mem_range.1 hi)]
  simp [rw1]⟩]
 rw [hD]
 have e1:impl_sign.f (det n (colM (bB s) (en l)))=some (sgn (det n (colM (bB s) (en l)))):=by
  unfold impl_sign.f sgn
  split
  ·rfl
  ·split <;> rfl
 have e2:impl_size.f (det n (colM (bB s) (en l)))=some (if det n (colM (bB s) (en l)) < 0 then - det n (colM (bB s) (en l)) else det n (colM (bB s) (en l))):=by
  unfold impl_size.f mx
  rw [w64 (x:= - det n (colM (bB s) (en l))) (by omega) (by omega)]
  congr 1
  split <;> split <;> omega
 rw [e1,e2,Option.bind_some,Option.bind_some]
 congr 1
 unfold solR
 by_cases d:det n (colM (bB s) (en l))=0
 ·rw [if_pos d,if_pos d]
 ·rw [if_neg d,if_neg d]
  congr 1
  unfold slL
  refine List.map_congr_left (fun i hi=>?_)
  have hi:=List.mem_range.1 hi
  rw [if_pos hi]
  unfold sl
  have hY (a d:Nat) (ha:a < n) (hd:d < n):pcol (Hd.en (rowsFrom (cM (colL k l Q s) n) n 0)) i x n a d=cset i (fun r=>x.getD r 0) (colM (bB s) (en l)) a d:=by
   unfold pcol cset
   by_cases e:d=i
   ·rw [if_pos ⟨e,ha⟩,if_pos e]
   ·rw [if_neg (fun q=>e q.1),if_neg e,en_rows _ n a d ha hd,hcM a d ha hd]
  rw [dO_det hn (k:=i) _ (fun a d ha hd=>by rw [hY a d ha hd];exact cset_small h hn s x hx i a d ha hd),det_congr hY]
  exact sgn_mul _ _ (dc_b h hn s x hx i)
theorem spec_solve (hxl:x.length=n):Ev (fun k=>spec_l01Solve.f k (mk n n (colM (bB s) (en l))) x) ((List.range n).map (dc n (colM (bB s) (en l)) x),det n (colM (bB s) (en l))):=by
 have hml:=mk_len n n (colM (bB s) (en l))
 have rows: ∀q c,c+q=n→Ev (fun k=>spec_l01Solve.l0 k (mk n n (colM (bB s) (en l))) x ((List.range c).map (dc n (colM (bB s) (en l)) x)) c) ((List.range n).map (dc n (colM (bB s) (en l)) x),det n (colM (bB s) (en l))):=by
  intro q
  induction q with
  | zero=>
   intro c hc
   obtain rfl:c=n:=by omega
   exact evstep (fun k=>by rw [spec_l01Solve.l0]) (evneg (by omega) (evbind (cols_det h hn s) (evc rfl)))
  | succ q ih=>
   intro c hc
   have nx:=ih (c+1) (by omega)
   rw [List.range_succ,List.map_append] at nx
   have build: ∀p r,r+p=n→Ev (fun k=>spec_l01Solve.l1 k (mk n n (colM (bB s) (en l))) x ((List.range c).map (dc n (colM (bB s) (en l)) x)) c (mk r n (cset c (fun r=>x.getD r 0) (colM (bB s) (en l)))) r) ((List.range n).map (dc n (colM (bB s) (en l)) x),det n (colM (bB s) (en l))):=by
    intro p
    induction p with
    | zero=>
     intro r hr
     obtain rfl:r=n:=by omega
     have he (i j:Nat) (hi:i < r) (hj:j < r):en (mk r r (cset c (fun r=>x.getD r 0) (colM (bB s) (en l)))) i j=cset c (fun r=>x.getD r 0) (colM (bB s) (en l)) i j:=mk_en r r _ i j hi hj
     have hd:=Sd.spec_det r (mk r r (cset c (fun r=>x.getD r 0) (colM (bB s) (en l)))) hn (mk_len _ _ _) (mk_rows _ _ _) ⟨c,fun i j hi hj=>by
      show (en (mk r r (cset c (fun r=>x.getD r 0) (colM (bB s) (en l)))) i j).natAbs≤_
      rw [he i j hi hj];exact cset_small h hn s x hx c i j hi hj⟩
     have e:det r (Sd.en (mk r r (cset c (fun r=>x.getD r 0) (colM (bB s) (en l)))))=dc r (colM (bB s) (en l)) x c:=det_congr he
     rw [e] at hd
     refine evstep (fun k=>by rw [spec_l01Solve.l1]) (evneg (by omega) (evbind hd ?_))
     refine evpos (by rw [List.length_map,List.length_range];omega) ?_
     rw [w64 (x:=(c:Int)+1) (by omega) (by omega)]
     exact nx
    | succ p ihp=>
     intro r hr
     have nx2:=ihp (r+1) (by omega)
     rw [mk_succ] at nx2
     refine evstep (fun k=>by rw [spec_l01Solve.l1]) ?_
     rw [rdL1,mk_row n n _ r (by omega)]
     refine evpos (by omega) (evpos (by omega) (evsome (Sd.own_eq _ (by rw [rw1_len];omega)) (evpos (by omega) (evpos (by omega) (evpos (by rw [rw1_len];omega) (evpos (by rw [mk_len];omega) ?_))))))
     rw [rd_nat,Int.toNat_natCast,w64 (x:=(r:Int)+1) (by omega) (by omega),show (rw1 n (colM (bB s) (en l) r)).set c (x.getD r 0)=rw1 n (cset c (fun r=>x.getD r 0) (colM (bB s) (en l)) r) from by
      apply List.ext_getElem
      ·simp [rw1]
      ·intro k h1 h2
       rw [List.getElem_set]
       simp only [rw1,List.getElem_map,List.getElem_range,cset]
       by_cases e:c=k
       ·subst e;simp
       ·rw [if_neg e,if_neg (Ne.symm e)]]
     exact nx2
   refine evstep (fun k=>by rw [spec_l01Solve.l0]) (evpos (by omega) ?_)
   exact build n 0 (by omega)
 exact rows n 0 (by omega)
end
end Go.Proofs.Ytbjljcpngbhkeaa.Sv
end
section
namespace Go.Proofs.Ytbjljcpngbhkeaa.Pr
open Go.RowKit Go.Proofs.YtbjljcpngbhkeaaW.PrintWords Go.Proofs.YtbjljcpngbhkeaaW.PrintLast Go.Proofs.YtbjljcpngbhkeaaW.PrintMore
attribute [local go_sem] max2_int min2_int max_two min_two max_three min_three max_four min_four
def impl_Problem_point.f (k:Nat) (af:List (List Int)) (ae:List Int) (a1:Int):Option (List Int × Int × Bool):=(impl_Problem_solve.f k af ae a1 ae).bind fun aa=>(some (aa.1,aa.2.1,aa.2.2))
theorem impl_Problem_point.mono: ∀a0 a1 a2 k,LeO (impl_Problem_point.f k a0 a1 a2) (impl_Problem_point.f (k+1) a0 a1 a2):=by
 intro a0 a1 a2 k
 unfold impl_Problem_point.f
 repeat' first | (with_reducible first | exact impl_Problem_solve.mono _ _ _ _ _ | exact LeO.refl _ | exact LeO.none _ | refine LeO.ite ?_ ?_ | refine LeO.bind ?_ (fun _=>?_)) | exact impl_Problem_solve.mono _ _ _ _ _ | exact LeO.none _ | refine LeO.ite ?_ ?_ | refine LeO.bind ?_ (fun _=>?_)
theorem impl_Problem_point.calls (k:Nat) (aj:Option Addr) (ak:Nat) (ae:List (List Int)) (ag:Option Addr) (ah:Nat) (aa:List Int) (a1:Int) (r1:List Int) (r2:Int) (r3:Bool) (w:World) (au:Kd.C (Kd.slice 2 (Kd.int .i64)) w aj ae.length ae) (av:ae.length≤ak) (aw:Kd.C (Kd.int .i64) w ag aa.length aa) (ax:aa.length≤ah) (h:impl_Problem_point.f k ae aa a1=some (r1,r2,r3)):
  Calls Try.prog 79 #[.agg #[.slice aj ae.length ak, .slice ag aa.length ah], .int .i64 a1] w fun e w'=> ∃v0_:Value,e= .returned (.tuple #[v0_, .int .i64 r2, .bool r3])∧Kd.R (Kd.int .i64) 2 w' w.heap.size (fun _=>True) v0_ r1∧Below w.heap.size w w':=by
 have hu27:=Try.underlying27;have HR0_0:=q_ au;have HC0_0:=q_ av;clear au av;have HR0_1:=q_ aw;have HC0_1:=q_ ax;clear aw ax;have HB:=q_ (Below.refl w.heap.size w);have H:((impl_Problem_solve.f k ae aa a1 aa).bind fun aq=>(some (aq.1,aq.2.1,aq.2.2)))=some (r1,r2,r3):=h;clear h;replace H:=Option.bind_eq_some_iff.mp H;obtain⟨⟨ay,az,aA⟩,A30,H⟩:=H;replace H:(some (ay,az,aA))=some (r1,r2,r3):=H;have A3:=q_ A30;clear A30;simp only [Option.some.injEq,Prod.mk.injEq] at H;obtain⟨rfl,rfl,rfl⟩:=H
 go_enter Try.func79,Try.ntmps79
 go_wp2_with (first | ((with_reducible refine gate_dst (N:=2) rfl ?_);refine be_ 2 #[.slice aj ae.length ak, .slice ag aa.length ah] 27 ?_;intro ai hg w4 hbox hb;have af:=q_ (hbox);have aU:=q_ ((by rw [hg];exact bz_:w.heap.size≤ai));have aV:=q_ ((by rw [hg];exact bz_:w.heap.size≤ai));replace HB:=q_ (bs_ hb);clear hb hbox hg;have aM:=cz_ af 0;have aN:=cz_ af 1;have aQ:=blk_frozen af.out 0;have aT:=blk_frozen af.out 1) | ((with_reducible refine gate_callee (f:=93) rfl ?_);refine gL_ 11 Try.func93 #[.agg #[.slice aj ae.length ak, .slice ag aa.length ah], .int .i64 a1, .slice ag aa.length ah] ?_;(with_reducible refine(impl_Problem_solve.calls k _ _ ae _ _ aa a1 _ _ aa ay az aA _ ?aC ?aD ?aG ?aH ?aI ?aJ A3.out).mono ?_);(case aC=>exact cb_ HR0_0.out HB.out);(case aD=>exact HC0_0.out);(case aG=>exact cb_ HR0_1.out HB.out);(case aH=>exact HC0_1.out);(case aI=>exact cb_ HR0_1.out HB.out);(case aJ=>exact HC0_1.out);rintro e w6 ⟨aW,rfl,ho0,hb⟩;refine⟨_,rfl,?_⟩;have aK:=q_ (Kd.R_lower ho0 bz_);replace af:=q_ (bb_ af.out hb);replace HB:=q_ (bs_ hb);(try clear hb);(try clear ho0)))
 go_ret3
 exact⟨_,by first | rfl | (simp [errW_none,errW_some] <;> rfl) | (simp [*,errW_none,errW_some] <;> rfl),ro_ aK.out,hb_⟩
end Go.Proofs.Ytbjljcpngbhkeaa.Pr
end
section
namespace Go.Proofs.Ytbjljcpngbhkeaa.Hput
open Go.RowKit Go.Proofs.YtbjljcpngbhkeaaW.PrintWords Go.Proofs.YtbjljcpngbhkeaaW.PrintLast Go.Proofs.YtbjljcpngbhkeaaW.PrintMore Go.Proofs.Ytbjljcpngbhkeaa.Pr Go.Proofs.Ytbjljcpngbhkeaa.La Go.Proofs.Ytbjljcpngbhkeaa.Ma Go.Proofs.Ytbjljcpngbhkeaa.Hm
section
variable {w0:World} {ok:Nat→Prop}
theorem put_row {g cap:Nat} {w:World} {l:List (List Int)} (hB:Below w0.heap.size w0 w) (h:SS w0 w ok (.slice (some ⟨g,0,none⟩) l.length cap) l) (j:Nat) (hj:j < l.length) (i:Nat) (hi:i < l[j].length):
  ∃(b cj:Nat),w.cell? ⟨g,j,none⟩=some (.slice (some ⟨b,0,none⟩) l[j].length cj)∧w.cell? ⟨b,i,none⟩=some (.int .i64 (l[j].getD i 0))∧w.frozen? ⟨b,i,none⟩=false∧
   ∀x:Int,SS w0 (w.setCell ⟨b,i,none⟩ (.int .i64 x)) ok (.slice (some ⟨g,0,none⟩) l.length cap) (l.set j (l[j].set i x))∧Below w0.heap.size w0 (w.setCell ⟨b,i,none⟩ (.int .i64 x))∧Kept w (w.setCell ⟨b,i,none⟩ (.int .i64 x)) ok:=by
 obtain⟨oki,c,hcl,hM,hcc,hoki,hback⟩:=Kd.S_borrow h [] (j:Int) (by omega) (by omega)
 rw [Int.toNat_natCast,List.getD_eq_getElem?_getD,List.getElem?_eq_getElem hj] at hM
 obtain⟨u,rfl,hR⟩:=hM
 have hR2:Kd.R (Kd.int .i64) 2 w w0.heap.size oki u l[j]:=hR
 obtain⟨b,cj,rfl,hb1,hb2,cells,hbc⟩:=Kd.R_form hR2 (by omega)
 have e:(⟨g,0,none⟩:Addr).add ((j:Int).toNat*(Kd.slice 2 (Kd.int .i64)).sz+0)=⟨g,j,none⟩:=by
  show (⟨g,0,none⟩:Addr).add ((j:Int).toNat*1+0)=⟨g,j,none⟩
  rw [Int.toNat_natCast,Nat.mul_one,Nat.add_zero]
  unfold Addr.add;split <;> simp_all
 have hcellg:w.cell? ⟨g,j,none⟩=some (.slice (some ⟨b,0,none⟩) l[j].length cj):=by
  have:=hcc 0 _ rfl
  rwa [e] at this
 have hat:=Kd.R_celln 0 hR2 (i:Int) (by omega) (by omega)
 rw [Int.toNat_natCast] at hat
 have hown:oki b:=hR2.1 b (by simp [Value.ownBlock])
 refine⟨b,cj,hcellg,by simpa [rdOf] using hat.1,hat.2,fun x=>?_⟩
 have hput:=Kd.R_putg hR2 (i:Int) x
 rw [Int.toNat_natCast] at hput
 have hS:=hback hput.2 (fun k hk=>by injection hk with hk;subst hk;exact hown) (x':=l[j].set i x) ⟨_,rfl,(show Kd.R (Kd.int .i64) 2 _ _ _ _ _ from hput.1)⟩
 rw [Int.toNat_natCast] at hS
 refine⟨hS,hB.setCell hb1 _,?_⟩
 exact(Kept.refl w ok).setCell (.inl (hoki b hown).1) _
end
end Go.Proofs.Ytbjljcpngbhkeaa.Hput
end
section
namespace Go.Proofs.Ytbjljcpngbhkeaa.Lw
open Go.RowKit Go.Proofs.YtbjljcpngbhkeaaW.PrintWords Go.Proofs.YtbjljcpngbhkeaaW.PrintLast Go.Proofs.YtbjljcpngbhkeaaW.PrintMore Go.Proofs.Ytbjljcpngbhkeaa.Pr Go.Proofs.Ytbjljcpngbhkeaa.Ma
structure Frm (w w':World) (a b:Nat):Prop where
 size:w.heap.size≤w'.heap.size
 same: ∀k,k < w.heap.size→k < a∨b≤k→w'.heap[k]?=w.heap[k]?
theorem Frm.below {w w':World} (h:Below w.heap.size w w'):Frm w w' 0 0:=⟨h.size,fun k hk _=>h.block k hk⟩
theorem Frm.set (w:World) (g i:Nat) (u:Value):Frm w (w.setCell ⟨g,i,none⟩ u) g (g+1):=
 ⟨by simp,fun k _ hk=>Below.heap_setCell w ⟨g,i,none⟩ u k (by simp;omega)⟩
theorem Frm.trans {w w1 w2:World} {a b:Nat} (h:Frm w w1 a b) (k:Frm w1 w2 a b):Frm w w2 a b:=
 ⟨Nat.le_trans h.size k.size,fun i hi hn=>(k.same i (Nat.lt_of_lt_of_le hi h.size) hn).trans (h.same i hi hn)⟩
theorem Frm.kept {w w':World} {ok:Nat→Prop} {a b:Nat} (h:Kept w w' ok) (hok: ∀k,ok k→a≤k∧k < b):Frm w w' a b:=
 ⟨h.1,fun k hk hn=>h.2 k hk (fun ho=>by have:=hok k ho;omega)⟩
section
variable {α:Type} {d:Kd α} {e lo hi a b:Nat} {w0 w w':World} {v v1:Value} {xs:List α}
def UR (d:Kd α) (e:Nat) (w0 w:World) (lo hi:Nat) (v:Value) (xs:List α):Prop:=d.R e w w0.heap.size (fun k=>lo≤k∧k < hi) v xs
def US (d:Kd α) (e:Nat) (w0 w:World) (lo hi:Nat) (v:Value) (xs:List α):Prop:=d.S e w w0.heap.size (fun k=>lo≤k∧k < hi) v xs
theorem UR.mv (h:UR d e w0 w lo hi v xs) (F:Frm w w' a b) (hd:hi≤a∨b≤lo):UR d e w0 w' lo hi v xs:=Kd.R_step h (fun k hk hlt=>F.same k hlt (by omega))
theorem US.mv (h:US d e w0 w lo hi v xs) (F:Frm w w' a b) (hd:hi≤a∨b≤lo):US d e w0 w' lo hi v xs:=Kd.S_step h (fun k hk hlt=>F.same k hlt (by omega))
theorem UR.mvB (h:UR d e w0 w lo hi v xs) (F:Frm w w' 0 0):UR d e w0 w' lo hi v xs:=h.mv F (.inr (Nat.zero_le _))
theorem US.mvB (h:US d e w0 w lo hi v xs) (F:Frm w w' 0 0):US d e w0 w' lo hi v xs:=h.mv F (.inr (Nat.zero_le _))
theorem UR.of {ok:Nat→Prop} (h:d.R e w' w.heap.size ok v xs) (hb:w0.heap.size≤w.heap.size):UR d e w0 w' w.heap.size w'.heap.size v xs:=
 Kd.R_lower (Kd.R_mono (Kd.R_bound h) (fun k hk=>⟨hk.2.1,hk.2.2.1⟩)) hb
theorem US.of {ok:Nat→Prop} (h:d.S e w' w.heap.size ok v xs) (hb:w0.heap.size≤w.heap.size):US d e w0 w' w.heap.size w'.heap.size v xs:=
 Kd.S_lower (Kd.S_mono (Kd.S_bound h) (fun k hk=>⟨hk.2.1,hk.2.2.1⟩)) hb
theorem UR.C {A:Option Addr} {n c:Nat} (h:UR d e w0 w lo hi (.slice A n c) xs):d.C w A xs.length xs:=(Kd.R_reads' h).2.2
theorem UR.len {A:Option Addr} {n c:Nat} (h:UR d e w0 w lo hi (.slice A n c) xs):n=xs.length:=(Kd.R_reads' h).1
theorem UR.cap {A:Option Addr} {n c:Nat} (h:UR d e w0 w lo hi (.slice A n c) xs):xs.length≤c:=(Kd.R_reads' h).1 ▸ (Kd.R_reads' h).2.1
theorem US.C {A:Option Addr} {n c:Nat} (h:US d e w0 w lo hi (.slice A n c) xs):d.C w A xs.length xs:=(Kd.S_reads' h).2.2
theorem US.cap {A:Option Addr} {n c:Nat} (h:US d e w0 w lo hi (.slice A n c) xs):xs.length≤c:=(Kd.S_reads' h).1 ▸ (Kd.S_reads' h).2.1
end
structure UP (w0 w:World) (lo hi:Nat) (v0 v1:Value) (M:List (List Int)) (Q:List Int):Prop where
 m:Kd.S (Kd.slice 2 (Kd.int .i64)) 25 w w0.heap.size (fun k=>(lo≤k∧k < hi)∧some k≠v1.ownBlock) v0 M
 q:Kd.R (Kd.int .i64) 2 w w0.heap.size (fun k=>lo≤k∧k < hi) v1 Q
section
variable {lo hi a b:Nat} {w0 w w':World} {v0 v1:Value} {M:List (List Int)} {Q:List Int}
theorem UP.mv (h:UP w0 w lo hi v0 v1 M Q) (F:Frm w w' a b) (hd:hi≤a∨b≤lo):UP w0 w' lo hi v0 v1 M Q:=
 ⟨Kd.S_step h.m (fun k hk hlt=>F.same k hlt (by have:=hk.1;omega)),Kd.R_step h.q (fun k hk hlt=>F.same k hlt (by omega))⟩
theorem UP.mvB (h:UP w0 w lo hi v0 v1 M Q) (F:Frm w w' 0 0):UP w0 w' lo hi v0 v1 M Q:=h.mv F (.inr (Nat.zero_le _))
theorem UP.of {ok:Nat→Prop} (h:Kd.S (Kd.slice 2 (Kd.int .i64)) 25 w' w.heap.size (fun k=>some k≠v1.ownBlock) v0 M) (h':Kd.R (Kd.int .i64) 2 w' w.heap.size ok v1 Q) (hb:w0.heap.size≤w.heap.size):UP w0 w' w.heap.size w'.heap.size v0 v1 M Q:=
 ⟨Kd.S_lower (Kd.S_mono (Kd.S_bound h) (fun k hk=>⟨⟨hk.2.1,hk.2.2.1⟩,hk.1⟩)) hb,UR.of h' hb⟩
theorem UP.slices (h:UP w0 w lo hi v0 v1 M Q): ∃A0 c0 A1 c1,v0= .slice A0 M.length c0∧v1= .slice A1 Q.length c1:=by
 obtain⟨A0,c0,e0⟩:=Kd.S_slice h.m
 obtain⟨A1,c1,e1⟩:=Kd.R_slice h.q
 exact⟨A0,c0,A1,c1,e0,e1⟩
variable {A0 A1:Option Addr} {n0 c0 n1 c1:Nat}
theorem UP.C0 (h:UP w0 w lo hi (.slice A0 n0 c0) v1 M Q):Kd.C (Kd.slice 2 (Kd.int .i64)) w A0 M.length M:=(Kd.S_reads' h.m).2.2
theorem UP.C1 (h:UP w0 w lo hi v0 (.slice A1 n1 c1) M Q):Kd.C (Kd.int .i64) w A1 Q.length Q:=(Kd.R_reads' h.q).2.2
theorem UP.cap0 (h:UP w0 w lo hi (.slice A0 n0 c0) v1 M Q):M.length≤c0:=(Kd.S_reads' h.m).1 ▸ (Kd.S_reads' h.m).2.1
theorem UP.cap1 (h:UP w0 w lo hi v0 (.slice A1 n1 c1) M Q):Q.length≤c1:=(Kd.R_reads' h.q).1 ▸ (Kd.R_reads' h.q).2.1
end
end Go.Proofs.Ytbjljcpngbhkeaa.Lw
end
