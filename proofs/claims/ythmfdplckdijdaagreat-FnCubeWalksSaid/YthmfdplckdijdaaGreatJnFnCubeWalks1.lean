/- Texts of one claim (the words of the kit's print that the claim uses, printed functions, and this session's own texts), joined in the order of their imports by this session's own program (merge.py). -/
import Derived.WalkLawsBesides
import Derived.Test.YthmfdplckdijdaaGreatJnFnCubeWalks0
set_option linter.unusedVariables false
set_option linter.unusedSimpArgs false
set_option maxHeartbeats 8000000
set_option maxRecDepth 100000
section
namespace Go.Proofs.YthmfdplckdijdaaGreat.Pr
open Go.RowKit Go.Proofs.YthmfdplckdijdaaGreatW.PrintWords Go.Proofs.YthmfdplckdijdaaGreatW.PrintLast Go.Proofs.YthmfdplckdijdaaGreatW.PrintMore
attribute [local go_sem] max2_int min2_int max_two min_two max_three min_three max_four min_four
def spec_l06Code.l0:Nat→List Int→Int→Int→List Int→Option (Int)
 | 0,_,_,_,_=>none
 | k+1,x1,x5,ae,aa=>if x5 < (x1.length:Int) then(if 0≤x5 then((spec_l01In.f (rd x1 x5) 0 (wrap64 ((aa.length:Int) - 1))).bind fun af=>(if af=true then(spec_l06Code.l0 k x1 (wrap64 (x5+1)) ae aa) else(some 2))) else(none)) else(some 0)
def spec_l06Code.f (k:Nat) (a0_0:Int) (aa:List Int) (l1:List Int):Option (Int):=(spec_l06Is.f k a0_0 aa).bind fun ae=>(if ae=true then(spec_l06Code.l0 k l1 0 a0_0 aa) else(some 1))
theorem spec_l06Code.mono_l: ∀k,(∀y0 y1 y2 y3,LeO (spec_l06Code.l0 k y0 y1 y2 y3) (spec_l06Code.l0 (k+1) y0 y1 y2 y3))
 | 0=>fun _ _ _ _ r h=>by simp [spec_l06Code.l0] at h
 | k+1=>by
  have ih0:=spec_l06Code.mono_l k
  intros;unfold spec_l06Code.l0;repeat' first | (with_reducible first | exact ih0 _ _ _ _ | exact spec_l06Is.mono _ _ _ | exact LeO.refl _ | exact LeO.none _ | refine LeO.ite ?_ ?_ | refine LeO.bind ?_ (fun _=>?_)) | exact ih0 _ _ _ _ | exact spec_l06Is.mono _ _ _ | exact LeO.none _ | refine LeO.ite ?_ ?_ | refine LeO.bind ?_ (fun _=>?_)
theorem spec_l06Code.mono: ∀a0 a1 a2 k,LeO (spec_l06Code.f k a0 a1 a2) (spec_l06Code.f (k+1) a0 a1 a2):=by
 intro a0 a1 a2 k
 have ih0:=spec_l06Code.mono_l k
 unfold spec_l06Code.f
 repeat' first | (with_reducible first | exact ih0 _ _ _ _ | exact spec_l06Is.mono _ _ _ | exact LeO.refl _ | exact LeO.none _ | refine LeO.ite ?_ ?_ | refine LeO.bind ?_ (fun _=>?_)) | exact ih0 _ _ _ _ | exact spec_l06Is.mono _ _ _ | exact LeO.none _ | refine LeO.ite ?_ ?_ | refine LeO.bind ?_ (fun _=>?_)
theorem spec_l06Code.calls (k:Nat) (a0_0:Int) (ah:Option Addr) (ai:Nat) (af:List Int) (A1:Option Addr) (c1:Nat) (l1:List Int) (r:Int) (w:World) (aH:Kd.C (Kd.int .i64) w ah af.length af) (aI:af.length≤ai) (hr1:Kd.C (Kd.int .i64) w A1 l1.length l1) (hc1:l1.length≤c1) (h:spec_l06Code.f k a0_0 af l1=some r):
  Calls Tryz.prog 42 #[.agg #[.int .i64 a0_0, .slice ah af.length ai], .slice A1 l1.length c1] w fun e w'=>e= .returned (.int .i64 r)∧Below w.heap.size w w':=by
 have hu26:=Tryz.underlying26;have HR0_1:=q_ aH;have HC0_1:=q_ aI;clear aH aI;have HR1:=q_ hr1;have HC1:=q_ hc1;clear hr1 hc1;have HB:=q_ (Below.refl w.heap.size w);have H:((spec_l06Is.f k a0_0 af).bind fun aG=>(if aG=true then(spec_l06Code.l0 k l1 0 a0_0 af) else(some 1)))=some r:=h;clear h;replace H:=Option.bind_eq_some_iff.mp H;obtain⟨aG,A30,H⟩:=H;replace H:(if aG=true then(spec_l06Code.l0 k l1 0 a0_0 af) else(some 1))=some r:=H;have A3:=q_ A30;clear A30
 by_cases c4:aG=true
 ·subst c4;have H1:(spec_l06Code.l0 k l1 0 a0_0 af)=some r:=by rw [if_pos rfl] at H;exact H
  clear H;have H:=H1;clear H1;have H':=q_ H;clear H
  go_enter Tryz.func42,Tryz.ntmps42
  go_wp2_with (first | ((with_reducible refine gate_dst (N:=2) rfl ?_);refine be_ 2 #[.int .i64 a0_0, .slice ah af.length ai] 26 ?_;intro ae hg w5 hbox hb;have aa:=q_ (hbox);have aq:=q_ ((by rw [hg];exact bz_:w.heap.size≤ae));have au:=q_ ((by rw [hg];exact bz_:w.heap.size≤ae));replace HB:=q_ (bs_ hb);clear hb hbox hg;have av:=cz_ aa 0;have aw:=cz_ aa 1;have ax:=blk_frozen aa.out 0;have ay:=blk_frozen aa.out 1) | (go_at_call 52;(with_reducible refine(spec_l06Is.calls k a0_0 _ _ af true _ ?aj ?ak A3.out).mono ?_);(case aj=>exact cb_ HR0_1.out HB.out);(case ak=>exact HC0_1.out);rintro e w7 ⟨rfl,hb⟩;replace aa:=q_ (bb_ aa.out hb);replace HB:=q_ (bs_ hb);(try clear hb)))
  repeat (go_quiet (first | ((with_reducible refine gate_dst (N:=2) rfl ?_);refine be_ 2 #[.int .i64 a0_0, .slice ah af.length ai] 26 ?_;intro ae hg w5 hbox hb;have aa:=q_ (hbox);have aq:=q_ ((by rw [hg];exact bz_:w.heap.size≤ae));have au:=q_ ((by rw [hg];exact bz_:w.heap.size≤ae));replace HB:=q_ (bs_ hb);clear hb hbox hg;have av:=cz_ aa 0;have aw:=cz_ aa 1;have ax:=blk_frozen aa.out 0;have ay:=blk_frozen aa.out 1) | (go_at_call 52;(with_reducible refine(spec_l06Is.calls k a0_0 _ _ af true _ ?aj ?ak A3.out).mono ?_);(case aj=>exact cb_ HR0_1.out HB.out);(case ak=>exact HC0_1.out);rintro e w7 ⟨rfl,hb⟩;replace aa:=q_ (bb_ aa.out hb);replace HB:=q_ (bs_ hb);(try clear hb)));try go_wp2_with (first | ((with_reducible refine gate_dst (N:=2) rfl ?_);refine be_ 2 #[.int .i64 a0_0, .slice ah af.length ai] 26 ?_;intro ae hg w5 hbox hb;have aa:=q_ (hbox);have aq:=q_ ((by rw [hg];exact bz_:w.heap.size≤ae));have au:=q_ ((by rw [hg];exact bz_:w.heap.size≤ae));replace HB:=q_ (bs_ hb);clear hb hbox hg;have av:=cz_ aa 0;have aw:=cz_ aa 1;have ax:=blk_frozen aa.out 0;have ay:=blk_frozen aa.out 1) | (go_at_call 52;(with_reducible refine(spec_l06Is.calls k a0_0 _ _ af true _ ?aj ?ak A3.out).mono ?_);(case aj=>exact cb_ HR0_1.out HB.out);(case ak=>exact HC0_1.out);rintro e w7 ⟨rfl,hb⟩;replace aa:=q_ (bb_ aa.out hb);replace HB:=q_ (bs_ hb);(try clear hb))))
  go_loopg [5] k (fun kq v5 w'=> ∃(ag:Int),v5= .int .i64 ag∧Aside0 (spec_l06Code.l0 kq l1 ag a0_0 af=some r)∧Aside0 (kq≤k)∧Aside0 (w'.heap[ae]?=some (.cells #[.int .i64 a0_0,(.slice ah af.length ai)] 26 (0,0)))∧Aside0 (Below w.heap.size w w'))
  case atStart=>exact⟨(0),rs_,H',⟨Nat.le_refl _⟩,⟨bk_⟩,⟨hb_⟩⟩
  case round=>
   clear H';(try clear c1);(try clear c4);(try clear av);(try clear aw);(try clear ax);(try clear ay);obtain⟨ag,rfl,HA,HK1,aa,HB⟩:=hrel;cases gk with
   | zero=>exact absurd HA.out (by simp [spec_l06Code.l0])
   | succ k1=>
    have H:=HA.out;clear HA;simp only [spec_l06Code.l0] at H
    by_cases c8:ag < (l1.length:Int)
    ·rw [if_pos c8] at H;have c8b0:=decide_eq_true c8;clear c8
     by_cases c9:0≤ag
     ·rw [if_pos c9] at H;have c9b0:=decide_eq_true c9;clear c9;replace H:=Option.bind_eq_some_iff.mp H;obtain⟨aJ,A100,H⟩:=H;replace H:(if aJ=true then(spec_l06Code.l0 k1 l1 (wrap64 (ag+1)) a0_0 af) else(some 2))=some r:=H;have A10:=q_ A100;clear A100
      by_cases c11:aJ=true
      ·subst c11;have H1:(spec_l06Code.l0 k1 l1 (wrap64 (ag+1)) a0_0 af)=some r:=by rw [if_pos rfl] at H;exact H
       clear H;have H:=H1;clear H1;have H':=q_ H;clear H;have p244:0≤(ag:Int):=od_;have q244:ag < (l1.length:Int):=od_;obtain⟨aK,e244,hx244_0⟩:=Kd.at_int HR1.out ag p244 q244;cases e244
       replace hx244_0:=(HB.out.cell (World.block_lt_of_cell? w _ hx244_0)).trans hx244_0;replace p244:=eq_true p244;replace q244:=eq_true q244;have aM:=cz_ aa 0;have aN:=cz_ aa 1;have aQ:=blk_frozen aa.out 0;have aT:=blk_frozen aa.out 1
       go_wp2_with (first | (go_at_call 43;(with_reducible refine(spec_l01In.calls (rd l1 ag) 0 (wrap64 ((af.length:Int) - 1)) true _ A10.out).mono ?_);rintro e w' ⟨rfl,⟨nd,rfl⟩⟩;(try first | exact⟨rfl,_,World.drewN_drewN _ _ _⟩ | exact⟨rfl,_,Eq.trans (World.drewN_drewN _ _ _) (congrArg (World.drewN _) (Nat.add_assoc _ _ _))⟩)))
       repeat (go_quiet (first | (go_at_call 43;(with_reducible refine(spec_l01In.calls (rd l1 ag) 0 (wrap64 ((af.length:Int) - 1)) true _ A10.out).mono ?_);rintro e w' ⟨rfl,⟨nd,rfl⟩⟩;(try first | exact⟨rfl,_,World.drewN_drewN _ _ _⟩ | exact⟨rfl,_,Eq.trans (World.drewN_drewN _ _ _) (congrArg (World.drewN _) (Nat.add_assoc _ _ _))⟩)));try go_wp2_with (first | (go_at_call 43;(with_reducible refine(spec_l01In.calls (rd l1 ag) 0 (wrap64 ((af.length:Int) - 1)) true _ A10.out).mono ?_);rintro e w' ⟨rfl,⟨nd,rfl⟩⟩;(try first | exact⟨rfl,_,World.drewN_drewN _ _ _⟩ | exact⟨rfl,_,Eq.trans (World.drewN_drewN _ _ _) (congrArg (World.drewN _) (Nat.add_assoc _ _ _))⟩))))
       go_roundg k1
       case measure=>have:=HK1.out;omega
       case rel=>exact⟨(wrap64 (ag+1)),rs_,H',⟨by have:=HK1.out;omega⟩,⟨bk_⟩,⟨hb_⟩⟩
      ·replace c11:=Bool.eq_false_iff.mpr c11;subst c11;have H1:(some 2)=some r:=by rw [if_neg (show ¬ (false=true) by decide)] at H;exact H
       clear H;have H:=H1;clear H1;obtain rfl:=Option.some.inj H;have p244:0≤(ag:Int):=od_;have q244:ag < (l1.length:Int):=od_;obtain⟨aK,e244,hx244_0⟩:=Kd.at_int HR1.out ag p244 q244;cases e244
       replace hx244_0:=(HB.out.cell (World.block_lt_of_cell? w _ hx244_0)).trans hx244_0;replace p244:=eq_true p244;replace q244:=eq_true q244;have aU:=cz_ aa 0;have aV:=cz_ aa 1;have aW:=blk_frozen aa.out 0;have aX:=blk_frozen aa.out 1
       go_wp2_with (first | (go_at_call 43;(with_reducible refine(spec_l01In.calls (rd l1 ag) 0 (wrap64 ((af.length:Int) - 1)) false _ A10.out).mono ?_);rintro e w' ⟨rfl,⟨nd,rfl⟩⟩;(try first | exact⟨rfl,_,World.drewN_drewN _ _ _⟩ | exact⟨rfl,_,Eq.trans (World.drewN_drewN _ _ _) (congrArg (World.drewN _) (Nat.add_assoc _ _ _))⟩)))
       repeat (go_quiet (first | (go_at_call 43;(with_reducible refine(spec_l01In.calls (rd l1 ag) 0 (wrap64 ((af.length:Int) - 1)) false _ A10.out).mono ?_);rintro e w' ⟨rfl,⟨nd,rfl⟩⟩;(try first | exact⟨rfl,_,World.drewN_drewN _ _ _⟩ | exact⟨rfl,_,Eq.trans (World.drewN_drewN _ _ _) (congrArg (World.drewN _) (Nat.add_assoc _ _ _))⟩)));try go_wp2_with (first | (go_at_call 43;(with_reducible refine(spec_l01In.calls (rd l1 ag) 0 (wrap64 ((af.length:Int) - 1)) false _ A10.out).mono ?_);rintro e w' ⟨rfl,⟨nd,rfl⟩⟩;(try first | exact⟨rfl,_,World.drewN_drewN _ _ _⟩ | exact⟨rfl,_,Eq.trans (World.drewN_drewN _ _ _) (congrArg (World.drewN _) (Nat.add_assoc _ _ _))⟩))))
       go_ret
       exact⟨by first | rfl | (simp [errW_none,errW_some] <;> rfl) | (simp [*,errW_none,errW_some] <;> rfl),hb_⟩
     ·rw [if_neg c9] at H;exact absurd H (by simp)
    ·rw [if_neg c8] at H;have c8b0:=decide_eq_false c8;clear c8;obtain rfl:=Option.some.inj H;go_wp2
     repeat (go_quiet (fail);try go_wp2)
     go_ret
     exact⟨by first | rfl | (simp [errW_none,errW_some] <;> rfl) | (simp [*,errW_none,errW_some] <;> rfl),hb_⟩
 ·replace c4:=Bool.eq_false_iff.mpr c4;subst c4;have H1:(some 1)=some r:=by rw [if_neg (show ¬ (false=true) by decide)] at H;exact H
  clear H;have H:=H1;clear H1;obtain rfl:=Option.some.inj H
  go_enter Tryz.func42,Tryz.ntmps42
  go_wp2_with (first | ((with_reducible refine gate_dst (N:=2) rfl ?_);refine be_ 2 #[.int .i64 a0_0, .slice ah af.length ai] 26 ?_;intro ae hg w14 hbox hb;have aa:=q_ (hbox);have aq:=q_ ((by rw [hg];exact bz_:w.heap.size≤ae));have au:=q_ ((by rw [hg];exact bz_:w.heap.size≤ae));replace HB:=q_ (bs_ hb);clear hb hbox hg;have az:=cz_ aa 0;have aA:=cz_ aa 1;have aC:=blk_frozen aa.out 0;have aD:=blk_frozen aa.out 1) | (go_at_call 52;(with_reducible refine(spec_l06Is.calls k a0_0 _ _ af false _ ?aj ?ak A3.out).mono ?_);(case aj=>exact cb_ HR0_1.out HB.out);(case ak=>exact HC0_1.out);rintro e w16 ⟨rfl,hb⟩;replace aa:=q_ (bb_ aa.out hb);replace HB:=q_ (bs_ hb);(try clear hb)))
  repeat (go_quiet (first | ((with_reducible refine gate_dst (N:=2) rfl ?_);refine be_ 2 #[.int .i64 a0_0, .slice ah af.length ai] 26 ?_;intro ae hg w14 hbox hb;have aa:=q_ (hbox);have aq:=q_ ((by rw [hg];exact bz_:w.heap.size≤ae));have au:=q_ ((by rw [hg];exact bz_:w.heap.size≤ae));replace HB:=q_ (bs_ hb);clear hb hbox hg;have az:=cz_ aa 0;have aA:=cz_ aa 1;have aC:=blk_frozen aa.out 0;have aD:=blk_frozen aa.out 1) | (go_at_call 52;(with_reducible refine(spec_l06Is.calls k a0_0 _ _ af false _ ?aj ?ak A3.out).mono ?_);(case aj=>exact cb_ HR0_1.out HB.out);(case ak=>exact HC0_1.out);rintro e w16 ⟨rfl,hb⟩;replace aa:=q_ (bb_ aa.out hb);replace HB:=q_ (bs_ hb);(try clear hb)));try go_wp2_with (first | ((with_reducible refine gate_dst (N:=2) rfl ?_);refine be_ 2 #[.int .i64 a0_0, .slice ah af.length ai] 26 ?_;intro ae hg w14 hbox hb;have aa:=q_ (hbox);have aq:=q_ ((by rw [hg];exact bz_:w.heap.size≤ae));have au:=q_ ((by rw [hg];exact bz_:w.heap.size≤ae));replace HB:=q_ (bs_ hb);clear hb hbox hg;have az:=cz_ aa 0;have aA:=cz_ aa 1;have aC:=blk_frozen aa.out 0;have aD:=blk_frozen aa.out 1) | (go_at_call 52;(with_reducible refine(spec_l06Is.calls k a0_0 _ _ af false _ ?aj ?ak A3.out).mono ?_);(case aj=>exact cb_ HR0_1.out HB.out);(case ak=>exact HC0_1.out);rintro e w16 ⟨rfl,hb⟩;replace aa:=q_ (bb_ aa.out hb);replace HB:=q_ (bs_ hb);(try clear hb))))
  go_ret
  exact⟨by first | rfl | (simp [errW_none,errW_some] <;> rfl) | (simp [*,errW_none,errW_some] <;> rfl),hb_⟩
def impl_Cube_isVertex.f (a0_0:Int) (aa:List Int) (a1:Int):Option (Bool):=(impl_within.f a1 0 (wrap64 ((aa.length:Int) - 1))).bind fun ae=>(some ae)
theorem impl_Cube_isVertex.calls (a0_0:Int) (ag:Option Addr) (ah:Nat) (aa:List Int) (a1:Int) (r:Bool) (w:World) (aj:Kd.C (Kd.int .i64) w ag aa.length aa) (ak:aa.length≤ah) (h:impl_Cube_isVertex.f a0_0 aa a1=some r):
  Calls Tryz.prog 38 #[.agg #[.int .i64 a0_0, .slice ag aa.length ah], .int .i64 a1] w fun e w'=>e= .returned (.bool r)∧Below w.heap.size w w':=by
 have hu26:=Tryz.underlying26;have HR0_1:=q_ aj;have HC0_1:=q_ ak;clear aj ak;have HB:=q_ (Below.refl w.heap.size w);have H:((impl_within.f a1 0 (wrap64 ((aa.length:Int) - 1))).bind fun ai=>(some ai))=some r:=h;clear h;replace H:=Option.bind_eq_some_iff.mp H;obtain⟨ai,A30,H⟩:=H;replace H:(some ai)=some r:=H;have A3:=q_ A30;clear A30;obtain rfl:=Option.some.inj H
 go_enter Tryz.func38,Tryz.ntmps38
 go_wp2_with (first | ((with_reducible refine gate_dst (N:=2) rfl ?_);refine be_ 2 #[.int .i64 a0_0, .slice ag aa.length ah] 26 ?_;intro ae hg w4 hbox hb;have af:=q_ (hbox);have ax:=q_ ((by rw [hg];exact bz_:w.heap.size≤ae));have ay:=q_ ((by rw [hg];exact bz_:w.heap.size≤ae));replace HB:=q_ (bs_ hb);clear hb hbox hg;have aq:=cz_ af 0;have au:=cz_ af 1;have av:=blk_frozen af.out 0;have aw:=blk_frozen af.out 1) | ((with_reducible refine gate_callee (f:=39) rfl ?_);refine gL_ 10 Tryz.func39 #[.int .i64 a1, .int .i64 0, .int .i64 (wrap64 ((aa.length:Int) - 1))] ?_;(with_reducible refine(impl_within.calls a1 0 (wrap64 ((aa.length:Int) - 1)) ai _ A3.out).mono ?_);rintro e w' ⟨rfl,⟨nd,rfl⟩⟩;refine⟨_,rfl,?_⟩))
 go_ret
 exact⟨by first | rfl | (simp [errW_none,errW_some] <;> rfl) | (simp [*,errW_none,errW_some] <;> rfl),hb_⟩
def impl_greatestBit.l0:Nat→Int→Option (Int)
 | 0,_=>none
 | k+1,x0=>if(Go.bits .and .i64 x0 (wrap64 (x0 - 1)))=0 then(some x0) else(impl_greatestBit.l0 k (Go.bits .and .i64 x0 (wrap64 (x0 - 1))))
def impl_greatestBit.f (k:Nat) (a0:Int):Option (Int):=impl_greatestBit.l0 k a0
theorem impl_greatestBit.mono_l: ∀k,(∀y0,LeO (impl_greatestBit.l0 k y0) (impl_greatestBit.l0 (k+1) y0))
 | 0=>fun _ r h=>by simp [impl_greatestBit.l0] at h
 | k+1=>by
  have ih0:=impl_greatestBit.mono_l k
  intros;unfold impl_greatestBit.l0;repeat' first | (with_reducible first | exact ih0 _ | exact LeO.refl _ | exact LeO.none _ | refine LeO.ite ?_ ?_ | refine LeO.bind ?_ (fun _=>?_)) | exact ih0 _ | exact LeO.none _ | refine LeO.ite ?_ ?_ | refine LeO.bind ?_ (fun _=>?_)
theorem impl_greatestBit.mono: ∀a0 k,LeO (impl_greatestBit.f k a0) (impl_greatestBit.f (k+1) a0):=by
 intro a0 k
 have ih0:=impl_greatestBit.mono_l k
 unfold impl_greatestBit.f
 repeat' first | (with_reducible first | exact ih0 _ | exact LeO.refl _ | exact LeO.none _ | refine LeO.ite ?_ ?_ | refine LeO.bind ?_ (fun _=>?_)) | exact ih0 _ | exact LeO.none _ | refine LeO.ite ?_ ?_ | refine LeO.bind ?_ (fun _=>?_)
theorem impl_greatestBit.calls (k:Nat) (a0:Int) (r:Int) (w:World) (h:impl_greatestBit.f k a0=some r):
  Calls Tryz.prog 78 #[.int .i64 a0] w fun e w'=>e= .returned (.int .i64 r)∧Drawn0 w w':=by
 have H:(impl_greatestBit.l0 k a0)=some r:=h;clear h;have H':=q_ H;clear H
 go_enter Tryz.func78,Tryz.ntmps78
 go_wp2
 go_loopg [0] k (fun kq v0 w'=> ∃(aa:Int),v0= .int .i64 aa∧Aside0 (impl_greatestBit.l0 kq aa=some r)∧Aside0 (kq≤k)∧Drawn0 w w')
 case atStart=>exact⟨(a0),rs_,H',⟨Nat.le_refl _⟩,by repeat (first | exact Drawn0.refl _ | apply Drawn0.step)⟩
 case round=>
  clear H';obtain⟨aa,rfl,HA,HK1,⟨m1,rfl⟩⟩:=hrel;cases gk with
  | zero=>exact absurd HA.out (by simp [impl_greatestBit.l0])
  | succ k1=>
   have H:=HA.out;clear HA;simp only [impl_greatestBit.l0] at H
   by_cases c2:(Go.bits .and .i64 aa (wrap64 (aa - 1)))=0
   ·rw [if_pos c2] at H;have c2b0:=e1_ c2;have c2b1:=e2_ c2;clear c2;obtain rfl:=Option.some.inj H;go_wp2
    go_ret
    exact⟨by first | rfl | (simp;done) | (simp [*];done),by repeat (first | exact Drawn0.refl _ | apply Drawn0.step)⟩
   ·rw [if_neg c2] at H;have c2b0:=e3_ c2;have c2b1:=e4_ c2;have H':=q_ H;clear H;go_wp2
    go_roundg k1
    case measure=>have:=HK1.out;omega
    case rel=>exact⟨(Go.bits .and .i64 aa (wrap64 (aa - 1))),rs_,H',⟨by have:=HK1.out;omega⟩,by repeat (first | exact Drawn0.refl _ | apply Drawn0.step)⟩
def impl_Cube_next.f (k:Nat) (a0_0:Int) (aa:List Int) (a1:Int) (a2:Int):Option (Int):=if 0≤a1 then(if a1 < (aa.length:Int) then(if a2=0 then(some (Go.bits .xor .i64 a1 (Go.bits .and .i64 (rd aa a1) (wrap64 (-(rd aa a1)))))) else(if a2=1 then((impl_greatestBit.f k (rd aa a1)).bind fun ae=>(some (Go.bits .xor .i64 a1 ae))) else(some (Go.bits .xor .i64 a1 (rd aa a1))))) else(none)) else(none)
theorem impl_Cube_next.mono: ∀a0 a1 a2 a3 k,LeO (impl_Cube_next.f k a0 a1 a2 a3) (impl_Cube_next.f (k+1) a0 a1 a2 a3):=by
 intro a0 a1 a2 a3 k
 unfold impl_Cube_next.f
 repeat' first | (with_reducible first | exact impl_greatestBit.mono _ _ | exact LeO.refl _ | exact LeO.none _ | refine LeO.ite ?_ ?_ | refine LeO.bind ?_ (fun _=>?_)) | exact impl_greatestBit.mono _ _ | exact LeO.none _ | refine LeO.ite ?_ ?_ | refine LeO.bind ?_ (fun _=>?_)
theorem impl_Cube_next.calls (k:Nat) (a0_0:Int) (ag:Option Addr) (ah:Nat) (aa:List Int) (a1:Int) (a2:Int) (r:Int) (w:World) (aj:Kd.C (Kd.int .i64) w ag aa.length aa) (ak:aa.length≤ah) (h:impl_Cube_next.f k a0_0 aa a1 a2=some r):
  Calls Tryz.prog 40 #[.agg #[.int .i64 a0_0, .slice ag aa.length ah], .int .i64 a1, .int .i64 a2] w fun e w'=>e= .returned (.int .i64 r)∧Below w.heap.size w w':=by
 have hu26:=Tryz.underlying26;have HR0_1:=q_ aj;have HC0_1:=q_ ak;clear aj ak;have HB:=q_ (Below.refl w.heap.size w);have H:(if 0≤a1 then(if a1 < (aa.length:Int) then(if a2=0 then(some (Go.bits .xor .i64 a1 (Go.bits .and .i64 (rd aa a1) (wrap64 (-(rd aa a1)))))) else(if a2=1 then((impl_greatestBit.f k (rd aa a1)).bind fun ai=>(some (Go.bits .xor .i64 a1 ai))) else(some (Go.bits .xor .i64 a1 (rd aa a1))))) else(none)) else(none))=some r:=h;clear h
 by_cases c4:0≤a1
 ·rw [if_pos c4] at H;have c4b0:=decide_eq_true c4;clear c4
  by_cases c5:a1 < (aa.length:Int)
  ·rw [if_pos c5] at H;have c5b0:=decide_eq_true c5;clear c5
   by_cases c6:a2=0
   ·rw [if_pos c6] at H;have c6b0:=e1_ c6;have c6b1:=e2_ c6;clear c6;obtain rfl:=Option.some.inj H
    go_enter Tryz.func40,Tryz.ntmps40
    go_wp2_with (first | ((with_reducible refine gate_dst (N:=3) rfl ?_);refine be_ 3 #[.int .i64 a0_0, .slice ag aa.length ah] 26 ?_;intro ae hg w7 hbox hb;have af:=q_ (hbox);have aq:=q_ ((by rw [hg];exact bz_:w.heap.size≤ae));have au:=q_ ((by rw [hg];exact bz_:w.heap.size≤ae));replace HB:=q_ (bs_ hb);clear hb hbox hg;have aH:=cz_ af 0;have aI:=cz_ af 1;have aJ:=blk_frozen af.out 0;have aK:=blk_frozen af.out 1;have p219:0≤(a1:Int):=od_;have q219:a1 < (aa.length:Int):=od_;obtain⟨av,e219,hx219_0⟩:=Kd.at_int HR0_1.out a1 p219 q219;cases e219;replace hx219_0:=(HB.out.cell (World.block_lt_of_cell? w _ hx219_0)).trans hx219_0;replace p219:=eq_true p219;replace q219:=eq_true q219))
    go_ret
    exact⟨by first | rfl | (simp [errW_none,errW_some] <;> rfl) | (simp [*,errW_none,errW_some] <;> rfl),hb_⟩
   ·rw [if_neg c6] at H;have c6b0:=e3_ c6;have c6b1:=e4_ c6
    by_cases c9:a2=1
    ·rw [if_pos c9] at H;have c9b0:=e1_ c9;have c9b1:=e2_ c9;clear c9;replace H:=Option.bind_eq_some_iff.mp H;obtain⟨ai,A100,H⟩:=H;replace H:(some (Go.bits .xor .i64 a1 ai))=some r:=H;have A10:=q_ A100;clear A100;obtain rfl:=Option.some.inj H
     go_enter Tryz.func40,Tryz.ntmps40
     go_wp2_with (first | ((with_reducible refine gate_dst (N:=3) rfl ?_);refine be_ 3 #[.int .i64 a0_0, .slice ag aa.length ah] 26 ?_;intro ae hg w11 hbox hb;have af:=q_ (hbox);have aq:=q_ ((by rw [hg];exact bz_:w.heap.size≤ae));have au:=q_ ((by rw [hg];exact bz_:w.heap.size≤ae));replace HB:=q_ (bs_ hb);clear hb hbox hg;have aw:=cz_ af 0;have ax:=cz_ af 1;have ay:=blk_frozen af.out 0;have az:=blk_frozen af.out 1;have p219:0≤(a1:Int):=od_;have q219:a1 < (aa.length:Int):=od_;obtain⟨av,e219,hx219_0⟩:=Kd.at_int HR0_1.out a1 p219 q219;cases e219;replace hx219_0:=(HB.out.cell (World.block_lt_of_cell? w _ hx219_0)).trans hx219_0;replace p219:=eq_true p219;replace q219:=eq_true q219) | ((with_reducible refine gate_callee (f:=78) rfl ?_);refine gL_ 26 Tryz.func78 #[.int .i64 (rd aa a1)] ?_;(with_reducible refine(impl_greatestBit.calls k (rd aa a1) ai _ A10.out).mono ?_);rintro e w' ⟨rfl,⟨nd,rfl⟩⟩;refine⟨_,rfl,?_⟩))
     go_ret
     exact⟨by first | rfl | (simp [errW_none,errW_some] <;> rfl) | (simp [*,errW_none,errW_some] <;> rfl),hb_⟩
    ·rw [if_neg c9] at H;have c9b0:=e3_ c9;have c9b1:=e4_ c9;obtain rfl:=Option.some.inj H
     go_enter Tryz.func40,Tryz.ntmps40
     go_wp2_with (first | ((with_reducible refine gate_dst (N:=3) rfl ?_);refine be_ 3 #[.int .i64 a0_0, .slice ag aa.length ah] 26 ?_;intro ae hg w13 hbox hb;have af:=q_ (hbox);have aq:=q_ ((by rw [hg];exact bz_:w.heap.size≤ae));have au:=q_ ((by rw [hg];exact bz_:w.heap.size≤ae));replace HB:=q_ (bs_ hb);clear hb hbox hg;have aA:=cz_ af 0;have aC:=cz_ af 1;have aD:=blk_frozen af.out 0;have aG:=blk_frozen af.out 1;have p219:0≤(a1:Int):=od_;have q219:a1 < (aa.length:Int):=od_;obtain⟨av,e219,hx219_0⟩:=Kd.at_int HR0_1.out a1 p219 q219;cases e219;replace hx219_0:=(HB.out.cell (World.block_lt_of_cell? w _ hx219_0)).trans hx219_0;replace p219:=eq_true p219;replace q219:=eq_true q219))
     go_ret
     exact⟨by first | rfl | (simp [errW_none,errW_some] <;> rfl) | (simp [*,errW_none,errW_some] <;> rfl),hb_⟩
  ·rw [if_neg c5] at H;exact absurd H (by simp)
 ·rw [if_neg c4] at H;exact absurd H (by simp)
def slices_Index_int64_int64.l0:Nat→List Int→Int→Int→Int→Option (Int)
 | 0,_,_,_,_=>none
 | k+1,x0,x1,x7,x8=>if x8 < x7 then(if 0≤x8 then(if x8 < (x0.length:Int) then(if x1=(rd x0 x8) then(some x8) else(slices_Index_int64_int64.l0 k x0 x1 x7 (wrap64 (x8+1)))) else(none)) else(none)) else(some (-1))
def slices_Index_int64_int64.f (k:Nat) (l0:List Int) (a1:Int):Option (Int):=slices_Index_int64_int64.l0 k l0 a1 (l0.length:Int) 0
theorem slices_Index_int64_int64.mono_l: ∀k,(∀y0 y1 y2 y3,LeO (slices_Index_int64_int64.l0 k y0 y1 y2 y3) (slices_Index_int64_int64.l0 (k+1) y0 y1 y2 y3))
 | 0=>fun _ _ _ _ r h=>by simp [slices_Index_int64_int64.l0] at h
 | k+1=>by
  have ih0:=slices_Index_int64_int64.mono_l k
  intros;unfold slices_Index_int64_int64.l0;repeat' first | (with_reducible first | exact ih0 _ _ _ _ | exact LeO.refl _ | exact LeO.none _ | refine LeO.ite ?_ ?_ | refine LeO.bind ?_ (fun _=>?_)) | exact ih0 _ _ _ _ | exact LeO.none _ | refine LeO.ite ?_ ?_ | refine LeO.bind ?_ (fun _=>?_)
theorem slices_Index_int64_int64.mono: ∀a0 a1 k,LeO (slices_Index_int64_int64.f k a0 a1) (slices_Index_int64_int64.f (k+1) a0 a1):=by
 intro a0 a1 k
 have ih0:=slices_Index_int64_int64.mono_l k
 unfold slices_Index_int64_int64.f
 repeat' first | (with_reducible first | exact ih0 _ _ _ _ | exact LeO.refl _ | exact LeO.none _ | refine LeO.ite ?_ ?_ | refine LeO.bind ?_ (fun _=>?_)) | exact ih0 _ _ _ _ | exact LeO.none _ | refine LeO.ite ?_ ?_ | refine LeO.bind ?_ (fun _=>?_)
theorem slices_Index_int64_int64.calls (k:Nat) (A0:Option Addr) (c0:Nat) (l0:List Int) (a1:Int) (r:Int) (w:World) (hr0:Kd.C (Kd.int .i64) w A0 l0.length l0) (hc0:l0.length≤c0) (h:slices_Index_int64_int64.f k l0 a1=some r):
  Calls Tryz.prog 79 #[.slice A0 l0.length c0, .int .i64 a1] w fun e w'=>e= .returned (.int .i64 r)∧Drawn0 w w':=by
 have HR0:=q_ hr0;have HC0:=q_ hc0;clear hr0 hc0;have H:(slices_Index_int64_int64.l0 k l0 a1 (l0.length:Int) 0)=some r:=h;clear h;have H':=q_ H;clear H
 go_enter Tryz.func79,Tryz.ntmps79
 go_wp2
 go_loopg [8] k (fun kq v8 w'=> ∃(aa:Int),v8= .int .i64 aa∧Aside0 (slices_Index_int64_int64.l0 kq l0 a1 (l0.length:Int) aa=some r)∧Aside0 (kq≤k)∧Drawn0 w w')
 case atStart=>exact⟨(0),rs_,H',⟨Nat.le_refl _⟩,by repeat (first | exact Drawn0.refl _ | apply Drawn0.step)⟩
 case round=>
  clear H';obtain⟨aa,rfl,HA,HK1,⟨m1,rfl⟩⟩:=hrel;cases gk with
  | zero=>exact absurd HA.out (by simp [slices_Index_int64_int64.l0])
  | succ k1=>
   have H:=HA.out;clear HA;simp only [slices_Index_int64_int64.l0] at H
   by_cases c3:aa < (l0.length:Int)
   ·rw [if_pos c3] at H;have c3b0:=decide_eq_true c3;clear c3
    by_cases c4:0≤aa
    ·rw [if_pos c4] at H;have c4b0:=decide_eq_true c4;clear c4
     by_cases c5:aa < (l0.length:Int)
     ·rw [if_pos c5] at H;have c5b0:=decide_eq_true c5;clear c5
      by_cases c6:a1=(rd l0 aa)
      ·rw [if_pos c6] at H;have c6b0:=e1_ c6;have c6b1:=e2_ c6;clear c6;obtain rfl:=Option.some.inj H;have p221:0≤(aa:Int):=od_;have q221:aa < (l0.length:Int):=od_;obtain⟨ae,e221,hx221_0⟩:=Kd.at_int HR0.out aa p221 q221;cases e221
       replace p221:=eq_true p221;replace q221:=eq_true q221;go_wp2
       go_ret
       exact⟨by first | rfl | (simp;done) | (simp [*];done),by repeat (first | exact Drawn0.refl _ | apply Drawn0.step)⟩
      ·rw [if_neg c6] at H;have c6b0:=e3_ c6;have c6b1:=e4_ c6;have H':=q_ H;clear H;have p221:0≤(aa:Int):=od_;have q221:aa < (l0.length:Int):=od_;obtain⟨ae,e221,hx221_0⟩:=Kd.at_int HR0.out aa p221 q221;cases e221
       replace p221:=eq_true p221;replace q221:=eq_true q221;go_wp2
       go_roundg k1
       case measure=>have:=HK1.out;omega
       case rel=>exact⟨(wrap64 (aa+1)),rs_,H',⟨by have:=HK1.out;omega⟩,by repeat (first | exact Drawn0.refl _ | apply Drawn0.step)⟩
     ·rw [if_neg c5] at H;exact absurd H (by simp)
    ·rw [if_neg c4] at H;exact absurd H (by simp)
   ·rw [if_neg c3] at H;have c3b0:=decide_eq_false c3;clear c3;obtain rfl:=Option.some.inj H;go_wp2
    go_ret
    exact⟨by first | rfl | (simp;done) | (simp [*];done),by repeat (first | exact Drawn0.refl _ | apply Drawn0.step)⟩
def slices_Contains_int64_int64.f (k:Nat) (l0:List Int) (a1:Int):Option (Bool):=(slices_Index_int64_int64.f k l0 a1).bind fun aa=>(some (decide (aa ≥ 0)))
theorem slices_Contains_int64_int64.mono: ∀a0 a1 k,LeO (slices_Contains_int64_int64.f k a0 a1) (slices_Contains_int64_int64.f (k+1) a0 a1):=by
 intro a0 a1 k
 unfold slices_Contains_int64_int64.f
 repeat' first | (with_reducible first | exact slices_Index_int64_int64.mono _ _ _ | exact LeO.refl _ | exact LeO.none _ | refine LeO.ite ?_ ?_ | refine LeO.bind ?_ (fun _=>?_)) | exact slices_Index_int64_int64.mono _ _ _ | exact LeO.none _ | refine LeO.ite ?_ ?_ | refine LeO.bind ?_ (fun _=>?_)
theorem slices_Contains_int64_int64.calls (k:Nat) (A0:Option Addr) (c0:Nat) (l0:List Int) (a1:Int) (r:Bool) (w:World) (hr0:Kd.C (Kd.int .i64) w A0 l0.length l0) (hc0:l0.length≤c0) (h:slices_Contains_int64_int64.f k l0 a1=some r):
  Calls Tryz.prog 41 #[.slice A0 l0.length c0, .int .i64 a1] w fun e w'=>e= .returned (.bool r)∧Drawn0 w w':=by
 have HR0:=q_ hr0;have HC0:=q_ hc0;clear hr0 hc0;have H:((slices_Index_int64_int64.f k l0 a1).bind fun aa=>(some (decide (aa ≥ 0))))=some r:=h;clear h;replace H:=Option.bind_eq_some_iff.mp H;obtain⟨aa,A30,H⟩:=H;replace H:(some (decide (aa ≥ 0)))=some r:=H;have A3:=q_ A30;clear A30;obtain rfl:=Option.some.inj H
 go_enter Tryz.func41,Tryz.ntmps41
 go_wp2_with (first | ((with_reducible refine gate_callee (f:=79) rfl ?_);refine gL_ 7 Tryz.func79 #[.slice A0 l0.length c0, .int .i64 a1] ?_;(with_reducible refine(slices_Index_int64_int64.calls k _ _ l0 a1 aa _ ?ae ?af A3.out).mono ?_);(case ae=>repeat (first | exact HR0.out | (with_reducible refine Kd.C_alloc ?_ _) | (with_reducible refine Kd.C_drewN ?_ _) | (with_reducible refine Kd.C_drew ?_)));(case af=>exact HC0.out);rintro e w' ⟨rfl,⟨nd,rfl⟩⟩;refine⟨_,rfl,?_⟩))
 go_ret
 exact⟨by first | rfl | (simp;done) | (simp [*];done),by repeat (first | exact Drawn0.refl _ | apply Drawn0.step)⟩
end Go.Proofs.YthmfdplckdijdaaGreat.Pr
end
section
namespace Go.Proofs.YthmfdplckdijdaaGreat.Cu
open Go.RowKit Go.Proofs.YthmfdplckdijdaaGreatW.PrintWords Go.Proofs.YthmfdplckdijdaaGreatW.PrintMore Go.Proofs.YthmfdplckdijdaaGreat.Ma Go.Proofs.YthmfdplckdijdaaGreat.Pr
def IsV (l:List Int) (a:Int):Prop:=0≤a∧a≤(l.length:Int) - 1
open Classical in
noncomputable def codeR (d:Int) (l xs:List Int):Int:=if IsC d l then(if ∀a ∈ xs,IsV l a then 0 else 2) else 1
theorem spec_code_loop (d:Int) (l xs:List Int) (h32:l.length≤32) (hs:xs.length≤32): ∀m i,i+m=xs.length→ ∀c:Int,((∀j,i≤j→j < xs.length→IsV l (xs.getD j 0))→c=0)→(¬ (∀j,i≤j→j < xs.length→IsV l (xs.getD j 0))→c=2)→Ev (fun k=>spec_l06Code.l0 k xs (i:Nat) d l) c:=by
 classical
 intro m
 induction m with
 | zero=>
  intro i hi c hc hc'
  refine evstep (fun k=>by rw [spec_l06Code.l0]) (evneg (by omega) (evc ?_))
  rw [hc (fun j h1 h2=>by omega)]
 | succ m ih=>
  intro i hi c hc hc'
  refine evstep (fun k=>by rw [spec_l06Code.l0]) (evpos (by omega) (evpos (by omega) (evsome (within_eq _ _ _) ?_)))
  rw [rd_nat,w64 (by omega) (by omega)]
  rw [split_head (P:=fun j=>IsV l (xs.getD j 0)) (show i < xs.length by omega)] at hc hc'
  by_cases e:IsV l (xs.getD i 0)
  ·refine evpos (decide_eq_true (show 0≤xs.getD i 0∧xs.getD i 0≤(l.length:Int) - 1 from e)) ?_
   rw [w64 (by omega) (by omega)]
   exact ih (i+1) (by omega) c (fun h=>hc ⟨e,h⟩) (fun h=>hc' (fun k=>h k.2))
  ·refine evneg (fun h=>e (of_decide_eq_true (p:=0≤xs.getD i 0∧xs.getD i 0≤(l.length:Int) - 1) h)) (evc ?_)
   rw [hc' (fun h=>e h.1)]
theorem spec_code (d:Int) (l xs:List Int) (hs:xs.length≤32):Ev (fun k=>spec_l06Code.f k d l xs) (codeR d l xs):=by
 classical
 unfold spec_l06Code.f codeR
 refine evbind (spec_is d l (decide (IsC d l)) (by simp)) ?_
 by_cases h:IsC d l
 ·rw [if_pos h]
  have:(∀a ∈ xs,IsV l a)↔ ∀j,0≤j→j < xs.length→IsV l (xs.getD j 0):=by
   constructor
   ·intro k j _ hj
    have:=k xs[j] (List.getElem_mem hj)
    simpa [hj] using this
   ·intro k a ha
    obtain⟨j,hj,rfl⟩:=List.getElem_of_mem ha
    have:=k j (Nat.zero_le _) hj
    simpa [hj] using this
  refine evpos (by simpa using h) (spec_code_loop d l xs (ok32 h.2) hs xs.length 0 (by omega) _ (fun k=>if_pos (this.2 k)) (fun k=>if_neg (fun k'=>k (this.1 k'))))
 ·rw [if_neg h]
  exact evneg (by simpa using h) (evc rfl)
theorem impl_vertex (d:Int) (l:List Int) (a:Int) (h32:l.length≤32):impl_Cube_isVertex.f d l a=some (decide (0≤a∧a≤(l.length:Int) - 1)):=by
 unfold impl_Cube_isVertex.f
 rw [w64 (by omega) (by omega),iwithin_eq,Option.bind_some]
theorem codeR_one (d:Int) (l:List Int) (a:Int):(IsC d l∧IsV l a→codeR d l [a]=0)∧(IsC d l∧ ¬ IsV l a→codeR d l [a]=2)∧(¬ IsC d l→codeR d l [a]=1):=by
 classical
 unfold codeR
 refine⟨fun h=>?_,fun h=>?_,fun h=>?_⟩
 ·rw [if_pos h.1,if_pos (by simpa using h.2)]
 ·rw [if_pos h.1,if_neg (by simpa using h.2)]
 ·rw [if_neg h]
end Go.Proofs.YthmfdplckdijdaaGreat.Cu
end
section
namespace Go.Proofs.YthmfdplckdijdaaGreat.Us
open Classical
noncomputable def chk (P:Nat→Prop) (w:Nat):Bool:=decide (P w)
theorem chk_yes {P:Nat→Prop} {w:Nat} (h:P w):chk P w=true:=by simp [chk,h]
theorem chk_no {P:Nat→Prop} {w:Nat} (h: ¬ P w):chk P w=false:=by simp [chk,h]
noncomputable def cnt (n:Nat) (P:Nat→Prop):Nat:=(List.range n).countP (chk P)
theorem cnt_congr {n:Nat} {P Q:Nat→Prop} (h: ∀w,w < n→(P w↔Q w)):cnt n P=cnt n Q:=by
 unfold cnt
 apply List.countP_congr
 intro w hw
 simp [chk,h w (List.mem_range.1 hw)]
theorem cnt_split (n:Nat) (P Q:Nat→Prop):cnt n P=cnt n (fun w=>P w∧Q w)+cnt n (fun w=>P w∧ ¬ Q w):=by
 unfold cnt
 induction (List.range n) with
 | nil=>rfl
 | cons a l ih=>
  rw [List.countP_cons,List.countP_cons,List.countP_cons,ih]
  by_cases hp:P a <;> by_cases hq:Q a <;> simp [chk,hp,hq] <;> omega
theorem countP_le_one {l:List Nat} (hn:l.Nodup) {p:Nat→Bool} (h: ∀a b,a ∈ l→b ∈ l→p a=true→p b=true→a=b):l.countP p≤1:=by
 induction l with
 | nil=>simp
 | cons a l ih=>
  rw [List.nodup_cons] at hn
  rw [List.countP_cons]
  by_cases ha:p a=true
  ·have:l.countP p=0:=List.countP_eq_zero.2 (fun b hb hpb=>hn.1 (by
    rw [h a b List.mem_cons_self (List.mem_cons_of_mem _ hb) ha hpb];exact hb))
   simp [ha,this]
  ·have:=ih hn.2 (fun x y hx hy=>h x y (List.mem_cons_of_mem _ hx) (List.mem_cons_of_mem _ hy))
   simp [ha]
   exact this
theorem cnt_le_one {n:Nat} {P:Nat→Prop} (h: ∀a b,a < n→b < n→P a→P b→a=b):cnt n P≤1:=
 countP_le_one List.nodup_range (fun a b ha hb pa pb=>h a b (List.mem_range.1 ha) (List.mem_range.1 hb) (by simpa [chk] using pa) (by simpa [chk] using pb))
theorem cnt_pos {n:Nat} {P:Nat→Prop} {a:Nat} (ha:a < n) (h:P a):1≤cnt n P:=by
 unfold cnt
 exact List.countP_pos_iff.2 ⟨a,List.mem_range.2 ha,chk_yes h⟩
theorem cnt_two {n:Nat} {P:Nat→Prop} {a b:Nat} (ha:a < n) (hb:b < n) (hab:a≠b) (pa:P a) (pb:P b):2≤cnt n P:=by
 rw [cnt_split n P (fun w=>w=a)]
 have h1:=cnt_pos (P:=fun w=>P w∧w=a) ha ⟨pa,rfl⟩
 have h2:=cnt_pos (P:=fun w=>P w∧ ¬ w=a) hb ⟨pb,fun e=>hab e.symm⟩
 omega
def inF (D v w:Nat):Prop:= ∀j,D.testBit j=false→w.testBit j=v.testBit j
def onD (D a b:Nat):Prop:= ∀j,D.testBit j=true→a.testBit j=b.testBit j
noncomputable def C (n:Nat) (s:Nat→Nat) (D v f:Nat):Nat:=cnt n fun w=>inF D v w∧onD D (s w) f
theorem tb_flip (x k j:Nat):(x ^^^ 2 ^ k).testBit j=if j=k then !x.testBit j else x.testBit j:=by
 rw [Nat.testBit_xor,Nat.testBit_two_pow]
 by_cases h:j=k
 ·subst h;simp
 ·simp [h,Ne.symm h]
theorem C_halves (n:Nat) (s:Nat→Nat) {D k:Nat} (hk:D.testBit k=true) (v f:Nat):
  C n s D v f+C n s D v (f ^^^ 2 ^ k)=C n s (D ^^^ 2 ^ k) v f+C n s (D ^^^ 2 ^ k) (v ^^^ 2 ^ k) f:=by
 have e1:=cnt_split n (fun w=>inF D v w∧onD (D ^^^ 2 ^ k) (s w) f) (fun w=>(s w).testBit k=f.testBit k)
 have e2:=cnt_split n (fun w=>inF D v w∧onD (D ^^^ 2 ^ k) (s w) f) (fun w=>w.testBit k=v.testBit k)
 have a1:cnt n (fun w=>(inF D v w∧onD (D ^^^ 2 ^ k) (s w) f)∧(s w).testBit k=f.testBit k)=C n s D v f:=cnt_congr fun w _=>by
  constructor
  ·rintro ⟨⟨h1,h2⟩,h3⟩
   refine⟨h1,fun j hj=>?_⟩
   by_cases e:j=k
   ·subst e;exact h3
   ·exact h2 j (by rw [tb_flip];simp [e,hj])
  ·rintro ⟨h1,h2⟩
   refine⟨⟨h1,fun j hj=>?_⟩,h2 k hk⟩
   rw [tb_flip] at hj
   by_cases e:j=k
   ·subst e;simp [hk] at hj
   ·simp [e] at hj;exact h2 j hj
 have a2:cnt n (fun w=>(inF D v w∧onD (D ^^^ 2 ^ k) (s w) f)∧ ¬ (s w).testBit k=f.testBit k)=C n s D v (f ^^^ 2 ^ k):=cnt_congr fun w _=>by
  constructor
  ·rintro ⟨⟨h1,h2⟩,h3⟩
   refine⟨h1,fun j hj=>?_⟩
   rw [tb_flip]
   by_cases e:j=k
   ·subst e;simp;cases hx:(s w).testBit j <;> cases hy:f.testBit j <;> simp_all
   ·simp [e];exact h2 j (by rw [tb_flip];simp [e,hj])
  ·rintro ⟨h1,h2⟩
   refine⟨⟨h1,fun j hj=>?_⟩,fun h3=>?_⟩
   ·rw [tb_flip] at hj
    by_cases e:j=k
    ·subst e;simp [hk] at hj
    ·simp [e] at hj
     have:=h2 j hj
     rw [tb_flip] at this
     simpa [e] using this
   ·have:=h2 k hk
    rw [tb_flip,h3] at this
    simp at this
 have b1:cnt n (fun w=>(inF D v w∧onD (D ^^^ 2 ^ k) (s w) f)∧w.testBit k=v.testBit k)=C n s (D ^^^ 2 ^ k) v f:=cnt_congr fun w _=>by
  constructor
  ·rintro ⟨⟨h1,h2⟩,h3⟩
   refine⟨fun j hj=>?_,h2⟩
   rw [tb_flip] at hj
   by_cases e:j=k
   ·subst e;exact h3
   ·simp [e] at hj;exact h1 j hj
  ·rintro ⟨h1,h2⟩
   refine⟨⟨fun j hj=>?_,h2⟩,h1 k (by rw [tb_flip];simp [hk])⟩
   have e:j≠k:=by rintro rfl;simp [hk] at hj
   exact h1 j (by rw [tb_flip];simp [e,hj])
 have b2:cnt n (fun w=>(inF D v w∧onD (D ^^^ 2 ^ k) (s w) f)∧ ¬ w.testBit k=v.testBit k)=C n s (D ^^^ 2 ^ k) (v ^^^ 2 ^ k) f:=cnt_congr fun w _=>by
  constructor
  ·rintro ⟨⟨h1,h2⟩,h3⟩
   refine⟨fun j hj=>?_,h2⟩
   rw [tb_flip] at hj ⊢
   by_cases e:j=k
   ·subst e;simp;cases hx:w.testBit j <;> cases hy:v.testBit j <;> simp_all
   ·simp [e] at hj ⊢;exact h1 j hj
  ·rintro ⟨h1,h2⟩
   refine⟨⟨fun j hj=>?_,h2⟩,fun h3=>?_⟩
   ·have e:j≠k:=by rintro rfl;simp [hk] at hj
    have:=h1 j (by rw [tb_flip];simp [e,hj])
    rw [tb_flip] at this
    simpa [e] using this
   ·have:=h1 k (by rw [tb_flip];simp [hk])
    rw [tb_flip,h3] at this
    simp at this
 rw [a1,a2] at e1
 rw [b1,b2] at e2
 omega
theorem C_same (n:Nat) (s:Nat→Nat) {D v v' f f':Nat} (hv: ∀j,D.testBit j=false→v.testBit j=v'.testBit j) (hf:onD D f f'):C n s D v f=C n s D v' f':=
 cnt_congr fun w _=>⟨fun⟨h1,h2⟩=>⟨fun j hj=>(h1 j hj).trans (hv j hj),fun j hj=>(h2 j hj).trans (hf j hj)⟩,fun⟨h1,h2⟩=>⟨fun j hj=>(h1 j hj).trans (hv j hj).symm,fun j hj=>(h2 j hj).trans (hf j hj).symm⟩⟩
def Pairs (n:Nat) (s:Nat→Nat):Prop:= ∀v w,v < n→w < n→v≠w→ ∃j,(s v).testBit j≠(s w).testBit j∧v.testBit j≠w.testBit j
def Sinks (n:Nat) (s:Nat→Nat):Prop:= ∀D v,D < n→v < n→C n s D v 0=1
theorem flip_lt {d x k:Nat} (hx:x < 2 ^ d) (hk:k < d):x ^^^ 2 ^ k < 2 ^ d:=Nat.xor_lt_two_pow hx (Nat.pow_lt_pow_right (by decide) hk)
theorem bit_lt {d x k:Nat} (hx:x < 2 ^ d) (hk:x.testBit k=true):k < d:=by
 rcases Nat.lt_or_ge k d with h | h
 ·exact h
 ·have:=Nat.testBit_lt_two_pow (Nat.lt_of_lt_of_le hx (Nat.pow_le_pow_right (by decide) h))
  rw [this] at hk
  cases hk
theorem all_one {d:Nat} {s:Nat→Nat} (h:Sinks (2 ^ d) s): ∀k D v f,D < 2 ^ d→v < 2 ^ d→(∀j,k≤j→D.testBit j=true→f.testBit j=false)→C (2 ^ d) s D v f=1:=by
 intro k
 induction k with
 | zero=>
  intro D v f hD hv hf
  rw [C_same (2 ^ d) s (v':=v) (f':=0) (fun _ _=>rfl) (fun j hj=>by rw [hf j (Nat.zero_le _) hj,Nat.zero_testBit])]
  exact h D v hD hv
 | succ k ih=>
  intro D v f hD hv hf
  by_cases hk:D.testBit k=true
  ·by_cases hfk:f.testBit k=true
   ·have hkd:=bit_lt hD hk
    have e:=C_halves (2 ^ d) s hk v f
    have h0:=ih D v (f ^^^ 2 ^ k) hD hv (fun j hj hDj=>by
     rw [tb_flip]
     by_cases e:j=k
     ·subst e;simp [hfk]
     ·simp [e];exact hf j (by omega) hDj)
    have hf': ∀j,k≤j→(D ^^^ 2 ^ k).testBit j=true→f.testBit j=false:=fun j hj hDj=>by
     rw [tb_flip] at hDj
     by_cases e:j=k
     ·subst e;simp [hk] at hDj
     ·simp [e] at hDj;exact hf j (by omega) hDj
    have h1:=ih (D ^^^ 2 ^ k) v f (flip_lt hD hkd) hv hf'
    have h2:=ih (D ^^^ 2 ^ k) (v ^^^ 2 ^ k) f (flip_lt hD hkd) (flip_lt hv hkd) hf'
    omega
   ·refine ih D v f hD hv (fun j hj hDj=>?_)
    by_cases e:j=k
    ·subst e;simpa using hfk
    ·exact hf j (by omega) hDj
  ·refine ih D v f hD hv (fun j hj hDj=>?_)
   have e:j≠k:=by rintro rfl;exact hk hDj
   exact hf j (by omega) hDj
theorem pairs_of_sinks {d:Nat} {s:Nat→Nat} (h:Sinks (2 ^ d) s):Pairs (2 ^ d) s:=by
 intro v w hv hw hne
 apply Classical.byContradiction
 intro hno
 have hall: ∀j,v.testBit j≠w.testBit j→(s v).testBit j=(s w).testBit j:=fun j hj=>Classical.byContradiction fun hs=>hno ⟨j,hs,hj⟩
 have hD:v ^^^ w < 2 ^ d:=Nat.xor_lt_two_pow hv hw
 have h1:=all_one h d (v ^^^ w) v (s v) hD hv (fun j hj hDj=>absurd (bit_lt hD hDj) (by omega))
 have hx: ∀j,(v ^^^ w).testBit j=true↔v.testBit j≠w.testBit j:=fun j=>by rw [Nat.testBit_xor];simp
 have hface:inF (v ^^^ w) v w:=by
  intro j hj
  apply Classical.byContradiction
  intro e
  have:=(hx j).2 (fun e'=>e e'.symm)
  rw [this] at hj
  cases hj
 have h2:=cnt_two (P:=fun u=>inF (v ^^^ w) v u∧onD (v ^^^ w) (s u) (s v)) hv hw hne ⟨fun _ _=>rfl,fun _ _=>rfl⟩
  ⟨hface,fun j hj=>(hall j ((hx j).1 hj)).symm⟩
 unfold C at h1
 omega
theorem one_of_pairs {d:Nat} {s:Nat→Nat} (h:Pairs (2 ^ d) s): ∀k D v f,D < 2 ^ d→v < 2 ^ d→(∀j,k≤j→D.testBit j=false)→C (2 ^ d) s D v f=1:=by
 have le: ∀D v f,C (2 ^ d) s D v f≤1:=fun D v f=>cnt_le_one fun a b ha hb ⟨a1,a2⟩ ⟨b1,b2⟩=>by
  apply Classical.byContradiction
  intro hne
  obtain⟨j,h1,h2⟩:=h a b ha hb hne
  cases hj:D.testBit j
  ·exact h2 ((a1 j hj).trans (b1 j hj).symm)
  ·exact h1 ((a2 j hj).trans (b2 j hj).symm)
 intro k
 induction k with
 | zero=>
  intro D v f hD hv h0
  have h1:=le D v f
  have h2:1≤C (2 ^ d) s D v f:=cnt_pos (a:=v) hv ⟨fun _ _=>rfl,fun j hj=>by rw [h0 j (Nat.zero_le _)] at hj;cases hj⟩
  omega
 | succ k ih=>
  intro D v f hD hv h0
  by_cases hk:D.testBit k=true
  ·have hkd:=bit_lt hD hk
   have e:=C_halves (2 ^ d) s hk v f
   have hz: ∀j,k≤j→(D ^^^ 2 ^ k).testBit j=false:=fun j hj=>by
    rw [tb_flip]
    by_cases e:j=k
    ·subst e;simp [hk]
    ·simp [e];exact h0 j (by omega)
   have h1:=ih (D ^^^ 2 ^ k) v f (flip_lt hD hkd) hv hz
   have h2:=ih (D ^^^ 2 ^ k) (v ^^^ 2 ^ k) f (flip_lt hD hkd) (flip_lt hv hkd) hz
   have h3:=le D v f
   have h4:=le D v (f ^^^ 2 ^ k)
   omega
  ·refine ih D v f hD hv (fun j hj=>?_)
   by_cases e:j=k
   ·subst e;simpa using hk
   ·exact h0 j (by omega)
theorem sinks_of_pairs {d:Nat} {s:Nat→Nat} (h:Pairs (2 ^ d) s):Sinks (2 ^ d) s:=fun D v hD hv=>
 one_of_pairs h d D v 0 hD hv (fun j hj=>by
  cases e:D.testBit j
  ·rfl
  ·exact absurd (bit_lt hD e) (by omega))
theorem sinks_iff_pairs {d:Nat} {s:Nat→Nat}:Sinks (2 ^ d) s↔Pairs (2 ^ d) s:=⟨pairs_of_sinks,sinks_of_pairs⟩
end Go.Proofs.YthmfdplckdijdaaGreat.Us
end
section
namespace Go.Proofs.YthmfdplckdijdaaGreat.Sl
open Go.RowKit Go.Proofs.YthmfdplckdijdaaGreatW.PrintWords Go.Proofs.YthmfdplckdijdaaGreatW.PrintMore Go.Proofs.YthmfdplckdijdaaGreat.Ma Go.Proofs.YthmfdplckdijdaaGreat.Pr
theorem index_loop (xs:List Int) (a:Int) (hx:xs.length≤1048576): ∀m i,i+m=xs.length→ ∃r:Int,Ev (fun k=>slices_Index_int64_int64.l0 k xs a (xs.length:Int) (i:Nat)) r∧(0≤r↔a ∈ xs.drop i):=by
 intro m
 induction m with
 | zero=>
  intro i hi
  refine⟨-1,?_,by rw [List.drop_of_length_le (by omega)];simp⟩
  refine evstep (fun k=>by rw [slices_Index_int64_int64.l0]) ?_
  exact evneg (by omega) (evc rfl)
 | succ m ih=>
  intro i hi
  have hlt:i < xs.length:=by omega
  have e1:xs.getD i 0=xs[i]:=by simp [hlt]
  by_cases c:a=xs[i]
  ·refine⟨i,?_,by rw [List.drop_eq_getElem_cons hlt,List.mem_cons];exact⟨fun _=> .inl c,fun _=>by omega⟩⟩
   refine evstep (fun k=>by rw [slices_Index_int64_int64.l0]) (evpos (by omega) (evpos (by omega) (evpos (by omega) ?_)))
   rw [rd_nat,e1]
   exact evpos c (evc rfl)
  ·obtain⟨r,hr,hi'⟩:=ih (i+1) (by omega)
   refine⟨r,?_,by rw [hi',List.drop_eq_getElem_cons hlt,List.mem_cons];exact⟨.inr,fun h=>h.elim (fun e=>absurd e c) id⟩⟩
   refine evstep (fun k=>by rw [slices_Index_int64_int64.l0]) (evpos (by omega) (evpos (by omega) (evpos (by omega) ?_)))
   rw [rd_nat,e1,w64 (by omega) (by omega)]
   exact evneg c hr
theorem contains_eq (xs:List Int) (a:Int) (hx:xs.length≤1048576):Ev (fun k=>slices_Contains_int64_int64.f k xs a) (decide (a ∈ xs)):=by
 obtain⟨r,hr,hi⟩:=index_loop xs a hx xs.length 0 (by omega)
 rw [List.drop_zero] at hi
 unfold slices_Contains_int64_int64.f slices_Index_int64_int64.f
 refine evbind hr (evc ?_)
 have:decide (r ≥ 0)=decide (a ∈ xs):=by rw [decide_eq_decide];exact hi
 rw [this]
end Go.Proofs.YthmfdplckdijdaaGreat.Sl
end
section
namespace Go.Proofs.YthmfdplckdijdaaGreat.Pr
open Go.RowKit Go.Proofs.YthmfdplckdijdaaGreatW.PrintWords Go.Proofs.YthmfdplckdijdaaGreatW.PrintLast Go.Proofs.YthmfdplckdijdaaGreatW.PrintMore
attribute [local go_sem] max2_int min2_int max_two min_two max_three min_three max_four min_four
mutual
def spec_l06Next.l0:Nat→Int→Int→Int→List Int→Option (Int)
 | 0,_,_,_,_=>none
 | k+1,x1,x7,ae,aa=>if 0≤x1 then(if x1 < (aa.length:Int) then(if(Go.bits .and .i64 (rd aa x1) x7)=0 then(spec_l06Next.l0 k x1 (wrap64 (2*x7)) ae aa) else(some (Go.bits .xor .i64 x1 x7))) else(none)) else(none)
def spec_l06Next.l1:Nat→Int→Int→Int→List Int→Option (Int)
 | 0,_,_,_,_=>none
 | k+1,x1,x7,ae,aa=>if 0≤x1 then(if x1 < (aa.length:Int) then(if(wrap64 (2*x7))≤(rd aa x1) then(spec_l06Next.l1 k x1 (wrap64 (2*x7)) ae aa) else(some (Go.bits .xor .i64 x1 x7))) else(none)) else(none)
end
def spec_l06Next.f (k:Nat) (a0_0:Int) (aa:List Int) (a1:Int) (a2:Int):Option (Int):=if a2=2 then(if 0≤a1 then(if a1 < (aa.length:Int) then(some (Go.bits .xor .i64 a1 (rd aa a1))) else(none)) else(none)) else(if a2=0 then(spec_l06Next.l0 k a1 1 a0_0 aa) else(spec_l06Next.l1 k a1 1 a0_0 aa))
theorem spec_l06Next.mono_l: ∀k,(∀y0 y1 y2 y3,LeO (spec_l06Next.l0 k y0 y1 y2 y3) (spec_l06Next.l0 (k+1) y0 y1 y2 y3))∧(∀y0 y1 y2 y3,LeO (spec_l06Next.l1 k y0 y1 y2 y3) (spec_l06Next.l1 (k+1) y0 y1 y2 y3))
 | 0=>⟨fun _ _ _ _ r h=>by simp [spec_l06Next.l0] at h,fun _ _ _ _ r h=>by simp [spec_l06Next.l1] at h⟩
 | k+1=>by
  obtain⟨ih0,ih1⟩:=spec_l06Next.mono_l k
  refine⟨?_,?_⟩<;>intros<;>(first | unfold spec_l06Next.l0 | unfold spec_l06Next.l1)<;>(repeat' first | (with_reducible first | exact ih0 _ _ _ _ | exact ih1 _ _ _ _ | exact LeO.refl _ | exact LeO.none _ | refine LeO.ite ?_ ?_ | refine LeO.bind ?_ (fun _=>?_)) | exact ih0 _ _ _ _ | exact ih1 _ _ _ _ | exact LeO.none _ | refine LeO.ite ?_ ?_ | refine LeO.bind ?_ (fun _=>?_))
theorem spec_l06Next.mono: ∀a0 a1 a2 a3 k,LeO (spec_l06Next.f k a0 a1 a2 a3) (spec_l06Next.f (k+1) a0 a1 a2 a3):=by
 intro a0 a1 a2 a3 k
 obtain⟨ih0,ih1⟩:=spec_l06Next.mono_l k
 unfold spec_l06Next.f
 repeat' first | (with_reducible first | exact ih0 _ _ _ _ | exact ih1 _ _ _ _ | exact LeO.refl _ | exact LeO.none _ | refine LeO.ite ?_ ?_ | refine LeO.bind ?_ (fun _=>?_)) | exact ih0 _ _ _ _ | exact ih1 _ _ _ _ | exact LeO.none _ | refine LeO.ite ?_ ?_ | refine LeO.bind ?_ (fun _=>?_)
theorem spec_l06Next.calls (k:Nat) (a0_0:Int) (ah:Option Addr) (ai:Nat) (aa:List Int) (a1:Int) (a2:Int) (r:Int) (w:World) (av:Kd.C (Kd.int .i64) w ah aa.length aa) (aw:aa.length≤ai) (h:spec_l06Next.f k a0_0 aa a1 a2=some r):
  Calls Tryz.prog 44 #[.agg #[.int .i64 a0_0, .slice ah aa.length ai], .int .i64 a1, .int .i64 a2] w fun e w'=>e= .returned (.int .i64 r)∧Below w.heap.size w w':=by
 have hu26:=Tryz.underlying26;have HR0_1:=q_ av;have HC0_1:=q_ aw;clear av aw;have HB:=q_ (Below.refl w.heap.size w);have H:(if a2=2 then(if 0≤a1 then(if a1 < (aa.length:Int) then(some (Go.bits .xor .i64 a1 (rd aa a1))) else(none)) else(none)) else(if a2=0 then(spec_l06Next.l0 k a1 1 a0_0 aa) else(spec_l06Next.l1 k a1 1 a0_0 aa)))=some r:=h;clear h
 by_cases c4:a2=2
 ·rw [if_pos c4] at H;have c4b0:=e1_ c4;have c4b1:=e2_ c4;clear c4
  by_cases c5:0≤a1
  ·rw [if_pos c5] at H;have c5b0:=decide_eq_true c5;clear c5
   by_cases c6:a1 < (aa.length:Int)
   ·rw [if_pos c6] at H;have c6b0:=decide_eq_true c6;clear c6;obtain rfl:=Option.some.inj H
    go_enter Tryz.func44,Tryz.ntmps44
    go_wp2_with (first | ((with_reducible refine gate_dst (N:=3) rfl ?_);refine be_ 3 #[.int .i64 a0_0, .slice ah aa.length ai] 26 ?_;intro af hg w7 hbox hb;have ae:=q_ (hbox);have ax:=q_ ((by rw [hg];exact bz_:w.heap.size≤af));have ay:=q_ ((by rw [hg];exact bz_:w.heap.size≤af));replace HB:=q_ (bs_ hb);clear hb hbox hg;have aj:=cz_ ae 0;have ak:=cz_ ae 1;have aq:=blk_frozen ae.out 0;have au:=blk_frozen ae.out 1;have p247:0≤(a1:Int):=od_;have q247:a1 < (aa.length:Int):=od_;obtain⟨aZ,e247,hx247_0⟩:=Kd.at_int HR0_1.out a1 p247 q247;cases e247;replace hx247_0:=(HB.out.cell (World.block_lt_of_cell? w _ hx247_0)).trans hx247_0;replace p247:=eq_true p247;replace q247:=eq_true q247))
    go_ret
    exact⟨by first | rfl | (simp [errW_none,errW_some] <;> rfl) | (simp [*,errW_none,errW_some] <;> rfl),hb_⟩
   ·rw [if_neg c6] at H;exact absurd H (by simp)
  ·rw [if_neg c5] at H;exact absurd H (by simp)
 ·rw [if_neg c4] at H;have c4b0:=e3_ c4;have c4b1:=e4_ c4
  by_cases c9:a2=0
  ·rw [if_pos c9] at H;have c9b0:=e1_ c9;have c9b1:=e2_ c9;clear c9;have H':=q_ H;clear H
   go_enter Tryz.func44,Tryz.ntmps44
   go_wp2_with (first | ((with_reducible refine gate_dst (N:=3) rfl ?_);refine be_ 3 #[.int .i64 a0_0, .slice ah aa.length ai] 26 ?_;intro af hg w10 hbox hb;have ae:=q_ (hbox);have ax:=q_ ((by rw [hg];exact bz_:w.heap.size≤af));have ay:=q_ ((by rw [hg];exact bz_:w.heap.size≤af));replace HB:=q_ (bs_ hb);clear hb hbox hg))
   go_loopg [7] k (fun kq v7 w'=> ∃(ag:Int),v7= .int .i64 ag∧Aside0 (spec_l06Next.l0 kq a1 ag a0_0 aa=some r)∧Aside0 (kq≤k)∧Aside0 (w'.heap[af]?=some (.cells #[.int .i64 a0_0,(.slice ah aa.length ai)] 26 (0,0)))∧Aside0 (Below w.heap.size w w'))
   case atStart=>exact⟨(1),rs_,H',⟨Nat.le_refl _⟩,⟨bk_⟩,⟨hb_⟩⟩
   case round=>
    clear H';(try clear c4);(try clear c4b0);(try clear c4b1);(try clear c5);(try clear c5b0);(try clear c6);(try clear c6b0);(try clear c9);(try clear c9b0);(try clear c9b1);(try clear aj);(try clear ak);(try clear aq);(try clear au);(try clear hx247_0);(try clear p247);(try clear q247);obtain⟨ag,rfl,HA,HK1,ae,HB⟩:=hrel;cases gk with
    | zero=>exact absurd HA.out (by simp [spec_l06Next.l0])
    | succ k1=>
     have H:=HA.out;clear HA;simp only [spec_l06Next.l0] at H
     by_cases c11:0≤a1
     ·rw [if_pos c11] at H;have c11b0:=decide_eq_true c11;clear c11
      by_cases c12:a1 < (aa.length:Int)
      ·rw [if_pos c12] at H;have c12b0:=decide_eq_true c12;clear c12
       by_cases c13:(Go.bits .and .i64 (rd aa a1) ag)=0
       ·rw [if_pos c13] at H;have c13b0:=e1_ c13;have c13b1:=e2_ c13;clear c13;have H':=q_ H;clear H;have az:=cz_ ae 0;have aA:=cz_ ae 1;have aC:=blk_frozen ae.out 0;have aD:=blk_frozen ae.out 1;have p248:0≤(a1:Int):=od_;have q248:a1 < (aa.length:Int):=od_;obtain⟨aK,e248,hx248_0⟩:=Kd.at_int HR0_1.out a1 p248 q248;cases e248
        replace hx248_0:=(HB.out.cell (World.block_lt_of_cell? w _ hx248_0)).trans hx248_0;replace p248:=eq_true p248;replace q248:=eq_true q248;go_wp2
        go_roundg k1
        case measure=>have:=HK1.out;omega
        case rel=>exact⟨(wrap64 (2*ag)),rs_,H',⟨by have:=HK1.out;omega⟩,⟨bk_⟩,⟨hb_⟩⟩
       ·rw [if_neg c13] at H;have c13b0:=e3_ c13;have c13b1:=e4_ c13;obtain rfl:=Option.some.inj H;have aG:=cz_ ae 0;have aH:=cz_ ae 1;have aI:=blk_frozen ae.out 0;have aJ:=blk_frozen ae.out 1;have p248:0≤(a1:Int):=od_;have q248:a1 < (aa.length:Int):=od_;obtain⟨aK,e248,hx248_0⟩:=Kd.at_int HR0_1.out a1 p248 q248;cases e248
        replace hx248_0:=(HB.out.cell (World.block_lt_of_cell? w _ hx248_0)).trans hx248_0;replace p248:=eq_true p248;replace q248:=eq_true q248;go_wp2
        go_ret
        exact⟨by first | rfl | (simp [errW_none,errW_some] <;> rfl) | (simp [*,errW_none,errW_some] <;> rfl),hb_⟩
      ·rw [if_neg c12] at H;exact absurd H (by simp)
     ·rw [if_neg c11] at H;exact absurd H (by simp)
  ·rw [if_neg c9] at H;have c9b0:=e3_ c9;have c9b1:=e4_ c9;have H':=q_ H;clear H
   go_enter Tryz.func44,Tryz.ntmps44
   go_wp2_with (first | ((with_reducible refine gate_dst (N:=3) rfl ?_);refine be_ 3 #[.int .i64 a0_0, .slice ah aa.length ai] 26 ?_;intro af hg w16 hbox hb;have ae:=q_ (hbox);have ax:=q_ ((by rw [hg];exact bz_:w.heap.size≤af));have ay:=q_ ((by rw [hg];exact bz_:w.heap.size≤af));replace HB:=q_ (bs_ hb);clear hb hbox hg))
   go_loopg [7] k (fun kq v7 w'=> ∃(ag:Int),v7= .int .i64 ag∧Aside0 (spec_l06Next.l1 kq a1 ag a0_0 aa=some r)∧Aside0 (kq≤k)∧Aside0 (w'.heap[af]?=some (.cells #[.int .i64 a0_0,(.slice ah aa.length ai)] 26 (0,0)))∧Aside0 (Below w.heap.size w w'))
   case atStart=>exact⟨(1),rs_,H',⟨Nat.le_refl _⟩,⟨bk_⟩,⟨hb_⟩⟩
   case round=>
    clear H';(try clear c4);(try clear c4b0);(try clear c4b1);(try clear c5);(try clear c5b0);(try clear c6);(try clear c6b0);(try clear c9);(try clear c9b0);(try clear c9b1);(try clear c11);(try clear c11b0);(try clear c12);(try clear c12b0);(try clear c13);(try clear c13b0);(try clear c13b1);(try clear az);(try clear aA);(try clear aG);(try clear aH);(try clear aj);(try clear ak);(try clear aC);(try clear aD);(try clear aI);(try clear aJ);(try clear aq);(try clear au);(try clear hx247_0);(try clear hx248_0);(try clear p247);(try clear p248);(try clear q247);(try clear q248);obtain⟨ag,rfl,HA,HK1,ae,HB⟩:=hrel;cases gk with
    | zero=>exact absurd HA.out (by simp [spec_l06Next.l1])
    | succ k1=>
     have H:=HA.out;clear HA;simp only [spec_l06Next.l1] at H
     by_cases c17:0≤a1
     ·rw [if_pos c17] at H;have c17b0:=decide_eq_true c17;clear c17
      by_cases c18:a1 < (aa.length:Int)
      ·rw [if_pos c18] at H;have c18b0:=decide_eq_true c18;clear c18
       by_cases c19:(wrap64 (2*ag))≤(rd aa a1)
       ·rw [if_pos c19] at H;have c19b0:=decide_eq_true c19;clear c19;have H':=q_ H;clear H;have aN:=cz_ ae 0;have aQ:=cz_ ae 1;have aT:=blk_frozen ae.out 0;have aU:=blk_frozen ae.out 1;have p249:0≤(a1:Int):=od_;have q249:a1 < (aa.length:Int):=od_;obtain⟨aM,e249,hx249_0⟩:=Kd.at_int HR0_1.out a1 p249 q249;cases e249
        replace hx249_0:=(HB.out.cell (World.block_lt_of_cell? w _ hx249_0)).trans hx249_0;replace p249:=eq_true p249;replace q249:=eq_true q249;go_wp2
        go_roundg k1
        case measure=>have:=HK1.out;omega
        case rel=>exact⟨(wrap64 (2*ag)),rs_,H',⟨by have:=HK1.out;omega⟩,⟨bk_⟩,⟨hb_⟩⟩
       ·rw [if_neg c19] at H;have c19b0:=decide_eq_false c19;clear c19;obtain rfl:=Option.some.inj H;have aV:=cz_ ae 0;have aW:=cz_ ae 1;have aX:=blk_frozen ae.out 0;have aY:=blk_frozen ae.out 1;have p249:0≤(a1:Int):=od_;have q249:a1 < (aa.length:Int):=od_;obtain⟨aM,e249,hx249_0⟩:=Kd.at_int HR0_1.out a1 p249 q249;cases e249
        replace hx249_0:=(HB.out.cell (World.block_lt_of_cell? w _ hx249_0)).trans hx249_0;replace p249:=eq_true p249;replace q249:=eq_true q249;go_wp2
        go_ret
        exact⟨by first | rfl | (simp [errW_none,errW_some] <;> rfl) | (simp [*,errW_none,errW_some] <;> rfl),hb_⟩
      ·rw [if_neg c18] at H;exact absurd H (by simp)
     ·rw [if_neg c17] at H;exact absurd H (by simp)
mutual
def spec_WalkByRule.j0:Nat→Int→Int→Int→Bool→Int→List Int→Option (List Int × Int)
 | 0,_,_,_,_,_,_=>none
 | k+1,x1,x2,x8,x21,ae,aa=>if x21=true then(spec_WalkByRule.j1 k x1 x2 2 ae aa) else(spec_WalkByRule.j1 k x1 x2 x8 ae aa)
def spec_WalkByRule.j1:Nat→Int→Int→Int→Int→List Int→Option (List Int × Int)
 | 0,_,_,_,_,_=>none
 | k+1,x1,x2,x8,ae,aa=>if x8=0 then(if 0≤(aa.length:Int) then(if((aa.length:Int):Int).toNat≤281474976710656 then((some (List.replicate ((aa.length:Int):Int).toNat false:List Bool)).bind fun ag=>(if 0≤x1 then(if x1 < (ag.length:Int) then(spec_WalkByRule.l0 k x1 x2 (ag.set (x1:Int).toNat true) (([x1]:List Int)) ae aa) else(none)) else(none))) else(none)) else(none)) else(some (([]:List Int),x8))
def spec_WalkByRule.l0:Nat→Int→Int→List Bool→List Int→Int→List Int→Option (List Int × Int)
 | 0,_,_,_,_,_,_=>none
 | k+1,x1,x2,x9,x10,ae,aa=>if 0≤x1 then(if x1 < (aa.length:Int) then(if(rd aa x1)=0 then(some (x10,0)) else((spec_l06Next.f k ae aa x1 x2).bind fun af=>(if x10.length < 17592186044416 then((some (x10++ [af]:List Int)).bind fun ah=>(if 0≤af then(if af < (x9.length:Int) then(if rdOf false x9 af=true then(some (ah,0)) else(spec_WalkByRule.l0 k af x2 (x9.set (af:Int).toNat true) ah ae aa)) else(none)) else(none))) else(none)))) else(none)) else(none)
end
def spec_WalkByRule.f (k:Nat) (a0_0:Int) (aa:List Int) (a1:Int) (a2:Int):Option (List Int × Int):=(spec_l06Code.f k a0_0 aa (([a1]:List Int))).bind fun ae=>(if ae=0 then((spec_l01In.f a2 0 2).bind fun af=>(spec_WalkByRule.j0 k a1 a2 ae (!af) a0_0 aa)) else(spec_WalkByRule.j0 k a1 a2 ae false a0_0 aa))
theorem spec_WalkByRule.mono_l: ∀k,(∀y0 y1 y2 y3 y4 y5,LeO (spec_WalkByRule.j0 k y0 y1 y2 y3 y4 y5) (spec_WalkByRule.j0 (k+1) y0 y1 y2 y3 y4 y5))∧(∀y0 y1 y2 y3 y4,LeO (spec_WalkByRule.j1 k y0 y1 y2 y3 y4) (spec_WalkByRule.j1 (k+1) y0 y1 y2 y3 y4))∧(∀y0 y1 y2 y3 y4 y5,LeO (spec_WalkByRule.l0 k y0 y1 y2 y3 y4 y5) (spec_WalkByRule.l0 (k+1) y0 y1 y2 y3 y4 y5))
 | 0=>⟨fun _ _ _ _ _ _ r h=>by simp [spec_WalkByRule.j0] at h,fun _ _ _ _ _ r h=>by simp [spec_WalkByRule.j1] at h,fun _ _ _ _ _ _ r h=>by simp [spec_WalkByRule.l0] at h⟩
 | k+1=>by
  obtain⟨ih0,ih1,ih2⟩:=spec_WalkByRule.mono_l k
  refine⟨?_,?_,?_⟩<;>intros<;>(first | unfold spec_WalkByRule.j0 | unfold spec_WalkByRule.j1 | unfold spec_WalkByRule.l0)<;>(repeat' first | (with_reducible first | exact ih0 _ _ _ _ _ _ | exact ih1 _ _ _ _ _ | exact ih2 _ _ _ _ _ _ | exact spec_l06Code.mono _ _ _ _ | exact spec_l06Next.mono _ _ _ _ _ | exact LeO.refl _ | exact LeO.none _ | refine LeO.ite ?_ ?_ | refine LeO.bind ?_ (fun _=>?_)) | exact ih0 _ _ _ _ _ _ | exact ih1 _ _ _ _ _ | exact ih2 _ _ _ _ _ _ | exact spec_l06Code.mono _ _ _ _ | exact spec_l06Next.mono _ _ _ _ _ | exact LeO.none _ | refine LeO.ite ?_ ?_ | refine LeO.bind ?_ (fun _=>?_))
theorem spec_WalkByRule.mono: ∀a0 a1 a2 a3 k,LeO (spec_WalkByRule.f k a0 a1 a2 a3) (spec_WalkByRule.f (k+1) a0 a1 a2 a3):=by
 intro a0 a1 a2 a3 k
 obtain⟨ih0,ih1,ih2⟩:=spec_WalkByRule.mono_l k
 unfold spec_WalkByRule.f
 repeat' first | (with_reducible first | exact ih0 _ _ _ _ _ _ | exact ih1 _ _ _ _ _ | exact ih2 _ _ _ _ _ _ | exact spec_l06Code.mono _ _ _ _ | exact spec_l06Next.mono _ _ _ _ _ | exact LeO.refl _ | exact LeO.none _ | refine LeO.ite ?_ ?_ | refine LeO.bind ?_ (fun _=>?_)) | exact ih0 _ _ _ _ _ _ | exact ih1 _ _ _ _ _ | exact ih2 _ _ _ _ _ _ | exact spec_l06Code.mono _ _ _ _ | exact spec_l06Next.mono _ _ _ _ _ | exact LeO.none _ | refine LeO.ite ?_ ?_ | refine LeO.bind ?_ (fun _=>?_)
theorem spec_WalkByRule.calls (k:Nat) (a0_0:Int) (aw:Option Addr) (au:Nat) (ae:List Int) (a1:Int) (a2:Int) (r1:List Int) (r2:Int) (w:World) (bg:Kd.C (Kd.int .i64) w aw ae.length ae) (bh:ae.length≤au) (h:spec_WalkByRule.f k a0_0 ae a1 a2=some (r1,r2)):
  Calls Tryz.prog 8 #[.agg #[.int .i64 a0_0, .slice aw ae.length au], .int .i64 a1, .int .i64 a2] w fun e w'=> ∃v0_:Value,e= .returned (.tuple #[v0_, .int .i64 r2])∧Kd.R (Kd.int .i64) 2 w' w.heap.size (fun _=>True) v0_ r1∧Below w.heap.size w w':=by
 have hu26:=Tryz.underlying26;have HR0_1:=q_ bg;have HC0_1:=q_ bh;clear bg bh;have HB:=q_ (Below.refl w.heap.size w);have H:((spec_l06Code.f k a0_0 ae (([a1]:List Int))).bind fun ah=>(if ah=0 then((spec_l01In.f a2 0 2).bind fun aC=>(spec_WalkByRule.j0 k a1 a2 ah (!aC) a0_0 ae)) else(spec_WalkByRule.j0 k a1 a2 ah false a0_0 ae)))=some (r1,r2):=h;clear h;obtain⟨aZ,hy⟩: ∃y_:List Int,y_=(([a1]:List Int)):=⟨_,rfl⟩
 replace H:((spec_l06Code.f k a0_0 ae aZ).bind fun ah=>(if ah=0 then((spec_l01In.f a2 0 2).bind fun aC=>(spec_WalkByRule.j0 k a1 a2 ah (!aC) a0_0 ae)) else(spec_WalkByRule.j0 k a1 a2 ah false a0_0 ae)))=some (r1,r2):=hh_;have bi:=q_ hy;clear hy;replace H:=Option.bind_eq_some_iff.mp H;obtain⟨ah,A40,H⟩:=H;replace H:(if ah=0 then((spec_l01In.f a2 0 2).bind fun aC=>(spec_WalkByRule.j0 k a1 a2 ah (!aC) a0_0 ae)) else(spec_WalkByRule.j0 k a1 a2 ah false a0_0 ae))=some (r1,r2):=H;have A4:=q_ A40;clear A40;have HC5:=q_ H;clear H
 go_enter Tryz.func8,Tryz.ntmps8
 go_upto_region 2 with (first | ((with_reducible refine gate_dst (N:=3) rfl ?_);refine be_ 3 #[.int .i64 a0_0, .slice aw ae.length au] 26 ?_;intro aj hg w6 hbox hb;have aa:=q_ (hbox);have cf:=q_ ((by rw [hg];exact bz_:w.heap.size≤aj));have cu:=q_ ((by rw [hg];exact bz_:w.heap.size≤aj));replace HB:=q_ (bs_ hb);clear hb hbox hg;have aM:=cz_ aa 0;have aN:=cz_ aa 1;have aQ:=blk_frozen aa.out 0;have aT:=blk_frozen aa.out 1) | ((with_reducible refine gate_dst (N:=13) rfl ?_);refine Kd.R_lit (Kd.int .i64) _ 2 ?hg (N:=13) ?hd (xs:=([a1]:List Int)) (inner:= [.int .i64 a1]) (ok:=fun _=>True) (okp:=fun _=>True) ?hr ?hp (fun _ hk=>hk) trivial (Below.refl _ _) (Nat.le_refl _) (by simp) ?_;(case hd=>rfl);(case hg=>rfl);(case hr=>first | (go_simp;done) | (go_simp;rfl));(case hp=>exact(Reps.one (show Kd.M (Kd.int .i64) _ _ _ a1 [.int .i64 a1] from rfl) (Reps.none _ _)));intro cA w8 ho9 hb hg_ hnew_;clear hg_ hnew_;(first | rw [← bi.out] at ho9 | (simp only [Int.reduceToNat] at ho9;rw [← bi.out] at ho9));have aD:=q_ (Kd.R_lower ho9 bz_);replace aa:=q_ (bb_ aa.out hb);replace HB:=q_ (bs_ hb);clear hb ho9;obtain⟨bJ,bK,bL⟩:=Kd.R_slice aD.out;subst bL) | ((with_reducible refine gate_callee (f:=42) rfl ?_);refine gL_ 14 Tryz.func42 #[.agg #[.int .i64 a0_0, .slice aw ae.length au], .slice bJ aZ.length bK] ?_;(with_reducible refine(spec_l06Code.calls k a0_0 _ _ ae _ _ aZ ah _ ?aG ?aH ?bF ?bG A4.out).mono ?_);(case aG=>exact cb_ HR0_1.out HB.out);(case aH=>exact HC0_1.out);(case bF=>repeat (first | exact(Kd.R_reads' aD.out).2.2 | (with_reducible refine Kd.C_alloc ?_ _) | (with_reducible refine Kd.C_drewN ?_ _) | (with_reducible refine Kd.C_drew ?_)));(case bG=>exact(Kd.R_reads' aD.out).2.1);rintro e w11 ⟨rfl,hb⟩;refine⟨_,rfl,?_⟩;replace aD:=q_ (rb_ aD.out hb);replace aa:=q_ (bb_ aa.out hb);replace HB:=q_ (bs_ hb);(try clear hb);(try clear hk)))
 (try simp only [Act.put,List.setIfInBounds_toArray,List.set_cons_zero,List.set_cons_succ])
 go_cut [21] (fun v21 wc=> ∃(kq:Nat) (aJ:Bool),v21= .bool aJ∧Aside0 (spec_WalkByRule.j0 kq a1 a2 ah aJ a0_0 ae=some (r1,r2))∧Aside0 (kq≤k)∧Aside0 (wc.heap[aj]?=some (.cells #[.int .i64 a0_0,(.slice aw ae.length au)] 26 (0,0)))∧Aside0 (Below w.heap.size w wc))
 case first=>
  have H:=HC5.out;clear HC5
  by_cases c12:ah=0
  ·rw [if_pos c12] at H;have c12b0:=e1_ c12;have c12b1:=e2_ c12;clear c12
   (first | rw [c12b0] | (simp only [i64_w,i32_w];rw [c12b0]) | skip)
   replace H:=Option.bind_eq_some_iff.mp H;obtain⟨aC,A130,H⟩:=H;replace H:(spec_WalkByRule.j0 k a1 a2 ah (!aC) a0_0 ae)=some (r1,r2):=H;have A13:=q_ A130;clear A130;have H':=q_ H;clear H
   go_wp2_with (first | (go_at_call 43;(with_reducible refine(spec_l01In.calls a2 0 2 aC _ A13.out).mono ?_);rintro e w' ⟨rfl,⟨nd,rfl⟩⟩))
   go_meet
   case rel=>exact⟨_,(!aC),rs_,H',⟨by first | omega | exact Nat.le_refl _⟩,⟨bk_⟩,⟨hb_⟩⟩
  ·rw [if_neg c12] at H;have c12b0:=e3_ c12;have c12b1:=e4_ c12
   (first | rw [c12b0] | (simp only [i64_w,i32_w];rw [c12b0]) | skip)
   have H':=q_ H;clear H;go_wp2
   go_meet
   case rel=>exact⟨_,(false),rs_,H',⟨by first | omega | exact Nat.le_refl _⟩,⟨bk_⟩,⟨hb_⟩⟩
 case rest=>
  clear HC5;(try clear c12);(try clear c12b0);(try clear c12b1);(try clear aM);(try clear aN);(try clear aQ);(try clear aT);obtain⟨kq,aJ,rfl,HA,HJ4,aa,HB⟩:=hcut;cases kq with
  | zero=>exact absurd HA.out (by simp [spec_WalkByRule.j0])
  | succ kj4=>
   have H:=HA.out;clear HA;simp only [spec_WalkByRule.j0] at H;have HC14:=q_ H;clear H
   go_upto_if 21 with (fail)
   go_cut [8] (fun v8 wc=> ∃(kq:Nat) (aA:Int),v8= .int .i64 aA∧Aside0 (spec_WalkByRule.j1 kq a1 a2 aA a0_0 ae=some (r1,r2))∧Aside0 (kq≤kj4)∧Aside0 (wc.heap[aj]?=some (.cells #[.int .i64 a0_0,(.slice aw ae.length au)] 26 (0,0)))∧Aside0 (Below w.heap.size w wc))
   case first=>
    have H:=HC14.out;clear HC14
    by_cases c15:aJ=true
    ·subst c15;have H1:(spec_WalkByRule.j1 kj4 a1 a2 2 a0_0 ae)=some (r1,r2):=by rw [if_pos rfl] at H;exact H
     clear H;have H:=H1;clear H1;have H':=q_ H;clear H;go_wp2
     go_meet
     case rel=>exact⟨_,(2),rs_,H',⟨by have:=HJ4.out;first | omega | exact Nat.le_refl _⟩,⟨bk_⟩,⟨hb_⟩⟩
    ·replace c15:=Bool.eq_false_iff.mpr c15;subst c15;have H1:(spec_WalkByRule.j1 kj4 a1 a2 ah a0_0 ae)=some (r1,r2):=by rw [if_neg (show ¬ (false=true) by decide)] at H;exact H
     clear H;have H:=H1;clear H1;have H':=q_ H;clear H;go_wp2
     go_meet
     case rel=>exact⟨_,(ah),rs_,H',⟨by have:=HJ4.out;first | omega | exact Nat.le_refl _⟩,⟨bk_⟩,⟨hb_⟩⟩
   case rest=>
    clear HC14;(try clear c12);(try clear c12b0);(try clear c12b1);(try clear c15);(try clear aM);(try clear aN);(try clear aQ);(try clear aT);obtain⟨kq,aA,rfl,HA,HJ13,aa,HB⟩:=hcut;cases kq with
    | zero=>exact absurd HA.out (by simp [spec_WalkByRule.j1])
    | succ kj13=>
     have H:=HA.out;clear HA;simp only [spec_WalkByRule.j1] at H
     by_cases c16:aA=0
     ·rw [if_pos c16] at H;have c16b0:=e1_ c16;have c16b1:=e2_ c16;clear c16
      by_cases c17:0≤(ae.length:Int)
      ·rw [if_pos c17] at H;have c17b0:=eq_true c17;have c17b1:=decide_eq_true c17;clear c17
       by_cases c18:((ae.length:Int):Int).toNat≤281474976710656
       ·rw [if_pos c18] at H;have c18b0:=eq_true c18;have c18b1:=decide_eq_true c18;clear c18;obtain⟨ay,hy⟩: ∃y_:List Bool,y_=(List.replicate ((ae.length:Int):Int).toNat false):=⟨_,rfl⟩
        replace H:(if 0≤a1 then(if a1 < (ay.length:Int) then(spec_WalkByRule.l0 kj13 a1 a2 (ay.set (a1:Int).toNat true) (([a1]:List Int)) a0_0 ae) else(none)) else(none))=some (r1,r2):=hh_;have bk:=q_ hy;clear hy;obtain⟨a9,hy⟩: ∃y_:List Int,y_=(([a1]:List Int)):=⟨_,rfl⟩
        replace H:(if 0≤a1 then(if a1 < (ay.length:Int) then(spec_WalkByRule.l0 kj13 a1 a2 (ay.set (a1:Int).toNat true) a9 a0_0 ae) else(none)) else(none))=some (r1,r2):=hh_;have bq:=q_ hy;clear hy
        by_cases c19:0≤a1
        ·rw [if_pos c19] at H;have c19b0:=decide_eq_true c19;clear c19
         by_cases c20:a1 < (ay.length:Int)
         ·rw [if_pos c20] at H;have c20b0:=decide_eq_true c20;clear c20;obtain⟨ba,hy⟩: ∃y_:List Bool,y_=(ay.set (a1:Int).toNat true):=⟨_,rfl⟩
          replace H:(spec_WalkByRule.l0 kj13 a1 a2 ba a9 a0_0 ae)=some (r1,r2):=hh_;have bH:=q_ hy;clear hy;have H':=q_ H;clear H;have bw:=cz_ aa 0;have bz:=cz_ aa 1;have bA:=blk_frozen aa.out 0;have bC:=blk_frozen aa.out 1
          go_wp2_with (first | ((with_reducible refine gate_dst (N:=28) rfl ?_);refine Kd.R_make Kd.bool _ 4 rfl (N:=28) rfl 73 _ _ rfl (ae.length:Int) rfl rfl Tryz.underlying73 (.bool false) 1 info4 rfl (by decide) (by omega) false (ok:=fun _=>True) (okp:=fun _=>True) rfl (fun _ hk=>hk) trivial od_ (Nat.le_trans (Nat.mul_le_mul_right _ (od_:(ae.length:Int).toNat≤281474976710656)) (by omega)) (Below.refl _ _) (Nat.le_refl _) ?_;intro cB w23 aU hb hg_ hnew_;clear hg_ hnew_;(first | rw [← bk.out] at aU | (simp only [Int.reduceToNat] at aU;rw [← bk.out] at aU));have av:=q_ (Kd.R_lower aU bz_);replace aa:=q_ (bb_ aa.out hb);replace HB:=q_ (bs_ hb);clear hb aU) | ((with_reducible refine gate_dst (N:=30) rfl ?_);refine Kd.R_lit (Kd.int .i64) _ 2 ?hg (N:=30) ?hd (xs:=([a1]:List Int)) (inner:= [.int .i64 a1]) (ok:=fun _=>True) (okp:=fun _=>True) ?hr ?hp (fun _ hk=>hk) trivial (Below.refl _ _) (Nat.le_refl _) (by simp) ?_;(case hd=>rfl);(case hg=>rfl);(case hr=>first | (go_simp;done) | (go_simp;rfl));(case hp=>exact(Reps.one (show Kd.M (Kd.int .i64) _ _ _ a1 [.int .i64 a1] from rfl) (Reps.none _ _)));intro cC w25 aV hb hg_ hnew_;clear hg_ hnew_;(first | rw [← bq.out] at aV | (simp only [Int.reduceToNat] at aV;rw [← bq.out] at aV));replace av:=q_ (rb_ av.out hb);have aX:=q_ (Kd.R_lower aV bz_);replace aa:=q_ (bb_ aa.out hb);replace HB:=q_ (bs_ hb);clear hb aV;have p21:0≤(a1:Int):=od_;have q21:(a1:Int) < ((ay.length:Int):Int):=od_;obtain⟨go21,aW,bD,bE,gl21,cl21,HG21⟩:=Kd.R_form av.out (by omega);(first | cases bD | (injection bD with ea_ en_ ec_;(first | subst ea_ | (injection ea_ with ea_;subst ea_));subst ec_;clear en_));have GB21:=q_ bE;have GG21:=q_ HG21;clear bE gl21 HG21;obtain⟨hx21_0,hf21_0⟩:=Kd.R_celln false av.out (a1:Int) p21 q21;replace p21:=eq_true p21;replace q21:=eq_true q21;obtain⟨hy27_,hz27_⟩:=Kd.R_celln false av.out (a1:Int) od_ od_;have HP27:=Kd.R_putg av.out (a1:Int) true) | ((with_reducible refine gate_store (t:=4) (p:=33) rfl ?_);refine store_event (t:=4) (p:=33) (v:=?vo_w28) (w1:=(w25.setCell ⟨go21,(a1:Int).toNat,none⟩ (.bool true))) ?hg ?ho ?hn ?hr ?_;(case ho=>rfl);(case hg=>rfl);(case hn=>rfl);(case hr=>first | (go_simp;done) | (go_simp;rfl));intro w28 hw;have hg:w25.grownBy w28 (some go21):=(by rw [hw];exact HP27.2);have hp_:Kd.R Kd.bool 4 w28 w.heap.size (fun _=>True) (.slice (some ⟨go21,0,none⟩) ay.length aW) ba:=(by rw [hw,bH.out];exact HP27.1);clear HP27;replace aa:=q_ (bg_ aa.out hg (Kd.R_ne av.out aa.out (by decide)));replace aX:=q_ (Kd.R_over' (v:=(.slice (some ⟨go21,0,none⟩) ay.length aW)) (ro_ aX.out) (Kd.R_typed av.out) (by decide) hg);replace HB:=q_ ((by rw [hw];exact below_set (HB.out) GB21.out:Below w.heap.size w w28));replace av:=q_ (hp_);clear hg hw hp_))
          go_loopg [1,10] kj13 (fun kq v1 v10 w'=> ∃(ag:Int) (ai:List Bool) (ax:List Int),v1= .int .i64 ag∧Aside0 (spec_WalkByRule.l0 kq ag a2 ai ax a0_0 ae=some (r1,r2))∧Aside0 (kq≤kj13)∧Aside0 (Kd.R Kd.bool 4 w' w.heap.size (fun _=>True) (.slice (some ⟨go21,0,none⟩) ay.length aW) ai)∧Aside0 (Kd.R (Kd.int .i64) 2 w' w.heap.size (fun _=>True) v10 ax)∧Aside0 (w'.heap[aj]?=some (.cells #[.int .i64 a0_0,(.slice aw ae.length au)] 26 (0,0)))∧Aside0 (Below w.heap.size w w'))
          case atStart=>exact⟨(a1),(ba),(a9),rs_,H',⟨Nat.le_refl _⟩,⟨ro_ av.out⟩,⟨ro_ aX.out⟩,⟨bk_⟩,⟨hb_⟩⟩
          case round=>
           clear H';(try clear c12);(try clear c12b0);(try clear c12b1);(try clear c15);(try clear c16);(try clear c16b0);(try clear c16b1);(try clear c17);(try clear c17b0);(try clear c17b1);(try clear c18);(try clear c18b0);(try clear c18b1);(try clear c19);(try clear c19b0);(try clear c20);(try clear c20b0);(try clear p21);(try clear q21);(try clear bw);(try clear bz);(try clear aM);(try clear aN);(try clear bA);(try clear bC);(try clear aQ);(try clear aT);(try clear hx21_0);(try clear p21);(try clear q21);obtain⟨ag,ai,ax,rfl,HA,HK3,ak,aq,aa,HB⟩:=hrel;have hl9_3:=(Kd.R_reads' ak.out).1;rw [hl9_3] at ak
           (try simp only [hl9_3])
           (try simp only [hl9_3] at aa)
           (try simp only [hl9_3] at aq)
           cases gk with
           | zero=>exact absurd HA.out (by simp [spec_WalkByRule.l0])
           | succ k3=>
            have H:=HA.out;clear HA;simp only [spec_WalkByRule.l0] at H
            by_cases c29:0≤ag
            ·rw [if_pos c29] at H;have c29b0:=decide_eq_true c29;clear c29
             by_cases c30:ag < (ae.length:Int)
             ·rw [if_pos c30] at H;have c30b0:=decide_eq_true c30;clear c30
              by_cases c31:(rd ae ag)=0
              ·rw [if_pos c31] at H;have c31b0:=e1_ c31;have c31b1:=e2_ c31;clear c31;simp only [Option.some.injEq,Prod.mk.injEq] at H;obtain⟨rfl,rfl⟩:=H;have bN:=cz_ aa 0;have bO:=cz_ aa 1;have bP:=blk_frozen aa.out 0;have bQ:=blk_frozen aa.out 1;have p263:0≤(ag:Int):=od_;have q263:ag < (ae.length:Int):=od_;obtain⟨aK,e263,hx263_0⟩:=Kd.at_int HR0_1.out ag p263 q263;cases e263
               replace hx263_0:=(HB.out.cell (World.block_lt_of_cell? w _ hx263_0)).trans hx263_0;replace p263:=eq_true p263;replace q263:=eq_true q263;go_wp2
               go_ret2
               exact⟨_,by first | rfl | (simp [errW_none,errW_some] <;> rfl) | (simp [*,errW_none,errW_some] <;> rfl),ro_ aq.out,hb_⟩
              ·rw [if_neg c31] at H;have c31b0:=e3_ c31;have c31b1:=e4_ c31;replace H:=Option.bind_eq_some_iff.mp H;obtain⟨af,A330,H⟩:=H;replace H:(if ax.length < 17592186044416 then((some (ax++ [af]:List Int)).bind fun az=>(if 0≤af then(if af < (ai.length:Int) then(if rdOf false ai af=true then(some (az,0)) else(spec_WalkByRule.l0 k3 af a2 (ai.set (af:Int).toNat true) az a0_0 ae)) else(none)) else(none))) else(none))=some (r1,r2):=H;have A33:=q_ A330;clear A330
               by_cases c34:ax.length < 17592186044416
               ·rw [if_pos c34] at H;have bu:=q_ c34;clear c34;obtain⟨az,hy⟩: ∃y_:List Int,y_=(ax++ [af]):=⟨_,rfl⟩
                replace H:(if 0≤af then(if af < (ai.length:Int) then(if rdOf false ai af=true then(some (az,0)) else(spec_WalkByRule.l0 k3 af a2 (ai.set (af:Int).toNat true) az a0_0 ae)) else(none)) else(none))=some (r1,r2):=hh_;have bv:=q_ hy;clear hy
                by_cases c35:0≤af
                ·rw [if_pos c35] at H;have c35b0:=decide_eq_true c35;clear c35
                 by_cases c36:af < (ai.length:Int)
                 ·rw [if_pos c36] at H;have c36b0:=decide_eq_true c36;clear c36;obtain⟨bq37,hbq37⟩: ∃b_:Bool,b_=(rdOf false ai af):=⟨_,rfl⟩
                  replace H:(if bq37=true then(some (az,0)) else(spec_WalkByRule.l0 k3 af a2 (ai.set (af:Int).toNat true) az a0_0 ae))=some (r1,r2):=by rw [← hbq37] at H;exact H
                  have Nbq37:=q_ hbq37;clear hbq37
                  by_cases c38:bq37=true
                  ·subst c38;have H1:(some (az,0))=some (r1,r2):=by rw [if_pos rfl] at H;exact H
                   clear H;have H:=H1;clear H1;simp only [Option.some.injEq,Prod.mk.injEq] at H;obtain⟨rfl,rfl⟩:=H;have bS:=cz_ aa 0;have bT:=cz_ aa 1;have bU:=blk_frozen aa.out 0;have bV:=blk_frozen aa.out 1;have p263:0≤(ag:Int):=od_;have q263:ag < (ae.length:Int):=od_;obtain⟨aK,e263,hx263_0⟩:=Kd.at_int HR0_1.out ag p263 q263;cases e263
                   replace hx263_0:=(HB.out.cell (World.block_lt_of_cell? w _ hx263_0)).trans hx263_0;replace p263:=eq_true p263;replace q263:=eq_true q263
                   go_wp2_with (first | ((with_reducible refine gate_callee (f:=44) rfl ?_);refine gL_ 43 Tryz.func44 #[.agg #[.int .i64 a0_0, .slice (some aK) ae.length au], .int .i64 ag, .int .i64 a2] ?_;(with_reducible refine(spec_l06Next.calls k3 a0_0 _ _ ae ag a2 af _ ?aG ?aH A33.out).mono ?_);(case aG=>exact cb_ HR0_1.out HB.out);(case aH=>exact HC0_1.out);rintro e w40 ⟨rfl,hb⟩;refine⟨_,rfl,?_⟩;replace ak:=q_ (rb_ ak.out hb);replace aq:=q_ (rb_ aq.out hb);replace aa:=q_ (bb_ aa.out hb);replace HB:=q_ (bs_ hb);(try clear hb);(try clear hk)) | ((with_reducible refine gate_builtin (b:= .append) (xs:= #[.tmp 44, .tmp 46]) rfl ?_);at_builtin;refine Kd.R_append (Kd.int .i64) (w0:=w) w.heap.size rfl (.tmp 44) (.tmp 46) 24 2 (.int .i64 0) 8 rfl Tryz.underlying24 info2 rfl (by decide) (by omega) u10 ax af [.int .i64 af] (fun _=>True) (fun _=>False) rfl rfl ?aP (fun _ hk=>hk.elim) ?aF ?aO ?aB ?aS ?aL ?_;(case aP=>exact rfl);(case aB=>exact hb_);(case aF=>exact(fun _ _=>trivial));(case aO=>exact(ro_ aq.out));(case aS=>exact bz_);(case aL=>have:=bu.out;omega);intro bM w41 ho hb hg hat;rw [← bv.out] at ho;replace ak:=q_ (Kd.R_over' (ro_ ak.out) (Kd.R_typed (ro_ aq.out)) (by decide) hg);replace aa:=q_ (bg_ aa.out hg (Kd.R_ne aq.out aa.out (by decide)));replace HB:=q_ (hb);have aI:=q_ (ho);clear aq ho hb hg hat;have p268:0≤(af:Int):=od_;have q268:af < (ai.length:Int):=od_;obtain⟨aY,e268,hx268_0⟩:=Kd.at_bool (Kd.R_reads' ak.out).2.2 af p268 q268;(try rw [← Nbq37.out] at hx268_0);obtain rfl:(⟨go21,0,none⟩:Addr)=aY:=(by injection e268);(first | simp only [add_plain] at hx268_0 | simp only [add_at] at hx268_0 | simp only [Addr.add,Nat.zero_add] at hx268_0 | skip);replace p268:=eq_true p268;replace q268:=eq_true q268))
                   go_ret2
                   exact⟨_,by first | rfl | (simp [errW_none,errW_some] <;> rfl) | (simp [*,errW_none,errW_some] <;> rfl),ro_ aI.out,hb_⟩
                  ·replace c38:=Bool.eq_false_iff.mpr c38;subst c38;have H1:(spec_WalkByRule.l0 k3 af a2 (ai.set (af:Int).toNat true) az a0_0 ae)=some (r1,r2):=by rw [if_neg (show ¬ (false=true) by decide)] at H;exact H
                   clear H;have H:=H1;clear H1;obtain⟨bf,hy⟩: ∃y_:List Bool,y_=(ai.set (af:Int).toNat true):=⟨_,rfl⟩
                   replace H:(spec_WalkByRule.l0 k3 af a2 bf az a0_0 ae)=some (r1,r2):=hh_;have bI:=q_ hy;clear hy;have H':=q_ H;clear H;have bW:=cz_ aa 0;have bX:=cz_ aa 1;have bY:=blk_frozen aa.out 0;have bZ:=blk_frozen aa.out 1;have p263:0≤(ag:Int):=od_;have q263:ag < (ae.length:Int):=od_;obtain⟨aK,e263,hx263_0⟩:=Kd.at_int HR0_1.out ag p263 q263;cases e263
                   replace hx263_0:=(HB.out.cell (World.block_lt_of_cell? w _ hx263_0)).trans hx263_0;replace p263:=eq_true p263;replace q263:=eq_true q263
                   go_wp2_with (first | ((with_reducible refine gate_callee (f:=44) rfl ?_);refine gL_ 43 Tryz.func44 #[.agg #[.int .i64 a0_0, .slice (some aK) ae.length au], .int .i64 ag, .int .i64 a2] ?_;(with_reducible refine(spec_l06Next.calls k3 a0_0 _ _ ae ag a2 af _ ?aG ?aH A33.out).mono ?_);(case aG=>exact cb_ HR0_1.out HB.out);(case aH=>exact HC0_1.out);rintro e w44 ⟨rfl,hb⟩;refine⟨_,rfl,?_⟩;replace ak:=q_ (rb_ ak.out hb);replace aq:=q_ (rb_ aq.out hb);replace aa:=q_ (bb_ aa.out hb);replace HB:=q_ (bs_ hb);(try clear hb);(try clear hk)) | ((with_reducible refine gate_builtin (b:= .append) (xs:= #[.tmp 44, .tmp 46]) rfl ?_);at_builtin;refine Kd.R_append (Kd.int .i64) (w0:=w) w.heap.size rfl (.tmp 44) (.tmp 46) 24 2 (.int .i64 0) 8 rfl Tryz.underlying24 info2 rfl (by decide) (by omega) u10 ax af [.int .i64 af] (fun _=>True) (fun _=>False) rfl rfl ?aP (fun _ hk=>hk.elim) ?aF ?aO ?aB ?aS ?aL ?_;(case aP=>exact rfl);(case aB=>exact hb_);(case aF=>exact(fun _ _=>trivial));(case aO=>exact(ro_ aq.out));(case aS=>exact bz_);(case aL=>have:=bu.out;omega);intro bM w45 ho hb hg hat;rw [← bv.out] at ho;replace ak:=q_ (Kd.R_over' (ro_ ak.out) (Kd.R_typed (ro_ aq.out)) (by decide) hg);replace aa:=q_ (bg_ aa.out hg (Kd.R_ne aq.out aa.out (by decide)));replace HB:=q_ (hb);have aI:=q_ (ho);clear aq ho hb hg hat;have p268:0≤(af:Int):=od_;have q268:af < (ai.length:Int):=od_;obtain⟨aY,e268,hx268_0⟩:=Kd.at_bool (Kd.R_reads' ak.out).2.2 af p268 q268;(try rw [← Nbq37.out] at hx268_0);obtain rfl:(⟨go21,0,none⟩:Addr)=aY:=(by injection e268);(first | simp only [add_plain] at hx268_0 | simp only [add_at] at hx268_0 | simp only [Addr.add,Nat.zero_add] at hx268_0 | skip);replace p268:=eq_true p268;replace q268:=eq_true q268;have p42:0≤(af:Int):=od_;have q42:(af:Int) < ((ai.length:Int):Int):=od_;obtain⟨hx42_0,hf42_0⟩:=Kd.R_celln false ak.out (af:Int) p42 q42;replace p42:=eq_true p42;replace q42:=eq_true q42;obtain⟨hy46_,hz46_⟩:=Kd.R_celln false ak.out (af:Int) od_ od_;have HP46:=Kd.R_putg ak.out (af:Int) true) | ((with_reducible refine gate_store (t:=4) (p:=54) rfl ?_);refine store_event (t:=4) (p:=54) (v:=?vo_w47) (w1:=(w45.setCell ⟨go21,(af:Int).toNat,none⟩ (.bool true))) ?hg ?ho ?hn ?hr ?_;(case ho=>rfl);(case hg=>rfl);(case hn=>rfl);(case hr=>first | (go_simp;done) | (go_simp;rfl));intro w47 hw;have hg:w45.grownBy w47 (some go21):=(by rw [hw];exact HP46.2);have hp_:Kd.R Kd.bool 4 w47 w.heap.size (fun _=>True) (.slice (some ⟨go21,0,none⟩) ai.length aW) bf:=(by rw [hw,bI.out];exact HP46.1);clear HP46;replace aa:=q_ (bg_ aa.out hg (Kd.R_ne ak.out aa.out (by decide)));replace aI:=q_ (Kd.R_over' (v:=(.slice (some ⟨go21,0,none⟩) ai.length aW)) (ro_ aI.out) (Kd.R_typed ak.out) (by decide) hg);replace HB:=q_ ((by rw [hw];exact below_set (HB.out) GB21.out:Below w.heap.size w w47));replace ak:=q_ (hp_);clear hg hw hp_))
                   (try simp only [← hl9_3])
                   go_roundg k3
                   case measure=>have:=HJ4.out;have:=HJ13.out;have:=HK3.out;omega
                   case rel=>exact⟨(af),(bf),(az),rs_,H',⟨by have:=HJ4.out;have:=HJ13.out;have:=HK3.out;omega⟩,⟨by(try simp only [hl9_3]);(with_reducible repeat (first | apply Kd.R_alloc | apply Kd.R_drewN | apply Kd.R_drew));exact ak.out⟩,⟨by(try simp only [hl9_3]);(with_reducible repeat (first | apply Kd.R_alloc | apply Kd.R_drewN | apply Kd.R_drew));exact aI.out⟩,⟨by(try simp only [hl9_3]);(with_reducible repeat (first | refine blk_drewN ?_ _ | refine blk_drew ?_ | refine blk_alloc ?_ _));exact aa.out⟩,⟨hb_⟩⟩
                 ·rw [if_neg c36] at H;exact absurd H (by simp)
                ·rw [if_neg c35] at H;exact absurd H (by simp)
               ·rw [if_neg c34] at H;exact absurd H (by simp)
             ·rw [if_neg c30] at H;exact absurd H (by simp)
            ·rw [if_neg c29] at H;exact absurd H (by simp)
         ·rw [if_neg c20] at H;exact absurd H (by simp)
        ·rw [if_neg c19] at H;exact absurd H (by simp)
       ·rw [if_neg c18] at H;exact absurd H (by simp)
      ·rw [if_neg c17] at H;exact absurd H (by simp)
     ·rw [if_neg c16] at H;have c16b0:=e3_ c16;have c16b1:=e4_ c16;simp only [Option.some.injEq,Prod.mk.injEq] at H;obtain⟨rfl,rfl⟩:=H;go_wp2
      go_ret2
      exact⟨_,by first | rfl | (simp [errW_none,errW_some] <;> rfl) | (simp [*,errW_none,errW_some] <;> rfl),by first | exact Kd.R_nil _ _ _ _ _ | exact Kd.N_nil _ _ _ _ _ | exact Kd.V_nil _ _ _ _ _ | exact Kd.Q_nil _ _ _ _ _ | exact Kd.S_nil _ _ _ _ _,hb_⟩
mutual
def impl_WalkByRule.j0:Nat→Int→Int→Bool→Int→List Int→Option (List Int × Int)
 | 0,_,_,_,_,_=>none
 | k+1,x1,x2,x21,ae,aa=>if x21=true then(some (([]:List Int),2)) else(impl_WalkByRule.l0 k x1 x2 (([x1]:List Int)) ae aa)
def impl_WalkByRule.l0:Nat→Int→Int→List Int→Int→List Int→Option (List Int × Int)
 | 0,_,_,_,_,_=>none
 | k+1,x1,x2,x8,ae,aa=>if 0≤x1 then(if x1 < (aa.length:Int) then(if(rd aa x1)=0 then(some (x8,0)) else((impl_Cube_next.f k ae aa x1 x2).bind fun af=>((slices_Contains_int64_int64.f k x8 af).bind fun ah=>(if x8.length < 17592186044416 then((some (x8++ [af]:List Int)).bind fun ag=>(if ah=true then(some (ag,0)) else(impl_WalkByRule.l0 k af x2 ag ae aa))) else(none))))) else(none)) else(none)
end
def impl_WalkByRule.f (k:Nat) (a0_0:Int) (aa:List Int) (a1:Int) (a2:Int):Option (List Int × Int):=(impl_IsCube.f k a0_0 aa).bind fun ae=>(if ae=true then((impl_Cube_isVertex.f a0_0 aa a1).bind fun af=>(if af=true then((impl_within.f a2 0 2).bind fun ag=>(impl_WalkByRule.j0 k a1 a2 (!ag) a0_0 aa)) else(impl_WalkByRule.j0 k a1 a2 true a0_0 aa))) else(some (([]:List Int),1)))
theorem impl_WalkByRule.mono_l: ∀k,(∀y0 y1 y2 y3 y4,LeO (impl_WalkByRule.j0 k y0 y1 y2 y3 y4) (impl_WalkByRule.j0 (k+1) y0 y1 y2 y3 y4))∧(∀y0 y1 y2 y3 y4,LeO (impl_WalkByRule.l0 k y0 y1 y2 y3 y4) (impl_WalkByRule.l0 (k+1) y0 y1 y2 y3 y4))
 | 0=>⟨fun _ _ _ _ _ r h=>by simp [impl_WalkByRule.j0] at h,fun _ _ _ _ _ r h=>by simp [impl_WalkByRule.l0] at h⟩
 | k+1=>by
  obtain⟨ih0,ih1⟩:=impl_WalkByRule.mono_l k
  refine⟨?_,?_⟩<;>intros<;>(first | unfold impl_WalkByRule.j0 | unfold impl_WalkByRule.l0)<;>(repeat' first | (with_reducible first | exact ih0 _ _ _ _ _ | exact ih1 _ _ _ _ _ | exact impl_Cube_next.mono _ _ _ _ _ | exact impl_IsCube.mono _ _ _ | exact slices_Contains_int64_int64.mono _ _ _ | exact LeO.refl _ | exact LeO.none _ | refine LeO.ite ?_ ?_ | refine LeO.bind ?_ (fun _=>?_)) | exact ih0 _ _ _ _ _ | exact ih1 _ _ _ _ _ | exact impl_Cube_next.mono _ _ _ _ _ | exact impl_IsCube.mono _ _ _ | exact slices_Contains_int64_int64.mono _ _ _ | exact LeO.none _ | refine LeO.ite ?_ ?_ | refine LeO.bind ?_ (fun _=>?_))
theorem impl_WalkByRule.mono: ∀a0 a1 a2 a3 k,LeO (impl_WalkByRule.f k a0 a1 a2 a3) (impl_WalkByRule.f (k+1) a0 a1 a2 a3):=by
 intro a0 a1 a2 a3 k
 obtain⟨ih0,ih1⟩:=impl_WalkByRule.mono_l k
 unfold impl_WalkByRule.f
 repeat' first | (with_reducible first | exact ih0 _ _ _ _ _ | exact ih1 _ _ _ _ _ | exact impl_Cube_next.mono _ _ _ _ _ | exact impl_IsCube.mono _ _ _ | exact slices_Contains_int64_int64.mono _ _ _ | exact LeO.refl _ | exact LeO.none _ | refine LeO.ite ?_ ?_ | refine LeO.bind ?_ (fun _=>?_)) | exact ih0 _ _ _ _ _ | exact ih1 _ _ _ _ _ | exact impl_Cube_next.mono _ _ _ _ _ | exact impl_IsCube.mono _ _ _ | exact slices_Contains_int64_int64.mono _ _ _ | exact LeO.none _ | refine LeO.ite ?_ ?_ | refine LeO.bind ?_ (fun _=>?_)
theorem impl_WalkByRule.calls (k:Nat) (a0_0:Int) (au:Option Addr) (ah:Nat) (ae:List Int) (a1:Int) (a2:Int) (r1:List Int) (r2:Int) (w:World) (aZ:Kd.C (Kd.int .i64) w au ae.length ae) (a9:ae.length≤ah) (h:impl_WalkByRule.f k a0_0 ae a1 a2=some (r1,r2)):
  Calls Tryz.prog 7 #[.agg #[.int .i64 a0_0, .slice au ae.length ah], .int .i64 a1, .int .i64 a2] w fun e w'=> ∃v0_:Value,e= .returned (.tuple #[v0_, .int .i64 r2])∧Kd.R (Kd.int .i64) 2 w' w.heap.size (fun _=>True) v0_ r1∧Below w.heap.size w w':=by
 have hu26:=Tryz.underlying26;have HR0_1:=q_ aZ;have HC0_1:=q_ a9;clear aZ a9;have HB:=q_ (Below.refl w.heap.size w);have H:((impl_IsCube.f k a0_0 ae).bind fun aT=>(if aT=true then((impl_Cube_isVertex.f a0_0 ae a1).bind fun ay=>(if ay=true then((impl_within.f a2 0 2).bind fun aw=>(impl_WalkByRule.j0 k a1 a2 (!aw) a0_0 ae)) else(impl_WalkByRule.j0 k a1 a2 true a0_0 ae))) else(some (([]:List Int),1))))=some (r1,r2):=h;clear h;replace H:=Option.bind_eq_some_iff.mp H;obtain⟨aT,A40,H⟩:=H;replace H:(if aT=true then((impl_Cube_isVertex.f a0_0 ae a1).bind fun ay=>(if ay=true then((impl_within.f a2 0 2).bind fun aw=>(impl_WalkByRule.j0 k a1 a2 (!aw) a0_0 ae)) else(impl_WalkByRule.j0 k a1 a2 true a0_0 ae))) else(some (([]:List Int),1)))=some (r1,r2):=H;have A4:=q_ A40;clear A40
 by_cases c5:aT=true
 ·subst c5;have H1:((impl_Cube_isVertex.f a0_0 ae a1).bind fun ay=>(if ay=true then((impl_within.f a2 0 2).bind fun aw=>(impl_WalkByRule.j0 k a1 a2 (!aw) a0_0 ae)) else(impl_WalkByRule.j0 k a1 a2 true a0_0 ae)))=some (r1,r2):=by rw [if_pos rfl] at H;exact H
  clear H;have H:=H1;clear H1;have HC6:=q_ H;clear H
  go_enter Tryz.func7,Tryz.ntmps7
  go_upto_region 3 with (first | ((with_reducible refine gate_dst (N:=3) rfl ?_);refine be_ 3 #[.int .i64 a0_0, .slice au ae.length ah] 26 ?_;intro af hg w7 hbox hb;have aa:=q_ (hbox);have bv:=q_ ((by rw [hg];exact bz_:w.heap.size≤af));have bw:=q_ ((by rw [hg];exact bz_:w.heap.size≤af));replace HB:=q_ (bs_ hb);clear hb hbox hg;have aV:=cz_ aa 0;have aW:=cz_ aa 1;have aX:=blk_frozen aa.out 0;have aY:=blk_frozen aa.out 1) | ((with_reducible refine gate_callee (f:=37) rfl ?_);refine gL_ 11 Tryz.func37 #[.agg #[.int .i64 a0_0, .slice au ae.length ah]] ?_;(with_reducible refine(impl_IsCube.calls k a0_0 _ _ ae true _ ?ai ?aj A4.out).mono ?_);(case ai=>exact cb_ HR0_1.out HB.out);(case aj=>exact HC0_1.out);rintro e w9 ⟨rfl,hb⟩;refine⟨_,rfl,?_⟩;replace aa:=q_ (bb_ aa.out hb);replace HB:=q_ (bs_ hb);(try clear hb);(try clear hk)))
  (try simp only [Act.put,List.setIfInBounds_toArray,List.set_cons_zero,List.set_cons_succ])
  go_cut [21] (fun v21 wc=> ∃(kq:Nat) (az:Bool),v21= .bool az∧Aside0 (impl_WalkByRule.j0 kq a1 a2 az a0_0 ae=some (r1,r2))∧Aside0 (kq≤k)∧Aside0 (wc.heap[af]?=some (.cells #[.int .i64 a0_0,(.slice au ae.length ah)] 26 (0,0)))∧Aside0 (Below w.heap.size w wc))
  case first=>
   have H:=HC6.out;clear HC6;replace H:=Option.bind_eq_some_iff.mp H;obtain⟨ay,A100,H⟩:=H;replace H:(if ay=true then((impl_within.f a2 0 2).bind fun aw=>(impl_WalkByRule.j0 k a1 a2 (!aw) a0_0 ae)) else(impl_WalkByRule.j0 k a1 a2 true a0_0 ae))=some (r1,r2):=H;have A10:=q_ A100;clear A100
   by_cases c11:ay=true
   ·subst c11;have H1:((impl_within.f a2 0 2).bind fun aw=>(impl_WalkByRule.j0 k a1 a2 (!aw) a0_0 ae))=some (r1,r2):=by rw [if_pos rfl] at H;exact H
    clear H;have H:=H1;clear H1;replace H:=Option.bind_eq_some_iff.mp H;obtain⟨aw,A120,H⟩:=H;replace H:(impl_WalkByRule.j0 k a1 a2 (!aw) a0_0 ae)=some (r1,r2):=H;have A12:=q_ A120;clear A120;have H':=q_ H;clear H;have aG:=cz_ aa 0;have aH:=cz_ aa 1;have aI:=blk_frozen aa.out 0;have aJ:=blk_frozen aa.out 1
    go_wp2_with (first | ((with_reducible refine gate_callee (f:=38) rfl ?_);refine gL_ 15 Tryz.func38 #[.agg #[.int .i64 a0_0, .slice au ae.length ah], .int .i64 a1] ?_;(with_reducible refine(impl_Cube_isVertex.calls a0_0 _ _ ae a1 true _ ?ai ?aj A10.out).mono ?_);(case ai=>exact cb_ HR0_1.out HB.out);(case aj=>exact HC0_1.out);rintro e w14 ⟨rfl,hb⟩;refine⟨_,rfl,?_⟩;replace aa:=q_ (bb_ aa.out hb);replace HB:=q_ (bs_ hb);(try clear hb);(try clear hk)) | (go_at_call 39;(with_reducible refine(impl_within.calls a2 0 2 aw _ A12.out).mono ?_);rintro e w' ⟨rfl,⟨nd,rfl⟩⟩))
    go_meet
    case rel=>exact⟨_,(!aw),rs_,H',⟨by first | omega | exact Nat.le_refl _⟩,⟨bk_⟩,⟨hb_⟩⟩
   ·replace c11:=Bool.eq_false_iff.mpr c11;subst c11;have H1:(impl_WalkByRule.j0 k a1 a2 true a0_0 ae)=some (r1,r2):=by rw [if_neg (show ¬ (false=true) by decide)] at H;exact H
    clear H;have H:=H1;clear H1;have H':=q_ H;clear H;have aK:=cz_ aa 0;have aM:=cz_ aa 1;have aN:=blk_frozen aa.out 0;have aQ:=blk_frozen aa.out 1
    go_wp2_with (first | ((with_reducible refine gate_callee (f:=38) rfl ?_);refine gL_ 15 Tryz.func38 #[.agg #[.int .i64 a0_0, .slice au ae.length ah], .int .i64 a1] ?_;(with_reducible refine(impl_Cube_isVertex.calls a0_0 _ _ ae a1 false _ ?ai ?aj A10.out).mono ?_);(case ai=>exact cb_ HR0_1.out HB.out);(case aj=>exact HC0_1.out);rintro e w16 ⟨rfl,hb⟩;refine⟨_,rfl,?_⟩;replace aa:=q_ (bb_ aa.out hb);replace HB:=q_ (bs_ hb);(try clear hb);(try clear hk)))
    go_meet
    case rel=>exact⟨_,(true),rs_,H',⟨by first | omega | exact Nat.le_refl _⟩,⟨bk_⟩,⟨hb_⟩⟩
  case rest=>
   clear HC6;(try clear c5);(try clear c11);(try clear aG);(try clear aH);(try clear aK);(try clear aM);(try clear aV);(try clear aW);(try clear aI);(try clear aJ);(try clear aN);(try clear aQ);(try clear aX);(try clear aY);obtain⟨kq,az,rfl,HA,HJ5,aa,HB⟩:=hcut;cases kq with
   | zero=>exact absurd HA.out (by simp [impl_WalkByRule.j0])
   | succ kj5=>
    have H:=HA.out;clear HA;simp only [impl_WalkByRule.j0] at H
    by_cases c17:az=true
    ·subst c17;have H1:(some (([]:List Int),2))=some (r1,r2):=by rw [if_pos rfl] at H;exact H
     clear H;have H:=H1;clear H1;simp only [Option.some.injEq,Prod.mk.injEq] at H;obtain⟨rfl,rfl⟩:=H;go_wp2
     go_ret2
     exact⟨_,by first | rfl | (simp [errW_none,errW_some] <;> rfl) | (simp [*,errW_none,errW_some] <;> rfl),by first | exact Kd.R_nil _ _ _ _ _ | exact Kd.N_nil _ _ _ _ _ | exact Kd.V_nil _ _ _ _ _ | exact Kd.Q_nil _ _ _ _ _ | exact Kd.S_nil _ _ _ _ _,hb_⟩
    ·replace c17:=Bool.eq_false_iff.mpr c17;subst c17;have H1:(impl_WalkByRule.l0 kj5 a1 a2 (([a1]:List Int)) a0_0 ae)=some (r1,r2):=by rw [if_neg (show ¬ (false=true) by decide)] at H;exact H
     clear H;have H:=H1;clear H1;obtain⟨bh,hy⟩: ∃y_:List Int,y_=(([a1]:List Int)):=⟨_,rfl⟩
     replace H:(impl_WalkByRule.l0 kj5 a1 a2 bh a0_0 ae)=some (r1,r2):=hh_;have ba:=q_ hy;clear hy;have H':=q_ H;clear H
     go_wp2_with (first | ((with_reducible refine gate_dst (N:=23) rfl ?_);refine Kd.R_lit (Kd.int .i64) _ 2 ?hg (N:=23) ?hd (xs:=([a1]:List Int)) (inner:= [.int .i64 a1]) (ok:=fun _=>True) (okp:=fun _=>True) ?hr ?hp (fun _ hk=>hk) trivial (Below.refl _ _) (Nat.le_refl _) (by simp) ?_;(case hd=>rfl);(case hg=>rfl);(case hr=>first | (go_simp;done) | (go_simp;rfl));(case hp=>exact(Reps.one (show Kd.M (Kd.int .i64) _ _ _ a1 [.int .i64 a1] from rfl) (Reps.none _ _)));intro bV w18 aC hb hg_ hnew_;clear hg_ hnew_;(first | rw [← ba.out] at aC | (simp only [Int.reduceToNat] at aC;rw [← ba.out] at aC));have bz:=q_ (Kd.R_lower aC bz_);replace aa:=q_ (bb_ aa.out hb);replace HB:=q_ (bs_ hb);clear hb aC))
     go_loopg [1,8] kj5 (fun kq v1 v8 w'=> ∃(ag:Int) (aq:List Int),v1= .int .i64 ag∧Aside0 (impl_WalkByRule.l0 kq ag a2 aq a0_0 ae=some (r1,r2))∧Aside0 (kq≤kj5)∧Aside0 (Kd.R (Kd.int .i64) 2 w' w.heap.size (fun _=>True) v8 aq)∧Aside0 (w'.heap[af]?=some (.cells #[.int .i64 a0_0,(.slice au ae.length ah)] 26 (0,0)))∧Aside0 (Below w.heap.size w w'))
     case atStart=>exact⟨(a1),(bh),rs_,H',⟨Nat.le_refl _⟩,⟨ro_ bz.out⟩,⟨bk_⟩,⟨hb_⟩⟩
     case round=>
      clear H';(try clear c5);(try clear c11);(try clear c17);(try clear aG);(try clear aH);(try clear aK);(try clear aM);(try clear aV);(try clear aW);(try clear aI);(try clear aJ);(try clear aN);(try clear aQ);(try clear aX);(try clear aY);obtain⟨ag,aq,rfl,HA,HK2,av,aa,HB⟩:=hrel;cases gk with
      | zero=>exact absurd HA.out (by simp [impl_WalkByRule.l0])
      | succ k2=>
       have H:=HA.out;clear HA;simp only [impl_WalkByRule.l0] at H
       by_cases c20:0≤ag
       ·rw [if_pos c20] at H;have c20b0:=decide_eq_true c20;clear c20
        by_cases c21:ag < (ae.length:Int)
        ·rw [if_pos c21] at H;have c21b0:=decide_eq_true c21;clear c21
         by_cases c22:(rd ae ag)=0
         ·rw [if_pos c22] at H;have c22b0:=e1_ c22;have c22b1:=e2_ c22;clear c22;simp only [Option.some.injEq,Prod.mk.injEq] at H;obtain⟨rfl,rfl⟩:=H;have bE:=cz_ aa 0;have bF:=cz_ aa 1;have bG:=blk_frozen aa.out 0;have bH:=blk_frozen aa.out 1;have p230:0≤(ag:Int):=od_;have q230:ag < (ae.length:Int):=od_;obtain⟨aA,e230,hx230_0⟩:=Kd.at_int HR0_1.out ag p230 q230;cases e230
          replace hx230_0:=(HB.out.cell (World.block_lt_of_cell? w _ hx230_0)).trans hx230_0;replace p230:=eq_true p230;replace q230:=eq_true q230;go_wp2
          go_ret2
          exact⟨_,by first | rfl | (simp [errW_none,errW_some] <;> rfl) | (simp [*,errW_none,errW_some] <;> rfl),ro_ av.out,hb_⟩
         ·rw [if_neg c22] at H;have c22b0:=e3_ c22;have c22b1:=e4_ c22;replace H:=Option.bind_eq_some_iff.mp H;obtain⟨ak,A240,H⟩:=H;replace H:((slices_Contains_int64_int64.f k2 aq ak).bind fun aD=>(if aq.length < 17592186044416 then((some (aq++ [ak]:List Int)).bind fun ax=>(if aD=true then(some (ax,0)) else(impl_WalkByRule.l0 k2 ak a2 ax a0_0 ae))) else(none)))=some (r1,r2):=H;have A24:=q_ A240;clear A240;replace H:=Option.bind_eq_some_iff.mp H;obtain⟨aD,A250,H⟩:=H;replace H:(if aq.length < 17592186044416 then((some (aq++ [ak]:List Int)).bind fun ax=>(if aD=true then(some (ax,0)) else(impl_WalkByRule.l0 k2 ak a2 ax a0_0 ae))) else(none))=some (r1,r2):=H;have A25:=q_ A250;clear A250
          by_cases c26:aq.length < 17592186044416
          ·rw [if_pos c26] at H;have bf:=q_ c26;clear c26;obtain⟨ax,hy⟩: ∃y_:List Int,y_=(aq++ [ak]):=⟨_,rfl⟩
           replace H:(if aD=true then(some (ax,0)) else(impl_WalkByRule.l0 k2 ak a2 ax a0_0 ae))=some (r1,r2):=hh_;have bg:=q_ hy;clear hy
           by_cases c27:aD=true
           ·subst c27;have H1:(some (ax,0))=some (r1,r2):=by rw [if_pos rfl] at H;exact H
            clear H;have H:=H1;clear H1;simp only [Option.some.injEq,Prod.mk.injEq] at H;obtain⟨rfl,rfl⟩:=H;have bI:=cz_ aa 0;have bJ:=cz_ aa 1;have bK:=blk_frozen aa.out 0;have bL:=blk_frozen aa.out 1;have p230:0≤(ag:Int):=od_;have q230:ag < (ae.length:Int):=od_;obtain⟨aA,e230,hx230_0⟩:=Kd.at_int HR0_1.out ag p230 q230;cases e230
            replace hx230_0:=(HB.out.cell (World.block_lt_of_cell? w _ hx230_0)).trans hx230_0;replace p230:=eq_true p230;replace q230:=eq_true q230
            go_wp2_with (first | ((with_reducible refine gate_callee (f:=40) rfl ?_);refine gL_ 33 Tryz.func40 #[.agg #[.int .i64 a0_0, .slice (some aA) ae.length ah], .int .i64 ag, .int .i64 a2] ?_;(with_reducible refine(impl_Cube_next.calls k2 a0_0 _ _ ae ag a2 ak _ ?ai ?aj A24.out).mono ?_);(case ai=>exact cb_ HR0_1.out HB.out);(case aj=>exact HC0_1.out);rintro e w29 ⟨rfl,hb⟩;refine⟨_,rfl,?_⟩;replace av:=q_ (rb_ av.out hb);replace aa:=q_ (bb_ aa.out hb);replace HB:=q_ (bs_ hb);(try clear hb);(try clear hk);obtain⟨bi,bk,bA⟩:=Kd.R_slice av.out;subst bA) | ((with_reducible refine gate_callee (f:=41) rfl ?_);refine gL_ 36 Tryz.func41 #[.slice bi aq.length bk, .int .i64 ak] ?_;(with_reducible refine(slices_Contains_int64_int64.calls k2 _ _ aq ak true _ ?ai ?aj A25.out).mono ?_);(case ai=>repeat (first | exact(Kd.R_reads' av.out).2.2 | (with_reducible refine Kd.C_alloc ?_ _) | (with_reducible refine Kd.C_drewN ?_ _) | (with_reducible refine Kd.C_drew ?_)));(case aj=>exact(Kd.R_reads' av.out).2.1);rintro e w' ⟨rfl,⟨nd,rfl⟩⟩;refine⟨_,rfl,?_⟩) | ((with_reducible refine gate_builtin (b:= .append) (xs:= #[.tmp 37, .tmp 39]) rfl ?_);at_builtin;refine Kd.R_append (Kd.int .i64) (w0:=w) w.heap.size rfl (.tmp 37) (.tmp 39) 24 2 (.int .i64 0) 8 rfl Tryz.underlying24 info2 rfl (by decide) (by omega) (.slice bi aq.length bk) aq ak [.int .i64 ak] (fun _=>True) (fun _=>False) rfl rfl ?aP (fun _ hk=>hk.elim) ?aF ?aO ?aB ?aS ?aL ?_;(case aP=>exact rfl);(case aB=>exact hb_);(case aF=>exact(fun _ _=>trivial));(case aO=>exact(ro_ av.out));(case aS=>exact bz_);(case aL=>have:=bf.out;omega);intro bC w31 ho hb hg hat;rw [← bg.out] at ho;replace aa:=q_ (bg_ aa.out hg (Kd.R_ne av.out aa.out (by decide)));replace HB:=q_ (hb);have aU:=q_ (ho);clear av ho hb hg hat))
            go_ret2
            exact⟨_,by first | rfl | (simp [errW_none,errW_some] <;> rfl) | (simp [*,errW_none,errW_some] <;> rfl),ro_ aU.out,hb_⟩
           ·replace c27:=Bool.eq_false_iff.mpr c27;subst c27;have H1:(impl_WalkByRule.l0 k2 ak a2 ax a0_0 ae)=some (r1,r2):=by rw [if_neg (show ¬ (false=true) by decide)] at H;exact H
            clear H;have H:=H1;clear H1;have H':=q_ H;clear H;have bM:=cz_ aa 0;have bN:=cz_ aa 1;have bO:=blk_frozen aa.out 0;have bP:=blk_frozen aa.out 1;have p230:0≤(ag:Int):=od_;have q230:ag < (ae.length:Int):=od_;obtain⟨aA,e230,hx230_0⟩:=Kd.at_int HR0_1.out ag p230 q230;cases e230
            replace hx230_0:=(HB.out.cell (World.block_lt_of_cell? w _ hx230_0)).trans hx230_0;replace p230:=eq_true p230;replace q230:=eq_true q230
            go_wp2_with (first | ((with_reducible refine gate_callee (f:=40) rfl ?_);refine gL_ 33 Tryz.func40 #[.agg #[.int .i64 a0_0, .slice (some aA) ae.length ah], .int .i64 ag, .int .i64 a2] ?_;(with_reducible refine(impl_Cube_next.calls k2 a0_0 _ _ ae ag a2 ak _ ?ai ?aj A24.out).mono ?_);(case ai=>exact cb_ HR0_1.out HB.out);(case aj=>exact HC0_1.out);rintro e w33 ⟨rfl,hb⟩;refine⟨_,rfl,?_⟩;replace av:=q_ (rb_ av.out hb);replace aa:=q_ (bb_ aa.out hb);replace HB:=q_ (bs_ hb);(try clear hb);(try clear hk);obtain⟨bq,bu,bD⟩:=Kd.R_slice av.out;subst bD) | ((with_reducible refine gate_callee (f:=41) rfl ?_);refine gL_ 36 Tryz.func41 #[.slice bq aq.length bu, .int .i64 ak] ?_;(with_reducible refine(slices_Contains_int64_int64.calls k2 _ _ aq ak false _ ?ai ?aj A25.out).mono ?_);(case ai=>repeat (first | exact(Kd.R_reads' av.out).2.2 | (with_reducible refine Kd.C_alloc ?_ _) | (with_reducible refine Kd.C_drewN ?_ _) | (with_reducible refine Kd.C_drew ?_)));(case aj=>exact(Kd.R_reads' av.out).2.1);rintro e w' ⟨rfl,⟨nd,rfl⟩⟩;refine⟨_,rfl,?_⟩) | ((with_reducible refine gate_builtin (b:= .append) (xs:= #[.tmp 37, .tmp 39]) rfl ?_);at_builtin;refine Kd.R_append (Kd.int .i64) (w0:=w) w.heap.size rfl (.tmp 37) (.tmp 39) 24 2 (.int .i64 0) 8 rfl Tryz.underlying24 info2 rfl (by decide) (by omega) (.slice bq aq.length bu) aq ak [.int .i64 ak] (fun _=>True) (fun _=>False) rfl rfl ?aP (fun _ hk=>hk.elim) ?aF ?aO ?aB ?aS ?aL ?_;(case aP=>exact rfl);(case aB=>exact hb_);(case aF=>exact(fun _ _=>trivial));(case aO=>exact(ro_ av.out));(case aS=>exact bz_);(case aL=>have:=bf.out;omega);intro bC w35 ho hb hg hat;rw [← bg.out] at ho;replace aa:=q_ (bg_ aa.out hg (Kd.R_ne av.out aa.out (by decide)));replace HB:=q_ (hb);have aU:=q_ (ho);clear av ho hb hg hat))
            go_roundg k2
            case measure=>have:=HJ5.out;have:=HK2.out;omega
            case rel=>exact⟨(ak),(ax),rs_,H',⟨by have:=HJ5.out;have:=HK2.out;omega⟩,⟨ro_ aU.out⟩,⟨bk_⟩,⟨hb_⟩⟩
          ·rw [if_neg c26] at H;exact absurd H (by simp)
        ·rw [if_neg c21] at H;exact absurd H (by simp)
       ·rw [if_neg c20] at H;exact absurd H (by simp)
 ·replace c5:=Bool.eq_false_iff.mpr c5;subst c5;have H1:(some (([]:List Int),1))=some (r1,r2):=by rw [if_neg (show ¬ (false=true) by decide)] at H;exact H
  clear H;have H:=H1;clear H1;simp only [Option.some.injEq,Prod.mk.injEq] at H;obtain⟨rfl,rfl⟩:=H
  go_enter Tryz.func7,Tryz.ntmps7
  go_wp2_with (first | ((with_reducible refine gate_dst (N:=3) rfl ?_);refine be_ 3 #[.int .i64 a0_0, .slice au ae.length ah] 26 ?_;intro af hg w36 hbox hb;have aa:=q_ (hbox);have bv:=q_ ((by rw [hg];exact bz_:w.heap.size≤af));have bw:=q_ ((by rw [hg];exact bz_:w.heap.size≤af));replace HB:=q_ (bs_ hb);clear hb hbox hg;have bQ:=cz_ aa 0;have bS:=cz_ aa 1;have bT:=blk_frozen aa.out 0;have bU:=blk_frozen aa.out 1) | ((with_reducible refine gate_callee (f:=37) rfl ?_);refine gL_ 11 Tryz.func37 #[.agg #[.int .i64 a0_0, .slice au ae.length ah]] ?_;(with_reducible refine(impl_IsCube.calls k a0_0 _ _ ae false _ ?ai ?aj A4.out).mono ?_);(case ai=>exact cb_ HR0_1.out HB.out);(case aj=>exact HC0_1.out);rintro e w38 ⟨rfl,hb⟩;refine⟨_,rfl,?_⟩;replace aa:=q_ (bb_ aa.out hb);replace HB:=q_ (bs_ hb);(try clear hb);(try clear hk)))
  go_ret2
  exact⟨_,by first | rfl | (simp [errW_none,errW_some] <;> rfl) | (simp [*,errW_none,errW_some] <;> rfl),by first | exact Kd.R_nil _ _ _ _ _ | exact Kd.N_nil _ _ _ _ _ | exact Kd.V_nil _ _ _ _ _ | exact Kd.Q_nil _ _ _ _ _ | exact Kd.S_nil _ _ _ _ _,hb_⟩
end Go.Proofs.YthmfdplckdijdaaGreat.Pr
end
section
namespace Go.Proofs.YthmfdplckdijdaaGreat.Cu
open Go.RowKit Go.Proofs.YthmfdplckdijdaaGreatW.PrintWords Go.Proofs.YthmfdplckdijdaaGreatW.PrintMore Go.Proofs.YthmfdplckdijdaaGreat.Ma Go.Proofs.YthmfdplckdijdaaGreat.Pr Go.Proofs.YthmfdplckdijdaaGreat.Us Go.Proofs.YthmfdplckdijdaaGreat.Sl
theorem low_fin: ∀s:Fin 32,s.val≠0→ ∃i,i < 5∧s.val.testBit i=true∧(∀j,j < i→s.val.testBit j=false)∧Go.bits .and .i64 (s.val:Int) (wrap64 (-(s.val:Int)))=((2 ^ i:Nat):Int):=by decide+kernel
theorem high_fin: ∀s:Fin 32,s.val≠0→(2 ^ s.val.log2≤s.val∧s.val < 2 ^ (s.val.log2+1)∧s.val.log2 < 5)∧(s.val &&& (s.val - 1)=0→s.val=2 ^ s.val.log2)∧(s.val &&& (s.val - 1)≠0→(s.val &&& (s.val - 1)).log2=s.val.log2∧s.val &&& (s.val - 1) < s.val):=by decide+kernel
theorem low_of {s:Nat} (h0:s≠0) (h:s < 32): ∃i,i < 5∧s.testBit i=true∧(∀j,j < i→s.testBit j=false)∧Go.bits .and .i64 (s:Int) (wrap64 (-(s:Int)))=((2 ^ i:Nat):Int):=low_fin ⟨s,h⟩ h0
theorem high_of {s:Nat} (h0:s≠0) (h:s < 32):(2 ^ s.log2≤s∧s < 2 ^ (s.log2+1)∧s.log2 < 5)∧(s &&& (s - 1)=0→s=2 ^ s.log2)∧(s &&& (s - 1)≠0→(s &&& (s - 1)).log2=s.log2∧s &&& (s - 1) < s):=high_fin ⟨s,h⟩ h0
theorem pow5 {i:Nat} (h:i < 5):2 ^ i≤16:=Nat.pow_le_pow_right (n:=2) (by decide) (show i≤4 by omega)
theorem and_pow_zero {s i:Nat} (hs:s < 32) (hi:i < 5):Go.bits .and .i64 (s:Int) ((2 ^ i:Nat):Int)=0↔s.testBit i=false:=by
 have h16:=pow5 hi
 have e2:((2 ^ i:Nat):Int)=2 ^ i:=by simp
 rw [e2,and_pow _ (by omega),bB_nat _ _ (by omega)]
 have hp:(2:Int) ^ i≠0:=Int.ne_of_gt (Int.pow_pos (by decide))
 cases s.testBit i <;> simp [hp]
theorem great_bit: ∀n s:Nat,s≤n→s≠0→s < 32→Ev (fun k=>impl_greatestBit.l0 k (s:Int)) ((2 ^ s.log2:Nat):Int):=by
 intro n
 induction n with
 | zero=>intro s h h0;omega
 | succ n ih=>
  intro s h h0 h32
  obtain⟨_,c1,c2⟩:=high_of h0 h32
  have e:Go.bits .and .i64 (s:Int) (wrap64 ((s:Int) - 1))=((s &&& (s - 1):Nat):Int):=by
   rw [w64 (by omega) (by omega),show (s:Int) - 1=((s - 1:Nat):Int) from by omega]
   exact and_nat (by omega) (by omega)
  refine evstep (fun k=>by rw [impl_greatestBit.l0]) ?_
  rw [e]
  by_cases c:s &&& (s - 1)=0
  ·refine evpos (by omega) (evc ?_)
   rw [← c1 c]
  ·obtain⟨d1,d2⟩:=c2 c
   refine evneg (by omega) ?_
   have:=ih (s &&& (s - 1)) (by omega) c (by omega)
   rw [d1] at this
   exact this
section
variable {d:Nat} {l:List Int} (ok:CubeOK d l)
include ok
theorem next_low {v:Nat} (hv:v < l.length) {i:Nat} (hi:i < 5) (hb:(sN l v).testBit i=true) (hz: ∀j,j < i→(sN l v).testBit j=false): ∀m j,j+m=i→Ev (fun k=>spec_l06Next.l0 k v ((2 ^ j:Nat):Int) d l) ((v ^^^ 2 ^ i:Nat):Int):=by
 have h32:=ok32 ok
 obtain⟨ea,la⟩:=at_nat ok hv
 have hs:sN l v < 32:=by have:=pow_le ok.2.1;omega
 have h16:=pow5 hi
 intro m
 induction m with
 | zero=>
  intro j hj
  obtain rfl:j=i:=by omega
  refine evstep (fun k=>by rw [spec_l06Next.l0]) (evpos (by omega) (evpos (by omega) ?_))
  rw [rd_nat,show l.getD v 0=(sN l v:Int) from ea]
  refine evneg (fun h=>by rw [(and_pow_zero hs hi).1 h] at hb;cases hb) (evc ?_)
  rw [xor_nat (by omega) (by omega)]
 | succ m ih=>
  intro j hj
  have hp:=pow5 (show j < 5 by omega)
  have hq:(0:Int)≤((2 ^ j:Nat):Int):=Int.natCast_nonneg _
  refine evstep (fun k=>by rw [spec_l06Next.l0]) (evpos (by omega) (evpos (by omega) ?_))
  rw [rd_nat,show l.getD v 0=(sN l v:Int) from ea]
  refine evpos ((and_pow_zero hs (by omega)).2 (hz j (by omega))) ?_
  have:=ih (j+1) (by omega)
  rw [w64 (by omega) (by omega),show 2*((2 ^ j:Nat):Int)=((2 ^ (j+1):Nat):Int) from by rw [Nat.pow_succ];omega]
  exact this
theorem next_high {v:Nat} (hv:v < l.length) (h0:sN l v≠0): ∀m j,j+m=(sN l v).log2→Ev (fun k=>spec_l06Next.l1 k v ((2 ^ j:Nat):Int) d l) ((v ^^^ 2 ^ (sN l v).log2:Nat):Int):=by
 have h32:=ok32 ok
 obtain⟨ea,la⟩:=at_nat ok hv
 have hs:sN l v < 32:=by have:=pow_le ok.2.1;omega
 obtain⟨⟨g1,g2,g3⟩,_⟩:=high_of h0 hs
 intro m
 induction m with
 | zero=>
  intro j hj
  obtain rfl:j=(sN l v).log2:=by omega
  have hp:=pow5 g3
  have hq:(0:Int)≤((2 ^ (sN l v).log2:Nat):Int):=Int.natCast_nonneg _
  refine evstep (fun k=>by rw [spec_l06Next.l1]) (evpos (by omega) (evpos (by omega) ?_))
  rw [rd_nat,show l.getD v 0=(sN l v:Int) from ea,w64 (by omega) (by omega)]
  refine evneg (by rw [Nat.pow_succ] at g2;omega) (evc ?_)
  rw [xor_nat (by omega) (by omega)]
 | succ m ih=>
  intro j hj
  have hp:=pow5 (show j < 5 by omega)
  have hq:(0:Int)≤((2 ^ j:Nat):Int):=Int.natCast_nonneg _
  have hle:2 ^ (j+1)≤2 ^ (sN l v).log2:=Nat.pow_le_pow_right (by decide) (by omega)
  refine evstep (fun k=>by rw [spec_l06Next.l1]) (evpos (by omega) (evpos (by omega) ?_))
  rw [rd_nat,show l.getD v 0=(sN l v:Int) from ea,w64 (by omega) (by omega),show 2*((2 ^ j:Nat):Int)=((2 ^ (j+1):Nat):Int) from by rw [Nat.pow_succ];omega]
  exact evpos (by omega) (ih (j+1) (by omega))
theorem next_same {v:Nat} (hv:v < l.length) (h0:sN l v≠0) (rule:Int) (hr:0≤rule∧rule≤2): ∃u:Nat,u < l.length∧Ev (fun k=>spec_l06Next.f k d l v rule) (u:Int)∧Ev (fun k=>impl_Cube_next.f k d l v rule) (u:Int):=by
 have h32:=ok32 ok
 have hlen:=ok.2.2.1
 obtain⟨ea,la⟩:=at_nat ok hv
 have hs:sN l v < 32:=by have:=pow_le ok.2.1;omega
 unfold spec_l06Next.f impl_Cube_next.f
 rw [rd_nat,show l.getD v 0=(sN l v:Int) from ea]
 by_cases c2:rule=2
 ·refine⟨v ^^^ sN l v,by rw [hlen];exact Nat.xor_lt_two_pow (by omega) la,?_,?_⟩
  ·refine evpos c2 (evpos (by omega) (evpos (by omega) (evc ?_)))
   rw [xor_nat (by omega) (by omega)]
  ·refine evpos (by omega) (evpos (by omega) (evneg (by omega) (evneg (by omega) (evc ?_))))
   rw [xor_nat (by omega) (by omega)]
 ·by_cases c0:rule=0
  ·obtain⟨i,hi,hb,hz,hneg⟩:=low_of h0 hs
   have hid:i < d:=bit_lt la hb
   refine⟨v ^^^ 2 ^ i,xor_lt hlen hv hid,?_,?_⟩
   ·refine evneg c2 (evpos c0 ?_)
    exact next_low ok hv hi hb hz i 0 (by omega)
   ·refine evpos (by omega) (evpos (by omega) (evpos c0 (evc ?_)))
    rw [hneg,xor_nat (by omega) (by have:=pow5 hi;omega)]
  ·obtain⟨⟨g1,g2,g3⟩,_⟩:=high_of h0 hs
   have hid:(sN l v).log2 < d:=by
    rcases Nat.lt_or_ge (sN l v).log2 d with h | h
    ·exact h
    ·have:=Nat.pow_le_pow_right (n:=2) (by decide) h;omega
   refine⟨v ^^^ 2 ^ (sN l v).log2,xor_lt hlen hv hid,?_,?_⟩
   ·refine evneg c2 (evneg c0 ?_)
    exact next_high ok hv h0 (sN l v).log2 0 (by omega)
   ·refine evpos (by omega) (evpos (by omega) (evneg c0 (evpos (by omega) (evbind (great_bit _ _ (Nat.le_refl _) h0 hs) (evc ?_)))))
    rw [xor_nat (by omega) (by have:=pow5 g3;omega)]
end
def left_:List Bool→Nat
 | []=>0
 | b::l=>(if b then 0 else 1)+left_ l
theorem left_set: ∀(m:List Bool) (i:Nat),i < m.length→m.getD i false=false→left_ (m.set i true)+1=left_ m
 | [],i,h,_=>by simp at h
 | b::m,0,_,h=>by
  have:b=false:=by simpa using h
  subst this
  simp [left_]
  omega
 | b::m,i+1,h,hb=>by
  have:=left_set m i (by simpa using h) (by simpa using hb)
  simp only [List.set_cons_succ,left_]
  omega
theorem rdOf_nat (m:List Bool) (i:Nat):rdOf false m (i:Int)=m.getD i false:=by simp [rdOf]
theorem walk_same {d:Nat} {l:List Int} (ok:CubeOK d l) (rule:Int) (hr:0≤rule∧rule≤2): ∀c (met:List Bool) (v:Nat) (out:List Int),met.length=l.length→left_ met=c→v < l.length→(∀u:Nat,u < l.length→(met.getD u false=true↔(u:Int) ∈ out))→out.length+c≤64→
  ∃r:List Int,r.length≤out.length+c+1∧Ev (fun k=>spec_WalkByRule.l0 k v rule met out d l) (r,0)∧Ev (fun k=>impl_WalkByRule.l0 k v rule out d l) (r,0):=by
 have h32:=ok32 ok
 intro c
 induction c with
 | zero=>
  intro met v out hm hc hv hin ho
  obtain⟨ea,la⟩:=at_nat ok hv
  by_cases h0:sN l v=0
  ·refine⟨out,by omega,?_,?_⟩
   ·refine evstep (fun k=>by rw [spec_WalkByRule.l0]) (evpos (by omega) (evpos (by omega) ?_))
    rw [rd_nat,show l.getD v 0=(sN l v:Int) from ea]
    exact evpos (by omega) (evc rfl)
   ·refine evstep (fun k=>by rw [impl_WalkByRule.l0]) (evpos (by omega) (evpos (by omega) ?_))
    rw [rd_nat,show l.getD v 0=(sN l v:Int) from ea]
    exact evpos (by omega) (evc rfl)
  ·obtain⟨u,hu,e1,e2⟩:=next_same ok hv h0 rule hr
   have hmet:met.getD u false=true:=by
    cases hq:met.getD u false
    ·have:=left_set met u (by omega) hq;omega
    ·rfl
   refine⟨out++ [(u:Int)],by simp,?_,?_⟩
   ·refine evstep (fun k=>by rw [spec_WalkByRule.l0]) (evpos (by omega) (evpos (by omega) ?_))
    rw [rd_nat,show l.getD v 0=(sN l v:Int) from ea]
    refine evneg (by omega) (evbind e1 (evpos (by omega) (evsome rfl (evpos (by omega) (evpos (by omega) ?_)))))
    rw [rdOf_nat]
    exact evpos hmet (evc rfl)
   ·refine evstep (fun k=>by rw [impl_WalkByRule.l0]) (evpos (by omega) (evpos (by omega) ?_))
    rw [rd_nat,show l.getD v 0=(sN l v:Int) from ea]
    refine evneg (by omega) (evbind e2 (evbind (contains_eq out u (by omega)) (evpos (by omega) (evsome rfl ?_))))
    exact evpos (by simpa using (hin u hu).1 hmet) (evc rfl)
 | succ c ih=>
  intro met v out hm hc hv hin ho
  obtain⟨ea,la⟩:=at_nat ok hv
  by_cases h0:sN l v=0
  ·refine⟨out,by omega,?_,?_⟩
   ·refine evstep (fun k=>by rw [spec_WalkByRule.l0]) (evpos (by omega) (evpos (by omega) ?_))
    rw [rd_nat,show l.getD v 0=(sN l v:Int) from ea]
    exact evpos (by omega) (evc rfl)
   ·refine evstep (fun k=>by rw [impl_WalkByRule.l0]) (evpos (by omega) (evpos (by omega) ?_))
    rw [rd_nat,show l.getD v 0=(sN l v:Int) from ea]
    exact evpos (by omega) (evc rfl)
  ·obtain⟨u,hu,e1,e2⟩:=next_same ok hv h0 rule hr
   cases hmet:met.getD u false with
   | true=>
    refine⟨out++ [(u:Int)],by simp,?_,?_⟩
    ·refine evstep (fun k=>by rw [spec_WalkByRule.l0]) (evpos (by omega) (evpos (by omega) ?_))
     rw [rd_nat,show l.getD v 0=(sN l v:Int) from ea]
     refine evneg (by omega) (evbind e1 (evpos (by omega) (evsome rfl (evpos (by omega) (evpos (by omega) ?_)))))
     rw [rdOf_nat]
     exact evpos hmet (evc rfl)
    ·refine evstep (fun k=>by rw [impl_WalkByRule.l0]) (evpos (by omega) (evpos (by omega) ?_))
     rw [rd_nat,show l.getD v 0=(sN l v:Int) from ea]
     refine evneg (by omega) (evbind e2 (evbind (contains_eq out u (by omega)) (evpos (by omega) (evsome rfl ?_))))
     exact evpos (by simpa using (hin u hu).1 hmet) (evc rfl)
   | false=>
    have hleft:=left_set met u (by omega) hmet
    have hnew: ∀x:Nat,x < l.length→((met.set u true).getD x false=true↔(x:Int) ∈ out++ [(u:Int)]):=by
     intro x hx
     by_cases e:x=u
     ·subst e
      simp [show x < met.length from by omega]
     ·have:(met.set u true).getD x false=met.getD x false:=by simp [Ne.symm e]
      rw [this,hin x hx]
      simp
      omega
    obtain⟨r,hlen,r1,r2⟩:=ih (met.set u true) u (out++ [(u:Int)]) (by simp;omega) (by omega) hu hnew (by simp;omega)
    refine⟨r,by simp at hlen;omega,?_,?_⟩
    ·refine evstep (fun k=>by rw [spec_WalkByRule.l0]) (evpos (by omega) (evpos (by omega) ?_))
     rw [rd_nat,show l.getD v 0=(sN l v:Int) from ea]
     refine evneg (by omega) (evbind e1 (evpos (by omega) (evsome rfl (evpos (by omega) (evpos (by omega) ?_)))))
     rw [rdOf_nat,Int.toNat_natCast]
     exact evneg (by rw [hmet];decide) r1
    ·refine evstep (fun k=>by rw [impl_WalkByRule.l0]) (evpos (by omega) (evpos (by omega) ?_))
     rw [rd_nat,show l.getD v 0=(sN l v:Int) from ea]
     refine evneg (by omega) (evbind e2 (evbind (contains_eq out u (by omega)) (evpos (by omega) (evsome rfl ?_))))
     have hno: ¬ (u:Int) ∈ out:=fun h=>by rw [(hin u hu).2 h] at hmet;cases hmet
     exact evneg (by simpa using hno) r2
theorem left_rep (n:Nat):left_ (List.replicate n false)=n:=by
 induction n with
 | zero=>rfl
 | succ n ih=>rw [List.replicate_succ,left_,ih];simp;omega
theorem walks (d:Int) (l:List Int) (v rule:Int): ∃r:List Int × Int,r.1.length≤64∧Ev (fun k=>spec_WalkByRule.f k d l v rule) r∧Ev (fun k=>impl_WalkByRule.f k d l v rule) r:=by
 classical
 obtain⟨c1,c2,c3⟩:=codeR_one d l v
 have hcode:=spec_code d l [v] (by simp)
 have his:=impl_is d l (decide (IsC d l)) (by simp)
 unfold spec_WalkByRule.f impl_WalkByRule.f
 by_cases h:IsC d l
 ·obtain⟨n,rfl⟩:=Int.eq_ofNat_of_zero_le h.1
  have ok:CubeOK n l:=h.2
  have h32:=ok32 ok
  by_cases e:IsV l v
  ·by_cases hr:0≤rule∧rule≤2
   ·obtain⟨x,rfl⟩:=Int.eq_ofNat_of_zero_le e.1
    have hx:x < l.length:=by have:=e.2;omega
    have hl0:=left_set (List.replicate l.length false) x (by simpa using hx) (by simp [hx])
    rw [left_rep] at hl0
    obtain⟨r,hlen,r1,r2⟩:=walk_same ok rule hr _ ((List.replicate l.length false).set x true) x [(x:Int)] (by simp) rfl hx (fun u hu=>by
     by_cases q:u=x
     ·subst q;simp [hu]
     ·simp [Ne.symm q,hu];omega) (by simp;omega)
    refine⟨(r,0),by simp at hlen ⊢;omega,?_,?_⟩
    ·refine evbind hcode ?_
     rw [c1 ⟨h,e⟩]
     refine evpos rfl (evsome (within_eq _ _ _) (evstep (fun k=>by rw [spec_WalkByRule.j0]) (evneg (by simp [hr]) (evstep (fun k=>by rw [spec_WalkByRule.j1]) ?_))))
     refine evpos rfl (evpos (by omega) (evpos (by omega) (evsome rfl (evpos (by omega) (evpos (by simp;omega) ?_)))))
     simpa using r1
    ·refine evbind his (evpos (by simpa using h) (evsome (impl_vertex _ l x h32) (evpos (decide_eq_true (show 0≤(x:Int)∧(x:Int)≤(l.length:Int) - 1 from e)) (evsome (iwithin_eq _ _ _) (evstep (fun k=>by rw [impl_WalkByRule.j0]) (evneg (by simp [hr]) ?_))))))
     exact r2
   ·refine⟨([],2),by simp,?_,?_⟩
    ·refine evbind hcode ?_
     rw [c1 ⟨h,e⟩]
     refine evpos rfl (evsome (within_eq _ _ _) (evstep (fun k=>by rw [spec_WalkByRule.j0]) (evpos (by simp;omega) (evstep (fun k=>by rw [spec_WalkByRule.j1]) ?_))))
     exact evneg (by decide) (evc rfl)
    ·refine evbind his (evpos (by simpa using h) (evsome (impl_vertex _ l v h32) (evpos (decide_eq_true (show 0≤v∧v≤(l.length:Int) - 1 from e)) (evsome (iwithin_eq _ _ _) (evstep (fun k=>by rw [impl_WalkByRule.j0]) (evpos (by simp;omega) (evc rfl)))))))
  ·refine⟨([],2),by simp,?_,?_⟩
   ·refine evbind hcode ?_
    rw [c2 ⟨h,e⟩]
    refine evneg (by decide) (evstep (fun k=>by rw [spec_WalkByRule.j0]) (evneg (by decide) (evstep (fun k=>by rw [spec_WalkByRule.j1]) ?_)))
    exact evneg (by decide) (evc rfl)
   ·refine evbind his (evpos (by simpa using h) (evsome (impl_vertex _ l v h32) (evneg (fun k=>e (of_decide_eq_true (p:=0≤v∧v≤(l.length:Int) - 1) k)) (evstep (fun k=>by rw [impl_WalkByRule.j0]) (evpos rfl (evc rfl))))))
 ·refine⟨([],1),by simp,?_,?_⟩
  ·refine evbind hcode ?_
   rw [c3 h]
   refine evneg (by decide) (evstep (fun k=>by rw [spec_WalkByRule.j0]) (evneg (by decide) (evstep (fun k=>by rw [spec_WalkByRule.j1]) ?_)))
   exact evneg (by decide) (evc rfl)
  ·exact evbind his (evneg (by simpa using h) (evc rfl))
end Go.Proofs.YthmfdplckdijdaaGreat.Cu
end
section
namespace Go.Proofs.YthmfdplckdijdaaGreat.Cu
open Go.RowKit Go.Proofs.YthmfdplckdijdaaGreatW.PrintWords Go.Proofs.YthmfdplckdijdaaGreatW.PrintMore Go.Proofs.YthmfdplckdijdaaGreat.Ma Go.Proofs.YthmfdplckdijdaaGreat.Pr Go.Proofs.YthmfdplckdijdaaGreat.Us Go.Proofs.YthmfdplckdijdaaGreat.Sl
structure WK (l:List Int) (v0:Int) (r:List Int):Prop where
 pos:0 < r.length
 fst:r.getD 0 0=v0
 last: ∃u:Nat,u < l.length∧r.getD (r.length - 1) 0=(u:Int)∧((at_ l u=0∧r.count (u:Int)=1)∨r.count (u:Int)=2)
structure WI (v0:Int) (v:Nat) (out:List Int):Prop where
 pos:0 < out.length
 fst:out.getD 0 0=v0
 last:out.getD (out.length - 1) 0=(v:Int)
 one: ∀x:Int,out.count x≤1
theorem WI.start (v:Nat):WI (v:Int) v [(v:Int)]:=⟨by simp,rfl,rfl,fun x=>by rw [List.count_singleton];split <;> omega⟩
theorem WI.mem {v0:Int} {v:Nat} {out:List Int} (h:WI v0 v out):(v:Int) ∈ out:=by
 have h1:=h.last
 have h2:=h.pos
 rw [List.getD_eq_getElem?_getD,List.getElem?_eq_getElem (show out.length - 1 < out.length by omega)] at h1
 have h3:out[out.length - 1]=(v:Int):=h1
 rw [← h3]
 exact List.getElem_mem _
theorem WI.done {l:List Int} {v0:Int} {v:Nat} {out:List Int} (h:WI v0 v out) (hv:v < l.length) (h0:at_ l v=0):WK l v0 out:=by
 refine⟨h.pos,h.fst,v,hv,h.last, .inl ⟨h0,?_⟩⟩
 have h1:=h.one (v:Int)
 have h2:=List.count_pos_iff.2 h.mem
 omega
theorem WI.back {l:List Int} {v0:Int} {v u:Nat} {out:List Int} (h:WI v0 v out) (hu:u < l.length) (hm:(u:Int) ∈ out):WK l v0 (out++ [(u:Int)]):=by
 have hp:=h.pos
 have h1:=h.one (u:Int)
 have h2:=List.count_pos_iff.2 hm
 refine⟨by simp,?_,u,hu,by simp, .inr ?_⟩
 ·rw [List.getD_eq_getElem?_getD,List.getElem?_append_left hp, ← List.getD_eq_getElem?_getD];exact h.fst
 ·rw [List.count_append,List.count_singleton_self];omega
theorem WI.next {v0:Int} {v u:Nat} {out:List Int} (h:WI v0 v out) (hm: ¬ (u:Int) ∈ out):WI v0 u (out++ [(u:Int)]):=by
 have hp:=h.pos
 refine⟨by simp,?_,by simp,fun x=>?_⟩
 ·rw [List.getD_eq_getElem?_getD,List.getElem?_append_left hp, ← List.getD_eq_getElem?_getD];exact h.fst
 ·rw [List.count_append]
  by_cases e:x=(u:Int)
  ·subst e
   rw [List.count_eq_zero_of_not_mem hm,List.count_singleton_self]
   omega
  ·have:=h.one x
   have h2: [(u:Int)].count x=0:=List.count_eq_zero_of_not_mem (by simpa using e)
   omega
theorem walk_good {d:Nat} {l:List Int} (v0:Int) (ok:CubeOK d l) (rule:Int) (hr:0≤rule∧rule≤2): ∀c (met:List Bool) (v:Nat) (out:List Int),met.length=l.length→left_ met=c→v < l.length→(∀u:Nat,u < l.length→(met.getD u false=true↔(u:Int) ∈ out))→out.length+c≤64→WI v0 v out→
  ∃r:List Int,WK l v0 r∧r.length≤out.length+c+1∧Ev (fun k=>spec_WalkByRule.l0 k v rule met out d l) (r,0)∧Ev (fun k=>impl_WalkByRule.l0 k v rule out d l) (r,0):=by
 have h32:=ok32 ok
 intro c
 induction c with
 | zero=>
  intro met v out hm hc hv hin ho hW
  obtain⟨ea,la⟩:=at_nat ok hv
  by_cases h0:sN l v=0
  ·refine⟨out,hW.done hv (by rw [ea,h0];rfl),by omega,?_,?_⟩
   ·refine evstep (fun k=>by rw [spec_WalkByRule.l0]) (evpos (by omega) (evpos (by omega) ?_))
    rw [rd_nat,show l.getD v 0=(sN l v:Int) from ea]
    exact evpos (by omega) (evc rfl)
   ·refine evstep (fun k=>by rw [impl_WalkByRule.l0]) (evpos (by omega) (evpos (by omega) ?_))
    rw [rd_nat,show l.getD v 0=(sN l v:Int) from ea]
    exact evpos (by omega) (evc rfl)
  ·obtain⟨u,hu,e1,e2⟩:=next_same ok hv h0 rule hr
   have hmet:met.getD u false=true:=by
    cases hq:met.getD u false
    ·have:=left_set met u (by omega) hq;omega
    ·rfl
   refine⟨out++ [(u:Int)],hW.back hu ((hin u hu).1 hmet),by simp,?_,?_⟩
   ·refine evstep (fun k=>by rw [spec_WalkByRule.l0]) (evpos (by omega) (evpos (by omega) ?_))
    rw [rd_nat,show l.getD v 0=(sN l v:Int) from ea]
    refine evneg (by omega) (evbind e1 (evpos (by omega) (evsome rfl (evpos (by omega) (evpos (by omega) ?_)))))
    rw [rdOf_nat]
    exact evpos hmet (evc rfl)
   ·refine evstep (fun k=>by rw [impl_WalkByRule.l0]) (evpos (by omega) (evpos (by omega) ?_))
    rw [rd_nat,show l.getD v 0=(sN l v:Int) from ea]
    refine evneg (by omega) (evbind e2 (evbind (contains_eq out u (by omega)) (evpos (by omega) (evsome rfl ?_))))
    exact evpos (by simpa using (hin u hu).1 hmet) (evc rfl)
 | succ c ih=>
  intro met v out hm hc hv hin ho hW
  obtain⟨ea,la⟩:=at_nat ok hv
  by_cases h0:sN l v=0
  ·refine⟨out,hW.done hv (by rw [ea,h0];rfl),by omega,?_,?_⟩
   ·refine evstep (fun k=>by rw [spec_WalkByRule.l0]) (evpos (by omega) (evpos (by omega) ?_))
    rw [rd_nat,show l.getD v 0=(sN l v:Int) from ea]
    exact evpos (by omega) (evc rfl)
   ·refine evstep (fun k=>by rw [impl_WalkByRule.l0]) (evpos (by omega) (evpos (by omega) ?_))
    rw [rd_nat,show l.getD v 0=(sN l v:Int) from ea]
    exact evpos (by omega) (evc rfl)
  ·obtain⟨u,hu,e1,e2⟩:=next_same ok hv h0 rule hr
   cases hmet:met.getD u false with
   | true=>
    refine⟨out++ [(u:Int)],hW.back hu ((hin u hu).1 hmet),by simp,?_,?_⟩
    ·refine evstep (fun k=>by rw [spec_WalkByRule.l0]) (evpos (by omega) (evpos (by omega) ?_))
     rw [rd_nat,show l.getD v 0=(sN l v:Int) from ea]
     refine evneg (by omega) (evbind e1 (evpos (by omega) (evsome rfl (evpos (by omega) (evpos (by omega) ?_)))))
     rw [rdOf_nat]
     exact evpos hmet (evc rfl)
    ·refine evstep (fun k=>by rw [impl_WalkByRule.l0]) (evpos (by omega) (evpos (by omega) ?_))
     rw [rd_nat,show l.getD v 0=(sN l v:Int) from ea]
     refine evneg (by omega) (evbind e2 (evbind (contains_eq out u (by omega)) (evpos (by omega) (evsome rfl ?_))))
     exact evpos (by simpa using (hin u hu).1 hmet) (evc rfl)
   | false=>
    have hleft:=left_set met u (by omega) hmet
    have hnew: ∀x:Nat,x < l.length→((met.set u true).getD x false=true↔(x:Int) ∈ out++ [(u:Int)]):=by
     intro x hx
     by_cases e:x=u
     ·subst e
      simp [show x < met.length from by omega]
     ·have:(met.set u true).getD x false=met.getD x false:=by simp [Ne.symm e]
      rw [this,hin x hx]
      simp
      omega
    obtain⟨r,hWK,hlen,r1,r2⟩:=ih (met.set u true) u (out++ [(u:Int)]) (by simp;omega) (by omega) hu hnew (by simp;omega) (hW.next (fun h=>by rw [(hin u hu).2 h] at hmet;cases hmet))
    refine⟨r,hWK,by simp at hlen;omega,?_,?_⟩
    ·refine evstep (fun k=>by rw [spec_WalkByRule.l0]) (evpos (by omega) (evpos (by omega) ?_))
     rw [rd_nat,show l.getD v 0=(sN l v:Int) from ea]
     refine evneg (by omega) (evbind e1 (evpos (by omega) (evsome rfl (evpos (by omega) (evpos (by omega) ?_)))))
     rw [rdOf_nat,Int.toNat_natCast]
     exact evneg (by rw [hmet];decide) r1
    ·refine evstep (fun k=>by rw [impl_WalkByRule.l0]) (evpos (by omega) (evpos (by omega) ?_))
     rw [rd_nat,show l.getD v 0=(sN l v:Int) from ea]
     refine evneg (by omega) (evbind e2 (evbind (contains_eq out u (by omega)) (evpos (by omega) (evsome rfl ?_))))
     have hno: ¬ (u:Int) ∈ out:=fun h=>by rw [(hin u hu).2 h] at hmet;cases hmet
     exact evneg (by simpa using hno) r2
theorem walks_good (d:Int) (l:List Int) (v rule:Int): ∃r:List Int × Int,(r.2=0→WK l v r.1)∧(r.2≠0→r.1= [])∧(r.2=0→IsC d l)∧r.1.length≤64∧Ev (fun k=>spec_WalkByRule.f k d l v rule) r∧Ev (fun k=>impl_WalkByRule.f k d l v rule) r:=by
 classical
 obtain⟨c1,c2,c3⟩:=codeR_one d l v
 have hcode:=spec_code d l [v] (by simp)
 have his:=impl_is d l (decide (IsC d l)) (by simp)
 unfold spec_WalkByRule.f impl_WalkByRule.f
 by_cases h:IsC d l
 ·obtain⟨n,rfl⟩:=Int.eq_ofNat_of_zero_le h.1
  have ok:CubeOK n l:=h.2
  have h32:=ok32 ok
  by_cases e:IsV l v
  ·by_cases hr:0≤rule∧rule≤2
   ·obtain⟨x,rfl⟩:=Int.eq_ofNat_of_zero_le e.1
    have hx:x < l.length:=by have:=e.2;omega
    have hl0:=left_set (List.replicate l.length false) x (by simpa using hx) (by simp [hx])
    rw [left_rep] at hl0
    obtain⟨r,hWK,hlen,r1,r2⟩:=walk_good (x:Int) ok rule hr _ ((List.replicate l.length false).set x true) x [(x:Int)] (by simp) rfl hx (fun u hu=>by
     by_cases q:u=x
     ·subst q;simp [hu]
     ·simp [Ne.symm q,hu];omega) (by simp;omega) (WI.start x)
    refine⟨(r,0),fun _=>hWK,fun h=>absurd rfl h,fun _=>h,by simp at hlen ⊢;omega,?_,?_⟩
    ·refine evbind hcode ?_
     rw [c1 ⟨h,e⟩]
     refine evpos rfl (evsome (within_eq _ _ _) (evstep (fun k=>by rw [spec_WalkByRule.j0]) (evneg (by simp [hr]) (evstep (fun k=>by rw [spec_WalkByRule.j1]) ?_))))
     refine evpos rfl (evpos (by omega) (evpos (by omega) (evsome rfl (evpos (by omega) (evpos (by simp;omega) ?_)))))
     simpa using r1
    ·refine evbind his (evpos (by simpa using h) (evsome (impl_vertex _ l x h32) (evpos (decide_eq_true (show 0≤(x:Int)∧(x:Int)≤(l.length:Int) - 1 from e)) (evsome (iwithin_eq _ _ _) (evstep (fun k=>by rw [impl_WalkByRule.j0]) (evneg (by simp [hr]) ?_))))))
     exact r2
   ·refine⟨([],2),fun h=>absurd h (by decide),fun _=>rfl,fun h=>absurd h (by decide),by simp,?_,?_⟩
    ·refine evbind hcode ?_
     rw [c1 ⟨h,e⟩]
     refine evpos rfl (evsome (within_eq _ _ _) (evstep (fun k=>by rw [spec_WalkByRule.j0]) (evpos (by simp;omega) (evstep (fun k=>by rw [spec_WalkByRule.j1]) ?_))))
     exact evneg (by decide) (evc rfl)
    ·refine evbind his (evpos (by simpa using h) (evsome (impl_vertex _ l v h32) (evpos (decide_eq_true (show 0≤v∧v≤(l.length:Int) - 1 from e)) (evsome (iwithin_eq _ _ _) (evstep (fun k=>by rw [impl_WalkByRule.j0]) (evpos (by simp;omega) (evc rfl)))))))
  ·refine⟨([],2),fun h=>absurd h (by decide),fun _=>rfl,fun h=>absurd h (by decide),by simp,?_,?_⟩
   ·refine evbind hcode ?_
    rw [c2 ⟨h,e⟩]
    refine evneg (by decide) (evstep (fun k=>by rw [spec_WalkByRule.j0]) (evneg (by decide) (evstep (fun k=>by rw [spec_WalkByRule.j1]) ?_)))
    exact evneg (by decide) (evc rfl)
   ·refine evbind his (evpos (by simpa using h) (evsome (impl_vertex _ l v h32) (evneg (fun k=>e (of_decide_eq_true (p:=0≤v∧v≤(l.length:Int) - 1) k)) (evstep (fun k=>by rw [impl_WalkByRule.j0]) (evpos rfl (evc rfl))))))
 ·refine⟨([],1),fun h=>absurd h (by decide),fun _=>rfl,fun h=>absurd h (by decide),by simp,?_,?_⟩
  ·refine evbind hcode ?_
   rw [c3 h]
   refine evneg (by decide) (evstep (fun k=>by rw [spec_WalkByRule.j0]) (evneg (by decide) (evstep (fun k=>by rw [spec_WalkByRule.j1]) ?_)))
   exact evneg (by decide) (evc rfl)
  ·exact evbind his (evneg (by simpa using h) (evc rfl))
end Go.Proofs.YthmfdplckdijdaaGreat.Cu
end
section
namespace Go.Proofs.YthmfdplckdijdaaGreat.Pr
open Go.RowKit Go.Proofs.YthmfdplckdijdaaGreatW.PrintWords Go.Proofs.YthmfdplckdijdaaGreatW.PrintLast Go.Proofs.YthmfdplckdijdaaGreatW.PrintMore
attribute [local go_sem] max2_int min2_int max_two min_two max_three min_three max_four min_four
def IsS122 (w0 W:World) (g:Nat) (f0:List Int) (f1:Int) (f2:Int):Prop:= ∃A0 c0,W.heap[g]?=some (.cells #[.slice A0 f0.length c0, .int .i64 f1, .int .u64 f2] 122 (0,0))∧w0.heap.size≤g∧Kd.C (Kd.int .u8) w0 A0 f0.length f0
theorem IsS122.grown {w0 W:World} {g:Nat} {f0:List Int} {f1:Int} {f2:Int} {W1:World} {row:Option Nat} (h:IsS122 w0 W g f0 f1 f2) (hw:W.grownBy W1 row) (hne:some g≠row):IsS122 w0 W1 g f0 f1 f2:=by
 obtain⟨A0,c0,hb,hg,hr0⟩:=h
 exact⟨A0,c0,blk_grown hb hw hne,hg,hr0⟩
theorem IsS122.own_neN {w0 W:World} {g:Nat} {f0:List Int} {f1:Int} {f2:Int} {α:Type} {d:Kd α} {e:Nat} {base:Nat} {ok:Nat→Prop} {v:Value} {xs:List α} (h:IsS122 w0 W g f0 f1 f2) (ho:Kd.N d e W base ok v xs) (ht:e≠122):some g≠v.ownBlock:=by
 obtain⟨A0,c0,hb,hg,hr0⟩:=h
 exact Kd.N_ne ho hb ht
theorem IsS122.fresh {w0 W:World} {g:Nat} {f0:List Int} {f1:Int} {f2:Int} (h:IsS122 w0 W g f0 f1 f2): ∀k,W.heap.size≤k→k≠g:=by
 obtain⟨A0,c0,hb,hg,hr0⟩:=h
 exact Kd.freshB hb
theorem IsS122.kept {w0 W:World} {g:Nat} {f0:List Int} {f1:Int} {f2:Int} {W1:World} {S:Nat→Prop} (h:IsS122 w0 W g f0 f1 f2) (hk:Kept W W1 S) (hne: ¬ S g):IsS122 w0 W1 g f0 f1 f2:=by
 obtain⟨A0,c0,hb,hg,hr0⟩:=h
 exact⟨A0,c0,blk_kept hb hk hne,hg,hr0⟩
theorem IsS122.below {w0 W:World} {g:Nat} {f0:List Int} {f1:Int} {f2:Int} {W1:World} (h:IsS122 w0 W g f0 f1 f2) (hw:Below W.heap.size W W1):IsS122 w0 W1 g f0 f1 f2:=h.grown (grown_of_below hw none) (by simp)
theorem IsS122.alloc {w0 W:World} {g:Nat} {f0:List Int} {f1:Int} {f2:Int} (h:IsS122 w0 W g f0 f1 f2) (o:Obj):IsS122 w0 (W.alloc o) g f0 f1 f2:=h.below (below_alloc (Below.refl _ _) o)
theorem IsS122.drewN {w0 W:World} {g:Nat} {f0:List Int} {f1:Int} {f2:Int} (h:IsS122 w0 W g f0 f1 f2) (m:Nat):IsS122 w0 (W.drewN m) g f0 f1 f2:=h
theorem IsS122.drew {w0 W:World} {g:Nat} {f0:List Int} {f1:Int} {f2:Int} (h:IsS122 w0 W g f0 f1 f2):IsS122 w0 W.drew g f0 f1 f2:=h
theorem IsS122.at_ {w0 W:World} {g:Nat} {f0:List Int} {f1:Int} {f2:Int} {w':World} {m:Nat} (hq:W.drewN m=w') (h:IsS122 w0 W g f0 f1 f2):IsS122 w0 w' g f0 f1 f2:=by subst hq;exact IsS122.drewN h m
theorem IsS122.apart {w0 W:World} {g:Nat} {f0:List Int} {f1:Int} {f2:Int} {α:Type} {d:Kd α} {e:Nat} {base:Nat} {ok:Nat→Prop} {v:Value} {xs:List α} (h:IsS122 w0 W g f0 f1 f2) (ho:d.R e W base ok v xs) (ht: ∀q,q ∈ e::d.E→q≠122):d.R e W base (fun k=>ok k∧k≠g) v xs:=by
 obtain⟨A0,c0,hb,hg,hr0⟩:=h
 exact Kd.R_types ho hb ht
theorem IsS122.own_ne {w0 W:World} {g:Nat} {f0:List Int} {f1:Int} {f2:Int} {α:Type} {d:Kd α} {e:Nat} {base:Nat} {ok:Nat→Prop} {v:Value} {xs:List α} (h:IsS122 w0 W g f0 f1 f2) (ho:d.R e W base ok v xs) (ht:e≠122):some g≠v.ownBlock:=by
 obtain⟨A0,c0,hb,hg,hr0⟩:=h
 exact Kd.R_ne ho hb ht
theorem IsS122.apartQ {w0 W:World} {g:Nat} {f0:List Int} {f1:Int} {f2:Int} {α:Type} {d:Kd α} {e:Nat} {base:Nat} {ok:Nat→Prop} {v:Value} {xs:List α} (h:IsS122 w0 W g f0 f1 f2) (ho:d.Q e W base ok v xs) (ht: ∀q,q ∈ e::d.E→q≠122):d.Q e W base (fun k=>ok k∧k≠g) v xs:=by
 obtain⟨A0,c0,hb,hg,hr0⟩:=h
 exact Kd.Q_types ho hb ht
theorem IsS122.own_neQ {w0 W:World} {g:Nat} {f0:List Int} {f1:Int} {f2:Int} {α:Type} {d:Kd α} {e:Nat} {base:Nat} {ok:Nat→Prop} {v:Value} {xs:List α} (h:IsS122 w0 W g f0 f1 f2) (ho:d.Q e W base ok v xs) (ht:e≠122):some g≠v.ownBlock:=by
 obtain⟨A0,c0,hb,hg,hr0⟩:=h
 exact Kd.Q_ne ho hb ht
theorem IsS122.apartS {w0 W:World} {g:Nat} {f0:List Int} {f1:Int} {f2:Int} {α:Type} {d:Kd α} {e:Nat} {base:Nat} {ok:Nat→Prop} {v:Value} {xs:List α} (h:IsS122 w0 W g f0 f1 f2) (ho:d.S e W base ok v xs) (ht: ∀q,q ∈ e::d.E→q≠122):d.S e W base (fun k=>ok k∧k≠g) v xs:=by
 obtain⟨A0,c0,hb,hg,hr0⟩:=h
 exact Kd.S_types ho hb ht
theorem IsS122.own_neS {w0 W:World} {g:Nat} {f0:List Int} {f1:Int} {f2:Int} {α:Type} {d:Kd α} {e:Nat} {base:Nat} {ok:Nat→Prop} {v:Value} {xs:List α} (h:IsS122 w0 W g f0 f1 f2) (ho:d.S e W base ok v xs) (ht:e≠122):some g≠v.ownBlock:=by
 obtain⟨A0,c0,hb,hg,hr0⟩:=h
 exact Kd.S_ne ho hb ht
theorem IsS122.lt {w0 W:World} {g:Nat} {f0:List Int} {f1:Int} {f2:Int} (h:IsS122 w0 W g f0 f1 f2):g < W.heap.size:=by
 obtain⟨A0,c0,hb,hg,hr0⟩:=h
 exact blk_lt hb
theorem IsS122.ge {w0 W:World} {g:Nat} {f0:List Int} {f1:Int} {f2:Int} (h:IsS122 w0 W g f0 f1 f2):w0.heap.size≤g:=by
 obtain⟨A0,c0,hb,hg,hr0⟩:=h
 exact hg
theorem IsS122.ne_blk {w0 W:World} {g:Nat} {f0:List Int} {f1:Int} {f2:Int} {a:Nat} {cs:Array Value} {t:TypeId} {fr:Nat × Nat} (h:IsS122 w0 W g f0 f1 f2) (hb2:W.heap[a]?=some (.cells cs t fr)) (ht:t≠122):g≠a:=by
 obtain⟨A0,c0,hb,hg,hr0⟩:=h
 rintro rfl
 rw [hb] at hb2
 injection hb2 with hb2
 injection hb2 with _ ht2
 exact ht ht2.symm
theorem IsS122.far {w0 W:World} {g:Nat} {f0:List Int} {f1:Int} {f2:Int} {p:Addr} (h:IsS122 w0 W g f0 f1 f2) (hne:g≠p.block) (u:Value):IsS122 w0 (W.setCell p u) g f0 f1 f2:=by
 obtain⟨A0,c0,hb,hg,hr0⟩:=h
 exact⟨A0,c0,blk_far hb hne u,hg,hr0⟩
theorem cellS122_0 {W:World} {g:Nat} {A0:Option Addr} {c0:Nat} {f0:List Int} {f1:Int} {f2:Int} (h:W.heap[g]?=some (.cells #[.slice A0 f0.length c0, .int .i64 f1, .int .u64 f2] 122 (0,0))):W.cell? ⟨g,0,none⟩=some (.slice A0 f0.length c0):=(blk_cell h 0).trans rfl
theorem cellS122_1 {W:World} {g:Nat} {A0:Option Addr} {c0:Nat} {f0:List Int} {f1:Int} {f2:Int} (h:W.heap[g]?=some (.cells #[.slice A0 f0.length c0, .int .i64 f1, .int .u64 f2] 122 (0,0))):W.cell? ⟨g,1,none⟩=some (.int .i64 f1):=(blk_cell h 1).trans rfl
theorem IsS122.set_1 {w0 W:World} {g:Nat} {f0:List Int} {f1:Int} {f2:Int} (h:IsS122 w0 W g f0 f1 f2) (x:Int):IsS122 w0 (W.setCell ⟨g,1,none⟩ (.int .i64 x)) g f0 x f2:=by
 obtain⟨A0,c0,hb,hg,hr0⟩:=h
 exact⟨A0,c0,by simpa using blk_set hb 1 (.int .i64 x),hg,hr0⟩
theorem cellS122_2 {W:World} {g:Nat} {A0:Option Addr} {c0:Nat} {f0:List Int} {f1:Int} {f2:Int} (h:W.heap[g]?=some (.cells #[.slice A0 f0.length c0, .int .i64 f1, .int .u64 f2] 122 (0,0))):W.cell? ⟨g,2,none⟩=some (.int .u64 f2):=(blk_cell h 2).trans rfl
theorem IsS122.set_2 {w0 W:World} {g:Nat} {f0:List Int} {f1:Int} {f2:Int} (h:IsS122 w0 W g f0 f1 f2) (x:Int):IsS122 w0 (W.setCell ⟨g,2,none⟩ (.int .u64 x)) g f0 f1 x:=by
 obtain⟨A0,c0,hb,hg,hr0⟩:=h
 exact⟨A0,c0,by simpa using blk_set hb 2 (.int .u64 x),hg,hr0⟩
theorem IsS122.new (w0 W:World) (A0:Option Addr) (c0:Nat) (f0:List Int) (f1:Int) (f2:Int) (hB:Below w0.heap.size w0 W) (hr0:Kd.C (Kd.int .u8) w0 A0 f0.length f0):IsS122 w0 (W.alloc (.cells #[.slice A0 f0.length c0, .int .i64 f1, .int .u64 f2] 122)) W.heap.size f0 f1 f2:=⟨A0,c0,by simpa using heap_alloc_new W _,hB.size,hr0⟩
theorem hi_ {w0 w:World} {g:Nat} {a:List Int} {b c:Int} (h:IsS122 w0 w g a b c:=by repeat (first | (with_reducible first | exact HI0.out | apply IsS122.alloc | apply IsS122.drew | apply IsS122.drewN | apply IsS122.set_1 | apply IsS122.set_2 | refine IsS122.far ?_ (Aside0.out (by assumption)) _) | exact HI0.out)):IsS122 w0 w g a b c:=h
theorem hj_ {B:Nat} {w W:World} (h:Below B w W:=by repeat (first | (with_reducible first | exact HB.out | apply below_alloc | apply pw_below_drewN | apply below_drew1 | refine below_set ?_ (IsS122.ge HI0.out) | refine below_set ?_ (Aside0.out (by assumption))) | exact HB.out)):Below B w W:=h
def spec_l01From.l0:Nat→List Int→Int→List Int→Int→Int→Option (List Int × Int × Int)
 | 0,_,_,_,_,_=>none
 | k+1,x0,x4,aa,ae,af=>if x4 < (x0.length:Int) then(if x4 < 4096 then(if 0≤x4 then(spec_l01From.l0 k x0 (wrap64 (x4+1)) aa ae (IntKind.u64.wrap ((IntKind.u64.wrap ((IntKind.u64.wrap (af*1099511628211))+(IntKind.u64.wrap (rd x0 x4))))+167))) else(none)) else(some (aa,ae,af))) else(some (aa,ae,af))
def spec_l01From.f (k:Nat) (l0:List Int):Option (List Int × Int × Int):=spec_l01From.l0 k l0 0 l0 0 (IntKind.u64.wrap (13431+(IntKind.u64.wrap ((l0.length:Int)))))
theorem spec_l01From.mono_l: ∀k,(∀y0 y1 y2 y3 y4,LeO (spec_l01From.l0 k y0 y1 y2 y3 y4) (spec_l01From.l0 (k+1) y0 y1 y2 y3 y4))
 | 0=>fun _ _ _ _ _ r h=>by simp [spec_l01From.l0] at h
 | k+1=>by
  have ih0:=spec_l01From.mono_l k
  intros;unfold spec_l01From.l0;repeat' first | (with_reducible first | exact ih0 _ _ _ _ _ | exact LeO.refl _ | exact LeO.none _ | refine LeO.ite ?_ ?_ | refine LeO.bind ?_ (fun _=>?_)) | exact ih0 _ _ _ _ _ | exact LeO.none _ | refine LeO.ite ?_ ?_ | refine LeO.bind ?_ (fun _=>?_)
theorem spec_l01From.mono: ∀a0 k,LeO (spec_l01From.f k a0) (spec_l01From.f (k+1) a0):=by
 intro a0 k
 have ih0:=spec_l01From.mono_l k
 unfold spec_l01From.f
 repeat' first | (with_reducible first | exact ih0 _ _ _ _ _ | exact LeO.refl _ | exact LeO.none _ | refine LeO.ite ?_ ?_ | refine LeO.bind ?_ (fun _=>?_)) | exact ih0 _ _ _ _ _ | exact LeO.none _ | refine LeO.ite ?_ ?_ | refine LeO.bind ?_ (fun _=>?_)
def spec_l01From.T5:Bool × List (List Nat × List Nat):=(true, [([], []),([], []),([1], [1]),([2], [2]),([3], [3]),([4], [4]),([], []),([], []),([6,7], [6,7]),([8], [8]),([9], [9]),([5,10], [5,10]),([11], [11]),([0,0,1,2,3,4,5,6,7,8,9,10,11,12], [0]),([13,0,1,2,3,4,5,6,7,8,9,10,11,12], [13]),([14,12,0,1,2,3,4,5,6,7,8,9,10,11,12], [12,14])])
def spec_l01From.B5:List Nat:= [0,0,2,6,14,30,0,0,192,448,960,2046,4094,8191,16383,32767]
theorem spec_l01From.tab5:rtab .any (opsOf Tryz.f34 5)=spec_l01From.T5:=by kernel_rfl
theorem spec_l01From.bits5:waitsOk spec_l01From.T5.2 spec_l01From.B5=true:=by kernel_rfl
theorem spec_l01From.calls (k:Nat) (A0:Option Addr) (c0:Nat) (l0:List Int) (r1:List Int) (r2:Int) (r3:Int) (w0 w:World) (hB:Below w0.heap.size w0 w) (hr0:Kd.C (Kd.int .u8) w0 A0 l0.length l0) (hc0:l0.length≤c0) (h:spec_l01From.f k l0=some (r1,r2,r3)):
  Calls Tryz.prog 34 #[.slice A0 l0.length c0] w fun e w'=> ∃g_:Nat,e= .returned (.pointer (some ⟨g_,0,none⟩))∧IsS122 w0 w' g_ r1 r2 r3∧Below w0.heap.size w0 w'∧Below w.heap.size w w':=by
 have hu122:=Tryz.underlying122;have HR0:=q_ hr0;have HC0:=q_ hc0;clear hr0 hc0;have HBW:=q_ (Below.refl w.heap.size w);have HW0:=q_ hB.size;have HB:=q_ hB;clear hB;have H:(spec_l01From.l0 k l0 0 l0 0 (IntKind.u64.wrap (13431+(IntKind.u64.wrap ((l0.length:Int))))))=some (r1,r2,r3):=h;clear h;have H':=q_ H;clear H
 go_enter Tryz.func34,Tryz.ntmps34
 go_wp2_with (first | ((with_reducible refine gate_dst (N:=11) rfl ?_);refine be_ 11 #[.slice A0 l0.length c0, .int .i64 0, .int .u64 (IntKind.u64.wrap (13431+(IntKind.u64.wrap ((l0.length:Int)))))] 122 ?_;intro ag hg w2 hbox hb;replace HB:=q_ (bs_ hb);have af:=q_ (hbox);have ak:=q_ ((by rw [hg];exact(below_size (by repeat (first | (with_reducible first | exact HBW.out | apply below_alloc | apply pw_below_drewN | apply below_drew1) | exact HBW.out))):w.heap.size≤ag));have ah:=q_ ((Nat.le_trans HW0.out (by rw [hg];exact(below_size (by repeat (first | (with_reducible first | exact HBW.out | apply below_alloc | apply pw_below_drewN | apply below_drew1) | exact HBW.out))):w.heap.size≤ag):w0.heap.size≤ag));replace HBW:=q_ (below_step HBW.out hb);clear hb hbox hg))
 go_loopg [4] k (fun kq v4 w'=> ∃(ae:Int) (aa:Int),v4= .int .i64 ae∧Aside0 (spec_l01From.l0 kq l0 ae l0 0 aa=some (r1,r2,r3))∧Aside0 (kq≤k)∧Aside0 (w'.heap[ag]?=some (.cells #[(.slice A0 l0.length c0), .int .i64 0, .int .u64 aa] 122 (0,0)))∧Aside0 (Below w0.heap.size w0 w')∧Aside0 (Below w.heap.size w w'))
 case atStart=>exact⟨(0),(IntKind.u64.wrap (13431+(IntKind.u64.wrap ((l0.length:Int))))),rs_,H',⟨Nat.le_refl _⟩,⟨bk_⟩,⟨hb_⟩,HBW⟩
 case round=>
  clear H';obtain⟨ae,aa,rfl,HA,HK1,af,HB,HBW⟩:=hrel;cases gk with
  | zero=>exact absurd HA.out (by simp [spec_l01From.l0])
  | succ k1=>
   have H:=HA.out;clear HA;simp only [spec_l01From.l0] at H
   by_cases c3:ae < (l0.length:Int)
   ·rw [if_pos c3] at H;have c3b0:=decide_eq_true c3;clear c3
    by_cases c4:ae < 4096
    ·rw [if_pos c4] at H;have c4b0:=decide_eq_true c4;clear c4
     by_cases c5:0≤ae
     ·rw [if_pos c5] at H;have c5b0:=decide_eq_true c5;clear c5;have H':=q_ H;clear H
      try go_wp2
      have n0_:=q_ (blk_drew af.out);have n9_:=q_ (below_drew1 HBW.out);clear HBW;have HBW:=n9_;clear n9_;have n1_:=q_ (below_drew1 HB.out);clear af HB;have af:=n0_;have HB:=n1_;clear n0_ n1_;have p108:0≤(ae:Int):=od_;have q108:ae < (l0.length:Int):=od_;obtain⟨aj,e108,hx108_0⟩:=Kd.at_int HR0.out ae p108 q108;have ai:=hx108_0;cases e108
      replace hx108_0:=pw_cell_below HB.out hx108_0;replace p108:=eq_true p108;replace q108:=eq_true q108;refine st_ (n:=16) (S:=fun w'=>w'.cell? ⟨ag,0,none⟩=some (.slice (some aj) l0.length c0)∧w'.cell? ⟨ag,1,none⟩=some (.int .i64 0)∧w'.cell? ⟨ag,2,none⟩=some (.int .u64 aa)∧w'.cell? (aj.add (ae).toNat)=some (.int .u8 (rd l0 ae))) (ds:= [15]) ⟨(blk_cell af.out 0).trans rfl,(blk_cell af.out 1).trans rfl,(blk_cell af.out 2).trans rfl,((HB.out.cell (World.block_lt_of_cell? _ _ ai)).trans ai)⟩ (fun hHeld=>?_);refine with_tabW spec_l01From.tab5 spec_l01From.bits5 (fun HT_ HW_=>?_)
      generalize wr.drew=w6 at af HB HBW hx108_0 hHeld ⊢
      refine pu_ 0 22 ?_;refine pu_ 1 23 ?_;refine pu_ 2 24 ?_;refine pu_ 3 25 ?_;refine pu_ 6 28 ?_;refine pu_ 7 29 ?_;refine pu_ 8 30 ?_;refine tk_ 4 26 ?_;refine pu_ 5 27 ?_;refine tk_ 9 31 ?_;refine pu_ 10 32 ?_;refine pu_ 11 33 ?_;refine pu_ 12 34 ?_;refine pu_ 13 35 ?_;refine pu_ 14 36 ?_
      refine la_ 15 none (fun K hK=>?_)
      have hs7:=cz_ af 2;have hfs7:=blk_frozen af.out 2;refine skip_ (w1:=?_) (by rfl) rfl ?_ ?_
      rotate_left
      ·go_simp
       rfl
      refine hK.out _ _ ?_
      clear hK K;refine done_ (done_of HT_.out (by kernel_rfl)) ?_
      try go_wp2
      go_roundg k1
      case measure=>have:=HK1.out;omega
      case rel=>exact⟨(wrap64 (ae+1)),(IntKind.u64.wrap ((IntKind.u64.wrap ((IntKind.u64.wrap (aa*1099511628211))+(IntKind.u64.wrap (rd l0 ae))))+167)),rs_,H',⟨by have:=HK1.out;omega⟩,⟨by(with_reducible repeat (first | refine blk_drewN ?_ _ | refine blk_drew ?_ | refine blk_alloc ?_ _));refine blk_put (cs:= #[.slice (some aj) l0.length c0, .int .i64 0, .int .u64 aa]) ?_ 2 _ rfl;(with_reducible repeat (first | refine blk_drewN ?_ _ | refine blk_drew ?_ | refine blk_alloc ?_ _));exact af.out⟩,⟨hb_⟩,⟨by repeat (first | (with_reducible first | exact HBW.out | apply below_alloc | apply pw_below_drewN | apply below_drew1 | refine below_set ?_ (Aside0.out (by assumption))) | exact HBW.out)⟩⟩
     ·rw [if_neg c5] at H;exact absurd H (by simp)
    ·rw [if_neg c4] at H;have c4b0:=decide_eq_false c4;clear c4;simp only [Option.some.injEq,Prod.mk.injEq] at H;obtain⟨rfl,rfl,rfl⟩:=H;go_wp2
     go_ret
     exact⟨_,rfl,(show IsS122 w0 _ ag l0 0 aa from ⟨_,_,by(with_reducible repeat (first | refine blk_drewN ?_ _ | refine blk_drew ?_ | refine blk_alloc ?_ _));exact af.out,ah.out,HR0.out⟩),hb_,by repeat (first | (with_reducible first | exact HBW.out | apply below_alloc | apply pw_below_drewN | apply below_drew1 | refine below_set ?_ ak.out) | exact HBW.out)⟩
   ·rw [if_neg c3] at H;have c3b0:=decide_eq_false c3;clear c3;simp only [Option.some.injEq,Prod.mk.injEq] at H;obtain⟨rfl,rfl,rfl⟩:=H;go_wp2
    go_ret
    exact⟨_,rfl,(show IsS122 w0 _ ag l0 0 aa from ⟨_,_,by(with_reducible repeat (first | refine blk_drewN ?_ _ | refine blk_drew ?_ | refine blk_alloc ?_ _));exact af.out,ah.out,HR0.out⟩),hb_,by repeat (first | (with_reducible first | exact HBW.out | apply below_alloc | apply pw_below_drewN | apply below_drew1 | refine below_set ?_ ak.out) | exact HBW.out)⟩
def spec_l01Next.f (s0_0:List Int) (s0_1:Int) (s0_2:Int) (a1:Int):Option (Int × Int × Int):=if a1 < 1 then(some (0,s0_1,s0_2)) else(if s0_1 < (s0_0.length:Int) then(if 0≤s0_1 then(if a1=0 then(none) else(some (Int.tmod (wrap64 ((wrap64 (Go.bits .and .u64 ((IntKind.u64.wrap ((IntKind.u64.wrap (s0_2*6364136223846793005))+1442695040888963407)) / 2147483648) 1073741823))+(wrap64 (rd s0_0 s0_1)))) a1,wrap64 (s0_1+1),IntKind.u64.wrap ((IntKind.u64.wrap (s0_2*6364136223846793005))+1442695040888963407)))) else(none)) else(if a1=0 then(none) else(some (Int.tmod (wrap64 (Go.bits .and .u64 ((IntKind.u64.wrap ((IntKind.u64.wrap (s0_2*6364136223846793005))+1442695040888963407)) / 2147483648) 1073741823)) a1,s0_1,IntKind.u64.wrap ((IntKind.u64.wrap (s0_2*6364136223846793005))+1442695040888963407)))))
theorem spec_l01Next.calls (g:Nat) (s0_0:List Int) (s0_1:Int) (s0_2:Int) (a1:Int) (r1:Int) (r2:Int) (r3:Int) (w0 w:World) (hI:IsS122 w0 w g s0_0 s0_1 s0_2) (hB:Below w0.heap.size w0 w) (h:spec_l01Next.f s0_0 s0_1 s0_2 a1=some (r1,r2,r3)):
  Calls Tryz.prog 36 #[.pointer (some ⟨g,0,none⟩), .int .i64 a1] w fun e w'=>e= .returned (.int .i64 r1)∧IsS122 w0 w' g s0_0 r2 r3∧Below w0.heap.size w0 w'∧KeepBut w w' g none:=by
 have HI0:=q_ hI;have HK:=q_ (KeepBut.refl w g none);have HL:=q_ hB.size;clear hI;have HW0:=q_ hB.size;have HB:=q_ hB;clear hB;have H:(if a1 < 1 then(some (0,s0_1,s0_2)) else(if s0_1 < (s0_0.length:Int) then(if 0≤s0_1 then(if a1=0 then(none) else(some (Int.tmod (wrap64 ((wrap64 (Go.bits .and .u64 ((IntKind.u64.wrap ((IntKind.u64.wrap (s0_2*6364136223846793005))+1442695040888963407)) / 2147483648) 1073741823))+(wrap64 (rd s0_0 s0_1)))) a1,wrap64 (s0_1+1),IntKind.u64.wrap ((IntKind.u64.wrap (s0_2*6364136223846793005))+1442695040888963407)))) else(none)) else(if a1=0 then(none) else(some (Int.tmod (wrap64 (Go.bits .and .u64 ((IntKind.u64.wrap ((IntKind.u64.wrap (s0_2*6364136223846793005))+1442695040888963407)) / 2147483648) 1073741823)) a1,s0_1,IntKind.u64.wrap ((IntKind.u64.wrap (s0_2*6364136223846793005))+1442695040888963407))))))=some (r1,r2,r3):=h;clear h
 by_cases c3:a1 < 1
 ·rw [if_pos c3] at H;have c3b0:=decide_eq_true c3;clear c3;simp only [Option.some.injEq,Prod.mk.injEq] at H;obtain⟨rfl,rfl,rfl⟩:=H
  go_enter Tryz.func36,Tryz.ntmps36
  go_wp2
  repeat (go_quiet (fail);try go_wp2)
  go_ret
  exact⟨by first | rfl | (simp [errW_none,errW_some] <;> rfl) | (simp [*,errW_none,errW_some] <;> rfl),hi_,hj_,hk_⟩
 ·rw [if_neg c3] at H;have c3b0:=decide_eq_false c3;clear c3
  by_cases c4:s0_1 < (s0_0.length:Int)
  ·rw [if_pos c4] at H;have c4b0:=decide_eq_true c4;clear c4
   by_cases c5:0≤s0_1
   ·rw [if_pos c5] at H;have c5b0:=decide_eq_true c5;clear c5
    by_cases c6:a1=0
    ·rw [if_pos c6] at H;exact absurd H (by simp)
    ·rw [if_neg c6] at H;have c6b0:=e3_ c6;have c6b1:=e4_ c6;simp only [Option.some.injEq,Prod.mk.injEq] at H;obtain⟨rfl,rfl,rfl⟩:=H;obtain⟨ASz7_0,cSz7_0,HGz7,hgz7,HSz7_0⟩:=HI0.out;have ae:=cellS122_0 HGz7;have af:=cellS122_1 HGz7;have ag:=cellS122_2 HGz7;have ah:=blk_frozen HGz7 1;have ai:=blk_frozen HGz7 2;clear HGz7 hgz7;have p109:0≤(s0_1:Int):=od_;have q109:s0_1 < (s0_0.length:Int):=od_;obtain⟨aa,e109,hx109_0⟩:=Kd.at_int HSz7_0 s0_1 p109 q109;cases e109
     have hn109_0:aa.block≠g:=Nat.ne_of_lt (Nat.lt_of_lt_of_le (by have:=World.block_lt_of_cell? _ _ hx109_0;first | rwa [add_block] at this | exact this) (IsS122.ge HI0.out));replace hx109_0:=pw_cell_below HB.out hx109_0;replace hx109_0:=(cell_far (p:=⟨g,2,none⟩) (by first | (rw [add_block];exact hn109_0) | (show (Addr.add _ _).block≠_;rw [add_block];exact hn109_0) | exact hn109_0) (.int .u64 (IntKind.u64.wrap ((IntKind.u64.wrap (s0_2*6364136223846793005))+1442695040888963407)))).trans hx109_0
     (try have hy109_0:=fun(n_:Nat)=>(show (((w.drewN n_).setCell ⟨g,2,none⟩ (.int .u64 (IntKind.u64.wrap ((IntKind.u64.wrap (s0_2*6364136223846793005))+1442695040888963407))))).cell? _=some _ from hx109_0))
     clear hn109_0;replace p109:=eq_true p109;replace q109:=eq_true q109
     go_enter Tryz.func36,Tryz.ntmps36
     go_wp2
     repeat (go_quiet (fail);try go_wp2)
     go_ret
     exact⟨by first | rfl | (simp [errW_none,errW_some] <;> rfl) | (simp [*,errW_none,errW_some] <;> rfl),hi_,hj_,hk_⟩
   ·rw [if_neg c5] at H;exact absurd H (by simp)
  ·rw [if_neg c4] at H;have c4b0:=decide_eq_false c4;clear c4
   by_cases c8:a1=0
   ·rw [if_pos c8] at H;exact absurd H (by simp)
   ·rw [if_neg c8] at H;have c8b0:=e3_ c8;have c8b1:=e4_ c8;simp only [Option.some.injEq,Prod.mk.injEq] at H;obtain⟨rfl,rfl,rfl⟩:=H;obtain⟨ASz9_0,cSz9_0,HGz9,hgz9,HSz9_0⟩:=HI0.out;have aj:=cellS122_0 HGz9;have ak:=cellS122_1 HGz9;have aq:=cellS122_2 HGz9;have au:=blk_frozen HGz9 1;have av:=blk_frozen HGz9 2;clear HGz9 hgz9
    go_enter Tryz.func36,Tryz.ntmps36
    go_wp2
    repeat (go_quiet (fail);try go_wp2)
    go_ret
    exact⟨by first | rfl | (simp [errW_none,errW_some] <;> rfl) | (simp [*,errW_none,errW_some] <;> rfl),hi_,hj_,hk_⟩
def spec_l01Pick.f (s0_0:List Int) (s0_1:Int) (s0_2:Int) (l1:List Int):Option (Int × Int × Int):=(spec_l01Next.f s0_0 s0_1 s0_2 (l1.length:Int)).bind fun aa=>(if 0≤aa.1 then(if aa.1 < (l1.length:Int) then(some (rd l1 aa.1,aa.2.1,aa.2.2)) else(none)) else(none))
theorem spec_l01Pick.calls (g:Nat) (s0_0:List Int) (s0_1:Int) (s0_2:Int) (A1:Option Addr) (c1:Nat) (l1:List Int) (r1:Int) (r2:Int) (r3:Int) (w0 w:World) (hI:IsS122 w0 w g s0_0 s0_1 s0_2) (hB:Below w0.heap.size w0 w) (hr1:Kd.C (Kd.int .i64) w A1 l1.length l1) (hc1:l1.length≤c1) (hf1: ∀ad,A1=some ad→0 < l1.length→ad.block≠g) (h:spec_l01Pick.f s0_0 s0_1 s0_2 l1=some (r1,r2,r3)):
  Calls Tryz.prog 74 #[.pointer (some ⟨g,0,none⟩), .slice A1 l1.length c1] w fun e w'=>e= .returned (.int .i64 r1)∧IsS122 w0 w' g s0_0 r2 r3∧Below w0.heap.size w0 w'∧KeepBut w w' g none:=by
 have HR1:=q_ hr1;have HC1:=q_ hc1;clear hr1 hc1;have HI0:=q_ hI;have HK:=q_ (KeepBut.refl w g none);have HL:=q_ hB.size;clear hI;have HW0:=q_ hB.size;have HB:=q_ hB;clear hB;have H:((spec_l01Next.f s0_0 s0_1 s0_2 (l1.length:Int)).bind fun ae=>(if 0≤ae.1 then(if ae.1 < (l1.length:Int) then(some (rd l1 ae.1,ae.2.1,ae.2.2)) else(none)) else(none)))=some (r1,r2,r3):=h;clear h;replace H:=Option.bind_eq_some_iff.mp H;obtain⟨⟨aa,af,ag⟩,A30,H⟩:=H;replace H:(if 0≤aa then(if aa < (l1.length:Int) then(some (rd l1 aa,af,ag)) else(none)) else(none))=some (r1,r2,r3):=H;have A3:=q_ A30;clear A30
 by_cases c4:0≤aa
 ·rw [if_pos c4] at H;have c4b0:=decide_eq_true c4;clear c4
  by_cases c5:aa < (l1.length:Int)
  ·rw [if_pos c5] at H;have c5b0:=decide_eq_true c5;clear c5;simp only [Option.some.injEq,Prod.mk.injEq] at H;obtain⟨rfl,rfl,rfl⟩:=H
   go_enter Tryz.func74,Tryz.ntmps74
   go_wp2_with (first | ((with_reducible refine gate_callee (f:=36) rfl ?_);refine gL_ 9 Tryz.func36 #[.pointer (some ⟨g,0,none⟩), .int .i64 (l1.length:Int)] ?_;(with_reducible refine(spec_l01Next.calls g s0_0 s0_1 s0_2 (l1.length:Int) aa af ag w0 _ ?ah ?ai A3.out).mono ?_);(case ah=>exact hi_);(case ai=>exact hj_);rintro e w6 ⟨rfl,hi,hb,hk⟩;refine⟨_,rfl,?_⟩;replace HK:=q_ (KeepBut.trans hk_ hk (.inl rfl));replace HB:=q_ (hb);replace HI0:=q_ (hi);(try clear hb);(try clear hk);(try clear hi);have p113:0≤(aa:Int):=od_;have q113:aa < (l1.length:Int):=od_;obtain⟨aj,e113,hx113_0⟩:=Kd.at_int HR1.out aa p113 q113;cases e113;replace hx113_0:=keep_cell HK.out hx113_0 (by first | (rw [add_block];exact hf1 _ rfl (by omega)) | exact hf1 _ rfl (by omega) | exact hf1 aj rfl (by omega));replace p113:=eq_true p113;replace q113:=eq_true q113))
   go_ret
   exact⟨by first | rfl | (simp [errW_none,errW_some] <;> rfl) | (simp [*,errW_none,errW_some] <;> rfl),hi_,hj_,hk_⟩
  ·rw [if_neg c5] at H;exact absurd H (by simp)
 ·rw [if_neg c4] at H;exact absurd H (by simp)
def spec_l01Ones.l0:Nat→Int→Int→Option (Int)
 | 0,_,_=>none
 | k+1,x0,x3=>if x0 > 0 then(spec_l01Ones.l0 k (wrap64 (Int.tdiv x0 2)) (wrap64 (x3+(Int.tmod x0 2)))) else(some x3)
def spec_l01Ones.f (k:Nat) (a0:Int):Option (Int):=spec_l01Ones.l0 k a0 0
theorem spec_l01Ones.mono_l: ∀k,(∀y0 y1,LeO (spec_l01Ones.l0 k y0 y1) (spec_l01Ones.l0 (k+1) y0 y1))
 | 0=>fun _ _ r h=>by simp [spec_l01Ones.l0] at h
 | k+1=>by
  have ih0:=spec_l01Ones.mono_l k
  intros;unfold spec_l01Ones.l0;repeat' first | (with_reducible first | exact ih0 _ _ | exact LeO.refl _ | exact LeO.none _ | refine LeO.ite ?_ ?_ | refine LeO.bind ?_ (fun _=>?_)) | exact ih0 _ _ | exact LeO.none _ | refine LeO.ite ?_ ?_ | refine LeO.bind ?_ (fun _=>?_)
theorem spec_l01Ones.mono: ∀a0 k,LeO (spec_l01Ones.f k a0) (spec_l01Ones.f (k+1) a0):=by
 intro a0 k
 have ih0:=spec_l01Ones.mono_l k
 unfold spec_l01Ones.f
 repeat' first | (with_reducible first | exact ih0 _ _ | exact LeO.refl _ | exact LeO.none _ | refine LeO.ite ?_ ?_ | refine LeO.bind ?_ (fun _=>?_)) | exact ih0 _ _ | exact LeO.none _ | refine LeO.ite ?_ ?_ | refine LeO.bind ?_ (fun _=>?_)
theorem spec_l01Ones.calls (k:Nat) (a0:Int) (r:Int) (w:World) (h:spec_l01Ones.f k a0=some r):
  Calls Tryz.prog 158 #[.int .i64 a0] w fun e w'=>e= .returned (.int .i64 r)∧Drawn0 w w':=by
 have H:(spec_l01Ones.l0 k a0 0)=some r:=h;clear h;have H':=q_ H;clear H
 go_enter Tryz.func158,Tryz.ntmps158
 go_wp2
 go_loopg [0,3] k (fun kq v0 v3 w'=> ∃(aa:Int) (ae:Int),v0= .int .i64 aa∧v3= .int .i64 ae∧Aside0 (spec_l01Ones.l0 kq aa ae=some r)∧Aside0 (kq≤k)∧Drawn0 w w')
 case atStart=>exact⟨(a0),(0),rs_,rs_,H',⟨Nat.le_refl _⟩,by repeat (first | exact Drawn0.refl _ | apply Drawn0.step)⟩
 case round=>
  clear H';obtain⟨aa,ae,rfl,rfl,HA,HK1,⟨m1,rfl⟩⟩:=hrel;cases gk with
  | zero=>exact absurd HA.out (by simp [spec_l01Ones.l0])
  | succ k1=>
   have H:=HA.out;clear HA;simp only [spec_l01Ones.l0] at H
   by_cases c2:aa > 0
   ·rw [if_pos c2] at H;have c2b0:=decide_eq_true c2;clear c2;have H':=q_ H;clear H;go_wp2
    go_roundg k1
    case measure=>have:=HK1.out;omega
    case rel=>exact⟨(wrap64 (Int.tdiv aa 2)),(wrap64 (ae+(Int.tmod aa 2))),rs_,rs_,H',⟨by have:=HK1.out;omega⟩,by repeat (first | exact Drawn0.refl _ | apply Drawn0.step)⟩
   ·rw [if_neg c2] at H;have c2b0:=decide_eq_false c2;clear c2;obtain rfl:=Option.some.inj H;go_wp2
    go_ret
    exact⟨by first | rfl | (simp;done) | (simp [*];done),by repeat (first | exact Drawn0.refl _ | apply Drawn0.step)⟩
end Go.Proofs.YthmfdplckdijdaaGreat.Pr
end
section
namespace Go.Proofs.YthmfdplckdijdaaGreat.Dr
open Go.RowKit Go.Proofs.YthmfdplckdijdaaGreatW.PrintWords Go.Proofs.YthmfdplckdijdaaGreatW.PrintMore Go.Proofs.YthmfdplckdijdaaGreat.Ma Go.Proofs.YthmfdplckdijdaaGreat.Pr
def Ex {α:Type} (g:Nat→Option α) (P:α→Prop):Prop:= ∃r,Ev g r∧P r
theorem exc {α:Type} {g:Option α} {r:α} {P:α→Prop} (h:g=some r) (p:P r):Ex (fun _=>g) P:=⟨r,evc h,p⟩
theorem expos {α:Type} {A B:Nat→Option α} {P:α→Prop} {c:Prop} [Decidable c] (h:c) (k:Ex A P):Ex (fun n=>if c then A n else B n) P:=by
 obtain⟨r,e,p⟩:=k;exact⟨r,evpos h e,p⟩
theorem exneg {α:Type} {A B:Nat→Option α} {P:α→Prop} {c:Prop} [Decidable c] (h: ¬ c) (k:Ex B P):Ex (fun n=>if c then A n else B n) P:=by
 obtain⟨r,e,p⟩:=k;exact⟨r,evneg h e,p⟩
theorem exif {α:Type} {A B:Nat→Option α} {P:α→Prop} {c:Prop} [Decidable c] (k:c→Ex A P) (l: ¬ c→Ex B P):Ex (fun n=>if c then A n else B n) P:=by
 by_cases h:c
 ·exact expos h (k h)
 ·exact exneg h (l h)
theorem exstep {α:Type} {g f:Nat→Option α} {P:α→Prop} (h: ∀k,g (k+1)=f k) (k:Ex f P):Ex g P:=by
 obtain⟨r,e,p⟩:=k;exact⟨r,evstep h e,p⟩
theorem exbind {α β:Type} {g:Nat→Option α} {f:Nat→α→Option β} {P:α→Prop} {Q:β→Prop} (h:Ex g P) (k: ∀a,P a→Ex (fun n=>f n a) Q):Ex (fun n=>(g n).bind (f n)) Q:=by
 obtain⟨r,e,p⟩:=h;obtain⟨s,e2,q⟩:=k r p;exact⟨s,evbind e e2,q⟩
theorem exsome {α β:Type} {g:Option α} {f:Nat→α→Option β} {a:α} {Q:β→Prop} (h:g=some a) (k:Ex (fun n=>f n a) Q):Ex (fun n=>g.bind (f n)) Q:=by
 obtain⟨s,e2,q⟩:=k;exact⟨s,evsome h e2,q⟩
structure Src (b:List Int) (a:Int):Prop where
 byte: ∀i:Nat,0≤b.getD i 0∧b.getD i 0≤255
 len:b.length≤4096
 at0:0≤a
 at1:a≤4096
theorem and30 (x:Int): ∃m:Nat,Go.bits .and .u64 x 1073741823=(m:Int)∧m≤1073741823:=by
 have h:(BitVec.ofInt 64 x &&& BitVec.ofInt 64 1073741823).toNat≤1073741823:=by
  rw [BitVec.toNat_and];exact Nat.le_trans Nat.and_le_right (by decide)
 refine⟨_,?_,h⟩
 show IntKind.u64.wrap (((BitVec.ofInt 64 x &&& BitVec.ofInt 64 1073741823).toNat:Nat):Int)=_
 exact IntWalk.u64_in _ ⟨by omega,by omega⟩
theorem next_f {b:List Int} {a:Int} (hs:Src b a) (h n:Int): ∃x a' h',spec_l01Next.f b a h n=some (x,a',h')∧Src b a'∧(1≤n→0≤x∧x < n)∧(n < 1→x=0):=by
 unfold spec_l01Next.f
 by_cases c:n < 1
 ·exact⟨0,a,h,if_pos c,hs,fun h=>absurd c (by omega),fun _=>rfl⟩
 ·rw [if_neg c]
  obtain⟨m,hm,hm2⟩:=and30 ((IntKind.u64.wrap ((IntKind.u64.wrap (h*6364136223846793005))+1442695040888963407)) / 2147483648)
  rw [hm,w64 (x:=(m:Int)) (by omega) (by omega)]
  have tm: ∀y:Int,0≤y→0≤Int.tmod y n∧Int.tmod y n < n:=fun y hy=>⟨Int.tmod_nonneg _ hy,Int.tmod_lt_of_pos _ (by omega)⟩
  by_cases d:a < (b.length:Int)
  ·have hb:=hs.byte a.toNat
   have e:rd b a=b.getD a.toNat 0:=rfl
   rw [if_pos d,if_pos hs.at0,if_neg (by omega),e,w64 (x:=b.getD a.toNat 0) (by omega) (by omega),w64 (x:=(m:Int)+_) (by omega) (by omega),w64 (x:=a+1) (by have:=hs.at0;omega) (by have:=hs.at1;omega)]
   exact⟨_,_,_,rfl,⟨hs.byte,hs.len,by have:=hs.at0;omega,by have:=hs.len;omega⟩,fun _=>tm _ (by omega),fun h=>absurd h c⟩
  ·rw [if_neg d,if_neg (by omega)]
   exact⟨_,_,_,rfl,hs,fun _=>tm _ (by omega),fun h=>absurd h c⟩
theorem next_ex {b:List Int} {a:Int} (hs:Src b a) (h n:Int):Ex (fun _=>spec_l01Next.f b a h n) (fun r=>Src b r.2.1∧(1≤n→0≤r.1∧r.1 < n)∧(n < 1→r.1=0)):=by
 obtain⟨x,a',h',e,p⟩:=next_f hs h n
 exact exc e p
theorem pick_ex {b:List Int} {a:Int} (hs:Src b a) (h:Int) (l:List Int) (hl:1≤l.length):Ex (fun _=>spec_l01Pick.f b a h l) (fun r=>Src b r.2.1∧r.1 ∈ l):=by
 unfold spec_l01Pick.f
 refine exbind (next_ex hs h _) (fun r p=>?_)
 have hr:=p.2.1 (by omega)
 refine expos hr.1 (expos hr.2 (exc rfl ⟨p.1,?_⟩))
 show l.getD r.1.toNat 0 ∈ l
 rw [List.getD_eq_getElem?_getD,List.getElem?_eq_getElem (show r.1.toNat < l.length by omega)]
 exact List.getElem_mem _
theorem from_ex {b:List Int} (hb: ∀i:Nat,0≤b.getD i 0∧b.getD i 0≤255) (hl:b.length≤4096):Ex (fun k=>spec_l01From.f k b) (fun r=>r.1=b∧Src b r.2.1):=by
 have fin:Src b 0:=⟨hb,hl,by decide,by decide⟩
 have key: ∀m i h,i+m=b.length→Ex (fun k=>spec_l01From.l0 k b (i:Int) b 0 h) (fun r=>r.1=b∧Src b r.2.1):=by
  intro m
  induction m with
  | zero=>
   intro i h hi
   refine exstep (fun k=>by rw [spec_l01From.l0]) ?_
   exact exneg (by omega) (exc rfl ⟨rfl,fin⟩)
  | succ m ih=>
   intro i h hi
   refine exstep (fun k=>by rw [spec_l01From.l0]) ?_
   refine expos (by omega) (expos (by omega) (expos (by omega) ?_))
   rw [w64 (x:=(i:Int)+1) (by omega) (by omega)]
   exact ih (i+1) _ (by omega)
 exact key b.length 0 _ (by omega)
end Go.Proofs.YthmfdplckdijdaaGreat.Dr
end
section
namespace Go.Proofs.YthmfdplckdijdaaGreat.Pr
open Go.RowKit Go.Proofs.YthmfdplckdijdaaGreatW.PrintWords Go.Proofs.YthmfdplckdijdaaGreatW.PrintLast Go.Proofs.YthmfdplckdijdaaGreatW.PrintMore Go.Proofs.YthmfdplckdijdaaGreat.Al Go.Proofs.YthmfdplckdijdaaGreat.Dr Go.Proofs.YthmfdplckdijdaaGreat.Ma
noncomputable def laws_FnCubeWalks.after111:Code:=((Tryz.f3.body.bind (tailAfter 111)).getD .skip)
theorem laws_FnCubeWalks.after111_walk {d1 v1 wc_:Int} {l1 wl:List Int} {A1 A6:Option Addr} {c1 c6 g3:Nat} {w wc:World} {z0_ z1_ z2_ z5_ z8_ z9_ z10_ z11_ z12_ z13_ z14_ z15_ z16_ z17_ z18_ z19_ z20_ z21_ z22_ z23_ z24_ z25_ z26_ z27_ z28_ z29_ z30_ z31_ z32_ z33_ z34_ z35_ z36_ z37_ z38_ z39_ z40_ z41_ z42_ z43_ z44_ z45_ z46_ z47_ z48_ z49_ z50_ z51_ z52_ z53_ z54_ z55_ z56_ z57_ z58_ z59_ z60_ z61_ z62_ z63_ z64_ z65_ z66_ z67_ z68_ z69_ z70_ z71_ z72_ z73_ z74_ z75_ z76_ z77_ z78_ z79_ z80_ z81_ z82_ z83_ z84_ z85_ z86_ z87_ z88_ z89_ z90_ z91_ z92_ z93_ z94_ z95_ z96_ z97_ z98_ z99_ z100_ z101_ z102_ z103_ z104_ z105_ z106_ z107_ z108_ z109_ z110_ z111_ z112_ z113_ z114_ z115_ z116_ z117_ z118_ z119_ z120_ z121_ z122_ z123_ z124_ z125_ z126_ z127_ z128_ z129_ z130_ z131_ z132_ z133_ z134_ z135_ z136_ z137_ z138_ z139_ z140_ z141_ z142_ z143_ z144_ z145_ z146_ z147_ z148_ z149_ z150_ z151_ z152_ z153_ z154_ z155_ z156_ z157_ z158_ z159_ z160_ z161_ z162_ z163_ z164_ z165_ z166_ z167_ z168_ z169_ z170_ z171_ z172_ z173_ z174_ z175_ z176_ z177_ z178_ z179_ z180_ z181_ z182_ z183_ z184_ z185_ z186_ z187_ z188_ z189_ z190_ z191_ z192_ z193_ z194_ z195_ z196_ z197_ z198_ z199_ z200_ z201_ z202_ z203_ z204_ z205_ z206_ z207_ z208_ z209_ z210_ z211_ z212_ z213_ z214_:Value} (HW:Aside0 ((wc_=0→Cu.WK l1 v1 wl)∧(wc_≠0→wl= [])∧wl.length≤64∧l1.length≤32)) (AL:Aside0 (Al (fun W_=>(Kd.C (Kd.int .i64) W_ A6 wl.length wl)∧(W_.heap[g3]?=some (.cells #[.int .i64 d1, .slice A1 l1.length c1] 26 (0,0)))∧(Kd.C (Kd.int .i64) W_ A1 l1.length l1)∧True) wc)) (HB:Aside0 (Below w.heap.size w wc)):
  Code.wp Tryz.prog laws_FnCubeWalks.after111 (bodyPost Tryz.prog Tryz.f3 fun e w'=>e=Ending.returned (.bool true)∧Below w.heap.size w w') ⟨#[z0_,z1_,z2_, .pointer (some ⟨g3,0,none⟩), .int .i64 v1,z5_, .slice A6 wl.length c6, .int .i64 wc_,z8_,z9_,z10_,z11_,z12_,z13_,z14_,z15_,z16_,z17_,z18_,z19_,z20_,z21_,z22_,z23_,z24_,z25_,z26_,z27_,z28_,z29_,z30_,z31_,z32_,z33_,z34_,z35_,z36_,z37_,z38_,z39_,z40_,z41_,z42_,z43_,z44_,z45_,z46_,z47_,z48_,z49_,z50_,z51_,z52_,z53_,z54_,z55_,z56_,z57_,z58_,z59_,z60_,z61_,z62_,z63_,z64_,z65_,z66_,z67_,z68_,z69_,z70_,z71_,z72_,z73_,z74_,z75_,z76_,z77_,z78_,z79_,z80_,z81_,z82_,z83_,z84_,z85_,z86_,z87_,z88_,z89_,z90_,z91_,z92_,z93_,z94_,z95_,z96_,z97_,z98_,z99_,z100_,z101_,z102_,z103_,z104_,z105_,z106_,z107_,z108_,z109_,z110_,z111_,z112_,z113_,z114_,z115_,z116_,z117_,z118_,z119_,z120_,z121_,z122_,z123_,z124_,z125_,z126_,z127_,z128_,z129_,z130_,z131_,z132_,z133_,z134_,z135_,z136_,z137_,z138_,z139_,z140_,z141_,z142_,z143_,z144_,z145_,z146_,z147_,z148_,z149_,z150_,z151_,z152_,z153_,z154_,z155_,z156_,z157_,z158_,z159_,z160_,z161_,z162_,z163_,z164_,z165_,z166_,z167_,z168_,z169_,z170_,z171_,z172_,z173_,z174_,z175_,z176_,z177_,z178_,z179_,z180_,z181_,z182_,z183_,z184_,z185_,z186_,z187_,z188_,z189_,z190_,z191_,z192_,z193_,z194_,z195_,z196_,z197_,z198_,z199_,z200_,z201_,z202_,z203_,z204_,z205_,z206_,z207_,z208_,z209_,z210_,z211_,z212_,z213_,z214_], []⟩ wc:=by
 conv=>arg 2;whnf
 by_cases c0:wc_=0
 ·subst c0;obtain⟨hp,hf,u,hu,hlast,hcnt⟩:=HW.out.1 rfl;obtain⟨m,hm⟩: ∃m,wl.length=m+1:=⟨wl.length - 1,by omega⟩
  have al6:=AL.out.now.1;have ab3:=AL.out.now.2.1;have all_:=AL.out.now.2.2.1;rw [hm] at hlast al6;have hm64:m+1≤64:=by rw [← hm];exact HW.out.2.2.1
  obtain⟨ae,ea,hx0⟩:=Kd.at_int al6 0 (by omega) (by omega);subst ea;obtain⟨ah,ea,hxl⟩:=Kd.at_int al6 (m:Int) (by omega) (by omega);injection ea with ea;subst ea
  have hu32:u < 32:=Nat.lt_of_lt_of_le hu HW.out.2.2.2;obtain⟨aa,ea,hxu⟩:=Kd.at_int all_ (u:Int) (by omega) (by omega);subst ea;have hr0:rd wl 0=v1:=hf;have hrl:rd wl (m:Int)=(u:Int):=by unfold rd;rw [Int.toNat_natCast];exact hlast
  have hru:rd l1 (u:Int)=Cu.at_ l1 u:=by unfold rd Cu.at_;rw [Int.toNat_natCast]
  rw [hr0] at hx0;rw [hrl,Int.toNat_natCast] at hxl;rw [hru,Int.toNat_natCast] at hxu;replace hx0:wc.cell? ae=some (.int .i64 v1):=hx0;obtain⟨x,hx⟩: ∃x,Cu.at_ l1 u=x:=⟨_,rfl⟩
  rw [hx] at hxu hcnt;have hz0:=cz_ (q_ ab3) 0;have hz1:=cz_ (q_ ab3) 1;have huz:(u:Int) < (l1.length:Int):=by omega
  have h0u:(0:Int)≤(u:Int):=by omega
  have hx2:x≠0→2≤m+1:=fun h=>by rcases hcnt with ⟨h0,_⟩ | h2;exact absurd h0 h;have:=List.count_le_length (a:=(u:Int)) (l:=wl);omega
  have HCNT:=q_ hcnt;have HMM:=q_ hm;have HM64:=q_ hm64;rw [hm];have hq:(x !=0 && decide (((m+1:Nat):Int) < 2))=false:=by by_cases h:x=0;(subst h;rfl);(have:=hx2 h;rw [decide_eq_false (by omega),Bool.and_false])
  have hmw2:0≤(m:Int)∧(m:Int) < (m:Int)+1:=⟨Int.natCast_nonneg m,Int.lt_succ _⟩
  have hmw:wrap64 (m:Int)=(m:Int):=w64 (by clear hmw2;omega) (by clear hmw2;omega);have HX0:Aside0 (l1.getD u 0=x):=⟨hx⟩
  clear hp hf hu hlast hcnt al6 ab3 all_ hr0 hrl hru hx hm hm64
  by_cases hxz:x=0
  ·have HXU:Aside0 (l1.getD u 0=0):=⟨HX0.out.trans hxz⟩
   subst hxz;go_wp2
   clear hx0 hxl hz0 hz1
   go_loopg [29,30] (m+1) (fun gg v29 v30 wr=> ∃i:Nat,i≤m+1∧m+1 - i≤gg∧v30= .int .i64 (i:Int)∧v29= .int .i64 ((wl.take i).count (u:Int):Nat)∧Aside0 (Al (fun W_=>(Kd.C (Kd.int .i64) W_ (some ae) wl.length wl)∧(W_.heap[g3]?=some (.cells #[.int .i64 d1, .slice (some aa) l1.length c1] 26 (0,0)))∧(Kd.C (Kd.int .i64) W_ (some aa) l1.length l1)∧True) wr)∧Aside0 (Below w.heap.size w wr))
   case atStart=>exact⟨0,Nat.zero_le _,by omega,rfl,rfl,AL,HB⟩
   case round=>
    clear AL HB;obtain⟨i,hi,hg,rfl,rfl,AL,HB⟩:=hrel
    by_cases hlt:i < m+1
    ·have hltz:(i:Int) < ((m+1:Nat):Int):=by omega
     have hltz2:(i:Int) < (m:Int)+1:=by omega
     have h0z:(0:Int)≤(i:Int):=by omega
     have hil:i < wl.length:=by rw [HMM.out];exact hlt
     have al6:=AL.out.now.1;rw [HMM.out] at al6;obtain⟨af,ea,hxi⟩:=Kd.at_int al6 (i:Int) h0z (by omega);injection ea with ea;subst ea
     have hri:rd wl (i:Int)=wl[i]:=by unfold rd;rw [Int.toNat_natCast,List.getD_eq_getElem?_getD,List.getElem?_eq_getElem hil];rfl
     rw [hri,Int.toNat_natCast] at hxi;have htake:(wl.take (i+1)).count (u:Int)=(wl.take i).count (u:Int)+(if wl[i]=(u:Int) then 1 else 0):=by rw [List.take_succ_eq_append_getElem hil,List.count_append,List.count_singleton];congr 1;by_cases e:wl[i]=(u:Int) <;> simp [e]
     have hcl:(wl.take i).count (u:Int)≤64:=Nat.le_trans List.count_le_length (by rw [List.length_take];have:=HM64.out;omega);have hw:IntKind.i64.wrap ((i:Int)+1)=((i+1:Nat):Int):=by rw [IntWalk.i64_in _ (by have:=HM64.out;omega)];rfl
     obtain⟨n_,hn_⟩: ∃n_,(wl.take i).count (u:Int)=n_:=⟨_,rfl⟩
     rw [hn_] at htake hcl ⊢;have hw2:IntKind.i64.wrap ((n_:Int)+1)=((n_+1:Nat):Int):=by rw [IntWalk.i64_in _ (by omega)];rfl
     obtain⟨y,hy⟩: ∃y,wl[i]=y:=⟨_,rfl⟩
     rw [hy] at hxi htake;have HG:=q_ hg;have HLT:=q_ hlt;have HTK:=q_ htake;clear hi hg hlt al6 hri hil htake hcl hy hn_
     by_cases hyu:y=(u:Int)
     ·subst hyu;go_wp2
      go_roundg (m+1 - (i+1))
      case measure=>have:=HG.out;have:=HLT.out;omega
      case rel=>exact⟨i+1,HLT.out,by omega,by first | rfl | (rw [hw]) | (simp [hw]),by rw [HTK.out];first | (rw [if_pos rfl];rfl) | (simp;done) | (rw [hw2]) | (simp [hw2]),AL,HB⟩
     ·have hyf:(y==(u:Int))=false:=by simpa using hyu
      have HYU:=q_ hyu;clear hyu;go_wp2
      go_roundg (m+1 - (i+1))
      case measure=>have:=HG.out;have:=HLT.out;omega
      case rel=>exact⟨i+1,HLT.out,by omega,by first | rfl | (rw [hw]) | (simp [hw]),by rw [HTK.out];first | (rw [if_neg HYU.out];rfl) | simp [HYU.out],AL,HB⟩
    ·have hltz: ¬ (i:Int) < ((m+1:Nat):Int):=by omega
     have hltz2: ¬ (i:Int) < (m:Int)+1:=by omega
     obtain rfl:i=m+1:=by omega
     clear hi hg hlt;have hct:(wl.take (m+1)).count (u:Int)=wl.count (u:Int):=by rw [← HMM.out,List.take_length]
     rw [hct];have hz0:=cz_ (q_ (AL.out.now.2.1)) 0;have hz1:=cz_ (q_ (AL.out.now.2.1)) 1;obtain⟨ag,ea,hxu2⟩:=Kd.at_int AL.out.now.2.2.1 (u:Int) (by omega) (by omega);injection ea with ea;subst ea
     have hru:rd l1 (u:Int)=0:=by unfold rd;rw [Int.toNat_natCast];exact HXU.out
     rw [hru,Int.toNat_natCast] at hxu2;obtain⟨k_,hk_⟩: ∃k_,wl.count (u:Int)=k_:=⟨_,rfl⟩
     have hc2:=HCNT.out;rw [hk_] at hc2 ⊢;clear hk_;rcases hc2 with ⟨_,rfl⟩ | rfl
     ·go_wp2
      go_ret
      exact⟨rfl,HB.out⟩
     ·go_wp2
      go_ret
      exact⟨rfl,HB.out⟩
  ·have HXU:Aside0 (l1.getD u 0=x):=⟨HX0.out⟩
   have hxn:(x !=0)=true:=by simpa using hxz
   have hxe:(x==0)=false:=by simpa using hxz
   have hm2: ¬ ((m+1:Nat):Int) < 2:=by have:=hx2 hxz;omega
   have hm2': ¬ m+1 < 2:=by have:=hx2 hxz;omega
   go_wp2
   clear hx0 hxl hz0 hz1
   go_loopg [29,30] (m+1) (fun gg v29 v30 wr=> ∃i:Nat,i≤m+1∧m+1 - i≤gg∧v30= .int .i64 (i:Int)∧v29= .int .i64 ((wl.take i).count (u:Int):Nat)∧Aside0 (Al (fun W_=>(Kd.C (Kd.int .i64) W_ (some ae) wl.length wl)∧(W_.heap[g3]?=some (.cells #[.int .i64 d1, .slice (some aa) l1.length c1] 26 (0,0)))∧(Kd.C (Kd.int .i64) W_ (some aa) l1.length l1)∧True) wr)∧Aside0 (Below w.heap.size w wr))
   case atStart=>exact⟨0,Nat.zero_le _,by omega,rfl,rfl,AL,HB⟩
   case round=>
    clear AL HB;obtain⟨i,hi,hg,rfl,rfl,AL,HB⟩:=hrel
    by_cases hlt:i < m+1
    ·have hltz:(i:Int) < ((m+1:Nat):Int):=by omega
     have hltz2:(i:Int) < (m:Int)+1:=by omega
     have h0z:(0:Int)≤(i:Int):=by omega
     have hil:i < wl.length:=by rw [HMM.out];exact hlt
     have al6:=AL.out.now.1;rw [HMM.out] at al6;obtain⟨af,ea,hxi⟩:=Kd.at_int al6 (i:Int) h0z (by omega);injection ea with ea;subst ea
     have hri:rd wl (i:Int)=wl[i]:=by unfold rd;rw [Int.toNat_natCast,List.getD_eq_getElem?_getD,List.getElem?_eq_getElem hil];rfl
     rw [hri,Int.toNat_natCast] at hxi;have htake:(wl.take (i+1)).count (u:Int)=(wl.take i).count (u:Int)+(if wl[i]=(u:Int) then 1 else 0):=by rw [List.take_succ_eq_append_getElem hil,List.count_append,List.count_singleton];congr 1;by_cases e:wl[i]=(u:Int) <;> simp [e]
     have hcl:(wl.take i).count (u:Int)≤64:=Nat.le_trans List.count_le_length (by rw [List.length_take];have:=HM64.out;omega);have hw:IntKind.i64.wrap ((i:Int)+1)=((i+1:Nat):Int):=by rw [IntWalk.i64_in _ (by have:=HM64.out;omega)];rfl
     obtain⟨n_,hn_⟩: ∃n_,(wl.take i).count (u:Int)=n_:=⟨_,rfl⟩
     rw [hn_] at htake hcl ⊢;have hw2:IntKind.i64.wrap ((n_:Int)+1)=((n_+1:Nat):Int):=by rw [IntWalk.i64_in _ (by omega)];rfl
     obtain⟨y,hy⟩: ∃y,wl[i]=y:=⟨_,rfl⟩
     rw [hy] at hxi htake;have HG:=q_ hg;have HLT:=q_ hlt;have HTK:=q_ htake;clear hi hg hlt al6 hri hil htake hcl hy hn_
     by_cases hyu:y=(u:Int)
     ·subst hyu;go_wp2
      go_roundg (m+1 - (i+1))
      case measure=>have:=HG.out;have:=HLT.out;omega
      case rel=>exact⟨i+1,HLT.out,by omega,by first | rfl | (rw [hw]) | (simp [hw]),by rw [HTK.out];first | (rw [if_pos rfl];rfl) | (simp;done) | (rw [hw2]) | (simp [hw2]),AL,HB⟩
     ·have hyf:(y==(u:Int))=false:=by simpa using hyu
      have HYU:=q_ hyu;clear hyu;go_wp2
      go_roundg (m+1 - (i+1))
      case measure=>have:=HG.out;have:=HLT.out;omega
      case rel=>exact⟨i+1,HLT.out,by omega,by first | rfl | (rw [hw]) | (simp [hw]),by rw [HTK.out];first | (rw [if_neg HYU.out];rfl) | simp [HYU.out],AL,HB⟩
    ·have hltz: ¬ (i:Int) < ((m+1:Nat):Int):=by omega
     have hltz2: ¬ (i:Int) < (m:Int)+1:=by omega
     obtain rfl:i=m+1:=by omega
     clear hi hg hlt;have hct:(wl.take (m+1)).count (u:Int)=wl.count (u:Int):=by rw [← HMM.out,List.take_length]
     rw [hct];have hz0:=cz_ (q_ (AL.out.now.2.1)) 0;have hz1:=cz_ (q_ (AL.out.now.2.1)) 1;obtain⟨ag,ea,hxu2⟩:=Kd.at_int AL.out.now.2.2.1 (u:Int) (by omega) (by omega);injection ea with ea;subst ea
     have hru:rd l1 (u:Int)=x:=by unfold rd;rw [Int.toNat_natCast];exact HXU.out
     rw [hru,Int.toNat_natCast] at hxu2;obtain⟨k_,hk_⟩: ∃k_,wl.count (u:Int)=k_:=⟨_,rfl⟩
     have hc2:=HCNT.out;rw [hk_] at hc2 ⊢;clear hk_;rcases hc2 with ⟨h,_⟩ | rfl
     ·exact absurd h hxz
     ·go_wp2
      go_ret
      exact⟨rfl,HB.out⟩
 ·have hw0:=HW.out.2.1 c0;subst hw0;have c0b:(wc_ !=0)=true:=by simpa using c0
  have c0c:(wc_==0)=false:=by simpa using c0
  go_wp2
  go_ret
  exact⟨rfl,HB.out⟩
end Go.Proofs.YthmfdplckdijdaaGreat.Pr
end
section
namespace Go.Proofs.YthmfdplckdijdaaGreat.Dt
abbrev Mat:=Nat→Nat→Int
def sm:Nat→(Nat→Int)→Int
 | 0,_=>0
 | n+1,f=>sm n f+f n
theorem sm_congr {n:Nat} {f g:Nat→Int} (h: ∀i,i < n→f i=g i):sm n f=sm n g:=by
 induction n with
 | zero=>rfl
 | succ n ih=>simp only [sm];rw [ih (fun i hi=>h i (by omega)),h n (by omega)]
theorem sm_add (n:Nat) (f g:Nat→Int):sm n (fun i=>f i+g i)=sm n f+sm n g:=by
 induction n with
 | zero=>rfl
 | succ n ih=>simp only [sm];rw [ih];omega
theorem sm_mul (n:Nat) (c:Int) (f:Nat→Int):sm n (fun i=>c*f i)=c*sm n f:=by
 induction n with
 | zero=>simp [sm]
 | succ n ih=>simp only [sm];rw [ih,Int.mul_add]
theorem sm_mulr (n:Nat) (c:Int) (f:Nat→Int):sm n (fun i=>f i*c)=sm n f*c:=by
 rw [Int.mul_comm, ← sm_mul];exact sm_congr (fun i _=>Int.mul_comm _ _)
theorem sm_zero (n:Nat):sm n (fun _=>0)=0:=by
 induction n with
 | zero=>rfl
 | succ n ih=>simp only [sm];rw [ih];rfl
theorem sm_none {n:Nat} {f:Nat→Int} (h: ∀i,i < n→f i=0):sm n f=0:=by rw [sm_congr h,sm_zero]
theorem sm_one {n:Nat} {f:Nat→Int} {k:Nat} (hk:k < n) (h: ∀i,i < n→i≠k→f i=0):sm n f=f k:=by
 induction n with
 | zero=>omega
 | succ n ih=>
  simp only [sm]
  by_cases c:k=n
  ·subst c
   rw [sm_none (fun i hi=>h i (by omega) (by omega))];omega
  ·rw [ih (by omega) (fun i hi=>h i (by omega)),h n (by omega) (by omega)];omega
theorem sm_two {n:Nat} {f:Nat→Int} {k l:Nat} (hk:k < n) (hl:l < n) (hkl:k≠l) (h: ∀i,i < n→i≠k→i≠l→f i=0):sm n f=f k+f l:=by
 have e:sm n f=sm n (fun i=>(if i=k then f i else 0)+(if i=k then 0 else f i)):=sm_congr (fun i _=>by split <;> omega)
 rw [e,sm_add,sm_one hk (fun i _ hi=>by simp [hi]),sm_one hl]
 ·simp [Ne.symm hkl]
 ·intro i hi hil
  by_cases c:i=k
  ·simp [c]
  ·simp [c,h i hi c hil]
theorem sm_cut {n m:Nat} {f:Nat→Int} (h: ∀i,n≤i→i < n+m→f i=0):sm (n+m) f=sm n f:=by
 induction m with
 | zero=>rfl
 | succ m ih=>
  rw [← Nat.add_assoc];simp only [sm]
  rw [ih (fun i h1 h2=>h i h1 (by omega)),h (n+m) (by omega) (by omega)];omega
theorem sm_split (n m:Nat) (f:Nat→Int):sm (n+m) f=sm n f+sm m (fun i=>f (n+i)):=by
 induction m with
 | zero=>simp [sm]
 | succ m ih=>rw [← Nat.add_assoc];simp only [sm];rw [ih];omega
theorem sm_first (n:Nat) (f:Nat→Int):sm (n+1) f=f 0+sm n (fun i=>f (i+1)):=by
 rw [Nat.add_comm,sm_split]
 simp only [sm]
 rw [sm_congr (f:=fun i=>f (1+i)) (g:=fun i=>f (i+1)) (fun i _=>by rw [Nat.add_comm])]
 omega
def up (k j:Nat):Nat:=if j < k then j else j+1
def dn (k j:Nat):Nat:=if j < k then j else j - 1
theorem up_ne (k j:Nat):up k j≠k:=by unfold up;split <;> omega
theorem up_dn {k j:Nat} (h:j≠k):up k (dn k j)=j:=by unfold up dn;grind
theorem dn_up (k j:Nat):dn k (up k j)=j:=by unfold up dn;grind
theorem up_lt {k j n:Nat} (h:j < n):up k j < n+1:=by unfold up;split <;> omega
theorem dn_lt {k j n:Nat} (h:j < n+1) (hk:k < n+1) (hj:j≠k):dn k j < n:=by unfold dn;split <;> omega
def mnr (k:Nat) (A:Mat):Mat:=fun i j=>A (i+1) (up k j)
def sg (k:Nat):Int:=if k % 2=1 then -1 else 1
theorem sg_succ (k:Nat):sg (k+1)= - sg k:=by unfold sg;split <;> split <;> omega
theorem sg_sq (k:Nat):sg k*sg k=1:=by unfold sg;split <;> rfl
def det:Nat→Mat→Int
 | 0,_=>1
 | n+1,A=>sm (n+1) (fun k=>sg k*(A 0 k*det n (mnr k A)))
theorem det_succ (n:Nat) (A:Mat):det (n+1) A=sm (n+1) (fun k=>sg k*(A 0 k*det n (mnr k A))):=rfl
theorem det_congr {n:Nat}: ∀ {A B:Mat},(∀i j,i < n→j < n→A i j=B i j)→det n A=det n B:=by
 induction n with
 | zero=>intro A B _;rfl
 | succ n ih=>
  intro A B h
  unfold det
  refine sm_congr (fun k hk=>?_)
  rw [h 0 k (by omega) hk,ih (A:=mnr k A) (B:=mnr k B) (fun i j hi hj=>h _ _ (by omega) (up_lt hj))]
theorem det_col_lin {n:Nat}: ∀ {A B C:Mat} {c:Nat} {s t:Int},c < n→(∀i,i < n→A i c=s*B i c+t*C i c)→(∀i j,i < n→j < n→j≠c→A i j=B i j∧A i j=C i j)→det n A=s*det n B+t*det n C:=by
 induction n with
 | zero=>intro A B C c s t hc;omega
 | succ n ih=>
  intro A B C c s t hc h ho
  unfold det
  rw [← sm_mul, ← sm_mul, ← sm_add]
  refine sm_congr (fun k hk=>?_)
  by_cases e:k=c
  ·subst e
   have e1:det n (mnr k A)=det n (mnr k B):=det_congr (fun i j hi hj=>(ho _ _ (by omega) (up_lt hj) (up_ne k j)).1)
   have e2:det n (mnr k A)=det n (mnr k C):=det_congr (fun i j hi hj=>(ho _ _ (by omega) (up_lt hj) (up_ne k j)).2)
   rw [h 0 (by omega), ← e1, ← e2]
   grind
  ·have key:=ih (A:=mnr k A) (B:=mnr k B) (C:=mnr k C) (c:=dn k c) (s:=s) (t:=t) (dn_lt hc hk (Ne.symm e)) (fun i hi=>by unfold mnr;rw [up_dn (Ne.symm e)];exact h _ (by omega)) (fun i j hi hj hjc=>ho _ _ (by omega) (up_lt hj) (fun hh=>hjc (by rw [← hh,dn_up])))
   have o:=ho 0 k (by omega) hk e
   rw [key, ← o.1, ← o.2]
   grind
def cset (c:Nat) (v:Nat→Int) (A:Mat):Mat:=fun i j=>if j=c then v i else A i j
def rset (r:Nat) (v:Nat→Int) (A:Mat):Mat:=fun i j=>if i=r then v j else A i j
def tr (A:Mat):Mat:=fun i j=>A j i
def one:Mat:=fun i j=>if i=j then 1 else 0
def mul (n:Nat) (A B:Mat):Mat:=fun i j=>sm n (fun k=>A i k*B k j)
theorem det_adj_eq {n:Nat}: ∀ {A:Mat} {c:Nat},c+1 < n→(∀i,i < n→A i c=A i (c+1))→det n A=0:=by
 induction n with
 | zero=>intro A c hc;omega
 | succ n ih=>
  intro A c hc h
  unfold det
  rw [sm_two (k:=c) (l:=c+1) (by omega) (by omega) (by omega)]
  ·have e:det n (mnr c A)=det n (mnr (c+1) A):=det_congr (fun i j hi hj=>by
    unfold mnr up
    by_cases e:j=c
    ·subst e
     simp only [Nat.lt_irrefl,if_false,Nat.lt_succ_self,if_true]
     exact(h _ (by omega)).symm
    ·by_cases e2:j < c
     ·rw [if_pos e2,if_pos (by omega)]
     ·rw [if_neg e2,if_neg (by omega)])
   rw [sg_succ, ← e, ← h 0 (by omega)]
   grind
  ·intro k hk h1 h2
   rw [ih (A:=mnr k A) (c:=dn k c) (by unfold dn;split <;> omega) (fun i hi=>?_)]
   ·simp
   ·unfold mnr
    rw [up_dn (Ne.symm h1),show dn k c+1=dn k (c+1) from by unfold dn;split <;> split <;> omega,up_dn (Ne.symm h2)]
    exact h _ (by omega)
theorem det_cadd {n c:Nat} (hc:c < n) (u v:Nat→Int) (A:Mat) (s t:Int):det n (cset c (fun i=>s*u i+t*v i) A)=s*det n (cset c u A)+t*det n (cset c v A):=
 det_col_lin hc (fun i _=>by simp [cset]) (fun i j _ _ h=>by simp [cset,h])
theorem det_cset_self {n c:Nat} (A:Mat):det n (cset c (fun i=>A i c) A)=det n A:=det_congr (fun i j _ _=>by unfold cset;split <;> simp_all)
theorem det_adj_swap {n c:Nat} (hc:c+1 < n) {A B:Mat} (h: ∀i,i < n→B i c=A i (c+1)∧B i (c+1)=A i c) (ho: ∀i j,i < n→j < n→j≠c→j≠c+1→B i j=A i j):det n B= - det n A:=by
 let W (u v:Nat→Int):Mat:=cset c u (cset (c+1) v A)
 let x:Nat→Int:=fun i=>A i c
 let y:Nat→Int:=fun i=>A i (c+1)
 have z (u v:Nat→Int) (e: ∀i,u i=v i):det n (W u v)=0:=det_adj_eq hc (fun i hi=>by simp [W,cset,e])
 have l1 (u v w:Nat→Int):det n (W (fun i=>1*u i+1*v i) w)=1*det n (W u w)+1*det n (W v w):=det_cadd (by omega) u v _ 1 1
 have l2 (u v w:Nat→Int):det n (W w (fun i=>1*u i+1*v i))=1*det n (W w u)+1*det n (W w v):=
  det_col_lin (c:=c+1) hc (fun i _=>by simp [W,cset]) (fun i j _ _ h=>by by_cases e:j=c <;> simp [W,cset,h,e])
 have a:=z (fun i=>1*x i+1*y i) (fun i=>1*x i+1*y i) (fun _=>rfl)
 rw [l1,l2,l2,z x x (fun _=>rfl),z y y (fun _=>rfl)] at a
 have ea:det n (W x y)=det n A:=det_congr (fun i j _ _=>by by_cases e:j=c <;> by_cases e2:j=c+1 <;> simp [W,cset,x,y,e,e2])
 have eb:det n (W y x)=det n B:=det_congr (fun i j hi hj=>by
  by_cases e:j=c
  ·subst e;simp [W,cset,y,(h i hi).1]
  ·by_cases e2:j=c+1
   ·subst e2;simp [W,cset,x,(h i hi).2]
   ·simp [W,cset,e,e2,ho i j hi hj e e2])
 rw [ea,eb] at a
 omega
theorem det_col_eq {n:Nat}: ∀(q:Nat) {A:Mat} {c d:Nat},d=c+1+q→d < n→(∀i,i < n→A i c=A i d)→det n A=0:=by
 intro q
 induction q with
 | zero=>intro A c d e hd h;subst e;exact det_adj_eq hd h
 | succ q ih=>
  intro A c d e hd h
  have k:=ih (A:=fun i j=>if j=c+1+q then A i (c+1+q+1) else if j=c+1+q+1 then A i (c+1+q) else A i j) (c:=c) (d:=c+1+q) rfl (by omega) (fun i hi=>by
   simp only [if_neg (show ¬ c=c+1+q by omega),if_neg (show ¬ c=c+1+q+1 by omega),if_true]
   rw [h i hi,e];rfl)
  have s:=det_adj_swap (n:=n) (c:=c+1+q) (by omega) (A:=A) (B:=fun i j=>if j=c+1+q then A i (c+1+q+1) else if j=c+1+q+1 then A i (c+1+q) else A i j) (fun i hi=>⟨by simp,by simp⟩) (fun i j _ _ h1 h2=>by simp [h1,h2])
  omega
theorem det_col_alt {n c d:Nat} {A:Mat} (hc:c < n) (hd:d < n) (hcd:c≠d) (h: ∀i,i < n→A i c=A i d):det n A=0:=by
 by_cases e:c < d
 ·exact det_col_eq (d - c - 1) (by omega) hd h
 ·exact det_col_eq (c - d - 1) (by omega) hc (fun i hi=>(h i hi).symm)
structure Form (n:Nat) (f:Mat→Int):Prop where
 cong: ∀A B:Mat,(∀i j,i < n→j < n→A i j=B i j)→f A=f B
 lin: ∀(A:Mat) (r:Nat) (u v:Nat→Int) (s t:Int),r < n→f (rset r (fun j=>s*u j+t*v j) A)=s*f (rset r u A)+t*f (rset r v A)
 alt: ∀(A:Mat) (r q:Nat),r < n→q < n→r≠q→(∀j,j < n→A r j=A q j)→f A=0
theorem rset_self (r:Nat) (A:Mat):rset r (A r) A=A:=by funext i j;unfold rset;split <;> simp_all
theorem Form.sums {n:Nat} {f:Mat→Int} (F:Form n f) {r:Nat} (hr:r < n) (A:Mat) (m:Nat) (c:Nat→Int) (v:Nat→Nat→Int):f (rset r (fun j=>sm m (fun k=>c k*v k j)) A)=sm m (fun k=>c k*f (rset r (v k) A)):=by
 induction m with
 | zero=>
  have:=F.lin A r (fun _=>0) (fun _=>0) 0 0 hr
  simp only [sm] at*
  simpa using this
 | succ m ih=>
  simp only [sm]
  have:=F.lin A r (fun j=>sm m (fun k=>c k*v k j)) (v m) 1 (c m) hr
  simp only [Int.one_mul] at this
  rw [this,ih]
theorem Form.swap {n:Nat} {f:Mat→Int} (F:Form n f) {r q:Nat} (hr:r < n) (hq:q < n) (hrq:r≠q) {A B:Mat} (h: ∀j,j < n→B r j=A q j∧B q j=A r j) (ho: ∀i j,i < n→j < n→i≠r→i≠q→B i j=A i j):f B= - f A:=by
 let W (u v:Nat→Int):Mat:=rset r u (rset q v A)
 have z (u v:Nat→Int) (e: ∀i,u i=v i):f (W u v)=0:=F.alt _ r q hr hq hrq (fun j _=>by simp [W,rset,e,Ne.symm hrq])
 have l1 (u v w:Nat→Int):f (W (fun i=>1*u i+1*v i) w)=1*f (W u w)+1*f (W v w):=F.lin _ r u v 1 1 hr
 have c (u v:Nat→Int):W u v=rset q v (rset r u A):=by
  funext i j;simp only [W,rset]
  by_cases e:i=r
  ·subst e;simp [hrq]
  ·simp [e]
 have l2 (u v w:Nat→Int):f (W w (fun i=>1*u i+1*v i))=1*f (W w u)+1*f (W w v):=by
  rw [c,c,c];exact F.lin _ q u v 1 1 hq
 have a:=z (fun i=>1*A r i+1*A q i) (fun i=>1*A r i+1*A q i) (fun _=>rfl)
 rw [l1,l2,l2,z (A r) (A r) (fun _=>rfl),z (A q) (A q) (fun _=>rfl)] at a
 have ea:f (W (A r) (A q))=f A:=F.cong _ _ (fun i j _ _=>by simp only [W,rset];grind)
 have eb:f (W (A q) (A r))=f B:=F.cong _ _ (fun i j hi hj=>by
  by_cases e:i=r
  ·subst e;simp [W,rset,(h j hj).1]
  ·by_cases e2:i=q
   ·subst e2;simp [W,rset,(h j hj).2,e]
   ·simp [W,rset,e,e2,ho i j hi hj e e2])
 rw [ea,eb] at a
 omega
theorem Form.addrow {n:Nat} {f:Mat→Int} (F:Form n f) {r q:Nat} (hr:r < n) (hq:q < n) (hrq:r≠q) (A:Mat) (t:Int):f (rset r (fun j=>A r j+t*A q j) A)=f A:=by
 have l:=F.lin A r (A r) (A q) 1 t hr
 simp only [Int.one_mul] at l
 rw [l,rset_self,F.alt (rset r (A q) A) r q hr hq hrq (fun j _=>by simp [rset,Ne.symm hrq])]
 omega
def emb (k:Nat) (B:Mat):Mat
 | 0,j=>if j=k then 1 else 0
 | i+1,j=>if j=k then 0 else B i (dn k j)
theorem Form.clean {n:Nat} {f:Mat→Int} (F:Form (n+1) f) {k:Nat} (hk:k < n+1) (A:Mat): ∀m,m≤n→f (rset 0 (fun j=>if j=k then 1 else 0) A)=f (fun i j=>if i=0 then(if j=k then 1 else 0) else if i≤m∧j=k then 0 else A i j):=by
 intro m
 induction m with
 | zero=>intro _;exact F.cong _ _ (fun i j _ _=>by by_cases e:i=0 <;> simp [rset,e])
 | succ m ih=>
  intro hm
  rw [ih (by omega)]
  rw [← F.addrow (r:=m+1) (q:=0) (by omega) (by omega) (by omega) _ (- A (m+1) k)]
  refine F.cong _ _ (fun i j hi hj=>?_)
  by_cases e:i=m+1
  ·subst e
   by_cases e2:j=k
   ·subst e2;simp [rset];omega
   ·simp [rset,e2]
  ·by_cases e0:i=0
   ·simp [rset,e0]
   ·have:(i≤m∧j=k)↔(i≤m+1∧j=k):=by constructor <;> intro h <;> omega
    simp [rset,e,e0,this]
theorem Form.emb_sg {n:Nat} {f:Mat→Int} (F:Form (n+1) f): ∀k,k < n+1→f (emb k one)=sg k*f one:=by
 intro k
 induction k with
 | zero=>
  intro _
  rw [show sg 0=1 from rfl,Int.one_mul]
  refine F.cong _ _ (fun i j _ _=>?_)
  cases i with
  | zero=>unfold emb one;by_cases e:j=0 <;> simp [e,eq_comm]
  | succ i=>unfold emb one dn;cases j with
   | zero=>simp
   | succ j=>simp
 | succ k ih=>
  intro hk
  rw [F.swap (r:=0) (q:=k+1) (A:=emb k one) (by omega) (by omega) (by omega),ih (by omega),sg_succ]
  ·grind
  ·intro j hj
   refine⟨?_,?_⟩
   ·simp only [emb,one,dn];grind
   ·simp only [emb,one,dn];grind
  ·intro i j hi hj h0 h1
   cases i with
   | zero=>exact absurd rfl h0
   | succ i=>simp only [emb,one,dn];grind
theorem Form.uniq {n:Nat}: ∀ {f:Mat→Int},Form n f→ ∀A,f A=det n A*f one:=by
 induction n with
 | zero=>intro f F A;rw [show det 0 A=1 from rfl,Int.one_mul];exact F.cong _ _ (fun i j hi _=>absurd hi (Nat.not_lt_zero _))
 | succ n ih=>
  intro f F A
  have e0:f A=f (rset 0 (fun j=>sm (n+1) (fun k=>A 0 k*(if j=k then 1 else 0))) A):=F.cong _ _ (fun i j hi hj=>by
   by_cases e:i=0
   ·subst e
    simp only [rset,if_true]
    rw [sm_one hj (fun i _ h=>by simp [Ne.symm h])];simp
   ·simp [rset,e])
  rw [e0,F.sums (by omega) A (n+1) (A 0) (fun k j=>if j=k then 1 else 0)]
  unfold det
  rw [← sm_mulr]
  refine sm_congr (fun k hk=>?_)
  have G:Form n (fun B=>f (emb k B)):=by
   have er (B:Mat) (r:Nat) (v:Nat→Int):emb k (rset r v B)=rset (r+1) (fun j=>if j=k then 0 else v (dn k j)) (emb k B):=by
    funext i j
    cases i with
    | zero=>simp [emb,rset]
    | succ i=>by_cases e:i=r <;> simp [emb,rset,e]
   refine⟨fun B C h=>F.cong _ _ (fun i j hi hj=>?_),fun B r u v s t hr=>?_,fun B r q hr hq hrq h=>?_⟩
   ·cases i with
    | zero=>rfl
    | succ i=>
     unfold emb
     by_cases e:j=k
     ·simp [e]
     ·simp only [if_neg e];exact h _ _ (by omega) (dn_lt hj hk e)
   ·simp only [er]
    rw [← F.lin _ _ _ _ s t (by omega)]
    congr 2
    funext j
    by_cases e:j=k <;> simp [e]
   ·refine F.alt _ (r+1) (q+1) (by omega) (by omega) (by omega) (fun j hj=>?_)
    unfold emb
    by_cases e:j=k
    ·simp [e]
    ·simp only [if_neg e];exact h _ (dn_lt hj hk e)
  have e1:f (rset 0 (fun j=>if j=k then 1 else 0) A)=f (emb k (mnr k A)):=by
   rw [F.clean hk A n (Nat.le_refl _)]
   refine F.cong _ _ (fun i j hi hj=>?_)
   cases i with
   | zero=>simp [emb]
   | succ i=>
    unfold emb mnr
    by_cases e:j=k
    ·simp [e];omega
    ·simp [e,up_dn e]
  have e2:=ih G (mnr k A)
  rw [e1,e2,F.emb_sg k hk]
  grind
theorem det_one (n:Nat):det n one=1:=by
 induction n with
 | zero=>rfl
 | succ n ih=>
  unfold det
  rw [sm_one (k:=0) (by omega) (fun i _ h=>by simp [one,Ne.symm h])]
  rw [det_congr (A:=mnr 0 one) (B:=one) (fun i j _ _=>by simp [mnr,one,up]),ih]
  rfl
theorem tr_form (n:Nat):Form n (fun A=>det n (tr A)):=by
 refine⟨fun A B h=>det_congr (fun i j hi hj=>h j i hj hi),fun A r u v s t hr=>?_,fun A r q hr hq hrq h=>det_col_alt hr hq hrq h⟩
 exact det_col_lin (c:=r) hr (fun i _=>by simp [tr,rset]) (fun i j _ _ h=>by simp [tr,rset,h])
theorem det_tr (n:Nat) (A:Mat):det n (tr A)=det n A:=by
 have h:det n (tr A)=det n A*det n (tr one):=(tr_form n).uniq A
 rw [h,det_congr (A:=tr one) (B:=one) (fun i j _ _=>by simp [tr,one,eq_comm]),det_one,Int.mul_one]
theorem det_form (n:Nat):Form n (det n):=by
 have e:det n=fun A=>det n (tr A):=by funext A;exact(det_tr n A).symm
 rw [e];exact tr_form n
theorem mul_form (n:Nat) (B:Mat):Form n (fun A=>det n (mul n A B)):=by
 have er (A:Mat) (r:Nat) (v:Nat→Int):mul n (rset r v A) B=rset r (fun j=>sm n (fun k=>v k*B k j)) (mul n A B):=by
  funext i j;by_cases e:i=r <;> simp [mul,rset,e]
 refine⟨fun A C h=>det_congr (fun i j hi hj=>sm_congr (fun k hk=>by rw [h i k hi hk])),fun A r u v s t hr=>?_,fun A r q hr hq hrq h=>?_⟩
 ·simp only [er]
  rw [← (det_form n).lin _ _ _ _ s t hr]
  congr 2
  funext j
  rw [← sm_mul, ← sm_mul, ← sm_add]
  exact sm_congr (fun k _=>by grind)
 ·exact(det_form n).alt _ r q hr hq hrq (fun j hj=>sm_congr (fun k hk=>by rw [h k hk]))
theorem det_mul (n:Nat) (A B:Mat):det n (mul n A B)=det n A*det n B:=by
 have h:det n (mul n A B)=det n A*det n (mul n one B):=(mul_form n B).uniq A
 rw [h,det_congr (A:=mul n one B) (B:=B) (fun i j hi _=>?_)]
 unfold mul
 rw [sm_one (k:=i) hi (fun k _ h=>by simp [one,Ne.symm h])]
 simp [one]
def sh (l:Nat) (A:Mat):Mat:=fun i j=>A (l+i) (l+j)
theorem det_block (d:Nat): ∀(l:Nat) (A:Mat),(∀i j,i < l→l≤j→j < l+d→A i j=0)→det (l+d) A=det l A*det d (sh l A):=by
 intro l
 induction l with
 | zero=>intro A _;rw [Nat.zero_add,show det 0 A=1 from rfl,Int.one_mul];exact det_congr (fun i j _ _=>by simp [sh])
 | succ l ih=>
  intro A h
  rw [show l+1+d=(l+d)+1 from by omega,det_succ,det_succ]
  rw [show l+d+1=(l+1)+d from by omega,sm_cut (fun i h1 h2=>by rw [h 0 i (by omega) h1 h2];simp), ← sm_mulr]
  refine sm_congr (fun k hk=>?_)
  rw [ih (mnr k A) (fun i j hi h1 h2=>by
   unfold mnr up
   rw [if_neg (by omega)]
   exact h _ _ (by omega) (by omega) (by omega))]
  rw [det_congr (A:=sh l (mnr k A)) (B:=sh (l+1) A) (fun i j _ _=>by
   unfold sh mnr up
   rw [if_neg (by omega),show l+i+1=l+1+i from by omega,show l+j+1=l+1+j from by omega])]
  grind
theorem det_block' (d l:Nat) (A:Mat) (h: ∀i j,l≤i→i < l+d→j < l→A i j=0):det (l+d) A=det l A*det d (sh l A):=by
 rw [← det_tr (l+d) A,det_block d l (tr A) (fun i j h1 h2 h3=>h j i h2 h3 h1),det_tr l A, ← det_tr d (sh l A)]
 rfl
def mv (s t:Nat) (b:Nat→Int) (A:Mat):Mat:=fun i j=>if i < s then A (up t i) j else if i=s then b j else A (up t (i - 1)) j
theorem mv_sg {n:Nat} (t:Nat) (b:Nat→Int) (A:Mat): ∀s,s < n→det n (mv s t b A)=sg s*det n (mv 0 t b A):=by
 intro s
 induction s with
 | zero=>intro _;simp [sg]
 | succ s ih=>
  intro hs
  rw [(det_form n).swap (r:=s) (q:=s+1) (A:=mv s t b A) (by omega) (by omega) (by omega),ih (by omega),sg_succ]
  ·grind
  ·intro j _;refine⟨?_,?_⟩
   ·simp [mv];intro h;omega
   ·simp [mv]
  ·intro i j _ _ h1 h2
   unfold mv
   by_cases e:i < s
   ·rw [if_pos e,if_pos (by omega)]
   ·rw [if_neg e,if_neg (by omega),if_neg h1,if_neg h2]
theorem adj_row {n:Nat} (B:Mat) (b:Nat→Int) {j:Nat} (hj:j < n):sm n (fun t=>det n (rset t b B)*B t j)=det n B*b j:=by
 let X:Mat:=fun i c=>if i=0 then(if c=0 then b j else b (c - 1)) else(if c=0 then B (i - 1) j else B (i - 1) (c - 1))
 have z:det (n+1) X=0:=det_col_alt (c:=0) (d:=j+1) (by omega) (by omega) (by omega) (fun i _=>by simp [X])
 have e:=det_tr (n+1) X
 rw [z] at e
 unfold det at e
 rw [sm_first] at e
 have m0:det n (mnr 0 (tr X))=det n B:=by
  rw [← det_tr n B];exact det_congr (fun p q _ _=>by simp [mnr,tr,X,up])
 have mt (t:Nat) (ht:t < n):det n (mnr (t+1) (tr X))=sg t*det n (rset t b B):=by
  rw [← det_tr n (mnr (t+1) (tr X))]
  have e1:det n (tr (mnr (t+1) (tr X)))=det n (mv 0 t b B):=det_congr (fun p q _ _=>by
   cases p with
   | zero=>simp [mnr,tr,X,up,mv]
   | succ p=>
    simp only [mnr,tr,X,up,mv,Nat.not_lt_zero,if_false]
    by_cases c:p < t
    ·simp [c,Nat.succ_lt_succ c]
    ·simp [c,show ¬ p+1 < t+1 from by omega])
  have e2:det n (mv t t b B)=det n (rset t b B):=det_congr (fun p q _ _=>by
   unfold mv rset up
   by_cases c:p < t
   ·simp [c,show p≠t from by omega]
   ·by_cases c2:p=t
    ·simp [c2]
    ·rw [if_neg c,if_neg c2,if_neg c2,if_neg (by omega),show p - 1+1=p from by omega])
  rw [e1, ← e2,mv_sg t b B t ht]
  have:=sg_sq t
  grind
 have e3:sm n (fun i=>sg (i+1)*(tr X 0 (i+1)*det n (mnr (i+1) (tr X))))= - sm n (fun t=>det n (rset t b B)*B t j):=by
  rw [← Int.neg_one_mul, ← sm_mul]
  refine sm_congr (fun t ht=>?_)
  rw [mt t ht,sg_succ]
  have:=sg_sq t
  simp only [tr,X]
  simp
  grind
 rw [e3,m0] at e
 simp [tr,X,sg] at e
 grind
theorem adj_col {n:Nat} (B:Mat) (b:Nat→Int) {j:Nat} (hj:j < n):sm n (fun t=>B j t*det n (cset t b B))=det n B*b j:=by
 rw [← det_tr n B, ← adj_row (tr B) b hj]
 refine sm_congr (fun t _=>?_)
 rw [Int.mul_comm, ← det_tr n (cset t b B)]
 rfl
end Go.Proofs.YthmfdplckdijdaaGreat.Dt
end
section
namespace Go.Proofs.YthmfdplckdijdaaGreat.Bd
open Go.RowKit Go.Proofs.YthmfdplckdijdaaGreatW.PrintWords Go.Proofs.YthmfdplckdijdaaGreatW.PrintMore Go.Proofs.YthmfdplckdijdaaGreat.Ma Go.Proofs.YthmfdplckdijdaaGreat.Dt
def ev (M:Mat) (i:Nat) (last:Int) (r c:Nat):Int:=wrap64 (Int.tdiv (wrap64 (wrap64 (M r c*M i i) - wrap64 (M r i*M i c))) last)
def mid (M:Mat) (i:Nat) (last:Int) (r c:Nat):Mat:=fun a b=>if i≤b∧i < a∧(a < r∨a=r∧b < c) then ev M i last a b else M a b
def el (M:Mat) (i:Nat) (last:Int):Mat:=fun a b=>if i≤b∧i < a then ev M i last a b else M a b
def fnd (M:Mat) (i:Nat):Nat→Nat→Option Nat
 | 0,_=>none
 | q+1,k=>if M (i+k) i≠0 then some k else fnd M i q (k+1)
def swp (M:Mat) (r q:Nat):Mat:=fun j=>M (if j=r then q else if j=q then r else j)
def dgo (n:Nat):Nat→Nat→Mat→Int→Int→Int
 | 0,_,_,last,turn=>wrap64 (turn*last)
 | q+1,i,M,last,turn=>match fnd M i (n - i) 0 with
  | none=>0
  | some 0=>dgo n q (i+1) (el M i last) (M i i) turn
  | some (k+1)=>dgo n q (i+1) (el (swp M i (i+(k+1))) i last) (swp M i (i+(k+1)) i i) (wrap64 (-turn))
theorem fnd_some {M:Mat} {i:Nat}: ∀ {q k j:Nat},fnd M i q k=some j→k≤j∧j < k+q∧M (i+j) i≠0∧ ∀t,k≤t→t < j→M (i+t) i=0
 | 0,_,_,h=>by cases h
 | q+1,k,j,h=>by
  unfold fnd at h
  by_cases c:M (i+k) i≠0
  ·rw [if_pos c] at h
   cases h
   exact⟨Nat.le_refl _,by omega,c,fun t h1 h2=>by omega⟩
  ·rw [if_neg c] at h
   obtain⟨h1,h2,h3,h4⟩:=fnd_some h
   refine⟨by omega,by omega,h3,fun t h5 h6=>?_⟩
   by_cases e:t=k
   ·subst e;exact Decidable.not_not.1 c
   ·exact h4 t (by omega) h6
theorem fnd_none {M:Mat} {i:Nat}: ∀ {q k:Nat},fnd M i q k=none→ ∀t,k≤t→t < k+q→M (i+t) i=0
 | 0,_,_,t,h1,h2=>by omega
 | q+1,k,h,t,h1,h2=>by
  unfold fnd at h
  by_cases c:M (i+k) i≠0
  ·rw [if_pos c] at h;cases h
  ·rw [if_neg c] at h
   by_cases e:t=k
   ·subst e;exact Decidable.not_not.1 c
   ·exact fnd_none h t (by omega) (by omega)
theorem mid_start (M:Mat) (i:Nat) (last:Int) (a b:Nat):mid M i last (i+1) i a b=M a b:=by unfold mid;rw [if_neg (by omega)]
theorem mid_row (M:Mat) (i:Nat) (last:Int) {n:Nat} (r a b:Nat) (hb:b < n):mid M i last r n a b=mid M i last (r+1) i a b:=by
 unfold mid
 by_cases c:i≤b∧i < a∧(a < r∨a=r∧b < n)
 ·rw [if_pos c,if_pos (by omega)]
 ·rw [if_neg c,if_neg (by omega)]
theorem mid_end (M:Mat) (i:Nat) (last:Int) {n:Nat} (a b:Nat) (ha:a < n):mid M i last n i a b=el M i last a b:=by
 unfold mid el
 by_cases c:i≤b∧i < a
 ·rw [if_pos c,if_pos (by omega)]
 ·rw [if_neg c,if_neg (by omega)]
theorem mid_next (M:Mat) (i:Nat) (last:Int) (r c:Nat) (hr:i < r) (hc:i≤c) (a b:Nat):(if a=r∧b=c then ev M i last r c else mid M i last r c a b)=mid M i last r (c+1) a b:=by
 unfold mid
 by_cases e:a=r∧b=c
 ·obtain⟨rfl,rfl⟩:=e
  rw [if_pos ⟨rfl,rfl⟩,if_pos (by omega)]
 ·rw [if_neg e]
  by_cases q:i≤b∧i < a∧(a < r∨a=r∧b < c)
  ·rw [if_pos q,if_pos (by omega)]
  ·rw [if_neg q,if_neg (by omega)]
theorem mid_head (M:Mat) (i:Nat) (last:Int) (r c b:Nat):mid M i last r c i b=M i b:=by unfold mid;rw [if_neg (by omega)]
theorem mid_at (M:Mat) (i:Nat) (last:Int) (r c b:Nat) (h:c≤b):mid M i last r c r b=M r b:=by unfold mid;rw [if_neg (by omega)]
end Go.Proofs.YthmfdplckdijdaaGreat.Bd
end
section
namespace Go.Proofs.YthmfdplckdijdaaGreat.Bz
open Go.RowKit Go.Proofs.YthmfdplckdijdaaGreatW.PrintWords Go.Proofs.YthmfdplckdijdaaGreatW.PrintMore Go.Proofs.YthmfdplckdijdaaGreat.Ma Go.Proofs.YthmfdplckdijdaaGreat.Dt Go.Proofs.YthmfdplckdijdaaGreat.Bd
theorem det_scal (L:Int): ∀n,det n (fun a b=>if a=b then L else 0)=L ^ n:=by
 intro n
 induction n with
 | zero=>simp [det]
 | succ n ih=>
  rw [det_succ,sm_one (k:=0) (by omega) (fun i _ h=>by rw [if_neg (by omega)];simp)]
  rw [det_congr (A:=mnr 0 (fun a b=>if a=b then L else 0)) (B:=fun a b=>if a=b then L else 0) (fun i j _ _=>by simp [mnr,up]),ih]
  rw [if_pos rfl,Int.pow_succ,show sg 0=1 from rfl]
  grind
theorem det_zero_col {n c:Nat} (hc:c < n) {A:Mat} (h: ∀i,i < n→A i c=0):det n A=0:=by
 have:=det_col_lin (A:=A) (B:=A) (C:=A) (s:=0) (t:=0) hc (fun i hi=>by rw [h i hi];simp) (fun i j _ _ _=>⟨rfl,rfl⟩)
 simpa using this
theorem det_1 (A:Mat):det 1 A=A 0 0:=by simp [det,sm,sg]
theorem det_2 (A:Mat):det 2 A=A 0 0*A 1 1 - A 0 1*A 1 0:=by
 simp [det,sm,sg,mnr,up]
 omega
def rs (i:Nat) (A:Mat) (r c:Nat):Int:=det i A*A r c - sm i (fun t=>det i (rset t (A r) A)*A t c)
theorem rs_zero (i:Nat) (A:Mat) (r:Nat) {j:Nat} (hj:j < i):rs i A r j=0:=by
 unfold rs
 rw [adj_row A (A r) hj];omega
theorem block_elim (i d:Nat) (A:Mat):det i A ^ d*det (i+d) A=det i A*det d (fun a b=>rs i A (i+a) (i+b)):=by
 let E:Mat:=fun a b=>if a < i then one a b else if b < i then - det i (rset b (A a) A) else if a=b then det i A else 0
 have hE:det (i+d) E=det i A ^ d:=by
  rw [det_block d i E (fun a b ha hb _=>by simp only [E,if_pos ha,one];rw [if_neg (by omega)])]
  rw [det_congr (A:=E) (B:=one) (fun a b ha _=>by simp only [E,if_pos ha]),det_one,Int.one_mul, ← det_scal]
  exact det_congr (fun a b _ _=>by simp only [sh,E];rw [if_neg (by omega),if_neg (by omega)];simp)
 have hlow (a b:Nat) (ha:i≤a) (ha2:a < i+d):mul (i+d) E A a b=rs i A a b:=by
  unfold mul
  rw [sm_split,sm_congr (f:=fun k=>E a k*A k b) (g:=fun k=>(-1)*(det i (rset k (A a) A)*A k b)) (fun k hk=>by simp only [E];rw [if_neg (by omega),if_pos hk];grind),sm_mul]
  rw [sm_one (n:=d) (k:=a - i) (by omega) (fun k hk hne=>by simp only [E];rw [if_neg (by omega),if_neg (by omega),if_neg (by omega)];simp)]
  simp only [E]
  rw [if_neg (by omega),if_neg (by omega),if_pos (by omega),show i+(a - i)=a from by omega]
  unfold rs
  omega
 have hup (a b:Nat) (ha:a < i):mul (i+d) E A a b=A a b:=by
  unfold mul
  rw [sm_one (k:=a) (by omega) (fun k hk hne=>by simp only [E,if_pos ha,one];rw [if_neg (by omega)];simp)]
  simp [E,ha,one]
 rw [← hE, ← det_mul,det_block' d i (mul (i+d) E A) (fun a b h1 h2 h3=>by rw [hlow a b h1 h2,rs_zero i A a h3])]
 rw [det_congr (A:=mul (i+d) E A) (B:=A) (fun a b ha _=>hup a b ha)]
 congr 1
 exact det_congr (fun a b ha _=>by simp only [sh];exact hlow _ _ (by omega) (by omega))
def bord (i r c:Nat) (A:Mat):Mat:=fun a b=>A (if a < i then a else r) (if b < i then b else c)
def bm (i r c:Nat) (A:Mat):Int:=det (i+1) (bord i r c A)
theorem rs_re (i:Nat) (A B:Mat) (r c r' c':Nat) (h1: ∀a b,a < i→b < i→B a b=A a b) (h2: ∀b,b < i→B r' b=A r b) (h3: ∀a,a < i→B a c'=A a c) (h4:B r' c'=A r c):rs i B r' c'=rs i A r c:=by
 unfold rs
 rw [det_congr (A:=B) (B:=A) h1,h4]
 congr 1
 refine sm_congr (fun t ht=>?_)
 rw [h3 t ht,det_congr (A:=rset t (B r') B) (B:=rset t (A r) A) (fun a b ha hb=>by
  unfold rset
  split
  ·exact h2 b hb
  ·exact h1 a b ha hb)]
theorem bm_rs {i:Nat} {A:Mat} (hL:det i A≠0) (r c:Nat):bm i r c A=rs i A r c:=by
 have h:=block_elim i 1 (bord i r c A)
 rw [det_1,det_congr (A:=bord i r c A) (B:=A) (n:=i) (fun a b ha hb=>by simp [bord,ha,hb]),Int.pow_succ,Int.pow_zero,Int.one_mul] at h
 rw [rs_re i A (bord i r c A) r c (i+0) (i+0) (fun a b ha hb=>by simp [bord,ha,hb]) (fun b hb=>by simp [bord,hb]) (fun a ha=>by simp [bord,ha]) (by simp [bord])] at h
 exact Int.eq_of_mul_eq_mul_left hL h
theorem sylv {i:Nat} {A:Mat} (hL:det i A≠0) (r c:Nat):det i A*bm (i+1) r c A=bm i i i A*bm i r c A - bm i i c A*bm i r i A:=by
 have h:=block_elim i 2 (bord (i+1) r c A)
 rw [det_2,det_congr (A:=bord (i+1) r c A) (B:=A) (n:=i) (fun a b ha hb=>by unfold bord;rw [if_pos (by omega),if_pos (by omega)])] at h
 have q (a b r' c':Nat) (ha:(if a < i+1 then a else r)=r') (hb:(if b < i+1 then b else c)=c'):rs i (bord (i+1) r c A) a b=rs i A r' c':=
  rs_re i A (bord (i+1) r c A) r' c' a b (fun x y hx hy=>by unfold bord;rw [if_pos (by omega),if_pos (by omega)]) (fun y hy=>by unfold bord;rw [ha,if_pos (by omega)]) (fun x hx=>by unfold bord;rw [hb,if_pos (by omega)]) (by unfold bord;rw [ha,hb])
 rw [q (i+0) (i+0) i i (by simp) (by simp),q (i+1) (i+1) r c (by simp) (by simp),q (i+0) (i+1) i c (by simp) (by simp),q (i+1) (i+0) r i (by simp) (by simp)] at h
 rw [← bm_rs hL, ← bm_rs hL, ← bm_rs hL, ← bm_rs hL] at h
 have e:det i A ^ 2*det (i+2) (bord (i+1) r c A)=det i A*(det i A*bm (i+1) r c A):=by unfold bm;grind
 rw [e] at h
 exact Int.eq_of_mul_eq_mul_left hL h
def fact:Nat→Nat
 | 0=>1
 | n+1=>(n+1)*fact n
def b20 (n:Nat):Nat:=fact n*20 ^ n
theorem sm_abs {n B:Nat} {f:Nat→Int} (h: ∀i,i < n→(f i).natAbs≤B):(sm n f).natAbs≤n*B:=by
 induction n with
 | zero=>simp [sm]
 | succ n ih=>
  have h1:=ih (fun i hi=>h i (by omega))
  have h2:=h n (by omega)
  have h3:=Int.natAbs_add_le (sm n f) (f n)
  simp only [sm]
  rw [Nat.add_mul,Nat.one_mul]
  omega
theorem sg_abs (k:Nat):(sg k).natAbs=1:=by unfold sg;split <;> rfl
theorem det_abs20: ∀(n:Nat) (A:Mat),(∀i j,i < n→j < n→(A i j).natAbs≤20)→(det n A).natAbs≤b20 n:=by
 intro n
 induction n with
 | zero=>intro A _;show (1:Int).natAbs≤1;decide
 | succ n ih=>
  intro A h
  rw [det_succ]
  refine Nat.le_trans (sm_abs (B:=20*b20 n) (fun k hk=>?_)) ?_
  ·rw [Int.natAbs_mul,Int.natAbs_mul,sg_abs,Nat.one_mul]
   exact Nat.mul_le_mul (h 0 k (by omega) hk) (ih (mnr k A) (fun i j hi hj=>h _ _ (by omega) (up_lt hj)))
  ·unfold b20;rw [fact,Nat.pow_succ]
   exact Nat.le_of_eq (by grind)
def Bk (n k:Nat) (A:Mat):Prop:= ∀i j,i < n→j < n→(A i j).natAbs≤if j=k then 100 else 20
theorem det_absk: ∀(n k:Nat) (A:Mat),Bk n k A→(det n A).natAbs≤5*b20 n:=by
 intro n
 induction n with
 | zero=>intro k A _;show (1:Int).natAbs≤5*1;decide
 | succ n ih=>
  intro k A h
  rw [det_succ]
  refine Nat.le_trans (sm_abs (B:=100*b20 n) (fun c hc=>?_)) ?_
  ·rw [Int.natAbs_mul,Int.natAbs_mul,sg_abs,Nat.one_mul]
   have h0:=h 0 c (by omega) hc
   by_cases e:c=k
   ·subst e
    rw [if_pos rfl] at h0
    exact Nat.mul_le_mul h0 (det_abs20 n (mnr c A) (fun i j hi hj=>by have:=h (i+1) (up c j) (by omega) (up_lt hj);rwa [if_neg (up_ne c j)] at this))
   ·rw [if_neg e] at h0
    have:=ih (dn c k) (mnr c A) (fun i j hi hj=>by
     have:=h (i+1) (up c j) (by omega) (up_lt hj)
     unfold mnr
     by_cases q:up c j=k
     ·rw [if_pos q] at this
      rw [if_pos (by rw [← q,dn_up])];exact this
     ·rw [if_neg q] at this
      split <;> omega)
    calc (A 0 c).natAbs*(det n (mnr c A)).natAbs≤20*(5*b20 n):=Nat.mul_le_mul h0 this
     _=100*b20 n:=by omega
  ·unfold b20;rw [fact,Nat.pow_succ]
   exact Nat.le_of_eq (by grind)
theorem b20_le: ∀n,n≤5→5*b20 n≤1920000000:=by
 intro n h
 match n,h with
 | 0,_=>decide
 | 1,_=>decide
 | 2,_=>decide
 | 3,_=>decide
 | 4,_=>decide
 | 5,_=>decide
 | n+6,h=>omega
theorem bm_abs {n k:Nat} (hn:n≤5) {A:Mat} (h:Bk n k A) {i r c:Nat} (hi:i < n) (hr:r < n) (hic:i≤c) (hc:c < n): -1920000000≤bm i r c A∧bm i r c A≤1920000000:=by
 have h1:(bm i r c A).natAbs≤5*b20 (i+1):=det_absk (i+1) (if k < i then k else i) _ (fun a b ha hb=>by
  unfold bord
  have:=h (if a < i then a else r) (if b < i then b else c) (by split <;> omega) (by split <;> omega)
  refine Nat.le_trans this ?_
  grind)
 have h2:=b20_le (i+1) (by omega)
 omega
theorem prod_b {x y:Int} (hx: -1920000000≤x∧x≤1920000000) (hy: -1920000000≤y∧y≤1920000000): -3686400000000000000≤x*y∧x*y≤3686400000000000000:=by
 have h:(x*y).natAbs≤1920000000*1920000000:=by rw [Int.natAbs_mul];exact Nat.mul_le_mul (by omega) (by omega)
 omega
structure Inv (n k i:Nat) (M:Mat) (last turn:Int) (A A0:Mat):Prop where
 le:i≤n
 small:Bk n k A
 num: ∀r c,i≤r→r < n→i≤c→c < n→M r c=bm i r c A
 last_:last=det i A
 nz:last≠0
 turn_:turn=1∨turn= -1
 det_:turn*det n A=det n A0
section
variable {n k:Nat} (hn:n≤5) {A0:Mat}
include hn
theorem Inv.step {i:Nat} {M A:Mat} {last turn:Int} (h:Inv n k i M last turn A A0) (hi:i < n) (hp:M i i≠0):Inv n k (i+1) (el M i last) (M i i) turn A A0:=by
 have hL:det i A≠0:=by rw [← h.last_];exact h.nz
 have hpi:=h.num i i (Nat.le_refl _) hi (Nat.le_refl _) hi
 refine⟨by omega,h.small,fun r c hr hrn hc hcn=>?_,?_,hp,h.turn_,h.det_⟩
 ·unfold el ev
  rw [if_pos (by omega),h.num r c (by omega) hrn (by omega) hcn,hpi,h.num r i (by omega) hrn (Nat.le_refl _) hi,h.num i c (Nat.le_refl _) hi (by omega) hcn]
  have p1:=prod_b (bm_abs hn h.small hi hrn (by omega) hcn) (bm_abs hn h.small hi hi (Nat.le_refl _) hi)
  have p2:=prod_b (bm_abs hn h.small hi hrn (Nat.le_refl _) hi) (bm_abs hn h.small hi hi (by omega) hcn)
  have s:=sylv hL r c
  have e:bm i r c A*bm i i i A - bm i r i A*bm i i c A=det i A*bm (i+1) r c A:=by rw [s];grind
  have b:=bm_abs hn h.small (i:=i+1) (r:=r) (c:=c) (by omega) hrn hc hcn
  rw [w64 (x:=bm i r c A*bm i i i A) (by omega) (by omega),w64 (x:=bm i r i A*bm i i c A) (by omega) (by omega),w64 (x:=bm i r c A*bm i i i A - bm i r i A*bm i i c A) (by omega) (by omega),e,h.last_,Int.mul_tdiv_cancel_left _ hL]
  exact w64 (by omega) (by omega)
 ·rw [hpi];unfold bm
  exact det_congr (fun a b ha hb=>by
   unfold bord
   have e1:(if a < i then a else i)=a:=by split <;> omega
   have e2:(if b < i then b else i)=b:=by split <;> omega
   rw [e1,e2])
theorem Inv.none_ {i:Nat} {M A:Mat} {last turn:Int} (h:Inv n k i M last turn A A0) (hi:i < n) (hz: ∀r,i≤r→r < n→M r i=0):det n A0=0:=by
 have _h:=hn
 have hL:det i A≠0:=by rw [← h.last_];exact h.nz
 have b:=block_elim i (n - i) A
 rw [show i+(n - i)=n from by omega,det_zero_col (c:=0) (A:=fun a b=>rs i A (i+a) (i+b)) (by omega) (fun a ha=>by
  rw [← bm_rs hL,Nat.add_zero, ← h.num (i+a) i (by omega) (by omega) (Nat.le_refl _) hi];exact hz _ (by omega) (by omega)),Int.mul_zero] at b
 have:det n A=0:=by
  rcases Int.mul_eq_zero.1 b with b | b
  ·exact absurd b (Int.pow_ne_zero hL)
  ·exact b
 rw [← h.det_,this,Int.mul_zero]
theorem Inv.swap {i s:Nat} {M A:Mat} {last turn:Int} (h:Inv n k i M last turn A A0) (his:i < s) (hs:s < n):Inv n k i (swp M i s) last (wrap64 (-turn)) (swp A i s) A0:=by
 have _h:=hn
 have hsr (r:Nat) (hr:r < n):(if r=i then s else if r=s then i else r) < n:=by grind
 have hlow (a:Nat) (ha:a < i):(if a=i then s else if a=s then i else a)=a:=by rw [if_neg (by omega),if_neg (by omega)]
 have w:wrap64 (-turn)= -turn:=w64 (by have:=h.turn_;omega) (by have:=h.turn_;omega)
 refine⟨h.le,fun a b ha hb=>h.small _ _ (hsr a ha) hb,fun r c hr hrn hc hcn=>?_,?_,h.nz,by rw [w];have:=h.turn_;omega,?_⟩
 ·unfold swp
  rw [h.num _ c (by grind) (hsr r hrn) hc hcn]
  unfold bm
  refine det_congr (fun a b _ _=>?_)
  unfold bord
  by_cases ha:a < i
  ·simp only [if_pos ha];rw [hlow a ha]
  ·simp only [if_neg ha]
 ·rw [h.last_]
  exact det_congr (fun a b ha _=>by unfold swp;rw [hlow a ha])
 ·have e:=(det_form n).swap (r:=i) (q:=s) (A:=A) (B:=swp A i s) (by omega) hs (by omega) (fun j _=>⟨by unfold swp;rw [if_pos rfl],by unfold swp;rw [if_neg (by omega),if_pos rfl]⟩) (fun a b _ _ h1 h2=>by unfold swp;rw [if_neg h1,if_neg h2])
  rw [e,w, ← h.det_]
  grind
theorem dgo_inv: ∀(q i:Nat),i+q=n→ ∀(M A:Mat) (last turn:Int),Inv n k i M last turn A A0→dgo n q i M last turn=det n A0:=by
 intro q
 induction q with
 | zero=>
  intro i hi M A last turn h
  obtain rfl:i=n:=by omega
  show wrap64 (turn*last)=_
  rw [h.last_,h.det_]
  have b:=det_absk i k A h.small
  have b2:=b20_le i hn
  have t:=h.turn_
  have e:=h.det_
  have:(det i A0).natAbs=(det i A).natAbs:=by
   rw [← e,Int.natAbs_mul]
   rcases t with t | t <;> rw [t] <;> simp
  exact w64 (by omega) (by omega)
 | succ q ih=>
  intro i hi M A last turn h
  unfold dgo
  cases hf:fnd M i (n - i) 0 with
  | none=>
   have hz:=fnd_none hf
   exact(h.none_ hn (by omega) (fun r h1 h2=>by have:=hz (r - i) (Nat.zero_le _) (by omega);rwa [show i+(r - i)=r from by omega] at this)).symm
  | some kk=>
   obtain⟨_,h2,h3,_⟩:=fnd_some hf
   cases kk with
   | zero=>exact ih (i+1) (by omega) _ A _ _ (h.step hn (by omega) h3)
   | succ kk=>
    have hs:=h.swap hn (s:=i+(kk+1)) (by omega) (by omega)
    exact ih (i+1) (by omega) _ _ _ _ (hs.step hn (by omega) (by unfold swp;rw [if_pos rfl];exact h3))
end
theorem dgo_det {n k:Nat} (hn:n≤5) (A:Mat) (h:Bk n k A):dgo n n 0 A 1 1=det n A:=by
 refine dgo_inv hn (k:=k) n 0 (by omega) A A 1 1 ⟨Nat.zero_le _,h,fun r c _ _ _ _=>?_,rfl,by decide, .inl rfl,Int.one_mul _⟩
 unfold bm
 rw [det_1];simp [bord]
end Go.Proofs.YthmfdplckdijdaaGreat.Bz
end
section
namespace Go.Proofs.YthmfdplckdijdaaGreat.Un
open Go.RowKit Go.Proofs.YthmfdplckdijdaaGreatW.PrintWords Go.Proofs.YthmfdplckdijdaaGreatW.PrintMore Go.Proofs.YthmfdplckdijdaaGreat.Ma Go.Proofs.YthmfdplckdijdaaGreat.Dt Go.Proofs.YthmfdplckdijdaaGreat.Bz
theorem det_unit_row {n k:Nat} (hk:k < n+1) (A:Mat) (h: ∀j,j < n+1→A k j=if j=k then 1 else 0):det (n+1) A=det n (fun i j=>A (up k i) (up k j)):=by
 have e1:det (n+1) A=det (n+1) (mv k k (A k) A):=det_congr (fun i j _ _=>by
  unfold mv up
  by_cases c:i < k
  ·simp [c]
  ·by_cases c2:i=k
   ·subst c2;simp
   ·rw [if_neg c,if_neg c2,if_neg (by omega),show i - 1+1=i from by omega])
 rw [e1,mv_sg k (A k) A k hk,det_succ,sm_one hk (fun j hj hne=>by
  have:mv 0 k (A k) A 0 j=A k j:=by simp [mv]
  rw [this,h j hj,if_neg hne];simp)]
 have e2:mv 0 k (A k) A 0 k=1:=by
  have:mv 0 k (A k) A 0 k=A k k:=by simp [mv]
  rw [this,h k hk,if_pos rfl]
 rw [e2,det_congr (A:=mnr k (mv 0 k (A k) A)) (B:=fun i j=>A (up k i) (up k j)) (fun i j _ _=>by simp [mnr,mv])]
 have:=sg_sq k
 grind
theorem det_unit_col {n k:Nat} (hk:k < n+1) (A:Mat) (h: ∀i,i < n+1→A i k=if i=k then 1 else 0):det (n+1) A=det n (fun i j=>A (up k i) (up k j)):=by
 rw [← det_tr (n+1) A,det_unit_row hk (tr A) h, ← det_tr n]
 rfl
def subm (L:List Nat) (A:Mat):Mat:=fun i j=>A (L.getD i 0) (L.getD j 0)
theorem getD_up (pre suf:List Nat) (k i:Nat):(pre++k::suf).getD (up pre.length i) 0=(pre++suf).getD i 0:=by
 unfold up
 rw [List.getD_eq_getElem?_getD,List.getD_eq_getElem?_getD]
 by_cases c:i < pre.length
 ·rw [if_pos c,List.getElem?_append_left c,List.getElem?_append_left c]
 ·rw [if_neg c,List.getElem?_append_right (by omega),List.getElem?_append_right (by omega),show i+1 - pre.length=(i - pre.length)+1 from by omega,List.getElem?_cons_succ]
theorem getD_at (pre suf:List Nat) (k:Nat):(pre++k::suf).getD pre.length 0=k:=by simp
theorem det_sel (P:Nat→Bool) (C:Mat) (hC: ∀i k,P k=false→C i k=if i=k then 1 else 0): ∀(suf pre:List Nat),(pre++suf).Nodup→det (pre++suf).length (subm (pre++suf) C)=det (pre++suf.filter P).length (subm (pre++suf.filter P) C):=by
 intro suf
 induction suf with
 | nil=>intro pre _;rfl
 | cons k suf ih=>
  intro pre hn
  cases hk:P k with
  | true=>
   have h:=ih (pre++ [k]) (by rw [List.append_assoc];exact hn)
   rw [List.filter_cons_of_pos hk]
   simpa [List.append_assoc] using h
  | false=>
   rw [List.filter_cons_of_neg (by simp [hk])]
   have hn2:(pre++suf).Nodup:=hn.sublist (List.Sublist.append (List.Sublist.refl _) (List.sublist_cons_self _ _))
   rw [← ih pre hn2]
   have hlen:(pre++k::suf).length=(pre++suf).length+1:=by simp;omega
   rw [hlen,det_unit_col (k:=pre.length) (by simp;omega) (subm (pre++k::suf) C) (fun i hi=>?_)]
   ·exact det_congr (fun i j _ _=>by simp only [subm,getD_up])
   ·simp only [subm]
    rw [getD_at,hC _ k hk]
    have hi':i < (pre++k::suf).length:=by omega
    have hp:pre.length < (pre++k::suf).length:=by simp
    have e:(pre++k::suf).getD i 0=(pre++k::suf)[i]:=by rw [List.getD_eq_getElem?_getD,List.getElem?_eq_getElem hi'];rfl
    rw [e]
    by_cases c:i=pre.length
    ·subst c;simp
    ·rw [if_neg c,if_neg]
     intro q
     have q2:(pre++k::suf)[i]=(pre++k::suf)[pre.length]:=by rw [q];simp
     exact c ((List.getElem_inj hn).1 q2)
def sel (n:Nat) (P:Nat→Bool):List Nat:=(List.range n).filter P
theorem det_units (n:Nat) (P:Nat→Bool) (C:Mat) (hC: ∀i k,P k=false→C i k=if i=k then 1 else 0):det n C=det (sel n P).length (subm (sel n P) C):=by
 have h:=det_sel P C hC (List.range n) [] (by simp;exact List.nodup_range)
 simp only [List.nil_append,List.length_range] at h
 rw [← show det n (subm (List.range n) C)=det n C from det_congr (fun i j hi hj=>by simp [subm,hi,hj]),h]
 rfl
def colM (P:Nat→Bool) (M:Mat):Mat:=fun i k=>if P k=true then - M i k else if i=k then 1 else 0
end Go.Proofs.YthmfdplckdijdaaGreat.Un
end
section
namespace Go.Proofs.YthmfdplckdijdaaGreat.Pr
open Go.RowKit Go.Proofs.YthmfdplckdijdaaGreatW.PrintWords Go.Proofs.YthmfdplckdijdaaGreatW.PrintLast Go.Proofs.YthmfdplckdijdaaGreatW.PrintMore
attribute [local go_sem] max2_int min2_int max_two min_two max_three min_three max_four min_four
mutual
def spec_l01Columns.l0:Nat→List (List Int)→Int→List (List Int)→Int→Option ((List (List Int)))
 | 0,_,_,_,_=>none
 | k+1,x0,x1,x5,x6=>if x6 < (x0.length:Int) then(spec_l01Columns.l1 k x0 x1 x5 x6 (([]:List Int)) 0) else(some x5)
def spec_l01Columns.l1:Nat→List (List Int)→Int→List (List Int)→Int→List Int→Int→Option ((List (List Int)))
 | 0,_,_,_,_,_,_=>none
 | k+1,x0,x1,x5,x6,x7,x8=>if x8 < (x0.length:Int) then(if 0≤(IntKind.u64.wrap (x8)) then(if(Go.bits .and .i64 (shr .i64 x1 (IntKind.u64.wrap (x8))) 1)=1 then(if 0≤x6 then(if x6 < (x0.length:Int) then(if 0≤x8 then(if x8 < ((rd_L3 x0 x6).length:Int) then(if x7.length < 17592186044416 then(spec_l01Columns.l1 k x0 x1 x5 x6 (x7++ [wrap64 (-(rd (rd_L3 x0 x6) x8))]) (wrap64 (x8+1))) else(none)) else(none)) else(none)) else(none)) else(none)) else(if x6=x8 then(if x7.length < 17592186044416 then(spec_l01Columns.l1 k x0 x1 x5 x6 (x7++ [1]) (wrap64 (x8+1))) else(none)) else(if x7.length < 17592186044416 then(spec_l01Columns.l1 k x0 x1 x5 x6 (x7++ [0]) (wrap64 (x8+1))) else(none)))) else(none)) else(if x5.length < 5864062014805 then(spec_l01Columns.l0 k x0 x1 (x5++ [x7]) (wrap64 (x6+1))) else(none))
end
def spec_l01Columns.f (k:Nat) (l0:List (List Int)) (a1:Int):Option ((List (List Int))):=spec_l01Columns.l0 k l0 a1 (([]:List (List Int))) 0
theorem spec_l01Columns.mono_l: ∀k,(∀y0 y1 y2 y3,LeO (spec_l01Columns.l0 k y0 y1 y2 y3) (spec_l01Columns.l0 (k+1) y0 y1 y2 y3))∧(∀y0 y1 y2 y3 y4 y5,LeO (spec_l01Columns.l1 k y0 y1 y2 y3 y4 y5) (spec_l01Columns.l1 (k+1) y0 y1 y2 y3 y4 y5))
 | 0=>⟨fun _ _ _ _ r h=>by simp [spec_l01Columns.l0] at h,fun _ _ _ _ _ _ r h=>by simp [spec_l01Columns.l1] at h⟩
 | k+1=>by
  obtain⟨ih0,ih1⟩:=spec_l01Columns.mono_l k
  refine⟨?_,?_⟩<;>intros<;>(first | unfold spec_l01Columns.l0 | unfold spec_l01Columns.l1)<;>(repeat' first | (with_reducible first | exact ih0 _ _ _ _ | exact ih1 _ _ _ _ _ _ | exact LeO.refl _ | exact LeO.none _ | refine LeO.ite ?_ ?_ | refine LeO.bind ?_ (fun _=>?_)) | exact ih0 _ _ _ _ | exact ih1 _ _ _ _ _ _ | exact LeO.none _ | refine LeO.ite ?_ ?_ | refine LeO.bind ?_ (fun _=>?_))
theorem spec_l01Columns.mono: ∀a0 a1 k,LeO (spec_l01Columns.f k a0 a1) (spec_l01Columns.f (k+1) a0 a1):=by
 intro a0 a1 k
 obtain⟨ih0,ih1⟩:=spec_l01Columns.mono_l k
 unfold spec_l01Columns.f
 repeat' first | (with_reducible first | exact ih0 _ _ _ _ | exact ih1 _ _ _ _ _ _ | exact LeO.refl _ | exact LeO.none _ | refine LeO.ite ?_ ?_ | refine LeO.bind ?_ (fun _=>?_)) | exact ih0 _ _ _ _ | exact ih1 _ _ _ _ _ _ | exact LeO.none _ | refine LeO.ite ?_ ?_ | refine LeO.bind ?_ (fun _=>?_)
theorem spec_l01Columns.calls (k:Nat) (A0:Option Addr) (c0:Nat) (l0:List (List Int)) (a1:Int) (r:List (List Int)) (w:World) (hr0:Kd.C (Kd.slice 2 (Kd.int .i64)) w A0 l0.length l0) (hc0:l0.length≤c0) (h:spec_l01Columns.f k l0 a1=some r):
  Calls Tryz.prog 86 #[.slice A0 l0.length c0, .int .i64 a1] w fun e w'=> ∃v0_:Value,e= .returned (v0_)∧Kd.S (Kd.slice 2 (Kd.int .i64)) 24 w' w.heap.size (fun _=>True) v0_ r∧Below w.heap.size w w':=by
 have HR0:=q_ hr0;have HC0:=q_ hc0;clear hr0 hc0;have HB:=q_ (Below.refl w.heap.size w);have H:(spec_l01Columns.l0 k l0 a1 (([]:List (List Int))) 0)=some r:=h;clear h;obtain⟨aq,hy⟩: ∃y_:List (List Int),y_=(([]:List (List Int))):=⟨_,rfl⟩
 replace H:(spec_l01Columns.l0 k l0 a1 aq 0)=some r:=hh_;have aj:=q_ hy;clear hy;have H':=q_ H;clear H
 go_enter Tryz.func86,Tryz.ntmps86
 go_wp2_with (first | ((with_reducible refine gate_dst (N:=9) rfl ?_);refine Kd.S_lit (Kd.slice 2 (Kd.int .i64)) _ 24 ?hg (N:=9) ?hd (xs:=([]:List (List Int))) (inner:= []) (ok:=fun _=>True) (okp:=fun _=>True) ?hr ?hp (fun _ hk=>hk) trivial (Below.refl _ _) (Nat.le_refl _) (by simp) ?_;(case hd=>rfl);(case hg=>rfl);(case hr=>first | (go_simp;done) | (go_simp;rfl));(case hp=>exact(Reps.none _ _));intro bf w3 ho4 hb hg_ hnew_;clear hg_ hnew_;(first | rw [← aj.out] at ho4 | (simp only [Int.reduceToNat] at ho4;rw [← aj.out] at ho4));have aC:=q_ (Kd.S_lower ho4 bz_);replace HB:=q_ (bs_ hb);clear hb ho4))
 go_loopg [5,6] k (fun kq v5 v6 w'=> ∃(ag:List (List Int)) (aa:Int),v6= .int .i64 aa∧Aside0 (spec_l01Columns.l0 kq l0 a1 ag aa=some r)∧Aside0 (kq≤k)∧Aside0 (Kd.S (Kd.slice 2 (Kd.int .i64)) 24 w' w.heap.size (fun _=>True) v5 ag)∧Aside0 (Below w.heap.size w w'))
 case atStart=>exact⟨(aq),(0),rs_,H',⟨Nat.le_refl _⟩,⟨so_ aC.out⟩,⟨hb_⟩⟩
 case round=>
  clear H';obtain⟨ag,aa,rfl,HA,HK1,ah,HB⟩:=hrel;cases gk with
  | zero=>exact absurd HA.out (by simp [spec_l01Columns.l0])
  | succ k1=>
   have H:=HA.out;clear HA;simp only [spec_l01Columns.l0] at H
   by_cases c5:aa < (l0.length:Int)
   ·rw [if_pos c5] at H;have c5b0:=decide_eq_true c5;clear c5;obtain⟨au,hy⟩: ∃y_:List Int,y_=(([]:List Int)):=⟨_,rfl⟩
    replace H:(spec_l01Columns.l1 k1 l0 a1 ag aa au 0)=some r:=hh_;have ak:=q_ hy;clear hy;have H':=q_ H;clear H
    go_wp2_with (first | ((with_reducible refine gate_dst (N:=16) rfl ?_);refine Kd.R_lit (Kd.int .i64) _ 2 ?hg (N:=16) ?hd (xs:=([]:List Int)) (inner:= []) (ok:=fun _=>True) (okp:=fun _=>True) ?hr ?hp (fun _ hk=>hk) trivial (Below.refl _ _) (Nat.le_refl _) (by simp) ?_;(case hd=>rfl);(case hg=>rfl);(case hr=>first | (go_simp;done) | (go_simp;rfl));(case hp=>exact(Reps.none _ _));intro bg w6 ho7 hb hg_ hnew_;clear hg_ hnew_;(first | rw [← ak.out] at ho7 | (simp only [Int.reduceToNat] at ho7;rw [← ak.out] at ho7));replace ah:=q_ (Kd.S_elder' (so_ ah.out) (Kd.R_base ho7) hb);have aD:=q_ (Kd.R_lower ho7 bz_);replace HB:=q_ (bs_ hb);clear hb ho7))
    go_loopg [7,8] k1 (fun kq v7 v8 w'=> ∃(af:List Int) (ae:Int),v8= .int .i64 ae∧Aside0 (spec_l01Columns.l1 kq l0 a1 ag aa af ae=some r)∧Aside0 (kq≤k1)∧Aside0 (Kd.S (Kd.slice 2 (Kd.int .i64)) 24 w' w.heap.size (fun k_=>some k_≠(v7:Value).ownBlock) u5 ag)∧Aside0 (Kd.R (Kd.int .i64) 2 w' w.heap.size (fun _=>True) v7 af)∧Aside0 (Below w.heap.size w w'))
    case atStart=>exact⟨(au),(0),rs_,H',⟨Nat.le_refl _⟩,⟨by(with_reducible repeat (first | apply Kd.S_alloc | apply Kd.S_drewN | apply Kd.S_drew));exact Kd.S_mono ah.out (fun _ hk=>hk.2)⟩,⟨ro_ aD.out⟩,⟨hb_⟩⟩
    case round=>
     clear H';(try clear c5b0);obtain⟨af,ae,rfl,HA,HK2,ah,ai,HB⟩:=hrel;cases gk with
     | zero=>exact absurd HA.out (by simp [spec_l01Columns.l1])
     | succ k2=>
      have H:=HA.out;clear HA;simp only [spec_l01Columns.l1] at H
      by_cases c8:ae < (l0.length:Int)
      ·rw [if_pos c8] at H;have c8b0:=decide_eq_true c8;clear c8;obtain⟨ji9,hji9⟩: ∃j_:Int,(IntKind.u64.wrap (ae))=j_:=⟨_,rfl⟩
       replace H:(if 0≤(ji9) then(if(Go.bits .and .i64 (shr .i64 a1 (ji9)) 1)=1 then(if 0≤aa then(if aa < (l0.length:Int) then(if 0≤ae then(if ae < ((rd_L3 l0 aa).length:Int) then(if af.length < 17592186044416 then(spec_l01Columns.l1 k2 l0 a1 ag aa (af++ [wrap64 (-(rd (rd_L3 l0 aa) ae))]) (wrap64 (ae+1))) else(none)) else(none)) else(none)) else(none)) else(none)) else(if aa=ae then(if af.length < 17592186044416 then(spec_l01Columns.l1 k2 l0 a1 ag aa (af++ [1]) (wrap64 (ae+1))) else(none)) else(if af.length < 17592186044416 then(spec_l01Columns.l1 k2 l0 a1 ag aa (af++ [0]) (wrap64 (ae+1))) else(none)))) else(none))=some r:=by first | (rw [hji9] at H;exact H) | (simp only [hji9] at H ⊢;exact H)
       by_cases c10:0≤(ji9)
       ·rw [if_pos c10] at H;have c10b0:=eq_true c10;have c10b1:=decide_eq_true c10;clear c10;obtain⟨ji11,hji11⟩: ∃j_:Int,(shr .i64 a1 (ji9))=j_:=⟨_,rfl⟩
        replace H:(if(Go.bits .and .i64 (ji11) 1)=1 then(if 0≤aa then(if aa < (l0.length:Int) then(if 0≤ae then(if ae < ((rd_L3 l0 aa).length:Int) then(if af.length < 17592186044416 then(spec_l01Columns.l1 k2 l0 a1 ag aa (af++ [wrap64 (-(rd (rd_L3 l0 aa) ae))]) (wrap64 (ae+1))) else(none)) else(none)) else(none)) else(none)) else(none)) else(if aa=ae then(if af.length < 17592186044416 then(spec_l01Columns.l1 k2 l0 a1 ag aa (af++ [1]) (wrap64 (ae+1))) else(none)) else(if af.length < 17592186044416 then(spec_l01Columns.l1 k2 l0 a1 ag aa (af++ [0]) (wrap64 (ae+1))) else(none))))=some r:=by first | (rw [hji11] at H;exact H) | (simp only [hji11] at H ⊢;exact H)
        have hji11_:(a1 / 2 ^ min (ji9).toNat 64)=ji11:=hji11;have hji11z:(ji9)≤64→(a1 / 2 ^ (ji9).toNat)=ji11:=shr_small hji11
        by_cases c12:(Go.bits .and .i64 (ji11) 1)=1
        ·rw [if_pos c12] at H;have c12b0:=e1_ c12;have c12b1:=e2_ c12;clear c12
         by_cases c13:0≤aa
         ·rw [if_pos c13] at H;have c13b0:=decide_eq_true c13;clear c13
          by_cases c14:aa < (l0.length:Int)
          ·rw [if_pos c14] at H;have c14b0:=decide_eq_true c14;clear c14
           by_cases c15:0≤ae
           ·rw [if_pos c15] at H;have c15b0:=decide_eq_true c15;clear c15
            by_cases c16:ae < ((rd_L3 l0 aa).length:Int)
            ·rw [if_pos c16] at H;have c16b0:=decide_eq_true c16;clear c16
             by_cases c17:af.length < 17592186044416
             ·rw [if_pos c17] at H;have aG:=q_ c17;clear c17;obtain⟨av,hy⟩: ∃y_:List Int,y_=(af++ [wrap64 (-(rd (rd_L3 l0 aa) ae))]):=⟨_,rfl⟩
              replace H:(spec_l01Columns.l1 k2 l0 a1 ag aa av (wrap64 (ae+1)))=some r:=hh_;have aH:=q_ hy;clear hy;have H':=q_ H;clear H;have p474:0≤(aa:Int):=od_;have q474:aa < (l0.length:Int):=od_;obtain⟨a9,aY,aZ,e474,hx474_0,hl474_0,hi474_0⟩:=at_L3 HR0.out aa p474 q474;cases e474
              replace hx474_0:=(HB.out.cell (World.block_lt_of_cell? w _ hx474_0)).trans hx474_0;have HR474_0:=q_ hi474_0;have HC474_0:=q_ hl474_0;clear hi474_0 hl474_0;replace p474:=eq_true p474;replace q474:=eq_true q474;have p475:0≤(ae:Int):=od_;have q475:ae < ((rd_L3 l0 aa).length:Int):=od_;obtain⟨ba,e475,hx475_0⟩:=Kd.at_int HR474_0.out ae p475 q475;cases e475
              replace hx475_0:=(HB.out.cell (World.block_lt_of_cell? w _ hx475_0)).trans hx475_0;replace p475:=eq_true p475;replace q475:=eq_true q475
              go_wp2_with (first | ((with_reducible refine gate_builtin (b:= .append) (xs:= #[.tmp 33, .tmp 42]) rfl ?_);at_builtin;refine Kd.R_append (Kd.int .i64) (w0:=w) w.heap.size rfl (.tmp 33) (.tmp 42) 24 2 (.int .i64 0) 8 rfl Tryz.underlying24 info2 rfl (by decide) (by omega) u7 af (wrap64 (-(rd (rd_L3 l0 aa) ae))) [.int .i64 (wrap64 (-(rd (rd_L3 l0 aa) ae)))] (fun _=>True) (fun _=>False) rfl rfl ?aP (fun _ hk=>hk.elim) ?aF ?aO ?aB ?aS ?aL ?_;(case aP=>exact rfl);(case aB=>exact hb_);(case aF=>exact(fun _ _=>trivial));(case aO=>exact(ro_ ai.out));(case aS=>exact bz_);(case aL=>have:=aG.out;omega);intro bh w18 ho hb hg hat;rw [← aH.out] at ho;replace ah:=q_ (Kd.S_after (ok:=(fun _=>True)) (by(with_reducible repeat (first | apply Kd.S_alloc | apply Kd.S_drewN | apply Kd.S_drew));exact Kd.S_mono ah.out (fun _ hk=>⟨trivial,hk⟩)) hg hat);replace HB:=q_ (hb);have aI:=q_ (ho);clear ai ho hb hg hat))
              go_roundg k2
              case measure=>have:=HK1.out;have:=HK2.out;omega
              case rel=>exact⟨(av),(wrap64 (ae+1)),rs_,H',⟨by have:=HK1.out;have:=HK2.out;omega⟩,⟨by(with_reducible repeat (first | apply Kd.S_alloc | apply Kd.S_drewN | apply Kd.S_drew));exact Kd.S_mono ah.out (fun _ hk=>hk.2)⟩,⟨ro_ aI.out⟩,⟨hb_⟩⟩
             ·rw [if_neg c17] at H;exact absurd H (by simp)
            ·rw [if_neg c16] at H;exact absurd H (by simp)
           ·rw [if_neg c15] at H;exact absurd H (by simp)
          ·rw [if_neg c14] at H;exact absurd H (by simp)
         ·rw [if_neg c13] at H;exact absurd H (by simp)
        ·rw [if_neg c12] at H;have c12b0:=e3_ c12;have c12b1:=e4_ c12
         by_cases c19:aa=ae
         ·rw [if_pos c19] at H;have c19b0:=e1_ c19;have c19b1:=e2_ c19;clear c19
          by_cases c20:af.length < 17592186044416
          ·rw [if_pos c20] at H;have aJ:=q_ c20;clear c20;obtain⟨aw,hy⟩: ∃y_:List Int,y_=(af++ [1]):=⟨_,rfl⟩
           replace H:(spec_l01Columns.l1 k2 l0 a1 ag aa aw (wrap64 (ae+1)))=some r:=hh_;have aK:=q_ hy;clear hy;have H':=q_ H;clear H
           go_wp2_with (first | ((with_reducible refine gate_builtin (b:= .append) (xs:= #[.tmp 48, .tmp 49]) rfl ?_);at_builtin;refine Kd.R_append (Kd.int .i64) (w0:=w) w.heap.size rfl (.tmp 48) (.tmp 49) 24 2 (.int .i64 0) 8 rfl Tryz.underlying24 info2 rfl (by decide) (by omega) u7 af 1 [.int .i64 1] (fun _=>True) (fun _=>False) rfl rfl ?aP (fun _ hk=>hk.elim) ?aF ?aO ?aB ?aS ?aL ?_;(case aP=>exact rfl);(case aB=>exact hb_);(case aF=>exact(fun _ _=>trivial));(case aO=>exact(ro_ ai.out));(case aS=>exact bz_);(case aL=>have:=aJ.out;omega);intro bi w21 ho hb hg hat;rw [← aK.out] at ho;replace ah:=q_ (Kd.S_after (ok:=(fun _=>True)) (by(with_reducible repeat (first | apply Kd.S_alloc | apply Kd.S_drewN | apply Kd.S_drew));exact Kd.S_mono ah.out (fun _ hk=>⟨trivial,hk⟩)) hg hat);replace HB:=q_ (hb);have aM:=q_ (ho);clear ai ho hb hg hat))
           go_roundg k2
           case measure=>have:=HK1.out;have:=HK2.out;omega
           case rel=>exact⟨(aw),(wrap64 (ae+1)),rs_,H',⟨by have:=HK1.out;have:=HK2.out;omega⟩,⟨by(with_reducible repeat (first | apply Kd.S_alloc | apply Kd.S_drewN | apply Kd.S_drew));exact Kd.S_mono ah.out (fun _ hk=>hk.2)⟩,⟨ro_ aM.out⟩,⟨hb_⟩⟩
          ·rw [if_neg c20] at H;exact absurd H (by simp)
         ·rw [if_neg c19] at H;have c19b0:=e3_ c19;have c19b1:=e4_ c19
          by_cases c22:af.length < 17592186044416
          ·rw [if_pos c22] at H;have aN:=q_ c22;clear c22;obtain⟨ax,hy⟩: ∃y_:List Int,y_=(af++ [0]):=⟨_,rfl⟩
           replace H:(spec_l01Columns.l1 k2 l0 a1 ag aa ax (wrap64 (ae+1)))=some r:=hh_;have aQ:=q_ hy;clear hy;have H':=q_ H;clear H
           go_wp2_with (first | ((with_reducible refine gate_builtin (b:= .append) (xs:= #[.tmp 23, .tmp 24]) rfl ?_);at_builtin;refine Kd.R_append (Kd.int .i64) (w0:=w) w.heap.size rfl (.tmp 23) (.tmp 24) 24 2 (.int .i64 0) 8 rfl Tryz.underlying24 info2 rfl (by decide) (by omega) u7 af 0 [.int .i64 0] (fun _=>True) (fun _=>False) rfl rfl ?aP (fun _ hk=>hk.elim) ?aF ?aO ?aB ?aS ?aL ?_;(case aP=>exact rfl);(case aB=>exact hb_);(case aF=>exact(fun _ _=>trivial));(case aO=>exact(ro_ ai.out));(case aS=>exact bz_);(case aL=>have:=aN.out;omega);intro bk w23 ho hb hg hat;rw [← aQ.out] at ho;replace ah:=q_ (Kd.S_after (ok:=(fun _=>True)) (by(with_reducible repeat (first | apply Kd.S_alloc | apply Kd.S_drewN | apply Kd.S_drew));exact Kd.S_mono ah.out (fun _ hk=>⟨trivial,hk⟩)) hg hat);replace HB:=q_ (hb);have aT:=q_ (ho);clear ai ho hb hg hat))
           go_roundg k2
           case measure=>have:=HK1.out;have:=HK2.out;omega
           case rel=>exact⟨(ax),(wrap64 (ae+1)),rs_,H',⟨by have:=HK1.out;have:=HK2.out;omega⟩,⟨by(with_reducible repeat (first | apply Kd.S_alloc | apply Kd.S_drewN | apply Kd.S_drew));exact Kd.S_mono ah.out (fun _ hk=>hk.2)⟩,⟨ro_ aT.out⟩,⟨hb_⟩⟩
          ·rw [if_neg c22] at H;exact absurd H (by simp)
       ·rw [if_neg c10] at H;exact absurd H (by simp)
      ·rw [if_neg c8] at H;have c8b0:=decide_eq_false c8;clear c8
       by_cases c24:ag.length < 5864062014805
       ·rw [if_pos c24] at H;have aU:=q_ c24;clear c24;obtain⟨ay,hy⟩: ∃y_:List (List Int),y_=(ag++ [af]):=⟨_,rfl⟩
        replace H:(spec_l01Columns.l0 k2 l0 a1 ay (wrap64 (aa+1)))=some r:=hh_;have aV:=q_ hy;clear hy;have H':=q_ H;clear H;obtain⟨az,aA,aX⟩:=Kd.R_slice ai.out;subst aX
        go_wp2_with (first | ((with_reducible refine gate_builtin (b:= .append) (xs:= #[.tmp 51, .tmp 53]) rfl ?_);at_builtin;refine Kd.S_append (Kd.slice 2 (Kd.int .i64)) (w0:=w) w.heap.size rfl (.tmp 51) (.tmp 53) 32 24 (.slice none 0 0) 24 rfl Tryz.underlying32 info24 rfl (by decide) (by omega) u5 ag af [.slice az af.length aA] (fun _=>True) (fun k_=>some k_=(.slice az af.length aA:Value).ownBlock) rfl rfl ?aP (fun k_ hk_=>((Kd.R_mono (ok':=fun k_=>((fun _=>True)) k_∧some k_≠(u5:Value).ownBlock) (Kd.R_apart' (ai.out) (Kd.S_typed ah.out) (by decide)) (fun k_ hk=>⟨trivial,hk.2⟩))).1 k_ hk_.symm) ?aF ?aO ?aB ?aS ?aL ?_;(case aP=>exact Kd.M_row (Kd.R_mono (Kd.R_tight rfl (Kd.R_mono (ok':=fun k_=>((fun _=>True)) k_∧some k_≠(u5:Value).ownBlock) (Kd.R_apart' (ai.out) (Kd.S_typed ah.out) (by decide)) (fun k_ hk=>⟨trivial,hk.2⟩))) (fun _ h_=>h_)));(case aB=>exact hb_);(case aF=>exact(fun _ _=>trivial));(case aO=>exact(by(with_reducible repeat (first | apply Kd.S_alloc | apply Kd.S_drewN | apply Kd.S_drew));exact Kd.S_mono ah.out (fun k_ hk=>⟨trivial,fun e_=>hk e_⟩)));(case aS=>exact bz_);(case aL=>have:=aU.out;omega);intro bq w25 ho hb hg hat;rw [← aV.out] at ho;replace HB:=q_ (hb);have aW:=q_ (ho);clear ah ai ho hb hg hat))
        go_roundg k2
        case measure=>have:=HK1.out;have:=HK2.out;omega
        case rel=>exact⟨(ay),(wrap64 (aa+1)),rs_,H',⟨by have:=HK1.out;have:=HK2.out;omega⟩,⟨so_ aW.out⟩,⟨hb_⟩⟩
       ·rw [if_neg c24] at H;exact absurd H (by simp)
   ·rw [if_neg c5] at H;have c5b0:=decide_eq_false c5;clear c5;obtain rfl:=Option.some.inj H;go_wp2
    go_ret
    exact⟨_,by first | rfl | (simp [errW_none,errW_some] <;> rfl) | (simp [*,errW_none,errW_some] <;> rfl),so_ ah.out,hb_⟩
end Go.Proofs.YthmfdplckdijdaaGreat.Pr
end
section
namespace Go.Proofs.YthmfdplckdijdaaGreat.La
end Go.Proofs.YthmfdplckdijdaaGreat.La
namespace Go.Proofs.YthmfdplckdijdaaGreat.Hm
open Go.RowKit Go.Proofs.YthmfdplckdijdaaGreatW.PrintWords Go.Proofs.YthmfdplckdijdaaGreatW.PrintLast Go.Proofs.YthmfdplckdijdaaGreatW.PrintMore Go.Proofs.YthmfdplckdijdaaGreat.Pr
abbrev SS (w0 w:World) (ok:Nat→Prop) (v:Value) (l:List (List Int)):Prop:=Kd.S (Kd.slice 2 (Kd.int .i64)) 24 w w0.heap.size ok v l
end Go.Proofs.YthmfdplckdijdaaGreat.Hm
end
section
namespace Go.Proofs.YthmfdplckdijdaaGreat.Hd
open Go.RowKit Go.Proofs.YthmfdplckdijdaaGreatW.PrintWords Go.Proofs.YthmfdplckdijdaaGreatW.PrintLast Go.Proofs.YthmfdplckdijdaaGreatW.PrintMore Go.Proofs.YthmfdplckdijdaaGreat.Pr Go.Proofs.YthmfdplckdijdaaGreat.La Go.Proofs.YthmfdplckdijdaaGreat.Ma Go.Proofs.YthmfdplckdijdaaGreat.Hm Go.Proofs.YthmfdplckdijdaaGreat.Dt
structure Own (w0 w:World) (g n:Nat) (b cp:Nat→Nat) (M:Mat):Prop where
 below:Below w0.heap.size w0 w
 gb:w0.heap.size≤g
 bb: ∀j,j < n→w0.heap.size≤b j
 inj: ∀i j,i < n→j < n→b i=b j→i=j
 ne: ∀j,j < n→b j≠g
 cap: ∀j,j < n→n≤cp j
 og: ∀j,j < n→w.cell? ⟨g,j,none⟩=some (.slice (some ⟨b j,0,none⟩) n (cp j))∧w.frozen? ⟨g,j,none⟩=false
 ob: ∀j c,j < n→c < n→w.cell? ⟨b j,c,none⟩=some (.int .i64 (M j c))∧w.frozen? ⟨b j,c,none⟩=false
theorem frozen_below {w w':World} (h:Below w.heap.size w w') {p:Addr} (hp:p.block < w.heap.size):w'.frozen? p=w.frozen? p:=by
 unfold World.frozen?
 rw [h.block _ hp]
theorem lt_of_cell {w:World} {p:Addr} {v:Value} (h:w.cell? p=some v):p.block < w.heap.size:=World.block_lt_of_cell? w _ h
theorem cset_same {w:World} {p:Addr} {u v:Value} (h:w.cell? p=some u):(w.setCell p v).cell? p=some v:=World.cell?_setCell_same w p v h
theorem cset_other {w:World} {p q:Addr} {v:Value} (h:p≠q):(w.setCell p v).cell? q=w.cell? q:=World.cell?_setCell_other w p q v h
theorem fset {w:World} {p q:Addr} {v:Value}:(w.setCell p v).frozen? q=w.frozen? q:=World.frozen?_setCell w p q v
theorem add_off (g i j:Nat):(⟨g,i,none⟩:Addr).add j=⟨g,i+j,none⟩:=by unfold Addr.add;split <;> simp_all
section
variable {w0 w w':World} {g n:Nat} {b cp:Nat→Nat} {M:Mat}
theorem Own.step (h:Own w0 w g n b cp M) (hb:Below w.heap.size w w'):Own w0 w' g n b cp M:=
  ⟨Below.trans h.below (hb.mono h.below.size),h.gb,h.bb,h.inj,h.ne,h.cap,
   fun j hj=>by have:=lt_of_cell (h.og j hj).1;exact⟨(hb.cell (p:=⟨g,j,none⟩) this).trans (h.og j hj).1,(frozen_below hb this).trans (h.og j hj).2⟩,
   fun j c hj hc=>by have:=lt_of_cell (h.ob j c hj hc).1;exact⟨(hb.cell (p:=⟨b j,c,none⟩) this).trans (h.ob j c hj hc).1,(frozen_below hb this).trans (h.ob j c hj hc).2⟩⟩
theorem Own.congr {M':Mat} (h:Own w0 w g n b cp M) (e: ∀i j,i < n→j < n→M i j=M' i j):Own w0 w g n b cp M':=
 ⟨h.below,h.gb,h.bb,h.inj,h.ne,h.cap,h.og,fun j c hj hc=>by rw [← e j c hj hc];exact h.ob j c hj hc⟩
def mset (M:Mat) (r c:Nat) (x:Int):Mat:=fun i j=>if i=r∧j=c then x else M i j
theorem Own.put (h:Own w0 w g n b cp M) {r c:Nat} (hr:r < n) (hc:c < n) (x:Int):Own w0 (w.setCell ⟨b r,c,none⟩ (.int .i64 x)) g n b cp (mset M r c x):=by
 refine⟨h.below.setCell (h.bb r hr) _,h.gb,h.bb,h.inj,h.ne,h.cap,fun j hj=>⟨?_,?_⟩,fun j d hj hd=>⟨?_,?_⟩⟩
 ·rw [cset_other (by intro e;have:=congrArg Addr.block e;exact h.ne r hr this)]
  exact(h.og j hj).1
 ·rw [fset];exact(h.og j hj).2
 ·unfold mset
  by_cases e:j=r∧d=c
  ·obtain⟨rfl,rfl⟩:=e
   rw [if_pos ⟨rfl,rfl⟩]
   exact cset_same (h.ob j d hj hd).1
  ·rw [if_neg e,cset_other (by
    intro q
    have q1:=congrArg Addr.block q
    have q2:=congrArg Addr.off q
    exact e ⟨(h.inj r j hr hj q1).symm,q2.symm⟩)]
   exact(h.ob j d hj hd).1
 ·rw [fset];exact(h.ob j d hj hd).2
def sw (r q j:Nat):Nat:=if j=r then q else if j=q then r else j
theorem sw_lt {r q j:Nat} (hr:r < n) (hq:q < n) (hj:j < n):sw r q j < n:=by unfold sw;grind
theorem sw_sw (r q j:Nat):sw r q (sw r q j)=j:=by unfold sw;grind
theorem sw_inj {r q i j:Nat} (h:sw r q i=sw r q j):i=j:=by rw [← sw_sw r q i,h,sw_sw]
theorem Own.swap (h:Own w0 w g n b cp M) {r q:Nat} (hr:r < n) (hq:q < n):
  Own w0 ((w.setCell ⟨g,r,none⟩ (.slice (some ⟨b q,0,none⟩) n (cp q))).setCell ⟨g,q,none⟩ (.slice (some ⟨b r,0,none⟩) n (cp r))) g n (fun j=>b (sw r q j)) (fun j=>cp (sw r q j)) (fun j=>M (sw r q j)):=by
 refine⟨(h.below.setCell h.gb _).setCell h.gb _,h.gb,fun j hj=>h.bb _ (sw_lt hr hq hj),fun i j hi hj e=>sw_inj (h.inj _ _ (sw_lt hr hq hi) (sw_lt hr hq hj) e),fun j hj=>h.ne _ (sw_lt hr hq hj),fun j hj=>h.cap _ (sw_lt hr hq hj),fun j hj=>⟨?_,?_⟩,fun j d hj hd=>⟨?_,?_⟩⟩
 ·by_cases e:j=q
  ·subst e
   have:sw r j j=r:=by unfold sw;split <;> simp_all
   rw [this]
   by_cases e2:r=j
   ·subst e2;exact cset_same (cset_same (h.og r hr).1)
   ·exact cset_same (u:= .slice (some ⟨b j,0,none⟩) n (cp j)) (by rw [cset_other (by intro q1;exact e2 (congrArg Addr.off q1))];exact(h.og j hj).1)
  ·rw [cset_other (by intro q1;exact e (congrArg Addr.off q1).symm)]
   by_cases e2:j=r
   ·subst e2
    rw [show sw j q j=q from by simp [sw]]
    exact cset_same (h.og j hj).1
   ·rw [cset_other (by intro q1;exact e2 (congrArg Addr.off q1).symm),show sw r q j=j from by simp [sw,e,e2]]
    exact(h.og j hj).1
 ·rw [fset,fset];exact(h.og j hj).2
 ·have hl:=sw_lt hr hq hj
  rw [cset_other (by intro q1;exact h.ne _ hl (congrArg Addr.block q1).symm),cset_other (by intro q1;exact h.ne _ hl (congrArg Addr.block q1).symm)]
  exact(h.ob _ d hl hd).1
 ·rw [fset,fset];exact(h.ob _ d (sw_lt hr hq hj) hd).2
def rowsFrom (M:Mat) (n i:Nat):List (List Int):=(List.range (n - i)).map fun r=>(List.range n).map fun c=>M (i+r) c
theorem rowsFrom_len (M:Mat) (n i:Nat):(rowsFrom M n i).length=n - i:=by simp [rowsFrom]
theorem Own.C (h:Own w0 w g n b cp M) (i:Nat) (hn:n≤1099511627776):Kd.C (Kd.slice 2 (Kd.int .i64)) w (some ⟨g,i,none⟩) (rowsFrom M n i).length (rowsFrom M n i):=by
 have hl:=rowsFrom_len M n i
 refine⟨rfl,by omega,fun _=>⟨_,rfl,fun j p hp=>?_⟩⟩
 have hj:j < n - i:=by have:=(List.getElem?_eq_some_iff.1 hp).1;omega
 have hpe:p=(List.range n).map fun c=>M (i+j) c:=by
  rw [rowsFrom,List.getElem?_map,List.getElem?_range hj] at hp
  exact(Option.some.inj hp).symm
 subst hpe
 have hc:=(h.og (i+j) (by omega)).1
 refine⟨[.slice (some ⟨b (i+j),0,none⟩) n (cp (i+j))],rfl,⟨some ⟨b (i+j),0,none⟩,cp (i+j),by simp,by simp;exact h.cap _ (by omega),?_⟩,fun u v hv=>?_⟩
 ·refine⟨rfl,by simp;omega,fun _=>⟨_,rfl,fun c p hp=>?_⟩⟩
  have hcn:c < n:=by have:=(List.getElem?_eq_some_iff.1 hp).1;simpa using this
  rw [List.getElem?_map,List.getElem?_range hcn] at hp
  have hp:=Option.some.inj hp
  refine⟨[.int .i64 p],rfl,rfl,fun u v hv=>?_⟩
  have hu:u=0:=by cases u with
   | zero=>rfl
   | succ u=>simp at hv
  subst hu
  have hv:Value.int .i64 p=v:=by simpa using hv
  rw [← hv, ← hp]
  have:=(h.ob (i+j) c (by omega) hcn).1
  have e:(⟨b (i+j),0,none⟩:Addr).add (c*(Kd.int .i64).sz+0)=⟨b (i+j),c,none⟩:=by
   show (⟨b (i+j),0,none⟩:Addr).add (c*1+0)=_
   rw [Nat.mul_one,Nat.add_zero,add_off];try rw [Nat.zero_add]
  rw [e];exact this
 ·have hu:u=0:=by cases u with
   | zero=>rfl
   | succ u=>simp at hv
  subst hu
  have hv:Value.slice (some ⟨b (i+j),0,none⟩) n (cp (i+j))=v:=by simpa using hv
  rw [← hv]
  have e:(⟨g,i,none⟩:Addr).add (j*(Kd.slice 2 (Kd.int .i64)).sz+0)=⟨g,i+j,none⟩:=by
   show (⟨g,i,none⟩:Addr).add (j*1+0)=_
   rw [Nat.mul_one,Nat.add_zero,add_off];try rw [Nat.zero_add]
  rw [e];exact hc
end
def en (l:List (List Int)):Mat:=fun i j=>(l.getD i []).getD j 0
theorem own_of_S {w0 W:World} {ok:Nat→Prop} {v:Value} {l:List (List Int)} (h:SS w0 W ok v l) (hB:Below w0.heap.size w0 W) (hp:0 < l.length) (hr: ∀x ∈ l,x.length=l.length): ∃(g cap:Nat) (b cp:Nat→Nat),v= .slice (some ⟨g,0,none⟩) l.length cap∧l.length≤cap∧Own w0 W g l.length b cp (en l):=by
 obtain⟨g,cap,rfl,hg0,hg1,cells,hgc⟩:=Kd.S_form h hp
 have hrd:=Kd.S_reads' h
 obtain⟨f,h0,hO⟩:=h
 obtain⟨A,c,hv,hc,_,_,hread⟩:=hO.reads
 injection hv with hA _ _
 subst hA
 rw [List.length_zipIdx] at hread
 obtain⟨ad,had,hj⟩:=hread hp
 injection had with had
 subst had
 have key: ∀j, ∃p:Nat × Nat,j < l.length→W.cell? ⟨g,j,none⟩=some (.slice (some ⟨p.1,0,none⟩) l.length p.2)∧l.length≤p.2∧w0.heap.size≤p.1∧f p.1=j∧p.1≠g∧ ∀d,d < l.length→W.cell? ⟨p.1,d,none⟩=some (.int .i64 (en l j d))∧W.frozen? ⟨p.1,d,none⟩=false:=by
  intro j
  by_cases hjl:j < l.length
  ·obtain⟨cs,hcs,hM,hcell⟩:=hj j (l[j],j) (Kd.zip_at (List.getElem?_eq_getElem hjl))
   obtain⟨u,rfl,hR⟩:=(show ∃u,cs= [u]∧Kd.R (Kd.int .i64) 2 W w0.heap.size (fun k=>(ok k∧some k≠(Value.slice (some ⟨g,0,none⟩) l.length cap).ownBlock)∧f k=j) u l[j] from hM)
   have hlen:=hr l[j] (List.getElem_mem hjl)
   obtain⟨bj,cj,rfl,hb1,hb2,cells2,hbc⟩:=Kd.R_form hR (by omega)
   have hcj:=(Kd.R_reads' hR).2.1
   have hown:=hR.1 bj (by simp [Value.ownBlock])
   refine⟨(bj,cj),fun _=>⟨?_,by simpa [hlen] using hcj,hb1,hown.2,?_,fun d hd=>?_⟩⟩
   ·have:=hcell 0 _ rfl
    have e:(⟨g,0,none⟩:Addr).add (j*(Kd.tag f (Kd.slice 2 (Kd.int .i64))).sz+0)=⟨g,j,none⟩:=by
     show (⟨g,0,none⟩:Addr).add (j*1+0)=_
     rw [Nat.mul_one,Nat.add_zero,add_off];try rw [Nat.zero_add]
    rw [e,hlen] at this
    exact this
   ·intro e
    have e:bj=g:=e
    subst e
    exact hown.1.2 (by simp [Value.ownBlock])
   ·have hat:=Kd.R_celln 0 hR (d:Int) (by omega) (by omega)
    rw [Int.toNat_natCast] at hat
    have e2:en l j d=l[j].getD d 0:=by unfold en;rw [List.getD_eq_getElem?_getD (l:=l),List.getElem?_eq_getElem hjl];rfl
    rw [e2]
    exact⟨by simpa [rdOf] using hat.1,hat.2⟩
  ·exact⟨(0,0),fun hh=>absurd hh hjl⟩
 obtain⟨p,hp2⟩:=Classical.skolem.1 key
 refine⟨g,cap,fun j=>(p j).1,fun j=>(p j).2,rfl,hrd.2.1,⟨hB,hg0,fun j hj=>(hp2 j hj).2.2.1,fun i j hi hj e=>?_,fun j hj=>(hp2 j hj).2.2.2.2.1,fun j hj=>(hp2 j hj).2.1,fun j hj=>⟨(hp2 j hj).1,blk_frozen hgc j⟩,fun j d hj hd=>(hp2 j hj).2.2.2.2.2 d hd⟩⟩
 have h1:=(hp2 i hi).2.2.2.1
 have h2:=(hp2 j hj).2.2.2.1
 rw [← h1, ← h2]
 exact congrArg f e
end Go.Proofs.YthmfdplckdijdaaGreat.Hd
end
section
namespace Go.Proofs.YthmfdplckdijdaaGreat.Pr
open Go Go.RowKit Go.Proofs.YthmfdplckdijdaaGreatW.PrintWords Go.Proofs.YthmfdplckdijdaaGreatW.PrintLast Go.Proofs.YthmfdplckdijdaaGreatW.PrintMore
theorem run_eql_slice_nil {P:Program} (w:World) (t e:TypeId) (a:Option Addr) (l c:Nat) (h:P.underlying t=some (.slice e)):(binOp .eql t (.slice a l c) (.slice none 0 0)).run P w= .ok (.bool a.isNone) w:=by
 simp only [binOp]
 simp [run_equal_slice_nil w t e a l c h]
def slices_Clone.f (l0:List Int):Option (List Int):=if l0.length≤1099511627776 then some l0 else none
theorem slices_Clone.calls (A0:Option Addr) (c0:Nat) (l0:List Int) (r:List Int) (w:World) (hr0:Kd.C (Kd.int .i64) w A0 l0.length l0) (hc0:l0.length≤c0) (h:slices_Clone.f l0=some r):
  Calls Tryz.prog 161 #[.slice A0 l0.length c0] w fun e w'=> ∃v0_:Value,e= .returned (v0_)∧Kd.R (Kd.int .i64) 2 w' w.heap.size (fun _=>True) v0_ r∧Below w.heap.size w w':=by
 unfold slices_Clone.f at h
 split at h
 case isFalse=>cases h
 rename_i hl
 cases h
 have hu:=Tryz.underlying24;have HR:=q_ hr0;have HL:=q_ hl;clear hc0 hl;cases A0 with
 | none=>
  have h0:l0= []:=by
   cases l0 with
   | nil=>rfl
   | cons a t=>obtain⟨ad,e,_⟩:=Kd.at_int hr0 0 (by simp) (by simp);cases e
  subst h0;clear hr0 HR;have he:=run_eql_slice_nil (P:=Tryz.prog) w 24 2 none 0 c0 hu
  go_enter Tryz.func161,Tryz.ntmps161
  go_wp2
  go_ret
  exact⟨_,rfl,Kd.R_nil _ _ _ _ _,Below.refl _ _⟩
 | some ad=>
  clear hr0;have he:=run_eql_slice_nil (P:=Tryz.prog) w 24 2 (some ad) l0.length c0 hu
  go_enter Tryz.func161,Tryz.ntmps161
  go_wp2_with (first | ((with_reducible refine gate_dst (N:=5) rfl ?_);refine Kd.R_lit (Kd.int .i64) _ 2 ?hg (N:=5) ?hd (xs:=([]:List Int)) (inner:= []) (ok:=fun _=>True) (okp:=fun _=>True) ?hr ?hp (fun _ hk=>hk) trivial (Below.refl _ _) (Nat.le_refl _) (by simp) ?_;(case hd=>rfl);(case hg=>rfl);(case hr=>first | (go_simp;done) | (go_simp;rfl));(case hp=>exact(Reps.none _ _));intro v1 w1 ho hb hg_ hat_;clear hg_ hat_;have HO:=q_ ho;have HB:=q_ hb;clear ho hb) | ((with_reducible refine gate_dst (N:=7) rfl ?_);(refine Kd.R_append_row (Value.int .i64) 0 (w0:=w) w.heap.size rfl (.tmp 5) (.tmp 6) 24 2 (.int .i64 0) 8 rfl Tryz.underlying24 info2 rfl (by decide) v1 [] l0 (some ad) l0.length c0 (fun _=>True) (by rfl) (by rfl) (fun _ _=>trivial) HO.out (Kd.C_below HR.out HB.out) HB.out HB.out.size (by have:=HL.out;simp;omega) ?_;intro v2 w2 ho hb hg_ hat_;clear hg_ hat_;have aa:=q_ ho;have HB2:=q_ hb;clear ho hb)))
  go_ret
  exact⟨_,rfl,aa.out,HB2.out⟩
end Go.Proofs.YthmfdplckdijdaaGreat.Pr
end
section
namespace Go.Proofs.YthmfdplckdijdaaGreat.Pr
open Go.RowKit Go.Proofs.YthmfdplckdijdaaGreatW.PrintWords Go.Proofs.YthmfdplckdijdaaGreatW.PrintLast Go.Proofs.YthmfdplckdijdaaGreatW.PrintMore
attribute [local go_sem] max2_int min2_int max_two min_two max_three min_three max_four min_four
def impl_copyRows.l0:Nat→List (List Int)→List (List Int)→Int→Int→Option ((List (List Int)))
 | 0,_,_,_,_=>none
 | k+1,x3,x6,x7,x8=>if x8 < x7 then(if 0≤x8 then(if x8 < (x6.length:Int) then((slices_Clone.f (rd_L3 x6 x8)).bind fun aa=>(if x3.length < 5864062014805 then(impl_copyRows.l0 k (x3++ [aa]) x6 x7 (wrap64 (x8+1))) else(none))) else(none)) else(none)) else(some x3)
def impl_copyRows.f (k:Nat) (l0:List (List Int)):Option ((List (List Int))):=impl_copyRows.l0 k ([]:List (List Int)) l0 (l0.length:Int) 0
theorem impl_copyRows.mono_l: ∀k,(∀y0 y1 y2 y3,LeO (impl_copyRows.l0 k y0 y1 y2 y3) (impl_copyRows.l0 (k+1) y0 y1 y2 y3))
 | 0=>fun _ _ _ _ r h=>by simp [impl_copyRows.l0] at h
 | k+1=>by
  have ih0:=impl_copyRows.mono_l k
  intros;unfold impl_copyRows.l0;repeat' first | (with_reducible first | exact ih0 _ _ _ _ | exact LeO.refl _ | exact LeO.none _ | refine LeO.ite ?_ ?_ | refine LeO.bind ?_ (fun _=>?_)) | exact ih0 _ _ _ _ | exact LeO.none _ | refine LeO.ite ?_ ?_ | refine LeO.bind ?_ (fun _=>?_)
theorem impl_copyRows.mono: ∀a0 k,LeO (impl_copyRows.f k a0) (impl_copyRows.f (k+1) a0):=by
 intro a0 k
 have ih0:=impl_copyRows.mono_l k
 unfold impl_copyRows.f
 repeat' first | (with_reducible first | exact ih0 _ _ _ _ | exact LeO.refl _ | exact LeO.none _ | refine LeO.ite ?_ ?_ | refine LeO.bind ?_ (fun _=>?_)) | exact ih0 _ _ _ _ | exact LeO.none _ | refine LeO.ite ?_ ?_ | refine LeO.bind ?_ (fun _=>?_)
theorem impl_copyRows.calls (k:Nat) (A0:Option Addr) (c0:Nat) (l0:List (List Int)) (r:List (List Int)) (w:World) (hr0:Kd.C (Kd.slice 2 (Kd.int .i64)) w A0 l0.length l0) (hc0:l0.length≤c0) (h:impl_copyRows.f k l0=some r):
  Calls Tryz.prog 133 #[.slice A0 l0.length c0] w fun e w'=> ∃v0_:Value,e= .returned (v0_)∧Kd.S (Kd.slice 2 (Kd.int .i64)) 24 w' w.heap.size (fun _=>True) v0_ r∧Below w.heap.size w w':=by
 have HR0:=q_ hr0;have HC0:=q_ hc0;clear hr0 hc0;have HB:=q_ (Below.refl w.heap.size w);have H:(impl_copyRows.l0 k ([]:List (List Int)) l0 (l0.length:Int) 0)=some r:=h;clear h;have H':=q_ H;clear H
 go_enter Tryz.func133,Tryz.ntmps133
 go_wp2
 go_loopg [3,8] k (fun kq v3 v8 w'=> ∃(ae:List (List Int)) (aa:Int),v8= .int .i64 aa∧Aside0 (impl_copyRows.l0 kq ae l0 (l0.length:Int) aa=some r)∧Aside0 (kq≤k)∧Aside0 (Kd.S (Kd.slice 2 (Kd.int .i64)) 24 w' w.heap.size (fun _=>True) v3 ae)∧Aside0 (Below w.heap.size w w'))
 case atStart=>exact⟨(([]:List (List Int))),(0),rs_,H',⟨Nat.le_refl _⟩,⟨by first | exact Kd.S_nil _ _ _ _ _ | exact Kd.N_nil _ _ _ _ _ | exact Kd.V_nil _ _ _ _ _ | exact Kd.Q_nil _ _ _ _ _ | exact Kd.R_nil _ _ _ _ _⟩,⟨hb_⟩⟩
 case round=>
  clear H';obtain⟨ae,aa,rfl,HA,HK1,af,HB⟩:=hrel;cases gk with
  | zero=>exact absurd HA.out (by simp [impl_copyRows.l0])
  | succ k1=>
   have H:=HA.out;clear HA;simp only [impl_copyRows.l0] at H
   by_cases c2:aa < (l0.length:Int)
   ·rw [if_pos c2] at H;have c2b0:=decide_eq_true c2;clear c2
    by_cases c3:0≤aa
    ·rw [if_pos c3] at H;have c3b0:=decide_eq_true c3;clear c3
     by_cases c4:aa < (l0.length:Int)
     ·rw [if_pos c4] at H;have c4b0:=decide_eq_true c4;clear c4;replace H:=Option.bind_eq_some_iff.mp H;obtain⟨ag,A50,H⟩:=H;replace H:(if ae.length < 5864062014805 then(impl_copyRows.l0 k1 (ae++ [ag]) l0 (l0.length:Int) (wrap64 (aa+1))) else(none))=some r:=H;have A5:=q_ A50;clear A50
      by_cases c6:ae.length < 5864062014805
      ·rw [if_pos c6] at H;have az:=q_ c6;clear c6;obtain⟨ai,hy⟩: ∃y_:List (List Int),y_=(ae++ [ag]):=⟨_,rfl⟩
       replace H:(impl_copyRows.l0 k1 ai l0 (l0.length:Int) (wrap64 (aa+1)))=some r:=hh_;have aq:=q_ hy;clear hy;have H':=q_ H;clear H;have p392:0≤(aa:Int):=od_;have q392:aa < (l0.length:Int):=od_;obtain⟨aC,aj,ak,e392,hx392_0,hl392_0,hi392_0⟩:=at_L3 HR0.out aa p392 q392;cases e392
       replace hx392_0:=(HB.out.cell (World.block_lt_of_cell? w _ hx392_0)).trans hx392_0;have HR392_0:=q_ hi392_0;have HC392_0:=q_ hl392_0;clear hi392_0 hl392_0;replace p392:=eq_true p392;replace q392:=eq_true q392
       go_wp2_with (first | ((with_reducible refine gate_callee (f:=161) rfl ?_);refine gL_ 14 Tryz.func161 #[.slice aj (rd_L3 l0 aa).length ak] ?_;(with_reducible refine(slices_Clone.calls _ _ (rd_L3 l0 aa) ag _ ?au ?av A5.out).mono ?_);(case au=>exact cb_ HR392_0.out HB.out);(case av=>exact HC392_0.out);rintro e w7 ⟨aD,rfl,ho0,hb⟩;refine⟨_,rfl,?_⟩;replace af:=q_ (Kd.S_elder' (so_ af.out) (Kd.R_base ho0) hb);have ah:=q_ (Kd.R_lower ho0 bz_);replace HB:=q_ (bs_ hb);(try clear hb);(try clear hk);(try clear ho0);obtain⟨ax,ay,aA⟩:=Kd.R_slice ah.out;subst aA) | ((with_reducible refine gate_builtin (b:= .append) (xs:= #[.tmp 12, .tmp 15]) rfl ?_);at_builtin;refine Kd.S_append (Kd.slice 2 (Kd.int .i64)) (w0:=w) w.heap.size rfl (.tmp 12) (.tmp 15) 32 24 (.slice none 0 0) 24 rfl Tryz.underlying32 info24 rfl (by decide) (by omega) u3 ae ag [.slice ax ag.length ay] (fun _=>True) (fun k_=>some k_=(.slice ax ag.length ay:Value).ownBlock) rfl rfl ?aP (fun k_ hk_=>((Kd.R_mono (ok':=fun k_=>((fun _=>True)) k_∧some k_≠(u3:Value).ownBlock) (Kd.R_apart' (ah.out) (Kd.S_typed af.out) (by decide)) (fun k_ hk=>⟨trivial,hk.2⟩))).1 k_ hk_.symm) ?aF ?aO ?aB ?aS ?aL ?_;(case aP=>exact Kd.M_row (Kd.R_mono (Kd.R_tight rfl (Kd.R_mono (ok':=fun k_=>((fun _=>True)) k_∧some k_≠(u3:Value).ownBlock) (Kd.R_apart' (ah.out) (Kd.S_typed af.out) (by decide)) (fun k_ hk=>⟨trivial,hk.2⟩))) (fun _ h_=>h_)));(case aB=>exact hb_);(case aF=>exact(fun _ _=>trivial));(case aO=>exact(by(with_reducible repeat (first | apply Kd.S_alloc | apply Kd.S_drewN | apply Kd.S_drew));exact Kd.S_mono af.out (fun k_ hk=>⟨trivial,fun e_=>hk.2 e_⟩)));(case aS=>exact bz_);(case aL=>have:=az.out;omega);intro aG w8 ho hb hg hat;rw [← aq.out] at ho;replace HB:=q_ (hb);have aw:=q_ (ho);clear af ah ho hb hg hat))
       go_roundg k1
       case measure=>have:=HK1.out;omega
       case rel=>exact⟨(ai),(wrap64 (aa+1)),rs_,H',⟨by have:=HK1.out;omega⟩,⟨so_ aw.out⟩,⟨hb_⟩⟩
      ·rw [if_neg c6] at H;exact absurd H (by simp)
     ·rw [if_neg c4] at H;exact absurd H (by simp)
    ·rw [if_neg c3] at H;exact absurd H (by simp)
   ·rw [if_neg c2] at H;have c2b0:=decide_eq_false c2;clear c2;obtain rfl:=Option.some.inj H;go_wp2
    go_ret
    exact⟨_,by first | rfl | (simp [errW_none,errW_some] <;> rfl) | (simp [*,errW_none,errW_some] <;> rfl),so_ af.out,hb_⟩
end Go.Proofs.YthmfdplckdijdaaGreat.Pr
end
section
namespace Go.Proofs.YthmfdplckdijdaaGreat.Cp
open Go.RowKit Go.Proofs.YthmfdplckdijdaaGreatW.PrintWords Go.Proofs.YthmfdplckdijdaaGreatW.PrintMore Go.Proofs.YthmfdplckdijdaaGreat.Ma Go.Proofs.YthmfdplckdijdaaGreat.Pr
theorem copy_eq (l:List (List Int)) (hl:l.length≤1000) (hr: ∀x ∈ l,x.length≤1099511627776):Ev (fun k=>impl_copyRows.f k l) l:=by
 have key: ∀q i,i+q=l.length→Ev (fun k=>impl_copyRows.l0 k (l.take i) l (l.length:Int) i) l:=by
  intro q
  induction q with
  | zero=>
   intro i hi
   rw [List.take_of_length_le (by omega)]
   exact evstep (fun k=>by rw [impl_copyRows.l0]) (evneg (by omega) (evc rfl))
  | succ q ih=>
   intro i hi
   have hlt:i < l.length:=by omega
   have e:rd_L3 l (i:Int)=l[i]:=by simp [rd_L3,hlt]
   have hri:=hr l[i] (List.getElem_mem hlt)
   have h:=ih (i+1) (by omega)
   rw [List.take_succ_eq_append_getElem hlt] at h
   refine evstep (fun k=>by rw [impl_copyRows.l0]) (evpos (by omega) (evpos (by omega) (evpos (by omega) ?_)))
   rw [e]
   refine evsome (a:=l[i]) (by unfold slices_Clone.f;rw [if_pos hri]) (evpos (by rw [List.length_take];omega) ?_)
   rw [w64 (x:=(i:Int)+1) (by omega) (by omega)]
   exact h
 exact key l.length 0 (by omega)
end Go.Proofs.YthmfdplckdijdaaGreat.Cp
end
section
namespace Go.Proofs.YthmfdplckdijdaaGreat.Pr
open Go.RowKit Go.Proofs.YthmfdplckdijdaaGreatW.PrintWords Go.Proofs.YthmfdplckdijdaaGreatW.PrintLast Go.Proofs.YthmfdplckdijdaaGreatW.PrintMore
def RowsPred (g:Nat) (lb:Array Value) (p:List Int→Bool) (w:World) (l:List (List Int)):Prop:=
 ∀(W:World) (A:Option Addr) (c:Nat) (x:List Int),x ∈ l→Below w.heap.size w W→x.length≤c→Kd.C (Kd.int .i64) W A x.length x→Calls Tryz.prog g (#[.slice A x.length c]++lb) W fun e w'=>e= .returned (.bool (p x))∧Below W.heap.size W w'
theorem indexFuncRows (p:List Int→Bool) (g:Nat) (lb:Array Value) (eg: ∀args w,(callFunc g args).run Tryz.prog w= .ok (.enter g args) w) (A:Option Addr) (c:Nat) (l:List (List Int)) (w:World)
  (hr:Kd.C (Kd.slice 2 (Kd.int .i64)) w A l.length l) (hp:RowsPred g lb p w l):
  Calls Tryz.prog 141 #[.slice A l.length c, .func (.func g) #[] lb] w fun e w'=>e= .returned (.int .i64 (idxP p l 0))∧Below w.heap.size w w':=by
 have HR:=q_ hr;have HP:=q_ hp;have hbig:l.length≤9223372036854775807:=hr.2.1;clear hr hp
 go_enter Tryz.func141,Tryz.ntmps141
 go_wp2
 go_loopg [5,8] l.length (fun gg _ s8 wr=> ∃kk:Nat,kk≤l.length∧l.length - kk≤gg∧s8= .int .i64 kk∧Aside0 (Below w.heap.size w wr)∧Aside0 (∀j (hj:j < l.length),j < kk→p l[j]=false))
 case atStart=>exact⟨0,Nat.zero_le _,by omega,rfl,⟨Below.refl _ w⟩,⟨fun j _ hj=>absurd hj (Nat.not_lt_zero _)⟩⟩
 case round=>
  obtain⟨kk,hkk,hg,rfl,BW,F⟩:=hrel
  by_cases hlt:kk < l.length
  ·obtain⟨ad,A',c',e,hx,hc',hi⟩:=at_L3 HR.out kk (by omega) (by omega);cases e
   rw [Int.toNat_natCast] at hx;have hx':=(BW.out.cell (World.block_lt_of_cell? w _ hx)).trans hx;clear hx;have hel:rd_L3 l (kk:Int)=l[kk]:=by simp [rd_L3,hlt]
   have hcall:=HP.out wr A' c' l[kk] (List.getElem_mem hlt) BW.out (by rw [← hel];exact hc') (by rw [← hel];exact Kd.C_below hi BW.out);rw [hel] at hx' hc' hi;have HI:=q_ hi;have HC:=q_ hc';clear hi hc' hel;have hltz:(kk:Int) < (l.length:Int):=by omega
   have h0z:(0:Int)≤(kk:Int):=by omega
   generalize hy:l[kk]=y at hx' hcall HI HC
   have HY:=q_ hy;clear hy;cases hq:p y with
   | true=>
    rw [hq] at hcall;have HQ:=q_ hq;clear hq
    go_wp2_with fail
    refine hcall.mono ?_
    rintro e w' ⟨rfl,hb'⟩;clear hcall;go_wp2
    go_ret
    refine⟨?_,Below.trans BW.out (hb'.mono BW.out.size)⟩
    rw [idxP_hit p l kk hlt F.out (by rw [HY.out];exact HQ.out)]
    rfl
   | false=>
    rw [hq] at hcall;have HQ:=q_ hq;clear hq
    go_wp2_with fail
    refine hcall.mono ?_
    rintro e w' ⟨rfl,hb'⟩;clear hcall;go_wp2
    go_roundg (l.length - (kk+1))
    case measure=>omega
    case rel=>
     refine⟨kk+1,by omega,by omega,by go_num,⟨Below.trans BW.out (hb'.mono BW.out.size)⟩,⟨fun j hj hjk=>?_⟩⟩
     by_cases e:j=kk
     ·subst e;rw [HY.out];exact HQ.out
     ·exact F.out j hj (by omega)
  ·have hltz: ¬ (kk:Int) < (l.length:Int):=by omega
   obtain rfl:kk=l.length:=by omega
   go_wp2
   go_ret
   refine⟨?_,BW.out⟩
   rw [idxP_miss p l (fun i hi=>F.out i hi hi)]
   rfl
theorem containsFuncRows (p:List Int→Bool) (g:Nat) (lb:Array Value) (eg: ∀args w,(callFunc g args).run Tryz.prog w= .ok (.enter g args) w) (A:Option Addr) (c:Nat) (l:List (List Int)) (w:World)
  (hr:Kd.C (Kd.slice 2 (Kd.int .i64)) w A l.length l) (hp:RowsPred g lb p w l):
  Calls Tryz.prog 91 #[.slice A l.length c, .func (.func g) #[] lb] w fun e w'=>e= .returned (.bool (l.any p))∧Below w.heap.size w w':=by
 rw [← idxP_nonneg p l 0 (Int.le_refl _)];have HR:=q_ hr;have HP:=q_ hp;clear hr hp
 go_enter Tryz.func91,Tryz.ntmps91
 go_wp2_with fail
 refine(indexFuncRows p g lb eg A c l _ HR.out HP.out).mono ?_
 rintro e w' ⟨rfl,hb'⟩;go_wp2
 go_ret
 exact⟨rfl,hb'⟩
end Go.Proofs.YthmfdplckdijdaaGreat.Pr
end
section
namespace Go.Proofs.YthmfdplckdijdaaGreat.Pr
open Go.RowKit Go.Proofs.YthmfdplckdijdaaGreatW.PrintWords Go.Proofs.YthmfdplckdijdaaGreatW.PrintLast Go.Proofs.YthmfdplckdijdaaGreatW.PrintMore Go.Proofs.YthmfdplckdijdaaGreat.La Go.Proofs.YthmfdplckdijdaaGreat.Ma Go.Proofs.YthmfdplckdijdaaGreat.Hm Go.Proofs.YthmfdplckdijdaaGreat.Dt Go.Proofs.YthmfdplckdijdaaGreat.Hd Go.Proofs.YthmfdplckdijdaaGreat.Bd Go.Proofs.YthmfdplckdijdaaGreat.Cp
def nz (i:Nat) (row:List Int):Bool:=row.getD i 0 !=0
theorem det1 (gb i:Nat) (A:Option Addr) (c:Nat) (x:List Int) (w:World) (hb:w.cell? ⟨gb,0,none⟩=some (.int .i64 (i:Int))) (hC:Kd.C (Kd.int .i64) w A x.length x) (hi:i < x.length):
  Calls Tryz.prog 160 (#[.slice A x.length c]++ #[.pointer (some ⟨gb,0,none⟩)]) w fun e w'=>e= .returned (.bool (nz i x))∧Below w.heap.size w w':=by
 unfold nz
 show Calls Tryz.prog 160 #[.slice A x.length c, .pointer (some ⟨gb,0,none⟩)] w _
 obtain⟨ad,rfl,hcell⟩:=Kd.at_int hC (i:Int) (by omega) (by omega);rw [Int.toNat_natCast,rd_nat] at hcell;have hiz:(i:Int) < (x.length:Int):=by omega
 have h0z:(0:Int)≤(i:Int):=by omega
 generalize x.getD i 0=y at hcell ⊢
 generalize x.length=n at hiz hC ⊢
 clear hC hi
 by_cases e:y=0
 ·have h1:(y !=0)=false:=by simp [e]
  have h2:(y==0)=true:=by simp [e]
  clear e
  go_enter Tryz.func160,Tryz.ntmps160
  go_wp2
  go_ret
  exact⟨by rw [h1];rfl,Below.refl _ _⟩
 ·have h1:(y !=0)=true:=by simp [e]
  have h2:(y==0)=false:=by simp [e]
  clear e
  go_enter Tryz.func160,Tryz.ntmps160
  go_wp2
  go_ret
  exact⟨by rw [h1];rfl,Below.refl _ _⟩
theorem det1_enters: ∀args w,(callFunc 160 args).run Tryz.prog w= .ok (.enter 160 args) w:=enters_fn Tryz.func160 (by kernel_rfl) rfl
theorem idxP_fnd (M:Mat) (n i:Nat) (hi:i < n):idxP (nz i) (rowsFrom M n i) 0=match fnd M i (n - i) 0 with | none=> -1 | some k=>(k:Int):=by
 have hat: ∀r (h:r < (rowsFrom M n i).length),nz i (rowsFrom M n i)[r]=(M (i+r) i !=0):=by
  intro r h
  simp [rowsFrom,nz,hi]
 have hl:=rowsFrom_len M n i
 cases h:fnd M i (n - i) 0 with
 | none=>exact idxP_miss _ _ (fun r hr=>by rw [hat r hr,fnd_none h r (Nat.zero_le _) (by omega)];rfl)
 | some k=>
  obtain⟨_,h2,h3,h4⟩:=fnd_some h
  exact idxP_hit _ _ k (by omega) (fun r hr hrk=>by rw [hat r hr,h4 r (Nat.zero_le _) hrk];rfl) (by rw [hat k (by omega)];simpa using h3)
theorem det_calls (n:Nat) (R:Int) (A:Option Addr) (c:Nat) (l:List (List Int)) (w:World) (hr:Kd.C (Kd.slice 2 (Kd.int .i64)) w A l.length l) (hc:l.length≤c) (hln:l.length=n) (hp:0 < n) (hn:n≤1000) (hsq: ∀x ∈ l,x.length=l.length) (hR:dgo n n 0 (en l) 1 1=R):
  Calls Tryz.prog 132 #[.slice A n c] w fun e w'=>e= .returned (.int .i64 R)∧Below w.heap.size w w':=by
 obtain⟨k,hk⟩:=evk (copy_eq l (by omega) (fun x hx=>by rw [hsq x hx];omega));have hcopy:=fun W (hW:Below w.heap.size w W)=>impl_copyRows.calls k A c l l W (Kd.C_below hr hW) hc hk
 rw [hln] at hcopy;have HCOPY:=q_ hcopy;have HLN:=q_ hln;have HP:=q_ hp;have HN:=q_ hn;have HSQ:=q_ hsq;have HR:=q_ hR;clear hcopy hk hr hc hln hp hn hsq hR
 go_enter Tryz.func132,Tryz.ntmps132
 go_wp2_with fail
 refine(HCOPY.out _ (Below.refl _ _)).mono ?_
 rintro e w1 ⟨v0,rfl,hS,hB⟩;obtain⟨g,cap,b,cp,rfl,hcap,hO⟩:=own_of_S (w0:=w) hS hB (by rw [HLN.out];exact HP.out) HSQ.out;rw [HLN.out] at hcap hO;rw [HLN.out];have HO:=q_ hO;have HCAP:=q_ hcap;clear HCOPY hS hB hO hcap HSQ;go_wp2
 go_loopg [4,5,16] n (fun gg v4 v5 v16 wr=> ∃(i:Nat) (M:Mat) (b cp:Nat→Nat) (last turn:Int),i≤n∧n - i≤gg∧v4= .int .i64 last∧v5= .int .i64 turn∧v16= .int .i64 (i:Int)∧Aside0 (Own w wr g n b cp M)∧Aside0 (last≠0)∧Aside0 (dgo n (n - i) i M last turn=R))
 case atStart=>exact⟨0,en l,b,cp,1,1,Nat.zero_le _,by omega,rfl,rfl,rfl,HO,⟨by decide⟩,HR⟩
 case round=>
  clear HO HR b cp;obtain⟨i,M,b,cp,last,turn,hi,hg,rfl,rfl,rfl,HO,HL,HR⟩:=hrel
  by_cases hlt:i < n
  ·have hltz:(i:Int) < (n:Int):=by omega
   have HLT:=q_ hlt;have HI:=q_ hi;have HG:=q_ hg;clear hlt hi hg;have hne: ¬ cap=i:=by have:=HCAP.out;have:=HLT.out;omega
   have hle:(i:Int)≤(n:Int):=by omega
   have h0i:(0:Int)≤(i:Int):=by omega
   have HA:Below wr.heap.size wr (wr.alloc (Obj.cells #[.int .i64 (i:Int)] 3)):=(Below.refl _ _).alloc (Nat.le_refl _) _;have ah:=q_ (HO.out.step HA);have HPC:Aside0 ((wr.alloc (Obj.cells #[.int .i64 (i:Int)] 3)).cell? ⟨wr.heap.size,0,none⟩=some (.int .i64 (i:Int))):=⟨by simp⟩
   have hcall:=indexFuncRows (nz i) 160 #[.pointer (some ⟨wr.heap.size,0,none⟩)] det1_enters (some ⟨g,i,none⟩) (cap - i) (rowsFrom M n i) _ (ah.out.C i (by have:=HN.out;omega))
    (fun W' A' c' x hx hb hxc hC=>det1 wr.heap.size i A' c' x W' ((hb.cell (p:=⟨wr.heap.size,0,none⟩) (by simp)).trans HPC.out) hC (by
     have:=HLT.out;obtain⟨r,_,rfl⟩:=List.mem_map.1 hx
     simpa using this))
   rw [rowsFrom_len,idxP_fnd M n i HLT.out] at hcall;have HCALL:=q_ hcall;clear hcall;have HNB:Aside0 (∀j,j < n→b j≠wr.heap.size):=⟨fun j hj e=>by have:=lt_of_cell (HO.out.ob j i hj HLT.out).1;rw [e] at this;exact Nat.lt_irrefl _ this⟩
   have HNG:Aside0 (g≠wr.heap.size):=⟨fun e=>by have:=lt_of_cell (HO.out.og i HLT.out).1;rw [e] at this;exact Nat.lt_irrefl _ this⟩
   obtain⟨q,hq⟩: ∃q,n - i=q+1:=⟨n - i - 1,by have:=HLT.out;omega⟩
   have HQ:=q_ hq;have hR2:=HR.out;rw [hq] at hR2;unfold dgo at hR2;clear hq HA;cases hf:fnd M i (n - i) 0 with
   | none=>
    rw [hf] at hR2;simp only [hf] at HCALL;have HR2:=q_ hR2;clear hR2 hf
    go_wp2_with fail
    refine HCALL.out.mono ?_
    rintro e w2 ⟨rfl,hb2⟩;have HB2:=q_ hb2;clear hb2 HCALL;go_wp2
    go_ret
    exact⟨by rw [← HR2.out];rfl,Below.trans ah.out.below (HB2.out.mono ah.out.below.size)⟩
   | some kk=>
    have HF:=q_ hf;rw [hf] at hR2;simp only [hf] at HCALL;cases kk with
    | zero=>
     have HR2:=q_ hR2;clear hR2 hf
     go_wp2_with fail
     refine HCALL.out.mono ?_
     rintro e w2 ⟨rfl,hb2⟩;have ag:=q_ (ah.out.step hb2);have HPV:Aside0 (w2.cell? ⟨wr.heap.size,0,none⟩=some (.int .i64 (i:Int))):=⟨(hb2.cell (p:=⟨wr.heap.size,0,none⟩) (by simp)).trans HPC.out⟩
     generalize wr.heap.size=pv at*
     clear hb2 HCALL HO ah HR HPC;have hgi1:IntKind.i64.wrap ((i:Int)+1)=((i+1:Nat):Int):=by rw [IntWalk.i64_in _ (by have:=HN.out;have:=HLT.out;omega)];rfl
     have HGI1:=q_ hgi1;have hi1z:((i+1:Nat):Int)≤(n:Int):=by have:=HLT.out;omega
     have h0z1:(0:Int)≤((i+1:Nat):Int):=by omega
     by_cases hcc:cap=i+1
     ·have hp0:=HPV.out;have hn1:n=i+1:=by have:=HCAP.out;have:=HLT.out;omega
      have h00: ¬ (0:Int) < ((n - (i+1):Nat):Int):=by omega
      have HN1:=q_ hn1;have hcct:=eq_true hcc;clear hn1 hcc;go_wp2
      go_loopg [53] 1 (fun gg v53 w3=>v53= .int .i64 0∧Aside0 (Own w w3 g n b cp M)∧Aside0 (w3.cell? ⟨pv,0,none⟩=some (.int .i64 (i:Int))))
      case atStart=>exact⟨rfl,ag,HPV⟩
      case round=>
       clear ag HPV hp0;obtain⟨rfl,aa,HPV3⟩:=hrel;have ae:=q_ (aa.out.step (below_drew (Below.refl wr.heap.size wr)));have HPV4:Aside0 (wr.drew.cell? ⟨pv,0,none⟩=some (.int .i64 (i:Int))):=⟨HPV3.out⟩
       have hp3:=HPV4.out;have hog:=(ae.out.og i HLT.out).1;have hii:=(ae.out.ob i i HLT.out HLT.out).1;go_wp2
       refine st_ (n:=8) (S:=fun w'=>w'.cell? ⟨pv,0,none⟩=some (.int .i64 (i:Int))∧w'.cell? ⟨g,i,none⟩=some (.slice (some ⟨b i,0,none⟩) n (cp i))∧w'.cell? ⟨b i,i,none⟩=some (.int .i64 ((M) i i))) (ds:= []) ⟨hp3,hog,hii⟩ (fun hHeld=>?_)
       generalize wr.drew=w5 at ae HPV4 hp3 hog hii hHeld ⊢
       refine pu_ 0 96 ?_;refine tk_ 1 97 ?_;refine pu_ 2 98 ?_;refine tk_ 3 99 ?_;refine tk_ 4 100 ?_;refine pu_ 5 101 ?_;refine tk_ 6 102 ?_;refine pu_ 7 4 ?_
       refine done_ (by kernel_rfl) ?_
       go_wp2
       go_roundg (n - (i+1))
       case measure=>have:=HG.out;have:=HLT.out;omega
       case rel=>exact⟨i+1,el (M) i last,b,cp,(M) i i,turn,by have:=HLT.out;omega,by omega,rfl,rfl,by first | rfl | (rw [HGI1.out]),⟨ae.out.congr (fun a b ha _=>by unfold el;rw [if_neg (by have:=HN1.out;omega)])⟩,⟨(fnd_some HF.out).2.2.1⟩,⟨by rw [show n - (i+1)=q from by have:=HQ.out;omega];exact HR2.out⟩⟩
     ·have hp0:=HPV.out;go_wp2
      go_loopg [53] n (fun gg v53 w3=> ∃t:Nat,i+1+t≤n∧n - (i+1+t)≤gg∧v53= .int .i64 (t:Int)∧Aside0 (Own w w3 g n b cp (mid M i last (i+1+t) i))∧Aside0 (w3.cell? ⟨pv,0,none⟩=some (.int .i64 (i:Int))))
      case atStart=>exact⟨0,by have:=HLT.out;omega,by omega,by simp,⟨ag.out.congr (fun a b _ _=>(mid_start _ i last a b).symm)⟩,HPV⟩
      case round=>
       clear ag HPV hp0;obtain⟨t,ht,hg2,rfl,aa,HPV3⟩:=hrel;have HT:=q_ ht;have HG2:=q_ hg2
       by_cases htn:i+1+t < n
       ·have htz:(t:Int) < ((n - (i+1):Nat):Int):=by omega
        have h0t:(0:Int)≤(t:Int):=by omega
        have HTN:=q_ htn;have hog:=(aa.out.og (i+1+t) htn).1;have hf0:=(aa.out.ob (i+1+t) i htn HLT.out).1;rw [mid_at _ i last (i+1+t) i i (Nat.le_refl _)] at hf0;have hp3:=HPV3.out;have ht1:IntKind.i64.wrap ((t:Int)+1)=((t+1:Nat):Int):=by rw [IntWalk.i64_in _ (by have:=HN.out;omega)];rfl
        have HT1:=q_ ht1
        generalize hr:i+1+t=r at*
        have HRE:=q_ hr;have htr:i+1+t=r:=hr;clear hr;go_wp2
        go_loopg [11] n (fun gg v11 w4=> ∃c':Nat,i≤c'∧c'≤n∧n - c'≤gg∧v11= .int .i64 (c':Int)∧Aside0 (Own w w4 g n b cp (mid M i last r c'))∧Aside0 (w4.cell? ⟨pv,0,none⟩=some (.int .i64 (i:Int))))
        case atStart=>exact⟨i,Nat.le_refl _,HI.out,by omega,rfl,aa,HPV3⟩
        case round=>
         clear aa HPV3 hp3 hog hf0;obtain⟨c',hc1,hc2,hg3,rfl,ae,HPV4⟩:=hrel;have HC1:=q_ hc1;have HC2:=q_ hc2;have HG3:=q_ hg3
         by_cases hcn:c' < n
         ·have hcz:(c':Int) < (n:Int):=by omega
          have h0c:(0:Int)≤(c':Int):=by omega
          have HCN:=q_ hcn;have af:=q_ (ae.out.step (below_drew (Below.refl wr.heap.size wr)));have HPV5:Aside0 (wr.drew.cell? ⟨pv,0,none⟩=some (.int .i64 (i:Int))):=⟨HPV4.out⟩
          have h1:=(af.out.ob r c' HTN.out hcn).1;have h1f:=(af.out.ob r c' HTN.out hcn).2;have h2:=(af.out.og i HLT.out).1;have h3:=(af.out.ob i i HLT.out HLT.out).1;have h4:=(af.out.ob i c' HLT.out hcn).1;rw [mid_at _ i last r c' c' (Nat.le_refl _)] at h1;rw [mid_head] at h3 h4;have hp4:=HPV5.out;have hl0:(last==0)=false:=by have:=HL.out;simpa using this
          have hl1: ¬ last=0:=HL.out;have hc11:IntKind.i64.wrap ((c':Int)+1)=((c'+1:Nat):Int):=by rw [IntWalk.i64_in _ (by have:=HN.out;omega)];rfl
          have HC11:=q_ hc11;clear hc1 hc2 hg3 hcn;go_wp2
          refine st_ (n:=28) (S:=fun w'=>w'.cell? ⟨b r,c',none⟩=some (.int .i64 ((M) r c'))∧w'.cell? ⟨pv,0,none⟩=some (.int .i64 (i:Int))∧w'.cell? ⟨g,i,none⟩=some (.slice (some ⟨b i,0,none⟩) n (cp i))∧w'.cell? ⟨b i,i,none⟩=some (.int .i64 ((M) i i))∧w'.cell? ⟨b i,c',none⟩=some (.int .i64 ((M) i c'))) (ds:= [27]) ⟨h1,hp4,h2,h3,h4⟩ (fun hHeld=>?_)
          generalize wr.drew=w5 at af HPV5 h1 hp4 h2 h3 h4 h1f hHeld ⊢
          refine pu_ 0 68 ?_;refine pu_ 1 69 ?_;refine pu_ 2 70 ?_;refine pu_ 3 71 ?_;refine pu_ 4 72 ?_;refine tk_ 5 73 ?_;refine pu_ 6 74 ?_;refine tk_ 7 75 ?_;refine pu_ 8 76 ?_;refine tk_ 9 77 ?_;refine tk_ 10 78 ?_;refine pu_ 11 79 ?_;refine tk_ 12 80 ?_;refine pu_ 13 81 ?_;refine pu_ 14 82 ?_;refine pu_ 15 83 ?_;refine tk_ 16 84 ?_;refine pu_ 17 85 ?_;refine tk_ 18 86 ?_;refine pu_ 19 87 ?_;refine pu_ 20 88 ?_;refine tk_ 21 89 ?_;refine pu_ 22 90 ?_;refine pu_ 23 91 ?_;refine pu_ 24 92 ?_;refine pu_ 25 93 ?_;refine pu_ 26 94 ?_
          refine la_ 27 none (fun K hK=>?_)
          refine skip_ (w1:=?_) (by rfl) rfl ?_ ?_
          rotate_left
          ·go_simp
           rfl
          refine hK.out _ _ ?_
          clear hK K;refine done_ (by kernel_rfl) ?_
          go_wp2
          go_roundg (n - (c'+1))
          case measure=>have:=HG3.out;have:=HCN.out;omega
          case rel=>
           have hput:=(af.out.put HTN.out HCN.out (ev M i last r c')).congr (M':=mid M i last r (c'+1)) (fun a b _ _=>mid_next _ i last r c' (by have:=HRE.out;omega) HC1.out a b);refine⟨c'+1,by have:=HC1.out;omega,HCN.out,by omega,by first | rfl | (rw [HC11.out]) | (simp [HC11.out]),⟨hput⟩,⟨?_⟩⟩
           rw [cset_other (by intro e;exact HNB.out r HTN.out (congrArg Addr.block e))];exact HPV5.out
         ·have hcz: ¬ (c':Int) < (n:Int):=by omega
          obtain rfl:c'=n:=by have:=HC2.out;omega
          clear hcn hc1 hc2 hg3;go_wp2
          go_roundg (c' - (r+1))
          case measure=>have:=HG2.out;have:=HTN.out;omega
          case rel=>exact⟨t+1,by have:=HTN.out;have:=HRE.out;omega,by have:=HRE.out;omega,by first | rfl | (rw [HT1.out]) | (simp [HT1.out]),⟨ae.out.congr (fun a b _ hb=>by rw [mid_row _ i last r a b hb,show i+1+(t+1)=r+1 from by have:=HRE.out;omega])⟩,HPV4⟩
       ·have htz: ¬ (t:Int) < ((n - (i+1):Nat):Int):=by omega
        have hn1:i+1+t=n:=by omega
        rw [hn1] at aa;have ae:=q_ (aa.out.step (below_drew (Below.refl wr.heap.size wr)));have HPV4:Aside0 (wr.drew.cell? ⟨pv,0,none⟩=some (.int .i64 (i:Int))):=⟨HPV3.out⟩
        have hp3:=HPV4.out;have hog:=(ae.out.og i HLT.out).1;have hii:=(ae.out.ob i i HLT.out HLT.out).1;rw [mid_head] at hii;clear hn1 htn ht hg2;go_wp2
        refine st_ (n:=8) (S:=fun w'=>w'.cell? ⟨pv,0,none⟩=some (.int .i64 (i:Int))∧w'.cell? ⟨g,i,none⟩=some (.slice (some ⟨b i,0,none⟩) n (cp i))∧w'.cell? ⟨b i,i,none⟩=some (.int .i64 ((M) i i))) (ds:= []) ⟨hp3,hog,hii⟩ (fun hHeld=>?_)
        generalize wr.drew=w5 at ae HPV4 hp3 hog hii hHeld ⊢
        refine pu_ 0 96 ?_;refine tk_ 1 97 ?_;refine pu_ 2 98 ?_;refine tk_ 3 99 ?_;refine tk_ 4 100 ?_;refine pu_ 5 101 ?_;refine tk_ 6 102 ?_;refine pu_ 7 4 ?_
        refine done_ (by kernel_rfl) ?_
        go_wp2
        go_roundg (n - (i+1))
        case measure=>have:=HG.out;have:=HLT.out;omega
        case rel=>exact⟨i+1,el (M) i last,b,cp,(M) i i,turn,by have:=HLT.out;omega,by omega,rfl,rfl,by first | rfl | (rw [HGI1.out]),⟨ae.out.congr (fun a b ha _=>mid_end _ i last a b ha)⟩,⟨(fnd_some HF.out).2.2.1⟩,⟨by rw [show n - (i+1)=q from by have:=HQ.out;omega];exact HR2.out⟩⟩
    | succ kk=>
     obtain⟨kp,hkp⟩: ∃kp,kp=kk+1:=⟨_,rfl⟩
     simp only [← hkp] at hf hR2 HCALL;obtain⟨s,hs⟩: ∃s,s=i+kp:=⟨_,rfl⟩
     have hfs:=fnd_some hf;have hsn:s < n:=by have:=HLT.out;omega
     have hsi: ¬ s=i:=by omega
     have hik:IntKind.i64.wrap ((i:Int)+(kp:Int))=(s:Int):=by rw [IntWalk.i64_in _ (by have:=HN.out;omega),hs];rfl
     have hnz:M s i≠0:=by rw [hs];exact hfs.2.2.1
     rw [← hs] at hR2;have HNZ:=q_ hnz;have HSN:=q_ hsn;have HSI:=q_ hsi;have HR2:=q_ hR2;have hkz:(0:Int) < (kp:Int):=by omega
     have hkz': ¬ (kp:Int) < 0:=by omega
     clear hR2 hf HF hfs hnz hs hkp kk
     go_wp2_with fail
     refine HCALL.out.mono ?_
     rintro e w2 ⟨rfl,hb2⟩;have ag:=q_ (ah.out.step hb2);have HPV:Aside0 (w2.cell? ⟨wr.heap.size,0,none⟩=some (.int .i64 (i:Int))):=⟨(hb2.cell (p:=⟨wr.heap.size,0,none⟩) (by simp)).trans HPC.out⟩
     generalize wr.heap.size=pv at*
     clear hb2 HCALL HO ah HR HPC;have aa:=q_ (ag.out.step (below_drew (Below.refl w2.heap.size w2)));have HPV3:Aside0 (w2.drew.cell? ⟨pv,0,none⟩=some (.int .i64 (i:Int))):=⟨HPV.out⟩
     have HSW:=q_ (aa.out.swap HLT.out HSN.out);have hp0:=HPV3.out;have hgs:=(aa.out.og s HSN.out).1;have hgsf:=(aa.out.og s HSN.out).2;have hgi:=(aa.out.og i HLT.out).1;have hgif:=(aa.out.og i HLT.out).2;have hst:(w2.drew.setCell ⟨g,i,none⟩ (.slice (some ⟨b s,0,none⟩) n (cp s))).cell? ⟨g,s,none⟩=some (.slice (some ⟨b s,0,none⟩) n (cp s)):=by rw [cset_other (by intro e;exact HSI.out (congrArg Addr.off e).symm)];exact hgs
     have hstf:(w2.drew.setCell ⟨g,i,none⟩ (.slice (some ⟨b s,0,none⟩) n (cp s))).frozen? ⟨g,s,none⟩=false:=by rw [fset];exact hgsf
     have hsz:(s:Int) < (n:Int):=by omega
     have h0s:(0:Int)≤(s:Int):=by omega
     clear ag HPV hsn hsi;go_wp2
     refine st_ (n:=20) (S:=fun w'=>w'.cell? ⟨pv,0,none⟩=some (.int .i64 (i:Int))∧w'.cell? ⟨g,s,none⟩=some (.slice (some ⟨b s,0,none⟩) n (cp s))) (ds:= [19]) ⟨hp0,hgs⟩ (fun hHeld=>?_)
     generalize w2.drew=w5 at aa HPV3 HSW hp0 hgs hgi hgsf hgif hst hstf hHeld ⊢
     refine pu_ 0 28 ?_;refine tk_ 1 29 ?_;refine pu_ 2 30 ?_;refine tk_ 3 31 ?_;refine pu_ 4 32 ?_;refine pu_ 5 33 ?_;refine pu_ 6 34 ?_;refine tk_ 7 35 ?_;refine pu_ 8 36 ?_;refine pu_ 9 37 ?_;refine pu_ 10 38 ?_;refine tk_ 11 39 ?_;refine pu_ 12 40 ?_;refine tk_ 13 41 ?_;refine pu_ 14 42 ?_
     refine on_ 15 (some 43) (fun K hK=>?_)
     refine value_ (w1:=w5) (v:= .slice (some ⟨b i,0,none⟩) n (cp i)) (by rfl) rfl (by go_simp) ?_
     refine hK.out _ _ hHeld (fun hHeld=>?_)
     clear hK K;refine norm_ (a':=?_) ?_ ?_
     rotate_left
     ·show Act.put _ (some 43) _=_
      simp only [Act.put,List.setIfInBounds_toArray,List.set_cons_zero,List.set_cons_succ,i64_w,i32_w]
      rfl
     refine pu_ 16 44 ?_
     refine on_ 17 none (fun K hK=>?_)
     refine skip_ (w1:=?_) (by rfl) rfl ?_ ?_
     rotate_left
     ·go_simp
      rfl
     refine hK.out _ _ ⟨(cset_other (by intro e;exact HNG.out (congrArg Addr.block e))).trans hp0,hst⟩ (fun hHeld=>?_)
     clear hK K;refine pu_ 18 45 ?_
     refine la_ 19 none (fun K hK=>?_)
     refine skip_ (w1:=?_) (by rfl) rfl ?_ ?_
     rotate_left
     ·go_simp
      rfl
     refine hK.out _ _ ?_
     clear hK K;refine done_ (by kernel_rfl) ?_
     have HPV:Aside0 (((w5.setCell ⟨g,i,none⟩ (.slice (some ⟨b s,0,none⟩) n (cp s))).setCell ⟨g,s,none⟩ (.slice (some ⟨b i,0,none⟩) n (cp i))).cell? ⟨pv,0,none⟩=some (.int .i64 (i:Int))):=⟨by
      rw [cset_other (by intro e;exact HNG.out (congrArg Addr.block e)),cset_other (by intro e;exact HNG.out (congrArg Addr.block e))];exact HPV3.out⟩
     have HNB2:Aside0 (∀j,j < n→b (sw i s j)≠pv):=⟨fun j hj=>HNB.out _ (sw_lt HLT.out HSN.out hj)⟩
     have HNZ2:Aside0 ((fun j=>M (sw i s j)) i i≠0):=⟨by show M (sw i s i) i≠0;rw [show sw i s i=s from by simp [sw]];exact HNZ.out⟩
     have HR3:Aside0 (dgo n q (i+1) (el (fun j=>M (sw i s j)) i last) ((fun j=>M (sw i s j)) i i) (wrap64 (-turn))=R):=HR2;clear HR2 HNB HNZ aa HPV3 hp0 hgs hgi hgsf hgif hst hstf hHeld;have ag:=HSW;clear HSW
     generalize (w5.setCell ⟨g,i,none⟩ (.slice (some ⟨b s,0,none⟩) n (cp s))).setCell ⟨g,s,none⟩ (.slice (some ⟨b i,0,none⟩) n (cp i))=w6 at ag HPV ⊢
     generalize Value.bool (decide ((kp:Int) < 0))=uu1
     generalize Value.bool (decide (0 < kp))=uu2
     have ⟨b2,hb2⟩: ∃b2:Nat→Nat,b2=fun j=>b (sw i s j):=⟨_,rfl⟩
     have ⟨cp2,hcp2⟩: ∃cp2:Nat→Nat,cp2=fun j=>cp (sw i s j):=⟨_,rfl⟩
     have ⟨M2,hM2⟩: ∃M2:Mat,M2=fun j=>M (sw i s j):=⟨_,rfl⟩
     have HNB:Aside0 (∀j,j < n→b2 j≠pv):=⟨fun j hj=>by rw [hb2];exact HNB2.out j hj⟩
     rw [← hb2, ← hcp2, ← hM2] at ag;rw [← hM2] at HNZ2 HR3;have HR2:=HR3;clear HR3 HNB2 hb2 hcp2 hM2;have HF:=HNZ2;clear HNZ2;have hgi1:IntKind.i64.wrap ((i:Int)+1)=((i+1:Nat):Int):=by rw [IntWalk.i64_in _ (by have:=HN.out;have:=HLT.out;omega)];rfl
     have HGI1:=q_ hgi1;have hi1z:((i+1:Nat):Int)≤(n:Int):=by have:=HLT.out;omega
     have h0z1:(0:Int)≤((i+1:Nat):Int):=by omega
     by_cases hcc:cap=i+1
     ·have hp0:=HPV.out;have hn1:n=i+1:=by have:=HCAP.out;have:=HLT.out;omega
      have h00: ¬ (0:Int) < ((n - (i+1):Nat):Int):=by omega
      have HN1:=q_ hn1;have hcct:=eq_true hcc;clear hn1 hcc;go_wp2
      go_loopg [53] 1 (fun gg v53 w3=>v53= .int .i64 0∧Aside0 (Own w w3 g n b2 cp2 M2)∧Aside0 (w3.cell? ⟨pv,0,none⟩=some (.int .i64 (i:Int))))
      case atStart=>exact⟨rfl,ag,HPV⟩
      case round=>
       clear ag HPV hp0;obtain⟨rfl,aa,HPV3⟩:=hrel;have ae:=q_ (aa.out.step (below_drew (Below.refl wr.heap.size wr)));have HPV4:Aside0 (wr.drew.cell? ⟨pv,0,none⟩=some (.int .i64 (i:Int))):=⟨HPV3.out⟩
       have hp3:=HPV4.out;have hog:=(ae.out.og i HLT.out).1;have hii:=(ae.out.ob i i HLT.out HLT.out).1;go_wp2
       refine st_ (n:=8) (S:=fun w'=>w'.cell? ⟨pv,0,none⟩=some (.int .i64 (i:Int))∧w'.cell? ⟨g,i,none⟩=some (.slice (some ⟨b2 i,0,none⟩) n (cp2 i))∧w'.cell? ⟨b2 i,i,none⟩=some (.int .i64 ((M2) i i))) (ds:= []) ⟨hp3,hog,hii⟩ (fun hHeld=>?_)
       generalize wr.drew=w5 at ae HPV4 hp3 hog hii hHeld ⊢
       refine pu_ 0 96 ?_;refine tk_ 1 97 ?_;refine pu_ 2 98 ?_;refine tk_ 3 99 ?_;refine tk_ 4 100 ?_;refine pu_ 5 101 ?_;refine tk_ 6 102 ?_;refine pu_ 7 4 ?_
       refine done_ (by kernel_rfl) ?_
       go_wp2
       go_roundg (n - (i+1))
       case measure=>have:=HG.out;have:=HLT.out;omega
       case rel=>exact⟨i+1,el (M2) i last,b2,cp2,(M2) i i,wrap64 (-turn),by have:=HLT.out;omega,by omega,rfl,rfl,by first | rfl | (rw [HGI1.out]),⟨ae.out.congr (fun a b ha _=>by unfold el;rw [if_neg (by have:=HN1.out;omega)])⟩,HF,⟨by rw [show n - (i+1)=q from by have:=HQ.out;omega];exact HR2.out⟩⟩
     ·have hp0:=HPV.out;go_wp2
      go_loopg [53] n (fun gg v53 w3=> ∃t:Nat,i+1+t≤n∧n - (i+1+t)≤gg∧v53= .int .i64 (t:Int)∧Aside0 (Own w w3 g n b2 cp2 (mid M2 i last (i+1+t) i))∧Aside0 (w3.cell? ⟨pv,0,none⟩=some (.int .i64 (i:Int))))
      case atStart=>exact⟨0,by have:=HLT.out;omega,by omega,by simp,⟨ag.out.congr (fun a b _ _=>(mid_start _ i last a b).symm)⟩,HPV⟩
      case round=>
       clear ag HPV hp0;obtain⟨t,ht,hg2,rfl,aa,HPV3⟩:=hrel;have HT:=q_ ht;have HG2:=q_ hg2
       by_cases htn:i+1+t < n
       ·have htz:(t:Int) < ((n - (i+1):Nat):Int):=by omega
        have h0t:(0:Int)≤(t:Int):=by omega
        have HTN:=q_ htn;have hog:=(aa.out.og (i+1+t) htn).1;have hf0:=(aa.out.ob (i+1+t) i htn HLT.out).1;rw [mid_at _ i last (i+1+t) i i (Nat.le_refl _)] at hf0;have hp3:=HPV3.out;have ht1:IntKind.i64.wrap ((t:Int)+1)=((t+1:Nat):Int):=by rw [IntWalk.i64_in _ (by have:=HN.out;omega)];rfl
        have HT1:=q_ ht1
        generalize hr:i+1+t=r at*
        have HRE:=q_ hr;have htr:i+1+t=r:=hr;clear hr;go_wp2
        go_loopg [11] n (fun gg v11 w4=> ∃c':Nat,i≤c'∧c'≤n∧n - c'≤gg∧v11= .int .i64 (c':Int)∧Aside0 (Own w w4 g n b2 cp2 (mid M2 i last r c'))∧Aside0 (w4.cell? ⟨pv,0,none⟩=some (.int .i64 (i:Int))))
        case atStart=>exact⟨i,Nat.le_refl _,HI.out,by omega,rfl,aa,HPV3⟩
        case round=>
         clear aa HPV3 hp3 hog hf0;obtain⟨c',hc1,hc2,hg3,rfl,ae,HPV4⟩:=hrel;have HC1:=q_ hc1;have HC2:=q_ hc2;have HG3:=q_ hg3
         by_cases hcn:c' < n
         ·have hcz:(c':Int) < (n:Int):=by omega
          have h0c:(0:Int)≤(c':Int):=by omega
          have HCN:=q_ hcn;have af:=q_ (ae.out.step (below_drew (Below.refl wr.heap.size wr)));have HPV5:Aside0 (wr.drew.cell? ⟨pv,0,none⟩=some (.int .i64 (i:Int))):=⟨HPV4.out⟩
          have h1:=(af.out.ob r c' HTN.out hcn).1;have h1f:=(af.out.ob r c' HTN.out hcn).2;have h2:=(af.out.og i HLT.out).1;have h3:=(af.out.ob i i HLT.out HLT.out).1;have h4:=(af.out.ob i c' HLT.out hcn).1;rw [mid_at _ i last r c' c' (Nat.le_refl _)] at h1;rw [mid_head] at h3 h4;have hp4:=HPV5.out;have hl0:(last==0)=false:=by have:=HL.out;simpa using this
          have hl1: ¬ last=0:=HL.out;have hc11:IntKind.i64.wrap ((c':Int)+1)=((c'+1:Nat):Int):=by rw [IntWalk.i64_in _ (by have:=HN.out;omega)];rfl
          have HC11:=q_ hc11;clear hc1 hc2 hg3 hcn;go_wp2
          refine st_ (n:=28) (S:=fun w'=>w'.cell? ⟨b2 r,c',none⟩=some (.int .i64 ((M2) r c'))∧w'.cell? ⟨pv,0,none⟩=some (.int .i64 (i:Int))∧w'.cell? ⟨g,i,none⟩=some (.slice (some ⟨b2 i,0,none⟩) n (cp2 i))∧w'.cell? ⟨b2 i,i,none⟩=some (.int .i64 ((M2) i i))∧w'.cell? ⟨b2 i,c',none⟩=some (.int .i64 ((M2) i c'))) (ds:= [27]) ⟨h1,hp4,h2,h3,h4⟩ (fun hHeld=>?_)
          generalize wr.drew=w5 at af HPV5 h1 hp4 h2 h3 h4 h1f hHeld ⊢
          refine pu_ 0 68 ?_;refine pu_ 1 69 ?_;refine pu_ 2 70 ?_;refine pu_ 3 71 ?_;refine pu_ 4 72 ?_;refine tk_ 5 73 ?_;refine pu_ 6 74 ?_;refine tk_ 7 75 ?_;refine pu_ 8 76 ?_;refine tk_ 9 77 ?_;refine tk_ 10 78 ?_;refine pu_ 11 79 ?_;refine tk_ 12 80 ?_;refine pu_ 13 81 ?_;refine pu_ 14 82 ?_;refine pu_ 15 83 ?_;refine tk_ 16 84 ?_;refine pu_ 17 85 ?_;refine tk_ 18 86 ?_;refine pu_ 19 87 ?_;refine pu_ 20 88 ?_;refine tk_ 21 89 ?_;refine pu_ 22 90 ?_;refine pu_ 23 91 ?_;refine pu_ 24 92 ?_;refine pu_ 25 93 ?_;refine pu_ 26 94 ?_
          refine la_ 27 none (fun K hK=>?_)
          refine skip_ (w1:=?_) (by rfl) rfl ?_ ?_
          rotate_left
          ·go_simp
           rfl
          refine hK.out _ _ ?_
          clear hK K;refine done_ (by kernel_rfl) ?_
          go_wp2
          go_roundg (n - (c'+1))
          case measure=>have:=HG3.out;have:=HCN.out;omega
          case rel=>
           have hput:=(af.out.put HTN.out HCN.out (ev M2 i last r c')).congr (M':=mid M2 i last r (c'+1)) (fun a b _ _=>mid_next _ i last r c' (by have:=HRE.out;omega) HC1.out a b);refine⟨c'+1,by have:=HC1.out;omega,HCN.out,by omega,by first | rfl | (rw [HC11.out]) | (simp [HC11.out]),⟨hput⟩,⟨?_⟩⟩
           rw [cset_other (by intro e;exact HNB.out r HTN.out (congrArg Addr.block e))];exact HPV5.out
         ·have hcz: ¬ (c':Int) < (n:Int):=by omega
          obtain rfl:c'=n:=by have:=HC2.out;omega
          clear hcn hc1 hc2 hg3;go_wp2
          go_roundg (c' - (r+1))
          case measure=>have:=HG2.out;have:=HTN.out;omega
          case rel=>exact⟨t+1,by have:=HTN.out;have:=HRE.out;omega,by have:=HRE.out;omega,by first | rfl | (rw [HT1.out]) | (simp [HT1.out]),⟨ae.out.congr (fun a b _ hb=>by rw [mid_row _ i last r a b hb,show i+1+(t+1)=r+1 from by have:=HRE.out;omega])⟩,HPV4⟩
       ·have htz: ¬ (t:Int) < ((n - (i+1):Nat):Int):=by omega
        have hn1:i+1+t=n:=by omega
        rw [hn1] at aa;have ae:=q_ (aa.out.step (below_drew (Below.refl wr.heap.size wr)));have HPV4:Aside0 (wr.drew.cell? ⟨pv,0,none⟩=some (.int .i64 (i:Int))):=⟨HPV3.out⟩
        have hp3:=HPV4.out;have hog:=(ae.out.og i HLT.out).1;have hii:=(ae.out.ob i i HLT.out HLT.out).1;rw [mid_head] at hii;clear hn1 htn ht hg2;go_wp2
        refine st_ (n:=8) (S:=fun w'=>w'.cell? ⟨pv,0,none⟩=some (.int .i64 (i:Int))∧w'.cell? ⟨g,i,none⟩=some (.slice (some ⟨b2 i,0,none⟩) n (cp2 i))∧w'.cell? ⟨b2 i,i,none⟩=some (.int .i64 ((M2) i i))) (ds:= []) ⟨hp3,hog,hii⟩ (fun hHeld=>?_)
        generalize wr.drew=w5 at ae HPV4 hp3 hog hii hHeld ⊢
        refine pu_ 0 96 ?_;refine tk_ 1 97 ?_;refine pu_ 2 98 ?_;refine tk_ 3 99 ?_;refine tk_ 4 100 ?_;refine pu_ 5 101 ?_;refine tk_ 6 102 ?_;refine pu_ 7 4 ?_
        refine done_ (by kernel_rfl) ?_
        go_wp2
        go_roundg (n - (i+1))
        case measure=>have:=HG.out;have:=HLT.out;omega
        case rel=>exact⟨i+1,el (M2) i last,b2,cp2,(M2) i i,wrap64 (-turn),by have:=HLT.out;omega,by omega,rfl,rfl,by first | rfl | (rw [HGI1.out]),⟨ae.out.congr (fun a b ha _=>mid_end _ i last a b ha)⟩,HF,⟨by rw [show n - (i+1)=q from by have:=HQ.out;omega];exact HR2.out⟩⟩
  ·obtain rfl:i=n:=by omega
   have hltz: ¬ (i:Int) < (i:Int):=by omega
   rw [Nat.sub_self] at HR;go_wp2
   go_ret
   exact⟨by rw [← HR.out];rfl,HO.out.below⟩
def impl_determinant.f (l0:List (List Int)):Option Int:=if l0.length≤1000∧ ∀x ∈ l0,x.length=l0.length then some (dgo l0.length l0.length 0 (en l0) 1 1) else none
theorem det_none (A:Option Addr) (c:Nat) (w:World) (hr:Kd.C (Kd.slice 2 (Kd.int .i64)) w A 0 []):
  Calls Tryz.prog 132 #[.slice A 0 c] w fun e w'=>e= .returned (.int .i64 1)∧Below w.heap.size w w':=by
 obtain⟨k,hk⟩:=evk (copy_eq [] (by decide) (fun x hx=>by cases hx));have hcopy:=fun W (hW:Below w.heap.size w W)=>impl_copyRows.calls k A c [] [] W (Kd.C_below hr hW) (Nat.zero_le _) hk
 have HCOPY:=q_ hcopy;clear hcopy hk hr
 go_enter Tryz.func132,Tryz.ntmps132
 go_wp2_with fail
 refine(HCOPY.out _ (Below.refl _ _)).mono ?_
 rintro e w1 ⟨v0,rfl,hS,hB⟩;obtain⟨A1,c1,rfl⟩:=Kd.S_slice hS;have HB:=q_ hB;clear HCOPY hS hB;go_wp2
 go_loopg [4,5,16] 1 (fun gg v4 v5 v16 wr=>v4= .int .i64 1∧v5= .int .i64 1∧v16= .int .i64 0∧Aside0 (Below w.heap.size w wr))
 case atStart=>exact⟨rfl,rfl,rfl,HB⟩
 case round=>
  obtain⟨rfl,rfl,rfl,HB2⟩:=hrel;go_wp2
  go_ret
  exact⟨by rfl,HB2.out⟩
theorem impl_determinant.calls (A0:Option Addr) (c0:Nat) (l0:List (List Int)) (r:Int) (w:World) (hr0:Kd.C (Kd.slice 2 (Kd.int .i64)) w A0 l0.length l0) (hc0:l0.length≤c0) (h:impl_determinant.f l0=some r):
  Calls Tryz.prog 132 #[.slice A0 l0.length c0] w fun e w'=>e= .returned (.int .i64 r)∧Below w.heap.size w w':=by
 unfold impl_determinant.f at h
 split at h
 case isFalse=>cases h
 rename_i hc
 have h:=Option.some.inj h
 by_cases hp:0 < l0.length
 ·exact det_calls l0.length r A0 c0 l0 w hr0 hc0 rfl hp hc.1 hc.2 h
 ·have e:l0= []:=List.eq_nil_of_length_eq_zero (by omega);subst e;have e1:r=1:=by rw [← h];show wrap64 (1*1)=1;exact w64 (by omega) (by omega)
  subst e1;exact det_none A0 c0 w hr0
end Go.Proofs.YthmfdplckdijdaaGreat.Pr
end
