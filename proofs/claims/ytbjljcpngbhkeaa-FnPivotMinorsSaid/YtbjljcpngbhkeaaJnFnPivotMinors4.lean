/- Texts of one claim (the words of the kit's print that the claim uses, printed functions, and this session's own texts), joined in the order of their imports by this session's own program (merge.py). -/
import Derived.Test.YtbjljcpngbhkeaaJnFnPivotMinors0
import Derived.Test.YtbjljcpngbhkeaaJnFnPivotMinors1
import Derived.Test.YtbjljcpngbhkeaaJnFnPivotMinors2
import Derived.Test.YtbjljcpngbhkeaaJnFnPivotMinors3
set_option linter.unusedVariables false
set_option linter.unusedSimpArgs false
set_option maxHeartbeats 8000000
set_option maxRecDepth 100000
section
namespace Go.Proofs.Ytbjljcpngbhkeaa.Pr
open Go.RowKit Wz.PrintWords Wz.PrintLast Wz.PrintMore
attribute [local go_sem] max2_int min2_int max_two min_two max_three min_three max_four min_four
mutual
def spec_ComplementOf.j0:Nat→Int→Int→Bool→List (List Int)→List Int→Option ((List (List Int)) × Int × Int)
 | 0,_,_,_,_,_=>none
 | k+1,x1,x7,x28,ae,aa=>if x28=true then(spec_ComplementOf.j1 k x1 2 ae aa) else(spec_ComplementOf.j1 k x1 x7 ae aa)
def spec_ComplementOf.j1:Nat→Int→Int→List (List Int)→List Int→Option ((List (List Int)) × Int × Int)
 | 0,_,_,_,_=>none
 | k+1,x1,x7,ae,aa=>if x7=0 then((spec_l04Pivot.f k ae aa x1).bind fun ai=>(if ai.2.2.2=true then(spec_ComplementOf.l0 k x1 (([]:List (List Int))) 0 ae aa ai.1 ai.2.1 ai.2.2.1) else(some (([]:List (List Int)),0,5)))) else(some (([]:List (List Int)),0,x7))
def spec_ComplementOf.l0:Nat→Int→List (List Int)→Int→List (List Int)→List Int→Int→List (List Int)→List Int→Option ((List (List Int)) × Int × Int)
 | 0,_,_,_,_,_,_,_,_=>none
 | k+1,x1,x10,x11,ae,aa,ag,af,ah=>if x11 < (aa.length:Int) then(if 0≤(IntKind.u64.wrap (x11)) then(if(Go.bits .and .i64 (shr .i64 x1 (IntKind.u64.wrap (x11))) 1)=1 then(spec_ComplementOf.l0 k x1 x10 (wrap64 (x11+1)) ae aa ag af ah) else(spec_ComplementOf.l1 k x1 x10 x11 (([]:List Int)) 0 ae aa ag af ah)) else(none)) else(some (x10,ag,0))
def spec_ComplementOf.l1:Nat→Int→List (List Int)→Int→List Int→Int→List (List Int)→List Int→Int→List (List Int)→List Int→Option ((List (List Int)) × Int × Int)
 | 0,_,_,_,_,_,_,_,_,_,_=>none
 | k+1,x1,x10,x11,x12,x13,ae,aa,ag,af,ah=>if x13 < (aa.length:Int) then(if 0≤(IntKind.u64.wrap (x13)) then(if(Go.bits .and .i64 (shr .i64 x1 (IntKind.u64.wrap (x13))) 1)=0 then(if 0≤x11 then(if x11 < (af.length:Int) then(if 0≤x13 then(if x13 < ((rd_L2 af x11).length:Int) then(if x12.length < 17592186044416 then(spec_ComplementOf.l1 k x1 x10 x11 (x12++ [rd (rd_L2 af x11) x13]) (wrap64 (x13+1)) ae aa ag af ah) else(none)) else(none)) else(none)) else(none)) else(none)) else(spec_ComplementOf.l1 k x1 x10 x11 x12 (wrap64 (x13+1)) ae aa ag af ah)) else(none)) else(if x10.length < 5864062014805 then(spec_ComplementOf.l0 k x1 (x10++ [x12]) (wrap64 (x11+1)) ae aa ag af ah) else(none))
end
def spec_ComplementOf.f (k:Nat) (ae:List (List Int)) (aa:List Int) (a1:Int):Option ((List (List Int)) × Int × Int):=(spec_l02Code.f k ae aa a1).bind fun af=>(if af=0 then(if 0≤(IntKind.u64.wrap ((aa.length:Int))) then(spec_ComplementOf.j0 k a1 af (a1==(wrap64 ((shl .i64 1 (IntKind.u64.wrap ((aa.length:Int)))) - 1))) ae aa) else(none)) else(spec_ComplementOf.j0 k a1 af false ae aa))
theorem spec_ComplementOf.calls (k:Nat) (aT:Option Addr) (aU:Nat) (au:List (List Int)) (aV:Option Addr) (aW:Nat) (aj:List Int) (a1:Int) (r1:List (List Int)) (r2:Int) (r3:Int) (w:World) (cJ:Kd.C (Kd.slice 2 (Kd.int .i64)) w aT au.length au) (cK:au.length≤aU) (cL:Kd.C (Kd.int .i64) w aV aj.length aj) (cN:aj.length≤aW) (h:spec_ComplementOf.f k au aj a1=some (r1,r2,r3)):
  Calls Try.prog 11 #[.agg #[.slice aT au.length aU, .slice aV aj.length aW], .int .i64 a1] w fun e w'=> ∃v0_:Value,e= .returned (.tuple #[v0_, .int .i64 r2, .int .i64 r3])∧Kd.S (Kd.slice 2 (Kd.int .i64)) 25 w' w.heap.size (fun _=>True) v0_ r1∧Below w.heap.size w w':=by
 have hu27:=Try.underlying27;have hu49:=Try.underlying49;have HR0_0:=q_ cJ;have HC0_0:=q_ cK;clear cJ cK;have HR0_1:=q_ cL;have HC0_1:=q_ cN;clear cL cN;have HB:=q_ (Below.refl w.heap.size w);have H:((spec_l02Code.f k au aj a1).bind fun ba=>(if ba=0 then(if 0≤(IntKind.u64.wrap ((aj.length:Int))) then(spec_ComplementOf.j0 k a1 ba (a1==(wrap64 ((shl .i64 1 (IntKind.u64.wrap ((aj.length:Int)))) - 1))) au aj) else(none)) else(spec_ComplementOf.j0 k a1 ba false au aj)))=some (r1,r2,r3):=h;clear h;replace H:=Option.bind_eq_some_iff.mp H;obtain⟨ba,A30,H⟩:=H;replace H:(if ba=0 then(if 0≤(IntKind.u64.wrap ((aj.length:Int))) then(spec_ComplementOf.j0 k a1 ba (a1==(wrap64 ((shl .i64 1 (IntKind.u64.wrap ((aj.length:Int)))) - 1))) au aj) else(none)) else(spec_ComplementOf.j0 k a1 ba false au aj))=some (r1,r2,r3):=H;have A3:=q_ A30;clear A30;have HC4:=q_ H;clear H
 go_enter Try.func11,Try.ntmps11
 go_upto_region 2 with (first | ((with_reducible refine gate_dst (N:=2) rfl ?_);(try (refine gate_guard (by rfl) ?_;dsimp only));refine be_ 2 #[.slice aT au.length aU, .slice aV aj.length aW] 27 ?_;intro aq hg w5 hbox hb;have aa:=q_ (hbox);have cO:=gz_ w hg;have cP:=gz_ w hg;replace HB:=Bs_ hb;clear hb hbox hg;obtain⟨bh,bk,bq,bu⟩:=c2_ aa) | (go_at_call 42;(with_reducible refine(spec_l02Code.calls k _ _ au _ _ aj a1 ba _ ?aX ?aY ?aZ ?a9 A3.out).mono ?_);(case aX=>exact cb_ HR0_0.out HB.out);(case aY=>exact HC0_0.out);(case aZ=>exact cb_ HR0_1.out HB.out);(case a9=>exact HC0_1.out);rintro e w7 ⟨rfl,hb⟩;replace aa:=Bb_ aa hb;replace HB:=Bs_ hb;(try clear hb);(try clear hk)))
 repeat (go_quiet (first | ((with_reducible refine gate_dst (N:=2) rfl ?_);(try (refine gate_guard (by rfl) ?_;dsimp only));refine be_ 2 #[.slice aT au.length aU, .slice aV aj.length aW] 27 ?_;intro aq hg w5 hbox hb;have aa:=q_ (hbox);have cO:=gz_ w hg;have cP:=gz_ w hg;replace HB:=Bs_ hb;clear hb hbox hg;obtain⟨bh,bk,bq,bu⟩:=c2_ aa) | (go_at_call 42;(with_reducible refine(spec_l02Code.calls k _ _ au _ _ aj a1 ba _ ?aX ?aY ?aZ ?a9 A3.out).mono ?_);(case aX=>exact cb_ HR0_0.out HB.out);(case aY=>exact HC0_0.out);(case aZ=>exact cb_ HR0_1.out HB.out);(case a9=>exact HC0_1.out);rintro e w7 ⟨rfl,hb⟩;replace aa:=Bb_ aa hb;replace HB:=Bs_ hb;(try clear hb);(try clear hk)));go_upto_region 2 with (first | ((with_reducible refine gate_dst (N:=2) rfl ?_);(try (refine gate_guard (by rfl) ?_;dsimp only));refine be_ 2 #[.slice aT au.length aU, .slice aV aj.length aW] 27 ?_;intro aq hg w5 hbox hb;have aa:=q_ (hbox);have cO:=gz_ w hg;have cP:=gz_ w hg;replace HB:=Bs_ hb;clear hb hbox hg;obtain⟨bh,bk,bq,bu⟩:=c2_ aa) | (go_at_call 42;(with_reducible refine(spec_l02Code.calls k _ _ au _ _ aj a1 ba _ ?aX ?aY ?aZ ?a9 A3.out).mono ?_);(case aX=>exact cb_ HR0_0.out HB.out);(case aY=>exact HC0_0.out);(case aZ=>exact cb_ HR0_1.out HB.out);(case a9=>exact HC0_1.out);rintro e w7 ⟨rfl,hb⟩;replace aa:=Bb_ aa hb;replace HB:=Bs_ hb;(try clear hb);(try clear hk))))
 (try simp only [Act.put,List.setIfInBounds_toArray,List.set_cons_zero,List.set_cons_succ])
 go_cut [28] (fun v28 wc=> ∃(kq:Nat) (bP:Bool),v28= .bool bP∧Aside0 (spec_ComplementOf.j0 kq a1 ba bP au aj=some (r1,r2,r3))∧Aside0 (kq≤k)∧Aside0 (wc.heap[aq]?=some (.cells #[(.slice aT au.length aU),(.slice aV aj.length aW)] 27 (0,0)))∧Aside0 (Below w.heap.size w wc))
 case first=>
  have H:=HC4.out;clear HC4
  by_cases c8:ba=0
  ·rw [if_pos c8] at H;have c8b0:=e1_ c8;have c8b1:=e2_ c8;clear c8
   (first | rw [c8b0] | (simp only [i64_w,i32_w];rw [c8b0]) | skip)
   obtain⟨ji9,hji9⟩: ∃j_:Int,(IntKind.u64.wrap ((aj.length:Int)))=j_:=⟨_,rfl⟩
   replace H:(if 0≤(ji9) then(spec_ComplementOf.j0 k a1 ba (a1==(wrap64 ((shl .i64 1 (ji9)) - 1))) au aj) else(none))=some (r1,r2,r3):=by first | (rw [hji9] at H;exact H) | (simp only [hji9] at H ⊢;exact H)
   by_cases c10:0≤(ji9)
   ·rw [if_pos c10] at H;have c10b0:=eq_true c10;have c10b1:=decide_eq_true c10;clear c10;obtain⟨ji11,hji11⟩: ∃j_:Int,(shl .i64 1 (ji9))=j_:=⟨_,rfl⟩
    replace H:(spec_ComplementOf.j0 k a1 ba (a1==(wrap64 ((ji11) - 1))) au aj)=some (r1,r2,r3):=by first | (rw [hji11] at H;exact H) | (simp only [hji11] at H ⊢;exact H)
    have hji11_:=s1_ hji11;have hji11z:=s2_ hji11;have hji11u:=s3_ hji11;have hji11v:=s4_ hji11;have hji11y:=s5_ hji11;have hji11x:=s6_ hji11;have H':=q_ H;clear H;obtain⟨bz,bA,bC,bD⟩:=c2_ aa;go_wp2
    repeat (go_quiet (fail);try go_wp2)
    go_meet
    case rel=>exact⟨_,((a1==(wrap64 ((ji11) - 1)))),(by first | rfl | (simp;done) | (simp only [← hji11] <;> (first | rfl | simp)) | (simp [*];done)),H',⟨by first | omega | exact Nat.le_refl _⟩,⟨bk_⟩,⟨hb_⟩⟩
   ·rw [if_neg c10] at H;exact absurd H (by simp)
  ·rw [if_neg c8] at H;have c8b0:=e3_ c8;have c8b1:=e4_ c8
   (first | rw [c8b0] | (simp only [i64_w,i32_w];rw [c8b0]) | skip)
   have H':=q_ H;clear H;go_wp2
   repeat (go_quiet (fail);try go_wp2)
   go_meet
   case rel=>exact⟨_,(false),rs_,H',⟨by first | omega | exact Nat.le_refl _⟩,⟨bk_⟩,⟨hb_⟩⟩
 case rest=>
  clear HC4;(try clear c8);(try clear c8b0);(try clear c8b1);(try clear c10);(try clear c10b0);(try clear c10b1);(try clear bz);(try clear bA);(try clear bh);(try clear bk);(try clear bC);(try clear bD);(try clear bq);(try clear bu);obtain⟨kq,bP,rfl,HA,HJ3,aa,HB⟩:=hcut;cases kq with
  | zero=>exact absurd HA.out (by simp [spec_ComplementOf.j0])
  | succ kj3=>
   have H:=HA.out;clear HA;simp only [spec_ComplementOf.j0] at H;have HC13:=q_ H;clear H
   go_upto_if 28 with (fail)
   repeat (go_quiet (fail);go_upto_if 28 with (fail))
   go_cut [7] (fun v7 wc=> ∃(kq:Nat) (bg:Int),v7= .int .i64 bg∧Aside0 (spec_ComplementOf.j1 kq a1 bg au aj=some (r1,r2,r3))∧Aside0 (kq≤kj3)∧Aside0 (wc.heap[aq]?=some (.cells #[(.slice aT au.length aU),(.slice aV aj.length aW)] 27 (0,0)))∧Aside0 (Below w.heap.size w wc))
   case first=>
    have H:=HC13.out;clear HC13
    by_cases c14:bP=true
    ·subst c14;have H1:(spec_ComplementOf.j1 kj3 a1 2 au aj)=some (r1,r2,r3):=by rw [if_pos rfl] at H;exact H
     clear H;have H:=H1;clear H1;have H':=q_ H;clear H;go_wp2
     repeat (go_quiet (fail);try go_wp2)
     go_meet
     case rel=>exact⟨_,(2),rs_,H',⟨by have:=HJ3.out;first | omega | exact Nat.le_refl _⟩,⟨bk_⟩,⟨hb_⟩⟩
    ·replace c14:=Bool.eq_false_iff.mpr c14;subst c14;have H1:(spec_ComplementOf.j1 kj3 a1 ba au aj)=some (r1,r2,r3):=by rw [if_neg (show ¬ (false=true) by decide)] at H;exact H
     clear H;have H:=H1;clear H1;have H':=q_ H;clear H;go_wp2
     repeat (go_quiet (fail);try go_wp2)
     go_meet
     case rel=>exact⟨_,(ba),rs_,H',⟨by have:=HJ3.out;first | omega | exact Nat.le_refl _⟩,⟨bk_⟩,⟨hb_⟩⟩
   case rest=>
    clear HC13;(try clear c8);(try clear c8b0);(try clear c8b1);(try clear c10);(try clear c10b0);(try clear c10b1);(try clear c14);(try clear bz);(try clear bA);(try clear bh);(try clear bk);(try clear bC);(try clear bD);(try clear bq);(try clear bu);obtain⟨kq,bg,rfl,HA,HJ12,aa,HB⟩:=hcut;cases kq with
    | zero=>exact absurd HA.out (by simp [spec_ComplementOf.j1])
    | succ kj12=>
     have H:=HA.out;clear HA;simp only [spec_ComplementOf.j1] at H
     by_cases c15:bg=0
     ·rw [if_pos c15] at H;have c15b0:=e1_ c15;have c15b1:=e2_ c15;clear c15;replace H:=Option.bind_eq_some_iff.mp H;obtain⟨⟨aA,ag,ak,du⟩,A160,H⟩:=H;replace H:(if du=true then(spec_ComplementOf.l0 kj12 a1 (([]:List (List Int))) 0 au aj aA ag ak) else(some (([]:List (List Int)),0,5)))=some (r1,r2,r3):=H;have A16:=q_ A160;clear A160
      by_cases c17:du=true
      ·subst c17;have H1:(spec_ComplementOf.l0 kj12 a1 (([]:List (List Int))) 0 au aj aA ag ak)=some (r1,r2,r3):=by rw [if_pos rfl] at H;exact H
       clear H;have H:=H1;clear H1;obtain⟨dw,hy⟩: ∃y_:List (List Int),y_=(([]:List (List Int))):=⟨_,rfl⟩
       replace H:(spec_ComplementOf.l0 kj12 a1 dw 0 au aj aA ag ak)=some (r1,r2,r3):=hh_;have bE:=q_ hy;clear hy;have H':=q_ H;clear H;obtain⟨bW,bX,bY,bZ⟩:=c2_ aa
       go_wp2_with (first | (go_at_call 49;(with_reducible refine(spec_l04Pivot.calls kj12 _ _ au _ _ aj a1 aA ag ak true _ ?aX ?aY ?aZ ?a9 A16.out).mono ?_);(case aX=>exact cb_ HR0_0.out HB.out);(case aY=>exact HC0_0.out);(case aZ=>exact cb_ HR0_1.out HB.out);(case a9=>exact HC0_1.out);rintro e w19 ⟨bQ,bR,rfl,ho0,ho1,hb⟩;have aG:=q_ (Kd.S_lower ho0 bz_);have aH:=q_ (Kd.R_lower ho1 bz_);replace aa:=Bb_ aa hb;replace HB:=Bs_ hb;(try clear hb);(try clear hk);(try clear ho0);(try clear ho1)) | ((with_reducible refine gate_dst (N:=8) rfl ?_);(try (refine gate_guard (by rfl) ?_;dsimp only));refine be_ 8 #[.int .i64 0, .slice none 0 0, .slice none 0 0] 49 ?_;intro af hg w20 hbox hb;replace aG:=q_ (Kd.S_below (so_ aG.out) hb);replace aH:=Rb_ aH hb;have ae:=q_ (hbox);have bN:=gz_ w hg;have bO:=gz_ w hg;have aw:=lz_ hg aa;have aI:=mz_ hg aa;replace aa:=Bb_ aa hb;replace HB:=Bs_ hb;clear hb hbox hg;have cQ:=aI.out;have cR:=aw.out;obtain⟨bF,bG,bH,bI,bJ,bK⟩:=c3_ ae;obtain⟨aJ,aC,bS⟩:=Kd.S_slice aG.out;subst bS;obtain⟨ax,ay,bT⟩:=Kd.R_slice aH.out;subst bT) | ((with_reducible refine gate_dst (N:=40) rfl ?_);(try (refine gate_guard (by rfl) ?_;dsimp only));refine Kd.S_lit (Kd.slice 2 (Kd.int .i64)) _ 25 ?hg (N:=40) ?hd (xs:=([]:List (List Int))) (inner:= []) (ok:=fun _=>True) (okp:=fun _=>True) ?hr ?hp (fun _ hk=>hk) trivial (Below.refl _ _) (Nat.le_refl _) (by simp) ?_;(case hd=>rfl);(case hg=>rfl);(case hr=>first | (go_simp;done) | (go_simp;rfl));(case hp=>exact(Reps.none _ _));intro dx w25 bf hb hg_ hnew_;clear hg_ hnew_;(first | rw [← bE.out] at bf | (simp only [Int.reduceToNat] at bf;rw [← bE.out] at bf));have cB:=q_ (Kd.S_lower (Kd.S_new' (Kd.S_new' bf (Kd.S_lt ((kS_ (sf3_ aG.out ae.out) (fun _ h_=>h_.1))))) (Kd.R_lt ((kR_ (rf3_ aH.out ae.out) (fun _ h_=>h_.1))))) bz_);replace aa:=q_ (blk_below (g:=aq) (o:= .cells #[.slice aT au.length aU, .slice aV aj.length aW] 27 (0,0)) (bw_) hb);replace aG:=q_ (Kd.S_elder' ((kS_ (sf3_ aG.out ae.out) (fun _ h_=>h_.1))) (Kd.S_base bf) hb);replace aH:=q_ (Kd.R_below ((kR_ (rf3_ aH.out ae.out) (fun _ h_=>h_.1))) hb);replace HB:=Bs_ hb;replace ae:=q_ (blk_below (g:=af) (o:= .cells #[.int .i64 aA, .slice aJ ag.length aC, .slice ax ak.length ay] 49 (0,0)) (bw_) hb);clear hb bf))
       repeat (go_quiet (first | (go_at_call 49;(with_reducible refine(spec_l04Pivot.calls kj12 _ _ au _ _ aj a1 aA ag ak true _ ?aX ?aY ?aZ ?a9 A16.out).mono ?_);(case aX=>exact cb_ HR0_0.out HB.out);(case aY=>exact HC0_0.out);(case aZ=>exact cb_ HR0_1.out HB.out);(case a9=>exact HC0_1.out);rintro e w19 ⟨bQ,bR,rfl,ho0,ho1,hb⟩;have aG:=q_ (Kd.S_lower ho0 bz_);have aH:=q_ (Kd.R_lower ho1 bz_);replace aa:=Bb_ aa hb;replace HB:=Bs_ hb;(try clear hb);(try clear hk);(try clear ho0);(try clear ho1)) | ((with_reducible refine gate_dst (N:=8) rfl ?_);(try (refine gate_guard (by rfl) ?_;dsimp only));refine be_ 8 #[.int .i64 0, .slice none 0 0, .slice none 0 0] 49 ?_;intro af hg w20 hbox hb;replace aG:=q_ (Kd.S_below (so_ aG.out) hb);replace aH:=Rb_ aH hb;have ae:=q_ (hbox);have bN:=gz_ w hg;have bO:=gz_ w hg;have aw:=lz_ hg aa;have aI:=mz_ hg aa;replace aa:=Bb_ aa hb;replace HB:=Bs_ hb;clear hb hbox hg;have cQ:=aI.out;have cR:=aw.out;obtain⟨bF,bG,bH,bI,bJ,bK⟩:=c3_ ae;obtain⟨aJ,aC,bS⟩:=Kd.S_slice aG.out;subst bS;obtain⟨ax,ay,bT⟩:=Kd.R_slice aH.out;subst bT) | ((with_reducible refine gate_dst (N:=40) rfl ?_);(try (refine gate_guard (by rfl) ?_;dsimp only));refine Kd.S_lit (Kd.slice 2 (Kd.int .i64)) _ 25 ?hg (N:=40) ?hd (xs:=([]:List (List Int))) (inner:= []) (ok:=fun _=>True) (okp:=fun _=>True) ?hr ?hp (fun _ hk=>hk) trivial (Below.refl _ _) (Nat.le_refl _) (by simp) ?_;(case hd=>rfl);(case hg=>rfl);(case hr=>first | (go_simp;done) | (go_simp;rfl));(case hp=>exact(Reps.none _ _));intro dx w25 bf hb hg_ hnew_;clear hg_ hnew_;(first | rw [← bE.out] at bf | (simp only [Int.reduceToNat] at bf;rw [← bE.out] at bf));have cB:=q_ (Kd.S_lower (Kd.S_new' (Kd.S_new' bf (Kd.S_lt ((kS_ (sf3_ aG.out ae.out) (fun _ h_=>h_.1))))) (Kd.R_lt ((kR_ (rf3_ aH.out ae.out) (fun _ h_=>h_.1))))) bz_);replace aa:=q_ (blk_below (g:=aq) (o:= .cells #[.slice aT au.length aU, .slice aV aj.length aW] 27 (0,0)) (bw_) hb);replace aG:=q_ (Kd.S_elder' ((kS_ (sf3_ aG.out ae.out) (fun _ h_=>h_.1))) (Kd.S_base bf) hb);replace aH:=q_ (Kd.R_below ((kR_ (rf3_ aH.out ae.out) (fun _ h_=>h_.1))) hb);replace HB:=Bs_ hb;replace ae:=q_ (blk_below (g:=af) (o:= .cells #[.int .i64 aA, .slice aJ ag.length aC, .slice ax ak.length ay] 49 (0,0)) (bw_) hb);clear hb bf));try go_wp2_with (first | (go_at_call 49;(with_reducible refine(spec_l04Pivot.calls kj12 _ _ au _ _ aj a1 aA ag ak true _ ?aX ?aY ?aZ ?a9 A16.out).mono ?_);(case aX=>exact cb_ HR0_0.out HB.out);(case aY=>exact HC0_0.out);(case aZ=>exact cb_ HR0_1.out HB.out);(case a9=>exact HC0_1.out);rintro e w19 ⟨bQ,bR,rfl,ho0,ho1,hb⟩;have aG:=q_ (Kd.S_lower ho0 bz_);have aH:=q_ (Kd.R_lower ho1 bz_);replace aa:=Bb_ aa hb;replace HB:=Bs_ hb;(try clear hb);(try clear hk);(try clear ho0);(try clear ho1)) | ((with_reducible refine gate_dst (N:=8) rfl ?_);(try (refine gate_guard (by rfl) ?_;dsimp only));refine be_ 8 #[.int .i64 0, .slice none 0 0, .slice none 0 0] 49 ?_;intro af hg w20 hbox hb;replace aG:=q_ (Kd.S_below (so_ aG.out) hb);replace aH:=Rb_ aH hb;have ae:=q_ (hbox);have bN:=gz_ w hg;have bO:=gz_ w hg;have aw:=lz_ hg aa;have aI:=mz_ hg aa;replace aa:=Bb_ aa hb;replace HB:=Bs_ hb;clear hb hbox hg;have cQ:=aI.out;have cR:=aw.out;obtain⟨bF,bG,bH,bI,bJ,bK⟩:=c3_ ae;obtain⟨aJ,aC,bS⟩:=Kd.S_slice aG.out;subst bS;obtain⟨ax,ay,bT⟩:=Kd.R_slice aH.out;subst bT) | ((with_reducible refine gate_dst (N:=40) rfl ?_);(try (refine gate_guard (by rfl) ?_;dsimp only));refine Kd.S_lit (Kd.slice 2 (Kd.int .i64)) _ 25 ?hg (N:=40) ?hd (xs:=([]:List (List Int))) (inner:= []) (ok:=fun _=>True) (okp:=fun _=>True) ?hr ?hp (fun _ hk=>hk) trivial (Below.refl _ _) (Nat.le_refl _) (by simp) ?_;(case hd=>rfl);(case hg=>rfl);(case hr=>first | (go_simp;done) | (go_simp;rfl));(case hp=>exact(Reps.none _ _));intro dx w25 bf hb hg_ hnew_;clear hg_ hnew_;(first | rw [← bE.out] at bf | (simp only [Int.reduceToNat] at bf;rw [← bE.out] at bf));have cB:=q_ (Kd.S_lower (Kd.S_new' (Kd.S_new' bf (Kd.S_lt ((kS_ (sf3_ aG.out ae.out) (fun _ h_=>h_.1))))) (Kd.R_lt ((kR_ (rf3_ aH.out ae.out) (fun _ h_=>h_.1))))) bz_);replace aa:=q_ (blk_below (g:=aq) (o:= .cells #[.slice aT au.length aU, .slice aV aj.length aW] 27 (0,0)) (bw_) hb);replace aG:=q_ (Kd.S_elder' ((kS_ (sf3_ aG.out ae.out) (fun _ h_=>h_.1))) (Kd.S_base bf) hb);replace aH:=q_ (Kd.R_below ((kR_ (rf3_ aH.out ae.out) (fun _ h_=>h_.1))) hb);replace HB:=Bs_ hb;replace ae:=q_ (blk_below (g:=af) (o:= .cells #[.int .i64 aA, .slice aJ ag.length aC, .slice ax ak.length ay] 49 (0,0)) (bw_) hb);clear hb bf)))
       go_loopg [10,11] kj12 (fun kq v10 v11 w'=> ∃(aN:List (List Int)) (av:Int),v11= .int .i64 av∧Aside0 (spec_ComplementOf.l0 kq a1 aN av au aj aA ag ak=some (r1,r2,r3))∧Aside0 (kq≤kj12)∧Aside0 (Kd.S (Kd.slice 2 (Kd.int .i64)) 25 w' w.heap.size (fun k_=>some k_≠((.slice aJ ag.length aC):Value).ownBlock∧some k_≠((.slice ax ak.length ay):Value).ownBlock) v10 aN)∧Aside0 (Kd.S (Kd.slice 2 (Kd.int .i64)) 25 w' w.heap.size (fun k_=>some k_≠(v10:Value).ownBlock∧some k_≠((.slice ax ak.length ay):Value).ownBlock) (.slice aJ ag.length aC) ag)∧Aside0 (Kd.R (Kd.int .i64) 2 w' w.heap.size (fun _=>True) (.slice ax ak.length ay) ak)∧Aside0 (w'.heap[aq]?=some (.cells #[(.slice aT au.length aU),(.slice aV aj.length aW)] 27 (0,0)))∧Aside0 (w'.heap[af]?=some (.cells #[.int .i64 aA,(.slice aJ ag.length aC),(.slice ax ak.length ay)] 49 (0,0)))∧Aside0 (Below w.heap.size w w'))
       case atStart=>exact⟨(dw),(0),rs_,H',⟨Nat.le_refl _⟩,⟨kS_ cB.out (fun _ hk=>⟨hk.1.2,hk.2⟩)⟩,⟨kS_ aG.out (fun _ hk=>⟨hk.2,hk.1⟩)⟩,⟨ro_ aH.out⟩,⟨bk_⟩,⟨bk_⟩,⟨hb_⟩⟩
       case round=>
        clear H';(try clear c8);(try clear c8b0);(try clear c8b1);(try clear c10);(try clear c10b0);(try clear c10b1);(try clear c14);(try clear c15);(try clear c15b0);(try clear c15b1);(try clear c17);(try clear bz);(try clear bA);(try clear bW);(try clear bX);(try clear bF);(try clear bG);(try clear bH);(try clear bh);(try clear bk);(try clear bC);(try clear bD);(try clear bY);(try clear bZ);(try clear bI);(try clear bJ);(try clear bK);(try clear bq);(try clear bu);obtain⟨aN,av,rfl,HA,HK3,az,ah,ai,aa,ae,HB⟩:=hrel;cases gk with
        | zero=>exact absurd HA.out (by simp [spec_ComplementOf.l0])
        | succ k3=>
         have H:=HA.out;clear HA;simp only [spec_ComplementOf.l0] at H
         by_cases c27:av < (aj.length:Int)
         ·rw [if_pos c27] at H;have c27b0:=decide_eq_true c27;clear c27;obtain⟨ji28,hji28⟩: ∃j_:Int,(IntKind.u64.wrap (av))=j_:=⟨_,rfl⟩
          replace H:(if 0≤(ji28) then(if(Go.bits .and .i64 (shr .i64 a1 (ji28)) 1)=1 then(spec_ComplementOf.l0 k3 a1 aN (wrap64 (av+1)) au aj aA ag ak) else(spec_ComplementOf.l1 k3 a1 aN av (([]:List Int)) 0 au aj aA ag ak)) else(none))=some (r1,r2,r3):=by first | (rw [hji28] at H;exact H) | (simp only [hji28] at H ⊢;exact H)
          by_cases c29:0≤(ji28)
          ·rw [if_pos c29] at H;have c29b0:=eq_true c29;have c29b1:=decide_eq_true c29;clear c29;obtain⟨ji30,hji30⟩: ∃j_:Int,(shr .i64 a1 (ji28))=j_:=⟨_,rfl⟩
           replace H:(if(Go.bits .and .i64 (ji30) 1)=1 then(spec_ComplementOf.l0 k3 a1 aN (wrap64 (av+1)) au aj aA ag ak) else(spec_ComplementOf.l1 k3 a1 aN av (([]:List Int)) 0 au aj aA ag ak))=some (r1,r2,r3):=by first | (rw [hji30] at H;exact H) | (simp only [hji30] at H ⊢;exact H)
           have hji30_:(a1 / 2 ^ min (ji28).toNat 64)=ji30:=hji30;have hji30z:(ji28)≤64→(a1 / 2 ^ (ji28).toNat)=ji30:=shr_small hji30
           by_cases c31:(Go.bits .and .i64 (ji30) 1)=1
           ·rw [if_pos c31] at H;have c31b0:=e1_ c31;have c31b1:=e2_ c31;clear c31;have H':=q_ H;clear H;have eV:=aw.out;have eW:=aI.out;obtain⟨cV,cZ,da,df⟩:=c2_ aa;go_wp2
            repeat (go_quiet (fail);try go_wp2)
            go_roundg k3
            case measure=>have:=HJ3.out;have:=HJ12.out;have:=HK3.out;omega
            case rel=>exact⟨(aN),(wrap64 (av+1)),rs_,H',⟨by have:=HJ3.out;have:=HJ12.out;have:=HK3.out;omega⟩,⟨so_ az.out⟩,⟨so_ ah.out⟩,⟨ro_ ai.out⟩,⟨bk_⟩,⟨bk_⟩,⟨hb_⟩⟩
           ·rw [if_neg c31] at H;have c31b0:=e3_ c31;have c31b1:=e4_ c31;obtain⟨dz,hy⟩: ∃y_:List Int,y_=(([]:List Int)):=⟨_,rfl⟩
            replace H:(spec_ComplementOf.l1 k3 a1 aN av dz 0 au aj aA ag ak)=some (r1,r2,r3):=hh_;have bL:=q_ hy;clear hy;have H':=q_ H;clear H;have eX:=aw.out;have eY:=aI.out;obtain⟨dh,di,dl,dr⟩:=c2_ aa
            go_wp2_with (first | ((with_reducible refine gate_dst (N:=54) rfl ?_);(try (refine gate_guard (by rfl) ?_;dsimp only));refine Kd.R_lit (Kd.int .i64) _ 2 ?hg (N:=54) ?hd (xs:=([]:List Int)) (inner:= []) (ok:=fun _=>True) (okp:=fun _=>True) ?hr ?hp (fun _ hk=>hk) trivial (Below.refl _ _) (Nat.le_refl _) (by simp) ?_;(case hd=>rfl);(case hg=>rfl);(case hr=>first | (go_simp;done) | (go_simp;rfl));(case hp=>exact(Reps.none _ _));intro dA w36 aQ hb hg_ hnew_;clear hg_ hnew_;(first | rw [← bL.out] at aQ | (simp only [Int.reduceToNat] at aQ;rw [← bL.out] at aQ));replace az:=q_ (Kd.S_elder' (so_ az.out) (Kd.R_base aQ) hb);replace ah:=q_ (Kd.S_elder' (so_ ah.out) (Kd.R_base aQ) hb);have cC:=q_ (Kd.R_lower (Kd.R_new' aQ (Kd.R_lt (ro_ ai.out))) bz_);replace aa:=Bb_ aa hb;replace ae:=Bb_ ae hb;replace ai:=q_ (Kd.R_elder' (ro_ ai.out) (Kd.R_base aQ) hb);replace HB:=Bs_ hb;clear hb aQ))
            repeat (go_quiet (first | ((with_reducible refine gate_dst (N:=54) rfl ?_);(try (refine gate_guard (by rfl) ?_;dsimp only));refine Kd.R_lit (Kd.int .i64) _ 2 ?hg (N:=54) ?hd (xs:=([]:List Int)) (inner:= []) (ok:=fun _=>True) (okp:=fun _=>True) ?hr ?hp (fun _ hk=>hk) trivial (Below.refl _ _) (Nat.le_refl _) (by simp) ?_;(case hd=>rfl);(case hg=>rfl);(case hr=>first | (go_simp;done) | (go_simp;rfl));(case hp=>exact(Reps.none _ _));intro dA w36 aQ hb hg_ hnew_;clear hg_ hnew_;(first | rw [← bL.out] at aQ | (simp only [Int.reduceToNat] at aQ;rw [← bL.out] at aQ));replace az:=q_ (Kd.S_elder' (so_ az.out) (Kd.R_base aQ) hb);replace ah:=q_ (Kd.S_elder' (so_ ah.out) (Kd.R_base aQ) hb);have cC:=q_ (Kd.R_lower (Kd.R_new' aQ (Kd.R_lt (ro_ ai.out))) bz_);replace aa:=Bb_ aa hb;replace ae:=Bb_ ae hb;replace ai:=q_ (Kd.R_elder' (ro_ ai.out) (Kd.R_base aQ) hb);replace HB:=Bs_ hb;clear hb aQ));try go_wp2_with (first | ((with_reducible refine gate_dst (N:=54) rfl ?_);(try (refine gate_guard (by rfl) ?_;dsimp only));refine Kd.R_lit (Kd.int .i64) _ 2 ?hg (N:=54) ?hd (xs:=([]:List Int)) (inner:= []) (ok:=fun _=>True) (okp:=fun _=>True) ?hr ?hp (fun _ hk=>hk) trivial (Below.refl _ _) (Nat.le_refl _) (by simp) ?_;(case hd=>rfl);(case hg=>rfl);(case hr=>first | (go_simp;done) | (go_simp;rfl));(case hp=>exact(Reps.none _ _));intro dA w36 aQ hb hg_ hnew_;clear hg_ hnew_;(first | rw [← bL.out] at aQ | (simp only [Int.reduceToNat] at aQ;rw [← bL.out] at aQ));replace az:=q_ (Kd.S_elder' (so_ az.out) (Kd.R_base aQ) hb);replace ah:=q_ (Kd.S_elder' (so_ ah.out) (Kd.R_base aQ) hb);have cC:=q_ (Kd.R_lower (Kd.R_new' aQ (Kd.R_lt (ro_ ai.out))) bz_);replace aa:=Bb_ aa hb;replace ae:=Bb_ ae hb;replace ai:=q_ (Kd.R_elder' (ro_ ai.out) (Kd.R_base aQ) hb);replace HB:=Bs_ hb;clear hb aQ)))
            go_loopg [12,13] k3 (fun kq v12 v13 w'=> ∃(aK:List Int) (aD:Int),v13= .int .i64 aD∧Aside0 (spec_ComplementOf.l1 kq a1 aN av aK aD au aj aA ag ak=some (r1,r2,r3))∧Aside0 (kq≤k3)∧Aside0 (Kd.S (Kd.slice 2 (Kd.int .i64)) 25 w' w.heap.size (fun k_=>some k_≠(v12:Value).ownBlock∧some k_≠((.slice aJ ag.length aC):Value).ownBlock∧some k_≠((.slice ax ak.length ay):Value).ownBlock) u10 aN)∧Aside0 (Kd.R (Kd.int .i64) 2 w' w.heap.size (fun k_=>some k_≠((.slice ax ak.length ay):Value).ownBlock) v12 aK)∧Aside0 (Kd.S (Kd.slice 2 (Kd.int .i64)) 25 w' w.heap.size (fun k_=>some k_≠(u10:Value).ownBlock∧some k_≠(v12:Value).ownBlock∧some k_≠((.slice ax ak.length ay):Value).ownBlock) (.slice aJ ag.length aC) ag)∧Aside0 (Kd.R (Kd.int .i64) 2 w' w.heap.size (fun k_=>some k_≠(v12:Value).ownBlock) (.slice ax ak.length ay) ak)∧Aside0 (w'.heap[aq]?=some (.cells #[(.slice aT au.length aU),(.slice aV aj.length aW)] 27 (0,0)))∧Aside0 (w'.heap[af]?=some (.cells #[.int .i64 aA,(.slice aJ ag.length aC),(.slice ax ak.length ay)] 49 (0,0)))∧Aside0 (Below w.heap.size w w'))
            case atStart=>exact⟨(dz),(0),rs_,H',⟨Nat.le_refl _⟩,⟨kS_ az.out (fun _ hk=>⟨hk.2,⟨hk.1.1,hk.1.2⟩⟩)⟩,⟨kR_ cC.out (fun _ hk=>hk.2)⟩,⟨kS_ ah.out (fun _ hk=>⟨hk.1.1,⟨hk.2,hk.1.2⟩⟩)⟩,⟨kR_ ai.out (fun _ hk=>hk.2)⟩,⟨bk_⟩,⟨bk_⟩,⟨hb_⟩⟩
            case round=>
             clear H';(try clear c8);(try clear c8b0);(try clear c8b1);(try clear c10);(try clear c10b0);(try clear c10b1);(try clear c14);(try clear c15);(try clear c15b0);(try clear c15b1);(try clear c17);(try clear c27b0);(try clear c29);(try clear c29b0);(try clear c29b1);(try clear c31);(try clear c31b0);(try clear c31b1);(try clear bz);(try clear bA);(try clear bW);(try clear bX);(try clear bF);(try clear bG);(try clear bH);(try clear cV);(try clear cZ);(try clear dh);(try clear di);(try clear bh);(try clear bk);(try clear bC);(try clear bD);(try clear bY);(try clear bZ);(try clear bI);(try clear bJ);(try clear bK);(try clear da);(try clear df);(try clear dl);(try clear dr);(try clear bq);(try clear bu);obtain⟨aK,aD,rfl,HA,HK4,az,aM,ah,ai,aa,ae,HB⟩:=hrel;cases gk with
             | zero=>exact absurd HA.out (by simp [spec_ComplementOf.l1])
             | succ k4=>
              have H:=HA.out;clear HA;simp only [spec_ComplementOf.l1] at H
              by_cases c38:aD < (aj.length:Int)
              ·rw [if_pos c38] at H;have c38b0:=decide_eq_true c38;clear c38;obtain⟨ji39,hji39⟩: ∃j_:Int,(IntKind.u64.wrap (aD))=j_:=⟨_,rfl⟩
               replace H:(if 0≤(ji39) then(if(Go.bits .and .i64 (shr .i64 a1 (ji39)) 1)=0 then(if 0≤av then(if av < (ag.length:Int) then(if 0≤aD then(if aD < ((rd_L2 ag av).length:Int) then(if aK.length < 17592186044416 then(spec_ComplementOf.l1 k4 a1 aN av (aK++ [rd (rd_L2 ag av) aD]) (wrap64 (aD+1)) au aj aA ag ak) else(none)) else(none)) else(none)) else(none)) else(none)) else(spec_ComplementOf.l1 k4 a1 aN av aK (wrap64 (aD+1)) au aj aA ag ak)) else(none))=some (r1,r2,r3):=by first | (rw [hji39] at H;exact H) | (simp only [hji39] at H ⊢;exact H)
               by_cases c40:0≤(ji39)
               ·rw [if_pos c40] at H;have c40b0:=eq_true c40;have c40b1:=decide_eq_true c40;clear c40;obtain⟨ji41,hji41⟩: ∃j_:Int,(shr .i64 a1 (ji39))=j_:=⟨_,rfl⟩
                replace H:(if(Go.bits .and .i64 (ji41) 1)=0 then(if 0≤av then(if av < (ag.length:Int) then(if 0≤aD then(if aD < ((rd_L2 ag av).length:Int) then(if aK.length < 17592186044416 then(spec_ComplementOf.l1 k4 a1 aN av (aK++ [rd (rd_L2 ag av) aD]) (wrap64 (aD+1)) au aj aA ag ak) else(none)) else(none)) else(none)) else(none)) else(none)) else(spec_ComplementOf.l1 k4 a1 aN av aK (wrap64 (aD+1)) au aj aA ag ak))=some (r1,r2,r3):=by first | (rw [hji41] at H;exact H) | (simp only [hji41] at H ⊢;exact H)
                have hji41_:(a1 / 2 ^ min (ji39).toNat 64)=ji41:=hji41;have hji41z:(ji39)≤64→(a1 / 2 ^ (ji39).toNat)=ji41:=shr_small hji41
                by_cases c42:(Go.bits .and .i64 (ji41) 1)=0
                ·rw [if_pos c42] at H;have c42b0:=e1_ c42;have c42b1:=e2_ c42;clear c42
                 by_cases c43:0≤av
                 ·rw [if_pos c43] at H;have c43b0:=decide_eq_true c43;clear c43
                  by_cases c44:av < (ag.length:Int)
                  ·rw [if_pos c44] at H;have c44b0:=decide_eq_true c44;clear c44
                   by_cases c45:0≤aD
                   ·rw [if_pos c45] at H;have c45b0:=decide_eq_true c45;clear c45
                    by_cases c46:aD < ((rd_L2 ag av).length:Int)
                    ·rw [if_pos c46] at H;have c46b0:=decide_eq_true c46;clear c46
                     by_cases c47:aK.length < 17592186044416
                     ·rw [if_pos c47] at H;have cD:=q_ c47;clear c47;obtain⟨dB,hy⟩: ∃y_:List Int,y_=(aK++ [rd (rd_L2 ag av) aD]):=⟨_,rfl⟩
                      replace H:(spec_ComplementOf.l1 k4 a1 aN av dB (wrap64 (aD+1)) au aj aA ag ak)=some (r1,r2,r3):=hh_;have cE:=q_ hy;clear hy;have H':=q_ H;clear H;have eZ:=aw.out;have fa:=aI.out;obtain⟨dK,dL,dM,dN⟩:=c2_ aa;obtain⟨dP,dQ,dU,dV,dW,dX⟩:=c3_ ae;have p448:0≤(av:Int):=od_;have q448:av < (ag.length:Int):=od_;obtain⟨bM,eT,eU,e448,hx448_0,hl448_0,hi448_0⟩:=at_L2 (Kd.S_reads' ah.out).2.2 av p448 q448;cases e448
                      obtain⟨ce448,hce448,hMe448,hcc448⟩:=Kd.S_get ah.out [] av p448 (by first | exact q448 | exact od_ | (have e_:=(Kd.S_reads' ah.out).1;omega));obtain⟨ve448_0,rfl,ge448_0⟩:=hMe448;have hv448_0:=hcc448 0 _ rfl;rw [Nat.add_zero,show ((Kd.slice 2 (Kd.int .i64))).sz=1 from rfl,Nat.mul_one] at hv448_0;replace hv448_0:=Option.some.inj (hv448_0.symm.trans hx448_0);rw [hv448_0] at ge448_0;have HL448_0:=q_ (show Kd.R (Kd.int .i64) 2 _ _ _ _ (rd_L2 ag av) from ge448_0);clear hv448_0 ge448_0 hcc448 hce448;have HR448_0:=q_ hi448_0;have HC448_0:=q_ hl448_0;clear hi448_0 hl448_0;replace p448:=eq_true p448;replace q448:=eq_true q448;have p449:0≤(aD:Int):=od_;have q449:aD < ((rd_L2 ag av).length:Int):=od_;obtain⟨fc,e449,hx449_0⟩:=Kd.at_int (by repeat (first | (with_reducible exact HR448_0.out) | (with_reducible refine Kd.C_alloc ?_ _) | (with_reducible refine Kd.C_drewN ?_ _) | (with_reducible refine Kd.C_drew ?_) | exact HR448_0.out)) aD p449 q449;cases e449
                      replace p449:=eq_true p449;replace q449:=eq_true q449
                      go_wp2_with (first | ((with_reducible refine gate_builtin (b:= .append) (xs:= #[.tmp 68, .tmp 77]) rfl ?_);(try (refine gate_guard (by rfl) ?_;dsimp only));at_builtin;refine Kd.R_append (Kd.int .i64) (w0:=w) w.heap.size rfl (.tmp 68) (.tmp 77) 25 2 (.int .i64 0) 8 rfl Try.underlying25 info2 rfl (by decide) (by omega) u12 aK (rd (rd_L2 ag av) aD) [.int .i64 (rd (rd_L2 ag av) aD)] (fun k_=>some k_≠(.slice ax ak.length ay:Value).ownBlock) (fun _=>False) rfl rfl ?aP (fun _ hk=>hk.elim) ?aF ?aO ?aB ?aS ?aL ?_;(case aP=>exact rfl);(case aB=>exact hb_);(case aF=>exact(fun k_ hk=>Kd.fresh' (Kd.R_lt (ro_ ai.out)) k_ hk));(case aO=>exact(ro_ aM.out));(case aS=>exact bz_);(case aL=>have:=cD.out;omega);intro dC w51 ho hb hg hat;rw [← cE.out] at ho;replace az:=q_ (Kd.S_after (ok:=(fun k_=>some k_≠(.slice (some bM) ag.length aC:Value).ownBlock∧some k_≠(.slice ax ak.length ay:Value).ownBlock)) (kS_ az.out (fun _ hk=>⟨⟨hk.2.1,hk.2.2⟩,hk.1⟩)) hg hat);replace ah:=q_ (Kd.S_after (ok:=(fun k_=>some k_≠(u10:Value).ownBlock∧some k_≠(.slice ax ak.length ay:Value).ownBlock)) (kS_ ah.out (fun _ hk=>⟨⟨hk.1,hk.2.2⟩,hk.2.1⟩)) hg hat);replace ai:=q_ (Kd.R_after (ok:=(fun _=>True)) (kR_ ai.out (fun _ hk=>⟨trivial,hk⟩)) hg hat);replace aa:=q_ (bg_ aa.out hg (Kd.R_ne aM.out aa.out (by decide)));replace ae:=q_ (bg_ ae.out hg (Kd.R_ne aM.out ae.out (by decide)));replace HL448_0:=q_ (Kd.R_after (ok:=(fun k_=>some k_≠(u10:Value).ownBlock∧some k_≠(.slice (some bM) ag.length aC:Value).ownBlock∧some k_≠(.slice ax ak.length ay:Value).ownBlock)) (kR_ HL448_0.out (fun _ hk=>⟨⟨hk.1.1,⟨hk.2,hk.1.2.2⟩⟩,hk.1.2.1⟩)) hg hat);replace HB:=q_ (hb);have cF:=q_ (ho);clear aM ho hb hg hat))
                      repeat (go_quiet (first | ((with_reducible refine gate_builtin (b:= .append) (xs:= #[.tmp 68, .tmp 77]) rfl ?_);(try (refine gate_guard (by rfl) ?_;dsimp only));at_builtin;refine Kd.R_append (Kd.int .i64) (w0:=w) w.heap.size rfl (.tmp 68) (.tmp 77) 25 2 (.int .i64 0) 8 rfl Try.underlying25 info2 rfl (by decide) (by omega) u12 aK (rd (rd_L2 ag av) aD) [.int .i64 (rd (rd_L2 ag av) aD)] (fun k_=>some k_≠(.slice ax ak.length ay:Value).ownBlock) (fun _=>False) rfl rfl ?aP (fun _ hk=>hk.elim) ?aF ?aO ?aB ?aS ?aL ?_;(case aP=>exact rfl);(case aB=>exact hb_);(case aF=>exact(fun k_ hk=>Kd.fresh' (Kd.R_lt (ro_ ai.out)) k_ hk));(case aO=>exact(ro_ aM.out));(case aS=>exact bz_);(case aL=>have:=cD.out;omega);intro dC w51 ho hb hg hat;rw [← cE.out] at ho;replace az:=q_ (Kd.S_after (ok:=(fun k_=>some k_≠(.slice (some bM) ag.length aC:Value).ownBlock∧some k_≠(.slice ax ak.length ay:Value).ownBlock)) (kS_ az.out (fun _ hk=>⟨⟨hk.2.1,hk.2.2⟩,hk.1⟩)) hg hat);replace ah:=q_ (Kd.S_after (ok:=(fun k_=>some k_≠(u10:Value).ownBlock∧some k_≠(.slice ax ak.length ay:Value).ownBlock)) (kS_ ah.out (fun _ hk=>⟨⟨hk.1,hk.2.2⟩,hk.2.1⟩)) hg hat);replace ai:=q_ (Kd.R_after (ok:=(fun _=>True)) (kR_ ai.out (fun _ hk=>⟨trivial,hk⟩)) hg hat);replace aa:=q_ (bg_ aa.out hg (Kd.R_ne aM.out aa.out (by decide)));replace ae:=q_ (bg_ ae.out hg (Kd.R_ne aM.out ae.out (by decide)));replace HL448_0:=q_ (Kd.R_after (ok:=(fun k_=>some k_≠(u10:Value).ownBlock∧some k_≠(.slice (some bM) ag.length aC:Value).ownBlock∧some k_≠(.slice ax ak.length ay:Value).ownBlock)) (kR_ HL448_0.out (fun _ hk=>⟨⟨hk.1.1,⟨hk.2,hk.1.2.2⟩⟩,hk.1.2.1⟩)) hg hat);replace HB:=q_ (hb);have cF:=q_ (ho);clear aM ho hb hg hat));try go_wp2_with (first | ((with_reducible refine gate_builtin (b:= .append) (xs:= #[.tmp 68, .tmp 77]) rfl ?_);(try (refine gate_guard (by rfl) ?_;dsimp only));at_builtin;refine Kd.R_append (Kd.int .i64) (w0:=w) w.heap.size rfl (.tmp 68) (.tmp 77) 25 2 (.int .i64 0) 8 rfl Try.underlying25 info2 rfl (by decide) (by omega) u12 aK (rd (rd_L2 ag av) aD) [.int .i64 (rd (rd_L2 ag av) aD)] (fun k_=>some k_≠(.slice ax ak.length ay:Value).ownBlock) (fun _=>False) rfl rfl ?aP (fun _ hk=>hk.elim) ?aF ?aO ?aB ?aS ?aL ?_;(case aP=>exact rfl);(case aB=>exact hb_);(case aF=>exact(fun k_ hk=>Kd.fresh' (Kd.R_lt (ro_ ai.out)) k_ hk));(case aO=>exact(ro_ aM.out));(case aS=>exact bz_);(case aL=>have:=cD.out;omega);intro dC w51 ho hb hg hat;rw [← cE.out] at ho;replace az:=q_ (Kd.S_after (ok:=(fun k_=>some k_≠(.slice (some bM) ag.length aC:Value).ownBlock∧some k_≠(.slice ax ak.length ay:Value).ownBlock)) (kS_ az.out (fun _ hk=>⟨⟨hk.2.1,hk.2.2⟩,hk.1⟩)) hg hat);replace ah:=q_ (Kd.S_after (ok:=(fun k_=>some k_≠(u10:Value).ownBlock∧some k_≠(.slice ax ak.length ay:Value).ownBlock)) (kS_ ah.out (fun _ hk=>⟨⟨hk.1,hk.2.2⟩,hk.2.1⟩)) hg hat);replace ai:=q_ (Kd.R_after (ok:=(fun _=>True)) (kR_ ai.out (fun _ hk=>⟨trivial,hk⟩)) hg hat);replace aa:=q_ (bg_ aa.out hg (Kd.R_ne aM.out aa.out (by decide)));replace ae:=q_ (bg_ ae.out hg (Kd.R_ne aM.out ae.out (by decide)));replace HL448_0:=q_ (Kd.R_after (ok:=(fun k_=>some k_≠(u10:Value).ownBlock∧some k_≠(.slice (some bM) ag.length aC:Value).ownBlock∧some k_≠(.slice ax ak.length ay:Value).ownBlock)) (kR_ HL448_0.out (fun _ hk=>⟨⟨hk.1.1,⟨hk.2,hk.1.2.2⟩⟩,hk.1.2.1⟩)) hg hat);replace HB:=q_ (hb);have cF:=q_ (ho);clear aM ho hb hg hat)))
                      go_roundg k4
                      case measure=>have:=HJ3.out;have:=HJ12.out;have:=HK3.out;have:=HK4.out;omega
                      case rel=>exact⟨(dB),(wrap64 (aD+1)),rs_,H',⟨by have:=HJ3.out;have:=HJ12.out;have:=HK3.out;have:=HK4.out;omega⟩,⟨kS_ az.out (fun _ hk=>⟨hk.2,⟨hk.1.1,hk.1.2⟩⟩)⟩,⟨ro_ cF.out⟩,⟨kS_ ah.out (fun _ hk=>⟨hk.1.1,⟨hk.2,hk.1.2⟩⟩)⟩,⟨kR_ ai.out (fun _ hk=>hk.2)⟩,⟨bk_⟩,⟨bk_⟩,⟨hb_⟩⟩
                     ·rw [if_neg c47] at H;exact absurd H (by simp)
                    ·rw [if_neg c46] at H;exact absurd H (by simp)
                   ·rw [if_neg c45] at H;exact absurd H (by simp)
                  ·rw [if_neg c44] at H;exact absurd H (by simp)
                 ·rw [if_neg c43] at H;exact absurd H (by simp)
                ·rw [if_neg c42] at H;have c42b0:=e3_ c42;have c42b1:=e4_ c42;have H':=q_ H;clear H;have fg:=aw.out;have fj:=aI.out;obtain⟨dY,dZ,d9,ed⟩:=c2_ aa;go_wp2
                 repeat (go_quiet (fail);try go_wp2)
                 go_roundg k4
                 case measure=>have:=HJ3.out;have:=HJ12.out;have:=HK3.out;have:=HK4.out;omega
                 case rel=>exact⟨(aK),(wrap64 (aD+1)),rs_,H',⟨by have:=HJ3.out;have:=HJ12.out;have:=HK3.out;have:=HK4.out;omega⟩,⟨so_ az.out⟩,⟨ro_ aM.out⟩,⟨so_ ah.out⟩,⟨ro_ ai.out⟩,⟨bk_⟩,⟨bk_⟩,⟨hb_⟩⟩
               ·rw [if_neg c40] at H;exact absurd H (by simp)
              ·rw [if_neg c38] at H;have c38b0:=decide_eq_false c38;clear c38
               by_cases c54:aN.length < 5864062014805
               ·rw [if_pos c54] at H;have cG:=q_ c54;clear c54;obtain⟨dD,hy⟩: ∃y_:List (List Int),y_=(aN++ [aK]):=⟨_,rfl⟩
                replace H:(spec_ComplementOf.l0 k4 a1 dD (wrap64 (av+1)) au aj aA ag ak)=some (r1,r2,r3):=hh_;have cH:=q_ hy;clear hy;have H':=q_ H;clear H;have fk:=aw.out;have fo:=aI.out;obtain⟨ek,ep,eu,ez⟩:=c2_ aa;obtain⟨bv,bw,dJ⟩:=Kd.R_slice aM.out;subst dJ
                go_wp2_with (first | ((with_reducible refine gate_builtin (b:= .append) (xs:= #[.tmp 79, .tmp 81]) rfl ?_);(try (refine gate_guard (by rfl) ?_;dsimp only));at_builtin;refine Kd.S_append (Kd.slice 2 (Kd.int .i64)) (w0:=w) w.heap.size rfl (.tmp 79) (.tmp 81) 24 25 (.slice none 0 0) 24 rfl Try.underlying24 info25 rfl (by decide) (by omega) u10 aN aK [.slice bv aK.length bw] (fun k_=>some k_≠(.slice aJ ag.length aC:Value).ownBlock∧some k_≠(.slice ax ak.length ay:Value).ownBlock) (fun k_=>some k_=(.slice bv aK.length bw:Value).ownBlock) rfl rfl ?aP (fun k_ hk_=>((Kd.R_mono (ok':=fun k_=>((fun k_=>some k_≠(.slice aJ ag.length aC:Value).ownBlock∧some k_≠(.slice ax ak.length ay:Value).ownBlock)) k_∧some k_≠(u10:Value).ownBlock) (Kd.R_apart' (Kd.R_apart' (aM.out) (Kd.S_typed ah.out) (by decide)) (Kd.S_typed az.out) (by decide)) (fun k_ hk=>⟨⟨hk.1.2,hk.1.1⟩,hk.2⟩))).1 k_ hk_.symm) ?aF ?aO ?aB ?aS ?aL ?_;(case aP=>exact Kd.M_row (Kd.R_mono (Kd.R_tight rfl (Kd.R_mono (ok':=fun k_=>((fun k_=>some k_≠(.slice aJ ag.length aC:Value).ownBlock∧some k_≠(.slice ax ak.length ay:Value).ownBlock)) k_∧some k_≠(u10:Value).ownBlock) (Kd.R_apart' (Kd.R_apart' (aM.out) (Kd.S_typed ah.out) (by decide)) (Kd.S_typed az.out) (by decide)) (fun k_ hk=>⟨⟨hk.1.2,hk.1.1⟩,hk.2⟩))) (fun _ h_=>h_)));(case aB=>exact hb_);(case aF=>exact(fun k_ hk=>⟨Kd.fresh' (Kd.S_lt (so_ ah.out)) k_ hk,Kd.fresh' (Kd.R_lt (ro_ ai.out)) k_ hk⟩));(case aO=>exact(kS_ az.out (fun k_ hk=>⟨⟨hk.2.1,hk.2.2⟩,fun e_=>hk.1 e_⟩)));(case aS=>exact bz_);(case aL=>have:=cG.out;omega);intro dE w57 ho hb hg hat;rw [← cH.out] at ho;replace ah:=q_ (Kd.S_after (ok:=(fun k_=>some k_≠(.slice bv aK.length bw:Value).ownBlock∧some k_≠(.slice ax ak.length ay:Value).ownBlock)) (kS_ ah.out (fun _ hk=>⟨⟨hk.2.1,hk.2.2⟩,hk.1⟩)) hg hat);replace ai:=q_ (Kd.R_over' (ro_ ai.out) (Kd.S_typed (so_ az.out)) (by decide) hg);replace aa:=q_ (bg_ aa.out hg (Kd.S_ne az.out aa.out (by decide)));replace ae:=q_ (bg_ ae.out hg (Kd.S_ne az.out ae.out (by decide)));replace HB:=q_ (hb);have cI:=q_ (ho);clear az aM ho hb hg hat))
                repeat (go_quiet (first | ((with_reducible refine gate_builtin (b:= .append) (xs:= #[.tmp 79, .tmp 81]) rfl ?_);(try (refine gate_guard (by rfl) ?_;dsimp only));at_builtin;refine Kd.S_append (Kd.slice 2 (Kd.int .i64)) (w0:=w) w.heap.size rfl (.tmp 79) (.tmp 81) 24 25 (.slice none 0 0) 24 rfl Try.underlying24 info25 rfl (by decide) (by omega) u10 aN aK [.slice bv aK.length bw] (fun k_=>some k_≠(.slice aJ ag.length aC:Value).ownBlock∧some k_≠(.slice ax ak.length ay:Value).ownBlock) (fun k_=>some k_=(.slice bv aK.length bw:Value).ownBlock) rfl rfl ?aP (fun k_ hk_=>((Kd.R_mono (ok':=fun k_=>((fun k_=>some k_≠(.slice aJ ag.length aC:Value).ownBlock∧some k_≠(.slice ax ak.length ay:Value).ownBlock)) k_∧some k_≠(u10:Value).ownBlock) (Kd.R_apart' (Kd.R_apart' (aM.out) (Kd.S_typed ah.out) (by decide)) (Kd.S_typed az.out) (by decide)) (fun k_ hk=>⟨⟨hk.1.2,hk.1.1⟩,hk.2⟩))).1 k_ hk_.symm) ?aF ?aO ?aB ?aS ?aL ?_;(case aP=>exact Kd.M_row (Kd.R_mono (Kd.R_tight rfl (Kd.R_mono (ok':=fun k_=>((fun k_=>some k_≠(.slice aJ ag.length aC:Value).ownBlock∧some k_≠(.slice ax ak.length ay:Value).ownBlock)) k_∧some k_≠(u10:Value).ownBlock) (Kd.R_apart' (Kd.R_apart' (aM.out) (Kd.S_typed ah.out) (by decide)) (Kd.S_typed az.out) (by decide)) (fun k_ hk=>⟨⟨hk.1.2,hk.1.1⟩,hk.2⟩))) (fun _ h_=>h_)));(case aB=>exact hb_);(case aF=>exact(fun k_ hk=>⟨Kd.fresh' (Kd.S_lt (so_ ah.out)) k_ hk,Kd.fresh' (Kd.R_lt (ro_ ai.out)) k_ hk⟩));(case aO=>exact(kS_ az.out (fun k_ hk=>⟨⟨hk.2.1,hk.2.2⟩,fun e_=>hk.1 e_⟩)));(case aS=>exact bz_);(case aL=>have:=cG.out;omega);intro dE w57 ho hb hg hat;rw [← cH.out] at ho;replace ah:=q_ (Kd.S_after (ok:=(fun k_=>some k_≠(.slice bv aK.length bw:Value).ownBlock∧some k_≠(.slice ax ak.length ay:Value).ownBlock)) (kS_ ah.out (fun _ hk=>⟨⟨hk.2.1,hk.2.2⟩,hk.1⟩)) hg hat);replace ai:=q_ (Kd.R_over' (ro_ ai.out) (Kd.S_typed (so_ az.out)) (by decide) hg);replace aa:=q_ (bg_ aa.out hg (Kd.S_ne az.out aa.out (by decide)));replace ae:=q_ (bg_ ae.out hg (Kd.S_ne az.out ae.out (by decide)));replace HB:=q_ (hb);have cI:=q_ (ho);clear az aM ho hb hg hat));try go_wp2_with (first | ((with_reducible refine gate_builtin (b:= .append) (xs:= #[.tmp 79, .tmp 81]) rfl ?_);(try (refine gate_guard (by rfl) ?_;dsimp only));at_builtin;refine Kd.S_append (Kd.slice 2 (Kd.int .i64)) (w0:=w) w.heap.size rfl (.tmp 79) (.tmp 81) 24 25 (.slice none 0 0) 24 rfl Try.underlying24 info25 rfl (by decide) (by omega) u10 aN aK [.slice bv aK.length bw] (fun k_=>some k_≠(.slice aJ ag.length aC:Value).ownBlock∧some k_≠(.slice ax ak.length ay:Value).ownBlock) (fun k_=>some k_=(.slice bv aK.length bw:Value).ownBlock) rfl rfl ?aP (fun k_ hk_=>((Kd.R_mono (ok':=fun k_=>((fun k_=>some k_≠(.slice aJ ag.length aC:Value).ownBlock∧some k_≠(.slice ax ak.length ay:Value).ownBlock)) k_∧some k_≠(u10:Value).ownBlock) (Kd.R_apart' (Kd.R_apart' (aM.out) (Kd.S_typed ah.out) (by decide)) (Kd.S_typed az.out) (by decide)) (fun k_ hk=>⟨⟨hk.1.2,hk.1.1⟩,hk.2⟩))).1 k_ hk_.symm) ?aF ?aO ?aB ?aS ?aL ?_;(case aP=>exact Kd.M_row (Kd.R_mono (Kd.R_tight rfl (Kd.R_mono (ok':=fun k_=>((fun k_=>some k_≠(.slice aJ ag.length aC:Value).ownBlock∧some k_≠(.slice ax ak.length ay:Value).ownBlock)) k_∧some k_≠(u10:Value).ownBlock) (Kd.R_apart' (Kd.R_apart' (aM.out) (Kd.S_typed ah.out) (by decide)) (Kd.S_typed az.out) (by decide)) (fun k_ hk=>⟨⟨hk.1.2,hk.1.1⟩,hk.2⟩))) (fun _ h_=>h_)));(case aB=>exact hb_);(case aF=>exact(fun k_ hk=>⟨Kd.fresh' (Kd.S_lt (so_ ah.out)) k_ hk,Kd.fresh' (Kd.R_lt (ro_ ai.out)) k_ hk⟩));(case aO=>exact(kS_ az.out (fun k_ hk=>⟨⟨hk.2.1,hk.2.2⟩,fun e_=>hk.1 e_⟩)));(case aS=>exact bz_);(case aL=>have:=cG.out;omega);intro dE w57 ho hb hg hat;rw [← cH.out] at ho;replace ah:=q_ (Kd.S_after (ok:=(fun k_=>some k_≠(.slice bv aK.length bw:Value).ownBlock∧some k_≠(.slice ax ak.length ay:Value).ownBlock)) (kS_ ah.out (fun _ hk=>⟨⟨hk.2.1,hk.2.2⟩,hk.1⟩)) hg hat);replace ai:=q_ (Kd.R_over' (ro_ ai.out) (Kd.S_typed (so_ az.out)) (by decide) hg);replace aa:=q_ (bg_ aa.out hg (Kd.S_ne az.out aa.out (by decide)));replace ae:=q_ (bg_ ae.out hg (Kd.S_ne az.out ae.out (by decide)));replace HB:=q_ (hb);have cI:=q_ (ho);clear az aM ho hb hg hat)))
                go_roundg k4
                case measure=>have:=HJ3.out;have:=HJ12.out;have:=HK3.out;have:=HK4.out;omega
                case rel=>exact⟨(dD),(wrap64 (av+1)),rs_,H',⟨by have:=HJ3.out;have:=HJ12.out;have:=HK3.out;have:=HK4.out;omega⟩,⟨so_ cI.out⟩,⟨kS_ ah.out (fun _ hk=>⟨hk.2,hk.1.2⟩)⟩,⟨kR_ ai.out (fun _ hk=>trivial)⟩,⟨bk_⟩,⟨bk_⟩,⟨hb_⟩⟩
               ·rw [if_neg c54] at H;exact absurd H (by simp)
          ·rw [if_neg c29] at H;exact absurd H (by simp)
         ·rw [if_neg c27] at H;have c27b0:=decide_eq_false c27;clear c27;simp only [Option.some.injEq,Prod.mk.injEq] at H;obtain⟨rfl,rfl,rfl⟩:=H;have fp:=aw.out;have fq:=aI.out;obtain⟨eB,eC,eF,eG⟩:=c2_ aa;obtain⟨eH,eI,eJ,eK,eL,eM⟩:=c3_ ae;go_wp2
          repeat (go_quiet (fail);try go_wp2)
          go_ret3
          exact⟨_,ew_,kS_ az.out (fun _ hk=>trivial),hb_⟩
      ·replace c17:=Bool.eq_false_iff.mpr c17;subst c17;have H1:(some (([]:List (List Int)),0,5))=some (r1,r2,r3):=by rw [if_neg (show ¬ (false=true) by decide)] at H;exact H
       clear H;have H:=H1;clear H1;simp only [Option.some.injEq,Prod.mk.injEq] at H;obtain⟨rfl,rfl,rfl⟩:=H;obtain⟨eO,eP,eQ,eS⟩:=c2_ aa
       go_wp2_with (first | (go_at_call 49;(with_reducible refine(spec_l04Pivot.calls kj12 _ _ au _ _ aj a1 aA ag ak false _ ?aX ?aY ?aZ ?a9 A16.out).mono ?_);(case aX=>exact cb_ HR0_0.out HB.out);(case aY=>exact HC0_0.out);(case aZ=>exact cb_ HR0_1.out HB.out);(case a9=>exact HC0_1.out);rintro e w63 ⟨bQ,bR,rfl,ho0,ho1,hb⟩;have aG:=q_ (Kd.S_lower ho0 bz_);have aH:=q_ (Kd.R_lower ho1 bz_);replace aa:=Bb_ aa hb;replace HB:=Bs_ hb;(try clear hb);(try clear hk);(try clear ho0);(try clear ho1)) | ((with_reducible refine gate_dst (N:=8) rfl ?_);(try (refine gate_guard (by rfl) ?_;dsimp only));refine be_ 8 #[.int .i64 0, .slice none 0 0, .slice none 0 0] 49 ?_;intro af hg w64 hbox hb;replace aG:=q_ (Kd.S_below (so_ aG.out) hb);replace aH:=Rb_ aH hb;have ae:=q_ (hbox);have bN:=gz_ w hg;have bO:=gz_ w hg;have aw:=lz_ hg aa;have aI:=mz_ hg aa;replace aa:=Bb_ aa hb;replace HB:=Bs_ hb;clear hb hbox hg;have cT:=aI.out;have cU:=aw.out;obtain⟨cf,cg,cm,cu,cz,cA⟩:=c3_ ae;obtain⟨dF,dG,bU⟩:=Kd.S_slice aG.out;subst bU;obtain⟨dH,dI,bV⟩:=Kd.R_slice aH.out;subst bV))
       repeat (go_quiet (first | (go_at_call 49;(with_reducible refine(spec_l04Pivot.calls kj12 _ _ au _ _ aj a1 aA ag ak false _ ?aX ?aY ?aZ ?a9 A16.out).mono ?_);(case aX=>exact cb_ HR0_0.out HB.out);(case aY=>exact HC0_0.out);(case aZ=>exact cb_ HR0_1.out HB.out);(case a9=>exact HC0_1.out);rintro e w63 ⟨bQ,bR,rfl,ho0,ho1,hb⟩;have aG:=q_ (Kd.S_lower ho0 bz_);have aH:=q_ (Kd.R_lower ho1 bz_);replace aa:=Bb_ aa hb;replace HB:=Bs_ hb;(try clear hb);(try clear hk);(try clear ho0);(try clear ho1)) | ((with_reducible refine gate_dst (N:=8) rfl ?_);(try (refine gate_guard (by rfl) ?_;dsimp only));refine be_ 8 #[.int .i64 0, .slice none 0 0, .slice none 0 0] 49 ?_;intro af hg w64 hbox hb;replace aG:=q_ (Kd.S_below (so_ aG.out) hb);replace aH:=Rb_ aH hb;have ae:=q_ (hbox);have bN:=gz_ w hg;have bO:=gz_ w hg;have aw:=lz_ hg aa;have aI:=mz_ hg aa;replace aa:=Bb_ aa hb;replace HB:=Bs_ hb;clear hb hbox hg;have cT:=aI.out;have cU:=aw.out;obtain⟨cf,cg,cm,cu,cz,cA⟩:=c3_ ae;obtain⟨dF,dG,bU⟩:=Kd.S_slice aG.out;subst bU;obtain⟨dH,dI,bV⟩:=Kd.R_slice aH.out;subst bV));try go_wp2_with (first | (go_at_call 49;(with_reducible refine(spec_l04Pivot.calls kj12 _ _ au _ _ aj a1 aA ag ak false _ ?aX ?aY ?aZ ?a9 A16.out).mono ?_);(case aX=>exact cb_ HR0_0.out HB.out);(case aY=>exact HC0_0.out);(case aZ=>exact cb_ HR0_1.out HB.out);(case a9=>exact HC0_1.out);rintro e w63 ⟨bQ,bR,rfl,ho0,ho1,hb⟩;have aG:=q_ (Kd.S_lower ho0 bz_);have aH:=q_ (Kd.R_lower ho1 bz_);replace aa:=Bb_ aa hb;replace HB:=Bs_ hb;(try clear hb);(try clear hk);(try clear ho0);(try clear ho1)) | ((with_reducible refine gate_dst (N:=8) rfl ?_);(try (refine gate_guard (by rfl) ?_;dsimp only));refine be_ 8 #[.int .i64 0, .slice none 0 0, .slice none 0 0] 49 ?_;intro af hg w64 hbox hb;replace aG:=q_ (Kd.S_below (so_ aG.out) hb);replace aH:=Rb_ aH hb;have ae:=q_ (hbox);have bN:=gz_ w hg;have bO:=gz_ w hg;have aw:=lz_ hg aa;have aI:=mz_ hg aa;replace aa:=Bb_ aa hb;replace HB:=Bs_ hb;clear hb hbox hg;have cT:=aI.out;have cU:=aw.out;obtain⟨cf,cg,cm,cu,cz,cA⟩:=c3_ ae;obtain⟨dF,dG,bU⟩:=Kd.S_slice aG.out;subst bU;obtain⟨dH,dI,bV⟩:=Kd.R_slice aH.out;subst bV)))
       go_ret3
       exact⟨_,ew_,by first | exact Kd.S_nil _ _ _ _ _ | exact Kd.N_nil _ _ _ _ _ | exact Kd.V_nil _ _ _ _ _ | exact Kd.Q_nil _ _ _ _ _ | exact Kd.R_nil _ _ _ _ _,hb_⟩
     ·rw [if_neg c15] at H;have c15b0:=e3_ c15;have c15b1:=e4_ c15;simp only [Option.some.injEq,Prod.mk.injEq] at H;obtain⟨rfl,rfl,rfl⟩:=H;go_wp2
      repeat (go_quiet (fail);try go_wp2)
      go_ret3
      exact⟨_,ew_,by first | exact Kd.S_nil _ _ _ _ _ | exact Kd.N_nil _ _ _ _ _ | exact Kd.V_nil _ _ _ _ _ | exact Kd.Q_nil _ _ _ _ _ | exact Kd.R_nil _ _ _ _ _,hb_⟩
end Go.Proofs.Ytbjljcpngbhkeaa.Pr
end
section
namespace Go.Proofs.Ytbjljcpngbhkeaa.Pp
open Go.RowKit Wz.PrintWords Wz.PrintMore Ma Pr Dt Bz Un Cz Pb Mn Sv Pv La Hm
def nb (s:Int) (i:Nat):Bool:=!bB s i
theorem sel_succ (P:Nat→Bool) (i:Nat):sel (i+1) P=if P i=true then sel i P++ [i] else sel i P:=by
 unfold sel;rw [List.range_succ,List.filter_append]
 by_cases b:P i=true
 ·simp [b]
 ·simp [b]
theorem sel_len (P:Nat→Bool) (i:Nat):(sel i P).length≤i:=by unfold sel;have:=List.length_filter_le P (List.range i);simpa using this
theorem sel_congr {n:Nat} {P Q:Nat→Bool} (h: ∀i,i < n→P i=Q i):sel n P=sel n Q:=by
 unfold sel
 refine List.filter_congr (fun i hi=>h i (List.mem_range.1 hi))
theorem bB_rest {n:Nat} (hn:n≤5) {s:Int} (hs:SetIn n s) {i:Nat} (hi:i < n):bB (((2 ^ n:Nat):Int) - 1 - s) i=nb s i:=by
 obtain⟨k,rfl⟩:=Int.eq_ofNat_of_zero_le hs.1
 have h1:=hs.2
 have hp:1≤2 ^ n:=Nat.one_le_two_pow
 have hk:k < 2 ^ n:=by omega
 rw [show ((2 ^ n:Nat):Int) - 1 - (k:Int)=((2 ^ n - (k+1):Nat):Int) from by omega]
 unfold nb
 rw [bB_nat _ _ (by omega),bB_nat _ _ (by omega),Nat.testBit_two_pow_sub_succ hk]
 simp [hi]
theorem partL_len (R:List (List Int)) (I J:List Nat):(partL R I J).length=I.length:=by simp [partL]
section
variable {n:Nat} (hn:n≤5) (R:List (List Int)) (hR:R.length=n) (hr: ∀i,i < n→(R.getD i []).length=n) (s:Int)
include hn hR hr
theorem spec_rest (M:List (List Int)) (Q:List Int) (hQ:Q.length=n) (den:Int) (S:List Int): ∀q i,i+q=n→Ev (fun k=>spec_ComplementOf.l0 k s (partL R (sel i (nb s)) (sel n (nb s))) (i:Int) M Q den R S) (partL R (sel n (nb s)) (sel n (nb s)),den,0):=by
 intro q
 induction q with
 | zero=>
  intro i hi
  obtain rfl:i=n:=by omega
  exact evstep (fun k=>by rw [spec_ComplementOf.l0]) (evneg (by omega) (evc rfl))
 | succ q ih=>
  intro i hi
  have nx:=ih (i+1) (by omega)
  rw [sel_succ] at nx
  have hu (j:Nat) (hj:j < n):IntKind.u64.wrap (j:Int)=(j:Int):=u64w (by omega) (by omega)
  refine evstep (fun k=>by rw [spec_ComplementOf.l0]) (evpos (by omega) (evpos (by rw [hu i (by omega)];omega) ?_))
  rw [hu i (by omega),shr_and_one s (by omega),w64 (x:=(i:Int)+1) (by omega) (by omega)]
  have hl:=hr i (by omega)
  cases hb:bB s i with
  | true=>
   rw [if_neg (by simp [nb,hb])] at nx
   exact evpos (by simp) nx
  | false=>
   rw [if_pos (by simp [nb,hb])] at nx
   refine evneg (by simp) ?_
   have cols: ∀p c,c+p=n→Ev (fun k=>spec_ComplementOf.l1 k s (partL R (sel i (nb s)) (sel n (nb s))) (i:Int) ((sel c (nb s)).map fun j=>en R i j) (c:Int) M Q den R S) (partL R (sel n (nb s)) (sel n (nb s)),den,0):=by
    intro p
    induction p with
    | zero=>
     intro c hc
     obtain rfl:c=n:=by omega
     refine evstep (fun k=>by rw [spec_ComplementOf.l1]) (evneg (by omega) (evpos ?_ ?_))
     ·rw [partL_len];have:=sel_len (nb s) i;omega
     ·rw [w64 (x:=(i:Int)+1) (by omega) (by omega)]
      unfold partL at nx ⊢
      rw [List.map_append] at nx
      exact nx
    | succ p ihp=>
     intro c hc
     have nx2:=ihp (c+1) (by omega)
     rw [sel_succ] at nx2
     refine evstep (fun k=>by rw [spec_ComplementOf.l1]) (evpos (by omega) (evpos (by rw [hu c (by omega)];omega) ?_))
     rw [hu c (by omega),shr_and_one s (by omega),w64 (x:=(c:Int)+1) (by omega) (by omega),rdL1]
     cases hb2:bB s c with
     | true=>
      rw [if_neg (by simp [nb,hb2])] at nx2
      exact evneg (by simp) nx2
     | false=>
      rw [if_pos (by simp [nb,hb2]),List.map_append] at nx2
      refine evpos (by simp) (evpos (by omega) (evpos (by omega) (evpos (by omega) (evpos (by omega) (evpos (by rw [List.length_map];have:=sel_len (nb s) c;omega) ?_)))))
      rw [rd_nat]
      exact nx2
   exact cols n 0 (by omega)
end
theorem partL_few {n:Nat} (hn:n≤5) (R:List (List Int)) (P:Nat→Bool):Few (partL R (sel n P) (sel n P)):=by
 have:=sel_len P n
 refine⟨by rw [partL_len];omega,fun x hx=>?_⟩
 unfold partL at hx
 obtain⟨i,hi,rfl⟩:=List.mem_map.1 hx
 rw [List.length_map];omega
theorem pvR_getD {n i:Nat} (hi:i < n) (l:List (List Int)) (s:Int):((pvR n l s).getD i []).length=n:=by
 have e:=pvR_len n l s
 rw [List.getD_eq_getElem?_getD,List.getElem?_eq_getElem (by omega)]
 exact pvR_row n l s _ (List.getElem_mem (by omega))
theorem complement (M:List (List Int)) (Q:List Int) (s:Int) (hQ:Q.length≤1048576): ∃R:List (List Int) × Int × Int,Ev (fun k=>spec_ComplementOf.f k M Q s) R∧Ev (fun k=>impl_ComplementOf.f k M Q s) R∧Few R.1:=by
 have sc:=spec_code M Q s hQ
 have ic:=impl_code M Q s
 have ip:=impl_pivotOf_eq M Q s
 unfold impl_ComplementOf.f spec_ComplementOf.f
 by_cases c:codeS M Q s=0
 ·obtain⟨p,hs⟩:=code_zero c
  have hq:=p.len;have h5:=p.mat.n5
  have sp:=spec_pivot p.mat.sq p.mat.n5 s Q p.len (POK.small p)
  have hu:IntKind.u64.wrap (Q.length:Int)=(Q.length:Int):=u64w (by omega) (by omega)
  have ei:wrap64 (shl .i64 1 (Q.length:Int) - 1)=((2 ^ Q.length:Nat):Int) - 1:=pow_sub (by omega)
  have ea:impl_Problem_all.f M Q=some (shl .i64 1 (Q.length:Int)):=by unfold impl_Problem_all.f;rfl
  have hpw:1≤2 ^ Q.length:=Nat.one_le_two_pow
  have hp5:2 ^ Q.length≤2 ^ 5:=Nat.pow_le_pow_right (by decide) (by omega)
  by_cases z:s=((2 ^ Q.length:Nat):Int) - 1
  ·refine⟨([],0,2),evbind sc (evpos c (evpos (by omega) ?_)),evsome ic (evpos c (evsome ea ?_)),Few.nil⟩
   ·rw [hu,ei]
    refine evstep (fun k=>by rw [spec_ComplementOf.j0]) ?_
    refine evpos (by simp [z]) ?_
    refine evstep (fun k=>by rw [spec_ComplementOf.j1]) ?_
    exact evneg (by decide) (evc rfl)
   ·rw [ei]
    exact evpos z (evc rfl)
  ·have sj (Z:List (List Int) × Int × Int) (hZ:Ev (fun k=>spec_ComplementOf.j1 k s 0 M Q) Z):Ev (fun k=>(spec_l02Code.f k M Q s).bind fun aa=>(if aa=0 then(if 0≤(IntKind.u64.wrap ((Q.length:Int))) then(spec_ComplementOf.j0 k s aa (s==(wrap64 ((shl .i64 1 (IntKind.u64.wrap ((Q.length:Int)))) - 1))) M Q) else(none)) else(spec_ComplementOf.j0 k s aa false M Q))) Z:=by
    refine evbind sc (evpos c (evpos (by omega) ?_))
    rw [hu,ei,c]
    refine evstep (fun k=>by rw [spec_ComplementOf.j0]) ?_
    exact evneg (by simpa using z) hZ
   unfold pvO at ip
   rw [if_pos c] at ip
   unfold pvA at sp
   by_cases d:det M.length (Cm s M)=0
   ·rw [if_pos d] at ip sp
    refine⟨([],0,5),sj _ ?_,evsome ic (evpos c (evsome ea ?_)),Few.nil⟩
    ·refine evstep (fun k=>by rw [spec_ComplementOf.j1]) ?_
     exact evpos rfl (evbind sp (evneg (by simp) (evc rfl)))
    ·rw [ei]
     exact evneg z (evbind ip (evneg (by simp) (evc rfl)))
   ·rw [if_neg d] at ip sp
    refine⟨(partL (pvR M.length M s) (sel M.length (nb s)) (sel M.length (nb s)),ab (det M.length (Cm s M)),0),sj _ ?_,evsome ic (evpos c (evsome ea ?_)),partL_few h5 _ _⟩
    ·refine evstep (fun k=>by rw [spec_ComplementOf.j1]) ?_
     refine evpos rfl (evbind sp (evpos rfl ?_))
     exact spec_rest h5 (pvR M.length M s) (pvR_len _ _ _) (fun i hi=>pvR_getD hi M s) s M Q hq (ab (det M.length (Cm s M))) (pvS M.length M s Q) M.length 0 (by omega)
    ·rw [ei]
     refine evneg z (evbind ip (evpos rfl (evsome ea ?_)))
     rw [ei]
     have h2:=hs.2;have h0:=hs.1
     have ew:wrap64 (((2 ^ Q.length:Nat):Int) - 1 - s)=((2 ^ Q.length:Nat):Int) - 1 - s:=w64 (by omega) (by omega)
     rw [ew]
     have ht:=impl_part_eq' h5 (pvR_len M.length M s) (fun i hi=>pvR_getD hi M s) (((2 ^ Q.length:Nat):Int) - 1 - s)
     rw [show sel M.length (bB (((2 ^ Q.length:Nat):Int) - 1 - s))=sel M.length (nb s) from sel_congr (fun i hi=>bB_rest (n:=Q.length) (by omega) hs (by omega))] at ht
     exact evbind ht (evc rfl)
 ·refine⟨([],0,codeS M Q s),evbind sc (evneg c ?_),evsome ic (evneg c (evc rfl)),Few.nil⟩
  refine evstep (fun k=>by rw [spec_ComplementOf.j0]) ?_
  refine evneg (by simp) ?_
  refine evstep (fun k=>by rw [spec_ComplementOf.j1]) ?_
  exact evneg c (evc rfl)
end Go.Proofs.Ytbjljcpngbhkeaa.Pp
end
section

end
section
namespace Go.Proofs.Ytbjljcpngbhkeaa.Mn
open Go.RowKit Wz.PrintWords Wz.PrintMore Ma Pr Dt Bz Bd Un Cz
theorem det_f {n:Nat} {l:List (List Int)} (hn:n≤5) (hl:l.length=n) (hr: ∀x ∈ l,x.length=n) (hs:Sd.SB n (en l)):impl_determinant.f l=some (det n (en l)):=by
 unfold impl_determinant.f
 rw [if_pos ⟨by omega,fun x hx=>by rw [hr x hx,hl]⟩,hl]
 obtain⟨k,hk⟩:=hs
 congr 1
 exact dgo_det hn (k:=k) (en l) hk
section
variable {n:Nat} {l:List (List Int)} (h:Sq n l) (hn:n≤5) (s:Int)
include h hn
theorem minor_eq:Ev (fun k=>impl_minor.f k l s) (det (sel n (bB s)).length (subm (sel n (bB s)) (en l))):=by
 have sl:(sel n (bB s)).length≤n:=by unfold sel;have:=List.length_filter_le (bB s) (List.range n);simpa using this
 have hsel (i:Nat) (hi:i < (sel n (bB s)).length):(sel n (bB s)).getD i 0 < n:=by
  rw [List.getD_eq_getElem?_getD,List.getElem?_eq_getElem hi]
  exact List.mem_range.1 (List.mem_filter.1 (List.getElem_mem hi)).1
 have he (i j:Nat) (hi:i < (sel n (bB s)).length) (hj:j < (sel n (bB s)).length):en (partL l (sel n (bB s)) (sel n (bB s))) i j=subm (sel n (bB s)) (en l) i j:=by
  show ((partL l (sel n (bB s)) (sel n (bB s))).getD i []).getD j 0=_
  unfold partL subm
  simp [hi,hj]
 unfold impl_minor.f
 refine evbind (impl_part_eq h hn s) ?_
 refine evc ?_
 rw [det_f (n:=(sel n (bB s)).length) (by omega) (by simp [partL]) (fun x hx=>by
  obtain⟨i,_,rfl⟩:=List.mem_map.1 hx
  simp) ⟨0,fun i j hi hj=>by
   rw [he i j hi hj]
   have:=h.num _ _ (hsel i hi) (hsel j hj)
   unfold subm
   split <;> omega⟩]
 exact congrArg some (det_congr he)
end
end Go.Proofs.Ytbjljcpngbhkeaa.Mn
end
section
namespace Go.Proofs.Ytbjljcpngbhkeaa.Pp
open Go.RowKit Wz.PrintWords Wz.PrintMore Ma Pr Dt Bz Un Cz Pb Mn Sv Pv Pvb
section
variable {n:Nat} (hn:n≤5) (R:List (List Int)) (hR:R.length=n) (hr: ∀i,i < n→(R.getD i []).length=n) (s:Int)
include hn hR hr
theorem spec_part_loop: ∀q i,i+q=n→Ev (fun k=>spec_l01Part.l0 k R s (partL R (sel i (bB s)) (sel n (bB s))) (i:Int)) (partL R (sel n (bB s)) (sel n (bB s))):=by
 intro q
 induction q with
 | zero=>
  intro i hi
  obtain rfl:i=n:=by omega
  exact evstep (fun k=>by rw [spec_l01Part.l0]) (evneg (by omega) (evc rfl))
 | succ q ih=>
  intro i hi
  have nx:=ih (i+1) (by omega)
  rw [sel_succ] at nx
  have hu (j:Nat) (hj:j < n):IntKind.u64.wrap (j:Int)=(j:Int):=u64w (by omega) (by omega)
  refine evstep (fun k=>by rw [spec_l01Part.l0]) (evpos (by omega) (evpos (by rw [hu i (by omega)];omega) ?_))
  rw [hu i (by omega),shr_and_one s (by omega),w64 (x:=(i:Int)+1) (by omega) (by omega)]
  have hl:=hr i (by omega)
  cases hb:bB s i with
  | false=>
   rw [if_neg (by simp [hb])] at nx
   exact evpos (by simp) nx
  | true=>
   rw [if_pos (by simp [hb])] at nx
   refine evneg (by simp) ?_
   have cols: ∀p c,c+p=n→Ev (fun k=>spec_l01Part.l1 k R s (partL R (sel i (bB s)) (sel n (bB s))) (i:Int) ((sel c (bB s)).map fun j=>en R i j) (c:Int)) (partL R (sel n (bB s)) (sel n (bB s))):=by
    intro p
    induction p with
    | zero=>
     intro c hc
     obtain rfl:c=n:=by omega
     refine evstep (fun k=>by rw [spec_l01Part.l1]) (evneg (by omega) (evpos ?_ ?_))
     ·rw [partL_len];have:=sel_len (bB s) i;omega
     ·rw [w64 (x:=(i:Int)+1) (by omega) (by omega)]
      unfold partL at nx ⊢
      rw [List.map_append] at nx
      exact nx
    | succ p ihp=>
     intro c hc
     have nx2:=ihp (c+1) (by omega)
     rw [sel_succ] at nx2
     refine evstep (fun k=>by rw [spec_l01Part.l1]) (evpos (by omega) (evpos (by rw [hu c (by omega)];omega) ?_))
     rw [hu c (by omega),shr_and_one s (by omega),w64 (x:=(c:Int)+1) (by omega) (by omega),rdL1]
     cases hb2:bB s c with
     | false=>
      rw [if_neg (by simp [hb2])] at nx2
      exact evneg (by simp) nx2
     | true=>
      rw [if_pos (by simp [hb2]),List.map_append] at nx2
      refine evpos (by simp) (evpos (by omega) (evpos (by omega) (evpos (by omega) (evpos (by omega) (evpos (by rw [List.length_map];have:=sel_len (bB s) c;omega) ?_)))))
      rw [rd_nat]
      exact nx2
   exact cols n 0 (by omega)
theorem spec_part:Ev (fun k=>spec_l01Part.f k R s) (partL R (sel n (bB s)) (sel n (bB s))):=by
 unfold spec_l01Part.f
 exact spec_part_loop hn R hR hr s n 0 (by omega)
end
def mi (M:List (List Int)) (s:Int):Int:=det (sel M.length (bB s)).length (subm (sel M.length (bB s)) (en M))
theorem sel_lt {n i:Nat} {P:Nat→Bool} (hi:i < (sel n P).length):(sel n P).getD i 0 < n:=by
 rw [List.getD_eq_getElem?_getD,List.getElem?_eq_getElem hi]
 exact List.mem_range.1 (List.mem_filter.1 (List.getElem_mem hi)).1
theorem part_en (M:List (List Int)) (L:List Nat) {i j:Nat} (hi:i < L.length) (hj:j < L.length):en (partL M L L) i j=subm L (en M) i j:=by
 show ((partL M L L).getD i []).getD j 0=_
 unfold partL subm
 simp [hi,hj]
theorem mi_sb {M:List (List Int)} (p:MatOK M) (s:Int):Sd.SB (sel M.length (bB s)).length (subm (sel M.length (bB s)) (en M)):=⟨0,fun i j hi hj=>by
 have:=p.sq.num _ _ (sel_lt hi) (sel_lt hj)
 unfold subm
 split <;> omega⟩
theorem mi_b {M:List (List Int)} (p:MatOK M) (s:Int): -1920000000≤mi M s∧mi M s≤1920000000:=Sd.SB.det (mi_sb p s) (by have:=sel_len (bB s) M.length;have:=p.n5;omega)
theorem spec_mi {M:List (List Int)} (p:MatOK M) (s:Int):Ev (fun k=>spec_l01Det.f k (partL M (sel M.length (bB s)) (sel M.length (bB s)))) (mi M s):=by
 have hl:=sel_len (bB s) M.length
 have h5:=p.n5
 have:=Sd.spec_det (sel M.length (bB s)).length (partL M (sel M.length (bB s)) (sel M.length (bB s))) (by omega) (by simp [partL]) (fun x hx=>by
  obtain⟨i,_,rfl⟩:=List.mem_map.1 hx
  simp) (by
   obtain⟨q,hq⟩:=mi_sb p s
   refine⟨q,fun i j hi hj=>?_⟩
   have e:=part_en M (sel M.length (bB s)) hi hj
   have h:=hq i j hi hj
   rw [← e] at h
   exact h)
 have e:det (sel M.length (bB s)).length (Sd.en (partL M (sel M.length (bB s)) (sel M.length (bB s))))=mi M s:=det_congr (fun i j hi hj=>part_en M _ hi hj)
 rw [e] at this
 exact this
theorem impl_mi {M:List (List Int)} (p:MatOK M) (s:Int):Ev (fun k=>impl_minor.f k M s) (mi M s):=minor_eq p.sq p.n5 s
theorem isSet_eq {n:Nat} (hn:n≤5) (s:Int) [Decidable (SetIn n s)]:impl_isSet.f s (n:Int)=some (decide (SetIn n s)):=by
 unfold impl_isSet.f
 rw [if_pos (by omega),pow_sub (by omega),iin_eq,Option.bind_some]
 congr 1
 by_cases c:0≤s∧s≤((2 ^ n:Nat):Int) - 1
 ·rw [decide_eq_true c,decide_eq_true (show SetIn n s from c)]
 ·rw [decide_eq_false c,decide_eq_false (show ¬ SetIn n s from c)]
theorem isSet_in {n:Nat} (hn:n≤5) {s:Int} (h:SetIn n s):impl_isSet.f s (n:Int)=some true:=by
 classical
 rw [isSet_eq hn s,decide_eq_true h]
theorem isMat_ok {M:List (List Int)} (p:MatOK M):impl_IsMatrix.f M=some true:=by
 classical
 have:=Pb.impl_mat M
 rw [this,decide_eq_true p]
theorem codeS_in {M:List (List Int)} {Q:List Int} {s:Int} (p:POK M Q) (h:SetIn Q.length s):codeS M Q s=0:=by unfold codeS;rw [if_pos p,if_pos h]
theorem codeS_out {M:List (List Int)} {Q:List Int} {s:Int} (p:POK M Q) (h: ¬ SetIn Q.length s):codeS M Q s=2:=by unfold codeS;rw [if_pos p,if_neg h]
theorem codeS_bad {M:List (List Int)} {Q:List Int} {s:Int} (p: ¬ POK M Q):codeS M Q s=1:=by unfold codeS;rw [if_neg p]
noncomputable def pmO (M:List (List Int)) (Q:List Int) (s t:Int):Int × Int × Int:=if codeS M Q s=0 then(if codeS M Q t=0 then(if mi M s=0 then(0,0,5) else(mi M (Go.bits .xor .i64 s t),mi M s,0)) else(0,0,codeS M Q t)) else(0,0,codeS M Q s)
theorem impl_pm (M:List (List Int)) (Q:List Int) (s t:Int):Ev (fun k=>impl_PivotMinor.f k M Q s t) (pmO M Q s t):=by
 classical
 have is:=Pb.impl_is M Q (decide (POK M Q)) (by simp)
 unfold impl_PivotMinor.f pmO
 by_cases p:POK M Q
 ·have hq:=p.len;have h5:=p.mat.n5
  refine evsome is (evpos (by simpa using p) (evsome (isSet_eq (by omega) s) ?_))
  by_cases a:SetIn Q.length s
  ·rw [codeS_in p a,if_pos rfl]
   refine evpos (decide_eq_true a) (evsome (isSet_eq (by omega) t) ?_)
   by_cases b:SetIn Q.length t
   ·rw [codeS_in p b,if_pos rfl]
    refine evpos (decide_eq_true b) (evbind (impl_mi p.mat s) ?_)
    by_cases d:mi M s=0
    ·rw [if_pos d];exact evpos d (evc rfl)
    ·rw [if_neg d];exact evneg d (evbind (impl_mi p.mat _) (evc rfl))
   ·rw [codeS_out p b,if_neg (by decide)]
    exact evneg (by simpa using b) (evc rfl)
  ·rw [codeS_out p a,if_neg (by decide)]
   exact evneg (by simpa using a) (evc rfl)
 ·rw [codeS_bad p,if_neg (by decide)]
  exact evsome is (evneg (by simpa using p) (evc rfl))
theorem spec_pm (M:List (List Int)) (Q:List Int) (s t:Int) (hQ:Q.length≤1048576):Ev (fun k=>spec_PivotMinor.f k M Q s t) (pmO M Q s t):=by
 have s1:=spec_code M Q s hQ
 have s2:=spec_code M Q t hQ
 unfold spec_PivotMinor.f pmO
 refine evbind s1 ?_
 by_cases c1:codeS M Q s=0
 ·rw [if_pos c1]
  refine evpos c1 (evbind s2 ?_)
  refine evstep (fun k=>by rw [spec_PivotMinor.j0]) ?_
  by_cases c2:codeS M Q t=0
  ·rw [if_pos c2]
   obtain⟨p,hs⟩:=code_zero c1
   have hp (x:Int):=spec_part p.mat.n5 M rfl p.mat.sq.row x
   refine evpos c2 (evbind (hp s) (evbind (spec_mi p.mat s) ?_))
   by_cases d:mi M s=0
   ·rw [if_pos d];exact evpos d (evc rfl)
   ·rw [if_neg d];exact evneg d (evbind (hp _) (evbind (spec_mi p.mat _) (evc rfl)))
  ·rw [if_neg c2];exact evneg c2 (evc rfl)
 ·rw [if_neg c1]
  refine evneg c1 (evstep (fun k=>by rw [spec_PivotMinor.j0]) ?_)
  exact evneg c1 (evc rfl)
theorem sign_xor (P T:Nat→Bool): ∀n,(-1:Int) ^ (sel n P).length*(-1) ^ (sel n T).length=(-1) ^ (sel n (fun k=>xor (P k) (T k))).length:=by
 intro n
 induction n with
 | zero=>rfl
 | succ n ih=>
  rw [sel_succ,sel_succ,sel_succ]
  by_cases p:P n=true
  ·by_cases t:T n=true
   ·rw [if_pos p,if_pos t,if_neg (by simp [p,t]),List.length_append,List.length_append, ← ih]
    simp only [List.length_singleton,Int.pow_succ]
    generalize (-1:Int) ^ (sel n P).length=x
    generalize (-1:Int) ^ (sel n T).length=y
    rw [Int.mul_neg_one,Int.mul_neg_one,Int.neg_mul_neg]
   ·have t':T n=false:=by simpa using t
    rw [if_pos p,if_neg t,if_pos (by simp [p,t']),List.length_append,List.length_append]
    simp only [List.length_singleton,Int.pow_succ]
    rw [← ih]
    generalize (-1:Int) ^ (sel n P).length=x
    generalize (-1:Int) ^ (sel n T).length=y
    rw [Int.mul_neg_one,Int.mul_neg_one,Int.neg_mul]
  ·have p':P n=false:=by simpa using p
   by_cases t:T n=true
   ·rw [if_neg p,if_pos t,if_pos (by simp [p',t]),List.length_append,List.length_append]
    simp only [List.length_singleton,Int.pow_succ]
    rw [← ih]
    generalize (-1:Int) ^ (sel n P).length=x
    generalize (-1:Int) ^ (sel n T).length=y
    rw [Int.mul_neg_one,Int.mul_neg_one,Int.mul_neg]
   ·have t':T n=false:=by simpa using t
    rw [if_neg p,if_neg t,if_neg (by simp [p',t'])]
    exact ih
theorem xor_in {n:Nat} (hn:n≤5) {s t:Int} (hs:SetIn n s) (ht:SetIn n t):SetIn n (Go.bits .xor .i64 s t)∧ ∀i,i < n→bB (Go.bits .xor .i64 s t) i=xor (bB s i) (bB t i):=by
 obtain⟨a,rfl⟩:=Int.eq_ofNat_of_zero_le hs.1
 obtain⟨b,rfl⟩:=Int.eq_ofNat_of_zero_le ht.1
 have h1:=hs.2;have h2:=ht.2
 have hp:1≤2 ^ n:=Nat.one_le_two_pow
 have h5:2 ^ n≤2 ^ 5:=Nat.pow_le_pow_right (by decide) hn
 have e:=xor_nat (a:=a) (b:=b) (by omega) (by omega)
 have hx:a ^^^ b < 2 ^ n:=Nat.xor_lt_two_pow (by omega) (by omega)
 constructor
 ·unfold SetIn;rw [e];omega
 ·intro i hi
  rw [e,bB_nat _ _ (by omega),bB_nat _ _ (by omega),bB_nat _ _ (by omega),Nat.testBit_xor]
theorem minor_quot {M M':List (List Int)} {Q Q':List Int} {s t:Int} (p:POK M Q) (d:det M.length (Cm s M)≠0) (hs:SetIn Q.length s) (ht:SetIn Q.length t) (D:Div M Q s M' Q'):mi M s*mi M' t=mi M (Go.bits .xor .i64 s t):=by
 have hD:=ab_pos d
 have hl:=D.len
 have hq:=p.len
 have h:=minors_mul (P:=bB s) (M:=en M) (X:=en M') (d:=det M.length (Cm s M)) (sg:=sgn (det M.length (Cm s M))) (D:=ab (det M.length (Cm s M))) sgn_mul_ab (by omega) rfl D.num (bB t)
 rw [det_colM,det_colM,det_colM, ← sign_xor] at h
 have ex:=xor_in (by have:=p.mat.n5;omega) hs ht
 have e1:sel M.length (fun k=>xor (bB s k) (bB t k))=sel M.length (bB (Go.bits .xor .i64 s t)):=(sel_congr (fun i hi=>ex.2 i (by omega))).symm
 rw [e1] at h
 have e2:det (sel M.length (bB t)).length (subm (sel M.length (bB t)) (en M'))=mi M' t:=by unfold mi;rw [hl]
 rw [e2] at h
 replace h:(-1:Int) ^ (sel M.length (bB s)).length*mi M s*((-1) ^ (sel M.length (bB t)).length*mi M' t)=(-1) ^ (sel M.length (bB s)).length*(-1) ^ (sel M.length (bB t)).length*mi M (Go.bits .xor .i64 s t):=h
 have u (q:Nat):(-1:Int) ^ q=1∨(-1:Int) ^ q= -1:=by
  induction q with
  | zero=>exact .inl rfl
  | succ q ih=>rw [Int.pow_succ];rcases ih with e | e <;> rw [e] <;> simp
 generalize mi M s=x at h ⊢
 generalize mi M' t=y at h ⊢
 generalize mi M (Go.bits .xor .i64 s t)=z at h ⊢
 rcases u (sel M.length (bB s)).length with e | e <;> rcases u (sel M.length (bB t)).length with f | f <;> rw [e,f] at h <;> simp only [Int.one_mul,Int.mul_one,Int.neg_mul,Int.mul_neg,Int.neg_neg] at h <;> omega
structure MnF (k:Nat) (M:List (List Int)) (Q:List Int) (s t above below one:Int) (M':List (List Int)) (Q':List Int) (c own:Int):Prop where
 im:impl_PivotMinor.f k M Q s t=some (above,below,one)
 sp:spec_PivotMinor.f k M Q s t=some (above,below,one)
 bad:one≠0→above=0∧below=0
 good:one=0→impl_IsMatrix.f M=some true∧impl_isSet.f (Go.bits .xor .i64 s t) (M.length:Int)=some true∧impl_minor.f k M (Go.bits .xor .i64 s t)=some above∧impl_isSet.f s (M.length:Int)=some true∧impl_minor.f k M s=some below∧impl_PivotedProblem.f k M Q s=some (M',Q',c)
 piv:one=0→c=0→impl_IsMatrix.f M'=some true∧impl_isSet.f t (M'.length:Int)=some true∧impl_minor.f k M' t=some own∧wrap64 (own*below)=above
theorem all_minor (M:List (List Int)) (Q:List Int) (s t:Int) (hQ:Q.length≤1048576): ∃(k:Nat) (above below one:Int) (M':List (List Int)) (Q':List Int) (c own:Int),MnF k M Q s t above below one M' Q' c own:=by
 have i1:=impl_pm M Q s t
 have s1:=spec_pm M Q s t hQ
 have bad:(pmO M Q s t).2.2≠0→(pmO M Q s t).1=0∧(pmO M Q s t).2.1=0:=fun h=>by
  unfold pmO at h ⊢
  by_cases c1:codeS M Q s=0
  ·rw [if_pos c1] at h ⊢
   by_cases c2:codeS M Q t=0
   ·rw [if_pos c2] at h ⊢
    by_cases d:mi M s=0
    ·rw [if_pos d];exact⟨rfl,rfl⟩
    ·rw [if_neg d] at h;exact absurd rfl h
   ·rw [if_neg c2];exact⟨rfl,rfl⟩
  ·rw [if_neg c1];exact⟨rfl,rfl⟩
 have good:(pmO M Q s t).2.2=0→POK M Q∧SetIn Q.length s∧SetIn Q.length t∧mi M s≠0∧pmO M Q s t=(mi M (Go.bits .xor .i64 s t),mi M s,0):=fun h=>by
  unfold pmO at h ⊢
  by_cases c1:codeS M Q s=0
  ·rw [if_pos c1] at h ⊢
   by_cases c2:codeS M Q t=0
   ·rw [if_pos c2] at h ⊢
    by_cases d:mi M s=0
    ·rw [if_pos d] at h;cases h
    ·rw [if_neg d]
     obtain⟨p,hs⟩:=code_zero c1
     exact⟨p,hs,(code_zero c2).2,d,rfl⟩
   ·rw [if_neg c2] at h;exact absurd h c2
  ·rw [if_neg c1] at h;exact absurd h c1
 generalize pmO M Q s t=r at i1 s1 bad good
 obtain⟨above,below,one⟩:=r
 obtain⟨n1,i1⟩:=i1
 obtain⟨n2,s1⟩:=s1
 by_cases h:one=0
 ·obtain⟨p,hs,ht,d,e⟩:=good h
  injection e with e1 e2
  injection e2 with e2 _
  subst e1;subst e2
  have hq:=p.len;have h5:=p.mat.n5
  have hx:=(xor_in (by omega) hs ht).1
  obtain⟨n3,m1⟩:=impl_mi p.mat (Go.bits .xor .i64 s t)
  obtain⟨n4,m2⟩:=impl_mi p.mat s
  obtain⟨n5,m3⟩:=impl_pivoted M Q s
  have q1:=isSet_in (n:=M.length) (by omega) (s:=Go.bits .xor .i64 s t) (by rw [← hq];exact hx)
  have q2:=isSet_in (n:=M.length) (by omega) (s:=s) (by rw [← hq];exact hs)
  by_cases c:(ppO M Q s).2.2=0
  ·obtain⟨c1,dd,z,D⟩:=ppO_zero c
   obtain⟨n6,m4⟩:=impl_mi z.mat t
   have hl:=D.len
   have q3:=isSet_in (n:=(ppO M Q s).1.length) (by have:=z.mat.n5;omega) (s:=t) (by rw [hl, ← hq];exact ht)
   have e:=minor_quot p dd hs ht D
   have hb:=mi_b p.mat (Go.bits .xor .i64 s t)
   refine⟨n1+n2+n3+n4+n5+n6,_,_,_,(ppO M Q s).1,(ppO M Q s).2.1,(ppO M Q s).2.2,mi (ppO M Q s).1 t,i1 _ (by omega),s1 _ (by omega),bad,fun _=>⟨isMat_ok p.mat,q1,m1 _ (by omega),q2,m2 _ (by omega),m3 _ (by omega)⟩,fun _ _=>⟨isMat_ok z.mat,q3,m4 _ (by omega),?_⟩⟩
   rw [Int.mul_comm,e,w64 (by omega) (by omega)]
  ·exact⟨n1+n2+n3+n4+n5,_,_,_,(ppO M Q s).1,(ppO M Q s).2.1,(ppO M Q s).2.2,0,i1 _ (by omega),s1 _ (by omega),bad,fun _=>⟨isMat_ok p.mat,q1,m1 _ (by omega),q2,m2 _ (by omega),m3 _ (by omega)⟩,fun _ hc=>absurd hc c⟩
 ·exact⟨n1+n2,_,_,_, [], [],0,0,i1 _ (by omega),s1 _ (by omega),bad,fun e=>absurd e h,fun e=>absurd e h⟩
end Go.Proofs.Ytbjljcpngbhkeaa.Pp
end
section
namespace Go.Proofs.Ytbjljcpngbhkeaa.Pr
open Go.RowKit Wz.PrintWords Wz.PrintLast Wz.PrintMore La Ma Hm
def badC (n:Nat) (i:Int):Bool:=!(decide (0≤i) && decide (i≤(n:Int) - 1))
theorem within_f (n:Nat) (i:Int):impl_within.f i 0 ((n:Int) - 1)=some (!(badC n i)):=by
 unfold impl_within.f badC
 rw [Bool.not_not]
 by_cases h:0≤i
 ·rw [if_pos (by omega)];simp [h]
 ·rw [if_neg (by omega)];simp [h]
theorem runChain1 (gb n:Nat) (A:Option Addr) (c:Nat) (i:Int) (w:World) (hn:n≤1099511627776) (hb:w.cell? ⟨gb,1,none⟩=some (.slice A n c)):
  Calls Try.prog 53 (#[.int .i64 i]++ #[.pointer (some ⟨gb,0,none⟩)]) w fun e w'=>e= .returned (.bool (badC n i))∧Below w.heap.size w w':=by
 have HF:=q_ (within_f n i)
 show Calls Try.prog 53 #[.int .i64 i, .pointer (some ⟨gb,0,none⟩)] w _
 have hw:IntKind.i64.wrap ((n:Int) - 1)=(n:Int) - 1:=by rw [IntWalk.i64_in _ (by omega)]
 generalize badC n i=b at HF ⊢
 clear hn
 go_enter Try.func53,Try.ntmps53
 go_wp2_with fail
 refine(impl_within.calls i 0 ((n:Int) - 1) _ _ HF.out).mono ?_
 rintro e w' ⟨rfl,⟨nd,rfl⟩⟩;go_wp2
 go_ret
 refine⟨by simp,pw_below_drewN (Below.refl _ _) _⟩
theorem runChain1_enters: ∀args w,(callFunc 53 args).run Try.prog w= .ok (.enter 53 args) w:=enters_fn Try.func53 (by kernel_rfl) rfl
def chn (k:Nat) (M:List (List Int)):List Int→List Int→Int→Option (List Int × Int)
 | [],out,_=>some (out,0)
 | i::t,out,s=>(impl_minor.f k M (Go.bits .xor .i64 s (shl .i64 1 i))).bind fun d=>if d=0 then some ([],5) else if out.length < 17592186044416 then chn k M t (out++ [Go.bits .xor .i64 s (shl .i64 1 i)]) (Go.bits .xor .i64 s (shl .i64 1 i)) else none
def impl_RunChain.f (k:Nat) (ae:List (List Int)) (aa:List Int) (l1:List Int):Option (List Int × Int):=
 (impl_IsProblem.f ae aa).bind fun t=>if t=true then(if aa.length≤1099511627776 then(if(l1.length:Int) > 20 then some ([],2) else if l1.any (badC aa.length)=true then some ([],2) else chn k ae l1 [0] 0) else none) else some ([],1)
theorem impl_RunChain.calls (k:Nat) (af:Option Addr) (ag:Nat) (aa:List (List Int)) (ah:Option Addr) (ai:Nat) (ae:List Int) (A1:Option Addr) (c1:Nat) (l1:List Int) (r1:List Int) (r2:Int) (w:World) (aj:Kd.C (Kd.slice 2 (Kd.int .i64)) w af aa.length aa) (ak:aa.length≤ag) (aq:Kd.C (Kd.int .i64) w ah ae.length ae) (au:ae.length≤ai) (hr1:Kd.C (Kd.int .i64) w A1 l1.length l1) (hc1:l1.length≤c1) (h:impl_RunChain.f k aa ae l1=some (r1,r2)):
  Calls Try.prog 14 #[.agg #[.slice af aa.length ag, .slice ah ae.length ai], .slice A1 l1.length c1] w fun e w'=> ∃v0_:Value,e= .returned (.tuple #[v0_, .int .i64 r2])∧Kd.R (Kd.int .i64) 2 w' w.heap.size (fun _=>True) v0_ r1∧Below w.heap.size w w':=by
 unfold impl_RunChain.f at h;obtain⟨t,h1,h⟩:=Option.bind_eq_some_iff.mp h;have HR0:=q_ aj;have HC0:=q_ ak;have HR1:=q_ aq;have HC1:=q_ au;have HRC:=q_ hr1;have H1:=q_ h1;have HB:=q_ (Below.refl w.heap.size w);clear aj ak aq au hr1 hc1 h1;have H:=q_ h;clear h
 go_enter Try.func14,Try.ntmps14
 go_wp2_with (first | ((with_reducible refine gate_dst (N:=2) rfl ?_);refine be_ 2 #[.slice af aa.length ag, .slice ah ae.length ai] 27 ?_;intro gb hg w6 hbox hb;have n0_:=q_ (below_step HB.out hb);have n1_:=q_ hbox;have n2_:Aside0 (w.heap.size≤gb):=⟨by rw [hg];exact Nat.le_refl _⟩;clear HB;have HB:=n0_;have BK:=n1_;have GW:=n2_;clear n0_ n1_ n2_ hb hbox hg;have hcz0:=cz_ BK 0;have hcz1:=cz_ BK 1))
 refine(impl_IsProblem.calls af ag aa ah ai ae t w6 (Kd.C_below HR0.out HB.out) HC0.out (Kd.C_below HR1.out HB.out) HC1.out H1.out).mono ?_
 rintro e w7 ⟨rfl,hb7⟩;replace HB:=q_ (below_step HB.out hb7);replace BK:=q_ (blk_below BK.out hb7);clear hcz0 hcz1;cases t with
 | false=>
  have h:=H.out;rw [if_neg (by simp)] at h;cases h
  clear H;go_wp2
  refine bodyPost_ret (results_list (rs:= [.tmp 4, .tmp 5]) rfl (by simp) (.tmp (.tmp .nil))) rfl ?_
  exact⟨_,rfl,Kd.R_nil _ _ _ _ _,HB.out⟩
 | true=>
  have h:=H.out;rw [if_pos rfl] at h
  by_cases hq:ae.length≤1099511627776
  ·rw [if_pos hq] at h;have HQ:=q_ hq;clear H hq
   by_cases c20:(l1.length:Int) > 20
   ·rw [if_pos c20] at h;cases h
    go_wp2
    refine bodyPost_ret (results_list (rs:= [.tmp 4, .tmp 5]) rfl (by simp) (.tmp (.tmp .nil))) rfl ?_
    exact⟨_,rfl,Kd.R_nil _ _ _ _ _,HB.out⟩
   ·rw [if_neg c20] at h;have H:=q_ h;clear h;have hcall:=fun W (hW:Below w7.heap.size w7 W)=>containsFuncInts (badC ae.length) 53 #[.pointer (some ⟨gb,0,none⟩)] runChain1_enters A1 c1 l1 W (Kd.C_below (Kd.C_below HRC.out HB.out) hW)
     (fun W' x _ hb=>runChain1 gb ae.length ah ai x W' HQ.out ((blk_cell (blk_below (blk_below BK.out hW) hb) 1).trans rfl))
    have HCALL:=q_ hcall;clear hcall
    generalize hany:l1.any (badC ae.length)=bb at HCALL H
    have HANY:=q_ hany;clear hany
    go_wp2_with fail
    refine(HCALL.out _ (Below.refl _ _)).mono ?_
    rintro e w8 ⟨rfl,hb8⟩;replace HB:=q_ (below_step HB.out hb8);replace BK:=q_ (blk_below BK.out hb8);clear HCALL;cases bb with
    | true=>
     have h:=H.out;rw [if_pos rfl] at h;cases h
     go_wp2
     refine bodyPost_ret (results_list (rs:= [.tmp 4, .tmp 5]) rfl (by simp) (.tmp (.tmp .nil))) rfl ?_
     exact⟨_,rfl,Kd.R_nil _ _ _ _ _,HB.out⟩
    | false=>
     have h:=H.out;rw [if_neg (by simp)] at h;have H:=q_ h;clear h
     go_wp2_with (first | ((with_reducible refine gate_dst (N:=21) rfl ?_);refine Kd.R_lit (Kd.int .i64) _ 2 ?hg (N:=21) ?hd (xs:=([0]:List Int)) (inner:= [.int .i64 0]) (ok:=fun _=>True) (okp:=fun _=>True) ?hr ?hp (fun _ hk=>hk) trivial (Below.refl _ _) (Nat.le_refl _) (by simp) ?_;(case hd=>rfl);(case hg=>rfl);(case hr=>first | (go_simp;done) | (go_simp;rfl));(case hp=>exact(Reps.one (show Kd.M (Kd.int .i64) _ _ _ 0 [.int .i64 0] from rfl) (Reps.none _ _)));intro aw w18 av hb hg_ hnew_;clear hg_ hnew_;have HO:=q_ (Kd.R_lower av HB.out.size);replace BK:=q_ (blk_below BK.out hb);replace HB:=q_ (below_step HB.out hb);clear hb av))
     go_loopg [6,24] l1.length (fun gg v6 v24 wr=> ∃(i:Nat) (out:List Int) (s:Int),i≤l1.length∧l1.length - i≤gg∧v24= .int .i64 (i:Int)∧Aside0 (Kd.R (Kd.int .i64) 2 wr w.heap.size (fun _=>True) v6 out)∧Aside0 (wr.heap[gb]?=some (.cells #[.slice af aa.length ag, .slice ah ae.length ai] 27 (0,0)))∧Aside0 (Below w.heap.size w wr)∧Aside0 (out.length=i+1∧out.getD i 0=s)∧Aside0 (chn k aa (l1.drop i) out s=some (r1,r2)))
     case atStart=>exact⟨0, [0],0,Nat.zero_le _,by omega,rfl,HO,BK,HB,⟨by simp⟩,H⟩
     case round=>
      clear HO BK HB H;obtain⟨i,out,s,hi,hg,rfl,HO,BK,HB,HS,H⟩:=hrel;have HG:=q_ hg;have HI:=q_ hi
      by_cases hlt:i < l1.length
      ·have hltz:(i:Int) < (l1.length:Int):=by omega
       have h0z:(0:Int)≤(i:Int):=by omega
       have HLT:=q_ hlt;have h:=H.out;rw [List.drop_eq_getElem_cons hlt] at h;unfold chn at h;obtain⟨d,h1,h⟩:=Option.bind_eq_some_iff.mp h;obtain⟨ad,rfl,hcell⟩:=Kd.at_int (Kd.C_below HRC.out HB.out) (i:Int) (by omega) (by omega);rw [Int.toNat_natCast,rd_nat,show l1.getD i 0=l1[i] from by simp [hlt]] at hcell;have hx0:0≤l1[i]:=by
        have:=List.any_eq_false.1 HANY.out l1[i] (List.getElem_mem hlt);unfold badC at this
        simp at this
        omega
       generalize l1[i]=x at h h1 hcell hx0
       obtain⟨Ao,co,rfl⟩:=Kd.R_slice HO.out;obtain⟨ao,rfl,hocell⟩:=Kd.at_int (Kd.R_reads' HO.out).2.2 (i:Int) (by omega) (by have:=HS.out.1;omega);rw [Int.toNat_natCast,rd_nat,HS.out.2] at hocell;have hlz:(i:Int) < (out.length:Int):=by have:=HS.out.1;omega
       have how:IntKind.i64.wrap ((out.length:Int) - 1)=(i:Int):=by rw [IntWalk.i64_in _ (by have:=HS.out.1;have:=HRC.out.2.1;omega)];have:=HS.out.1;omega
       have hcz0:=cz_ BK 0;have H2:=q_ h;have H1':=q_ h1;clear h1 hi hg H
       generalize hsx:Go.bits .xor .i64 s (shl .i64 1 x)=s2 at H1' H2
       go_wp2_with fail
       replace HO:=q_ (Kd.R_drew HO.out);replace BK:=q_ (blk_drew BK.out);replace HB:=q_ (below_drew1 HB.out);replace hocell:wr.drew.cell? (ao.add i)=some (.int .i64 s):=hocell;replace hcell:wr.drew.cell? (ad.add i)=some (.int .i64 x):=hcell;replace hcz0:wr.drew.cell? ⟨gb,0,none⟩=some (.slice af aa.length ag):=hcz0;refine st_ (n:=10) (S:=fun w'=>w'.cell? (ao.add i)=some (.int .i64 s)) (ds:= []) hocell (fun hHeld=>?_)
       generalize wr.drew=w9 at HO BK HB hcell hocell hcz0 hHeld ⊢
       refine p4_ 0 28 1 29 2 30 3 31 ?_;refine pu_ 4 32 ?_;refine tk_ 5 33 ?_;refine p4_ 6 34 7 35 8 36 9 9 ?_
       refine done_ (by kernel_rfl) ?_
       go_wp2_with fail
       have hs2:Go.bits .xor .i64 s (wrap64 (2 ^ min x.toNat 64))=s2:=by rw [← hsx];unfold shl;rw [i64_w];simp [IntKind.bits]
       rw [hs2];clear hs2 hsx hHeld;refine(impl_minor.calls k af ag aa s2 d w9 (Kd.C_below HR0.out HB.out) HC0.out H1'.out).mono ?_
       rintro e w10 ⟨rfl,hb10⟩;replace HO:=q_ (Kd.R_below HO.out hb10);replace BK:=q_ (blk_below BK.out hb10);replace HB:=q_ (below_step HB.out hb10)
       by_cases d0:d=0
       ·have h:=H2.out;rw [if_pos d0] at h;cases h
        subst d0;go_wp2
        refine bodyPost_ret (results_list (rs:= [.tmp 4, .tmp 5]) rfl (by simp) (.tmp (.tmp .nil))) rfl ?_
        exact⟨_,rfl,Kd.R_nil _ _ _ _ _,HB.out⟩
       ·have h:=H2.out;rw [if_neg d0] at h;have hol:out.length < 17592186044416:=by have:=HS.out.1;have:=HLT.out;omega
        rw [if_pos hol] at h;have H:=q_ h;have hd0:(d==0)=false:=by simpa using d0
        have hi1:IntKind.i64.wrap ((i:Int)+1)=((i+1:Nat):Int):=by rw [IntWalk.i64_in _ (by have:=HLT.out;omega)];rfl
        have HI1:=q_ hi1;have HOL:=q_ hol;clear h H2 hol
        go_wp2_with (first | ((with_reducible refine gate_builtin (b:= .append) (xs:= #[.tmp 42, .tmp 44]) rfl ?_);at_builtin;refine Kd.R_append (Kd.int .i64) (w0:=w) w.heap.size rfl (.tmp 42) (.tmp 44) 25 2 (.int .i64 0) 8 rfl Try.underlying25 info2 rfl (by decide) (by omega) (.slice (some ao) out.length co) out s2 [.int .i64 s2] (fun _=>True) (fun _=>False) rfl rfl ?aP (fun _ hk=>hk.elim) ?aF ?aO ?aB ?aS ?aL ?_;(case aP=>exact rfl);(case aB=>exact hb_);(case aF=>exact(fun _ _=>trivial));(case aO=>exact(ro_ HO.out));(case aS=>exact bz_);(case aL=>have:=HOL.out;omega);intro ax w37 ho hb hg hat;replace BK:=q_ (blk_grown (g:=gb) (o:= .cells #[.slice af aa.length ag, .slice ah ae.length ai] 27 (0,0)) bk_ hg (Kd.R_ne HO.out BK.out (by decide)));replace HB:=q_ (hb);replace HO:=q_ (ho);clear ho hb hg hat))
        go_roundg (l1.length - (i+1))
        case measure=>have:=HG.out;have:=HLT.out;omega
        case rel=>exact⟨i+1,out++ [s2],s2,by have:=HLT.out;omega,by omega,by first | rfl | (rw [HI1.out]) | (simp [HI1.out]),HO,BK,HB,⟨⟨by have:=HS.out.1;simp [this],by have:=HS.out.1;simp [this]⟩⟩,H⟩
      ·have hltz: ¬ (i:Int) < (l1.length:Int):=by omega
       have hie:i=l1.length:=by omega
       have h:=H.out;rw [List.drop_of_length_le (by omega)] at h;unfold chn at h;cases h
       clear hi hg hlt H;go_wp2
       refine bodyPost_ret (results_list (rs:= [.tmp 4, .tmp 5]) rfl (by simp) (.tmp (.tmp .nil))) rfl ?_
       exact⟨_,rfl,HO.out,HB.out⟩
  ·rw [if_neg hq] at h;cases h
end Go.Proofs.Ytbjljcpngbhkeaa.Pr
end
section
namespace Go.Proofs.Ytbjljcpngbhkeaa.Pr
open Go.RowKit Wz.PrintWords Wz.PrintLast Wz.PrintMore
attribute [local go_sem] max2_int min2_int max_two min_two max_three min_three max_four min_four
mutual
def spec_RunChain.l0:Nat→List Int→Int→List (List Int)→List Int→Option (List Int × Int)
 | 0,_,_,_,_=>none
 | k+1,x1,x6,aa,ae=>if x6 < (x1.length:Int) then(if 0≤x6 then((spec_l01In.f (rd x1 x6) 0 (wrap64 ((ae.length:Int) - 1))).bind fun af=>(if af=true then(spec_RunChain.l0 k x1 (wrap64 (x6+1)) aa ae) else(some (([]:List Int),2)))) else(none)) else(spec_RunChain.l1 k x1 (([0]:List Int)) 0 0 aa ae)
def spec_RunChain.l1:Nat→List Int→List Int→Int→Int→List (List Int)→List Int→Option (List Int × Int)
 | 0,_,_,_,_,_,_=>none
 | k+1,x1,x7,x8,x9,aa,ae=>if x9 < (x1.length:Int) then(if 0≤x9 then(if 0≤(IntKind.u64.wrap (rd x1 x9)) then((spec_l01Columns.f k aa (Go.bits .xor .i64 x8 (shl .i64 1 (IntKind.u64.wrap (rd x1 x9))))).bind fun ag=>((spec_l01Det.f k ag).bind fun ah=>(if ah=0 then(some (([]:List Int),5)) else(if x7.length < 17592186044416 then(spec_RunChain.l1 k x1 (x7++ [Go.bits .xor .i64 x8 (shl .i64 1 (IntKind.u64.wrap (rd x1 x9)))]) (Go.bits .xor .i64 x8 (shl .i64 1 (IntKind.u64.wrap (rd x1 x9)))) (wrap64 (x9+1)) aa ae) else(none))))) else(none)) else(none)) else(some (x7,0))
end
def spec_RunChain.f (k:Nat) (aa:List (List Int)) (ae:List Int) (l1:List Int):Option (List Int × Int):=(spec_l01Is.f k aa ae).bind fun af=>(if af=true then(if(l1.length:Int) > 20 then(some (([]:List Int),2)) else(spec_RunChain.l0 k l1 0 aa ae)) else(some (([]:List Int),1)))
theorem spec_RunChain.calls (k:Nat) (au:Option Addr) (av:Nat) (af:List (List Int)) (aw:Option Addr) (ax:Nat) (ag:List Int) (A1:Option Addr) (c1:Nat) (l1:List Int) (r1:List Int) (r2:Int) (w:World) (bA:Kd.C (Kd.slice 2 (Kd.int .i64)) w au af.length af) (bC:af.length≤av) (bD:Kd.C (Kd.int .i64) w aw ag.length ag) (bE:ag.length≤ax) (hr1:Kd.C (Kd.int .i64) w A1 l1.length l1) (hc1:l1.length≤c1) (h:spec_RunChain.f k af ag l1=some (r1,r2)):
  Calls Try.prog 15 #[.agg #[.slice au af.length av, .slice aw ag.length ax], .slice A1 l1.length c1] w fun e w'=> ∃v0_:Value,e= .returned (.tuple #[v0_, .int .i64 r2])∧Kd.R (Kd.int .i64) 2 w' w.heap.size (fun _=>True) v0_ r1∧Below w.heap.size w w':=by
 have hu27:=Try.underlying27;have HR0_0:=q_ bA;have HC0_0:=q_ bC;clear bA bC;have HR0_1:=q_ bD;have HC0_1:=q_ bE;clear bD bE;have HR1:=q_ hr1;have HC1:=q_ hc1;clear hr1 hc1;have HB:=q_ (Below.refl w.heap.size w);have H:((spec_l01Is.f k af ag).bind fun bq=>(if bq=true then(if(l1.length:Int) > 20 then(some (([]:List Int),2)) else(spec_RunChain.l0 k l1 0 af ag)) else(some (([]:List Int),1))))=some (r1,r2):=h;clear h;replace H:=Option.bind_eq_some_iff.mp H;obtain⟨bq,A30,H⟩:=H;replace H:(if bq=true then(if(l1.length:Int) > 20 then(some (([]:List Int),2)) else(spec_RunChain.l0 k l1 0 af ag)) else(some (([]:List Int),1)))=some (r1,r2):=H;have A3:=q_ A30;clear A30
 by_cases c4:bq=true
 ·subst c4;have H1:(if(l1.length:Int) > 20 then(some (([]:List Int),2)) else(spec_RunChain.l0 k l1 0 af ag))=some (r1,r2):=by rw [if_pos rfl] at H;exact H
  clear H;have H:=H1;clear H1
  by_cases c5:(l1.length:Int) > 20
  ·rw [if_pos c5] at H;have c5b0:=decide_eq_true c5;have c5b1:decide (20 < l1.length)=true:=decide_eq_true (by omega);clear c5;simp only [Option.some.injEq,Prod.mk.injEq] at H;obtain⟨rfl,rfl⟩:=H
   go_enter Try.func15,Try.ntmps15
   go_wp2_with (first | ((with_reducible refine gate_dst (N:=2) rfl ?_);refine be_ 2 #[.slice au af.length av, .slice aw ag.length ax] 27 ?_;intro ae hg w6 hbox hb;have aa:=q_ (hbox);have aJ:=gz_ w hg;have aK:=gz_ w hg;replace HB:=Bs_ hb;clear hb hbox hg;obtain⟨aV,aW,aX,aY⟩:=c2_ aa) | (go_at_call 55;(with_reducible refine(spec_l01Is.calls k _ _ af _ _ ag true _ ?ah ?ai ?az ?aA A3.out).mono ?_);(case ah=>exact cb_ HR0_0.out HB.out);(case ai=>exact HC0_0.out);(case az=>exact cb_ HR0_1.out HB.out);(case aA=>exact HC0_1.out);rintro e w8 ⟨rfl,hb⟩;replace aa:=Bb_ aa hb;replace HB:=Bs_ hb;(try clear hb);(try clear hk)))
   repeat (go_quiet (first | ((with_reducible refine gate_dst (N:=2) rfl ?_);refine be_ 2 #[.slice au af.length av, .slice aw ag.length ax] 27 ?_;intro ae hg w6 hbox hb;have aa:=q_ (hbox);have aJ:=gz_ w hg;have aK:=gz_ w hg;replace HB:=Bs_ hb;clear hb hbox hg;obtain⟨aV,aW,aX,aY⟩:=c2_ aa) | (go_at_call 55;(with_reducible refine(spec_l01Is.calls k _ _ af _ _ ag true _ ?ah ?ai ?az ?aA A3.out).mono ?_);(case ah=>exact cb_ HR0_0.out HB.out);(case ai=>exact HC0_0.out);(case az=>exact cb_ HR0_1.out HB.out);(case aA=>exact HC0_1.out);rintro e w8 ⟨rfl,hb⟩;replace aa:=Bb_ aa hb;replace HB:=Bs_ hb;(try clear hb);(try clear hk)));try go_wp2_with (first | ((with_reducible refine gate_dst (N:=2) rfl ?_);refine be_ 2 #[.slice au af.length av, .slice aw ag.length ax] 27 ?_;intro ae hg w6 hbox hb;have aa:=q_ (hbox);have aJ:=gz_ w hg;have aK:=gz_ w hg;replace HB:=Bs_ hb;clear hb hbox hg;obtain⟨aV,aW,aX,aY⟩:=c2_ aa) | (go_at_call 55;(with_reducible refine(spec_l01Is.calls k _ _ af _ _ ag true _ ?ah ?ai ?az ?aA A3.out).mono ?_);(case ah=>exact cb_ HR0_0.out HB.out);(case ai=>exact HC0_0.out);(case az=>exact cb_ HR0_1.out HB.out);(case aA=>exact HC0_1.out);rintro e w8 ⟨rfl,hb⟩;replace aa:=Bb_ aa hb;replace HB:=Bs_ hb;(try clear hb);(try clear hk))))
   go_ret2
   exact⟨_,ew_,by first | exact Kd.R_nil _ _ _ _ _ | exact Kd.N_nil _ _ _ _ _ | exact Kd.V_nil _ _ _ _ _ | exact Kd.Q_nil _ _ _ _ _ | exact Kd.S_nil _ _ _ _ _,hb_⟩
  ·rw [if_neg c5] at H;have c5b0:=decide_eq_false c5;have c5b1:decide (20 < l1.length)=false:=decide_eq_false (by omega);clear c5;have H':=q_ H;clear H
   go_enter Try.func15,Try.ntmps15
   go_wp2_with (first | ((with_reducible refine gate_dst (N:=2) rfl ?_);refine be_ 2 #[.slice au af.length av, .slice aw ag.length ax] 27 ?_;intro ae hg w9 hbox hb;have aa:=q_ (hbox);have aJ:=gz_ w hg;have aK:=gz_ w hg;replace HB:=Bs_ hb;clear hb hbox hg;obtain⟨aM,aN,aQ,aT⟩:=c2_ aa) | (go_at_call 55;(with_reducible refine(spec_l01Is.calls k _ _ af _ _ ag true _ ?ah ?ai ?az ?aA A3.out).mono ?_);(case ah=>exact cb_ HR0_0.out HB.out);(case ai=>exact HC0_0.out);(case az=>exact cb_ HR0_1.out HB.out);(case aA=>exact HC0_1.out);rintro e w11 ⟨rfl,hb⟩;replace aa:=Bb_ aa hb;replace HB:=Bs_ hb;(try clear hb);(try clear hk)))
   repeat (go_quiet (first | ((with_reducible refine gate_dst (N:=2) rfl ?_);refine be_ 2 #[.slice au af.length av, .slice aw ag.length ax] 27 ?_;intro ae hg w9 hbox hb;have aa:=q_ (hbox);have aJ:=gz_ w hg;have aK:=gz_ w hg;replace HB:=Bs_ hb;clear hb hbox hg;obtain⟨aM,aN,aQ,aT⟩:=c2_ aa) | (go_at_call 55;(with_reducible refine(spec_l01Is.calls k _ _ af _ _ ag true _ ?ah ?ai ?az ?aA A3.out).mono ?_);(case ah=>exact cb_ HR0_0.out HB.out);(case ai=>exact HC0_0.out);(case az=>exact cb_ HR0_1.out HB.out);(case aA=>exact HC0_1.out);rintro e w11 ⟨rfl,hb⟩;replace aa:=Bb_ aa hb;replace HB:=Bs_ hb;(try clear hb);(try clear hk)));try go_wp2_with (first | ((with_reducible refine gate_dst (N:=2) rfl ?_);refine be_ 2 #[.slice au af.length av, .slice aw ag.length ax] 27 ?_;intro ae hg w9 hbox hb;have aa:=q_ (hbox);have aJ:=gz_ w hg;have aK:=gz_ w hg;replace HB:=Bs_ hb;clear hb hbox hg;obtain⟨aM,aN,aQ,aT⟩:=c2_ aa) | (go_at_call 55;(with_reducible refine(spec_l01Is.calls k _ _ af _ _ ag true _ ?ah ?ai ?az ?aA A3.out).mono ?_);(case ah=>exact cb_ HR0_0.out HB.out);(case ai=>exact HC0_0.out);(case az=>exact cb_ HR0_1.out HB.out);(case aA=>exact HC0_1.out);rintro e w11 ⟨rfl,hb⟩;replace aa:=Bb_ aa hb;replace HB:=Bs_ hb;(try clear hb);(try clear hk))))
   go_loopg [6] k (fun kq v6 w'=> ∃(ay:Int),v6= .int .i64 ay∧Aside0 (spec_RunChain.l0 kq l1 ay af ag=some (r1,r2))∧Aside0 (kq≤k)∧Aside0 (w'.heap[ae]?=some (.cells #[(.slice au af.length av),(.slice aw ag.length ax)] 27 (0,0)))∧Aside0 (Below w.heap.size w w'))
   case atStart=>exact⟨(0),rs_,H',⟨Nat.le_refl _⟩,⟨bk_⟩,⟨hb_⟩⟩
   case round=>
    clear H';(try clear c1);(try clear c4);(try clear c5b0);(try clear c5b1);(try clear aM);(try clear aN);(try clear aV);(try clear aW);(try clear aQ);(try clear aT);(try clear aX);(try clear aY);obtain⟨ay,rfl,HA,HK1,aa,HB⟩:=hrel;cases gk with
    | zero=>exact absurd HA.out (by simp [spec_RunChain.l0])
    | succ k1=>
     have H:=HA.out;clear HA;simp only [spec_RunChain.l0] at H
     by_cases c12:ay < (l1.length:Int)
     ·rw [if_pos c12] at H;have c12b0:=decide_eq_true c12;clear c12
      by_cases c13:0≤ay
      ·rw [if_pos c13] at H;have c13b0:=decide_eq_true c13;clear c13;replace H:=Option.bind_eq_some_iff.mp H;obtain⟨bN,A140,H⟩:=H;replace H:(if bN=true then(spec_RunChain.l0 k1 l1 (wrap64 (ay+1)) af ag) else(some (([]:List Int),2)))=some (r1,r2):=H;have A14:=q_ A140;clear A140
       by_cases c15:bN=true
       ·subst c15;have H1:(spec_RunChain.l0 k1 l1 (wrap64 (ay+1)) af ag)=some (r1,r2):=by rw [if_pos rfl] at H;exact H
        clear H;have H:=H1;clear H1;have H':=q_ H;clear H;have p470:0≤(ay:Int):=od_;have q470:ay < (l1.length:Int):=od_;obtain⟨bW,e470,hx470_0⟩:=Kd.at_int HR1.out ay p470 q470;cases e470
        replace hx470_0:=bc_ HB.out hx470_0;replace p470:=eq_true p470;replace q470:=eq_true q470;obtain⟨bF,bG,bH,bI⟩:=c2_ aa
        go_wp2_with (first | (go_at_call 56;(with_reducible refine(spec_l01In.calls (rd l1 ay) 0 (wrap64 ((ag.length:Int) - 1)) true _ A14.out).mono ?_);rintro e w' ⟨rfl,⟨nd,rfl⟩⟩;(try first | exact⟨rfl,_,World.drewN_drewN _ _ _⟩ | exact⟨rfl,_,Eq.trans (World.drewN_drewN _ _ _) (congrArg (World.drewN _) (Nat.add_assoc _ _ _))⟩)))
        repeat (go_quiet (first | (go_at_call 56;(with_reducible refine(spec_l01In.calls (rd l1 ay) 0 (wrap64 ((ag.length:Int) - 1)) true _ A14.out).mono ?_);rintro e w' ⟨rfl,⟨nd,rfl⟩⟩;(try first | exact⟨rfl,_,World.drewN_drewN _ _ _⟩ | exact⟨rfl,_,Eq.trans (World.drewN_drewN _ _ _) (congrArg (World.drewN _) (Nat.add_assoc _ _ _))⟩)));try go_wp2_with (first | (go_at_call 56;(with_reducible refine(spec_l01In.calls (rd l1 ay) 0 (wrap64 ((ag.length:Int) - 1)) true _ A14.out).mono ?_);rintro e w' ⟨rfl,⟨nd,rfl⟩⟩;(try first | exact⟨rfl,_,World.drewN_drewN _ _ _⟩ | exact⟨rfl,_,Eq.trans (World.drewN_drewN _ _ _) (congrArg (World.drewN _) (Nat.add_assoc _ _ _))⟩))))
        go_roundg k1
        case measure=>have:=HK1.out;omega
        case rel=>exact⟨(wrap64 (ay+1)),rs_,H',⟨by have:=HK1.out;omega⟩,⟨bk_⟩,⟨hb_⟩⟩
       ·replace c15:=Bool.eq_false_iff.mpr c15;subst c15;have H1:(some (([]:List Int),2))=some (r1,r2):=by rw [if_neg (show ¬ (false=true) by decide)] at H;exact H
        clear H;have H:=H1;clear H1;simp only [Option.some.injEq,Prod.mk.injEq] at H;obtain⟨rfl,rfl⟩:=H;have p470:0≤(ay:Int):=od_;have q470:ay < (l1.length:Int):=od_;obtain⟨bW,e470,hx470_0⟩:=Kd.at_int HR1.out ay p470 q470;cases e470
        replace hx470_0:=bc_ HB.out hx470_0;replace p470:=eq_true p470;replace q470:=eq_true q470;obtain⟨bJ,bK,bL,bM⟩:=c2_ aa
        go_wp2_with (first | (go_at_call 56;(with_reducible refine(spec_l01In.calls (rd l1 ay) 0 (wrap64 ((ag.length:Int) - 1)) false _ A14.out).mono ?_);rintro e w' ⟨rfl,⟨nd,rfl⟩⟩;(try first | exact⟨rfl,_,World.drewN_drewN _ _ _⟩ | exact⟨rfl,_,Eq.trans (World.drewN_drewN _ _ _) (congrArg (World.drewN _) (Nat.add_assoc _ _ _))⟩)))
        repeat (go_quiet (first | (go_at_call 56;(with_reducible refine(spec_l01In.calls (rd l1 ay) 0 (wrap64 ((ag.length:Int) - 1)) false _ A14.out).mono ?_);rintro e w' ⟨rfl,⟨nd,rfl⟩⟩;(try first | exact⟨rfl,_,World.drewN_drewN _ _ _⟩ | exact⟨rfl,_,Eq.trans (World.drewN_drewN _ _ _) (congrArg (World.drewN _) (Nat.add_assoc _ _ _))⟩)));try go_wp2_with (first | (go_at_call 56;(with_reducible refine(spec_l01In.calls (rd l1 ay) 0 (wrap64 ((ag.length:Int) - 1)) false _ A14.out).mono ?_);rintro e w' ⟨rfl,⟨nd,rfl⟩⟩;(try first | exact⟨rfl,_,World.drewN_drewN _ _ _⟩ | exact⟨rfl,_,Eq.trans (World.drewN_drewN _ _ _) (congrArg (World.drewN _) (Nat.add_assoc _ _ _))⟩))))
        go_ret2
        exact⟨_,ew_,by first | exact Kd.R_nil _ _ _ _ _ | exact Kd.N_nil _ _ _ _ _ | exact Kd.V_nil _ _ _ _ _ | exact Kd.Q_nil _ _ _ _ _ | exact Kd.S_nil _ _ _ _ _,hb_⟩
      ·rw [if_neg c13] at H;exact absurd H (by simp)
     ·rw [if_neg c12] at H;have c12b0:=decide_eq_false c12;clear c12;obtain⟨bO,hy⟩: ∃y_:List Int,y_=(([0]:List Int)):=⟨_,rfl⟩
      replace H:(spec_RunChain.l1 k1 l1 bO 0 0 af ag)=some (r1,r2):=hh_;have aU:=q_ hy;clear hy;have H':=q_ H;clear H
      go_wp2_with (first | ((with_reducible refine gate_dst (N:=32) rfl ?_);refine Kd.R_lit (Kd.int .i64) _ 2 ?hg (N:=32) ?hd (xs:=([0]:List Int)) (inner:= [.int .i64 0]) (ok:=fun _=>True) (okp:=fun _=>True) ?hr ?hp (fun _ hk=>hk) trivial (Below.refl _ _) (Nat.le_refl _) (by simp) ?_;(case hd=>rfl);(case hg=>rfl);(case hr=>first | (go_simp;done) | (go_simp;rfl));(case hp=>exact(Reps.one (show Kd.M (Kd.int .i64) _ _ _ 0 [.int .i64 0] from rfl) (Reps.none _ _)));intro bP w18 aG hb hg_ hnew_;clear hg_ hnew_;(first | rw [← aU.out] at aG | (simp only [Int.reduceToNat] at aG;rw [← aU.out] at aG));have bu:=q_ (Kd.R_lower aG bz_);replace aa:=Bb_ aa hb;replace HB:=Bs_ hb;clear hb aG))
      repeat (go_quiet (first | ((with_reducible refine gate_dst (N:=32) rfl ?_);refine Kd.R_lit (Kd.int .i64) _ 2 ?hg (N:=32) ?hd (xs:=([0]:List Int)) (inner:= [.int .i64 0]) (ok:=fun _=>True) (okp:=fun _=>True) ?hr ?hp (fun _ hk=>hk) trivial (Below.refl _ _) (Nat.le_refl _) (by simp) ?_;(case hd=>rfl);(case hg=>rfl);(case hr=>first | (go_simp;done) | (go_simp;rfl));(case hp=>exact(Reps.one (show Kd.M (Kd.int .i64) _ _ _ 0 [.int .i64 0] from rfl) (Reps.none _ _)));intro bP w18 aG hb hg_ hnew_;clear hg_ hnew_;(first | rw [← aU.out] at aG | (simp only [Int.reduceToNat] at aG;rw [← aU.out] at aG));have bu:=q_ (Kd.R_lower aG bz_);replace aa:=Bb_ aa hb;replace HB:=Bs_ hb;clear hb aG));try go_wp2_with (first | ((with_reducible refine gate_dst (N:=32) rfl ?_);refine Kd.R_lit (Kd.int .i64) _ 2 ?hg (N:=32) ?hd (xs:=([0]:List Int)) (inner:= [.int .i64 0]) (ok:=fun _=>True) (okp:=fun _=>True) ?hr ?hp (fun _ hk=>hk) trivial (Below.refl _ _) (Nat.le_refl _) (by simp) ?_;(case hd=>rfl);(case hg=>rfl);(case hr=>first | (go_simp;done) | (go_simp;rfl));(case hp=>exact(Reps.one (show Kd.M (Kd.int .i64) _ _ _ 0 [.int .i64 0] from rfl) (Reps.none _ _)));intro bP w18 aG hb hg_ hnew_;clear hg_ hnew_;(first | rw [← aU.out] at aG | (simp only [Int.reduceToNat] at aG;rw [← aU.out] at aG));have bu:=q_ (Kd.R_lower aG bz_);replace aa:=Bb_ aa hb;replace HB:=Bs_ hb;clear hb aG)))
      go_loopg [7,8,9] k1 (fun kq v7 v8 v9 w'=> ∃(aI:List Int) (aq:Int) (aC:Int),v8= .int .i64 aq∧v9= .int .i64 aC∧Aside0 (spec_RunChain.l1 kq l1 aI aq aC af ag=some (r1,r2))∧Aside0 (kq≤k1)∧Aside0 (Kd.R (Kd.int .i64) 2 w' w.heap.size (fun _=>True) v7 aI)∧Aside0 (w'.heap[ae]?=some (.cells #[(.slice au af.length av),(.slice aw ag.length ax)] 27 (0,0)))∧Aside0 (Below w.heap.size w w'))
      case atStart=>exact⟨(bO),(0),(0),rs_,rs_,H',⟨Nat.le_refl _⟩,⟨ro_ bu.out⟩,⟨bk_⟩,⟨hb_⟩⟩
      case round=>
       clear H';(try clear c1);(try clear c4);(try clear c5b0);(try clear c5b1);(try clear c12b0);(try clear c13);(try clear c13b0);(try clear c15);(try clear aM);(try clear aN);(try clear bF);(try clear bG);(try clear bJ);(try clear bK);(try clear aV);(try clear aW);(try clear aQ);(try clear aT);(try clear bH);(try clear bI);(try clear bL);(try clear bM);(try clear aX);(try clear aY);(try clear hx470_0);(try clear p470);(try clear q470);obtain⟨aI,aq,aC,rfl,rfl,HA,HK2,ak,aa,HB⟩:=hrel;cases gk with
       | zero=>exact absurd HA.out (by simp [spec_RunChain.l1])
       | succ k2=>
        have H:=HA.out;clear HA;simp only [spec_RunChain.l1] at H
        by_cases c20:aC < (l1.length:Int)
        ·rw [if_pos c20] at H;have c20b0:=decide_eq_true c20;clear c20
         by_cases c21:0≤aC
         ·rw [if_pos c21] at H;have c21b0:=decide_eq_true c21;clear c21;obtain⟨ji22,hji22⟩: ∃j_:Int,(IntKind.u64.wrap (rd l1 aC))=j_:=⟨_,rfl⟩
          replace H:(if 0≤(ji22) then((spec_l01Columns.f k2 af (Go.bits .xor .i64 aq (shl .i64 1 (ji22)))).bind fun aH=>((spec_l01Det.f k2 aH).bind fun aD=>(if aD=0 then(some (([]:List Int),5)) else(if aI.length < 17592186044416 then(spec_RunChain.l1 k2 l1 (aI++ [Go.bits .xor .i64 aq (shl .i64 1 (ji22))]) (Go.bits .xor .i64 aq (shl .i64 1 (ji22))) (wrap64 (aC+1)) af ag) else(none))))) else(none))=some (r1,r2):=by first | (rw [hji22] at H;exact H) | (simp only [hji22] at H ⊢;exact H)
          by_cases c23:0≤(ji22)
          ·rw [if_pos c23] at H;have c23b0:=eq_true c23;have c23b1:=decide_eq_true c23;clear c23;obtain⟨ji24,hji24⟩: ∃j_:Int,(shl .i64 1 (ji22))=j_:=⟨_,rfl⟩
           replace H:((spec_l01Columns.f k2 af (Go.bits .xor .i64 aq (ji24))).bind fun aH=>((spec_l01Det.f k2 aH).bind fun aD=>(if aD=0 then(some (([]:List Int),5)) else(if aI.length < 17592186044416 then(spec_RunChain.l1 k2 l1 (aI++ [Go.bits .xor .i64 aq (ji24)]) (Go.bits .xor .i64 aq (ji24)) (wrap64 (aC+1)) af ag) else(none)))))=some (r1,r2):=by first | (rw [hji24] at H;exact H) | (simp only [hji24] at H ⊢;exact H)
           have hji24_:=s1_ hji24;have hji24z:=s2_ hji24;have hji24u:=s3_ hji24;have hji24v:=s4_ hji24;have hji24y:=s5_ hji24;have hji24x:=s6_ hji24;replace H:=Option.bind_eq_some_iff.mp H;obtain⟨aH,A250,H⟩:=H;replace H:((spec_l01Det.f k2 aH).bind fun aD=>(if aD=0 then(some (([]:List Int),5)) else(if aI.length < 17592186044416 then(spec_RunChain.l1 k2 l1 (aI++ [Go.bits .xor .i64 aq (ji24)]) (Go.bits .xor .i64 aq (ji24)) (wrap64 (aC+1)) af ag) else(none))))=some (r1,r2):=H;have A25:=q_ A250;clear A250;replace H:=Option.bind_eq_some_iff.mp H;obtain⟨aD,A260,H⟩:=H;replace H:(if aD=0 then(some (([]:List Int),5)) else(if aI.length < 17592186044416 then(spec_RunChain.l1 k2 l1 (aI++ [Go.bits .xor .i64 aq (ji24)]) (Go.bits .xor .i64 aq (ji24)) (wrap64 (aC+1)) af ag) else(none)))=some (r1,r2):=H;have A26:=q_ A260;clear A260
           by_cases c27:aD=0
           ·rw [if_pos c27] at H;have c27b0:=e1_ c27;have c27b1:=e2_ c27;clear c27;simp only [Option.some.injEq,Prod.mk.injEq] at H;obtain⟨rfl,rfl⟩:=H;have p475:0≤(aC:Int):=od_;have q475:aC < (l1.length:Int):=od_;obtain⟨bX,e475,hx475_0⟩:=Kd.at_int HR1.out aC p475 q475;cases e475
            replace hx475_0:=bc_ HB.out hx475_0;replace p475:=eq_true p475;replace q475:=eq_true q475;obtain⟨bY,bZ,cf,cg⟩:=c2_ aa
            go_wp2_with (first | (go_at_call 57;(with_reducible refine(spec_l01Columns.calls k2 _ _ af (Go.bits .xor .i64 aq (ji24)) aH _ ?ah ?ai A25.out).mono ?_);(case ah=>exact cb_ HR0_0.out HB.out);(case ai=>exact HC0_0.out);rintro e w29 ⟨aZ,rfl,ho0,hb⟩;have aj:=q_ (Kd.S_lower (Kd.S_new' ho0 (Kd.R_lt (ro_ ak.out))) bz_);replace aa:=Bb_ aa hb;replace ak:=Rb_ ak hb;replace HB:=Bs_ hb;(try clear hb);(try clear hk);(try clear ho0);obtain⟨bQ,bR,a9⟩:=Kd.S_slice aj.out;subst a9) | (go_at_call 43;(with_reducible refine(spec_l01Det.calls k2 _ _ aH aD _ ?ah ?ai A26.out).mono ?_);(case ah=>exact cS_);(case ai=>exact(Kd.S_reads' aj.out).2.1);rintro e w31 ⟨rfl,hb⟩;replace ak:=Rb_ ak hb;replace aj:=q_ (Kd.S_below (so_ aj.out) hb);replace aa:=Bb_ aa hb;replace HB:=Bs_ hb;(try clear hb);(try clear hk)))
            repeat (go_quiet (first | (go_at_call 57;(with_reducible refine(spec_l01Columns.calls k2 _ _ af (Go.bits .xor .i64 aq (ji24)) aH _ ?ah ?ai A25.out).mono ?_);(case ah=>exact cb_ HR0_0.out HB.out);(case ai=>exact HC0_0.out);rintro e w29 ⟨aZ,rfl,ho0,hb⟩;have aj:=q_ (Kd.S_lower (Kd.S_new' ho0 (Kd.R_lt (ro_ ak.out))) bz_);replace aa:=Bb_ aa hb;replace ak:=Rb_ ak hb;replace HB:=Bs_ hb;(try clear hb);(try clear hk);(try clear ho0);obtain⟨bQ,bR,a9⟩:=Kd.S_slice aj.out;subst a9) | (go_at_call 43;(with_reducible refine(spec_l01Det.calls k2 _ _ aH aD _ ?ah ?ai A26.out).mono ?_);(case ah=>exact cS_);(case ai=>exact(Kd.S_reads' aj.out).2.1);rintro e w31 ⟨rfl,hb⟩;replace ak:=Rb_ ak hb;replace aj:=q_ (Kd.S_below (so_ aj.out) hb);replace aa:=Bb_ aa hb;replace HB:=Bs_ hb;(try clear hb);(try clear hk)));try go_wp2_with (first | (go_at_call 57;(with_reducible refine(spec_l01Columns.calls k2 _ _ af (Go.bits .xor .i64 aq (ji24)) aH _ ?ah ?ai A25.out).mono ?_);(case ah=>exact cb_ HR0_0.out HB.out);(case ai=>exact HC0_0.out);rintro e w29 ⟨aZ,rfl,ho0,hb⟩;have aj:=q_ (Kd.S_lower (Kd.S_new' ho0 (Kd.R_lt (ro_ ak.out))) bz_);replace aa:=Bb_ aa hb;replace ak:=Rb_ ak hb;replace HB:=Bs_ hb;(try clear hb);(try clear hk);(try clear ho0);obtain⟨bQ,bR,a9⟩:=Kd.S_slice aj.out;subst a9) | (go_at_call 43;(with_reducible refine(spec_l01Det.calls k2 _ _ aH aD _ ?ah ?ai A26.out).mono ?_);(case ah=>exact cS_);(case ai=>exact(Kd.S_reads' aj.out).2.1);rintro e w31 ⟨rfl,hb⟩;replace ak:=Rb_ ak hb;replace aj:=q_ (Kd.S_below (so_ aj.out) hb);replace aa:=Bb_ aa hb;replace HB:=Bs_ hb;(try clear hb);(try clear hk))))
            go_ret2
            exact⟨_,by first | rfl | (simp [errW_none,errW_some] <;> rfl) | (simp only [← hji22, ← hji24];first | rfl | (simp [errW_none,errW_some] <;> rfl)) | (simp [*,errW_none,errW_some] <;> rfl),by first | exact Kd.R_nil _ _ _ _ _ | exact Kd.N_nil _ _ _ _ _ | exact Kd.V_nil _ _ _ _ _ | exact Kd.Q_nil _ _ _ _ _ | exact Kd.S_nil _ _ _ _ _,hb_⟩
           ·rw [if_neg c27] at H;have c27b0:=e3_ c27;have c27b1:=e4_ c27
            by_cases c32:aI.length < 17592186044416
            ·rw [if_pos c32] at H;have bv:=q_ c32;clear c32;obtain⟨bS,hy⟩: ∃y_:List Int,y_=(aI++ [Go.bits .xor .i64 aq (ji24)]):=⟨_,rfl⟩
             replace H:(spec_RunChain.l1 k2 l1 bS (Go.bits .xor .i64 aq (ji24)) (wrap64 (aC+1)) af ag)=some (r1,r2):=hh_;have bw:=q_ hy;clear hy;have H':=q_ H;clear H;have p475:0≤(aC:Int):=od_;have q475:aC < (l1.length:Int):=od_;obtain⟨bX,e475,hx475_0⟩:=Kd.at_int HR1.out aC p475 q475;cases e475
             replace hx475_0:=bc_ HB.out hx475_0;replace p475:=eq_true p475;replace q475:=eq_true q475;obtain⟨cm,cu,cz,cA⟩:=c2_ aa
             go_wp2_with (first | (go_at_call 57;(with_reducible refine(spec_l01Columns.calls k2 _ _ af (Go.bits .xor .i64 aq (ji24)) aH _ ?ah ?ai A25.out).mono ?_);(case ah=>exact cb_ HR0_0.out HB.out);(case ai=>exact HC0_0.out);rintro e w34 ⟨aZ,rfl,ho0,hb⟩;have aj:=q_ (Kd.S_lower (Kd.S_new' ho0 (Kd.R_lt (ro_ ak.out))) bz_);replace aa:=Bb_ aa hb;replace ak:=Rb_ ak hb;replace HB:=Bs_ hb;(try clear hb);(try clear hk);(try clear ho0);obtain⟨bT,bU,ba⟩:=Kd.S_slice aj.out;subst ba) | (go_at_call 43;(with_reducible refine(spec_l01Det.calls k2 _ _ aH aD _ ?ah ?ai A26.out).mono ?_);(case ah=>exact cS_);(case ai=>exact(Kd.S_reads' aj.out).2.1);rintro e w36 ⟨rfl,hb⟩;replace ak:=Rb_ ak hb;replace aj:=q_ (Kd.S_below (so_ aj.out) hb);replace aa:=Bb_ aa hb;replace HB:=Bs_ hb;(try clear hb);(try clear hk)) | ((with_reducible refine gate_builtin (b:= .append) (xs:= #[.tmp 53, .tmp 55]) rfl ?_);at_builtin;refine Kd.R_append (Kd.int .i64) (w0:=w) w.heap.size rfl (.tmp 53) (.tmp 55) 25 2 (.int .i64 0) 8 rfl Try.underlying25 info2 rfl (by decide) (by omega) u7 aI (Go.bits .xor .i64 aq (ji24)) [.int .i64 (Go.bits .xor .i64 aq (ji24))] (fun _=>True) (fun _=>False) rfl rfl ?aP (fun _ hk=>hk.elim) ?aF ?aO ?aB ?aS ?aL ?_;(case aP=>exact rfl);(case aB=>exact hb_);(case aF=>exact(fun _ _=>trivial));(case aO=>exact(ro_ ak.out));(case aS=>exact bz_);(case aL=>have:=bv.out;omega);intro bV w37 ho hb hg hat;rw [← bw.out] at ho;replace aa:=q_ (bg_ aa.out hg (Kd.R_ne ak.out aa.out (by decide)));replace aj:=q_ (Kd.S_after (ok:=(fun _=>True)) (so_ aj.out) hg hat);replace HB:=q_ (hb);have bz:=q_ (ho);clear ak ho hb hg hat))
             repeat (go_quiet (first | (go_at_call 57;(with_reducible refine(spec_l01Columns.calls k2 _ _ af (Go.bits .xor .i64 aq (ji24)) aH _ ?ah ?ai A25.out).mono ?_);(case ah=>exact cb_ HR0_0.out HB.out);(case ai=>exact HC0_0.out);rintro e w34 ⟨aZ,rfl,ho0,hb⟩;have aj:=q_ (Kd.S_lower (Kd.S_new' ho0 (Kd.R_lt (ro_ ak.out))) bz_);replace aa:=Bb_ aa hb;replace ak:=Rb_ ak hb;replace HB:=Bs_ hb;(try clear hb);(try clear hk);(try clear ho0);obtain⟨bT,bU,ba⟩:=Kd.S_slice aj.out;subst ba) | (go_at_call 43;(with_reducible refine(spec_l01Det.calls k2 _ _ aH aD _ ?ah ?ai A26.out).mono ?_);(case ah=>exact cS_);(case ai=>exact(Kd.S_reads' aj.out).2.1);rintro e w36 ⟨rfl,hb⟩;replace ak:=Rb_ ak hb;replace aj:=q_ (Kd.S_below (so_ aj.out) hb);replace aa:=Bb_ aa hb;replace HB:=Bs_ hb;(try clear hb);(try clear hk)) | ((with_reducible refine gate_builtin (b:= .append) (xs:= #[.tmp 53, .tmp 55]) rfl ?_);at_builtin;refine Kd.R_append (Kd.int .i64) (w0:=w) w.heap.size rfl (.tmp 53) (.tmp 55) 25 2 (.int .i64 0) 8 rfl Try.underlying25 info2 rfl (by decide) (by omega) u7 aI (Go.bits .xor .i64 aq (ji24)) [.int .i64 (Go.bits .xor .i64 aq (ji24))] (fun _=>True) (fun _=>False) rfl rfl ?aP (fun _ hk=>hk.elim) ?aF ?aO ?aB ?aS ?aL ?_;(case aP=>exact rfl);(case aB=>exact hb_);(case aF=>exact(fun _ _=>trivial));(case aO=>exact(ro_ ak.out));(case aS=>exact bz_);(case aL=>have:=bv.out;omega);intro bV w37 ho hb hg hat;rw [← bw.out] at ho;replace aa:=q_ (bg_ aa.out hg (Kd.R_ne ak.out aa.out (by decide)));replace aj:=q_ (Kd.S_after (ok:=(fun _=>True)) (so_ aj.out) hg hat);replace HB:=q_ (hb);have bz:=q_ (ho);clear ak ho hb hg hat));try go_wp2_with (first | (go_at_call 57;(with_reducible refine(spec_l01Columns.calls k2 _ _ af (Go.bits .xor .i64 aq (ji24)) aH _ ?ah ?ai A25.out).mono ?_);(case ah=>exact cb_ HR0_0.out HB.out);(case ai=>exact HC0_0.out);rintro e w34 ⟨aZ,rfl,ho0,hb⟩;have aj:=q_ (Kd.S_lower (Kd.S_new' ho0 (Kd.R_lt (ro_ ak.out))) bz_);replace aa:=Bb_ aa hb;replace ak:=Rb_ ak hb;replace HB:=Bs_ hb;(try clear hb);(try clear hk);(try clear ho0);obtain⟨bT,bU,ba⟩:=Kd.S_slice aj.out;subst ba) | (go_at_call 43;(with_reducible refine(spec_l01Det.calls k2 _ _ aH aD _ ?ah ?ai A26.out).mono ?_);(case ah=>exact cS_);(case ai=>exact(Kd.S_reads' aj.out).2.1);rintro e w36 ⟨rfl,hb⟩;replace ak:=Rb_ ak hb;replace aj:=q_ (Kd.S_below (so_ aj.out) hb);replace aa:=Bb_ aa hb;replace HB:=Bs_ hb;(try clear hb);(try clear hk)) | ((with_reducible refine gate_builtin (b:= .append) (xs:= #[.tmp 53, .tmp 55]) rfl ?_);at_builtin;refine Kd.R_append (Kd.int .i64) (w0:=w) w.heap.size rfl (.tmp 53) (.tmp 55) 25 2 (.int .i64 0) 8 rfl Try.underlying25 info2 rfl (by decide) (by omega) u7 aI (Go.bits .xor .i64 aq (ji24)) [.int .i64 (Go.bits .xor .i64 aq (ji24))] (fun _=>True) (fun _=>False) rfl rfl ?aP (fun _ hk=>hk.elim) ?aF ?aO ?aB ?aS ?aL ?_;(case aP=>exact rfl);(case aB=>exact hb_);(case aF=>exact(fun _ _=>trivial));(case aO=>exact(ro_ ak.out));(case aS=>exact bz_);(case aL=>have:=bv.out;omega);intro bV w37 ho hb hg hat;rw [← bw.out] at ho;replace aa:=q_ (bg_ aa.out hg (Kd.R_ne ak.out aa.out (by decide)));replace aj:=q_ (Kd.S_after (ok:=(fun _=>True)) (so_ aj.out) hg hat);replace HB:=q_ (hb);have bz:=q_ (ho);clear ak ho hb hg hat)))
             go_roundg k2
             case measure=>have:=HK1.out;have:=HK2.out;omega
             case rel=>exact⟨(bS),(Go.bits .xor .i64 aq (ji24)),(wrap64 (aC+1)),(by first | rfl | (simp;done) | (simp only [← hji24] <;> (first | rfl | simp)) | (simp [*];done)),rs_,H',⟨by have:=HK1.out;have:=HK2.out;omega⟩,⟨ro_ bz.out⟩,⟨bk_⟩,⟨hb_⟩⟩
            ·rw [if_neg c32] at H;exact absurd H (by simp)
          ·rw [if_neg c23] at H;exact absurd H (by simp)
         ·rw [if_neg c21] at H;exact absurd H (by simp)
        ·rw [if_neg c20] at H;have c20b0:=decide_eq_false c20;clear c20;simp only [Option.some.injEq,Prod.mk.injEq] at H;obtain⟨rfl,rfl⟩:=H;go_wp2
         repeat (go_quiet (fail);try go_wp2)
         go_ret2
         exact⟨_,ew_,ro_ ak.out,hb_⟩
 ·replace c4:=Bool.eq_false_iff.mpr c4;subst c4;have H1:(some (([]:List Int),1))=some (r1,r2):=by rw [if_neg (show ¬ (false=true) by decide)] at H;exact H
  clear H;have H:=H1;clear H1;simp only [Option.some.injEq,Prod.mk.injEq] at H;obtain⟨rfl,rfl⟩:=H
  go_enter Try.func15,Try.ntmps15
  go_wp2_with (first | ((with_reducible refine gate_dst (N:=2) rfl ?_);refine be_ 2 #[.slice au af.length av, .slice aw ag.length ax] 27 ?_;intro ae hg w38 hbox hb;have aa:=q_ (hbox);have aJ:=gz_ w hg;have aK:=gz_ w hg;replace HB:=Bs_ hb;clear hb hbox hg;obtain⟨bf,bg,bh,bk⟩:=c2_ aa) | (go_at_call 55;(with_reducible refine(spec_l01Is.calls k _ _ af _ _ ag false _ ?ah ?ai ?az ?aA A3.out).mono ?_);(case ah=>exact cb_ HR0_0.out HB.out);(case ai=>exact HC0_0.out);(case az=>exact cb_ HR0_1.out HB.out);(case aA=>exact HC0_1.out);rintro e w40 ⟨rfl,hb⟩;replace aa:=Bb_ aa hb;replace HB:=Bs_ hb;(try clear hb);(try clear hk)))
  repeat (go_quiet (first | ((with_reducible refine gate_dst (N:=2) rfl ?_);refine be_ 2 #[.slice au af.length av, .slice aw ag.length ax] 27 ?_;intro ae hg w38 hbox hb;have aa:=q_ (hbox);have aJ:=gz_ w hg;have aK:=gz_ w hg;replace HB:=Bs_ hb;clear hb hbox hg;obtain⟨bf,bg,bh,bk⟩:=c2_ aa) | (go_at_call 55;(with_reducible refine(spec_l01Is.calls k _ _ af _ _ ag false _ ?ah ?ai ?az ?aA A3.out).mono ?_);(case ah=>exact cb_ HR0_0.out HB.out);(case ai=>exact HC0_0.out);(case az=>exact cb_ HR0_1.out HB.out);(case aA=>exact HC0_1.out);rintro e w40 ⟨rfl,hb⟩;replace aa:=Bb_ aa hb;replace HB:=Bs_ hb;(try clear hb);(try clear hk)));try go_wp2_with (first | ((with_reducible refine gate_dst (N:=2) rfl ?_);refine be_ 2 #[.slice au af.length av, .slice aw ag.length ax] 27 ?_;intro ae hg w38 hbox hb;have aa:=q_ (hbox);have aJ:=gz_ w hg;have aK:=gz_ w hg;replace HB:=Bs_ hb;clear hb hbox hg;obtain⟨bf,bg,bh,bk⟩:=c2_ aa) | (go_at_call 55;(with_reducible refine(spec_l01Is.calls k _ _ af _ _ ag false _ ?ah ?ai ?az ?aA A3.out).mono ?_);(case ah=>exact cb_ HR0_0.out HB.out);(case ai=>exact HC0_0.out);(case az=>exact cb_ HR0_1.out HB.out);(case aA=>exact HC0_1.out);rintro e w40 ⟨rfl,hb⟩;replace aa:=Bb_ aa hb;replace HB:=Bs_ hb;(try clear hb);(try clear hk))))
  go_ret2
  exact⟨_,ew_,by first | exact Kd.R_nil _ _ _ _ _ | exact Kd.N_nil _ _ _ _ _ | exact Kd.V_nil _ _ _ _ _ | exact Kd.Q_nil _ _ _ _ _ | exact Kd.S_nil _ _ _ _ _,hb_⟩
end Go.Proofs.Ytbjljcpngbhkeaa.Pr
end
section
namespace Go.Proofs.Ytbjljcpngbhkeaa.Rn
open Go.RowKit Wz.PrintWords Wz.PrintMore Ma Pr Dt Bz Un Cz Pb Mn
def chV (n:Nat) (l:List (List Int)):List Int→List Int→Int→List Int × Int
 | [],out,_=>(out,0)
 | i::t,out,s=>if det n (colM (bB (Go.bits .xor .i64 s (shl .i64 1 i))) (en l))=0 then([],5) else chV n l t (out++ [Go.bits .xor .i64 s (shl .i64 1 i)]) (Go.bits .xor .i64 s (shl .i64 1 i))
theorem chV_len (n:Nat) (l:List (List Int)): ∀(c out:List Int) (s:Int),(chV n l c out s).1.length≤out.length+c.length
 | [],out,_=>by simp [chV]
 | i::t,out,s=>by
  unfold chV
  split
  ·simp
  ·have:=chV_len n l t (out++ [Go.bits .xor .i64 s (shl .i64 1 i)]) (Go.bits .xor .i64 s (shl .i64 1 i))
   simp only [List.length_append,List.length_cons,List.length_nil] at this ⊢
   omega
section
variable {n:Nat} {l:List (List Int)} (h:Sq n l) (hn:n≤5)
include h hn
theorem impl_chn: ∀(c out:List Int) (s:Int),out.length+c.length≤1000→Ev (fun k=>chn k l c out s) (chV n l c out s):=by
 intro c
 induction c with
 | nil=>intro out s _;exact evc rfl
 | cons i t ih=>
  intro out s ho
  simp only [List.length_cons] at ho
  unfold chn chV
  refine evbind (minor_eq h hn _) ?_
  have z:=det_colM_zero n (bB (Go.bits .xor .i64 s (shl .i64 1 i))) (en l)
  by_cases c0:det n (colM (bB (Go.bits .xor .i64 s (shl .i64 1 i))) (en l))=0
  ·rw [if_pos c0]
   exact evpos (z.1 c0) (evc rfl)
  ·rw [if_neg c0]
   exact evneg (fun q=>c0 (z.2 q)) (evpos (by omega) (ih _ _ (by simp;omega)))
theorem spec_chn (q c:List Int) (hc: ∀i,i < c.length→0≤c.getD i 0∧c.getD i 0≤100) (hc2:c.length≤20): ∀m i (out:List Int) (s:Int),i+m=c.length→out.length=i+1→Ev (fun k=>spec_RunChain.l1 k c out s i l q) (chV n l (c.drop i) out s):=by
 intro m
 induction m with
 | zero=>
  intro i out s hi _
  rw [List.drop_of_length_le (by omega)]
  show Ev _ (out,(0:Int))
  exact evstep (fun k=>by rw [spec_RunChain.l1]) (evneg (by omega) (evc rfl))
 | succ m ih=>
  intro i out s hi ho
  have hlt:i < c.length:=by omega
  have hb:=hc i hlt
  have e:c.getD i 0=c[i]:=by simp [hlt]
  rw [List.drop_eq_getElem_cons hlt]
  unfold chV
  refine evstep (fun k=>by rw [spec_RunChain.l1]) (evpos (by omega) (evpos (by omega) ?_))
  rw [rd_nat,u64w (x:=c.getD i 0) (by omega) (by omega),w64 (x:=(i:Int)+1) (by omega) (by omega),e]
  refine evpos (by omega) (evbind (spec_cols h hn _) (evbind (cols_det h hn _) ?_))
  by_cases c0:det n (colM (bB (Go.bits .xor .i64 s (shl .i64 1 c[i]))) (en l))=0
  ·rw [if_pos c0];exact evpos c0 (evc rfl)
  ·rw [if_neg c0]
   exact evneg c0 (evpos (by omega) (ih (i+1) _ _ (by omega) (by simp [ho])))
end
theorem badC_iff (n:Nat) (i:Int):badC n i=false↔0≤i∧i≤(n:Int) - 1:=by unfold badC;simp
theorem any_badC (n:Nat) (c:List Int):c.any (badC n)=false↔ ∀i,0≤i→i < c.length→0≤c.getD i 0∧c.getD i 0≤(n:Int) - 1:=by
 rw [any_false]
 constructor
 ·intro h i _ hi
  have:=(badC_iff n _).1 (h i hi)
  simpa [hi] using this
 ·intro h i hi
  have:=h i (Nat.zero_le _) hi
  exact(badC_iff n _).2 (by simpa [hi] using this)
theorem spec_range (l:List (List Int)) (q c:List Int) (hq:q.length≤5) (hc2:c.length≤20) (R:List Int × Int) (next:(∀i,0≤i→i < c.length→0≤c.getD i 0∧c.getD i 0≤(q.length:Int) - 1)→Ev (fun k=>spec_RunChain.l1 k c [0] 0 0 l q) R) (no: ¬ (∀i,0≤i→i < c.length→0≤c.getD i 0∧c.getD i 0≤(q.length:Int) - 1)→R=([],2)):
  ∀m i,i+m=c.length→(∀j,j < i→0≤c.getD j 0∧c.getD j 0≤(q.length:Int) - 1)→Ev (fun k=>spec_RunChain.l0 k c i l q) R:=by
 intro m
 induction m with
 | zero=>
  intro i hi h
  obtain rfl:i=c.length:=by omega
  exact evstep (fun k=>by rw [spec_RunChain.l0]) (evneg (by omega) (next (fun j _ hj=>h j hj)))
 | succ m ih=>
  intro i hi h
  refine evstep (fun k=>by rw [spec_RunChain.l0]) (evpos (by omega) (evpos (by omega) (evsome (sin_eq _ _ _) ?_)))
  rw [rd_nat,w64 (x:=(i:Int)+1) (by omega) (by omega),w64 (x:=(q.length:Int) - 1) (by omega) (by omega)]
  by_cases d:0≤c.getD i 0∧c.getD i 0≤(q.length:Int) - 1
  ·refine evpos (decide_eq_true d) (ih (i+1) (by omega) (fun j hj=>?_))
   by_cases e:j=i
   ·subst e;exact d
   ·exact h j (by omega)
  ·rw [no (fun hh=>d (hh i (Nat.zero_le _) (by omega)))]
   exact evneg (by simpa using d) (evc rfl)
open Classical in
theorem both (M:List (List Int)) (q c:List Int) (hq:q.length≤1048576): ∃R:List Int × Int,Ev (fun k=>spec_RunChain.f k M q c) R∧Ev (fun k=>impl_RunChain.f k M q c) R∧R.1.length≤21:=by
 have hb:decide (POK M q)=true↔POK M q:=by simp
 have is:=Pb.impl_is M q _ hb
 have ss:=Pb.spec_is M q hq _ hb
 by_cases p:POK M q
 ·have pd:decide (POK M q)=true:=by simpa using p
  have hn:=p.mat.n5;have hl:=p.len
  by_cases c20:(c.length:Int) > 20
  ·refine⟨([],2),?_,?_,by simp⟩
   ·unfold spec_RunChain.f;exact evbind ss (evpos pd (evpos c20 (evc rfl)))
   ·unfold impl_RunChain.f;exact evsome is (evpos pd (evpos (by omega) (evpos c20 (evc rfl))))
  ·by_cases bad:c.any (badC q.length)=true
   ·have nb: ¬ (∀i,0≤i→i < c.length→0≤c.getD i 0∧c.getD i 0≤(q.length:Int) - 1):=by
     rw [← any_badC,bad];simp
    refine⟨([],2),?_,?_,by simp⟩
    ·unfold spec_RunChain.f
     exact evbind ss (evpos pd (evneg c20 (spec_range M q c (by omega) (by omega) _ (fun hh=>absurd hh nb) (fun _=>rfl) c.length 0 (by omega) (fun j hj=>by omega))))
    ·unfold impl_RunChain.f;exact evsome is (evpos pd (evpos (by omega) (evneg c20 (evpos bad (evc rfl)))))
   ·have nb: ∀i,0≤i→i < c.length→0≤c.getD i 0∧c.getD i 0≤(q.length:Int) - 1:=by
     rw [← any_badC];simpa using bad
    have len:=chV_len M.length M c [0] 0
    refine⟨chV M.length M c [0] 0,?_,?_,by simp only [List.length_cons,List.length_nil] at len;omega⟩
    ·unfold spec_RunChain.f
     refine evbind ss (evpos pd (evneg c20 (spec_range M q c (by omega) (by omega) _ (fun hh=>?_) (fun hh=>absurd nb hh) c.length 0 (by omega) (fun j hj=>by omega))))
     exact spec_chn p.mat.sq hn q c (fun i hi=>by have:=nb i (Nat.zero_le _) hi;omega) (by omega) c.length 0 [0] 0 (by omega) rfl
    ·unfold impl_RunChain.f
     exact evsome is (evpos pd (evpos (by omega) (evneg c20 (evneg bad (impl_chn p.mat.sq hn c [0] 0 (by simp;omega))))))
 ·have pd: ¬ decide (POK M q)=true:=by simpa using p
  refine⟨([],1),?_,?_,by simp⟩
  ·unfold spec_RunChain.f;exact evbind ss (evneg pd (evc rfl))
  ·unfold impl_RunChain.f;exact evsome is (evneg pd (evc rfl))
end Go.Proofs.Ytbjljcpngbhkeaa.Rn
end
section
namespace Go.Proofs.Ytbjljcpngbhkeaa.Pr
open Go.RowKit Wz.PrintWords Wz.PrintLast Wz.PrintMore
attribute [local go_sem] max2_int min2_int max_two min_two max_three min_three max_four min_four
def laws_hasInt.l0:Nat→List Int→Int→Int→Option (Bool)
 | 0,_,_,_=>none
 | k+1,x0,x1,x5=>if x5 < (x0.length:Int) then(if 0≤x5 then(if(rd x0 x5)=x1 then(some true) else(laws_hasInt.l0 k x0 x1 (wrap64 (x5+1)))) else(none)) else(some false)
def laws_hasInt.f (k:Nat) (l0:List Int) (a1:Int):Option (Bool):=laws_hasInt.l0 k l0 a1 0
theorem laws_hasInt.calls (k:Nat) (A0:Option Addr) (c0:Nat) (l0:List Int) (a1:Int) (r:Bool) (w:World) (hr0:Kd.C (Kd.int .i64) w A0 l0.length l0) (hc0:l0.length≤c0) (h:laws_hasInt.f k l0 a1=some r):
  Calls Try.prog 18 #[.slice A0 l0.length c0, .int .i64 a1] w fun e w'=>e= .returned (.bool r)∧Drawn0 w w':=by
 have HR0:=q_ hr0;have HC0:=q_ hc0;clear hr0 hc0;have H:(laws_hasInt.l0 k l0 a1 0)=some r:=h;clear h;have H':=q_ H;clear H
 go_enter Try.func18,Try.ntmps18
 go_wp2
 go_loopg [5] k (fun kq v5 w'=> ∃(aa:Int),v5= .int .i64 aa∧Aside0 (laws_hasInt.l0 kq l0 a1 aa=some r)∧Aside0 (kq≤k)∧Drawn0 w w')
 case atStart=>exact⟨(0),(by first | rfl | (simp;done) | (simp [*];done)),H',⟨Nat.le_refl _⟩,by repeat (first | exact Drawn0.refl _ | apply Drawn0.step)⟩
 case round=>
  clear H';obtain⟨aa,rfl,HA,HK1,⟨m1,rfl⟩⟩:=hrel;cases gk with
  | zero=>exact absurd HA.out (by simp [laws_hasInt.l0])
  | succ k1=>
   have H:=HA.out;clear HA;simp only [laws_hasInt.l0] at H
   by_cases c3:aa < (l0.length:Int)
   ·rw [if_pos c3] at H;have c3b0:=decide_eq_true c3;clear c3
    by_cases c4:0≤aa
    ·rw [if_pos c4] at H;have c4b0:=decide_eq_true c4;clear c4
     by_cases c5:(rd l0 aa)=a1
     ·rw [if_pos c5] at H;have c5b0:=e1_ c5;have c5b1:=e2_ c5;clear c5;obtain rfl:=Option.some.inj H;have p484:0≤(aa:Int):=of_decide_eq_true (by first | (with_reducible assumption) | assumption);have q484:aa < (l0.length:Int):=of_decide_eq_true (by first | (with_reducible assumption) | assumption);obtain⟨ae,e484,hx484_0⟩:=Kd.at_int HR0.out aa p484 q484;cases e484
      replace p484:=eq_true p484;replace q484:=eq_true q484;go_wp2
      go_ret
      exact⟨by first | rfl | (simp;done) | (simp [*];done),by repeat (first | exact Drawn0.refl _ | apply Drawn0.step)⟩
     ·rw [if_neg c5] at H;have c5b0:=e3_ c5;have c5b1:=e4_ c5;have H':=q_ H;clear H;have p484:0≤(aa:Int):=of_decide_eq_true (by first | (with_reducible assumption) | assumption);have q484:aa < (l0.length:Int):=of_decide_eq_true (by first | (with_reducible assumption) | assumption);obtain⟨ae,e484,hx484_0⟩:=Kd.at_int HR0.out aa p484 q484;cases e484
      replace p484:=eq_true p484;replace q484:=eq_true q484;go_wp2
      go_roundg k1
      case measure=>have:=HK1.out;omega
      case rel=>exact⟨(wrap64 (aa+1)),(by first | rfl | (simp;done) | (simp [*];done)),H',⟨by have:=HK1.out;omega⟩,by repeat (first | exact Drawn0.refl _ | apply Drawn0.step)⟩
    ·rw [if_neg c4] at H;exact absurd H (by simp)
   ·rw [if_neg c3] at H;have c3b0:=decide_eq_false c3;clear c3;obtain rfl:=Option.some.inj H;go_wp2
    go_ret
    exact⟨by first | rfl | (simp;done) | (simp [*];done),by repeat (first | exact Drawn0.refl _ | apply Drawn0.step)⟩
end Go.Proofs.Ytbjljcpngbhkeaa.Pr
end
section
namespace Go.Proofs.Ytbjljcpngbhkeaa.Pp
open Go.RowKit Wz.PrintWords Wz.PrintMore Ma Pr Dt Bz Un Cz Pb Mn Sv Pv Pvb
def cpL (M:List (List Int)) (s:Int):List (List Int):=partL (pvR M.length M s) (sel M.length (nb s)) (sel M.length (nb s))
noncomputable def cpO (M:List (List Int)) (Q:List Int) (s:Int):List (List Int) × Int × Int:=if codeS M Q s=0 then(if s=((2 ^ Q.length:Nat):Int) - 1 then([],0,2) else if det M.length (Cm s M)=0 then([],0,5) else(cpL M s,ab (det M.length (Cm s M)),0)) else([],0,codeS M Q s)
theorem impl_comp (M:List (List Int)) (Q:List Int) (s:Int):Ev (fun k=>impl_ComplementOf.f k M Q s) (cpO M Q s):=by
 have ic:=impl_code M Q s
 have ip:=impl_pivotOf_eq M Q s
 unfold impl_ComplementOf.f cpO
 by_cases c:codeS M Q s=0
 ·obtain⟨p,hs⟩:=code_zero c
  have hq:=p.len;have h5:=p.mat.n5
  have ei:wrap64 (shl .i64 1 (Q.length:Int) - 1)=((2 ^ Q.length:Nat):Int) - 1:=pow_sub (by omega)
  have ea:impl_Problem_all.f M Q=some (shl .i64 1 (Q.length:Int)):=by unfold impl_Problem_all.f;rfl
  have hpw:1≤2 ^ Q.length:=Nat.one_le_two_pow
  have hp5:2 ^ Q.length≤2 ^ 5:=Nat.pow_le_pow_right (by decide) (by omega)
  rw [if_pos c]
  refine evsome ic (evpos c (evsome ea ?_))
  rw [ei]
  by_cases z:s=((2 ^ Q.length:Nat):Int) - 1
  ·rw [if_pos z];exact evpos z (evc rfl)
  ·rw [if_neg z]
   unfold pvO at ip
   rw [if_pos c] at ip
   by_cases d:det M.length (Cm s M)=0
   ·rw [if_pos d] at ip ⊢
    exact evneg z (evbind ip (evneg (by simp) (evc rfl)))
   ·rw [if_neg d] at ip ⊢
    refine evneg z (evbind ip (evpos rfl (evsome ea ?_)))
    rw [ei]
    have h2:=hs.2;have h0:=hs.1
    have ew:wrap64 (((2 ^ Q.length:Nat):Int) - 1 - s)=((2 ^ Q.length:Nat):Int) - 1 - s:=w64 (by omega) (by omega)
    rw [ew]
    have ht:=impl_part_eq' h5 (pvR_len M.length M s) (fun i hi=>pvR_getD hi M s) (((2 ^ Q.length:Nat):Int) - 1 - s)
    rw [show sel M.length (bB (((2 ^ Q.length:Nat):Int) - 1 - s))=sel M.length (nb s) from sel_congr (fun i hi=>bB_rest (n:=Q.length) (by omega) hs (by omega))] at ht
    exact evbind ht (evc rfl)
 ·rw [if_neg c]
  exact evsome ic (evneg c (evc rfl))
theorem sel_one {n:Nat} {P:Nat→Bool} (h:(sel n P).length=1): ∃r,sel n P= [r]∧r < n∧P r=true∧ ∀i,i < n→i≠r→P i=false:=by
 obtain⟨r,hr⟩:=List.length_eq_one_iff.1 h
 have hm:r ∈ sel n P:=by rw [hr];simp
 have hm2:=List.mem_filter.1 hm
 refine⟨r,hr,List.mem_range.1 hm2.1,hm2.2,fun i hi hne=>?_⟩
 cases hp:P i with
 | false=>rfl
 | true=>
  have:i ∈ sel n P:=List.mem_filter.2 ⟨List.mem_range.2 hi,hp⟩
  rw [hr] at this
  exact absurd (List.mem_singleton.1 this) hne
theorem comp_one {M:List (List Int)} {Q:List Int} {s:Int} (p:POK M Q) (hs:SetIn Q.length s) (h1:(cpL M s).length=1):1≤((cpL M s).getD 0 []).length∧en (cpL M s) 0 0*mi M s=mi M (((2 ^ Q.length:Nat):Int) - 1)*ab (det M.length (Cm s M)):=by
 have hq:=p.len;have h5:=p.mat.n5
 have hl:(sel M.length (nb s)).length=1:=by rw [← h1];unfold cpL;rw [partL_len]
 obtain⟨r,hr,hrn,hP,hoth⟩:=sel_one hl
 have hbr:bB s r=false:=by unfold nb at hP;simpa using hP
 have hbo (i:Nat) (hi:i < M.length) (hne:i≠r):bB s i=true:=by
  have:=hoth i hi hne
  unfold nb at this
  simpa using this
 have e0:cpL M s= [[en (pvR M.length M s) r r]]:=by unfold cpL partL;rw [hr];rfl
 refine⟨by rw [e0];simp,?_⟩
 have e1:en (cpL M s) 0 0=en (pvR M.length M s) r r:=by rw [e0];rfl
 rw [e1,pv_en p.mat.sq h5 s hrn hrn]
 have hfull (i:Nat) (hi:i < M.length):bB (((2 ^ Q.length:Nat):Int) - 1) i=true:=full_bit (by omega) (by omega)
 have eD:det M.length (cset r (outC (bB s) (en M) r) (Cm s M))=det M.length (colM (bB (((2 ^ Q.length:Nat):Int) - 1)) (en M)):=by
  refine det_congr (fun i j hi hj=>?_)
  unfold cset
  by_cases e:j=r
  ·rw [if_pos e]
   unfold outC colM
   rw [if_neg (by simp [hbr]),if_pos (hfull j hj),e]
  ·rw [if_neg e]
   unfold Cm colM
   rw [if_pos (hbo j hj e),if_pos (hfull j hj)]
 rw [eD]
 have hsg:=sign_xor (bB s) (nb s) M.length
 have es:sel M.length (fun k=>xor (bB s k) (nb s k))=sel M.length (bB (((2 ^ Q.length:Nat):Int) - 1)):=sel_congr (fun i hi=>by
  rw [hfull i hi]
  unfold nb
  cases bB s i <;> rfl)
 rw [es,hl,Int.pow_succ,Int.pow_zero,Int.one_mul] at hsg
 have d1:det M.length (Cm s M)=(-1) ^ (sel M.length (bB s)).length*mi M s:=det_colM M.length (bB s) (en M)
 have d2:=det_colM M.length (bB (((2 ^ Q.length:Nat):Int) - 1)) (en M)
 rw [← hsg] at d2
 rw [d2]
 rw [← sgn_mul_ab (d:=det M.length (Cm s M))]
 show -(sgn (det M.length (Cm s M))*((-1) ^ (sel M.length (bB s)).length*(-1)*mi M (((2 ^ Q.length:Nat):Int) - 1)))*mi M s=mi M (((2 ^ Q.length:Nat):Int) - 1)*(sgn (det M.length (Cm s M))*det M.length (Cm s M))
 generalize hg:sgn (det M.length (Cm s M))=g
 rw [d1]
 generalize (-1:Int) ^ (sel M.length (bB s)).length=x
 generalize mi M (((2 ^ Q.length:Nat):Int) - 1)=W
 generalize mi M s=m
 simp only [Int.mul_one,Int.neg_mul,Int.mul_neg,Int.neg_neg]
 ac_rfl
theorem sh_full {n:Nat} (hn:n≤5):wrap64 (wrap64 (2 ^ min (IntKind.u64.wrap (n:Int)).toNat 64) - 1)=((2 ^ n:Nat):Int) - 1:=by
 have h:n=0∨n=1∨n=2∨n=3∨n=4∨n=5:=by omega
 rcases h with rfl | rfl | rfl | rfl | rfl | rfl <;> decide+kernel
structure CpF (k:Nat) (M:List (List Int)) (Q:List Int) (u:Int) (R:List (List Int)) (den two whole own:Int):Prop where
 im:impl_ComplementOf.f k M Q u=some (R,den,two)
 sp:spec_ComplementOf.f k M Q u=some (R,den,two)
 q:laws_rows9.f k R R=some true
 one:two=0→R.length=1→impl_IsMatrix.f M=some true∧wrap64 (wrap64 (2 ^ min (IntKind.u64.wrap (Q.length:Int)).toNat 64) - 1)=((2 ^ Q.length:Nat):Int) - 1∧impl_isSet.f (((2 ^ Q.length:Nat):Int) - 1) (M.length:Int)=some true∧impl_minor.f k M (((2 ^ Q.length:Nat):Int) - 1)=some whole∧impl_isSet.f u (M.length:Int)=some true∧impl_minor.f k M u=some own∧1≤(R.getD 0 []).length∧wrap64 (en R 0 0*own)=wrap64 (whole*den)
theorem all_comp (M:List (List Int)) (Q:List Int) (u:Int) (hQ:Q.length≤1048576): ∃(k:Nat) (R:List (List Int)) (den two whole own:Int),CpF k M Q u R den two whole own:=by
 obtain⟨⟨R,den,two⟩,s1,i1,hf⟩:=complement M Q u hQ
 replace hf:Few R:=hf
 have q1:=rows_same R hf
 have e:=ev_eq i1 (impl_comp M Q u)
 obtain⟨n1,s1⟩:=s1
 obtain⟨n2,i1⟩:=i1
 obtain⟨n3,q1⟩:=q1
 by_cases h:two=0∧R.length=1
 ·obtain⟨h0,h1⟩:=h
  unfold cpO at e
  by_cases c:codeS M Q u=0
  ·rw [if_pos c] at e
   obtain⟨p,hs⟩:=code_zero c
   have hq:=p.len;have h5:=p.mat.n5
   by_cases z:u=((2 ^ Q.length:Nat):Int) - 1
   ·rw [if_pos z] at e;injection e with e1 e2;rw [e1] at h1;cases h1
   ·rw [if_neg z] at e
    by_cases d:det M.length (Cm u M)=0
    ·rw [if_pos d] at e;injection e with e1 e2;rw [e1] at h1;cases h1
    ·rw [if_neg d] at e
     injection e with e1 e2
     injection e2 with e2 e3
     subst e1;subst e2
     have hpw:1≤2 ^ Q.length:=Nat.one_le_two_pow
     obtain⟨n4,m1⟩:=impl_mi p.mat (((2 ^ Q.length:Nat):Int) - 1)
     obtain⟨n5,m2⟩:=impl_mi p.mat u
     obtain⟨c1,c2⟩:=comp_one p hs h1
     have q1':=isSet_in (n:=M.length) (by omega) (s:=((2 ^ Q.length:Nat):Int) - 1) (by rw [← hq];exact⟨by omega,by omega⟩)
     have q2':=isSet_in (n:=M.length) (by omega) (s:=u) (by rw [← hq];exact hs)
     exact⟨n1+n2+n3+n4+n5,_,_,two,_,_,i1 _ (by omega),s1 _ (by omega),q1 _ (by omega),fun _ _=>⟨isMat_ok p.mat,sh_full (by omega),q1',m1 _ (by omega),q2',m2 _ (by omega),c1,congrArg wrap64 c2⟩⟩
  ·rw [if_neg c] at e;injection e with e1 e2;rw [e1] at h1;cases h1
 ·exact⟨n1+n2+n3,R,den,two,0,0,i1 _ (by omega),s1 _ (by omega),q1 _ (by omega),fun a b=>absurd ⟨a,b⟩ h⟩
theorem chV_good (n:Nat) (hn:n≤5) (l:List (List Int)): ∀(c out:List Int) (s:Int),(∀i ∈ c,0≤i∧i≤(n:Int) - 1)→SetIn n s→(∀x ∈ out,SetIn n x∧det n (colM (bB x) (en l))≠0)→(Rn.chV n l c out s).2=0→(Rn.chV n l c out s).1.length=out.length+c.length∧(0 < out.length→(Rn.chV n l c out s).1.getD 0 0=out.getD 0 0)∧ ∀x ∈ (Rn.chV n l c out s).1,SetIn n x∧det n (colM (bB x) (en l))≠0
 | [],out,s=>fun _ _ ho _=>⟨rfl,fun _=>rfl,ho⟩
 | i::t,out,s=>by
  intro hc hs ho h
  have hi:=hc i (by simp)
  obtain⟨j,rfl⟩:=Int.eq_ofNat_of_zero_le hi.1
  have hj:j < n:=by omega
  have hpl:2 ^ j < 2 ^ n:=Nat.pow_lt_pow_right (by decide) hj
  have hp5:2 ^ n≤2 ^ 5:=Nat.pow_le_pow_right (by decide) hn
  have ej:shl .i64 1 (j:Int)=((2 ^ j:Nat):Int):=by rw [shl_one (by omega) (by omega),Int.toNat_natCast]
  have hx:SetIn n (Go.bits .xor .i64 s (shl .i64 1 (j:Int))):=by
   rw [ej]
   exact(xor_in hn hs ⟨Int.natCast_nonneg _,by generalize 2 ^ j=a at hpl ⊢;generalize 2 ^ n=b at hpl ⊢;omega⟩).1
  unfold Rn.chV at h ⊢
  by_cases d:det n (colM (bB (Go.bits .xor .i64 s (shl .i64 1 (j:Int)))) (en l))=0
  ·rw [if_pos d] at h;cases h
  ·rw [if_neg d] at h ⊢
   obtain⟨a1,a2,a3⟩:=chV_good n hn l t (out++ [Go.bits .xor .i64 s (shl .i64 1 (j:Int))]) (Go.bits .xor .i64 s (shl .i64 1 (j:Int))) (fun i hi=>hc i (by simp [hi])) hx (fun x hx2=>by
    rcases List.mem_append.1 hx2 with h2 | h2
    ·exact ho x h2
    ·rw [List.mem_singleton.1 h2];exact⟨hx,d⟩) h
   refine⟨by rw [a1];simp;omega,fun h0=>?_,a3⟩
   rw [a2 (by simp)]
   cases out with
   | nil=>cases h0
   | cons a b=>rfl
theorem has_int {l:List Int} (hl:l.length≤1048576) {x:Int} (hx:x ∈ l):Ev (fun k=>laws_hasInt.f k l x) true:=by
 unfold laws_hasInt.f
 have key: ∀m i,i+m=l.length→(∃j,i≤j∧j < l.length∧l.getD j 0=x)→Ev (fun k=>laws_hasInt.l0 k l x (i:Int)) true:=by
  intro m
  induction m with
  | zero=>intro i hi ⟨j,h1,h2,_⟩;omega
  | succ m ih=>
   intro i hi ⟨j,h1,h2,h3⟩
   refine evstep (fun k=>by rw [laws_hasInt.l0]) (evpos (by omega) (evpos (by omega) ?_))
   rw [rd_nat]
   by_cases e:l.getD i 0=x
   ·exact evpos e (evc rfl)
   ·refine evneg e ?_
    rw [w64 (x:=(i:Int)+1) (by omega) (by omega)]
    exact ih (i+1) (by omega) ⟨j,by rcases Nat.lt_or_eq_of_le h1 with h | h;exact h;subst h;exact absurd h3 e,h2,h3⟩
 obtain⟨j,hj,e⟩:=List.getElem_of_mem hx
 exact key l.length 0 (by omega) ⟨j,Nat.zero_le _,hj,by simp [hj,e]⟩
theorem mem_ba {ok:Nat→Bool} {s:Nat} (h:ok s=true): ∀m,s < m→(s:Int) ∈ baL ok m:=by
 intro m
 induction m with
 | zero=>intro h;omega
 | succ m ih=>
  intro hm
  rw [baL_succ]
  by_cases e:s=m
  ·subst e;rw [if_pos h];simp
  ·have:=ih (by omega)
   split
   ·exact List.mem_append_left _ this
   ·exact this
structure RcF (k:Nat) (M:List (List Int)) (Q C S:List Int) (three:Int) (m:Nat) (ok:Nat→Bool):Prop where
 im:impl_RunChain.f k M Q C=some (S,three)
 sp:spec_RunChain.f k M Q C=some (S,three)
 q:laws_likeInts.f k S S=some true
 len:S.length≤21
 good:three=0→m≤1000∧impl_IsProblem.f M Q=some true∧impl_Problem_all.f M Q=some (m:Int)∧(∀s:Nat,s < m→ ∃(k:Nat) (pt:List Int) (den:Int),impl_Problem_point.f k M Q (s:Int)=some (pt,den,ok s))∧S.length=C.length+1∧S.getD 0 0=0∧ ∀i:Nat,i < S.length→laws_hasInt.f k (baL ok m) (S.getD i 0)=some true
theorem all_many {f:Nat→Int→Option Bool} {S:List Int} (h: ∀x ∈ S,Ev (fun k=>f k x) true): ∃n, ∀k,n≤k→ ∀x ∈ S,f k x=some true:=by
 induction S with
 | nil=>exact⟨0,fun _ _ x hx=>by cases hx⟩
 | cons a t ih=>
  obtain⟨n1,h1⟩:=h a (by simp)
  obtain⟨n2,h2⟩:=ih (fun x hx=>h x (by simp [hx]))
  refine⟨n1+n2,fun k hk x hx=>?_⟩
  rcases List.mem_cons.1 hx with e | e
  ·rw [e];exact h1 k (by omega)
  ·exact h2 k (by omega) x e
theorem all_chain (M:List (List Int)) (Q C:List Int) (hQ:Q.length≤1048576): ∃(k:Nat) (S:List Int) (three:Int) (m:Nat) (ok:Nat→Bool),RcF k M Q C S three m ok:=by
 classical
 obtain⟨⟨S,three⟩,s1,i1,hS⟩:=Rn.both M Q C hQ
 replace hS:S.length≤21:=hS
 have q1:=like_same S (by omega)
 have is:=Pb.impl_is M Q (decide (POK M Q)) (by simp)
 have e (X:List Int × Int) (h:Ev (fun k=>impl_RunChain.f k M Q C) X):(S,three)=X:=ev_eq i1 h
 obtain⟨n1,s1⟩:=s1
 obtain⟨n2,i1⟩:=i1
 obtain⟨n3,q1⟩:=q1
 by_cases h:three=0
 ·by_cases p:POK M Q
  ·have pd:decide (POK M Q)=true:=by simpa using p
   have hl:=p.len;have h5:=p.mat.n5;have h1:=p.mat.n1
   by_cases c20:(C.length:Int) > 20
   ·have:=e ([],2) (by unfold impl_RunChain.f;exact evsome is (evpos pd (evpos (by omega) (evpos c20 (evc rfl)))))
    injection this with _ e2
    rw [h] at e2;cases e2
   ·by_cases bad:C.any (badC Q.length)=true
    ·have:=e ([],2) (by unfold impl_RunChain.f;exact evsome is (evpos pd (evpos (by omega) (evneg c20 (evpos bad (evc rfl))))))
     injection this with _ e2
     rw [h] at e2;cases e2
    ·have eN:=e (Rn.chV M.length M C [0] 0) (by unfold impl_RunChain.f;exact evsome is (evpos pd (evpos (by omega) (evneg c20 (evneg bad (Rn.impl_chn p.mat.sq h5 C [0] 0 (by simp;omega)))))))
     have hp2:1≤2 ^ M.length:=Nat.one_le_two_pow
     have hp5:2 ^ M.length≤2 ^ 5:=Nat.pow_le_pow_right (by decide) h5
     have hb (i:Nat) (hi:i < M.length):bB 0 i=false:=by
      have:=bB_nat 0 i (by omega)
      rw [Nat.zero_testBit] at this
      exact this
     have d0:det M.length (colM (bB 0) (Cz.en M))≠0:=by
      have:=(pivot_none p).1
      unfold Cm at this
      rw [this];decide
     obtain⟨a1,a2,a3⟩:=chV_good M.length h5 M C [0] 0 (fun i hi=>by
       have hh:badC Q.length i=false:=by
        cases hbc:badC Q.length i with
        | false=>rfl
        | true=>exact absurd (List.any_eq_true.2 ⟨i,hi,hbc⟩) bad
       unfold badC at hh
       simp at hh
       omega) ⟨by omega,by omega⟩ (fun x hx=>by rw [List.mem_singleton.1 hx];exact⟨⟨by omega,by omega⟩,d0⟩) (by rw [← eN];exact h)
     rw [← eN] at a1 a2 a3
     replace a1:S.length=1+C.length:=a1
     replace a2:S.getD 0 0=0:=a2 (by simp)
     replace a3: ∀x ∈ S,SetIn M.length x∧det M.length (colM (bB x) (Cz.en M))≠0:=a3
     obtain⟨n4,hh⟩:=all_many (f:=fun k x=>laws_hasInt.f k (baL (fun s=>decide (det M.length (colM (bB (s:Int)) (Cz.en M))≠0)) (2 ^ M.length)) x) (S:=S) (fun x hx=>by
      obtain⟨b1,b2⟩:=a3 x hx
      obtain⟨j,rfl⟩:=Int.eq_ofNat_of_zero_le b1.1
      have b3:=b1.2
      have bl:=baL_len (fun s=>decide (det M.length (colM (bB (s:Int)) (Cz.en M))≠0)) (2 ^ M.length)
      exact has_int (by omega) (mem_ba (decide_eq_true b2) _ (by omega)))
     refine⟨n1+n2+n3+n4,S,three,2 ^ M.length,_,i1 _ (by omega),s1 _ (by omega),q1 _ (by omega),hS,fun _=>⟨by omega,by rw [is,pd],?_,fun s hs=>?_,by omega,a2,fun i hi=>hh _ (by omega) _ ?_⟩⟩
     ·unfold impl_Problem_all.f
      rw [hl,shl_one (by omega) (by omega),Int.toNat_natCast]
     ·obtain⟨k,hk⟩:=impl_solve p.mat.sq h5 (s:Int) Q (fun r hr=>by have:=p.num r (Nat.zero_le _) (by omega);unfold N100 at this;omega) Q hl hl (by omega)
      refine⟨k,(solR M.length (colM (bB (s:Int)) (Cz.en M)) Q).1,(solR M.length (colM (bB (s:Int)) (Cz.en M)) Q).2.1,?_⟩
      unfold impl_Problem_point.f
      rw [show impl_Problem_solve.f k M Q (s:Int) Q=some (solR M.length (colM (bB (s:Int)) (Cz.en M)) Q) from hk _ (Nat.le_refl _)]
      unfold solR
      by_cases d:det M.length (colM (bB (s:Int)) (Cz.en M))=0
      ·rw [if_pos d];simp [d]
      ·rw [if_neg d];simp [d]
     ·rw [List.getD_eq_getElem?_getD,List.getElem?_eq_getElem hi]
      exact List.getElem_mem hi
  ·have:=e ([],1) (by unfold impl_RunChain.f;exact evsome is (evneg (by simpa using p) (evc rfl)))
   injection this with _ e2
   rw [h] at e2;cases e2
 ·exact⟨n1+n2+n3,S,three,0,fun _=>false,i1 _ (by omega),s1 _ (by omega),q1 _ (by omega),hS,fun a=>absurd a h⟩
end Go.Proofs.Ytbjljcpngbhkeaa.Pp
end
section
namespace Go.Proofs.Ytbjljcpngbhkeaa.Dr
open Go.RowKit Wz.PrintWords Wz.PrintMore Ma Pr
def Ex {α:Type} (g:Nat→Option α) (P:α→Prop):Prop:= ∃r,Ev g r∧P r
theorem exc {α:Type} {g:Option α} {r:α} {P:α→Prop} (h:g=some r) (p:P r):Ex (fun _=>g) P:=⟨r,evc h,p⟩
theorem expos {α:Type} {A B:Nat→Option α} {P:α→Prop} {c:Prop} [Decidable c] (h:c) (k:Ex A P):Ex (fun n=>if c then A n else B n) P:=by
 obtain⟨r,e,p⟩:=k;exact⟨r,evpos h e,p⟩
theorem exneg {α:Type} {A B:Nat→Option α} {P:α→Prop} {c:Prop} [Decidable c] (h: ¬ c) (k:Ex B P):Ex (fun n=>if c then A n else B n) P:=by
 obtain⟨r,e,p⟩:=k;exact⟨r,evneg h e,p⟩
theorem exstep {α:Type} {g f:Nat→Option α} {P:α→Prop} (h: ∀k,g (k+1)=f k) (k:Ex f P):Ex g P:=by
 obtain⟨r,e,p⟩:=k;exact⟨r,evstep h e,p⟩
theorem exbind {α β:Type} {g:Nat→Option α} {f:Nat→α→Option β} {P:α→Prop} {Q:β→Prop} (h:Ex g P) (k: ∀a,P a→Ex (fun n=>f n a) Q):Ex (fun n=>(g n).bind (f n)) Q:=by
 obtain⟨r,e,p⟩:=h;obtain⟨s,e2,q⟩:=k r p;exact⟨s,evbind e e2,q⟩
theorem exsome {α β:Type} {g:Option α} {f:Nat→α→Option β} {a:α} {Q:β→Prop} (h:g=some a) (k:Ex (fun n=>f n a) Q):Ex (fun n=>g.bind (f n)) Q:=by
 obtain⟨s,e2,q⟩:=k;exact⟨s,evsome h e2,q⟩
structure Src (b:List Int) (a:Int):Prop where
 byte: ∀i:Nat,0≤b.getD i 0∧b.getD i 0≤255
 len:b.length≤4096
 at0:0≤a
 at1:a≤4096
theorem and30 (x:Int): ∃m:Nat,Go.bits .and .u64 x 1073741823=(m:Int)∧m≤1073741823:=by
 have h:(BitVec.ofInt 64 x &&& BitVec.ofInt 64 1073741823).toNat≤1073741823:=by
  rw [BitVec.toNat_and];exact Nat.le_trans Nat.and_le_right (by decide)
 refine⟨_,?_,h⟩
 show IntKind.u64.wrap (((BitVec.ofInt 64 x &&& BitVec.ofInt 64 1073741823).toNat:Nat):Int)=_
 exact IntWalk.u64_in _ ⟨by omega,by omega⟩
theorem next_f {b:List Int} {a:Int} (hs:Src b a) (h n:Int): ∃x a' h',spec_l01Next.f b a h n=some (x,a',h')∧Src b a'∧(1≤n→0≤x∧x < n)∧(n < 1→x=0):=by
 unfold spec_l01Next.f
 by_cases c:n < 1
 ·exact⟨0,a,h,if_pos c,hs,fun h=>absurd c (by omega),fun _=>rfl⟩
 ·rw [if_neg c]
  obtain⟨m,hm,hm2⟩:=and30 ((IntKind.u64.wrap ((IntKind.u64.wrap (h*6364136223846793005))+1442695040888963407)) / 2147483648)
  rw [hm,w64 (x:=(m:Int)) (by omega) (by omega)]
  have tm: ∀y:Int,0≤y→0≤Int.tmod y n∧Int.tmod y n < n:=fun y hy=>⟨Int.tmod_nonneg _ hy,Int.tmod_lt_of_pos _ (by omega)⟩
  by_cases d:a < (b.length:Int)
  ·have hb:=hs.byte a.toNat
   have e:rd b a=b.getD a.toNat 0:=rfl
   rw [if_pos d,if_pos hs.at0,if_neg (by omega),e,w64 (x:=b.getD a.toNat 0) (by omega) (by omega),w64 (x:=(m:Int)+_) (by omega) (by omega),w64 (x:=a+1) (by have:=hs.at0;omega) (by have:=hs.at1;omega)]
   exact⟨_,_,_,rfl,⟨hs.byte,hs.len,by have:=hs.at0;omega,by have:=hs.len;omega⟩,fun _=>tm _ (by omega),fun h=>absurd h c⟩
  ·rw [if_neg d,if_neg (by omega)]
   exact⟨_,_,_,rfl,hs,fun _=>tm _ (by omega),fun h=>absurd h c⟩
theorem next_ex {b:List Int} {a:Int} (hs:Src b a) (h n:Int):Ex (fun _=>spec_l01Next.f b a h n) (fun r=>Src b r.2.1∧(1≤n→0≤r.1∧r.1 < n)∧(n < 1→r.1=0)):=by
 obtain⟨x,a',h',e,p⟩:=next_f hs h n
 exact exc e p
theorem pick_ex {b:List Int} {a:Int} (hs:Src b a) (h:Int) (l:List Int) (hl:1≤l.length):Ex (fun _=>spec_l01Pick.f b a h l) (fun r=>Src b r.2.1∧r.1 ∈ l):=by
 unfold spec_l01Pick.f
 refine exbind (next_ex hs h _) (fun r p=>?_)
 have hr:=p.2.1 (by omega)
 refine expos hr.1 (expos hr.2 (exc rfl ⟨p.1,?_⟩))
 show l.getD r.1.toNat 0 ∈ l
 rw [List.getD_eq_getElem?_getD,List.getElem?_eq_getElem (show r.1.toNat < l.length by omega)]
 exact List.getElem_mem _
theorem from_ex {b:List Int} (hb: ∀i:Nat,0≤b.getD i 0∧b.getD i 0≤255) (hl:b.length≤4096):Ex (fun k=>spec_l01From.f k b) (fun r=>r.1=b∧Src b r.2.1):=by
 have fin:Src b 0:=⟨hb,hl,by decide,by decide⟩
 have key: ∀m i h,i+m=b.length→Ex (fun k=>spec_l01From.l0 k b (i:Int) b 0 h) (fun r=>r.1=b∧Src b r.2.1):=by
  intro m
  induction m with
  | zero=>
   intro i h hi
   refine exstep (fun k=>by rw [spec_l01From.l0]) ?_
   exact exneg (by omega) (exc rfl ⟨rfl,fin⟩)
  | succ m ih=>
   intro i h hi
   refine exstep (fun k=>by rw [spec_l01From.l0]) ?_
   refine expos (by omega) (expos (by omega) (expos (by omega) ?_))
   rw [w64 (x:=(i:Int)+1) (by omega) (by omega)]
   exact ih (i+1) _ (by omega)
 exact key b.length 0 _ (by omega)
end Go.Proofs.Ytbjljcpngbhkeaa.Dr
end
section
namespace Go.Proofs.Ytbjljcpngbhkeaa.Pr
open Go.RowKit Wz.PrintWords Wz.PrintLast Wz.PrintMore Al Dr Ma
noncomputable def laws_FnPivotMinors.after179:Code:=((Try.f3.body.bind (tailAfter 179)).getD .skip)
theorem laws_FnPivotMinors.after179_walk {k:Nat} {s t above below one c own:Int} {Mp M':List (List Int)} {Qp Q':List Int} {Apm Apq:Option Addr} {cpm cpq g3:Nat} {w wc:World} {z0_ z1_ z2_ z9_ z10_ z11_ z12_ z13_ z14_ z15_ z16_ z17_ z18_ z19_ z20_ z21_ z22_ z23_ z24_ z25_ z26_ z27_ z28_ z29_ z30_ z31_ z32_ z33_ z34_ z35_ z36_ z37_ z38_ z39_ z40_ z41_ z42_ z43_ z44_ z45_ z46_ z47_ z48_ z49_ z50_ z51_ z52_ z53_ z54_ z55_ z56_ z57_ z58_ z59_ z60_ z61_ z62_ z63_ z64_ z65_ z66_ z67_ z68_ z69_ z70_ z71_ z72_ z73_ z74_ z75_ z76_ z77_ z78_ z79_ z80_ z81_ z82_ z83_ z84_ z85_ z86_ z87_ z88_ z89_ z90_ z91_ z92_ z93_ z94_ z95_ z96_ z97_ z98_ z99_ z100_ z101_ z102_ z103_ z104_ z105_ z106_ z107_ z108_ z109_ z110_ z111_ z112_ z113_ z114_ z115_ z116_ z117_ z118_ z119_ z120_ z121_ z122_ z123_ z124_ z125_ z126_ z127_ z128_ z129_ z130_ z131_ z132_ z133_ z134_ z135_ z136_ z137_ z138_ z139_ z140_ z141_ z142_ z143_ z144_ z145_ z146_ z147_ z148_ z149_ z150_ z151_ z152_ z153_ z154_ z155_ z156_ z157_ z158_ z159_ z160_ z161_ z162_ z163_ z164_ z165_ z166_ z167_ z168_ z169_ z170_ z171_ z172_ z173_ z174_ z175_ z176_ z177_ z178_ z179_ z180_ z181_ z182_ z183_ z184_ z185_ z186_ z187_ z188_ z189_ z190_ z191_ z192_ z193_ z194_ z195_ z196_ z197_ z198_ z199_ z200_ z201_ z202_ z203_ z204_ z205_ z206_ z207_ z208_ z209_ z210_ z211_ z212_ z213_ z214_ z215_ z216_ z217_ z218_ z219_ z220_ z221_ z222_ z223_ z224_ z225_ z226_ z227_ z228_ z229_ z230_ z231_ z232_ z233_ z234_ z235_ z236_ z237_ z238_ z239_ z240_ z241_ z242_ z243_ z244_ z245_ z246_ z247_ z248_ z249_ z250_ z251_ z252_ z253_ z254_ z255_ z256_ z257_ z258_ z259_ z260_ z261_ z262_ z263_ z264_ z265_ z266_ z267_ z268_ z269_ z270_ z271_ z272_ z273_ z274_ z275_ z276_ z277_ z278_ z279_ z280_ z281_:Value} (HP:Aside0 (Pp.MnF k Mp Qp s t above below one M' Q' c own)) (Cpm:Aside0 (Mp.length≤cpm)) (Cpq:Aside0 (Qp.length≤cpq)) (AL:Aside0 (Al (fun W_=>(W_.heap[g3]?=some (.cells #[.slice Apm Mp.length cpm, .slice Apq Qp.length cpq] 27 (0,0)))∧(Kd.C (Kd.int .i64) W_ Apq Qp.length Qp)∧(Kd.C (Kd.slice 2 (Kd.int .i64)) W_ Apm Mp.length Mp)∧True) wc)) (HB:Aside0 (Below w.heap.size w wc)):
  Code.wp Try.prog laws_FnPivotMinors.after179 (bodyPost Try.prog Try.f3 fun e w'=>e=Ending.returned (.bool true)∧Below w.heap.size w w') ⟨#[z0_,z1_,z2_, .pointer (some ⟨g3,0,none⟩), .int .i64 s, .int .i64 t, .int .i64 above, .int .i64 below, .int .i64 one,z9_,z10_,z11_,z12_,z13_,z14_,z15_,z16_,z17_,z18_,z19_,z20_,z21_,z22_,z23_,z24_,z25_,z26_,z27_,z28_,z29_,z30_,z31_,z32_,z33_,z34_,z35_,z36_,z37_,z38_,z39_,z40_,z41_,z42_,z43_,z44_,z45_,z46_,z47_,z48_,z49_,z50_,z51_,z52_,z53_,z54_,z55_,z56_,z57_,z58_,z59_,z60_,z61_,z62_,z63_,z64_,z65_,z66_,z67_,z68_,z69_,z70_,z71_,z72_,z73_,z74_,z75_,z76_,z77_,z78_,z79_,z80_,z81_,z82_,z83_,z84_,z85_,z86_,z87_,z88_,z89_,z90_,z91_,z92_,z93_,z94_,z95_,z96_,z97_,z98_,z99_,z100_,z101_,z102_,z103_,z104_,z105_,z106_,z107_,z108_,z109_,z110_,z111_,z112_,z113_,z114_,z115_,z116_,z117_,z118_,z119_,z120_,z121_,z122_,z123_,z124_,z125_,z126_,z127_,z128_,z129_,z130_,z131_,z132_,z133_,z134_,z135_,z136_,z137_,z138_,z139_,z140_,z141_,z142_,z143_,z144_,z145_,z146_,z147_,z148_,z149_,z150_,z151_,z152_,z153_,z154_,z155_,z156_,z157_,z158_,z159_,z160_,z161_,z162_,z163_,z164_,z165_,z166_,z167_,z168_,z169_,z170_,z171_,z172_,z173_,z174_,z175_,z176_,z177_,z178_,z179_,z180_,z181_,z182_,z183_,z184_,z185_,z186_,z187_,z188_,z189_,z190_,z191_,z192_,z193_,z194_,z195_,z196_,z197_,z198_,z199_,z200_,z201_,z202_,z203_,z204_,z205_,z206_,z207_,z208_,z209_,z210_,z211_,z212_,z213_,z214_,z215_,z216_,z217_,z218_,z219_,z220_,z221_,z222_,z223_,z224_,z225_,z226_,z227_,z228_,z229_,z230_,z231_,z232_,z233_,z234_,z235_,z236_,z237_,z238_,z239_,z240_,z241_,z242_,z243_,z244_,z245_,z246_,z247_,z248_,z249_,z250_,z251_,z252_,z253_,z254_,z255_,z256_,z257_,z258_,z259_,z260_,z261_,z262_,z263_,z264_,z265_,z266_,z267_,z268_,z269_,z270_,z271_,z272_,z273_,z274_,z275_,z276_,z277_,z278_,z279_,z280_,z281_], []⟩ wc:=by
 conv=>arg 2;whnf
 by_cases c1:one=0
 ·subst c1;obtain⟨hG1_,hG2_,hG3_,hG4_,hG5_,hG6_⟩:=HP.out.good rfl;have G1:=q_ hG1_;have G2:=q_ hG2_;have G3:=q_ hG3_;have G4:=q_ hG4_;have G5:=q_ hG5_;have G6:=q_ hG6_;clear hG1_ hG2_ hG3_ hG4_ hG5_ hG6_;have hz3_0:=cz_ (q_ (AL.out.now.1)) 0;have hz3_1:=cz_ (q_ (AL.out.now.1)) 1
  go_wp2_with fail
  refine(minorOf_c k _ _ Mp _ above _ (AL.out.now.2.2.1) Cpm.out G1.out G2.out G3.out).mono ?_
  rintro e w1 ⟨rfl,hb⟩;clear hz3_0 hz3_1;replace AL:=q_ (AL.out.mv hb);replace HB:=q_ (below_step HB.out hb);clear hb;have hz3_0:=cz_ (q_ (AL.out.now.1)) 0;have hz3_1:=cz_ (q_ (AL.out.now.1)) 1
  go_wp2_with fail
  refine(minorOf_c k _ _ Mp s below _ (AL.out.now.2.2.1) Cpm.out G1.out G4.out G5.out).mono ?_
  rintro e w2 ⟨rfl,hb⟩;clear hz3_0 hz3_1;replace AL:=q_ (AL.out.mv hb);replace HB:=q_ (below_step HB.out hb);clear hb;have hz3_0:=cz_ (q_ (AL.out.now.1)) 0;have hz3_1:=cz_ (q_ (AL.out.now.1)) 1
  go_wp2_with fail
  refine(impl_PivotedProblem.calls k _ _ Mp _ _ Qp s M' Q' c _ (AL.out.now.2.2.1) Cpm.out (AL.out.now.2.1) Cpq.out G6.out).mono ?_
  rintro e w3 ⟨v1,v2,rfl,hS,hR,hb⟩;clear hz3_0 hz3_1;replace AL:=q_ (AL.out.mv hb);replace HB:=q_ (below_step HB.out hb);obtain⟨A37r,c37r,rfl⟩:=Kd.S_slice hS;obtain⟨A37s,c37s,rfl⟩:=Kd.R_slice hR;have C37r:=q_ (Kd.S_reads' hS).2.1;have C37s:=q_ (Kd.R_reads' hR).2.1;replace AL:=q_ ((AL.out.addC (Kd.S_reads' hS).2.2).addC (Kd.R_reads' hR).2.2);clear hS hR hb
  by_cases cc:c=0
  ·subst cc;obtain⟨hP1_,hP2_,hP3_,hP4_⟩:=HP.out.piv rfl rfl;have P1:=q_ hP1_;have P2:=q_ hP2_;have P3:=q_ hP3_;have P4:=q_ hP4_;clear hP1_ hP2_ hP3_ hP4_
   go_wp2_with (first | ((with_reducible refine gate_dst (N:=37) rfl ?_);refine be_ 37 #[.slice none 0 0, .slice none 0 0] 27 ?_;intro g37 hg w4 hbox hb;have Bx:=q_ hbox;have HBx:=q_ hb;have Gx:Aside0 (w3.heap.size≤g37):=⟨by rw [hg];exact Nat.le_refl _⟩;have hx0:=cz_ Bx 0;have hx1:=cz_ Bx 1;have hfx0:=blk_frozen hbox 0;have hfx1:=blk_frozen hbox 1;clear hb hbox hg) | ((with_reducible refine gate_store (t:=27) (p:=37) rfl ?_);refine se_ 27 37 ((w4.setCell ⟨g37,0,none⟩ (.slice A37r M'.length c37r)).setCell ⟨g37,1,none⟩ (.slice A37s Q'.length c37s)) ?_;intro w5 hw;have nb:=q_ (show w5.heap[g37]?=some (.cells #[.slice A37r M'.length c37r, .slice A37s Q'.length c37s] 27 (0,0)) from (by rw [hw];exact blk_put (blk_put Bx.out 0 _ rfl) 1 _ rfl));have hb:Below w3.heap.size w3 w5:=(by rw [hw];exact(HBx.out.setCell Gx.out _).setCell Gx.out _);replace AL:=q_ ((AL.out.mv hb).addB nb.out);replace HB:=q_ (below_step HB.out hb);clear hw hb nb hx0 hx1 hfx0 hfx1 Bx HBx Gx;have hz37_0:=cz_ (q_ (AL.out.now.1)) 0;have hz37_1:=cz_ (q_ (AL.out.now.1)) 1))
   refine(minorOf_c k _ _ M' t own _ (AL.out.now.2.2.1) C37r.out P1.out P2.out P3.out).mono ?_
   rintro e w6 ⟨rfl,hb⟩;clear hz37_0 hz37_1;replace AL:=q_ (AL.out.mv hb);replace HB:=q_ (below_step HB.out hb);clear hb;have p4:=P4.out;have p5:IntKind.i64.wrap (own*below)=above:=(i64_w _).trans p4;go_wp2
   go_ret
   exact⟨by simp [*],HB.out⟩
  ·have c2:(c !=0)=true:=by simpa using cc
   go_wp2_with (first | ((with_reducible refine gate_dst (N:=37) rfl ?_);refine be_ 37 #[.slice none 0 0, .slice none 0 0] 27 ?_;intro g37 hg w4 hbox hb;have Bx:=q_ hbox;have HBx:=q_ hb;have Gx:Aside0 (w3.heap.size≤g37):=⟨by rw [hg];exact Nat.le_refl _⟩;have hx0:=cz_ Bx 0;have hx1:=cz_ Bx 1;have hfx0:=blk_frozen hbox 0;have hfx1:=blk_frozen hbox 1;clear hb hbox hg) | ((with_reducible refine gate_store (t:=27) (p:=37) rfl ?_);refine se_ 27 37 ((w4.setCell ⟨g37,0,none⟩ (.slice A37r M'.length c37r)).setCell ⟨g37,1,none⟩ (.slice A37s Q'.length c37s)) ?_;intro w5 hw;have nb:=q_ (show w5.heap[g37]?=some (.cells #[.slice A37r M'.length c37r, .slice A37s Q'.length c37s] 27 (0,0)) from (by rw [hw];exact blk_put (blk_put Bx.out 0 _ rfl) 1 _ rfl));have hb:Below w3.heap.size w3 w5:=(by rw [hw];exact(HBx.out.setCell Gx.out _).setCell Gx.out _);replace AL:=q_ ((AL.out.mv hb).addB nb.out);replace HB:=q_ (below_step HB.out hb);clear hw hb nb hx0 hx1 hfx0 hfx1 Bx HBx Gx))
   go_ret
   exact⟨rfl,HB.out⟩
 ·have c2:(one !=0)=true:=by simpa using c1
  obtain⟨b1,b2⟩:=HP.out.bad c1;subst b1;subst b2;go_wp2
  go_ret
  exact⟨rfl,HB.out⟩
end Go.Proofs.Ytbjljcpngbhkeaa.Pr
end
section
namespace Go.Proofs.Ytbjljcpngbhkeaa.Pr
open Go.RowKit Wz.PrintWords Wz.PrintLast Wz.PrintMore Al Dr Ma
noncomputable def laws_FnPivotMinors.after138:Code:=((Try.f3.body.bind (tailAfter 138)).getD .skip)
theorem laws_FnPivotMinors.after138_walk {k:Nat} {s t above below one c own:Int} {Mp M':List (List Int)} {Qp Q':List Int} {Apm Apq:Option Addr} {cpm cpq g3:Nat} {kq:Nat} {u den two whole own2:Int} {Mq R:List (List Int)} {Qq:List Int} {Aqm Aqq A14:Option Addr} {cqm cqq c14 g12:Nat} {w wc:World} {z0_ z1_ z2_ z9_ z10_ z11_ z17_ z18_ z19_ z20_ z21_ z22_ z23_ z24_ z25_ z26_ z27_ z28_ z29_ z30_ z31_ z32_ z33_ z34_ z35_ z36_ z37_ z38_ z39_ z40_ z41_ z42_ z43_ z44_ z45_ z46_ z47_ z48_ z49_ z50_ z51_ z52_ z53_ z54_ z55_ z56_ z57_ z58_ z59_ z60_ z61_ z62_ z63_ z64_ z65_ z66_ z67_ z68_ z69_ z70_ z71_ z72_ z73_ z74_ z75_ z76_ z77_ z78_ z79_ z80_ z81_ z82_ z83_ z84_ z85_ z86_ z87_ z88_ z89_ z90_ z91_ z92_ z93_ z94_ z95_ z96_ z97_ z98_ z99_ z100_ z101_ z102_ z103_ z104_ z105_ z106_ z107_ z108_ z109_ z110_ z111_ z112_ z113_ z114_ z115_ z116_ z117_ z118_ z119_ z120_ z121_ z122_ z123_ z124_ z125_ z126_ z127_ z128_ z129_ z130_ z131_ z132_ z133_ z134_ z135_ z136_ z137_ z138_ z139_ z140_ z141_ z142_ z143_ z144_ z145_ z146_ z147_ z148_ z149_ z150_ z151_ z152_ z153_ z154_ z155_ z156_ z157_ z158_ z159_ z160_ z161_ z162_ z163_ z164_ z165_ z166_ z167_ z168_ z169_ z170_ z171_ z172_ z173_ z174_ z175_ z176_ z177_ z178_ z179_ z180_ z181_ z182_ z183_ z184_ z185_ z186_ z187_ z188_ z189_ z190_ z191_ z192_ z193_ z194_ z195_ z196_ z197_ z198_ z199_ z200_ z201_ z202_ z203_ z204_ z205_ z206_ z207_ z208_ z209_ z210_ z211_ z212_ z213_ z214_ z215_ z216_ z217_ z218_ z219_ z220_ z221_ z222_ z223_ z224_ z225_ z226_ z227_ z228_ z229_ z230_ z231_ z232_ z233_ z234_ z235_ z236_ z237_ z238_ z239_ z240_ z241_ z242_ z243_ z244_ z245_ z246_ z247_ z248_ z249_ z250_ z251_ z252_ z253_ z254_ z255_ z256_ z257_ z258_ z259_ z260_ z261_ z262_ z263_ z264_ z265_ z266_ z267_ z268_ z269_ z270_ z271_ z272_ z273_ z274_ z275_ z276_ z277_ z278_ z279_ z280_ z281_:Value} (HP:Aside0 (Pp.MnF k Mp Qp s t above below one M' Q' c own)) (Cpm:Aside0 (Mp.length≤cpm)) (Cpq:Aside0 (Qp.length≤cpq)) (HC:Aside0 (Pp.CpF kq Mq Qq u R den two whole own2)) (Cqm:Aside0 (Mq.length≤cqm)) (Cqq:Aside0 (Qq.length≤cqq)) (C14:Aside0 (R.length≤c14)) (AL:Aside0 (Al (fun W_=>(W_.heap[g12]?=some (.cells #[.slice Aqm Mq.length cqm, .slice Aqq Qq.length cqq] 27 (0,0)))∧(Kd.C (Kd.slice 2 (Kd.int .i64)) W_ A14 R.length R)∧(Kd.C (Kd.int .i64) W_ Aqq Qq.length Qq)∧(Kd.C (Kd.slice 2 (Kd.int .i64)) W_ Aqm Mq.length Mq)∧(W_.heap[g3]?=some (.cells #[.slice Apm Mp.length cpm, .slice Apq Qp.length cpq] 27 (0,0)))∧(Kd.C (Kd.int .i64) W_ Apq Qp.length Qp)∧(Kd.C (Kd.slice 2 (Kd.int .i64)) W_ Apm Mp.length Mp)∧True) wc)) (HB:Aside0 (Below w.heap.size w wc)):
  Code.wp Try.prog laws_FnPivotMinors.after138 (bodyPost Try.prog Try.f3 fun e w'=>e=Ending.returned (.bool true)∧Below w.heap.size w w') ⟨#[z0_,z1_,z2_, .pointer (some ⟨g3,0,none⟩), .int .i64 s, .int .i64 t, .int .i64 above, .int .i64 below, .int .i64 one,z9_,z10_,z11_, .pointer (some ⟨g12,0,none⟩), .int .i64 u, .slice A14 R.length c14, .int .i64 den, .int .i64 two,z17_,z18_,z19_,z20_,z21_,z22_,z23_,z24_,z25_,z26_,z27_,z28_,z29_,z30_,z31_,z32_,z33_,z34_,z35_,z36_,z37_,z38_,z39_,z40_,z41_,z42_,z43_,z44_,z45_,z46_,z47_,z48_,z49_,z50_,z51_,z52_,z53_,z54_,z55_,z56_,z57_,z58_,z59_,z60_,z61_,z62_,z63_,z64_,z65_,z66_,z67_,z68_,z69_,z70_,z71_,z72_,z73_,z74_,z75_,z76_,z77_,z78_,z79_,z80_,z81_,z82_,z83_,z84_,z85_,z86_,z87_,z88_,z89_,z90_,z91_,z92_,z93_,z94_,z95_,z96_,z97_,z98_,z99_,z100_,z101_,z102_,z103_,z104_,z105_,z106_,z107_,z108_,z109_,z110_,z111_,z112_,z113_,z114_,z115_,z116_,z117_,z118_,z119_,z120_,z121_,z122_,z123_,z124_,z125_,z126_,z127_,z128_,z129_,z130_,z131_,z132_,z133_,z134_,z135_,z136_,z137_,z138_,z139_,z140_,z141_,z142_,z143_,z144_,z145_,z146_,z147_,z148_,z149_,z150_,z151_,z152_,z153_,z154_,z155_,z156_,z157_,z158_,z159_,z160_,z161_,z162_,z163_,z164_,z165_,z166_,z167_,z168_,z169_,z170_,z171_,z172_,z173_,z174_,z175_,z176_,z177_,z178_,z179_,z180_,z181_,z182_,z183_,z184_,z185_,z186_,z187_,z188_,z189_,z190_,z191_,z192_,z193_,z194_,z195_,z196_,z197_,z198_,z199_,z200_,z201_,z202_,z203_,z204_,z205_,z206_,z207_,z208_,z209_,z210_,z211_,z212_,z213_,z214_,z215_,z216_,z217_,z218_,z219_,z220_,z221_,z222_,z223_,z224_,z225_,z226_,z227_,z228_,z229_,z230_,z231_,z232_,z233_,z234_,z235_,z236_,z237_,z238_,z239_,z240_,z241_,z242_,z243_,z244_,z245_,z246_,z247_,z248_,z249_,z250_,z251_,z252_,z253_,z254_,z255_,z256_,z257_,z258_,z259_,z260_,z261_,z262_,z263_,z264_,z265_,z266_,z267_,z268_,z269_,z270_,z271_,z272_,z273_,z274_,z275_,z276_,z277_,z278_,z279_,z280_,z281_], []⟩ wc:=by
 conv=>arg 2;whnf
 by_cases c2:two=0
 ·subst c2
  by_cases c3:R.length=1
  ·have q1:((R.length:Int)==1)=true:=by rw [c3];rfl
   obtain⟨hF1_,hF2_,hF3_,hF4_,hF5_,hF6_,hF7_,hF8_⟩:=HC.out.one rfl c3;have F1:=q_ hF1_;have F2:=q_ hF2_;have F3:=q_ hF3_;have F4:=q_ hF4_;have F5:=q_ hF5_;have F6:=q_ hF6_;have F7:=q_ hF7_;have F8:=q_ hF8_;clear hF1_ hF2_ hF3_ hF4_ hF5_ hF6_ hF7_ hF8_
   go_upto_if 179 with (fail)
   have AF:=q_ (show Al (fun W_=>(W_.heap[g3]?=some (.cells #[.slice Apm Mp.length cpm, .slice Apq Qp.length cpq] 27 (0,0)))∧(Kd.C (Kd.int .i64) W_ Apq Qp.length Qp)∧(Kd.C (Kd.slice 2 (Kd.int .i64)) W_ Apm Mp.length Mp)∧True) _ from ⟨fun w2 h2=>⟨(AL.out.all w2 h2).2.2.2.2.1,(AL.out.all w2 h2).2.2.2.2.2.1,(AL.out.all w2 h2).2.2.2.2.2.2.1,trivial⟩⟩)
   go_cut [29,30,31,32] from 173 to 218 (fun v29 v30 v31 v32 wc=>Aside0 (Al (fun W_=>(W_.heap[g3]?=some (.cells #[.slice Apm Mp.length cpm, .slice Apq Qp.length cpq] 27 (0,0)))∧(Kd.C (Kd.int .i64) W_ Apq Qp.length Qp)∧(Kd.C (Kd.slice 2 (Kd.int .i64)) W_ Apm Mp.length Mp)∧True) wc)∧Aside0 (Below w.heap.size w wc))
   case first=>
    clear AF;have hz12_0:=cz_ (q_ (AL.out.now.1)) 0;have hz12_1:=cz_ (q_ (AL.out.now.1)) 1
    go_wp2_with fail
    rw [F2.out];refine(minorOf_c kq _ _ Mq _ whole _ (AL.out.now.2.2.2.1) Cqm.out F1.out F3.out F4.out).mono ?_
    rintro e w1 ⟨rfl,hb⟩;clear hz12_0 hz12_1;replace AL:=q_ (AL.out.mv hb);replace HB:=q_ (below_step HB.out hb);clear hb;have hz12_0:=cz_ (q_ (AL.out.now.1)) 0;have hz12_1:=cz_ (q_ (AL.out.now.1)) 1
    go_wp2_with fail
    refine(minorOf_c kq _ _ Mq u own2 _ (AL.out.now.2.2.2.1) Cqm.out F1.out F5.out F6.out).mono ?_
    rintro e w2 ⟨rfl,hb⟩;clear hz12_0 hz12_1;replace AL:=q_ (AL.out.mv hb);replace HB:=q_ (below_step HB.out hb);clear hb;have hRl:(0:Int) < (R.length:Int):=by omega
    obtain⟨adM,AM,cM_,eb,hxM,hlM,hiM⟩:=at_L2 (AL.out.now.2.1) (0:Int) (by decide) hRl;subst eb;have er:rd_L2 R (0:Int)=R.getD 0 []:=by simp [rd_L2]
    have hrl:(0:Int) < ((rd_L2 R (0:Int)).length:Int):=by rw [er];have:=F7.out;omega
    obtain⟨adN,eb,hxN⟩:=Kd.at_int hiM (0:Int) (by decide) hrl;subst eb;rw [show (0:Int).toNat=0 from rfl,show adM.add 0=adM from rfl] at hxM;rw [show (0:Int).toNat=0 from rfl,show adN.add 0=adN from rfl] at hxN;have ex:rd (rd_L2 R (0:Int)) (0:Int)=Cz.en R 0 0:=by simp [rd,rd_L2,Cz.en]
    rw [ex] at hxN;have p8:=F8.out;have p9:IntKind.i64.wrap (Cz.en R 0 0*own2)=IntKind.i64.wrap (whole*den):=by rw [i64_w,i64_w];exact p8
    clear ex er;generalize rd_L2 R (0:Int)=row at hxM hiM hrl;generalize Cz.en R 0 0=x at hxN p8 p9;generalize row.length=rl at hxM hiM hrl;clear hiM hlM;go_wp2
    go_meet
    case rel=>exact⟨⟨⟨fun w2 h2=>⟨(AL.out.all w2 h2).2.2.2.2.1,(AL.out.all w2 h2).2.2.2.2.2.1,(AL.out.all w2 h2).2.2.2.2.2.2.1,trivial⟩⟩⟩,HB⟩
   case rest=>clear AL HB AF;obtain⟨AL,HB⟩:=hcut;rename_i hk;exact hk _ _ (laws_FnPivotMinors.after179_walk HP Cpm Cpq AL HB)
  ·have q1:((R.length:Int)==1)=false:=by have c5: ¬ (R.length:Int)=1:=(by omega);simp;omega
   go_upto_if 179 with (fail)
   have AF:=q_ (show Al (fun W_=>(W_.heap[g3]?=some (.cells #[.slice Apm Mp.length cpm, .slice Apq Qp.length cpq] 27 (0,0)))∧(Kd.C (Kd.int .i64) W_ Apq Qp.length Qp)∧(Kd.C (Kd.slice 2 (Kd.int .i64)) W_ Apm Mp.length Mp)∧True) _ from ⟨fun w2 h2=>⟨(AL.out.all w2 h2).2.2.2.2.1,(AL.out.all w2 h2).2.2.2.2.2.1,(AL.out.all w2 h2).2.2.2.2.2.2.1,trivial⟩⟩)
   go_cut [29,30,31,32] from 173 to 218 (fun v29 v30 v31 v32 wc=>Aside0 (Al (fun W_=>(W_.heap[g3]?=some (.cells #[.slice Apm Mp.length cpm, .slice Apq Qp.length cpq] 27 (0,0)))∧(Kd.C (Kd.int .i64) W_ Apq Qp.length Qp)∧(Kd.C (Kd.slice 2 (Kd.int .i64)) W_ Apm Mp.length Mp)∧True) wc)∧Aside0 (Below w.heap.size w wc))
   case first=>
    go_wp2
    go_meet
    case rel=>exact⟨AF,HB⟩
   case rest=>clear AL HB AF;obtain⟨AL,HB⟩:=hcut;rename_i hk;exact hk _ _ (laws_FnPivotMinors.after179_walk HP Cpm Cpq AL HB)
 ·have q2:(two==0)=false:=by simpa using c2
  go_upto_if 179 with (fail)
  have AF:=q_ (show Al (fun W_=>(W_.heap[g3]?=some (.cells #[.slice Apm Mp.length cpm, .slice Apq Qp.length cpq] 27 (0,0)))∧(Kd.C (Kd.int .i64) W_ Apq Qp.length Qp)∧(Kd.C (Kd.slice 2 (Kd.int .i64)) W_ Apm Mp.length Mp)∧True) _ from ⟨fun w2 h2=>⟨(AL.out.all w2 h2).2.2.2.2.1,(AL.out.all w2 h2).2.2.2.2.2.1,(AL.out.all w2 h2).2.2.2.2.2.2.1,trivial⟩⟩)
  go_cut [29,30,31,32] from 173 to 218 (fun v29 v30 v31 v32 wc=>Aside0 (Al (fun W_=>(W_.heap[g3]?=some (.cells #[.slice Apm Mp.length cpm, .slice Apq Qp.length cpq] 27 (0,0)))∧(Kd.C (Kd.int .i64) W_ Apq Qp.length Qp)∧(Kd.C (Kd.slice 2 (Kd.int .i64)) W_ Apm Mp.length Mp)∧True) wc)∧Aside0 (Below w.heap.size w wc))
  case first=>
   go_wp2
   go_meet
   case rel=>exact⟨AF,HB⟩
  case rest=>clear AL HB AF;obtain⟨AL,HB⟩:=hcut;rename_i hk;exact hk _ _ (laws_FnPivotMinors.after179_walk HP Cpm Cpq AL HB)
end Go.Proofs.Ytbjljcpngbhkeaa.Pr
end
section
namespace Go.Proofs.Ytbjljcpngbhkeaa.Pr
open Go.RowKit Wz.PrintWords Wz.PrintLast Wz.PrintMore
attribute [local go_sem] max2_int min2_int max_two min_two max_three min_three max_four min_four
def spec_l01DrawPart.f (s0_0:List Int) (s0_1:Int) (s0_2:Int) (a1:Int):Option (Int × Int × Int):=(spec_l01Next.f s0_0 s0_1 s0_2 (wrap64 ((wrap64 (2*a1))+1))).bind fun aa=>(some (wrap64 (aa.1 - a1),aa.2.1,aa.2.2))
theorem spec_l01DrawPart.calls (g:Nat) (s0_0:List Int) (s0_1:Int) (s0_2:Int) (a1:Int) (r1:Int) (r2:Int) (r3:Int) (w0 w:World) (hI:IsS89 w0 w g s0_0 s0_1 s0_2) (hB:Below w0.heap.size w0 w) (h:spec_l01DrawPart.f s0_0 s0_1 s0_2 a1=some (r1,r2,r3)):
  Calls Try.prog 76 #[.pointer (some ⟨g,0,none⟩), .int .i64 a1] w fun e w'=>e= .returned (.int .i64 r1)∧IsS89 w0 w' g s0_0 r2 r3∧Below w0.heap.size w0 w'∧KeepBut w w' g none:=by
 have HI0:=q_ hI;have HK:=q_ (KeepBut.refl w g none);have HL:=q_ hB.size;clear hI;have HW0:=q_ hB.size;have HB:=q_ hB;clear hB;have H:((spec_l01Next.f s0_0 s0_1 s0_2 (wrap64 ((wrap64 (2*a1))+1))).bind fun aa=>(some (wrap64 (aa.1 - a1),aa.2.1,aa.2.2)))=some (r1,r2,r3):=h;clear h;replace H:=Option.bind_eq_some_iff.mp H;obtain⟨⟨ae,af,ag⟩,A30,H⟩:=H;replace H:(some (wrap64 (ae - a1),af,ag))=some (r1,r2,r3):=H;have A3:=q_ A30;clear A30;simp only [Option.some.injEq,Prod.mk.injEq] at H;obtain⟨rfl,rfl,rfl⟩:=H
 go_enter Try.func76,Try.ntmps76
 go_wp2_with (first | ((with_reducible refine gate_callee (f:=37) rfl ?_);refine gL_ 9 Try.func37 #[.pointer (some ⟨g,0,none⟩), .int .i64 (wrap64 ((wrap64 (2*a1))+1))] ?_;(with_reducible refine(spec_l01Next.calls g s0_0 s0_1 s0_2 (wrap64 ((wrap64 (2*a1))+1)) ae af ag w0 _ ?ah ?ai A3.out).mono ?_);(case ah=>exact hi_);(case ai=>exact hj_);rintro e w4 ⟨rfl,hi,hb,hk⟩;refine⟨_,rfl,?_⟩;replace HK:=q_ (KeepBut.trans hk_ hk (.inl rfl));replace HB:=q_ (hb);replace HI0:=q_ (hi);(try clear hb);(try clear hk);(try clear hi)))
 go_ret
 exact⟨ew_,hi_,hj_,hk_⟩
mutual
def spec_l01DrawM.l0:Nat→Int→Int→List (List Int)→Int→List Int→Int→Int→Option ((List (List Int)) × Int × Int)
 | 0,_,_,_,_,_,_,_=>none
 | k+1,x1,x2,x7,x8,aa,ae,af=>if x8 < x1 then(spec_l01DrawM.l1 k x1 x2 x7 x8 (([]:List Int)) 0 aa ae af) else(some (x7,ae,af))
def spec_l01DrawM.l1:Nat→Int→Int→List (List Int)→Int→List Int→Int→List Int→Int→Int→Option ((List (List Int)) × Int × Int)
 | 0,_,_,_,_,_,_,_,_,_=>none
 | k+1,x1,x2,x7,x8,x9,x10,aa,ae,af=>if x10 < x1 then((spec_l01DrawPart.f aa ae af x2).bind fun ag=>((spec_l01Pick.f aa ag.2.1 ag.2.2 (([0,1,1]:List Int))).bind fun ah=>(if x9.length < 17592186044416 then(spec_l01DrawM.l1 k x1 x2 x7 x8 (x9++ [wrap64 (ag.1*ah.1)]) (wrap64 (x10+1)) aa ah.2.1 ah.2.2) else(none)))) else(if x7.length < 5864062014805 then(spec_l01DrawM.l0 k x1 x2 (x7++ [x9]) (wrap64 (x8+1)) aa ae af) else(none))
end
def spec_l01DrawM.f (k:Nat) (s0_0:List Int) (s0_1:Int) (s0_2:Int) (a1:Int) (a2:Int):Option ((List (List Int)) × Int × Int):=spec_l01DrawM.l0 k a1 a2 (([]:List (List Int))) 0 s0_0 s0_1 s0_2
theorem spec_l01DrawM.calls (k:Nat) (g:Nat) (s0_0:List Int) (s0_1:Int) (s0_2:Int) (a1:Int) (a2:Int) (r1:List (List Int)) (r2:Int) (r3:Int) (w0 w:World) (hI:IsS89 w0 w g s0_0 s0_1 s0_2) (hB:Below w0.heap.size w0 w) (h:spec_l01DrawM.f k s0_0 s0_1 s0_2 a1 a2=some (r1,r2,r3)):
  Calls Try.prog 102 #[.pointer (some ⟨g,0,none⟩), .int .i64 a1, .int .i64 a2] w fun e w'=> ∃v0_:Value,e= .returned (v0_)∧Kd.S (Kd.slice 2 (Kd.int .i64)) 25 w' w.heap.size (fun _=>True) v0_ r1∧IsS89 w0 w' g s0_0 r2 r3∧Below w0.heap.size w0 w'∧KeepBut w w' g none:=by
 have HI0:=q_ hI;have HK:=q_ (KeepBut.refl w g none);have HL:=q_ hB.size;clear hI;have HW0:=q_ hB.size;have HB:=q_ hB;clear hB;have H:(spec_l01DrawM.l0 k a1 a2 (([]:List (List Int))) 0 s0_0 s0_1 s0_2)=some (r1,r2,r3):=h;clear h;obtain⟨aU,hy⟩: ∃y_:List (List Int),y_=(([]:List (List Int))):=⟨_,rfl⟩
 replace H:(spec_l01DrawM.l0 k a1 a2 aU 0 s0_0 s0_1 s0_2)=some (r1,r2,r3):=hh_;have aN:=q_ hy;clear hy;have H':=q_ H;clear H
 go_enter Try.func102,Try.ntmps102
 go_wp2_with (first | ((with_reducible refine gate_dst (N:=11) rfl ?_);refine Kd.S_lit (Kd.slice 2 (Kd.int .i64)) _ 25 ?hg (N:=11) ?hd (xs:=([]:List (List Int))) (inner:= []) (ok:=fun _=>True) (okp:=fun _=>True) ?hr ?hp (fun _ hk=>hk) trivial (Below.refl _ _) (Nat.le_refl _) (by simp) ?_;(case hd=>rfl);(case hg=>rfl);(case hr=>first | (go_simp;done) | (go_simp;rfl));(case hp=>exact(Reps.none _ _));intro bD w4 ho5 hb hg_ hnew_;clear hg_ hnew_;(first | rw [← aN.out] at ho5 | (simp only [Int.reduceToNat] at ho5;rw [← aN.out] at ho5));have a9:=q_ (Kd.S_lower ho5 (keep_size (w:=w) (g:=g) (row:=none) hk_));replace HB:=q_ (below_step hj_ hb);replace HI0:=q_ (IsS89.below hi_ hb);replace HK:=q_ (KeepBut.trans hk_ (KeepBut.of_below hb g none) (.inl rfl));clear hb ho5))
 go_loopg [7,8] k (fun kq v7 v8 w'=> ∃(ak:List (List Int)) (ai:Int) (au:Int) (av:Int),v8= .int .i64 ai∧Aside0 (spec_l01DrawM.l0 kq a1 a2 ak ai s0_0 au av=some (r1,r2,r3))∧Aside0 (kq≤k)∧Aside0 (Kd.S (Kd.slice 2 (Kd.int .i64)) 25 w' w.heap.size (fun _=>True) v7 ak)∧Aside0 (IsS89 w0 w' g s0_0 au av)∧Aside0 (KeepBut w w' g none)∧Aside0 (Below w0.heap.size w0 w'))
 case atStart=>exact⟨(aU),(0),(s0_1),(s0_2),rs_,H',⟨Nat.le_refl _⟩,⟨so_ a9.out⟩,⟨hi_⟩,⟨hk_⟩,⟨hj_⟩⟩
 case round=>
  clear H';obtain⟨ak,ai,au,av,rfl,HA,HK1,aa,HI0,HK,HB⟩:=hrel;cases gk with
  | zero=>exact absurd HA.out (by simp [spec_l01DrawM.l0])
  | succ k1=>
   have H:=HA.out;clear HA;simp only [spec_l01DrawM.l0] at H
   by_cases c6:ai < a1
   ·rw [if_pos c6] at H;have c6b0:=decide_eq_true c6;clear c6;obtain⟨aV,hy⟩: ∃y_:List Int,y_=(([]:List Int)):=⟨_,rfl⟩
    replace H:(spec_l01DrawM.l1 k1 a1 a2 ak ai aV 0 s0_0 au av)=some (r1,r2,r3):=hh_;have aQ:=q_ hy;clear hy;have H':=q_ H;clear H
    go_wp2_with (first | ((with_reducible refine gate_dst (N:=17) rfl ?_);refine Kd.R_lit (Kd.int .i64) _ 2 ?hg (N:=17) ?hd (xs:=([]:List Int)) (inner:= []) (ok:=fun _=>True) (okp:=fun _=>True) ?hr ?hp (fun _ hk=>hk) trivial (Below.refl _ _) (Nat.le_refl _) (by simp) ?_;(case hd=>rfl);(case hg=>rfl);(case hr=>first | (go_simp;done) | (go_simp;rfl));(case hp=>exact(Reps.none _ _));intro bE w7 ho8 hb hg_ hnew_;clear hg_ hnew_;(first | rw [← aQ.out] at ho8 | (simp only [Int.reduceToNat] at ho8;rw [← aQ.out] at ho8));replace aa:=q_ (Kd.S_elder' (so_ aa.out) (Kd.R_base ho8) hb);have ba:=q_ (Kd.R_lower ho8 (keep_size (w:=w) (g:=g) (row:=none) hk_));replace HB:=q_ (below_step hj_ hb);replace HI0:=q_ (IsS89.below hi_ hb);replace HK:=q_ (KeepBut.trans hk_ (KeepBut.of_below hb g none) (.inl rfl));clear hb ho8))
    go_loopg [9,10] k1 (fun kq v9 v10 w'=> ∃(ae:List Int) (aj:Int) (ag:Int) (ah:Int),v10= .int .i64 aj∧Aside0 (spec_l01DrawM.l1 kq a1 a2 ak ai ae aj s0_0 ag ah=some (r1,r2,r3))∧Aside0 (kq≤k1)∧Aside0 (Kd.S (Kd.slice 2 (Kd.int .i64)) 25 w' w.heap.size (fun k_=>some k_≠(v9:Value).ownBlock) u7 ak)∧Aside0 (Kd.R (Kd.int .i64) 2 w' w.heap.size (fun _=>True) v9 ae)∧Aside0 (IsS89 w0 w' g s0_0 ag ah)∧Aside0 (KeepBut w w' g none)∧Aside0 (Below w0.heap.size w0 w'))
    case atStart=>exact⟨(aV),(0),(au),(av),rs_,H',⟨Nat.le_refl _⟩,⟨kS_ aa.out (fun _ hk=>hk.2)⟩,⟨ro_ ba.out⟩,⟨hi_⟩,⟨hk_⟩,⟨hj_⟩⟩
    case round=>
     clear H';(try clear c6b0);obtain⟨ae,aj,ag,ah,rfl,HA,HK2,aa,af,HI0,HK,HB⟩:=hrel;cases gk with
     | zero=>exact absurd HA.out (by simp [spec_l01DrawM.l1])
     | succ k2=>
      have H:=HA.out;clear HA;simp only [spec_l01DrawM.l1] at H
      by_cases c9:aj < a1
      ·rw [if_pos c9] at H;have c9b0:=decide_eq_true c9;clear c9;replace H:=Option.bind_eq_some_iff.mp H;obtain⟨⟨ax,ay,az⟩,A100,H⟩:=H;replace H:((spec_l01Pick.f s0_0 ay az (([0,1,1]:List Int))).bind fun aw=>(if ae.length < 17592186044416 then(spec_l01DrawM.l1 k2 a1 a2 ak ai (ae++ [wrap64 (ax*aw.1)]) (wrap64 (aj+1)) s0_0 aw.2.1 aw.2.2) else(none)))=some (r1,r2,r3):=H;have A10:=q_ A100;clear A100;obtain⟨aC,hy⟩: ∃y_:List Int,y_=(([0,1,1]:List Int)):=⟨_,rfl⟩
       replace H:((spec_l01Pick.f s0_0 ay az aC).bind fun aw=>(if ae.length < 17592186044416 then(spec_l01DrawM.l1 k2 a1 a2 ak ai (ae++ [wrap64 (ax*aw.1)]) (wrap64 (aj+1)) s0_0 aw.2.1 aw.2.2) else(none)))=some (r1,r2,r3):=hh_;have aT:=q_ hy;clear hy;replace H:=Option.bind_eq_some_iff.mp H;obtain⟨⟨aD,aG,aH⟩,A110,H⟩:=H;replace H:(if ae.length < 17592186044416 then(spec_l01DrawM.l1 k2 a1 a2 ak ai (ae++ [wrap64 (ax*aD)]) (wrap64 (aj+1)) s0_0 aG aH) else(none))=some (r1,r2,r3):=H;have A11:=q_ A110;clear A110
       by_cases c12:ae.length < 17592186044416
       ·rw [if_pos c12] at H;have bf:=q_ c12;clear c12;obtain⟨aW,hy⟩: ∃y_:List Int,y_=(ae++ [wrap64 (ax*aD)]):=⟨_,rfl⟩
        replace H:(spec_l01DrawM.l1 k2 a1 a2 ak ai aW (wrap64 (aj+1)) s0_0 aG aH)=some (r1,r2,r3):=hh_;have bg:=q_ hy;clear hy;have H':=q_ H;clear H
        go_wp2_with (first | ((with_reducible refine gate_callee (f:=76) rfl ?_);refine gL_ 26 Try.func76 #[.pointer (some ⟨g,0,none⟩), .int .i64 a2] ?_;(with_reducible refine(spec_l01DrawPart.calls g s0_0 ag ah a2 ax ay az w0 _ ?aI ?aJ A10.out).mono ?_);(case aI=>exact hi_);(case aJ=>exact hj_);rintro e w13 ⟨rfl,hi,hb,hk⟩;refine⟨_,rfl,?_⟩;replace aa:=q_ (Kd.S_mono (Kd.S_keep (IsS89.apartS (show IsS89 w0 _ g s0_0 ag ah from hi_) (so_ aa.out) (by decide)) hk (fun _ h=>h.2)) (fun _ h=>h.1));replace af:=q_ (Kd.R_mono (Kd.R_keep (IsS89.apart (show IsS89 w0 _ g s0_0 ag ah from hi_) (ro_ af.out) (by decide)) hk (fun _ h=>h.2)) (fun _ h=>h.1));replace HK:=q_ (KeepBut.trans hk_ hk (.inl rfl));replace HB:=q_ (hb);replace HI0:=q_ (hi);(try clear hb);(try clear hk);(try clear hi)) | ((with_reducible refine gate_dst (N:=28) rfl ?_);refine Kd.R_lit (Kd.int .i64) _ 2 ?hg (N:=28) ?hd (xs:=([0,1,1]:List Int)) (inner:= [.int .i64 0, .int .i64 1, .int .i64 1]) (ok:=fun _=>True) (okp:=fun _=>True) ?hr ?hp (fun _ hk=>hk) trivial (Below.refl _ _) (Nat.le_refl _) (by simp) ?_;(case hd=>rfl);(case hg=>rfl);(case hr=>first | (go_simp;done) | (go_simp;rfl));(case hp=>exact(Reps.one (show Kd.M (Kd.int .i64) _ _ _ 0 [.int .i64 0] from rfl) (Reps.one (show Kd.M (Kd.int .i64) _ _ _ 1 [.int .i64 1] from rfl) (Reps.one (show Kd.M (Kd.int .i64) _ _ _ 1 [.int .i64 1] from rfl) (Reps.none _ _)))));intro bF w14 aA hb hg_ hnew_;clear hg_ hnew_;(first | rw [← aT.out] at aA | (simp only [Int.reduceToNat] at aA;rw [← aT.out] at aA));replace aa:=q_ (Kd.S_elder' (so_ aa.out) (Kd.R_base aA) hb);have aq:=q_ (Kd.R_lower (Kd.R_new' aA (Kd.R_lt (ro_ af.out))) (keep_size (w:=w) (g:=g) (row:=none) hk_));replace HB:=q_ (below_step hj_ hb);replace af:=q_ (Kd.R_elder' (ro_ af.out) (Kd.R_base aA) hb);replace HI0:=q_ (IsS89.below hi_ hb);replace HK:=q_ (KeepBut.trans hk_ (KeepBut.of_below hb g none) (.inl rfl));clear hb aA;obtain⟨aK,aM,bA⟩:=Kd.R_slice aq.out;subst bA) | ((with_reducible refine gate_callee (f:=51) rfl ?_);refine gL_ 29 Try.func51 #[.pointer (some ⟨g,0,none⟩), .slice aK aC.length aM] ?_;(with_reducible refine(spec_l01Pick.calls g s0_0 ay az _ _ aC aD aG aH w0 _ ?aI ?aJ ?bh ?bk ?bq A11.out).mono ?_);(case aI=>exact hi_);(case aJ=>exact hj_);(case bh=>exact cR_);(case bk=>exact(Kd.R_reads' aq.out).2.1);(case bq=>exact far_slice (IsS89.own_ne HI0.out aq.out (by decide)));rintro e w17 ⟨rfl,hi,hb,hk⟩;refine⟨_,rfl,?_⟩;replace aa:=q_ (Kd.S_mono (Kd.S_keep (IsS89.apartS (show IsS89 w0 _ g s0_0 ay az from hi_) (so_ aa.out) (by decide)) hk (fun _ h=>h.2)) (fun _ h=>h.1));replace af:=q_ (Kd.R_mono (Kd.R_keep (IsS89.apart (show IsS89 w0 _ g s0_0 ay az from hi_) (ro_ af.out) (by decide)) hk (fun _ h=>h.2)) (fun _ h=>h.1));replace aq:=q_ (Kd.R_mono (Kd.R_keep (IsS89.apart (show IsS89 w0 _ g s0_0 ay az from hi_) (ro_ aq.out) (by decide)) hk (fun _ h=>h.2)) (fun _ h=>h.1));replace HK:=q_ (KeepBut.trans hk_ hk (.inl rfl));replace HB:=q_ (hb);replace HI0:=q_ (hi);(try clear hb);(try clear hk);(try clear hi)) | ((with_reducible refine gate_builtin (b:= .append) (xs:= #[.tmp 23, .tmp 31]) rfl ?_);at_builtin;refine Kd.R_append (Kd.int .i64) w.heap.size rfl (.tmp 23) (.tmp 31) 25 2 (.int .i64 0) 8 rfl Try.underlying25 info2 rfl (by decide) (by omega) u9 ae (wrap64 (ax*aD)) [.int .i64 (wrap64 (ax*aD))] (fun k_=>some k_≠(.slice aK aC.length aM:Value).ownBlock) (fun _=>False) rfl rfl ?aP (fun _ hk=>hk.elim) ?aF ?aO (Below.refl _ _) ?aS ?aL ?_;(case aP=>exact rfl);(case aF=>exact(fun k_ hk=>Kd.fresh' (Kd.R_lt (ro_ aq.out)) k_ hk));(case aO=>exact(kR_ af.out (fun _ hk=>hk.2)));(case aS=>exact(keep_size (w:=w) (g:=g) (row:=none) hk_));(case aL=>have:=bf.out;omega);intro bG w18 ho hb hg hat;rw [← bg.out] at ho;replace aa:=q_ (Kd.S_after (ok:=(fun k_=>some k_≠(.slice aK aC.length aM:Value).ownBlock)) (kS_ aa.out (fun _ hk=>⟨hk.2,hk.1⟩)) hg hat);replace aq:=q_ (Kd.R_after (ok:=(fun _=>True)) (ro_ aq.out) hg hat);replace HB:=q_ (below_weaken hj_ HL.out hb);replace HK:=q_ (KeepBut.trans hk_ (KeepBut.of_grown hg g) (Kd.R_base2 af.out));have bu:=q_ (ho);replace HI0:=q_ (IsS89.grown hi_ hg (IsS89.own_ne HI0.out af.out (by decide)));clear af ho hb hg hat))
        go_roundg k2
        case measure=>have:=HK1.out;have:=HK2.out;omega
        case rel=>exact⟨(aW),(wrap64 (aj+1)),(aG),(aH),rs_,H',⟨by have:=HK1.out;have:=HK2.out;omega⟩,⟨kS_ aa.out (fun _ hk=>hk.2)⟩,⟨kR_ bu.out (fun _ hk=>trivial)⟩,⟨hi_⟩,⟨hk_⟩,⟨hj_⟩⟩
       ·rw [if_neg c12] at H;exact absurd H (by simp)
      ·rw [if_neg c9] at H;have c9b0:=decide_eq_false c9;clear c9
       by_cases c19:ak.length < 5864062014805
       ·rw [if_pos c19] at H;have bv:=q_ c19;clear c19;obtain⟨aX,hy⟩: ∃y_:List (List Int),y_=(ak++ [ae]):=⟨_,rfl⟩
        replace H:(spec_l01DrawM.l0 k2 a1 a2 aX (wrap64 (ai+1)) s0_0 ag ah)=some (r1,r2,r3):=hh_;have bw:=q_ hy;clear hy;have H':=q_ H;clear H;obtain⟨aY,aZ,bC⟩:=Kd.R_slice af.out;subst bC
        go_wp2_with (first | ((with_reducible refine gate_builtin (b:= .append) (xs:= #[.tmp 33, .tmp 35]) rfl ?_);at_builtin;refine Kd.S_append (Kd.slice 2 (Kd.int .i64)) w.heap.size rfl (.tmp 33) (.tmp 35) 24 25 (.slice none 0 0) 24 rfl Try.underlying24 info25 rfl (by decide) (by omega) u7 ak ae [.slice aY ae.length aZ] (fun _=>True) (fun k_=>some k_=(.slice aY ae.length aZ:Value).ownBlock) rfl rfl ?aP (fun k_ hk_=>((Kd.R_mono (ok':=fun k_=>((fun _=>True)) k_∧some k_≠(u7:Value).ownBlock) (Kd.R_apart' (af.out) (Kd.S_typed aa.out) (by decide)) (fun k_ hk=>⟨trivial,hk.2⟩))).1 k_ hk_.symm) ?aF ?aO (Below.refl _ _) ?aS ?aL ?_;(case aP=>exact Kd.M_row (Kd.R_mono (Kd.R_tight rfl (Kd.R_mono (ok':=fun k_=>((fun _=>True)) k_∧some k_≠(u7:Value).ownBlock) (Kd.R_apart' (af.out) (Kd.S_typed aa.out) (by decide)) (fun k_ hk=>⟨trivial,hk.2⟩))) (fun _ h_=>h_)));(case aF=>exact(fun _ _=>trivial));(case aO=>exact(kS_ aa.out (fun k_ hk=>⟨trivial,fun e_=>hk e_⟩)));(case aS=>exact(keep_size (w:=w) (g:=g) (row:=none) hk_));(case aL=>have:=bv.out;omega);intro bH w20 ho hb hg hat;rw [← bw.out] at ho;replace HB:=q_ (below_weaken hj_ HL.out hb);replace HK:=q_ (KeepBut.trans hk_ (KeepBut.of_grown hg g) (Kd.S_base2 aa.out));have bz:=q_ (ho);replace HI0:=q_ (IsS89.grown hi_ hg (IsS89.own_neS HI0.out aa.out (by decide)));clear aa af ho hb hg hat))
        go_roundg k2
        case measure=>have:=HK1.out;have:=HK2.out;omega
        case rel=>exact⟨(aX),(wrap64 (ai+1)),(ag),(ah),rs_,H',⟨by have:=HK1.out;have:=HK2.out;omega⟩,⟨so_ bz.out⟩,⟨hi_⟩,⟨hk_⟩,⟨hj_⟩⟩
       ·rw [if_neg c19] at H;exact absurd H (by simp)
   ·rw [if_neg c6] at H;have c6b0:=decide_eq_false c6;clear c6;simp only [Option.some.injEq,Prod.mk.injEq] at H;obtain⟨rfl,rfl,rfl⟩:=H;go_wp2
    go_ret
    exact⟨_,ew_,so_ aa.out,hi_,hj_,hk_⟩
end Go.Proofs.Ytbjljcpngbhkeaa.Pr
end
section
namespace Go.Proofs.Ytbjljcpngbhkeaa.Dr
open Go.RowKit Wz.PrintWords Wz.PrintLast Wz.PrintMore Ma Pr
def Srm (w0 w:World) (g:Nat):Prop:= ∃b a h,IsS89 w0 w g b a h∧Src b a
structure Stp (w0 w:World) (g:Nat) (w':World):Prop where
 src:Srm w0 w' g
 below:Below w0.heap.size w0 w'
 keep:KeepBut w w' g none
section
variable {w0 w:World} {g:Nat} (h:Srm w0 w g) (hB:Below w0.heap.size w0 w)
include h hB
theorem next_c (n:Int):Calls Try.prog 37 #[.pointer (some ⟨g,0,none⟩), .int .i64 n] w fun e w'=> ∃x,e= .returned (.int .i64 x)∧(1≤n→0≤x∧x < n)∧Stp w0 w g w':=by
 obtain⟨b,a,hh,hI,hs⟩:=h
 obtain⟨x,a',h',e,p1,p2,p3⟩:=next_f hs hh n
 refine(spec_l01Next.calls g b a hh n x a' h' w0 w hI hB e).mono ?_
 rintro e w' ⟨rfl,hI',hB',hK⟩
 exact⟨x,rfl,p2,⟨b,a',h',hI',p1⟩,hB',hK⟩
theorem pick_c (A1:Option Addr) (c1:Nat) (l1:List Int) (hr1:Kd.C (Kd.int .i64) w A1 l1.length l1) (hc1:l1.length≤c1) (hf1: ∀ad,A1=some ad→0 < l1.length→ad.block≠g) (hl:1≤l1.length):Calls Try.prog 51 #[.pointer (some ⟨g,0,none⟩), .slice A1 l1.length c1] w fun e w'=> ∃x,e= .returned (.int .i64 x)∧x ∈ l1∧Stp w0 w g w':=by
 obtain⟨b,a,hh,hI,hs⟩:=h
 obtain⟨r,⟨k,e⟩,p1,p2⟩:=pick_ex hs hh l1 hl
 refine(spec_l01Pick.calls g b a hh A1 c1 l1 r.1 r.2.1 r.2.2 w0 w hI hB hr1 hc1 hf1 (e k (Nat.le_refl _))).mono ?_
 rintro e w' ⟨rfl,hI',hB',hK⟩
 exact⟨_,rfl,p2,⟨b,_,_,hI',p1⟩,hB',hK⟩
theorem part_c (n:Int):Calls Try.prog 76 #[.pointer (some ⟨g,0,none⟩), .int .i64 n] w fun e w'=> ∃x,e= .returned (.int .i64 x)∧Stp w0 w g w':=by
 obtain⟨b,a,hh,hI,hs⟩:=h
 obtain⟨x,a',h',e,p1,p2,p3⟩:=next_f hs hh (wrap64 (wrap64 (2*n)+1))
 refine(spec_l01DrawPart.calls g b a hh n _ a' h' w0 w hI hB (by unfold spec_l01DrawPart.f;rw [e];rfl)).mono ?_
 rintro e w' ⟨rfl,hI',hB',hK⟩
 exact⟨_,rfl,⟨b,a',h',hI',p1⟩,hB',hK⟩
end
theorem keep_cell {w w':World} {g:Nat} (hk:KeepBut w w' g none) {p:Addr} {v:Value} (h:w.cell? p=some v) (hp:p.block≠g):w'.cell? p=some v:=by
 have:=World.block_lt_of_cell? w _ h
 rw [← h]
 unfold World.cell?
 rw [hk.2 _ this hp (by simp)]
theorem keep_froz {w w':World} {g:Nat} (hk:KeepBut w w' g none) {p:Addr} (hl:p.block < w.heap.size) (hp:p.block≠g):w'.frozen? p=w.frozen? p:=by
 unfold World.frozen?
 rw [hk.2 _ hl hp (by simp)]
theorem Stp.refl {w0 w:World} {g:Nat} (h:Srm w0 w g) (hB:Below w0.heap.size w0 w):Stp w0 w g w:=⟨h,hB,KeepBut.refl w g none⟩
theorem Stp.trans {w0 w w1 w2:World} {g:Nat} (h:Stp w0 w g w1) (k:Stp w0 w1 g w2):Stp w0 w g w2:=⟨k.src,k.below,h.keep.trans k.keep (.inl rfl)⟩
theorem Srm.ge {w0 w:World} {g:Nat} (h:Srm w0 w g):w0.heap.size≤g:=by
 obtain⟨b,a,hh,hI,hs⟩:=h
 exact hI.ge
theorem Srm.lt {w0 w:World} {g:Nat} (h:Srm w0 w g):g < w.heap.size:=by
 obtain⟨b,a,hh,hI,hs⟩:=h
 exact hI.lt
theorem Srm.keep {w0 w w':World} {g:Nat} (h:Srm w0 w g) (e:w'.heap[g]?=w.heap[g]?):Srm w0 w' g:=by
 obtain⟨b,a,hh,⟨A0,c0,h1,h2,h3⟩,hs⟩:=h
 exact⟨b,a,hh,⟨A0,c0,e.trans h1,h2,h3⟩,hs⟩
theorem Stp.of_below {w0 w w':World} {g:Nat} (h:Srm w0 w g) (hB:Below w0.heap.size w0 w) (hb:Below w.heap.size w w'):Stp w0 w g w':=
 ⟨h.keep (hb.block g h.lt),below_then hB hB.size hb,KeepBut.of_below hb g none⟩
theorem Stp.set {w0 wE w:World} {g:Nat} (h:Stp w0 wE g w) (hE:w0.heap.size≤wE.heap.size) (b i:Nat) (v:Value) (hb:wE.heap.size≤b) (hg:b≠g):Stp w0 wE g (w.setCell ⟨b,i,none⟩ v):=
 ⟨h.src.keep (Below.heap_setCell w ⟨b,i,none⟩ v g (Ne.symm hg)),h.below.setCell (Nat.le_trans hE hb) v,⟨by simpa [World.setCell] using h.keep.1,fun j hj h1 h2=>(Below.heap_setCell w ⟨b,i,none⟩ v j (by intro e;subst e;exact absurd hb (by omega))).trans (h.keep.2 j hj h1 h2)⟩⟩
theorem drawM_ex {b:List Int} {a:Int} (hs:Src b a) (h most:Int) (n:Nat) (hn:n≤5):Ex (fun k=>spec_l01DrawM.f k b a h (n:Int) most) (fun r=>r.1.length=n∧(∀x ∈ r.1,x.length=n)∧Src b r.2.1):=by
 have loop: ∀(q i:Nat) (a h:Int) (acc:List (List Int)),i+q=n→acc.length=i→(∀x ∈ acc,x.length=n)→Src b a→Ex (fun k=>spec_l01DrawM.l0 k (n:Int) most acc (i:Int) b a h) (fun r=>r.1.length=n∧(∀x ∈ r.1,x.length=n)∧Src b r.2.1):=by
  intro q
  induction q with
  | zero=>
   intro i a h acc hi hl hx hs
   refine exstep (fun k=>by rw [spec_l01DrawM.l0]) ?_
   exact exneg (by omega) (exc rfl ⟨by show acc.length=n;omega,hx,hs⟩)
  | succ q ih=>
   intro i a h acc hi hl hx hs
   have inner: ∀(p j:Nat) (a h:Int) (row:List Int),j+p=n→row.length=j→Src b a→Ex (fun k=>spec_l01DrawM.l1 k (n:Int) most acc (i:Int) row (j:Int) b a h) (fun r=>r.1.length=n∧(∀x ∈ r.1,x.length=n)∧Src b r.2.1):=by
    intro p
    induction p with
    | zero=>
     intro j a h row hj hr hs
     refine exstep (fun k=>by rw [spec_l01DrawM.l1]) ?_
     refine exneg (by omega) (expos (by omega) ?_)
     rw [w64 (x:=(i:Int)+1) (by omega) (by omega)]
     refine ih (i+1) a h _ (by omega) (by simp;omega) (fun x hm=>?_) hs
     rcases List.mem_append.1 hm with m | m
     ·exact hx x m
     ·rw [List.mem_singleton.1 m];omega
    | succ p ihp=>
     intro j a h row hj hr hs
     refine exstep (fun k=>by rw [spec_l01DrawM.l1]) ?_
     rw [w64 (x:=(j:Int)+1) (by omega) (by omega)]
     refine expos (by omega) (exbind (P:=fun r=>Src b r.2.1) ?_ (fun r p=>exbind (pick_ex p r.2.2 _ (by decide)) (fun r2 p2=>expos (by omega) (ihp (j+1) _ _ _ (by omega) (by simp;omega) p2.1))))
     unfold spec_l01DrawPart.f
     exact exbind (next_ex hs h _) (fun r p=>exc rfl p.1)
   refine exstep (fun k=>by rw [spec_l01DrawM.l0]) ?_
   exact expos (by omega) (inner n 0 a h [] (by omega) rfl hs)
 exact loop n 0 a h [] (by omega) rfl (by simp) hs
end Go.Proofs.Ytbjljcpngbhkeaa.Dr
end
section
namespace Go.Proofs.Ytbjljcpngbhkeaa.Lq
open Go.RowKit Wz.PrintWords Wz.PrintLast Wz.PrintMore
theorem nd_ {P:Program} {ops:Array Oper} {Q:Exit→Act→World→Prop} {md:Region.Mode} {S:World→Prop} {ds:List Nat} {fuel:Nat} {l:Array Bool} {a a':Act} {w:World} {dst:Option Tmp} {v:Value} (N:Tmp) (h:wpAnyLast P md ops Q S ds fuel l a' w) (hN:dst=some N:=by rfl) (ha:a.put (some N) v=a':=by(simp only [Act.put,List.setIfInBounds_toArray,List.set_cons_zero,List.set_cons_succ,i64_w,i32_w];rfl)):wpAnyLast P md ops Q S ds fuel l (a.put dst v) w:=by
 subst hN;rw [ha];exact h
theorem lt_of_cell {w:World} {p:Addr} {v:Value} (h:w.cell? p=some v):p.block < w.heap.size:=World.block_lt_of_cell? w _ h
theorem cset_same {w:World} {p:Addr} {u v:Value} (h:w.cell? p=some u):(w.setCell p v).cell? p=some v:=World.cell?_setCell_same w p v h
theorem cset_other {w:World} {p q:Addr} {v:Value} (h:p≠q):(w.setCell p v).cell? q=w.cell? q:=World.cell?_setCell_other w p q v h
theorem fset {w:World} {p q:Addr} {v:Value}:(w.setCell p v).frozen? q=w.frozen? q:=World.frozen?_setCell w p q v
theorem cset_blk {w:World} {g i h j:Nat} {v:Value} (e:g≠h):(w.setCell ⟨g,i,none⟩ v).cell? ⟨h,j,none⟩=w.cell? ⟨h,j,none⟩:=cset_other (fun q=>e (congrArg Addr.block q))
theorem cset_off {w:World} {g i h j:Nat} {v:Value} (e:i≠j):(w.setCell ⟨g,i,none⟩ v).cell? ⟨h,j,none⟩=w.cell? ⟨h,j,none⟩:=cset_other (fun q=>e (congrArg Addr.off q))
theorem add_off (g i j:Nat):(⟨g,i,none⟩:Addr).add j=⟨g,i+j,none⟩:=by unfold Addr.add;split <;> simp_all
end Go.Proofs.Ytbjljcpngbhkeaa.Lq
end
section
namespace Go.Proofs.Ytbjljcpngbhkeaa.Lp
open Go.RowKit Wz.PrintWords Wz.PrintLast Wz.PrintMore Ma Lq
theorem S_put {e base n' cap i k:Nat} {W:World} {ok:Nat→Prop} {ad:Addr} {Ls:List (List Int)} {v13:Value} (h:Kd.S (Kd.slice 2 (Kd.int .i64)) e W base ok (.slice (some ad) n' cap) Ls) (hi:i < n') (hcell:W.cell? (ad.add i)=some v13) (hk:k < (Ls.getD i []).length):
  ∃g c,v13= .slice (some ⟨g,0,none⟩) (Ls.getD i []).length c∧ok g∧some g≠(Value.slice (some ad) n' cap).ownBlock∧(∃cells,W.heap[g]?=some (.cells cells 2 (0,0)))∧W.cell? ⟨g,k,none⟩=some (.int .i64 ((Ls.getD i []).getD k 0))∧W.frozen? ⟨g,k,none⟩=false∧base≤g∧
   ∀x,W.grownBy (W.setCell ⟨g,k,none⟩ (.int .i64 x)) (some g)∧Kd.S (Kd.slice 2 (Kd.int .i64)) e (W.setCell ⟨g,k,none⟩ (.int .i64 x)) base ok (.slice (some ad) n' cap) (Ls.set i ((Ls.getD i []).set k x)):=by
 obtain⟨oki,c,hcl,hM,hcc,hoki,hback⟩:=Kd.S_borrow h ([]:List Int) (i:Int) (by omega) (by omega)
 rw [Int.toNat_natCast] at hM hcc hback
 obtain⟨v,hc,hR⟩:=hM
 subst hc
 have hv:=hcc 0 v rfl
 rw [show i*(Kd.slice 2 (Kd.int .i64)).sz+0=i from by show i*1+0=i;omega,hcell] at hv
 injection hv with hv
 subst hv
 obtain⟨g,cap8,hv8,hb8,hl8,cells,hc8⟩:=Kd.R_form hR (by omega)
 have ho:v13.ownBlock=some g:=by rw [hv8];simp [Value.ownBlock]
 have hokg:=hR.1 g ho
 rw [hv8] at hR
 have hat:=Kd.R_celln 0 hR (k:Int) (by omega) (by omega)
 rw [Int.toNat_natCast] at hat
 refine⟨g,cap8,hv8,(hoki g hokg).1,(hoki g hokg).2,⟨cells,hc8⟩,by simpa [rdOf] using hat.1,hat.2,hb8,fun x=>?_⟩
 have hp:=Kd.R_putg hR (k:Int) x
 rw [Int.toNat_natCast] at hp
 refine⟨hp.2,hback hp.2 (fun q hq=>by injection hq with hq;rw [← hq];exact hokg) ⟨_,by rw [hv8],?_⟩⟩
 have e:=hp.1
 rw [show (Ls.getD i []).length=((Ls.getD i []).set k x).length from by simp] at e ⊢
 exact e
end Go.Proofs.Ytbjljcpngbhkeaa.Lp
end
section
namespace Go.Proofs.Ytbjljcpngbhkeaa.Dr
open Go.RowKit Wz.PrintWords Wz.PrintLast Wz.PrintMore Ma Pr Lq Lp
theorem vec_C {w:World} {b n:Nat} (hn:n≤1099511627776) (f:Nat→Int) (hx: ∀k,k < n→w.cell? ⟨b,k,none⟩=some (.int .i64 (f k))):Kd.C (Kd.int .i64) w (some ⟨b,0,none⟩) ((List.range n).map f).length ((List.range n).map f):=by
 have hl:((List.range n).map f).length=n:=by simp
 refine⟨rfl,by rw [hl];omega,fun _=>⟨_,rfl,fun c p hp=>?_⟩⟩
 have hc:c < n:=by have:=(List.getElem?_eq_some_iff.1 hp).1;omega
 have hpe:p=f c:=by
  rw [List.getElem?_map,List.getElem?_range hc] at hp
  exact(Option.some.inj hp).symm
 subst hpe
 refine⟨[.int .i64 (f c)],rfl,rfl,fun u v hv=>?_⟩
 have hu:u=0:=by cases u with
  | zero=>rfl
  | succ u=>simp at hv
 subst hu
 have hv:Value.int .i64 (f c)=v:=by simpa using hv
 rw [← hv]
 have e:(⟨b,0,none⟩:Addr).add (c*(Kd.int .i64).sz+0)=⟨b,c,none⟩:=by
  show (⟨b,0,none⟩:Addr).add (c*1+0)=_
  rw [Nat.mul_one,Nat.add_zero,add_off];try rw [Nat.zero_add]
 rw [e]
 exact hx c hc
structure Dm (w:World) (lo gm n c:Nat) (b cp:Nat→Nat):Prop where
 g0:lo≤gm∧gm < w.heap.size
 cap:n≤c
 row: ∀j,j < n→w.cell? ⟨gm,j,none⟩=some (.slice (some ⟨b j,0,none⟩) n (cp j))
 rr: ∀j,j < n→lo≤b j∧b j < w.heap.size∧b j≠gm∧n≤cp j
 ints: ∀j k,j < n→k < n→(∃x,w.cell? ⟨b j,k,none⟩=some (.int .i64 x))∧w.frozen? ⟨b j,k,none⟩=false
section
variable {w w':World} {lo gm n c:Nat} {b cp:Nat→Nat} (h:Dm w lo gm n c b cp)
include h
theorem Dm.down {lo2:Nat} (hl:lo2≤lo):Dm w lo2 gm n c b cp:=⟨⟨Nat.le_trans hl h.g0.1,h.g0.2⟩,h.cap,h.row,fun j hj=>⟨Nat.le_trans hl (h.rr j hj).1,(h.rr j hj).2⟩,h.ints⟩
theorem Dm.keep {g:Nat} (hk:KeepBut w w' g none) (hg:g < lo):Dm w' lo gm n c b cp:=by
 have h0:=h.g0
 refine⟨⟨h0.1,Nat.lt_of_lt_of_le h0.2 hk.1⟩,h.cap,fun j hj=>keep_cell hk (h.row j hj) (by show gm≠g;omega),fun j hj=>?_,fun j k hj hk2=>?_⟩
 ·have:=h.rr j hj;exact⟨this.1,Nat.lt_of_lt_of_le this.2.1 hk.1,this.2.2⟩
 ·have hr:=h.rr j hj
  obtain⟨⟨x,hx⟩,hf⟩:=h.ints j k hj hk2
  exact⟨⟨x,keep_cell hk hx (by show b j≠g;omega)⟩,(keep_froz hk hr.2.1 (by show b j≠g;omega)).trans hf⟩
theorem Dm.set {d i:Nat} {v:Value} (hg:d≠gm) (hb: ∀j,j < n→d≠b j):Dm (w.setCell ⟨d,i,none⟩ v) lo gm n c b cp:=by
 have hs:(w.setCell ⟨d,i,none⟩ v).heap.size=w.heap.size:=by simp [World.setCell]
 refine⟨by rw [hs];exact h.g0,h.cap,fun j hj=>(cset_blk hg).trans (h.row j hj),fun j hj=>by rw [hs];exact h.rr j hj,fun j k hj hk=>?_⟩
 obtain⟨⟨x,hx⟩,hf⟩:=h.ints j k hj hk
 exact⟨⟨x,(cset_blk (hb j hj)).trans hx⟩,fset.trans hf⟩
theorem Dm.put {i k:Nat} (hi:i < n) (hk:k < n) (x:Int):Dm (w.setCell ⟨b i,k,none⟩ (.int .i64 x)) lo gm n c b cp:=by
 have hs:(w.setCell ⟨b i,k,none⟩ (.int .i64 x)).heap.size=w.heap.size:=by simp [World.setCell]
 refine⟨by rw [hs];exact h.g0,h.cap,fun j hj=>(cset_blk (h.rr i hi).2.2.1).trans (h.row j hj),fun j hj=>by rw [hs];exact h.rr j hj,fun j q hj hq=>?_⟩
 obtain⟨⟨y,hy⟩,hf⟩:=h.ints j q hj hq
 refine⟨?_,fset.trans hf⟩
 by_cases e:b i=b j∧k=q
 ·obtain⟨e1,rfl⟩:=e
  rw [← e1]
  obtain⟨⟨z,hz⟩,_⟩:=h.ints i k hi hk
  exact⟨x,cset_same hz⟩
 ·refine⟨y,?_⟩
  by_cases e1:b i=b j
  ·exact(cset_off (fun q2=>e ⟨e1,q2⟩)).trans hy
  ·exact(cset_blk e1).trans hy
open Classical in
theorem Dm.C (hn:n≤1000): ∃M:List (List Int),M.length=n∧(∀x ∈ M,x.length=n)∧Kd.C (Kd.slice 2 (Kd.int .i64)) w (some ⟨gm,0,none⟩) M.length M:=by
 have hx: ∀j k, ∃x:Int,j < n→k < n→w.cell? ⟨b j,k,none⟩=some (.int .i64 x):=fun j k=>by
  by_cases q:j < n∧k < n
  ·obtain⟨x,hx⟩:=(h.ints j k q.1 q.2).1
   exact⟨x,fun _ _=>hx⟩
  ·exact⟨0,fun a b=>absurd ⟨a,b⟩ q⟩
 have hf: ∃f:Nat→Nat→Int, ∀j k,j < n→k < n→w.cell? ⟨b j,k,none⟩=some (.int .i64 (f j k)):=by
  refine⟨fun j k=>Classical.choose (hx j k),fun j k=>Classical.choose_spec (hx j k)⟩
 obtain⟨f,hf⟩:=hf
 refine⟨(List.range n).map (fun j=>(List.range n).map (f j)),by simp,fun x hm=>?_,?_⟩
 ·obtain⟨j,_,rfl⟩:=List.mem_map.1 hm
  simp
 ·have hl:((List.range n).map (fun j=>(List.range n).map (f j))).length=n:=by simp
  refine⟨rfl,by rw [hl];omega,fun _=>⟨_,rfl,fun q p hp=>?_⟩⟩
  have hc:q < n:=by have:=(List.getElem?_eq_some_iff.1 hp).1;omega
  have hpe:p=(List.range n).map (f q):=by
   rw [List.getElem?_map,List.getElem?_range hc] at hp
   exact(Option.some.inj hp).symm
  subst hpe
  have hlq:((List.range n).map (f q)).length=n:=by simp
  refine⟨[.slice (some ⟨b q,0,none⟩) ((List.range n).map (f q)).length (cp q)],rfl,⟨_,_,rfl,by rw [hlq];exact(h.rr q hc).2.2.2,vec_C (by omega) (f q) (fun k hk=>hf q k hc hk)⟩,fun u v hv=>?_⟩
  have hu:u=0:=by cases u with
   | zero=>rfl
   | succ u=>simp at hv
  subst hu
  have hv:Value.slice (some ⟨b q,0,none⟩) ((List.range n).map (f q)).length (cp q)=v:=by simpa using hv
  rw [← hv,hlq]
  have e:(⟨gm,0,none⟩:Addr).add (q*(Kd.slice 2 (Kd.int .i64)).sz+0)=⟨gm,q,none⟩:=by
   show (⟨gm,0,none⟩:Addr).add (q*1+0)=_
   rw [Nat.mul_one,Nat.add_zero,add_off];try rw [Nat.zero_add]
  rw [e]
  exact h.row q hc
end
theorem S_cap {e base n' cap i:Nat} {W:World} {ok:Nat→Prop} {ad:Addr} {Ls:List (List Int)} (h:Kd.S (Kd.slice 2 (Kd.int .i64)) e W base ok (.slice (some ad) n' cap) Ls) (hi:i < n'): ∃A c,W.cell? (ad.add i)=some (.slice A (Ls.getD i []).length c)∧(Ls.getD i []).length≤c:=by
 obtain⟨oki,c,hcl,hM,hcc,_,_⟩:=Kd.S_borrow h ([]:List Int) (i:Int) (by omega) (by omega)
 rw [Int.toNat_natCast] at hM hcc
 obtain⟨v,hc,hR⟩:=hM
 subst hc
 have hv:=hcc 0 v rfl
 rw [show i*(Kd.slice 2 (Kd.int .i64)).sz+0=i from by show i*1+0=i;omega] at hv
 obtain⟨A,c,rfl⟩:=Kd.R_slice hR
 exact⟨A,c,hv,(Kd.R_reads' hR).2.1⟩
theorem Dm.of {w:World} {e base:Nat} {ok:Nat→Prop} {v:Value} {M:List (List Int)} {n:Nat} (h:Kd.S (Kd.slice 2 (Kd.int .i64)) e w base ok v M) (hM:M.length=n) (hr: ∀x ∈ M,x.length=n) (hn:0 < n): ∃gm c b cp,v= .slice (some ⟨gm,0,none⟩) n c∧Dm w base gm n c b cp∧ok gm∧ ∀j,j < n→ok (b j):=by
 obtain⟨gm,c,rfl,hb,hl,cells,hc⟩:=Kd.S_form h (by omega)
 have hcap:=(Kd.S_reads' h).2.1
 rw [hM] at hcap
 have rows: ∀j:Nat, ∃(p:Nat × Nat),j < n→w.cell? ⟨gm,j,none⟩=some (.slice (some ⟨p.1,0,none⟩) n p.2)∧base≤p.1∧p.1 < w.heap.size∧p.1≠gm∧n≤p.2∧(∀k,k < n→(∃x,w.cell? ⟨p.1,k,none⟩=some (.int .i64 x))∧w.frozen? ⟨p.1,k,none⟩=false)∧ok p.1:=fun j=>by
  by_cases hj:j < n
  ·have hlen:(M.getD j []).length=n:=by
    rw [List.getD_eq_getElem?_getD,List.getElem?_eq_getElem (by omega)]
    exact hr _ (List.getElem_mem _)
   obtain⟨A,cj,hcell,hcj⟩:=S_cap h (show j < M.length by omega)
   rw [add_off,Nat.zero_add] at hcell
   obtain⟨g1,c1,e1,o1,n1,t1,x1,f1,b1,_⟩:=S_put h (show j < M.length by omega) (by rw [add_off,Nat.zero_add];exact hcell) (show 0 < (M.getD j []).length by omega)
   rw [hlen] at e1 hcell
   rw [e1] at hcell
   injection e1 with e1a e1b e1c
   refine⟨(g1,c1),fun _=>⟨hcell,b1,lt_of_cell x1,fun q=>n1 (by rw [show g1=gm from q];simp [Value.ownBlock]),?_,fun k hk=>?_,o1⟩⟩
   ·show n≤c1
    omega
   ·obtain⟨g2,c2,e2,o2,n2,t2,x2,f2,b2,_⟩:=S_put h (show j < M.length by omega) (by rw [add_off,Nat.zero_add];exact hcell) (show k < (M.getD j []).length by omega)
    injection e2 with e3
    injection e3 with e3
    injection e3 with e3
    subst e3
    exact⟨⟨_,x2⟩,f2⟩
  ·exact⟨(0,0),fun q=>absurd q hj⟩
 obtain⟨f,hf⟩:=Classical.axiomOfChoice rows
 have hok:ok gm:=(Kd.S_R h).1 gm (by rw [hM];simp [Value.ownBlock])
 rw [hM]
 exact⟨gm,c,fun j=>(f j).1,fun j=>(f j).2,rfl,⟨⟨hb,hl⟩,hcap,fun j hj=>(hf j hj).1,fun j hj=>⟨(hf j hj).2.1,(hf j hj).2.2.1,(hf j hj).2.2.2.1,(hf j hj).2.2.2.2.1⟩,fun j k hj hk=>(hf j hj).2.2.2.2.2.1 k hk⟩,hok,fun j hj=>(hf j hj).2.2.2.2.2.2⟩
end Go.Proofs.Ytbjljcpngbhkeaa.Dr
end
section
namespace Go.Proofs.Ytbjljcpngbhkeaa.Dr
open Go.RowKit Wz.PrintWords Wz.PrintLast Wz.PrintMore Ma Pr Lq
attribute [local go_sem] max2_int min2_int max_two min_two max_three min_three max_four min_four
theorem drawM_c {w0 w:World} {g:Nat} (h:Srm w0 w g) (hB:Below w0.heap.size w0 w) (n:Nat) (hn:n≤5) (hn0:0 < n) (most:Int):Calls Try.prog 102 #[.pointer (some ⟨g,0,none⟩), .int .i64 (n:Int), .int .i64 most] w fun e w'=> ∃gm c b cp,e= .returned (.slice (some ⟨gm,0,none⟩) n c)∧Dm w' w.heap.size gm n c b cp∧Stp w0 w g w':=by
 obtain⟨bs,a,hh,hI,hs⟩:=h
 obtain⟨r,⟨k,e⟩,p1,p2,p3⟩:=drawM_ex hs hh most n hn
 refine(spec_l01DrawM.calls k g bs a hh (n:Int) most r.1 r.2.1 r.2.2 w0 w hI hB (e k (Nat.le_refl _))).mono ?_
 rintro e w' ⟨v,rfl,hS,hI',hB',hK⟩
 obtain⟨gm,c,b,cp,rfl,hD,_⟩:=Dm.of hS p1 p2 hn0
 exact⟨gm,c,b,cp,rfl,hD,⟨⟨bs,_,_,hI',p3⟩,hB',hK⟩⟩
theorem drawP_c {w0 w:World} {g:Nat} (h:Srm w0 w g) (hB:Below w0.heap.size w0 w) (n:Nat) (hn:n≤5) (hn0:0 < n):Calls Try.prog 103 #[.pointer (some ⟨g,0,none⟩), .int .i64 (n:Int)] w fun e w'=> ∃gm c b cp,e= .returned (.slice (some ⟨gm,0,none⟩) n c)∧Dm w' w.heap.size gm n c b cp∧Stp w0 w g w':=by
 have HM:=q_ (drawM_c h hB n hn hn0 3);have HG:=q_ h.lt;have HE:=q_ hB.size;have HN:=q_ hn;clear h hB hn hn0
 go_enter Try.func103,Try.ntmps103
 go_wp2_with fail
 refine HM.out.mono ?_
 rintro e w1 ⟨gm,c,b,cp,rfl,hD,hS⟩;have DM:=q_ hD;have ST:=q_ hS;clear hD hS HM;go_wp2
 go_loopg [6] n (fun gg v6 wr=> ∃(i:Nat),i≤n∧n - i≤gg∧v6= .int .i64 (i:Int)∧Aside0 (Dm wr w.heap.size gm n c b cp)∧Aside0 (Stp w0 w g wr))
 case atStart=>exact⟨0,Nat.zero_le _,by omega,rfl,DM,ST⟩
 case round=>
  clear DM ST;obtain⟨i,hi',hg,rfl,DM,ST⟩:=hrel;have HGG:=q_ hg
  by_cases hlt:i < n
  ·have hltz:(i:Int) < (n:Int):=by omega
   have h0z:(0:Int)≤(i:Int):=by omega
   have hwi:IntKind.i64.wrap ((i:Int)+1)=((i+1:Nat):Int):=by rw [IntWalk.i64_in _ (by have:=HN.out;omega)];rfl
   have HWI:=q_ hwi;have HLT:=q_ hlt;have hrow:=DM.out.row i hlt;obtain⟨⟨x,hx⟩,hfx⟩:=DM.out.ints i i hlt hlt;have hr:=DM.out.rr i hlt;have DM2:=q_ (DM.out.put hlt hlt 0);have ST2:=q_ (ST.out.set HE.out (b i) i (.int .i64 0) hr.1 (by have:=HG.out;omega));have HR:=q_ hr;clear hi' hg hlt DM ST hr;go_wp2
   clear hrow hx hfx
   generalize wr.setCell ⟨b i,i,none⟩ (.int .i64 0)=w2 at*
   go_loopg [8,9] n (fun gg v8 v9 wr2=> ∃(k:Nat) (s:Int),k≤n∧n - k≤gg∧v8= .int .i64 s∧v9= .int .i64 (k:Int)∧Aside0 (Dm wr2 w.heap.size gm n c b cp)∧Aside0 (Stp w0 w g wr2))
   case atStart=>exact⟨0,1,Nat.zero_le _,by omega,rfl,rfl,DM2,ST2⟩
   case round=>
    clear DM2 ST2;obtain⟨k,s,hk',hg2,rfl,rfl,DM,ST⟩:=hrel;have HG2:=q_ hg2
    by_cases hkn:k < n
    ·have hknz:(k:Int) < (n:Int):=by omega
     have h0k:(0:Int)≤(k:Int):=by omega
     have hwk:IntKind.i64.wrap ((k:Int)+1)=((k+1:Nat):Int):=by rw [IntWalk.i64_in _ (by have:=HN.out;omega)];rfl
     have HWK:=q_ hwk;have HKN:=q_ hkn;clear hk' hg2 hkn;go_wp2
     have hb:=below_drew (Below.refl wr.heap.size wr);replace ST:=q_ (ST.out.trans (Stp.of_below ST.out.src ST.out.below hb));replace DM:=q_ (DM.out.keep (KeepBut.of_below hb g none) HG.out);obtain⟨⟨x,hx⟩,hfx⟩:=DM.out.ints i k HLT.out HKN.out;refine st_ (n:=13) (S:=fun w'=>w'.cell? ⟨b i,k,none⟩=some (.int .i64 x)) (ds:= []) hx (fun hHeld=>?_)
     clear hb hx hfx
     generalize wr.drew=w3 at DM ST hHeld ⊢
     refine p4_ 0 30 1 31 2 32 3 33 ?_;refine p3_ 5 35 6 36 7 37 ?_;refine tk_ 4 34 ?_;refine tk_ 8 38 ?_;refine p4_ 9 39 10 40 11 41 12 8 ?_
     refine done_ (by kernel_rfl) ?_
     clear hHeld;go_wp2
     all_goals (go_roundg (n - (k+1));(case measure=>have:=HG2.out;have:=HKN.out;omega);(case rel=>exact⟨k+1,_,HKN.out,by omega,rfl,by first | rfl | (rw [HWK.out]) | (simp [HWK.out]),DM,ST⟩))
    ·have hknz: ¬ (k:Int) < (n:Int):=by omega
     clear hk' hg2 hkn
     go_wp2_with fail
     refine(next_c ST.out.src ST.out.below 3).mono ?_
     rintro e w3 ⟨y,rfl,_,hS⟩;replace ST:=q_ (ST.out.trans hS);replace DM:=q_ (DM.out.keep hS.keep HG.out);obtain⟨⟨x,hx⟩,hfx⟩:=DM.out.ints i i HLT.out HLT.out;clear hS;go_wp2
     go_roundg (n - (i+1))
     case measure=>have:=HGG.out;have:=HLT.out;omega
     case rel=>exact⟨i+1,HLT.out,by omega,by first | rfl | (rw [HWI.out]) | (simp [HWI.out]),⟨DM.out.put HLT.out HLT.out _⟩,⟨ST.out.set HE.out (b i) i _ HR.out.1 (by have:=HG.out;have:=HR.out.1;omega)⟩⟩
  ·have hltz: ¬ (i:Int) < (n:Int):=by omega
   clear hi' hg hlt;go_wp2
   go_ret
   exact⟨_,_,rfl,⟨_,_,DM.out⟩,ST.out⟩
end Go.Proofs.Ytbjljcpngbhkeaa.Dr
end
section
namespace Go.Proofs.Ytbjljcpngbhkeaa.Dr
open Go.RowKit Wz.PrintWords Wz.PrintLast Wz.PrintMore Ma Pr Lq
theorem lit_reps {W:World} {base:Nat} {ok:Nat→Prop}: ∀xs:List Int,Reps ((Kd.int .i64).M W base ok) (Kd.int .i64).sz xs (xs.map (fun x=>Value.int .i64 x))
 | []=>Reps.none _ _
 | x::xs=>Reps.one (show Kd.M (Kd.int .i64) _ _ _ x [.int .i64 x] from rfl) (lit_reps xs)
theorem Stp.lo {w0 wE W W1:World} {g:Nat} (h:Stp w0 wE g W) (hE:w0.heap.size≤wE.heap.size) (hg:g < wE.heap.size) (hb:Below wE.heap.size W W1):Stp w0 wE g W1:=
 ⟨h.src.keep (hb.block g hg),h.below.trans ⟨hb.os,hb.tape,hb.output,hb.size,fun i hi=>hb.block i (Nat.lt_of_lt_of_le hi hE)⟩,⟨Nat.le_trans h.keep.1 hb.size,fun i hi h1 h2=>(hb.block i hi).trans (h.keep.2 i hi h1 h2)⟩⟩
theorem Dm.grow {w w1:World} {lo gm n c:Nat} {b cp:Nat→Nat} (h:Dm w lo gm n c b cp) {row:Option Nat} (hg:w.grownBy w1 row) (hr:some gm≠row∧ ∀j,j < n→some (b j)≠row):Dm w1 lo gm n c b cp:=by
 have cell: ∀ {p:Addr} {v:Value},w.cell? p=some v→some p.block≠row→w1.cell? p=some v:=fun {p v} hp hn=>by
  have:=World.block_lt_of_cell? w _ hp
  rw [← hp];unfold World.cell?;rw [hg.block _ this hn]
 have froz: ∀ {p:Addr},p.block < w.heap.size→some p.block≠row→w1.frozen? p=w.frozen? p:=fun {p} hl hn=>by
  unfold World.frozen?;rw [hg.block _ hl hn]
 refine⟨⟨h.g0.1,Nat.lt_of_lt_of_le h.g0.2 hg.size⟩,h.cap,fun j hj=>cell (h.row j hj) hr.1,fun j hj=>?_,fun j k hj hk=>?_⟩
 ·have:=h.rr j hj;exact⟨this.1,Nat.lt_of_lt_of_le this.2.1 hg.size,this.2.2⟩
 ·obtain⟨⟨x,hx⟩,hf⟩:=h.ints j k hj hk
  exact⟨⟨x,cell hx (hr.2 j hj)⟩,(froz (h.rr j hj).2.1 (hr.2 j hj)).trans hf⟩
structure DQ (w0 w wr:World) (g g4 g5 n gm c:Nat) (b cp:Nat→Nat) (vq:Value):Prop where
 st:Stp w0 w g wr
 dm:Dm wr w.heap.size gm n c b cp
 b4:wr.heap[g4]?=some (.cells #[.slice none 0 0, .slice none 0 0] 27 (0,0))
 b5:wr.heap[g5]?=some (.cells #[.slice (some ⟨gm,0,none⟩) n c,vq] 27 (0,0))
 s4:w.heap.size≤g4∧g4≠g5∧g4≠gm∧ ∀j,j < n→g4≠b j
 s5:w.heap.size≤g5∧g5≠gm∧ ∀j,j < n→g5≠b j
 gl:g < w.heap.size
 el:w0.heap.size≤w.heap.size
def okQ (g g4 g5 n gm:Nat) (b:Nat→Nat) (k:Nat):Prop:=k≠g∧k≠g4∧k≠g5∧k≠gm∧ ∀j,j < n→k≠b j
structure DO (w0 w wr:World) (g g4 g5 n gm c:Nat) (b cp:Nat→Nat) (vq:Value) (Q:List Int):Prop where
 q:DQ w0 w wr g g4 g5 n gm c b cp vq
 rq:Kd.R (Kd.int .i64) 2 wr w.heap.size (okQ g g4 g5 n gm b) vq Q
section
variable {w0 w wr w1:World} {g g4 g5 n gm c:Nat} {b cp:Nat→Nat} {vq:Value} {Q:List Int} (h:DO w0 w wr g g4 g5 n gm c b cp vq Q)
include h
theorem DO.mv (hS:Stp w0 wr g w1):DO w0 w w1 g g4 g5 n gm c b cp vq Q:=by
 have h4:=h.q.s4;have h5:=h.q.s5;have hg:=h.q.gl
 exact⟨⟨h.q.st.trans hS,h.q.dm.keep hS.keep hg,hS.keep.blk h.q.b4 (by omega) (by simp),hS.keep.blk h.q.b5 (by omega) (by simp),h.q.s4,h.q.s5,h.q.gl,h.q.el⟩,Kd.R_keep h.rq hS.keep (fun k hk=>hk.1)⟩
theorem DO.below (hb:Below wr.heap.size wr w1):DO w0 w w1 g g4 g5 n gm c b cp vq Q:=h.mv (Stp.of_below h.q.st.src h.q.st.below hb)
theorem DO.put {j k:Nat} (hj:j < n) (hk:k < n) (x:Int):DO w0 w (wr.setCell ⟨b j,k,none⟩ (.int .i64 x)) g g4 g5 n gm c b cp vq Q:=by
 have h4:=h.q.s4;have h5:=h.q.s5;have hg:=h.q.gl;have hr:=h.q.dm.rr j hj
 exact⟨⟨h.q.st.set h.q.el (b j) k _ hr.1 (by omega),h.q.dm.put hj hk x,(Below.heap_setCell wr ⟨b j,k,none⟩ _ g4 (h4.2.2.2 j hj)).trans h.q.b4,(Below.heap_setCell wr ⟨b j,k,none⟩ _ g5 (h5.2.2 j hj)).trans h.q.b5,h4,h5,hg,h.q.el⟩,Kd.R_far h.rq (p:=⟨b j,k,none⟩) (fun q hq=>hq.2.2.2.2 j hj) _⟩
theorem DO.fresh (k:Nat) (hk:wr.heap.size≤k):okQ g g4 g5 n gm b k:=by
 have l4:=blk_lt h.q.b4;have l5:=blk_lt h.q.b5;have hg:=h.q.gl;have hs:=h.q.st.keep.1;have hm:=h.q.dm.g0
 exact⟨by omega,by omega,by omega,by omega,fun j hj=>by have:=(h.q.dm.rr j hj).2.1;omega⟩
theorem DO.grow (hg:wr.grownBy w1 vq.ownBlock) (hb:Below w.heap.size wr w1):DQ w0 w w1 g g4 g5 n gm c b cp vq:=by
 have hn: ∀k, ¬ okQ g g4 g5 n gm b k→some k≠vq.ownBlock:=fun k hk e=>hk (h.rq.1 k e.symm)
 refine⟨h.q.st.lo h.q.el h.q.gl hb,h.q.dm.grow hg ⟨hn _ (fun q=>q.2.2.2.1 rfl),fun j hj=>hn _ (fun q=>q.2.2.2.2 j hj rfl)⟩,blk_grown h.q.b4 hg (hn _ (fun q=>q.2.1 rfl)),blk_grown h.q.b5 hg (hn _ (fun q=>q.2.2.1 rfl)),h.q.s4,h.q.s5,h.q.gl,h.q.el⟩
end
theorem DQ.store {w0 w w1:World} {g g4 g5 n gm c:Nat} {b cp:Nat→Nat} {vq v1:Value} {Q:List Int} (h:DQ w0 w w1 g g4 g5 n gm c b cp vq) (hr:Kd.R (Kd.int .i64) 2 w1 w.heap.size (okQ g g4 g5 n gm b) v1 Q):DO w0 w (w1.setCell ⟨g5,1,none⟩ v1) g g4 g5 n gm c b cp v1 Q:=by
 have h4:=h.s4;have h5:=h.s5;have hg:=h.gl
 exact⟨⟨h.st.set h.el g5 1 _ h5.1 (by omega),h.dm.set h5.2.1 (fun j hj=>h5.2.2 j hj),(Below.heap_setCell w1 ⟨g5,1,none⟩ _ g4 h4.2.1).trans h.b4,blk_put h.b5 1 v1 rfl,h4,h5,hg,h.el⟩,Kd.R_far hr (p:=⟨g5,1,none⟩) (fun q hq=>hq.2.2.1) _⟩
theorem DO.new {w0 w w1 w2 w3:World} {g g4 g5 n gm c:Nat} {b cp:Nat→Nat} {vq:Value} {Q:List Int} (hE:w0.heap.size≤w.heap.size) (hg:g < w.heap.size) (h4:w.heap.size≤g4) (hl4:g4 < w1.heap.size) (st:Stp w0 w g w1) (hw1:w.heap.size≤w1.heap.size) (hS:Stp w0 w1 g w2) (dm:Dm w2 w1.heap.size gm n c b cp) (b4:w1.heap[g4]?=some (.cells #[.slice none 0 0, .slice none 0 0] 27 (0,0))) (hb:Below w2.heap.size w2 w3) (hr:Kd.R (Kd.int .i64) 2 w3 w2.heap.size (fun _=>True) vq Q) (h5:w2.heap.size≤g5) (hbox:w3.heap[g5]?=some (.cells #[.slice none 0 0, .slice none 0 0] 27 (0,0))) (hq5: ∀k,vq.ownBlock=some k→k≠g5):
  DO w0 w ((w3.setCell ⟨g5,0,none⟩ (.slice (some ⟨gm,0,none⟩) n c)).setCell ⟨g5,1,none⟩ vq) g g4 g5 n gm c b cp vq Q:=by
 have s2:=hS.keep.1
 have ge:=fun k hk=>Kd.R_base hr k hk
 have hS3:Stp w0 w g w3:=(st.trans hS).trans (Stp.of_below hS.src hS.below hb)
 have dm3:=(dm.keep (KeepBut.of_below hb g none) (by omega)).down hw1
 have g0:=dm.g0
 have rr:=dm.rr
 have e5:g5≠gm∧ ∀j,j < n→g5≠b j:=⟨by omega,fun j hj=>by have:=rr j hj;omega⟩
 have e4:g4≠g5∧g4≠gm∧ ∀j,j < n→g4≠b j:=⟨by omega,by omega,fun j hj=>by have:=rr j hj;omega⟩
 have b43:=blk_below (hS.keep.blk b4 (by omega) (by simp)) hb
 have hok:Kd.R (Kd.int .i64) 2 w3 w.heap.size (okQ g g4 g5 n gm b) vq Q:=by
  refine Kd.R_lower (Kd.R_mono (Kd.R_tight rfl hr) (fun k hk=>?_)) (by omega)
  have:=ge k hk.symm
  exact⟨by omega,by omega,hq5 k hk.symm,by omega,fun j hj=>by have:=rr j hj;omega⟩
 refine⟨⟨(hS3.set hE g5 0 _ (by omega) (by omega)).set hE g5 1 _ (by omega) (by omega),(dm3.set e5.1 e5.2).set e5.1 e5.2,?_,blk_put (blk_put hbox 0 _ rfl) 1 _ rfl,⟨h4,e4⟩,⟨by omega,e5⟩,hg,hE⟩,?_⟩
 ·exact(Below.heap_setCell _ ⟨g5,1,none⟩ _ g4 e4.1).trans ((Below.heap_setCell w3 ⟨g5,0,none⟩ _ g4 e4.1).trans b43)
 ·exact Kd.R_far (Kd.R_far hok (p:=⟨g5,0,none⟩) (fun q hq=>hq.2.2.1) _) (p:=⟨g5,1,none⟩) (fun q hq=>hq.2.2.1) _
theorem DO.rows {w0 w wr w2:World} {g g4 g5 n gm c gm2 c2:Nat} {b cp b2 cp2:Nat→Nat} {vq:Value} {Q:List Int} (h:DO w0 w wr g g4 g5 n gm c b cp vq Q) (hS:Stp w0 wr g w2) (hd:Dm w2 wr.heap.size gm2 n c2 b2 cp2):DO w0 w (w2.setCell ⟨g5,0,none⟩ (.slice (some ⟨gm2,0,none⟩) n c2)) g g4 g5 n gm2 c2 b2 cp2 vq Q:=by
 have hm:=h.mv hS
 have h4:=h.q.s4;have h5:=h.q.s5;have hg:=h.q.gl
 have l4:=blk_lt h.q.b4
 have l5:=blk_lt h.q.b5
 have hk:=h.q.st.keep.1
 have old:Kd.R (Kd.int .i64) 2 w2 w.heap.size (okQ g g4 g5 n gm2 b2) vq Q:=by
  refine Kd.R_mono (Kd.R_tight rfl hm.rq) (fun k hk=>?_)
  have ho:=h.rq.1 k hk.symm
  have hl:=Kd.R_lt h.rq k hk.symm
  refine⟨ho.1,ho.2.1,ho.2.2.1,?_,fun j hj=>?_⟩
  ·have:=hd.g0.1;omega
  ·have:=(hd.rr j hj).1;omega
 have dq:DQ w0 w (w2.setCell ⟨g5,0,none⟩ (.slice (some ⟨gm2,0,none⟩) n c2)) g g4 g5 n gm2 c2 b2 cp2 vq:=by
  have hd5:g5≠gm2∧ ∀j,j < n→g5≠b2 j:=⟨by have:=hd.g0.1;omega,fun j hj=>by have:=(hd.rr j hj).1;omega⟩
  have hset:=hd.set (d:=g5) (i:=0) (v:= .slice (some ⟨gm2,0,none⟩) n c2) hd5.1 hd5.2
  refine⟨hm.q.st.set h.q.el g5 0 _ h5.1 (by omega),⟨⟨Nat.le_trans hk hset.g0.1,hset.g0.2⟩,hset.cap,hset.row,fun j hj=>?_,hset.ints⟩,(Below.heap_setCell w2 ⟨g5,0,none⟩ _ g4 h4.2.1).trans hm.q.b4,blk_put hm.q.b5 0 _ rfl,⟨h4.1,h4.2.1,by have:=hd.g0.1;omega,fun j hj=>by have:=(hd.rr j hj).1;omega⟩,⟨h5.1,hd5⟩,hg,h.q.el⟩
  have:=hset.rr j hj
  exact⟨Nat.le_trans hk this.1,this.2⟩
 exact⟨dq,Kd.R_far old (p:=⟨g5,0,none⟩) (fun q hq=>hq.2.2.1) _⟩
end Go.Proofs.Ytbjljcpngbhkeaa.Dr
end
section
namespace Go.Proofs.Ytbjljcpngbhkeaa.Dr
open Go.RowKit Wz.PrintWords Wz.PrintLast Wz.PrintMore Ma Pr Lq
def Prb (w0 w:World) (g n:Nat) (e:Value) (w':World):Prop:= ∃gm c b cp A c1 Q,e= .agg #[.slice (some ⟨gm,0,none⟩) n c, .slice A n c1]∧Q.length=n∧Dm w' w.heap.size gm n c b cp∧Kd.R (Kd.int .i64) 2 w' w.heap.size (fun k=>k≠g∧k≠gm∧ ∀j,j < n→k≠b j) (.slice A n c1) Q∧Stp w0 w g w'
theorem drawOf_c {w0 w:World} {g:Nat} (h:Srm w0 w g) (hB:Below w0.heap.size w0 w) (n:Nat) (hn:n≤5) (hn0:0 < n):Calls Try.prog 101 #[.pointer (some ⟨g,0,none⟩), .int .i64 (n:Int)] w fun e w'=> ∃v,e= .returned v∧Prb w0 w g n v w':=by
 have ST:=q_ (Stp.refl h hB);have HG:=q_ h.lt;have HE:=q_ hB.size;have HN:=q_ hn;have HN0:=q_ hn0;clear h hB hn hn0
 go_enter Try.func101,Try.ntmps101
 go_wp2_with (first | ((with_reducible refine gate_dst (N:=4) rfl ?_);refine be_ 4 #[.slice none 0 0, .slice none 0 0] 27 ?_;intro g4 hg w2 hbox hb;have G4:=q_ (show w.heap.size≤g4 by rw [hg];exact Nat.le_refl _);have B4:=q_ hbox;replace ST:=q_ (ST.out.trans (Stp.of_below ST.out.src ST.out.below hb));clear hg hbox hb) | ((with_reducible refine gate_dst (N:=14) rfl ?_);refine Kd.R_lit (Kd.int .i64) _ 2 ?hg (N:=14) ?hd (xs:=([1,2,3,9,20]:List Int)) (inner:= [.int .i64 1, .int .i64 2, .int .i64 3, .int .i64 9, .int .i64 20]) (ok:=fun _=>True) (okp:=fun _=>True) ?hr ?hp (fun _ hk=>hk) trivial (Below.refl _ _) (Nat.le_refl _) (by simp) ?_;(case hd=>rfl);(case hg=>rfl);(case hr=>first | (go_simp;done) | (go_simp;rfl));(case hp=>exact lit_reps [1,2,3,9,20]);intro v14 w3 ho hb hg_ hnew_;obtain⟨g14,c14,rfl,hb14,hl14,_⟩:=Kd.R_form ho (by simp);have G14:=q_ (Nat.lt_of_lt_of_le ST.out.src.lt hb14);replace ST:=q_ (ST.out.trans (Stp.of_below ST.out.src ST.out.below hb));replace B4:=q_ (blk_below B4.out hb);have R14:=q_ ho;clear hg_ hnew_ ho hb hb14 hl14))
 refine(pick_c ST.out.src ST.out.below _ c14 [1,2,3,9,20] (Kd.R_reads' R14.out).2.2 (Kd.R_reads' R14.out).2.1 (fun ad e _=>by injection e with e;subst e;show g14≠g;have:=G14.out;omega) (by decide)).mono ?_
 rintro e w4 ⟨x,rfl,_,hS⟩;replace ST:=q_ (ST.out.trans hS);replace B4:=q_ (hS.keep.blk B4.out (by have:=G4.out;have:=HG.out;omega) (by simp));clear hS R14 G14
 go_wp2_with fail
 refine(drawM_c ST.out.src ST.out.below n HN.out HN0.out x).mono ?_
 rintro e w5 ⟨gm,c,b,cp,rfl,hD,hS⟩;have DM:=q_ hD;have S5:=q_ hS;clear hD hS
 go_wp2_with (first | ((with_reducible refine gate_dst (N:=17) rfl ?_);refine Kd.R_lit (Kd.int .i64) _ 2 ?hg (N:=17) ?hd (xs:=([]:List Int)) (inner:= []) (ok:=fun _=>True) (okp:=fun _=>True) ?hr ?hp (fun _ hk=>hk) trivial (Below.refl _ _) (Nat.le_refl _) (by simp) ?_;(case hd=>rfl);(case hg=>rfl);(case hr=>first | (go_simp;done) | (go_simp;rfl));(case hp=>exact lit_reps []);intro v17 w6 ho hb hg_ hnew_;have R17:=q_ ho;have B17:=q_ hb;obtain⟨A17,c17,rfl⟩:=Kd.R_slice ho;clear hg_ hnew_ ho hb) | ((with_reducible refine gate_dst (N:=5) rfl ?_);refine be_ 5 #[.slice none 0 0, .slice none 0 0] 27 ?_;intro g5 hg w7 hbox hb;have G5:=q_ (show w5.heap.size≤g5 by rw [hg];exact B17.out.size);have Q5:=q_ (fun k (hk:(Value.slice A17 ([]:List Int).length c17).ownBlock=some k)=>(show k≠g5 by rw [hg];have:=Kd.R_lt R17.out k hk;omega));have B5:=q_ hbox;have B57:=q_ (below_step B17.out hb);replace R17:=q_ (Kd.R_below R17.out hb);have hx0:=cz_ B5 0;have hx1:=cz_ B5 1;have hfx0:=blk_frozen hbox 0;have hfx1:=blk_frozen hbox 1;clear hg hbox hb) | ((with_reducible refine gate_store (t:=27) (p:=5) rfl ?_);refine se_ 27 5 ((w7.setCell ⟨g5,0,none⟩ (.slice (some ⟨gm,0,none⟩) n c)).setCell ⟨g5,1,none⟩ (.slice A17 ([]:List Int).length c17)) ?_;intro w8 hw;have D:=q_ (DO.new HE.out HG.out G4.out (blk_lt B4.out) ST.out ST.out.keep.1 S5.out DM.out B4.out B57.out R17.out G5.out B5.out Q5.out);rw [← hw] at D;clear hw hx0 hx1 hfx0 hfx1))
 clear ST S5 DM B4 G4 R17 B17 G5 Q5 B5 B57;refine(next_c D.out.q.st.src D.out.q.st.below 4).mono ?_
 rintro e w9 ⟨y,rfl,_,hS⟩;replace D:=q_ (D.out.mv hS);have HL:=q_ D.out.q.gl;clear hS
 go_upto_block 0 with (fail)
 go_cut [5] (fun v5 wc=>v5= .pointer (some ⟨g5,0,none⟩)∧ ∃gm c b cp,Aside0 (DO w0 w wc g g4 g5 n gm c b cp (.slice A17 0 c17) []))
 case first=>
  by_cases y0:y=0
  ·have y0b:(y==0)=true:=by simpa using y0
   clear y0
   go_wp2_with fail
   refine(drawP_c D.out.q.st.src D.out.q.st.below n HN.out HN0.out).mono ?_
   rintro e w10 ⟨gm2,c2,b2,cp2,rfl,hD,hS⟩;have D2:=q_ (D.out.rows hS hD);have B5:=q_ (D.out.mv hS).q.b5;have hx0:=cz_ B5 0;have hfx0:=blk_frozen B5.out 0;clear hD hS D;go_wp2
   go_meet
   case rel=>exact⟨rfl,_,_,_,_,D2⟩
  ·have y0b:(y==0)=false:=by simpa using y0
   clear y0
   by_cases y1:y=1
   ·have y1b:(y==1)=true:=by simpa using y1
    clear y1;go_wp2
    go_loopg [6] n (fun gg v6 wr=> ∃(i:Nat),i≤n∧n - i≤gg∧v6= .int .i64 (i:Int)∧Aside0 (DO w0 w wr g g4 g5 n gm c b cp (.slice A17 0 c17) []))
    case atStart=>exact⟨0,Nat.zero_le _,by omega,rfl,D⟩
    case round=>
     clear D;obtain⟨i,hi',hg,rfl,D⟩:=hrel;have HGG:=q_ hg
     by_cases hlt:i < n
     ·have hltz:(i:Int) < (n:Int):=by omega
      have h0z:(0:Int)≤(i:Int):=by omega
      have hwi:IntKind.i64.wrap ((i:Int)+1)=((i+1:Nat):Int):=by rw [IntWalk.i64_in _ (by have:=HN.out;omega)];rfl
      have HWI:=q_ hwi;have HLT:=q_ hlt;have hx0:=cz_ (q_ D.out.q.b5) 0;have hrow:=D.out.q.dm.row i hlt;clear hi' hg hlt;go_wp2
      clear hx0 hrow
      go_loopg [8] i (fun gg v8 wr=> ∃(k:Nat),k≤i∧i - k≤gg∧v8= .int .i64 (k:Int)∧Aside0 (DO w0 w wr g g4 g5 n gm c b cp (.slice A17 0 c17) []))
      case atStart=>exact⟨0,Nat.zero_le _,by omega,rfl,D⟩
      case round=>
       clear D;obtain⟨k,hk',hg2,rfl,D⟩:=hrel;have HG2:=q_ hg2
       by_cases hki:k < i
       ·have hkiz:(k:Int) < (i:Int):=by omega
        have hknz:(k:Int) < (n:Int):=by omega
        have h0k:(0:Int)≤(k:Int):=by omega
        have hwk:IntKind.i64.wrap ((k:Int)+1)=((k+1:Nat):Int):=by rw [IntWalk.i64_in _ (by have:=HN.out;omega)];rfl
        have HWK:=q_ hwk;have HKI:=q_ hki;have hx0:=cz_ (q_ D.out.q.b5) 0;have hrow:=D.out.q.dm.row k (by have:=HLT.out;omega);obtain⟨⟨x1,hx1⟩,_⟩:=D.out.q.dm.ints k i (by have:=HLT.out;omega) HLT.out;obtain⟨⟨x2,hx2⟩,hfx2⟩:=D.out.q.dm.ints i k HLT.out (by have:=HLT.out;omega);clear hk' hg2 hki;go_wp2
        go_roundg (i - (k+1))
        case measure=>have:=HG2.out;have:=HKI.out;omega
        case rel=>exact⟨k+1,HKI.out,by omega,by first | rfl | (rw [HWK.out]) | (simp [HWK.out]),⟨D.out.put HLT.out (by have:=HLT.out;have:=HKI.out;omega) _⟩⟩
       ·have hkiz: ¬ (k:Int) < (i:Int):=by omega
        clear hk' hg2 hki;go_wp2
        go_roundg (n - (i+1))
        case measure=>have:=HGG.out;have:=HLT.out;omega
        case rel=>exact⟨i+1,HLT.out,by omega,by first | rfl | (rw [HWI.out]) | (simp [HWI.out]),D⟩
     ·have hltz: ¬ (i:Int) < (n:Int):=by omega
      clear hi' hg hlt;go_wp2
      go_meet
      case rel=>exact⟨rfl,_,_,_,_,D⟩
   ·have y1b:(y==1)=false:=by simpa using y1
    clear y1;go_wp2
    go_meet
    case rel=>exact⟨rfl,_,_,_,_,D⟩
 case rest=>
  clear D;obtain⟨rfl,gm,c,b,cp,D⟩:=hcut
  go_wp2_with (first | ((with_reducible refine gate_dst (N:=56) rfl ?_);refine Kd.R_lit (Kd.int .i64) _ 2 ?hg (N:=56) ?hd (xs:=([1,2,5,20,100]:List Int)) (inner:= [.int .i64 1, .int .i64 2, .int .i64 5, .int .i64 20, .int .i64 100]) (ok:=fun _=>True) (okp:=fun _=>True) ?hr ?hp (fun _ hk=>hk) trivial (Below.refl _ _) (Nat.le_refl _) (by simp) ?_;(case hd=>rfl);(case hg=>rfl);(case hr=>first | (go_simp;done) | (go_simp;rfl));(case hp=>exact lit_reps [1,2,5,20,100]);intro v56 w12 ho hb hg_ hnew_;obtain⟨g56,c56,rfl,hb56,hl56,_⟩:=Kd.R_form ho (by simp);have G56:=q_ (Nat.lt_of_lt_of_le D.out.q.st.src.lt hb56);replace D:=q_ (D.out.below hb);have R56:=q_ ho;clear hg_ hnew_ ho hb hb56 hl56))
  refine(pick_c D.out.q.st.src D.out.q.st.below _ c56 [1,2,5,20,100] (Kd.R_reads' R56.out).2.2 (Kd.R_reads' R56.out).2.1 (fun ad e _=>by injection e with e;subst e;show g56≠g;have:=G56.out;omega) (by decide)).mono ?_
  rintro e w13 ⟨mo,rfl,_,hS⟩;replace D:=q_ (D.out.mv hS);clear hS R56 G56;go_wp2
  go_loopg [10] n (fun gg v10 wr=> ∃(i:Nat) (A:Option Addr) (q:Nat) (Q:List Int),i≤n∧n - i≤gg∧v10= .int .i64 (i:Int)∧Q.length=i∧Aside0 (DO w0 w wr g g4 g5 n gm c b cp (.slice A i q) Q))
  case atStart=>exact⟨0,_,_, [],Nat.zero_le _,by omega,rfl,rfl,D⟩
  case round=>
   clear D;obtain⟨i,A,q,Q,hi',hg,rfl,hQl,D⟩:=hrel;have HGG:=q_ hg;have HQ:=q_ hQl
   by_cases hlt:i < n
   ·have hltz:(i:Int) < (n:Int):=by omega
    have hwi:IntKind.i64.wrap ((i:Int)+1)=((i+1:Nat):Int):=by rw [IntWalk.i64_in _ (by have:=HN.out;omega)];rfl
    have HWI:=q_ hwi;have HLT:=q_ hlt;clear hi' hg hlt hQl;go_wp2
    replace D:=q_ (D.out.below (below_drew (Below.refl wr.heap.size wr)));refine st_ (n:=9) (S:=fun w'=>w'.cell? ⟨g5,1,none⟩=some (.slice A i q)) (ds:= [8]) (cz_ (q_ D.out.q.b5) 1) (fun hHeld=>?_)
    generalize wr.drew=w14 at D hHeld ⊢
    refine p3_ 0 63 2 65 3 66 ?_;refine tk_ 1 64 ?_
    refine on_ 4 (some 67) (fun K hK=>?_)
    refine ca_ Try.func76 #[.pointer (some ⟨g,0,none⟩), .int .i64 mo] ?_
    refine(part_c D.out.q.st.src D.out.q.st.below mo).mono ?_
    rintro e w15 ⟨x,rfl,hS⟩;refine⟨_,rfl,?_⟩
    replace D:=q_ (D.out.mv hS);clear hS hHeld;refine hK.out _ _ (cz_ (q_ D.out.q.b5) 1) (fun hHeld=>?_)
    clear hK K;refine no_ ?_
    refine on_ 5 (some 68) (fun K hK=>?_)
    refine va_ ?_
    refine hK.out _ _ ((blk_cell (blk_alloc D.out.q.b5 _) 1).trans rfl) (fun hHeld=>?_)
    clear hK K;refine no_ ?_
    refine on_ 6 (some 69) (fun K hK=>?_)
    refine Kd.R_append_step (Kd.int .i64) (w0:=w15) w.heap.size (by rfl) (.tmp 64) (.tmp 68) 25 2 (.int .i64 0) 8 rfl Try.underlying25 info2 rfl (by decide) (by omega) (.slice A i q) Q x [.int .i64 x] (okQ g g4 g5 n gm b) (fun _=>False) rfl rfl rfl (fun _ hk=>hk.elim) D.out.fresh D.out.rq (Below.refl _ _) D.out.q.st.keep.1 ?aL ?_
    case aL=>have:=HN.out;have:=HLT.out;have:=HQ.out;omega
    intro v11 w16 ho hb hg hat;have DD:=q_ (D.out.grow hg hb);have RQ:=q_ ho;clear ho hb hg hat hHeld D;obtain⟨A9,c9,e9⟩:=Kd.R_slice RQ.out;have hl9:(Q++ [x]).length=i+1:=by have:=HQ.out;simp;omega
    rw [hl9] at e9;subst e9;have HL9:=q_ hl9;clear hl9;refine hK.out _ _ (cz_ (q_ DD.out.b5) 1) (fun hHeld=>?_)
    clear hK K;refine nd_ 69 ?_
    refine pu_ 7 70 ?_
    have hx1:=cz_ (q_ DD.out.b5) 1;have hfx1:=blk_frozen DD.out.b5 1;refine la_ 8 none (fun K hK=>?_)
    refine skip_ (w1:=?_) (by rfl) rfl ?_ ?_
    rotate_left
    ·go_simp
     rfl
    refine hK.out _ _ ?_
    clear hK K hHeld hx1 hfx1;refine done_ (by kernel_rfl) ?_
    have D2:=q_ (DD.out.store RQ.out);go_wp2
    go_roundg (n - (i+1))
    case measure=>have:=HGG.out;have:=HLT.out;omega
    case rel=>exact⟨i+1,_,_,_,HLT.out,by omega,by first | rfl | (rw [HWI.out]) | (simp [HWI.out]),HL9.out,D2⟩
   ·have hltz: ¬ (i:Int) < (n:Int):=by omega
    obtain rfl:n=i:=by omega
    have hx0:=cz_ (q_ D.out.q.b5) 0;have hx1:=cz_ (q_ D.out.q.b5) 1;have hy0:=cz_ (q_ D.out.q.b4) 0;have hy1:=cz_ (q_ D.out.q.b4) 1;have hfy0:=blk_frozen D.out.q.b4 0;have hfy1:=blk_frozen D.out.q.b4 1;clear hi' hg hlt;go_wp2
    refine bodyPost_ret (results_cell_row rfl _ _ g4 27 #[.slice (some ⟨gm,0,none⟩) n c, .slice A n q] (0,0) _ rfl (blk_put (blk_put D.out.q.b4 0 _ rfl) 1 _ rfl) Try.underlying27 rfl (by kernel_rfl)) rfl ?_
    have h4:=D.out.q.s4;have hg4:=D.out.q.gl;refine⟨_,rfl,gm,c,b,cp,A,q,Q,rfl,HQ.out,(D.out.q.dm.set h4.2.2.1 h4.2.2.2).set h4.2.2.1 h4.2.2.2,?_,(D.out.q.st.set HE.out g4 0 _ h4.1 (by omega)).set HE.out g4 1 _ h4.1 (by omega)⟩
    exact Kd.R_mono (Kd.R_far (Kd.R_far D.out.rq (p:=⟨g4,0,none⟩) (fun k hk=>hk.2.1) _) (p:=⟨g4,1,none⟩) (fun k hk=>hk.2.1) _) (fun k hk=>⟨hk.1,hk.2.2.2⟩)
end Go.Proofs.Ytbjljcpngbhkeaa.Dr
end
section
namespace Go.Proofs.Ytbjljcpngbhkeaa.Pr
open Go.RowKit Wz.PrintWords Wz.PrintLast Wz.PrintMore
attribute [local go_sem] max2_int min2_int max_two min_two max_three min_three max_four min_four
def spec_l01Copy.l0:Nat→Int→List (List Int)→List Int→List (List Int)→List Int→Option ((List (List Int)) × List Int)
 | 0,_,_,_,_,_=>none
 | k+1,x4,aa,ag,ae,af=>if x4 < (aa.length:Int) then(if 0≤x4 then((spec_l01Own.f (rd_L2 aa x4)).bind fun ah=>(if ae.length < 5864062014805 then(spec_l01Copy.l0 k (wrap64 (x4+1)) aa ag (ae++ [ah]) af) else(none))) else(none)) else(some (ae,af))
def spec_l01Copy.f (k:Nat) (ae:List (List Int)) (aa:List Int):Option ((List (List Int)) × List Int):=(spec_l01Own.f aa).bind fun af=>(spec_l01Copy.l0 k 0 ae aa (([]:List (List Int))) af)
def spec_l01Copy.T5:Bool × List (List Nat × List Nat):=(true, [([], []),([0], [0]),([], []),([2], [2]),([], []),([3,4], [3,4]),([5], [5]),([6], [6]),([7], [7]),([1,8,7], [1,8]),([0,1,2,3,4,5,6,7,8,9], []),([10,9,9,0,1,2,3,4,5,6,7,8,9], [9,10])])
def spec_l01Copy.B5:List Nat:= [0,1,0,4,0,28,60,124,252,511,1023,2047]
theorem spec_l01Copy.tab5:rtab .any (opsOf Try.f100 5)=spec_l01Copy.T5:=by kernel_rfl
theorem spec_l01Copy.bits5:waitsOk spec_l01Copy.T5.2 spec_l01Copy.B5=true:=by kernel_rfl
theorem spec_l01Copy.calls (k:Nat) (aU:Option Addr) (aK:Nat) (ak:List (List Int)) (aI:Option Addr) (aJ:Nat) (au:List Int) (r1:List (List Int)) (r2:List Int) (w:World) (bz:Kd.C (Kd.slice 2 (Kd.int .i64)) w aU ak.length ak) (bA:ak.length≤aK) (bC:Kd.C (Kd.int .i64) w aI au.length au) (bD:au.length≤aJ) (h:spec_l01Copy.f k ak au=some (r1,r2)):
  Calls Try.prog 100 #[.agg #[.slice aU ak.length aK, .slice aI au.length aJ]] w fun e w'=> ∃v0_ v1_:Value,e= .returned (.agg #[v0_,v1_])∧Kd.S (Kd.slice 2 (Kd.int .i64)) 25 w' w.heap.size (fun k_=>some k_≠(v1_:Value).ownBlock) v0_ r1∧Kd.R (Kd.int .i64) 2 w' w.heap.size (fun _=>True) v1_ r2∧Below w.heap.size w w':=by
 have hu27:=Try.underlying27;have HR0_0:=q_ bz;have HC0_0:=q_ bA;clear bz bA;have HR0_1:=q_ bC;have HC0_1:=q_ bD;clear bC bD;have HB:=q_ (Below.refl w.heap.size w);have H:((spec_l01Own.f au).bind fun aq=>(spec_l01Copy.l0 k 0 ak au (([]:List (List Int))) aq))=some (r1,r2):=h;clear h;obtain⟨aV,hy⟩: ∃y_:List (List Int),y_=(([]:List (List Int))):=⟨_,rfl⟩
 replace H:((spec_l01Own.f au).bind fun aq=>(spec_l01Copy.l0 k 0 ak au aV aq))=some (r1,r2):=hh_;have bE:=q_ hy;clear hy;replace H:=Option.bind_eq_some_iff.mp H;obtain⟨aq,A20,H⟩:=H;replace H:(spec_l01Copy.l0 k 0 ak au aV aq)=some (r1,r2):=H;have A2:=q_ A20;clear A20;have H':=q_ H;clear H
 go_enter Try.func100,Try.ntmps100
 go_wp2_with (first | ((with_reducible refine gate_dst (N:=1) rfl ?_);refine be_ 1 #[.slice aU ak.length aK, .slice aI au.length aJ] 27 ?_;intro av hg w3 hbox hb;have aa:=q_ (hbox);have cJ:=gz_ w hg;have cK:=gz_ w hg;replace HB:=Bs_ hb;clear hb hbox hg) | ((with_reducible refine gate_dst (N:=2) rfl ?_);refine be_ 2 #[.slice none 0 0, .slice none 0 0] 27 ?_;intro az hg w4 hbox hb;have ag:=q_ (hbox);have cL:=gz_ w hg;have cN:=gz_ w hg;have aM:=lz_ hg aa;have aN:=mz_ hg aa;replace aa:=Bb_ aa hb;replace HB:=Bs_ hb;clear hb hbox hg) | ((with_reducible refine gate_dst (N:=5) rfl ?_);refine Kd.S_lit (Kd.slice 2 (Kd.int .i64)) _ 25 ?hg (N:=5) ?hd (xs:=([]:List (List Int))) (inner:= []) (ok:=fun _=>True) (okp:=fun _=>True) ?hr ?hp (fun _ hk=>hk) trivial (Below.refl _ _) (Nat.le_refl _) (by simp) ?_;(case hd=>rfl);(case hg=>rfl);(case hr=>first | (go_simp;done) | (go_simp;rfl));(case hp=>exact(Reps.none _ _));intro dx w5 ho6 hb hg_ hnew_;clear hg_ hnew_;(first | rw [← bE.out] at ho6 | (simp only [Int.reduceToNat] at ho6;rw [← bE.out] at ho6));have aT:=q_ (Kd.S_lower ho6 bz_);replace aa:=Bb_ aa hb;replace ag:=Bb_ ag hb;replace HB:=Bs_ hb;clear hb ho6;have dz:=aM.out;have dA:=aN.out;obtain⟨bL,bM,bN,bO⟩:=c2_ aa) | ((with_reducible refine gate_callee (f:=71) rfl ?_);refine gL_ 8 Try.func71 #[.slice aI au.length aJ] ?_;(with_reducible refine(spec_l01Own.calls _ _ au aq _ ?a9 ?ba A2.out).mono ?_);(case a9=>exact cb_ HR0_1.out HB.out);(case ba=>exact HC0_1.out);rintro e w9 ⟨dB,rfl,ho0,hb⟩;refine⟨_,rfl,?_⟩;replace aT:=q_ (Kd.S_elder' (so_ aT.out) (Kd.R_base ho0) hb);have aX:=q_ (Kd.R_lower ho0 bz_);replace aa:=Bb_ aa hb;replace ag:=Bb_ ag hb;replace HB:=Bs_ hb;(try clear hb);(try clear hk);(try clear ho0);obtain⟨aD,aG,bV⟩:=Kd.R_slice aX.out;subst bV;obtain⟨bf,bg,bW⟩:=Kd.S_slice aT.out;subst bW) | ((with_reducible refine gate_dst (N:=3) rfl ?_);refine be_ 3 #[.slice none 0 0, .slice none 0 0] 27 ?_;intro aj hg w12 hbox hb;replace aT:=q_ (Kd.S_below (so_ aT.out) hb);replace aX:=Rb_ aX hb;have ae:=q_ (hbox);have cO:=gz_ w hg;have cP:=gz_ w hg;have aA:=lz_ hg aa;have aH:=mz_ hg aa;have aC:=lz_ hg ag;have aQ:=mz_ hg ag;replace aa:=Bb_ aa hb;replace ag:=Bb_ ag hb;replace HB:=Bs_ hb;clear hb hbox hg;have cQ:=aH.out;have cR:=aA.out;have cT:=aQ.out;have cU:=aC.out;obtain⟨bH,bI,bJ,bK⟩:=c2_ ae))
 go_loopg [4] k (fun kq v4 w'=> ∃(ay:Int) (ah:List (List Int)) (aw:Value),v4= .int .i64 ay∧Aside0 (spec_l01Copy.l0 kq ay ak au ah aq=some (r1,r2))∧Aside0 (kq≤k)∧Aside0 (Kd.S (Kd.slice 2 (Kd.int .i64)) 25 w' w.heap.size (fun k_=>some k_≠((.slice aD aq.length aG):Value).ownBlock) aw ah)∧Aside0 (Kd.R (Kd.int .i64) 2 w' w.heap.size (fun _=>True) (.slice aD aq.length aG) aq)∧Aside0 (w'.heap[av]?=some (.cells #[(.slice aU ak.length aK),(.slice aI au.length aJ)] 27 (0,0)))∧Aside0 (w'.heap[az]?=some (.cells #[(.slice none 0 0),(.slice none 0 0)] 27 (0,0)))∧Aside0 (w'.heap[aj]?=some (.cells #[aw,(.slice aD aq.length aG)] 27 (0,0)))∧Aside0 (Below w.heap.size w w'))
 case atStart=>exact⟨(0),(aV),(.slice bf aV.length bg),rs_,H',⟨Nat.le_refl _⟩,⟨kS_ (sf2_ aT.out ae.out) (fun _ hk=>hk.1.2)⟩,⟨kR_ (rf2_ aX.out ae.out) (fun _ hk=>trivial)⟩,⟨bw_⟩,⟨bw_⟩,⟨bw_⟩,⟨hb_⟩⟩
 case round=>
  clear H';(try clear bH);(try clear bI);(try clear bL);(try clear bM);(try clear bJ);(try clear bK);(try clear bN);(try clear bO);obtain⟨ay,ah,aw,rfl,HA,HK1,af,ai,aa,ag,ae,HB⟩:=hrel;cases gk with
  | zero=>exact absurd HA.out (by simp [spec_l01Copy.l0])
  | succ k1=>
   have H:=HA.out;clear HA;simp only [spec_l01Copy.l0] at H
   by_cases c16:ay < (ak.length:Int)
   ·rw [if_pos c16] at H;have c16b0:=decide_eq_true c16;clear c16
    by_cases c17:0≤ay
    ·rw [if_pos c17] at H;have c17b0:=decide_eq_true c17;clear c17;replace H:=Option.bind_eq_some_iff.mp H;obtain⟨aW,A180,H⟩:=H;replace H:(if ah.length < 5864062014805 then(spec_l01Copy.l0 k1 (wrap64 (ay+1)) ak au (ah++ [aW]) aq) else(none))=some (r1,r2):=H;have A18:=q_ A180;clear A180
     by_cases c19:ah.length < 5864062014805
     ·rw [if_pos c19] at H;have bT:=q_ c19;clear c19;obtain⟨aZ,hy⟩: ∃y_:List (List Int),y_=(ah++ [aW]):=⟨_,rfl⟩
      replace H:(spec_l01Copy.l0 k1 (wrap64 (ay+1)) ak au aZ aq)=some (r1,r2):=hh_;have bU:=q_ hy;clear hy;have H':=q_ H;clear H;have cV:=aM.out;have cZ:=aN.out;have da:=aA.out;have df:=aH.out;obtain⟨bY,bZ,cf,cg⟩:=c2_ aa
      try go_wp2
      replace af:=q_ (Kd.S_drew af.out);replace ai:=q_ (Kd.R_drew ai.out);replace aa:=q_ (blk_drew aa.out);replace ag:=q_ (blk_drew ag.out);replace ae:=q_ (blk_drew ae.out);replace HB:=q_ (below_drew1 HB.out);have p131:0≤(ay:Int):=od_;have q131:ay < (ak.length:Int):=od_;obtain⟨bF,bq,bu,e131,hx131_0,hl131_0,hi131_0⟩:=at_L2 HR0_0.out ay p131 q131;have ax:=hx131_0;cases e131
      replace hx131_0:=bc_ HB.out hx131_0;have HR131_0:=q_ hi131_0;have HC131_0:=q_ hl131_0;clear hi131_0 hl131_0;replace p131:=eq_true p131;replace q131:=eq_true q131;refine st_ (n:=12) (S:=fun w'=>w'.cell? ⟨aj,0,none⟩=some (aw)∧w'.cell? ⟨aj,1,none⟩=some (.slice aD aq.length aG)∧w'.cell? ⟨av,0,none⟩=some (.slice (some bF) ak.length aK)∧w'.cell? ⟨av,1,none⟩=some (.slice aI au.length aJ)∧w'.cell? (bF.add (ay).toNat)=some (.slice bq (rd_L2 ak ay).length bu)) (ds:= [11]) ⟨(blk_cell ae.out 0).trans rfl,(blk_cell ae.out 1).trans rfl,(blk_cell aa.out 0).trans rfl,(blk_cell aa.out 1).trans rfl,((bc_ HB.out ax:))⟩ (fun hHeld=>?_);refine with_tabW spec_l01Copy.tab5 spec_l01Copy.bits5 (fun HT_ HW_=>?_)
      generalize wr.drew=w23 at af ai aa ag ae HB HR131_0 hx131_0 hHeld ⊢
      refine p3_ 0 17 2 19 4 21 ?_;refine tk_ 1 18 ?_;refine tk_ 3 20 ?_;refine pu_ 5 22 ?_;refine tk_ 6 23 ?_
      refine on_ 7 (some 24) (fun K hK=>?_)
      refine goes_ Try.func71 (by kernel_rfl) rfl #[.slice bq (rd_L2 ak ay).length bu] (by rfl) rfl rfl (by(try simp only [List.map_toArray,List.map_cons,List.map_nil]);first | done | rfl | (simp only [List.length_drop,List.length_take];rfl)) ?_
      with_reducible refine(spec_l01Own.calls _ _ (rd_L2 ak ay) aW _ ?a9 ?ba A18.out).mono ?_
      (case a9=>exact cb_ HR131_0.out HB.out)
      (case ba=>exact HC131_0.out)
      rintro e w24 ⟨dC,rfl,ho0,hb⟩;refine⟨_,rfl,?_⟩
      replace af:=q_ (Kd.S_elder' (so_ af.out) (Kd.R_base ho0) hb);have aY:=q_ (Kd.R_lower (Kd.R_new' ho0 (Kd.R_lt (ro_ ai.out))) bz_);replace aa:=Bb_ aa hb;replace ag:=Bb_ ag hb;replace ae:=Bb_ ae hb;replace ai:=q_ (Kd.R_elder' (ro_ ai.out) (Kd.R_base ho0) hb);replace HB:=Bs_ hb;(try clear hb)
      
      (try clear hk)
      
      (try clear ho0);obtain⟨bP,bQ,bR⟩:=Kd.R_slice aY.out
      (first | subst bR | (injection bR with f1_ f2_ f3_;have f4_:=f1_.symm;have f5_:=f3_.symm;clear f1_ f2_ f3_;subst f4_;subst f5_))
      refine hK.out _ _ ⟨(blk_cell ae.out 0).trans rfl,(blk_cell ae.out 1).trans rfl,(blk_cell aa.out 0).trans rfl,(blk_cell aa.out 1).trans rfl,((bc_ HB.out ax:))⟩ (fun hHeld=>?_)
      clear hK K;refine norm_ (a':=?_) ?_ ?_
      rotate_left
      ·show Act.put _ (some 24) _=_
       simp only [Act.put,List.setIfInBounds_toArray,List.set_cons_zero,List.set_cons_succ,i64_w,i32_w]
       rfl
      refine on_ 8 (some 25) (fun K hK=>?_)
      refine value_ (w1:=?_) (v:=?_) (by rfl) rfl ?_ ?_
      rotate_left 2
      ·go_simp
       constructor
       ·rfl
       ·rfl
      refine hK.out _ _ ⟨(blk_cell (blk_alloc ae.out _) 0).trans rfl,(blk_cell (blk_alloc ae.out _) 1).trans rfl,(blk_cell (blk_alloc aa.out _) 0).trans rfl,(blk_cell (blk_alloc aa.out _) 1).trans rfl,(World.cell?_alloc_lt _ _ _ (World.block_lt_of_cell? _ _ (((bc_ HB.out ax:))))).trans (((bc_ HB.out ax:)))⟩ (fun hHeld=>?_)
      clear hK K;refine norm_ (a':=?_) ?_ ?_
      rotate_left
      ·show Act.put _ (some 25) _=_
       simp only [Act.put,List.setIfInBounds_toArray,List.set_cons_zero,List.set_cons_succ,i64_w,i32_w]
       rfl
      refine on_ 9 (some 26) (fun K hK=>?_)
      refine Kd.S_append_step (Kd.slice 2 (Kd.int .i64)) (w0:=w) w.heap.size (by rfl) (.tmp 18) (.tmp 25) 24 25 (.slice none 0 0) 24 rfl Try.underlying24 info25 rfl (by decide) (by omega) aw ah aW [.slice bP aW.length bQ] (fun k_=>some k_≠(.slice aD aq.length aG:Value).ownBlock) (fun k_=>some k_=(.slice bP aW.length bQ:Value).ownBlock) rfl rfl ?aP (fun k_ hk_=>((Kd.R_mono (ok':=fun k_=>((fun k_=>some k_≠(.slice aD aq.length aG:Value).ownBlock)) k_∧some k_≠(aw:Value).ownBlock) (Kd.R_apart' (aY.out) (Kd.S_typed af.out) (by decide)) (fun k_ hk=>⟨hk.1.2,hk.2⟩))).1 k_ hk_.symm) ?aF ?aO ?aB ?aS ?aL ?_
      (case aP=>exact Kd.M_row (Kd.R_mono (Kd.R_tight rfl (Kd.R_mono (ok':=fun k_=>((fun k_=>some k_≠(.slice aD aq.length aG:Value).ownBlock)) k_∧some k_≠(aw:Value).ownBlock) (Kd.R_apart' (aY.out) (Kd.S_typed af.out) (by decide)) (fun k_ hk=>⟨hk.1.2,hk.2⟩))) (fun _ h_=>h_)))
      (case aB=>exact hb_)
      (case aF=>exact(fun k_ hk=>Kd.fresh' (Kd.R_lt (ro_ ai.out)) k_ hk))
      (case aO=>exact(kS_ af.out (fun k_ hk=>⟨hk.1,fun e_=>hk.2 e_⟩)))
      (case aS=>exact bz_)
      (case aL=>have:=bT.out;omega)
      intro dD w25 ho hb hg hat;rw [← bU.out] at ho;replace ai:=q_ (Kd.R_over' (ro_ ai.out) (Kd.S_typed (so_ af.out)) (by decide) hg);replace aa:=q_ (bg_ aa.out hg (Kd.S_ne af.out aa.out (by decide)));replace ag:=q_ (bg_ ag.out hg (Kd.S_ne af.out ag.out (by decide)));replace ae:=q_ (bg_ ae.out hg (Kd.S_ne af.out ae.out (by decide)));replace HB:=q_ (hb);have bG:=q_ (ho);clear af aY ho hb hg hat;obtain⟨bv,bw,bS⟩:=Kd.S_slice bG.out
      (first | subst bS | (injection bS with f1_ f2_ f3_;have f4_:=f1_.symm;have f5_:=f3_.symm;clear f1_ f2_ f3_;subst f4_;subst f5_))
      refine hK.out _ _ ⟨(blk_cell ae.out 0).trans rfl,(blk_cell ae.out 1).trans rfl,(blk_cell aa.out 0).trans rfl,(blk_cell aa.out 1).trans rfl,((bc_ HB.out ax:))⟩ (fun hHeld=>?_)
      clear hK K;refine norm_ (a':=?_) ?_ ?_
      rotate_left
      ·show Act.put _ (some 26) _=_
       simp only [Act.put,List.setIfInBounds_toArray,List.set_cons_zero,List.set_cons_succ,i64_w,i32_w]
       rfl
      refine pu_ 10 27 ?_
      refine la_ 11 none (fun K hK=>?_)
      have hs28:=cz_ ae 0;have hfs28:=blk_frozen ae.out 0;have hns28_0:=aA.out;have hns28_1:=aC.out;have hms28_0:=aH.out;have hms28_1:=aQ.out;refine skip_ (w1:=?_) (by rfl) rfl ?_ ?_
      rotate_left
      ·go_simp
       rfl
      refine hK.out _ _ ?_
      clear hK K;refine done_ (done_of HT_.out (by kernel_rfl)) ?_
      try go_wp2
      go_roundg k1
      case measure=>have:=HK1.out;omega
      case rel=>exact⟨(wrap64 (ay+1)),(aZ),(.slice bv aZ.length bw),rs_,H',⟨by have:=HK1.out;omega⟩,⟨kS_ (Kd.S_far (p:=⟨aj,0,none⟩) (Kd.S_types bG.out ae.out (by decide)) (fun _ hk=>hk.2) (.slice bv aZ.length bw)) (fun _ hk=>hk.1)⟩,⟨kR_ (Kd.R_far (p:=⟨aj,0,none⟩) (Kd.R_types ai.out ae.out (by decide)) (fun _ hk=>hk.2) (.slice bv aZ.length bw)) (fun _ hk=>trivial)⟩,⟨bw_⟩,⟨bw_⟩,⟨bw_⟩,⟨hb_⟩⟩
     ·rw [if_neg c19] at H;exact absurd H (by simp)
    ·rw [if_neg c17] at H;exact absurd H (by simp)
   ·rw [if_neg c16] at H;have c16b0:=decide_eq_false c16;clear c16;simp only [Option.some.injEq,Prod.mk.injEq] at H;obtain⟨rfl,rfl⟩:=H;have dh:=aM.out;have di:=aN.out;have dl:=aA.out;have dr:=aH.out;obtain⟨cm,cu,cz,cA⟩:=c2_ aa;have du:=aQ.out;have dw:=aC.out;obtain⟨cB,cC,cD,cE⟩:=c2_ ae;obtain⟨bh,bk,bX⟩:=Kd.S_slice af.out;subst bX;obtain⟨cF,cG,cH,cI⟩:=c2_ ag;go_wp2
    refine bodyPost_ret (results_cell_row rfl _ _ az 27 #[.slice bh ah.length bk, .slice aD aq.length aG] (0,0) _ rfl (bw_) Try.underlying27 rfl (by kernel_rfl)) rfl ?_
    exact⟨_,_,ew_,kS_ (sf2_ af.out ag.out) (fun _ hk=>hk.1),kR_ (rf2_ ai.out ag.out) (fun _ hk=>trivial),hb_⟩
end Go.Proofs.Ytbjljcpngbhkeaa.Pr
end
section
namespace Go.Proofs.Ytbjljcpngbhkeaa.Dr
open Go.RowKit Wz.PrintWords Wz.PrintLast Wz.PrintMore Ma Pr Lq
theorem copy_ex {M:List (List Int)} {Q:List Int} {n:Nat} (hn:n≤5) (hM:M.length=n) (hr: ∀x ∈ M,x.length=n) (hQ:Q.length=n):Ex (fun k=>spec_l01Copy.f k M Q) (fun r=>r.1.length=n∧(∀x ∈ r.1,x.length=n)∧r.2.length=n):=by
 have own: ∀B:List Int,B.length≤1000→spec_l01Own.f B=some B:=fun B h=>by
  unfold spec_l01Own.f
  simp
  omega
 unfold spec_l01Copy.f
 refine exsome (own Q (by omega)) ?_
 have loop: ∀(q i:Nat) (acc:List (List Int)),i+q=n→acc.length=i→(∀x ∈ acc,x.length=n)→Ex (fun k=>spec_l01Copy.l0 k (i:Int) M Q acc Q) (fun r=>r.1.length=n∧(∀x ∈ r.1,x.length=n)∧r.2.length=n):=by
  intro q
  induction q with
  | zero=>
   intro i acc hi hl hx
   refine exstep (fun k=>by rw [spec_l01Copy.l0]) ?_
   exact exneg (by omega) (exc rfl ⟨by show acc.length=n;omega,hx,hQ⟩)
  | succ q ih=>
   intro i acc hi hl hx
   have hrow:(rd_L2 M (i:Int)).length=n:=by
    have e:rd_L2 M (i:Int)=M.getD i []:=by simp [rd_L2]
    rw [e,List.getD_eq_getElem?_getD,List.getElem?_eq_getElem (by omega)]
    exact hr _ (List.getElem_mem _)
   refine exstep (fun k=>by rw [spec_l01Copy.l0]) ?_
   rw [w64 (x:=(i:Int)+1) (by omega) (by omega)]
   refine expos (by omega) (expos (by omega) (exsome (own _ (by omega)) (expos (by omega) (ih (i+1) _ (by omega) (by simp;omega) (fun x hm=>?_)))))
   rcases List.mem_append.1 hm with m | m
   ·exact hx x m
   ·rw [List.mem_singleton.1 m];exact hrow
 exact loop n 0 [] (by omega) rfl (by simp)
structure Pb (w:World) (g lo n gm c:Nat) (b cp:Nat→Nat) (A:Option Addr) (c1:Nat) (Q:List Int):Prop where
 dm:Dm w lo gm n c b cp
 rq:Kd.R (Kd.int .i64) 2 w lo (fun k=>k≠g∧k≠gm∧ ∀j,j < n→k≠b j) (.slice A Q.length c1) Q
 ql:n≤Q.length∧Q.length≤n+1
theorem Pb.mv {w0 w w1:World} {g lo n gm c:Nat} {b cp:Nat→Nat} {A:Option Addr} {c1:Nat} {Q:List Int} (h:Pb w g lo n gm c b cp A c1 Q) (hS:Stp w0 w g w1) (hg:g < lo):Pb w1 g lo n gm c b cp A c1 Q:=
 ⟨h.dm.keep hS.keep hg,Kd.R_keep h.rq hS.keep (fun k hk=>hk.1),h.ql⟩
def PbOut (w0 wE:World) (g lo n:Nat) (v:Value) (w':World):Prop:=(v= .agg #[.slice none 0 0, .slice none 0 0]∨ ∃gm c b cp A c1 Q,v= .agg #[.slice (some ⟨gm,0,none⟩) n c, .slice A Q.length c1]∧Pb w' g lo n gm c b cp A c1 Q)∧Stp w0 wE g w'
theorem copy_c {w:World} {g lo n gm c:Nat} {b cp:Nat→Nat} {A:Option Addr} {c1:Nat} {Q:List Int} (h:Pb w g lo n gm c b cp A c1 Q) (hQ:Q.length=n) (hn:n≤5) (hn0:0 < n):Calls Try.prog 100 #[.agg #[.slice (some ⟨gm,0,none⟩) n c, .slice A n c1]] w fun e w'=> ∃gm2 c2 b2 cp2 A2 d2 Q2,e= .returned (.agg #[.slice (some ⟨gm2,0,none⟩) n c2, .slice A2 n d2])∧Q2.length=n∧Dm w' w.heap.size gm2 n c2 b2 cp2∧Kd.R (Kd.int .i64) 2 w' w.heap.size (fun k=>w.heap.size≤k∧k≠gm2∧ ∀j,j < n→k≠b2 j) (.slice A2 n d2) Q2∧Below w.heap.size w w':=by
 obtain⟨M,hM,hMr,hC⟩:=h.dm.C (by omega)
 obtain⟨r,⟨k,e⟩,p1,p2,p3⟩:=copy_ex hn hM hMr hQ
 have hR:=Kd.R_reads' h.rq
 have hcall:=spec_l01Copy.calls k (some ⟨gm,0,none⟩) c M A c1 Q r.1 r.2 w hC (by rw [hM];exact h.dm.cap) hR.2.2 hR.2.1 (e k (Nat.le_refl _))
 rw [hM,hQ] at hcall
 refine hcall.mono ?_
 rintro e w' ⟨v0,v1,rfl,hS,hR1,hb⟩
 obtain⟨gm2,c2,b2,cp2,rfl,hD,ok1,ok2⟩:=Dm.of hS p1 p2 hn0
 obtain⟨A2,d2,rfl⟩:=Kd.R_slice hR1
 have hR2:Kd.R (Kd.int .i64) 2 w' w.heap.size (fun k=>w.heap.size≤k∧k≠gm2∧ ∀j,j < n→k≠b2 j) (.slice A2 r.2.length d2) r.2:=Kd.R_mono (Kd.R_tight rfl hR1) (fun k hk=>⟨Kd.R_base hR1 k hk.symm,fun q=>ok1 (by rw [← q];exact hk),fun j hj q=>ok2 j hj (by rw [← q];exact hk)⟩)
 rw [p3] at hR2
 exact⟨gm2,c2,b2,cp2,A2,d2,r.2,by rw [p3],p3,hD,hR2,hb⟩
structure Cp (w0 w wr:World) (g W g4 gb n gm c:Nat) (b cp:Nat→Nat) (vq:Value):Prop where
 st:Stp w0 w g wr
 dm:Dm wr W gm n c b cp
 b4:wr.heap[g4]?=some (.cells #[.slice none 0 0, .slice none 0 0] 27 (0,0))
 bb:wr.heap[gb]?=some (.cells #[.slice (some ⟨gm,0,none⟩) n c,vq] 27 (0,0))
 s4:w.heap.size≤g4∧g4 < W
 sb:W≤gb∧gb≠gm∧ ∀j,j < n→gb≠b j
 el:w0.heap.size≤w.heap.size∧g < w.heap.size
def okC (W gb n gm:Nat) (b:Nat→Nat) (k:Nat):Prop:=W≤k∧k≠gb∧k≠gm∧ ∀j,j < n→k≠b j
abbrev RC (wr:World) (W gb n gm:Nat) (b:Nat→Nat) (vq:Value) (Q:List Int):Prop:=Kd.R (Kd.int .i64) 2 wr W (okC W gb n gm b) vq Q
section
variable {w0 w wr w1:World} {g W g4 gb n gm c:Nat} {b cp:Nat→Nat} {vq:Value} {Q:List Int}
theorem Cp.new {w5 w6:World} {A2:Option Addr} {d2:Nat} (hE:w0.heap.size≤w.heap.size) (hg:g < w.heap.size) (st:Stp w0 w g w5) (h4:w.heap.size≤g4∧g4 < W) (b4:w5.heap[g4]?=some (.cells #[.slice none 0 0, .slice none 0 0] 27 (0,0))) (dm:Dm w5 W gm n c b cp) (hW:W≤w5.heap.size) (rq:Kd.R (Kd.int .i64) 2 w5 W (fun k=>W≤k∧k≠gm∧ ∀j,j < n→k≠b j) (.slice A2 Q.length d2) Q) (hb:Below w5.heap.size w5 w6) (h5:w5.heap.size≤gb) (hbox:w6.heap[gb]?=some (.cells #[.slice none 0 0, .slice none 0 0] 27 (0,0))):
  Cp w0 w ((w6.setCell ⟨gb,0,none⟩ (.slice (some ⟨gm,0,none⟩) n c)).setCell ⟨gb,1,none⟩ (.slice A2 Q.length d2)) g W g4 gb n gm c b cp (.slice A2 Q.length d2)∧RC ((w6.setCell ⟨gb,0,none⟩ (.slice (some ⟨gm,0,none⟩) n c)).setCell ⟨gb,1,none⟩ (.slice A2 Q.length d2)) W gb n gm b (.slice A2 Q.length d2) Q:=by
 have lt:=fun k hk=>Kd.R_lt rq k hk
 have g0:=dm.g0
 have hs:=Stp.of_below st.src st.below hb
 have sg:=st.keep.1
 have e5:gb≠gm∧ ∀j,j < n→gb≠b j:=⟨by omega,fun j hj=>by have:=(dm.rr j hj).2.1;omega⟩
 have d6:=dm.keep hs.keep (by omega)
 have r6:Kd.R (Kd.int .i64) 2 w6 W (okC W gb n gm b) (.slice A2 Q.length d2) Q:=Kd.R_below (Kd.R_mono (Kd.R_tight rfl rq) (fun k hk=>⟨(rq.1 k hk.symm).1,by have:=lt k hk.symm;omega,(rq.1 k hk.symm).2⟩)) hb
 have s6:=st.trans hs
 refine⟨⟨(s6.set hE gb 0 _ (by omega) (by omega)).set hE gb 1 _ (by omega) (by omega),(d6.set e5.1 e5.2).set e5.1 e5.2,?_,blk_put (blk_put hbox 0 _ rfl) 1 _ rfl,h4,⟨by omega,e5⟩,hE,hg⟩,?_⟩
 ·exact(Below.heap_setCell _ ⟨gb,1,none⟩ _ g4 (by show g4≠gb;omega)).trans ((Below.heap_setCell w6 ⟨gb,0,none⟩ _ g4 (by show g4≠gb;omega)).trans (blk_below b4 hb))
 ·exact Kd.R_far (Kd.R_far r6 (p:=⟨gb,0,none⟩) (fun q hq=>hq.2.1) _) (p:=⟨gb,1,none⟩) (fun q hq=>hq.2.1) _
theorem Cp.mv (h:Cp w0 w wr g W g4 gb n gm c b cp vq) (hS:Stp w0 wr g w1):Cp w0 w w1 g W g4 gb n gm c b cp vq:=by
 have:=h.s4;have:=h.sb;have:=h.el
 exact⟨h.st.trans hS,h.dm.keep hS.keep (by omega),hS.keep.blk h.b4 (by omega) (by simp),hS.keep.blk h.bb (by omega) (by simp),h.s4,h.sb,h.el⟩
theorem RC.mv (h:Cp w0 w wr g W g4 gb n gm c b cp vq) (r:RC wr W gb n gm b vq Q) (hS:Stp w0 wr g w1):RC w1 W gb n gm b vq Q:=by
 have:=h.s4;have:=h.el
 exact Kd.R_keep r hS.keep (fun k hk=>by have:=hk.1;omega)
theorem Cp.put (h:Cp w0 w wr g W g4 gb n gm c b cp vq) (r:RC wr W gb n gm b vq Q) {j k:Nat} (hj:j < n) (hk:k < n) (x:Int):Cp w0 w (wr.setCell ⟨b j,k,none⟩ (.int .i64 x)) g W g4 gb n gm c b cp vq∧RC (wr.setCell ⟨b j,k,none⟩ (.int .i64 x)) W gb n gm b vq Q:=by
 have h4:=h.s4;have hb:=h.sb;have he:=h.el;have hr:=h.dm.rr j hj
 exact⟨⟨h.st.set he.1 (b j) k _ (by omega) (by omega),h.dm.put hj hk x,(Below.heap_setCell wr ⟨b j,k,none⟩ _ g4 (by show g4≠b j;omega)).trans h.b4,(Below.heap_setCell wr ⟨b j,k,none⟩ _ gb (hb.2.2 j hj)).trans h.bb,h4,hb,he⟩,Kd.R_far r (p:=⟨b j,k,none⟩) (fun q hq=>hq.2.2.2 j hj) _⟩
theorem Cp.putQ {gq c1:Nat} (h:Cp w0 w wr g W g4 gb n gm c b cp (.slice (some ⟨gq,0,none⟩) Q.length c1)) (r:RC wr W gb n gm b (.slice (some ⟨gq,0,none⟩) Q.length c1) Q) (hq:W≤gq∧gq≠gb∧gq≠gm∧ ∀j,j < n→gq≠b j) (i:Nat) (x:Int):Cp w0 w (wr.setCell ⟨gq,i,none⟩ (.int .i64 x)) g W g4 gb n gm c b cp (.slice (some ⟨gq,0,none⟩) Q.length c1)∧RC (wr.setCell ⟨gq,i,none⟩ (.int .i64 x)) W gb n gm b (.slice (some ⟨gq,0,none⟩) Q.length c1) (Q.set i x):=by
 have h4:=h.s4;have hb:=h.sb;have he:=h.el
 have hput:=Kd.R_putg r (i:Int) x
 rw [Int.toNat_natCast] at hput
 exact⟨⟨h.st.set he.1 gq i _ (by omega) (by omega),h.dm.set hq.2.2.1 hq.2.2.2,(Below.heap_setCell wr ⟨gq,i,none⟩ _ g4 (by show g4≠gq;omega)).trans h.b4,(Below.heap_setCell wr ⟨gq,i,none⟩ _ gb (Ne.symm hq.2.1)).trans h.bb,h4,hb,he⟩,hput.1⟩
theorem Cp.fresh (h:Cp w0 w wr g W g4 gb n gm c b cp vq):W≤wr.heap.size∧ ∀k,wr.heap.size≤k→okC W gb n gm b k:=by
 have lb:=blk_lt h.bb;have g0:=h.dm.g0
 exact⟨by omega,fun k hk=>⟨by omega,by omega,by omega,fun j hj=>by have:=(h.dm.rr j hj).2.1;omega⟩⟩
theorem Cp.grow (h:Cp w0 w wr g W g4 gb n gm c b cp vq) (r:RC wr W gb n gm b vq Q) (hg:wr.grownBy w1 vq.ownBlock) (hb:Below W wr w1):Cp w0 w w1 g W g4 gb n gm c b cp vq:=by
 have hn: ∀k, ¬ okC W gb n gm b k→some k≠vq.ownBlock:=fun k hk e=>hk (r.1 k e.symm)
 have h4:=h.s4;have he:=h.el
 refine⟨h.st.lo he.1 he.2 ⟨hb.os,hb.tape,hb.output,hb.size,fun i hi=>hb.block i (by omega)⟩,h.dm.grow hg ⟨hn _ (fun q=>q.2.2.1 rfl),fun j hj=>hn _ (fun q=>q.2.2.2 j hj rfl)⟩,blk_grown h.b4 hg (hn _ (fun q=>by have:=q.1;omega)),blk_grown h.bb hg (hn _ (fun q=>q.2.1 rfl)),h.s4,h.sb,h.el⟩
theorem Cp.store {v1:Value} (h:Cp w0 w w1 g W g4 gb n gm c b cp vq) (r:RC w1 W gb n gm b v1 Q):Cp w0 w (w1.setCell ⟨gb,1,none⟩ v1) g W g4 gb n gm c b cp v1∧RC (w1.setCell ⟨gb,1,none⟩ v1) W gb n gm b v1 Q:=by
 have h4:=h.s4;have hb:=h.sb;have he:=h.el
 exact⟨⟨h.st.set he.1 gb 1 _ (by omega) (by omega),h.dm.set hb.2.1 hb.2.2,(Below.heap_setCell w1 ⟨gb,1,none⟩ _ g4 (by show g4≠gb;omega)).trans h.b4,blk_put h.bb 1 v1 rfl,h4,hb,he⟩,Kd.R_far r (p:=⟨gb,1,none⟩) (fun q hq=>hq.2.1) _⟩
theorem Cp.out {lo c1:Nat} {A:Option Addr} (h:Cp w0 w wr g W g4 gb n gm c b cp (.slice A Q.length c1)) (r:RC wr W gb n gm b (.slice A Q.length c1) Q) (hg:g < lo) (hl:lo≤w.heap.size) (hq:n≤Q.length∧Q.length≤n+1):
  PbOut w0 w g lo n (.agg #[.slice (some ⟨gm,0,none⟩) n c, .slice A Q.length c1]) ((wr.setCell ⟨g4,0,none⟩ (.slice (some ⟨gm,0,none⟩) n c)).setCell ⟨g4,1,none⟩ (.slice A Q.length c1)):=by
 have h4:=h.s4;have hb:=h.sb;have he:=h.el;have g0:=h.dm.g0
 have q1:g4≠gm:=by omega
 have q2: ∀j,j < n→g4≠b j:=fun j hj=>by have:=(h.dm.rr j hj).1;omega
 refine⟨.inr ⟨gm,c,b,cp,A,c1,Q,rfl,⟨((h.dm.set q1 q2).set q1 q2).down (by omega),?_,hq⟩⟩,(h.st.set he.1 g4 0 _ h4.1 (by omega)).set he.1 g4 1 _ h4.1 (by omega)⟩
 have r2:=Kd.R_far (Kd.R_far r (p:=⟨g4,0,none⟩) (fun k hk=>by show k≠g4;have:=hk.1;omega) (.slice (some ⟨gm,0,none⟩) n c)) (p:=⟨g4,1,none⟩) (fun k hk=>by show k≠g4;have:=hk.1;omega) (.slice A Q.length c1)
 exact Kd.R_lower (Kd.R_mono r2 (fun k hk=>⟨by have:=hk.1;omega,hk.2.2⟩)) (by omega)
end
end Go.Proofs.Ytbjljcpngbhkeaa.Dr
end
section
namespace Go.Proofs.Ytbjljcpngbhkeaa.Dr
open Go.RowKit Wz.PrintWords Wz.PrintLast Wz.PrintMore Ma Pr Lq
theorem bad_c {w0 w:World} {g lo n gm c:Nat} {b cp:Nat→Nat} {A:Option Addr} {c1:Nat} {Q:List Int} (h:Srm w0 w g) (hB:Below w0.heap.size w0 w) (hP:Pb w g lo n gm c b cp A c1 Q) (hQ:Q.length=n) (hn:n≤5) (hn0:0 < n) (hg:g < lo) (hl:lo≤w.heap.size):Calls Try.prog 94 #[.pointer (some ⟨g,0,none⟩), .agg #[.slice (some ⟨gm,0,none⟩) n c, .slice A n c1]] w fun e w'=> ∃v,e= .returned v∧PbOut w0 w g lo n v w':=by
 have ST:=q_ (Stp.refl h hB);have HE:=q_ hB.size;have P:=q_ hP;have PL:=q_ (show gm < w.heap.size∧ ∀j,j < n→b j < w.heap.size from ⟨hP.dm.g0.2,fun j hj=>(hP.dm.rr j hj).2.1⟩);have RP:Aside0 (Kd.R (Kd.int .i64) 2 w lo (fun k=>(k≠g∧k≠gm∧ ∀j,j < n→k≠b j)∧k < w.heap.size) (.slice A Q.length c1) Q):=⟨Kd.R_mono (Kd.R_tight rfl hP.rq) (fun k hk=>⟨hP.rq.1 k hk.symm,Kd.R_lt hP.rq k hk.symm⟩)⟩
 have HQ:=q_ hQ;have HN:=q_ hn;have HN0:=q_ hn0;have HG:=q_ hg;have HL:=q_ hl;clear h hB hP hQ hn hn0 hg hl
 go_enter Try.func94,Try.ntmps94
 go_wp2_with (first | ((with_reducible refine gate_dst (N:=3) rfl ?_);refine be_ 3 #[.slice (some ⟨gm,0,none⟩) n c, .slice A n c1] 27 ?_;intro g3 hg w2 hbox hb;have G3:=q_ (show w.heap.size≤g3 by rw [hg];exact Nat.le_refl _);have hs_:=Stp.of_below ST.out.src ST.out.below hb;replace ST:=q_ (ST.out.trans hs_);replace P:=q_ (P.out.mv hs_ HG.out);replace RP:=q_ (Kd.R_keep RP.out hs_.keep (fun k hk=>hk.1.1));have B3:=q_ hbox;clear hs_ hg hbox hb) | ((with_reducible refine gate_dst (N:=4) rfl ?_);refine be_ 4 #[.slice none 0 0, .slice none 0 0] 27 ?_;intro g4 hg w3 hbox hb;have G4:=q_ (show w.heap.size≤g4∧g3≠g4 by rw [hg];exact⟨ST.out.keep.1,Nat.ne_of_lt (blk_lt B3.out)⟩);have hs_:=Stp.of_below ST.out.src ST.out.below hb;replace ST:=q_ (ST.out.trans hs_);replace P:=q_ (P.out.mv hs_ HG.out);replace RP:=q_ (Kd.R_keep RP.out hs_.keep (fun k hk=>hk.1.1));replace B3:=q_ (blk_below B3.out hb);have B4:=q_ hbox;clear hs_ hg hbox hb))
 refine(next_c ST.out.src ST.out.below 50).mono ?_
 rintro e w4 ⟨y,rfl,_,hS⟩;replace ST:=q_ (ST.out.trans hS);replace P:=q_ (P.out.mv hS HG.out);replace RP:=q_ (Kd.R_keep RP.out hS.keep (fun k hk=>hk.1.1));replace B3:=q_ (hS.keep.blk B3.out (by have:=G3.out;have:=G4.out;have:=HG.out;have:=HL.out;omega) (by simp));replace B4:=q_ (hS.keep.blk B4.out (by have:=G3.out;have:=G4.out;have:=HG.out;have:=HL.out;omega) (by simp));clear hS
 by_cases y0:y=0
 ·have y0b:(y==0)=true:=by simpa using y0
  clear y0;obtain⟨x40,x41,f40,f41⟩:=c2_ B4;go_wp2
  refine bodyPost_ret (results_cell_row rfl _ _ g4 27 #[.slice none 0 0, .slice none 0 0] (0,0) _ rfl (blk_put (blk_put B4.out 0 _ rfl) 1 _ rfl) Try.underlying27 rfl (by kernel_rfl)) rfl ?_
  have g4a:=G4.out;have hl:=HL.out;have hgg:=HG.out;have S4:=(ST.out.set HE.out g4 0 (.slice none 0 0) g4a.1 (by omega)).set HE.out g4 1 (.slice none 0 0) g4a.1 (by omega);exact⟨_,rfl, .inl rfl,S4⟩
 have y0b:(y==0)=false:=by simpa using y0
 clear y0
 by_cases y1:y=1
 ·have y1b:(y==1)=true:=by simpa using y1
  clear y1;obtain⟨x30,x31,f30,f31⟩:=c2_ B3
  go_wp2_with fail
  refine(copy_c P.out HQ.out HN.out HN0.out).mono ?_
  rintro e w5 ⟨gm2,c2,b2,cp2,A2,d2,Q2,rfl,hQ2,hD,hR,hb⟩;clear x30 x31 f30 f31;have D2:=q_ hD;have R2:=q_ hR;have L2:=q_ hQ2;have HB5:=q_ hb;have GB4:=q_ (blk_lt B4.out);have GL:=q_ ST.out.src.lt;have hs_:=Stp.of_below ST.out.src ST.out.below hb;replace ST:=q_ (ST.out.trans hs_);replace P:=q_ (P.out.mv hs_ HG.out);replace RP:=q_ (Kd.R_keep RP.out hs_.keep (fun k hk=>hk.1.1));replace B3:=q_ (hs_.keep.blk B3.out (by have:=G3.out;have:=G4.out;have:=HG.out;have:=HL.out;omega) (by simp));replace B4:=q_ (hs_.keep.blk B4.out (by have:=G3.out;have:=G4.out;have:=HG.out;have:=HL.out;omega) (by simp));clear hD hR hQ2 hb hs_;obtain⟨gq,dq,eq_,hbq,hlq,_⟩:=Kd.R_form R2.out (by rw [L2.out];exact HN0.out);injection eq_ with e1 e2 e3
  subst e1;have GQ:=q_ hbq;clear e2 e3 hbq hlq
  go_wp2_with (first | ((with_reducible refine gate_dst (N:=5) rfl ?_);refine be_ 5 #[.slice none 0 0, .slice none 0 0] 27 ?_;intro g5 hg w6 hbox hb;have B5:=q_ hbox;have G5:=q_ (show w5.heap.size≤g5 by rw [hg];exact Nat.le_refl _);have HB6:=q_ hb;have hx0:=cz_ B5 0;have hx1:=cz_ B5 1;have fx0:=blk_frozen hbox 0;have fx1:=blk_frozen hbox 1;clear hg hbox hb) | ((with_reducible refine gate_store (t:=27) (p:=5) rfl ?_);refine se_ 27 5 ((w6.setCell ⟨g5,0,none⟩ (.slice (some ⟨gm2,0,none⟩) n c2)).setCell ⟨g5,1,none⟩ (.slice (some ⟨gq,0,none⟩) n d2)) ?_;intro w7 hw;have cpr:=Cp.new (g4:=g4) (W:=w4.heap.size) HE.out (by have:=HG.out;have:=HL.out;omega) ST.out ⟨G4.out.1,GB4.out⟩ B4.out D2.out HB5.out.size (by rw [L2.out];exact R2.out) HB6.out G5.out B5.out;rw [L2.out, ← hw] at cpr;have CP:=q_ cpr.1;have RQ:=q_ cpr.2;clear cpr hw hx0 hx1 fx0 fx1;have hx0:=cz_ (q_ CP.out.bb) 0;have hx1:=cz_ (q_ CP.out.bb) 1))
  clear ST P RP D2 R2 B4 HB6 G5 B5 HB5 B3 hx0 hx1;have hs_:=Stp.of_below CP.out.st.src CP.out.st.below (below_drew (Below.refl w7.heap.size w7));replace RQ:=q_ (RC.mv CP.out RQ.out hs_);replace CP:=q_ (CP.out.mv hs_);clear hs_;refine st_ (n:=10) (S:=fun w'=>w'.cell? ⟨g5,0,none⟩=some (.slice (some ⟨gm2,0,none⟩) n c2)∧ ∀j,j < n→w'.cell? ⟨gm2,j,none⟩=some (.slice (some ⟨b2 j,0,none⟩) n (cp2 j))) (ds:= []) ⟨cz_ (q_ CP.out.bb) 0,CP.out.dm.row⟩ (fun hHeld=>?_)
  generalize w7.drew=w8 at CP RQ hHeld ⊢
  refine p3_ 0 18 2 20 3 21 ?_;refine tk_ 1 19 ?_;refine tk_ 4 22 ?_;refine pu_ 5 23 ?_
  refine on_ 6 (some 24) (fun K hK=>?_)
  refine ca_ Try.func37 #[.pointer (some ⟨g,0,none⟩), .int .i64 (n:Int)] ?_
  refine(next_c CP.out.st.src CP.out.st.below (n:Int)).mono ?_
  rintro e w9 ⟨x,rfl,hx,hS⟩;obtain⟨j,rfl⟩:=Int.eq_ofNat_of_zero_le (hx (by have:=HN0.out;omega)).1;have hjn:j < n:=by have:=(hx (by have:=HN0.out;omega)).2;omega
  have HJ:=q_ hjn;have hjz:(j:Int) < (n:Int):=by omega
  have h0j:(0:Int)≤(j:Int):=by omega
  refine⟨_,rfl,?_⟩
  replace RQ:=q_ (RC.mv CP.out RQ.out hS);replace CP:=q_ (CP.out.mv hS);clear hS hx hHeld;refine hK.out _ _ ⟨cz_ (q_ CP.out.bb) 0,CP.out.dm.row⟩ (fun hHeld=>?_)
  clear hK K;refine no_ ?_
  refine pu_ 7 25 ?_;refine tk_ 8 26 ?_;refine pu_ 9 6 ?_
  refine done_ (by kernel_rfl) ?_
  clear hHeld hjn hjz h0j
  go_wp2_with (first | ((with_reducible refine gate_dst (N:=29) rfl ?_);refine Kd.R_lit (Kd.int .i64) _ 2 ?hg (N:=29) ?hd (xs:=([21, -21,1099511627776]:List Int)) (inner:= [.int .i64 21, .int .i64 (-21), .int .i64 1099511627776]) (ok:=fun _=>True) (okp:=fun _=>True) ?hr ?hp (fun _ hk=>hk) trivial (Below.refl _ _) (Nat.le_refl _) (by simp) ?_;(case hd=>rfl);(case hg=>rfl);(case hr=>first | (go_simp;done) | (go_simp;rfl));(case hp=>exact lit_reps [21, -21,1099511627776]);intro v29 w10 ho hb hg_ hnew_;obtain⟨g29,c29,rfl,hb29,hl29,_⟩:=Kd.R_form ho (by simp);have G29:=q_ (Nat.lt_of_lt_of_le CP.out.st.src.lt hb29);have hs_:=Stp.of_below CP.out.st.src CP.out.st.below hb;replace RQ:=q_ (RC.mv CP.out RQ.out hs_);replace CP:=q_ (CP.out.mv hs_);have R29:=q_ ho;clear hs_ hb29 hl29 hg_ hnew_ ho hb))
  refine(pick_c CP.out.st.src CP.out.st.below _ c29 [21, -21,1099511627776] (Kd.R_reads' R29.out).2.2 (Kd.R_reads' R29.out).2.1 (fun ad e _=>by injection e with e;subst e;show g29≠g;have:=G29.out;omega) (by decide)).mono ?_
  rintro e w11 ⟨x,rfl,_,hS⟩;replace RQ:=q_ (RC.mv CP.out RQ.out hS);replace CP:=q_ (CP.out.mv hS);clear hS R29 G29;obtain⟨⟨z,hz⟩,fz⟩:=CP.out.dm.ints j 0 HJ.out HN0.out;have hn0z:(0:Int) < (n:Int):=by have:=HN0.out;omega
  go_wp2_with (first | ((with_reducible refine gate_store (t:=2) (p:=31) rfl ?_);refine se_ 2 31 (w11.setCell ⟨b2 j,0,none⟩ (.int .i64 x)) ?_;intro w12 hw;have cpr:=CP.out.put RQ.out HJ.out HN0.out x;rw [← hw] at cpr;replace RQ:=q_ cpr.2;replace CP:=q_ cpr.1;clear hz fz cpr hw;have hx0:=cz_ (q_ CP.out.bb) 0;have hx1:=cz_ (q_ CP.out.bb) 1;have y40:=cz_ (q_ CP.out.b4) 0;have y41:=cz_ (q_ CP.out.b4) 1;have g40:=blk_frozen CP.out.b4 0;have g41:=blk_frozen CP.out.b4 1))
  go_wp2
  refine bodyPost_ret (results_cell_row rfl _ _ g4 27 #[.slice (some ⟨gm2,0,none⟩) n c2, .slice (some ⟨gq,0,none⟩) n d2] (0,0) _ rfl (blk_put (blk_put CP.out.b4 0 _ rfl) 1 _ rfl) Try.underlying27 rfl (by kernel_rfl)) rfl ?_
  have fin:=Cp.out (Q:=Q2) (by rw [L2.out];exact CP.out) (by rw [L2.out];exact RQ.out) HG.out HL.out (by rw [L2.out];omega);rw [L2.out] at fin;exact⟨_,rfl,fin⟩
 have y1b:(y==1)=false:=by simpa using y1
 clear y1
 by_cases y2:y=2
 ·have y2b:(y==2)=true:=by simpa using y2
  clear y2;obtain⟨x30,x31,f30,f31⟩:=c2_ B3
  go_wp2_with fail
  refine(copy_c P.out HQ.out HN.out HN0.out).mono ?_
  rintro e w5 ⟨gm2,c2,b2,cp2,A2,d2,Q2,rfl,hQ2,hD,hR,hb⟩;clear x30 x31 f30 f31;have D2:=q_ hD;have R2:=q_ hR;have L2:=q_ hQ2;have HB5:=q_ hb;have GB4:=q_ (blk_lt B4.out);have GL:=q_ ST.out.src.lt;have hs_:=Stp.of_below ST.out.src ST.out.below hb;replace ST:=q_ (ST.out.trans hs_);replace P:=q_ (P.out.mv hs_ HG.out);replace RP:=q_ (Kd.R_keep RP.out hs_.keep (fun k hk=>hk.1.1));replace B3:=q_ (hs_.keep.blk B3.out (by have:=G3.out;have:=G4.out;have:=HG.out;have:=HL.out;omega) (by simp));replace B4:=q_ (hs_.keep.blk B4.out (by have:=G3.out;have:=G4.out;have:=HG.out;have:=HL.out;omega) (by simp));clear hD hR hQ2 hb hs_;obtain⟨gq,dq,eq_,hbq,hlq,_⟩:=Kd.R_form R2.out (by rw [L2.out];exact HN0.out);injection eq_ with e1 e2 e3
  subst e1;have GQ:=q_ hbq;clear e2 e3 hbq hlq
  go_wp2_with (first | ((with_reducible refine gate_dst (N:=7) rfl ?_);refine be_ 7 #[.slice none 0 0, .slice none 0 0] 27 ?_;intro g7 hg w6 hbox hb;have B7:=q_ hbox;have G7:=q_ (show w5.heap.size≤g7 by rw [hg];exact Nat.le_refl _);have HB6:=q_ hb;have hx0:=cz_ B7 0;have hx1:=cz_ B7 1;have fx0:=blk_frozen hbox 0;have fx1:=blk_frozen hbox 1;clear hg hbox hb) | ((with_reducible refine gate_store (t:=27) (p:=7) rfl ?_);refine se_ 27 7 ((w6.setCell ⟨g7,0,none⟩ (.slice (some ⟨gm2,0,none⟩) n c2)).setCell ⟨g7,1,none⟩ (.slice (some ⟨gq,0,none⟩) n d2)) ?_;intro w7 hw;have cpr:=Cp.new (g4:=g4) (W:=w4.heap.size) HE.out (by have:=HG.out;have:=HL.out;omega) ST.out ⟨G4.out.1,GB4.out⟩ B4.out D2.out HB5.out.size (by rw [L2.out];exact R2.out) HB6.out G7.out B7.out;rw [L2.out, ← hw] at cpr;have CP:=q_ cpr.1;have RQ:=q_ cpr.2;clear cpr hw hx0 hx1 fx0 fx1;have hx0:=cz_ (q_ CP.out.bb) 0;have hx1:=cz_ (q_ CP.out.bb) 1))
  clear ST P RP D2 R2 B4 HB6 G7 B7 HB5 B3 hx0 hx1;have hs_:=Stp.of_below CP.out.st.src CP.out.st.below (below_drew (Below.refl w7.heap.size w7));replace RQ:=q_ (RC.mv CP.out RQ.out hs_);replace CP:=q_ (CP.out.mv hs_);clear hs_;refine st_ (n:=7) (S:=fun w'=>w'.cell? ⟨g7,1,none⟩=some (.slice (some ⟨gq,0,none⟩) n d2)) (ds:= [6]) (cz_ (q_ CP.out.bb) 1) (fun hHeld=>?_)
  generalize w7.drew=w8 at CP RQ hHeld ⊢
  refine p2_ 0 37 2 39 ?_;refine tk_ 1 38 ?_
  refine on_ 3 (some 40) (fun K hK=>?_)
  refine Kd.R_lit_step (Kd.int .i64) _ 2 (by rfl) (N:=40) rfl (xs:=([101, -101]:List Int)) (inner:= [.int .i64 101, .int .i64 (-101)]) (ok:=fun _=>True) (okp:=fun _=>True) (by first | (go_simp;done) | (go_simp;rfl)) (lit_reps [101, -101]) (fun _ h=>h) trivial (Below.refl _ _) (Nat.le_refl _) (by simp) ?_
  intro v40 w9 ho hb hg_ hat_;obtain⟨g40,c40,rfl,hb40,hl40,_⟩:=Kd.R_form ho (by simp);have G40:=q_ (Nat.lt_of_lt_of_le CP.out.st.src.lt hb40);have hs_:=Stp.of_below CP.out.st.src CP.out.st.below hb;replace RQ:=q_ (RC.mv CP.out RQ.out hs_);replace CP:=q_ (CP.out.mv hs_);have R40:=q_ ho;clear hs_ hb40 hl40 ho hb hg_ hat_ hHeld;refine hK.out _ _ (cz_ (q_ CP.out.bb) 1) (fun hHeld=>?_)
  clear hK K;refine nd_ 40 ?_
  refine on_ 4 (some 41) (fun K hK=>?_)
  refine ca_ Try.func51 #[.pointer (some ⟨g,0,none⟩), .slice (some ⟨g40,0,none⟩) ([101, -101]:List Int).length c40] ?_
  refine(pick_c CP.out.st.src CP.out.st.below _ c40 [101, -101] (Kd.R_reads' R40.out).2.2 (Kd.R_reads' R40.out).2.1 (fun ad e _=>by injection e with e;subst e;show g40≠g;have:=G40.out;omega) (by decide)).mono ?_
  rintro e w11 ⟨x,rfl,_,hS⟩;refine⟨_,rfl,?_⟩
  replace RQ:=q_ (RC.mv CP.out RQ.out hS);replace CP:=q_ (CP.out.mv hS);clear hS R40 G40 hHeld;refine hK.out _ _ (cz_ (q_ CP.out.bb) 1) (fun hHeld=>?_)
  clear hK K;refine no_ ?_
  have hn0:=HN0.out;refine pu_ 5 42 ?_
  have hat:=Kd.R_celln 0 RQ.out 0 (by omega) (by omega);have hcell:=hat.1;have hfr:=hat.2;rw [show (0:Int).toNat=0 from rfl] at hcell hfr;have hown:=RQ.out.1 gq (by rw [← L2.out];have:=HN0.out;simp [Value.ownBlock]);clear hat;refine la_ 6 none (fun K hK=>?_)
  refine skip_ (w1:=?_) (by rfl) rfl ?_ ?_
  rotate_left
  ·go_simp
   rfl
  refine hK.out _ _ ?_
  clear hK K hHeld hcell hfr;refine done_ (by kernel_rfl) ?_
  have cp0:=Cp.putQ (Q:=Q2) (by rw [L2.out];exact CP.out) (by rw [L2.out];exact RQ.out) ⟨hown.1,hown.2.1,hown.2.2.1,hown.2.2.2⟩ 0 x;rw [L2.out] at cp0;have hl3:(Q2.set 0 x).length=n:=by rw [List.length_set];exact L2.out
  have HL3:=q_ hl3;replace CP:=q_ cp0.1;replace RQ:=q_ cp0.2;clear cp0 hown hl3
  generalize w11.setCell ⟨gq,0,none⟩ (.int .i64 x)=w12 at CP RQ ⊢
  have hx0:=cz_ (q_ CP.out.bb) 0;have hx1:=cz_ (q_ CP.out.bb) 1;have y40:=cz_ (q_ CP.out.b4) 0;have y41:=cz_ (q_ CP.out.b4) 1;have g40:=blk_frozen CP.out.b4 0;have g41:=blk_frozen CP.out.b4 1;go_wp2
  refine bodyPost_ret (results_cell_row rfl _ _ g4 27 #[.slice (some ⟨gm2,0,none⟩) n c2, .slice (some ⟨gq,0,none⟩) n d2] (0,0) _ rfl (blk_put (blk_put CP.out.b4 0 _ rfl) 1 _ rfl) Try.underlying27 rfl (by kernel_rfl)) rfl ?_
  have fin:=Cp.out (Q:=Q2.set 0 x) (by rw [HL3.out];exact CP.out) (by rw [HL3.out];exact RQ.out) HG.out HL.out (by rw [HL3.out];omega);rw [HL3.out] at fin;exact⟨_,rfl,fin⟩
 have y2b:(y==2)=false:=by simpa using y2
 clear y2
 by_cases y3:y=3
 ·have y3b:(y==3)=true:=by simpa using y3
  clear y3;obtain⟨x30,x31,f30,f31⟩:=c2_ B3
  go_wp2_with fail
  refine(copy_c P.out HQ.out HN.out HN0.out).mono ?_
  rintro e w5 ⟨gm2,c2,b2,cp2,A2,d2,Q2,rfl,hQ2,hD,hR,hb⟩;clear x30 x31 f30 f31;have D2:=q_ hD;have R2:=q_ hR;have L2:=q_ hQ2;have HB5:=q_ hb;have GB4:=q_ (blk_lt B4.out);have GL:=q_ ST.out.src.lt;have hs_:=Stp.of_below ST.out.src ST.out.below hb;replace ST:=q_ (ST.out.trans hs_);replace P:=q_ (P.out.mv hs_ HG.out);replace RP:=q_ (Kd.R_keep RP.out hs_.keep (fun k hk=>hk.1.1));replace B3:=q_ (hs_.keep.blk B3.out (by have:=G3.out;have:=G4.out;have:=HG.out;have:=HL.out;omega) (by simp));replace B4:=q_ (hs_.keep.blk B4.out (by have:=G3.out;have:=G4.out;have:=HG.out;have:=HL.out;omega) (by simp));clear hD hR hQ2 hb hs_;obtain⟨gq,dq,eq_,hbq,hlq,_⟩:=Kd.R_form R2.out (by rw [L2.out];exact HN0.out);injection eq_ with e1 e2 e3
  subst e1;have GQ:=q_ hbq;clear e2 e3 hbq hlq
  go_wp2_with (first | ((with_reducible refine gate_dst (N:=8) rfl ?_);refine be_ 8 #[.slice none 0 0, .slice none 0 0] 27 ?_;intro g8 hg w6 hbox hb;have B8:=q_ hbox;have G8:=q_ (show w5.heap.size≤g8 by rw [hg];exact Nat.le_refl _);have HB6:=q_ hb;have hx0:=cz_ B8 0;have hx1:=cz_ B8 1;have fx0:=blk_frozen hbox 0;have fx1:=blk_frozen hbox 1;clear hg hbox hb) | ((with_reducible refine gate_store (t:=27) (p:=8) rfl ?_);refine se_ 27 8 ((w6.setCell ⟨g8,0,none⟩ (.slice (some ⟨gm2,0,none⟩) n c2)).setCell ⟨g8,1,none⟩ (.slice (some ⟨gq,0,none⟩) n d2)) ?_;intro w7 hw;have cpr:=Cp.new (g4:=g4) (W:=w4.heap.size) HE.out (by have:=HG.out;have:=HL.out;omega) ST.out ⟨G4.out.1,GB4.out⟩ B4.out D2.out HB5.out.size (by rw [L2.out];exact R2.out) HB6.out G8.out B8.out;rw [L2.out, ← hw] at cpr;have CP:=q_ cpr.1;have RQ:=q_ cpr.2;clear cpr hw hx0 hx1 fx0 fx1;have hx0:=cz_ (q_ CP.out.bb) 0;have hx1:=cz_ (q_ CP.out.bb) 1) | ((with_reducible refine gate_builtin (b:= .append) (xs:= #[.tmp 49, .tmp 50]) rfl ?_);at_builtin;refine Kd.R_append (Kd.int .i64) (w0:=w7) w4.heap.size rfl (.tmp 49) (.tmp 50) 25 2 (.int .i64 0) 8 rfl Try.underlying25 info2 rfl (by decide) (by omega) (.slice (some ⟨gq,0,none⟩) n d2) Q2 0 [.int .i64 0] (okC w4.heap.size g8 n gm2 b2) (fun _=>False) rfl rfl rfl (fun _ hk=>hk.elim) CP.out.fresh.2 RQ.out (Below.refl _ _) CP.out.fresh.1 ?aL ?_;(case aL=>have:=HN.out;have:=L2.out;omega);intro v51 w8 ho hb hg hat;replace CP:=q_ (CP.out.grow RQ.out hg hb);replace RQ:=q_ ho;clear ho hb hg hat hx0 hx1;obtain⟨A9,c9,e9⟩:=Kd.R_slice RQ.out;have hl9:(Q2++ [0]).length=n+1:=(by have:=L2.out;simp;omega);rw [hl9] at e9;subst e9;have HL9:=q_ hl9;clear hl9;have hx1:=cz_ (q_ CP.out.bb) 1;have fx1:=blk_frozen CP.out.bb 1) | ((with_reducible refine gate_store (t:=25) (p:=52) rfl ?_);refine se_ 25 52 (w8.setCell ⟨g8,1,none⟩ (.slice A9 (n+1) c9)) ?_;intro w9 hw;have cpr:=CP.out.store RQ.out;rw [← hw] at cpr;replace RQ:=q_ cpr.2;replace CP:=q_ cpr.1;clear cpr hw hx1 fx1;have hx0:=cz_ (q_ CP.out.bb) 0;have hx1:=cz_ (q_ CP.out.bb) 1;have y40:=cz_ (q_ CP.out.b4) 0;have y41:=cz_ (q_ CP.out.b4) 1;have g40:=blk_frozen CP.out.b4 0;have g41:=blk_frozen CP.out.b4 1))
  clear ST P RP D2 R2 B4 HB6 G8 B8 HB5 B3;refine bodyPost_ret (results_cell_row rfl _ _ g4 27 #[.slice (some ⟨gm2,0,none⟩) n c2, .slice A9 (n+1) c9] (0,0) _ rfl (blk_put (blk_put CP.out.b4 0 _ rfl) 1 _ rfl) Try.underlying27 rfl (by kernel_rfl)) rfl ?_
  have fin:=Cp.out (Q:=Q2++ [0]) (by rw [HL9.out];exact CP.out) (by rw [HL9.out];exact RQ.out) HG.out HL.out (by rw [HL9.out];omega);rw [HL9.out] at fin;exact⟨_,rfl,fin⟩
 have y3b:(y==3)=false:=by simpa using y3
 clear y3;obtain⟨x30,x31,f30,f31⟩:=c2_ B3;obtain⟨x40,x41,f40,f41⟩:=c2_ B4;go_wp2
 refine bodyPost_ret (results_cell_row rfl _ _ g4 27 #[.slice (some ⟨gm,0,none⟩) n c, .slice A n c1] (0,0) _ rfl (blk_put (blk_put B4.out 0 _ rfl) 1 _ rfl) Try.underlying27 rfl (by kernel_rfl)) rfl ?_
 have g4a:=G4.out;have hl:=HL.out;have hgg:=HG.out;have S4:=(ST.out.set HE.out g4 0 (.slice (some ⟨gm,0,none⟩) n c) g4a.1 (by omega)).set HE.out g4 1 (.slice A n c1) g4a.1 (by omega);have pl:=PL.out;have q1:g4≠gm:=by omega
 have q2: ∀j,j < n→g4≠b j:=fun j hj=>by have:=pl.2 j hj;omega
 exact⟨_,rfl, .inr ⟨gm,c,b,cp,A,c1,Q,by rw [HQ.out],⟨(P.out.dm.set q1 q2).set q1 q2,Kd.R_mono (Kd.R_far (Kd.R_far RP.out (p:=⟨g4,0,none⟩) (fun k hk=>by show k≠g4;have:=hk.2;omega) _) (p:=⟨g4,1,none⟩) (fun k hk=>by show k≠g4;have:=hk.2;omega) _) (fun k hk=>hk.1),P.out.ql⟩⟩,S4⟩
end Go.Proofs.Ytbjljcpngbhkeaa.Dr
end
section
namespace Go.Proofs.Ytbjljcpngbhkeaa.Dr
open Go.RowKit Wz.PrintWords Wz.PrintLast Wz.PrintMore Ma Pr Lq
def PbIs (w0 wE:World) (g lo n:Nat) (v:Value) (w':World):Prop:=(∃gm c b cp A c1 Q,v= .agg #[.slice (some ⟨gm,0,none⟩) n c, .slice A n c1]∧Q.length=n∧Pb w' g lo n gm c b cp A c1 Q)∧Stp w0 wE g w'
theorem Prb.is {w0 w w':World} {g n:Nat} {v:Value} (h:Prb w0 w g n v w'):PbIs w0 w g w.heap.size n v w':=by
 obtain⟨gm,c,b,cp,A,c1,Q,rfl,hQ,hD,hR,hS⟩:=h
 exact⟨⟨gm,c,b,cp,A,c1,Q,rfl,hQ,hD,by rw [hQ];exact hR,by omega,by omega⟩,hS⟩
theorem Pb.far {w:World} {g lo n gm c:Nat} {b cp:Nat→Nat} {A:Option Addr} {c1:Nat} {Q:List Int} (h:Pb w g lo n gm c b cp A c1 Q) {p:Nat} (hp:p < lo) (i:Nat) (u:Value):Pb (w.setCell ⟨p,i,none⟩ u) g lo n gm c b cp A c1 Q:=by
 have g0:=h.dm.g0
 refine⟨h.dm.set (by omega) (fun j hj=>by have:=(h.dm.rr j hj).1;omega),?_,h.ql⟩
 have r2:=Kd.R_mono (ok':=fun k=>(k≠g∧k≠gm∧ ∀j,j < n→k≠b j)∧k≠p) (Kd.R_tight rfl h.rq) (fun k hk=>⟨h.rq.1 k hk.symm,by have:=Kd.R_base h.rq k hk.symm;omega⟩)
 exact Kd.R_mono (Kd.R_far r2 (p:=⟨p,i,none⟩) (fun k hk=>hk.2) u) (fun k hk=>hk.1)
theorem Pb.down {w:World} {g lo lo2 n gm c:Nat} {b cp:Nat→Nat} {A:Option Addr} {c1:Nat} {Q:List Int} (h:Pb w g lo n gm c b cp A c1 Q) (hl:lo2≤lo):Pb w g lo2 n gm c b cp A c1 Q:=⟨h.dm.down hl,Kd.R_lower h.rq hl,h.ql⟩
theorem draw_c {w0 w:World} {g:Nat} (h:Srm w0 w g) (hB:Below w0.heap.size w0 w):Calls Try.prog 95 #[.pointer (some ⟨g,0,none⟩)] w fun e w'=> ∃n v,0 < n∧n≤5∧e= .returned v∧PbIs w0 w g w.heap.size n v w':=by
 have ST:=q_ (Stp.refl h hB);have HG:=q_ h.lt;have HE:=q_ hB.size;clear h hB
 go_enter Try.func95,Try.ntmps95
 go_wp2_with (first | ((with_reducible refine gate_dst (N:=2) rfl ?_);refine be_ 2 #[.slice none 0 0, .slice none 0 0] 27 ?_;intro g2 hg w2 hbox hb;have G2:=q_ (show w.heap.size≤g2 by rw [hg];exact Nat.le_refl _);have B2:=q_ hbox;replace ST:=q_ (ST.out.trans (Stp.of_below ST.out.src ST.out.below hb));clear hg hbox hb) | ((with_reducible refine gate_dst (N:=5) rfl ?_);refine Kd.R_lit (Kd.int .i64) _ 2 ?hg (N:=5) ?hd (xs:=([1,2,2,3,3,3,4,5]:List Int)) (inner:= [.int .i64 1, .int .i64 2, .int .i64 2, .int .i64 3, .int .i64 3, .int .i64 3, .int .i64 4, .int .i64 5]) (ok:=fun _=>True) (okp:=fun _=>True) ?hr ?hp (fun _ hk=>hk) trivial (Below.refl _ _) (Nat.le_refl _) (by simp) ?_;(case hd=>rfl);(case hg=>rfl);(case hr=>first | (go_simp;done) | (go_simp;rfl));(case hp=>exact lit_reps [1,2,2,3,3,3,4,5]);intro v5 w3 ho hb hg_ hnew_;obtain⟨g5,c5,rfl,hb5,hl5,_⟩:=Kd.R_form ho (by simp);have G5:=q_ (Nat.lt_of_lt_of_le ST.out.src.lt hb5);replace ST:=q_ (ST.out.trans (Stp.of_below ST.out.src ST.out.below hb));replace B2:=q_ (blk_below B2.out hb);have R5:=q_ ho;clear hg_ hnew_ ho hb hb5 hl5))
 refine(pick_c ST.out.src ST.out.below _ c5 [1,2,2,3,3,3,4,5] (Kd.R_reads' R5.out).2.2 (Kd.R_reads' R5.out).2.1 (fun ad e _=>by injection e with e;subst e;show g5≠g;have:=G5.out;omega) (by decide)).mono ?_
 rintro e w4 ⟨x,rfl,hx,hS⟩;obtain⟨n,rfl,hn1,hn5⟩: ∃n:Nat,x=(n:Int)∧0 < n∧n≤5:=by
  simp only [List.mem_cons,List.not_mem_nil,or_false] at hx;exact⟨x.toNat,by omega,by omega,by omega⟩
 have HN1:=q_ hn1;have HN5:=q_ hn5;replace ST:=q_ (ST.out.trans hS);replace B2:=q_ (hS.keep.blk B2.out (by have:=G2.out;have:=HG.out;omega) (by simp));clear hx hn1 hn5 hS R5 G5
 go_wp2_with fail
 refine(drawOf_c ST.out.src ST.out.below n HN5.out HN1.out).mono ?_
 rintro e w5 ⟨v,rfl,hP⟩;obtain⟨⟨gm,c,b,cp,A,c1,Q,rfl,hQ,hPb⟩,hS⟩:=hP.is;have L4:=q_ (blk_lt B2.out);have W4:=q_ ST.out.keep.1;replace ST:=q_ (ST.out.trans hS);replace B2:=q_ (hS.keep.blk B2.out (by have:=G2.out;have:=HG.out;omega) (by simp));have HQ:=q_ hQ;have P:=q_ hPb;obtain⟨x0,x1,f0,f1⟩:=c2_ B2;clear hP hQ hPb hS;go_wp2
 refine bodyPost_ret (results_cell_row rfl _ _ g2 27 #[.slice (some ⟨gm,0,none⟩) n c, .slice A n c1] (0,0) _ rfl (blk_put (blk_put B2.out 0 _ rfl) 1 _ rfl) Try.underlying27 rfl (by kernel_rfl)) rfl ?_
 have g2a:=G2.out;have hgg:=HG.out;exact⟨n,_,HN1.out,HN5.out,rfl,⟨gm,c,b,cp,A,c1,Q,rfl,HQ.out,((P.out.far L4.out 0 _).far L4.out 1 _).down W4.out⟩,(ST.out.set HE.out g2 0 _ g2a (by omega)).set HE.out g2 1 _ g2a (by omega)⟩
end Go.Proofs.Ytbjljcpngbhkeaa.Dr
end
section
namespace Go.Proofs.Ytbjljcpngbhkeaa.Dr
open Go.RowKit Wz.PrintWords Wz.PrintLast Wz.PrintMore Ma Pr Lq
theorem PbOut.two {w0 wE w:World} {g lo n:Nat} {v:Value} (h:PbOut w0 wE g lo n v w): ∃(A1 A2:Option Addr) (a b a2 b2:Nat),v= .agg #[.slice A1 a b, .slice A2 a2 b2]:=by
 rcases h.1 with h1 | ⟨gm,c,b,cp,A,c1,Q,h1,h3⟩
 ·exact⟨_,_,_,_,_,_,h1⟩
 ·exact⟨_,_,_,_,_,_,h1⟩
theorem spoil_c {w0 w:World} {g:Nat} (h:Srm w0 w g) (hB:Below w0.heap.size w0 w):Calls Try.prog 75 #[.pointer (some ⟨g,0,none⟩)] w fun e w'=> ∃n v,0 < n∧n≤5∧e= .returned v∧PbOut w0 w g w.heap.size n v w':=by
 have ST:=q_ (Stp.refl h hB);have HG:=q_ h.lt;have HE:=q_ hB.size;clear h hB
 go_enter Try.func75,Try.ntmps75
 go_wp2_with (first | ((with_reducible refine gate_dst (N:=2) rfl ?_);refine be_ 2 #[.slice none 0 0, .slice none 0 0] 27 ?_;intro g2 hg w2 hbox hb;have G2:=q_ (show w.heap.size≤g2 by rw [hg];exact Nat.le_refl _);have B2:=q_ hbox;replace ST:=q_ (ST.out.trans (Stp.of_below ST.out.src ST.out.below hb));clear hg hbox hb))
 refine(draw_c ST.out.src ST.out.below).mono ?_
 rintro e w3 ⟨n,v,hn0,hn5,rfl,⟨gm,c,b,cp,A,c1,Q,rfl,hQ,hP⟩,hS⟩;have LO:=q_ (show g2 < w2.heap.size∧w.heap.size≤w2.heap.size from ⟨blk_lt B2.out,ST.out.keep.1⟩);have P:=q_ hP;have HQ:=q_ hQ;have HN:=q_ hn5;have HN0:=q_ hn0;have LW:=q_ hS.keep.1;have GD:=q_ ST.out.src.lt;replace B2:=q_ (hS.keep.blk B2.out (by have:=G2.out;have:=HG.out;omega) (by simp));replace ST:=q_ (ST.out.trans hS);clear hS hP hQ hn0 hn5
 go_wp2_with fail
 refine(bad_c ST.out.src ST.out.below P.out HQ.out HN.out HN0.out GD.out LW.out).mono ?_
 rintro e w4 ⟨v,rfl,hO⟩;obtain⟨pA,pB,pa,pb,pc,pd,rfl⟩:=hO.two;replace B2:=q_ (hO.2.keep.blk B2.out (by have:=G2.out;have:=HG.out;omega) (by simp));replace ST:=q_ (ST.out.trans hO.2);have PO:=q_ hO;obtain⟨x0,x1,f0,f1⟩:=c2_ B2;clear hO P HQ;go_wp2
 refine bodyPost_ret (results_cell_row rfl _ _ g2 27 #[.slice pA pa pb, .slice pB pc pd] (0,0) _ rfl (blk_put (blk_put B2.out 0 _ rfl) 1 _ rfl) Try.underlying27 rfl (by kernel_rfl)) rfl ?_
 have g2a:=G2.out;have hgg:=HG.out;have lo:=LO.out.1;refine⟨n,_,HN0.out,HN.out,rfl,?_,(ST.out.set HE.out g2 0 _ g2a (by omega)).set HE.out g2 1 _ g2a (by omega)⟩
 rcases PO.out.1 with h1 | ⟨gm,c,b,cp,A,c1,Q,h1,h3⟩
 ·exact .inl h1
 ·exact .inr ⟨gm,c,b,cp,A,c1,Q,h1,((h3.far lo 0 _).far lo 1 _).down LO.out.2⟩
end Go.Proofs.Ytbjljcpngbhkeaa.Dr
end
section
namespace Go.Proofs.Ytbjljcpngbhkeaa.Dr
open Go.RowKit Wz.PrintWords Wz.PrintLast Wz.PrintMore Ma Pr Lq
def Rd (w:World) (v:Value) (M:List (List Int)) (Q:List Int):Prop:= ∃A1 c1 A2 c2,v= .agg #[.slice A1 M.length c1, .slice A2 Q.length c2]∧Kd.C (Kd.slice 2 (Kd.int .i64)) w A1 M.length M∧M.length≤c1∧Kd.C (Kd.int .i64) w A2 Q.length Q∧Q.length≤c2
def PbD (lo n:Nat) (v:Value) (w:World):Prop:=v= .agg #[.slice none 0 0, .slice none 0 0]∨ ∃gm c b cp A c1 Q,v= .agg #[.slice (some ⟨gm,0,none⟩) n c, .slice A (List.length Q) c1]∧Dm w lo gm n c b cp∧Kd.R (Kd.int .i64) 2 w lo (fun k=>k≠gm∧ ∀j,j < n→k≠b j) (.slice A Q.length c1) Q∧n≤Q.length∧Q.length≤n+1
theorem PbOut.d {w0 wE w:World} {g lo n:Nat} {v:Value} (h:PbOut w0 wE g lo n v w):PbD lo n v w:=by
 rcases h.1 with h1 | ⟨gm,c,b,cp,A,c1,Q,h1,h3⟩
 ·exact .inl h1
 ·exact .inr ⟨gm,c,b,cp,A,c1,Q,h1,h3.dm,Kd.R_mono h3.rq (fun k hk=>hk.2),h3.ql⟩
theorem PbD.down {lo lo2 n:Nat} {v:Value} {w:World} (h:PbD lo n v w) (hl:lo2≤lo):PbD lo2 n v w:=by
 rcases h with h1 | ⟨gm,c,b,cp,A,c1,Q,h1,h2,h3,h4⟩
 ·exact .inl h1
 ·exact .inr ⟨gm,c,b,cp,A,c1,Q,h1,h2.down hl,Kd.R_lower h3 hl,h4⟩
theorem PbD.far {lo n:Nat} {v:Value} {w:World} (h:PbD lo n v w) {p:Nat} (hp:p < lo) (i:Nat) (u:Value):PbD lo n v (w.setCell ⟨p,i,none⟩ u):=by
 rcases h with h1 | ⟨gm,c,b,cp,A,c1,Q,h1,h2,h3,h4⟩
 ·exact .inl h1
 ·refine .inr ⟨gm,c,b,cp,A,c1,Q,h1,h2.set (by have:=h2.g0;omega) (fun j hj=>by have:=(h2.rr j hj).1;omega),?_,h4⟩
  exact Kd.R_mono (Kd.R_far (p:=⟨p,i,none⟩) (Kd.R_mono (Kd.R_tight rfl h3) (fun k hk=>(⟨Kd.R_base h3 k hk.symm,h3.1 k hk.symm⟩:lo≤k∧_))) (fun k hk=>by show k≠p;have:=hk.1;omega) u) (fun k hk=>hk.2)
theorem PbD.pair {lo n:Nat} {v:Value} {w:World} (h:PbD lo n v w): ∃(A1 A2:Option Addr) (a b a2 b2:Nat),v= .agg #[.slice A1 a b, .slice A2 a2 b2]:=by
 rcases h with h1 | ⟨gm,c,b,cp,A,c1,Q,h1,h3⟩
 ·exact⟨_,_,_,_,_,_,h1⟩
 ·exact⟨_,_,_,_,_,_,h1⟩
theorem PbD.rd {lo n:Nat} {v:Value} {w:World} (h:PbD lo n v w) (hn:n≤5): ∃M Q,Rd w v M Q∧M.length≤5∧Q.length≤6:=by
 rcases h with h1 | ⟨gm,c,b,cp,A,c1,Q,h1,h2,h3,h4⟩
 ·exact⟨[], [],⟨none,0,none,0,h1,Kd.C_nil _ _,Nat.le_refl _,Kd.C_nil _ _,Nat.le_refl _⟩,by simp,by simp⟩
 ·obtain⟨M,m1,m2,m3⟩:=h2.C (by omega)
  obtain⟨q1,q2,q3⟩:=Kd.R_reads' h3
  exact⟨M,Q,⟨_,c,A,c1,by rw [h1,m1],m3,by rw [m1];exact h2.cap,q3,q2⟩,by omega,by omega⟩
theorem PbOut.mv {w0 wE w w1:World} {g lo n:Nat} {v:Value} (h:PbOut w0 wE g lo n v w) (hS:Stp w0 w g w1) (hg:g < lo):PbOut w0 wE g lo n v w1:=by
 obtain⟨h1,h2⟩:=h
 rcases h1 with h1 | ⟨gm,c,b,cp,A,c1,Q,h1,h3⟩
 ·exact⟨.inl h1,h2.trans hS⟩
 ·exact⟨.inr ⟨gm,c,b,cp,A,c1,Q,h1,h3.mv hS hg⟩,h2.trans hS⟩
theorem Stp.drew {w0 w wE:World} {g:Nat} (h:Stp w0 wE g w):Stp w0 wE g w.drew:=h.trans (Stp.of_below h.src h.below (below_drew1 (Below.refl _ _)))
theorem Dm.below {w w':World} {lo gm n c:Nat} {b cp:Nat→Nat} (h:Dm w lo gm n c b cp) (hb:Below w.heap.size w w'):Dm w' lo gm n c b cp:=by
 have h0:=h.g0
 have hk:=KeepBut.of_below hb w.heap.size none
 refine⟨⟨h0.1,Nat.lt_of_lt_of_le h0.2 hk.1⟩,h.cap,fun j hj=>keep_cell hk (h.row j hj) (by show gm≠_;omega),fun j hj=>?_,fun j k hj hk'=>?_⟩
 ·have:=h.rr j hj
  exact⟨this.1,Nat.lt_of_lt_of_le this.2.1 hk.1,this.2.2⟩
 ·have hr:=h.rr j hj
  obtain⟨⟨x,hx⟩,hf⟩:=h.ints j k hj hk'
  exact⟨⟨x,keep_cell hk hx (by show b j≠_;omega)⟩,(keep_froz hk (by show b j < _;omega) (by show b j≠_;omega)).trans hf⟩
theorem PbD.below {lo n:Nat} {v:Value} {w w':World} (h:PbD lo n v w) (hb:Below w.heap.size w w'):PbD lo n v w':=by
 rcases h with h1 | ⟨gm,c,b,cp,A,c1,Q,h1,h2,h3,h4⟩
 ·exact .inl h1
 ·exact .inr ⟨gm,c,b,cp,A,c1,Q,h1,h2.below hb,Kd.R_below h3 hb,h4⟩
end Go.Proofs.Ytbjljcpngbhkeaa.Dr
end
