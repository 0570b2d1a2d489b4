/- Texts of one claim (the words of the kit's print that the claim uses, printed functions, and this session's own texts), joined in the order of their imports by this session's own program (merge.py). -/
import Derived.Test.YthmfdplckdijdaaGreatJnFnCubeWalks0
import Derived.Test.YthmfdplckdijdaaGreatJnFnCubeWalks1
import Derived.Test.YthmfdplckdijdaaGreatJnFnCubeWalks2
import Derived.Test.YthmfdplckdijdaaGreatJnFnCubeWalks3
set_option linter.unusedVariables false
set_option linter.unusedSimpArgs false
set_option maxHeartbeats 8000000
set_option maxRecDepth 100000
section
namespace Go.Proofs.YthmfdplckdijdaaGreat.Pr
open Go.RowKit Go.Proofs.YthmfdplckdijdaaGreatW.PrintWords Go.Proofs.YthmfdplckdijdaaGreatW.PrintLast Go.Proofs.YthmfdplckdijdaaGreatW.PrintMore
attribute [local go_sem] max2_int min2_int max_two min_two max_three min_three max_four min_four
mutual
def spec_l06DrawOf.l0:Nat→Int→Int→List Int→Int→Int→Int→List Int→Option (Int × List Int × Int × Int)
 | 0,_,_,_,_,_,_,_=>none
 | k+1,x1,x6,af,ag,ah,ae,aa=>if x6 < (aa.length:Int) then(spec_l06DrawOf.l1 k x1 x6 0 af ag ah ae aa) else(some (ae,aa,ag,ah))
def spec_l06DrawOf.l1:Nat→Int→Int→Int→List Int→Int→Int→Int→List Int→Option (Int × List Int × Int × Int)
 | 0,_,_,_,_,_,_,_,_=>none
 | k+1,x1,x6,x7,af,ag,ah,ae,aa=>if x7 < x1 then(if 0≤(IntKind.u64.wrap (x7)) then(if(Go.bits .and .i64 x6 (shl .i64 1 (IntKind.u64.wrap (x7))))=0 then((spec_l01Next.f af ag ah 2).bind fun ak=>(if ak.1=0 then(if 0≤x6 then(if x6 < (aa.length:Int) then(spec_l06DrawOf.l1 k x1 x6 (wrap64 (x7+1)) af ak.2.1 ak.2.2 ae (aa.set (x6:Int).toNat (Go.bits .or .i64 (rd aa x6) (shl .i64 1 (IntKind.u64.wrap (x7)))))) else(none)) else(none)) else(if 0≤(Go.bits .or .i64 x6 (shl .i64 1 (IntKind.u64.wrap (x7)))) then(if(Go.bits .or .i64 x6 (shl .i64 1 (IntKind.u64.wrap (x7)))) < (aa.length:Int) then(spec_l06DrawOf.l1 k x1 x6 (wrap64 (x7+1)) af ak.2.1 ak.2.2 ae (aa.set ((Go.bits .or .i64 x6 (shl .i64 1 (IntKind.u64.wrap (x7)))):Int).toNat (Go.bits .or .i64 (rd aa (Go.bits .or .i64 x6 (shl .i64 1 (IntKind.u64.wrap (x7))))) (shl .i64 1 (IntKind.u64.wrap (x7)))))) else(none)) else(none)))) else(spec_l06DrawOf.l1 k x1 x6 (wrap64 (x7+1)) af ag ah ae aa)) else(none)) else(spec_l06DrawOf.l0 k x1 (wrap64 (x6+1)) af ag ah ae aa)
def spec_l06DrawOf.l2:Nat→Int→Int→List Int→Int→Int→Int→List Int→Option (Int × List Int × Int × Int)
 | 0,_,_,_,_,_,_,_=>none
 | k+1,x1,x9,af,ag,ah,ae,aa=>if x9 < (aa.length:Int) then(spec_l06DrawOf.l3 k x1 x9 0 af ag ah ae aa) else(some (ae,aa,ag,ah))
def spec_l06DrawOf.l3:Nat→Int→Int→Int→List Int→Int→Int→Int→List Int→Option (Int × List Int × Int × Int)
 | 0,_,_,_,_,_,_,_,_=>none
 | k+1,x1,x9,x10,af,ag,ah,ae,aa=>if x10 < x1 then(if 0≤(IntKind.u64.wrap (x10)) then((spec_l01Ones.f k (shr .i64 x9 (IntKind.u64.wrap (x10)))).bind fun av=>(if(Int.tmod av 2)=0 then(if 0≤x9 then(if x9 < (aa.length:Int) then(spec_l06DrawOf.l3 k x1 x9 (wrap64 (x10+1)) af ag ah ae (aa.set (x9:Int).toNat (Go.bits .or .i64 (rd aa x9) (shl .i64 1 (IntKind.u64.wrap (x10)))))) else(none)) else(none)) else(spec_l06DrawOf.l3 k x1 x9 (wrap64 (x10+1)) af ag ah ae aa))) else(none)) else(spec_l06DrawOf.l2 k x1 (wrap64 (x9+1)) af ag ah ae aa)
def spec_l06DrawOf.l4:Nat→Int→Int→Int→List Int→Int→Int→Int→List Int→Option (Int × List Int × Int × Int)
 | 0,_,_,_,_,_,_,_,_=>none
 | k+1,x1,x11,x12,af,ag,ah,ae,aa=>if x12 < (aa.length:Int) then(if 0≤x12 then(spec_l06DrawOf.l4 k x1 x11 (wrap64 (x12+1)) af ag ah ae (aa.set (x12:Int).toNat (Go.bits .xor .i64 x12 x11))) else(none)) else((spec_l01Next.f af ag ah 4).bind fun aq=>(spec_l06DrawOf.l5 k x1 aq.1 af aq.2.1 aq.2.2 ae aa))
def spec_l06DrawOf.l5:Nat→Int→Int→List Int→Int→Int→Int→List Int→Option (Int × List Int × Int × Int)
 | 0,_,_,_,_,_,_,_=>none
 | k+1,x1,x13,af,ag,ah,ae,aa=>if x13 > 0 then((spec_l01Next.f af ag ah (aa.length:Int)).bind fun ai=>((spec_l01Next.f af ai.2.1 ai.2.2 x1).bind fun aj=>(if 0≤(IntKind.u64.wrap (aj.1)) then(if 0≤ai.1 then(if ai.1 < (aa.length:Int) then((some (aa.set (ai.1:Int).toNat (Go.bits .xor .i64 (rd aa ai.1) (shl .i64 1 (IntKind.u64.wrap (aj.1)))):List Int)).bind fun au=>(if 0≤(Go.bits .xor .i64 ai.1 (shl .i64 1 (IntKind.u64.wrap (aj.1)))) then(if(Go.bits .xor .i64 ai.1 (shl .i64 1 (IntKind.u64.wrap (aj.1)))) < (aa.length:Int) then(spec_l06DrawOf.l5 k x1 (wrap64 (x13 - 1)) af aj.2.1 aj.2.2 ae (au.set ((Go.bits .xor .i64 ai.1 (shl .i64 1 (IntKind.u64.wrap (aj.1)))):Int).toNat (Go.bits .xor .i64 (rd au (Go.bits .xor .i64 ai.1 (shl .i64 1 (IntKind.u64.wrap (aj.1))))) (shl .i64 1 (IntKind.u64.wrap (aj.1)))))) else(none)) else(none))) else(none)) else(none)) else(none)))) else(some (ae,aa,ag,ah))
end
def spec_l06DrawOf.f (k:Nat) (s0_0:List Int) (s0_1:Int) (s0_2:Int) (a1:Int):Option (Int × List Int × Int × Int):=if 0≤(IntKind.u64.wrap (a1)) then(if 0≤(shl .i64 1 (IntKind.u64.wrap (a1))) then(if(shl .i64 1 (IntKind.u64.wrap (a1)):Int).toNat≤35184372088832 then((some (List.replicate (shl .i64 1 (IntKind.u64.wrap (a1)):Int).toNat 0:List Int)).bind fun ae=>((spec_l01Next.f s0_0 s0_1 s0_2 4).bind fun aa=>(if aa.1=0 then(spec_l06DrawOf.l0 k a1 0 s0_0 aa.2.1 aa.2.2 a1 ae) else(if aa.1=1 then(spec_l06DrawOf.l2 k a1 0 s0_0 aa.2.1 aa.2.2 a1 ae) else((spec_l01Next.f s0_0 aa.2.1 aa.2.2 (ae.length:Int)).bind fun af=>(spec_l06DrawOf.l4 k a1 af.1 0 s0_0 af.2.1 af.2.2 a1 ae)))))) else(none)) else(none)) else(none)
theorem spec_l06DrawOf.mono_l: ∀k,(∀y0 y1 y2 y3 y4 y5 y6,LeO (spec_l06DrawOf.l0 k y0 y1 y2 y3 y4 y5 y6) (spec_l06DrawOf.l0 (k+1) y0 y1 y2 y3 y4 y5 y6))∧(∀y0 y1 y2 y3 y4 y5 y6 y7,LeO (spec_l06DrawOf.l1 k y0 y1 y2 y3 y4 y5 y6 y7) (spec_l06DrawOf.l1 (k+1) y0 y1 y2 y3 y4 y5 y6 y7))∧(∀y0 y1 y2 y3 y4 y5 y6,LeO (spec_l06DrawOf.l2 k y0 y1 y2 y3 y4 y5 y6) (spec_l06DrawOf.l2 (k+1) y0 y1 y2 y3 y4 y5 y6))∧(∀y0 y1 y2 y3 y4 y5 y6 y7,LeO (spec_l06DrawOf.l3 k y0 y1 y2 y3 y4 y5 y6 y7) (spec_l06DrawOf.l3 (k+1) y0 y1 y2 y3 y4 y5 y6 y7))∧(∀y0 y1 y2 y3 y4 y5 y6 y7,LeO (spec_l06DrawOf.l4 k y0 y1 y2 y3 y4 y5 y6 y7) (spec_l06DrawOf.l4 (k+1) y0 y1 y2 y3 y4 y5 y6 y7))∧(∀y0 y1 y2 y3 y4 y5 y6,LeO (spec_l06DrawOf.l5 k y0 y1 y2 y3 y4 y5 y6) (spec_l06DrawOf.l5 (k+1) y0 y1 y2 y3 y4 y5 y6))
 | 0=>⟨fun _ _ _ _ _ _ _ r h=>by simp [spec_l06DrawOf.l0] at h,fun _ _ _ _ _ _ _ _ r h=>by simp [spec_l06DrawOf.l1] at h,fun _ _ _ _ _ _ _ r h=>by simp [spec_l06DrawOf.l2] at h,fun _ _ _ _ _ _ _ _ r h=>by simp [spec_l06DrawOf.l3] at h,fun _ _ _ _ _ _ _ _ r h=>by simp [spec_l06DrawOf.l4] at h,fun _ _ _ _ _ _ _ r h=>by simp [spec_l06DrawOf.l5] at h⟩
 | k+1=>by
  obtain⟨ih0,ih1,ih2,ih3,ih4,ih5⟩:=spec_l06DrawOf.mono_l k
  refine⟨?_,?_,?_,?_,?_,?_⟩<;>intros<;>(first | unfold spec_l06DrawOf.l0 | unfold spec_l06DrawOf.l1 | unfold spec_l06DrawOf.l2 | unfold spec_l06DrawOf.l3 | unfold spec_l06DrawOf.l4 | unfold spec_l06DrawOf.l5)<;>(repeat' first | (with_reducible first | exact ih0 _ _ _ _ _ _ _ | exact ih1 _ _ _ _ _ _ _ _ | exact ih2 _ _ _ _ _ _ _ | exact ih3 _ _ _ _ _ _ _ _ | exact ih4 _ _ _ _ _ _ _ _ | exact ih5 _ _ _ _ _ _ _ | exact spec_l01Ones.mono _ _ | exact LeO.refl _ | exact LeO.none _ | refine LeO.ite ?_ ?_ | refine LeO.bind ?_ (fun _=>?_)) | exact ih0 _ _ _ _ _ _ _ | exact ih1 _ _ _ _ _ _ _ _ | exact ih2 _ _ _ _ _ _ _ | exact ih3 _ _ _ _ _ _ _ _ | exact ih4 _ _ _ _ _ _ _ _ | exact ih5 _ _ _ _ _ _ _ | exact spec_l01Ones.mono _ _ | exact LeO.none _ | refine LeO.ite ?_ ?_ | refine LeO.bind ?_ (fun _=>?_))
theorem spec_l06DrawOf.mono: ∀a0 a1 a2 a3 k,LeO (spec_l06DrawOf.f k a0 a1 a2 a3) (spec_l06DrawOf.f (k+1) a0 a1 a2 a3):=by
 intro a0 a1 a2 a3 k
 obtain⟨ih0,ih1,ih2,ih3,ih4,ih5⟩:=spec_l06DrawOf.mono_l k
 unfold spec_l06DrawOf.f
 repeat' first | (with_reducible first | exact ih0 _ _ _ _ _ _ _ | exact ih1 _ _ _ _ _ _ _ _ | exact ih2 _ _ _ _ _ _ _ | exact ih3 _ _ _ _ _ _ _ _ | exact ih4 _ _ _ _ _ _ _ _ | exact ih5 _ _ _ _ _ _ _ | exact spec_l01Ones.mono _ _ | exact LeO.refl _ | exact LeO.none _ | refine LeO.ite ?_ ?_ | refine LeO.bind ?_ (fun _=>?_)) | exact ih0 _ _ _ _ _ _ _ | exact ih1 _ _ _ _ _ _ _ _ | exact ih2 _ _ _ _ _ _ _ | exact ih3 _ _ _ _ _ _ _ _ | exact ih4 _ _ _ _ _ _ _ _ | exact ih5 _ _ _ _ _ _ _ | exact spec_l01Ones.mono _ _ | exact LeO.none _ | refine LeO.ite ?_ ?_ | refine LeO.bind ?_ (fun _=>?_)
def spec_l06DrawOf.T12:Bool × List (List Nat × List Nat):=(true, [([], []),([0], [0]),([], []),([], []),([3], [3]),([], []),([4,5], [4,5]),([6], [6]),([], []),([7,8], [7,8]),([1,2,0,1,2,3,4,5,6,7,8,9], [1,2]),([10,9,0,1,2,3,4,5,6,7,8,9], [9,10])])
def spec_l06DrawOf.B12:List Nat:= [0,1,0,0,8,0,56,120,0,504,1023,2047]
theorem spec_l06DrawOf.tab12:rtab .any (opsOf Tryz.f128 12)=spec_l06DrawOf.T12:=by kernel_rfl
theorem spec_l06DrawOf.bits12:waitsOk spec_l06DrawOf.T12.2 spec_l06DrawOf.B12=true:=by kernel_rfl
def spec_l06DrawOf.T13:Bool × List (List Nat × List Nat):=(true, [([], []),([0], [0]),([], []),([], []),([2,3], [2,3]),([], []),([5], [5]),([], []),([], []),([7,8], [7,8]),([6,9], [6,9]),([10], [10]),([], []),([11,12], [11,12]),([1,4,0,1,2,3,4,5,6,7,8,9,10,11,12,13], [1,4]),([14,13,0,1,2,3,4,5,6,7,8,9,10,11,12,13], [13,14])])
def spec_l06DrawOf.B13:List Nat:= [0,1,0,0,12,0,32,0,0,384,992,2016,0,8160,16383,32767]
theorem spec_l06DrawOf.tab13:rtab .any (opsOf Tryz.f128 13)=spec_l06DrawOf.T13:=by kernel_rfl
theorem spec_l06DrawOf.bits13:waitsOk spec_l06DrawOf.T13.2 spec_l06DrawOf.B13=true:=by kernel_rfl
def spec_l06DrawOf.T24:Bool × List (List Nat × List Nat):=(true, [([], []),([0], [0]),([], []),([], []),([3], [3]),([], []),([4,5], [4,5]),([6], [6]),([], []),([7,8], [7,8]),([1,2,0,1,2,3,4,5,6,7,8,9], [1,2]),([10,9,0,1,2,3,4,5,6,7,8,9], [9,10])])
def spec_l06DrawOf.B24:List Nat:= [0,1,0,0,8,0,56,120,0,504,1023,2047]
theorem spec_l06DrawOf.tab24:rtab .any (opsOf Tryz.f128 24)=spec_l06DrawOf.T24:=by kernel_rfl
theorem spec_l06DrawOf.bits24:waitsOk spec_l06DrawOf.T24.2 spec_l06DrawOf.B24=true:=by kernel_rfl
def spec_l06DrawOf.T25:Bool × List (List Nat × List Nat):=(true, [([], []),([0], [0]),([], []),([], []),([2,3], [2,3]),([], []),([5], [5]),([], []),([], []),([7,8], [7,8]),([6,9], [6,9]),([10], [10]),([], []),([11,12], [11,12]),([1,4,0,1,2,3,4,5,6,7,8,9,10,11,12,13], [1,4]),([14,13,0,1,2,3,4,5,6,7,8,9,10,11,12,13], [13,14])])
def spec_l06DrawOf.B25:List Nat:= [0,1,0,0,12,0,32,0,0,384,992,2016,0,8160,16383,32767]
theorem spec_l06DrawOf.tab25:rtab .any (opsOf Tryz.f128 25)=spec_l06DrawOf.T25:=by kernel_rfl
theorem spec_l06DrawOf.bits25:waitsOk spec_l06DrawOf.T25.2 spec_l06DrawOf.B25=true:=by kernel_rfl
def spec_l06DrawOf.T34:Bool × List (List Nat × List Nat):=(true, [([], []),([0], [0]),([], []),([], []),([3], [3]),([], []),([4,5], [4,5]),([6], [6]),([], []),([8], [8]),([9], [9]),([7,10], [7,10]),([1,2,0,1,2,3,4,5,6,7,8,9,10,11], [1,2]),([12,11,0,1,2,3,4,5,6,7,8,9,10,11], [11,12])])
def spec_l06DrawOf.B34:List Nat:= [0,1,0,0,8,0,56,120,0,256,768,2040,4095,8191]
theorem spec_l06DrawOf.tab34:rtab .any (opsOf Tryz.f128 34)=spec_l06DrawOf.T34:=by kernel_rfl
theorem spec_l06DrawOf.bits34:waitsOk spec_l06DrawOf.T34.2 spec_l06DrawOf.B34=true:=by kernel_rfl
theorem spec_l06DrawOf.calls (k:Nat) (g:Nat) (s0_0:List Int) (s0_1:Int) (s0_2:Int) (a1:Int) (r1:Int) (r2:List Int) (r3:Int) (r4:Int) (w0 w:World) (hI:IsS122 w0 w g s0_0 s0_1 s0_2) (hB:Below w0.heap.size w0 w) (h:spec_l06DrawOf.f k s0_0 s0_1 s0_2 a1=some (r1,r2,r3,r4)):
  Calls Tryz.prog 128 #[.pointer (some ⟨g,0,none⟩), .int .i64 a1] w fun e w'=> ∃v1_:Value,e= .returned (.agg #[.int .i64 r1,v1_])∧Kd.R (Kd.int .i64) 2 w' w.heap.size (fun _=>True) v1_ r2∧IsS122 w0 w' g s0_0 r3 r4∧Below w0.heap.size w0 w'∧KeepBut w w' g none:=by
 have hu26:=Tryz.underlying26;have HI0:=q_ hI;have HK:=q_ (KeepBut.refl w g none);have HL:=q_ hB.size;clear hI;have HW0:=q_ hB.size;have HB:=q_ hB;clear hB;have H:(if 0≤(IntKind.u64.wrap (a1)) then(if 0≤(shl .i64 1 (IntKind.u64.wrap (a1))) then(if(shl .i64 1 (IntKind.u64.wrap (a1)):Int).toNat≤35184372088832 then((some (List.replicate (shl .i64 1 (IntKind.u64.wrap (a1)):Int).toNat 0:List Int)).bind fun aG=>((spec_l01Next.f s0_0 s0_1 s0_2 4).bind fun aA=>(if aA.1=0 then(spec_l06DrawOf.l0 k a1 0 s0_0 aA.2.1 aA.2.2 a1 aG) else(if aA.1=1 then(spec_l06DrawOf.l2 k a1 0 s0_0 aA.2.1 aA.2.2 a1 aG) else((spec_l01Next.f s0_0 aA.2.1 aA.2.2 (aG.length:Int)).bind fun aT=>(spec_l06DrawOf.l4 k a1 aT.1 0 s0_0 aT.2.1 aT.2.2 a1 aG)))))) else(none)) else(none)) else(none))=some (r1,r2,r3,r4):=h;clear h;obtain⟨ji3,hji3⟩: ∃j_:Int,(IntKind.u64.wrap (a1))=j_:=⟨_,rfl⟩
 replace H:(if 0≤(ji3) then(if 0≤(shl .i64 1 (ji3)) then(if(shl .i64 1 (ji3):Int).toNat≤35184372088832 then((some (List.replicate (shl .i64 1 (ji3):Int).toNat 0:List Int)).bind fun aG=>((spec_l01Next.f s0_0 s0_1 s0_2 4).bind fun aA=>(if aA.1=0 then(spec_l06DrawOf.l0 k a1 0 s0_0 aA.2.1 aA.2.2 a1 aG) else(if aA.1=1 then(spec_l06DrawOf.l2 k a1 0 s0_0 aA.2.1 aA.2.2 a1 aG) else((spec_l01Next.f s0_0 aA.2.1 aA.2.2 (aG.length:Int)).bind fun aT=>(spec_l06DrawOf.l4 k a1 aT.1 0 s0_0 aT.2.1 aT.2.2 a1 aG)))))) else(none)) else(none)) else(none))=some (r1,r2,r3,r4):=by first | (rw [hji3] at H;exact H) | (simp only [hji3] at H ⊢;exact H)
 by_cases c4:0≤(ji3)
 ·rw [if_pos c4] at H;have c4b0:=eq_true c4;have c4b1:=decide_eq_true c4;clear c4;obtain⟨ji5,hji5⟩: ∃j_:Int,(shl .i64 1 (ji3))=j_:=⟨_,rfl⟩
  replace H:(if 0≤(ji5) then(if(ji5:Int).toNat≤35184372088832 then((some (List.replicate (ji5:Int).toNat 0:List Int)).bind fun aG=>((spec_l01Next.f s0_0 s0_1 s0_2 4).bind fun aA=>(if aA.1=0 then(spec_l06DrawOf.l0 k a1 0 s0_0 aA.2.1 aA.2.2 a1 aG) else(if aA.1=1 then(spec_l06DrawOf.l2 k a1 0 s0_0 aA.2.1 aA.2.2 a1 aG) else((spec_l01Next.f s0_0 aA.2.1 aA.2.2 (aG.length:Int)).bind fun aT=>(spec_l06DrawOf.l4 k a1 aT.1 0 s0_0 aT.2.1 aT.2.2 a1 aG)))))) else(none)) else(none))=some (r1,r2,r3,r4):=by first | (rw [hji5] at H;exact H) | (simp only [hji5] at H ⊢;exact H)
  have hji5_:=s1_ hji5;have hji5z:=s2_ hji5;have hji5u:=s3_ hji5;have hji5v:=s4_ hji5;have hji5y:=s5_ hji5;have hji5x:=s6_ hji5
  by_cases c6:0≤(ji5)
  ·rw [if_pos c6] at H;have c6b0:=eq_true c6;have c6b1:=decide_eq_true c6;clear c6
   by_cases c7:(ji5:Int).toNat≤35184372088832
   ·rw [if_pos c7] at H;have c7b0:=eq_true c7;have c7b1:=decide_eq_true c7;clear c7;obtain⟨aG,hy⟩: ∃y_:List Int,y_=(List.replicate (ji5:Int).toNat 0):=⟨_,rfl⟩
    replace H:((spec_l01Next.f s0_0 s0_1 s0_2 4).bind fun aA=>(if aA.1=0 then(spec_l06DrawOf.l0 k a1 0 s0_0 aA.2.1 aA.2.2 a1 aG) else(if aA.1=1 then(spec_l06DrawOf.l2 k a1 0 s0_0 aA.2.1 aA.2.2 a1 aG) else((spec_l01Next.f s0_0 aA.2.1 aA.2.2 (aG.length:Int)).bind fun aT=>(spec_l06DrawOf.l4 k a1 aT.1 0 s0_0 aT.2.1 aT.2.2 a1 aG)))))=some (r1,r2,r3,r4):=hh_;have bL:=q_ hy;clear hy;replace H:=Option.bind_eq_some_iff.mp H;obtain⟨⟨bg,aV,aW⟩,A80,H⟩:=H;replace H:(if bg=0 then(spec_l06DrawOf.l0 k a1 0 s0_0 aV aW a1 aG) else(if bg=1 then(spec_l06DrawOf.l2 k a1 0 s0_0 aV aW a1 aG) else((spec_l01Next.f s0_0 aV aW (aG.length:Int)).bind fun aT=>(spec_l06DrawOf.l4 k a1 aT.1 0 s0_0 aT.2.1 aT.2.2 a1 aG))))=some (r1,r2,r3,r4):=H;have A8:=q_ A80;clear A80
    by_cases c9:bg=0
    ·rw [if_pos c9] at H;have c9b0:=e1_ c9;have c9b1:=e2_ c9;clear c9;have H':=q_ H;clear H
     go_enter Tryz.func128,Tryz.ntmps128
     go_wp2_with (first | ((with_reducible refine gate_dst (N:=4) rfl ?_);refine be_ 4 #[.int .i64 0, .slice none 0 0] 26 ?_;intro av hg w10 hbox hb;replace HB:=q_ (below_step hj_ hb);have ag:=q_ (hbox);have ax:=q_ ((by rw [hg];exact(keep_size (w:=w) (g:=g) (row:=none) hk_):w.heap.size≤av));have az:=q_ ((Nat.le_trans HW0.out (by rw [hg];exact(keep_size (w:=w) (g:=g) (row:=none) hk_):w.heap.size≤av):w0.heap.size≤av));have ai:=q_ ((by rw [hg];exact Nat.ne_of_lt (IsS122.lt (show IsS122 w0 _ g s0_0 s0_1 s0_2 from hi_)):g≠av));have aQ:=q_ ((by rw [hg];exact Nat.ne_of_gt (IsS122.lt (show IsS122 w0 _ g s0_0 s0_1 s0_2 from hi_)):av≠g));replace HI0:=q_ (IsS122.below hi_ hb);replace HK:=q_ (KeepBut.trans hk_ (KeepBut.of_below hb g none) (.inl rfl));clear hb hbox hg) | ((with_reducible refine gate_dst (N:=20) rfl ?_);refine Kd.R_make (Kd.int .i64) _ 2 rfl (N:=20) rfl 24 _ _ rfl ji5 rfl rfl Tryz.underlying24 (.int .i64 0) 8 info2 rfl (by decide) (by omega) 0 (ok:=fun _=>True) (okp:=fun _=>True) rfl (fun _ hk=>hk) trivial od_ (Nat.le_trans (Nat.mul_le_mul_right _ (od_:ji5.toNat≤35184372088832)) (by omega)) (Below.refl _ _) (Nat.le_refl _) ?_;intro ed w11 cG hb hg_ hnew_;clear hg_ hnew_;(first | rw [← bL.out] at cG | (simp only [Int.reduceToNat] at cG;rw [← bL.out] at cG));have aN:=q_ (Kd.R_lower cG (keep_size (w:=w) (g:=g) (row:=none) hk_));replace ag:=q_ (bb_ ag.out hb);replace HB:=q_ (below_step hj_ hb);replace HI0:=q_ (IsS122.below hi_ hb);replace HK:=q_ (KeepBut.trans hk_ (KeepBut.of_below hb g none) (.inl rfl));clear hb cG;obtain⟨dw,dx,fp⟩:=Kd.R_slice aN.out;subst fp) | ((with_reducible refine gate_dst (N:=5) rfl ?_);refine be_ 5 #[.int .i64 0, .slice none 0 0] 26 ?_;intro ah hg w14 hbox hb;replace aN:=q_ (rb_ aN.out hb);replace HB:=q_ (below_step hj_ hb);have af:=q_ (hbox);have aD:=q_ ((by rw [hg];exact(keep_size (w:=w) (g:=g) (row:=none) hk_):w.heap.size≤ah));have aI:=q_ ((Nat.le_trans HW0.out (by rw [hg];exact(keep_size (w:=w) (g:=g) (row:=none) hk_):w.heap.size≤ah):w0.heap.size≤ah));have aC:=q_ ((by rw [hg];exact lt_ ag.out:av≠ah));have aM:=q_ ((by rw [hg];exact gt_ ag.out:ah≠av));have aj:=q_ ((by rw [hg];exact Nat.ne_of_lt (IsS122.lt (show IsS122 w0 _ g s0_0 s0_1 s0_2 from hi_)):g≠ah));have aH:=q_ ((by rw [hg];exact Nat.ne_of_gt (IsS122.lt (show IsS122 w0 _ g s0_0 s0_1 s0_2 from hi_)):ah≠g));replace HI0:=q_ (IsS122.below hi_ hb);replace ag:=q_ (bb_ ag.out hb);replace HK:=q_ (KeepBut.trans hk_ (KeepBut.of_below hb g none) (.inl rfl));clear hb hbox hg;have gB:=aM.out;have gC:=aC.out;have gF:=aH.out;have gG:=aj.out;have bq:=cz_ af 0;have bu:=cz_ af 1;have bv:=blk_frozen af.out 0;have bw:=blk_frozen af.out 1) | ((with_reducible refine gate_callee (f:=36) rfl ?_);refine gL_ 23 Tryz.func36 #[.pointer (some ⟨g,0,none⟩), .int .i64 4] ?_;(with_reducible refine(spec_l01Next.calls g s0_0 s0_1 s0_2 4 bg aV aW w0 _ ?aX ?aY A8.out).mono ?_);(case aX=>exact hi_);(case aY=>exact hj_);rintro e w18 ⟨rfl,hi,hb,hk⟩;refine⟨_,rfl,?_⟩;replace ag:=q_ (KeepBut.blk hk (g':=av) (o:= .cells #[.int .i64 0, .slice none 0 0] 26 (0,0)) (by(with_reducible repeat (first | refine blk_drewN ?_ _ | refine blk_drew ?_ | refine blk_alloc ?_ _));refine blk_far ?_ aC.out _;(with_reducible repeat (first | refine blk_drewN ?_ _ | refine blk_drew ?_ | refine blk_alloc ?_ _));refine blk_far ?_ aC.out _;(with_reducible repeat (first | refine blk_drewN ?_ _ | refine blk_drew ?_ | refine blk_alloc ?_ _));exact ag.out) aQ.out (by simp));replace aN:=q_ (Kd.R_mono (Kd.R_keep (IsS122.apart (show IsS122 w0 _ g s0_0 s0_1 s0_2 from hi_) (by(with_reducible repeat (first | apply Kd.R_alloc | apply Kd.R_drewN | apply Kd.R_drew));exact(Kd.R_mono (Kd.R_far (p:=⟨ah,1,none⟩) (Kd.R_far (p:=⟨ah,0,none⟩) (Kd.R_types aN.out af.out (by decide)) (fun _ hk=>hk.2) (.int .i64 a1)) (fun _ hk=>hk.2) (.slice dw aG.length dx)) (fun _ h_=>h_.1))) (by decide)) hk (fun _ h=>h.2)) (fun _ h=>h.1));replace HK:=q_ (KeepBut.trans hk_ hk (.inl rfl));replace HB:=q_ (hb);replace af:=q_ (KeepBut.blk hk (g':=ah) (o:= .cells #[.int .i64 a1, .slice dw aG.length dx] 26 (0,0)) (by(with_reducible repeat (first | refine blk_drewN ?_ _ | refine blk_drew ?_ | refine blk_alloc ?_ _));refine blk_put (cs:= #[.int .i64 a1, .slice none 0 0]) ?_ 1 _ rfl;(with_reducible repeat (first | refine blk_drewN ?_ _ | refine blk_drew ?_ | refine blk_alloc ?_ _));refine blk_put (cs:= #[.int .i64 0, .slice none 0 0]) ?_ 0 _ rfl;(with_reducible repeat (first | refine blk_drewN ?_ _ | refine blk_drew ?_ | refine blk_alloc ?_ _));exact af.out) aH.out (by simp));replace HI0:=q_ (hi);(try clear hb);(try clear hk);(try clear hi)))
     go_loopg [6] k (fun kq v6 w'=> ∃(au:Int) (bM:Int) (bN:Int) (aq:List Int) (aw:Value),v6= .int .i64 au∧Aside0 (spec_l06DrawOf.l0 kq a1 au s0_0 bM bN a1 aq=some (r1,r2,r3,r4))∧Aside0 (kq≤k)∧Aside0 (Kd.R (Kd.int .i64) 2 w' w.heap.size (fun _=>True) aw aq)∧Aside0 (w'.heap[av]?=some (.cells #[.int .i64 0,(.slice none 0 0)] 26 (0,0)))∧Aside0 (w'.heap[ah]?=some (.cells #[.int .i64 a1,aw] 26 (0,0)))∧Aside0 (IsS122 w0 w' g s0_0 bM bN)∧Aside0 (KeepBut w w' g none)∧Aside0 (Below w0.heap.size w0 w'))
     case atStart=>exact⟨(0),(aV),(aW),(aG),(.slice dw aG.length dx),rs_,H',⟨Nat.le_refl _⟩,⟨ro_ aN.out⟩,⟨bk_⟩,⟨bk_⟩,⟨hi_⟩,⟨hk_⟩,⟨hj_⟩⟩
     case round=>
      clear H';(try clear c4);(try clear c4b0);(try clear c4b1);(try clear c6);(try clear c6b0);(try clear c6b1);(try clear c7);(try clear c7b0);(try clear c7b1);(try clear c9);(try clear c9b0);(try clear c9b1);(try clear bq);(try clear bu);(try clear bv);(try clear bw);obtain⟨au,bM,bN,aq,aw,rfl,HA,HK1,ae,ag,af,HI0,HK,HB⟩:=hrel;cases gk with
      | zero=>exact absurd HA.out (by simp [spec_l06DrawOf.l0])
      | succ k1=>
       have H:=HA.out;clear HA;simp only [spec_l06DrawOf.l0] at H
       by_cases c19:au < (aq.length:Int)
       ·rw [if_pos c19] at H;have c19b0:=decide_eq_true c19;clear c19;have H':=q_ H;clear H;have gH:=aM.out;have gI:=aC.out;have gJ:=aH.out;have gK:=aj.out;have bz:=cz_ af 0;have bA:=cz_ af 1;have bC:=blk_frozen af.out 0;have bD:=blk_frozen af.out 1;obtain⟨fq,fu,fw⟩:=Kd.R_slice ae.out;subst fw;go_wp2
        go_loopg [7] k1 (fun kq v7 w'=> ∃(a9:Int) (aJ:Int) (aK:Int) (aa:List Int) (aw:Value),v7= .int .i64 a9∧Aside0 (spec_l06DrawOf.l1 kq a1 au a9 s0_0 aJ aK a1 aa=some (r1,r2,r3,r4))∧Aside0 (kq≤k1)∧Aside0 (Kd.R (Kd.int .i64) 2 w' w.heap.size (fun _=>True) aw aa)∧Aside0 (w'.heap[av]?=some (.cells #[.int .i64 0,(.slice none 0 0)] 26 (0,0)))∧Aside0 (w'.heap[ah]?=some (.cells #[.int .i64 a1,aw] 26 (0,0)))∧Aside0 (IsS122 w0 w' g s0_0 aJ aK)∧Aside0 (KeepBut w w' g none)∧Aside0 (Below w0.heap.size w0 w'))
        case atStart=>exact⟨(0),(bM),(bN),(aq),(.slice fq aq.length fu),rs_,H',⟨Nat.le_refl _⟩,⟨ro_ ae.out⟩,⟨bk_⟩,⟨bk_⟩,⟨hi_⟩,⟨hk_⟩,⟨hj_⟩⟩
        case round=>
         clear H';(try clear c4);(try clear c4b0);(try clear c4b1);(try clear c6);(try clear c6b0);(try clear c6b1);(try clear c7);(try clear c7b0);(try clear c7b1);(try clear c9);(try clear c9b0);(try clear c9b1);(try clear c19b0);(try clear bq);(try clear bu);(try clear bz);(try clear bA);(try clear bv);(try clear bw);(try clear bC);(try clear bD);obtain⟨a9,aJ,aK,aa,aw,rfl,HA,HK2,ae,ag,af,HI0,HK,HB⟩:=hrel;cases gk with
         | zero=>exact absurd HA.out (by simp [spec_l06DrawOf.l1])
         | succ k2=>
          have H:=HA.out;clear HA;simp only [spec_l06DrawOf.l1] at H
          by_cases c24:a9 < a1
          ·rw [if_pos c24] at H;have c24b0:=decide_eq_true c24;clear c24;obtain⟨ji25,hji25⟩: ∃j_:Int,(IntKind.u64.wrap (a9))=j_:=⟨_,rfl⟩
           replace H:(if 0≤(ji25) then(if(Go.bits .and .i64 au (shl .i64 1 (ji25)))=0 then((spec_l01Next.f s0_0 aJ aK 2).bind fun bh=>(if bh.1=0 then(if 0≤au then(if au < (aa.length:Int) then(spec_l06DrawOf.l1 k2 a1 au (wrap64 (a9+1)) s0_0 bh.2.1 bh.2.2 a1 (aa.set (au:Int).toNat (Go.bits .or .i64 (rd aa au) (shl .i64 1 (ji25))))) else(none)) else(none)) else(if 0≤(Go.bits .or .i64 au (shl .i64 1 (ji25))) then(if(Go.bits .or .i64 au (shl .i64 1 (ji25))) < (aa.length:Int) then(spec_l06DrawOf.l1 k2 a1 au (wrap64 (a9+1)) s0_0 bh.2.1 bh.2.2 a1 (aa.set ((Go.bits .or .i64 au (shl .i64 1 (ji25))):Int).toNat (Go.bits .or .i64 (rd aa (Go.bits .or .i64 au (shl .i64 1 (ji25)))) (shl .i64 1 (ji25))))) else(none)) else(none)))) else(spec_l06DrawOf.l1 k2 a1 au (wrap64 (a9+1)) s0_0 aJ aK a1 aa)) else(none))=some (r1,r2,r3,r4):=by first | (rw [hji25] at H;exact H) | (simp only [hji25] at H ⊢;exact H)
           by_cases c26:0≤(ji25)
           ·rw [if_pos c26] at H;have c26b0:=eq_true c26;have c26b1:=decide_eq_true c26;clear c26;obtain⟨ji27,hji27⟩: ∃j_:Int,(shl .i64 1 (ji25))=j_:=⟨_,rfl⟩
            replace H:(if(Go.bits .and .i64 au (ji27))=0 then((spec_l01Next.f s0_0 aJ aK 2).bind fun bh=>(if bh.1=0 then(if 0≤au then(if au < (aa.length:Int) then(spec_l06DrawOf.l1 k2 a1 au (wrap64 (a9+1)) s0_0 bh.2.1 bh.2.2 a1 (aa.set (au:Int).toNat (Go.bits .or .i64 (rd aa au) (ji27)))) else(none)) else(none)) else(if 0≤(Go.bits .or .i64 au (ji27)) then(if(Go.bits .or .i64 au (ji27)) < (aa.length:Int) then(spec_l06DrawOf.l1 k2 a1 au (wrap64 (a9+1)) s0_0 bh.2.1 bh.2.2 a1 (aa.set ((Go.bits .or .i64 au (ji27)):Int).toNat (Go.bits .or .i64 (rd aa (Go.bits .or .i64 au (ji27))) (ji27)))) else(none)) else(none)))) else(spec_l06DrawOf.l1 k2 a1 au (wrap64 (a9+1)) s0_0 aJ aK a1 aa))=some (r1,r2,r3,r4):=by first | (rw [hji27] at H;exact H) | (simp only [hji27] at H ⊢;exact H)
            have hji27_:=s1_ hji27;have hji27z:=s2_ hji27;have hji27u:=s3_ hji27;have hji27v:=s4_ hji27;have hji27y:=s5_ hji27;have hji27x:=s6_ hji27
            by_cases c28:(Go.bits .and .i64 au (ji27))=0
            ·rw [if_pos c28] at H;have c28b0:=e1_ c28;have c28b1:=e2_ c28;clear c28;replace H:=Option.bind_eq_some_iff.mp H;obtain⟨⟨bG,bH,bI⟩,A290,H⟩:=H;replace H:(if bG=0 then(if 0≤au then(if au < (aa.length:Int) then(spec_l06DrawOf.l1 k2 a1 au (wrap64 (a9+1)) s0_0 bH bI a1 (aa.set (au:Int).toNat (Go.bits .or .i64 (rd aa au) (ji27)))) else(none)) else(none)) else(if 0≤(Go.bits .or .i64 au (ji27)) then(if(Go.bits .or .i64 au (ji27)) < (aa.length:Int) then(spec_l06DrawOf.l1 k2 a1 au (wrap64 (a9+1)) s0_0 bH bI a1 (aa.set ((Go.bits .or .i64 au (ji27)):Int).toNat (Go.bits .or .i64 (rd aa (Go.bits .or .i64 au (ji27))) (ji27)))) else(none)) else(none)))=some (r1,r2,r3,r4):=H;have A29:=q_ A290;clear A290
             by_cases c30:bG=0
             ·rw [if_pos c30] at H;have c30b0:=e1_ c30;have c30b1:=e2_ c30;clear c30
              by_cases c31:0≤au
              ·rw [if_pos c31] at H;have c31b0:=decide_eq_true c31;clear c31
               by_cases c32:au < (aa.length:Int)
               ·rw [if_pos c32] at H;have c32b0:=decide_eq_true c32;clear c32;obtain⟨ek,hy⟩: ∃y_:List Int,y_=(aa.set (au:Int).toNat (Go.bits .or .i64 (rd aa au) (ji27))):=⟨_,rfl⟩
                replace H:(spec_l06DrawOf.l1 k2 a1 au (wrap64 (a9+1)) s0_0 bH bI a1 ek)=some (r1,r2,r3,r4):=hh_;have eW:=q_ hy;clear hy;have H':=q_ H;clear H
                try go_wp2_with (first | ((with_reducible refine gate_callee (f:=36) rfl ?_);refine gL_ 107 Tryz.func36 #[.pointer (some ⟨g,0,none⟩), .int .i64 2] ?_;(with_reducible refine(spec_l01Next.calls g s0_0 aJ aK 2 bG bH bI w0 _ ?aX ?aY A29.out).mono ?_);(case aX=>exact hi_);(case aY=>exact hj_);rintro e w34 ⟨rfl,hi,hb,hk⟩;refine⟨_,rfl,?_⟩;replace ae:=q_ (Kd.R_mono (Kd.R_keep (IsS122.apart (show IsS122 w0 _ g s0_0 aJ aK from hi_) (ro_ ae.out) (by decide)) hk (fun _ h=>h.2)) (fun _ h=>h.1));replace ag:=q_ (KeepBut.blk hk (g':=av) (o:= .cells #[.int .i64 0, .slice none 0 0] 26 (0,0)) bk_ aQ.out (by simp));replace af:=q_ (KeepBut.blk hk (g':=ah) (o:= .cells #[.int .i64 a1,aw] 26 (0,0)) bk_ aH.out (by simp));replace HK:=q_ (KeepBut.trans hk_ hk (.inl rfl));replace HB:=q_ (hb);replace HI0:=q_ (hi);(try clear hb);(try clear hk);(try clear hi)))
                replace ae:=q_ (Kd.R_drew ae.out);replace ag:=q_ (blk_drew ag.out);replace af:=q_ (blk_drew af.out);replace HI0:=q_ (IsS122.drew HI0.out);replace HK:=q_ (keep_drew HK.out);replace HB:=q_ (below_drew1 HB.out);obtain⟨iF,ep,eu⟩:=Kd.R_slice ae.out
                (first | subst eu | (injection eu with f1_ f2_ f3_;have f4_:=f1_.symm;have f5_:=f3_.symm;clear f1_ f2_ f3_;subst f4_;subst f5_))
                have p125:0≤(au:Int):=od_;have q125:au < (aa.length:Int):=od_;obtain⟨gL,e125,hx125_0⟩:=Kd.at_int (Kd.R_reads' ae.out).2.2 au p125 q125;cases e125
                replace p125:=eq_true p125;replace q125:=eq_true q125;have p33:0≤(au:Int):=od_;have q33:(au:Int) < ((aa.length:Int):Int):=od_;obtain⟨go33,iG,ez,eB,gl33,cl33,HG33⟩:=Kd.R_form ae.out (by omega)
                (first | cases ez | (injection ez with ea_ en_ ec_;(first | subst ea_ | (injection ea_ with ea_;subst ea_));subst ec_;clear en_))
                have GB33:=q_ eB;have GG33:=q_ HG33;clear eB gl33 HG33
                (first | simp only [add_plain] at hx125_0 | skip)
                obtain⟨hx33_0,hf33_0⟩:=Kd.R_celln 0 ae.out (au:Int) p33 q33;replace p33:=eq_true p33;replace q33:=eq_true q33;have HN0_go33:=q_ (show g≠go33 from by have h_:=IsS122.own_ne HI0.out ae.out (by decide);intro e_;exact h_ (by rw [e_];rfl));have HP37:=Kd.R_putn ae.out (au:Int) (Go.bits .or .i64 (rd aa au) (ji27));rw [← eW.out] at HP37;have HQ37:=q_ HP37;clear HP37;refine st_ (n:=12) (S:=fun w'=>w'.cell? ⟨ah,0,none⟩=some (.int .i64 a1)∧w'.cell? ⟨ah,1,none⟩=some (.slice (some ⟨go33,0,none⟩) aa.length ep)∧w'.cell? ⟨go33,(au).toNat,none⟩=some (.int .i64 (rd aa au))) (ds:= [11]) ⟨(blk_cell af.out 0).trans rfl,(blk_cell af.out 1).trans rfl,hx125_0⟩ (fun hHeld=>?_);refine with_tabW spec_l06DrawOf.tab24 spec_l06DrawOf.bits24 (fun HT_ HW_=>?_)
                generalize w34.drew=w35 at ae ag af HI0 HK HB GG33 HQ37 hf33_0 hx125_0 hx33_0 hHeld ⊢
                refine pu_ 0 109 ?_;refine pu_ 2 111 ?_;refine pu_ 3 112 ?_;refine pu_ 5 114 ?_;refine pu_ 8 117 ?_;refine tk_ 1 110 ?_;refine tk_ 4 113 ?_;refine pu_ 6 115 ?_;refine tk_ 7 116 ?_;refine pu_ 9 118 ?_;refine pu_ 10 119 ?_
                refine la_ 11 none (fun K hK=>?_)
                refine skip_ (w1:=?_) (by rfl) rfl ?_ ?_
                rotate_left
                ·go_simp
                 rfl
                refine hK.out _ _ ?_
                clear hK K;refine done_ (done_of HT_.out (by kernel_rfl)) ?_
                try go_wp2
                go_roundg k2
                case measure=>have:=HK1.out;have:=HK2.out;omega
                case rel=>exact⟨(wrap64 (a9+1)),(bH),(bI),(ek),(.slice (some ⟨go33,0,none⟩) aa.length ep),rs_,H',⟨by have:=HK1.out;have:=HK2.out;omega⟩,⟨ro_ HQ37.out⟩,⟨by(with_reducible repeat (first | refine blk_drewN ?_ _ | refine blk_drew ?_ | refine blk_alloc ?_ _));refine blk_far ?_ (by have h_:=Kd.R_ne ae.out ag.out (by decide);intro e_;exact h_ (by rw [e_];rfl)) _;(with_reducible repeat (first | refine blk_drewN ?_ _ | refine blk_drew ?_ | refine blk_alloc ?_ _));exact ag.out⟩,⟨by(with_reducible repeat (first | refine blk_drewN ?_ _ | refine blk_drew ?_ | refine blk_alloc ?_ _));refine blk_far ?_ (by have h_:=Kd.R_ne ae.out af.out (by decide);intro e_;exact h_ (by rw [e_];rfl)) _;(with_reducible repeat (first | refine blk_drewN ?_ _ | refine blk_drew ?_ | refine blk_alloc ?_ _));exact af.out⟩,⟨hi_⟩,⟨hk_⟩,⟨by repeat (first | (with_reducible first | exact HB.out | apply below_alloc | apply pw_below_drewN | apply below_drew1 | refine below_set ?_ (Nat.le_trans HL.out GB33.out) | refine below_set ?_ (IsS122.ge HI0.out) | refine below_set ?_ az.out | refine below_set ?_ aI.out) | exact HB.out)⟩⟩
               ·rw [if_neg c32] at H;exact absurd H (by simp)
              ·rw [if_neg c31] at H;exact absurd H (by simp)
             ·rw [if_neg c30] at H;have c30b0:=e3_ c30;have c30b1:=e4_ c30
              by_cases c38:0≤(Go.bits .or .i64 au (ji27))
              ·rw [if_pos c38] at H;have c38b0:=decide_eq_true c38;clear c38
               by_cases c39:(Go.bits .or .i64 au (ji27)) < (aa.length:Int)
               ·rw [if_pos c39] at H;have c39b0:=decide_eq_true c39;clear c39;obtain⟨eC,hy⟩: ∃y_:List Int,y_=(aa.set ((Go.bits .or .i64 au (ji27)):Int).toNat (Go.bits .or .i64 (rd aa (Go.bits .or .i64 au (ji27))) (ji27))):=⟨_,rfl⟩
                replace H:(spec_l06DrawOf.l1 k2 a1 au (wrap64 (a9+1)) s0_0 bH bI a1 eC)=some (r1,r2,r3,r4):=hh_;have eX:=q_ hy;clear hy;have H':=q_ H;clear H
                try go_wp2_with (first | ((with_reducible refine gate_callee (f:=36) rfl ?_);refine gL_ 107 Tryz.func36 #[.pointer (some ⟨g,0,none⟩), .int .i64 2] ?_;(with_reducible refine(spec_l01Next.calls g s0_0 aJ aK 2 bG bH bI w0 _ ?aX ?aY A29.out).mono ?_);(case aX=>exact hi_);(case aY=>exact hj_);rintro e w41 ⟨rfl,hi,hb,hk⟩;refine⟨_,rfl,?_⟩;replace ae:=q_ (Kd.R_mono (Kd.R_keep (IsS122.apart (show IsS122 w0 _ g s0_0 aJ aK from hi_) (ro_ ae.out) (by decide)) hk (fun _ h=>h.2)) (fun _ h=>h.1));replace ag:=q_ (KeepBut.blk hk (g':=av) (o:= .cells #[.int .i64 0, .slice none 0 0] 26 (0,0)) bk_ aQ.out (by simp));replace af:=q_ (KeepBut.blk hk (g':=ah) (o:= .cells #[.int .i64 a1,aw] 26 (0,0)) bk_ aH.out (by simp));replace HK:=q_ (KeepBut.trans hk_ hk (.inl rfl));replace HB:=q_ (hb);replace HI0:=q_ (hi);(try clear hb);(try clear hk);(try clear hi)))
                replace ae:=q_ (Kd.R_drew ae.out);replace ag:=q_ (blk_drew ag.out);replace af:=q_ (blk_drew af.out);replace HI0:=q_ (IsS122.drew HI0.out);replace HK:=q_ (keep_drew HK.out);replace HB:=q_ (below_drew1 HB.out);obtain⟨iH,eD,eF⟩:=Kd.R_slice ae.out
                (first | subst eF | (injection eF with f1_ f2_ f3_;have f4_:=f1_.symm;have f5_:=f3_.symm;clear f1_ f2_ f3_;subst f4_;subst f5_))
                have p127:0≤((Go.bits .or .i64 au (ji27)):Int):=od_;have q127:(Go.bits .or .i64 au (ji27)) < (aa.length:Int):=od_;obtain⟨gM,e127,hx127_0⟩:=Kd.at_int (Kd.R_reads' ae.out).2.2 (Go.bits .or .i64 au (ji27)) p127 q127;cases e127
                replace p127:=eq_true p127;replace q127:=eq_true q127;have p40:0≤((Go.bits .or .i64 au (ji27)):Int):=od_;have q40:((Go.bits .or .i64 au (ji27)):Int) < ((aa.length:Int):Int):=od_;obtain⟨go40,iI,eG,eH,gl40,cl40,HG40⟩:=Kd.R_form ae.out (by omega)
                (first | cases eG | (injection eG with ea_ en_ ec_;(first | subst ea_ | (injection ea_ with ea_;subst ea_));subst ec_;clear en_))
                have GB40:=q_ eH;have GG40:=q_ HG40;clear eH gl40 HG40
                (first | simp only [add_plain] at hx127_0 | skip)
                obtain⟨hx40_0,hf40_0⟩:=Kd.R_celln 0 ae.out ((Go.bits .or .i64 au (ji27)):Int) p40 q40;replace p40:=eq_true p40;replace q40:=eq_true q40;have HN0_go40:=q_ (show g≠go40 from by have h_:=IsS122.own_ne HI0.out ae.out (by decide);intro e_;exact h_ (by rw [e_];rfl));have HP44:=Kd.R_putn ae.out ((Go.bits .or .i64 au (ji27)):Int) (Go.bits .or .i64 (rd aa (Go.bits .or .i64 au (ji27))) (ji27));rw [← eX.out] at HP44;have HQ44:=q_ HP44;clear HP44;refine st_ (n:=16) (S:=fun w'=>w'.cell? ⟨ah,0,none⟩=some (.int .i64 a1)∧w'.cell? ⟨ah,1,none⟩=some (.slice (some ⟨go40,0,none⟩) aa.length eD)∧w'.cell? ⟨go40,((Go.bits .or .i64 au (ji27))).toNat,none⟩=some (.int .i64 (rd aa (Go.bits .or .i64 au (ji27))))) (ds:= [15]) ⟨(blk_cell af.out 0).trans rfl,(blk_cell af.out 1).trans rfl,hx127_0⟩ (fun hHeld=>?_);refine with_tabW spec_l06DrawOf.tab25 spec_l06DrawOf.bits25 (fun HT_ HW_=>?_)
                generalize w41.drew=w42 at ae ag af HI0 HK HB GG40 HQ44 hf40_0 hx127_0 hx40_0 hHeld ⊢
                refine pu_ 0 120 ?_;refine pu_ 2 122 ?_;refine pu_ 3 123 ?_;refine pu_ 4 124 ?_;refine pu_ 5 125 ?_;refine pu_ 7 127 ?_;refine pu_ 8 128 ?_;refine pu_ 9 129 ?_;refine pu_ 12 132 ?_;refine tk_ 1 121 ?_;refine tk_ 6 126 ?_;refine pu_ 10 130 ?_;refine tk_ 11 131 ?_;refine pu_ 13 133 ?_;refine pu_ 14 134 ?_
                refine la_ 15 none (fun K hK=>?_)
                refine skip_ (w1:=?_) (by rfl) rfl ?_ ?_
                rotate_left
                ·go_simp
                 rfl
                refine hK.out _ _ ?_
                clear hK K;refine done_ (done_of HT_.out (by kernel_rfl)) ?_
                try go_wp2
                go_roundg k2
                case measure=>have:=HK1.out;have:=HK2.out;omega
                case rel=>exact⟨(wrap64 (a9+1)),(bH),(bI),(eC),(.slice (some ⟨go40,0,none⟩) aa.length eD),rs_,H',⟨by have:=HK1.out;have:=HK2.out;omega⟩,⟨ro_ HQ44.out⟩,⟨by(with_reducible repeat (first | refine blk_drewN ?_ _ | refine blk_drew ?_ | refine blk_alloc ?_ _));refine blk_far ?_ (by have h_:=Kd.R_ne ae.out ag.out (by decide);intro e_;exact h_ (by rw [e_];rfl)) _;(with_reducible repeat (first | refine blk_drewN ?_ _ | refine blk_drew ?_ | refine blk_alloc ?_ _));exact ag.out⟩,⟨by(with_reducible repeat (first | refine blk_drewN ?_ _ | refine blk_drew ?_ | refine blk_alloc ?_ _));refine blk_far ?_ (by have h_:=Kd.R_ne ae.out af.out (by decide);intro e_;exact h_ (by rw [e_];rfl)) _;(with_reducible repeat (first | refine blk_drewN ?_ _ | refine blk_drew ?_ | refine blk_alloc ?_ _));exact af.out⟩,⟨hi_⟩,⟨hk_⟩,⟨by repeat (first | (with_reducible first | exact HB.out | apply below_alloc | apply pw_below_drewN | apply below_drew1 | refine below_set ?_ (Nat.le_trans HL.out GB40.out) | refine below_set ?_ (IsS122.ge HI0.out) | refine below_set ?_ az.out | refine below_set ?_ aI.out) | exact HB.out)⟩⟩
               ·rw [if_neg c39] at H;exact absurd H (by simp)
              ·rw [if_neg c38] at H;exact absurd H (by simp)
            ·rw [if_neg c28] at H;have c28b0:=e3_ c28;have c28b1:=e4_ c28;have H':=q_ H;clear H;go_wp2
             go_roundg k2
             case measure=>have:=HK1.out;have:=HK2.out;omega
             case rel=>exact⟨(wrap64 (a9+1)),(aJ),(aK),(aa),(aw),rs_,H',⟨by have:=HK1.out;have:=HK2.out;omega⟩,⟨ro_ ae.out⟩,⟨bk_⟩,⟨bk_⟩,⟨hi_⟩,⟨hk_⟩,⟨hj_⟩⟩
           ·rw [if_neg c26] at H;exact absurd H (by simp)
          ·rw [if_neg c24] at H;have c24b0:=decide_eq_false c24;clear c24;have H':=q_ H;clear H;go_wp2
           go_roundg k2
           case measure=>have:=HK1.out;have:=HK2.out;omega
           case rel=>exact⟨(wrap64 (au+1)),(aJ),(aK),(aa),(aw),rs_,H',⟨by have:=HK1.out;have:=HK2.out;omega⟩,⟨ro_ ae.out⟩,⟨bk_⟩,⟨bk_⟩,⟨hi_⟩,⟨hk_⟩,⟨hj_⟩⟩
       ·rw [if_neg c19] at H;have c19b0:=decide_eq_false c19;clear c19;simp only [Option.some.injEq,Prod.mk.injEq] at H;obtain⟨rfl,rfl,rfl,rfl⟩:=H;have gN:=aM.out;have gO:=aC.out;have gP:=aH.out;have gQ:=aj.out;have bO:=cz_ af 0;have bP:=cz_ af 1;have bQ:=blk_frozen af.out 0;have bS:=blk_frozen af.out 1;obtain⟨eI,eJ,fA⟩:=Kd.R_slice ae.out;subst fA;have gS:=aQ.out;have gT:=ai.out;have bT:=cz_ ag 0;have bU:=cz_ ag 1;have bV:=blk_frozen ag.out 0;have bW:=blk_frozen ag.out 1;go_wp2
        refine bodyPost_ret (results_cell_row rfl _ _ av 26 #[.int .i64 a1, .slice eI aq.length eJ] (0,0) _ rfl (by(with_reducible repeat (first | refine blk_drewN ?_ _ | refine blk_drew ?_ | refine blk_alloc ?_ _));refine blk_put (cs:= #[.int .i64 a1, .slice none 0 0]) ?_ 1 _ rfl;(with_reducible repeat (first | refine blk_drewN ?_ _ | refine blk_drew ?_ | refine blk_alloc ?_ _));refine blk_put (cs:= #[.int .i64 0, .slice none 0 0]) ?_ 0 _ rfl;(with_reducible repeat (first | refine blk_drewN ?_ _ | refine blk_drew ?_ | refine blk_alloc ?_ _));exact ag.out) Tryz.underlying26 rfl (by kernel_rfl)) rfl ?_
        exact⟨_,by first | rfl | (simp [errW_none,errW_some] <;> rfl) | (simp only [← hji3, ← hji5];first | rfl | (simp [errW_none,errW_some] <;> rfl)) | (simp [*,errW_none,errW_some] <;> rfl),by(with_reducible repeat (first | apply Kd.R_alloc | apply Kd.R_drewN | apply Kd.R_drew));exact Kd.R_mono (Kd.R_far (p:=⟨av,1,none⟩) (Kd.R_far (p:=⟨av,0,none⟩) (Kd.R_types ae.out ag.out (by decide)) (fun _ hk=>hk.2) (.int .i64 a1)) (fun _ hk=>hk.2) (.slice eI aq.length eJ)) (fun _ hk=>trivial),hi_,hj_,hk_⟩
    ·rw [if_neg c9] at H;have c9b0:=e3_ c9;have c9b1:=e4_ c9
     by_cases c51:bg=1
     ·rw [if_pos c51] at H;have c51b0:=e1_ c51;have c51b1:=e2_ c51;clear c51;have H':=q_ H;clear H
      go_enter Tryz.func128,Tryz.ntmps128
      go_wp2_with (first | ((with_reducible refine gate_dst (N:=4) rfl ?_);refine be_ 4 #[.int .i64 0, .slice none 0 0] 26 ?_;intro av hg w52 hbox hb;replace HB:=q_ (below_step hj_ hb);have ag:=q_ (hbox);have ax:=q_ ((by rw [hg];exact(keep_size (w:=w) (g:=g) (row:=none) hk_):w.heap.size≤av));have az:=q_ ((Nat.le_trans HW0.out (by rw [hg];exact(keep_size (w:=w) (g:=g) (row:=none) hk_):w.heap.size≤av):w0.heap.size≤av));have ai:=q_ ((by rw [hg];exact Nat.ne_of_lt (IsS122.lt (show IsS122 w0 _ g s0_0 s0_1 s0_2 from hi_)):g≠av));have aQ:=q_ ((by rw [hg];exact Nat.ne_of_gt (IsS122.lt (show IsS122 w0 _ g s0_0 s0_1 s0_2 from hi_)):av≠g));replace HI0:=q_ (IsS122.below hi_ hb);replace HK:=q_ (KeepBut.trans hk_ (KeepBut.of_below hb g none) (.inl rfl));clear hb hbox hg) | ((with_reducible refine gate_dst (N:=20) rfl ?_);refine Kd.R_make (Kd.int .i64) _ 2 rfl (N:=20) rfl 24 _ _ rfl ji5 rfl rfl Tryz.underlying24 (.int .i64 0) 8 info2 rfl (by decide) (by omega) 0 (ok:=fun _=>True) (okp:=fun _=>True) rfl (fun _ hk=>hk) trivial od_ (Nat.le_trans (Nat.mul_le_mul_right _ (od_:ji5.toNat≤35184372088832)) (by omega)) (Below.refl _ _) (Nat.le_refl _) ?_;intro ed w53 cH hb hg_ hnew_;clear hg_ hnew_;(first | rw [← bL.out] at cH | (simp only [Int.reduceToNat] at cH;rw [← bL.out] at cH));have aN:=q_ (Kd.R_lower cH (keep_size (w:=w) (g:=g) (row:=none) hk_));replace ag:=q_ (bb_ ag.out hb);replace HB:=q_ (below_step hj_ hb);replace HI0:=q_ (IsS122.below hi_ hb);replace HK:=q_ (KeepBut.trans hk_ (KeepBut.of_below hb g none) (.inl rfl));clear hb cH;obtain⟨dz,dA,fB⟩:=Kd.R_slice aN.out;subst fB) | ((with_reducible refine gate_dst (N:=5) rfl ?_);refine be_ 5 #[.int .i64 0, .slice none 0 0] 26 ?_;intro ah hg w56 hbox hb;replace aN:=q_ (rb_ aN.out hb);replace HB:=q_ (below_step hj_ hb);have af:=q_ (hbox);have aD:=q_ ((by rw [hg];exact(keep_size (w:=w) (g:=g) (row:=none) hk_):w.heap.size≤ah));have aI:=q_ ((Nat.le_trans HW0.out (by rw [hg];exact(keep_size (w:=w) (g:=g) (row:=none) hk_):w.heap.size≤ah):w0.heap.size≤ah));have aC:=q_ ((by rw [hg];exact lt_ ag.out:av≠ah));have aM:=q_ ((by rw [hg];exact gt_ ag.out:ah≠av));have aj:=q_ ((by rw [hg];exact Nat.ne_of_lt (IsS122.lt (show IsS122 w0 _ g s0_0 s0_1 s0_2 from hi_)):g≠ah));have aH:=q_ ((by rw [hg];exact Nat.ne_of_gt (IsS122.lt (show IsS122 w0 _ g s0_0 s0_1 s0_2 from hi_)):ah≠g));replace HI0:=q_ (IsS122.below hi_ hb);replace ag:=q_ (bb_ ag.out hb);replace HK:=q_ (KeepBut.trans hk_ (KeepBut.of_below hb g none) (.inl rfl));clear hb hbox hg;have gU:=aM.out;have gV:=aC.out;have gW:=aH.out;have gX:=aj.out;have bX:=cz_ af 0;have bY:=cz_ af 1;have bZ:=blk_frozen af.out 0;have cf:=blk_frozen af.out 1) | ((with_reducible refine gate_callee (f:=36) rfl ?_);refine gL_ 23 Tryz.func36 #[.pointer (some ⟨g,0,none⟩), .int .i64 4] ?_;(with_reducible refine(spec_l01Next.calls g s0_0 s0_1 s0_2 4 bg aV aW w0 _ ?aX ?aY A8.out).mono ?_);(case aX=>exact hi_);(case aY=>exact hj_);rintro e w60 ⟨rfl,hi,hb,hk⟩;refine⟨_,rfl,?_⟩;replace ag:=q_ (KeepBut.blk hk (g':=av) (o:= .cells #[.int .i64 0, .slice none 0 0] 26 (0,0)) (by(with_reducible repeat (first | refine blk_drewN ?_ _ | refine blk_drew ?_ | refine blk_alloc ?_ _));refine blk_far ?_ aC.out _;(with_reducible repeat (first | refine blk_drewN ?_ _ | refine blk_drew ?_ | refine blk_alloc ?_ _));refine blk_far ?_ aC.out _;(with_reducible repeat (first | refine blk_drewN ?_ _ | refine blk_drew ?_ | refine blk_alloc ?_ _));exact ag.out) aQ.out (by simp));replace aN:=q_ (Kd.R_mono (Kd.R_keep (IsS122.apart (show IsS122 w0 _ g s0_0 s0_1 s0_2 from hi_) (by(with_reducible repeat (first | apply Kd.R_alloc | apply Kd.R_drewN | apply Kd.R_drew));exact(Kd.R_mono (Kd.R_far (p:=⟨ah,1,none⟩) (Kd.R_far (p:=⟨ah,0,none⟩) (Kd.R_types aN.out af.out (by decide)) (fun _ hk=>hk.2) (.int .i64 a1)) (fun _ hk=>hk.2) (.slice dz aG.length dA)) (fun _ h_=>h_.1))) (by decide)) hk (fun _ h=>h.2)) (fun _ h=>h.1));replace HK:=q_ (KeepBut.trans hk_ hk (.inl rfl));replace HB:=q_ (hb);replace af:=q_ (KeepBut.blk hk (g':=ah) (o:= .cells #[.int .i64 a1, .slice dz aG.length dA] 26 (0,0)) (by(with_reducible repeat (first | refine blk_drewN ?_ _ | refine blk_drew ?_ | refine blk_alloc ?_ _));refine blk_put (cs:= #[.int .i64 a1, .slice none 0 0]) ?_ 1 _ rfl;(with_reducible repeat (first | refine blk_drewN ?_ _ | refine blk_drew ?_ | refine blk_alloc ?_ _));refine blk_put (cs:= #[.int .i64 0, .slice none 0 0]) ?_ 0 _ rfl;(with_reducible repeat (first | refine blk_drewN ?_ _ | refine blk_drew ?_ | refine blk_alloc ?_ _));exact af.out) aH.out (by simp));replace HI0:=q_ (hi);(try clear hb);(try clear hk);(try clear hi)))
      go_loopg [9] k (fun kq v9 w'=> ∃(ay:Int) (aq:List Int) (aw:Value),v9= .int .i64 ay∧Aside0 (spec_l06DrawOf.l2 kq a1 ay s0_0 aV aW a1 aq=some (r1,r2,r3,r4))∧Aside0 (kq≤k)∧Aside0 (Kd.R (Kd.int .i64) 2 w' w.heap.size (fun _=>True) aw aq)∧Aside0 (w'.heap[av]?=some (.cells #[.int .i64 0,(.slice none 0 0)] 26 (0,0)))∧Aside0 (w'.heap[ah]?=some (.cells #[.int .i64 a1,aw] 26 (0,0)))∧Aside0 (IsS122 w0 w' g s0_0 aV aW)∧Aside0 (KeepBut w w' g none)∧Aside0 (Below w0.heap.size w0 w'))
      case atStart=>exact⟨(0),(aG),(.slice dz aG.length dA),rs_,H',⟨Nat.le_refl _⟩,⟨ro_ aN.out⟩,⟨bk_⟩,⟨bk_⟩,⟨hi_⟩,⟨hk_⟩,⟨hj_⟩⟩
      case round=>
       clear H';(try clear c4);(try clear c4b0);(try clear c4b1);(try clear c6);(try clear c6b0);(try clear c6b1);(try clear c7);(try clear c7b0);(try clear c7b1);(try clear c9);(try clear c9b0);(try clear c9b1);(try clear c19b0);(try clear c24b0);(try clear c26);(try clear c26b0);(try clear c26b1);(try clear c28);(try clear c28b0);(try clear c28b1);(try clear c30);(try clear c30b0);(try clear c30b1);(try clear c31);(try clear c31b0);(try clear c32);(try clear c32b0);(try clear p33);(try clear q33);(try clear c38);(try clear c38b0);(try clear c39);(try clear c39b0);(try clear p40);(try clear q40);(try clear c51);(try clear c51b0);(try clear c51b1);(try clear bq);(try clear bu);(try clear bz);(try clear bA);(try clear bO);(try clear bP);(try clear bT);(try clear bU);(try clear bX);(try clear bY);(try clear bv);(try clear bw);(try clear bC);(try clear bD);(try clear bQ);(try clear bS);(try clear bV);(try clear bW);(try clear bZ);(try clear cf);(try clear hx125_0);(try clear hx127_0);(try clear hx33_0);(try clear hx40_0);(try clear p125);(try clear p127);(try clear p33);(try clear p40);(try clear q125);(try clear q127);(try clear q33);(try clear q40);obtain⟨ay,aq,aw,rfl,HA,HK1,ae,ag,af,HI0,HK,HB⟩:=hrel;cases gk with
       | zero=>exact absurd HA.out (by simp [spec_l06DrawOf.l2])
       | succ k1=>
        have H:=HA.out;clear HA;simp only [spec_l06DrawOf.l2] at H
        by_cases c61:ay < (aq.length:Int)
        ·rw [if_pos c61] at H;have c61b0:=decide_eq_true c61;clear c61;have H':=q_ H;clear H;have gY:=aM.out;have gZ:=aC.out;have hU:=aH.out;have ia:=aj.out;have cC:=cz_ af 0;have cD:=cz_ af 1;have cE:=blk_frozen af.out 0;have cF:=blk_frozen af.out 1;obtain⟨fC,fD,fE⟩:=Kd.R_slice ae.out;subst fE;go_wp2
         go_loopg [10] k1 (fun kq v10 w'=> ∃(aZ:Int) (aa:List Int) (aw:Value),v10= .int .i64 aZ∧Aside0 (spec_l06DrawOf.l3 kq a1 ay aZ s0_0 aV aW a1 aa=some (r1,r2,r3,r4))∧Aside0 (kq≤k1)∧Aside0 (Kd.R (Kd.int .i64) 2 w' w.heap.size (fun _=>True) aw aa)∧Aside0 (w'.heap[av]?=some (.cells #[.int .i64 0,(.slice none 0 0)] 26 (0,0)))∧Aside0 (w'.heap[ah]?=some (.cells #[.int .i64 a1,aw] 26 (0,0)))∧Aside0 (IsS122 w0 w' g s0_0 aV aW)∧Aside0 (KeepBut w w' g none)∧Aside0 (Below w0.heap.size w0 w'))
         case atStart=>exact⟨(0),(aq),(.slice fC aq.length fD),rs_,H',⟨Nat.le_refl _⟩,⟨ro_ ae.out⟩,⟨bk_⟩,⟨bk_⟩,⟨hi_⟩,⟨hk_⟩,⟨hj_⟩⟩
         case round=>
          clear H';(try clear c4);(try clear c4b0);(try clear c4b1);(try clear c6);(try clear c6b0);(try clear c6b1);(try clear c7);(try clear c7b0);(try clear c7b1);(try clear c9);(try clear c9b0);(try clear c9b1);(try clear c19b0);(try clear c24b0);(try clear c26);(try clear c26b0);(try clear c26b1);(try clear c28);(try clear c28b0);(try clear c28b1);(try clear c30);(try clear c30b0);(try clear c30b1);(try clear c31);(try clear c31b0);(try clear c32);(try clear c32b0);(try clear p33);(try clear q33);(try clear c38);(try clear c38b0);(try clear c39);(try clear c39b0);(try clear p40);(try clear q40);(try clear c51);(try clear c51b0);(try clear c51b1);(try clear c61b0);(try clear bq);(try clear bu);(try clear bz);(try clear bA);(try clear bO);(try clear bP);(try clear bT);(try clear bU);(try clear bX);(try clear bY);(try clear cC);(try clear cD);(try clear bv);(try clear bw);(try clear bC);(try clear bD);(try clear bQ);(try clear bS);(try clear bV);(try clear bW);(try clear bZ);(try clear cf);(try clear cE);(try clear cF);(try clear hx125_0);(try clear hx127_0);(try clear hx33_0);(try clear hx40_0);(try clear p125);(try clear p127);(try clear p33);(try clear p40);(try clear q125);(try clear q127);(try clear q33);(try clear q40);obtain⟨aZ,aa,aw,rfl,HA,HK2,ae,ag,af,HI0,HK,HB⟩:=hrel;cases gk with
          | zero=>exact absurd HA.out (by simp [spec_l06DrawOf.l3])
          | succ k2=>
           have H:=HA.out;clear HA;simp only [spec_l06DrawOf.l3] at H
           by_cases c66:aZ < a1
           ·rw [if_pos c66] at H;have c66b0:=decide_eq_true c66;clear c66;obtain⟨ji67,hji67⟩: ∃j_:Int,(IntKind.u64.wrap (aZ))=j_:=⟨_,rfl⟩
            replace H:(if 0≤(ji67) then((spec_l01Ones.f k2 (shr .i64 ay (ji67))).bind fun bi=>(if(Int.tmod bi 2)=0 then(if 0≤ay then(if ay < (aa.length:Int) then(spec_l06DrawOf.l3 k2 a1 ay (wrap64 (aZ+1)) s0_0 aV aW a1 (aa.set (ay:Int).toNat (Go.bits .or .i64 (rd aa ay) (shl .i64 1 (ji67))))) else(none)) else(none)) else(spec_l06DrawOf.l3 k2 a1 ay (wrap64 (aZ+1)) s0_0 aV aW a1 aa))) else(none))=some (r1,r2,r3,r4):=by first | (rw [hji67] at H;exact H) | (simp only [hji67] at H ⊢;exact H)
            by_cases c68:0≤(ji67)
            ·rw [if_pos c68] at H;have c68b0:=eq_true c68;have c68b1:=decide_eq_true c68;clear c68;obtain⟨ji69,hji69⟩: ∃j_:Int,(shr .i64 ay (ji67))=j_:=⟨_,rfl⟩
             replace H:((spec_l01Ones.f k2 (ji69)).bind fun bi=>(if(Int.tmod bi 2)=0 then(if 0≤ay then(if ay < (aa.length:Int) then(spec_l06DrawOf.l3 k2 a1 ay (wrap64 (aZ+1)) s0_0 aV aW a1 (aa.set (ay:Int).toNat (Go.bits .or .i64 (rd aa ay) (shl .i64 1 (ji67))))) else(none)) else(none)) else(spec_l06DrawOf.l3 k2 a1 ay (wrap64 (aZ+1)) s0_0 aV aW a1 aa)))=some (r1,r2,r3,r4):=by first | (rw [hji69] at H;exact H) | (simp only [hji69] at H ⊢;exact H)
             have hji69_:(ay / 2 ^ min (ji67).toNat 64)=ji69:=hji69;have hji69z:(ji67)≤64→(ay / 2 ^ (ji67).toNat)=ji69:=shr_small hji69;replace H:=Option.bind_eq_some_iff.mp H;obtain⟨bi,A700,H⟩:=H;replace H:(if(Int.tmod bi 2)=0 then(if 0≤ay then(if ay < (aa.length:Int) then(spec_l06DrawOf.l3 k2 a1 ay (wrap64 (aZ+1)) s0_0 aV aW a1 (aa.set (ay:Int).toNat (Go.bits .or .i64 (rd aa ay) (shl .i64 1 (ji67))))) else(none)) else(none)) else(spec_l06DrawOf.l3 k2 a1 ay (wrap64 (aZ+1)) s0_0 aV aW a1 aa))=some (r1,r2,r3,r4):=H;have A70:=q_ A700;clear A700
             by_cases c71:(Int.tmod bi 2)=0
             ·rw [if_pos c71] at H;have c71b0:=e1_ c71;have c71b1:=e2_ c71;clear c71
              by_cases c72:0≤ay
              ·rw [if_pos c72] at H;have c72b0:=decide_eq_true c72;clear c72
               by_cases c73:ay < (aa.length:Int)
               ·rw [if_pos c73] at H;have c73b0:=decide_eq_true c73;clear c73;have c74b0:=eq_true (od_:0≤(ji67));obtain⟨ji75,hji75⟩: ∃j_:Int,(shl .i64 1 (ji67))=j_:=⟨_,rfl⟩
                replace H:(spec_l06DrawOf.l3 k2 a1 ay (wrap64 (aZ+1)) s0_0 aV aW a1 (aa.set (ay:Int).toNat (Go.bits .or .i64 (rd aa ay) (ji75))))=some (r1,r2,r3,r4):=by first | (rw [hji75] at H;exact H) | (simp only [hji75] at H ⊢;exact H)
                (try rw [hji75] at A70)
                have hji75_:=s1_ hji75;have hji75z:=s2_ hji75;have hji75u:=s3_ hji75;have hji75v:=s4_ hji75;have hji75y:=s5_ hji75;have hji75x:=s6_ hji75;obtain⟨eK,hy⟩: ∃y_:List Int,y_=(aa.set (ay:Int).toNat (Go.bits .or .i64 (rd aa ay) (ji75))):=⟨_,rfl⟩
                replace H:(spec_l06DrawOf.l3 k2 a1 ay (wrap64 (aZ+1)) s0_0 aV aW a1 eK)=some (r1,r2,r3,r4):=hh_;have eY:=q_ hy;clear hy;have H':=q_ H;clear H
                try go_wp2_with (first | ((with_reducible refine gate_callee (f:=158) rfl ?_);refine goesL_ (some 153) rfl rfl Tryz.func158 (by kernel_rfl) rfl #[.int .i64 ji69] rfl (by(try simp only [List.map_toArray,List.map_cons,List.map_nil]);first | done | (simp only [hji69];rfl) | rfl | (simp only [List.length_drop,List.length_take];rfl)) ?_;(with_reducible refine(spec_l01Ones.calls k2 ji69 bi _ A70.out).mono ?_);rintro e w' ⟨rfl,⟨nd,rfl⟩⟩;refine⟨_,rfl,?_⟩;(try (rw [drewN_self wr];generalize hq_:World.drewN wr _=wr;have n0_:Aside0 (Kd.R (Kd.int .i64) 2 wr w.heap.size (fun _=>True) aw aa):=⟨by rw [← hq_];exact(ro_ ae.out)⟩;have n1_:Aside0 (wr.heap[av]?=some (.cells #[.int .i64 0, .slice none 0 0] 26 (0,0))):=⟨by rw [← hq_];exact bk_⟩;have n2_:Aside0 (wr.heap[ah]?=some (.cells #[.int .i64 a1,aw] 26 (0,0))):=⟨by rw [← hq_];exact bk_⟩;have n3_:Aside0 (IsS122 w0 wr g s0_0 aV aW):=⟨by rw [← hq_];exact hi_⟩;have n4_:Aside0 (KeepBut w wr g none):=⟨by rw [← hq_];exact hk_⟩;have n5_:Aside0 (Below w0.heap.size w0 wr):=⟨by rw [← hq_];exact hj_⟩;clear ae ag af HI0 HK HB hq_;have ae:=n0_;have ag:=n1_;have af:=n2_;have HI0:=n3_;have HK:=n4_;have HB:=n5_;clear n0_ n1_ n2_ n3_ n4_ n5_))))
                replace ae:=q_ (Kd.R_drew ae.out);replace ag:=q_ (blk_drew ag.out);replace af:=q_ (blk_drew af.out);replace HI0:=q_ (IsS122.drew HI0.out);replace HK:=q_ (keep_drew HK.out);replace HB:=q_ (below_drew1 HB.out);obtain⟨iJ,eL,eM⟩:=Kd.R_slice ae.out
                (first | subst eM | (injection eM with f1_ f2_ f3_;have f4_:=f1_.symm;have f5_:=f3_.symm;clear f1_ f2_ f3_;subst f4_;subst f5_))
                have p130:0≤(ay:Int):=od_;have q130:ay < (aa.length:Int):=od_;obtain⟨ib,e130,hx130_0⟩:=Kd.at_int (Kd.R_reads' ae.out).2.2 ay p130 q130;cases e130
                replace p130:=eq_true p130;replace q130:=eq_true q130;have p76:0≤(ay:Int):=od_;have q76:(ay:Int) < ((aa.length:Int):Int):=od_;obtain⟨go76,iK,eO,eP,gl76,cl76,HG76⟩:=Kd.R_form ae.out (by omega)
                (first | cases eO | (injection eO with ea_ en_ ec_;(first | subst ea_ | (injection ea_ with ea_;subst ea_));subst ec_;clear en_))
                have GB76:=q_ eP;have GG76:=q_ HG76;clear eP gl76 HG76
                (first | simp only [add_plain] at hx130_0 | skip)
                obtain⟨hx76_0,hf76_0⟩:=Kd.R_celln 0 ae.out (ay:Int) p76 q76;replace p76:=eq_true p76;replace q76:=eq_true q76;have HN0_go76:=q_ (show g≠go76 from by have h_:=IsS122.own_ne HI0.out ae.out (by decide);intro e_;exact h_ (by rw [e_];rfl));have HP79:=Kd.R_putn ae.out (ay:Int) (Go.bits .or .i64 (rd aa ay) (ji75));rw [← eY.out] at HP79;have HQ79:=q_ HP79;clear HP79;refine st_ (n:=14) (S:=fun w'=>w'.cell? ⟨ah,0,none⟩=some (.int .i64 a1)∧w'.cell? ⟨ah,1,none⟩=some (.slice (some ⟨go76,0,none⟩) aa.length eL)∧w'.cell? ⟨go76,(ay).toNat,none⟩=some (.int .i64 (rd aa ay))) (ds:= [13]) ⟨(blk_cell af.out 0).trans rfl,(blk_cell af.out 1).trans rfl,hx130_0⟩ (fun hHeld=>?_);refine with_tabW spec_l06DrawOf.tab34 spec_l06DrawOf.bits34 (fun HT_ HW_=>?_)
                generalize wr.drew=w77 at ae ag af HI0 HK HB GG76 HQ79 hf76_0 hx130_0 hx76_0 hHeld ⊢
                refine pu_ 0 156 ?_;refine pu_ 2 158 ?_;refine pu_ 3 159 ?_;refine pu_ 5 161 ?_;refine pu_ 8 164 ?_;refine pu_ 9 165 ?_;refine pu_ 10 166 ?_;refine tk_ 1 157 ?_;refine tk_ 4 160 ?_;refine pu_ 6 162 ?_;refine tk_ 7 163 ?_;refine pu_ 11 167 ?_;refine pu_ 12 168 ?_
                refine la_ 13 none (fun K hK=>?_)
                refine skip_ (w1:=?_) (by rfl) rfl ?_ ?_
                rotate_left
                ·go_simp
                 rfl
                refine hK.out _ _ ?_
                clear hK K;refine done_ (done_of HT_.out (by kernel_rfl)) ?_
                try go_wp2
                go_roundg k2
                case measure=>have:=HK1.out;have:=HK2.out;omega
                case rel=>exact⟨(wrap64 (aZ+1)),(eK),(.slice (some ⟨go76,0,none⟩) aa.length eL),rs_,H',⟨by have:=HK1.out;have:=HK2.out;omega⟩,⟨ro_ HQ79.out⟩,⟨by(with_reducible repeat (first | refine blk_drewN ?_ _ | refine blk_drew ?_ | refine blk_alloc ?_ _));refine blk_far ?_ (by have h_:=Kd.R_ne ae.out ag.out (by decide);intro e_;exact h_ (by rw [e_];rfl)) _;(with_reducible repeat (first | refine blk_drewN ?_ _ | refine blk_drew ?_ | refine blk_alloc ?_ _));exact ag.out⟩,⟨by(with_reducible repeat (first | refine blk_drewN ?_ _ | refine blk_drew ?_ | refine blk_alloc ?_ _));refine blk_far ?_ (by have h_:=Kd.R_ne ae.out af.out (by decide);intro e_;exact h_ (by rw [e_];rfl)) _;(with_reducible repeat (first | refine blk_drewN ?_ _ | refine blk_drew ?_ | refine blk_alloc ?_ _));exact af.out⟩,⟨hi_⟩,⟨hk_⟩,⟨by repeat (first | (with_reducible first | exact HB.out | apply below_alloc | apply pw_below_drewN | apply below_drew1 | refine below_set ?_ (Nat.le_trans HL.out GB76.out) | refine below_set ?_ (IsS122.ge HI0.out) | refine below_set ?_ az.out | refine below_set ?_ aI.out) | exact HB.out)⟩⟩
               ·rw [if_neg c73] at H;exact absurd H (by simp)
              ·rw [if_neg c72] at H;exact absurd H (by simp)
             ·rw [if_neg c71] at H;have c71b0:=e3_ c71;have c71b1:=e4_ c71;have H':=q_ H;clear H
              go_wp2_with (first | ((with_reducible refine gate_callee (f:=158) rfl ?_);refine goesL_ (some 153) rfl rfl Tryz.func158 (by kernel_rfl) rfl #[.int .i64 ji69] rfl (by(try simp only [List.map_toArray,List.map_cons,List.map_nil]);first | done | (simp only [hji69];rfl) | rfl | (simp only [List.length_drop,List.length_take];rfl)) ?_;(with_reducible refine(spec_l01Ones.calls k2 ji69 bi _ A70.out).mono ?_);rintro e w' ⟨rfl,⟨nd,rfl⟩⟩;refine⟨_,rfl,?_⟩))
              go_roundg k2
              case measure=>have:=HK1.out;have:=HK2.out;omega
              case rel=>exact⟨(wrap64 (aZ+1)),(aa),(aw),rs_,H',⟨by have:=HK1.out;have:=HK2.out;omega⟩,⟨ro_ ae.out⟩,⟨bk_⟩,⟨bk_⟩,⟨hi_⟩,⟨hk_⟩,⟨hj_⟩⟩
            ·rw [if_neg c68] at H;exact absurd H (by simp)
           ·rw [if_neg c66] at H;have c66b0:=decide_eq_false c66;clear c66;have H':=q_ H;clear H;go_wp2
            go_roundg k2
            case measure=>have:=HK1.out;have:=HK2.out;omega
            case rel=>exact⟨(wrap64 (ay+1)),(aa),(aw),rs_,H',⟨by have:=HK1.out;have:=HK2.out;omega⟩,⟨ro_ ae.out⟩,⟨bk_⟩,⟨bk_⟩,⟨hi_⟩,⟨hk_⟩,⟨hj_⟩⟩
        ·rw [if_neg c61] at H;have c61b0:=decide_eq_false c61;clear c61;simp only [Option.some.injEq,Prod.mk.injEq] at H;obtain⟨rfl,rfl,rfl,rfl⟩:=H;have ic:=aM.out;have ig:=aC.out;have ij:=aH.out;have ik:=aj.out;have cL:=cz_ af 0;have cN:=cz_ af 1;have cO:=blk_frozen af.out 0;have cP:=blk_frozen af.out 1;obtain⟨eQ,eU,fF⟩:=Kd.R_slice ae.out;subst fF;have il:=aQ.out;have iq:=ai.out;have cQ:=cz_ ag 0;have cR:=cz_ ag 1;have cS:=blk_frozen ag.out 0;have cT:=blk_frozen ag.out 1;go_wp2
         refine bodyPost_ret (results_cell_row rfl _ _ av 26 #[.int .i64 a1, .slice eQ aq.length eU] (0,0) _ rfl (by(with_reducible repeat (first | refine blk_drewN ?_ _ | refine blk_drew ?_ | refine blk_alloc ?_ _));refine blk_put (cs:= #[.int .i64 a1, .slice none 0 0]) ?_ 1 _ rfl;(with_reducible repeat (first | refine blk_drewN ?_ _ | refine blk_drew ?_ | refine blk_alloc ?_ _));refine blk_put (cs:= #[.int .i64 0, .slice none 0 0]) ?_ 0 _ rfl;(with_reducible repeat (first | refine blk_drewN ?_ _ | refine blk_drew ?_ | refine blk_alloc ?_ _));exact ag.out) Tryz.underlying26 rfl (by kernel_rfl)) rfl ?_
         exact⟨_,by first | rfl | (simp [errW_none,errW_some] <;> rfl) | (simp only [← hji3, ← hji5];first | rfl | (simp [errW_none,errW_some] <;> rfl)) | (simp [*,errW_none,errW_some] <;> rfl),by(with_reducible repeat (first | apply Kd.R_alloc | apply Kd.R_drewN | apply Kd.R_drew));exact Kd.R_mono (Kd.R_far (p:=⟨av,1,none⟩) (Kd.R_far (p:=⟨av,0,none⟩) (Kd.R_types ae.out ag.out (by decide)) (fun _ hk=>hk.2) (.int .i64 a1)) (fun _ hk=>hk.2) (.slice eQ aq.length eU)) (fun _ hk=>trivial),hi_,hj_,hk_⟩
     ·rw [if_neg c51] at H;have c51b0:=e3_ c51;have c51b1:=e4_ c51;replace H:=Option.bind_eq_some_iff.mp H;obtain⟨⟨cu,cA,cB⟩,A860,H⟩:=H;replace H:(spec_l06DrawOf.l4 k a1 cu 0 s0_0 cA cB a1 aG)=some (r1,r2,r3,r4):=H;have A86:=q_ A860;clear A860;have H':=q_ H;clear H
      go_enter Tryz.func128,Tryz.ntmps128
      go_wp2_with (first | ((with_reducible refine gate_dst (N:=4) rfl ?_);refine be_ 4 #[.int .i64 0, .slice none 0 0] 26 ?_;intro av hg w87 hbox hb;replace HB:=q_ (below_step hj_ hb);have ag:=q_ (hbox);have ax:=q_ ((by rw [hg];exact(keep_size (w:=w) (g:=g) (row:=none) hk_):w.heap.size≤av));have az:=q_ ((Nat.le_trans HW0.out (by rw [hg];exact(keep_size (w:=w) (g:=g) (row:=none) hk_):w.heap.size≤av):w0.heap.size≤av));have ai:=q_ ((by rw [hg];exact Nat.ne_of_lt (IsS122.lt (show IsS122 w0 _ g s0_0 s0_1 s0_2 from hi_)):g≠av));have aQ:=q_ ((by rw [hg];exact Nat.ne_of_gt (IsS122.lt (show IsS122 w0 _ g s0_0 s0_1 s0_2 from hi_)):av≠g));replace HI0:=q_ (IsS122.below hi_ hb);replace HK:=q_ (KeepBut.trans hk_ (KeepBut.of_below hb g none) (.inl rfl));clear hb hbox hg) | ((with_reducible refine gate_dst (N:=20) rfl ?_);refine Kd.R_make (Kd.int .i64) _ 2 rfl (N:=20) rfl 24 _ _ rfl ji5 rfl rfl Tryz.underlying24 (.int .i64 0) 8 info2 rfl (by decide) (by omega) 0 (ok:=fun _=>True) (okp:=fun _=>True) rfl (fun _ hk=>hk) trivial od_ (Nat.le_trans (Nat.mul_le_mul_right _ (od_:ji5.toNat≤35184372088832)) (by omega)) (Below.refl _ _) (Nat.le_refl _) ?_;intro ed w88 cI hb hg_ hnew_;clear hg_ hnew_;(first | rw [← bL.out] at cI | (simp only [Int.reduceToNat] at cI;rw [← bL.out] at cI));have aN:=q_ (Kd.R_lower cI (keep_size (w:=w) (g:=g) (row:=none) hk_));replace ag:=q_ (bb_ ag.out hb);replace HB:=q_ (below_step hj_ hb);replace HI0:=q_ (IsS122.below hi_ hb);replace HK:=q_ (KeepBut.trans hk_ (KeepBut.of_below hb g none) (.inl rfl));clear hb cI;obtain⟨cJ,cK,fG⟩:=Kd.R_slice aN.out;subst fG) | ((with_reducible refine gate_dst (N:=5) rfl ?_);refine be_ 5 #[.int .i64 0, .slice none 0 0] 26 ?_;intro ah hg w91 hbox hb;replace aN:=q_ (rb_ aN.out hb);replace HB:=q_ (below_step hj_ hb);have af:=q_ (hbox);have aD:=q_ ((by rw [hg];exact(keep_size (w:=w) (g:=g) (row:=none) hk_):w.heap.size≤ah));have aI:=q_ ((Nat.le_trans HW0.out (by rw [hg];exact(keep_size (w:=w) (g:=g) (row:=none) hk_):w.heap.size≤ah):w0.heap.size≤ah));have aC:=q_ ((by rw [hg];exact lt_ ag.out:av≠ah));have aM:=q_ ((by rw [hg];exact gt_ ag.out:ah≠av));have aj:=q_ ((by rw [hg];exact Nat.ne_of_lt (IsS122.lt (show IsS122 w0 _ g s0_0 s0_1 s0_2 from hi_)):g≠ah));have aH:=q_ ((by rw [hg];exact Nat.ne_of_gt (IsS122.lt (show IsS122 w0 _ g s0_0 s0_1 s0_2 from hi_)):ah≠g));replace HI0:=q_ (IsS122.below hi_ hb);replace ag:=q_ (bb_ ag.out hb);replace HK:=q_ (KeepBut.trans hk_ (KeepBut.of_below hb g none) (.inl rfl));clear hb hbox hg;have iw:=aM.out;have iy:=aC.out;have iz:=aH.out;have iA:=aj.out;have cU:=cz_ af 0;have cV:=cz_ af 1;have cW:=blk_frozen af.out 0;have cZ:=blk_frozen af.out 1) | ((with_reducible refine gate_callee (f:=36) rfl ?_);refine gL_ 23 Tryz.func36 #[.pointer (some ⟨g,0,none⟩), .int .i64 4] ?_;(with_reducible refine(spec_l01Next.calls g s0_0 s0_1 s0_2 4 bg aV aW w0 _ ?aX ?aY A8.out).mono ?_);(case aX=>exact hi_);(case aY=>exact hj_);rintro e w95 ⟨rfl,hi,hb,hk⟩;refine⟨_,rfl,?_⟩;replace ag:=q_ (KeepBut.blk hk (g':=av) (o:= .cells #[.int .i64 0, .slice none 0 0] 26 (0,0)) (by(with_reducible repeat (first | refine blk_drewN ?_ _ | refine blk_drew ?_ | refine blk_alloc ?_ _));refine blk_far ?_ aC.out _;(with_reducible repeat (first | refine blk_drewN ?_ _ | refine blk_drew ?_ | refine blk_alloc ?_ _));refine blk_far ?_ aC.out _;(with_reducible repeat (first | refine blk_drewN ?_ _ | refine blk_drew ?_ | refine blk_alloc ?_ _));exact ag.out) aQ.out (by simp));replace aN:=q_ (Kd.R_mono (Kd.R_keep (IsS122.apart (show IsS122 w0 _ g s0_0 s0_1 s0_2 from hi_) (by(with_reducible repeat (first | apply Kd.R_alloc | apply Kd.R_drewN | apply Kd.R_drew));exact(Kd.R_mono (Kd.R_far (p:=⟨ah,1,none⟩) (Kd.R_far (p:=⟨ah,0,none⟩) (Kd.R_types aN.out af.out (by decide)) (fun _ hk=>hk.2) (.int .i64 a1)) (fun _ hk=>hk.2) (.slice cJ aG.length cK)) (fun _ h_=>h_.1))) (by decide)) hk (fun _ h=>h.2)) (fun _ h=>h.1));replace HK:=q_ (KeepBut.trans hk_ hk (.inl rfl));replace HB:=q_ (hb);replace af:=q_ (KeepBut.blk hk (g':=ah) (o:= .cells #[.int .i64 a1, .slice cJ aG.length cK] 26 (0,0)) (by(with_reducible repeat (first | refine blk_drewN ?_ _ | refine blk_drew ?_ | refine blk_alloc ?_ _));refine blk_put (cs:= #[.int .i64 a1, .slice none 0 0]) ?_ 1 _ rfl;(with_reducible repeat (first | refine blk_drewN ?_ _ | refine blk_drew ?_ | refine blk_alloc ?_ _));refine blk_put (cs:= #[.int .i64 0, .slice none 0 0]) ?_ 0 _ rfl;(with_reducible repeat (first | refine blk_drewN ?_ _ | refine blk_drew ?_ | refine blk_alloc ?_ _));exact af.out) aH.out (by simp));replace HI0:=q_ (hi);(try clear hb);(try clear hk);(try clear hi);have df:=cz_ af 0;have dh:=cz_ af 1;have di:=blk_frozen af.out 0;have dl:=blk_frozen af.out 1) | ((with_reducible refine gate_callee (f:=36) rfl ?_);refine gL_ 28 Tryz.func36 #[.pointer (some ⟨g,0,none⟩), .int .i64 (aG.length:Int)] ?_;(with_reducible refine(spec_l01Next.calls g s0_0 aV aW (aG.length:Int) cu cA cB w0 _ ?aX ?aY A86.out).mono ?_);(case aX=>exact hi_);(case aY=>exact hj_);rintro e w97 ⟨rfl,hi,hb,hk⟩;refine⟨_,rfl,?_⟩;replace ag:=q_ (KeepBut.blk hk (g':=av) (o:= .cells #[.int .i64 0, .slice none 0 0] 26 (0,0)) bk_ aQ.out (by simp));replace aN:=q_ (Kd.R_mono (Kd.R_keep (IsS122.apart (show IsS122 w0 _ g s0_0 aV aW from hi_) (ro_ aN.out) (by decide)) hk (fun _ h=>h.2)) (fun _ h=>h.1));replace af:=q_ (KeepBut.blk hk (g':=ah) (o:= .cells #[.int .i64 a1, .slice cJ aG.length cK] 26 (0,0)) bk_ aH.out (by simp));replace HK:=q_ (KeepBut.trans hk_ hk (.inl rfl));replace HB:=q_ (hb);replace HI0:=q_ (hi);(try clear hb);(try clear hk);(try clear hi)))
      go_loopg [12] k (fun kq v12 w'=> ∃(aU:Int) (aq:List Int) (aw:Value),v12= .int .i64 aU∧Aside0 (spec_l06DrawOf.l4 kq a1 cu aU s0_0 cA cB a1 aq=some (r1,r2,r3,r4))∧Aside0 (kq≤k)∧Aside0 (Kd.R (Kd.int .i64) 2 w' w.heap.size (fun _=>True) aw aq)∧Aside0 (w'.heap[av]?=some (.cells #[.int .i64 0,(.slice none 0 0)] 26 (0,0)))∧Aside0 (w'.heap[ah]?=some (.cells #[.int .i64 a1,aw] 26 (0,0)))∧Aside0 (IsS122 w0 w' g s0_0 cA cB)∧Aside0 (KeepBut w w' g none)∧Aside0 (Below w0.heap.size w0 w'))
      case atStart=>exact⟨(0),(aG),(.slice cJ aG.length cK),rs_,H',⟨Nat.le_refl _⟩,⟨ro_ aN.out⟩,⟨bk_⟩,⟨bk_⟩,⟨hi_⟩,⟨hk_⟩,⟨hj_⟩⟩
      case round=>
       clear H';(try clear c4);(try clear c4b0);(try clear c4b1);(try clear c6);(try clear c6b0);(try clear c6b1);(try clear c7);(try clear c7b0);(try clear c7b1);(try clear c9);(try clear c9b0);(try clear c9b1);(try clear c19b0);(try clear c24b0);(try clear c26);(try clear c26b0);(try clear c26b1);(try clear c28);(try clear c28b0);(try clear c28b1);(try clear c30);(try clear c30b0);(try clear c30b1);(try clear c31);(try clear c31b0);(try clear c32);(try clear c32b0);(try clear p33);(try clear q33);(try clear c38);(try clear c38b0);(try clear c39);(try clear c39b0);(try clear p40);(try clear q40);(try clear c51);(try clear c51b0);(try clear c51b1);(try clear c61b0);(try clear c66b0);(try clear c68);(try clear c68b0);(try clear c68b1);(try clear c71);(try clear c71b0);(try clear c71b1);(try clear c72);(try clear c72b0);(try clear c73);(try clear c73b0);(try clear c74b0);(try clear p76);(try clear q76);(try clear bq);(try clear bu);(try clear bz);(try clear bA);(try clear bO);(try clear bP);(try clear bT);(try clear bU);(try clear bX);(try clear bY);(try clear cC);(try clear cD);(try clear cL);(try clear cN);(try clear cQ);(try clear cR);(try clear cU);(try clear cV);(try clear df);(try clear dh);(try clear bv);(try clear bw);(try clear bC);(try clear bD);(try clear bQ);(try clear bS);(try clear bV);(try clear bW);(try clear bZ);(try clear cf);(try clear cE);(try clear cF);(try clear cO);(try clear cP);(try clear cS);(try clear cT);(try clear cW);(try clear cZ);(try clear di);(try clear dl);(try clear hx125_0);(try clear hx127_0);(try clear hx130_0);(try clear hx33_0);(try clear hx40_0);(try clear hx76_0);(try clear p125);(try clear p127);(try clear p130);(try clear p33);(try clear p40);(try clear p76);(try clear q125);(try clear q127);(try clear q130);(try clear q33);(try clear q40);(try clear q76);obtain⟨aU,aq,aw,rfl,HA,HK1,ae,ag,af,HI0,HK,HB⟩:=hrel;cases gk with
       | zero=>exact absurd HA.out (by simp [spec_l06DrawOf.l4])
       | succ k1=>
        have H:=HA.out;clear HA;simp only [spec_l06DrawOf.l4] at H
        by_cases c98:aU < (aq.length:Int)
        ·rw [if_pos c98] at H;have c98b0:=decide_eq_true c98;clear c98
         by_cases c99:0≤aU
         ·rw [if_pos c99] at H;have c99b0:=decide_eq_true c99;clear c99;obtain⟨dB,hy⟩: ∃y_:List Int,y_=(aq.set (aU:Int).toNat (Go.bits .xor .i64 aU cu)):=⟨_,rfl⟩
          replace H:(spec_l06DrawOf.l4 k1 a1 cu (wrap64 (aU+1)) s0_0 cA cB a1 dB)=some (r1,r2,r3,r4):=hh_;have eZ:=q_ hy;clear hy;have H':=q_ H;clear H;have fT:=aM.out;have fU:=aC.out;have fV:=aH.out;have fW:=aj.out;have dC:=cz_ af 0;have dD:=cz_ af 1;have dE:=blk_frozen af.out 0;have dF:=blk_frozen af.out 1;obtain⟨iB,dN,fa⟩:=Kd.R_slice ae.out;subst fa;have p100:0≤(aU:Int):=od_;have q100:(aU:Int) < ((aq.length:Int):Int):=od_;obtain⟨go100,iC,dP,dQ,gl100,cl100,HG100⟩:=Kd.R_form ae.out (by omega)
          (first | cases dP | (injection dP with ea_ en_ ec_;(first | subst ea_ | (injection ea_ with ea_;subst ea_));subst ec_;clear en_))
          have GB100:=q_ dQ;have GG100:=q_ HG100;clear dQ gl100 HG100;obtain⟨hx100_0,hf100_0⟩:=Kd.R_celln 0 ae.out (aU:Int) p100 q100;replace p100:=eq_true p100;replace q100:=eq_true q100;have HP105:=Kd.R_putg ae.out (aU:Int) (Go.bits .xor .i64 aU cu)
          go_wp2_with (first | ((with_reducible refine gate_store (t:=2) (p:=42) rfl ?_);refine store_event (t:=2) (p:=42) (v:=?vo_w106) (w1:=(wr.setCell ⟨go100,(aU:Int).toNat,none⟩ (.int .i64 (Go.bits .xor .i64 aU cu)))) ?hg ?ho ?hn ?hr ?_;(case ho=>rfl);(case hg=>rfl);(case hn=>rfl);(case hr=>first | (go_simp;done) | (go_simp;rfl));intro w106 hw;have hg:wr.grownBy w106 (some go100):=(by rw [hw];exact HP105.2);have hp_:Kd.R (Kd.int .i64) 2 w106 w.heap.size (fun _=>True) (.slice (some ⟨go100,0,none⟩) aq.length dN) dB:=(by rw [hw,eZ.out];exact HP105.1);clear HP105;replace ag:=q_ (bg_ ag.out hg (Kd.R_ne ae.out ag.out (by decide)));replace af:=q_ (bg_ af.out hg (Kd.R_ne ae.out af.out (by decide)));replace HI0:=q_ (IsS122.grown hi_ hg (IsS122.own_ne HI0.out ae.out (by decide)));replace HB:=q_ ((by rw [hw];exact below_set (HB.out) (Nat.le_trans HL.out GB100.out):Below w0.heap.size w0 w106));replace HK:=q_ (KeepBut.trans hk_ (KeepBut.of_grown hg g) (Kd.R_base2 ae.out));replace ae:=q_ (hp_);clear hg hw hp_))
          go_roundg k1
          case measure=>have:=HK1.out;omega
          case rel=>exact⟨(wrap64 (aU+1)),(dB),(.slice (some ⟨go100,0,none⟩) aq.length dN),rs_,H',⟨by have:=HK1.out;omega⟩,⟨ro_ ae.out⟩,⟨bk_⟩,⟨bk_⟩,⟨hi_⟩,⟨hk_⟩,⟨hj_⟩⟩
         ·rw [if_neg c99] at H;exact absurd H (by simp)
        ·rw [if_neg c98] at H;have c98b0:=decide_eq_false c98;clear c98;replace H:=Option.bind_eq_some_iff.mp H;obtain⟨⟨dG,dH,dI⟩,A1070,H⟩:=H;replace H:(spec_l06DrawOf.l5 k1 a1 dG s0_0 dH dI a1 aq)=some (r1,r2,r3,r4):=H;have A107:=q_ A1070;clear A1070;have H':=q_ H;clear H;have fZ:=aM.out;have f7:=aC.out;have f8:=aH.out;have f9:=aj.out;have dJ:=cz_ af 0;have dK:=cz_ af 1;have dL:=blk_frozen af.out 0;have dM:=blk_frozen af.out 1;obtain⟨dR,dU,fc⟩:=Kd.R_slice ae.out;subst fc
         go_wp2_with (first | ((with_reducible refine gate_callee (f:=36) rfl ?_);refine gL_ 44 Tryz.func36 #[.pointer (some ⟨g,0,none⟩), .int .i64 4] ?_;(with_reducible refine(spec_l01Next.calls g s0_0 cA cB 4 dG dH dI w0 _ ?aX ?aY A107.out).mono ?_);(case aX=>exact hi_);(case aY=>exact hj_);rintro e w112 ⟨rfl,hi,hb,hk⟩;refine⟨_,rfl,?_⟩;replace ae:=q_ (Kd.R_mono (Kd.R_keep (IsS122.apart (show IsS122 w0 _ g s0_0 cA cB from hi_) (ro_ ae.out) (by decide)) hk (fun _ h=>h.2)) (fun _ h=>h.1));replace ag:=q_ (KeepBut.blk hk (g':=av) (o:= .cells #[.int .i64 0, .slice none 0 0] 26 (0,0)) bk_ aQ.out (by simp));replace af:=q_ (KeepBut.blk hk (g':=ah) (o:= .cells #[.int .i64 a1, .slice dR aq.length dU] 26 (0,0)) bk_ aH.out (by simp));replace HK:=q_ (KeepBut.trans hk_ hk (.inl rfl));replace HB:=q_ (hb);replace HI0:=q_ (hi);(try clear hb);(try clear hk);(try clear hi)))
         go_loopg [13] k1 (fun kq v13 w'=> ∃(bf:Int) (aJ:Int) (aK:Int) (aa:List Int) (aw:Value),v13= .int .i64 bf∧Aside0 (spec_l06DrawOf.l5 kq a1 bf s0_0 aJ aK a1 aa=some (r1,r2,r3,r4))∧Aside0 (kq≤k1)∧Aside0 (Kd.R (Kd.int .i64) 2 w' w.heap.size (fun _=>True) aw aa)∧Aside0 (w'.heap[av]?=some (.cells #[.int .i64 0,(.slice none 0 0)] 26 (0,0)))∧Aside0 (w'.heap[ah]?=some (.cells #[.int .i64 a1,aw] 26 (0,0)))∧Aside0 (IsS122 w0 w' g s0_0 aJ aK)∧Aside0 (KeepBut w w' g none)∧Aside0 (Below w0.heap.size w0 w'))
         case atStart=>exact⟨(dG),(dH),(dI),(aq),(.slice dR aq.length dU),rs_,H',⟨Nat.le_refl _⟩,⟨ro_ ae.out⟩,⟨bk_⟩,⟨bk_⟩,⟨hi_⟩,⟨hk_⟩,⟨hj_⟩⟩
         case round=>
          clear H';(try clear c4);(try clear c4b0);(try clear c4b1);(try clear c6);(try clear c6b0);(try clear c6b1);(try clear c7);(try clear c7b0);(try clear c7b1);(try clear c9);(try clear c9b0);(try clear c9b1);(try clear c19b0);(try clear c24b0);(try clear c26);(try clear c26b0);(try clear c26b1);(try clear c28);(try clear c28b0);(try clear c28b1);(try clear c30);(try clear c30b0);(try clear c30b1);(try clear c31);(try clear c31b0);(try clear c32);(try clear c32b0);(try clear p33);(try clear q33);(try clear c38);(try clear c38b0);(try clear c39);(try clear c39b0);(try clear p40);(try clear q40);(try clear c51);(try clear c51b0);(try clear c51b1);(try clear c61b0);(try clear c66b0);(try clear c68);(try clear c68b0);(try clear c68b1);(try clear c71);(try clear c71b0);(try clear c71b1);(try clear c72);(try clear c72b0);(try clear c73);(try clear c73b0);(try clear c74b0);(try clear p76);(try clear q76);(try clear c98b0);(try clear c99);(try clear c99b0);(try clear p100);(try clear q100);(try clear dC);(try clear dD);(try clear dJ);(try clear dK);(try clear bq);(try clear bu);(try clear bz);(try clear bA);(try clear bO);(try clear bP);(try clear bT);(try clear bU);(try clear bX);(try clear bY);(try clear cC);(try clear cD);(try clear cL);(try clear cN);(try clear cQ);(try clear cR);(try clear cU);(try clear cV);(try clear df);(try clear dh);(try clear dE);(try clear dF);(try clear dL);(try clear dM);(try clear bv);(try clear bw);(try clear bC);(try clear bD);(try clear bQ);(try clear bS);(try clear bV);(try clear bW);(try clear bZ);(try clear cf);(try clear cE);(try clear cF);(try clear cO);(try clear cP);(try clear cS);(try clear cT);(try clear cW);(try clear cZ);(try clear di);(try clear dl);(try clear hx100_0);(try clear hx125_0);(try clear hx127_0);(try clear hx130_0);(try clear hx33_0);(try clear hx40_0);(try clear hx76_0);(try clear p100);(try clear p125);(try clear p127);(try clear p130);(try clear p33);(try clear p40);(try clear p76);(try clear q100);(try clear q125);(try clear q127);(try clear q130);(try clear q33);(try clear q40);(try clear q76);obtain⟨bf,aJ,aK,aa,aw,rfl,HA,HK2,ae,ag,af,HI0,HK,HB⟩:=hrel;cases gk with
          | zero=>exact absurd HA.out (by simp [spec_l06DrawOf.l5])
          | succ k2=>
           have H:=HA.out;clear HA;simp only [spec_l06DrawOf.l5] at H
           by_cases c113:bf > 0
           ·rw [if_pos c113] at H;have c113b0:=decide_eq_true c113;clear c113;replace H:=Option.bind_eq_some_iff.mp H;obtain⟨⟨ak,dr,du⟩,A1140,H⟩:=H;replace H:((spec_l01Next.f s0_0 dr du a1).bind fun bk=>(if 0≤(IntKind.u64.wrap (bk.1)) then(if 0≤ak then(if ak < (aa.length:Int) then((some (aa.set (ak:Int).toNat (Go.bits .xor .i64 (rd aa ak) (shl .i64 1 (IntKind.u64.wrap (bk.1)))):List Int)).bind fun ba=>(if 0≤(Go.bits .xor .i64 ak (shl .i64 1 (IntKind.u64.wrap (bk.1)))) then(if(Go.bits .xor .i64 ak (shl .i64 1 (IntKind.u64.wrap (bk.1)))) < (aa.length:Int) then(spec_l06DrawOf.l5 k2 a1 (wrap64 (bf - 1)) s0_0 bk.2.1 bk.2.2 a1 (ba.set ((Go.bits .xor .i64 ak (shl .i64 1 (IntKind.u64.wrap (bk.1)))):Int).toNat (Go.bits .xor .i64 (rd ba (Go.bits .xor .i64 ak (shl .i64 1 (IntKind.u64.wrap (bk.1))))) (shl .i64 1 (IntKind.u64.wrap (bk.1)))))) else(none)) else(none))) else(none)) else(none)) else(none)))=some (r1,r2,r3,r4):=H;have A114:=q_ A1140;clear A1140;replace H:=Option.bind_eq_some_iff.mp H;obtain⟨⟨bE,bJ,bK⟩,A1150,H⟩:=H;replace H:(if 0≤(IntKind.u64.wrap (bE)) then(if 0≤ak then(if ak < (aa.length:Int) then((some (aa.set (ak:Int).toNat (Go.bits .xor .i64 (rd aa ak) (shl .i64 1 (IntKind.u64.wrap (bE)))):List Int)).bind fun ba=>(if 0≤(Go.bits .xor .i64 ak (shl .i64 1 (IntKind.u64.wrap (bE)))) then(if(Go.bits .xor .i64 ak (shl .i64 1 (IntKind.u64.wrap (bE)))) < (aa.length:Int) then(spec_l06DrawOf.l5 k2 a1 (wrap64 (bf - 1)) s0_0 bJ bK a1 (ba.set ((Go.bits .xor .i64 ak (shl .i64 1 (IntKind.u64.wrap (bE)))):Int).toNat (Go.bits .xor .i64 (rd ba (Go.bits .xor .i64 ak (shl .i64 1 (IntKind.u64.wrap (bE))))) (shl .i64 1 (IntKind.u64.wrap (bE)))))) else(none)) else(none))) else(none)) else(none)) else(none))=some (r1,r2,r3,r4):=H;have A115:=q_ A1150;clear A1150;obtain⟨ji116,hji116⟩: ∃j_:Int,(IntKind.u64.wrap (bE))=j_:=⟨_,rfl⟩
            replace H:(if 0≤(ji116) then(if 0≤ak then(if ak < (aa.length:Int) then((some (aa.set (ak:Int).toNat (Go.bits .xor .i64 (rd aa ak) (shl .i64 1 (ji116))):List Int)).bind fun ba=>(if 0≤(Go.bits .xor .i64 ak (shl .i64 1 (ji116))) then(if(Go.bits .xor .i64 ak (shl .i64 1 (ji116))) < (aa.length:Int) then(spec_l06DrawOf.l5 k2 a1 (wrap64 (bf - 1)) s0_0 bJ bK a1 (ba.set ((Go.bits .xor .i64 ak (shl .i64 1 (ji116))):Int).toNat (Go.bits .xor .i64 (rd ba (Go.bits .xor .i64 ak (shl .i64 1 (ji116)))) (shl .i64 1 (ji116))))) else(none)) else(none))) else(none)) else(none)) else(none))=some (r1,r2,r3,r4):=by first | (rw [hji116] at H;exact H) | (simp only [hji116] at H ⊢;exact H)
            (try rw [hji116] at A114)
            (try rw [hji116] at A115)
            by_cases c117:0≤(ji116)
            ·rw [if_pos c117] at H;have c117b0:=eq_true c117;have c117b1:=decide_eq_true c117;clear c117;obtain⟨ji118,hji118⟩: ∃j_:Int,(shl .i64 1 (ji116))=j_:=⟨_,rfl⟩
             replace H:(if 0≤ak then(if ak < (aa.length:Int) then((some (aa.set (ak:Int).toNat (Go.bits .xor .i64 (rd aa ak) (ji118)):List Int)).bind fun ba=>(if 0≤(Go.bits .xor .i64 ak (ji118)) then(if(Go.bits .xor .i64 ak (ji118)) < (aa.length:Int) then(spec_l06DrawOf.l5 k2 a1 (wrap64 (bf - 1)) s0_0 bJ bK a1 (ba.set ((Go.bits .xor .i64 ak (ji118)):Int).toNat (Go.bits .xor .i64 (rd ba (Go.bits .xor .i64 ak (ji118))) (ji118)))) else(none)) else(none))) else(none)) else(none))=some (r1,r2,r3,r4):=by first | (rw [hji118] at H;exact H) | (simp only [hji118] at H ⊢;exact H)
             (try rw [hji118] at A114)
             (try rw [hji118] at A115)
             have hji118_:=s1_ hji118;have hji118z:=s2_ hji118;have hji118u:=s3_ hji118;have hji118v:=s4_ hji118;have hji118y:=s5_ hji118;have hji118x:=s6_ hji118
             by_cases c119:0≤ak
             ·rw [if_pos c119] at H;have c119b0:=decide_eq_true c119;clear c119
              by_cases c120:ak < (aa.length:Int)
              ·rw [if_pos c120] at H;have c120b0:=decide_eq_true c120;clear c120;obtain⟨ba,hy⟩: ∃y_:List Int,y_=(aa.set (ak:Int).toNat (Go.bits .xor .i64 (rd aa ak) (ji118))):=⟨_,rfl⟩
               replace H:(if 0≤(Go.bits .xor .i64 ak (ji118)) then(if(Go.bits .xor .i64 ak (ji118)) < (aa.length:Int) then(spec_l06DrawOf.l5 k2 a1 (wrap64 (bf - 1)) s0_0 bJ bK a1 (ba.set ((Go.bits .xor .i64 ak (ji118)):Int).toNat (Go.bits .xor .i64 (rd ba (Go.bits .xor .i64 ak (ji118))) (ji118)))) else(none)) else(none))=some (r1,r2,r3,r4):=hh_;have dV:=q_ hy;clear hy
               by_cases c122:0≤(Go.bits .xor .i64 ak (ji118))
               ·rw [if_pos c122] at H;have c122b0:=decide_eq_true c122;clear c122
                by_cases c123:(Go.bits .xor .i64 ak (ji118)) < (aa.length:Int)
                ·rw [if_pos c123] at H;have c123b0:=decide_eq_true c123;clear c123;obtain⟨eV,hy⟩: ∃y_:List Int,y_=(ba.set ((Go.bits .xor .i64 ak (ji118)):Int).toNat (Go.bits .xor .i64 (rd ba (Go.bits .xor .i64 ak (ji118))) (ji118))):=⟨_,rfl⟩
                 replace H:(spec_l06DrawOf.l5 k2 a1 (wrap64 (bf - 1)) s0_0 bJ bK a1 eV)=some (r1,r2,r3,r4):=hh_;have fg:=q_ hy;clear hy;have H':=q_ H;clear H;have ga:=aM.out;have gh:=aC.out;have gi:=aH.out;have gj:=aj.out;have fH:=cz_ af 0;have fI:=cz_ af 1;have fJ:=blk_frozen af.out 0;have fK:=blk_frozen af.out 1;obtain⟨dW,bF,fj⟩:=Kd.R_slice ae.out;subst fj
                 try go_wp2_with (first | ((with_reducible refine gate_callee (f:=36) rfl ?_);refine gL_ 53 Tryz.func36 #[.pointer (some ⟨g,0,none⟩), .int .i64 (aa.length:Int)] ?_;(with_reducible refine(spec_l01Next.calls g s0_0 aJ aK (aa.length:Int) ak dr du w0 _ ?aX ?aY A114.out).mono ?_);(case aX=>exact hi_);(case aY=>exact hj_);rintro e w129 ⟨rfl,hi,hb,hk⟩;refine⟨_,rfl,?_⟩;replace ae:=q_ (Kd.R_mono (Kd.R_keep (IsS122.apart (show IsS122 w0 _ g s0_0 aJ aK from hi_) (ro_ ae.out) (by decide)) hk (fun _ h=>h.2)) (fun _ h=>h.1));replace ag:=q_ (KeepBut.blk hk (g':=av) (o:= .cells #[.int .i64 0, .slice none 0 0] 26 (0,0)) bk_ aQ.out (by simp));replace af:=q_ (KeepBut.blk hk (g':=ah) (o:= .cells #[.int .i64 a1, .slice dW aa.length bF] 26 (0,0)) bk_ aH.out (by simp));replace HK:=q_ (KeepBut.trans hk_ hk (.inl rfl));replace HB:=q_ (hb);replace HI0:=q_ (hi);(try clear hb);(try clear hk);(try clear hi)) | ((with_reducible refine gate_callee (f:=36) rfl ?_);refine gL_ 56 Tryz.func36 #[.pointer (some ⟨g,0,none⟩), .int .i64 a1] ?_;(with_reducible refine(spec_l01Next.calls g s0_0 dr du a1 bE bJ bK w0 _ ?aX ?aY A115.out).mono ?_);(case aX=>exact hi_);(case aY=>exact hj_);rintro e w130 ⟨rfl,hi,hb,hk⟩;refine⟨_,rfl,?_⟩;replace ae:=q_ (Kd.R_mono (Kd.R_keep (IsS122.apart (show IsS122 w0 _ g s0_0 dr du from hi_) (ro_ ae.out) (by decide)) hk (fun _ h=>h.2)) (fun _ h=>h.1));replace ag:=q_ (KeepBut.blk hk (g':=av) (o:= .cells #[.int .i64 0, .slice none 0 0] 26 (0,0)) bk_ aQ.out (by simp));replace af:=q_ (KeepBut.blk hk (g':=ah) (o:= .cells #[.int .i64 a1, .slice dW aa.length bF] 26 (0,0)) bk_ aH.out (by simp));replace HK:=q_ (KeepBut.trans hk_ hk (.inl rfl));replace HB:=q_ (hb);replace HI0:=q_ (hi);(try clear hb);(try clear hk);(try clear hi)))
                 replace ae:=q_ (Kd.R_drew ae.out);replace ag:=q_ (blk_drew ag.out);replace af:=q_ (blk_drew af.out);replace HI0:=q_ (IsS122.drew HI0.out);replace HK:=q_ (keep_drew HK.out);replace HB:=q_ (below_drew1 HB.out);have p145:0≤(ak:Int):=od_;have q145:ak < (aa.length:Int):=od_;obtain⟨iD,e145,hx145_0⟩:=Kd.at_int (Kd.R_reads' ae.out).2.2 ak p145 q145;cases e145
                 replace p145:=eq_true p145;replace q145:=eq_true q145;have p121:0≤(ak:Int):=od_;have q121:(ak:Int) < ((aa.length:Int):Int):=od_;obtain⟨go121,iE,dX,dY,gl121,cl121,HG121⟩:=Kd.R_form ae.out (by omega)
                 (first | cases dX | (injection dX with ea_ en_ ec_;(first | subst ea_ | (injection ea_ with ea_;subst ea_));subst ec_;clear en_))
                 have GB121:=q_ dY;have GG121:=q_ HG121;clear dY gl121 HG121
                 (first | simp only [add_plain] at hx145_0 | skip)
                 obtain⟨hx121_0,hf121_0⟩:=Kd.R_celln 0 ae.out (ak:Int) p121 q121;replace p121:=eq_true p121;replace q121:=eq_true q121;have HN0_go121:=q_ (show g≠go121 from by have h_:=IsS122.own_ne HI0.out ae.out (by decide);intro e_;exact h_ (by rw [e_];rfl));have HP132:=Kd.R_putn ae.out (ak:Int) (Go.bits .xor .i64 (rd aa ak) (ji118));rw [← dV.out] at HP132;have HQ132:=q_ HP132;clear HP132;refine st_ (n:=12) (S:=fun w'=>w'.cell? ⟨ah,0,none⟩=some (.int .i64 a1)∧w'.cell? ⟨ah,1,none⟩=some (.slice (some ⟨go121,0,none⟩) aa.length bF)∧w'.cell? ⟨go121,(ak).toNat,none⟩=some (.int .i64 (rd aa ak))) (ds:= [11]) ⟨(blk_cell af.out 0).trans rfl,(blk_cell af.out 1).trans rfl,hx145_0⟩ (fun hHeld=>?_);refine with_tabW spec_l06DrawOf.tab12 spec_l06DrawOf.bits12 (fun HT_ HW_=>?_)
                 generalize w130.drew=w131 at ae ag af HI0 HK HB GG121 HQ132 hf121_0 hx121_0 hx145_0 hHeld ⊢
                 refine pu_ 0 59 ?_;refine pu_ 2 61 ?_;refine pu_ 3 62 ?_;refine pu_ 5 64 ?_;refine pu_ 8 67 ?_;refine tk_ 1 60 ?_;refine tk_ 4 63 ?_;refine pu_ 6 65 ?_;refine tk_ 7 66 ?_;refine pu_ 9 68 ?_;refine pu_ 10 69 ?_
                 refine la_ 11 none (fun K hK=>?_)
                 refine skip_ (w1:=?_) (by rfl) rfl ?_ ?_
                 rotate_left
                 ·go_simp
                  rfl
                 refine hK.out _ _ ?_
                 clear hK K;refine done_ (done_of HT_.out (by kernel_rfl)) ?_
                 try go_wp2
                 have n0_:Aside0 (Kd.R (Kd.int .i64) 2 (w131.setCell ⟨go121,(ak:Int).toNat,none⟩ (.int .i64 (Go.bits .xor .i64 (rd aa ak) (ji118)))) w.heap.size (fun _=>True) (.slice (some ⟨go121,0,none⟩) aa.length bF) ba):=⟨ro_ HQ132.out⟩
                 have n1_:Aside0 ((w131.setCell ⟨go121,(ak:Int).toNat,none⟩ (.int .i64 (Go.bits .xor .i64 (rd aa ak) (ji118)))).heap[av]?=some (.cells #[.int .i64 0, .slice none 0 0] 26 (0,0))):=⟨by(with_reducible repeat (first | refine blk_drewN ?_ _ | refine blk_drew ?_ | refine blk_alloc ?_ _));refine blk_far ?_ (by have h_:=Kd.R_ne ae.out ag.out (by decide);intro e_;exact h_ (by rw [e_];rfl)) _;(with_reducible repeat (first | refine blk_drewN ?_ _ | refine blk_drew ?_ | refine blk_alloc ?_ _));exact ag.out⟩
                 have n2_:Aside0 ((w131.setCell ⟨go121,(ak:Int).toNat,none⟩ (.int .i64 (Go.bits .xor .i64 (rd aa ak) (ji118)))).heap[ah]?=some (.cells #[.int .i64 a1, .slice (some ⟨go121,0,none⟩) aa.length bF] 26 (0,0))):=⟨by(with_reducible repeat (first | refine blk_drewN ?_ _ | refine blk_drew ?_ | refine blk_alloc ?_ _));refine blk_far ?_ (by have h_:=Kd.R_ne ae.out af.out (by decide);intro e_;exact h_ (by rw [e_];rfl)) _;(with_reducible repeat (first | refine blk_drewN ?_ _ | refine blk_drew ?_ | refine blk_alloc ?_ _));exact af.out⟩
                 have n3_:Aside0 (IsS122 w0 (w131.setCell ⟨go121,(ak:Int).toNat,none⟩ (.int .i64 (Go.bits .xor .i64 (rd aa ak) (ji118)))) g s0_0 bJ bK):=⟨hi_⟩
                 have n4_:Aside0 (KeepBut w (w131.setCell ⟨go121,(ak:Int).toNat,none⟩ (.int .i64 (Go.bits .xor .i64 (rd aa ak) (ji118)))) g none):=⟨hk_⟩
                 have n5_:Aside0 (Below w0.heap.size w0 (w131.setCell ⟨go121,(ak:Int).toNat,none⟩ (.int .i64 (Go.bits .xor .i64 (rd aa ak) (ji118))))):=⟨by repeat (first | (with_reducible first | exact HB.out | apply below_alloc | apply pw_below_drewN | apply below_drew1 | refine below_set ?_ (Nat.le_trans HL.out GB121.out) | refine below_set ?_ (IsS122.ge HI0.out) | refine below_set ?_ az.out | refine below_set ?_ aI.out) | exact HB.out)⟩
                 (try clear ae);(try clear ag);(try clear af);(try clear HI0);(try clear HK);(try clear HB)
                 generalize (w131.setCell ⟨go121,(ak:Int).toNat,none⟩ (.int .i64 (Go.bits .xor .i64 (rd aa ak) (ji118))))=w133 at n0_ n1_ n2_ n3_ n4_ n5_ ⊢
                 have ae:=n0_;have ag:=n1_;have af:=n2_;have HI0:=n3_;have HK:=n4_;have HB:=n5_;clear n0_ n1_ n2_ n3_ n4_ n5_;replace ae:=q_ (Kd.R_drew ae.out);replace ag:=q_ (blk_drew ag.out);replace af:=q_ (blk_drew af.out);replace HI0:=q_ (IsS122.drew HI0.out);replace HK:=q_ (keep_drew HK.out);replace HB:=q_ (below_drew1 HB.out);have p147:0≤((Go.bits .xor .i64 ak (ji118)):Int):=od_;have q147:(Go.bits .xor .i64 ak (ji118)) < (ba.length:Int):=(by have h_:((Go.bits .xor .i64 ak (ji118)):Int) < ((aa.length:Int):Int):=od_;first | (have e_:=(Kd.R_reads' ae.out).1;omega) | simpa only [dV.out,List.length_set] using h_)
                 have ql147:(((Go.bits .xor .i64 ak (ji118)):Int) < ((aa.length:Int):Int))=True:=eq_true od_;obtain⟨fk,e147,hx147_0⟩:=Kd.at_int (Kd.R_reads' ae.out).2.2 (Go.bits .xor .i64 ak (ji118)) p147 q147;obtain rfl:(⟨go121,0,none⟩:Addr)=fk:=(by injection e147)
                 (first | simp only [add_plain] at hx147_0 | simp only [add_at] at hx147_0 | simp only [Addr.add,Nat.zero_add] at hx147_0 | skip)
                 replace p147:=eq_true p147;replace q147:=eq_true q147;have p124:0≤((Go.bits .xor .i64 ak (ji118)):Int):=od_;have q124:((Go.bits .xor .i64 ak (ji118)):Int) < ((aa.length:Int):Int):=od_;obtain⟨hx124_0,hf124_0⟩:=Kd.R_celln 0 ae.out ((Go.bits .xor .i64 ak (ji118)):Int) p124 q124;replace p124:=eq_true p124;replace q124:=eq_true q124;have HN0_go121:=q_ (show g≠go121 from by have h_:=IsS122.own_ne HI0.out ae.out (by decide);intro e_;exact h_ (by rw [e_];rfl));have HP135:=Kd.R_putn ae.out ((Go.bits .xor .i64 ak (ji118)):Int) (Go.bits .xor .i64 (rd ba (Go.bits .xor .i64 ak (ji118))) (ji118));rw [← fg.out] at HP135;have HQ135:=q_ HP135;clear HP135;refine st_ (n:=16) (S:=fun w'=>w'.cell? ⟨ah,0,none⟩=some (.int .i64 a1)∧w'.cell? ⟨ah,1,none⟩=some (.slice (some ⟨go121,0,none⟩) aa.length bF)∧w'.cell? ⟨go121,((Go.bits .xor .i64 ak (ji118))).toNat,none⟩=some (.int .i64 (rd ba (Go.bits .xor .i64 ak (ji118))))) (ds:= [15]) ⟨(blk_cell af.out 0).trans rfl,(blk_cell af.out 1).trans rfl,hx147_0⟩ (fun hHeld=>?_);refine with_tabW spec_l06DrawOf.tab13 spec_l06DrawOf.bits13 (fun HT_ HW_=>?_)
                 generalize w133.drew=w134 at ae ag af HI0 HK HB HQ132 HQ135 hf124_0 hx124_0 hx147_0 hHeld ⊢
                 refine pu_ 0 70 ?_;refine pu_ 2 72 ?_;refine pu_ 3 73 ?_;refine pu_ 4 74 ?_;refine pu_ 5 75 ?_;refine pu_ 7 77 ?_;refine pu_ 8 78 ?_;refine pu_ 9 79 ?_;refine pu_ 12 82 ?_;refine tk_ 1 71 ?_;refine tk_ 6 76 ?_;refine pu_ 10 80 ?_;refine tk_ 11 81 ?_;refine pu_ 13 83 ?_;refine pu_ 14 84 ?_
                 refine la_ 15 none (fun K hK=>?_)
                 refine skip_ (w1:=?_) (by rfl) rfl ?_ ?_
                 rotate_left
                 ·go_simp
                  rfl
                 refine hK.out _ _ ?_
                 clear hK K;refine done_ (done_of HT_.out (by kernel_rfl)) ?_
                 try go_wp2
                 go_roundg k2
                 case measure=>have:=HK1.out;have:=HK2.out;omega
                 case rel=>exact⟨(wrap64 (bf - 1)),(bJ),(bK),(eV),(.slice (some ⟨go121,0,none⟩) aa.length bF),rs_,H',⟨by have:=HK1.out;have:=HK2.out;omega⟩,⟨ro_ HQ135.out⟩,⟨by(with_reducible repeat (first | refine blk_drewN ?_ _ | refine blk_drew ?_ | refine blk_alloc ?_ _));refine blk_far ?_ (by have h_:=Kd.R_ne ae.out ag.out (by decide);intro e_;exact h_ (by rw [e_];rfl)) _;(with_reducible repeat (first | refine blk_drewN ?_ _ | refine blk_drew ?_ | refine blk_alloc ?_ _));exact ag.out⟩,⟨by(with_reducible repeat (first | refine blk_drewN ?_ _ | refine blk_drew ?_ | refine blk_alloc ?_ _));refine blk_far ?_ (by have h_:=Kd.R_ne ae.out af.out (by decide);intro e_;exact h_ (by rw [e_];rfl)) _;(with_reducible repeat (first | refine blk_drewN ?_ _ | refine blk_drew ?_ | refine blk_alloc ?_ _));exact af.out⟩,⟨hi_⟩,⟨hk_⟩,⟨by repeat (first | (with_reducible first | exact HB.out | apply below_alloc | apply pw_below_drewN | apply below_drew1 | refine below_set ?_ (Nat.le_trans HL.out GB121.out) | refine below_set ?_ (IsS122.ge HI0.out) | refine below_set ?_ az.out | refine below_set ?_ aI.out) | exact HB.out)⟩⟩
                ·rw [if_neg c123] at H;exact absurd H (by simp)
               ·rw [if_neg c122] at H;exact absurd H (by simp)
              ·rw [if_neg c120] at H;exact absurd H (by simp)
             ·rw [if_neg c119] at H;exact absurd H (by simp)
            ·rw [if_neg c117] at H;exact absurd H (by simp)
           ·rw [if_neg c113] at H;have c113b0:=decide_eq_false c113;clear c113;simp only [Option.some.injEq,Prod.mk.injEq] at H;obtain⟨rfl,rfl,rfl,rfl⟩:=H;have gp:=aM.out;have gu:=aC.out;have gx:=aH.out;have gy:=aj.out;have fL:=cz_ af 0;have fM:=cz_ af 1;have fN:=blk_frozen af.out 0;have fO:=blk_frozen af.out 1;have gz:=aQ.out;have gA:=ai.out;have fP:=cz_ ag 0;have fQ:=cz_ ag 1;have fR:=blk_frozen ag.out 0;have fS:=blk_frozen ag.out 1;obtain⟨dZ,d9,fo⟩:=Kd.R_slice ae.out;subst fo;go_wp2
            refine bodyPost_ret (results_cell_row rfl _ _ av 26 #[.int .i64 a1, .slice dZ aa.length d9] (0,0) _ rfl (by(with_reducible repeat (first | refine blk_drewN ?_ _ | refine blk_drew ?_ | refine blk_alloc ?_ _));refine blk_put (cs:= #[.int .i64 a1, .slice none 0 0]) ?_ 1 _ rfl;(with_reducible repeat (first | refine blk_drewN ?_ _ | refine blk_drew ?_ | refine blk_alloc ?_ _));refine blk_put (cs:= #[.int .i64 0, .slice none 0 0]) ?_ 0 _ rfl;(with_reducible repeat (first | refine blk_drewN ?_ _ | refine blk_drew ?_ | refine blk_alloc ?_ _));exact ag.out) Tryz.underlying26 rfl (by kernel_rfl)) rfl ?_
            exact⟨_,by first | rfl | (simp [errW_none,errW_some] <;> rfl) | (simp only [← hji3, ← hji5];first | rfl | (simp [errW_none,errW_some] <;> rfl)) | (simp [*,errW_none,errW_some] <;> rfl),by(with_reducible repeat (first | apply Kd.R_alloc | apply Kd.R_drewN | apply Kd.R_drew));exact Kd.R_mono (Kd.R_far (p:=⟨av,1,none⟩) (Kd.R_far (p:=⟨av,0,none⟩) (Kd.R_types ae.out ag.out (by decide)) (fun _ hk=>hk.2) (.int .i64 a1)) (fun _ hk=>hk.2) (.slice dZ aa.length d9)) (fun _ hk=>trivial),hi_,hj_,hk_⟩
   ·rw [if_neg c7] at H;exact absurd H (by simp)
  ·rw [if_neg c6] at H;exact absurd H (by simp)
 ·rw [if_neg c4] at H;exact absurd H (by simp)
def spec_l06Draw.f (k:Nat) (s0_0:List Int) (s0_1:Int) (s0_2:Int):Option (Int × List Int × Int × Int):=(spec_l01Pick.f s0_0 s0_1 s0_2 (([1,2,2,3,3,4,5]:List Int))).bind fun af=>((spec_l06DrawOf.f k s0_0 af.2.1 af.2.2 af.1).bind fun aa=>((spec_l01Next.f s0_0 aa.2.2.1 aa.2.2.2 40).bind fun ae=>(if ae.1=0 then(if 0 < (aa.2.1.length:Int) then(some (aa.1,(aa.2.1.set (0:Int).toNat (Go.bits .xor .i64 (rd aa.2.1 0) 1)),ae.2.1,ae.2.2)) else(none)) else(if ae.1=1 then((spec_l01Pick.f s0_0 ae.2.1 ae.2.2 (([0,6,1,2]:List Int))).bind fun ag=>(some (ag.1,aa.2.1,ag.2.1,ag.2.2))) else(some (aa.1,aa.2.1,ae.2.1,ae.2.2))))))
theorem spec_l06Draw.mono: ∀a0 a1 a2 k,LeO (spec_l06Draw.f k a0 a1 a2) (spec_l06Draw.f (k+1) a0 a1 a2):=by
 intro a0 a1 a2 k
 unfold spec_l06Draw.f
 repeat' first | (with_reducible first | exact spec_l06DrawOf.mono _ _ _ _ _ | exact LeO.refl _ | exact LeO.none _ | refine LeO.ite ?_ ?_ | refine LeO.bind ?_ (fun _=>?_)) | exact spec_l06DrawOf.mono _ _ _ _ _ | exact LeO.none _ | refine LeO.ite ?_ ?_ | refine LeO.bind ?_ (fun _=>?_)
def spec_l06Draw.T4:Bool × List (List Nat × List Nat):=(true, [([], []),([0], [0]),([], []),([2], [2]),([3], [3]),([4], [4]),([5], [5]),([1,0,1,2,3,4,5,6], [1]),([7,6,0,1,2,3,4,5,6], [6,7])])
def spec_l06Draw.B4:List Nat:= [0,1,0,4,12,28,60,127,255]
theorem spec_l06Draw.tab4:rtab .any (opsOf Tryz.f77 4)=spec_l06Draw.T4:=by kernel_rfl
theorem spec_l06Draw.bits4:waitsOk spec_l06Draw.T4.2 spec_l06Draw.B4=true:=by kernel_rfl
theorem spec_l06Draw.calls (k:Nat) (g:Nat) (s0_0:List Int) (s0_1:Int) (s0_2:Int) (r1:Int) (r2:List Int) (r3:Int) (r4:Int) (w0 w:World) (hI:IsS122 w0 w g s0_0 s0_1 s0_2) (hB:Below w0.heap.size w0 w) (h:spec_l06Draw.f k s0_0 s0_1 s0_2=some (r1,r2,r3,r4)):
  Calls Tryz.prog 77 #[.pointer (some ⟨g,0,none⟩)] w fun e w'=> ∃v1_:Value,e= .returned (.agg #[.int .i64 r1,v1_])∧Kd.R (Kd.int .i64) 2 w' w.heap.size (fun _=>True) v1_ r2∧IsS122 w0 w' g s0_0 r3 r4∧Below w0.heap.size w0 w'∧KeepBut w w' g none:=by
 have hu26:=Tryz.underlying26;have HI0:=q_ hI;have HK:=q_ (KeepBut.refl w g none);have HL:=q_ hB.size;clear hI;have HW0:=q_ hB.size;have HB:=q_ hB;clear hB;have H:((spec_l01Pick.f s0_0 s0_1 s0_2 (([1,2,2,3,3,4,5]:List Int))).bind fun a9=>((spec_l06DrawOf.f k s0_0 a9.2.1 a9.2.2 a9.1).bind fun aw=>((spec_l01Next.f s0_0 aw.2.2.1 aw.2.2.2 40).bind fun au=>(if au.1=0 then(if 0 < (aw.2.1.length:Int) then(some (aw.1,(aw.2.1.set (0:Int).toNat (Go.bits .xor .i64 (rd aw.2.1 0) 1)),au.2.1,au.2.2)) else(none)) else(if au.1=1 then((spec_l01Pick.f s0_0 au.2.1 au.2.2 (([0,6,1,2]:List Int))).bind fun ay=>(some (ay.1,aw.2.1,ay.2.1,ay.2.2))) else(some (aw.1,aw.2.1,au.2.1,au.2.2)))))))=some (r1,r2,r3,r4):=h;clear h;obtain⟨aV,hy⟩: ∃y_:List Int,y_=(([1,2,2,3,3,4,5]:List Int)):=⟨_,rfl⟩
 replace H:((spec_l01Pick.f s0_0 s0_1 s0_2 aV).bind fun a9=>((spec_l06DrawOf.f k s0_0 a9.2.1 a9.2.2 a9.1).bind fun aw=>((spec_l01Next.f s0_0 aw.2.2.1 aw.2.2.2 40).bind fun au=>(if au.1=0 then(if 0 < (aw.2.1.length:Int) then(some (aw.1,(aw.2.1.set (0:Int).toNat (Go.bits .xor .i64 (rd aw.2.1 0) 1)),au.2.1,au.2.2)) else(none)) else(if au.1=1 then((spec_l01Pick.f s0_0 au.2.1 au.2.2 (([0,6,1,2]:List Int))).bind fun ay=>(some (ay.1,aw.2.1,ay.2.1,ay.2.2))) else(some (aw.1,aw.2.1,au.2.1,au.2.2)))))))=some (r1,r2,r3,r4):=hh_;have bh:=q_ hy;clear hy;replace H:=Option.bind_eq_some_iff.mp H;obtain⟨⟨aW,aX,aY⟩,A20,H⟩:=H;replace H:((spec_l06DrawOf.f k s0_0 aX aY aW).bind fun aw=>((spec_l01Next.f s0_0 aw.2.2.1 aw.2.2.2 40).bind fun au=>(if au.1=0 then(if 0 < (aw.2.1.length:Int) then(some (aw.1,(aw.2.1.set (0:Int).toNat (Go.bits .xor .i64 (rd aw.2.1 0) 1)),au.2.1,au.2.2)) else(none)) else(if au.1=1 then((spec_l01Pick.f s0_0 au.2.1 au.2.2 (([0,6,1,2]:List Int))).bind fun ay=>(some (ay.1,aw.2.1,ay.2.1,ay.2.2))) else(some (aw.1,aw.2.1,au.2.1,au.2.2))))))=some (r1,r2,r3,r4):=H;have A2:=q_ A20;clear A20;replace H:=Option.bind_eq_some_iff.mp H;obtain⟨⟨ax,aj,aH,aI⟩,A30,H⟩:=H;replace H:((spec_l01Next.f s0_0 aH aI 40).bind fun au=>(if au.1=0 then(if 0 < (aj.length:Int) then(some (ax,(aj.set (0:Int).toNat (Go.bits .xor .i64 (rd aj 0) 1)),au.2.1,au.2.2)) else(none)) else(if au.1=1 then((spec_l01Pick.f s0_0 au.2.1 au.2.2 (([0,6,1,2]:List Int))).bind fun ay=>(some (ay.1,aj,ay.2.1,ay.2.2))) else(some (ax,aj,au.2.1,au.2.2)))))=some (r1,r2,r3,r4):=H;have A3:=q_ A30;clear A30;replace H:=Option.bind_eq_some_iff.mp H;obtain⟨⟨aM,aQ,aT⟩,A40,H⟩:=H;replace H:(if aM=0 then(if 0 < (aj.length:Int) then(some (ax,(aj.set (0:Int).toNat (Go.bits .xor .i64 (rd aj 0) 1)),aQ,aT)) else(none)) else(if aM=1 then((spec_l01Pick.f s0_0 aQ aT (([0,6,1,2]:List Int))).bind fun ay=>(some (ay.1,aj,ay.2.1,ay.2.2))) else(some (ax,aj,aQ,aT))))=some (r1,r2,r3,r4):=H;have A4:=q_ A40;clear A40
 by_cases c5:aM=0
 ·rw [if_pos c5] at H;have c5b0:=e1_ c5;have c5b1:=e2_ c5;clear c5
  by_cases c6:0 < (aj.length:Int)
  ·rw [if_pos c6] at H;have c6b0:=decide_eq_true c6;have c6b1:decide (0 < aj.length)=true:=decide_eq_true (by omega);clear c6;obtain⟨bJ,hy⟩: ∃y_:List Int,y_=(aj.set (0:Int).toNat (Go.bits .xor .i64 (rd aj 0) 1)):=⟨_,rfl⟩
   replace H:(some (ax,bJ,aQ,aT))=some (r1,r2,r3,r4):=hh_;have bO:=q_ hy;clear hy;simp only [Option.some.injEq,Prod.mk.injEq] at H;obtain⟨rfl,rfl,rfl,rfl⟩:=H
   go_enter Tryz.func77,Tryz.ntmps77
   try go_wp2_with (first | ((with_reducible refine gate_dst (N:=2) rfl ?_);refine be_ 2 #[.int .i64 0, .slice none 0 0] 26 ?_;intro ai hg w8 hbox hb;replace HB:=q_ (below_step hj_ hb);have ae:=q_ (hbox);have aq:=q_ ((by rw [hg];exact(keep_size (w:=w) (g:=g) (row:=none) hk_):w.heap.size≤ai));have az:=q_ ((Nat.le_trans HW0.out (by rw [hg];exact(keep_size (w:=w) (g:=g) (row:=none) hk_):w.heap.size≤ai):w0.heap.size≤ai));have aa:=q_ ((by rw [hg];exact Nat.ne_of_lt (IsS122.lt (show IsS122 w0 _ g s0_0 s0_1 s0_2 from hi_)):g≠ai));have aC:=q_ ((by rw [hg];exact Nat.ne_of_gt (IsS122.lt (show IsS122 w0 _ g s0_0 s0_1 s0_2 from hi_)):ai≠g));replace HI0:=q_ (IsS122.below hi_ hb);replace HK:=q_ (KeepBut.trans hk_ (KeepBut.of_below hb g none) (.inl rfl));clear hb hbox hg) | ((with_reducible refine gate_dst (N:=6) rfl ?_);refine Kd.R_lit (Kd.int .i64) _ 2 ?hg (N:=6) ?hd (xs:=([1,2,2,3,3,4,5]:List Int)) (inner:= [.int .i64 1, .int .i64 2, .int .i64 2, .int .i64 3, .int .i64 3, .int .i64 4, .int .i64 5]) (ok:=fun _=>True) (okp:=fun _=>True) ?hr ?hp (fun _ hk=>hk) trivial (Below.refl _ _) (Nat.le_refl _) (by simp) ?_;(case hd=>rfl);(case hg=>rfl);(case hr=>first | (go_simp;done) | (go_simp;rfl));(case hp=>exact(Reps.one (show Kd.M (Kd.int .i64) _ _ _ 1 [.int .i64 1] from rfl) (Reps.one (show Kd.M (Kd.int .i64) _ _ _ 2 [.int .i64 2] from rfl) (Reps.one (show Kd.M (Kd.int .i64) _ _ _ 2 [.int .i64 2] from rfl) (Reps.one (show Kd.M (Kd.int .i64) _ _ _ 3 [.int .i64 3] from rfl) (Reps.one (show Kd.M (Kd.int .i64) _ _ _ 3 [.int .i64 3] from rfl) (Reps.one (show Kd.M (Kd.int .i64) _ _ _ 4 [.int .i64 4] from rfl) (Reps.one (show Kd.M (Kd.int .i64) _ _ _ 5 [.int .i64 5] from rfl) (Reps.none _ _)))))))));intro bK w9 bA hb hg_ hnew_;clear hg_ hnew_;(first | rw [← bh.out] at bA | (simp only [Int.reduceToNat] at bA;rw [← bh.out] at bA));have ag:=q_ (Kd.R_lower bA (keep_size (w:=w) (g:=g) (row:=none) hk_));replace ae:=q_ (bb_ ae.out hb);replace HB:=q_ (below_step hj_ hb);replace HI0:=q_ (IsS122.below hi_ hb);replace HK:=q_ (KeepBut.trans hk_ (KeepBut.of_below hb g none) (.inl rfl));clear hb bA;obtain⟨bE,bF,bS⟩:=Kd.R_slice ag.out;subst bS) | ((with_reducible refine gate_callee (f:=74) rfl ?_);refine gL_ 7 Tryz.func74 #[.pointer (some ⟨g,0,none⟩), .slice bE aV.length bF] ?_;(with_reducible refine(spec_l01Pick.calls g s0_0 s0_1 s0_2 _ _ aV aW aX aY w0 _ ?aD ?aG ?ba ?bf ?bg A2.out).mono ?_);(case aD=>exact hi_);(case aG=>exact hj_);(case ba=>repeat (first | exact(Kd.R_reads' ag.out).2.2 | (with_reducible refine Kd.C_alloc ?_ _) | (with_reducible refine Kd.C_drewN ?_ _) | (with_reducible refine Kd.C_drew ?_)));(case bf=>exact(Kd.R_reads' ag.out).2.1);(case bg=>exact far_slice (IsS122.own_ne HI0.out ag.out (by decide)));rintro e w12 ⟨rfl,hi,hb,hk⟩;refine⟨_,rfl,?_⟩;replace ae:=q_ (KeepBut.blk hk (g':=ai) (o:= .cells #[.int .i64 0, .slice none 0 0] 26 (0,0)) bk_ aC.out (by simp));replace ag:=q_ (Kd.R_mono (Kd.R_keep (IsS122.apart (show IsS122 w0 _ g s0_0 s0_1 s0_2 from hi_) (ro_ ag.out) (by decide)) hk (fun _ h=>h.2)) (fun _ h=>h.1));replace HK:=q_ (KeepBut.trans hk_ hk (.inl rfl));replace HB:=q_ (hb);replace HI0:=q_ (hi);(try clear hb);(try clear hk);(try clear hi)) | ((with_reducible refine gate_callee (f:=128) rfl ?_);refine gL_ 8 Tryz.func128 #[.pointer (some ⟨g,0,none⟩), .int .i64 aW] ?_;(with_reducible refine(spec_l06DrawOf.calls k g s0_0 aX aY aW ax aj aH aI w0 _ ?aD ?aG A3.out).mono ?_);(case aD=>exact hi_);(case aG=>exact hj_);rintro e w13 ⟨bL,rfl,ho0,hi,hb,hk⟩;refine⟨_,rfl,?_⟩;replace ae:=q_ (KeepBut.blk hk (g':=ai) (o:= .cells #[.int .i64 0, .slice none 0 0] 26 (0,0)) bk_ aC.out (by simp));have ak:=q_ (Kd.R_lower (Kd.R_new' ho0 (Kd.R_lt (ro_ ag.out))) (keep_size (w:=w) (g:=g) (row:=none) hk_));replace HB:=q_ (hb);replace ag:=q_ (Kd.R_mono (Kd.R_told (Kd.R_oldK (IsS122.apart (show IsS122 w0 _ g s0_0 aX aY from hi_) (ro_ ag.out) (by decide)) hk) (Kd.R_base ho0)) (fun _ h_=>h_.1));replace HK:=q_ (KeepBut.trans hk_ hk (.inl rfl));replace HI0:=q_ (hi);(try clear hb);(try clear hk);(try clear hi);(try clear ho0)) | ((with_reducible refine gate_dst (N:=3) rfl ?_);refine be_ 3 #[.int .i64 0, .slice none 0 0] 26 ?_;intro af hg w14 hbox hb;replace ag:=q_ (rb_ ag.out hb);replace ak:=q_ (rb_ ak.out hb);replace HB:=q_ (below_step hj_ hb);have ah:=q_ (hbox);have aK:=q_ ((by rw [hg];exact(keep_size (w:=w) (g:=g) (row:=none) hk_):w.heap.size≤af));have aN:=q_ ((Nat.le_trans HW0.out (by rw [hg];exact(keep_size (w:=w) (g:=g) (row:=none) hk_):w.heap.size≤af):w0.heap.size≤af));have aA:=q_ ((by rw [hg];exact lt_ ae.out:ai≠af));have aU:=q_ ((by rw [hg];exact gt_ ae.out:af≠ai));have av:=q_ ((by rw [hg];exact Nat.ne_of_lt (IsS122.lt (show IsS122 w0 _ g s0_0 aH aI from hi_)):g≠af));have aJ:=q_ ((by rw [hg];exact Nat.ne_of_gt (IsS122.lt (show IsS122 w0 _ g s0_0 aH aI from hi_)):af≠g));replace HI0:=q_ (IsS122.below hi_ hb);replace ae:=q_ (bb_ ae.out hb);replace HK:=q_ (KeepBut.trans hk_ (KeepBut.of_below hb g none) (.inl rfl));clear hb hbox hg;have dH:=aU.out;have dI:=aA.out;have dJ:=aJ.out;have dK:=av.out;have cD:=cz_ ah 0;have cE:=cz_ ah 1;have cF:=blk_frozen ah.out 0;have cG:=blk_frozen ah.out 1;obtain⟨bG,aZ,bT⟩:=Kd.R_slice ak.out;subst bT) | ((with_reducible refine gate_callee (f:=36) rfl ?_);refine gL_ 10 Tryz.func36 #[.pointer (some ⟨g,0,none⟩), .int .i64 40] ?_;(with_reducible refine(spec_l01Next.calls g s0_0 aH aI 40 aM aQ aT w0 _ ?aD ?aG A4.out).mono ?_);(case aD=>exact hi_);(case aG=>exact hj_);rintro e w19 ⟨rfl,hi,hb,hk⟩;refine⟨_,rfl,?_⟩;replace ae:=q_ (KeepBut.blk hk (g':=ai) (o:= .cells #[.int .i64 0, .slice none 0 0] 26 (0,0)) (by(with_reducible repeat (first | refine blk_drewN ?_ _ | refine blk_drew ?_ | refine blk_alloc ?_ _));refine blk_far ?_ aA.out _;(with_reducible repeat (first | refine blk_drewN ?_ _ | refine blk_drew ?_ | refine blk_alloc ?_ _));refine blk_far ?_ aA.out _;(with_reducible repeat (first | refine blk_drewN ?_ _ | refine blk_drew ?_ | refine blk_alloc ?_ _));exact ae.out) aC.out (by simp));replace ag:=q_ (Kd.R_mono (Kd.R_keep (IsS122.apart (show IsS122 w0 _ g s0_0 aH aI from hi_) (by(with_reducible repeat (first | apply Kd.R_alloc | apply Kd.R_drewN | apply Kd.R_drew));exact(Kd.R_mono (Kd.R_far (p:=⟨af,1,none⟩) (Kd.R_far (p:=⟨af,0,none⟩) (Kd.R_types ag.out ah.out (by decide)) (fun _ hk=>hk.2) (.int .i64 ax)) (fun _ hk=>hk.2) (.slice bG aj.length aZ)) (fun _ h_=>h_.1))) (by decide)) hk (fun _ h=>h.2)) (fun _ h=>h.1));replace ak:=q_ (Kd.R_mono (Kd.R_keep (IsS122.apart (show IsS122 w0 _ g s0_0 aH aI from hi_) (by(with_reducible repeat (first | apply Kd.R_alloc | apply Kd.R_drewN | apply Kd.R_drew));exact(Kd.R_mono (Kd.R_far (p:=⟨af,1,none⟩) (Kd.R_far (p:=⟨af,0,none⟩) (Kd.R_types ak.out ah.out (by decide)) (fun _ hk=>hk.2) (.int .i64 ax)) (fun _ hk=>hk.2) (.slice bG aj.length aZ)) (fun _ h_=>h_.1))) (by decide)) hk (fun _ h=>h.2)) (fun _ h=>h.1));replace HK:=q_ (KeepBut.trans hk_ hk (.inl rfl));replace HB:=q_ (hb);replace ah:=q_ (KeepBut.blk hk (g':=af) (o:= .cells #[.int .i64 ax, .slice bG aj.length aZ] 26 (0,0)) (by(with_reducible repeat (first | refine blk_drewN ?_ _ | refine blk_drew ?_ | refine blk_alloc ?_ _));refine blk_put (cs:= #[.int .i64 ax, .slice none 0 0]) ?_ 1 _ rfl;(with_reducible repeat (first | refine blk_drewN ?_ _ | refine blk_drew ?_ | refine blk_alloc ?_ _));refine blk_put (cs:= #[.int .i64 0, .slice none 0 0]) ?_ 0 _ rfl;(with_reducible repeat (first | refine blk_drewN ?_ _ | refine blk_drew ?_ | refine blk_alloc ?_ _));exact ah.out) aJ.out (by simp));replace HI0:=q_ (hi);(try clear hb);(try clear hk);(try clear hi)))
   replace ag:=q_ (Kd.R_drew ag.out);replace ak:=q_ (Kd.R_drew ak.out);replace ae:=q_ (blk_drew ae.out);replace ah:=q_ (blk_drew ah.out);replace HI0:=q_ (IsS122.drew HI0.out);replace HK:=q_ (keep_drew HK.out);replace HB:=q_ (below_drew1 HB.out);have p166:0≤(0:Int):=(by omega)
   have q166:0 < (aj.length:Int):=od_;obtain⟨dL,e166,hx166_0⟩:=Kd.at_int (Kd.R_reads' ak.out).2.2 0 p166 q166;cases e166
   have qi166:(0 < aj.length)=True:=eq_true (by omega)
   (try rw [show ((0:Int)).toNat=0 from rfl] at hx166_0)
   (try rw [Addr.add_zero'] at hx166_0)
   replace p166:=eq_true p166;replace q166:=eq_true q166;have p7:0≤(0:Int):=(by omega)
   have q7:(0:Int) < ((aj.length:Int):Int):=od_;have qi7:(0 < aj.length)=True:=eq_true (by omega);obtain⟨go7,eu,bP,bQ,gl7,cl7,HG7⟩:=Kd.R_form ak.out (by omega)
   (first | cases bP | (injection bP with ea_ en_ ec_;(first | subst ea_ | (injection ea_ with ea_;subst ea_));subst ec_;clear en_))
   have GB7:=q_ bQ;have GG7:=q_ HG7;clear bQ gl7 HG7
   (first | simp only [add_plain] at hx166_0 | skip)
   obtain⟨hx7_0,hf7_0⟩:=Kd.R_celln 0 ak.out (0:Int) p7 q7
   (try rw [show ((0:Int)).toNat=0 from rfl] at hx7_0)
   (try simp only [Nat.reduceMul,Nat.zero_mul,Nat.zero_add,Nat.reduceAdd] at hx7_0)
   (try rw [show ((0:Int)).toNat=0 from rfl] at hf7_0)
   (try simp only [Nat.reduceMul,Nat.zero_mul,Nat.zero_add,Nat.reduceAdd] at hf7_0)
   replace p7:=eq_true p7;replace q7:=eq_true q7;have HN0_go7:=q_ (show g≠go7 from by have h_:=IsS122.own_ne HI0.out ak.out (by decide);intro e_;exact h_ (by rw [e_];rfl));have HP21:=Kd.R_putn ak.out (0:Int) (Go.bits .xor .i64 (rd aj 0) 1);rw [← bO.out] at HP21;have HQ21:=q_ HP21;clear HP21;refine st_ (n:=9) (S:=fun w'=>w'.cell? ⟨af,0,none⟩=some (.int .i64 ax)∧w'.cell? ⟨af,1,none⟩=some (.slice (some ⟨go7,0,none⟩) aj.length aZ)∧w'.cell? ⟨go7,0,none⟩=some (.int .i64 (rd aj 0))) (ds:= [8]) ⟨(blk_cell ah.out 0).trans rfl,(blk_cell ah.out 1).trans rfl,hx166_0⟩ (fun hHeld=>?_);refine with_tabW spec_l06Draw.tab4 spec_l06Draw.bits4 (fun HT_ HW_=>?_)
   generalize w19.drew=w20 at ag ak ae ah HI0 HK HB GG7 HQ21 hf7_0 hx166_0 hx7_0 hHeld ⊢
   refine pu_ 0 13 ?_;refine pu_ 2 15 ?_;refine tk_ 1 14 ?_;refine tk_ 3 16 ?_;refine pu_ 4 17 ?_;refine tk_ 5 18 ?_;refine pu_ 6 19 ?_;refine pu_ 7 20 ?_
   refine la_ 8 none (fun K hK=>?_)
   refine skip_ (w1:=?_) (by rfl) rfl ?_ ?_
   rotate_left
   ·go_simp
    rfl
   refine hK.out _ _ ?_
   clear hK K;refine done_ (done_of HT_.out (by kernel_rfl)) ?_
   have n0_:Aside0 (Kd.R (Kd.int .i64) 2 (w20.setCell ⟨go7,0,none⟩ (.int .i64 (Go.bits .xor .i64 (rd aj 0) 1))) w.heap.size (fun k_=>some k_≠(.slice (some ⟨go7,0,none⟩) aj.length aZ:Value).ownBlock) (.slice bE aV.length bF) aV):=⟨by(with_reducible repeat (first | apply Kd.R_alloc | apply Kd.R_drewN | apply Kd.R_drew));exact Kd.R_mono (Kd.R_far (p:=⟨go7,0,none⟩) (Kd.R_mono ag.out (fun k_ hk=>(⟨hk,fun e_=>hk.2 (by rw [e_];rfl)⟩:_∧k_≠go7))) (fun _ hk=>hk.2) (.int .i64 (Go.bits .xor .i64 (rd aj 0) 1))) (fun _ hk=>hk.1.2)⟩
   have n1_:Aside0 (Kd.R (Kd.int .i64) 2 (w20.setCell ⟨go7,0,none⟩ (.int .i64 (Go.bits .xor .i64 (rd aj 0) 1))) w.heap.size (fun k_=>some k_≠(.slice bE aV.length bF:Value).ownBlock) (.slice (some ⟨go7,0,none⟩) aj.length aZ) bJ):=⟨by(with_reducible repeat (first | apply Kd.R_alloc | apply Kd.R_drewN | apply Kd.R_drew));exact Kd.R_mono HQ21.out (fun _ hk=>hk.2)⟩
   have n2_:Aside0 ((w20.setCell ⟨go7,0,none⟩ (.int .i64 (Go.bits .xor .i64 (rd aj 0) 1))).heap[ai]?=some (.cells #[.int .i64 0, .slice none 0 0] 26 (0,0))):=⟨by(with_reducible repeat (first | refine blk_drewN ?_ _ | refine blk_drew ?_ | refine blk_alloc ?_ _));refine blk_far ?_ (by have h_:=Kd.R_ne ak.out ae.out (by decide);intro e_;exact h_ (by rw [e_];rfl)) _;(with_reducible repeat (first | refine blk_drewN ?_ _ | refine blk_drew ?_ | refine blk_alloc ?_ _));exact ae.out⟩
   have n3_:Aside0 ((w20.setCell ⟨go7,0,none⟩ (.int .i64 (Go.bits .xor .i64 (rd aj 0) 1))).heap[af]?=some (.cells #[.int .i64 ax, .slice (some ⟨go7,0,none⟩) aj.length aZ] 26 (0,0))):=⟨by(with_reducible repeat (first | refine blk_drewN ?_ _ | refine blk_drew ?_ | refine blk_alloc ?_ _));refine blk_far ?_ (by have h_:=Kd.R_ne ak.out ah.out (by decide);intro e_;exact h_ (by rw [e_];rfl)) _;(with_reducible repeat (first | refine blk_drewN ?_ _ | refine blk_drew ?_ | refine blk_alloc ?_ _));exact ah.out⟩
   have n4_:Aside0 (IsS122 w0 (w20.setCell ⟨go7,0,none⟩ (.int .i64 (Go.bits .xor .i64 (rd aj 0) 1))) g s0_0 aQ aT):=⟨hi_⟩
   have n5_:Aside0 (KeepBut w (w20.setCell ⟨go7,0,none⟩ (.int .i64 (Go.bits .xor .i64 (rd aj 0) 1))) g none):=⟨hk_⟩
   have n6_:Aside0 (Below w0.heap.size w0 (w20.setCell ⟨go7,0,none⟩ (.int .i64 (Go.bits .xor .i64 (rd aj 0) 1)))):=⟨by repeat (first | (with_reducible first | exact HB.out | apply below_alloc | apply pw_below_drewN | apply below_drew1 | refine below_set ?_ (Nat.le_trans HL.out GB7.out) | refine below_set ?_ (IsS122.ge HI0.out) | refine below_set ?_ az.out | refine below_set ?_ aN.out) | exact HB.out)⟩
   (try clear ag);(try clear ak);(try clear ae);(try clear ah);(try clear HI0);(try clear HK);(try clear HB)
   generalize (w20.setCell ⟨go7,0,none⟩ (.int .i64 (Go.bits .xor .i64 (rd aj 0) 1)))=w22 at n0_ n1_ n2_ n3_ n4_ n5_ n6_ ⊢
   have ag:=n0_;have ak:=n1_;have ae:=n2_;have ah:=n3_;have HI0:=n4_;have HK:=n5_;have HB:=n6_;clear n0_ n1_ n2_ n3_ n4_ n5_ n6_;have cH:=cz_ ah 0;have cI:=cz_ ah 1;have cJ:=blk_frozen ah.out 0;have cK:=blk_frozen ah.out 1;have dM:=aC.out;have dN:=aa.out;have cL:=cz_ ae 0;have cN:=cz_ ae 1;have cO:=blk_frozen ae.out 0;have cP:=blk_frozen ae.out 1
   try go_wp2
   refine bodyPost_ret (results_cell_row rfl _ _ ai 26 #[.int .i64 ax, .slice (some ⟨go7,0,none⟩) aj.length aZ] (0,0) _ rfl (by(with_reducible repeat (first | refine blk_drewN ?_ _ | refine blk_drew ?_ | refine blk_alloc ?_ _));refine blk_put (cs:= #[.int .i64 ax, .slice none 0 0]) ?_ 1 _ rfl;(with_reducible repeat (first | refine blk_drewN ?_ _ | refine blk_drew ?_ | refine blk_alloc ?_ _));refine blk_put (cs:= #[.int .i64 0, .slice none 0 0]) ?_ 0 _ rfl;(with_reducible repeat (first | refine blk_drewN ?_ _ | refine blk_drew ?_ | refine blk_alloc ?_ _));exact ae.out) Tryz.underlying26 rfl (by kernel_rfl)) rfl ?_
   exact⟨_,by first | rfl | (simp [errW_none,errW_some] <;> rfl) | (simp [*,errW_none,errW_some] <;> rfl),by(with_reducible repeat (first | apply Kd.R_alloc | apply Kd.R_drewN | apply Kd.R_drew));exact Kd.R_mono (Kd.R_far (p:=⟨ai,1,none⟩) (Kd.R_far (p:=⟨ai,0,none⟩) (Kd.R_types ak.out ae.out (by decide)) (fun _ hk=>hk.2) (.int .i64 ax)) (fun _ hk=>hk.2) (.slice (some ⟨go7,0,none⟩) aj.length aZ)) (fun _ hk=>trivial),hi_,hj_,hk_⟩
  ·rw [if_neg c6] at H;exact absurd H (by simp)
 ·rw [if_neg c5] at H;have c5b0:=e3_ c5;have c5b1:=e4_ c5
  by_cases c26:aM=1
  ·rw [if_pos c26] at H;have c26b0:=e1_ c26;have c26b1:=e2_ c26;clear c26;obtain⟨bH,hy⟩: ∃y_:List Int,y_=(([0,6,1,2]:List Int)):=⟨_,rfl⟩
   replace H:((spec_l01Pick.f s0_0 aQ aT bH).bind fun ay=>(some (ay.1,aj,ay.2.1,ay.2.2)))=some (r1,r2,r3,r4):=hh_;have bI:=q_ hy;clear hy;replace H:=Option.bind_eq_some_iff.mp H;obtain⟨⟨bv,bM,bN⟩,A270,H⟩:=H;replace H:(some (bv,aj,bM,bN))=some (r1,r2,r3,r4):=H;have A27:=q_ A270;clear A270;simp only [Option.some.injEq,Prod.mk.injEq] at H;obtain⟨rfl,rfl,rfl,rfl⟩:=H
   go_enter Tryz.func77,Tryz.ntmps77
   go_wp2_with (first | ((with_reducible refine gate_dst (N:=2) rfl ?_);refine be_ 2 #[.int .i64 0, .slice none 0 0] 26 ?_;intro ai hg w28 hbox hb;replace HB:=q_ (below_step hj_ hb);have ae:=q_ (hbox);have aq:=q_ ((by rw [hg];exact(keep_size (w:=w) (g:=g) (row:=none) hk_):w.heap.size≤ai));have az:=q_ ((Nat.le_trans HW0.out (by rw [hg];exact(keep_size (w:=w) (g:=g) (row:=none) hk_):w.heap.size≤ai):w0.heap.size≤ai));have aa:=q_ ((by rw [hg];exact Nat.ne_of_lt (IsS122.lt (show IsS122 w0 _ g s0_0 s0_1 s0_2 from hi_)):g≠ai));have aC:=q_ ((by rw [hg];exact Nat.ne_of_gt (IsS122.lt (show IsS122 w0 _ g s0_0 s0_1 s0_2 from hi_)):ai≠g));replace HI0:=q_ (IsS122.below hi_ hb);replace HK:=q_ (KeepBut.trans hk_ (KeepBut.of_below hb g none) (.inl rfl));clear hb hbox hg) | ((with_reducible refine gate_dst (N:=6) rfl ?_);refine Kd.R_lit (Kd.int .i64) _ 2 ?hg (N:=6) ?hd (xs:=([1,2,2,3,3,4,5]:List Int)) (inner:= [.int .i64 1, .int .i64 2, .int .i64 2, .int .i64 3, .int .i64 3, .int .i64 4, .int .i64 5]) (ok:=fun _=>True) (okp:=fun _=>True) ?hr ?hp (fun _ hk=>hk) trivial (Below.refl _ _) (Nat.le_refl _) (by simp) ?_;(case hd=>rfl);(case hg=>rfl);(case hr=>first | (go_simp;done) | (go_simp;rfl));(case hp=>exact(Reps.one (show Kd.M (Kd.int .i64) _ _ _ 1 [.int .i64 1] from rfl) (Reps.one (show Kd.M (Kd.int .i64) _ _ _ 2 [.int .i64 2] from rfl) (Reps.one (show Kd.M (Kd.int .i64) _ _ _ 2 [.int .i64 2] from rfl) (Reps.one (show Kd.M (Kd.int .i64) _ _ _ 3 [.int .i64 3] from rfl) (Reps.one (show Kd.M (Kd.int .i64) _ _ _ 3 [.int .i64 3] from rfl) (Reps.one (show Kd.M (Kd.int .i64) _ _ _ 4 [.int .i64 4] from rfl) (Reps.one (show Kd.M (Kd.int .i64) _ _ _ 5 [.int .i64 5] from rfl) (Reps.none _ _)))))))));intro bK w29 bC hb hg_ hnew_;clear hg_ hnew_;(first | rw [← bh.out] at bC | (simp only [Int.reduceToNat] at bC;rw [← bh.out] at bC));have ag:=q_ (Kd.R_lower bC (keep_size (w:=w) (g:=g) (row:=none) hk_));replace ae:=q_ (bb_ ae.out hb);replace HB:=q_ (below_step hj_ hb);replace HI0:=q_ (IsS122.below hi_ hb);replace HK:=q_ (KeepBut.trans hk_ (KeepBut.of_below hb g none) (.inl rfl));clear hb bC;obtain⟨bU,bV,bW⟩:=Kd.R_slice ag.out;subst bW) | ((with_reducible refine gate_callee (f:=74) rfl ?_);refine gL_ 7 Tryz.func74 #[.pointer (some ⟨g,0,none⟩), .slice bU aV.length bV] ?_;(with_reducible refine(spec_l01Pick.calls g s0_0 s0_1 s0_2 _ _ aV aW aX aY w0 _ ?aD ?aG ?ba ?bf ?bg A2.out).mono ?_);(case aD=>exact hi_);(case aG=>exact hj_);(case ba=>repeat (first | exact(Kd.R_reads' ag.out).2.2 | (with_reducible refine Kd.C_alloc ?_ _) | (with_reducible refine Kd.C_drewN ?_ _) | (with_reducible refine Kd.C_drew ?_)));(case bf=>exact(Kd.R_reads' ag.out).2.1);(case bg=>exact far_slice (IsS122.own_ne HI0.out ag.out (by decide)));rintro e w32 ⟨rfl,hi,hb,hk⟩;refine⟨_,rfl,?_⟩;replace ae:=q_ (KeepBut.blk hk (g':=ai) (o:= .cells #[.int .i64 0, .slice none 0 0] 26 (0,0)) bk_ aC.out (by simp));replace ag:=q_ (Kd.R_mono (Kd.R_keep (IsS122.apart (show IsS122 w0 _ g s0_0 s0_1 s0_2 from hi_) (ro_ ag.out) (by decide)) hk (fun _ h=>h.2)) (fun _ h=>h.1));replace HK:=q_ (KeepBut.trans hk_ hk (.inl rfl));replace HB:=q_ (hb);replace HI0:=q_ (hi);(try clear hb);(try clear hk);(try clear hi)) | ((with_reducible refine gate_callee (f:=128) rfl ?_);refine gL_ 8 Tryz.func128 #[.pointer (some ⟨g,0,none⟩), .int .i64 aW] ?_;(with_reducible refine(spec_l06DrawOf.calls k g s0_0 aX aY aW ax aj aH aI w0 _ ?aD ?aG A3.out).mono ?_);(case aD=>exact hi_);(case aG=>exact hj_);rintro e w33 ⟨bL,rfl,ho0,hi,hb,hk⟩;refine⟨_,rfl,?_⟩;replace ae:=q_ (KeepBut.blk hk (g':=ai) (o:= .cells #[.int .i64 0, .slice none 0 0] 26 (0,0)) bk_ aC.out (by simp));have ak:=q_ (Kd.R_lower (Kd.R_new' ho0 (Kd.R_lt (ro_ ag.out))) (keep_size (w:=w) (g:=g) (row:=none) hk_));replace HB:=q_ (hb);replace ag:=q_ (Kd.R_mono (Kd.R_told (Kd.R_oldK (IsS122.apart (show IsS122 w0 _ g s0_0 aX aY from hi_) (ro_ ag.out) (by decide)) hk) (Kd.R_base ho0)) (fun _ h_=>h_.1));replace HK:=q_ (KeepBut.trans hk_ hk (.inl rfl));replace HI0:=q_ (hi);(try clear hb);(try clear hk);(try clear hi);(try clear ho0)) | ((with_reducible refine gate_dst (N:=3) rfl ?_);refine be_ 3 #[.int .i64 0, .slice none 0 0] 26 ?_;intro af hg w34 hbox hb;replace ag:=q_ (rb_ ag.out hb);replace ak:=q_ (rb_ ak.out hb);replace HB:=q_ (below_step hj_ hb);have ah:=q_ (hbox);have aK:=q_ ((by rw [hg];exact(keep_size (w:=w) (g:=g) (row:=none) hk_):w.heap.size≤af));have aN:=q_ ((Nat.le_trans HW0.out (by rw [hg];exact(keep_size (w:=w) (g:=g) (row:=none) hk_):w.heap.size≤af):w0.heap.size≤af));have aA:=q_ ((by rw [hg];exact lt_ ae.out:ai≠af));have aU:=q_ ((by rw [hg];exact gt_ ae.out:af≠ai));have av:=q_ ((by rw [hg];exact Nat.ne_of_lt (IsS122.lt (show IsS122 w0 _ g s0_0 aH aI from hi_)):g≠af));have aJ:=q_ ((by rw [hg];exact Nat.ne_of_gt (IsS122.lt (show IsS122 w0 _ g s0_0 aH aI from hi_)):af≠g));replace HI0:=q_ (IsS122.below hi_ hb);replace ae:=q_ (bb_ ae.out hb);replace HK:=q_ (KeepBut.trans hk_ (KeepBut.of_below hb g none) (.inl rfl));clear hb hbox hg;have dP:=aU.out;have dQ:=aA.out;have dR:=aJ.out;have dU:=av.out;have cQ:=cz_ ah 0;have cR:=cz_ ah 1;have cS:=blk_frozen ah.out 0;have cT:=blk_frozen ah.out 1;obtain⟨bk,bq,bX⟩:=Kd.R_slice ak.out;subst bX) | ((with_reducible refine gate_callee (f:=36) rfl ?_);refine gL_ 10 Tryz.func36 #[.pointer (some ⟨g,0,none⟩), .int .i64 40] ?_;(with_reducible refine(spec_l01Next.calls g s0_0 aH aI 40 aM aQ aT w0 _ ?aD ?aG A4.out).mono ?_);(case aD=>exact hi_);(case aG=>exact hj_);rintro e w39 ⟨rfl,hi,hb,hk⟩;refine⟨_,rfl,?_⟩;replace ae:=q_ (KeepBut.blk hk (g':=ai) (o:= .cells #[.int .i64 0, .slice none 0 0] 26 (0,0)) (by(with_reducible repeat (first | refine blk_drewN ?_ _ | refine blk_drew ?_ | refine blk_alloc ?_ _));refine blk_far ?_ aA.out _;(with_reducible repeat (first | refine blk_drewN ?_ _ | refine blk_drew ?_ | refine blk_alloc ?_ _));refine blk_far ?_ aA.out _;(with_reducible repeat (first | refine blk_drewN ?_ _ | refine blk_drew ?_ | refine blk_alloc ?_ _));exact ae.out) aC.out (by simp));replace ag:=q_ (Kd.R_mono (Kd.R_keep (IsS122.apart (show IsS122 w0 _ g s0_0 aH aI from hi_) (by(with_reducible repeat (first | apply Kd.R_alloc | apply Kd.R_drewN | apply Kd.R_drew));exact(Kd.R_mono (Kd.R_far (p:=⟨af,1,none⟩) (Kd.R_far (p:=⟨af,0,none⟩) (Kd.R_types ag.out ah.out (by decide)) (fun _ hk=>hk.2) (.int .i64 ax)) (fun _ hk=>hk.2) (.slice bk aj.length bq)) (fun _ h_=>h_.1))) (by decide)) hk (fun _ h=>h.2)) (fun _ h=>h.1));replace ak:=q_ (Kd.R_mono (Kd.R_keep (IsS122.apart (show IsS122 w0 _ g s0_0 aH aI from hi_) (by(with_reducible repeat (first | apply Kd.R_alloc | apply Kd.R_drewN | apply Kd.R_drew));exact(Kd.R_mono (Kd.R_far (p:=⟨af,1,none⟩) (Kd.R_far (p:=⟨af,0,none⟩) (Kd.R_types ak.out ah.out (by decide)) (fun _ hk=>hk.2) (.int .i64 ax)) (fun _ hk=>hk.2) (.slice bk aj.length bq)) (fun _ h_=>h_.1))) (by decide)) hk (fun _ h=>h.2)) (fun _ h=>h.1));replace HK:=q_ (KeepBut.trans hk_ hk (.inl rfl));replace HB:=q_ (hb);replace ah:=q_ (KeepBut.blk hk (g':=af) (o:= .cells #[.int .i64 ax, .slice bk aj.length bq] 26 (0,0)) (by(with_reducible repeat (first | refine blk_drewN ?_ _ | refine blk_drew ?_ | refine blk_alloc ?_ _));refine blk_put (cs:= #[.int .i64 ax, .slice none 0 0]) ?_ 1 _ rfl;(with_reducible repeat (first | refine blk_drewN ?_ _ | refine blk_drew ?_ | refine blk_alloc ?_ _));refine blk_put (cs:= #[.int .i64 0, .slice none 0 0]) ?_ 0 _ rfl;(with_reducible repeat (first | refine blk_drewN ?_ _ | refine blk_drew ?_ | refine blk_alloc ?_ _));exact ah.out) aJ.out (by simp));replace HI0:=q_ (hi);(try clear hb);(try clear hk);(try clear hi)) | ((with_reducible refine gate_dst (N:=24) rfl ?_);refine Kd.R_lit (Kd.int .i64) _ 2 ?hg (N:=24) ?hd (xs:=([0,6,1,2]:List Int)) (inner:= [.int .i64 0, .int .i64 6, .int .i64 1, .int .i64 2]) (ok:=fun _=>True) (okp:=fun _=>True) ?hr ?hp (fun _ hk=>hk) trivial (Below.refl _ _) (Nat.le_refl _) (by simp) ?_;(case hd=>rfl);(case hg=>rfl);(case hr=>first | (go_simp;done) | (go_simp;rfl));(case hp=>exact(Reps.one (show Kd.M (Kd.int .i64) _ _ _ 0 [.int .i64 0] from rfl) (Reps.one (show Kd.M (Kd.int .i64) _ _ _ 6 [.int .i64 6] from rfl) (Reps.one (show Kd.M (Kd.int .i64) _ _ _ 1 [.int .i64 1] from rfl) (Reps.one (show Kd.M (Kd.int .i64) _ _ _ 2 [.int .i64 2] from rfl) (Reps.none _ _))))));intro ep w40 bu hb hg_ hnew_;clear hg_ hnew_;(first | rw [← bI.out] at bu | (simp only [Int.reduceToNat] at bu;rw [← bI.out] at bu));have bi:=q_ (Kd.R_lower (Kd.R_new' (Kd.R_new' bu (Kd.R_lt (ro_ ag.out))) (Kd.R_lt (ro_ ak.out))) (keep_size (w:=w) (g:=g) (row:=none) hk_));replace ae:=q_ (bb_ ae.out hb);replace ah:=q_ (bb_ ah.out hb);replace HB:=q_ (below_step hj_ hb);replace ag:=q_ (Kd.R_elder' (ro_ ag.out) (Kd.R_base bu) hb);replace ak:=q_ (Kd.R_elder' (ro_ ak.out) (Kd.R_base bu) hb);replace HI0:=q_ (IsS122.below hi_ hb);replace HK:=q_ (KeepBut.trans hk_ (KeepBut.of_below hb g none) (.inl rfl));clear hb bu;obtain⟨bY,bZ,cf⟩:=Kd.R_slice bi.out;subst cf) | ((with_reducible refine gate_callee (f:=74) rfl ?_);refine gL_ 25 Tryz.func74 #[.pointer (some ⟨g,0,none⟩), .slice bY bH.length bZ] ?_;(with_reducible refine(spec_l01Pick.calls g s0_0 aQ aT _ _ bH bv bM bN w0 _ ?aD ?aG ?ba ?bf ?bg A27.out).mono ?_);(case aD=>exact hi_);(case aG=>exact hj_);(case ba=>repeat (first | exact(Kd.R_reads' bi.out).2.2 | (with_reducible refine Kd.C_alloc ?_ _) | (with_reducible refine Kd.C_drewN ?_ _) | (with_reducible refine Kd.C_drew ?_)));(case bf=>exact(Kd.R_reads' bi.out).2.1);(case bg=>exact far_slice (IsS122.own_ne HI0.out bi.out (by decide)));rintro e w43 ⟨rfl,hi,hb,hk⟩;refine⟨_,rfl,?_⟩;replace ae:=q_ (KeepBut.blk hk (g':=ai) (o:= .cells #[.int .i64 0, .slice none 0 0] 26 (0,0)) bk_ aC.out (by simp));replace ag:=q_ (Kd.R_mono (Kd.R_keep (IsS122.apart (show IsS122 w0 _ g s0_0 aQ aT from hi_) (ro_ ag.out) (by decide)) hk (fun _ h=>h.2)) (fun _ h=>h.1));replace ak:=q_ (Kd.R_mono (Kd.R_keep (IsS122.apart (show IsS122 w0 _ g s0_0 aQ aT from hi_) (ro_ ak.out) (by decide)) hk (fun _ h=>h.2)) (fun _ h=>h.1));replace ah:=q_ (KeepBut.blk hk (g':=af) (o:= .cells #[.int .i64 ax, .slice bk aj.length bq] 26 (0,0)) bk_ aJ.out (by simp));replace bi:=q_ (Kd.R_mono (Kd.R_keep (IsS122.apart (show IsS122 w0 _ g s0_0 aQ aT from hi_) (ro_ bi.out) (by decide)) hk (fun _ h=>h.2)) (fun _ h=>h.1));replace HK:=q_ (KeepBut.trans hk_ hk (.inl rfl));replace HB:=q_ (hb);replace HI0:=q_ (hi);(try clear hb);(try clear hk);(try clear hi);have cU:=cz_ ah 0;have cV:=cz_ ah 1;have cW:=blk_frozen ah.out 0;have cZ:=blk_frozen ah.out 1;have dV:=aC.out;have dW:=aa.out;have df:=cz_ ae 0;have dh:=cz_ ae 1;have di:=blk_frozen ae.out 0;have dl:=blk_frozen ae.out 1))
   refine bodyPost_ret (results_cell_row rfl _ _ ai 26 #[.int .i64 bv, .slice bk aj.length bq] (0,0) _ rfl (by(with_reducible repeat (first | refine blk_drewN ?_ _ | refine blk_drew ?_ | refine blk_alloc ?_ _));refine blk_put (cs:= #[.int .i64 bv, .slice none 0 0]) ?_ 1 _ rfl;(with_reducible repeat (first | refine blk_drewN ?_ _ | refine blk_drew ?_ | refine blk_alloc ?_ _));refine blk_put (cs:= #[.int .i64 0, .slice none 0 0]) ?_ 0 _ rfl;(with_reducible repeat (first | refine blk_drewN ?_ _ | refine blk_drew ?_ | refine blk_alloc ?_ _));refine blk_far ?_ aA.out _;(with_reducible repeat (first | refine blk_drewN ?_ _ | refine blk_drew ?_ | refine blk_alloc ?_ _));exact ae.out) Tryz.underlying26 rfl (by kernel_rfl)) rfl ?_
   exact⟨_,by first | rfl | (simp [errW_none,errW_some] <;> rfl) | (simp [*,errW_none,errW_some] <;> rfl),by(with_reducible repeat (first | apply Kd.R_alloc | apply Kd.R_drewN | apply Kd.R_drew));exact Kd.R_mono (Kd.R_far (p:=⟨ai,1,none⟩) (Kd.R_far (p:=⟨ai,0,none⟩) (Kd.R_far (p:=⟨af,0,none⟩) (Kd.R_types (Kd.R_types ak.out ah.out (by decide)) ae.out (by decide)) (fun _ hk=>hk.1.2) (.int .i64 bv)) (fun _ hk=>hk.2) (.int .i64 bv)) (fun _ hk=>hk.2) (.slice bk aj.length bq)) (fun _ hk=>trivial),hi_,hj_,hk_⟩
  ·rw [if_neg c26] at H;have c26b0:=e3_ c26;have c26b1:=e4_ c26;simp only [Option.some.injEq,Prod.mk.injEq] at H;obtain⟨rfl,rfl,rfl,rfl⟩:=H
   go_enter Tryz.func77,Tryz.ntmps77
   go_wp2_with (first | ((with_reducible refine gate_dst (N:=2) rfl ?_);refine be_ 2 #[.int .i64 0, .slice none 0 0] 26 ?_;intro ai hg w47 hbox hb;replace HB:=q_ (below_step hj_ hb);have ae:=q_ (hbox);have aq:=q_ ((by rw [hg];exact(keep_size (w:=w) (g:=g) (row:=none) hk_):w.heap.size≤ai));have az:=q_ ((Nat.le_trans HW0.out (by rw [hg];exact(keep_size (w:=w) (g:=g) (row:=none) hk_):w.heap.size≤ai):w0.heap.size≤ai));have aa:=q_ ((by rw [hg];exact Nat.ne_of_lt (IsS122.lt (show IsS122 w0 _ g s0_0 s0_1 s0_2 from hi_)):g≠ai));have aC:=q_ ((by rw [hg];exact Nat.ne_of_gt (IsS122.lt (show IsS122 w0 _ g s0_0 s0_1 s0_2 from hi_)):ai≠g));replace HI0:=q_ (IsS122.below hi_ hb);replace HK:=q_ (KeepBut.trans hk_ (KeepBut.of_below hb g none) (.inl rfl));clear hb hbox hg) | ((with_reducible refine gate_dst (N:=6) rfl ?_);refine Kd.R_lit (Kd.int .i64) _ 2 ?hg (N:=6) ?hd (xs:=([1,2,2,3,3,4,5]:List Int)) (inner:= [.int .i64 1, .int .i64 2, .int .i64 2, .int .i64 3, .int .i64 3, .int .i64 4, .int .i64 5]) (ok:=fun _=>True) (okp:=fun _=>True) ?hr ?hp (fun _ hk=>hk) trivial (Below.refl _ _) (Nat.le_refl _) (by simp) ?_;(case hd=>rfl);(case hg=>rfl);(case hr=>first | (go_simp;done) | (go_simp;rfl));(case hp=>exact(Reps.one (show Kd.M (Kd.int .i64) _ _ _ 1 [.int .i64 1] from rfl) (Reps.one (show Kd.M (Kd.int .i64) _ _ _ 2 [.int .i64 2] from rfl) (Reps.one (show Kd.M (Kd.int .i64) _ _ _ 2 [.int .i64 2] from rfl) (Reps.one (show Kd.M (Kd.int .i64) _ _ _ 3 [.int .i64 3] from rfl) (Reps.one (show Kd.M (Kd.int .i64) _ _ _ 3 [.int .i64 3] from rfl) (Reps.one (show Kd.M (Kd.int .i64) _ _ _ 4 [.int .i64 4] from rfl) (Reps.one (show Kd.M (Kd.int .i64) _ _ _ 5 [.int .i64 5] from rfl) (Reps.none _ _)))))))));intro bK w48 bD hb hg_ hnew_;clear hg_ hnew_;(first | rw [← bh.out] at bD | (simp only [Int.reduceToNat] at bD;rw [← bh.out] at bD));have ag:=q_ (Kd.R_lower bD (keep_size (w:=w) (g:=g) (row:=none) hk_));replace ae:=q_ (bb_ ae.out hb);replace HB:=q_ (below_step hj_ hb);replace HI0:=q_ (IsS122.below hi_ hb);replace HK:=q_ (KeepBut.trans hk_ (KeepBut.of_below hb g none) (.inl rfl));clear hb bD;obtain⟨cu,cA,cB⟩:=Kd.R_slice ag.out;subst cB) | ((with_reducible refine gate_callee (f:=74) rfl ?_);refine gL_ 7 Tryz.func74 #[.pointer (some ⟨g,0,none⟩), .slice cu aV.length cA] ?_;(with_reducible refine(spec_l01Pick.calls g s0_0 s0_1 s0_2 _ _ aV aW aX aY w0 _ ?aD ?aG ?ba ?bf ?bg A2.out).mono ?_);(case aD=>exact hi_);(case aG=>exact hj_);(case ba=>repeat (first | exact(Kd.R_reads' ag.out).2.2 | (with_reducible refine Kd.C_alloc ?_ _) | (with_reducible refine Kd.C_drewN ?_ _) | (with_reducible refine Kd.C_drew ?_)));(case bf=>exact(Kd.R_reads' ag.out).2.1);(case bg=>exact far_slice (IsS122.own_ne HI0.out ag.out (by decide)));rintro e w51 ⟨rfl,hi,hb,hk⟩;refine⟨_,rfl,?_⟩;replace ae:=q_ (KeepBut.blk hk (g':=ai) (o:= .cells #[.int .i64 0, .slice none 0 0] 26 (0,0)) bk_ aC.out (by simp));replace ag:=q_ (Kd.R_mono (Kd.R_keep (IsS122.apart (show IsS122 w0 _ g s0_0 s0_1 s0_2 from hi_) (ro_ ag.out) (by decide)) hk (fun _ h=>h.2)) (fun _ h=>h.1));replace HK:=q_ (KeepBut.trans hk_ hk (.inl rfl));replace HB:=q_ (hb);replace HI0:=q_ (hi);(try clear hb);(try clear hk);(try clear hi)) | ((with_reducible refine gate_callee (f:=128) rfl ?_);refine gL_ 8 Tryz.func128 #[.pointer (some ⟨g,0,none⟩), .int .i64 aW] ?_;(with_reducible refine(spec_l06DrawOf.calls k g s0_0 aX aY aW ax aj aH aI w0 _ ?aD ?aG A3.out).mono ?_);(case aD=>exact hi_);(case aG=>exact hj_);rintro e w52 ⟨bL,rfl,ho0,hi,hb,hk⟩;refine⟨_,rfl,?_⟩;replace ae:=q_ (KeepBut.blk hk (g':=ai) (o:= .cells #[.int .i64 0, .slice none 0 0] 26 (0,0)) bk_ aC.out (by simp));have ak:=q_ (Kd.R_lower (Kd.R_new' ho0 (Kd.R_lt (ro_ ag.out))) (keep_size (w:=w) (g:=g) (row:=none) hk_));replace HB:=q_ (hb);replace ag:=q_ (Kd.R_mono (Kd.R_told (Kd.R_oldK (IsS122.apart (show IsS122 w0 _ g s0_0 aX aY from hi_) (ro_ ag.out) (by decide)) hk) (Kd.R_base ho0)) (fun _ h_=>h_.1));replace HK:=q_ (KeepBut.trans hk_ hk (.inl rfl));replace HI0:=q_ (hi);(try clear hb);(try clear hk);(try clear hi);(try clear ho0)) | ((with_reducible refine gate_dst (N:=3) rfl ?_);refine be_ 3 #[.int .i64 0, .slice none 0 0] 26 ?_;intro af hg w53 hbox hb;replace ag:=q_ (rb_ ag.out hb);replace ak:=q_ (rb_ ak.out hb);replace HB:=q_ (below_step hj_ hb);have ah:=q_ (hbox);have aK:=q_ ((by rw [hg];exact(keep_size (w:=w) (g:=g) (row:=none) hk_):w.heap.size≤af));have aN:=q_ ((Nat.le_trans HW0.out (by rw [hg];exact(keep_size (w:=w) (g:=g) (row:=none) hk_):w.heap.size≤af):w0.heap.size≤af));have aA:=q_ ((by rw [hg];exact lt_ ae.out:ai≠af));have aU:=q_ ((by rw [hg];exact gt_ ae.out:af≠ai));have av:=q_ ((by rw [hg];exact Nat.ne_of_lt (IsS122.lt (show IsS122 w0 _ g s0_0 aH aI from hi_)):g≠af));have aJ:=q_ ((by rw [hg];exact Nat.ne_of_gt (IsS122.lt (show IsS122 w0 _ g s0_0 aH aI from hi_)):af≠g));replace HI0:=q_ (IsS122.below hi_ hb);replace ae:=q_ (bb_ ae.out hb);replace HK:=q_ (KeepBut.trans hk_ (KeepBut.of_below hb g none) (.inl rfl));clear hb hbox hg;have dX:=aU.out;have dY:=aA.out;have dZ:=aJ.out;have d9:=av.out;have dr:=cz_ ah 0;have du:=cz_ ah 1;have dw:=blk_frozen ah.out 0;have dx:=blk_frozen ah.out 1;obtain⟨bw,bz,cC⟩:=Kd.R_slice ak.out;subst cC) | ((with_reducible refine gate_callee (f:=36) rfl ?_);refine gL_ 10 Tryz.func36 #[.pointer (some ⟨g,0,none⟩), .int .i64 40] ?_;(with_reducible refine(spec_l01Next.calls g s0_0 aH aI 40 aM aQ aT w0 _ ?aD ?aG A4.out).mono ?_);(case aD=>exact hi_);(case aG=>exact hj_);rintro e w58 ⟨rfl,hi,hb,hk⟩;refine⟨_,rfl,?_⟩;replace ae:=q_ (KeepBut.blk hk (g':=ai) (o:= .cells #[.int .i64 0, .slice none 0 0] 26 (0,0)) (by(with_reducible repeat (first | refine blk_drewN ?_ _ | refine blk_drew ?_ | refine blk_alloc ?_ _));refine blk_far ?_ aA.out _;(with_reducible repeat (first | refine blk_drewN ?_ _ | refine blk_drew ?_ | refine blk_alloc ?_ _));refine blk_far ?_ aA.out _;(with_reducible repeat (first | refine blk_drewN ?_ _ | refine blk_drew ?_ | refine blk_alloc ?_ _));exact ae.out) aC.out (by simp));replace ag:=q_ (Kd.R_mono (Kd.R_keep (IsS122.apart (show IsS122 w0 _ g s0_0 aH aI from hi_) (by(with_reducible repeat (first | apply Kd.R_alloc | apply Kd.R_drewN | apply Kd.R_drew));exact(Kd.R_mono (Kd.R_far (p:=⟨af,1,none⟩) (Kd.R_far (p:=⟨af,0,none⟩) (Kd.R_types ag.out ah.out (by decide)) (fun _ hk=>hk.2) (.int .i64 ax)) (fun _ hk=>hk.2) (.slice bw aj.length bz)) (fun _ h_=>h_.1))) (by decide)) hk (fun _ h=>h.2)) (fun _ h=>h.1));replace ak:=q_ (Kd.R_mono (Kd.R_keep (IsS122.apart (show IsS122 w0 _ g s0_0 aH aI from hi_) (by(with_reducible repeat (first | apply Kd.R_alloc | apply Kd.R_drewN | apply Kd.R_drew));exact(Kd.R_mono (Kd.R_far (p:=⟨af,1,none⟩) (Kd.R_far (p:=⟨af,0,none⟩) (Kd.R_types ak.out ah.out (by decide)) (fun _ hk=>hk.2) (.int .i64 ax)) (fun _ hk=>hk.2) (.slice bw aj.length bz)) (fun _ h_=>h_.1))) (by decide)) hk (fun _ h=>h.2)) (fun _ h=>h.1));replace HK:=q_ (KeepBut.trans hk_ hk (.inl rfl));replace HB:=q_ (hb);replace ah:=q_ (KeepBut.blk hk (g':=af) (o:= .cells #[.int .i64 ax, .slice bw aj.length bz] 26 (0,0)) (by(with_reducible repeat (first | refine blk_drewN ?_ _ | refine blk_drew ?_ | refine blk_alloc ?_ _));refine blk_put (cs:= #[.int .i64 ax, .slice none 0 0]) ?_ 1 _ rfl;(with_reducible repeat (first | refine blk_drewN ?_ _ | refine blk_drew ?_ | refine blk_alloc ?_ _));refine blk_put (cs:= #[.int .i64 0, .slice none 0 0]) ?_ 0 _ rfl;(with_reducible repeat (first | refine blk_drewN ?_ _ | refine blk_drew ?_ | refine blk_alloc ?_ _));exact ah.out) aJ.out (by simp));replace HI0:=q_ (hi);(try clear hb);(try clear hk);(try clear hi);have dz:=cz_ ah 0;have dA:=cz_ ah 1;have dB:=blk_frozen ah.out 0;have dC:=blk_frozen ah.out 1;have ed:=aC.out;have ek:=aa.out;have dD:=cz_ ae 0;have dE:=cz_ ae 1;have dF:=blk_frozen ae.out 0;have dG:=blk_frozen ae.out 1))
   refine bodyPost_ret (results_cell_row rfl _ _ ai 26 #[.int .i64 ax, .slice bw aj.length bz] (0,0) _ rfl (by(with_reducible repeat (first | refine blk_drewN ?_ _ | refine blk_drew ?_ | refine blk_alloc ?_ _));refine blk_put (cs:= #[.int .i64 ax, .slice none 0 0]) ?_ 1 _ rfl;(with_reducible repeat (first | refine blk_drewN ?_ _ | refine blk_drew ?_ | refine blk_alloc ?_ _));refine blk_put (cs:= #[.int .i64 0, .slice none 0 0]) ?_ 0 _ rfl;(with_reducible repeat (first | refine blk_drewN ?_ _ | refine blk_drew ?_ | refine blk_alloc ?_ _));exact ae.out) Tryz.underlying26 rfl (by kernel_rfl)) rfl ?_
   exact⟨_,by first | rfl | (simp [errW_none,errW_some] <;> rfl) | (simp [*,errW_none,errW_some] <;> rfl),by(with_reducible repeat (first | apply Kd.R_alloc | apply Kd.R_drewN | apply Kd.R_drew));exact Kd.R_mono (Kd.R_far (p:=⟨ai,1,none⟩) (Kd.R_far (p:=⟨ai,0,none⟩) (Kd.R_types ak.out ae.out (by decide)) (fun _ hk=>hk.2) (.int .i64 ax)) (fun _ hk=>hk.2) (.slice bw aj.length bz)) (fun _ hk=>trivial),hi_,hj_,hk_⟩
def spec_l06With.f (k:Nat) (l0:List Int):Option (Int × List Int × Int):=(spec_l01From.f k l0).bind fun aa=>((spec_l06Draw.f k aa.1 aa.2.1 aa.2.2).bind fun ae=>((spec_l01Next.f aa.1 ae.2.2.1 ae.2.2.2 24).bind fun af=>((spec_l01Next.f aa.1 af.2.1 af.2.2 (wrap64 ((ae.2.1.length:Int)+(wrap64 (Int.tdiv af.1 23))))).bind fun ag=>(some (ae.1,ae.2.1,ag.1)))))
theorem spec_l06With.mono: ∀a0 k,LeO (spec_l06With.f k a0) (spec_l06With.f (k+1) a0):=by
 intro a0 k
 unfold spec_l06With.f
 repeat' first | (with_reducible first | exact spec_l01From.mono _ _ | exact spec_l06Draw.mono _ _ _ _ | exact LeO.refl _ | exact LeO.none _ | refine LeO.ite ?_ ?_ | refine LeO.bind ?_ (fun _=>?_)) | exact spec_l01From.mono _ _ | exact spec_l06Draw.mono _ _ _ _ | exact LeO.none _ | refine LeO.ite ?_ ?_ | refine LeO.bind ?_ (fun _=>?_)
def spec_l06With.T3:Bool × List (List Nat × List Nat):=(true, [([], []),([], []),([], []),([2], [2]),([3], [3]),([], []),([5], [5]),([6], [6]),([4,7], [4,7]),([1,8,6], [1,8]),([0,9,0], [0]),([9,10,0,1,2,3,4,5,6,7,8,9,10], [9])])
def spec_l06With.B3:List Nat:= [0,0,0,4,12,0,32,96,252,510,1023,2047]
theorem spec_l06With.tab3:rtab .any (opsOf Tryz.f35 3)=spec_l06With.T3:=by kernel_rfl
theorem spec_l06With.bits3:waitsOk spec_l06With.T3.2 spec_l06With.B3=true:=by kernel_rfl
theorem spec_l06With.calls (k:Nat) (A0:Option Addr) (c0:Nat) (l0:List Int) (r1:Int) (r2:List Int) (r3:Int) (w:World) (hr0:Kd.C (Kd.int .u8) w A0 l0.length l0) (hc0:l0.length≤c0) (h:spec_l06With.f k l0=some (r1,r2,r3)):
  Calls Tryz.prog 35 #[.slice A0 l0.length c0] w fun e w'=> ∃v1_:Value,e= .returned (.tuple #[.agg #[.int .i64 r1,v1_], .int .i64 r3])∧Kd.R (Kd.int .i64) 2 w' w.heap.size (fun _=>True) v1_ r2∧Below w.heap.size w w':=by
 have hu26:=Tryz.underlying26;have HR0:=q_ hr0;have HC0:=q_ hc0;clear hr0 hc0;have HB:=q_ (Below.refl w.heap.size w);have H:((spec_l01From.f k l0).bind fun aN=>((spec_l06Draw.f k aN.1 aN.2.1 aN.2.2).bind fun aw=>((spec_l01Next.f aN.1 aw.2.2.1 aw.2.2.2 24).bind fun ax=>((spec_l01Next.f aN.1 ax.2.1 ax.2.2 (wrap64 ((aw.2.1.length:Int)+(wrap64 (Int.tdiv ax.1 23))))).bind fun aD=>(some (aw.1,aw.2.1,aD.1))))))=some (r1,r2,r3):=h;clear h;replace H:=Option.bind_eq_some_iff.mp H;obtain⟨⟨au,aW,aX⟩,A20,H⟩:=H;replace H:((spec_l06Draw.f k au aW aX).bind fun aw=>((spec_l01Next.f au aw.2.2.1 aw.2.2.2 24).bind fun ax=>((spec_l01Next.f au ax.2.1 ax.2.2 (wrap64 ((aw.2.1.length:Int)+(wrap64 (Int.tdiv ax.1 23))))).bind fun aD=>(some (aw.1,aw.2.1,aD.1)))))=some (r1,r2,r3):=H;have A2:=q_ A20;clear A20;replace H:=Option.bind_eq_some_iff.mp H;obtain⟨⟨aj,ag,aK,aM⟩,A30,H⟩:=H;replace H:((spec_l01Next.f au aK aM 24).bind fun ax=>((spec_l01Next.f au ax.2.1 ax.2.2 (wrap64 ((ag.length:Int)+(wrap64 (Int.tdiv ax.1 23))))).bind fun aD=>(some (aj,ag,aD.1))))=some (r1,r2,r3):=H;have A3:=q_ A30;clear A30;replace H:=Option.bind_eq_some_iff.mp H;obtain⟨⟨aT,aU,aV⟩,A40,H⟩:=H;replace H:((spec_l01Next.f au aU aV (wrap64 ((ag.length:Int)+(wrap64 (Int.tdiv aT 23))))).bind fun aD=>(some (aj,ag,aD.1)))=some (r1,r2,r3):=H;have A4:=q_ A40;clear A40;replace H:=Option.bind_eq_some_iff.mp H;obtain⟨⟨aY,a9,ba⟩,A50,H⟩:=H;replace H:(some (aj,ag,aY))=some (r1,r2,r3):=H;have A5:=q_ A50;clear A50;simp only [Option.some.injEq,Prod.mk.injEq] at H;obtain⟨rfl,rfl,rfl⟩:=H
 go_enter Tryz.func35,Tryz.ntmps35
 try go_wp2_with (first | ((with_reducible refine gate_dst (N:=2) rfl ?_);refine be_ 2 #[.int .i64 0, .slice none 0 0] 26 ?_;intro ah hg w6 hbox hb;have ae:=q_ (hbox);have bq:=q_ ((by rw [hg];exact bz_:w.heap.size≤ah));have aA:=q_ ((by rw [hg];exact bz_:w.heap.size≤ah));replace HB:=q_ (bs_ hb);clear hb hbox hg) | ((with_reducible refine gate_callee (f:=34) rfl ?_);refine gL_ 7 Tryz.func34 #[.slice A0 l0.length c0] ?_;(with_reducible refine(spec_l01From.calls k _ _ l0 au aW aX w _ ?aG ?aH ?aZ A2.out).mono ?_);(case aG=>exact hb_);(case aH=>exact HR0.out);(case aZ=>exact HC0.out);rintro e w7 ⟨g178,rfl,hi,hb,hb2⟩;refine⟨_,rfl,?_⟩;replace HB:=q_ (hb);have HI178:=q_ (hi);have ai:=q_ (IsS122.ne_blk hi (bb_ ae.out hb2) (by decide));have aI:=q_ (Ne.symm (IsS122.ne_blk hi (bb_ ae.out hb2) (by decide)));replace ae:=q_ (bb_ ae.out hb2);(try clear hb);(try clear hb2);(try clear hk);(try clear hi)) | ((with_reducible refine gate_callee (f:=77) rfl ?_);refine gL_ 9 Tryz.func77 #[.pointer (some ⟨g178,0,none⟩)] ?_;(with_reducible refine(spec_l06Draw.calls k g178 au aW aX aj ag aK aM w _ ?aG ?aH A3.out).mono ?_);(case aG=>repeat (first | (with_reducible first | exact HI178.out | apply IsS122.alloc | apply IsS122.drewN | apply IsS122.drew | apply IsS122.set_1 | apply IsS122.set_2 | refine IsS122.far ?_ ai.out _) | exact HI178.out));(case aH=>repeat (first | (with_reducible first | exact HB.out | apply below_alloc | apply pw_below_drewN | apply below_drew1 | refine below_set ?_ (IsS122.ge HI178.out) | refine below_set ?_ aA.out) | exact HB.out));rintro e w8 ⟨bC,rfl,ho0,hi,hb,hk⟩;refine⟨_,rfl,?_⟩;replace ae:=q_ (KeepBut.blk hk (g':=ah) (o:= .cells #[.int .i64 0, .slice none 0 0] 26 (0,0)) bk_ aI.out (by simp));have ak:=q_ (Kd.R_lower ho0 (below_size (by repeat (first | (with_reducible first | exact HB.out | apply below_alloc | apply pw_below_drewN | apply below_drew1 | refine below_set ?_ (IsS122.ge HI178.out) | refine below_set ?_ aA.out) | exact HB.out))));replace HB:=q_ (hb);replace HI178:=q_ (hi);(try clear hb);(try clear hb2);(try clear hk);(try clear hi);(try clear ho0)) | ((with_reducible refine gate_dst (N:=5) rfl ?_);refine be_ 5 #[.int .i64 0, .slice none 0 0] 26 ?_;intro aa hg w9 hbox hb;replace ak:=q_ (rb_ ak.out hb);have af:=q_ (hbox);have bu:=q_ ((by rw [hg];exact(below_size (by repeat (first | (with_reducible first | exact HB.out | apply below_alloc | apply pw_below_drewN | apply below_drew1 | refine below_set ?_ (IsS122.ge HI178.out) | refine below_set ?_ aA.out) | exact HB.out))):w.heap.size≤aa));have aQ:=q_ ((by rw [hg];exact(below_size (by repeat (first | (with_reducible first | exact HB.out | apply below_alloc | apply pw_below_drewN | apply below_drew1 | refine below_set ?_ (IsS122.ge HI178.out) | refine below_set ?_ aA.out) | exact HB.out))):w.heap.size≤aa));have aC:=q_ ((by rw [hg];exact lt_ ae.out:ah≠aa));have aq:=q_ ((by rw [hg];exact gt_ ae.out:aa≠ah));have av:=q_ ((by rw [hg];exact Nat.ne_of_lt (IsS122.lt (show IsS122 w _ g178 au aK aM from by repeat (first | (with_reducible first | exact HI178.out | apply IsS122.alloc | apply IsS122.drewN | apply IsS122.drew | apply IsS122.set_1 | apply IsS122.set_2 | refine IsS122.far ?_ ai.out _) | exact HI178.out))):g178≠aa));have aJ:=q_ ((by rw [hg];exact Nat.ne_of_gt (IsS122.lt (show IsS122 w _ g178 au aK aM from by repeat (first | (with_reducible first | exact HI178.out | apply IsS122.alloc | apply IsS122.drewN | apply IsS122.drew | apply IsS122.set_1 | apply IsS122.set_2 | refine IsS122.far ?_ ai.out _) | exact HI178.out))):aa≠g178));replace ae:=q_ (bb_ ae.out hb);replace HB:=q_ (below_step (by repeat (first | (with_reducible first | exact HB.out | apply below_alloc | apply pw_below_drewN | apply below_drew1 | refine below_set ?_ (IsS122.ge HI178.out) | refine below_set ?_ aA.out) | exact HB.out)) hb);replace HI178:=q_ (IsS122.below (by repeat (first | (with_reducible first | exact HI178.out | apply IsS122.alloc | apply IsS122.drewN | apply IsS122.drew | apply IsS122.set_1 | apply IsS122.set_2 | refine IsS122.far ?_ ai.out _) | exact HI178.out)) hb);clear hb hbox hg;have bv:=aq.out;have bw:=aC.out;have bz:=aJ.out;have bA:=av.out;have bg:=cz_ af 0;have bh:=cz_ af 1;have bi:=blk_frozen af.out 0;have bk:=blk_frozen af.out 1;obtain⟨ay,az,bf⟩:=Kd.R_slice ak.out;subst bf))
 have n0_:Aside0 (Kd.R (Kd.int .i64) 2 ((w9.setCell ⟨aa,0,none⟩ (.int .i64 aj)).setCell ⟨aa,1,none⟩ (.slice ay ag.length az)) w.heap.size (fun _=>True) (.slice ay ag.length az) ag):=⟨by(with_reducible repeat (first | apply Kd.R_alloc | apply Kd.R_drewN | apply Kd.R_drew));exact Kd.R_mono (Kd.R_far (p:=⟨aa,1,none⟩) (Kd.R_far (p:=⟨aa,0,none⟩) (Kd.R_types ak.out af.out (by decide)) (fun _ hk=>hk.2) (.int .i64 aj)) (fun _ hk=>hk.2) (.slice ay ag.length az)) (fun _ hk=>trivial)⟩
 have n1_:Aside0 (((w9.setCell ⟨aa,0,none⟩ (.int .i64 aj)).setCell ⟨aa,1,none⟩ (.slice ay ag.length az)).heap[ah]?=some (.cells #[.int .i64 0, .slice none 0 0] 26 (0,0))):=⟨by(with_reducible repeat (first | refine blk_drewN ?_ _ | refine blk_drew ?_ | refine blk_alloc ?_ _));refine blk_far ?_ aC.out _;(with_reducible repeat (first | refine blk_drewN ?_ _ | refine blk_drew ?_ | refine blk_alloc ?_ _));refine blk_far ?_ aC.out _;(with_reducible repeat (first | refine blk_drewN ?_ _ | refine blk_drew ?_ | refine blk_alloc ?_ _));exact ae.out⟩
 have n2_:Aside0 (((w9.setCell ⟨aa,0,none⟩ (.int .i64 aj)).setCell ⟨aa,1,none⟩ (.slice ay ag.length az)).heap[aa]?=some (.cells #[.int .i64 aj, .slice ay ag.length az] 26 (0,0))):=⟨by(with_reducible repeat (first | refine blk_drewN ?_ _ | refine blk_drew ?_ | refine blk_alloc ?_ _));refine blk_put (cs:= #[.int .i64 aj, .slice none 0 0]) ?_ 1 _ rfl;(with_reducible repeat (first | refine blk_drewN ?_ _ | refine blk_drew ?_ | refine blk_alloc ?_ _));refine blk_put (cs:= #[.int .i64 0, .slice none 0 0]) ?_ 0 _ rfl;(with_reducible repeat (first | refine blk_drewN ?_ _ | refine blk_drew ?_ | refine blk_alloc ?_ _));exact af.out⟩
 have n3_:Aside0 (IsS122 w ((w9.setCell ⟨aa,0,none⟩ (.int .i64 aj)).setCell ⟨aa,1,none⟩ (.slice ay ag.length az)) g178 au aK aM):=⟨by repeat (first | (with_reducible first | exact HI178.out | apply IsS122.alloc | apply IsS122.drewN | apply IsS122.drew | apply IsS122.set_1 | apply IsS122.set_2 | refine IsS122.far ?_ ai.out _ | refine IsS122.far ?_ av.out _) | exact HI178.out)⟩
 have n4_:Aside0 (Below w.heap.size w ((w9.setCell ⟨aa,0,none⟩ (.int .i64 aj)).setCell ⟨aa,1,none⟩ (.slice ay ag.length az))):=⟨by repeat (first | (with_reducible first | exact HB.out | apply below_alloc | apply pw_below_drewN | apply below_drew1 | refine below_set ?_ (IsS122.ge HI178.out) | refine below_set ?_ aA.out | refine below_set ?_ aQ.out) | exact HB.out)⟩
 (try clear ak);(try clear ae);(try clear af);(try clear HI178);(try clear HB)
 generalize ((w9.setCell ⟨aa,0,none⟩ (.int .i64 aj)).setCell ⟨aa,1,none⟩ (.slice ay ag.length az))=w14 at n0_ n1_ n2_ n3_ n4_ ⊢
 have ak:=n0_;have ae:=n1_;have af:=n2_;have HI178:=n3_;have HB:=n4_;clear n0_ n1_ n2_ n3_ n4_;replace ak:=q_ (Kd.R_drew ak.out);replace ae:=q_ (blk_drew ae.out);replace af:=q_ (blk_drew af.out);replace HI178:=q_ (IsS122.drew HI178.out);replace HB:=q_ (below_drew1 HB.out);refine st_ (n:=12) (S:=fun w'=>w'.cell? ⟨aa,0,none⟩=some (.int .i64 aj)∧w'.cell? ⟨aa,1,none⟩=some (.slice ay ag.length az)) (ds:= []) ⟨(blk_cell af.out 0).trans rfl,(blk_cell af.out 1).trans rfl⟩ (fun hHeld=>?_);refine with_tabW spec_l06With.tab3 spec_l06With.bits3 (fun HT_ HW_=>?_)
 generalize w14.drew=w15 at ak ae af HI178 HB hHeld ⊢
 refine pu_ 1 11 ?_;refine pu_ 2 12 ?_;refine pu_ 5 15 ?_;refine tk_ 0 10 ?_;refine tk_ 3 13 ?_;refine pu_ 4 14 ?_
 refine on_ 6 (some 16) (fun K hK=>?_)
 refine goes_ Tryz.func36 (by kernel_rfl) rfl #[.pointer (some ⟨g178,0,none⟩), .int .i64 24] (by rfl) rfl rfl (by(try simp only [List.map_toArray,List.map_cons,List.map_nil]);first | done | rfl | (simp only [List.length_drop,List.length_take];rfl)) ?_
 with_reducible refine(spec_l01Next.calls g178 au aK aM 24 aT aU aV w _ ?aG ?aH A4.out).mono ?_
 (case aG=>repeat (first | (with_reducible first | exact HI178.out | apply IsS122.alloc | apply IsS122.drewN | apply IsS122.drew | apply IsS122.set_1 | apply IsS122.set_2 | refine IsS122.far ?_ ai.out _ | refine IsS122.far ?_ av.out _) | exact HI178.out))
 (case aH=>repeat (first | (with_reducible first | exact HB.out | apply below_alloc | apply pw_below_drewN | apply below_drew1 | refine below_set ?_ (IsS122.ge HI178.out) | refine below_set ?_ aA.out | refine below_set ?_ aQ.out) | exact HB.out))
 rintro e w16 ⟨rfl,hi,hb,hk⟩;refine⟨_,rfl,?_⟩
 replace ae:=q_ (KeepBut.blk hk (g':=ah) (o:= .cells #[.int .i64 0, .slice none 0 0] 26 (0,0)) bk_ aI.out (by simp));replace ak:=q_ (Kd.R_mono (Kd.R_keep (IsS122.apart (show IsS122 w _ g178 au aK aM from by repeat (first | (with_reducible first | exact HI178.out | apply IsS122.alloc | apply IsS122.drewN | apply IsS122.drew | apply IsS122.set_1 | apply IsS122.set_2 | refine IsS122.far ?_ ai.out _ | refine IsS122.far ?_ av.out _) | exact HI178.out)) (ro_ ak.out) (by decide)) hk (fun _ h=>h.2)) (fun _ h=>h.1));replace af:=q_ (KeepBut.blk hk (g':=aa) (o:= .cells #[.int .i64 aj, .slice ay ag.length az] 26 (0,0)) bk_ aJ.out (by simp));replace HB:=q_ (hb);replace HI178:=q_ (hi);(try clear hb);(try clear hb2);(try clear hk);(try clear hi);refine hK.out _ _ ⟨(blk_cell af.out 0).trans rfl,(blk_cell af.out 1).trans rfl⟩ (fun hHeld=>?_)
 clear hK K;refine norm_ (a':=?_) ?_ ?_
 rotate_left
 ·show Act.put _ (some 16) _=_
  simp only [Act.put,List.setIfInBounds_toArray,List.set_cons_zero,List.set_cons_succ,i64_w,i32_w]
  rfl
 refine pu_ 7 17 ?_;refine pu_ 8 18 ?_
 refine on_ 9 (some 19) (fun K hK=>?_)
 refine goes_ Tryz.func36 (by kernel_rfl) rfl #[.pointer (some ⟨g178,0,none⟩), .int .i64 (wrap64 ((ag.length:Int)+(wrap64 (Int.tdiv aT 23))))] (by rfl) rfl rfl (by(try simp only [List.map_toArray,List.map_cons,List.map_nil]);first | done | rfl | (simp only [List.length_drop,List.length_take];rfl)) ?_
 with_reducible refine(spec_l01Next.calls g178 au aU aV (wrap64 ((ag.length:Int)+(wrap64 (Int.tdiv aT 23)))) aY a9 ba w _ ?aG ?aH A5.out).mono ?_
 (case aG=>repeat (first | (with_reducible first | exact HI178.out | apply IsS122.alloc | apply IsS122.drewN | apply IsS122.drew | apply IsS122.set_1 | apply IsS122.set_2 | refine IsS122.far ?_ ai.out _ | refine IsS122.far ?_ av.out _) | exact HI178.out))
 (case aH=>repeat (first | (with_reducible first | exact HB.out | apply below_alloc | apply pw_below_drewN | apply below_drew1 | refine below_set ?_ (IsS122.ge HI178.out) | refine below_set ?_ aA.out | refine below_set ?_ aQ.out) | exact HB.out))
 rintro e w17 ⟨rfl,hi,hb,hk⟩;refine⟨_,rfl,?_⟩
 replace ae:=q_ (KeepBut.blk hk (g':=ah) (o:= .cells #[.int .i64 0, .slice none 0 0] 26 (0,0)) bk_ aI.out (by simp));replace ak:=q_ (Kd.R_mono (Kd.R_keep (IsS122.apart (show IsS122 w _ g178 au aU aV from by repeat (first | (with_reducible first | exact HI178.out | apply IsS122.alloc | apply IsS122.drewN | apply IsS122.drew | apply IsS122.set_1 | apply IsS122.set_2 | refine IsS122.far ?_ ai.out _ | refine IsS122.far ?_ av.out _) | exact HI178.out)) (ro_ ak.out) (by decide)) hk (fun _ h=>h.2)) (fun _ h=>h.1));replace af:=q_ (KeepBut.blk hk (g':=aa) (o:= .cells #[.int .i64 aj, .slice ay ag.length az] 26 (0,0)) bk_ aJ.out (by simp));replace HB:=q_ (hb);replace HI178:=q_ (hi);(try clear hb);(try clear hb2);(try clear hk);(try clear hi);refine hK.out _ _ ⟨(blk_cell af.out 0).trans rfl,(blk_cell af.out 1).trans rfl⟩ (fun hHeld=>?_)
 clear hK K;refine norm_ (a':=?_) ?_ ?_
 rotate_left
 ·show Act.put _ (some 19) _=_
  simp only [Act.put,List.setIfInBounds_toArray,List.set_cons_zero,List.set_cons_succ,i64_w,i32_w]
  rfl
 refine on_ 10 none (fun K hK=>?_)
 have hs18:=cz_ ae 0;have hfs18:=blk_frozen ae.out 0;have hns18_1:=aq.out;have hms18_1:=aC.out;have hs19:=cz_ ae 1;have hfs19:=blk_frozen ae.out 1;have hns19_1:=aq.out;have hms19_1:=aC.out;refine skip_ (w1:=?_) (by rfl) rfl ?_ ?_
 rotate_left
 ·go_simp
  rfl
 refine hK.out _ _ ⟨((cell_far (p:=⟨ah,_,none⟩) aq.out _).trans (((cell_far (p:=⟨ah,_,none⟩) aq.out _).trans (hHeld.1)))),((cell_far (p:=⟨ah,_,none⟩) aq.out _).trans (((cell_far (p:=⟨ah,_,none⟩) aq.out _).trans (hHeld.2))))⟩ (fun hHeld=>?_)
 clear hK K;refine pu_ 11 3 ?_
 refine done_ (done_of HT_.out (by kernel_rfl)) ?_
 try go_wp2
 refine bodyPost_ret (results_ct rfl _ _ ah 26 #[.int .i64 aj, .slice ay ag.length az] (0,0) _ rfl (by(with_reducible repeat (first | refine blk_drewN ?_ _ | refine blk_drew ?_ | refine blk_alloc ?_ _));refine blk_put (cs:= #[.int .i64 aj, .slice none 0 0]) ?_ 1 _ rfl;(with_reducible repeat (first | refine blk_drewN ?_ _ | refine blk_drew ?_ | refine blk_alloc ?_ _));refine blk_put (cs:= #[.int .i64 0, .slice none 0 0]) ?_ 0 _ rfl;(with_reducible repeat (first | refine blk_drewN ?_ _ | refine blk_drew ?_ | refine blk_alloc ?_ _));exact ae.out) Tryz.underlying26 rfl (by kernel_rfl)) rfl ?_
 exact⟨_,by first | rfl | (simp [errW_none,errW_some] <;> rfl) | (simp [*,errW_none,errW_some] <;> rfl),by(with_reducible repeat (first | apply Kd.R_alloc | apply Kd.R_drewN | apply Kd.R_drew));exact Kd.R_mono (Kd.R_far (p:=⟨ah,1,none⟩) (Kd.R_far (p:=⟨ah,0,none⟩) (Kd.R_types ak.out ae.out (by decide)) (fun _ hk=>hk.2) (.int .i64 aj)) (fun _ hk=>hk.2) (.slice ay ag.length az)) (fun _ hk=>trivial),by repeat (first | (with_reducible first | exact HB.out | apply below_alloc | apply pw_below_drewN | apply below_drew1 | refine below_set ?_ (IsS122.ge HI178.out) | refine below_set ?_ aA.out | refine below_set ?_ aQ.out) | exact HB.out)⟩
end Go.Proofs.YthmfdplckdijdaaGreat.Pr
end
section
namespace Go.Proofs.YthmfdplckdijdaaGreat.Dr
open Go.RowKit Go.Proofs.YthmfdplckdijdaaGreatW.PrintWords Go.Proofs.YthmfdplckdijdaaGreatW.PrintMore Go.Proofs.YthmfdplckdijdaaGreat.Ma Go.Proofs.YthmfdplckdijdaaGreat.Pr Go.Proofs.YthmfdplckdijdaaGreat.Cu
theorem ones2_fin: ∀D:Fin 32,spec_l01Ones.f 6 (D.val:Int)=some ((spec_l01Ones.f 6 (D.val:Int)).getD 0):=by decide+kernel
theorem ones_any {D:Nat} (hD:D < 32):Ev (fun k=>spec_l01Ones.f k (D:Int)) ((spec_l01Ones.f 6 (D:Int)).getD 0):=Ev.of (spec_l01Ones.mono _) (ones2_fin ⟨D,hD⟩)
def PC (b:List Int) (N:Nat) (r:Int × List Int × Int × Int):Prop:=r.1=(N:Int)∧r.2.1.length=2 ^ N∧Src b r.2.2.1
section
variable {b:List Int} {N:Nat} (hN:N≤5) (hN1:1≤N)
include hN
theorem pw:2 ^ N≤32:=Nat.pow_le_pow_right (n:=2) (by decide) hN
theorem shl_i {i:Nat} (h:i < N):shl .i64 1 (IntKind.u64.wrap (i:Int))=((2 ^ i:Nat):Int):=by
 rw [u64w (by omega) (by omega),shl_one (by omega) (by omega),Int.toNat_natCast]
omit hN in
theorem pl {i:Nat} (h:i < N):2 ^ i < 2 ^ N:=Nat.pow_lt_pow_right (by decide) h
theorem or_i {v i:Nat} (hv:v < 2 ^ N) (h:i < N):Go.bits .or .i64 (v:Int) (shl .i64 1 (IntKind.u64.wrap (i:Int)))=((v ||| 2 ^ i:Nat):Int)∧v ||| 2 ^ i < 2 ^ N:=by
 have h1:=pw hN;have h2:=pl h
 rw [shl_i hN h,or_nat (by omega) (by omega)]
 exact⟨rfl,Nat.or_lt_two_pow hv h2⟩
theorem xor_i {v i:Nat} (hv:v < 2 ^ N) (h:i < N):Go.bits .xor .i64 (v:Int) (shl .i64 1 (IntKind.u64.wrap (i:Int)))=((v ^^^ 2 ^ i:Nat):Int)∧v ^^^ 2 ^ i < 2 ^ N:=by
 have h1:=pw hN;have h2:=pl h
 rw [shl_i hN h,xor_nat (by omega) (by omega)]
 exact⟨rfl,Nat.xor_lt_two_pow hv h2⟩
theorem loop0: ∀(m v:Nat) (a h:Int) (l:List Int),v+m=2 ^ N→l.length=2 ^ N→Src b a→Ex (fun k=>spec_l06DrawOf.l0 k (N:Int) (v:Int) b a h (N:Int) l) (PC b N):=by
 have h32:=pw hN
 intro m
 induction m with
 | zero=>
  intro v a h l hv hl hs
  refine exstep (fun k=>by rw [spec_l06DrawOf.l0]) ?_
  exact exneg (by omega) (exc rfl ⟨rfl,hl,hs⟩)
 | succ m ih=>
  intro v a h l hv hl hs
  have inner: ∀(p i:Nat) (a h:Int) (l:List Int),i+p=N→l.length=2 ^ N→Src b a→Ex (fun k=>spec_l06DrawOf.l1 k (N:Int) (v:Int) (i:Int) b a h (N:Int) l) (PC b N):=by
   intro p
   induction p with
   | zero=>
    intro i a h l hi hl hs
    refine exstep (fun k=>by rw [spec_l06DrawOf.l1]) ?_
    refine exneg (by omega) ?_
    rw [w64 (x:=(v:Int)+1) (by omega) (by omega)]
    exact ih (v+1) a h l (by omega) hl hs
   | succ p ihp=>
    intro i a h l hi hl hs
    have ho:=or_i hN (v:=v) (i:=i) (by omega) (by omega)
    refine exstep (fun k=>by rw [spec_l06DrawOf.l1]) ?_
    rw [w64 (x:=(i:Int)+1) (by omega) (by omega),ho.1]
    refine expos (by omega) (expos (by rw [u64w (by omega) (by omega)];omega) (exif (fun _=>?_) (fun _=>?_)))
    ·refine exbind (next_ex hs h 2) (fun r p=>exif (fun _=>?_) (fun _=>?_))
     ·exact expos (by omega) (expos (by omega) (ihp (i+1) _ _ _ (by omega) (by rw [List.length_set];exact hl) p.1))
     ·exact expos (by omega) (expos (by omega) (ihp (i+1) _ _ _ (by omega) (by rw [List.length_set];exact hl) p.1))
    ·exact ihp (i+1) _ _ _ (by omega) hl hs
  refine exstep (fun k=>by rw [spec_l06DrawOf.l0]) ?_
  exact expos (by omega) (inner N 0 a h l (by omega) hl hs)
theorem loop2: ∀(m v:Nat) (a h:Int) (l:List Int),v+m=2 ^ N→l.length=2 ^ N→Src b a→Ex (fun k=>spec_l06DrawOf.l2 k (N:Int) (v:Int) b a h (N:Int) l) (PC b N):=by
 have h32:=pw hN
 intro m
 induction m with
 | zero=>
  intro v a h l hv hl hs
  refine exstep (fun k=>by rw [spec_l06DrawOf.l2]) ?_
  exact exneg (by omega) (exc rfl ⟨rfl,hl,hs⟩)
 | succ m ih=>
  intro v a h l hv hl hs
  have inner: ∀(p i:Nat) (a h:Int) (l:List Int),i+p=N→l.length=2 ^ N→Src b a→Ex (fun k=>spec_l06DrawOf.l3 k (N:Int) (v:Int) (i:Int) b a h (N:Int) l) (PC b N):=by
   intro p
   induction p with
   | zero=>
    intro i a h l hi hl hs
    refine exstep (fun k=>by rw [spec_l06DrawOf.l3]) ?_
    refine exneg (by omega) ?_
    rw [w64 (x:=(v:Int)+1) (by omega) (by omega)]
    exact ih (v+1) a h l (by omega) hl hs
   | succ p ihp=>
    intro i a h l hi hl hs
    refine exstep (fun k=>by rw [spec_l06DrawOf.l3]) ?_
    have hsh:shr .i64 (v:Int) (IntKind.u64.wrap (i:Int))=((v / 2 ^ i:Nat):Int):=by
     rw [u64w (by omega) (by omega),shr_div (by omega) (by omega),Int.toNat_natCast];simp
    have hlt:v / 2 ^ i < 32:=Nat.lt_of_le_of_lt (Nat.div_le_self _ _) (by omega)
    rw [w64 (x:=(i:Int)+1) (by omega) (by omega),hsh]
    refine expos (by omega) (expos (by rw [u64w (by omega) (by omega)];omega) (exbind (P:=fun _=>True) ⟨_,ones_any hlt,trivial⟩ (fun r _=>exif (fun _=>?_) (fun _=>?_))))
    ·exact expos (by omega) (expos (by omega) (ihp (i+1) _ _ _ (by omega) (by rw [List.length_set];exact hl) hs))
    ·exact ihp (i+1) _ _ _ (by omega) hl hs
  refine exstep (fun k=>by rw [spec_l06DrawOf.l2]) ?_
  exact expos (by omega) (inner N 0 a h l (by omega) hl hs)
include hN1
theorem loop5: ∀(x:Nat) (a h:Int) (l:List Int),l.length=2 ^ N→Src b a→x≤100→Ex (fun k=>spec_l06DrawOf.l5 k (N:Int) ((x:Nat):Int) b a h (N:Int) l) (PC b N):=by
 have h32:=pw hN
 intro x
 induction x with
 | zero=>
  intro a h l hl hs _
  refine exstep (fun k=>by rw [spec_l06DrawOf.l5]) ?_
  exact exneg (by omega) (exc rfl ⟨rfl,hl,hs⟩)
 | succ x ih=>
  intro a h l hl hs hx
  refine exstep (fun k=>by rw [spec_l06DrawOf.l5]) ?_
  have hp:1≤2 ^ N:=Nat.one_le_two_pow
  refine expos (by omega) (exbind (next_ex hs h (l.length:Int)) (fun r p=>exbind (next_ex p.1 r.2.2 (N:Int)) (fun r2 p2=>?_)))
  have hr:=p.2.1 (by omega)
  have hr2:=p2.2.1 (by omega)
  obtain⟨v,hv⟩:=Int.eq_ofNat_of_zero_le hr.1
  obtain⟨i,hi⟩:=Int.eq_ofNat_of_zero_le hr2.1
  have hxo:=xor_i hN (v:=v) (i:=i) (by omega) (by omega)
  rw [hv,hi,hxo.1,w64 (x:=((x+1:Nat):Int) - 1) (by omega) (by omega),show ((x+1:Nat):Int) - 1=(x:Int) from by omega]
  refine expos (by rw [u64w (by omega) (by omega)];omega) (expos (by omega) (expos (by omega) (exsome rfl (expos (by omega) (expos (by omega) ?_)))))
  exact ih _ _ _ (by rw [List.length_set,List.length_set];exact hl) p2.1 (by omega)
theorem loop4 (y:Int): ∀(m v:Nat) (a h:Int) (l:List Int),v+m=2 ^ N→l.length=2 ^ N→Src b a→Ex (fun k=>spec_l06DrawOf.l4 k (N:Int) y (v:Int) b a h (N:Int) l) (PC b N):=by
 have h32:=pw hN
 intro m
 induction m with
 | zero=>
  intro v a h l hv hl hs
  refine exstep (fun k=>by rw [spec_l06DrawOf.l4]) ?_
  refine exneg (by omega) (exbind (next_ex hs h 4) (fun r p=>?_))
  have hr:=p.2.1 (by omega)
  obtain⟨x,hx⟩:=Int.eq_ofNat_of_zero_le hr.1
  rw [hx]
  exact loop5 hN hN1 x _ _ l hl p.1 (by omega)
 | succ m ih=>
  intro v a h l hv hl hs
  refine exstep (fun k=>by rw [spec_l06DrawOf.l4]) ?_
  rw [w64 (x:=(v:Int)+1) (by omega) (by omega)]
  exact expos (by omega) (expos (by omega) (ih (v+1) a h _ (by omega) (by rw [List.length_set];exact hl) hs))
theorem drawOf_ex {a:Int} (hs:Src b a) (h:Int):Ex (fun k=>spec_l06DrawOf.f k b a h (N:Int)) (PC b N):=by
 have h32:=pw hN
 have hp:1≤2 ^ N:=Nat.one_le_two_pow
 have hsh:shl .i64 1 (IntKind.u64.wrap (N:Int))=((2 ^ N:Nat):Int):=by
  rw [u64w (by omega) (by omega),shl_one (by omega) (by omega),Int.toNat_natCast]
 unfold spec_l06DrawOf.f
 rw [hsh]
 refine expos (by rw [u64w (by omega) (by omega)];omega) (expos (by omega) (expos (by rw [Int.toNat_natCast];omega) (exsome rfl (exbind (next_ex hs h 4) (fun r p=>?_)))))
 have hl:(List.replicate ((2 ^ N:Nat):Int).toNat (0:Int)).length=2 ^ N:=by rw [List.length_replicate,Int.toNat_natCast]
 refine exif (fun _=>?_) (fun _=>exif (fun _=>?_) (fun _=>?_))
 ·exact loop0 hN (2 ^ N) 0 _ _ _ (by omega) hl p.1
 ·exact loop2 hN (2 ^ N) 0 _ _ _ (by omega) hl p.1
 ·refine exbind (next_ex p.1 r.2.2 _) (fun r2 p2=>?_)
  exact loop4 hN hN1 r2.1 (2 ^ N) 0 _ _ _ (by omega) hl p2.1
end
def PD (b:List Int) (r:Int × List Int × Int × Int):Prop:=r.2.1.length≤32∧1≤r.2.1.length∧Src b r.2.2.1
theorem draw_ex {b:List Int} {a:Int} (hs:Src b a) (h:Int):Ex (fun k=>spec_l06Draw.f k b a h) (PD b):=by
 unfold spec_l06Draw.f
 refine exbind (pick_ex hs h _ (by decide)) (fun r p=>?_)
 obtain⟨N,hN,h1,h5⟩: ∃N:Nat,r.1=(N:Int)∧1≤N∧N≤5:=by
  have:=p.2
  simp only [List.mem_cons,List.not_mem_nil,or_false] at this
  exact⟨r.1.toNat,by omega,by omega,by omega⟩
 have h32:=pw h5
 have hp:1≤2 ^ N:=Nat.one_le_two_pow
 rw [hN]
 refine exbind (drawOf_ex h5 h1 p.1 r.2.2) (fun r2 p2=>exbind (next_ex p2.2.2 r2.2.2.2 40) (fun r3 p3=>?_))
 have hl:=p2.2.1
 have ha:r2.2.1.length≤32:=by omega
 have hb:1≤r2.2.1.length:=by omega
 refine exif (fun _=>expos (by omega) (exc rfl ⟨?_,?_,p3.1⟩)) (fun _=>exif (fun _=>exbind (pick_ex p3.1 r3.2.2 _ (by decide)) (fun r4 p4=>exc rfl ⟨ha,hb,p4.1⟩)) (fun _=>exc rfl ⟨ha,hb,p3.1⟩))
 ·show (List.set _ _ _).length≤32;rw [List.length_set];omega
 ·show 1≤(List.set _ _ _).length;rw [List.length_set];omega
section
variable {b:List Int} (hb: ∀i:Nat,0≤b.getD i 0∧b.getD i 0≤255) (hl:b.length≤4096)
include hb hl
theorem with_ex:Ex (fun k=>spec_l06With.f k b) (fun r=>r.2.1.length≤32):=by
 unfold spec_l06With.f
 refine exbind (from_ex hb hl) (fun r p=>?_)
 rw [p.1]
 exact exbind (draw_ex p.2 _) (fun r2 p2=>exbind (next_ex p2.2.2 _ _) (fun r3 p3=>exbind (next_ex p3.1 _ _) (fun r4 p4=>exc rfl p2.1)))
end
end Go.Proofs.YthmfdplckdijdaaGreat.Dr
end
section
namespace Go.Proofs.YthmfdplckdijdaaGreat.Pr
open Go.RowKit Go.Proofs.YthmfdplckdijdaaGreatW.PrintWords Go.Proofs.YthmfdplckdijdaaGreatW.PrintLast Go.Proofs.YthmfdplckdijdaaGreatW.PrintMore
attribute [local go_sem] max2_int min2_int max_two min_two max_three min_three max_four min_four
def spec_DrawWalkByRule.f (k:Nat) (l0:List Int):Option (Int × List Int × Int × Int):=(spec_l01From.f k l0).bind fun aa=>((spec_l06With.f k l0).bind fun ae=>((spec_l01Next.f aa.1 aa.2.1 aa.2.2 3).bind fun af=>((spec_l01Next.f aa.1 af.2.1 af.2.2 24).bind fun ag=>(some (ae.1,ae.2.1,ae.2.2,wrap64 (af.1+(wrap64 ((wrap64 (Int.tdiv ag.1 23))*3))))))))
theorem spec_DrawWalkByRule.mono: ∀a0 k,LeO (spec_DrawWalkByRule.f k a0) (spec_DrawWalkByRule.f (k+1) a0):=by
 intro a0 k
 unfold spec_DrawWalkByRule.f
 repeat' first | (with_reducible first | exact spec_l01From.mono _ _ | exact spec_l06With.mono _ _ | exact LeO.refl _ | exact LeO.none _ | refine LeO.ite ?_ ?_ | refine LeO.bind ?_ (fun _=>?_)) | exact spec_l01From.mono _ _ | exact spec_l06With.mono _ _ | exact LeO.none _ | refine LeO.ite ?_ ?_ | refine LeO.bind ?_ (fun _=>?_)
def spec_DrawWalkByRule.T3:Bool × List (List Nat × List Nat):=(true, [([], []),([], []),([], []),([2], [2]),([], []),([4,3], [4]),([5], [5]),([6], [6]),([3,7], [3,7]),([0,5,0], [0]),([1,9,0,1,9], [1]),([8,10,0,1,2,3,4,5,6,7,8,9,10], [8])])
def spec_DrawWalkByRule.B3:List Nat:= [0,0,0,4,0,28,60,124,252,61,575,2047]
theorem spec_DrawWalkByRule.tab3:rtab .any (opsOf Tryz.f6 3)=spec_DrawWalkByRule.T3:=by kernel_rfl
theorem spec_DrawWalkByRule.bits3:waitsOk spec_DrawWalkByRule.T3.2 spec_DrawWalkByRule.B3=true:=by kernel_rfl
theorem spec_DrawWalkByRule.calls (k:Nat) (A0:Option Addr) (c0:Nat) (l0:List Int) (r1:Int) (r2:List Int) (r3:Int) (r4:Int) (w:World) (hr0:Kd.C (Kd.int .u8) w A0 l0.length l0) (hc0:l0.length≤c0) (h:spec_DrawWalkByRule.f k l0=some (r1,r2,r3,r4)):
  Calls Tryz.prog 6 #[.slice A0 l0.length c0] w fun e w'=> ∃v1_:Value,e= .returned (.tuple #[.agg #[.int .i64 r1,v1_], .int .i64 r3, .int .i64 r4])∧Kd.R (Kd.int .i64) 2 w' w.heap.size (fun _=>True) v1_ r2∧Below w.heap.size w w':=by
 have hu26:=Tryz.underlying26;have HR0:=q_ hr0;have HC0:=q_ hc0;clear hr0 hc0;have HB:=q_ (Below.refl w.heap.size w);have H:((spec_l01From.f k l0).bind fun aN=>((spec_l06With.f k l0).bind fun aC=>((spec_l01Next.f aN.1 aN.2.1 aN.2.2 3).bind fun av=>((spec_l01Next.f aN.1 av.2.1 av.2.2 24).bind fun aD=>(some (aC.1,aC.2.1,aC.2.2,wrap64 (av.1+(wrap64 ((wrap64 (Int.tdiv aD.1 23))*3)))))))))=some (r1,r2,r3,r4):=h;clear h;replace H:=Option.bind_eq_some_iff.mp H;obtain⟨⟨ay,aI,aJ⟩,A20,H⟩:=H;replace H:((spec_l06With.f k l0).bind fun aC=>((spec_l01Next.f ay aI aJ 3).bind fun av=>((spec_l01Next.f ay av.2.1 av.2.2 24).bind fun aD=>(some (aC.1,aC.2.1,aC.2.2,wrap64 (av.1+(wrap64 ((wrap64 (Int.tdiv aD.1 23))*3))))))))=some (r1,r2,r3,r4):=H;have A2:=q_ A20;clear A20;replace H:=Option.bind_eq_some_iff.mp H;obtain⟨⟨ai,aj,aT⟩,A30,H⟩:=H;replace H:((spec_l01Next.f ay aI aJ 3).bind fun av=>((spec_l01Next.f ay av.2.1 av.2.2 24).bind fun aD=>(some (ai,aj,aT,wrap64 (av.1+(wrap64 ((wrap64 (Int.tdiv aD.1 23))*3)))))))=some (r1,r2,r3,r4):=H;have A3:=q_ A30;clear A30;replace H:=Option.bind_eq_some_iff.mp H;obtain⟨⟨aW,aU,aV⟩,A40,H⟩:=H;replace H:((spec_l01Next.f ay aU aV 24).bind fun aD=>(some (ai,aj,aT,wrap64 (aW+(wrap64 ((wrap64 (Int.tdiv aD.1 23))*3))))))=some (r1,r2,r3,r4):=H;have A4:=q_ A40;clear A40;replace H:=Option.bind_eq_some_iff.mp H;obtain⟨⟨aX,aZ,a9⟩,A50,H⟩:=H;replace H:(some (ai,aj,aT,wrap64 (aW+(wrap64 ((wrap64 (Int.tdiv aX 23))*3)))))=some (r1,r2,r3,r4):=H;have A5:=q_ A50;clear A50;simp only [Option.some.injEq,Prod.mk.injEq] at H;obtain⟨rfl,rfl,rfl,rfl⟩:=H
 go_enter Tryz.func6,Tryz.ntmps6
 try go_wp2_with (first | ((with_reducible refine gate_dst (N:=2) rfl ?_);refine be_ 2 #[.int .i64 0, .slice none 0 0] 26 ?_;intro ah hg w6 hbox hb;have ae:=q_ (hbox);have bk:=q_ ((by rw [hg];exact bz_:w.heap.size≤ah));have az:=q_ ((by rw [hg];exact bz_:w.heap.size≤ah));replace HB:=q_ (bs_ hb);clear hb hbox hg) | ((with_reducible refine gate_callee (f:=34) rfl ?_);refine gL_ 9 Tryz.func34 #[.slice A0 l0.length c0] ?_;(with_reducible refine(spec_l01From.calls k _ _ l0 ay aI aJ w _ ?aG ?aH ?aY A2.out).mono ?_);(case aG=>exact hb_);(case aH=>exact HR0.out);(case aY=>exact HC0.out);rintro e w7 ⟨g196,rfl,hi,hb,hb2⟩;refine⟨_,rfl,?_⟩;replace HB:=q_ (hb);have HI196:=q_ (hi);have ag:=q_ (IsS122.ne_blk hi (bb_ ae.out hb2) (by decide));have aM:=q_ (Ne.symm (IsS122.ne_blk hi (bb_ ae.out hb2) (by decide)));replace ae:=q_ (bb_ ae.out hb2);(try clear hb);(try clear hb2);(try clear hk);(try clear hi)) | ((with_reducible refine gate_callee (f:=35) rfl ?_);refine gL_ 12 Tryz.func35 #[.slice A0 l0.length c0] ?_;(with_reducible refine(spec_l06With.calls k _ _ l0 ai aj aT _ ?aG ?aH A3.out).mono ?_);(case aG=>exact cb_ HR0.out HB.out);(case aH=>exact HC0.out);rintro e w8 ⟨bA,rfl,ho0,hb⟩;refine⟨_,rfl,?_⟩;have ak:=q_ (Kd.R_lower ho0 (below_size (by repeat (first | (with_reducible first | exact HB.out | apply below_alloc | apply pw_below_drewN | apply below_drew1 | refine below_set ?_ (IsS122.ge HI196.out) | refine below_set ?_ az.out) | exact HB.out))));replace ae:=q_ (bb_ ae.out hb);replace HB:=q_ (below_step (by repeat (first | (with_reducible first | exact HB.out | apply below_alloc | apply pw_below_drewN | apply below_drew1 | refine below_set ?_ (IsS122.ge HI196.out) | refine below_set ?_ az.out) | exact HB.out)) hb);replace HI196:=q_ (IsS122.below (by repeat (first | (with_reducible first | exact HI196.out | apply IsS122.alloc | apply IsS122.drewN | apply IsS122.drew | apply IsS122.set_1 | apply IsS122.set_2 | refine IsS122.far ?_ ag.out _) | exact HI196.out)) hb);(try clear hb);(try clear hb2);(try clear hk);(try clear hi);(try clear ho0)) | ((with_reducible refine gate_dst (N:=6) rfl ?_);refine be_ 6 #[.int .i64 0, .slice none 0 0] 26 ?_;intro aa hg w9 hbox hb;replace ak:=q_ (rb_ ak.out hb);have af:=q_ (hbox);have bq:=q_ ((by rw [hg];exact(below_size (by repeat (first | (with_reducible first | exact HB.out | apply below_alloc | apply pw_below_drewN | apply below_drew1 | refine below_set ?_ (IsS122.ge HI196.out) | refine below_set ?_ az.out) | exact HB.out))):w.heap.size≤aa));have aQ:=q_ ((by rw [hg];exact(below_size (by repeat (first | (with_reducible first | exact HB.out | apply below_alloc | apply pw_below_drewN | apply below_drew1 | refine below_set ?_ (IsS122.ge HI196.out) | refine below_set ?_ az.out) | exact HB.out))):w.heap.size≤aa));have aA:=q_ ((by rw [hg];exact lt_ ae.out:ah≠aa));have aq:=q_ ((by rw [hg];exact gt_ ae.out:aa≠ah));have au:=q_ ((by rw [hg];exact Nat.ne_of_lt (IsS122.lt (show IsS122 w _ g196 ay aI aJ from by repeat (first | (with_reducible first | exact HI196.out | apply IsS122.alloc | apply IsS122.drewN | apply IsS122.drew | apply IsS122.set_1 | apply IsS122.set_2 | refine IsS122.far ?_ ag.out _) | exact HI196.out))):g196≠aa));have aK:=q_ ((by rw [hg];exact Nat.ne_of_gt (IsS122.lt (show IsS122 w _ g196 ay aI aJ from by repeat (first | (with_reducible first | exact HI196.out | apply IsS122.alloc | apply IsS122.drewN | apply IsS122.drew | apply IsS122.set_1 | apply IsS122.set_2 | refine IsS122.far ?_ ag.out _) | exact HI196.out))):aa≠g196));replace ae:=q_ (bb_ ae.out hb);replace HB:=q_ (below_step (by repeat (first | (with_reducible first | exact HB.out | apply below_alloc | apply pw_below_drewN | apply below_drew1 | refine below_set ?_ (IsS122.ge HI196.out) | refine below_set ?_ az.out) | exact HB.out)) hb);replace HI196:=q_ (IsS122.below (by repeat (first | (with_reducible first | exact HI196.out | apply IsS122.alloc | apply IsS122.drewN | apply IsS122.drew | apply IsS122.set_1 | apply IsS122.set_2 | refine IsS122.far ?_ ag.out _) | exact HI196.out)) hb);clear hb hbox hg;have bu:=aq.out;have bv:=aA.out;have bw:=aK.out;have bz:=au.out;have bf:=cz_ af 0;have bg:=cz_ af 1;have bh:=blk_frozen af.out 0;have bi:=blk_frozen af.out 1;obtain⟨aw,ax,ba⟩:=Kd.R_slice ak.out;subst ba))
 have n0_:Aside0 (Kd.R (Kd.int .i64) 2 ((w9.setCell ⟨aa,0,none⟩ (.int .i64 ai)).setCell ⟨aa,1,none⟩ (.slice aw aj.length ax)) w.heap.size (fun _=>True) (.slice aw aj.length ax) aj):=⟨by(with_reducible repeat (first | apply Kd.R_alloc | apply Kd.R_drewN | apply Kd.R_drew));exact Kd.R_mono (Kd.R_far (p:=⟨aa,1,none⟩) (Kd.R_far (p:=⟨aa,0,none⟩) (Kd.R_types ak.out af.out (by decide)) (fun _ hk=>hk.2) (.int .i64 ai)) (fun _ hk=>hk.2) (.slice aw aj.length ax)) (fun _ hk=>trivial)⟩
 have n1_:Aside0 (((w9.setCell ⟨aa,0,none⟩ (.int .i64 ai)).setCell ⟨aa,1,none⟩ (.slice aw aj.length ax)).heap[ah]?=some (.cells #[.int .i64 0, .slice none 0 0] 26 (0,0))):=⟨by(with_reducible repeat (first | refine blk_drewN ?_ _ | refine blk_drew ?_ | refine blk_alloc ?_ _));refine blk_far ?_ aA.out _;(with_reducible repeat (first | refine blk_drewN ?_ _ | refine blk_drew ?_ | refine blk_alloc ?_ _));refine blk_far ?_ aA.out _;(with_reducible repeat (first | refine blk_drewN ?_ _ | refine blk_drew ?_ | refine blk_alloc ?_ _));exact ae.out⟩
 have n2_:Aside0 (((w9.setCell ⟨aa,0,none⟩ (.int .i64 ai)).setCell ⟨aa,1,none⟩ (.slice aw aj.length ax)).heap[aa]?=some (.cells #[.int .i64 ai, .slice aw aj.length ax] 26 (0,0))):=⟨by(with_reducible repeat (first | refine blk_drewN ?_ _ | refine blk_drew ?_ | refine blk_alloc ?_ _));refine blk_put (cs:= #[.int .i64 ai, .slice none 0 0]) ?_ 1 _ rfl;(with_reducible repeat (first | refine blk_drewN ?_ _ | refine blk_drew ?_ | refine blk_alloc ?_ _));refine blk_put (cs:= #[.int .i64 0, .slice none 0 0]) ?_ 0 _ rfl;(with_reducible repeat (first | refine blk_drewN ?_ _ | refine blk_drew ?_ | refine blk_alloc ?_ _));exact af.out⟩
 have n3_:Aside0 (IsS122 w ((w9.setCell ⟨aa,0,none⟩ (.int .i64 ai)).setCell ⟨aa,1,none⟩ (.slice aw aj.length ax)) g196 ay aI aJ):=⟨by repeat (first | (with_reducible first | exact HI196.out | apply IsS122.alloc | apply IsS122.drewN | apply IsS122.drew | apply IsS122.set_1 | apply IsS122.set_2 | refine IsS122.far ?_ ag.out _ | refine IsS122.far ?_ au.out _) | exact HI196.out)⟩
 have n4_:Aside0 (Below w.heap.size w ((w9.setCell ⟨aa,0,none⟩ (.int .i64 ai)).setCell ⟨aa,1,none⟩ (.slice aw aj.length ax))):=⟨by repeat (first | (with_reducible first | exact HB.out | apply below_alloc | apply pw_below_drewN | apply below_drew1 | refine below_set ?_ (IsS122.ge HI196.out) | refine below_set ?_ az.out | refine below_set ?_ aQ.out) | exact HB.out)⟩
 (try clear ak);(try clear ae);(try clear af);(try clear HI196);(try clear HB)
 generalize ((w9.setCell ⟨aa,0,none⟩ (.int .i64 ai)).setCell ⟨aa,1,none⟩ (.slice aw aj.length ax))=w14 at n0_ n1_ n2_ n3_ n4_ ⊢
 have ak:=n0_;have ae:=n1_;have af:=n2_;have HI196:=n3_;have HB:=n4_;clear n0_ n1_ n2_ n3_ n4_;replace ak:=q_ (Kd.R_drew ak.out);replace ae:=q_ (blk_drew ae.out);replace af:=q_ (blk_drew af.out);replace HI196:=q_ (IsS122.drew HI196.out);replace HB:=q_ (below_drew1 HB.out);refine st_ (n:=12) (S:=fun w'=>w'.cell? ⟨aa,0,none⟩=some (.int .i64 ai)∧w'.cell? ⟨aa,1,none⟩=some (.slice aw aj.length ax)) (ds:= []) ⟨(blk_cell af.out 0).trans rfl,(blk_cell af.out 1).trans rfl⟩ (fun hHeld=>?_);refine with_tabW spec_DrawWalkByRule.tab3 spec_DrawWalkByRule.bits3 (fun HT_ HW_=>?_)
 generalize w14.drew=w15 at ak ae af HI196 HB hHeld ⊢
 refine pu_ 1 16 ?_;refine pu_ 2 17 ?_;refine pu_ 4 19 ?_;refine tk_ 0 15 ?_
 refine on_ 3 (some 18) (fun K hK=>?_)
 refine goes_ Tryz.func36 (by kernel_rfl) rfl #[.pointer (some ⟨g196,0,none⟩), .int .i64 3] (by rfl) rfl rfl (by(try simp only [List.map_toArray,List.map_cons,List.map_nil]);first | done | rfl | (simp only [List.length_drop,List.length_take];rfl)) ?_
 with_reducible refine(spec_l01Next.calls g196 ay aI aJ 3 aW aU aV w _ ?aG ?aH A4.out).mono ?_
 (case aG=>repeat (first | (with_reducible first | exact HI196.out | apply IsS122.alloc | apply IsS122.drewN | apply IsS122.drew | apply IsS122.set_1 | apply IsS122.set_2 | refine IsS122.far ?_ ag.out _ | refine IsS122.far ?_ au.out _) | exact HI196.out))
 (case aH=>repeat (first | (with_reducible first | exact HB.out | apply below_alloc | apply pw_below_drewN | apply below_drew1 | refine below_set ?_ (IsS122.ge HI196.out) | refine below_set ?_ az.out | refine below_set ?_ aQ.out) | exact HB.out))
 rintro e w16 ⟨rfl,hi,hb,hk⟩;refine⟨_,rfl,?_⟩
 replace ae:=q_ (KeepBut.blk hk (g':=ah) (o:= .cells #[.int .i64 0, .slice none 0 0] 26 (0,0)) bk_ aM.out (by simp));replace ak:=q_ (Kd.R_mono (Kd.R_keep (IsS122.apart (show IsS122 w _ g196 ay aI aJ from by repeat (first | (with_reducible first | exact HI196.out | apply IsS122.alloc | apply IsS122.drewN | apply IsS122.drew | apply IsS122.set_1 | apply IsS122.set_2 | refine IsS122.far ?_ ag.out _ | refine IsS122.far ?_ au.out _) | exact HI196.out)) (ro_ ak.out) (by decide)) hk (fun _ h=>h.2)) (fun _ h=>h.1));replace af:=q_ (KeepBut.blk hk (g':=aa) (o:= .cells #[.int .i64 ai, .slice aw aj.length ax] 26 (0,0)) bk_ aK.out (by simp));replace HB:=q_ (hb);replace HI196:=q_ (hi);(try clear hb);(try clear hb2);(try clear hk);(try clear hi);refine hK.out _ _ ⟨(blk_cell af.out 0).trans rfl,(blk_cell af.out 1).trans rfl⟩ (fun hHeld=>?_)
 clear hK K;refine norm_ (a':=?_) ?_ ?_
 rotate_left
 ·show Act.put _ (some 18) _=_
  simp only [Act.put,List.setIfInBounds_toArray,List.set_cons_zero,List.set_cons_succ,i64_w,i32_w]
  rfl
 refine on_ 5 (some 20) (fun K hK=>?_)
 refine goes_ Tryz.func36 (by kernel_rfl) rfl #[.pointer (some ⟨g196,0,none⟩), .int .i64 24] (by rfl) rfl rfl (by(try simp only [List.map_toArray,List.map_cons,List.map_nil]);first | done | rfl | (simp only [List.length_drop,List.length_take];rfl)) ?_
 with_reducible refine(spec_l01Next.calls g196 ay aU aV 24 aX aZ a9 w _ ?aG ?aH A5.out).mono ?_
 (case aG=>repeat (first | (with_reducible first | exact HI196.out | apply IsS122.alloc | apply IsS122.drewN | apply IsS122.drew | apply IsS122.set_1 | apply IsS122.set_2 | refine IsS122.far ?_ ag.out _ | refine IsS122.far ?_ au.out _) | exact HI196.out))
 (case aH=>repeat (first | (with_reducible first | exact HB.out | apply below_alloc | apply pw_below_drewN | apply below_drew1 | refine below_set ?_ (IsS122.ge HI196.out) | refine below_set ?_ az.out | refine below_set ?_ aQ.out) | exact HB.out))
 rintro e w17 ⟨rfl,hi,hb,hk⟩;refine⟨_,rfl,?_⟩
 replace ae:=q_ (KeepBut.blk hk (g':=ah) (o:= .cells #[.int .i64 0, .slice none 0 0] 26 (0,0)) bk_ aM.out (by simp));replace ak:=q_ (Kd.R_mono (Kd.R_keep (IsS122.apart (show IsS122 w _ g196 ay aU aV from by repeat (first | (with_reducible first | exact HI196.out | apply IsS122.alloc | apply IsS122.drewN | apply IsS122.drew | apply IsS122.set_1 | apply IsS122.set_2 | refine IsS122.far ?_ ag.out _ | refine IsS122.far ?_ au.out _) | exact HI196.out)) (ro_ ak.out) (by decide)) hk (fun _ h=>h.2)) (fun _ h=>h.1));replace af:=q_ (KeepBut.blk hk (g':=aa) (o:= .cells #[.int .i64 ai, .slice aw aj.length ax] 26 (0,0)) bk_ aK.out (by simp));replace HB:=q_ (hb);replace HI196:=q_ (hi);(try clear hb);(try clear hb2);(try clear hk);(try clear hi);refine hK.out _ _ ⟨(blk_cell af.out 0).trans rfl,(blk_cell af.out 1).trans rfl⟩ (fun hHeld=>?_)
 clear hK K;refine norm_ (a':=?_) ?_ ?_
 rotate_left
 ·show Act.put _ (some 20) _=_
  simp only [Act.put,List.setIfInBounds_toArray,List.set_cons_zero,List.set_cons_succ,i64_w,i32_w]
  rfl
 refine pu_ 6 21 ?_;refine pu_ 7 22 ?_;refine pu_ 8 23 ?_
 refine on_ 9 none (fun K hK=>?_)
 have hs18:=cz_ ae 0;have hfs18:=blk_frozen ae.out 0;have hns18_1:=aq.out;have hms18_1:=aA.out;have hs19:=cz_ ae 1;have hfs19:=blk_frozen ae.out 1;have hns19_1:=aq.out;have hms19_1:=aA.out;refine skip_ (w1:=?_) (by rfl) rfl ?_ ?_
 rotate_left
 ·go_simp
  rfl
 refine hK.out _ _ ⟨((cell_far (p:=⟨ah,_,none⟩) aq.out _).trans (((cell_far (p:=⟨ah,_,none⟩) aq.out _).trans (hHeld.1)))),((cell_far (p:=⟨ah,_,none⟩) aq.out _).trans (((cell_far (p:=⟨ah,_,none⟩) aq.out _).trans (hHeld.2))))⟩ (fun hHeld=>?_)
 clear hK K;refine pu_ 10 3 ?_;refine pu_ 11 4 ?_
 refine done_ (done_of HT_.out (by kernel_rfl)) ?_
 try go_wp2
 refine bodyPost_ret (results_ctt rfl _ _ ah 26 #[.int .i64 ai, .slice aw aj.length ax] (0,0) _ rfl (by(with_reducible repeat (first | refine blk_drewN ?_ _ | refine blk_drew ?_ | refine blk_alloc ?_ _));refine blk_put (cs:= #[.int .i64 ai, .slice none 0 0]) ?_ 1 _ rfl;(with_reducible repeat (first | refine blk_drewN ?_ _ | refine blk_drew ?_ | refine blk_alloc ?_ _));refine blk_put (cs:= #[.int .i64 0, .slice none 0 0]) ?_ 0 _ rfl;(with_reducible repeat (first | refine blk_drewN ?_ _ | refine blk_drew ?_ | refine blk_alloc ?_ _));exact ae.out) Tryz.underlying26 rfl (by kernel_rfl)) rfl ?_
 exact⟨_,by first | rfl | (simp [errW_none,errW_some] <;> rfl) | (simp [*,errW_none,errW_some] <;> rfl),by(with_reducible repeat (first | apply Kd.R_alloc | apply Kd.R_drewN | apply Kd.R_drew));exact Kd.R_mono (Kd.R_far (p:=⟨ah,1,none⟩) (Kd.R_far (p:=⟨ah,0,none⟩) (Kd.R_types ak.out ae.out (by decide)) (fun _ hk=>hk.2) (.int .i64 ai)) (fun _ hk=>hk.2) (.slice aw aj.length ax)) (fun _ hk=>trivial),by repeat (first | (with_reducible first | exact HB.out | apply below_alloc | apply pw_below_drewN | apply below_drew1 | refine below_set ?_ (IsS122.ge HI196.out) | refine below_set ?_ az.out | refine below_set ?_ aQ.out) | exact HB.out)⟩
end Go.Proofs.YthmfdplckdijdaaGreat.Pr
end
section
namespace Go.Proofs.YthmfdplckdijdaaGreat.Dr
open Go.RowKit Go.Proofs.YthmfdplckdijdaaGreatW.PrintWords Go.Proofs.YthmfdplckdijdaaGreatW.PrintMore Go.Proofs.YthmfdplckdijdaaGreat.Ma Go.Proofs.YthmfdplckdijdaaGreat.Pr Go.Proofs.YthmfdplckdijdaaGreat.Cu
section
variable {b:List Int} (hb: ∀i:Nat,0≤b.getD i 0∧b.getD i 0≤255) (hl:b.length≤4096)
include hb hl
theorem drawWalk:Ex (fun k=>spec_DrawWalkByRule.f k b) (fun r=>r.2.1.length≤32):=by
 unfold spec_DrawWalkByRule.f
 refine exbind (from_ex hb hl) (fun r p=>exbind (with_ex hb hl) (fun r2 p2=>?_))
 rw [p.1]
 exact exbind (next_ex p.2 _ _) (fun r3 p3=>exbind (next_ex p3.1 _ _) (fun r4 p4=>exc rfl p2))
theorem drawCount:Ex (fun k=>spec_DrawCountUniqueSinks.f k b) (fun r=>True):=by
 unfold spec_DrawCountUniqueSinks.f
 refine exbind (from_ex hb hl) (fun r p=>?_)
 rw [p.1]
 exact exbind (next_ex p.2 _ _) (fun r3 p3=>exc rfl trivial)
end
end Go.Proofs.YthmfdplckdijdaaGreat.Dr
end
section
namespace Go.Proofs.YthmfdplckdijdaaGreat.Pr
open Go.RowKit Go.Proofs.YthmfdplckdijdaaGreatW.PrintWords Go.Proofs.YthmfdplckdijdaaGreatW.PrintLast Go.Proofs.YthmfdplckdijdaaGreatW.PrintMore Go.Proofs.YthmfdplckdijdaaGreat.Ma
theorem shl_2 {n:Nat} (h:n≤12):wrap64 (2 ^ min n 64)=((2 ^ n:Nat):Int):=by
 have hp:2 ^ n≤2 ^ 12:=Nat.pow_le_pow_right (by decide) h
 have e:(2:Int) ^ n=((2 ^ n:Nat):Int):=by rw [Int.natCast_pow];rfl
 rw [Nat.min_eq_left (by omega),e]
 generalize 2 ^ n=p at hp
 rw [w64 (by omega) (by omega)]
def mnL (mn:Nat→Int) (m s:Nat):List Int:=(List.range m).map fun i=>if i < s then mn i else 0
theorem mnL_len (mn:Nat→Int) (m s:Nat):(mnL mn m s).length=m:=by simp [mnL]
theorem mnL_zero (mn:Nat→Int) (m:Nat):mnL mn m 0=List.replicate m 0:=by
 apply List.ext_getElem
 ·simp [mnL]
 ·intro k h1 h2;simp [mnL]
theorem mnL_set (mn:Nat→Int) {m s:Nat} (h:s < m):(mnL mn m s).set s (mn s)=mnL mn m (s+1):=by
 apply List.ext_getElem
 ·simp [mnL]
 ·intro k h1 h2
  rw [List.getElem_set]
  simp only [mnL,List.getElem_map,List.getElem_range]
  by_cases e:s=k
  ·subst e;simp
  ·rw [if_neg e]
   by_cases c:k < s
   ·rw [if_pos c,if_pos (by omega)]
   ·rw [if_neg c,if_neg (by omega)]
theorem mnL_mem (mn:Nat→Int) {m s:Nat} (h:s < m):mn s ∈ mnL mn m m:=by
 unfold mnL
 exact List.mem_map.2 ⟨s,List.mem_range.2 h,by rw [if_pos h]⟩
theorem min_ex (l:List Int) (h:0 < l.length) (h2:l.length≤1000): ∃v,Ev (fun k=>slices_Min_int64_int64.f k l) v∧ ∀x ∈ l,v≤x:=by
 have mnle: ∀a b:Int,mn a b≤a∧mn a b≤b:=by intro a b;unfold mn;split <;> omega
 have loop: ∀q i (a:Int),i+q=l.length→(∀j,j < i→a≤l.getD j 0)→ ∃v,Ev (fun k=>slices_Min_int64_int64.l0 k l a (i:Int)) v∧ ∀x ∈ l,v≤x:=by
  intro q
  induction q with
  | zero=>
   intro i a hi ha
   refine⟨a,evstep (fun k=>by rw [slices_Min_int64_int64.l0]) (evneg (by omega) (evc rfl)),fun x hx=>?_⟩
   obtain⟨j,hj,rfl⟩:=List.getElem_of_mem hx
   have:=ha j (by omega)
   rw [List.getD_eq_getElem?_getD,List.getElem?_eq_getElem hj] at this
   exact this
  | succ q ih=>
   intro i a hi ha
   obtain⟨v,e1,e2⟩:=ih (i+1) (mn a (rd l (i:Int))) (by omega) (fun j hj=>by
    have m:=mnle a (rd l (i:Int))
    by_cases e:j=i
    ·subst e;have h:=m.2;rw [rd_nat] at h ⊢;exact h
    ·exact Int.le_trans m.1 (ha j (by omega)))
   refine⟨v,evstep (fun k=>by rw [slices_Min_int64_int64.l0]) (evpos (by omega) (evpos (by omega) ?_)),e2⟩
   rw [w64 (x:=(i:Int)+1) (by omega) (by omega)]
   exact e1
 obtain⟨v,e1,e2⟩:=loop (l.length - 1) 1 (rd l 0) (by omega) (fun j hj=>by
  obtain rfl:j=0:=by omega
  exact Int.le_refl _)
 exact⟨v,by unfold slices_Min_int64_int64.f;exact evneg (by omega) (evpos (by omega) e1),e2⟩
theorem minors_calls (n:Nat) (mn:Nat→Int) (A:Option Addr) (c:Nat) (M:List (List Int)) (w:World) (hr:Kd.C (Kd.slice 2 (Kd.int .i64)) w A M.length M) (hc:M.length≤c) (hn:M.length=n) (h5:n≤5) (hm: ∀s:Nat,s < 2 ^ n→ ∃k,impl_minor.f k M (s:Int)=some (mn s)):
  Calls Tryz.prog 143 #[.slice A M.length c] w fun e w'=> ∃v0_:Value,e= .returned (v0_)∧Kd.R (Kd.int .i64) 2 w' w.heap.size (fun _=>True) v0_ (mnL mn (2 ^ n) (2 ^ n))∧Below w.heap.size w w':=by
 have HMN:=q_ (fun(W:World) (hW:Below w.heap.size w W) (s:Nat) (hs:s < 2 ^ n)=>(by
  obtain⟨k,h⟩:=hm s hs;exact impl_minor.calls k A c M (s:Int) (mn s) W (Kd.C_below hr hW) hc h:Calls Tryz.prog 162 #[.slice A M.length c, .int .i64 (s:Int)] W fun e w'=>e= .returned (.int .i64 (mn s))∧Below W.heap.size W w'))
 clear hr hc hm;rw [hn] at HMN ⊢;have hs:wrap64 (2 ^ min n 64)=((2 ^ n:Nat):Int):=shl_2 (by omega);have hp:2 ^ n≤2 ^ 5:=Nat.pow_le_pow_right (by decide) h5;have hp0:0 < 2 ^ n:=Nat.pow_pos (by decide)
 generalize 2 ^ n=m at HMN hs hp hp0 ⊢
 have HM0:=q_ hp0;have HM5:=q_ hp;have HB:=q_ (Below.refl w.heap.size w);clear hn h5 hp hp0
 go_enter Tryz.func143,Tryz.ntmps143
 go_wp2_with (first | ((with_reducible refine gate_dst (N:=8) rfl ?_);refine Kd.R_make (Kd.int .i64) _ 2 rfl (N:=8) rfl 24 _ _ rfl (wrap64 (2 ^ min n 64)) rfl rfl Tryz.underlying24 (.int .i64 0) 8 info2 rfl (by decide) (by omega) 0 (ok:=fun _=>True) (okp:=fun _=>True) rfl (fun _ hk=>hk) trivial (by rw [hs];omega) (by rw [hs];have:=HM5.out;omega) (Below.refl _ _) (Nat.le_refl _) ?_;intro v8 w2 ho hb hg_ hnew_;(rw [hs,Int.toNat_natCast] at ho);(obtain⟨go,co,rfl,hgo1,hgo2,cells,hbc⟩:=Kd.R_form ho (by have:=HM0.out;simp;omega));have HO:=q_ ho;replace HB:=q_ hb;have GO1:=q_ hgo1;clear ho hb hg_ hnew_ hgo1 hgo2 hbc;(simp only [List.length_replicate] at HO ⊢)))
 clear hs;have aa:Aside0 (Kd.R (Kd.int .i64) 2 w2 w.heap.size (fun _=>True) (.slice (some ⟨go,0,none⟩) m co) (mnL mn m 0)):=⟨by rw [mnL_zero];exact HO.out⟩
 clear HO
 go_loopg [11] m (fun gg v11 wr=> ∃s:Nat,s≤m∧m - s≤gg∧v11= .int .i64 (s:Int)∧Aside0 (Kd.R (Kd.int .i64) 2 wr w.heap.size (fun _=>True) (.slice (some ⟨go,0,none⟩) m co) (mnL mn m s))∧Aside0 (Below w.heap.size w wr))
 case atStart=>exact⟨0,Nat.zero_le _,by omega,rfl,aa,HB⟩
 case round=>
  clear aa HB;obtain⟨s,hsm,hg,rfl,HO,HB⟩:=hrel
  by_cases hlt:s < m
  ·have hltz:(s:Int) < (m:Int):=by omega
   have h0z:(0:Int)≤(s:Int):=by omega
   have hw:wrap64 ((s:Int)+1)=((s+1:Nat):Int):=by rw [w64 (by omega) (by have:=HM5.out;omega)];rfl
   have HG:=q_ hg;have HLT:=q_ hlt;have HW:=q_ hw;clear hsm hg hlt hw
   go_wp2_with fail
   refine(HMN.out wr HB.out s HLT.out).mono ?_
   rintro e w3 ⟨rfl,hb⟩;replace HO:=q_ (Kd.R_below HO.out hb);replace HB:=q_ (below_step HB.out hb);obtain⟨hcs,hfs⟩:=Kd.R_celln 0 HO.out (s:Int) (by omega) (by have:=HLT.out;omega);rw [Int.toNat_natCast] at hcs hfs;clear hb;go_wp2
   go_roundg (m - (s+1))
   case measure=>have:=HG.out;have:=HLT.out;omega
   case rel=>
    have hput:=(Kd.R_putg HO.out (s:Int) (mn s)).1;rw [Int.toNat_natCast,mnL_set mn HLT.out] at hput;exact⟨s+1,HLT.out,by omega,by first | rfl | exact congrArg (Value.int .i64) HW.out,⟨hput⟩,⟨HB.out.setCell GO1.out _⟩⟩
  ·have hltz: ¬ (s:Int) < (m:Int):=by omega
   obtain rfl:s=m:=by omega
   clear hsm hg hlt;go_wp2
   go_ret
   exact⟨_,rfl,HO.out,HB.out⟩
theorem isP_calls (n:Nat) (mn:Nat→Int) (A:Option Addr) (c:Nat) (M:List (List Int)) (w:World) (hr:Kd.C (Kd.slice 2 (Kd.int .i64)) w A M.length M) (hc:M.length≤c) (hn:M.length=n) (h5:n≤5) (hm: ∀s:Nat,s < 2 ^ n→ ∃k,impl_minor.f k M (s:Int)=some (mn s)):
  ∃b:Bool,(b=true→ ∀s,s < 2 ^ n→1≤mn s)∧ ∀W,Below w.heap.size w W→Calls Tryz.prog 93 #[.slice A M.length c, .int .i64 1] W fun e w'=>e= .returned (.bool b)∧Below W.heap.size W w':=by
 have hp:2 ^ n≤2 ^ 5:=Nat.pow_le_pow_right (by decide) h5;have hp0:0 < 2 ^ n:=Nat.pow_pos (by decide);obtain⟨v,⟨kv,hv⟩,hv2⟩:=min_ex (mnL mn (2 ^ n) (2 ^ n)) (by rw [mnL_len];exact hp0) (by rw [mnL_len];omega);refine⟨decide (v ≥ 1),fun h s hs=>?_,fun W hW=>?_⟩
 ·have:=hv2 _ (mnL_mem mn hs);have:=of_decide_eq_true h
  omega
 ·have HMI:=q_ (minors_calls n mn A c M W (Kd.C_below hr hW) hc hn h5 hm);have HV:=q_ (hv kv (Nat.le_refl _));clear hr hc hm hv hv2 hp hp0 hW
  generalize mnL mn (2 ^ n) (2 ^ n)=l at HMI HV
  generalize M.length=ml at HMI ⊢
  go_enter Tryz.func93,Tryz.ntmps93
  go_wp2_with fail
  refine HMI.out.mono ?_
  rintro e w2 ⟨v0,rfl,ho,hb⟩;obtain⟨A2,c2,rfl⟩:=Kd.R_slice ho;have HO:=q_ (Kd.R_reads' ho).2;have HB:=q_ hb;clear ho hb HMI
  go_wp2_with fail
  refine(slices_Min_int64_int64.calls kv A2 c2 l v w2 HO.out.2 HO.out.1 HV.out).mono ?_
  rintro e w3 ⟨rfl,hb⟩;go_wp2
  go_ret
  exact⟨rfl,below_step HB.out hb⟩
theorem kindOf_calls (b:Bool) (A:Option Addr) (c:Nat) (m:List (List Int)) (w:World) (hr:Kd.C (Kd.slice 2 (Kd.int .i64)) w A m.length m) (hc:m.length≤c) (h0:impl_IsMatrix.f m=some true) (h: ∀W,Below w.heap.size w W→Calls Tryz.prog 93 #[.slice A m.length c, .int .i64 1] W fun e w'=>e= .returned (.bool b)∧Below W.heap.size W w'):
  Calls Tryz.prog 20 #[.slice A m.length c, .int .i64 0] w fun e w'=>e= .returned (.tuple #[.bool b, .int .i64 0])∧Below w.heap.size w w':=by
 have H0:=q_ (impl_IsMatrix.calls A c m true w hr hc h0);have HCALL:=q_ (fun(W:World) (hW:Below w.heap.size w W)=>(by
  have HC2:=q_ (fun(W2:World) (h2:Below W.heap.size W W2)=>h W2 (below_step hW h2));clear hr hc h h0 hW H0
  generalize m.length=n at HC2 ⊢
  go_enter Tryz.func59,Tryz.ntmps59
  go_wp2_with fail
  refine(HC2.out _ ((Below.refl _ _).alloc (Nat.le_refl _) _)).mono ?_
  rintro e w2 ⟨rfl,hb⟩;go_wp2
  go_ret
  exact⟨rfl,below_step ((Below.refl _ _).alloc (Nat.le_refl _) _) hb⟩:Calls Tryz.prog 59 #[.slice A m.length c, .int .i64 0] W fun e w'=>e= .returned (.bool b)∧Below W.heap.size W w'))
 clear hr hc h h0
 generalize m.length=n at H0 HCALL ⊢
 go_enter Tryz.func20,Tryz.ntmps20
 go_wp2_with fail
 refine H0.out.mono ?_
 rintro e w2 ⟨rfl,hb⟩;have HB:Aside0 (Below w.heap.size w w2):=⟨by first | exact hb | exact Al.drawn_below hb⟩
 clear hb H0
 go_wp2_with fail
 refine(impl_within.calls 0 0 11 true _ (by decide)).mono ?_
 rintro e w3 ⟨rfl,hd⟩;replace HB:=q_ (below_step HB.out (Al.drawn_below hd));clear hd
 go_wp2_with fail
 refine(HCALL.out _ HB.out).mono ?_
 rintro e w4 ⟨rfl,hb⟩;go_wp2
 go_ret2
 exact⟨rfl,below_step HB.out hb⟩
end Go.Proofs.YthmfdplckdijdaaGreat.Pr
end
section
namespace Go.Proofs.YthmfdplckdijdaaGreat.Pc
open Go.RowKit Go.Proofs.YthmfdplckdijdaaGreatW.PrintWords Go.Proofs.YthmfdplckdijdaaGreatW.PrintMore Go.Proofs.YthmfdplckdijdaaGreat.Ma Go.Proofs.YthmfdplckdijdaaGreat.Pr Go.Proofs.YthmfdplckdijdaaGreat.Dt Go.Proofs.YthmfdplckdijdaaGreat.Bz Go.Proofs.YthmfdplckdijdaaGreat.Un Go.Proofs.YthmfdplckdijdaaGreat.Cz Go.Proofs.YthmfdplckdijdaaGreat.Pb Go.Proofs.YthmfdplckdijdaaGreat.Mn Go.Proofs.YthmfdplckdijdaaGreat.Sv Go.Proofs.YthmfdplckdijdaaGreat.Er
theorem like_same (l:List Int) (hl:l.length≤1048576):Ev (fun k=>laws_likeInts.f k l l) true:=by
 unfold laws_likeInts.f
 refine evpos rfl ?_
 have key: ∀m i,i+m=l.length→Ev (fun k=>laws_likeInts.l0 k l l (i:Int)) true:=by
  intro m
  induction m with
  | zero=>
   intro i hi
   refine evstep (fun k=>by rw [laws_likeInts.l0]) ?_
   exact evneg (by omega) (evc rfl)
  | succ m ih=>
   intro i hi
   refine evstep (fun k=>by rw [laws_likeInts.l0]) ?_
   refine evpos (by omega) (evpos (by omega) (evpos (by omega) (evpos rfl ?_)))
   rw [w64 (x:=(i:Int)+1) (by omega) (by omega)]
   exact ih (i+1) (by omega)
 exact key l.length 0 (by omega)
theorem cube_same (d:Int) (l:List Int) (hl:l.length≤1048576):Ev (fun k=>laws_cube9.f k d l d l) true:=by
 unfold laws_cube9.f
 exact evpos rfl (evbind (like_same l hl) (evc rfl))
theorem kind_c {M:List (List Int)} {Q:List Int} (p:POK M Q) (hb: ∀s:Nat,s < 2 ^ M.length→ ¬ bad M.length M Q (s:Int)) (A:Option Addr) (c:Nat) (w:World) (hr:Kd.C (Kd.slice 2 (Kd.int .i64)) w A M.length M) (hc:M.length≤c):
  ∃b:Bool,(b=true→Us.Pairs (2 ^ M.length) (Cu.sN ((List.range (2 ^ M.length)).map (mk1 M.length M Q))))∧Calls Tryz.prog 20 #[.slice A M.length c, .int .i64 0] w fun e w'=>e= .returned (.tuple #[.bool b, .int .i64 0])∧Below w.heap.size w w':=by
 have h5:=p.mat.n5
 obtain⟨b,h1,h2⟩:=isP_calls M.length (fun s=>det (sel M.length (bB (s:Int))).length (subm (sel M.length (bB (s:Int))) (en M))) A c M w hr hc rfl h5 (fun s _=>by
  obtain⟨k,hk⟩:=minor_eq p.mat.sq h5 (s:Int)
  exact⟨k,hk k (Nat.le_refl _)⟩)
 exact⟨b,fun h=>pairs_of p (pm_of (h1 h) h5) hb,kindOf_calls b A c M w hr hc (by classical exact(impl_mat M).trans (congrArg some (decide_eq_true p.mat))) h2⟩
theorem feas_c {M:List (List Int)} {Q:List Int} (p:POK M Q) (hb: ∀s:Nat,s < 2 ^ M.length→ ¬ bad M.length M Q (s:Int)) (A0:Option Addr) (c0:Nat) (A1:Option Addr) (c1:Nat) (w:World) (hr0:Kd.C (Kd.slice 2 (Kd.int .i64)) w A0 M.length M) (hc0:M.length≤c0) (hr1:Kd.C (Kd.int .i64) w A1 Q.length Q) (hc1:Q.length≤c1):
  Calls Tryz.prog 18 #[.agg #[.slice A0 M.length c0, .slice A1 Q.length c1]] w fun e w'=> ∃v0_:Value,e= .returned (.tuple #[v0_, .int .i64 0])∧Kd.R (Kd.int .i64) 2 w' w.heap.size (fun _=>True) v0_ (feL (ptL M.length M Q) (2 ^ M.length))∧Below w.heap.size w w':=by
 have hq:=p.len;have h5:=p.mat.n5
 have hp5:2 ^ M.length≤2 ^ 5:=Nat.pow_le_pow_right (by decide) h5
 have ea:impl_Problem_all.f M Q=some ((2 ^ M.length:Nat):Int):=by
  unfold impl_Problem_all.f
  rw [hq,shl_one (by omega) (by omega),Int.toNat_natCast]
 exact feasible_calls (2 ^ M.length) (ptL M.length M Q) A0 c0 M A1 c1 Q w hr0 hc0 hr1 hc1 (by omega) (Pb.impl_is M Q true (by simp [p])) ea (fun s hs=>point_is p s (hb s hs))
def CubeOf (kf:Nat) (d:Int) (l:List Int) (M:List (List Int)) (Q:List Int):Prop:=
 ∃(S:List Int) (u:Bool),S.length≤32∧impl_SinksOf.f kf d l=some (S,0)∧laws_likeInts.f kf S S=some true∧impl_HasUniqueSinks.f kf d l=some (u,0)∧
   (∀(A0:Option Addr) (c0:Nat) (A1:Option Addr) (c1:Nat) (w:World),Kd.C (Kd.slice 2 (Kd.int .i64)) w A0 M.length M→M.length≤c0→Kd.C (Kd.int .i64) w A1 Q.length Q→Q.length≤c1→Calls Tryz.prog 18 #[.agg #[.slice A0 M.length c0, .slice A1 Q.length c1]] w fun e w'=> ∃v0_:Value,e= .returned (.tuple #[v0_, .int .i64 0])∧Kd.R (Kd.int .i64) 2 w' w.heap.size (fun _=>True) v0_ S∧Below w.heap.size w w')∧
   (∀(A:Option Addr) (c:Nat) (w:World),Kd.C (Kd.slice 2 (Kd.int .i64)) w A M.length M→M.length≤c→ ∃b:Bool,(b && !u)=false∧Calls Tryz.prog 20 #[.slice A M.length c, .int .i64 0] w fun e w'=>e= .returned (.tuple #[.bool b, .int .i64 0])∧Below w.heap.size w w')
theorem all_cube (M:List (List Int)) (Q:List Int) (hQ:Q.length≤1048576): ∃(kf:Nat) (d:Int) (l:List Int) (c:Int),spec_CubeOfProblem.f kf M Q=some (d,l,c)∧impl_CubeOfProblem.f kf M Q=some (d,l,c)∧laws_cube9.f kf d l d l=some true∧l.length≤32∧
  (c=0→CubeOf kf d l M Q):=by
 classical
 obtain⟨⟨d,l,c⟩,⟨k1,e1⟩,⟨k2,e2⟩,hl,hz⟩:=cube_facts M Q hQ
 obtain⟨k3,e3⟩:=cube_same d l (by have:l.length≤32:=hl;omega)
 by_cases hc:c=0
 ·obtain⟨p,hd,hm,hi,hb⟩:=hz hc
  change d=_ at hd;change l=_ at hm;change Cu.IsC d l at hi;change l.length≤32 at hl
  have h5:=p.mat.n5
  have hlen:l.length=2 ^ M.length:=by rw [hm];simp
  obtain⟨k4,e4⟩:=Cu.impl_sinksOf d l
  obtain⟨k5,e5⟩:=Cu.impl_has d l
  unfold Cu.sinksR at e4
  unfold Cu.hasR at e5
  have hS:Cu.snk l 0 l.length=feL (ptL M.length M Q) (2 ^ M.length):=by rw [hlen,hm];exact sinks_are _ (Nat.le_refl _)
  have hSl:(Cu.snk l 0 l.length).length≤32:=Nat.le_trans (Cu.snk_len l 0 l.length) hl
  obtain⟨k6,e6⟩:=like_same (Cu.snk l 0 l.length) (by omega)
  refine⟨max k1 (max k2 (max k3 (max k4 (max k5 k6)))),d,l,c,e1 _ (by omega),e2 _ (by omega),e3 _ (by omega),hl,fun _=>⟨Cu.snk l 0 l.length,decide (Us.Pairs (2 ^ d.toNat) (Cu.sN l)),hSl,(e4 (max k1 (max k2 (max k3 (max k4 (max k5 k6))))) (by omega)).trans (congrArg some (if_pos hi)),e6 _ (by omega),(e5 (max k1 (max k2 (max k3 (max k4 (max k5 k6))))) (by omega)).trans (congrArg some (if_pos hi)),fun A0 c0 A1 c1 w h0 h1 h2 h3=>by rw [hS];exact feas_c p hb A0 c0 A1 c1 w h0 h1 h2 h3,fun A c0 w h0 h1=>?_⟩⟩
  obtain⟨b,b1,b2⟩:=kind_c p hb A c0 w h0 h1
  refine⟨b,?_,b2⟩
  cases hbb:b with
  | false=>rfl
  | true=>rw [decide_eq_true (by rw [hd,Int.toNat_natCast,hm];exact b1 hbb)];rfl
 ·exact⟨max k1 (max k2 k3),d,l,c,e1 _ (by omega),e2 _ (by omega),e3 _ (by omega),hl,fun h=>absurd h hc⟩
theorem all_walks {b:List Int} (hb: ∀i:Nat,0≤b.getD i 0∧b.getD i 0≤255) (hl:b.length≤4096): ∃(kf:Nat) (d:Int) (l:List Int) (v ru:Int) (wl:List Int) (c:Int),spec_DrawWalkByRule.f kf b=some (d,l,v,ru)∧impl_WalkByRule.f kf d l v ru=some (wl,c)∧spec_WalkByRule.f kf d l v ru=some (wl,c)∧laws_likeInts.f kf wl wl=some true∧((c=0→Cu.WK l v wl)∧(c≠0→wl= [])∧wl.length≤64∧l.length≤32):=by
 obtain⟨⟨d,l,v,ru⟩,⟨k1,e1⟩,h1⟩:=Dr.drawWalk hb hl
 obtain⟨⟨wl,c⟩,g1,g2,_,g4,⟨k2,e2⟩,⟨k3,e3⟩⟩:=Cu.walks_good d l v ru
 obtain⟨k4,e4⟩:=like_same wl (by have:wl.length≤64:=g4;omega)
 exact⟨max k1 (max k2 (max k3 k4)),d,l,v,ru,wl,c,e1 _ (by omega),e3 _ (by omega),e2 _ (by omega),e4 _ (by omega),g1,g2,g4,h1⟩
theorem all_count {b:List Int} (hb: ∀i:Nat,0≤b.getD i 0∧b.getD i 0≤255) (hl:b.length≤4096): ∃(kf:Nat) (a n c:Int),spec_DrawCountUniqueSinks.f kf b=some a∧impl_CountUniqueSinks.f a=some (n,c)∧spec_CountUniqueSinks.f kf a=some (n,c)∧(c=0→n % 2=0)∧0≤n∧n≤1000000000:=by
 obtain⟨a,⟨k1,e1⟩,_⟩:=Dr.drawCount hb hl
 obtain⟨k2,e2⟩:=Pure.spec_cus a
 refine⟨max k1 k2,a,(Cu.cusR a).1,(Cu.cusR a).2,e1 _ (by omega),rfl,e2 _ (by omega),?_,?_⟩
 ·unfold Cu.cusR
  split
  ·rename_i h;intro _;exact Cu.cnt_even (by omega) (by omega)
  ·intro h;exact absurd h (by decide)
 ·unfold Cu.cusR
  split
  ·rename_i h
   have h12:=Cu.edE_len (n:=a.toNat) (by omega) (by omega)
   have hp:2 ^ (Cu.edE a.toNat).length≤2 ^ 12:=Nat.pow_le_pow_right (n:=2) (by decide) h12
   have:=Cu.cntU_le a.toNat (2 ^ (Cu.edE a.toNat).length)
   omega
  ·exact⟨by decide,by decide⟩
end Go.Proofs.YthmfdplckdijdaaGreat.Pc
end
section
namespace Go.Proofs.YthmfdplckdijdaaGreat.Pr
open Go.RowKit Go.Proofs.YthmfdplckdijdaaGreatW.PrintWords Go.Proofs.YthmfdplckdijdaaGreatW.PrintLast Go.Proofs.YthmfdplckdijdaaGreatW.PrintMore Go.Proofs.YthmfdplckdijdaaGreat.Al Go.Proofs.YthmfdplckdijdaaGreat.Dr Go.Proofs.YthmfdplckdijdaaGreat.Ma
noncomputable def laws_FnCubeWalks.after109:Code:=((Tryz.f3.body.bind (tailAfter 109)).getD .skip)
theorem laws_FnCubeWalks.after109_walk {d1 v1 wc_ dc cc:Int} {l1 wl lc Q:List Int} {M:List (List Int)} {A1 A6 A11 Am Aq:Option Addr} {c1 c6 c11 cm cq g3 g10 g11 kc:Nat} {w wc:World} {z0_ z1_ z2_ z5_ z8_ z9_ z13_ z14_ z15_ z16_ z17_ z18_ z19_ z20_ z21_ z22_ z23_ z24_ z25_ z26_ z27_ z28_ z29_ z30_ z31_ z32_ z33_ z34_ z35_ z36_ z37_ z38_ z39_ z40_ z41_ z42_ z43_ z44_ z45_ z46_ z47_ z48_ z49_ z50_ z51_ z52_ z53_ z54_ z55_ z56_ z57_ z58_ z59_ z60_ z61_ z62_ z63_ z64_ z65_ z66_ z67_ z68_ z69_ z70_ z71_ z72_ z73_ z74_ z75_ z76_ z77_ z78_ z79_ z80_ z81_ z82_ z83_ z84_ z85_ z86_ z87_ z88_ z89_ z90_ z91_ z92_ z93_ z94_ z95_ z96_ z97_ z98_ z99_ z100_ z101_ z102_ z103_ z104_ z105_ z106_ z107_ z108_ z109_ z110_ z111_ z112_ z113_ z114_ z115_ z116_ z117_ z118_ z119_ z120_ z121_ z122_ z123_ z124_ z125_ z126_ z127_ z128_ z129_ z130_ z131_ z132_ z133_ z134_ z135_ z136_ z137_ z138_ z139_ z140_ z141_ z142_ z143_ z144_ z145_ z146_ z147_ z148_ z149_ z150_ z151_ z152_ z153_ z154_ z155_ z156_ z157_ z158_ z159_ z160_ z161_ z162_ z163_ z164_ z165_ z166_ z167_ z168_ z169_ z170_ z171_ z172_ z173_ z174_ z175_ z176_ z177_ z178_ z179_ z180_ z181_ z182_ z183_ z184_ z185_ z186_ z187_ z188_ z189_ z190_ z191_ z192_ z193_ z194_ z195_ z196_ z197_ z198_ z199_ z200_ z201_ z202_ z203_ z204_ z205_ z206_ z207_ z208_ z209_ z210_ z211_ z212_ z213_ z214_:Value} (HW:Aside0 ((wc_=0→Cu.WK l1 v1 wl)∧(wc_≠0→wl= [])∧wl.length≤64∧l1.length≤32)) (CM:Aside0 (M.length≤cm)) (CQ:Aside0 (Q.length≤cq)) (C11:Aside0 (lc.length≤c11)) (G5:Aside0 (cc=0→Pc.CubeOf kc dc lc M Q)) (AL:Aside0 (Al (fun W_=>(W_.heap[g11]?=some (.cells #[.int .i64 dc, .slice A11 lc.length c11] 26 (0,0)))∧(Kd.C (Kd.int .i64) W_ A11 lc.length lc)∧(W_.heap[g10]?=some (.cells #[.slice Am M.length cm, .slice Aq Q.length cq] 34 (0,0)))∧(Kd.C (Kd.int .i64) W_ Aq Q.length Q)∧(Kd.C (Kd.slice 2 (Kd.int .i64)) W_ Am M.length M)∧(Kd.C (Kd.int .i64) W_ A6 wl.length wl)∧(W_.heap[g3]?=some (.cells #[.int .i64 d1, .slice A1 l1.length c1] 26 (0,0)))∧(Kd.C (Kd.int .i64) W_ A1 l1.length l1)∧True) wc)) (HB:Aside0 (Below w.heap.size w wc)):
  Code.wp Tryz.prog laws_FnCubeWalks.after109 (bodyPost Tryz.prog Tryz.f3 fun e w'=>e=Ending.returned (.bool true)∧Below w.heap.size w w') ⟨#[z0_,z1_,z2_, .pointer (some ⟨g3,0,none⟩), .int .i64 v1,z5_, .slice A6 wl.length c6, .int .i64 wc_,z8_,z9_, .pointer (some ⟨g10,0,none⟩), .pointer (some ⟨g11,0,none⟩), .int .i64 cc,z13_,z14_,z15_,z16_,z17_,z18_,z19_,z20_,z21_,z22_,z23_,z24_,z25_,z26_,z27_,z28_,z29_,z30_,z31_,z32_,z33_,z34_,z35_,z36_,z37_,z38_,z39_,z40_,z41_,z42_,z43_,z44_,z45_,z46_,z47_,z48_,z49_,z50_,z51_,z52_,z53_,z54_,z55_,z56_,z57_,z58_,z59_,z60_,z61_,z62_,z63_,z64_,z65_,z66_,z67_,z68_,z69_,z70_,z71_,z72_,z73_,z74_,z75_,z76_,z77_,z78_,z79_,z80_,z81_,z82_,z83_,z84_,z85_,z86_,z87_,z88_,z89_,z90_,z91_,z92_,z93_,z94_,z95_,z96_,z97_,z98_,z99_,z100_,z101_,z102_,z103_,z104_,z105_,z106_,z107_,z108_,z109_,z110_,z111_,z112_,z113_,z114_,z115_,z116_,z117_,z118_,z119_,z120_,z121_,z122_,z123_,z124_,z125_,z126_,z127_,z128_,z129_,z130_,z131_,z132_,z133_,z134_,z135_,z136_,z137_,z138_,z139_,z140_,z141_,z142_,z143_,z144_,z145_,z146_,z147_,z148_,z149_,z150_,z151_,z152_,z153_,z154_,z155_,z156_,z157_,z158_,z159_,z160_,z161_,z162_,z163_,z164_,z165_,z166_,z167_,z168_,z169_,z170_,z171_,z172_,z173_,z174_,z175_,z176_,z177_,z178_,z179_,z180_,z181_,z182_,z183_,z184_,z185_,z186_,z187_,z188_,z189_,z190_,z191_,z192_,z193_,z194_,z195_,z196_,z197_,z198_,z199_,z200_,z201_,z202_,z203_,z204_,z205_,z206_,z207_,z208_,z209_,z210_,z211_,z212_,z213_,z214_], []⟩ wc:=by
 conv=>arg 2;whnf
 go_upto_if 111 with (fail)
 have AF:=q_ (show Al (fun W_=>(Kd.C (Kd.int .i64) W_ A6 wl.length wl)∧(W_.heap[g3]?=some (.cells #[.int .i64 d1, .slice A1 l1.length c1] 26 (0,0)))∧(Kd.C (Kd.int .i64) W_ A1 l1.length l1)∧True) _ from ⟨fun w2 h2=>⟨(AL.out.all w2 h2).2.2.2.2.2.1,(AL.out.all w2 h2).2.2.2.2.2.2.1,(AL.out.all w2 h2).2.2.2.2.2.2.2.1,trivial⟩⟩)
 go_cut [20,21,22,23,24,25,26,27] from 110 to 157 (fun v20 v21 v22 v23 v24 v25 v26 v27 wc=>Aside0 (Al (fun W_=>(Kd.C (Kd.int .i64) W_ A6 wl.length wl)∧(W_.heap[g3]?=some (.cells #[.int .i64 d1, .slice A1 l1.length c1] 26 (0,0)))∧(Kd.C (Kd.int .i64) W_ A1 l1.length l1)∧True) wc)∧Aside0 (Below w.heap.size w wc))
 case first=>
  by_cases ck:cc=0
  ·subst ck;obtain⟨S,u,f1,f2,f3,f4,f5,f6⟩:=G5.out rfl;have S1:=q_ f1;have S2:=q_ f2;have S3:=q_ f3;have S4:=q_ f4;have S5:=q_ f5;have S6:=q_ f6;clear f1 f2 f3 f4 f5 f6;have hz11_0:=cz_ (q_ (AL.out.now.1)) 0;have hz11_1:=cz_ (q_ (AL.out.now.1)) 1
   go_wp2_with fail
   refine(impl_SinksOf.calls kc dc _ _ lc S 0 _ (AL.out.now.2.1) C11.out S2.out).mono ?_
   rintro e w1 ⟨v20,rfl,ho,hb⟩;clear hz11_0 hz11_1;replace AL:=q_ (AL.out.mv hb);replace HB:=q_ (below_step HB.out hb);obtain⟨A20,c20,rfl⟩:=Kd.R_slice ho;have C20:=q_ (Kd.R_reads' ho).2.1;replace AL:=q_ (AL.out.addC (Kd.R_reads' ho).2.2);clear hb ho;have hz10_0:=cz_ (q_ (AL.out.now.2.2.2.1)) 0;have hz10_1:=cz_ (q_ (AL.out.now.2.2.2.1)) 1
   go_wp2_with fail
   refine(S5.out _ _ _ _ _ (AL.out.now.2.2.2.2.2.1) CM.out (AL.out.now.2.2.2.2.1) CQ.out).mono ?_
   rintro e w2 ⟨v22,rfl,ho,hb⟩;clear hz10_0 hz10_1;replace AL:=q_ (AL.out.mv hb);replace HB:=q_ (below_step HB.out hb);obtain⟨A22,c22,rfl⟩:=Kd.R_slice ho;have C22:=q_ (Kd.R_reads' ho).2.1;replace AL:=q_ (AL.out.addC (Kd.R_reads' ho).2.2);clear hb ho;have hz11_0:=cz_ (q_ (AL.out.now.2.2.1)) 0;have hz11_1:=cz_ (q_ (AL.out.now.2.2.1)) 1
   go_wp2_with fail
   refine(impl_HasUniqueSinks.calls kc dc _ _ lc u 0 _ (AL.out.now.2.2.2.1) C11.out S4.out).mono ?_
   rintro e w3 ⟨rfl,hb⟩;clear hz11_0 hz11_1;replace AL:=q_ (AL.out.mv hb);replace HB:=q_ (below_step HB.out hb);clear hb
   go_wp2_with fail
   refine(laws_likeInts.calls kc _ _ S _ _ S true _ (AL.out.now.2.1) C20.out (AL.out.now.1) C22.out S3.out).mono ?_
   rintro e w4 ⟨rfl,hd⟩;have hb:=Al.drawn_below hd;replace AL:=q_ (AL.out.mv hb);replace HB:=q_ (below_step HB.out hb);clear hb hd;obtain⟨b,hbu,hbc⟩:=S6.out _ _ _ (AL.out.now.2.2.2.2.2.2.1) CM.out;have HBC:=q_ hbc;clear hbc;have hz10_0:=cz_ (q_ (AL.out.now.2.2.2.2.1)) 0;have hz10_1:=cz_ (q_ (AL.out.now.2.2.2.2.1)) 1
   go_wp2_with fail
   refine(HBC.out).mono ?_
   rintro e w5 ⟨rfl,hb⟩;clear hz10_0 hz10_1;replace AL:=q_ (AL.out.mv hb);replace HB:=q_ (below_step HB.out hb);clear hb;cases b with
   | false=>go_wp2;go_meet;case rel=>exact⟨⟨⟨fun w2 h2=>⟨(AL.out.all w2 h2).2.2.2.2.2.2.2.1,(AL.out.all w2 h2).2.2.2.2.2.2.2.2.1,(AL.out.all w2 h2).2.2.2.2.2.2.2.2.2.1,trivial⟩⟩⟩,HB⟩
   | true=>
    cases u with
    | false=>exact absurd hbu (by decide)
    | true=>go_wp2;go_meet;case rel=>exact⟨⟨⟨fun w2 h2=>⟨(AL.out.all w2 h2).2.2.2.2.2.2.2.1,(AL.out.all w2 h2).2.2.2.2.2.2.2.2.1,(AL.out.all w2 h2).2.2.2.2.2.2.2.2.2.1,trivial⟩⟩⟩,HB⟩
  ·have ck1:(cc==0)=false:=by simpa using ck
   go_wp2
   go_meet
   case rel=>exact⟨AF,HB⟩
 case rest=>
  clear AL HB AF;obtain⟨AL,HB⟩:=hcut
  rename_i hk
  exact hk _ _ (laws_FnCubeWalks.after111_walk HW AL HB)
end Go.Proofs.YthmfdplckdijdaaGreat.Pr
end
section
namespace Go.Proofs.YthmfdplckdijdaaGreat.Pr
open Go.RowKit Go.Proofs.YthmfdplckdijdaaGreatW.PrintWords Go.Proofs.YthmfdplckdijdaaGreatW.PrintLast Go.Proofs.YthmfdplckdijdaaGreatW.PrintMore
attribute [local go_sem] max2_int min2_int max_two min_two max_three min_three max_four min_four
def spec_l01DrawPart.f (s0_0:List Int) (s0_1:Int) (s0_2:Int) (a1:Int):Option (Int × Int × Int):=(spec_l01Next.f s0_0 s0_1 s0_2 (wrap64 ((wrap64 (2*a1))+1))).bind fun aa=>(some (wrap64 (aa.1 - a1),aa.2.1,aa.2.2))
theorem spec_l01DrawPart.calls (g:Nat) (s0_0:List Int) (s0_1:Int) (s0_2:Int) (a1:Int) (r1:Int) (r2:Int) (r3:Int) (w0 w:World) (hI:IsS122 w0 w g s0_0 s0_1 s0_2) (hB:Below w0.heap.size w0 w) (h:spec_l01DrawPart.f s0_0 s0_1 s0_2 a1=some (r1,r2,r3)):
  Calls Tryz.prog 129 #[.pointer (some ⟨g,0,none⟩), .int .i64 a1] w fun e w'=>e= .returned (.int .i64 r1)∧IsS122 w0 w' g s0_0 r2 r3∧Below w0.heap.size w0 w'∧KeepBut w w' g none:=by
 have HI0:=q_ hI;have HK:=q_ (KeepBut.refl w g none);have HL:=q_ hB.size;clear hI;have HW0:=q_ hB.size;have HB:=q_ hB;clear hB;have H:((spec_l01Next.f s0_0 s0_1 s0_2 (wrap64 ((wrap64 (2*a1))+1))).bind fun aa=>(some (wrap64 (aa.1 - a1),aa.2.1,aa.2.2)))=some (r1,r2,r3):=h;clear h;replace H:=Option.bind_eq_some_iff.mp H;obtain⟨⟨ae,af,ag⟩,A30,H⟩:=H;replace H:(some (wrap64 (ae - a1),af,ag))=some (r1,r2,r3):=H;have A3:=q_ A30;clear A30;simp only [Option.some.injEq,Prod.mk.injEq] at H;obtain⟨rfl,rfl,rfl⟩:=H
 go_enter Tryz.func129,Tryz.ntmps129
 go_wp2_with (first | ((with_reducible refine gate_callee (f:=36) rfl ?_);refine gL_ 9 Tryz.func36 #[.pointer (some ⟨g,0,none⟩), .int .i64 (wrap64 ((wrap64 (2*a1))+1))] ?_;(with_reducible refine(spec_l01Next.calls g s0_0 s0_1 s0_2 (wrap64 ((wrap64 (2*a1))+1)) ae af ag w0 _ ?ah ?ai A3.out).mono ?_);(case ah=>exact hi_);(case ai=>exact hj_);rintro e w4 ⟨rfl,hi,hb,hk⟩;refine⟨_,rfl,?_⟩;replace HK:=q_ (KeepBut.trans hk_ hk (.inl rfl));replace HB:=q_ (hb);replace HI0:=q_ (hi);(try clear hb);(try clear hk);(try clear hi)))
 go_ret
 exact⟨by first | rfl | (simp [errW_none,errW_some] <;> rfl) | (simp [*,errW_none,errW_some] <;> rfl),hi_,hj_,hk_⟩
mutual
def spec_l01DrawM.l0:Nat→Int→Int→List (List Int)→Int→List Int→Int→Int→Option ((List (List Int)) × Int × Int)
 | 0,_,_,_,_,_,_,_=>none
 | k+1,x1,x2,x7,x8,aa,ae,af=>if x8 < x1 then(spec_l01DrawM.l1 k x1 x2 x7 x8 (([]:List Int)) 0 aa ae af) else(some (x7,ae,af))
def spec_l01DrawM.l1:Nat→Int→Int→List (List Int)→Int→List Int→Int→List Int→Int→Int→Option ((List (List Int)) × Int × Int)
 | 0,_,_,_,_,_,_,_,_,_=>none
 | k+1,x1,x2,x7,x8,x9,x10,aa,ae,af=>if x10 < x1 then((spec_l01DrawPart.f aa ae af x2).bind fun ag=>((spec_l01Pick.f aa ag.2.1 ag.2.2 (([0,1,1]:List Int))).bind fun ah=>(if x9.length < 17592186044416 then(spec_l01DrawM.l1 k x1 x2 x7 x8 (x9++ [wrap64 (ag.1*ah.1)]) (wrap64 (x10+1)) aa ah.2.1 ah.2.2) else(none)))) else(if x7.length < 5864062014805 then(spec_l01DrawM.l0 k x1 x2 (x7++ [x9]) (wrap64 (x8+1)) aa ae af) else(none))
end
def spec_l01DrawM.f (k:Nat) (s0_0:List Int) (s0_1:Int) (s0_2:Int) (a1:Int) (a2:Int):Option ((List (List Int)) × Int × Int):=spec_l01DrawM.l0 k a1 a2 (([]:List (List Int))) 0 s0_0 s0_1 s0_2
theorem spec_l01DrawM.mono_l: ∀k,(∀y0 y1 y2 y3 y4 y5 y6,LeO (spec_l01DrawM.l0 k y0 y1 y2 y3 y4 y5 y6) (spec_l01DrawM.l0 (k+1) y0 y1 y2 y3 y4 y5 y6))∧(∀y0 y1 y2 y3 y4 y5 y6 y7 y8,LeO (spec_l01DrawM.l1 k y0 y1 y2 y3 y4 y5 y6 y7 y8) (spec_l01DrawM.l1 (k+1) y0 y1 y2 y3 y4 y5 y6 y7 y8))
 | 0=>⟨fun _ _ _ _ _ _ _ r h=>by simp [spec_l01DrawM.l0] at h,fun _ _ _ _ _ _ _ _ _ r h=>by simp [spec_l01DrawM.l1] at h⟩
 | k+1=>by
  obtain⟨ih0,ih1⟩:=spec_l01DrawM.mono_l k
  refine⟨?_,?_⟩<;>intros<;>(first | unfold spec_l01DrawM.l0 | unfold spec_l01DrawM.l1)<;>(repeat' first | (with_reducible first | exact ih0 _ _ _ _ _ _ _ | exact ih1 _ _ _ _ _ _ _ _ _ | exact LeO.refl _ | exact LeO.none _ | refine LeO.ite ?_ ?_ | refine LeO.bind ?_ (fun _=>?_)) | exact ih0 _ _ _ _ _ _ _ | exact ih1 _ _ _ _ _ _ _ _ _ | exact LeO.none _ | refine LeO.ite ?_ ?_ | refine LeO.bind ?_ (fun _=>?_))
theorem spec_l01DrawM.mono: ∀a0 a1 a2 a3 a4 k,LeO (spec_l01DrawM.f k a0 a1 a2 a3 a4) (spec_l01DrawM.f (k+1) a0 a1 a2 a3 a4):=by
 intro a0 a1 a2 a3 a4 k
 obtain⟨ih0,ih1⟩:=spec_l01DrawM.mono_l k
 unfold spec_l01DrawM.f
 repeat' first | (with_reducible first | exact ih0 _ _ _ _ _ _ _ | exact ih1 _ _ _ _ _ _ _ _ _ | exact LeO.refl _ | exact LeO.none _ | refine LeO.ite ?_ ?_ | refine LeO.bind ?_ (fun _=>?_)) | exact ih0 _ _ _ _ _ _ _ | exact ih1 _ _ _ _ _ _ _ _ _ | exact LeO.none _ | refine LeO.ite ?_ ?_ | refine LeO.bind ?_ (fun _=>?_)
theorem spec_l01DrawM.calls (k:Nat) (g:Nat) (s0_0:List Int) (s0_1:Int) (s0_2:Int) (a1:Int) (a2:Int) (r1:List (List Int)) (r2:Int) (r3:Int) (w0 w:World) (hI:IsS122 w0 w g s0_0 s0_1 s0_2) (hB:Below w0.heap.size w0 w) (h:spec_l01DrawM.f k s0_0 s0_1 s0_2 a1 a2=some (r1,r2,r3)):
  Calls Tryz.prog 82 #[.pointer (some ⟨g,0,none⟩), .int .i64 a1, .int .i64 a2] w fun e w'=> ∃v0_:Value,e= .returned (v0_)∧Kd.S (Kd.slice 2 (Kd.int .i64)) 24 w' w.heap.size (fun _=>True) v0_ r1∧IsS122 w0 w' g s0_0 r2 r3∧Below w0.heap.size w0 w'∧KeepBut w w' g none:=by
 have HI0:=q_ hI;have HK:=q_ (KeepBut.refl w g none);have HL:=q_ hB.size;clear hI;have HW0:=q_ hB.size;have HB:=q_ hB;clear hB;have H:(spec_l01DrawM.l0 k a1 a2 (([]:List (List Int))) 0 s0_0 s0_1 s0_2)=some (r1,r2,r3):=h;clear h;obtain⟨aU,hy⟩: ∃y_:List (List Int),y_=(([]:List (List Int))):=⟨_,rfl⟩
 replace H:(spec_l01DrawM.l0 k a1 a2 aU 0 s0_0 s0_1 s0_2)=some (r1,r2,r3):=hh_;have aN:=q_ hy;clear hy;have H':=q_ H;clear H
 go_enter Tryz.func82,Tryz.ntmps82
 go_wp2_with (first | ((with_reducible refine gate_dst (N:=11) rfl ?_);refine Kd.S_lit (Kd.slice 2 (Kd.int .i64)) _ 24 ?hg (N:=11) ?hd (xs:=([]:List (List Int))) (inner:= []) (ok:=fun _=>True) (okp:=fun _=>True) ?hr ?hp (fun _ hk=>hk) trivial (Below.refl _ _) (Nat.le_refl _) (by simp) ?_;(case hd=>rfl);(case hg=>rfl);(case hr=>first | (go_simp;done) | (go_simp;rfl));(case hp=>exact(Reps.none _ _));intro bC w4 ho5 hb hg_ hnew_;clear hg_ hnew_;(first | rw [← aN.out] at ho5 | (simp only [Int.reduceToNat] at ho5;rw [← aN.out] at ho5));have a9:=q_ (Kd.S_lower ho5 (keep_size (w:=w) (g:=g) (row:=none) hk_));replace HB:=q_ (below_step hj_ hb);replace HI0:=q_ (IsS122.below hi_ hb);replace HK:=q_ (KeepBut.trans hk_ (KeepBut.of_below hb g none) (.inl rfl));clear hb ho5))
 go_loopg [7,8] k (fun kq v7 v8 w'=> ∃(ak:List (List Int)) (ai:Int) (au:Int) (av:Int),v8= .int .i64 ai∧Aside0 (spec_l01DrawM.l0 kq a1 a2 ak ai s0_0 au av=some (r1,r2,r3))∧Aside0 (kq≤k)∧Aside0 (Kd.S (Kd.slice 2 (Kd.int .i64)) 24 w' w.heap.size (fun _=>True) v7 ak)∧Aside0 (IsS122 w0 w' g s0_0 au av)∧Aside0 (KeepBut w w' g none)∧Aside0 (Below w0.heap.size w0 w'))
 case atStart=>exact⟨(aU),(0),(s0_1),(s0_2),rs_,H',⟨Nat.le_refl _⟩,⟨so_ a9.out⟩,⟨hi_⟩,⟨hk_⟩,⟨hj_⟩⟩
 case round=>
  clear H';obtain⟨ak,ai,au,av,rfl,HA,HK1,aa,HI0,HK,HB⟩:=hrel;cases gk with
  | zero=>exact absurd HA.out (by simp [spec_l01DrawM.l0])
  | succ k1=>
   have H:=HA.out;clear HA;simp only [spec_l01DrawM.l0] at H
   by_cases c6:ai < a1
   ·rw [if_pos c6] at H;have c6b0:=decide_eq_true c6;clear c6;obtain⟨aV,hy⟩: ∃y_:List Int,y_=(([]:List Int)):=⟨_,rfl⟩
    replace H:(spec_l01DrawM.l1 k1 a1 a2 ak ai aV 0 s0_0 au av)=some (r1,r2,r3):=hh_;have aQ:=q_ hy;clear hy;have H':=q_ H;clear H
    go_wp2_with (first | ((with_reducible refine gate_dst (N:=17) rfl ?_);refine Kd.R_lit (Kd.int .i64) _ 2 ?hg (N:=17) ?hd (xs:=([]:List Int)) (inner:= []) (ok:=fun _=>True) (okp:=fun _=>True) ?hr ?hp (fun _ hk=>hk) trivial (Below.refl _ _) (Nat.le_refl _) (by simp) ?_;(case hd=>rfl);(case hg=>rfl);(case hr=>first | (go_simp;done) | (go_simp;rfl));(case hp=>exact(Reps.none _ _));intro bD w7 ho8 hb hg_ hnew_;clear hg_ hnew_;(first | rw [← aQ.out] at ho8 | (simp only [Int.reduceToNat] at ho8;rw [← aQ.out] at ho8));replace aa:=q_ (Kd.S_elder' (so_ aa.out) (Kd.R_base ho8) hb);have ba:=q_ (Kd.R_lower ho8 (keep_size (w:=w) (g:=g) (row:=none) hk_));replace HB:=q_ (below_step hj_ hb);replace HI0:=q_ (IsS122.below hi_ hb);replace HK:=q_ (KeepBut.trans hk_ (KeepBut.of_below hb g none) (.inl rfl));clear hb ho8))
    go_loopg [9,10] k1 (fun kq v9 v10 w'=> ∃(ae:List Int) (aj:Int) (ag:Int) (ah:Int),v10= .int .i64 aj∧Aside0 (spec_l01DrawM.l1 kq a1 a2 ak ai ae aj s0_0 ag ah=some (r1,r2,r3))∧Aside0 (kq≤k1)∧Aside0 (Kd.S (Kd.slice 2 (Kd.int .i64)) 24 w' w.heap.size (fun k_=>some k_≠(v9:Value).ownBlock) u7 ak)∧Aside0 (Kd.R (Kd.int .i64) 2 w' w.heap.size (fun _=>True) v9 ae)∧Aside0 (IsS122 w0 w' g s0_0 ag ah)∧Aside0 (KeepBut w w' g none)∧Aside0 (Below w0.heap.size w0 w'))
    case atStart=>exact⟨(aV),(0),(au),(av),rs_,H',⟨Nat.le_refl _⟩,⟨by(with_reducible repeat (first | apply Kd.S_alloc | apply Kd.S_drewN | apply Kd.S_drew));exact Kd.S_mono aa.out (fun _ hk=>hk.2)⟩,⟨ro_ ba.out⟩,⟨hi_⟩,⟨hk_⟩,⟨hj_⟩⟩
    case round=>
     clear H';(try clear c6b0);obtain⟨ae,aj,ag,ah,rfl,HA,HK2,aa,af,HI0,HK,HB⟩:=hrel;cases gk with
     | zero=>exact absurd HA.out (by simp [spec_l01DrawM.l1])
     | succ k2=>
      have H:=HA.out;clear HA;simp only [spec_l01DrawM.l1] at H
      by_cases c9:aj < a1
      ·rw [if_pos c9] at H;have c9b0:=decide_eq_true c9;clear c9;replace H:=Option.bind_eq_some_iff.mp H;obtain⟨⟨ax,ay,az⟩,A100,H⟩:=H;replace H:((spec_l01Pick.f s0_0 ay az (([0,1,1]:List Int))).bind fun aw=>(if ae.length < 17592186044416 then(spec_l01DrawM.l1 k2 a1 a2 ak ai (ae++ [wrap64 (ax*aw.1)]) (wrap64 (aj+1)) s0_0 aw.2.1 aw.2.2) else(none)))=some (r1,r2,r3):=H;have A10:=q_ A100;clear A100;obtain⟨aC,hy⟩: ∃y_:List Int,y_=(([0,1,1]:List Int)):=⟨_,rfl⟩
       replace H:((spec_l01Pick.f s0_0 ay az aC).bind fun aw=>(if ae.length < 17592186044416 then(spec_l01DrawM.l1 k2 a1 a2 ak ai (ae++ [wrap64 (ax*aw.1)]) (wrap64 (aj+1)) s0_0 aw.2.1 aw.2.2) else(none)))=some (r1,r2,r3):=hh_;have aT:=q_ hy;clear hy;replace H:=Option.bind_eq_some_iff.mp H;obtain⟨⟨aD,aG,aH⟩,A110,H⟩:=H;replace H:(if ae.length < 17592186044416 then(spec_l01DrawM.l1 k2 a1 a2 ak ai (ae++ [wrap64 (ax*aD)]) (wrap64 (aj+1)) s0_0 aG aH) else(none))=some (r1,r2,r3):=H;have A11:=q_ A110;clear A110
       by_cases c12:ae.length < 17592186044416
       ·rw [if_pos c12] at H;have bf:=q_ c12;clear c12;obtain⟨aW,hy⟩: ∃y_:List Int,y_=(ae++ [wrap64 (ax*aD)]):=⟨_,rfl⟩
        replace H:(spec_l01DrawM.l1 k2 a1 a2 ak ai aW (wrap64 (aj+1)) s0_0 aG aH)=some (r1,r2,r3):=hh_;have bg:=q_ hy;clear hy;have H':=q_ H;clear H
        go_wp2_with (first | ((with_reducible refine gate_callee (f:=129) rfl ?_);refine gL_ 26 Tryz.func129 #[.pointer (some ⟨g,0,none⟩), .int .i64 a2] ?_;(with_reducible refine(spec_l01DrawPart.calls g s0_0 ag ah a2 ax ay az w0 _ ?aI ?aJ A10.out).mono ?_);(case aI=>exact hi_);(case aJ=>exact hj_);rintro e w13 ⟨rfl,hi,hb,hk⟩;refine⟨_,rfl,?_⟩;replace aa:=q_ (Kd.S_mono (Kd.S_keep (IsS122.apartS (show IsS122 w0 _ g s0_0 ag ah from hi_) (so_ aa.out) (by decide)) hk (fun _ h=>h.2)) (fun _ h=>h.1));replace af:=q_ (Kd.R_mono (Kd.R_keep (IsS122.apart (show IsS122 w0 _ g s0_0 ag ah from hi_) (ro_ af.out) (by decide)) hk (fun _ h=>h.2)) (fun _ h=>h.1));replace HK:=q_ (KeepBut.trans hk_ hk (.inl rfl));replace HB:=q_ (hb);replace HI0:=q_ (hi);(try clear hb);(try clear hk);(try clear hi)) | ((with_reducible refine gate_dst (N:=28) rfl ?_);refine Kd.R_lit (Kd.int .i64) _ 2 ?hg (N:=28) ?hd (xs:=([0,1,1]:List Int)) (inner:= [.int .i64 0, .int .i64 1, .int .i64 1]) (ok:=fun _=>True) (okp:=fun _=>True) ?hr ?hp (fun _ hk=>hk) trivial (Below.refl _ _) (Nat.le_refl _) (by simp) ?_;(case hd=>rfl);(case hg=>rfl);(case hr=>first | (go_simp;done) | (go_simp;rfl));(case hp=>exact(Reps.one (show Kd.M (Kd.int .i64) _ _ _ 0 [.int .i64 0] from rfl) (Reps.one (show Kd.M (Kd.int .i64) _ _ _ 1 [.int .i64 1] from rfl) (Reps.one (show Kd.M (Kd.int .i64) _ _ _ 1 [.int .i64 1] from rfl) (Reps.none _ _)))));intro bE w14 aA hb hg_ hnew_;clear hg_ hnew_;(first | rw [← aT.out] at aA | (simp only [Int.reduceToNat] at aA;rw [← aT.out] at aA));replace aa:=q_ (Kd.S_elder' (so_ aa.out) (Kd.R_base aA) hb);have aq:=q_ (Kd.R_lower (Kd.R_new' aA (Kd.R_lt (ro_ af.out))) (keep_size (w:=w) (g:=g) (row:=none) hk_));replace HB:=q_ (below_step hj_ hb);replace af:=q_ (Kd.R_elder' (ro_ af.out) (Kd.R_base aA) hb);replace HI0:=q_ (IsS122.below hi_ hb);replace HK:=q_ (KeepBut.trans hk_ (KeepBut.of_below hb g none) (.inl rfl));clear hb aA;obtain⟨aK,aM,bz⟩:=Kd.R_slice aq.out;subst bz) | ((with_reducible refine gate_callee (f:=74) rfl ?_);refine gL_ 29 Tryz.func74 #[.pointer (some ⟨g,0,none⟩), .slice aK aC.length aM] ?_;(with_reducible refine(spec_l01Pick.calls g s0_0 ay az _ _ aC aD aG aH w0 _ ?aI ?aJ ?bh ?bi ?bk A11.out).mono ?_);(case aI=>exact hi_);(case aJ=>exact hj_);(case bh=>repeat (first | exact(Kd.R_reads' aq.out).2.2 | (with_reducible refine Kd.C_alloc ?_ _) | (with_reducible refine Kd.C_drewN ?_ _) | (with_reducible refine Kd.C_drew ?_)));(case bi=>exact(Kd.R_reads' aq.out).2.1);(case bk=>exact far_slice (IsS122.own_ne HI0.out aq.out (by decide)));rintro e w17 ⟨rfl,hi,hb,hk⟩;refine⟨_,rfl,?_⟩;replace aa:=q_ (Kd.S_mono (Kd.S_keep (IsS122.apartS (show IsS122 w0 _ g s0_0 ay az from hi_) (so_ aa.out) (by decide)) hk (fun _ h=>h.2)) (fun _ h=>h.1));replace af:=q_ (Kd.R_mono (Kd.R_keep (IsS122.apart (show IsS122 w0 _ g s0_0 ay az from hi_) (ro_ af.out) (by decide)) hk (fun _ h=>h.2)) (fun _ h=>h.1));replace aq:=q_ (Kd.R_mono (Kd.R_keep (IsS122.apart (show IsS122 w0 _ g s0_0 ay az from hi_) (ro_ aq.out) (by decide)) hk (fun _ h=>h.2)) (fun _ h=>h.1));replace HK:=q_ (KeepBut.trans hk_ hk (.inl rfl));replace HB:=q_ (hb);replace HI0:=q_ (hi);(try clear hb);(try clear hk);(try clear hi)) | ((with_reducible refine gate_builtin (b:= .append) (xs:= #[.tmp 23, .tmp 31]) rfl ?_);at_builtin;refine Kd.R_append (Kd.int .i64) w.heap.size rfl (.tmp 23) (.tmp 31) 24 2 (.int .i64 0) 8 rfl Tryz.underlying24 info2 rfl (by decide) (by omega) u9 ae (wrap64 (ax*aD)) [.int .i64 (wrap64 (ax*aD))] (fun k_=>some k_≠(.slice aK aC.length aM:Value).ownBlock) (fun _=>False) rfl rfl ?aP (fun _ hk=>hk.elim) ?aF ?aO (Below.refl _ _) ?aS ?aL ?_;(case aP=>exact rfl);(case aF=>exact(fun k_ hk=>Kd.fresh' (Kd.R_lt (ro_ aq.out)) k_ hk));(case aO=>exact(by(with_reducible repeat (first | apply Kd.R_alloc | apply Kd.R_drewN | apply Kd.R_drew));exact Kd.R_mono af.out (fun _ hk=>hk.2)));(case aS=>exact(keep_size (w:=w) (g:=g) (row:=none) hk_));(case aL=>have:=bf.out;omega);intro bF w18 ho hb hg hat;rw [← bg.out] at ho;replace aa:=q_ (Kd.S_after (ok:=(fun k_=>some k_≠(.slice aK aC.length aM:Value).ownBlock)) (by(with_reducible repeat (first | apply Kd.S_alloc | apply Kd.S_drewN | apply Kd.S_drew));exact Kd.S_mono aa.out (fun _ hk=>⟨hk.2,hk.1⟩)) hg hat);replace aq:=q_ (Kd.R_after (ok:=(fun _=>True)) (ro_ aq.out) hg hat);replace HB:=q_ (below_weaken hj_ HL.out hb);replace HK:=q_ (KeepBut.trans hk_ (KeepBut.of_grown hg g) (Kd.R_base2 af.out));have bq:=q_ (ho);replace HI0:=q_ (IsS122.grown hi_ hg (IsS122.own_ne HI0.out af.out (by decide)));clear af ho hb hg hat))
        go_roundg k2
        case measure=>have:=HK1.out;have:=HK2.out;omega
        case rel=>exact⟨(aW),(wrap64 (aj+1)),(aG),(aH),rs_,H',⟨by have:=HK1.out;have:=HK2.out;omega⟩,⟨by(with_reducible repeat (first | apply Kd.S_alloc | apply Kd.S_drewN | apply Kd.S_drew));exact Kd.S_mono aa.out (fun _ hk=>hk.2)⟩,⟨by(with_reducible repeat (first | apply Kd.R_alloc | apply Kd.R_drewN | apply Kd.R_drew));exact Kd.R_mono bq.out (fun _ hk=>trivial)⟩,⟨hi_⟩,⟨hk_⟩,⟨hj_⟩⟩
       ·rw [if_neg c12] at H;exact absurd H (by simp)
      ·rw [if_neg c9] at H;have c9b0:=decide_eq_false c9;clear c9
       by_cases c19:ak.length < 5864062014805
       ·rw [if_pos c19] at H;have bu:=q_ c19;clear c19;obtain⟨aX,hy⟩: ∃y_:List (List Int),y_=(ak++ [ae]):=⟨_,rfl⟩
        replace H:(spec_l01DrawM.l0 k2 a1 a2 aX (wrap64 (ai+1)) s0_0 ag ah)=some (r1,r2,r3):=hh_;have bv:=q_ hy;clear hy;have H':=q_ H;clear H;obtain⟨aY,aZ,bA⟩:=Kd.R_slice af.out;subst bA
        go_wp2_with (first | ((with_reducible refine gate_builtin (b:= .append) (xs:= #[.tmp 33, .tmp 35]) rfl ?_);at_builtin;refine Kd.S_append (Kd.slice 2 (Kd.int .i64)) w.heap.size rfl (.tmp 33) (.tmp 35) 32 24 (.slice none 0 0) 24 rfl Tryz.underlying32 info24 rfl (by decide) (by omega) u7 ak ae [.slice aY ae.length aZ] (fun _=>True) (fun k_=>some k_=(.slice aY ae.length aZ:Value).ownBlock) rfl rfl ?aP (fun k_ hk_=>((Kd.R_mono (ok':=fun k_=>((fun _=>True)) k_∧some k_≠(u7:Value).ownBlock) (Kd.R_apart' (af.out) (Kd.S_typed aa.out) (by decide)) (fun k_ hk=>⟨trivial,hk.2⟩))).1 k_ hk_.symm) ?aF ?aO (Below.refl _ _) ?aS ?aL ?_;(case aP=>exact Kd.M_row (Kd.R_mono (Kd.R_tight rfl (Kd.R_mono (ok':=fun k_=>((fun _=>True)) k_∧some k_≠(u7:Value).ownBlock) (Kd.R_apart' (af.out) (Kd.S_typed aa.out) (by decide)) (fun k_ hk=>⟨trivial,hk.2⟩))) (fun _ h_=>h_)));(case aF=>exact(fun _ _=>trivial));(case aO=>exact(by(with_reducible repeat (first | apply Kd.S_alloc | apply Kd.S_drewN | apply Kd.S_drew));exact Kd.S_mono aa.out (fun k_ hk=>⟨trivial,fun e_=>hk e_⟩)));(case aS=>exact(keep_size (w:=w) (g:=g) (row:=none) hk_));(case aL=>have:=bu.out;omega);intro bG w20 ho hb hg hat;rw [← bv.out] at ho;replace HB:=q_ (below_weaken hj_ HL.out hb);replace HK:=q_ (KeepBut.trans hk_ (KeepBut.of_grown hg g) (Kd.S_base2 aa.out));have bw:=q_ (ho);replace HI0:=q_ (IsS122.grown hi_ hg (IsS122.own_neS HI0.out aa.out (by decide)));clear aa af ho hb hg hat))
        go_roundg k2
        case measure=>have:=HK1.out;have:=HK2.out;omega
        case rel=>exact⟨(aX),(wrap64 (ai+1)),(ag),(ah),rs_,H',⟨by have:=HK1.out;have:=HK2.out;omega⟩,⟨so_ bw.out⟩,⟨hi_⟩,⟨hk_⟩,⟨hj_⟩⟩
       ·rw [if_neg c19] at H;exact absurd H (by simp)
   ·rw [if_neg c6] at H;have c6b0:=decide_eq_false c6;clear c6;simp only [Option.some.injEq,Prod.mk.injEq] at H;obtain⟨rfl,rfl,rfl⟩:=H;go_wp2
    go_ret
    exact⟨_,by first | rfl | (simp [errW_none,errW_some] <;> rfl) | (simp [*,errW_none,errW_some] <;> rfl),so_ aa.out,hi_,hj_,hk_⟩
end Go.Proofs.YthmfdplckdijdaaGreat.Pr
end
section
namespace Go.Proofs.YthmfdplckdijdaaGreat.Dr
open Go.RowKit Go.Proofs.YthmfdplckdijdaaGreatW.PrintWords Go.Proofs.YthmfdplckdijdaaGreatW.PrintLast Go.Proofs.YthmfdplckdijdaaGreatW.PrintMore Go.Proofs.YthmfdplckdijdaaGreat.Ma Go.Proofs.YthmfdplckdijdaaGreat.Pr
def Srm (w0 w:World) (g:Nat):Prop:= ∃b a h,IsS122 w0 w g b a h∧Src b a
structure Stp (w0 w:World) (g:Nat) (w':World):Prop where
 src:Srm w0 w' g
 below:Below w0.heap.size w0 w'
 keep:KeepBut w w' g none
section
variable {w0 w:World} {g:Nat} (h:Srm w0 w g) (hB:Below w0.heap.size w0 w)
include h hB
theorem next_c (n:Int):Calls Tryz.prog 36 #[.pointer (some ⟨g,0,none⟩), .int .i64 n] w fun e w'=> ∃x,e= .returned (.int .i64 x)∧(1≤n→0≤x∧x < n)∧Stp w0 w g w':=by
 obtain⟨b,a,hh,hI,hs⟩:=h
 obtain⟨x,a',h',e,p1,p2,p3⟩:=next_f hs hh n
 refine(spec_l01Next.calls g b a hh n x a' h' w0 w hI hB e).mono ?_
 rintro e w' ⟨rfl,hI',hB',hK⟩
 exact⟨x,rfl,p2,⟨b,a',h',hI',p1⟩,hB',hK⟩
theorem pick_c (A1:Option Addr) (c1:Nat) (l1:List Int) (hr1:Kd.C (Kd.int .i64) w A1 l1.length l1) (hc1:l1.length≤c1) (hf1: ∀ad,A1=some ad→0 < l1.length→ad.block≠g) (hl:1≤l1.length):Calls Tryz.prog 74 #[.pointer (some ⟨g,0,none⟩), .slice A1 l1.length c1] w fun e w'=> ∃x,e= .returned (.int .i64 x)∧x ∈ l1∧Stp w0 w g w':=by
 obtain⟨b,a,hh,hI,hs⟩:=h
 obtain⟨r,⟨k,e⟩,p1,p2⟩:=pick_ex hs hh l1 hl
 refine(spec_l01Pick.calls g b a hh A1 c1 l1 r.1 r.2.1 r.2.2 w0 w hI hB hr1 hc1 hf1 (e k (Nat.le_refl _))).mono ?_
 rintro e w' ⟨rfl,hI',hB',hK⟩
 exact⟨_,rfl,p2,⟨b,_,_,hI',p1⟩,hB',hK⟩
theorem part_c (n:Int):Calls Tryz.prog 129 #[.pointer (some ⟨g,0,none⟩), .int .i64 n] w fun e w'=> ∃x,e= .returned (.int .i64 x)∧Stp w0 w g w':=by
 obtain⟨b,a,hh,hI,hs⟩:=h
 obtain⟨x,a',h',e,p1,p2,p3⟩:=next_f hs hh (wrap64 (wrap64 (2*n)+1))
 refine(spec_l01DrawPart.calls g b a hh n _ a' h' w0 w hI hB (by unfold spec_l01DrawPart.f;rw [e];rfl)).mono ?_
 rintro e w' ⟨rfl,hI',hB',hK⟩
 exact⟨_,rfl,⟨b,a',h',hI',p1⟩,hB',hK⟩
end
theorem keep_cell {w w':World} {g:Nat} (hk:KeepBut w w' g none) {p:Addr} {v:Value} (h:w.cell? p=some v) (hp:p.block≠g):w'.cell? p=some v:=by
 have:=World.block_lt_of_cell? w _ h
 rw [← h]
 unfold World.cell?
 rw [hk.2 _ this hp (by simp)]
theorem keep_froz {w w':World} {g:Nat} (hk:KeepBut w w' g none) {p:Addr} (hl:p.block < w.heap.size) (hp:p.block≠g):w'.frozen? p=w.frozen? p:=by
 unfold World.frozen?
 rw [hk.2 _ hl hp (by simp)]
theorem Stp.refl {w0 w:World} {g:Nat} (h:Srm w0 w g) (hB:Below w0.heap.size w0 w):Stp w0 w g w:=⟨h,hB,KeepBut.refl w g none⟩
theorem Stp.trans {w0 w w1 w2:World} {g:Nat} (h:Stp w0 w g w1) (k:Stp w0 w1 g w2):Stp w0 w g w2:=⟨k.src,k.below,h.keep.trans k.keep (.inl rfl)⟩
theorem Srm.ge {w0 w:World} {g:Nat} (h:Srm w0 w g):w0.heap.size≤g:=by
 obtain⟨b,a,hh,hI,hs⟩:=h
 exact hI.ge
theorem Srm.lt {w0 w:World} {g:Nat} (h:Srm w0 w g):g < w.heap.size:=by
 obtain⟨b,a,hh,hI,hs⟩:=h
 exact hI.lt
theorem Srm.keep {w0 w w':World} {g:Nat} (h:Srm w0 w g) (e:w'.heap[g]?=w.heap[g]?):Srm w0 w' g:=by
 obtain⟨b,a,hh,⟨A0,c0,h1,h2,h3⟩,hs⟩:=h
 exact⟨b,a,hh,⟨A0,c0,e.trans h1,h2,h3⟩,hs⟩
theorem Stp.of_below {w0 w w':World} {g:Nat} (h:Srm w0 w g) (hB:Below w0.heap.size w0 w) (hb:Below w.heap.size w w'):Stp w0 w g w':=
 ⟨h.keep (hb.block g h.lt),below_then hB hB.size hb,KeepBut.of_below hb g none⟩
theorem Stp.set {w0 wE w:World} {g:Nat} (h:Stp w0 wE g w) (hE:w0.heap.size≤wE.heap.size) (b i:Nat) (v:Value) (hb:wE.heap.size≤b) (hg:b≠g):Stp w0 wE g (w.setCell ⟨b,i,none⟩ v):=
 ⟨h.src.keep (Below.heap_setCell w ⟨b,i,none⟩ v g (Ne.symm hg)),h.below.setCell (Nat.le_trans hE hb) v,⟨by simpa [World.setCell] using h.keep.1,fun j hj h1 h2=>(Below.heap_setCell w ⟨b,i,none⟩ v j (by intro e;subst e;exact absurd hb (by omega))).trans (h.keep.2 j hj h1 h2)⟩⟩
theorem drawM_ex {b:List Int} {a:Int} (hs:Src b a) (h most:Int) (n:Nat) (hn:n≤5):Ex (fun k=>spec_l01DrawM.f k b a h (n:Int) most) (fun r=>r.1.length=n∧(∀x ∈ r.1,x.length=n)∧Src b r.2.1):=by
 have loop: ∀(q i:Nat) (a h:Int) (acc:List (List Int)),i+q=n→acc.length=i→(∀x ∈ acc,x.length=n)→Src b a→Ex (fun k=>spec_l01DrawM.l0 k (n:Int) most acc (i:Int) b a h) (fun r=>r.1.length=n∧(∀x ∈ r.1,x.length=n)∧Src b r.2.1):=by
  intro q
  induction q with
  | zero=>
   intro i a h acc hi hl hx hs
   refine exstep (fun k=>by rw [spec_l01DrawM.l0]) ?_
   exact exneg (by omega) (exc rfl ⟨by show acc.length=n;omega,hx,hs⟩)
  | succ q ih=>
   intro i a h acc hi hl hx hs
   have inner: ∀(p j:Nat) (a h:Int) (row:List Int),j+p=n→row.length=j→Src b a→Ex (fun k=>spec_l01DrawM.l1 k (n:Int) most acc (i:Int) row (j:Int) b a h) (fun r=>r.1.length=n∧(∀x ∈ r.1,x.length=n)∧Src b r.2.1):=by
    intro p
    induction p with
    | zero=>
     intro j a h row hj hr hs
     refine exstep (fun k=>by rw [spec_l01DrawM.l1]) ?_
     refine exneg (by omega) (expos (by omega) ?_)
     rw [w64 (x:=(i:Int)+1) (by omega) (by omega)]
     refine ih (i+1) a h _ (by omega) (by simp;omega) (fun x hm=>?_) hs
     rcases List.mem_append.1 hm with m | m
     ·exact hx x m
     ·rw [List.mem_singleton.1 m];omega
    | succ p ihp=>
     intro j a h row hj hr hs
     refine exstep (fun k=>by rw [spec_l01DrawM.l1]) ?_
     rw [w64 (x:=(j:Int)+1) (by omega) (by omega)]
     refine expos (by omega) (exbind (P:=fun r=>Src b r.2.1) ?_ (fun r p=>exbind (pick_ex p r.2.2 _ (by decide)) (fun r2 p2=>expos (by omega) (ihp (j+1) _ _ _ (by omega) (by simp;omega) p2.1))))
     unfold spec_l01DrawPart.f
     exact exbind (next_ex hs h _) (fun r p=>exc rfl p.1)
   refine exstep (fun k=>by rw [spec_l01DrawM.l0]) ?_
   exact expos (by omega) (inner n 0 a h [] (by omega) rfl hs)
 exact loop n 0 a h [] (by omega) rfl (by simp) hs
end Go.Proofs.YthmfdplckdijdaaGreat.Dr
end
section
namespace Go.Proofs.YthmfdplckdijdaaGreat.Lt
open Go.RowKit Go.Proofs.YthmfdplckdijdaaGreatW.PrintWords Go.Proofs.YthmfdplckdijdaaGreatW.PrintMore Go.Proofs.YthmfdplckdijdaaGreat.Ma Go.Proofs.YthmfdplckdijdaaGreat.Dt Go.Proofs.YthmfdplckdijdaaGreat.Bz Go.Proofs.YthmfdplckdijdaaGreat.Lk
def evT (T:Mat) (den:Int) (r v i c:Nat):Int:=wrap64 (Int.tdiv (wrap64 (wrap64 (T i c*T r v) - wrap64 (T i v*T r c))) den)
def stA (T:Mat) (den:Int) (r v:Nat):Mat:=fun i c=>if i=r then T r c else evT T den r v i c
def stT (T:Mat) (den:Int) (r v:Nat):Mat:=fun i c=>if T r v < 0 then wrap64 (- stA T den r v i c) else stA T den r v i c
def stD (T:Mat) (r v:Nat):Int:=if T r v < 0 then wrap64 (- T r v) else T r v
def kl (T:Mat) (i k:Nat) (x y:Int):List Nat→Bool
 | []=>false
 | c::l=>if T i c*y < T k c*x then true else if T k c*x < T i c*y then false else kl T i k x y l
def cols (n m:Nat):List Nat:=(m - 1)::List.range n
def idl (n:Nat):List Int:=(List.range n).map (fun(i:Nat)=>(i:Int))
structure TS where
 T:Mat
 den:Int
 bs:List Int
def TS.step (s:TS) (r v:Nat):TS:=⟨stT s.T s.den r v,stD s.T r v,s.bs.set r (v:Int)⟩
def partner (n v:Nat):Nat:=if v < n then v+n else v - n
def tab0 (n:Nat) (M:Mat) (cv q:Nat→Int):Mat:=fun i c=>if c < n then(if c=i then 1 else 0) else if c < 2*n then - M i (c - n) else if c=2*n then - cv i else q i
def first (n:Nat) (M:Mat) (cv q:Nat→Int):TS:=⟨tab0 n M cv q,1,idl n⟩
structure Ok (n m:Nat) (A:Mat) (s:TS):Prop where
 tab:Tab n m A (fun j=>(s.bs.getD j 0).toNat) s.T s.den
 len:s.bs.length=n
 nn: ∀j,j < n→0≤s.bs.getD j 0
 lt: ∀j,j < n→(s.bs.getD j 0).toNat+1 < m
section
variable {n m:Nat} (hn:n≤5) {A:Mat} (hA:Small n m A) {s:TS} (h:Ok n m A s)
include hn hA h
theorem Ok.abs {i c:Nat} (hi:i < n) (hc:c < m): -1920000000≤s.T i c∧s.T i c≤1920000000:=h.tab.abs hn hA h.lt hi hc
theorem Ok.stE_abs {r v i c:Nat} (hr:r < n) (hv:v+1 < m) (hi:i < n) (hc:c < m): -1920000000≤stE s.T s.den r v i c∧stE s.T s.den r v i c≤1920000000:=by
 obtain⟨g,hg,_,_,_,h4⟩:=h.tab.stE_eq (v:=v) hr (by omega) hi hc
 have:=cd_abs hn hA (bs:=nupd (fun j=>(s.bs.getD j 0).toNat) r v) (fun j hj=>by unfold nupd;split;exact hv;exact h.lt j hj) (i:=i) hc
 rw [h4]
 rcases hg with rfl | rfl <;> omega
theorem Ok.stA_eq {r v i c:Nat} (hr:r < n) (hv:v+1 < m) (hi:i < n) (hc:c < m):stA s.T s.den r v i c=stE s.T s.den r v i c:=by
 unfold stA stE
 by_cases e:i=r
 ·rw [if_pos e,if_pos e]
 ·rw [if_neg e,if_neg e]
  unfold evT
  have b1:=prod_b (h.abs hn hA hi hc) (h.abs hn hA hr (c:=v) (by omega))
  have b2:=prod_b (h.abs hn hA hi (c:=v) (by omega)) (h.abs hn hA hr hc)
  have b3:=h.stE_abs hn hA hr hv hi hc
  unfold stE at b3
  rw [if_neg e] at b3
  rw [w64 (x:=s.T i c*s.T r v) (by omega) (by omega),w64 (x:=s.T i v*s.T r c) (by omega) (by omega),w64 (x:=s.T i c*s.T r v - s.T i v*s.T r c) (by omega) (by omega)]
  exact w64 (by omega) (by omega)
theorem Ok.step {r v:Nat} (hr:r < n) (hv:v+1 < m) (hp:s.T r v≠0):Ok n m A (s.step r v):=by
 have hb:=h.abs hn hA hr (c:=v) (by omega)
 have hset (j:Nat):((s.bs.set r (v:Int)).getD j 0)=if j=r then(v:Int) else s.bs.getD j 0:=by
  have hl:=h.len
  rw [List.getD_eq_getElem?_getD,List.getElem?_set]
  by_cases e:r=j
  ·subst e;rw [if_pos rfl,if_pos (by omega),if_pos rfl];rfl
  ·rw [if_neg e,if_neg (Ne.symm e),List.getD_eq_getElem?_getD]
 have hbs:(fun j=>((s.bs.set r (v:Int)).getD j 0).toNat)=nupd (fun j=>(s.bs.getD j 0).toNat) r v:=by
  funext j
  rw [hset j];unfold nupd
  split <;> simp
 refine⟨?_,by show (s.bs.set r (v:Int)).length=n;rw [List.length_set];exact h.len,fun j hj=>?_,fun j hj=>?_⟩
 ·show Tab n m A (fun j=>((s.bs.set r (v:Int)).getD j 0).toNat) (stT s.T s.den r v) (stD s.T r v)
  rw [hbs]
  have e:stD s.T r v=if s.T r v < 0 then - s.T r v else s.T r v:=by
   unfold stD
   split
   ·exact w64 (by omega) (by omega)
   ·rfl
  rw [e]
  refine h.tab.step hr (by omega) hp (fun i c hi hc=>?_)
  have b:=h.stE_abs hn hA hr hv hi hc
  unfold stT
  rw [h.stA_eq hn hA hr hv hi hc]
  split
  ·exact w64 (by omega) (by omega)
  ·rfl
 ·show 0≤(s.bs.set r (v:Int)).getD j 0
  rw [hset j]
  split
  ·omega
  ·exact h.nn j hj
 ·show ((s.bs.set r (v:Int)).getD j 0).toNat+1 < m
  rw [hset j]
  split
  ·simp;exact hv
  ·exact h.lt j hj
end
end Go.Proofs.YthmfdplckdijdaaGreat.Lt
end
section
namespace Go.Proofs.YthmfdplckdijdaaGreat.Lq
open Go.RowKit Go.Proofs.YthmfdplckdijdaaGreatW.PrintWords Go.Proofs.YthmfdplckdijdaaGreatW.PrintLast Go.Proofs.YthmfdplckdijdaaGreatW.PrintMore Go.Proofs.YthmfdplckdijdaaGreat.Pr Go.Proofs.YthmfdplckdijdaaGreat.Ma Go.Proofs.YthmfdplckdijdaaGreat.Dt Go.Proofs.YthmfdplckdijdaaGreat.Lk Go.Proofs.YthmfdplckdijdaaGreat.Lt
theorem nd_ {P:Program} {ops:Array Oper} {Q:Exit→Act→World→Prop} {md:Region.Mode} {S:World→Prop} {ds:List Nat} {fuel:Nat} {l:Array Bool} {a a':Act} {w:World} {dst:Option Tmp} {v:Value} (N:Tmp) (h:wpAnyLast P md ops Q S ds fuel l a' w) (hN:dst=some N:=by rfl) (ha:a.put (some N) v=a':=by(simp only [Act.put,List.setIfInBounds_toArray,List.set_cons_zero,List.set_cons_succ,i64_w,i32_w];rfl)):wpAnyLast P md ops Q S ds fuel l (a.put dst v) w:=by
 subst hN;rw [ha];exact h
structure Out (w w':World) (a b:Nat):Prop where
 os:w'.os=w.os
 tape:w'.tape=w.tape
 output:w'.output=w.output
 size:w.heap.size≤w'.heap.size
 same: ∀k,k < w.heap.size→k < a∨b≤k→w'.heap[k]?=w.heap[k]?
theorem Out.below {w w':World} (h:Below w.heap.size w w') (a b:Nat):Out w w' a b:=⟨h.os,h.tape,h.output,h.size,fun k hk _=>h.block k hk⟩
theorem Out.refl (w:World) (a b:Nat):Out w w a b:=⟨rfl,rfl,rfl,Nat.le_refl _,fun _ _ _=>rfl⟩
theorem Out.drew (w:World) (a b:Nat):Out w w.drew a b:=⟨rfl,rfl,rfl,Nat.le_refl _,fun _ _ _=>rfl⟩
theorem Out.trans {w w1 w2:World} {a b:Nat} (h:Out w w1 a b) (k:Out w1 w2 a b):Out w w2 a b:=
 ⟨k.os.trans h.os,k.tape.trans h.tape,k.output.trans h.output,Nat.le_trans h.size k.size,fun i hi hn=>(k.same i (Nat.lt_of_lt_of_le hi h.size) hn).trans (h.same i hi hn)⟩
theorem Out.set (w:World) {g:Nat} (i:Nat) (u:Value) {a b:Nat} (h:a≤g∧g < b):Out w (w.setCell ⟨g,i,none⟩ u) a b:=
 ⟨rfl,rfl,rfl,by simp,fun k _ hk=>Below.heap_setCell w ⟨g,i,none⟩ u k (by simp;omega)⟩
theorem Out.mono {w w':World} {a b c d:Nat} (h:Out w w' a b) (h1:c≤a) (h2:b≤d):Out w w' c d:=⟨h.os,h.tape,h.output,h.size,fun k hk hn=>h.same k hk (by omega)⟩
theorem Out.blk {w w':World} {a b g:Nat} {o:Obj} (h:Out w w' a b) (hg:w.heap[g]?=some o) (hn:g < a∨b≤g):w'.heap[g]?=some o:=(h.same g (blk_lt hg) hn).trans hg
theorem Out.cell {w w':World} {a b:Nat} (h:Out w w' a b) {p:Addr} {v:Value} (hp:w.cell? p=some v) (hn:p.block < a∨b≤p.block):w'.cell? p=some v:=by
 have:=World.block_lt_of_cell? w _ hp
 rw [← hp]
 unfold World.cell?
 rw [h.same _ this hn]
theorem Out.froz {w w':World} {a b:Nat} (h:Out w w' a b) {p:Addr} (hl:p.block < w.heap.size) (hn:p.block < a∨b≤p.block):w'.frozen? p=w.frozen? p:=by
 unfold World.frozen?
 rw [h.same _ hl hn]
def mset (M:Mat) (r c:Nat) (x:Int):Mat:=fun i j=>if i=r∧j=c then x else M i j
structure Tm (w:World) (lo hi t g gb n m cg cb:Nat) (b cp:Nat→Nat) (s:TS):Prop where
 size:hi≤w.heap.size
 tR:lo≤t∧t < hi
 gR:lo≤g∧g < hi
 bR:lo≤gb∧gb < hi
 rR: ∀j,j < n→lo≤b j∧b j < hi
 inj: ∀i j,i < n→j < n→b i=b j→i=j
 ne: ∀j,j < n→b j≠g∧b j≠t∧b j≠gb
 tg:t≠g
 tb:t≠gb
 gg:g≠gb
 cap: ∀j,j < n→m≤cp j
 len:s.bs.length=n
 nc:n≤cg∧n≤cb
 h0:w.cell? ⟨t,0,none⟩=some (.slice (some ⟨g,0,none⟩) n cg)
 h1:w.cell? ⟨t,1,none⟩=some (.int .i64 s.den)∧w.frozen? ⟨t,1,none⟩=false
 h2:w.cell? ⟨t,2,none⟩=some (.slice (some ⟨gb,0,none⟩) n cb)
 h3:w.cell? ⟨t,3,none⟩=some (.int .i64 n)
 og: ∀j,j < n→w.cell? ⟨g,j,none⟩=some (.slice (some ⟨b j,0,none⟩) m (cp j))
 ob: ∀j c,j < n→c < m→w.cell? ⟨b j,c,none⟩=some (.int .i64 (s.T j c))∧w.frozen? ⟨b j,c,none⟩=false
 oq: ∀j,j < n→w.cell? ⟨gb,j,none⟩=some (.int .i64 (s.bs.getD j 0))∧w.frozen? ⟨gb,j,none⟩=false
theorem lt_of_cell {w:World} {p:Addr} {v:Value} (h:w.cell? p=some v):p.block < w.heap.size:=World.block_lt_of_cell? w _ h
theorem cset_same {w:World} {p:Addr} {u v:Value} (h:w.cell? p=some u):(w.setCell p v).cell? p=some v:=World.cell?_setCell_same w p v h
theorem cset_other {w:World} {p q:Addr} {v:Value} (h:p≠q):(w.setCell p v).cell? q=w.cell? q:=World.cell?_setCell_other w p q v h
theorem fset {w:World} {p q:Addr} {v:Value}:(w.setCell p v).frozen? q=w.frozen? q:=World.frozen?_setCell w p q v
theorem cset_blk {w:World} {g i h j:Nat} {v:Value} (e:g≠h):(w.setCell ⟨g,i,none⟩ v).cell? ⟨h,j,none⟩=w.cell? ⟨h,j,none⟩:=cset_other (fun q=>e (congrArg Addr.block q))
theorem cset_off {w:World} {g i h j:Nat} {v:Value} (e:i≠j):(w.setCell ⟨g,i,none⟩ v).cell? ⟨h,j,none⟩=w.cell? ⟨h,j,none⟩:=cset_other (fun q=>e (congrArg Addr.off q))
theorem add_off (g i j:Nat):(⟨g,i,none⟩:Addr).add j=⟨g,i+j,none⟩:=by unfold Addr.add;split <;> simp_all
def rowN (T:Mat) (i m:Nat):List Int:=(List.range m).map (T i)
theorem rowN_len (T:Mat) (i m:Nat):(rowN T i m).length=m:=by simp [rowN]
section
variable {w w':World} {lo hi t g gb n m cg cb:Nat} {b cp:Nat→Nat} {s:TS} (h:Tm w lo hi t g gb n m cg cb b cp s)
include h
theorem Tm.mv {x y:Nat} (F:Out w w' x y) (hd:hi≤x∨y≤lo):Tm w' lo hi t g gb n m cg cb b cp s:=by
 have ht:t < x∨y≤t:=by have:=h.tR;omega
 have hg:g < x∨y≤g:=by have:=h.gR;omega
 have hq:gb < x∨y≤gb:=by have:=h.bR;omega
 have hb: ∀j,j < n→b j < x∨y≤b j:=fun j hj=>by have:=h.rR j hj;omega
 have hs:=h.size
 have sz:=F.size
 exact⟨by omega,h.tR,h.gR,h.bR,h.rR,h.inj,h.ne,h.tg,h.tb,h.gg,h.cap,h.len,h.nc,F.cell h.h0 ht,⟨F.cell h.h1.1 ht,(F.froz (lt_of_cell h.h1.1) ht).trans h.h1.2⟩,F.cell h.h2 ht,F.cell h.h3 ht,
  fun j hj=>F.cell (h.og j hj) hg,fun j c hj hc=>⟨F.cell (h.ob j c hj hc).1 (hb j hj),(F.froz (lt_of_cell (h.ob j c hj hc).1) (hb j hj)).trans (h.ob j c hj hc).2⟩,
  fun j hj=>⟨F.cell (h.oq j hj).1 hq,(F.froz (lt_of_cell (h.oq j hj).1) hq).trans (h.oq j hj).2⟩⟩
theorem Tm.congr {s':TS} (e: ∀i j,i < n→j < m→s.T i j=s'.T i j) (e2:s'.den=s.den) (e3:s'.bs=s.bs):Tm w lo hi t g gb n m cg cb b cp s':=
 ⟨h.size,h.tR,h.gR,h.bR,h.rR,h.inj,h.ne,h.tg,h.tb,h.gg,h.cap,by rw [e3];exact h.len,h.nc,h.h0,by rw [e2];exact h.h1,h.h2,h.h3,h.og,fun j c hj hc=>by rw [← e j c hj hc];exact h.ob j c hj hc,fun j hj=>by rw [e3];exact h.oq j hj⟩
theorem Tm.put {r c:Nat} (hr:r < n) (hc:c < m) (x:Int):Tm (w.setCell ⟨b r,c,none⟩ (.int .i64 x)) lo hi t g gb n m cg cb b cp ⟨mset s.T r c x,s.den,s.bs⟩:=by
 have hn:=h.ne r hr
 refine⟨by simpa using h.size,h.tR,h.gR,h.bR,h.rR,h.inj,h.ne,h.tg,h.tb,h.gg,h.cap,h.len,h.nc,(cset_blk hn.2.1).trans h.h0,⟨(cset_blk hn.2.1).trans h.h1.1,fset.trans h.h1.2⟩,(cset_blk hn.2.1).trans h.h2,(cset_blk hn.2.1).trans h.h3,fun j hj=>(cset_blk hn.1).trans (h.og j hj),fun j d hj hd=>⟨?_,fset.trans (h.ob j d hj hd).2⟩,fun j hj=>⟨(cset_blk hn.2.2).trans (h.oq j hj).1,fset.trans (h.oq j hj).2⟩⟩
 show World.cell? _ _=some (Value.int .i64 (mset s.T r c x j d))
 unfold mset
 by_cases e:j=r∧d=c
 ·obtain⟨rfl,rfl⟩:=e
  rw [if_pos ⟨rfl,rfl⟩]
  exact cset_same (h.ob j d hj hd).1
 ·rw [if_neg e,cset_other (fun q=>e ⟨(h.inj r j hr hj (congrArg Addr.block q)).symm,(congrArg Addr.off q).symm⟩)]
  exact(h.ob j d hj hd).1
theorem Tm.C {j:Nat} (hj:j < n) (k:Nat) (hk:k≤m) (hm:m≤1099511627776):Kd.C (Kd.int .i64) w (some ⟨b j,0,none⟩) (rowN s.T j k).length (rowN s.T j k):=by
 have hl:=rowN_len s.T j k
 refine⟨rfl,by rw [hl];omega,fun _=>⟨_,rfl,fun c p hp=>?_⟩⟩
 have hc:c < k:=by have:=(List.getElem?_eq_some_iff.1 hp).1;omega
 have hpe:p=s.T j c:=by
  rw [rowN,List.getElem?_map,List.getElem?_range hc] at hp
  exact(Option.some.inj hp).symm
 subst hpe
 refine⟨[.int .i64 (s.T j c)],rfl,rfl,fun u v hv=>?_⟩
 have hu:u=0:=by cases u with
  | zero=>rfl
  | succ u=>simp at hv
 subst hu
 have hv:Value.int .i64 (s.T j c)=v:=by simpa using hv
 rw [← hv]
 have e:(⟨b j,0,none⟩:Addr).add (c*(Kd.int .i64).sz+0)=⟨b j,c,none⟩:=by
  show (⟨b j,0,none⟩:Addr).add (c*1+0)=_
  rw [Nat.mul_one,Nat.add_zero,add_off];try rw [Nat.zero_add]
 rw [e];exact(h.ob j c hj (by omega)).1
end
end Go.Proofs.YthmfdplckdijdaaGreat.Lq
end
section
namespace Go.Proofs.YthmfdplckdijdaaGreat.Lq
open Go.RowKit Go.Proofs.YthmfdplckdijdaaGreatW.PrintWords Go.Proofs.YthmfdplckdijdaaGreatW.PrintLast Go.Proofs.YthmfdplckdijdaaGreatW.PrintMore Go.Proofs.YthmfdplckdijdaaGreat.Pr Go.Proofs.YthmfdplckdijdaaGreat.Ma Go.Proofs.YthmfdplckdijdaaGreat.Dt Go.Proofs.YthmfdplckdijdaaGreat.Lk Go.Proofs.YthmfdplckdijdaaGreat.Lt
structure Nt (w wr:World) (g6 n:Nat) (u0 u2:Value) (L:List (List Int)) (Q:List Int):Prop where
 below:Below w.heap.size w wr
 g:w.heap.size≤g6
 blk:wr.heap[g6]?=some (.cells #[u0, .int .i64 1,u2, .int .i64 n] 104 (0,0))
 S:Kd.S (Kd.slice 2 (Kd.int .i64)) 24 wr w.heap.size (fun _=>True) u0 L
 R:Kd.R (Kd.int .i64) 3 wr w.heap.size (fun _=>True) u2 Q
structure Nr (w wr:World) (g6 n:Nat) (u0 u2:Value) (L:List (List Int)) (Q:List Int) (v8:Value) (X:List Int):Prop where
 below:Below w.heap.size w wr
 g:w.heap.size≤g6
 blk:wr.heap[g6]?=some (.cells #[u0, .int .i64 1,u2, .int .i64 n] 104 (0,0))
 S:Kd.S (Kd.slice 2 (Kd.int .i64)) 24 wr w.heap.size (fun k=>True∧some k≠v8.ownBlock) u0 L
 R:Kd.R (Kd.int .i64) 3 wr w.heap.size (fun _=>True) u2 Q
 X:Kd.R (Kd.int .i64) 2 wr w.heap.size (fun _=>True) v8 X
section
variable {w wr w1:World} {g6 n:Nat} {u0 u2 v8 v1:Value} {L:List (List Int)} {Q X Y:List Int}
theorem Nt.mv (h:Nt w wr g6 n u0 u2 L Q) (hb:Below wr.heap.size wr w1):Nt w w1 g6 n u0 u2 L Q:=
 ⟨below_step h.below hb,h.g,blk_below h.blk hb,Kd.S_below h.S hb,Kd.R_below h.R hb⟩
theorem Nr.mv (h:Nr w wr g6 n u0 u2 L Q v8 X) (hb:Below wr.heap.size wr w1):Nr w w1 g6 n u0 u2 L Q v8 X:=
 ⟨below_step h.below hb,h.g,blk_below h.blk hb,Kd.S_below h.S hb,Kd.R_below h.R hb,Kd.R_below h.X hb⟩
theorem Nr.new (h:Nt w wr g6 n u0 u2 L Q) (hb:Below wr.heap.size wr w1) (hX:Kd.R (Kd.int .i64) 2 w1 wr.heap.size (fun _=>True) v8 X):Nr w w1 g6 n u0 u2 L Q v8 X:=
 ⟨below_step h.below hb,h.g,blk_below h.blk hb,Kd.S_elder' h.S (Kd.R_base hX) hb,Kd.R_below h.R hb,Kd.R_lower hX h.below.size⟩
theorem Nr.grow (h:Nr w wr g6 n u0 u2 L Q v8 X) (hb:Below w.heap.size w w1) (hg:wr.grownBy w1 v8.ownBlock) (hat:v1.ownBlock=v8.ownBlock∨ ∃b,v1.ownBlock=some b∧wr.heap.size≤b) (hX:Kd.R (Kd.int .i64) 2 w1 w.heap.size (fun _=>True) v1 Y):Nr w w1 g6 n u0 u2 L Q v1 Y:=
 ⟨hb,h.g,blk_grown h.blk hg (Kd.R_ne h.X h.blk (by decide)),Kd.S_after h.S hg hat,Kd.R_over' h.R (Kd.R_typed h.X) (by decide) hg,hX⟩
theorem Nr.put {g8 c l:Nat} (h:Nr w wr g6 n u0 u2 L Q (.slice (some ⟨g8,0,none⟩) l c) X) (j:Nat) (x:Int):Nr w (wr.setCell ⟨g8,j,none⟩ (.int .i64 x)) g6 n u0 u2 L Q (.slice (some ⟨g8,0,none⟩) l c) (X.set j x):=by
 have hp:=Kd.R_putg h.X (j:Int) x
 rw [Int.toNat_natCast] at hp
 exact h.grow (h.below.setCell (Kd.R_base h.X g8 (by simp [Value.ownBlock])) _) hp.2 (.inl rfl) hp.1
theorem tset (hblk:wr.heap[g6]?=some (.cells #[u0, .int .i64 1,u2, .int .i64 n] 104 (0,0))) (j:Nat) (v:Value): ∀k,k≠g6→(wr.setCell ⟨g6,j,none⟩ v).heap[k]?=wr.heap[k]?:=fun k hk=>Below.heap_setCell wr ⟨g6,j,none⟩ v k (by simp;exact hk)
theorem Nt.rows {u:Value} (hb:Below w.heap.size w wr) (hg:w.heap.size≤g6) (hblk:wr.heap[g6]?=some (.cells #[u0, .int .i64 1,u2, .int .i64 n] 104 (0,0)))
  (hS:Kd.S (Kd.slice 2 (Kd.int .i64)) 24 wr w.heap.size (fun _=>True) u L) (hR:Kd.R (Kd.int .i64) 3 wr w.heap.size (fun _=>True) u2 Q):Nt w (wr.setCell ⟨g6,0,none⟩ u) g6 n u u2 L Q:=by
 have hst:=tset hblk 0 u
 refine⟨hb.setCell hg _,hg,blk_put hblk 0 u rfl,?_,?_⟩
 ·refine Kd.S_mono (Kd.S_step (Kd.S_bound hS) (fun k hk hlt=>hst k (fun e=>?_))) (fun _ _=>trivial)
  obtain⟨_,_,_,q,hq,cells,hc⟩:=hk
  rw [e,hblk] at hc
  injection hc with hc;injection hc with _ ht _
  subst ht
  revert hq;decide
 ·refine Kd.R_mono (Kd.R_step (Kd.R_bound hR) (fun k hk hlt=>hst k (fun e=>?_))) (fun _ _=>trivial)
  obtain⟨_,_,_,q,hq,cells,hc⟩:=hk
  rw [e,hblk] at hc
  injection hc with hc;injection hc with _ ht _
  subst ht
  revert hq;decide
theorem Nt.basis {u:Value} (hb:Below w.heap.size w wr) (hg:w.heap.size≤g6) (hblk:wr.heap[g6]?=some (.cells #[u0, .int .i64 1,u2, .int .i64 n] 104 (0,0)))
  (hS:Kd.S (Kd.slice 2 (Kd.int .i64)) 24 wr w.heap.size (fun _=>True) u0 L) (hR:Kd.R (Kd.int .i64) 3 wr w.heap.size (fun _=>True) u Q):Nt w (wr.setCell ⟨g6,2,none⟩ u) g6 n u0 u L Q:=by
 have hst:=tset hblk 2 u
 refine⟨hb.setCell hg _,hg,blk_put hblk 2 u rfl,?_,?_⟩
 ·refine Kd.S_mono (Kd.S_step (Kd.S_bound hS) (fun k hk hlt=>hst k (fun e=>?_))) (fun _ _=>trivial)
  obtain⟨_,_,_,q,hq,cells,hc⟩:=hk
  rw [e,hblk] at hc
  injection hc with hc;injection hc with _ ht _
  subst ht
  revert hq;decide
 ·refine Kd.R_mono (Kd.R_step (Kd.R_bound hR) (fun k hk hlt=>hst k (fun e=>?_))) (fun _ _=>trivial)
  obtain⟨_,_,_,q,hq,cells,hc⟩:=hk
  rw [e,hblk] at hc
  injection hc with hc;injection hc with _ ht _
  subst ht
  revert hq;decide
end
def enL (l:List (List Int)):Mat:=fun i j=>(l.getD i []).getD j 0
theorem Nt.done {w wr:World} {g6 n m:Nat} {u0 u2:Value} {L:List (List Int)} {Q:List Int} (h:Nt w wr g6 n u0 u2 L Q) (hL:L.length=n) (hQ:Q.length=n) (hn:0 < n) (hm:0 < m) (hr: ∀x ∈ L,x.length=m):
  ∃g gb cg cb b cp,Tm wr w.heap.size wr.heap.size g6 g gb n m cg cb b cp ⟨enL L,1,Q⟩:=by
 subst hL
 obtain⟨g,cap,hu0,hg0,hg1,cells,hgc⟩:=Kd.S_form h.S hn
 obtain⟨gb,cb,hu2,hq0,hq1,cellsq,hqc⟩:=Kd.R_form h.R (by omega)
 have hrd:=Kd.S_reads' (hu0 ▸ h.S)
 have hrq:=Kd.R_reads' (hu2 ▸ h.R)
 have hblk:=h.blk
 obtain⟨f,h0,hO⟩:=Kd.S_bound (hu0 ▸ h.S)
 obtain⟨A,c,hv,hc,_,_,hread⟩:=hO.reads
 injection hv with hA _ _
 subst hA
 rw [List.length_zipIdx] at hread
 obtain⟨ad,had,hj⟩:=hread hn
 injection had with had
 subst had
 have key: ∀j, ∃p:Nat × Nat,j < L.length→wr.cell? ⟨g,j,none⟩=some (.slice (some ⟨p.1,0,none⟩) m p.2)∧m≤p.2∧w.heap.size≤p.1∧f p.1=j∧p.1≠g∧(∃cs,wr.heap[p.1]?=some (.cells cs 2 (0,0)))∧ ∀d,d < m→wr.cell? ⟨p.1,d,none⟩=some (.int .i64 (enL L j d))∧wr.frozen? ⟨p.1,d,none⟩=false:=by
  intro j
  by_cases hjl:j < L.length
  ·obtain⟨cs,hcs,hM,hcell⟩:=hj j (L[j],j) (Kd.zip_at (List.getElem?_eq_getElem hjl))
   obtain⟨u,rfl,hR⟩:=(show ∃u,cs= [u]∧Kd.R (Kd.int .i64) 2 wr w.heap.size _ u L[j] from hM)
   have hlen:=hr L[j] (List.getElem_mem hjl)
   obtain⟨bj,cj,rfl,hb1,hb2,cells2,hbc⟩:=Kd.R_form hR (by omega)
   have hcj:=(Kd.R_reads' hR).2.1
   have hown:=hR.1 bj (by simp [Value.ownBlock])
   refine⟨(bj,cj),fun _=>⟨?_,by simpa [hlen] using hcj,hb1,hown.2,?_,⟨_,hbc⟩,fun d hd=>?_⟩⟩
   ·have:=hcell 0 _ rfl
    have e:(⟨g,0,none⟩:Addr).add (j*(Kd.tag f (Kd.slice 2 (Kd.int .i64))).sz+0)=⟨g,j,none⟩:=by
     show (⟨g,0,none⟩:Addr).add (j*1+0)=_
     rw [Nat.mul_one,Nat.add_zero,add_off];try rw [Nat.zero_add]
    rw [e,hlen] at this
    exact this
   ·intro e
    have e:bj=g:=e
    subst e
    exact hown.1.2 (by simp [Value.ownBlock])
   ·have hat:=Kd.R_celln 0 hR (d:Int) (by omega) (by omega)
    rw [Int.toNat_natCast] at hat
    have e2:enL L j d=L[j].getD d 0:=by unfold enL;rw [List.getD_eq_getElem?_getD (l:=L),List.getElem?_eq_getElem hjl];rfl
    rw [e2]
    exact⟨by simpa [rdOf] using hat.1,hat.2⟩
  ·exact⟨(0,0),fun hh=>absurd hh hjl⟩
 obtain⟨p,hp2⟩:=Classical.skolem.1 key
 have tne: ∀ {a c:Nat} {x y:Array Value} {tx ty:TypeId},wr.heap[a]?=some (.cells x tx (0,0))→wr.heap[c]?=some (.cells y ty (0,0))→tx≠ty→a≠c:=by
  intro a c x y tx ty h1 h2 h3 e
  subst e
  rw [h1] at h2
  injection h2 with h2;injection h2 with _ h4 _
  exact h3 h4
 refine⟨g,gb,cap,cb,fun j=>(p j).1,fun j=>(p j).2,Nat.le_refl _,⟨h.g,blk_lt hblk⟩,⟨hg0,blk_lt hgc⟩,⟨hq0,blk_lt hqc⟩,fun j hj=>⟨(hp2 j hj).2.2.1,?_⟩,fun i j hi hj e=>?_,fun j hj=>?_,tne hblk hgc (by decide),tne hblk hqc (by decide),tne hgc hqc (by decide),fun j hj=>(hp2 j hj).2.1,hQ,⟨hrd.2.1,hQ ▸ hrq.2.1⟩,?_,⟨(blk_cell hblk 1).trans rfl,blk_frozen hblk 1⟩,?_,(blk_cell hblk 3).trans rfl,fun j hj=>(hp2 j hj).1,fun j d hj hd=>(hp2 j hj).2.2.2.2.2.2 d hd,fun j hj=>?_⟩
 ·obtain⟨cs,hcs⟩:=(hp2 j hj).2.2.2.2.2.1
  exact blk_lt hcs
 ·have h1:=(hp2 i hi).2.2.2.1
  have h2:=(hp2 j hj).2.2.2.1
  rw [← h1, ← h2]
  exact congrArg f e
 ·obtain⟨cs,hcs⟩:=(hp2 j hj).2.2.2.2.2.1
  exact⟨(hp2 j hj).2.2.2.2.1,tne hcs hblk (by decide),tne hcs hqc (by decide)⟩
 ·rw [← hu0];exact(blk_cell hblk 0).trans rfl
 ·rw [← hQ, ← hu2];exact(blk_cell hblk 2).trans rfl
 ·have hat:=Kd.R_celln 0 (hu2 ▸ h.R) (j:Int) (by omega) (by omega)
  rw [Int.toNat_natCast] at hat
  exact⟨by simpa [rdOf] using hat.1,hat.2⟩
end Go.Proofs.YthmfdplckdijdaaGreat.Lq
end
section
namespace Go.Proofs.YthmfdplckdijdaaGreat.Lq
open Go.RowKit Go.Proofs.YthmfdplckdijdaaGreatW.PrintWords Go.Proofs.YthmfdplckdijdaaGreatW.PrintLast Go.Proofs.YthmfdplckdijdaaGreatW.PrintMore Go.Proofs.YthmfdplckdijdaaGreat.Pr Go.Proofs.YthmfdplckdijdaaGreat.Ma Go.Proofs.YthmfdplckdijdaaGreat.Dt Go.Proofs.YthmfdplckdijdaaGreat.Lk Go.Proofs.YthmfdplckdijdaaGreat.Lt
end Go.Proofs.YthmfdplckdijdaaGreat.Lq
end
section
namespace Go.Proofs.YthmfdplckdijdaaGreat.Lq
open Go.RowKit Go.Proofs.YthmfdplckdijdaaGreatW.PrintWords Go.Proofs.YthmfdplckdijdaaGreatW.PrintLast Go.Proofs.YthmfdplckdijdaaGreatW.PrintMore Go.Proofs.YthmfdplckdijdaaGreat.Pr
end Go.Proofs.YthmfdplckdijdaaGreat.Lq
end
section
namespace Go.Proofs.YthmfdplckdijdaaGreat.Lq
open Go.RowKit Go.Proofs.YthmfdplckdijdaaGreatW.PrintWords Go.Proofs.YthmfdplckdijdaaGreatW.PrintLast Go.Proofs.YthmfdplckdijdaaGreatW.PrintMore Go.Proofs.YthmfdplckdijdaaGreat.Pr Go.Proofs.YthmfdplckdijdaaGreat.Ma Go.Proofs.YthmfdplckdijdaaGreat.Dt Go.Proofs.YthmfdplckdijdaaGreat.Lk Go.Proofs.YthmfdplckdijdaaGreat.Lt
def sgI (x:Int):Int:=if x < 0 then -1 else if x > 0 then 1 else 0
def lc (y x:Int) (p q:Int):Int:=sgI (wrap64 (wrap64 (p*y) - wrap64 (q*x)))
end Go.Proofs.YthmfdplckdijdaaGreat.Lq
end
section
namespace Go.Proofs.YthmfdplckdijdaaGreat.Lq
open Go.RowKit Go.Proofs.YthmfdplckdijdaaGreatW.PrintWords Go.Proofs.YthmfdplckdijdaaGreatW.PrintLast Go.Proofs.YthmfdplckdijdaaGreatW.PrintMore Go.Proofs.YthmfdplckdijdaaGreat.Pr Go.Proofs.YthmfdplckdijdaaGreat.Ma Go.Proofs.YthmfdplckdijdaaGreat.Dt Go.Proofs.YthmfdplckdijdaaGreat.Lk Go.Proofs.YthmfdplckdijdaaGreat.Lt
end Go.Proofs.YthmfdplckdijdaaGreat.Lq
end
section
namespace Go.Proofs.YthmfdplckdijdaaGreat.Lq
open Go.RowKit Go.Proofs.YthmfdplckdijdaaGreatW.PrintWords Go.Proofs.YthmfdplckdijdaaGreatW.PrintLast Go.Proofs.YthmfdplckdijdaaGreatW.PrintMore Go.Proofs.YthmfdplckdijdaaGreat.Pr Go.Proofs.YthmfdplckdijdaaGreat.Ma Go.Proofs.YthmfdplckdijdaaGreat.Dt Go.Proofs.YthmfdplckdijdaaGreat.Lk Go.Proofs.YthmfdplckdijdaaGreat.Lt
end Go.Proofs.YthmfdplckdijdaaGreat.Lq
end
section
namespace Go.Proofs.YthmfdplckdijdaaGreat.Lp
open Go.RowKit Go.Proofs.YthmfdplckdijdaaGreatW.PrintWords Go.Proofs.YthmfdplckdijdaaGreatW.PrintLast Go.Proofs.YthmfdplckdijdaaGreatW.PrintMore Go.Proofs.YthmfdplckdijdaaGreat.Pr Go.Proofs.YthmfdplckdijdaaGreat.Ma Go.Proofs.YthmfdplckdijdaaGreat.Dt Go.Proofs.YthmfdplckdijdaaGreat.Lk Go.Proofs.YthmfdplckdijdaaGreat.Lt Go.Proofs.YthmfdplckdijdaaGreat.Lq
structure Pt (w wr:World) (g7:Nat) (u0 u2:Value) (den:Int) (L:List (List Int)) (B:List Int):Prop where
 below:Below w.heap.size w wr
 g:w.heap.size≤g7
 blk:wr.heap[g7]?=some (.cells #[u0, .int .i64 den,u2] 107 (0,0))
 S:Kd.S (Kd.slice 2 (Kd.int .i64)) 24 wr w.heap.size (fun k=>some k≠u2.ownBlock) u0 L
 R:Kd.R (Kd.int .i64) 2 wr w.heap.size (fun _=>True) u2 B
structure Pu (w wr:World) (g7:Nat) (u0 u2:Value) (den:Int) (L:List (List Int)) (B:List Int) (v:Value) (X:List Int):Prop where
 below:Below w.heap.size w wr
 g:w.heap.size≤g7
 blk:wr.heap[g7]?=some (.cells #[u0, .int .i64 den,u2] 107 (0,0))
 S:Kd.S (Kd.slice 2 (Kd.int .i64)) 24 wr w.heap.size (fun k=>some k≠u2.ownBlock∧some k≠v.ownBlock) u0 L
 R:Kd.R (Kd.int .i64) 2 wr w.heap.size (fun k=>True∧some k≠v.ownBlock) u2 B
 X:Kd.R (Kd.int .i64) 2 wr w.heap.size (fun k=>some k≠u2.ownBlock) v X
section
variable {w wr w1:World} {g7:Nat} {u0 u2 v v1:Value} {den:Int} {L:List (List Int)} {B X Y:List Int}
theorem Pt.mv (h:Pt w wr g7 u0 u2 den L B) (hb:Below wr.heap.size wr w1):Pt w w1 g7 u0 u2 den L B:=
 ⟨below_step h.below hb,h.g,blk_below h.blk hb,Kd.S_below h.S hb,Kd.R_below h.R hb⟩
theorem Pu.mv (h:Pu w wr g7 u0 u2 den L B v X) (hb:Below wr.heap.size wr w1):Pu w w1 g7 u0 u2 den L B v X:=
 ⟨below_step h.below hb,h.g,blk_below h.blk hb,Kd.S_below h.S hb,Kd.R_below h.R hb,Kd.R_below h.X hb⟩
theorem Pu.new (h:Pt w wr g7 u0 u2 den L B) (hb:Below wr.heap.size wr w1) (hX:Kd.R (Kd.int .i64) 2 w1 wr.heap.size (fun _=>True) v X):Pu w w1 g7 u0 u2 den L B v X:=
 ⟨below_step h.below hb,h.g,blk_below h.blk hb,Kd.S_elder' h.S (Kd.R_base hX) hb,Kd.R_elder' h.R (Kd.R_base hX) hb,Kd.R_mono (Kd.R_lower (Kd.R_new' hX (Kd.R_lt h.R)) h.below.size) (fun _ hk=>hk.2)⟩
theorem Pu.grow (h:Pu w wr g7 u0 u2 den L B v X) (hb:Below w.heap.size w w1) (hg:wr.grownBy w1 v.ownBlock) (hat:v1.ownBlock=v.ownBlock∨ ∃b,v1.ownBlock=some b∧wr.heap.size≤b) (hX:Kd.R (Kd.int .i64) 2 w1 w.heap.size (fun k=>some k≠u2.ownBlock) v1 Y):Pu w w1 g7 u0 u2 den L B v1 Y:=
 ⟨hb,h.g,blk_grown h.blk hg (Kd.R_ne h.X h.blk (by decide)),Kd.S_after h.S hg hat,Kd.R_after h.R hg hat,hX⟩
theorem Pu.other (h:Pu w wr g7 u0 u2 den L B v X) (hg:wr.grownBy w1 v.ownBlock) {g:Nat} {cs:Array Value} (hblk:wr.heap[g]?=some (.cells cs 107 (0,0))):w1.heap[g]?=some (.cells cs 107 (0,0)):=blk_grown hblk hg (Kd.R_ne h.X hblk (by decide))
theorem tsetR {α:Type} {d:Kd α} {e base g t j:Nat} {ok:Nat→Prop} {W:World} {u x:Value} {xs:List α} {cs:Array Value} (h:d.R e W base ok u xs) (hg:W.heap[g]?=some (.cells cs t (0,0))) (ht: ∀q,q ∈ e::d.E→q≠t):d.R e (W.setCell ⟨g,j,none⟩ x) base ok u xs:=Kd.R_set h hg ht j x
theorem tsetS {α:Type} {d:Kd α} {e base g t j:Nat} {ok:Nat→Prop} {W:World} {u x:Value} {xs:List α} {cs:Array Value} (h:Kd.S d e W base ok u xs) (hg:W.heap[g]?=some (.cells cs t (0,0))) (ht: ∀q,q ∈ e::d.E→q≠t):Kd.S d e (W.setCell ⟨g,j,none⟩ x) base ok u xs:=
 Kd.S_mono (Kd.S_step (Kd.S_bound h) (fun k hk hlt=>Below.heap_setCell W ⟨g,j,none⟩ x k (fun e1=>by
  obtain⟨_,_,_,q,hq,cells,hc⟩:=hk
  have e2:k=g:=e1
  rw [e2,hg] at hc
  injection hc with h1
  injection h1 with _ h2 _
  exact ht q hq h2.symm))) (fun _ hk=>hk.1)
theorem Pt.rows {u:Value} (hb:Below w.heap.size w wr) (hg:w.heap.size≤g7) (hblk:wr.heap[g7]?=some (.cells #[u0, .int .i64 den,u2] 107 (0,0)))
  (hS:Kd.S (Kd.slice 2 (Kd.int .i64)) 24 wr w.heap.size (fun k=>some k≠u2.ownBlock) u L) (hR:Kd.R (Kd.int .i64) 2 wr w.heap.size (fun _=>True) u2 B):Pt w (wr.setCell ⟨g7,0,none⟩ u) g7 u u2 den L B:=
 ⟨hb.setCell hg _,hg,blk_put hblk 0 _ rfl,tsetS hS hblk (by decide),tsetR hR hblk (by decide)⟩
theorem S_put {e base n' cap i k:Nat} {W:World} {ok:Nat→Prop} {ad:Addr} {Ls:List (List Int)} {v13:Value} (h:Kd.S (Kd.slice 2 (Kd.int .i64)) e W base ok (.slice (some ad) n' cap) Ls) (hi:i < n') (hcell:W.cell? (ad.add i)=some v13) (hk:k < (Ls.getD i []).length):
  ∃g c,v13= .slice (some ⟨g,0,none⟩) (Ls.getD i []).length c∧ok g∧some g≠(Value.slice (some ad) n' cap).ownBlock∧(∃cells,W.heap[g]?=some (.cells cells 2 (0,0)))∧W.cell? ⟨g,k,none⟩=some (.int .i64 ((Ls.getD i []).getD k 0))∧W.frozen? ⟨g,k,none⟩=false∧base≤g∧
   ∀x,W.grownBy (W.setCell ⟨g,k,none⟩ (.int .i64 x)) (some g)∧Kd.S (Kd.slice 2 (Kd.int .i64)) e (W.setCell ⟨g,k,none⟩ (.int .i64 x)) base ok (.slice (some ad) n' cap) (Ls.set i ((Ls.getD i []).set k x)):=by
 obtain⟨oki,c,hcl,hM,hcc,hoki,hback⟩:=Kd.S_borrow h ([]:List Int) (i:Int) (by omega) (by omega)
 rw [Int.toNat_natCast] at hM hcc hback
 obtain⟨v,hc,hR⟩:=hM
 subst hc
 have hv:=hcc 0 v rfl
 rw [show i*(Kd.slice 2 (Kd.int .i64)).sz+0=i from by show i*1+0=i;omega,hcell] at hv
 injection hv with hv
 subst hv
 obtain⟨g,cap8,hv8,hb8,hl8,cells,hc8⟩:=Kd.R_form hR (by omega)
 have ho:v13.ownBlock=some g:=by rw [hv8];simp [Value.ownBlock]
 have hokg:=hR.1 g ho
 rw [hv8] at hR
 have hat:=Kd.R_celln 0 hR (k:Int) (by omega) (by omega)
 rw [Int.toNat_natCast] at hat
 refine⟨g,cap8,hv8,(hoki g hokg).1,(hoki g hokg).2,⟨cells,hc8⟩,by simpa [rdOf] using hat.1,hat.2,hb8,fun x=>?_⟩
 have hp:=Kd.R_putg hR (k:Int) x
 rw [Int.toNat_natCast] at hp
 refine⟨hp.2,hback hp.2 (fun q hq=>by injection hq with hq;rw [← hq];exact hokg) ⟨_,by rw [hv8],?_⟩⟩
 have e:=hp.1
 rw [show (Ls.getD i []).length=((Ls.getD i []).set k x).length from by simp] at e ⊢
 exact e
end
end Go.Proofs.YthmfdplckdijdaaGreat.Lp
end
section
namespace Go.Proofs.YthmfdplckdijdaaGreat.Dr
open Go.RowKit Go.Proofs.YthmfdplckdijdaaGreatW.PrintWords Go.Proofs.YthmfdplckdijdaaGreatW.PrintLast Go.Proofs.YthmfdplckdijdaaGreatW.PrintMore Go.Proofs.YthmfdplckdijdaaGreat.Ma Go.Proofs.YthmfdplckdijdaaGreat.Pr Go.Proofs.YthmfdplckdijdaaGreat.Lq Go.Proofs.YthmfdplckdijdaaGreat.Lp
theorem vec_C {w:World} {b n:Nat} (hn:n≤1099511627776) (f:Nat→Int) (hx: ∀k,k < n→w.cell? ⟨b,k,none⟩=some (.int .i64 (f k))):Kd.C (Kd.int .i64) w (some ⟨b,0,none⟩) ((List.range n).map f).length ((List.range n).map f):=by
 have hl:((List.range n).map f).length=n:=by simp
 refine⟨rfl,by rw [hl];omega,fun _=>⟨_,rfl,fun c p hp=>?_⟩⟩
 have hc:c < n:=by have:=(List.getElem?_eq_some_iff.1 hp).1;omega
 have hpe:p=f c:=by
  rw [List.getElem?_map,List.getElem?_range hc] at hp
  exact(Option.some.inj hp).symm
 subst hpe
 refine⟨[.int .i64 (f c)],rfl,rfl,fun u v hv=>?_⟩
 have hu:u=0:=by cases u with
  | zero=>rfl
  | succ u=>simp at hv
 subst hu
 have hv:Value.int .i64 (f c)=v:=by simpa using hv
 rw [← hv]
 have e:(⟨b,0,none⟩:Addr).add (c*(Kd.int .i64).sz+0)=⟨b,c,none⟩:=by
  show (⟨b,0,none⟩:Addr).add (c*1+0)=_
  rw [Nat.mul_one,Nat.add_zero,add_off];try rw [Nat.zero_add]
 rw [e]
 exact hx c hc
structure Dm (w:World) (lo gm n c:Nat) (b cp:Nat→Nat):Prop where
 g0:lo≤gm∧gm < w.heap.size
 cap:n≤c
 row: ∀j,j < n→w.cell? ⟨gm,j,none⟩=some (.slice (some ⟨b j,0,none⟩) n (cp j))
 rr: ∀j,j < n→lo≤b j∧b j < w.heap.size∧b j≠gm∧n≤cp j
 ints: ∀j k,j < n→k < n→(∃x,w.cell? ⟨b j,k,none⟩=some (.int .i64 x))∧w.frozen? ⟨b j,k,none⟩=false
section
variable {w w':World} {lo gm n c:Nat} {b cp:Nat→Nat} (h:Dm w lo gm n c b cp)
include h
theorem Dm.down {lo2:Nat} (hl:lo2≤lo):Dm w lo2 gm n c b cp:=⟨⟨Nat.le_trans hl h.g0.1,h.g0.2⟩,h.cap,h.row,fun j hj=>⟨Nat.le_trans hl (h.rr j hj).1,(h.rr j hj).2⟩,h.ints⟩
theorem Dm.keep {g:Nat} (hk:KeepBut w w' g none) (hg:g < lo):Dm w' lo gm n c b cp:=by
 have h0:=h.g0
 refine⟨⟨h0.1,Nat.lt_of_lt_of_le h0.2 hk.1⟩,h.cap,fun j hj=>keep_cell hk (h.row j hj) (by show gm≠g;omega),fun j hj=>?_,fun j k hj hk2=>?_⟩
 ·have:=h.rr j hj;exact⟨this.1,Nat.lt_of_lt_of_le this.2.1 hk.1,this.2.2⟩
 ·have hr:=h.rr j hj
  obtain⟨⟨x,hx⟩,hf⟩:=h.ints j k hj hk2
  exact⟨⟨x,keep_cell hk hx (by show b j≠g;omega)⟩,(keep_froz hk hr.2.1 (by show b j≠g;omega)).trans hf⟩
theorem Dm.set {d i:Nat} {v:Value} (hg:d≠gm) (hb: ∀j,j < n→d≠b j):Dm (w.setCell ⟨d,i,none⟩ v) lo gm n c b cp:=by
 have hs:(w.setCell ⟨d,i,none⟩ v).heap.size=w.heap.size:=by simp [World.setCell]
 refine⟨by rw [hs];exact h.g0,h.cap,fun j hj=>(cset_blk hg).trans (h.row j hj),fun j hj=>by rw [hs];exact h.rr j hj,fun j k hj hk=>?_⟩
 obtain⟨⟨x,hx⟩,hf⟩:=h.ints j k hj hk
 exact⟨⟨x,(cset_blk (hb j hj)).trans hx⟩,fset.trans hf⟩
theorem Dm.put {i k:Nat} (hi:i < n) (hk:k < n) (x:Int):Dm (w.setCell ⟨b i,k,none⟩ (.int .i64 x)) lo gm n c b cp:=by
 have hs:(w.setCell ⟨b i,k,none⟩ (.int .i64 x)).heap.size=w.heap.size:=by simp [World.setCell]
 refine⟨by rw [hs];exact h.g0,h.cap,fun j hj=>(cset_blk (h.rr i hi).2.2.1).trans (h.row j hj),fun j hj=>by rw [hs];exact h.rr j hj,fun j q hj hq=>?_⟩
 obtain⟨⟨y,hy⟩,hf⟩:=h.ints j q hj hq
 refine⟨?_,fset.trans hf⟩
 by_cases e:b i=b j∧k=q
 ·obtain⟨e1,rfl⟩:=e
  rw [← e1]
  obtain⟨⟨z,hz⟩,_⟩:=h.ints i k hi hk
  exact⟨x,cset_same hz⟩
 ·refine⟨y,?_⟩
  by_cases e1:b i=b j
  ·exact(cset_off (fun q2=>e ⟨e1,q2⟩)).trans hy
  ·exact(cset_blk e1).trans hy
open Classical in
theorem Dm.C (hn:n≤1000): ∃M:List (List Int),M.length=n∧(∀x ∈ M,x.length=n)∧Kd.C (Kd.slice 2 (Kd.int .i64)) w (some ⟨gm,0,none⟩) M.length M:=by
 have hx: ∀j k, ∃x:Int,j < n→k < n→w.cell? ⟨b j,k,none⟩=some (.int .i64 x):=fun j k=>by
  by_cases q:j < n∧k < n
  ·obtain⟨x,hx⟩:=(h.ints j k q.1 q.2).1
   exact⟨x,fun _ _=>hx⟩
  ·exact⟨0,fun a b=>absurd ⟨a,b⟩ q⟩
 have hf: ∃f:Nat→Nat→Int, ∀j k,j < n→k < n→w.cell? ⟨b j,k,none⟩=some (.int .i64 (f j k)):=by
  refine⟨fun j k=>Classical.choose (hx j k),fun j k=>Classical.choose_spec (hx j k)⟩
 obtain⟨f,hf⟩:=hf
 refine⟨(List.range n).map (fun j=>(List.range n).map (f j)),by simp,fun x hm=>?_,?_⟩
 ·obtain⟨j,_,rfl⟩:=List.mem_map.1 hm
  simp
 ·have hl:((List.range n).map (fun j=>(List.range n).map (f j))).length=n:=by simp
  refine⟨rfl,by rw [hl];omega,fun _=>⟨_,rfl,fun q p hp=>?_⟩⟩
  have hc:q < n:=by have:=(List.getElem?_eq_some_iff.1 hp).1;omega
  have hpe:p=(List.range n).map (f q):=by
   rw [List.getElem?_map,List.getElem?_range hc] at hp
   exact(Option.some.inj hp).symm
  subst hpe
  have hlq:((List.range n).map (f q)).length=n:=by simp
  refine⟨[.slice (some ⟨b q,0,none⟩) ((List.range n).map (f q)).length (cp q)],rfl,⟨_,_,rfl,by rw [hlq];exact(h.rr q hc).2.2.2,vec_C (by omega) (f q) (fun k hk=>hf q k hc hk)⟩,fun u v hv=>?_⟩
  have hu:u=0:=by cases u with
   | zero=>rfl
   | succ u=>simp at hv
  subst hu
  have hv:Value.slice (some ⟨b q,0,none⟩) ((List.range n).map (f q)).length (cp q)=v:=by simpa using hv
  rw [← hv,hlq]
  have e:(⟨gm,0,none⟩:Addr).add (q*(Kd.slice 2 (Kd.int .i64)).sz+0)=⟨gm,q,none⟩:=by
   show (⟨gm,0,none⟩:Addr).add (q*1+0)=_
   rw [Nat.mul_one,Nat.add_zero,add_off];try rw [Nat.zero_add]
  rw [e]
  exact h.row q hc
end
theorem S_cap {e base n' cap i:Nat} {W:World} {ok:Nat→Prop} {ad:Addr} {Ls:List (List Int)} (h:Kd.S (Kd.slice 2 (Kd.int .i64)) e W base ok (.slice (some ad) n' cap) Ls) (hi:i < n'): ∃A c,W.cell? (ad.add i)=some (.slice A (Ls.getD i []).length c)∧(Ls.getD i []).length≤c:=by
 obtain⟨oki,c,hcl,hM,hcc,_,_⟩:=Kd.S_borrow h ([]:List Int) (i:Int) (by omega) (by omega)
 rw [Int.toNat_natCast] at hM hcc
 obtain⟨v,hc,hR⟩:=hM
 subst hc
 have hv:=hcc 0 v rfl
 rw [show i*(Kd.slice 2 (Kd.int .i64)).sz+0=i from by show i*1+0=i;omega] at hv
 obtain⟨A,c,rfl⟩:=Kd.R_slice hR
 exact⟨A,c,hv,(Kd.R_reads' hR).2.1⟩
theorem Dm.of {w:World} {e base:Nat} {ok:Nat→Prop} {v:Value} {M:List (List Int)} {n:Nat} (h:Kd.S (Kd.slice 2 (Kd.int .i64)) e w base ok v M) (hM:M.length=n) (hr: ∀x ∈ M,x.length=n) (hn:0 < n): ∃gm c b cp,v= .slice (some ⟨gm,0,none⟩) n c∧Dm w base gm n c b cp∧ok gm∧ ∀j,j < n→ok (b j):=by
 obtain⟨gm,c,rfl,hb,hl,cells,hc⟩:=Kd.S_form h (by omega)
 have hcap:=(Kd.S_reads' h).2.1
 rw [hM] at hcap
 have rows: ∀j:Nat, ∃(p:Nat × Nat),j < n→w.cell? ⟨gm,j,none⟩=some (.slice (some ⟨p.1,0,none⟩) n p.2)∧base≤p.1∧p.1 < w.heap.size∧p.1≠gm∧n≤p.2∧(∀k,k < n→(∃x,w.cell? ⟨p.1,k,none⟩=some (.int .i64 x))∧w.frozen? ⟨p.1,k,none⟩=false)∧ok p.1:=fun j=>by
  by_cases hj:j < n
  ·have hlen:(M.getD j []).length=n:=by
    rw [List.getD_eq_getElem?_getD,List.getElem?_eq_getElem (by omega)]
    exact hr _ (List.getElem_mem _)
   obtain⟨A,cj,hcell,hcj⟩:=S_cap h (show j < M.length by omega)
   rw [add_off,Nat.zero_add] at hcell
   obtain⟨g1,c1,e1,o1,n1,t1,x1,f1,b1,_⟩:=S_put h (show j < M.length by omega) (by rw [add_off,Nat.zero_add];exact hcell) (show 0 < (M.getD j []).length by omega)
   rw [hlen] at e1 hcell
   rw [e1] at hcell
   injection e1 with e1a e1b e1c
   refine⟨(g1,c1),fun _=>⟨hcell,b1,lt_of_cell x1,fun q=>n1 (by rw [show g1=gm from q];simp [Value.ownBlock]),?_,fun k hk=>?_,o1⟩⟩
   ·show n≤c1
    omega
   ·obtain⟨g2,c2,e2,o2,n2,t2,x2,f2,b2,_⟩:=S_put h (show j < M.length by omega) (by rw [add_off,Nat.zero_add];exact hcell) (show k < (M.getD j []).length by omega)
    injection e2 with e3
    injection e3 with e3
    injection e3 with e3
    subst e3
    exact⟨⟨_,x2⟩,f2⟩
  ·exact⟨(0,0),fun q=>absurd q hj⟩
 obtain⟨f,hf⟩:=Classical.axiomOfChoice rows
 have hok:ok gm:=(Kd.S_R h).1 gm (by rw [hM];simp [Value.ownBlock])
 rw [hM]
 exact⟨gm,c,fun j=>(f j).1,fun j=>(f j).2,rfl,⟨⟨hb,hl⟩,hcap,fun j hj=>(hf j hj).1,fun j hj=>⟨(hf j hj).2.1,(hf j hj).2.2.1,(hf j hj).2.2.2.1,(hf j hj).2.2.2.2.1⟩,fun j k hj hk=>(hf j hj).2.2.2.2.2.1 k hk⟩,hok,fun j hj=>(hf j hj).2.2.2.2.2.2⟩
end Go.Proofs.YthmfdplckdijdaaGreat.Dr
end
section
namespace Go.Proofs.YthmfdplckdijdaaGreat.Dr
open Go.RowKit Go.Proofs.YthmfdplckdijdaaGreatW.PrintWords Go.Proofs.YthmfdplckdijdaaGreatW.PrintLast Go.Proofs.YthmfdplckdijdaaGreatW.PrintMore Go.Proofs.YthmfdplckdijdaaGreat.Ma Go.Proofs.YthmfdplckdijdaaGreat.Pr Go.Proofs.YthmfdplckdijdaaGreat.Lq
attribute [local go_sem] max2_int min2_int max_two min_two max_three min_three max_four min_four
theorem drawM_c {w0 w:World} {g:Nat} (h:Srm w0 w g) (hB:Below w0.heap.size w0 w) (n:Nat) (hn:n≤5) (hn0:0 < n) (most:Int):Calls Tryz.prog 82 #[.pointer (some ⟨g,0,none⟩), .int .i64 (n:Int), .int .i64 most] w fun e w'=> ∃gm c b cp,e= .returned (.slice (some ⟨gm,0,none⟩) n c)∧Dm w' w.heap.size gm n c b cp∧Stp w0 w g w':=by
 obtain⟨bs,a,hh,hI,hs⟩:=h
 obtain⟨r,⟨k,e⟩,p1,p2,p3⟩:=drawM_ex hs hh most n hn
 refine(spec_l01DrawM.calls k g bs a hh (n:Int) most r.1 r.2.1 r.2.2 w0 w hI hB (e k (Nat.le_refl _))).mono ?_
 rintro e w' ⟨v,rfl,hS,hI',hB',hK⟩
 obtain⟨gm,c,b,cp,rfl,hD,_⟩:=Dm.of hS p1 p2 hn0
 exact⟨gm,c,b,cp,rfl,hD,⟨⟨bs,_,_,hI',p3⟩,hB',hK⟩⟩
theorem drawP_c {w0 w:World} {g:Nat} (h:Srm w0 w g) (hB:Below w0.heap.size w0 w) (n:Nat) (hn:n≤5) (hn0:0 < n):Calls Tryz.prog 47 #[.pointer (some ⟨g,0,none⟩), .int .i64 (n:Int)] w fun e w'=> ∃gm c b cp,e= .returned (.slice (some ⟨gm,0,none⟩) n c)∧Dm w' w.heap.size gm n c b cp∧Stp w0 w g w':=by
 have HM:=q_ (drawM_c h hB n hn hn0 3);have HG:=q_ h.lt;have HE:=q_ hB.size;have HN:=q_ hn;clear h hB hn hn0
 go_enter Tryz.func47,Tryz.ntmps47
 go_wp2_with fail
 refine HM.out.mono ?_
 rintro e w1 ⟨gm,c,b,cp,rfl,hD,hS⟩;have DM:=q_ hD;have ST:=q_ hS;clear hD hS HM;go_wp2
 go_loopg [6] n (fun gg v6 wr=> ∃(i:Nat),i≤n∧n - i≤gg∧v6= .int .i64 (i:Int)∧Aside0 (Dm wr w.heap.size gm n c b cp)∧Aside0 (Stp w0 w g wr))
 case atStart=>exact⟨0,Nat.zero_le _,by omega,rfl,DM,ST⟩
 case round=>
  clear DM ST;obtain⟨i,hi',hg,rfl,DM,ST⟩:=hrel;have HGG:=q_ hg
  by_cases hlt:i < n
  ·have hltz:(i:Int) < (n:Int):=by omega
   have h0z:(0:Int)≤(i:Int):=by omega
   have hwi:IntKind.i64.wrap ((i:Int)+1)=((i+1:Nat):Int):=by rw [IntWalk.i64_in _ (by have:=HN.out;omega)];rfl
   have HWI:=q_ hwi;have HLT:=q_ hlt;have hrow:=DM.out.row i hlt;obtain⟨⟨x,hx⟩,hfx⟩:=DM.out.ints i i hlt hlt;have hr:=DM.out.rr i hlt;have DM2:=q_ (DM.out.put hlt hlt 0);have ST2:=q_ (ST.out.set HE.out (b i) i (.int .i64 0) hr.1 (by have:=HG.out;omega));have HR:=q_ hr;clear hi' hg hlt DM ST hr;go_wp2
   clear hrow hx hfx
   generalize wr.setCell ⟨b i,i,none⟩ (.int .i64 0)=w2 at*
   go_loopg [8,9] n (fun gg v8 v9 wr2=> ∃(k:Nat) (s:Int),k≤n∧n - k≤gg∧v8= .int .i64 s∧v9= .int .i64 (k:Int)∧Aside0 (Dm wr2 w.heap.size gm n c b cp)∧Aside0 (Stp w0 w g wr2))
   case atStart=>exact⟨0,1,Nat.zero_le _,by omega,rfl,rfl,DM2,ST2⟩
   case round=>
    clear DM2 ST2;obtain⟨k,s,hk',hg2,rfl,rfl,DM,ST⟩:=hrel;have HG2:=q_ hg2
    by_cases hkn:k < n
    ·have hknz:(k:Int) < (n:Int):=by omega
     have h0k:(0:Int)≤(k:Int):=by omega
     have hwk:IntKind.i64.wrap ((k:Int)+1)=((k+1:Nat):Int):=by rw [IntWalk.i64_in _ (by have:=HN.out;omega)];rfl
     have HWK:=q_ hwk;have HKN:=q_ hkn;clear hk' hg2 hkn;go_wp2
     have hb:=below_drew (Below.refl wr.heap.size wr);replace ST:=q_ (ST.out.trans (Stp.of_below ST.out.src ST.out.below hb));replace DM:=q_ (DM.out.keep (KeepBut.of_below hb g none) HG.out);obtain⟨⟨x,hx⟩,hfx⟩:=DM.out.ints i k HLT.out HKN.out;refine st_ (n:=13) (S:=fun w'=>w'.cell? ⟨b i,k,none⟩=some (.int .i64 x)) (ds:= []) hx (fun hHeld=>?_)
     clear hb hx hfx
     generalize wr.drew=w3 at DM ST hHeld ⊢
     refine pu_ 0 30 ?_;refine pu_ 1 31 ?_;refine pu_ 2 32 ?_;refine pu_ 3 33 ?_;refine pu_ 5 35 ?_;refine pu_ 6 36 ?_;refine pu_ 7 37 ?_;refine tk_ 4 34 ?_;refine tk_ 8 38 ?_;refine pu_ 9 39 ?_;refine pu_ 10 40 ?_;refine pu_ 11 41 ?_;refine pu_ 12 8 ?_
     refine done_ (by kernel_rfl) ?_
     clear hHeld;go_wp2
     all_goals (go_roundg (n - (k+1));(case measure=>have:=HG2.out;have:=HKN.out;omega);(case rel=>exact⟨k+1,_,HKN.out,by omega,rfl,by first | rfl | (rw [HWK.out]) | (simp [HWK.out]),DM,ST⟩))
    ·have hknz: ¬ (k:Int) < (n:Int):=by omega
     clear hk' hg2 hkn
     go_wp2_with fail
     refine(next_c ST.out.src ST.out.below 3).mono ?_
     rintro e w3 ⟨y,rfl,_,hS⟩;replace ST:=q_ (ST.out.trans hS);replace DM:=q_ (DM.out.keep hS.keep HG.out);obtain⟨⟨x,hx⟩,hfx⟩:=DM.out.ints i i HLT.out HLT.out;clear hS;go_wp2
     go_roundg (n - (i+1))
     case measure=>have:=HGG.out;have:=HLT.out;omega
     case rel=>exact⟨i+1,HLT.out,by omega,by first | rfl | (rw [HWI.out]) | (simp [HWI.out]),⟨DM.out.put HLT.out HLT.out _⟩,⟨ST.out.set HE.out (b i) i _ HR.out.1 (by have:=HG.out;have:=HR.out.1;omega)⟩⟩
  ·have hltz: ¬ (i:Int) < (n:Int):=by omega
   clear hi' hg hlt;go_wp2
   go_ret
   exact⟨_,_,rfl,⟨_,_,DM.out⟩,ST.out⟩
end Go.Proofs.YthmfdplckdijdaaGreat.Dr
end
section
namespace Go.Proofs.YthmfdplckdijdaaGreat.Dr
open Go.RowKit Go.Proofs.YthmfdplckdijdaaGreatW.PrintWords Go.Proofs.YthmfdplckdijdaaGreatW.PrintLast Go.Proofs.YthmfdplckdijdaaGreatW.PrintMore Go.Proofs.YthmfdplckdijdaaGreat.Ma Go.Proofs.YthmfdplckdijdaaGreat.Pr Go.Proofs.YthmfdplckdijdaaGreat.Lq
theorem lit_reps {W:World} {base:Nat} {ok:Nat→Prop}: ∀xs:List Int,Reps ((Kd.int .i64).M W base ok) (Kd.int .i64).sz xs (xs.map (fun x=>Value.int .i64 x))
 | []=>Reps.none _ _
 | x::xs=>Reps.one (show Kd.M (Kd.int .i64) _ _ _ x [.int .i64 x] from rfl) (lit_reps xs)
theorem Stp.lo {w0 wE W W1:World} {g:Nat} (h:Stp w0 wE g W) (hE:w0.heap.size≤wE.heap.size) (hg:g < wE.heap.size) (hb:Below wE.heap.size W W1):Stp w0 wE g W1:=
 ⟨h.src.keep (hb.block g hg),h.below.trans ⟨hb.os,hb.tape,hb.output,hb.size,fun i hi=>hb.block i (Nat.lt_of_lt_of_le hi hE)⟩,⟨Nat.le_trans h.keep.1 hb.size,fun i hi h1 h2=>(hb.block i hi).trans (h.keep.2 i hi h1 h2)⟩⟩
theorem Dm.grow {w w1:World} {lo gm n c:Nat} {b cp:Nat→Nat} (h:Dm w lo gm n c b cp) {row:Option Nat} (hg:w.grownBy w1 row) (hr:some gm≠row∧ ∀j,j < n→some (b j)≠row):Dm w1 lo gm n c b cp:=by
 have cell: ∀ {p:Addr} {v:Value},w.cell? p=some v→some p.block≠row→w1.cell? p=some v:=fun {p v} hp hn=>by
  have:=World.block_lt_of_cell? w _ hp
  rw [← hp];unfold World.cell?;rw [hg.block _ this hn]
 have froz: ∀ {p:Addr},p.block < w.heap.size→some p.block≠row→w1.frozen? p=w.frozen? p:=fun {p} hl hn=>by
  unfold World.frozen?;rw [hg.block _ hl hn]
 refine⟨⟨h.g0.1,Nat.lt_of_lt_of_le h.g0.2 hg.size⟩,h.cap,fun j hj=>cell (h.row j hj) hr.1,fun j hj=>?_,fun j k hj hk=>?_⟩
 ·have:=h.rr j hj;exact⟨this.1,Nat.lt_of_lt_of_le this.2.1 hg.size,this.2.2⟩
 ·obtain⟨⟨x,hx⟩,hf⟩:=h.ints j k hj hk
  exact⟨⟨x,cell hx (hr.2 j hj)⟩,(froz (h.rr j hj).2.1 (hr.2 j hj)).trans hf⟩
structure DQ (w0 w wr:World) (g g4 g5 n gm c:Nat) (b cp:Nat→Nat) (vq:Value):Prop where
 st:Stp w0 w g wr
 dm:Dm wr w.heap.size gm n c b cp
 b4:wr.heap[g4]?=some (.cells #[.slice none 0 0, .slice none 0 0] 34 (0,0))
 b5:wr.heap[g5]?=some (.cells #[.slice (some ⟨gm,0,none⟩) n c,vq] 34 (0,0))
 s4:w.heap.size≤g4∧g4≠g5∧g4≠gm∧ ∀j,j < n→g4≠b j
 s5:w.heap.size≤g5∧g5≠gm∧ ∀j,j < n→g5≠b j
 gl:g < w.heap.size
 el:w0.heap.size≤w.heap.size
def okQ (g g4 g5 n gm:Nat) (b:Nat→Nat) (k:Nat):Prop:=k≠g∧k≠g4∧k≠g5∧k≠gm∧ ∀j,j < n→k≠b j
structure DO (w0 w wr:World) (g g4 g5 n gm c:Nat) (b cp:Nat→Nat) (vq:Value) (Q:List Int):Prop where
 q:DQ w0 w wr g g4 g5 n gm c b cp vq
 rq:Kd.R (Kd.int .i64) 2 wr w.heap.size (okQ g g4 g5 n gm b) vq Q
section
variable {w0 w wr w1:World} {g g4 g5 n gm c:Nat} {b cp:Nat→Nat} {vq:Value} {Q:List Int} (h:DO w0 w wr g g4 g5 n gm c b cp vq Q)
include h
theorem DO.mv (hS:Stp w0 wr g w1):DO w0 w w1 g g4 g5 n gm c b cp vq Q:=by
 have h4:=h.q.s4;have h5:=h.q.s5;have hg:=h.q.gl
 exact⟨⟨h.q.st.trans hS,h.q.dm.keep hS.keep hg,hS.keep.blk h.q.b4 (by omega) (by simp),hS.keep.blk h.q.b5 (by omega) (by simp),h.q.s4,h.q.s5,h.q.gl,h.q.el⟩,Kd.R_keep h.rq hS.keep (fun k hk=>hk.1)⟩
theorem DO.below (hb:Below wr.heap.size wr w1):DO w0 w w1 g g4 g5 n gm c b cp vq Q:=h.mv (Stp.of_below h.q.st.src h.q.st.below hb)
theorem DO.put {j k:Nat} (hj:j < n) (hk:k < n) (x:Int):DO w0 w (wr.setCell ⟨b j,k,none⟩ (.int .i64 x)) g g4 g5 n gm c b cp vq Q:=by
 have h4:=h.q.s4;have h5:=h.q.s5;have hg:=h.q.gl;have hr:=h.q.dm.rr j hj
 exact⟨⟨h.q.st.set h.q.el (b j) k _ hr.1 (by omega),h.q.dm.put hj hk x,(Below.heap_setCell wr ⟨b j,k,none⟩ _ g4 (h4.2.2.2 j hj)).trans h.q.b4,(Below.heap_setCell wr ⟨b j,k,none⟩ _ g5 (h5.2.2 j hj)).trans h.q.b5,h4,h5,hg,h.q.el⟩,Kd.R_far h.rq (p:=⟨b j,k,none⟩) (fun q hq=>hq.2.2.2.2 j hj) _⟩
theorem DO.fresh (k:Nat) (hk:wr.heap.size≤k):okQ g g4 g5 n gm b k:=by
 have l4:=blk_lt h.q.b4;have l5:=blk_lt h.q.b5;have hg:=h.q.gl;have hs:=h.q.st.keep.1;have hm:=h.q.dm.g0
 exact⟨by omega,by omega,by omega,by omega,fun j hj=>by have:=(h.q.dm.rr j hj).2.1;omega⟩
theorem DO.grow (hg:wr.grownBy w1 vq.ownBlock) (hb:Below w.heap.size wr w1):DQ w0 w w1 g g4 g5 n gm c b cp vq:=by
 have hn: ∀k, ¬ okQ g g4 g5 n gm b k→some k≠vq.ownBlock:=fun k hk e=>hk (h.rq.1 k e.symm)
 refine⟨h.q.st.lo h.q.el h.q.gl hb,h.q.dm.grow hg ⟨hn _ (fun q=>q.2.2.2.1 rfl),fun j hj=>hn _ (fun q=>q.2.2.2.2 j hj rfl)⟩,blk_grown h.q.b4 hg (hn _ (fun q=>q.2.1 rfl)),blk_grown h.q.b5 hg (hn _ (fun q=>q.2.2.1 rfl)),h.q.s4,h.q.s5,h.q.gl,h.q.el⟩
end
theorem DQ.store {w0 w w1:World} {g g4 g5 n gm c:Nat} {b cp:Nat→Nat} {vq v1:Value} {Q:List Int} (h:DQ w0 w w1 g g4 g5 n gm c b cp vq) (hr:Kd.R (Kd.int .i64) 2 w1 w.heap.size (okQ g g4 g5 n gm b) v1 Q):DO w0 w (w1.setCell ⟨g5,1,none⟩ v1) g g4 g5 n gm c b cp v1 Q:=by
 have h4:=h.s4;have h5:=h.s5;have hg:=h.gl
 exact⟨⟨h.st.set h.el g5 1 _ h5.1 (by omega),h.dm.set h5.2.1 (fun j hj=>h5.2.2 j hj),(Below.heap_setCell w1 ⟨g5,1,none⟩ _ g4 h4.2.1).trans h.b4,blk_put h.b5 1 v1 rfl,h4,h5,hg,h.el⟩,Kd.R_far hr (p:=⟨g5,1,none⟩) (fun q hq=>hq.2.2.1) _⟩
theorem DO.new {w0 w w1 w2 w3:World} {g g4 g5 n gm c:Nat} {b cp:Nat→Nat} {vq:Value} {Q:List Int} (hE:w0.heap.size≤w.heap.size) (hg:g < w.heap.size) (h4:w.heap.size≤g4) (hl4:g4 < w1.heap.size) (st:Stp w0 w g w1) (hw1:w.heap.size≤w1.heap.size) (hS:Stp w0 w1 g w2) (dm:Dm w2 w1.heap.size gm n c b cp) (b4:w1.heap[g4]?=some (.cells #[.slice none 0 0, .slice none 0 0] 34 (0,0))) (hb:Below w2.heap.size w2 w3) (hr:Kd.R (Kd.int .i64) 2 w3 w2.heap.size (fun _=>True) vq Q) (h5:w2.heap.size≤g5) (hbox:w3.heap[g5]?=some (.cells #[.slice none 0 0, .slice none 0 0] 34 (0,0))) (hq5: ∀k,vq.ownBlock=some k→k≠g5):
  DO w0 w ((w3.setCell ⟨g5,0,none⟩ (.slice (some ⟨gm,0,none⟩) n c)).setCell ⟨g5,1,none⟩ vq) g g4 g5 n gm c b cp vq Q:=by
 have s2:=hS.keep.1
 have ge:=fun k hk=>Kd.R_base hr k hk
 have hS3:Stp w0 w g w3:=(st.trans hS).trans (Stp.of_below hS.src hS.below hb)
 have dm3:=(dm.keep (KeepBut.of_below hb g none) (by omega)).down hw1
 have g0:=dm.g0
 have rr:=dm.rr
 have e5:g5≠gm∧ ∀j,j < n→g5≠b j:=⟨by omega,fun j hj=>by have:=rr j hj;omega⟩
 have e4:g4≠g5∧g4≠gm∧ ∀j,j < n→g4≠b j:=⟨by omega,by omega,fun j hj=>by have:=rr j hj;omega⟩
 have b43:=blk_below (hS.keep.blk b4 (by omega) (by simp)) hb
 have hok:Kd.R (Kd.int .i64) 2 w3 w.heap.size (okQ g g4 g5 n gm b) vq Q:=by
  refine Kd.R_lower (Kd.R_mono (Kd.R_tight rfl hr) (fun k hk=>?_)) (by omega)
  have:=ge k hk.symm
  exact⟨by omega,by omega,hq5 k hk.symm,by omega,fun j hj=>by have:=rr j hj;omega⟩
 refine⟨⟨(hS3.set hE g5 0 _ (by omega) (by omega)).set hE g5 1 _ (by omega) (by omega),(dm3.set e5.1 e5.2).set e5.1 e5.2,?_,blk_put (blk_put hbox 0 _ rfl) 1 _ rfl,⟨h4,e4⟩,⟨by omega,e5⟩,hg,hE⟩,?_⟩
 ·exact(Below.heap_setCell _ ⟨g5,1,none⟩ _ g4 e4.1).trans ((Below.heap_setCell w3 ⟨g5,0,none⟩ _ g4 e4.1).trans b43)
 ·exact Kd.R_far (Kd.R_far hok (p:=⟨g5,0,none⟩) (fun q hq=>hq.2.2.1) _) (p:=⟨g5,1,none⟩) (fun q hq=>hq.2.2.1) _
theorem DO.rows {w0 w wr w2:World} {g g4 g5 n gm c gm2 c2:Nat} {b cp b2 cp2:Nat→Nat} {vq:Value} {Q:List Int} (h:DO w0 w wr g g4 g5 n gm c b cp vq Q) (hS:Stp w0 wr g w2) (hd:Dm w2 wr.heap.size gm2 n c2 b2 cp2):DO w0 w (w2.setCell ⟨g5,0,none⟩ (.slice (some ⟨gm2,0,none⟩) n c2)) g g4 g5 n gm2 c2 b2 cp2 vq Q:=by
 have hm:=h.mv hS
 have h4:=h.q.s4;have h5:=h.q.s5;have hg:=h.q.gl
 have l4:=blk_lt h.q.b4
 have l5:=blk_lt h.q.b5
 have hk:=h.q.st.keep.1
 have old:Kd.R (Kd.int .i64) 2 w2 w.heap.size (okQ g g4 g5 n gm2 b2) vq Q:=by
  refine Kd.R_mono (Kd.R_tight rfl hm.rq) (fun k hk=>?_)
  have ho:=h.rq.1 k hk.symm
  have hl:=Kd.R_lt h.rq k hk.symm
  refine⟨ho.1,ho.2.1,ho.2.2.1,?_,fun j hj=>?_⟩
  ·have:=hd.g0.1;omega
  ·have:=(hd.rr j hj).1;omega
 have dq:DQ w0 w (w2.setCell ⟨g5,0,none⟩ (.slice (some ⟨gm2,0,none⟩) n c2)) g g4 g5 n gm2 c2 b2 cp2 vq:=by
  have hd5:g5≠gm2∧ ∀j,j < n→g5≠b2 j:=⟨by have:=hd.g0.1;omega,fun j hj=>by have:=(hd.rr j hj).1;omega⟩
  have hset:=hd.set (d:=g5) (i:=0) (v:= .slice (some ⟨gm2,0,none⟩) n c2) hd5.1 hd5.2
  refine⟨hm.q.st.set h.q.el g5 0 _ h5.1 (by omega),⟨⟨Nat.le_trans hk hset.g0.1,hset.g0.2⟩,hset.cap,hset.row,fun j hj=>?_,hset.ints⟩,(Below.heap_setCell w2 ⟨g5,0,none⟩ _ g4 h4.2.1).trans hm.q.b4,blk_put hm.q.b5 0 _ rfl,⟨h4.1,h4.2.1,by have:=hd.g0.1;omega,fun j hj=>by have:=(hd.rr j hj).1;omega⟩,⟨h5.1,hd5⟩,hg,h.q.el⟩
  have:=hset.rr j hj
  exact⟨Nat.le_trans hk this.1,this.2⟩
 exact⟨dq,Kd.R_far old (p:=⟨g5,0,none⟩) (fun q hq=>hq.2.2.1) _⟩
end Go.Proofs.YthmfdplckdijdaaGreat.Dr
end
