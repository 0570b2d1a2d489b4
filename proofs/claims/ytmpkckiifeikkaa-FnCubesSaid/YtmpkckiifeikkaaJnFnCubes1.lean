/- Texts of one claim (the words of the kit's print that the claim uses, printed functions, and this session's own texts), joined in the order of their imports by this session's own program (merge.py). -/
import Derived.Test.YtmpkckiifeikkaaJnFnCubes0
set_option linter.unusedVariables false
set_option linter.unusedSimpArgs false
set_option maxHeartbeats 8000000
set_option maxRecDepth 100000
section
namespace Go.Proofs.Ytmpkckiifeikkaa.Pr
open Go.RowKit Go.Proofs.YtmpkckiifeikkaaW.PrintWords Go.Proofs.YtmpkckiifeikkaaW.PrintLast Go.Proofs.YtmpkckiifeikkaaW.PrintMore
attribute [local go_sem] max2_int min2_int max_two min_two max_three min_three max_four min_four
mutual
def spec_l06DrawOf.l0:Nat→Int→Int→List Int→Int→Int→Int→List Int→Option (Int × List Int × Int × Int)
 | 0,_,_,_,_,_,_,_=>none
 | k+1,x1,x6,af,ag,ah,ae,aa=>if x6 < (aa.length:Int) then(spec_l06DrawOf.l1 k x1 x6 0 af ag ah ae aa) else(some (ae,aa,ag,ah))
def spec_l06DrawOf.l1:Nat→Int→Int→Int→List Int→Int→Int→Int→List Int→Option (Int × List Int × Int × Int)
 | 0,_,_,_,_,_,_,_,_=>none
 | k+1,x1,x6,x7,af,ag,ah,ae,aa=>if x7 < x1 then(if 0≤(IntKind.u64.wrap (x7)) then(if(Go.bits .and .i64 x6 (shl .i64 1 (IntKind.u64.wrap (x7))))=0 then((spec_l01Next.f af ag ah 2).bind fun ak=>(if ak.1=0 then(if 0≤x6 then(if x6 < (aa.length:Int) then(spec_l06DrawOf.l1 k x1 x6 (wrap64 (x7+1)) af ak.2.1 ak.2.2 ae (aa.set (x6:Int).toNat (Go.bits .or .i64 (rd aa x6) (shl .i64 1 (IntKind.u64.wrap (x7)))))) else(none)) else(none)) else(if 0≤(Go.bits .or .i64 x6 (shl .i64 1 (IntKind.u64.wrap (x7)))) then(if(Go.bits .or .i64 x6 (shl .i64 1 (IntKind.u64.wrap (x7)))) < (aa.length:Int) then(spec_l06DrawOf.l1 k x1 x6 (wrap64 (x7+1)) af ak.2.1 ak.2.2 ae (aa.set ((Go.bits .or .i64 x6 (shl .i64 1 (IntKind.u64.wrap (x7)))):Int).toNat (Go.bits .or .i64 (rd aa (Go.bits .or .i64 x6 (shl .i64 1 (IntKind.u64.wrap (x7))))) (shl .i64 1 (IntKind.u64.wrap (x7)))))) else(none)) else(none)))) else(spec_l06DrawOf.l1 k x1 x6 (wrap64 (x7+1)) af ag ah ae aa)) else(none)) else(spec_l06DrawOf.l0 k x1 (wrap64 (x6+1)) af ag ah ae aa)
def spec_l06DrawOf.l2:Nat→Int→Int→List Int→Int→Int→Int→List Int→Option (Int × List Int × Int × Int)
 | 0,_,_,_,_,_,_,_=>none
 | k+1,x1,x9,af,ag,ah,ae,aa=>if x9 < (aa.length:Int) then(spec_l06DrawOf.l3 k x1 x9 0 af ag ah ae aa) else(some (ae,aa,ag,ah))
def spec_l06DrawOf.l3:Nat→Int→Int→Int→List Int→Int→Int→Int→List Int→Option (Int × List Int × Int × Int)
 | 0,_,_,_,_,_,_,_,_=>none
 | k+1,x1,x9,x10,af,ag,ah,ae,aa=>if x10 < x1 then(if 0≤(IntKind.u64.wrap (x10)) then((spec_l01Ones.f k (shr .i64 x9 (IntKind.u64.wrap (x10)))).bind fun av=>(if(Int.tmod av 2)=0 then(if 0≤x9 then(if x9 < (aa.length:Int) then(spec_l06DrawOf.l3 k x1 x9 (wrap64 (x10+1)) af ag ah ae (aa.set (x9:Int).toNat (Go.bits .or .i64 (rd aa x9) (shl .i64 1 (IntKind.u64.wrap (x10)))))) else(none)) else(none)) else(spec_l06DrawOf.l3 k x1 x9 (wrap64 (x10+1)) af ag ah ae aa))) else(none)) else(spec_l06DrawOf.l2 k x1 (wrap64 (x9+1)) af ag ah ae aa)
def spec_l06DrawOf.l4:Nat→Int→Int→Int→List Int→Int→Int→Int→List Int→Option (Int × List Int × Int × Int)
 | 0,_,_,_,_,_,_,_,_=>none
 | k+1,x1,x11,x12,af,ag,ah,ae,aa=>if x12 < (aa.length:Int) then(if 0≤x12 then(spec_l06DrawOf.l4 k x1 x11 (wrap64 (x12+1)) af ag ah ae (aa.set (x12:Int).toNat (Go.bits .xor .i64 x12 x11))) else(none)) else((spec_l01Next.f af ag ah 4).bind fun aq=>(spec_l06DrawOf.l5 k x1 aq.1 af aq.2.1 aq.2.2 ae aa))
def spec_l06DrawOf.l5:Nat→Int→Int→List Int→Int→Int→Int→List Int→Option (Int × List Int × Int × Int)
 | 0,_,_,_,_,_,_,_=>none
 | k+1,x1,x13,af,ag,ah,ae,aa=>if x13 > 0 then((spec_l01Next.f af ag ah (aa.length:Int)).bind fun ai=>((spec_l01Next.f af ai.2.1 ai.2.2 x1).bind fun aj=>(if 0≤(IntKind.u64.wrap (aj.1)) then(if 0≤ai.1 then(if ai.1 < (aa.length:Int) then((some (aa.set (ai.1:Int).toNat (Go.bits .xor .i64 (rd aa ai.1) (shl .i64 1 (IntKind.u64.wrap (aj.1)))):List Int)).bind fun au=>(if 0≤(Go.bits .xor .i64 ai.1 (shl .i64 1 (IntKind.u64.wrap (aj.1)))) then(if(Go.bits .xor .i64 ai.1 (shl .i64 1 (IntKind.u64.wrap (aj.1)))) < (aa.length:Int) then(spec_l06DrawOf.l5 k x1 (wrap64 (x13 - 1)) af aj.2.1 aj.2.2 ae (au.set ((Go.bits .xor .i64 ai.1 (shl .i64 1 (IntKind.u64.wrap (aj.1)))):Int).toNat (Go.bits .xor .i64 (rd au (Go.bits .xor .i64 ai.1 (shl .i64 1 (IntKind.u64.wrap (aj.1))))) (shl .i64 1 (IntKind.u64.wrap (aj.1)))))) else(none)) else(none))) else(none)) else(none)) else(none)))) else(some (ae,aa,ag,ah))
end
def spec_l06DrawOf.f (k:Nat) (s0_0:List Int) (s0_1:Int) (s0_2:Int) (a1:Int):Option (Int × List Int × Int × Int):=if 0≤(IntKind.u64.wrap (a1)) then(if 0≤(shl .i64 1 (IntKind.u64.wrap (a1))) then(if(shl .i64 1 (IntKind.u64.wrap (a1)):Int).toNat≤35184372088832 then((some (List.replicate (shl .i64 1 (IntKind.u64.wrap (a1)):Int).toNat 0:List Int)).bind fun ae=>((spec_l01Next.f s0_0 s0_1 s0_2 4).bind fun aa=>(if aa.1=0 then(spec_l06DrawOf.l0 k a1 0 s0_0 aa.2.1 aa.2.2 a1 ae) else(if aa.1=1 then(spec_l06DrawOf.l2 k a1 0 s0_0 aa.2.1 aa.2.2 a1 ae) else((spec_l01Next.f s0_0 aa.2.1 aa.2.2 (ae.length:Int)).bind fun af=>(spec_l06DrawOf.l4 k a1 af.1 0 s0_0 af.2.1 af.2.2 a1 ae)))))) else(none)) else(none)) else(none)
theorem spec_l06DrawOf.mono_l: ∀k,(∀y0 y1 y2 y3 y4 y5 y6,LeO (spec_l06DrawOf.l0 k y0 y1 y2 y3 y4 y5 y6) (spec_l06DrawOf.l0 (k+1) y0 y1 y2 y3 y4 y5 y6))∧(∀y0 y1 y2 y3 y4 y5 y6 y7,LeO (spec_l06DrawOf.l1 k y0 y1 y2 y3 y4 y5 y6 y7) (spec_l06DrawOf.l1 (k+1) y0 y1 y2 y3 y4 y5 y6 y7))∧(∀y0 y1 y2 y3 y4 y5 y6,LeO (spec_l06DrawOf.l2 k y0 y1 y2 y3 y4 y5 y6) (spec_l06DrawOf.l2 (k+1) y0 y1 y2 y3 y4 y5 y6))∧(∀y0 y1 y2 y3 y4 y5 y6 y7,LeO (spec_l06DrawOf.l3 k y0 y1 y2 y3 y4 y5 y6 y7) (spec_l06DrawOf.l3 (k+1) y0 y1 y2 y3 y4 y5 y6 y7))∧(∀y0 y1 y2 y3 y4 y5 y6 y7,LeO (spec_l06DrawOf.l4 k y0 y1 y2 y3 y4 y5 y6 y7) (spec_l06DrawOf.l4 (k+1) y0 y1 y2 y3 y4 y5 y6 y7))∧(∀y0 y1 y2 y3 y4 y5 y6,LeO (spec_l06DrawOf.l5 k y0 y1 y2 y3 y4 y5 y6) (spec_l06DrawOf.l5 (k+1) y0 y1 y2 y3 y4 y5 y6))
 | 0=>⟨fun _ _ _ _ _ _ _ r h=>by simp [spec_l06DrawOf.l0] at h,fun _ _ _ _ _ _ _ _ r h=>by simp [spec_l06DrawOf.l1] at h,fun _ _ _ _ _ _ _ r h=>by simp [spec_l06DrawOf.l2] at h,fun _ _ _ _ _ _ _ _ r h=>by simp [spec_l06DrawOf.l3] at h,fun _ _ _ _ _ _ _ _ r h=>by simp [spec_l06DrawOf.l4] at h,fun _ _ _ _ _ _ _ r h=>by simp [spec_l06DrawOf.l5] at h⟩
 | k+1=>by
  obtain⟨ih0,ih1,ih2,ih3,ih4,ih5⟩:=spec_l06DrawOf.mono_l k
  refine⟨?_,?_,?_,?_,?_,?_⟩
  ·intro y0 y1 y2 y3 y4 y5 y6
   unfold spec_l06DrawOf.l0
   repeat' first
   | (with_reducible exact ih0 _ _ _ _ _ _ _)
   | (with_reducible exact ih1 _ _ _ _ _ _ _ _)
   | (with_reducible exact ih2 _ _ _ _ _ _ _)
   | (with_reducible exact ih3 _ _ _ _ _ _ _ _)
   | (with_reducible exact ih4 _ _ _ _ _ _ _ _)
   | (with_reducible exact ih5 _ _ _ _ _ _ _)
   | (with_reducible exact spec_l01Ones.mono _ _)
   | (with_reducible exact LeO.refl _)
   | (with_reducible exact LeO.none _)
   | (with_reducible refine LeO.ite ?_ ?_)
   | (with_reducible refine LeO.bind ?_ (fun _=>?_))
   | exact ih0 _ _ _ _ _ _ _
   | exact ih1 _ _ _ _ _ _ _ _
   | exact ih2 _ _ _ _ _ _ _
   | exact ih3 _ _ _ _ _ _ _ _
   | exact ih4 _ _ _ _ _ _ _ _
   | exact ih5 _ _ _ _ _ _ _
   | exact spec_l01Ones.mono _ _
   | exact LeO.none _
   | refine LeO.ite ?_ ?_
   | refine LeO.bind ?_ (fun _=>?_)
  ·intro y0 y1 y2 y3 y4 y5 y6 y7
   unfold spec_l06DrawOf.l1
   repeat' first
   | (with_reducible exact ih0 _ _ _ _ _ _ _)
   | (with_reducible exact ih1 _ _ _ _ _ _ _ _)
   | (with_reducible exact ih2 _ _ _ _ _ _ _)
   | (with_reducible exact ih3 _ _ _ _ _ _ _ _)
   | (with_reducible exact ih4 _ _ _ _ _ _ _ _)
   | (with_reducible exact ih5 _ _ _ _ _ _ _)
   | (with_reducible exact spec_l01Ones.mono _ _)
   | (with_reducible exact LeO.refl _)
   | (with_reducible exact LeO.none _)
   | (with_reducible refine LeO.ite ?_ ?_)
   | (with_reducible refine LeO.bind ?_ (fun _=>?_))
   | exact ih0 _ _ _ _ _ _ _
   | exact ih1 _ _ _ _ _ _ _ _
   | exact ih2 _ _ _ _ _ _ _
   | exact ih3 _ _ _ _ _ _ _ _
   | exact ih4 _ _ _ _ _ _ _ _
   | exact ih5 _ _ _ _ _ _ _
   | exact spec_l01Ones.mono _ _
   | exact LeO.none _
   | refine LeO.ite ?_ ?_
   | refine LeO.bind ?_ (fun _=>?_)
  ·intro y0 y1 y2 y3 y4 y5 y6
   unfold spec_l06DrawOf.l2
   repeat' first
   | (with_reducible exact ih0 _ _ _ _ _ _ _)
   | (with_reducible exact ih1 _ _ _ _ _ _ _ _)
   | (with_reducible exact ih2 _ _ _ _ _ _ _)
   | (with_reducible exact ih3 _ _ _ _ _ _ _ _)
   | (with_reducible exact ih4 _ _ _ _ _ _ _ _)
   | (with_reducible exact ih5 _ _ _ _ _ _ _)
   | (with_reducible exact spec_l01Ones.mono _ _)
   | (with_reducible exact LeO.refl _)
   | (with_reducible exact LeO.none _)
   | (with_reducible refine LeO.ite ?_ ?_)
   | (with_reducible refine LeO.bind ?_ (fun _=>?_))
   | exact ih0 _ _ _ _ _ _ _
   | exact ih1 _ _ _ _ _ _ _ _
   | exact ih2 _ _ _ _ _ _ _
   | exact ih3 _ _ _ _ _ _ _ _
   | exact ih4 _ _ _ _ _ _ _ _
   | exact ih5 _ _ _ _ _ _ _
   | exact spec_l01Ones.mono _ _
   | exact LeO.none _
   | refine LeO.ite ?_ ?_
   | refine LeO.bind ?_ (fun _=>?_)
  ·intro y0 y1 y2 y3 y4 y5 y6 y7
   unfold spec_l06DrawOf.l3
   repeat' first
   | (with_reducible exact ih0 _ _ _ _ _ _ _)
   | (with_reducible exact ih1 _ _ _ _ _ _ _ _)
   | (with_reducible exact ih2 _ _ _ _ _ _ _)
   | (with_reducible exact ih3 _ _ _ _ _ _ _ _)
   | (with_reducible exact ih4 _ _ _ _ _ _ _ _)
   | (with_reducible exact ih5 _ _ _ _ _ _ _)
   | (with_reducible exact spec_l01Ones.mono _ _)
   | (with_reducible exact LeO.refl _)
   | (with_reducible exact LeO.none _)
   | (with_reducible refine LeO.ite ?_ ?_)
   | (with_reducible refine LeO.bind ?_ (fun _=>?_))
   | exact ih0 _ _ _ _ _ _ _
   | exact ih1 _ _ _ _ _ _ _ _
   | exact ih2 _ _ _ _ _ _ _
   | exact ih3 _ _ _ _ _ _ _ _
   | exact ih4 _ _ _ _ _ _ _ _
   | exact ih5 _ _ _ _ _ _ _
   | exact spec_l01Ones.mono _ _
   | exact LeO.none _
   | refine LeO.ite ?_ ?_
   | refine LeO.bind ?_ (fun _=>?_)
  ·intro y0 y1 y2 y3 y4 y5 y6 y7
   unfold spec_l06DrawOf.l4
   repeat' first
   | (with_reducible exact ih0 _ _ _ _ _ _ _)
   | (with_reducible exact ih1 _ _ _ _ _ _ _ _)
   | (with_reducible exact ih2 _ _ _ _ _ _ _)
   | (with_reducible exact ih3 _ _ _ _ _ _ _ _)
   | (with_reducible exact ih4 _ _ _ _ _ _ _ _)
   | (with_reducible exact ih5 _ _ _ _ _ _ _)
   | (with_reducible exact spec_l01Ones.mono _ _)
   | (with_reducible exact LeO.refl _)
   | (with_reducible exact LeO.none _)
   | (with_reducible refine LeO.ite ?_ ?_)
   | (with_reducible refine LeO.bind ?_ (fun _=>?_))
   | exact ih0 _ _ _ _ _ _ _
   | exact ih1 _ _ _ _ _ _ _ _
   | exact ih2 _ _ _ _ _ _ _
   | exact ih3 _ _ _ _ _ _ _ _
   | exact ih4 _ _ _ _ _ _ _ _
   | exact ih5 _ _ _ _ _ _ _
   | exact spec_l01Ones.mono _ _
   | exact LeO.none _
   | refine LeO.ite ?_ ?_
   | refine LeO.bind ?_ (fun _=>?_)
  ·intro y0 y1 y2 y3 y4 y5 y6
   unfold spec_l06DrawOf.l5
   repeat' first
   | (with_reducible exact ih0 _ _ _ _ _ _ _)
   | (with_reducible exact ih1 _ _ _ _ _ _ _ _)
   | (with_reducible exact ih2 _ _ _ _ _ _ _)
   | (with_reducible exact ih3 _ _ _ _ _ _ _ _)
   | (with_reducible exact ih4 _ _ _ _ _ _ _ _)
   | (with_reducible exact ih5 _ _ _ _ _ _ _)
   | (with_reducible exact spec_l01Ones.mono _ _)
   | (with_reducible exact LeO.refl _)
   | (with_reducible exact LeO.none _)
   | (with_reducible refine LeO.ite ?_ ?_)
   | (with_reducible refine LeO.bind ?_ (fun _=>?_))
   | exact ih0 _ _ _ _ _ _ _
   | exact ih1 _ _ _ _ _ _ _ _
   | exact ih2 _ _ _ _ _ _ _
   | exact ih3 _ _ _ _ _ _ _ _
   | exact ih4 _ _ _ _ _ _ _ _
   | exact ih5 _ _ _ _ _ _ _
   | exact spec_l01Ones.mono _ _
   | exact LeO.none _
   | refine LeO.ite ?_ ?_
   | refine LeO.bind ?_ (fun _=>?_)
theorem spec_l06DrawOf.mono: ∀a0 a1 a2 a3 k,LeO (spec_l06DrawOf.f k a0 a1 a2 a3) (spec_l06DrawOf.f (k+1) a0 a1 a2 a3):=by
 intro a0 a1 a2 a3 k
 obtain⟨ih0,ih1,ih2,ih3,ih4,ih5⟩:=spec_l06DrawOf.mono_l k
 unfold spec_l06DrawOf.f
 repeat' first
   | (with_reducible exact ih0 _ _ _ _ _ _ _)
   | (with_reducible exact ih1 _ _ _ _ _ _ _ _)
   | (with_reducible exact ih2 _ _ _ _ _ _ _)
   | (with_reducible exact ih3 _ _ _ _ _ _ _ _)
   | (with_reducible exact ih4 _ _ _ _ _ _ _ _)
   | (with_reducible exact ih5 _ _ _ _ _ _ _)
   | (with_reducible exact spec_l01Ones.mono _ _)
   | (with_reducible exact LeO.refl _)
   | (with_reducible exact LeO.none _)
   | (with_reducible refine LeO.ite ?_ ?_)
   | (with_reducible refine LeO.bind ?_ (fun _=>?_))
   | exact ih0 _ _ _ _ _ _ _
   | exact ih1 _ _ _ _ _ _ _ _
   | exact ih2 _ _ _ _ _ _ _
   | exact ih3 _ _ _ _ _ _ _ _
   | exact ih4 _ _ _ _ _ _ _ _
   | exact ih5 _ _ _ _ _ _ _
   | exact spec_l01Ones.mono _ _
   | exact LeO.none _
   | refine LeO.ite ?_ ?_
   | refine LeO.bind ?_ (fun _=>?_)
def spec_l06DrawOf.T12:Bool × List (List Nat × List Nat):=(true, [([], []),([0], [0]),([], []),([], []),([3], [3]),([], []),([4,5], [4,5]),([6], [6]),([], []),([7,8], [7,8]),([1,2,0,1,2,3,4,5,6,7,8,9], [1,2]),([10,9,0,1,2,3,4,5,6,7,8,9], [9,10])])
def spec_l06DrawOf.B12:List Nat:= [0,1,0,0,8,0,56,120,0,504,1023,2047]
theorem spec_l06DrawOf.tab12:rtab .any (opsOf Try.f172 12)=spec_l06DrawOf.T12:=by kernel_rfl
theorem spec_l06DrawOf.bits12:waitsOk spec_l06DrawOf.T12.2 spec_l06DrawOf.B12=true:=by kernel_rfl
def spec_l06DrawOf.T13:Bool × List (List Nat × List Nat):=(true, [([], []),([0], [0]),([], []),([], []),([2,3], [2,3]),([], []),([5], [5]),([], []),([], []),([7,8], [7,8]),([6,9], [6,9]),([10], [10]),([], []),([11,12], [11,12]),([1,4,0,1,2,3,4,5,6,7,8,9,10,11,12,13], [1,4]),([14,13,0,1,2,3,4,5,6,7,8,9,10,11,12,13], [13,14])])
def spec_l06DrawOf.B13:List Nat:= [0,1,0,0,12,0,32,0,0,384,992,2016,0,8160,16383,32767]
theorem spec_l06DrawOf.tab13:rtab .any (opsOf Try.f172 13)=spec_l06DrawOf.T13:=by kernel_rfl
theorem spec_l06DrawOf.bits13:waitsOk spec_l06DrawOf.T13.2 spec_l06DrawOf.B13=true:=by kernel_rfl
def spec_l06DrawOf.T24:Bool × List (List Nat × List Nat):=(true, [([], []),([0], [0]),([], []),([], []),([3], [3]),([], []),([4,5], [4,5]),([6], [6]),([], []),([7,8], [7,8]),([1,2,0,1,2,3,4,5,6,7,8,9], [1,2]),([10,9,0,1,2,3,4,5,6,7,8,9], [9,10])])
def spec_l06DrawOf.B24:List Nat:= [0,1,0,0,8,0,56,120,0,504,1023,2047]
theorem spec_l06DrawOf.tab24:rtab .any (opsOf Try.f172 24)=spec_l06DrawOf.T24:=by kernel_rfl
theorem spec_l06DrawOf.bits24:waitsOk spec_l06DrawOf.T24.2 spec_l06DrawOf.B24=true:=by kernel_rfl
def spec_l06DrawOf.T25:Bool × List (List Nat × List Nat):=(true, [([], []),([0], [0]),([], []),([], []),([2,3], [2,3]),([], []),([5], [5]),([], []),([], []),([7,8], [7,8]),([6,9], [6,9]),([10], [10]),([], []),([11,12], [11,12]),([1,4,0,1,2,3,4,5,6,7,8,9,10,11,12,13], [1,4]),([14,13,0,1,2,3,4,5,6,7,8,9,10,11,12,13], [13,14])])
def spec_l06DrawOf.B25:List Nat:= [0,1,0,0,12,0,32,0,0,384,992,2016,0,8160,16383,32767]
theorem spec_l06DrawOf.tab25:rtab .any (opsOf Try.f172 25)=spec_l06DrawOf.T25:=by kernel_rfl
theorem spec_l06DrawOf.bits25:waitsOk spec_l06DrawOf.T25.2 spec_l06DrawOf.B25=true:=by kernel_rfl
def spec_l06DrawOf.T34:Bool × List (List Nat × List Nat):=(true, [([], []),([0], [0]),([], []),([], []),([3], [3]),([], []),([4,5], [4,5]),([6], [6]),([], []),([8], [8]),([9], [9]),([7,10], [7,10]),([1,2,0,1,2,3,4,5,6,7,8,9,10,11], [1,2]),([12,11,0,1,2,3,4,5,6,7,8,9,10,11], [11,12])])
def spec_l06DrawOf.B34:List Nat:= [0,1,0,0,8,0,56,120,0,256,768,2040,4095,8191]
theorem spec_l06DrawOf.tab34:rtab .any (opsOf Try.f172 34)=spec_l06DrawOf.T34:=by kernel_rfl
theorem spec_l06DrawOf.bits34:waitsOk spec_l06DrawOf.T34.2 spec_l06DrawOf.B34=true:=by kernel_rfl
theorem spec_l06DrawOf.calls (k:Nat) (g:Nat) (s0_0:List Int) (s0_1:Int) (s0_2:Int) (a1:Int) (r1:Int) (r2:List Int) (r3:Int) (r4:Int) (w0 w:World) (hI:IsS168 w0 w g s0_0 s0_1 s0_2) (hB:Below w0.heap.size w0 w) (h:spec_l06DrawOf.f k s0_0 s0_1 s0_2 a1=some (r1,r2,r3,r4)):
  Calls Try.prog 172 #[.pointer (some ⟨g,0,none⟩), .int .i64 a1] w fun e w'=> ∃v1_:Value,e= .returned (.agg #[.int .i64 r1,v1_])∧Kd.R (Kd.int .i64) 2 w' w.heap.size (fun _=>True) v1_ r2∧IsS168 w0 w' g s0_0 r3 r4∧Below w0.heap.size w0 w'∧KeepBut w w' g none:=by
 have hu64:=Try.underlying64
 have HI0:=Aside0.mk hI
 have HK:=Aside0.mk (KeepBut.refl w g none)
 have HL:=Aside0.mk hB.size
 clear hI
 have HW0:=Aside0.mk hB.size
 have HB:=Aside0.mk hB
 clear hB
 have H:(if 0≤(IntKind.u64.wrap (a1)) then(if 0≤(shl .i64 1 (IntKind.u64.wrap (a1))) then(if(shl .i64 1 (IntKind.u64.wrap (a1)):Int).toNat≤35184372088832 then((some (List.replicate (shl .i64 1 (IntKind.u64.wrap (a1)):Int).toNat 0:List Int)).bind fun aG=>((spec_l01Next.f s0_0 s0_1 s0_2 4).bind fun aA=>(if aA.1=0 then(spec_l06DrawOf.l0 k a1 0 s0_0 aA.2.1 aA.2.2 a1 aG) else(if aA.1=1 then(spec_l06DrawOf.l2 k a1 0 s0_0 aA.2.1 aA.2.2 a1 aG) else((spec_l01Next.f s0_0 aA.2.1 aA.2.2 (aG.length:Int)).bind fun aU=>(spec_l06DrawOf.l4 k a1 aU.1 0 s0_0 aU.2.1 aU.2.2 a1 aG)))))) else(none)) else(none)) else(none))=some (r1,r2,r3,r4):=h
 clear h
 obtain⟨ji3,hji3⟩: ∃j_:Int,(IntKind.u64.wrap (a1))=j_:=⟨_,rfl⟩
 replace H:(if 0≤(ji3) then(if 0≤(shl .i64 1 (ji3)) then(if(shl .i64 1 (ji3):Int).toNat≤35184372088832 then((some (List.replicate (shl .i64 1 (ji3):Int).toNat 0:List Int)).bind fun aG=>((spec_l01Next.f s0_0 s0_1 s0_2 4).bind fun aA=>(if aA.1=0 then(spec_l06DrawOf.l0 k a1 0 s0_0 aA.2.1 aA.2.2 a1 aG) else(if aA.1=1 then(spec_l06DrawOf.l2 k a1 0 s0_0 aA.2.1 aA.2.2 a1 aG) else((spec_l01Next.f s0_0 aA.2.1 aA.2.2 (aG.length:Int)).bind fun aU=>(spec_l06DrawOf.l4 k a1 aU.1 0 s0_0 aU.2.1 aU.2.2 a1 aG)))))) else(none)) else(none)) else(none))=some (r1,r2,r3,r4):=by first | (rw [hji3] at H;exact H) | (simp only [hji3] at H ⊢;exact H)
 by_cases c4:0≤(ji3)
 ·rw [if_pos c4] at H
  have c4b0:=eq_true c4
  have c4b1:decide (0≤(ji3))=true:=decide_eq_true c4
  clear c4
  obtain⟨ji5,hji5⟩: ∃j_:Int,(shl .i64 1 (ji3))=j_:=⟨_,rfl⟩
  replace H:(if 0≤(ji5) then(if(ji5:Int).toNat≤35184372088832 then((some (List.replicate (ji5:Int).toNat 0:List Int)).bind fun aG=>((spec_l01Next.f s0_0 s0_1 s0_2 4).bind fun aA=>(if aA.1=0 then(spec_l06DrawOf.l0 k a1 0 s0_0 aA.2.1 aA.2.2 a1 aG) else(if aA.1=1 then(spec_l06DrawOf.l2 k a1 0 s0_0 aA.2.1 aA.2.2 a1 aG) else((spec_l01Next.f s0_0 aA.2.1 aA.2.2 (aG.length:Int)).bind fun aU=>(spec_l06DrawOf.l4 k a1 aU.1 0 s0_0 aU.2.1 aU.2.2 a1 aG)))))) else(none)) else(none))=some (r1,r2,r3,r4):=by first | (rw [hji5] at H;exact H) | (simp only [hji5] at H ⊢;exact H)
  have hji5_:(IntKind.i64.wrap (1*2 ^ min (ji3).toNat 64))=ji5:=hji5
  have hji5z:(ji3)≤64→(IntKind.i64.wrap (1*2 ^ (ji3).toNat))=ji5:=shl_small hji5
  have hji5u:(IntKind.i64.wrap (2 ^ min (ji3).toNat 64))=ji5:=by have h_:=hji5_;rw [Int.one_mul] at h_;exact h_
  have hji5v:(ji3)≤64→(IntKind.i64.wrap (2 ^ (ji3).toNat))=ji5:=fun hle_=>by have h_:=hji5z hle_;rw [Int.one_mul] at h_;exact h_
  have hji5y:(wrap64 (1*2 ^ min (ji3).toNat 64))=ji5:=(i64_w _).symm.trans hji5_
  have hji5x:(ji3)≤64→(wrap64 (1*2 ^ (ji3).toNat))=ji5:=fun h_=>(i64_w _).symm.trans (hji5z h_)
  by_cases c6:0≤(ji5)
  ·rw [if_pos c6] at H
   have c6b0:=eq_true c6
   have c6b1:decide (0≤(ji5))=true:=decide_eq_true c6
   clear c6
   by_cases c7:(ji5:Int).toNat≤35184372088832
   ·rw [if_pos c7] at H
    have c7b0:=eq_true c7
    have c7b1:decide ((ji5:Int).toNat≤35184372088832)=true:=decide_eq_true c7
    clear c7
    obtain⟨aG,hy844⟩: ∃y_:List Int,y_=(List.replicate (ji5:Int).toNat 0):=⟨_,rfl⟩
    replace H:((spec_l01Next.f s0_0 s0_1 s0_2 4).bind fun aA=>(if aA.1=0 then(spec_l06DrawOf.l0 k a1 0 s0_0 aA.2.1 aA.2.2 a1 aG) else(if aA.1=1 then(spec_l06DrawOf.l2 k a1 0 s0_0 aA.2.1 aA.2.2 a1 aG) else((spec_l01Next.f s0_0 aA.2.1 aA.2.2 (aG.length:Int)).bind fun aU=>(spec_l06DrawOf.l4 k a1 aU.1 0 s0_0 aU.2.1 aU.2.2 a1 aG)))))=some (r1,r2,r3,r4):=by first | (rw [hy844];with_reducible exact H) | (have H2_:=(Option.bind_some _ _).symm.trans H;rw [hy844];with_reducible exact H2_) | (have H2_:=(Option.bind_some _ _).symm.trans H;with_reducible exact H2_) | with_reducible exact H | (rw [hy844];exact H) | exact H
    have bK:=Aside0.mk hy844
    clear hy844
    replace H:=Option.bind_eq_some_iff.mp H
    obtain⟨⟨bg,aW,aX⟩,A80,H⟩:=H
    replace H:(if bg=0 then(spec_l06DrawOf.l0 k a1 0 s0_0 aW aX a1 aG) else(if bg=1 then(spec_l06DrawOf.l2 k a1 0 s0_0 aW aX a1 aG) else((spec_l01Next.f s0_0 aW aX (aG.length:Int)).bind fun aU=>(spec_l06DrawOf.l4 k a1 aU.1 0 s0_0 aU.2.1 aU.2.2 a1 aG))))=some (r1,r2,r3,r4):=H
    have A8:=Aside0.mk A80
    clear A80
    by_cases c9:bg=0
    ·rw [if_pos c9] at H
     have c9b0:(bg==0)=true:=beq_iff_eq.mpr c9
     have c9b1:(bg !=0)=false:=bne_eq_false_iff_eq.mpr c9
     clear c9
     have H':=Aside0.mk H
     clear H
     go_enter Try.func172,Try.ntmps172
     go_wp2_with (first | ((with_reducible refine gate_dst (N:=4) rfl ?_);refine box_event ?hg (N:=4) ?hd (cs:= #[.int .i64 0, .slice none 0 0]) (t:=64) ?hr ?_;(case hd=>rfl);(case hg=>rfl);(case hr=>first | (go_simp;done) | (go_simp;rfl));intro av hg w10 hbox hb;replace HB:=Aside0.mk (below_step (by repeat (first | (with_reducible first | exact HB.out | apply below_alloc | apply pw_below_drewN | apply below_drew1 | refine below_set ?_ (IsS168.ge HI0.out)) | exact HB.out)) hb);have ag:=Aside0.mk (hbox);have ax:=Aside0.mk ((by rw [hg];exact(keep_size (w:=w) (g:=g) (row:=none) (by repeat (first | (with_reducible first | exact HK.out | apply KeepBut.set_ | apply keep_drewN | apply keep_drew | apply keep_alloc) | exact HK.out))):w.heap.size≤av));have az:=Aside0.mk ((Nat.le_trans HW0.out (by rw [hg];exact(keep_size (w:=w) (g:=g) (row:=none) (by repeat (first | (with_reducible first | exact HK.out | apply KeepBut.set_ | apply keep_drewN | apply keep_drew | apply keep_alloc) | exact HK.out))):w.heap.size≤av):w0.heap.size≤av));have ai:=Aside0.mk ((by rw [hg];exact Nat.ne_of_lt (IsS168.lt (show IsS168 w0 _ g s0_0 s0_1 s0_2 from by repeat (first | (with_reducible first | exact HI0.out | apply IsS168.alloc | apply IsS168.drewN | apply IsS168.drew | apply IsS168.set_1 | apply IsS168.set_2) | exact HI0.out))):g≠av));have aT:=Aside0.mk ((by rw [hg];exact Nat.ne_of_gt (IsS168.lt (show IsS168 w0 _ g s0_0 s0_1 s0_2 from by repeat (first | (with_reducible first | exact HI0.out | apply IsS168.alloc | apply IsS168.drewN | apply IsS168.drew | apply IsS168.set_1 | apply IsS168.set_2) | exact HI0.out))):av≠g));replace HI0:=Aside0.mk (IsS168.below (by repeat (first | (with_reducible first | exact HI0.out | apply IsS168.alloc | apply IsS168.drewN | apply IsS168.drew | apply IsS168.set_1 | apply IsS168.set_2) | exact HI0.out)) hb);replace HK:=Aside0.mk (KeepBut.trans (by repeat (first | (with_reducible first | exact HK.out | apply KeepBut.set_ | apply keep_drewN | apply keep_drew | apply keep_alloc) | exact HK.out)) (KeepBut.of_below hb g none) (.inl rfl));clear hb hbox hg) | ((with_reducible refine gate_dst (N:=20) rfl ?_);refine Kd.R_make (Kd.int .i64) _ 2 rfl (N:=20) rfl 23 _ _ rfl ji5 rfl rfl Try.underlying23 (.int .i64 0) 8 info2 rfl (by decide) (by omega) 0 (ok:=fun _=>True) (okp:=fun _=>True) rfl (fun _ hk=>hk) trivial od_ (Nat.le_trans (Nat.mul_le_mul_right _ (od_:ji5.toNat≤35184372088832)) (by omega)) (Below.refl _ _) (Nat.le_refl _) ?_;intro dM w11 ct hb hg_ hnew_;clear hg_ hnew_;(first | rw [← bK.out] at ct | (simp only [Int.reduceToNat] at ct;rw [← bK.out] at ct));have aN:=Aside0.mk (Kd.R_lower ct (keep_size (w:=w) (g:=g) (row:=none) (by repeat (first | (with_reducible first | exact HK.out | apply KeepBut.set_ | apply keep_drewN | apply keep_drew | apply keep_alloc | refine keep_far ?_ ax.out _) | exact HK.out))));replace ag:=Aside0.mk (bb_ ag.out hb);replace HB:=Aside0.mk (below_step (by repeat (first | (with_reducible first | exact HB.out | apply below_alloc | apply pw_below_drewN | apply below_drew1 | refine below_set ?_ (IsS168.ge HI0.out) | refine below_set ?_ az.out) | exact HB.out)) hb);replace HI0:=Aside0.mk (IsS168.below (by repeat (first | (with_reducible first | exact HI0.out | apply IsS168.alloc | apply IsS168.drewN | apply IsS168.drew | apply IsS168.set_1 | apply IsS168.set_2 | refine IsS168.far ?_ ai.out _) | exact HI0.out)) hb);replace HK:=Aside0.mk (KeepBut.trans (by repeat (first | (with_reducible first | exact HK.out | apply KeepBut.set_ | apply keep_drewN | apply keep_drew | apply keep_alloc | refine keep_far ?_ ax.out _) | exact HK.out)) (KeepBut.of_below hb g none) (.inl rfl));clear hb ct;obtain⟨cZ,da,eP⟩:=Kd.R_slice aN.out;subst eP) | ((with_reducible refine gate_dst (N:=5) rfl ?_);refine box_event ?hg (N:=5) ?hd (cs:= #[.int .i64 0, .slice none 0 0]) (t:=64) ?hr ?_;(case hd=>rfl);(case hg=>rfl);(case hr=>first | (go_simp;done) | (go_simp;rfl));intro ah hg w14 hbox hb;replace aN:=Aside0.mk (rb_ aN.out hb);replace HB:=Aside0.mk (below_step (by repeat (first | (with_reducible first | exact HB.out | apply below_alloc | apply pw_below_drewN | apply below_drew1 | refine below_set ?_ (IsS168.ge HI0.out) | refine below_set ?_ az.out) | exact HB.out)) hb);have af:=Aside0.mk (hbox);have aD:=Aside0.mk ((by rw [hg];exact(keep_size (w:=w) (g:=g) (row:=none) (by repeat (first | (with_reducible first | exact HK.out | apply KeepBut.set_ | apply keep_drewN | apply keep_drew | apply keep_alloc | refine keep_far ?_ ax.out _) | exact HK.out))):w.heap.size≤ah));have aI:=Aside0.mk ((Nat.le_trans HW0.out (by rw [hg];exact(keep_size (w:=w) (g:=g) (row:=none) (by repeat (first | (with_reducible first | exact HK.out | apply KeepBut.set_ | apply keep_drewN | apply keep_drew | apply keep_alloc | refine keep_far ?_ ax.out _) | exact HK.out))):w.heap.size≤ah):w0.heap.size≤ah));have aC:=Aside0.mk ((by rw [hg];exact lt_ ag.out:av≠ah));have aM:=Aside0.mk ((by rw [hg];exact gt_ ag.out:ah≠av));have aj:=Aside0.mk ((by rw [hg];exact Nat.ne_of_lt (IsS168.lt (show IsS168 w0 _ g s0_0 s0_1 s0_2 from by repeat (first | (with_reducible first | exact HI0.out | apply IsS168.alloc | apply IsS168.drewN | apply IsS168.drew | apply IsS168.set_1 | apply IsS168.set_2 | refine IsS168.far ?_ ai.out _) | exact HI0.out))):g≠ah));have aH:=Aside0.mk ((by rw [hg];exact Nat.ne_of_gt (IsS168.lt (show IsS168 w0 _ g s0_0 s0_1 s0_2 from by repeat (first | (with_reducible first | exact HI0.out | apply IsS168.alloc | apply IsS168.drewN | apply IsS168.drew | apply IsS168.set_1 | apply IsS168.set_2 | refine IsS168.far ?_ ai.out _) | exact HI0.out))):ah≠g));replace HI0:=Aside0.mk (IsS168.below (by repeat (first | (with_reducible first | exact HI0.out | apply IsS168.alloc | apply IsS168.drewN | apply IsS168.drew | apply IsS168.set_1 | apply IsS168.set_2 | refine IsS168.far ?_ ai.out _) | exact HI0.out)) hb);replace ag:=Aside0.mk (bb_ ag.out hb);replace HK:=Aside0.mk (KeepBut.trans (by repeat (first | (with_reducible first | exact HK.out | apply KeepBut.set_ | apply keep_drewN | apply keep_drew | apply keep_alloc | refine keep_far ?_ ax.out _) | exact HK.out)) (KeepBut.of_below hb g none) (.inl rfl));clear hb hbox hg;have fU:=aM.out;have fV:=aC.out;have fW:=aH.out;have fZ:=aj.out;have bn:w14.cell? ⟨ah,0,none⟩=some (.int .i64 0):=(blk_cell af.out 0).trans rfl;have bq:w14.cell? ⟨ah,1,none⟩=some (.slice none 0 0):=(blk_cell af.out 1).trans rfl;have bu:=blk_frozen af.out 0;have bv:=blk_frozen af.out 1) | ((with_reducible refine gate_callee (f:=100) rfl ?_);refine gL_ 23 Try.func100 #[.pointer (some ⟨g,0,none⟩), .int .i64 4] ?_;(with_reducible refine(spec_l01Next.calls g s0_0 s0_1 s0_2 4 bg aW aX w0 _ ?aY ?aZ A8.out).mono ?_);(case aY=>repeat (first | (with_reducible first | exact HI0.out | apply IsS168.alloc | apply IsS168.drewN | apply IsS168.drew | apply IsS168.set_1 | apply IsS168.set_2 | refine IsS168.far ?_ ai.out _ | refine IsS168.far ?_ aj.out _) | exact HI0.out));(case aZ=>repeat (first | (with_reducible first | exact HB.out | apply below_alloc | apply pw_below_drewN | apply below_drew1 | refine below_set ?_ (IsS168.ge HI0.out) | refine below_set ?_ az.out | refine below_set ?_ aI.out) | exact HB.out));rintro e w18 ⟨rfl,hi,hb,hk⟩;refine⟨_,rfl,?_⟩;replace ag:=Aside0.mk (KeepBut.blk hk (g':=av) (o:= .cells #[.int .i64 0, .slice none 0 0] 64 (0,0)) (by(with_reducible repeat (first | refine blk_drewN ?_ _ | refine blk_drew ?_ | refine blk_alloc ?_ _));refine blk_far ?_ aC.out _;(with_reducible repeat (first | refine blk_drewN ?_ _ | refine blk_drew ?_ | refine blk_alloc ?_ _));refine blk_far ?_ aC.out _;(with_reducible repeat (first | refine blk_drewN ?_ _ | refine blk_drew ?_ | refine blk_alloc ?_ _));exact ag.out) aT.out (by simp));replace aN:=Aside0.mk (Kd.R_mono (Kd.R_keep (IsS168.apart (show IsS168 w0 _ g s0_0 s0_1 s0_2 from by repeat (first | (with_reducible first | exact HI0.out | apply IsS168.alloc | apply IsS168.drewN | apply IsS168.drew | apply IsS168.set_1 | apply IsS168.set_2 | refine IsS168.far ?_ ai.out _ | refine IsS168.far ?_ aj.out _) | exact HI0.out)) (by(with_reducible repeat (first | apply Kd.R_alloc | apply Kd.R_drewN | apply Kd.R_drew));exact(Kd.R_mono (Kd.R_far (p:=⟨ah,1,none⟩) (Kd.R_far (p:=⟨ah,0,none⟩) (Kd.R_types aN.out af.out (by decide)) (fun _ hk=>hk.2) (.int .i64 a1)) (fun _ hk=>hk.2) (.slice cZ aG.length da)) (fun _ h_=>h_.1))) (by decide)) hk (fun _ h=>h.2)) (fun _ h=>h.1));replace HK:=Aside0.mk (KeepBut.trans (by repeat (first | (with_reducible first | exact HK.out | apply KeepBut.set_ | apply keep_drewN | apply keep_drew | apply keep_alloc | refine keep_far ?_ ax.out _ | refine keep_far ?_ aD.out _) | exact HK.out)) hk (.inl rfl));replace HB:=Aside0.mk (hb);replace af:=Aside0.mk (KeepBut.blk hk (g':=ah) (o:= .cells #[.int .i64 a1, .slice cZ aG.length da] 64 (0,0)) (by(with_reducible repeat (first | refine blk_drewN ?_ _ | refine blk_drew ?_ | refine blk_alloc ?_ _));refine blk_put (cs:= #[.int .i64 a1, .slice none 0 0]) ?_ 1 _ rfl;(with_reducible repeat (first | refine blk_drewN ?_ _ | refine blk_drew ?_ | refine blk_alloc ?_ _));refine blk_put (cs:= #[.int .i64 0, .slice none 0 0]) ?_ 0 _ rfl;(with_reducible repeat (first | refine blk_drewN ?_ _ | refine blk_drew ?_ | refine blk_alloc ?_ _));exact af.out) aH.out (by simp));replace HI0:=Aside0.mk (hi);(try clear hb);(try clear hb2);(try clear hk);(try clear hi)))
     go_loopg [6] k (fun kq v6 w'=> ∃(au:Int) (bL:Int) (bM:Int) (aq:List Int) (aw:Value),v6= .int .i64 au∧Aside0 (spec_l06DrawOf.l0 kq a1 au s0_0 bL bM a1 aq=some (r1,r2,r3,r4))∧Aside0 (kq≤k)∧Aside0 (Kd.R (Kd.int .i64) 2 w' w.heap.size (fun _=>True) aw aq)∧Aside0 (w'.heap[av]?=some (.cells #[.int .i64 0,(.slice none 0 0)] 64 (0,0)))∧Aside0 (w'.heap[ah]?=some (.cells #[.int .i64 a1,aw] 64 (0,0)))∧Aside0 (IsS168 w0 w' g s0_0 bL bM)∧Aside0 (KeepBut w w' g none)∧Aside0 (Below w0.heap.size w0 w'))
     case atStart=>exact⟨(0),(aW),(aX),(aG),(.slice cZ aG.length da),rs_,H',⟨Nat.le_refl _⟩,⟨ro_ aN.out⟩,⟨bk_⟩,⟨bk_⟩,⟨by repeat (first | (with_reducible first | exact HI0.out | apply IsS168.alloc | apply IsS168.drewN | apply IsS168.drew | apply IsS168.set_1 | apply IsS168.set_2 | refine IsS168.far ?_ ai.out _ | refine IsS168.far ?_ aj.out _) | exact HI0.out)⟩,⟨by repeat (first | (with_reducible first | exact HK.out | apply KeepBut.set_ | apply keep_drewN | apply keep_drew | apply keep_alloc | refine keep_far ?_ ax.out _ | refine keep_far ?_ aD.out _) | exact HK.out)⟩,⟨by repeat (first | (with_reducible first | exact HB.out | apply below_alloc | apply pw_below_drewN | apply below_drew1 | refine below_set ?_ (IsS168.ge HI0.out) | refine below_set ?_ az.out | refine below_set ?_ aI.out) | exact HB.out)⟩⟩
     case round=>
      clear H'
      try clear c1
      try clear p2
      try clear c4
      try clear c4b0
      try clear c4b1
      try clear c6
      try clear c6b0
      try clear c6b1
      try clear p6
      try clear c7
      try clear c7b0
      try clear c7b1
      try clear c9
      try clear c9b0
      try clear c9b1
      try clear c10
      try clear c15
      try clear c16
      try clear c17
      try clear bn
      try clear bq
      try clear bu
      try clear bv
      obtain⟨au,bL,bM,aq,aw,rfl,HA,HK1,ae,ag,af,HI0,HK,HB⟩:=hrel
      cases gk with
      | zero=>exact absurd HA.out (by simp [spec_l06DrawOf.l0])
      | succ k1=>
       have H:=HA.out
       clear HA
       simp only [spec_l06DrawOf.l0] at H
       by_cases c19:au < (aq.length:Int)
       ·rw [if_pos c19] at H
        have c19b0:decide (au < (aq.length:Int))=true:=decide_eq_true c19
        clear c19
        have H':=Aside0.mk H
        clear H
        have f7:=aM.out
        have f8:=aC.out
        have f9:=aH.out
        have ga:=aj.out
        have bw:wr.cell? ⟨ah,0,none⟩=some (.int .i64 a1):=(blk_cell af.out 0).trans rfl
        have bz:wr.cell? ⟨ah,1,none⟩=some (aw):=(blk_cell af.out 1).trans rfl
        have bA:=blk_frozen af.out 0
        have bC:=blk_frozen af.out 1
        obtain⟨eQ,eS,eT⟩:=Kd.R_slice ae.out
        subst eT
        go_wp2
        go_loopg [7] k1 (fun kq v7 w'=> ∃(ba:Int) (aJ:Int) (aK:Int) (aa:List Int) (aw:Value),v7= .int .i64 ba∧Aside0 (spec_l06DrawOf.l1 kq a1 au ba s0_0 aJ aK a1 aa=some (r1,r2,r3,r4))∧Aside0 (kq≤k1)∧Aside0 (Kd.R (Kd.int .i64) 2 w' w.heap.size (fun _=>True) aw aa)∧Aside0 (w'.heap[av]?=some (.cells #[.int .i64 0,(.slice none 0 0)] 64 (0,0)))∧Aside0 (w'.heap[ah]?=some (.cells #[.int .i64 a1,aw] 64 (0,0)))∧Aside0 (IsS168 w0 w' g s0_0 aJ aK)∧Aside0 (KeepBut w w' g none)∧Aside0 (Below w0.heap.size w0 w'))
        case atStart=>exact⟨(0),(bL),(bM),(aq),(.slice eQ aq.length eS),rs_,H',⟨Nat.le_refl _⟩,⟨ro_ ae.out⟩,⟨bk_⟩,⟨bk_⟩,⟨by repeat (first | (with_reducible first | exact HI0.out | apply IsS168.alloc | apply IsS168.drewN | apply IsS168.drew | apply IsS168.set_1 | apply IsS168.set_2 | refine IsS168.far ?_ ai.out _ | refine IsS168.far ?_ aj.out _) | exact HI0.out)⟩,⟨by repeat (first | (with_reducible first | exact HK.out | apply KeepBut.set_ | apply keep_drewN | apply keep_drew | apply keep_alloc | refine keep_far ?_ ax.out _ | refine keep_far ?_ aD.out _) | exact HK.out)⟩,⟨by repeat (first | (with_reducible first | exact HB.out | apply below_alloc | apply pw_below_drewN | apply below_drew1 | refine below_set ?_ (IsS168.ge HI0.out) | refine below_set ?_ az.out | refine below_set ?_ aI.out) | exact HB.out)⟩⟩
        case round=>
         clear H'
         try clear c1
         try clear c2
         try clear p2
         try clear c4
         try clear c4b0
         try clear c4b1
         try clear c6
         try clear c6b0
         try clear c6b1
         try clear p6
         try clear c7
         try clear c7b0
         try clear c7b1
         try clear c9
         try clear c9b0
         try clear c9b1
         try clear c10
         try clear c15
         try clear c16
         try clear c17
         try clear c19
         try clear c19b0
         try clear c20
         try clear c21
         try clear bn
         try clear bq
         try clear bw
         try clear bz
         try clear bu
         try clear bv
         try clear bA
         try clear bC
         try clear p2
         try clear p6
         obtain⟨ba,aJ,aK,aa,aw,rfl,HA,HK2,ae,ag,af,HI0,HK,HB⟩:=hrel
         cases gk with
         | zero=>exact absurd HA.out (by simp [spec_l06DrawOf.l1])
         | succ k2=>
          have H:=HA.out
          clear HA
          simp only [spec_l06DrawOf.l1] at H
          by_cases c24:ba < a1
          ·rw [if_pos c24] at H
           have c24b0:decide (ba < a1)=true:=decide_eq_true c24
           clear c24
           obtain⟨ji25,hji25⟩: ∃j_:Int,(IntKind.u64.wrap (ba))=j_:=⟨_,rfl⟩
           replace H:(if 0≤(ji25) then(if(Go.bits .and .i64 au (shl .i64 1 (ji25)))=0 then((spec_l01Next.f s0_0 aJ aK 2).bind fun bh=>(if bh.1=0 then(if 0≤au then(if au < (aa.length:Int) then(spec_l06DrawOf.l1 k2 a1 au (wrap64 (ba+1)) s0_0 bh.2.1 bh.2.2 a1 (aa.set (au:Int).toNat (Go.bits .or .i64 (rd aa au) (shl .i64 1 (ji25))))) else(none)) else(none)) else(if 0≤(Go.bits .or .i64 au (shl .i64 1 (ji25))) then(if(Go.bits .or .i64 au (shl .i64 1 (ji25))) < (aa.length:Int) then(spec_l06DrawOf.l1 k2 a1 au (wrap64 (ba+1)) s0_0 bh.2.1 bh.2.2 a1 (aa.set ((Go.bits .or .i64 au (shl .i64 1 (ji25))):Int).toNat (Go.bits .or .i64 (rd aa (Go.bits .or .i64 au (shl .i64 1 (ji25)))) (shl .i64 1 (ji25))))) else(none)) else(none)))) else(spec_l06DrawOf.l1 k2 a1 au (wrap64 (ba+1)) s0_0 aJ aK a1 aa)) else(none))=some (r1,r2,r3,r4):=by first | (rw [hji25] at H;exact H) | (simp only [hji25] at H ⊢;exact H)
           by_cases c26:0≤(ji25)
           ·rw [if_pos c26] at H
            have c26b0:=eq_true c26
            have c26b1:decide (0≤(ji25))=true:=decide_eq_true c26
            clear c26
            obtain⟨ji27,hji27⟩: ∃j_:Int,(shl .i64 1 (ji25))=j_:=⟨_,rfl⟩
            replace H:(if(Go.bits .and .i64 au (ji27))=0 then((spec_l01Next.f s0_0 aJ aK 2).bind fun bh=>(if bh.1=0 then(if 0≤au then(if au < (aa.length:Int) then(spec_l06DrawOf.l1 k2 a1 au (wrap64 (ba+1)) s0_0 bh.2.1 bh.2.2 a1 (aa.set (au:Int).toNat (Go.bits .or .i64 (rd aa au) (ji27)))) else(none)) else(none)) else(if 0≤(Go.bits .or .i64 au (ji27)) then(if(Go.bits .or .i64 au (ji27)) < (aa.length:Int) then(spec_l06DrawOf.l1 k2 a1 au (wrap64 (ba+1)) s0_0 bh.2.1 bh.2.2 a1 (aa.set ((Go.bits .or .i64 au (ji27)):Int).toNat (Go.bits .or .i64 (rd aa (Go.bits .or .i64 au (ji27))) (ji27)))) else(none)) else(none)))) else(spec_l06DrawOf.l1 k2 a1 au (wrap64 (ba+1)) s0_0 aJ aK a1 aa))=some (r1,r2,r3,r4):=by first | (rw [hji27] at H;exact H) | (simp only [hji27] at H ⊢;exact H)
            have hji27_:(IntKind.i64.wrap (1*2 ^ min (ji25).toNat 64))=ji27:=hji27
            have hji27z:(ji25)≤64→(IntKind.i64.wrap (1*2 ^ (ji25).toNat))=ji27:=shl_small hji27
            have hji27u:(IntKind.i64.wrap (2 ^ min (ji25).toNat 64))=ji27:=by have h_:=hji27_;rw [Int.one_mul] at h_;exact h_
            have hji27v:(ji25)≤64→(IntKind.i64.wrap (2 ^ (ji25).toNat))=ji27:=fun hle_=>by have h_:=hji27z hle_;rw [Int.one_mul] at h_;exact h_
            have hji27y:(wrap64 (1*2 ^ min (ji25).toNat 64))=ji27:=(i64_w _).symm.trans hji27_
            have hji27x:(ji25)≤64→(wrap64 (1*2 ^ (ji25).toNat))=ji27:=fun h_=>(i64_w _).symm.trans (hji27z h_)
            by_cases c28:(Go.bits .and .i64 au (ji27))=0
            ·rw [if_pos c28] at H
             have c28b0:((Go.bits .and .i64 au (ji27))==0)=true:=beq_iff_eq.mpr c28
             have c28b1:((Go.bits .and .i64 au (ji27)) !=0)=false:=bne_eq_false_iff_eq.mpr c28
             clear c28
             replace H:=Option.bind_eq_some_iff.mp H
             obtain⟨⟨bF,bG,bH⟩,A290,H⟩:=H
             replace H:(if bF=0 then(if 0≤au then(if au < (aa.length:Int) then(spec_l06DrawOf.l1 k2 a1 au (wrap64 (ba+1)) s0_0 bG bH a1 (aa.set (au:Int).toNat (Go.bits .or .i64 (rd aa au) (ji27)))) else(none)) else(none)) else(if 0≤(Go.bits .or .i64 au (ji27)) then(if(Go.bits .or .i64 au (ji27)) < (aa.length:Int) then(spec_l06DrawOf.l1 k2 a1 au (wrap64 (ba+1)) s0_0 bG bH a1 (aa.set ((Go.bits .or .i64 au (ji27)):Int).toNat (Go.bits .or .i64 (rd aa (Go.bits .or .i64 au (ji27))) (ji27)))) else(none)) else(none)))=some (r1,r2,r3,r4):=H
             have A29:=Aside0.mk A290
             clear A290
             by_cases c30:bF=0
             ·rw [if_pos c30] at H
              have c30b0:(bF==0)=true:=beq_iff_eq.mpr c30
              have c30b1:(bF !=0)=false:=bne_eq_false_iff_eq.mpr c30
              clear c30
              by_cases c31:0≤au
              ·rw [if_pos c31] at H
               have c31b0:decide (0≤au)=true:=decide_eq_true c31
               clear c31
               by_cases c32:au < (aa.length:Int)
               ·rw [if_pos c32] at H
                have c32b0:decide (au < (aa.length:Int))=true:=decide_eq_true c32
                clear c32
                obtain⟨dN,hy855⟩: ∃y_:List Int,y_=(aa.set (au:Int).toNat (Go.bits .or .i64 (rd aa au) (ji27))):=⟨_,rfl⟩
                replace H:(spec_l06DrawOf.l1 k2 a1 au (wrap64 (ba+1)) s0_0 bG bH a1 dN)=some (r1,r2,r3,r4):=by first | (rw [hy855];with_reducible exact H) | (have H2_:=(Option.bind_some _ _).symm.trans H;rw [hy855];with_reducible exact H2_) | (have H2_:=(Option.bind_some _ _).symm.trans H;with_reducible exact H2_) | with_reducible exact H | (rw [hy855];exact H) | exact H
                have eD:=Aside0.mk hy855
                clear hy855
                have H':=Aside0.mk H
                clear H
                try go_wp2_with (first | ((with_reducible refine gate_callee (f:=100) rfl ?_);refine gL_ 107 Try.func100 #[.pointer (some ⟨g,0,none⟩), .int .i64 2] ?_;(with_reducible refine(spec_l01Next.calls g s0_0 aJ aK 2 bF bG bH w0 _ ?aY ?aZ A29.out).mono ?_);(case aY=>repeat (first | (with_reducible first | exact HI0.out | apply IsS168.alloc | apply IsS168.drewN | apply IsS168.drew | apply IsS168.set_1 | apply IsS168.set_2 | refine IsS168.far ?_ ai.out _ | refine IsS168.far ?_ aj.out _) | exact HI0.out));(case aZ=>repeat (first | (with_reducible first | exact HB.out | apply below_alloc | apply pw_below_drewN | apply below_drew1 | refine below_set ?_ (IsS168.ge HI0.out) | refine below_set ?_ az.out | refine below_set ?_ aI.out) | exact HB.out));rintro e w34 ⟨rfl,hi,hb,hk⟩;refine⟨_,rfl,?_⟩;replace ae:=Aside0.mk (Kd.R_mono (Kd.R_keep (IsS168.apart (show IsS168 w0 _ g s0_0 aJ aK from by repeat (first | (with_reducible first | exact HI0.out | apply IsS168.alloc | apply IsS168.drewN | apply IsS168.drew | apply IsS168.set_1 | apply IsS168.set_2 | refine IsS168.far ?_ ai.out _ | refine IsS168.far ?_ aj.out _) | exact HI0.out)) (ro_ ae.out) (by decide)) hk (fun _ h=>h.2)) (fun _ h=>h.1));replace ag:=Aside0.mk (KeepBut.blk hk (g':=av) (o:= .cells #[.int .i64 0, .slice none 0 0] 64 (0,0)) bk_ aT.out (by simp));replace af:=Aside0.mk (KeepBut.blk hk (g':=ah) (o:= .cells #[.int .i64 a1,aw] 64 (0,0)) bk_ aH.out (by simp));replace HK:=Aside0.mk (KeepBut.trans (by repeat (first | (with_reducible first | exact HK.out | apply KeepBut.set_ | apply keep_drewN | apply keep_drew | apply keep_alloc | refine keep_far ?_ ax.out _ | refine keep_far ?_ aD.out _) | exact HK.out)) hk (.inl rfl));replace HB:=Aside0.mk (hb);replace HI0:=Aside0.mk (hi);(try clear hb);(try clear hb2);(try clear hk);(try clear hi)))
                replace ae:=Aside0.mk (Kd.R_drew ae.out)
                replace ag:=Aside0.mk (blk_drew ag.out)
                replace af:=Aside0.mk (blk_drew af.out)
                replace HI0:=Aside0.mk (IsS168.drew HI0.out)
                replace HK:=Aside0.mk (keep_drew HK.out)
                replace HB:=Aside0.mk (below_drew1 HB.out)
                obtain⟨gY,dO,dP⟩:=Kd.R_slice ae.out
                (first | subst dP | (injection dP with f1_ f2_ f3_;have f4_:=f1_.symm;have f5_:=f3_.symm;clear f1_ f2_ f3_;subst f4_;subst f5_))
                have p854:0≤(au:Int):=od_
                have q854:au < (aa.length:Int):=od_
                obtain⟨gh,e854,hx854_0⟩:=Kd.at_int (Kd.R_reads' ae.out).2.2 au p854 q854
                cases e854
                replace p854:=eq_true p854
                replace q854:=eq_true q854
                have p33:0≤(au:Int):=od_
                have q33:(au:Int) < ((aa.length:Int):Int):=od_
                obtain⟨go33,gZ,dQ,dR,gl33,cl33,HG33⟩:=Kd.R_form ae.out (by omega)
                (first | cases dQ | (injection dQ with ea_ en_ ec_;(first | subst ea_ | (injection ea_ with ea_;subst ea_));subst ec_;clear en_))
                have GB33:=Aside0.mk dR
                have GG33:=Aside0.mk HG33
                clear dR gl33 HG33
                (first | simp only [add_plain] at hx854_0 | skip)
                obtain⟨hx33_0,hf33_0⟩:=Kd.R_celln 0 ae.out (au:Int) p33 q33
                replace p33:=eq_true p33
                replace q33:=eq_true q33
                have HN0_go33:=Aside0.mk (show g≠go33 from by have h_:=IsS168.own_ne HI0.out ae.out (by decide);intro e_;exact h_ (by rw [e_];rfl))
                have HP37:=Kd.R_putn ae.out (au:Int) (Go.bits .or .i64 (rd aa au) (ji27))
                rw [← eD.out] at HP37
                have HQ37:=Aside0.mk HP37
                clear HP37
                refine st_ (n:=12) (S:=fun w'=>w'.cell? ⟨ah,0,none⟩=some (.int .i64 a1)∧w'.cell? ⟨ah,1,none⟩=some (.slice (some ⟨go33,0,none⟩) aa.length dO)∧w'.cell? ⟨go33,(au).toNat,none⟩=some (.int .i64 (rd aa au))) (ds:= [11]) ⟨(blk_cell af.out 0).trans rfl,(blk_cell af.out 1).trans rfl,hx854_0⟩ (fun hHeld=>?_);refine with_tabW spec_l06DrawOf.tab24 spec_l06DrawOf.bits24 (fun HT_ HW_=>?_)
                generalize w34.drew=w35 at ae ag af HI0 HK HB GG33 HQ37 hf33_0 hx33_0 hx854_0 hHeld ⊢
                refine pu_ 0 109 ?_;refine pu_ 2 111 ?_;refine pu_ 3 112 ?_;refine pu_ 5 114 ?_;refine pu_ 8 117 ?_;refine tk_ 1 110 ?_;refine tk_ 4 113 ?_;refine pu_ 6 115 ?_;refine tk_ 7 116 ?_;refine pu_ 9 118 ?_;refine pu_ 10 119 ?_
                refine la_ 11 none (fun K hK=>?_)
                refine skip_ (w1:=?_) (by rfl) rfl ?_ ?_
                rotate_left
                ·go_simp
                 rfl
                refine hK.out _ _ ?_
                clear hK K
                refine done_ (done_of HT_.out (by kernel_rfl)) ?_
                try go_wp2
                go_roundg k2
                case measure=>have:=HK1.out;have:=HK2.out;omega
                case rel=>exact⟨(wrap64 (ba+1)),(bG),(bH),(dN),(.slice (some ⟨go33,0,none⟩) aa.length dO),rs_,H',⟨by have:=HK1.out;have:=HK2.out;omega⟩,⟨ro_ HQ37.out⟩,⟨by(with_reducible repeat (first | refine blk_drewN ?_ _ | refine blk_drew ?_ | refine blk_alloc ?_ _));refine blk_far ?_ (by have h_:=Kd.R_ne ae.out ag.out (by decide);intro e_;exact h_ (by rw [e_];rfl)) _;(with_reducible repeat (first | refine blk_drewN ?_ _ | refine blk_drew ?_ | refine blk_alloc ?_ _));exact ag.out⟩,⟨by(with_reducible repeat (first | refine blk_drewN ?_ _ | refine blk_drew ?_ | refine blk_alloc ?_ _));refine blk_far ?_ (by have h_:=Kd.R_ne ae.out af.out (by decide);intro e_;exact h_ (by rw [e_];rfl)) _;(with_reducible repeat (first | refine blk_drewN ?_ _ | refine blk_drew ?_ | refine blk_alloc ?_ _));exact af.out⟩,⟨by repeat (first | (with_reducible first | exact HI0.out | apply IsS168.alloc | apply IsS168.drewN | apply IsS168.drew | apply IsS168.set_1 | apply IsS168.set_2 | refine IsS168.far ?_ HN0_go33.out _ | refine IsS168.far ?_ ai.out _ | refine IsS168.far ?_ aj.out _) | exact HI0.out)⟩,⟨by repeat (first | (with_reducible first | exact HK.out | apply KeepBut.set_ | apply keep_drewN | apply keep_drew | apply keep_alloc | refine keep_far ?_ GB33.out _ | refine keep_far ?_ ax.out _ | refine keep_far ?_ aD.out _) | exact HK.out)⟩,⟨by repeat (first | (with_reducible first | exact HB.out | apply below_alloc | apply pw_below_drewN | apply below_drew1 | refine below_set ?_ (Nat.le_trans HL.out GB33.out) | refine below_set ?_ (IsS168.ge HI0.out) | refine below_set ?_ az.out | refine below_set ?_ aI.out) | exact HB.out)⟩⟩
               ·rw [if_neg c32] at H
                exact absurd H (by simp)
              ·rw [if_neg c31] at H
               exact absurd H (by simp)
             ·rw [if_neg c30] at H
              have c30b0:(bF==0)=false:=beq_eq_false_iff_ne.mpr c30
              have c30b1:(bF !=0)=true:=bne_iff_ne.mpr c30
              by_cases c38:0≤(Go.bits .or .i64 au (ji27))
              ·rw [if_pos c38] at H
               have c38b0:decide (0≤(Go.bits .or .i64 au (ji27)))=true:=decide_eq_true c38
               clear c38
               by_cases c39:(Go.bits .or .i64 au (ji27)) < (aa.length:Int)
               ·rw [if_pos c39] at H
                have c39b0:decide ((Go.bits .or .i64 au (ji27)) < (aa.length:Int))=true:=decide_eq_true c39
                clear c39
                obtain⟨dS,hy857⟩: ∃y_:List Int,y_=(aa.set ((Go.bits .or .i64 au (ji27)):Int).toNat (Go.bits .or .i64 (rd aa (Go.bits .or .i64 au (ji27))) (ji27))):=⟨_,rfl⟩
                replace H:(spec_l06DrawOf.l1 k2 a1 au (wrap64 (ba+1)) s0_0 bG bH a1 dS)=some (r1,r2,r3,r4):=by first | (rw [hy857];with_reducible exact H) | (have H2_:=(Option.bind_some _ _).symm.trans H;rw [hy857];with_reducible exact H2_) | (have H2_:=(Option.bind_some _ _).symm.trans H;with_reducible exact H2_) | with_reducible exact H | (rw [hy857];exact H) | exact H
                have eF:=Aside0.mk hy857
                clear hy857
                have H':=Aside0.mk H
                clear H
                try go_wp2_with (first | ((with_reducible refine gate_callee (f:=100) rfl ?_);refine gL_ 107 Try.func100 #[.pointer (some ⟨g,0,none⟩), .int .i64 2] ?_;(with_reducible refine(spec_l01Next.calls g s0_0 aJ aK 2 bF bG bH w0 _ ?aY ?aZ A29.out).mono ?_);(case aY=>repeat (first | (with_reducible first | exact HI0.out | apply IsS168.alloc | apply IsS168.drewN | apply IsS168.drew | apply IsS168.set_1 | apply IsS168.set_2 | refine IsS168.far ?_ ai.out _ | refine IsS168.far ?_ aj.out _) | exact HI0.out));(case aZ=>repeat (first | (with_reducible first | exact HB.out | apply below_alloc | apply pw_below_drewN | apply below_drew1 | refine below_set ?_ (IsS168.ge HI0.out) | refine below_set ?_ az.out | refine below_set ?_ aI.out) | exact HB.out));rintro e w41 ⟨rfl,hi,hb,hk⟩;refine⟨_,rfl,?_⟩;replace ae:=Aside0.mk (Kd.R_mono (Kd.R_keep (IsS168.apart (show IsS168 w0 _ g s0_0 aJ aK from by repeat (first | (with_reducible first | exact HI0.out | apply IsS168.alloc | apply IsS168.drewN | apply IsS168.drew | apply IsS168.set_1 | apply IsS168.set_2 | refine IsS168.far ?_ ai.out _ | refine IsS168.far ?_ aj.out _) | exact HI0.out)) (ro_ ae.out) (by decide)) hk (fun _ h=>h.2)) (fun _ h=>h.1));replace ag:=Aside0.mk (KeepBut.blk hk (g':=av) (o:= .cells #[.int .i64 0, .slice none 0 0] 64 (0,0)) bk_ aT.out (by simp));replace af:=Aside0.mk (KeepBut.blk hk (g':=ah) (o:= .cells #[.int .i64 a1,aw] 64 (0,0)) bk_ aH.out (by simp));replace HK:=Aside0.mk (KeepBut.trans (by repeat (first | (with_reducible first | exact HK.out | apply KeepBut.set_ | apply keep_drewN | apply keep_drew | apply keep_alloc | refine keep_far ?_ ax.out _ | refine keep_far ?_ aD.out _) | exact HK.out)) hk (.inl rfl));replace HB:=Aside0.mk (hb);replace HI0:=Aside0.mk (hi);(try clear hb);(try clear hb2);(try clear hk);(try clear hi)))
                replace ae:=Aside0.mk (Kd.R_drew ae.out)
                replace ag:=Aside0.mk (blk_drew ag.out)
                replace af:=Aside0.mk (blk_drew af.out)
                replace HI0:=Aside0.mk (IsS168.drew HI0.out)
                replace HK:=Aside0.mk (keep_drew HK.out)
                replace HB:=Aside0.mk (below_drew1 HB.out)
                obtain⟨hU,dU,dV⟩:=Kd.R_slice ae.out
                (first | subst dV | (injection dV with f1_ f2_ f3_;have f4_:=f1_.symm;have f5_:=f3_.symm;clear f1_ f2_ f3_;subst f4_;subst f5_))
                have p856:0≤((Go.bits .or .i64 au (ji27)):Int):=od_
                have q856:(Go.bits .or .i64 au (ji27)) < (aa.length:Int):=od_
                obtain⟨gi,e856,hx856_0⟩:=Kd.at_int (Kd.R_reads' ae.out).2.2 (Go.bits .or .i64 au (ji27)) p856 q856
                cases e856
                replace p856:=eq_true p856
                replace q856:=eq_true q856
                have p40:0≤((Go.bits .or .i64 au (ji27)):Int):=od_
                have q40:((Go.bits .or .i64 au (ji27)):Int) < ((aa.length:Int):Int):=od_
                obtain⟨go40,ia,dW,dX,gl40,cl40,HG40⟩:=Kd.R_form ae.out (by omega)
                (first | cases dW | (injection dW with ea_ en_ ec_;(first | subst ea_ | (injection ea_ with ea_;subst ea_));subst ec_;clear en_))
                have GB40:=Aside0.mk dX
                have GG40:=Aside0.mk HG40
                clear dX gl40 HG40
                (first | simp only [add_plain] at hx856_0 | skip)
                obtain⟨hx40_0,hf40_0⟩:=Kd.R_celln 0 ae.out ((Go.bits .or .i64 au (ji27)):Int) p40 q40
                replace p40:=eq_true p40
                replace q40:=eq_true q40
                have HN0_go40:=Aside0.mk (show g≠go40 from by have h_:=IsS168.own_ne HI0.out ae.out (by decide);intro e_;exact h_ (by rw [e_];rfl))
                have HP44:=Kd.R_putn ae.out ((Go.bits .or .i64 au (ji27)):Int) (Go.bits .or .i64 (rd aa (Go.bits .or .i64 au (ji27))) (ji27))
                rw [← eF.out] at HP44
                have HQ44:=Aside0.mk HP44
                clear HP44
                refine st_ (n:=16) (S:=fun w'=>w'.cell? ⟨ah,0,none⟩=some (.int .i64 a1)∧w'.cell? ⟨ah,1,none⟩=some (.slice (some ⟨go40,0,none⟩) aa.length dU)∧w'.cell? ⟨go40,((Go.bits .or .i64 au (ji27))).toNat,none⟩=some (.int .i64 (rd aa (Go.bits .or .i64 au (ji27))))) (ds:= [15]) ⟨(blk_cell af.out 0).trans rfl,(blk_cell af.out 1).trans rfl,hx856_0⟩ (fun hHeld=>?_);refine with_tabW spec_l06DrawOf.tab25 spec_l06DrawOf.bits25 (fun HT_ HW_=>?_)
                generalize w41.drew=w42 at ae ag af HI0 HK HB GG40 HQ44 hf40_0 hx40_0 hx856_0 hHeld ⊢
                refine pu_ 0 120 ?_;refine pu_ 2 122 ?_;refine pu_ 3 123 ?_;refine pu_ 4 124 ?_;refine pu_ 5 125 ?_;refine pu_ 7 127 ?_;refine pu_ 8 128 ?_;refine pu_ 9 129 ?_;refine pu_ 12 132 ?_;refine tk_ 1 121 ?_;refine tk_ 6 126 ?_;refine pu_ 10 130 ?_;refine tk_ 11 131 ?_;refine pu_ 13 133 ?_;refine pu_ 14 134 ?_
                refine la_ 15 none (fun K hK=>?_)
                refine skip_ (w1:=?_) (by rfl) rfl ?_ ?_
                rotate_left
                ·go_simp
                 rfl
                refine hK.out _ _ ?_
                clear hK K
                refine done_ (done_of HT_.out (by kernel_rfl)) ?_
                try go_wp2
                go_roundg k2
                case measure=>have:=HK1.out;have:=HK2.out;omega
                case rel=>exact⟨(wrap64 (ba+1)),(bG),(bH),(dS),(.slice (some ⟨go40,0,none⟩) aa.length dU),rs_,H',⟨by have:=HK1.out;have:=HK2.out;omega⟩,⟨ro_ HQ44.out⟩,⟨by(with_reducible repeat (first | refine blk_drewN ?_ _ | refine blk_drew ?_ | refine blk_alloc ?_ _));refine blk_far ?_ (by have h_:=Kd.R_ne ae.out ag.out (by decide);intro e_;exact h_ (by rw [e_];rfl)) _;(with_reducible repeat (first | refine blk_drewN ?_ _ | refine blk_drew ?_ | refine blk_alloc ?_ _));exact ag.out⟩,⟨by(with_reducible repeat (first | refine blk_drewN ?_ _ | refine blk_drew ?_ | refine blk_alloc ?_ _));refine blk_far ?_ (by have h_:=Kd.R_ne ae.out af.out (by decide);intro e_;exact h_ (by rw [e_];rfl)) _;(with_reducible repeat (first | refine blk_drewN ?_ _ | refine blk_drew ?_ | refine blk_alloc ?_ _));exact af.out⟩,⟨by repeat (first | (with_reducible first | exact HI0.out | apply IsS168.alloc | apply IsS168.drewN | apply IsS168.drew | apply IsS168.set_1 | apply IsS168.set_2 | refine IsS168.far ?_ HN0_go40.out _ | refine IsS168.far ?_ ai.out _ | refine IsS168.far ?_ aj.out _) | exact HI0.out)⟩,⟨by repeat (first | (with_reducible first | exact HK.out | apply KeepBut.set_ | apply keep_drewN | apply keep_drew | apply keep_alloc | refine keep_far ?_ GB40.out _ | refine keep_far ?_ ax.out _ | refine keep_far ?_ aD.out _) | exact HK.out)⟩,⟨by repeat (first | (with_reducible first | exact HB.out | apply below_alloc | apply pw_below_drewN | apply below_drew1 | refine below_set ?_ (Nat.le_trans HL.out GB40.out) | refine below_set ?_ (IsS168.ge HI0.out) | refine below_set ?_ az.out | refine below_set ?_ aI.out) | exact HB.out)⟩⟩
               ·rw [if_neg c39] at H
                exact absurd H (by simp)
              ·rw [if_neg c38] at H
               exact absurd H (by simp)
            ·rw [if_neg c28] at H
             have c28b0:((Go.bits .and .i64 au (ji27))==0)=false:=beq_eq_false_iff_ne.mpr c28
             have c28b1:((Go.bits .and .i64 au (ji27)) !=0)=true:=bne_iff_ne.mpr c28
             have H':=Aside0.mk H
             clear H
             go_wp2
             go_roundg k2
             case measure=>have:=HK1.out;have:=HK2.out;omega
             case rel=>exact⟨(wrap64 (ba+1)),(aJ),(aK),(aa),(aw),rs_,H',⟨by have:=HK1.out;have:=HK2.out;omega⟩,⟨ro_ ae.out⟩,⟨bk_⟩,⟨bk_⟩,⟨by repeat (first | (with_reducible first | exact HI0.out | apply IsS168.alloc | apply IsS168.drewN | apply IsS168.drew | apply IsS168.set_1 | apply IsS168.set_2 | refine IsS168.far ?_ ai.out _ | refine IsS168.far ?_ aj.out _) | exact HI0.out)⟩,⟨by repeat (first | (with_reducible first | exact HK.out | apply KeepBut.set_ | apply keep_drewN | apply keep_drew | apply keep_alloc | refine keep_far ?_ ax.out _ | refine keep_far ?_ aD.out _) | exact HK.out)⟩,⟨by repeat (first | (with_reducible first | exact HB.out | apply below_alloc | apply pw_below_drewN | apply below_drew1 | refine below_set ?_ (IsS168.ge HI0.out) | refine below_set ?_ az.out | refine below_set ?_ aI.out) | exact HB.out)⟩⟩
           ·rw [if_neg c26] at H
            exact absurd H (by simp)
          ·rw [if_neg c24] at H
           have c24b0:decide (ba < a1)=false:=decide_eq_false c24
           clear c24
           have H':=Aside0.mk H
           clear H
           go_wp2
           go_roundg k2
           case measure=>have:=HK1.out;have:=HK2.out;omega
           case rel=>exact⟨(wrap64 (au+1)),(aJ),(aK),(aa),(aw),rs_,H',⟨by have:=HK1.out;have:=HK2.out;omega⟩,⟨ro_ ae.out⟩,⟨bk_⟩,⟨bk_⟩,⟨by repeat (first | (with_reducible first | exact HI0.out | apply IsS168.alloc | apply IsS168.drewN | apply IsS168.drew | apply IsS168.set_1 | apply IsS168.set_2 | refine IsS168.far ?_ ai.out _ | refine IsS168.far ?_ aj.out _) | exact HI0.out)⟩,⟨by repeat (first | (with_reducible first | exact HK.out | apply KeepBut.set_ | apply keep_drewN | apply keep_drew | apply keep_alloc | refine keep_far ?_ ax.out _ | refine keep_far ?_ aD.out _) | exact HK.out)⟩,⟨by repeat (first | (with_reducible first | exact HB.out | apply below_alloc | apply pw_below_drewN | apply below_drew1 | refine below_set ?_ (IsS168.ge HI0.out) | refine below_set ?_ az.out | refine below_set ?_ aI.out) | exact HB.out)⟩⟩
       ·rw [if_neg c19] at H
        have c19b0:decide (au < (aq.length:Int))=false:=decide_eq_false c19
        clear c19
        simp only [Option.some.injEq,Prod.mk.injEq] at H
        obtain⟨rfl,rfl,rfl,rfl⟩:=H
        have gj:=aM.out
        have gm:=aC.out
        have gp:=aH.out
        have gq:=aj.out
        have bN:wr.cell? ⟨ah,0,none⟩=some (.int .i64 a1):=(blk_cell af.out 0).trans rfl
        have bO:wr.cell? ⟨ah,1,none⟩=some (aw):=(blk_cell af.out 1).trans rfl
        have bP:=blk_frozen af.out 0
        have bQ:=blk_frozen af.out 1
        obtain⟨dY,dZ,eU⟩:=Kd.R_slice ae.out
        subst eU
        have gx:=aT.out
        have gy:=ai.out
        have bS:wr.cell? ⟨av,0,none⟩=some (.int .i64 0):=(blk_cell ag.out 0).trans rfl
        have bT:wr.cell? ⟨av,1,none⟩=some (.slice none 0 0):=(blk_cell ag.out 1).trans rfl
        have bU:=blk_frozen ag.out 0
        have bV:=blk_frozen ag.out 1
        go_wp2
        refine bodyPost_ret (results_cell_row rfl _ _ av 64 #[.int .i64 a1, .slice dY aq.length dZ] (0,0) _ rfl (by(with_reducible repeat (first | refine blk_drewN ?_ _ | refine blk_drew ?_ | refine blk_alloc ?_ _));refine blk_put (cs:= #[.int .i64 a1, .slice none 0 0]) ?_ 1 _ rfl;(with_reducible repeat (first | refine blk_drewN ?_ _ | refine blk_drew ?_ | refine blk_alloc ?_ _));refine blk_put (cs:= #[.int .i64 0, .slice none 0 0]) ?_ 0 _ rfl;(with_reducible repeat (first | refine blk_drewN ?_ _ | refine blk_drew ?_ | refine blk_alloc ?_ _));exact ag.out) Try.underlying64 rfl (by kernel_rfl)) rfl ?_
        exact⟨_,by first | rfl | (simp [errW_none,errW_some] <;> rfl) | (simp only [← hji3, ← hji5];first | rfl | (simp [errW_none,errW_some] <;> rfl)) | (simp [*,errW_none,errW_some] <;> rfl),by(with_reducible repeat (first | apply Kd.R_alloc | apply Kd.R_drewN | apply Kd.R_drew));exact Kd.R_mono (Kd.R_far (p:=⟨av,1,none⟩) (Kd.R_far (p:=⟨av,0,none⟩) (Kd.R_types ae.out ag.out (by decide)) (fun _ hk=>hk.2) (.int .i64 a1)) (fun _ hk=>hk.2) (.slice dY aq.length dZ)) (fun _ hk=>trivial),by repeat (first | (with_reducible first | exact HI0.out | apply IsS168.alloc | apply IsS168.drewN | apply IsS168.drew | apply IsS168.set_1 | apply IsS168.set_2 | refine IsS168.far ?_ ai.out _ | refine IsS168.far ?_ aj.out _) | exact HI0.out),by repeat (first | (with_reducible first | exact HB.out | apply below_alloc | apply pw_below_drewN | apply below_drew1 | refine below_set ?_ (IsS168.ge HI0.out) | refine below_set ?_ az.out | refine below_set ?_ aI.out) | exact HB.out),by repeat (first | (with_reducible first | exact HK.out | apply KeepBut.set_ | apply keep_drewN | apply keep_drew | apply keep_alloc | refine keep_far ?_ ax.out _ | refine keep_far ?_ aD.out _) | exact HK.out)⟩
    ·rw [if_neg c9] at H
     have c9b0:(bg==0)=false:=beq_eq_false_iff_ne.mpr c9
     have c9b1:(bg !=0)=true:=bne_iff_ne.mpr c9
     by_cases c51:bg=1
     ·rw [if_pos c51] at H
      have c51b0:(bg==1)=true:=beq_iff_eq.mpr c51
      have c51b1:(bg !=1)=false:=bne_eq_false_iff_eq.mpr c51
      clear c51
      have H':=Aside0.mk H
      clear H
      go_enter Try.func172,Try.ntmps172
      go_wp2_with (first | ((with_reducible refine gate_dst (N:=4) rfl ?_);refine box_event ?hg (N:=4) ?hd (cs:= #[.int .i64 0, .slice none 0 0]) (t:=64) ?hr ?_;(case hd=>rfl);(case hg=>rfl);(case hr=>first | (go_simp;done) | (go_simp;rfl));intro av hg w52 hbox hb;replace HB:=Aside0.mk (below_step (by repeat (first | (with_reducible first | exact HB.out | apply below_alloc | apply pw_below_drewN | apply below_drew1 | refine below_set ?_ (IsS168.ge HI0.out)) | exact HB.out)) hb);have ag:=Aside0.mk (hbox);have ax:=Aside0.mk ((by rw [hg];exact(keep_size (w:=w) (g:=g) (row:=none) (by repeat (first | (with_reducible first | exact HK.out | apply KeepBut.set_ | apply keep_drewN | apply keep_drew | apply keep_alloc) | exact HK.out))):w.heap.size≤av));have az:=Aside0.mk ((Nat.le_trans HW0.out (by rw [hg];exact(keep_size (w:=w) (g:=g) (row:=none) (by repeat (first | (with_reducible first | exact HK.out | apply KeepBut.set_ | apply keep_drewN | apply keep_drew | apply keep_alloc) | exact HK.out))):w.heap.size≤av):w0.heap.size≤av));have ai:=Aside0.mk ((by rw [hg];exact Nat.ne_of_lt (IsS168.lt (show IsS168 w0 _ g s0_0 s0_1 s0_2 from by repeat (first | (with_reducible first | exact HI0.out | apply IsS168.alloc | apply IsS168.drewN | apply IsS168.drew | apply IsS168.set_1 | apply IsS168.set_2) | exact HI0.out))):g≠av));have aT:=Aside0.mk ((by rw [hg];exact Nat.ne_of_gt (IsS168.lt (show IsS168 w0 _ g s0_0 s0_1 s0_2 from by repeat (first | (with_reducible first | exact HI0.out | apply IsS168.alloc | apply IsS168.drewN | apply IsS168.drew | apply IsS168.set_1 | apply IsS168.set_2) | exact HI0.out))):av≠g));replace HI0:=Aside0.mk (IsS168.below (by repeat (first | (with_reducible first | exact HI0.out | apply IsS168.alloc | apply IsS168.drewN | apply IsS168.drew | apply IsS168.set_1 | apply IsS168.set_2) | exact HI0.out)) hb);replace HK:=Aside0.mk (KeepBut.trans (by repeat (first | (with_reducible first | exact HK.out | apply KeepBut.set_ | apply keep_drewN | apply keep_drew | apply keep_alloc) | exact HK.out)) (KeepBut.of_below hb g none) (.inl rfl));clear hb hbox hg) | ((with_reducible refine gate_dst (N:=20) rfl ?_);refine Kd.R_make (Kd.int .i64) _ 2 rfl (N:=20) rfl 23 _ _ rfl ji5 rfl rfl Try.underlying23 (.int .i64 0) 8 info2 rfl (by decide) (by omega) 0 (ok:=fun _=>True) (okp:=fun _=>True) rfl (fun _ hk=>hk) trivial od_ (Nat.le_trans (Nat.mul_le_mul_right _ (od_:ji5.toNat≤35184372088832)) (by omega)) (Below.refl _ _) (Nat.le_refl _) ?_;intro dM w53 cA hb hg_ hnew_;clear hg_ hnew_;(first | rw [← bK.out] at cA | (simp only [Int.reduceToNat] at cA;rw [← bK.out] at cA));have aN:=Aside0.mk (Kd.R_lower cA (keep_size (w:=w) (g:=g) (row:=none) (by repeat (first | (with_reducible first | exact HK.out | apply KeepBut.set_ | apply keep_drewN | apply keep_drew | apply keep_alloc | refine keep_far ?_ ax.out _) | exact HK.out))));replace ag:=Aside0.mk (bb_ ag.out hb);replace HB:=Aside0.mk (below_step (by repeat (first | (with_reducible first | exact HB.out | apply below_alloc | apply pw_below_drewN | apply below_drew1 | refine below_set ?_ (IsS168.ge HI0.out) | refine below_set ?_ az.out) | exact HB.out)) hb);replace HI0:=Aside0.mk (IsS168.below (by repeat (first | (with_reducible first | exact HI0.out | apply IsS168.alloc | apply IsS168.drewN | apply IsS168.drew | apply IsS168.set_1 | apply IsS168.set_2 | refine IsS168.far ?_ ai.out _) | exact HI0.out)) hb);replace HK:=Aside0.mk (KeepBut.trans (by repeat (first | (with_reducible first | exact HK.out | apply KeepBut.set_ | apply keep_drewN | apply keep_drew | apply keep_alloc | refine keep_far ?_ ax.out _) | exact HK.out)) (KeepBut.of_below hb g none) (.inl rfl));clear hb cA;obtain⟨db,dc,eV⟩:=Kd.R_slice aN.out;subst eV) | ((with_reducible refine gate_dst (N:=5) rfl ?_);refine box_event ?hg (N:=5) ?hd (cs:= #[.int .i64 0, .slice none 0 0]) (t:=64) ?hr ?_;(case hd=>rfl);(case hg=>rfl);(case hr=>first | (go_simp;done) | (go_simp;rfl));intro ah hg w56 hbox hb;replace aN:=Aside0.mk (rb_ aN.out hb);replace HB:=Aside0.mk (below_step (by repeat (first | (with_reducible first | exact HB.out | apply below_alloc | apply pw_below_drewN | apply below_drew1 | refine below_set ?_ (IsS168.ge HI0.out) | refine below_set ?_ az.out) | exact HB.out)) hb);have af:=Aside0.mk (hbox);have aD:=Aside0.mk ((by rw [hg];exact(keep_size (w:=w) (g:=g) (row:=none) (by repeat (first | (with_reducible first | exact HK.out | apply KeepBut.set_ | apply keep_drewN | apply keep_drew | apply keep_alloc | refine keep_far ?_ ax.out _) | exact HK.out))):w.heap.size≤ah));have aI:=Aside0.mk ((Nat.le_trans HW0.out (by rw [hg];exact(keep_size (w:=w) (g:=g) (row:=none) (by repeat (first | (with_reducible first | exact HK.out | apply KeepBut.set_ | apply keep_drewN | apply keep_drew | apply keep_alloc | refine keep_far ?_ ax.out _) | exact HK.out))):w.heap.size≤ah):w0.heap.size≤ah));have aC:=Aside0.mk ((by rw [hg];exact lt_ ag.out:av≠ah));have aM:=Aside0.mk ((by rw [hg];exact gt_ ag.out:ah≠av));have aj:=Aside0.mk ((by rw [hg];exact Nat.ne_of_lt (IsS168.lt (show IsS168 w0 _ g s0_0 s0_1 s0_2 from by repeat (first | (with_reducible first | exact HI0.out | apply IsS168.alloc | apply IsS168.drewN | apply IsS168.drew | apply IsS168.set_1 | apply IsS168.set_2 | refine IsS168.far ?_ ai.out _) | exact HI0.out))):g≠ah));have aH:=Aside0.mk ((by rw [hg];exact Nat.ne_of_gt (IsS168.lt (show IsS168 w0 _ g s0_0 s0_1 s0_2 from by repeat (first | (with_reducible first | exact HI0.out | apply IsS168.alloc | apply IsS168.drewN | apply IsS168.drew | apply IsS168.set_1 | apply IsS168.set_2 | refine IsS168.far ?_ ai.out _) | exact HI0.out))):ah≠g));replace HI0:=Aside0.mk (IsS168.below (by repeat (first | (with_reducible first | exact HI0.out | apply IsS168.alloc | apply IsS168.drewN | apply IsS168.drew | apply IsS168.set_1 | apply IsS168.set_2 | refine IsS168.far ?_ ai.out _) | exact HI0.out)) hb);replace ag:=Aside0.mk (bb_ ag.out hb);replace HK:=Aside0.mk (KeepBut.trans (by repeat (first | (with_reducible first | exact HK.out | apply KeepBut.set_ | apply keep_drewN | apply keep_drew | apply keep_alloc | refine keep_far ?_ ax.out _) | exact HK.out)) (KeepBut.of_below hb g none) (.inl rfl));clear hb hbox hg;have gz:=aM.out;have gA:=aC.out;have gB:=aH.out;have gC:=aj.out;have bW:w56.cell? ⟨ah,0,none⟩=some (.int .i64 0):=(blk_cell af.out 0).trans rfl;have bX:w56.cell? ⟨ah,1,none⟩=some (.slice none 0 0):=(blk_cell af.out 1).trans rfl;have bY:=blk_frozen af.out 0;have bZ:=blk_frozen af.out 1) | ((with_reducible refine gate_callee (f:=100) rfl ?_);refine gL_ 23 Try.func100 #[.pointer (some ⟨g,0,none⟩), .int .i64 4] ?_;(with_reducible refine(spec_l01Next.calls g s0_0 s0_1 s0_2 4 bg aW aX w0 _ ?aY ?aZ A8.out).mono ?_);(case aY=>repeat (first | (with_reducible first | exact HI0.out | apply IsS168.alloc | apply IsS168.drewN | apply IsS168.drew | apply IsS168.set_1 | apply IsS168.set_2 | refine IsS168.far ?_ ai.out _ | refine IsS168.far ?_ aj.out _) | exact HI0.out));(case aZ=>repeat (first | (with_reducible first | exact HB.out | apply below_alloc | apply pw_below_drewN | apply below_drew1 | refine below_set ?_ (IsS168.ge HI0.out) | refine below_set ?_ az.out | refine below_set ?_ aI.out) | exact HB.out));rintro e w60 ⟨rfl,hi,hb,hk⟩;refine⟨_,rfl,?_⟩;replace ag:=Aside0.mk (KeepBut.blk hk (g':=av) (o:= .cells #[.int .i64 0, .slice none 0 0] 64 (0,0)) (by(with_reducible repeat (first | refine blk_drewN ?_ _ | refine blk_drew ?_ | refine blk_alloc ?_ _));refine blk_far ?_ aC.out _;(with_reducible repeat (first | refine blk_drewN ?_ _ | refine blk_drew ?_ | refine blk_alloc ?_ _));refine blk_far ?_ aC.out _;(with_reducible repeat (first | refine blk_drewN ?_ _ | refine blk_drew ?_ | refine blk_alloc ?_ _));exact ag.out) aT.out (by simp));replace aN:=Aside0.mk (Kd.R_mono (Kd.R_keep (IsS168.apart (show IsS168 w0 _ g s0_0 s0_1 s0_2 from by repeat (first | (with_reducible first | exact HI0.out | apply IsS168.alloc | apply IsS168.drewN | apply IsS168.drew | apply IsS168.set_1 | apply IsS168.set_2 | refine IsS168.far ?_ ai.out _ | refine IsS168.far ?_ aj.out _) | exact HI0.out)) (by(with_reducible repeat (first | apply Kd.R_alloc | apply Kd.R_drewN | apply Kd.R_drew));exact(Kd.R_mono (Kd.R_far (p:=⟨ah,1,none⟩) (Kd.R_far (p:=⟨ah,0,none⟩) (Kd.R_types aN.out af.out (by decide)) (fun _ hk=>hk.2) (.int .i64 a1)) (fun _ hk=>hk.2) (.slice db aG.length dc)) (fun _ h_=>h_.1))) (by decide)) hk (fun _ h=>h.2)) (fun _ h=>h.1));replace HK:=Aside0.mk (KeepBut.trans (by repeat (first | (with_reducible first | exact HK.out | apply KeepBut.set_ | apply keep_drewN | apply keep_drew | apply keep_alloc | refine keep_far ?_ ax.out _ | refine keep_far ?_ aD.out _) | exact HK.out)) hk (.inl rfl));replace HB:=Aside0.mk (hb);replace af:=Aside0.mk (KeepBut.blk hk (g':=ah) (o:= .cells #[.int .i64 a1, .slice db aG.length dc] 64 (0,0)) (by(with_reducible repeat (first | refine blk_drewN ?_ _ | refine blk_drew ?_ | refine blk_alloc ?_ _));refine blk_put (cs:= #[.int .i64 a1, .slice none 0 0]) ?_ 1 _ rfl;(with_reducible repeat (first | refine blk_drewN ?_ _ | refine blk_drew ?_ | refine blk_alloc ?_ _));refine blk_put (cs:= #[.int .i64 0, .slice none 0 0]) ?_ 0 _ rfl;(with_reducible repeat (first | refine blk_drewN ?_ _ | refine blk_drew ?_ | refine blk_alloc ?_ _));exact af.out) aH.out (by simp));replace HI0:=Aside0.mk (hi);(try clear hb);(try clear hb2);(try clear hk);(try clear hi)))
      go_loopg [9] k (fun kq v9 w'=> ∃(ay:Int) (aq:List Int) (aw:Value),v9= .int .i64 ay∧Aside0 (spec_l06DrawOf.l2 kq a1 ay s0_0 aW aX a1 aq=some (r1,r2,r3,r4))∧Aside0 (kq≤k)∧Aside0 (Kd.R (Kd.int .i64) 2 w' w.heap.size (fun _=>True) aw aq)∧Aside0 (w'.heap[av]?=some (.cells #[.int .i64 0,(.slice none 0 0)] 64 (0,0)))∧Aside0 (w'.heap[ah]?=some (.cells #[.int .i64 a1,aw] 64 (0,0)))∧Aside0 (IsS168 w0 w' g s0_0 aW aX)∧Aside0 (KeepBut w w' g none)∧Aside0 (Below w0.heap.size w0 w'))
      case atStart=>exact⟨(0),(aG),(.slice db aG.length dc),rs_,H',⟨Nat.le_refl _⟩,⟨ro_ aN.out⟩,⟨bk_⟩,⟨bk_⟩,⟨by repeat (first | (with_reducible first | exact HI0.out | apply IsS168.alloc | apply IsS168.drewN | apply IsS168.drew | apply IsS168.set_1 | apply IsS168.set_2 | refine IsS168.far ?_ ai.out _ | refine IsS168.far ?_ aj.out _) | exact HI0.out)⟩,⟨by repeat (first | (with_reducible first | exact HK.out | apply KeepBut.set_ | apply keep_drewN | apply keep_drew | apply keep_alloc | refine keep_far ?_ ax.out _ | refine keep_far ?_ aD.out _) | exact HK.out)⟩,⟨by repeat (first | (with_reducible first | exact HB.out | apply below_alloc | apply pw_below_drewN | apply below_drew1 | refine below_set ?_ (IsS168.ge HI0.out) | refine below_set ?_ az.out | refine below_set ?_ aI.out) | exact HB.out)⟩⟩
      case round=>
       clear H'
       try clear c1
       try clear c2
       try clear p2
       try clear c3
       try clear p3
       try clear q3
       try clear hx3
       try clear hf3
       try clear c4
       try clear c4b0
       try clear c4b1
       try clear p4
       try clear q4
       try clear hx4
       try clear hf4
       try clear c5
       try clear c6
       try clear c6b0
       try clear c6b1
       try clear p6
       try clear c7
       try clear c7b0
       try clear c7b1
       try clear p8
       try clear q8
       try clear hx8
       try clear c9
       try clear c9b0
       try clear c9b1
       try clear c10
       try clear c15
       try clear c16
       try clear c17
       try clear c19
       try clear c19b0
       try clear c20
       try clear c21
       try clear c24
       try clear c24b0
       try clear c26
       try clear c26b0
       try clear c26b1
       try clear c28
       try clear c28b0
       try clear c28b1
       try clear c30
       try clear c30b0
       try clear c30b1
       try clear c31
       try clear c31b0
       try clear c32
       try clear c32b0
       try clear p33
       try clear q33
       try clear hx33
       try clear hf33
       try clear c38
       try clear c38b0
       try clear c39
       try clear c39b0
       try clear p40
       try clear q40
       try clear hx40
       try clear hf40
       try clear c45
       try clear c46
       try clear c49
       try clear c51
       try clear c51b0
       try clear c51b1
       try clear c57
       try clear c58
       try clear bn
       try clear bq
       try clear bw
       try clear bz
       try clear bN
       try clear bO
       try clear bS
       try clear bT
       try clear bW
       try clear bX
       try clear bu
       try clear bv
       try clear bA
       try clear bC
       try clear bP
       try clear bQ
       try clear bU
       try clear bV
       try clear bY
       try clear bZ
       try clear hx33_0
       try clear hx40_0
       try clear hx854_0
       try clear hx856_0
       try clear p2
       try clear p33
       try clear p40
       try clear p6
       try clear p854
       try clear p856
       try clear q33
       try clear q40
       try clear q854
       try clear q856
       obtain⟨ay,aq,aw,rfl,HA,HK1,ae,ag,af,HI0,HK,HB⟩:=hrel
       cases gk with
       | zero=>exact absurd HA.out (by simp [spec_l06DrawOf.l2])
       | succ k1=>
        have H:=HA.out
        clear HA
        simp only [spec_l06DrawOf.l2] at H
        by_cases c61:ay < (aq.length:Int)
        ·rw [if_pos c61] at H
         have c61b0:decide (ay < (aq.length:Int))=true:=decide_eq_true c61
         clear c61
         have H':=Aside0.mk H
         clear H
         have gD:=aM.out
         have gF:=aC.out
         have gG:=aH.out
         have gH:=aj.out
         have cm:wr.cell? ⟨ah,0,none⟩=some (.int .i64 a1):=(blk_cell af.out 0).trans rfl
         have cn:wr.cell? ⟨ah,1,none⟩=some (aw):=(blk_cell af.out 1).trans rfl
         have co:=blk_frozen af.out 0
         have cq:=blk_frozen af.out 1
         obtain⟨eW,eX,eY⟩:=Kd.R_slice ae.out
         subst eY
         go_wp2
         go_loopg [10] k1 (fun kq v10 w'=> ∃(a9:Int) (aa:List Int) (aw:Value),v10= .int .i64 a9∧Aside0 (spec_l06DrawOf.l3 kq a1 ay a9 s0_0 aW aX a1 aa=some (r1,r2,r3,r4))∧Aside0 (kq≤k1)∧Aside0 (Kd.R (Kd.int .i64) 2 w' w.heap.size (fun _=>True) aw aa)∧Aside0 (w'.heap[av]?=some (.cells #[.int .i64 0,(.slice none 0 0)] 64 (0,0)))∧Aside0 (w'.heap[ah]?=some (.cells #[.int .i64 a1,aw] 64 (0,0)))∧Aside0 (IsS168 w0 w' g s0_0 aW aX)∧Aside0 (KeepBut w w' g none)∧Aside0 (Below w0.heap.size w0 w'))
         case atStart=>exact⟨(0),(aq),(.slice eW aq.length eX),rs_,H',⟨Nat.le_refl _⟩,⟨ro_ ae.out⟩,⟨bk_⟩,⟨bk_⟩,⟨by repeat (first | (with_reducible first | exact HI0.out | apply IsS168.alloc | apply IsS168.drewN | apply IsS168.drew | apply IsS168.set_1 | apply IsS168.set_2 | refine IsS168.far ?_ ai.out _ | refine IsS168.far ?_ aj.out _) | exact HI0.out)⟩,⟨by repeat (first | (with_reducible first | exact HK.out | apply KeepBut.set_ | apply keep_drewN | apply keep_drew | apply keep_alloc | refine keep_far ?_ ax.out _ | refine keep_far ?_ aD.out _) | exact HK.out)⟩,⟨by repeat (first | (with_reducible first | exact HB.out | apply below_alloc | apply pw_below_drewN | apply below_drew1 | refine below_set ?_ (IsS168.ge HI0.out) | refine below_set ?_ az.out | refine below_set ?_ aI.out) | exact HB.out)⟩⟩
         case round=>
          clear H'
          try clear c1
          try clear c2
          try clear p2
          try clear c3
          try clear p3
          try clear q3
          try clear hx3
          try clear hf3
          try clear c4
          try clear c4b0
          try clear c4b1
          try clear p4
          try clear q4
          try clear hx4
          try clear hf4
          try clear c5
          try clear c6
          try clear c6b0
          try clear c6b1
          try clear p6
          try clear c7
          try clear c7b0
          try clear c7b1
          try clear p8
          try clear q8
          try clear hx8
          try clear c9
          try clear c9b0
          try clear c9b1
          try clear c10
          try clear c15
          try clear c16
          try clear c17
          try clear c19
          try clear c19b0
          try clear c20
          try clear c21
          try clear c24
          try clear c24b0
          try clear c26
          try clear c26b0
          try clear c26b1
          try clear c28
          try clear c28b0
          try clear c28b1
          try clear c30
          try clear c30b0
          try clear c30b1
          try clear c31
          try clear c31b0
          try clear c32
          try clear c32b0
          try clear p33
          try clear q33
          try clear hx33
          try clear hf33
          try clear c38
          try clear c38b0
          try clear c39
          try clear c39b0
          try clear p40
          try clear q40
          try clear hx40
          try clear hf40
          try clear c45
          try clear c46
          try clear c49
          try clear c51
          try clear c51b0
          try clear c51b1
          try clear c57
          try clear c58
          try clear c61
          try clear c61b0
          try clear c62
          try clear c63
          try clear p64
          try clear bn
          try clear bq
          try clear bw
          try clear bz
          try clear bN
          try clear bO
          try clear bS
          try clear bT
          try clear bW
          try clear bX
          try clear cm
          try clear cn
          try clear bu
          try clear bv
          try clear bA
          try clear bC
          try clear bP
          try clear bQ
          try clear bU
          try clear bV
          try clear bY
          try clear bZ
          try clear co
          try clear cq
          try clear hx33_0
          try clear hx40_0
          try clear hx854_0
          try clear hx856_0
          try clear p2
          try clear p3
          try clear p33
          try clear p4
          try clear p40
          try clear p6
          try clear p8
          try clear p854
          try clear p856
          try clear q3
          try clear q33
          try clear q4
          try clear q40
          try clear q8
          try clear q854
          try clear q856
          obtain⟨a9,aa,aw,rfl,HA,HK2,ae,ag,af,HI0,HK,HB⟩:=hrel
          cases gk with
          | zero=>exact absurd HA.out (by simp [spec_l06DrawOf.l3])
          | succ k2=>
           have H:=HA.out
           clear HA
           simp only [spec_l06DrawOf.l3] at H
           by_cases c66:a9 < a1
           ·rw [if_pos c66] at H
            have c66b0:decide (a9 < a1)=true:=decide_eq_true c66
            clear c66
            obtain⟨ji67,hji67⟩: ∃j_:Int,(IntKind.u64.wrap (a9))=j_:=⟨_,rfl⟩
            replace H:(if 0≤(ji67) then((spec_l01Ones.f k2 (shr .i64 ay (ji67))).bind fun bi=>(if(Int.tmod bi 2)=0 then(if 0≤ay then(if ay < (aa.length:Int) then(spec_l06DrawOf.l3 k2 a1 ay (wrap64 (a9+1)) s0_0 aW aX a1 (aa.set (ay:Int).toNat (Go.bits .or .i64 (rd aa ay) (shl .i64 1 (ji67))))) else(none)) else(none)) else(spec_l06DrawOf.l3 k2 a1 ay (wrap64 (a9+1)) s0_0 aW aX a1 aa))) else(none))=some (r1,r2,r3,r4):=by first | (rw [hji67] at H;exact H) | (simp only [hji67] at H ⊢;exact H)
            by_cases c68:0≤(ji67)
            ·rw [if_pos c68] at H
             have c68b0:=eq_true c68
             have c68b1:decide (0≤(ji67))=true:=decide_eq_true c68
             clear c68
             obtain⟨ji69,hji69⟩: ∃j_:Int,(shr .i64 ay (ji67))=j_:=⟨_,rfl⟩
             replace H:((spec_l01Ones.f k2 (ji69)).bind fun bi=>(if(Int.tmod bi 2)=0 then(if 0≤ay then(if ay < (aa.length:Int) then(spec_l06DrawOf.l3 k2 a1 ay (wrap64 (a9+1)) s0_0 aW aX a1 (aa.set (ay:Int).toNat (Go.bits .or .i64 (rd aa ay) (shl .i64 1 (ji67))))) else(none)) else(none)) else(spec_l06DrawOf.l3 k2 a1 ay (wrap64 (a9+1)) s0_0 aW aX a1 aa)))=some (r1,r2,r3,r4):=by first | (rw [hji69] at H;exact H) | (simp only [hji69] at H ⊢;exact H)
             have hji69_:(ay / 2 ^ min (ji67).toNat 64)=ji69:=hji69
             have hji69z:(ji67)≤64→(ay / 2 ^ (ji67).toNat)=ji69:=shr_small hji69
             replace H:=Option.bind_eq_some_iff.mp H
             obtain⟨bi,A700,H⟩:=H
             replace H:(if(Int.tmod bi 2)=0 then(if 0≤ay then(if ay < (aa.length:Int) then(spec_l06DrawOf.l3 k2 a1 ay (wrap64 (a9+1)) s0_0 aW aX a1 (aa.set (ay:Int).toNat (Go.bits .or .i64 (rd aa ay) (shl .i64 1 (ji67))))) else(none)) else(none)) else(spec_l06DrawOf.l3 k2 a1 ay (wrap64 (a9+1)) s0_0 aW aX a1 aa))=some (r1,r2,r3,r4):=H
             have A70:=Aside0.mk A700
             clear A700
             by_cases c71:(Int.tmod bi 2)=0
             ·rw [if_pos c71] at H
              have c71b0:((Int.tmod bi 2)==0)=true:=beq_iff_eq.mpr c71
              have c71b1:((Int.tmod bi 2) !=0)=false:=bne_eq_false_iff_eq.mpr c71
              clear c71
              by_cases c72:0≤ay
              ·rw [if_pos c72] at H
               have c72b0:decide (0≤ay)=true:=decide_eq_true c72
               clear c72
               by_cases c73:ay < (aa.length:Int)
               ·rw [if_pos c73] at H
                have c73b0:decide (ay < (aa.length:Int))=true:=decide_eq_true c73
                clear c73
                have c74b0:=eq_true (od_:0≤(ji67))
                obtain⟨ji75,hji75⟩: ∃j_:Int,(shl .i64 1 (ji67))=j_:=⟨_,rfl⟩
                replace H:(spec_l06DrawOf.l3 k2 a1 ay (wrap64 (a9+1)) s0_0 aW aX a1 (aa.set (ay:Int).toNat (Go.bits .or .i64 (rd aa ay) (ji75))))=some (r1,r2,r3,r4):=by first | (rw [hji75] at H;exact H) | (simp only [hji75] at H ⊢;exact H)
                (try rw [hji75] at A70)
                have hji75_:(IntKind.i64.wrap (1*2 ^ min (ji67).toNat 64))=ji75:=hji75
                have hji75z:(ji67)≤64→(IntKind.i64.wrap (1*2 ^ (ji67).toNat))=ji75:=shl_small hji75
                have hji75u:(IntKind.i64.wrap (2 ^ min (ji67).toNat 64))=ji75:=by have h_:=hji75_;rw [Int.one_mul] at h_;exact h_
                have hji75v:(ji67)≤64→(IntKind.i64.wrap (2 ^ (ji67).toNat))=ji75:=fun hle_=>by have h_:=hji75z hle_;rw [Int.one_mul] at h_;exact h_
                have hji75y:(wrap64 (1*2 ^ min (ji67).toNat 64))=ji75:=(i64_w _).symm.trans hji75_
                have hji75x:(ji67)≤64→(wrap64 (1*2 ^ (ji67).toNat))=ji75:=fun h_=>(i64_w _).symm.trans (hji75z h_)
                obtain⟨d9,hy860⟩: ∃y_:List Int,y_=(aa.set (ay:Int).toNat (Go.bits .or .i64 (rd aa ay) (ji75))):=⟨_,rfl⟩
                replace H:(spec_l06DrawOf.l3 k2 a1 ay (wrap64 (a9+1)) s0_0 aW aX a1 d9)=some (r1,r2,r3,r4):=by first | (rw [hy860];with_reducible exact H) | (have H2_:=(Option.bind_some _ _).symm.trans H;rw [hy860];with_reducible exact H2_) | (have H2_:=(Option.bind_some _ _).symm.trans H;with_reducible exact H2_) | with_reducible exact H | (rw [hy860];exact H) | exact H
                have eG:=Aside0.mk hy860
                clear hy860
                have H':=Aside0.mk H
                clear H
                try go_wp2_with (first | ((with_reducible refine gate_callee (f:=139) rfl ?_);refine goesL_ (some 153) rfl rfl Try.func139 (by kernel_rfl) rfl #[.int .i64 ji69] rfl (by(try simp only [List.map_toArray,List.map_cons,List.map_nil]);first | done | (simp only [hji69];rfl) | rfl | (simp only [List.length_drop,List.length_take];rfl)) ?_;(with_reducible refine(spec_l01Ones.calls k2 ji69 bi _ A70.out).mono ?_);rintro e w' ⟨rfl,⟨nd,rfl⟩⟩;refine⟨_,rfl,?_⟩;(try (rw [drewN_self wr];generalize hq_:World.drewN wr _=wr;have n0_:Aside0 (Kd.R (Kd.int .i64) 2 wr w.heap.size (fun _=>True) aw aa):=⟨by rw [← hq_];exact(ro_ ae.out)⟩;have n1_:Aside0 (wr.heap[av]?=some (.cells #[.int .i64 0, .slice none 0 0] 64 (0,0))):=⟨by rw [← hq_];exact bk_⟩;have n2_:Aside0 (wr.heap[ah]?=some (.cells #[.int .i64 a1,aw] 64 (0,0))):=⟨by rw [← hq_];exact bk_⟩;have n3_:Aside0 (IsS168 w0 wr g s0_0 aW aX):=⟨by rw [← hq_];exact(by repeat (first | (with_reducible first | exact HI0.out | apply IsS168.alloc | apply IsS168.drewN | apply IsS168.drew | apply IsS168.set_1 | apply IsS168.set_2 | refine IsS168.far ?_ ai.out _ | refine IsS168.far ?_ aj.out _) | exact HI0.out))⟩;have n4_:Aside0 (KeepBut w wr g none):=⟨by rw [← hq_];exact(by repeat (first | (with_reducible first | exact HK.out | apply KeepBut.set_ | apply keep_drewN | apply keep_drew | apply keep_alloc | refine keep_far ?_ ax.out _ | refine keep_far ?_ aD.out _) | exact HK.out))⟩;have n5_:Aside0 (Below w0.heap.size w0 wr):=⟨by rw [← hq_];exact(by repeat (first | (with_reducible first | exact HB.out | apply below_alloc | apply pw_below_drewN | apply below_drew1 | refine below_set ?_ (IsS168.ge HI0.out) | refine below_set ?_ az.out | refine below_set ?_ aI.out) | exact HB.out))⟩;clear ae ag af HI0 HK HB hq_;have ae:=n0_;have ag:=n1_;have af:=n2_;have HI0:=n3_;have HK:=n4_;have HB:=n5_;clear n0_ n1_ n2_ n3_ n4_ n5_))))
                replace ae:=Aside0.mk (Kd.R_drew ae.out)
                replace ag:=Aside0.mk (blk_drew ag.out)
                replace af:=Aside0.mk (blk_drew af.out)
                replace HI0:=Aside0.mk (IsS168.drew HI0.out)
                replace HK:=Aside0.mk (keep_drew HK.out)
                replace HB:=Aside0.mk (below_drew1 HB.out)
                obtain⟨ib,ed,ek⟩:=Kd.R_slice ae.out
                (first | subst ek | (injection ek with f1_ f2_ f3_;have f4_:=f1_.symm;have f5_:=f3_.symm;clear f1_ f2_ f3_;subst f4_;subst f5_))
                have p859:0≤(ay:Int):=od_
                have q859:ay < (aa.length:Int):=od_
                obtain⟨gI,e859,hx859_0⟩:=Kd.at_int (Kd.R_reads' ae.out).2.2 ay p859 q859
                cases e859
                replace p859:=eq_true p859
                replace q859:=eq_true q859
                have p76:0≤(ay:Int):=od_
                have q76:(ay:Int) < ((aa.length:Int):Int):=od_
                obtain⟨go76,ic,ep,eu,gl76,cl76,HG76⟩:=Kd.R_form ae.out (by omega)
                (first | cases ep | (injection ep with ea_ en_ ec_;(first | subst ea_ | (injection ea_ with ea_;subst ea_));subst ec_;clear en_))
                have GB76:=Aside0.mk eu
                have GG76:=Aside0.mk HG76
                clear eu gl76 HG76
                (first | simp only [add_plain] at hx859_0 | skip)
                obtain⟨hx76_0,hf76_0⟩:=Kd.R_celln 0 ae.out (ay:Int) p76 q76
                replace p76:=eq_true p76
                replace q76:=eq_true q76
                have HN0_go76:=Aside0.mk (show g≠go76 from by have h_:=IsS168.own_ne HI0.out ae.out (by decide);intro e_;exact h_ (by rw [e_];rfl))
                have HP79:=Kd.R_putn ae.out (ay:Int) (Go.bits .or .i64 (rd aa ay) (ji75))
                rw [← eG.out] at HP79
                have HQ79:=Aside0.mk HP79
                clear HP79
                refine st_ (n:=14) (S:=fun w'=>w'.cell? ⟨ah,0,none⟩=some (.int .i64 a1)∧w'.cell? ⟨ah,1,none⟩=some (.slice (some ⟨go76,0,none⟩) aa.length ed)∧w'.cell? ⟨go76,(ay).toNat,none⟩=some (.int .i64 (rd aa ay))) (ds:= [13]) ⟨(blk_cell af.out 0).trans rfl,(blk_cell af.out 1).trans rfl,hx859_0⟩ (fun hHeld=>?_);refine with_tabW spec_l06DrawOf.tab34 spec_l06DrawOf.bits34 (fun HT_ HW_=>?_)
                generalize wr.drew=w77 at ae ag af HI0 HK HB GG76 HQ79 hf76_0 hx76_0 hx859_0 hHeld ⊢
                refine pu_ 0 156 ?_;refine pu_ 2 158 ?_;refine pu_ 3 159 ?_;refine pu_ 5 161 ?_;refine pu_ 8 164 ?_;refine pu_ 9 165 ?_;refine pu_ 10 166 ?_;refine tk_ 1 157 ?_;refine tk_ 4 160 ?_;refine pu_ 6 162 ?_;refine tk_ 7 163 ?_;refine pu_ 11 167 ?_;refine pu_ 12 168 ?_
                refine la_ 13 none (fun K hK=>?_)
                refine skip_ (w1:=?_) (by rfl) rfl ?_ ?_
                rotate_left
                ·go_simp
                 rfl
                refine hK.out _ _ ?_
                clear hK K
                refine done_ (done_of HT_.out (by kernel_rfl)) ?_
                try go_wp2
                go_roundg k2
                case measure=>have:=HK1.out;have:=HK2.out;omega
                case rel=>exact⟨(wrap64 (a9+1)),(d9),(.slice (some ⟨go76,0,none⟩) aa.length ed),rs_,H',⟨by have:=HK1.out;have:=HK2.out;omega⟩,⟨ro_ HQ79.out⟩,⟨by(with_reducible repeat (first | refine blk_drewN ?_ _ | refine blk_drew ?_ | refine blk_alloc ?_ _));refine blk_far ?_ (by have h_:=Kd.R_ne ae.out ag.out (by decide);intro e_;exact h_ (by rw [e_];rfl)) _;(with_reducible repeat (first | refine blk_drewN ?_ _ | refine blk_drew ?_ | refine blk_alloc ?_ _));exact ag.out⟩,⟨by(with_reducible repeat (first | refine blk_drewN ?_ _ | refine blk_drew ?_ | refine blk_alloc ?_ _));refine blk_far ?_ (by have h_:=Kd.R_ne ae.out af.out (by decide);intro e_;exact h_ (by rw [e_];rfl)) _;(with_reducible repeat (first | refine blk_drewN ?_ _ | refine blk_drew ?_ | refine blk_alloc ?_ _));exact af.out⟩,⟨by repeat (first | (with_reducible first | exact HI0.out | apply IsS168.alloc | apply IsS168.drewN | apply IsS168.drew | apply IsS168.set_1 | apply IsS168.set_2 | refine IsS168.far ?_ HN0_go76.out _ | refine IsS168.far ?_ ai.out _ | refine IsS168.far ?_ aj.out _) | exact HI0.out)⟩,⟨by repeat (first | (with_reducible first | exact HK.out | apply KeepBut.set_ | apply keep_drewN | apply keep_drew | apply keep_alloc | refine keep_far ?_ GB76.out _ | refine keep_far ?_ ax.out _ | refine keep_far ?_ aD.out _) | exact HK.out)⟩,⟨by repeat (first | (with_reducible first | exact HB.out | apply below_alloc | apply pw_below_drewN | apply below_drew1 | refine below_set ?_ (Nat.le_trans HL.out GB76.out) | refine below_set ?_ (IsS168.ge HI0.out) | refine below_set ?_ az.out | refine below_set ?_ aI.out) | exact HB.out)⟩⟩
               ·rw [if_neg c73] at H
                exact absurd H (by simp)
              ·rw [if_neg c72] at H
               exact absurd H (by simp)
             ·rw [if_neg c71] at H
              have c71b0:((Int.tmod bi 2)==0)=false:=beq_eq_false_iff_ne.mpr c71
              have c71b1:((Int.tmod bi 2) !=0)=true:=bne_iff_ne.mpr c71
              have H':=Aside0.mk H
              clear H
              go_wp2_with (first | ((with_reducible refine gate_callee (f:=139) rfl ?_);refine goesL_ (some 153) rfl rfl Try.func139 (by kernel_rfl) rfl #[.int .i64 ji69] rfl (by(try simp only [List.map_toArray,List.map_cons,List.map_nil]);first | done | (simp only [hji69];rfl) | rfl | (simp only [List.length_drop,List.length_take];rfl)) ?_;(with_reducible refine(spec_l01Ones.calls k2 ji69 bi _ A70.out).mono ?_);rintro e w' ⟨rfl,⟨nd,rfl⟩⟩;refine⟨_,rfl,?_⟩))
              go_roundg k2
              case measure=>have:=HK1.out;have:=HK2.out;omega
              case rel=>exact⟨(wrap64 (a9+1)),(aa),(aw),rs_,H',⟨by have:=HK1.out;have:=HK2.out;omega⟩,⟨ro_ ae.out⟩,⟨bk_⟩,⟨bk_⟩,⟨by repeat (first | (with_reducible first | exact HI0.out | apply IsS168.alloc | apply IsS168.drewN | apply IsS168.drew | apply IsS168.set_1 | apply IsS168.set_2 | refine IsS168.far ?_ ai.out _ | refine IsS168.far ?_ aj.out _) | exact HI0.out)⟩,⟨by repeat (first | (with_reducible first | exact HK.out | apply KeepBut.set_ | apply keep_drewN | apply keep_drew | apply keep_alloc | refine keep_far ?_ ax.out _ | refine keep_far ?_ aD.out _) | exact HK.out)⟩,⟨by repeat (first | (with_reducible first | exact HB.out | apply below_alloc | apply pw_below_drewN | apply below_drew1 | refine below_set ?_ (IsS168.ge HI0.out) | refine below_set ?_ az.out | refine below_set ?_ aI.out) | exact HB.out)⟩⟩
            ·rw [if_neg c68] at H
             exact absurd H (by simp)
           ·rw [if_neg c66] at H
            have c66b0:decide (a9 < a1)=false:=decide_eq_false c66
            clear c66
            have H':=Aside0.mk H
            clear H
            go_wp2
            go_roundg k2
            case measure=>have:=HK1.out;have:=HK2.out;omega
            case rel=>exact⟨(wrap64 (ay+1)),(aa),(aw),rs_,H',⟨by have:=HK1.out;have:=HK2.out;omega⟩,⟨ro_ ae.out⟩,⟨bk_⟩,⟨bk_⟩,⟨by repeat (first | (with_reducible first | exact HI0.out | apply IsS168.alloc | apply IsS168.drewN | apply IsS168.drew | apply IsS168.set_1 | apply IsS168.set_2 | refine IsS168.far ?_ ai.out _ | refine IsS168.far ?_ aj.out _) | exact HI0.out)⟩,⟨by repeat (first | (with_reducible first | exact HK.out | apply KeepBut.set_ | apply keep_drewN | apply keep_drew | apply keep_alloc | refine keep_far ?_ ax.out _ | refine keep_far ?_ aD.out _) | exact HK.out)⟩,⟨by repeat (first | (with_reducible first | exact HB.out | apply below_alloc | apply pw_below_drewN | apply below_drew1 | refine below_set ?_ (IsS168.ge HI0.out) | refine below_set ?_ az.out | refine below_set ?_ aI.out) | exact HB.out)⟩⟩
        ·rw [if_neg c61] at H
         have c61b0:decide (ay < (aq.length:Int))=false:=decide_eq_false c61
         clear c61
         simp only [Option.some.injEq,Prod.mk.injEq] at H
         obtain⟨rfl,rfl,rfl,rfl⟩:=H
         have gJ:=aM.out
         have gK:=aC.out
         have gL:=aH.out
         have gM:=aj.out
         have cE:wr.cell? ⟨ah,0,none⟩=some (.int .i64 a1):=(blk_cell af.out 0).trans rfl
         have cF:wr.cell? ⟨ah,1,none⟩=some (aw):=(blk_cell af.out 1).trans rfl
         have cG:=blk_frozen af.out 0
         have cH:=blk_frozen af.out 1
         obtain⟨ez,eB,eZ⟩:=Kd.R_slice ae.out
         subst eZ
         have gN:=aT.out
         have gO:=ai.out
         have cI:wr.cell? ⟨av,0,none⟩=some (.int .i64 0):=(blk_cell ag.out 0).trans rfl
         have cJ:wr.cell? ⟨av,1,none⟩=some (.slice none 0 0):=(blk_cell ag.out 1).trans rfl
         have cK:=blk_frozen ag.out 0
         have cL:=blk_frozen ag.out 1
         go_wp2
         refine bodyPost_ret (results_cell_row rfl _ _ av 64 #[.int .i64 a1, .slice ez aq.length eB] (0,0) _ rfl (by(with_reducible repeat (first | refine blk_drewN ?_ _ | refine blk_drew ?_ | refine blk_alloc ?_ _));refine blk_put (cs:= #[.int .i64 a1, .slice none 0 0]) ?_ 1 _ rfl;(with_reducible repeat (first | refine blk_drewN ?_ _ | refine blk_drew ?_ | refine blk_alloc ?_ _));refine blk_put (cs:= #[.int .i64 0, .slice none 0 0]) ?_ 0 _ rfl;(with_reducible repeat (first | refine blk_drewN ?_ _ | refine blk_drew ?_ | refine blk_alloc ?_ _));exact ag.out) Try.underlying64 rfl (by kernel_rfl)) rfl ?_
         exact⟨_,by first | rfl | (simp [errW_none,errW_some] <;> rfl) | (simp only [← hji3, ← hji5];first | rfl | (simp [errW_none,errW_some] <;> rfl)) | (simp [*,errW_none,errW_some] <;> rfl),by(with_reducible repeat (first | apply Kd.R_alloc | apply Kd.R_drewN | apply Kd.R_drew));exact Kd.R_mono (Kd.R_far (p:=⟨av,1,none⟩) (Kd.R_far (p:=⟨av,0,none⟩) (Kd.R_types ae.out ag.out (by decide)) (fun _ hk=>hk.2) (.int .i64 a1)) (fun _ hk=>hk.2) (.slice ez aq.length eB)) (fun _ hk=>trivial),by repeat (first | (with_reducible first | exact HI0.out | apply IsS168.alloc | apply IsS168.drewN | apply IsS168.drew | apply IsS168.set_1 | apply IsS168.set_2 | refine IsS168.far ?_ ai.out _ | refine IsS168.far ?_ aj.out _) | exact HI0.out),by repeat (first | (with_reducible first | exact HB.out | apply below_alloc | apply pw_below_drewN | apply below_drew1 | refine below_set ?_ (IsS168.ge HI0.out) | refine below_set ?_ az.out | refine below_set ?_ aI.out) | exact HB.out),by repeat (first | (with_reducible first | exact HK.out | apply KeepBut.set_ | apply keep_drewN | apply keep_drew | apply keep_alloc | refine keep_far ?_ ax.out _ | refine keep_far ?_ aD.out _) | exact HK.out)⟩
     ·rw [if_neg c51] at H
      have c51b0:(bg==1)=false:=beq_eq_false_iff_ne.mpr c51
      have c51b1:(bg !=1)=true:=bne_iff_ne.mpr c51
      replace H:=Option.bind_eq_some_iff.mp H
      obtain⟨⟨cf,ck,cl⟩,A860,H⟩:=H
      replace H:(spec_l06DrawOf.l4 k a1 cf 0 s0_0 ck cl a1 aG)=some (r1,r2,r3,r4):=H
      have A86:=Aside0.mk A860
      clear A860
      have H':=Aside0.mk H
      clear H
      go_enter Try.func172,Try.ntmps172
      go_wp2_with (first | ((with_reducible refine gate_dst (N:=4) rfl ?_);refine box_event ?hg (N:=4) ?hd (cs:= #[.int .i64 0, .slice none 0 0]) (t:=64) ?hr ?_;(case hd=>rfl);(case hg=>rfl);(case hr=>first | (go_simp;done) | (go_simp;rfl));intro av hg w87 hbox hb;replace HB:=Aside0.mk (below_step (by repeat (first | (with_reducible first | exact HB.out | apply below_alloc | apply pw_below_drewN | apply below_drew1 | refine below_set ?_ (IsS168.ge HI0.out)) | exact HB.out)) hb);have ag:=Aside0.mk (hbox);have ax:=Aside0.mk ((by rw [hg];exact(keep_size (w:=w) (g:=g) (row:=none) (by repeat (first | (with_reducible first | exact HK.out | apply KeepBut.set_ | apply keep_drewN | apply keep_drew | apply keep_alloc) | exact HK.out))):w.heap.size≤av));have az:=Aside0.mk ((Nat.le_trans HW0.out (by rw [hg];exact(keep_size (w:=w) (g:=g) (row:=none) (by repeat (first | (with_reducible first | exact HK.out | apply KeepBut.set_ | apply keep_drewN | apply keep_drew | apply keep_alloc) | exact HK.out))):w.heap.size≤av):w0.heap.size≤av));have ai:=Aside0.mk ((by rw [hg];exact Nat.ne_of_lt (IsS168.lt (show IsS168 w0 _ g s0_0 s0_1 s0_2 from by repeat (first | (with_reducible first | exact HI0.out | apply IsS168.alloc | apply IsS168.drewN | apply IsS168.drew | apply IsS168.set_1 | apply IsS168.set_2) | exact HI0.out))):g≠av));have aT:=Aside0.mk ((by rw [hg];exact Nat.ne_of_gt (IsS168.lt (show IsS168 w0 _ g s0_0 s0_1 s0_2 from by repeat (first | (with_reducible first | exact HI0.out | apply IsS168.alloc | apply IsS168.drewN | apply IsS168.drew | apply IsS168.set_1 | apply IsS168.set_2) | exact HI0.out))):av≠g));replace HI0:=Aside0.mk (IsS168.below (by repeat (first | (with_reducible first | exact HI0.out | apply IsS168.alloc | apply IsS168.drewN | apply IsS168.drew | apply IsS168.set_1 | apply IsS168.set_2) | exact HI0.out)) hb);replace HK:=Aside0.mk (KeepBut.trans (by repeat (first | (with_reducible first | exact HK.out | apply KeepBut.set_ | apply keep_drewN | apply keep_drew | apply keep_alloc) | exact HK.out)) (KeepBut.of_below hb g none) (.inl rfl));clear hb hbox hg) | ((with_reducible refine gate_dst (N:=20) rfl ?_);refine Kd.R_make (Kd.int .i64) _ 2 rfl (N:=20) rfl 23 _ _ rfl ji5 rfl rfl Try.underlying23 (.int .i64 0) 8 info2 rfl (by decide) (by omega) 0 (ok:=fun _=>True) (okp:=fun _=>True) rfl (fun _ hk=>hk) trivial od_ (Nat.le_trans (Nat.mul_le_mul_right _ (od_:ji5.toNat≤35184372088832)) (by omega)) (Below.refl _ _) (Nat.le_refl _) ?_;intro dM w88 cB hb hg_ hnew_;clear hg_ hnew_;(first | rw [← bK.out] at cB | (simp only [Int.reduceToNat] at cB;rw [← bK.out] at cB));have aN:=Aside0.mk (Kd.R_lower cB (keep_size (w:=w) (g:=g) (row:=none) (by repeat (first | (with_reducible first | exact HK.out | apply KeepBut.set_ | apply keep_drewN | apply keep_drew | apply keep_alloc | refine keep_far ?_ ax.out _) | exact HK.out))));replace ag:=Aside0.mk (bb_ ag.out hb);replace HB:=Aside0.mk (below_step (by repeat (first | (with_reducible first | exact HB.out | apply below_alloc | apply pw_below_drewN | apply below_drew1 | refine below_set ?_ (IsS168.ge HI0.out) | refine below_set ?_ az.out) | exact HB.out)) hb);replace HI0:=Aside0.mk (IsS168.below (by repeat (first | (with_reducible first | exact HI0.out | apply IsS168.alloc | apply IsS168.drewN | apply IsS168.drew | apply IsS168.set_1 | apply IsS168.set_2 | refine IsS168.far ?_ ai.out _) | exact HI0.out)) hb);replace HK:=Aside0.mk (KeepBut.trans (by repeat (first | (with_reducible first | exact HK.out | apply KeepBut.set_ | apply keep_drewN | apply keep_drew | apply keep_alloc | refine keep_far ?_ ax.out _) | exact HK.out)) (KeepBut.of_below hb g none) (.inl rfl));clear hb cB;obtain⟨cC,cD,fa⟩:=Kd.R_slice aN.out;subst fa) | ((with_reducible refine gate_dst (N:=5) rfl ?_);refine box_event ?hg (N:=5) ?hd (cs:= #[.int .i64 0, .slice none 0 0]) (t:=64) ?hr ?_;(case hd=>rfl);(case hg=>rfl);(case hr=>first | (go_simp;done) | (go_simp;rfl));intro ah hg w91 hbox hb;replace aN:=Aside0.mk (rb_ aN.out hb);replace HB:=Aside0.mk (below_step (by repeat (first | (with_reducible first | exact HB.out | apply below_alloc | apply pw_below_drewN | apply below_drew1 | refine below_set ?_ (IsS168.ge HI0.out) | refine below_set ?_ az.out) | exact HB.out)) hb);have af:=Aside0.mk (hbox);have aD:=Aside0.mk ((by rw [hg];exact(keep_size (w:=w) (g:=g) (row:=none) (by repeat (first | (with_reducible first | exact HK.out | apply KeepBut.set_ | apply keep_drewN | apply keep_drew | apply keep_alloc | refine keep_far ?_ ax.out _) | exact HK.out))):w.heap.size≤ah));have aI:=Aside0.mk ((Nat.le_trans HW0.out (by rw [hg];exact(keep_size (w:=w) (g:=g) (row:=none) (by repeat (first | (with_reducible first | exact HK.out | apply KeepBut.set_ | apply keep_drewN | apply keep_drew | apply keep_alloc | refine keep_far ?_ ax.out _) | exact HK.out))):w.heap.size≤ah):w0.heap.size≤ah));have aC:=Aside0.mk ((by rw [hg];exact lt_ ag.out:av≠ah));have aM:=Aside0.mk ((by rw [hg];exact gt_ ag.out:ah≠av));have aj:=Aside0.mk ((by rw [hg];exact Nat.ne_of_lt (IsS168.lt (show IsS168 w0 _ g s0_0 s0_1 s0_2 from by repeat (first | (with_reducible first | exact HI0.out | apply IsS168.alloc | apply IsS168.drewN | apply IsS168.drew | apply IsS168.set_1 | apply IsS168.set_2 | refine IsS168.far ?_ ai.out _) | exact HI0.out))):g≠ah));have aH:=Aside0.mk ((by rw [hg];exact Nat.ne_of_gt (IsS168.lt (show IsS168 w0 _ g s0_0 s0_1 s0_2 from by repeat (first | (with_reducible first | exact HI0.out | apply IsS168.alloc | apply IsS168.drewN | apply IsS168.drew | apply IsS168.set_1 | apply IsS168.set_2 | refine IsS168.far ?_ ai.out _) | exact HI0.out))):ah≠g));replace HI0:=Aside0.mk (IsS168.below (by repeat (first | (with_reducible first | exact HI0.out | apply IsS168.alloc | apply IsS168.drewN | apply IsS168.drew | apply IsS168.set_1 | apply IsS168.set_2 | refine IsS168.far ?_ ai.out _) | exact HI0.out)) hb);replace ag:=Aside0.mk (bb_ ag.out hb);replace HK:=Aside0.mk (KeepBut.trans (by repeat (first | (with_reducible first | exact HK.out | apply KeepBut.set_ | apply keep_drewN | apply keep_drew | apply keep_alloc | refine keep_far ?_ ax.out _) | exact HK.out)) (KeepBut.of_below hb g none) (.inl rfl));clear hb hbox hg;have gP:=aM.out;have gQ:=aC.out;have gS:=aH.out;have gT:=aj.out;have cN:w91.cell? ⟨ah,0,none⟩=some (.int .i64 0):=(blk_cell af.out 0).trans rfl;have cO:w91.cell? ⟨ah,1,none⟩=some (.slice none 0 0):=(blk_cell af.out 1).trans rfl;have cP:=blk_frozen af.out 0;have cQ:=blk_frozen af.out 1) | ((with_reducible refine gate_callee (f:=100) rfl ?_);refine gL_ 23 Try.func100 #[.pointer (some ⟨g,0,none⟩), .int .i64 4] ?_;(with_reducible refine(spec_l01Next.calls g s0_0 s0_1 s0_2 4 bg aW aX w0 _ ?aY ?aZ A8.out).mono ?_);(case aY=>repeat (first | (with_reducible first | exact HI0.out | apply IsS168.alloc | apply IsS168.drewN | apply IsS168.drew | apply IsS168.set_1 | apply IsS168.set_2 | refine IsS168.far ?_ ai.out _ | refine IsS168.far ?_ aj.out _) | exact HI0.out));(case aZ=>repeat (first | (with_reducible first | exact HB.out | apply below_alloc | apply pw_below_drewN | apply below_drew1 | refine below_set ?_ (IsS168.ge HI0.out) | refine below_set ?_ az.out | refine below_set ?_ aI.out) | exact HB.out));rintro e w95 ⟨rfl,hi,hb,hk⟩;refine⟨_,rfl,?_⟩;replace ag:=Aside0.mk (KeepBut.blk hk (g':=av) (o:= .cells #[.int .i64 0, .slice none 0 0] 64 (0,0)) (by(with_reducible repeat (first | refine blk_drewN ?_ _ | refine blk_drew ?_ | refine blk_alloc ?_ _));refine blk_far ?_ aC.out _;(with_reducible repeat (first | refine blk_drewN ?_ _ | refine blk_drew ?_ | refine blk_alloc ?_ _));refine blk_far ?_ aC.out _;(with_reducible repeat (first | refine blk_drewN ?_ _ | refine blk_drew ?_ | refine blk_alloc ?_ _));exact ag.out) aT.out (by simp));replace aN:=Aside0.mk (Kd.R_mono (Kd.R_keep (IsS168.apart (show IsS168 w0 _ g s0_0 s0_1 s0_2 from by repeat (first | (with_reducible first | exact HI0.out | apply IsS168.alloc | apply IsS168.drewN | apply IsS168.drew | apply IsS168.set_1 | apply IsS168.set_2 | refine IsS168.far ?_ ai.out _ | refine IsS168.far ?_ aj.out _) | exact HI0.out)) (by(with_reducible repeat (first | apply Kd.R_alloc | apply Kd.R_drewN | apply Kd.R_drew));exact(Kd.R_mono (Kd.R_far (p:=⟨ah,1,none⟩) (Kd.R_far (p:=⟨ah,0,none⟩) (Kd.R_types aN.out af.out (by decide)) (fun _ hk=>hk.2) (.int .i64 a1)) (fun _ hk=>hk.2) (.slice cC aG.length cD)) (fun _ h_=>h_.1))) (by decide)) hk (fun _ h=>h.2)) (fun _ h=>h.1));replace HK:=Aside0.mk (KeepBut.trans (by repeat (first | (with_reducible first | exact HK.out | apply KeepBut.set_ | apply keep_drewN | apply keep_drew | apply keep_alloc | refine keep_far ?_ ax.out _ | refine keep_far ?_ aD.out _) | exact HK.out)) hk (.inl rfl));replace HB:=Aside0.mk (hb);replace af:=Aside0.mk (KeepBut.blk hk (g':=ah) (o:= .cells #[.int .i64 a1, .slice cC aG.length cD] 64 (0,0)) (by(with_reducible repeat (first | refine blk_drewN ?_ _ | refine blk_drew ?_ | refine blk_alloc ?_ _));refine blk_put (cs:= #[.int .i64 a1, .slice none 0 0]) ?_ 1 _ rfl;(with_reducible repeat (first | refine blk_drewN ?_ _ | refine blk_drew ?_ | refine blk_alloc ?_ _));refine blk_put (cs:= #[.int .i64 0, .slice none 0 0]) ?_ 0 _ rfl;(with_reducible repeat (first | refine blk_drewN ?_ _ | refine blk_drew ?_ | refine blk_alloc ?_ _));exact af.out) aH.out (by simp));replace HI0:=Aside0.mk (hi);(try clear hb);(try clear hb2);(try clear hk);(try clear hi);have cR:w95.cell? ⟨ah,0,none⟩=some (.int .i64 a1):=(blk_cell af.out 0).trans rfl;have cS:w95.cell? ⟨ah,1,none⟩=some (.slice cC aG.length cD):=(blk_cell af.out 1).trans rfl;have cT:=blk_frozen af.out 0;have cU:=blk_frozen af.out 1) | ((with_reducible refine gate_callee (f:=100) rfl ?_);refine gL_ 28 Try.func100 #[.pointer (some ⟨g,0,none⟩), .int .i64 (aG.length:Int)] ?_;(with_reducible refine(spec_l01Next.calls g s0_0 aW aX (aG.length:Int) cf ck cl w0 _ ?aY ?aZ A86.out).mono ?_);(case aY=>repeat (first | (with_reducible first | exact HI0.out | apply IsS168.alloc | apply IsS168.drewN | apply IsS168.drew | apply IsS168.set_1 | apply IsS168.set_2 | refine IsS168.far ?_ ai.out _ | refine IsS168.far ?_ aj.out _) | exact HI0.out));(case aZ=>repeat (first | (with_reducible first | exact HB.out | apply below_alloc | apply pw_below_drewN | apply below_drew1 | refine below_set ?_ (IsS168.ge HI0.out) | refine below_set ?_ az.out | refine below_set ?_ aI.out) | exact HB.out));rintro e w97 ⟨rfl,hi,hb,hk⟩;refine⟨_,rfl,?_⟩;replace ag:=Aside0.mk (KeepBut.blk hk (g':=av) (o:= .cells #[.int .i64 0, .slice none 0 0] 64 (0,0)) bk_ aT.out (by simp));replace aN:=Aside0.mk (Kd.R_mono (Kd.R_keep (IsS168.apart (show IsS168 w0 _ g s0_0 aW aX from by repeat (first | (with_reducible first | exact HI0.out | apply IsS168.alloc | apply IsS168.drewN | apply IsS168.drew | apply IsS168.set_1 | apply IsS168.set_2 | refine IsS168.far ?_ ai.out _ | refine IsS168.far ?_ aj.out _) | exact HI0.out)) (ro_ aN.out) (by decide)) hk (fun _ h=>h.2)) (fun _ h=>h.1));replace af:=Aside0.mk (KeepBut.blk hk (g':=ah) (o:= .cells #[.int .i64 a1, .slice cC aG.length cD] 64 (0,0)) bk_ aH.out (by simp));replace HK:=Aside0.mk (KeepBut.trans (by repeat (first | (with_reducible first | exact HK.out | apply KeepBut.set_ | apply keep_drewN | apply keep_drew | apply keep_alloc | refine keep_far ?_ ax.out _ | refine keep_far ?_ aD.out _) | exact HK.out)) hk (.inl rfl));replace HB:=Aside0.mk (hb);replace HI0:=Aside0.mk (hi);(try clear hb);(try clear hb2);(try clear hk);(try clear hi)))
      go_loopg [12] k (fun kq v12 w'=> ∃(aV:Int) (aq:List Int) (aw:Value),v12= .int .i64 aV∧Aside0 (spec_l06DrawOf.l4 kq a1 cf aV s0_0 ck cl a1 aq=some (r1,r2,r3,r4))∧Aside0 (kq≤k)∧Aside0 (Kd.R (Kd.int .i64) 2 w' w.heap.size (fun _=>True) aw aq)∧Aside0 (w'.heap[av]?=some (.cells #[.int .i64 0,(.slice none 0 0)] 64 (0,0)))∧Aside0 (w'.heap[ah]?=some (.cells #[.int .i64 a1,aw] 64 (0,0)))∧Aside0 (IsS168 w0 w' g s0_0 ck cl)∧Aside0 (KeepBut w w' g none)∧Aside0 (Below w0.heap.size w0 w'))
      case atStart=>exact⟨(0),(aG),(.slice cC aG.length cD),rs_,H',⟨Nat.le_refl _⟩,⟨ro_ aN.out⟩,⟨bk_⟩,⟨bk_⟩,⟨by repeat (first | (with_reducible first | exact HI0.out | apply IsS168.alloc | apply IsS168.drewN | apply IsS168.drew | apply IsS168.set_1 | apply IsS168.set_2 | refine IsS168.far ?_ ai.out _ | refine IsS168.far ?_ aj.out _) | exact HI0.out)⟩,⟨by repeat (first | (with_reducible first | exact HK.out | apply KeepBut.set_ | apply keep_drewN | apply keep_drew | apply keep_alloc | refine keep_far ?_ ax.out _ | refine keep_far ?_ aD.out _) | exact HK.out)⟩,⟨by repeat (first | (with_reducible first | exact HB.out | apply below_alloc | apply pw_below_drewN | apply below_drew1 | refine below_set ?_ (IsS168.ge HI0.out) | refine below_set ?_ az.out | refine below_set ?_ aI.out) | exact HB.out)⟩⟩
      case round=>
       clear H'
       try clear c1
       try clear c2
       try clear p2
       try clear c3
       try clear p3
       try clear q3
       try clear hx3
       try clear hf3
       try clear c4
       try clear c4b0
       try clear c4b1
       try clear p4
       try clear q4
       try clear hx4
       try clear hf4
       try clear c5
       try clear c6
       try clear c6b0
       try clear c6b1
       try clear p6
       try clear c7
       try clear c7b0
       try clear c7b1
       try clear p7
       try clear q7
       try clear hx7
       try clear hf7
       try clear c8
       try clear p8
       try clear q8
       try clear hx8
       try clear c9
       try clear c9b0
       try clear c9b1
       try clear c10
       try clear c13
       try clear c15
       try clear c16
       try clear c17
       try clear c19
       try clear c19b0
       try clear c20
       try clear c21
       try clear c24
       try clear c24b0
       try clear c26
       try clear c26b0
       try clear c26b1
       try clear c28
       try clear c28b0
       try clear c28b1
       try clear c30
       try clear c30b0
       try clear c30b1
       try clear c31
       try clear c31b0
       try clear c32
       try clear c32b0
       try clear p33
       try clear q33
       try clear hx33
       try clear hf33
       try clear c38
       try clear c38b0
       try clear c39
       try clear c39b0
       try clear p40
       try clear q40
       try clear hx40
       try clear hf40
       try clear c45
       try clear c46
       try clear c49
       try clear c51
       try clear c51b0
       try clear c51b1
       try clear c57
       try clear c58
       try clear c61
       try clear c61b0
       try clear c62
       try clear c63
       try clear p64
       try clear c66
       try clear c66b0
       try clear c68
       try clear c68b0
       try clear c68b1
       try clear c71
       try clear c71b0
       try clear c71b1
       try clear c72
       try clear c72b0
       try clear c73
       try clear c73b0
       try clear c74
       try clear c74b0
       try clear p76
       try clear q76
       try clear hx76
       try clear hf76
       try clear c80
       try clear c81
       try clear c84
       try clear p85
       try clear q85
       try clear hx85
       try clear c92
       try clear c93
       try clear bn
       try clear bq
       try clear bw
       try clear bz
       try clear bN
       try clear bO
       try clear bS
       try clear bT
       try clear bW
       try clear bX
       try clear cm
       try clear cn
       try clear cE
       try clear cF
       try clear cI
       try clear cJ
       try clear cN
       try clear cO
       try clear cR
       try clear cS
       try clear bu
       try clear bv
       try clear bA
       try clear bC
       try clear bP
       try clear bQ
       try clear bU
       try clear bV
       try clear bY
       try clear bZ
       try clear co
       try clear cq
       try clear cG
       try clear cH
       try clear cK
       try clear cL
       try clear cP
       try clear cQ
       try clear cT
       try clear cU
       try clear hx33_0
       try clear hx40_0
       try clear hx76_0
       try clear hx854_0
       try clear hx856_0
       try clear hx859_0
       try clear p2
       try clear p3
       try clear p33
       try clear p4
       try clear p40
       try clear p6
       try clear p64
       try clear p76
       try clear p8
       try clear p854
       try clear p856
       try clear p859
       try clear q3
       try clear q33
       try clear q4
       try clear q40
       try clear q76
       try clear q8
       try clear q854
       try clear q856
       try clear q859
       obtain⟨aV,aq,aw,rfl,HA,HK1,ae,ag,af,HI0,HK,HB⟩:=hrel
       cases gk with
       | zero=>exact absurd HA.out (by simp [spec_l06DrawOf.l4])
       | succ k1=>
        have H:=HA.out
        clear HA
        simp only [spec_l06DrawOf.l4] at H
        by_cases c98:aV < (aq.length:Int)
        ·rw [if_pos c98] at H
         have c98b0:decide (aV < (aq.length:Int))=true:=decide_eq_true c98
         clear c98
         by_cases c99:0≤aV
         ·rw [if_pos c99] at H
          have c99b0:decide (0≤aV)=true:=decide_eq_true c99
          clear c99
          obtain⟨df,hy864⟩: ∃y_:List Int,y_=(aq.set (aV:Int).toNat (Go.bits .xor .i64 aV cf)):=⟨_,rfl⟩
          replace H:(spec_l06DrawOf.l4 k1 a1 cf (wrap64 (aV+1)) s0_0 ck cl a1 df)=some (r1,r2,r3,r4):=by first | (rw [hy864];with_reducible exact H) | (have H2_:=(Option.bind_some _ _).symm.trans H;rw [hy864];with_reducible exact H2_) | (have H2_:=(Option.bind_some _ _).symm.trans H;with_reducible exact H2_) | with_reducible exact H | (rw [hy864];exact H) | exact H
          have eH:=Aside0.mk hy864
          clear hy864
          have H':=Aside0.mk H
          clear H
          have fC:=aM.out
          have fD:=aC.out
          have fE:=aH.out
          have fF:=aj.out
          have dh:wr.cell? ⟨ah,0,none⟩=some (.int .i64 a1):=(blk_cell af.out 0).trans rfl
          have di:wr.cell? ⟨ah,1,none⟩=some (aw):=(blk_cell af.out 1).trans rfl
          have dl:=blk_frozen af.out 0
          have dm:=blk_frozen af.out 1
          obtain⟨gU,dB,eI⟩:=Kd.R_slice ae.out
          subst eI
          have p100:0≤(aV:Int):=od_
          have q100:(aV:Int) < ((aq.length:Int):Int):=od_
          obtain⟨go100,gV,dC,dD,gl100,cl100,HG100⟩:=Kd.R_form ae.out (by omega)
          (first | cases dC | (injection dC with ea_ en_ ec_;(first | subst ea_ | (injection ea_ with ea_;subst ea_));subst ec_;clear en_))
          have GB100:=Aside0.mk dD
          have GG100:=Aside0.mk HG100
          clear dD gl100 HG100
          obtain⟨hx100_0,hf100_0⟩:=Kd.R_celln 0 ae.out (aV:Int) p100 q100
          replace p100:=eq_true p100
          replace q100:=eq_true q100
          have HP105:=Kd.R_putg ae.out (aV:Int) (Go.bits .xor .i64 aV cf)
          go_wp2_with (first | ((with_reducible refine gate_store (t:=2) (p:=42) rfl ?_);refine store_event (t:=2) (p:=42) (v:=?vo_w106) (w1:=(wr.setCell ⟨go100,(aV:Int).toNat,none⟩ (.int .i64 (Go.bits .xor .i64 aV cf)))) ?hg ?ho ?hn ?hr ?_;(case ho=>rfl);(case hg=>rfl);(case hn=>rfl);(case hr=>first | (go_simp;done) | (go_simp;rfl));intro w106 hw;have hg:wr.grownBy w106 (some go100):=(by rw [hw];exact HP105.2);have hp_:Kd.R (Kd.int .i64) 2 w106 w.heap.size (fun _=>True) (.slice (some ⟨go100,0,none⟩) aq.length dB) df:=(by rw [hw,eH.out];exact HP105.1);clear HP105;replace ag:=Aside0.mk (bg_ ag.out hg (Kd.R_ne ae.out ag.out (by decide)));replace af:=Aside0.mk (bg_ af.out hg (Kd.R_ne ae.out af.out (by decide)));replace HI0:=Aside0.mk (IsS168.grown (by repeat (first | (with_reducible first | exact HI0.out | apply IsS168.alloc | apply IsS168.drewN | apply IsS168.drew | apply IsS168.set_1 | apply IsS168.set_2 | refine IsS168.far ?_ ai.out _ | refine IsS168.far ?_ aj.out _) | exact HI0.out)) hg (IsS168.own_ne HI0.out ae.out (by decide)));replace HB:=Aside0.mk ((by rw [hw];exact below_set (HB.out) (Nat.le_trans HL.out GB100.out):Below w0.heap.size w0 w106));replace HK:=Aside0.mk (KeepBut.trans (by repeat (first | (with_reducible first | exact HK.out | apply KeepBut.set_ | apply keep_drewN | apply keep_drew | apply keep_alloc | refine keep_far ?_ ax.out _ | refine keep_far ?_ aD.out _) | exact HK.out)) (KeepBut.of_grown hg g) (Kd.R_base2 ae.out));replace ae:=Aside0.mk (hp_);clear hg hw hp_))
          go_roundg k1
          case measure=>have:=HK1.out;omega
          case rel=>exact⟨(wrap64 (aV+1)),(df),(.slice (some ⟨go100,0,none⟩) aq.length dB),rs_,H',⟨by have:=HK1.out;omega⟩,⟨ro_ ae.out⟩,⟨bk_⟩,⟨bk_⟩,⟨by repeat (first | (with_reducible first | exact HI0.out | apply IsS168.alloc | apply IsS168.drewN | apply IsS168.drew | apply IsS168.set_1 | apply IsS168.set_2 | refine IsS168.far ?_ ai.out _ | refine IsS168.far ?_ aj.out _) | exact HI0.out)⟩,⟨by repeat (first | (with_reducible first | exact HK.out | apply KeepBut.set_ | apply keep_drewN | apply keep_drew | apply keep_alloc | refine keep_far ?_ ax.out _ | refine keep_far ?_ aD.out _) | exact HK.out)⟩,⟨by repeat (first | (with_reducible first | exact HB.out | apply below_alloc | apply pw_below_drewN | apply below_drew1 | refine below_set ?_ (IsS168.ge HI0.out) | refine below_set ?_ az.out | refine below_set ?_ aI.out) | exact HB.out)⟩⟩
         ·rw [if_neg c99] at H
          exact absurd H (by simp)
        ·rw [if_neg c98] at H
         have c98b0:decide (aV < (aq.length:Int))=false:=decide_eq_false c98
         clear c98
         replace H:=Option.bind_eq_some_iff.mp H
         obtain⟨⟨dq,dr,du⟩,A1070,H⟩:=H
         replace H:(spec_l06DrawOf.l5 k1 a1 dq s0_0 dr du a1 aq)=some (r1,r2,r3,r4):=H
         have A107:=Aside0.mk A1070
         clear A1070
         have H':=Aside0.mk H
         clear H
         have fG:=aM.out
         have fH:=aC.out
         have fI:=aH.out
         have fJ:=aj.out
         have dw:wr.cell? ⟨ah,0,none⟩=some (.int .i64 a1):=(blk_cell af.out 0).trans rfl
         have dx:wr.cell? ⟨ah,1,none⟩=some (aw):=(blk_cell af.out 1).trans rfl
         have dz:=blk_frozen af.out 0
         have dA:=blk_frozen af.out 1
         obtain⟨dE,dF,eJ⟩:=Kd.R_slice ae.out
         subst eJ
         go_wp2_with (first | ((with_reducible refine gate_callee (f:=100) rfl ?_);refine gL_ 44 Try.func100 #[.pointer (some ⟨g,0,none⟩), .int .i64 4] ?_;(with_reducible refine(spec_l01Next.calls g s0_0 ck cl 4 dq dr du w0 _ ?aY ?aZ A107.out).mono ?_);(case aY=>repeat (first | (with_reducible first | exact HI0.out | apply IsS168.alloc | apply IsS168.drewN | apply IsS168.drew | apply IsS168.set_1 | apply IsS168.set_2 | refine IsS168.far ?_ ai.out _ | refine IsS168.far ?_ aj.out _) | exact HI0.out));(case aZ=>repeat (first | (with_reducible first | exact HB.out | apply below_alloc | apply pw_below_drewN | apply below_drew1 | refine below_set ?_ (IsS168.ge HI0.out) | refine below_set ?_ az.out | refine below_set ?_ aI.out) | exact HB.out));rintro e w112 ⟨rfl,hi,hb,hk⟩;refine⟨_,rfl,?_⟩;replace ae:=Aside0.mk (Kd.R_mono (Kd.R_keep (IsS168.apart (show IsS168 w0 _ g s0_0 ck cl from by repeat (first | (with_reducible first | exact HI0.out | apply IsS168.alloc | apply IsS168.drewN | apply IsS168.drew | apply IsS168.set_1 | apply IsS168.set_2 | refine IsS168.far ?_ ai.out _ | refine IsS168.far ?_ aj.out _) | exact HI0.out)) (ro_ ae.out) (by decide)) hk (fun _ h=>h.2)) (fun _ h=>h.1));replace ag:=Aside0.mk (KeepBut.blk hk (g':=av) (o:= .cells #[.int .i64 0, .slice none 0 0] 64 (0,0)) bk_ aT.out (by simp));replace af:=Aside0.mk (KeepBut.blk hk (g':=ah) (o:= .cells #[.int .i64 a1, .slice dE aq.length dF] 64 (0,0)) bk_ aH.out (by simp));replace HK:=Aside0.mk (KeepBut.trans (by repeat (first | (with_reducible first | exact HK.out | apply KeepBut.set_ | apply keep_drewN | apply keep_drew | apply keep_alloc | refine keep_far ?_ ax.out _ | refine keep_far ?_ aD.out _) | exact HK.out)) hk (.inl rfl));replace HB:=Aside0.mk (hb);replace HI0:=Aside0.mk (hi);(try clear hb);(try clear hb2);(try clear hk);(try clear hi)))
         go_loopg [13] k1 (fun kq v13 w'=> ∃(bf:Int) (aJ:Int) (aK:Int) (aa:List Int) (aw:Value),v13= .int .i64 bf∧Aside0 (spec_l06DrawOf.l5 kq a1 bf s0_0 aJ aK a1 aa=some (r1,r2,r3,r4))∧Aside0 (kq≤k1)∧Aside0 (Kd.R (Kd.int .i64) 2 w' w.heap.size (fun _=>True) aw aa)∧Aside0 (w'.heap[av]?=some (.cells #[.int .i64 0,(.slice none 0 0)] 64 (0,0)))∧Aside0 (w'.heap[ah]?=some (.cells #[.int .i64 a1,aw] 64 (0,0)))∧Aside0 (IsS168 w0 w' g s0_0 aJ aK)∧Aside0 (KeepBut w w' g none)∧Aside0 (Below w0.heap.size w0 w'))
         case atStart=>exact⟨(dq),(dr),(du),(aq),(.slice dE aq.length dF),rs_,H',⟨Nat.le_refl _⟩,⟨ro_ ae.out⟩,⟨bk_⟩,⟨bk_⟩,⟨by repeat (first | (with_reducible first | exact HI0.out | apply IsS168.alloc | apply IsS168.drewN | apply IsS168.drew | apply IsS168.set_1 | apply IsS168.set_2 | refine IsS168.far ?_ ai.out _ | refine IsS168.far ?_ aj.out _) | exact HI0.out)⟩,⟨by repeat (first | (with_reducible first | exact HK.out | apply KeepBut.set_ | apply keep_drewN | apply keep_drew | apply keep_alloc | refine keep_far ?_ ax.out _ | refine keep_far ?_ aD.out _) | exact HK.out)⟩,⟨by repeat (first | (with_reducible first | exact HB.out | apply below_alloc | apply pw_below_drewN | apply below_drew1 | refine below_set ?_ (IsS168.ge HI0.out) | refine below_set ?_ az.out | refine below_set ?_ aI.out) | exact HB.out)⟩⟩
         case round=>
          clear H'
          try clear c1
          try clear p1
          try clear q1
          try clear hx1
          try clear c2
          try clear p2
          try clear c3
          try clear p3
          try clear q3
          try clear hx3
          try clear hf3
          try clear c4
          try clear c4b0
          try clear c4b1
          try clear p4
          try clear q4
          try clear hx4
          try clear hf4
          try clear c5
          try clear c6
          try clear c6b0
          try clear c6b1
          try clear p6
          try clear c7
          try clear c7b0
          try clear c7b1
          try clear p7
          try clear q7
          try clear hx7
          try clear hf7
          try clear c8
          try clear p8
          try clear q8
          try clear hx8
          try clear c9
          try clear c9b0
          try clear c9b1
          try clear c10
          try clear p10
          try clear q10
          try clear hx10
          try clear hf10
          try clear c13
          try clear c15
          try clear c16
          try clear c17
          try clear c19
          try clear c19b0
          try clear c20
          try clear c21
          try clear c24
          try clear c24b0
          try clear c26
          try clear c26b0
          try clear c26b1
          try clear c28
          try clear c28b0
          try clear c28b1
          try clear c30
          try clear c30b0
          try clear c30b1
          try clear c31
          try clear c31b0
          try clear c32
          try clear c32b0
          try clear p33
          try clear q33
          try clear hx33
          try clear hf33
          try clear c38
          try clear c38b0
          try clear c39
          try clear c39b0
          try clear p40
          try clear q40
          try clear hx40
          try clear hf40
          try clear c45
          try clear c46
          try clear c49
          try clear c51
          try clear c51b0
          try clear c51b1
          try clear c57
          try clear c58
          try clear c61
          try clear c61b0
          try clear c62
          try clear c63
          try clear p64
          try clear c66
          try clear c66b0
          try clear c68
          try clear c68b0
          try clear c68b1
          try clear c71
          try clear c71b0
          try clear c71b1
          try clear c72
          try clear c72b0
          try clear c73
          try clear c73b0
          try clear c74
          try clear c74b0
          try clear p76
          try clear q76
          try clear hx76
          try clear hf76
          try clear c80
          try clear c81
          try clear c84
          try clear p85
          try clear q85
          try clear hx85
          try clear c92
          try clear c93
          try clear c98
          try clear c98b0
          try clear c99
          try clear c99b0
          try clear c100
          try clear p100
          try clear q100
          try clear hx100
          try clear hf100
          try clear c101
          try clear c102
          try clear c108
          try clear c109
          try clear dh
          try clear di
          try clear dw
          try clear dx
          try clear bn
          try clear bq
          try clear bw
          try clear bz
          try clear bN
          try clear bO
          try clear bS
          try clear bT
          try clear bW
          try clear bX
          try clear cm
          try clear cn
          try clear cE
          try clear cF
          try clear cI
          try clear cJ
          try clear cN
          try clear cO
          try clear cR
          try clear cS
          try clear dl
          try clear dm
          try clear dz
          try clear dA
          try clear bu
          try clear bv
          try clear bA
          try clear bC
          try clear bP
          try clear bQ
          try clear bU
          try clear bV
          try clear bY
          try clear bZ
          try clear co
          try clear cq
          try clear cG
          try clear cH
          try clear cK
          try clear cL
          try clear cP
          try clear cQ
          try clear cT
          try clear cU
          try clear hx100_0
          try clear hx33_0
          try clear hx40_0
          try clear hx76_0
          try clear hx854_0
          try clear hx856_0
          try clear hx859_0
          try clear p100
          try clear p2
          try clear p3
          try clear p33
          try clear p4
          try clear p40
          try clear p6
          try clear p64
          try clear p7
          try clear p76
          try clear p8
          try clear p85
          try clear p854
          try clear p856
          try clear p859
          try clear q100
          try clear q3
          try clear q33
          try clear q4
          try clear q40
          try clear q7
          try clear q76
          try clear q8
          try clear q85
          try clear q854
          try clear q856
          try clear q859
          obtain⟨bf,aJ,aK,aa,aw,rfl,HA,HK2,ae,ag,af,HI0,HK,HB⟩:=hrel
          cases gk with
          | zero=>exact absurd HA.out (by simp [spec_l06DrawOf.l5])
          | succ k2=>
           have H:=HA.out
           clear HA
           simp only [spec_l06DrawOf.l5] at H
           by_cases c113:bf > 0
           ·rw [if_pos c113] at H
            have c113b0:decide (0 < bf)=true:=decide_eq_true c113
            clear c113
            replace H:=Option.bind_eq_some_iff.mp H
            obtain⟨⟨ak,cV,cW⟩,A1140,H⟩:=H
            replace H:((spec_l01Next.f s0_0 cV cW a1).bind fun bk=>(if 0≤(IntKind.u64.wrap (bk.1)) then(if 0≤ak then(if ak < (aa.length:Int) then((some (aa.set (ak:Int).toNat (Go.bits .xor .i64 (rd aa ak) (shl .i64 1 (IntKind.u64.wrap (bk.1)))):List Int)).bind fun bb=>(if 0≤(Go.bits .xor .i64 ak (shl .i64 1 (IntKind.u64.wrap (bk.1)))) then(if(Go.bits .xor .i64 ak (shl .i64 1 (IntKind.u64.wrap (bk.1)))) < (aa.length:Int) then(spec_l06DrawOf.l5 k2 a1 (wrap64 (bf - 1)) s0_0 bk.2.1 bk.2.2 a1 (bb.set ((Go.bits .xor .i64 ak (shl .i64 1 (IntKind.u64.wrap (bk.1)))):Int).toNat (Go.bits .xor .i64 (rd bb (Go.bits .xor .i64 ak (shl .i64 1 (IntKind.u64.wrap (bk.1))))) (shl .i64 1 (IntKind.u64.wrap (bk.1)))))) else(none)) else(none))) else(none)) else(none)) else(none)))=some (r1,r2,r3,r4):=H
            have A114:=Aside0.mk A1140
            clear A1140
            replace H:=Option.bind_eq_some_iff.mp H
            obtain⟨⟨bD,bI,bJ⟩,A1150,H⟩:=H
            replace H:(if 0≤(IntKind.u64.wrap (bD)) then(if 0≤ak then(if ak < (aa.length:Int) then((some (aa.set (ak:Int).toNat (Go.bits .xor .i64 (rd aa ak) (shl .i64 1 (IntKind.u64.wrap (bD)))):List Int)).bind fun bb=>(if 0≤(Go.bits .xor .i64 ak (shl .i64 1 (IntKind.u64.wrap (bD)))) then(if(Go.bits .xor .i64 ak (shl .i64 1 (IntKind.u64.wrap (bD)))) < (aa.length:Int) then(spec_l06DrawOf.l5 k2 a1 (wrap64 (bf - 1)) s0_0 bI bJ a1 (bb.set ((Go.bits .xor .i64 ak (shl .i64 1 (IntKind.u64.wrap (bD)))):Int).toNat (Go.bits .xor .i64 (rd bb (Go.bits .xor .i64 ak (shl .i64 1 (IntKind.u64.wrap (bD))))) (shl .i64 1 (IntKind.u64.wrap (bD)))))) else(none)) else(none))) else(none)) else(none)) else(none))=some (r1,r2,r3,r4):=H
            have A115:=Aside0.mk A1150
            clear A1150
            obtain⟨ji116,hji116⟩: ∃j_:Int,(IntKind.u64.wrap (bD))=j_:=⟨_,rfl⟩
            replace H:(if 0≤(ji116) then(if 0≤ak then(if ak < (aa.length:Int) then((some (aa.set (ak:Int).toNat (Go.bits .xor .i64 (rd aa ak) (shl .i64 1 (ji116))):List Int)).bind fun bb=>(if 0≤(Go.bits .xor .i64 ak (shl .i64 1 (ji116))) then(if(Go.bits .xor .i64 ak (shl .i64 1 (ji116))) < (aa.length:Int) then(spec_l06DrawOf.l5 k2 a1 (wrap64 (bf - 1)) s0_0 bI bJ a1 (bb.set ((Go.bits .xor .i64 ak (shl .i64 1 (ji116))):Int).toNat (Go.bits .xor .i64 (rd bb (Go.bits .xor .i64 ak (shl .i64 1 (ji116)))) (shl .i64 1 (ji116))))) else(none)) else(none))) else(none)) else(none)) else(none))=some (r1,r2,r3,r4):=by first | (rw [hji116] at H;exact H) | (simp only [hji116] at H ⊢;exact H)
            (try rw [hji116] at A114)
            (try rw [hji116] at A115)
            by_cases c117:0≤(ji116)
            ·rw [if_pos c117] at H
             have c117b0:=eq_true c117
             have c117b1:decide (0≤(ji116))=true:=decide_eq_true c117
             clear c117
             obtain⟨ji118,hji118⟩: ∃j_:Int,(shl .i64 1 (ji116))=j_:=⟨_,rfl⟩
             replace H:(if 0≤ak then(if ak < (aa.length:Int) then((some (aa.set (ak:Int).toNat (Go.bits .xor .i64 (rd aa ak) (ji118)):List Int)).bind fun bb=>(if 0≤(Go.bits .xor .i64 ak (ji118)) then(if(Go.bits .xor .i64 ak (ji118)) < (aa.length:Int) then(spec_l06DrawOf.l5 k2 a1 (wrap64 (bf - 1)) s0_0 bI bJ a1 (bb.set ((Go.bits .xor .i64 ak (ji118)):Int).toNat (Go.bits .xor .i64 (rd bb (Go.bits .xor .i64 ak (ji118))) (ji118)))) else(none)) else(none))) else(none)) else(none))=some (r1,r2,r3,r4):=by first | (rw [hji118] at H;exact H) | (simp only [hji118] at H ⊢;exact H)
             (try rw [hji118] at A114)
             (try rw [hji118] at A115)
             have hji118_:(IntKind.i64.wrap (1*2 ^ min (ji116).toNat 64))=ji118:=hji118
             have hji118z:(ji116)≤64→(IntKind.i64.wrap (1*2 ^ (ji116).toNat))=ji118:=shl_small hji118
             have hji118u:(IntKind.i64.wrap (2 ^ min (ji116).toNat 64))=ji118:=by have h_:=hji118_;rw [Int.one_mul] at h_;exact h_
             have hji118v:(ji116)≤64→(IntKind.i64.wrap (2 ^ (ji116).toNat))=ji118:=fun hle_=>by have h_:=hji118z hle_;rw [Int.one_mul] at h_;exact h_
             have hji118y:(wrap64 (1*2 ^ min (ji116).toNat 64))=ji118:=(i64_w _).symm.trans hji118_
             have hji118x:(ji116)≤64→(wrap64 (1*2 ^ (ji116).toNat))=ji118:=fun h_=>(i64_w _).symm.trans (hji118z h_)
             by_cases c119:0≤ak
             ·rw [if_pos c119] at H
              have c119b0:decide (0≤ak)=true:=decide_eq_true c119
              clear c119
              by_cases c120:ak < (aa.length:Int)
              ·rw [if_pos c120] at H
               have c120b0:decide (ak < (aa.length:Int))=true:=decide_eq_true c120
               clear c120
               obtain⟨bb,hy875⟩: ∃y_:List Int,y_=(aa.set (ak:Int).toNat (Go.bits .xor .i64 (rd aa ak) (ji118))):=⟨_,rfl⟩
               replace H:(if 0≤(Go.bits .xor .i64 ak (ji118)) then(if(Go.bits .xor .i64 ak (ji118)) < (aa.length:Int) then(spec_l06DrawOf.l5 k2 a1 (wrap64 (bf - 1)) s0_0 bI bJ a1 (bb.set ((Go.bits .xor .i64 ak (ji118)):Int).toNat (Go.bits .xor .i64 (rd bb (Go.bits .xor .i64 ak (ji118))) (ji118)))) else(none)) else(none))=some (r1,r2,r3,r4):=by first | (rw [hy875];with_reducible exact H) | (have H2_:=(Option.bind_some _ _).symm.trans H;rw [hy875];with_reducible exact H2_) | (have H2_:=(Option.bind_some _ _).symm.trans H;with_reducible exact H2_) | with_reducible exact H | (rw [hy875];exact H) | exact H
               have dG:=Aside0.mk hy875
               clear hy875
               by_cases c122:0≤(Go.bits .xor .i64 ak (ji118))
               ·rw [if_pos c122] at H
                have c122b0:decide (0≤(Go.bits .xor .i64 ak (ji118)))=true:=decide_eq_true c122
                clear c122
                by_cases c123:(Go.bits .xor .i64 ak (ji118)) < (aa.length:Int)
                ·rw [if_pos c123] at H
                 have c123b0:decide ((Go.bits .xor .i64 ak (ji118)) < (aa.length:Int))=true:=decide_eq_true c123
                 clear c123
                 obtain⟨eC,hy877⟩: ∃y_:List Int,y_=(bb.set ((Go.bits .xor .i64 ak (ji118)):Int).toNat (Go.bits .xor .i64 (rd bb (Go.bits .xor .i64 ak (ji118))) (ji118))):=⟨_,rfl⟩
                 replace H:(spec_l06DrawOf.l5 k2 a1 (wrap64 (bf - 1)) s0_0 bI bJ a1 eC)=some (r1,r2,r3,r4):=by first | (rw [hy877];with_reducible exact H) | (have H2_:=(Option.bind_some _ _).symm.trans H;rw [hy877];with_reducible exact H2_) | (have H2_:=(Option.bind_some _ _).symm.trans H;with_reducible exact H2_) | with_reducible exact H | (rw [hy877];exact H) | exact H
                 have eK:=Aside0.mk hy877
                 clear hy877
                 have H':=Aside0.mk H
                 clear H
                 have fK:=aM.out
                 have fL:=aC.out
                 have fM:=aH.out
                 have fN:=aj.out
                 have fc:wr.cell? ⟨ah,0,none⟩=some (.int .i64 a1):=(blk_cell af.out 0).trans rfl
                 have fe:wr.cell? ⟨ah,1,none⟩=some (aw):=(blk_cell af.out 1).trans rfl
                 have fg:=blk_frozen af.out 0
                 have fj:=blk_frozen af.out 1
                 obtain⟨dH,bE,eL⟩:=Kd.R_slice ae.out
                 subst eL
                 try go_wp2_with (first | ((with_reducible refine gate_callee (f:=100) rfl ?_);refine gL_ 53 Try.func100 #[.pointer (some ⟨g,0,none⟩), .int .i64 (aa.length:Int)] ?_;(with_reducible refine(spec_l01Next.calls g s0_0 aJ aK (aa.length:Int) ak cV cW w0 _ ?aY ?aZ A114.out).mono ?_);(case aY=>repeat (first | (with_reducible first | exact HI0.out | apply IsS168.alloc | apply IsS168.drewN | apply IsS168.drew | apply IsS168.set_1 | apply IsS168.set_2 | refine IsS168.far ?_ ai.out _ | refine IsS168.far ?_ aj.out _) | exact HI0.out));(case aZ=>repeat (first | (with_reducible first | exact HB.out | apply below_alloc | apply pw_below_drewN | apply below_drew1 | refine below_set ?_ (IsS168.ge HI0.out) | refine below_set ?_ az.out | refine below_set ?_ aI.out) | exact HB.out));rintro e w129 ⟨rfl,hi,hb,hk⟩;refine⟨_,rfl,?_⟩;replace ae:=Aside0.mk (Kd.R_mono (Kd.R_keep (IsS168.apart (show IsS168 w0 _ g s0_0 aJ aK from by repeat (first | (with_reducible first | exact HI0.out | apply IsS168.alloc | apply IsS168.drewN | apply IsS168.drew | apply IsS168.set_1 | apply IsS168.set_2 | refine IsS168.far ?_ ai.out _ | refine IsS168.far ?_ aj.out _) | exact HI0.out)) (ro_ ae.out) (by decide)) hk (fun _ h=>h.2)) (fun _ h=>h.1));replace ag:=Aside0.mk (KeepBut.blk hk (g':=av) (o:= .cells #[.int .i64 0, .slice none 0 0] 64 (0,0)) bk_ aT.out (by simp));replace af:=Aside0.mk (KeepBut.blk hk (g':=ah) (o:= .cells #[.int .i64 a1, .slice dH aa.length bE] 64 (0,0)) bk_ aH.out (by simp));replace HK:=Aside0.mk (KeepBut.trans (by repeat (first | (with_reducible first | exact HK.out | apply KeepBut.set_ | apply keep_drewN | apply keep_drew | apply keep_alloc | refine keep_far ?_ ax.out _ | refine keep_far ?_ aD.out _) | exact HK.out)) hk (.inl rfl));replace HB:=Aside0.mk (hb);replace HI0:=Aside0.mk (hi);(try clear hb);(try clear hb2);(try clear hk);(try clear hi)) | ((with_reducible refine gate_callee (f:=100) rfl ?_);refine gL_ 56 Try.func100 #[.pointer (some ⟨g,0,none⟩), .int .i64 a1] ?_;(with_reducible refine(spec_l01Next.calls g s0_0 cV cW a1 bD bI bJ w0 _ ?aY ?aZ A115.out).mono ?_);(case aY=>repeat (first | (with_reducible first | exact HI0.out | apply IsS168.alloc | apply IsS168.drewN | apply IsS168.drew | apply IsS168.set_1 | apply IsS168.set_2 | refine IsS168.far ?_ ai.out _ | refine IsS168.far ?_ aj.out _) | exact HI0.out));(case aZ=>repeat (first | (with_reducible first | exact HB.out | apply below_alloc | apply pw_below_drewN | apply below_drew1 | refine below_set ?_ (IsS168.ge HI0.out) | refine below_set ?_ az.out | refine below_set ?_ aI.out) | exact HB.out));rintro e w130 ⟨rfl,hi,hb,hk⟩;refine⟨_,rfl,?_⟩;replace ae:=Aside0.mk (Kd.R_mono (Kd.R_keep (IsS168.apart (show IsS168 w0 _ g s0_0 cV cW from by repeat (first | (with_reducible first | exact HI0.out | apply IsS168.alloc | apply IsS168.drewN | apply IsS168.drew | apply IsS168.set_1 | apply IsS168.set_2 | refine IsS168.far ?_ ai.out _ | refine IsS168.far ?_ aj.out _) | exact HI0.out)) (ro_ ae.out) (by decide)) hk (fun _ h=>h.2)) (fun _ h=>h.1));replace ag:=Aside0.mk (KeepBut.blk hk (g':=av) (o:= .cells #[.int .i64 0, .slice none 0 0] 64 (0,0)) bk_ aT.out (by simp));replace af:=Aside0.mk (KeepBut.blk hk (g':=ah) (o:= .cells #[.int .i64 a1, .slice dH aa.length bE] 64 (0,0)) bk_ aH.out (by simp));replace HK:=Aside0.mk (KeepBut.trans (by repeat (first | (with_reducible first | exact HK.out | apply KeepBut.set_ | apply keep_drewN | apply keep_drew | apply keep_alloc | refine keep_far ?_ ax.out _ | refine keep_far ?_ aD.out _) | exact HK.out)) hk (.inl rfl));replace HB:=Aside0.mk (hb);replace HI0:=Aside0.mk (hi);(try clear hb);(try clear hb2);(try clear hk);(try clear hi)))
                 replace ae:=Aside0.mk (Kd.R_drew ae.out)
                 replace ag:=Aside0.mk (blk_drew ag.out)
                 replace af:=Aside0.mk (blk_drew af.out)
                 replace HI0:=Aside0.mk (IsS168.drew HI0.out)
                 replace HK:=Aside0.mk (keep_drew HK.out)
                 replace HB:=Aside0.mk (below_drew1 HB.out)
                 have p874:0≤(ak:Int):=od_
                 have q874:ak < (aa.length:Int):=od_
                 obtain⟨gW,e874,hx874_0⟩:=Kd.at_int (Kd.R_reads' ae.out).2.2 ak p874 q874
                 cases e874
                 replace p874:=eq_true p874
                 replace q874:=eq_true q874
                 have p121:0≤(ak:Int):=od_
                 have q121:(ak:Int) < ((aa.length:Int):Int):=od_
                 obtain⟨go121,gX,dI,dJ,gl121,cl121,HG121⟩:=Kd.R_form ae.out (by omega)
                 (first | cases dI | (injection dI with ea_ en_ ec_;(first | subst ea_ | (injection ea_ with ea_;subst ea_));subst ec_;clear en_))
                 have GB121:=Aside0.mk dJ
                 have GG121:=Aside0.mk HG121
                 clear dJ gl121 HG121
                 (first | simp only [add_plain] at hx874_0 | skip)
                 obtain⟨hx121_0,hf121_0⟩:=Kd.R_celln 0 ae.out (ak:Int) p121 q121
                 replace p121:=eq_true p121
                 replace q121:=eq_true q121
                 have HN0_go121:=Aside0.mk (show g≠go121 from by have h_:=IsS168.own_ne HI0.out ae.out (by decide);intro e_;exact h_ (by rw [e_];rfl))
                 have HP132:=Kd.R_putn ae.out (ak:Int) (Go.bits .xor .i64 (rd aa ak) (ji118))
                 rw [← dG.out] at HP132
                 have HQ132:=Aside0.mk HP132
                 clear HP132
                 refine st_ (n:=12) (S:=fun w'=>w'.cell? ⟨ah,0,none⟩=some (.int .i64 a1)∧w'.cell? ⟨ah,1,none⟩=some (.slice (some ⟨go121,0,none⟩) aa.length bE)∧w'.cell? ⟨go121,(ak).toNat,none⟩=some (.int .i64 (rd aa ak))) (ds:= [11]) ⟨(blk_cell af.out 0).trans rfl,(blk_cell af.out 1).trans rfl,hx874_0⟩ (fun hHeld=>?_);refine with_tabW spec_l06DrawOf.tab12 spec_l06DrawOf.bits12 (fun HT_ HW_=>?_)
                 generalize w130.drew=w131 at ae ag af HI0 HK HB GG121 HQ132 hf121_0 hx121_0 hx874_0 hHeld ⊢
                 refine pu_ 0 59 ?_;refine pu_ 2 61 ?_;refine pu_ 3 62 ?_;refine pu_ 5 64 ?_;refine pu_ 8 67 ?_;refine tk_ 1 60 ?_;refine tk_ 4 63 ?_;refine pu_ 6 65 ?_;refine tk_ 7 66 ?_;refine pu_ 9 68 ?_;refine pu_ 10 69 ?_
                 refine la_ 11 none (fun K hK=>?_)
                 refine skip_ (w1:=?_) (by rfl) rfl ?_ ?_
                 rotate_left
                 ·go_simp
                  rfl
                 refine hK.out _ _ ?_
                 clear hK K
                 refine done_ (done_of HT_.out (by kernel_rfl)) ?_
                 try go_wp2
                 have n0_:Aside0 (Kd.R (Kd.int .i64) 2 (w131.setCell ⟨go121,(ak:Int).toNat,none⟩ (.int .i64 (Go.bits .xor .i64 (rd aa ak) (ji118)))) w.heap.size (fun _=>True) (.slice (some ⟨go121,0,none⟩) aa.length bE) bb):=⟨ro_ HQ132.out⟩
                 have n1_:Aside0 ((w131.setCell ⟨go121,(ak:Int).toNat,none⟩ (.int .i64 (Go.bits .xor .i64 (rd aa ak) (ji118)))).heap[av]?=some (.cells #[.int .i64 0, .slice none 0 0] 64 (0,0))):=⟨by(with_reducible repeat (first | refine blk_drewN ?_ _ | refine blk_drew ?_ | refine blk_alloc ?_ _));refine blk_far ?_ (by have h_:=Kd.R_ne ae.out ag.out (by decide);intro e_;exact h_ (by rw [e_];rfl)) _;(with_reducible repeat (first | refine blk_drewN ?_ _ | refine blk_drew ?_ | refine blk_alloc ?_ _));exact ag.out⟩
                 have n2_:Aside0 ((w131.setCell ⟨go121,(ak:Int).toNat,none⟩ (.int .i64 (Go.bits .xor .i64 (rd aa ak) (ji118)))).heap[ah]?=some (.cells #[.int .i64 a1, .slice (some ⟨go121,0,none⟩) aa.length bE] 64 (0,0))):=⟨by(with_reducible repeat (first | refine blk_drewN ?_ _ | refine blk_drew ?_ | refine blk_alloc ?_ _));refine blk_far ?_ (by have h_:=Kd.R_ne ae.out af.out (by decide);intro e_;exact h_ (by rw [e_];rfl)) _;(with_reducible repeat (first | refine blk_drewN ?_ _ | refine blk_drew ?_ | refine blk_alloc ?_ _));exact af.out⟩
                 have n3_:Aside0 (IsS168 w0 (w131.setCell ⟨go121,(ak:Int).toNat,none⟩ (.int .i64 (Go.bits .xor .i64 (rd aa ak) (ji118)))) g s0_0 bI bJ):=⟨by repeat (first | (with_reducible first | exact HI0.out | apply IsS168.alloc | apply IsS168.drewN | apply IsS168.drew | apply IsS168.set_1 | apply IsS168.set_2 | refine IsS168.far ?_ HN0_go121.out _ | refine IsS168.far ?_ ai.out _ | refine IsS168.far ?_ aj.out _) | exact HI0.out)⟩
                 have n4_:Aside0 (KeepBut w (w131.setCell ⟨go121,(ak:Int).toNat,none⟩ (.int .i64 (Go.bits .xor .i64 (rd aa ak) (ji118)))) g none):=⟨by repeat (first | (with_reducible first | exact HK.out | apply KeepBut.set_ | apply keep_drewN | apply keep_drew | apply keep_alloc | refine keep_far ?_ GB121.out _ | refine keep_far ?_ ax.out _ | refine keep_far ?_ aD.out _) | exact HK.out)⟩
                 have n5_:Aside0 (Below w0.heap.size w0 (w131.setCell ⟨go121,(ak:Int).toNat,none⟩ (.int .i64 (Go.bits .xor .i64 (rd aa ak) (ji118))))):=⟨by repeat (first | (with_reducible first | exact HB.out | apply below_alloc | apply pw_below_drewN | apply below_drew1 | refine below_set ?_ (Nat.le_trans HL.out GB121.out) | refine below_set ?_ (IsS168.ge HI0.out) | refine below_set ?_ az.out | refine below_set ?_ aI.out) | exact HB.out)⟩
                 (try clear ae)
                 (try clear ag)
                 (try clear af)
                 (try clear HI0)
                 (try clear HK)
                 (try clear HB)
                 generalize (w131.setCell ⟨go121,(ak:Int).toNat,none⟩ (.int .i64 (Go.bits .xor .i64 (rd aa ak) (ji118))))=w133 at n0_ n1_ n2_ n3_ n4_ n5_ ⊢
                 have ae:=n0_
                 have ag:=n1_
                 have af:=n2_
                 have HI0:=n3_
                 have HK:=n4_
                 have HB:=n5_
                 clear n0_ n1_ n2_ n3_ n4_ n5_
                 replace ae:=Aside0.mk (Kd.R_drew ae.out)
                 replace ag:=Aside0.mk (blk_drew ag.out)
                 replace af:=Aside0.mk (blk_drew af.out)
                 replace HI0:=Aside0.mk (IsS168.drew HI0.out)
                 replace HK:=Aside0.mk (keep_drew HK.out)
                 replace HB:=Aside0.mk (below_drew1 HB.out)
                 have p876:0≤((Go.bits .xor .i64 ak (ji118)):Int):=od_
                 have q876:(Go.bits .xor .i64 ak (ji118)) < (bb.length:Int):=(by have h_:((Go.bits .xor .i64 ak (ji118)):Int) < ((aa.length:Int):Int):=od_;first | (have e_:=(Kd.R_reads' ae.out).1;omega) | simpa only [dG.out,List.length_set] using h_)
                 have ql876:(((Go.bits .xor .i64 ak (ji118)):Int) < ((aa.length:Int):Int))=True:=eq_true od_
                 obtain⟨eM,e876,hx876_0⟩:=Kd.at_int (Kd.R_reads' ae.out).2.2 (Go.bits .xor .i64 ak (ji118)) p876 q876
                 obtain rfl:(⟨go121,0,none⟩:Addr)=eM:=(by injection e876)
                 (first | simp only [add_plain] at hx876_0 | simp only [add_at] at hx876_0 | simp only [Addr.add,Nat.zero_add] at hx876_0 | skip)
                 replace p876:=eq_true p876
                 replace q876:=eq_true q876
                 have p124:0≤((Go.bits .xor .i64 ak (ji118)):Int):=od_
                 have q124:((Go.bits .xor .i64 ak (ji118)):Int) < ((aa.length:Int):Int):=od_
                 obtain⟨hx124_0,hf124_0⟩:=Kd.R_celln 0 ae.out ((Go.bits .xor .i64 ak (ji118)):Int) p124 q124
                 replace p124:=eq_true p124
                 replace q124:=eq_true q124
                 have HN0_go121:=Aside0.mk (show g≠go121 from by have h_:=IsS168.own_ne HI0.out ae.out (by decide);intro e_;exact h_ (by rw [e_];rfl))
                 have HP135:=Kd.R_putn ae.out ((Go.bits .xor .i64 ak (ji118)):Int) (Go.bits .xor .i64 (rd bb (Go.bits .xor .i64 ak (ji118))) (ji118))
                 rw [← eK.out] at HP135
                 have HQ135:=Aside0.mk HP135
                 clear HP135
                 refine st_ (n:=16) (S:=fun w'=>w'.cell? ⟨ah,0,none⟩=some (.int .i64 a1)∧w'.cell? ⟨ah,1,none⟩=some (.slice (some ⟨go121,0,none⟩) aa.length bE)∧w'.cell? ⟨go121,((Go.bits .xor .i64 ak (ji118))).toNat,none⟩=some (.int .i64 (rd bb (Go.bits .xor .i64 ak (ji118))))) (ds:= [15]) ⟨(blk_cell af.out 0).trans rfl,(blk_cell af.out 1).trans rfl,hx876_0⟩ (fun hHeld=>?_);refine with_tabW spec_l06DrawOf.tab13 spec_l06DrawOf.bits13 (fun HT_ HW_=>?_)
                 generalize w133.drew=w134 at ae ag af HI0 HK HB HQ132 HQ135 hf124_0 hx124_0 hx876_0 hHeld ⊢
                 refine pu_ 0 70 ?_;refine pu_ 2 72 ?_;refine pu_ 3 73 ?_;refine pu_ 4 74 ?_;refine pu_ 5 75 ?_;refine pu_ 7 77 ?_;refine pu_ 8 78 ?_;refine pu_ 9 79 ?_;refine pu_ 12 82 ?_;refine tk_ 1 71 ?_;refine tk_ 6 76 ?_;refine pu_ 10 80 ?_;refine tk_ 11 81 ?_;refine pu_ 13 83 ?_;refine pu_ 14 84 ?_
                 refine la_ 15 none (fun K hK=>?_)
                 refine skip_ (w1:=?_) (by rfl) rfl ?_ ?_
                 rotate_left
                 ·go_simp
                  rfl
                 refine hK.out _ _ ?_
                 clear hK K
                 refine done_ (done_of HT_.out (by kernel_rfl)) ?_
                 try go_wp2
                 go_roundg k2
                 case measure=>have:=HK1.out;have:=HK2.out;omega
                 case rel=>exact⟨(wrap64 (bf - 1)),(bI),(bJ),(eC),(.slice (some ⟨go121,0,none⟩) aa.length bE),rs_,H',⟨by have:=HK1.out;have:=HK2.out;omega⟩,⟨ro_ HQ135.out⟩,⟨by(with_reducible repeat (first | refine blk_drewN ?_ _ | refine blk_drew ?_ | refine blk_alloc ?_ _));refine blk_far ?_ (by have h_:=Kd.R_ne ae.out ag.out (by decide);intro e_;exact h_ (by rw [e_];rfl)) _;(with_reducible repeat (first | refine blk_drewN ?_ _ | refine blk_drew ?_ | refine blk_alloc ?_ _));exact ag.out⟩,⟨by(with_reducible repeat (first | refine blk_drewN ?_ _ | refine blk_drew ?_ | refine blk_alloc ?_ _));refine blk_far ?_ (by have h_:=Kd.R_ne ae.out af.out (by decide);intro e_;exact h_ (by rw [e_];rfl)) _;(with_reducible repeat (first | refine blk_drewN ?_ _ | refine blk_drew ?_ | refine blk_alloc ?_ _));exact af.out⟩,⟨by repeat (first | (with_reducible first | exact HI0.out | apply IsS168.alloc | apply IsS168.drewN | apply IsS168.drew | apply IsS168.set_1 | apply IsS168.set_2 | refine IsS168.far ?_ HN0_go121.out _ | refine IsS168.far ?_ ai.out _ | refine IsS168.far ?_ aj.out _) | exact HI0.out)⟩,⟨by repeat (first | (with_reducible first | exact HK.out | apply KeepBut.set_ | apply keep_drewN | apply keep_drew | apply keep_alloc | refine keep_far ?_ GB121.out _ | refine keep_far ?_ ax.out _ | refine keep_far ?_ aD.out _) | exact HK.out)⟩,⟨by repeat (first | (with_reducible first | exact HB.out | apply below_alloc | apply pw_below_drewN | apply below_drew1 | refine below_set ?_ (Nat.le_trans HL.out GB121.out) | refine below_set ?_ (IsS168.ge HI0.out) | refine below_set ?_ az.out | refine below_set ?_ aI.out) | exact HB.out)⟩⟩
                ·rw [if_neg c123] at H
                 exact absurd H (by simp)
               ·rw [if_neg c122] at H
                exact absurd H (by simp)
              ·rw [if_neg c120] at H
               exact absurd H (by simp)
             ·rw [if_neg c119] at H
              exact absurd H (by simp)
            ·rw [if_neg c117] at H
             exact absurd H (by simp)
           ·rw [if_neg c113] at H
            have c113b0:decide (0 < bf)=false:=decide_eq_false c113
            clear c113
            simp only [Option.some.injEq,Prod.mk.injEq] at H
            obtain⟨rfl,rfl,rfl,rfl⟩:=H
            have fO:=aM.out
            have fP:=aC.out
            have fQ:=aH.out
            have fR:=aj.out
            have fk:wr.cell? ⟨ah,0,none⟩=some (.int .i64 a1):=(blk_cell af.out 0).trans rfl
            have fo:wr.cell? ⟨ah,1,none⟩=some (aw):=(blk_cell af.out 1).trans rfl
            have fp:=blk_frozen af.out 0
            have fq:=blk_frozen af.out 1
            have fS:=aT.out
            have fT:=ai.out
            have fu:wr.cell? ⟨av,0,none⟩=some (.int .i64 0):=(blk_cell ag.out 0).trans rfl
            have fw:wr.cell? ⟨av,1,none⟩=some (.slice none 0 0):=(blk_cell ag.out 1).trans rfl
            have fA:=blk_frozen ag.out 0
            have fB:=blk_frozen ag.out 1
            obtain⟨dK,dL,eO⟩:=Kd.R_slice ae.out
            subst eO
            go_wp2
            refine bodyPost_ret (results_cell_row rfl _ _ av 64 #[.int .i64 a1, .slice dK aa.length dL] (0,0) _ rfl (by(with_reducible repeat (first | refine blk_drewN ?_ _ | refine blk_drew ?_ | refine blk_alloc ?_ _));refine blk_put (cs:= #[.int .i64 a1, .slice none 0 0]) ?_ 1 _ rfl;(with_reducible repeat (first | refine blk_drewN ?_ _ | refine blk_drew ?_ | refine blk_alloc ?_ _));refine blk_put (cs:= #[.int .i64 0, .slice none 0 0]) ?_ 0 _ rfl;(with_reducible repeat (first | refine blk_drewN ?_ _ | refine blk_drew ?_ | refine blk_alloc ?_ _));exact ag.out) Try.underlying64 rfl (by kernel_rfl)) rfl ?_
            exact⟨_,by first | rfl | (simp [errW_none,errW_some] <;> rfl) | (simp only [← hji3, ← hji5];first | rfl | (simp [errW_none,errW_some] <;> rfl)) | (simp [*,errW_none,errW_some] <;> rfl),by(with_reducible repeat (first | apply Kd.R_alloc | apply Kd.R_drewN | apply Kd.R_drew));exact Kd.R_mono (Kd.R_far (p:=⟨av,1,none⟩) (Kd.R_far (p:=⟨av,0,none⟩) (Kd.R_types ae.out ag.out (by decide)) (fun _ hk=>hk.2) (.int .i64 a1)) (fun _ hk=>hk.2) (.slice dK aa.length dL)) (fun _ hk=>trivial),by repeat (first | (with_reducible first | exact HI0.out | apply IsS168.alloc | apply IsS168.drewN | apply IsS168.drew | apply IsS168.set_1 | apply IsS168.set_2 | refine IsS168.far ?_ ai.out _ | refine IsS168.far ?_ aj.out _) | exact HI0.out),by repeat (first | (with_reducible first | exact HB.out | apply below_alloc | apply pw_below_drewN | apply below_drew1 | refine below_set ?_ (IsS168.ge HI0.out) | refine below_set ?_ az.out | refine below_set ?_ aI.out) | exact HB.out),by repeat (first | (with_reducible first | exact HK.out | apply KeepBut.set_ | apply keep_drewN | apply keep_drew | apply keep_alloc | refine keep_far ?_ ax.out _ | refine keep_far ?_ aD.out _) | exact HK.out)⟩
   ·rw [if_neg c7] at H
    exact absurd H (by simp)
  ·rw [if_neg c6] at H
   exact absurd H (by simp)
 ·rw [if_neg c4] at H
  exact absurd H (by simp)
def spec_l06Draw.f (k:Nat) (s0_0:List Int) (s0_1:Int) (s0_2:Int):Option (Int × List Int × Int × Int):=(spec_l01Pick.f s0_0 s0_1 s0_2 (([1,2,2,3,3,4,5]:List Int))).bind fun af=>((spec_l06DrawOf.f k s0_0 af.2.1 af.2.2 af.1).bind fun aa=>((spec_l01Next.f s0_0 aa.2.2.1 aa.2.2.2 40).bind fun ae=>(if ae.1=0 then(if 0 < (aa.2.1.length:Int) then(some (aa.1,(aa.2.1.set (0:Int).toNat (Go.bits .xor .i64 (rd aa.2.1 0) 1)),ae.2.1,ae.2.2)) else(none)) else(if ae.1=1 then((spec_l01Pick.f s0_0 ae.2.1 ae.2.2 (([0,6,1,2]:List Int))).bind fun ag=>(some (ag.1,aa.2.1,ag.2.1,ag.2.2))) else(some (aa.1,aa.2.1,ae.2.1,ae.2.2))))))
theorem spec_l06Draw.mono: ∀a0 a1 a2 k,LeO (spec_l06Draw.f k a0 a1 a2) (spec_l06Draw.f (k+1) a0 a1 a2):=by
 intro a0 a1 a2 k
 unfold spec_l06Draw.f
 repeat' first
   | (with_reducible exact spec_l06DrawOf.mono _ _ _ _ _)
   | (with_reducible exact LeO.refl _)
   | (with_reducible exact LeO.none _)
   | (with_reducible refine LeO.ite ?_ ?_)
   | (with_reducible refine LeO.bind ?_ (fun _=>?_))
   | exact spec_l06DrawOf.mono _ _ _ _ _
   | exact LeO.none _
   | refine LeO.ite ?_ ?_
   | refine LeO.bind ?_ (fun _=>?_)
def spec_l06Draw.T4:Bool × List (List Nat × List Nat):=(true, [([], []),([0], [0]),([], []),([2], [2]),([3], [3]),([4], [4]),([5], [5]),([1,0,1,2,3,4,5,6], [1]),([7,6,0,1,2,3,4,5,6], [6,7])])
def spec_l06Draw.B4:List Nat:= [0,1,0,4,12,28,60,127,255]
theorem spec_l06Draw.tab4:rtab .any (opsOf Try.f126 4)=spec_l06Draw.T4:=by kernel_rfl
theorem spec_l06Draw.bits4:waitsOk spec_l06Draw.T4.2 spec_l06Draw.B4=true:=by kernel_rfl
theorem spec_l06Draw.calls (k:Nat) (g:Nat) (s0_0:List Int) (s0_1:Int) (s0_2:Int) (r1:Int) (r2:List Int) (r3:Int) (r4:Int) (w0 w:World) (hI:IsS168 w0 w g s0_0 s0_1 s0_2) (hB:Below w0.heap.size w0 w) (h:spec_l06Draw.f k s0_0 s0_1 s0_2=some (r1,r2,r3,r4)):
  Calls Try.prog 126 #[.pointer (some ⟨g,0,none⟩)] w fun e w'=> ∃v1_:Value,e= .returned (.agg #[.int .i64 r1,v1_])∧Kd.R (Kd.int .i64) 2 w' w.heap.size (fun _=>True) v1_ r2∧IsS168 w0 w' g s0_0 r3 r4∧Below w0.heap.size w0 w'∧KeepBut w w' g none:=by
 have hu64:=Try.underlying64
 have HI0:=Aside0.mk hI
 have HK:=Aside0.mk (KeepBut.refl w g none)
 have HL:=Aside0.mk hB.size
 clear hI
 have HW0:=Aside0.mk hB.size
 have HB:=Aside0.mk hB
 clear hB
 have H:((spec_l01Pick.f s0_0 s0_1 s0_2 (([1,2,2,3,3,4,5]:List Int))).bind fun ba=>((spec_l06DrawOf.f k s0_0 ba.2.1 ba.2.2 ba.1).bind fun aw=>((spec_l01Next.f s0_0 aw.2.2.1 aw.2.2.2 40).bind fun au=>(if au.1=0 then(if 0 < (aw.2.1.length:Int) then(some (aw.1,(aw.2.1.set (0:Int).toNat (Go.bits .xor .i64 (rd aw.2.1 0) 1)),au.2.1,au.2.2)) else(none)) else(if au.1=1 then((spec_l01Pick.f s0_0 au.2.1 au.2.2 (([0,6,1,2]:List Int))).bind fun ay=>(some (ay.1,aw.2.1,ay.2.1,ay.2.2))) else(some (aw.1,aw.2.1,au.2.1,au.2.2)))))))=some (r1,r2,r3,r4):=h
 clear h
 obtain⟨aW,hy879⟩: ∃y_:List Int,y_=(([1,2,2,3,3,4,5]:List Int)):=⟨_,rfl⟩
 replace H:((spec_l01Pick.f s0_0 s0_1 s0_2 aW).bind fun ba=>((spec_l06DrawOf.f k s0_0 ba.2.1 ba.2.2 ba.1).bind fun aw=>((spec_l01Next.f s0_0 aw.2.2.1 aw.2.2.2 40).bind fun au=>(if au.1=0 then(if 0 < (aw.2.1.length:Int) then(some (aw.1,(aw.2.1.set (0:Int).toNat (Go.bits .xor .i64 (rd aw.2.1 0) 1)),au.2.1,au.2.2)) else(none)) else(if au.1=1 then((spec_l01Pick.f s0_0 au.2.1 au.2.2 (([0,6,1,2]:List Int))).bind fun ay=>(some (ay.1,aw.2.1,ay.2.1,ay.2.2))) else(some (aw.1,aw.2.1,au.2.1,au.2.2)))))))=some (r1,r2,r3,r4):=by first | (rw [hy879];with_reducible exact H) | (have H2_:=(Option.bind_some _ _).symm.trans H;rw [hy879];with_reducible exact H2_) | (have H2_:=(Option.bind_some _ _).symm.trans H;with_reducible exact H2_) | with_reducible exact H | (rw [hy879];exact H) | exact H
 have bh:=Aside0.mk hy879
 clear hy879
 replace H:=Option.bind_eq_some_iff.mp H
 obtain⟨⟨aX,aY,aZ⟩,A20,H⟩:=H
 replace H:((spec_l06DrawOf.f k s0_0 aY aZ aX).bind fun aw=>((spec_l01Next.f s0_0 aw.2.2.1 aw.2.2.2 40).bind fun au=>(if au.1=0 then(if 0 < (aw.2.1.length:Int) then(some (aw.1,(aw.2.1.set (0:Int).toNat (Go.bits .xor .i64 (rd aw.2.1 0) 1)),au.2.1,au.2.2)) else(none)) else(if au.1=1 then((spec_l01Pick.f s0_0 au.2.1 au.2.2 (([0,6,1,2]:List Int))).bind fun ay=>(some (ay.1,aw.2.1,ay.2.1,ay.2.2))) else(some (aw.1,aw.2.1,au.2.1,au.2.2))))))=some (r1,r2,r3,r4):=H
 have A2:=Aside0.mk A20
 clear A20
 replace H:=Option.bind_eq_some_iff.mp H
 obtain⟨⟨ax,aj,aH,aI⟩,A30,H⟩:=H
 replace H:((spec_l01Next.f s0_0 aH aI 40).bind fun au=>(if au.1=0 then(if 0 < (aj.length:Int) then(some (ax,(aj.set (0:Int).toNat (Go.bits .xor .i64 (rd aj 0) 1)),au.2.1,au.2.2)) else(none)) else(if au.1=1 then((spec_l01Pick.f s0_0 au.2.1 au.2.2 (([0,6,1,2]:List Int))).bind fun ay=>(some (ay.1,aj,ay.2.1,ay.2.2))) else(some (ax,aj,au.2.1,au.2.2)))))=some (r1,r2,r3,r4):=H
 have A3:=Aside0.mk A30
 clear A30
 replace H:=Option.bind_eq_some_iff.mp H
 obtain⟨⟨aM,aT,aU⟩,A40,H⟩:=H
 replace H:(if aM=0 then(if 0 < (aj.length:Int) then(some (ax,(aj.set (0:Int).toNat (Go.bits .xor .i64 (rd aj 0) 1)),aT,aU)) else(none)) else(if aM=1 then((spec_l01Pick.f s0_0 aT aU (([0,6,1,2]:List Int))).bind fun ay=>(some (ay.1,aj,ay.2.1,ay.2.2))) else(some (ax,aj,aT,aU))))=some (r1,r2,r3,r4):=H
 have A4:=Aside0.mk A40
 clear A40
 by_cases c5:aM=0
 ·rw [if_pos c5] at H
  have c5b0:(aM==0)=true:=beq_iff_eq.mpr c5
  have c5b1:(aM !=0)=false:=bne_eq_false_iff_eq.mpr c5
  clear c5
  by_cases c6:0 < (aj.length:Int)
  ·rw [if_pos c6] at H
   have c6b0:decide (0 < (aj.length:Int))=true:=decide_eq_true c6
   have c6b1:decide (0 < aj.length)=true:=decide_eq_true (by omega)
   clear c6
   obtain⟨bI,hy896⟩: ∃y_:List Int,y_=(aj.set (0:Int).toNat (Go.bits .xor .i64 (rd aj 0) 1)):=⟨_,rfl⟩
   replace H:(some (ax,bI,aT,aU))=some (r1,r2,r3,r4):=by first | (rw [hy896];with_reducible exact H) | (have H2_:=(Option.bind_some _ _).symm.trans H;rw [hy896];with_reducible exact H2_) | (have H2_:=(Option.bind_some _ _).symm.trans H;with_reducible exact H2_) | with_reducible exact H | (rw [hy896];exact H) | exact H
   have bN:=Aside0.mk hy896
   clear hy896
   simp only [Option.some.injEq,Prod.mk.injEq] at H
   obtain⟨rfl,rfl,rfl,rfl⟩:=H
   go_enter Try.func126,Try.ntmps126
   try go_wp2_with (first | ((with_reducible refine gate_dst (N:=2) rfl ?_);refine box_event ?hg (N:=2) ?hd (cs:= #[.int .i64 0, .slice none 0 0]) (t:=64) ?hr ?_;(case hd=>rfl);(case hg=>rfl);(case hr=>first | (go_simp;done) | (go_simp;rfl));intro ai hg w8 hbox hb;replace HB:=Aside0.mk (below_step (by repeat (first | (with_reducible first | exact HB.out | apply below_alloc | apply pw_below_drewN | apply below_drew1 | refine below_set ?_ (IsS168.ge HI0.out)) | exact HB.out)) hb);have ae:=Aside0.mk (hbox);have aq:=Aside0.mk ((by rw [hg];exact(keep_size (w:=w) (g:=g) (row:=none) (by repeat (first | (with_reducible first | exact HK.out | apply KeepBut.set_ | apply keep_drewN | apply keep_drew | apply keep_alloc) | exact HK.out))):w.heap.size≤ai));have az:=Aside0.mk ((Nat.le_trans HW0.out (by rw [hg];exact(keep_size (w:=w) (g:=g) (row:=none) (by repeat (first | (with_reducible first | exact HK.out | apply KeepBut.set_ | apply keep_drewN | apply keep_drew | apply keep_alloc) | exact HK.out))):w.heap.size≤ai):w0.heap.size≤ai));have aa:=Aside0.mk ((by rw [hg];exact Nat.ne_of_lt (IsS168.lt (show IsS168 w0 _ g s0_0 s0_1 s0_2 from by repeat (first | (with_reducible first | exact HI0.out | apply IsS168.alloc | apply IsS168.drewN | apply IsS168.drew | apply IsS168.set_1 | apply IsS168.set_2) | exact HI0.out))):g≠ai));have aC:=Aside0.mk ((by rw [hg];exact Nat.ne_of_gt (IsS168.lt (show IsS168 w0 _ g s0_0 s0_1 s0_2 from by repeat (first | (with_reducible first | exact HI0.out | apply IsS168.alloc | apply IsS168.drewN | apply IsS168.drew | apply IsS168.set_1 | apply IsS168.set_2) | exact HI0.out))):ai≠g));replace HI0:=Aside0.mk (IsS168.below (by repeat (first | (with_reducible first | exact HI0.out | apply IsS168.alloc | apply IsS168.drewN | apply IsS168.drew | apply IsS168.set_1 | apply IsS168.set_2) | exact HI0.out)) hb);replace HK:=Aside0.mk (KeepBut.trans (by repeat (first | (with_reducible first | exact HK.out | apply KeepBut.set_ | apply keep_drewN | apply keep_drew | apply keep_alloc) | exact HK.out)) (KeepBut.of_below hb g none) (.inl rfl));clear hb hbox hg) | ((with_reducible refine gate_dst (N:=6) rfl ?_);refine Kd.R_lit (Kd.int .i64) _ 2 ?hg (N:=6) ?hd (xs:=([1,2,2,3,3,4,5]:List Int)) (inner:= [.int .i64 1, .int .i64 2, .int .i64 2, .int .i64 3, .int .i64 3, .int .i64 4, .int .i64 5]) (ok:=fun _=>True) (okp:=fun _=>True) ?hr ?hp (fun _ hk=>hk) trivial (Below.refl _ _) (Nat.le_refl _) (by simp) ?_;(case hd=>rfl);(case hg=>rfl);(case hr=>first | (go_simp;done) | (go_simp;rfl));(case hp=>exact(Reps.one (show Kd.M (Kd.int .i64) _ _ _ 1 [.int .i64 1] from rfl) (Reps.one (show Kd.M (Kd.int .i64) _ _ _ 2 [.int .i64 2] from rfl) (Reps.one (show Kd.M (Kd.int .i64) _ _ _ 2 [.int .i64 2] from rfl) (Reps.one (show Kd.M (Kd.int .i64) _ _ _ 3 [.int .i64 3] from rfl) (Reps.one (show Kd.M (Kd.int .i64) _ _ _ 3 [.int .i64 3] from rfl) (Reps.one (show Kd.M (Kd.int .i64) _ _ _ 4 [.int .i64 4] from rfl) (Reps.one (show Kd.M (Kd.int .i64) _ _ _ 5 [.int .i64 5] from rfl) (Reps.none _ _)))))))));intro bJ w9 bz hb hg_ hnew_;clear hg_ hnew_;(first | rw [← bh.out] at bz | (simp only [Int.reduceToNat] at bz;rw [← bh.out] at bz));have ag:=Aside0.mk (Kd.R_lower bz (keep_size (w:=w) (g:=g) (row:=none) (by repeat (first | (with_reducible first | exact HK.out | apply KeepBut.set_ | apply keep_drewN | apply keep_drew | apply keep_alloc | refine keep_far ?_ aq.out _) | exact HK.out))));replace ae:=Aside0.mk (bb_ ae.out hb);replace HB:=Aside0.mk (below_step (by repeat (first | (with_reducible first | exact HB.out | apply below_alloc | apply pw_below_drewN | apply below_drew1 | refine below_set ?_ (IsS168.ge HI0.out) | refine below_set ?_ az.out) | exact HB.out)) hb);replace HI0:=Aside0.mk (IsS168.below (by repeat (first | (with_reducible first | exact HI0.out | apply IsS168.alloc | apply IsS168.drewN | apply IsS168.drew | apply IsS168.set_1 | apply IsS168.set_2 | refine IsS168.far ?_ aa.out _) | exact HI0.out)) hb);replace HK:=Aside0.mk (KeepBut.trans (by repeat (first | (with_reducible first | exact HK.out | apply KeepBut.set_ | apply keep_drewN | apply keep_drew | apply keep_alloc | refine keep_far ?_ aq.out _) | exact HK.out)) (KeepBut.of_below hb g none) (.inl rfl));clear hb bz;obtain⟨bD,bE,bQ⟩:=Kd.R_slice ag.out;subst bQ) | ((with_reducible refine gate_callee (f:=114) rfl ?_);refine gL_ 7 Try.func114 #[.pointer (some ⟨g,0,none⟩), .slice bD aW.length bE] ?_;(with_reducible refine(spec_l01Pick.calls g s0_0 s0_1 s0_2 _ _ aW aX aY aZ w0 _ ?aD ?aG ?bb ?bf ?bg A2.out).mono ?_);(case aD=>repeat (first | (with_reducible first | exact HI0.out | apply IsS168.alloc | apply IsS168.drewN | apply IsS168.drew | apply IsS168.set_1 | apply IsS168.set_2 | refine IsS168.far ?_ aa.out _) | exact HI0.out));(case aG=>repeat (first | (with_reducible first | exact HB.out | apply below_alloc | apply pw_below_drewN | apply below_drew1 | refine below_set ?_ (IsS168.ge HI0.out) | refine below_set ?_ az.out) | exact HB.out));(case bb=>repeat (first | exact(Kd.R_reads' ag.out).2.2 | (with_reducible refine Kd.C_alloc ?_ _) | (with_reducible refine Kd.C_drewN ?_ _) | (with_reducible refine Kd.C_drew ?_)));(case bf=>exact(Kd.R_reads' ag.out).2.1);(case bg=>exact far_slice (IsS168.own_ne HI0.out ag.out (by decide)));rintro e w12 ⟨rfl,hi,hb,hk⟩;refine⟨_,rfl,?_⟩;replace ae:=Aside0.mk (KeepBut.blk hk (g':=ai) (o:= .cells #[.int .i64 0, .slice none 0 0] 64 (0,0)) bk_ aC.out (by simp));replace ag:=Aside0.mk (Kd.R_mono (Kd.R_keep (IsS168.apart (show IsS168 w0 _ g s0_0 s0_1 s0_2 from by repeat (first | (with_reducible first | exact HI0.out | apply IsS168.alloc | apply IsS168.drewN | apply IsS168.drew | apply IsS168.set_1 | apply IsS168.set_2 | refine IsS168.far ?_ aa.out _) | exact HI0.out)) (ro_ ag.out) (by decide)) hk (fun _ h=>h.2)) (fun _ h=>h.1));replace HK:=Aside0.mk (KeepBut.trans (by repeat (first | (with_reducible first | exact HK.out | apply KeepBut.set_ | apply keep_drewN | apply keep_drew | apply keep_alloc | refine keep_far ?_ aq.out _) | exact HK.out)) hk (.inl rfl));replace HB:=Aside0.mk (hb);replace HI0:=Aside0.mk (hi);(try clear hb);(try clear hb2);(try clear hk);(try clear hi)) | ((with_reducible refine gate_callee (f:=172) rfl ?_);refine gL_ 8 Try.func172 #[.pointer (some ⟨g,0,none⟩), .int .i64 aX] ?_;(with_reducible refine(spec_l06DrawOf.calls k g s0_0 aY aZ aX ax aj aH aI w0 _ ?aD ?aG A3.out).mono ?_);(case aD=>repeat (first | (with_reducible first | exact HI0.out | apply IsS168.alloc | apply IsS168.drewN | apply IsS168.drew | apply IsS168.set_1 | apply IsS168.set_2 | refine IsS168.far ?_ aa.out _) | exact HI0.out));(case aG=>repeat (first | (with_reducible first | exact HB.out | apply below_alloc | apply pw_below_drewN | apply below_drew1 | refine below_set ?_ (IsS168.ge HI0.out) | refine below_set ?_ az.out) | exact HB.out));rintro e w13 ⟨bK,rfl,ho0,hi,hb,hk⟩;refine⟨_,rfl,?_⟩;replace ae:=Aside0.mk (KeepBut.blk hk (g':=ai) (o:= .cells #[.int .i64 0, .slice none 0 0] 64 (0,0)) bk_ aC.out (by simp));have ak:=Aside0.mk (Kd.R_lower (Kd.R_new' ho0 (Kd.R_lt (ro_ ag.out))) (keep_size (w:=w) (g:=g) (row:=none) (by repeat (first | (with_reducible first | exact HK.out | apply KeepBut.set_ | apply keep_drewN | apply keep_drew | apply keep_alloc | refine keep_far ?_ aq.out _) | exact HK.out))));replace HB:=Aside0.mk (hb);replace ag:=Aside0.mk (Kd.R_mono (Kd.R_told (Kd.R_oldK (IsS168.apart (show IsS168 w0 _ g s0_0 aY aZ from by repeat (first | (with_reducible first | exact HI0.out | apply IsS168.alloc | apply IsS168.drewN | apply IsS168.drew | apply IsS168.set_1 | apply IsS168.set_2 | refine IsS168.far ?_ aa.out _) | exact HI0.out)) (ro_ ag.out) (by decide)) hk) (Kd.R_base ho0)) (fun _ h_=>h_.1));replace HK:=Aside0.mk (KeepBut.trans (by repeat (first | (with_reducible first | exact HK.out | apply KeepBut.set_ | apply keep_drewN | apply keep_drew | apply keep_alloc | refine keep_far ?_ aq.out _) | exact HK.out)) hk (.inl rfl));replace HI0:=Aside0.mk (hi);(try clear hb);(try clear hb2);(try clear hk);(try clear hi);(try clear ho0)) | ((with_reducible refine gate_dst (N:=3) rfl ?_);refine box_event ?hg (N:=3) ?hd (cs:= #[.int .i64 0, .slice none 0 0]) (t:=64) ?hr ?_;(case hd=>rfl);(case hg=>rfl);(case hr=>first | (go_simp;done) | (go_simp;rfl));intro af hg w14 hbox hb;replace ag:=Aside0.mk (rb_ ag.out hb);replace ak:=Aside0.mk (rb_ ak.out hb);replace HB:=Aside0.mk (below_step (by repeat (first | (with_reducible first | exact HB.out | apply below_alloc | apply pw_below_drewN | apply below_drew1 | refine below_set ?_ (IsS168.ge HI0.out) | refine below_set ?_ az.out) | exact HB.out)) hb);have ah:=Aside0.mk (hbox);have aK:=Aside0.mk ((by rw [hg];exact(keep_size (w:=w) (g:=g) (row:=none) (by repeat (first | (with_reducible first | exact HK.out | apply KeepBut.set_ | apply keep_drewN | apply keep_drew | apply keep_alloc | refine keep_far ?_ aq.out _) | exact HK.out))):w.heap.size≤af));have aN:=Aside0.mk ((Nat.le_trans HW0.out (by rw [hg];exact(keep_size (w:=w) (g:=g) (row:=none) (by repeat (first | (with_reducible first | exact HK.out | apply KeepBut.set_ | apply keep_drewN | apply keep_drew | apply keep_alloc | refine keep_far ?_ aq.out _) | exact HK.out))):w.heap.size≤af):w0.heap.size≤af));have aA:=Aside0.mk ((by rw [hg];exact lt_ ae.out:ai≠af));have aV:=Aside0.mk ((by rw [hg];exact gt_ ae.out:af≠ai));have av:=Aside0.mk ((by rw [hg];exact Nat.ne_of_lt (IsS168.lt (show IsS168 w0 _ g s0_0 aH aI from by repeat (first | (with_reducible first | exact HI0.out | apply IsS168.alloc | apply IsS168.drewN | apply IsS168.drew | apply IsS168.set_1 | apply IsS168.set_2 | refine IsS168.far ?_ aa.out _) | exact HI0.out))):g≠af));have aJ:=Aside0.mk ((by rw [hg];exact Nat.ne_of_gt (IsS168.lt (show IsS168 w0 _ g s0_0 aH aI from by repeat (first | (with_reducible first | exact HI0.out | apply IsS168.alloc | apply IsS168.drewN | apply IsS168.drew | apply IsS168.set_1 | apply IsS168.set_2 | refine IsS168.far ?_ aa.out _) | exact HI0.out))):af≠g));replace HI0:=Aside0.mk (IsS168.below (by repeat (first | (with_reducible first | exact HI0.out | apply IsS168.alloc | apply IsS168.drewN | apply IsS168.drew | apply IsS168.set_1 | apply IsS168.set_2 | refine IsS168.far ?_ aa.out _) | exact HI0.out)) hb);replace ae:=Aside0.mk (bb_ ae.out hb);replace HK:=Aside0.mk (KeepBut.trans (by repeat (first | (with_reducible first | exact HK.out | apply KeepBut.set_ | apply keep_drewN | apply keep_drew | apply keep_alloc | refine keep_far ?_ aq.out _) | exact HK.out)) (KeepBut.of_below hb g none) (.inl rfl));clear hb hbox hg;have dr:=aV.out;have du:=aA.out;have dw:=aJ.out;have dx:=av.out;have cn:w14.cell? ⟨af,0,none⟩=some (.int .i64 0):=(blk_cell ah.out 0).trans rfl;have co:w14.cell? ⟨af,1,none⟩=some (.slice none 0 0):=(blk_cell ah.out 1).trans rfl;have cq:=blk_frozen ah.out 0;have ct:=blk_frozen ah.out 1;obtain⟨bF,a9,bS⟩:=Kd.R_slice ak.out;subst bS) | ((with_reducible refine gate_callee (f:=100) rfl ?_);refine gL_ 10 Try.func100 #[.pointer (some ⟨g,0,none⟩), .int .i64 40] ?_;(with_reducible refine(spec_l01Next.calls g s0_0 aH aI 40 aM aT aU w0 _ ?aD ?aG A4.out).mono ?_);(case aD=>repeat (first | (with_reducible first | exact HI0.out | apply IsS168.alloc | apply IsS168.drewN | apply IsS168.drew | apply IsS168.set_1 | apply IsS168.set_2 | refine IsS168.far ?_ aa.out _ | refine IsS168.far ?_ av.out _) | exact HI0.out));(case aG=>repeat (first | (with_reducible first | exact HB.out | apply below_alloc | apply pw_below_drewN | apply below_drew1 | refine below_set ?_ (IsS168.ge HI0.out) | refine below_set ?_ az.out | refine below_set ?_ aN.out) | exact HB.out));rintro e w19 ⟨rfl,hi,hb,hk⟩;refine⟨_,rfl,?_⟩;replace ae:=Aside0.mk (KeepBut.blk hk (g':=ai) (o:= .cells #[.int .i64 0, .slice none 0 0] 64 (0,0)) (by(with_reducible repeat (first | refine blk_drewN ?_ _ | refine blk_drew ?_ | refine blk_alloc ?_ _));refine blk_far ?_ aA.out _;(with_reducible repeat (first | refine blk_drewN ?_ _ | refine blk_drew ?_ | refine blk_alloc ?_ _));refine blk_far ?_ aA.out _;(with_reducible repeat (first | refine blk_drewN ?_ _ | refine blk_drew ?_ | refine blk_alloc ?_ _));exact ae.out) aC.out (by simp));replace ag:=Aside0.mk (Kd.R_mono (Kd.R_keep (IsS168.apart (show IsS168 w0 _ g s0_0 aH aI from by repeat (first | (with_reducible first | exact HI0.out | apply IsS168.alloc | apply IsS168.drewN | apply IsS168.drew | apply IsS168.set_1 | apply IsS168.set_2 | refine IsS168.far ?_ aa.out _ | refine IsS168.far ?_ av.out _) | exact HI0.out)) (by(with_reducible repeat (first | apply Kd.R_alloc | apply Kd.R_drewN | apply Kd.R_drew));exact(Kd.R_mono (Kd.R_far (p:=⟨af,1,none⟩) (Kd.R_far (p:=⟨af,0,none⟩) (Kd.R_types ag.out ah.out (by decide)) (fun _ hk=>hk.2) (.int .i64 ax)) (fun _ hk=>hk.2) (.slice bF aj.length a9)) (fun _ h_=>h_.1))) (by decide)) hk (fun _ h=>h.2)) (fun _ h=>h.1));replace ak:=Aside0.mk (Kd.R_mono (Kd.R_keep (IsS168.apart (show IsS168 w0 _ g s0_0 aH aI from by repeat (first | (with_reducible first | exact HI0.out | apply IsS168.alloc | apply IsS168.drewN | apply IsS168.drew | apply IsS168.set_1 | apply IsS168.set_2 | refine IsS168.far ?_ aa.out _ | refine IsS168.far ?_ av.out _) | exact HI0.out)) (by(with_reducible repeat (first | apply Kd.R_alloc | apply Kd.R_drewN | apply Kd.R_drew));exact(Kd.R_mono (Kd.R_far (p:=⟨af,1,none⟩) (Kd.R_far (p:=⟨af,0,none⟩) (Kd.R_types ak.out ah.out (by decide)) (fun _ hk=>hk.2) (.int .i64 ax)) (fun _ hk=>hk.2) (.slice bF aj.length a9)) (fun _ h_=>h_.1))) (by decide)) hk (fun _ h=>h.2)) (fun _ h=>h.1));replace HK:=Aside0.mk (KeepBut.trans (by repeat (first | (with_reducible first | exact HK.out | apply KeepBut.set_ | apply keep_drewN | apply keep_drew | apply keep_alloc | refine keep_far ?_ aq.out _ | refine keep_far ?_ aK.out _) | exact HK.out)) hk (.inl rfl));replace HB:=Aside0.mk (hb);replace ah:=Aside0.mk (KeepBut.blk hk (g':=af) (o:= .cells #[.int .i64 ax, .slice bF aj.length a9] 64 (0,0)) (by(with_reducible repeat (first | refine blk_drewN ?_ _ | refine blk_drew ?_ | refine blk_alloc ?_ _));refine blk_put (cs:= #[.int .i64 ax, .slice none 0 0]) ?_ 1 _ rfl;(with_reducible repeat (first | refine blk_drewN ?_ _ | refine blk_drew ?_ | refine blk_alloc ?_ _));refine blk_put (cs:= #[.int .i64 0, .slice none 0 0]) ?_ 0 _ rfl;(with_reducible repeat (first | refine blk_drewN ?_ _ | refine blk_drew ?_ | refine blk_alloc ?_ _));exact ah.out) aJ.out (by simp));replace HI0:=Aside0.mk (hi);(try clear hb);(try clear hb2);(try clear hk);(try clear hi)))
   replace ag:=Aside0.mk (Kd.R_drew ag.out)
   replace ak:=Aside0.mk (Kd.R_drew ak.out)
   replace ae:=Aside0.mk (blk_drew ae.out)
   replace ah:=Aside0.mk (blk_drew ah.out)
   replace HI0:=Aside0.mk (IsS168.drew HI0.out)
   replace HK:=Aside0.mk (keep_drew HK.out)
   replace HB:=Aside0.mk (below_drew1 HB.out)
   have p895:0≤(0:Int):=(by omega)
   have q895:0 < (aj.length:Int):=od_
   obtain⟨dz,e895,hx895_0⟩:=Kd.at_int (Kd.R_reads' ak.out).2.2 0 p895 q895
   cases e895
   have qi895:(0 < aj.length)=True:=eq_true (by omega)
   (try rw [show ((0:Int)).toNat=0 from rfl] at hx895_0)
   (try rw [Addr.add_zero'] at hx895_0)
   replace p895:=eq_true p895
   replace q895:=eq_true q895
   have p7:0≤(0:Int):=(by omega)
   have q7:(0:Int) < ((aj.length:Int):Int):=od_
   have qi7:(0 < aj.length)=True:=eq_true (by omega)
   obtain⟨go7,dP,bO,bP,gl7,cl7,HG7⟩:=Kd.R_form ak.out (by omega)
   (first | cases bO | (injection bO with ea_ en_ ec_;(first | subst ea_ | (injection ea_ with ea_;subst ea_));subst ec_;clear en_))
   have GB7:=Aside0.mk bP
   have GG7:=Aside0.mk HG7
   clear bP gl7 HG7
   (first | simp only [add_plain] at hx895_0 | skip)
   obtain⟨hx7_0,hf7_0⟩:=Kd.R_celln 0 ak.out (0:Int) p7 q7
   (try rw [show ((0:Int)).toNat=0 from rfl] at hx7_0)
   (try simp only [Nat.reduceMul,Nat.zero_mul,Nat.zero_add,Nat.reduceAdd] at hx7_0)
   (try rw [show ((0:Int)).toNat=0 from rfl] at hf7_0)
   (try simp only [Nat.reduceMul,Nat.zero_mul,Nat.zero_add,Nat.reduceAdd] at hf7_0)
   replace p7:=eq_true p7
   replace q7:=eq_true q7
   have HN0_go7:=Aside0.mk (show g≠go7 from by have h_:=IsS168.own_ne HI0.out ak.out (by decide);intro e_;exact h_ (by rw [e_];rfl))
   have HP21:=Kd.R_putn ak.out (0:Int) (Go.bits .xor .i64 (rd aj 0) 1)
   rw [← bN.out] at HP21
   have HQ21:=Aside0.mk HP21
   clear HP21
   refine st_ (n:=9) (S:=fun w'=>w'.cell? ⟨af,0,none⟩=some (.int .i64 ax)∧w'.cell? ⟨af,1,none⟩=some (.slice (some ⟨go7,0,none⟩) aj.length a9)∧w'.cell? ⟨go7,0,none⟩=some (.int .i64 (rd aj 0))) (ds:= [8]) ⟨(blk_cell ah.out 0).trans rfl,(blk_cell ah.out 1).trans rfl,hx895_0⟩ (fun hHeld=>?_);refine with_tabW spec_l06Draw.tab4 spec_l06Draw.bits4 (fun HT_ HW_=>?_)
   generalize w19.drew=w20 at ag ak ae ah HI0 HK HB GG7 HQ21 hf7_0 hx7_0 hx895_0 hHeld ⊢
   refine pu_ 0 13 ?_;refine pu_ 2 15 ?_;refine tk_ 1 14 ?_;refine tk_ 3 16 ?_;refine pu_ 4 17 ?_;refine tk_ 5 18 ?_;refine pu_ 6 19 ?_;refine pu_ 7 20 ?_
   refine la_ 8 none (fun K hK=>?_)
   refine skip_ (w1:=?_) (by rfl) rfl ?_ ?_
   rotate_left
   ·go_simp
    rfl
   refine hK.out _ _ ?_
   clear hK K
   refine done_ (done_of HT_.out (by kernel_rfl)) ?_
   have n0_:Aside0 (Kd.R (Kd.int .i64) 2 (w20.setCell ⟨go7,0,none⟩ (.int .i64 (Go.bits .xor .i64 (rd aj 0) 1))) w.heap.size (fun k_=>some k_≠(.slice (some ⟨go7,0,none⟩) aj.length a9:Value).ownBlock) (.slice bD aW.length bE) aW):=⟨by(with_reducible repeat (first | apply Kd.R_alloc | apply Kd.R_drewN | apply Kd.R_drew));exact Kd.R_mono (Kd.R_far (p:=⟨go7,0,none⟩) (Kd.R_mono ag.out (fun k_ hk=>(⟨hk,fun e_=>hk.2 (by rw [e_];rfl)⟩:_∧k_≠go7))) (fun _ hk=>hk.2) (.int .i64 (Go.bits .xor .i64 (rd aj 0) 1))) (fun _ hk=>hk.1.2)⟩
   have n1_:Aside0 (Kd.R (Kd.int .i64) 2 (w20.setCell ⟨go7,0,none⟩ (.int .i64 (Go.bits .xor .i64 (rd aj 0) 1))) w.heap.size (fun k_=>some k_≠(.slice bD aW.length bE:Value).ownBlock) (.slice (some ⟨go7,0,none⟩) aj.length a9) bI):=⟨by(with_reducible repeat (first | apply Kd.R_alloc | apply Kd.R_drewN | apply Kd.R_drew));exact Kd.R_mono HQ21.out (fun _ hk=>hk.2)⟩
   have n2_:Aside0 ((w20.setCell ⟨go7,0,none⟩ (.int .i64 (Go.bits .xor .i64 (rd aj 0) 1))).heap[ai]?=some (.cells #[.int .i64 0, .slice none 0 0] 64 (0,0))):=⟨by(with_reducible repeat (first | refine blk_drewN ?_ _ | refine blk_drew ?_ | refine blk_alloc ?_ _));refine blk_far ?_ (by have h_:=Kd.R_ne ak.out ae.out (by decide);intro e_;exact h_ (by rw [e_];rfl)) _;(with_reducible repeat (first | refine blk_drewN ?_ _ | refine blk_drew ?_ | refine blk_alloc ?_ _));exact ae.out⟩
   have n3_:Aside0 ((w20.setCell ⟨go7,0,none⟩ (.int .i64 (Go.bits .xor .i64 (rd aj 0) 1))).heap[af]?=some (.cells #[.int .i64 ax, .slice (some ⟨go7,0,none⟩) aj.length a9] 64 (0,0))):=⟨by(with_reducible repeat (first | refine blk_drewN ?_ _ | refine blk_drew ?_ | refine blk_alloc ?_ _));refine blk_far ?_ (by have h_:=Kd.R_ne ak.out ah.out (by decide);intro e_;exact h_ (by rw [e_];rfl)) _;(with_reducible repeat (first | refine blk_drewN ?_ _ | refine blk_drew ?_ | refine blk_alloc ?_ _));exact ah.out⟩
   have n4_:Aside0 (IsS168 w0 (w20.setCell ⟨go7,0,none⟩ (.int .i64 (Go.bits .xor .i64 (rd aj 0) 1))) g s0_0 aT aU):=⟨by repeat (first | (with_reducible first | exact HI0.out | apply IsS168.alloc | apply IsS168.drewN | apply IsS168.drew | apply IsS168.set_1 | apply IsS168.set_2 | refine IsS168.far ?_ HN0_go7.out _ | refine IsS168.far ?_ aa.out _ | refine IsS168.far ?_ av.out _) | exact HI0.out)⟩
   have n5_:Aside0 (KeepBut w (w20.setCell ⟨go7,0,none⟩ (.int .i64 (Go.bits .xor .i64 (rd aj 0) 1))) g none):=⟨by repeat (first | (with_reducible first | exact HK.out | apply KeepBut.set_ | apply keep_drewN | apply keep_drew | apply keep_alloc | refine keep_far ?_ GB7.out _ | refine keep_far ?_ aq.out _ | refine keep_far ?_ aK.out _) | exact HK.out)⟩
   have n6_:Aside0 (Below w0.heap.size w0 (w20.setCell ⟨go7,0,none⟩ (.int .i64 (Go.bits .xor .i64 (rd aj 0) 1)))):=⟨by repeat (first | (with_reducible first | exact HB.out | apply below_alloc | apply pw_below_drewN | apply below_drew1 | refine below_set ?_ (Nat.le_trans HL.out GB7.out) | refine below_set ?_ (IsS168.ge HI0.out) | refine below_set ?_ az.out | refine below_set ?_ aN.out) | exact HB.out)⟩
   (try clear ag)
   (try clear ak)
   (try clear ae)
   (try clear ah)
   (try clear HI0)
   (try clear HK)
   (try clear HB)
   generalize (w20.setCell ⟨go7,0,none⟩ (.int .i64 (Go.bits .xor .i64 (rd aj 0) 1)))=w22 at n0_ n1_ n2_ n3_ n4_ n5_ n6_ ⊢
   have ag:=n0_
   have ak:=n1_
   have ae:=n2_
   have ah:=n3_
   have HI0:=n4_
   have HK:=n5_
   have HB:=n6_
   clear n0_ n1_ n2_ n3_ n4_ n5_ n6_
   have cA:w22.cell? ⟨af,0,none⟩=some (.int .i64 ax):=(blk_cell ah.out 0).trans rfl
   have cB:w22.cell? ⟨af,1,none⟩=some (.slice (some ⟨go7,0,none⟩) aj.length a9):=(blk_cell ah.out 1).trans rfl
   have cC:=blk_frozen ah.out 0
   have cD:=blk_frozen ah.out 1
   have dA:=aC.out
   have dB:=aa.out
   have cE:w22.cell? ⟨ai,0,none⟩=some (.int .i64 0):=(blk_cell ae.out 0).trans rfl
   have cF:w22.cell? ⟨ai,1,none⟩=some (.slice none 0 0):=(blk_cell ae.out 1).trans rfl
   have cG:=blk_frozen ae.out 0
   have cH:=blk_frozen ae.out 1
   try go_wp2
   refine bodyPost_ret (results_cell_row rfl _ _ ai 64 #[.int .i64 ax, .slice (some ⟨go7,0,none⟩) aj.length a9] (0,0) _ rfl (by(with_reducible repeat (first | refine blk_drewN ?_ _ | refine blk_drew ?_ | refine blk_alloc ?_ _));refine blk_put (cs:= #[.int .i64 ax, .slice none 0 0]) ?_ 1 _ rfl;(with_reducible repeat (first | refine blk_drewN ?_ _ | refine blk_drew ?_ | refine blk_alloc ?_ _));refine blk_put (cs:= #[.int .i64 0, .slice none 0 0]) ?_ 0 _ rfl;(with_reducible repeat (first | refine blk_drewN ?_ _ | refine blk_drew ?_ | refine blk_alloc ?_ _));exact ae.out) Try.underlying64 rfl (by kernel_rfl)) rfl ?_
   exact⟨_,by first | rfl | (simp [errW_none,errW_some] <;> rfl) | (simp [*,errW_none,errW_some] <;> rfl),by(with_reducible repeat (first | apply Kd.R_alloc | apply Kd.R_drewN | apply Kd.R_drew));exact Kd.R_mono (Kd.R_far (p:=⟨ai,1,none⟩) (Kd.R_far (p:=⟨ai,0,none⟩) (Kd.R_types ak.out ae.out (by decide)) (fun _ hk=>hk.2) (.int .i64 ax)) (fun _ hk=>hk.2) (.slice (some ⟨go7,0,none⟩) aj.length a9)) (fun _ hk=>trivial),by repeat (first | (with_reducible first | exact HI0.out | apply IsS168.alloc | apply IsS168.drewN | apply IsS168.drew | apply IsS168.set_1 | apply IsS168.set_2 | refine IsS168.far ?_ aa.out _ | refine IsS168.far ?_ av.out _) | exact HI0.out),by repeat (first | (with_reducible first | exact HB.out | apply below_alloc | apply pw_below_drewN | apply below_drew1 | refine below_set ?_ (IsS168.ge HI0.out) | refine below_set ?_ az.out | refine below_set ?_ aN.out) | exact HB.out),by repeat (first | (with_reducible first | exact HK.out | apply KeepBut.set_ | apply keep_drewN | apply keep_drew | apply keep_alloc | refine keep_far ?_ aq.out _ | refine keep_far ?_ aK.out _) | exact HK.out)⟩
  ·rw [if_neg c6] at H
   exact absurd H (by simp)
 ·rw [if_neg c5] at H
  have c5b0:(aM==0)=false:=beq_eq_false_iff_ne.mpr c5
  have c5b1:(aM !=0)=true:=bne_iff_ne.mpr c5
  by_cases c26:aM=1
  ·rw [if_pos c26] at H
   have c26b0:(aM==1)=true:=beq_iff_eq.mpr c26
   have c26b1:(aM !=1)=false:=bne_eq_false_iff_eq.mpr c26
   clear c26
   obtain⟨bG,hy897⟩: ∃y_:List Int,y_=(([0,6,1,2]:List Int)):=⟨_,rfl⟩
   replace H:((spec_l01Pick.f s0_0 aT aU bG).bind fun ay=>(some (ay.1,aj,ay.2.1,ay.2.2)))=some (r1,r2,r3,r4):=by first | (rw [hy897];with_reducible exact H) | (have H2_:=(Option.bind_some _ _).symm.trans H;rw [hy897];with_reducible exact H2_) | (have H2_:=(Option.bind_some _ _).symm.trans H;with_reducible exact H2_) | with_reducible exact H | (rw [hy897];exact H) | exact H
   have bH:=Aside0.mk hy897
   clear hy897
   replace H:=Option.bind_eq_some_iff.mp H
   obtain⟨⟨bu,bL,bM⟩,A270,H⟩:=H
   replace H:(some (bu,aj,bL,bM))=some (r1,r2,r3,r4):=H
   have A27:=Aside0.mk A270
   clear A270
   simp only [Option.some.injEq,Prod.mk.injEq] at H
   obtain⟨rfl,rfl,rfl,rfl⟩:=H
   go_enter Try.func126,Try.ntmps126
   go_wp2_with (first | ((with_reducible refine gate_dst (N:=2) rfl ?_);refine box_event ?hg (N:=2) ?hd (cs:= #[.int .i64 0, .slice none 0 0]) (t:=64) ?hr ?_;(case hd=>rfl);(case hg=>rfl);(case hr=>first | (go_simp;done) | (go_simp;rfl));intro ai hg w28 hbox hb;replace HB:=Aside0.mk (below_step (by repeat (first | (with_reducible first | exact HB.out | apply below_alloc | apply pw_below_drewN | apply below_drew1 | refine below_set ?_ (IsS168.ge HI0.out)) | exact HB.out)) hb);have ae:=Aside0.mk (hbox);have aq:=Aside0.mk ((by rw [hg];exact(keep_size (w:=w) (g:=g) (row:=none) (by repeat (first | (with_reducible first | exact HK.out | apply KeepBut.set_ | apply keep_drewN | apply keep_drew | apply keep_alloc) | exact HK.out))):w.heap.size≤ai));have az:=Aside0.mk ((Nat.le_trans HW0.out (by rw [hg];exact(keep_size (w:=w) (g:=g) (row:=none) (by repeat (first | (with_reducible first | exact HK.out | apply KeepBut.set_ | apply keep_drewN | apply keep_drew | apply keep_alloc) | exact HK.out))):w.heap.size≤ai):w0.heap.size≤ai));have aa:=Aside0.mk ((by rw [hg];exact Nat.ne_of_lt (IsS168.lt (show IsS168 w0 _ g s0_0 s0_1 s0_2 from by repeat (first | (with_reducible first | exact HI0.out | apply IsS168.alloc | apply IsS168.drewN | apply IsS168.drew | apply IsS168.set_1 | apply IsS168.set_2) | exact HI0.out))):g≠ai));have aC:=Aside0.mk ((by rw [hg];exact Nat.ne_of_gt (IsS168.lt (show IsS168 w0 _ g s0_0 s0_1 s0_2 from by repeat (first | (with_reducible first | exact HI0.out | apply IsS168.alloc | apply IsS168.drewN | apply IsS168.drew | apply IsS168.set_1 | apply IsS168.set_2) | exact HI0.out))):ai≠g));replace HI0:=Aside0.mk (IsS168.below (by repeat (first | (with_reducible first | exact HI0.out | apply IsS168.alloc | apply IsS168.drewN | apply IsS168.drew | apply IsS168.set_1 | apply IsS168.set_2) | exact HI0.out)) hb);replace HK:=Aside0.mk (KeepBut.trans (by repeat (first | (with_reducible first | exact HK.out | apply KeepBut.set_ | apply keep_drewN | apply keep_drew | apply keep_alloc) | exact HK.out)) (KeepBut.of_below hb g none) (.inl rfl));clear hb hbox hg) | ((with_reducible refine gate_dst (N:=6) rfl ?_);refine Kd.R_lit (Kd.int .i64) _ 2 ?hg (N:=6) ?hd (xs:=([1,2,2,3,3,4,5]:List Int)) (inner:= [.int .i64 1, .int .i64 2, .int .i64 2, .int .i64 3, .int .i64 3, .int .i64 4, .int .i64 5]) (ok:=fun _=>True) (okp:=fun _=>True) ?hr ?hp (fun _ hk=>hk) trivial (Below.refl _ _) (Nat.le_refl _) (by simp) ?_;(case hd=>rfl);(case hg=>rfl);(case hr=>first | (go_simp;done) | (go_simp;rfl));(case hp=>exact(Reps.one (show Kd.M (Kd.int .i64) _ _ _ 1 [.int .i64 1] from rfl) (Reps.one (show Kd.M (Kd.int .i64) _ _ _ 2 [.int .i64 2] from rfl) (Reps.one (show Kd.M (Kd.int .i64) _ _ _ 2 [.int .i64 2] from rfl) (Reps.one (show Kd.M (Kd.int .i64) _ _ _ 3 [.int .i64 3] from rfl) (Reps.one (show Kd.M (Kd.int .i64) _ _ _ 3 [.int .i64 3] from rfl) (Reps.one (show Kd.M (Kd.int .i64) _ _ _ 4 [.int .i64 4] from rfl) (Reps.one (show Kd.M (Kd.int .i64) _ _ _ 5 [.int .i64 5] from rfl) (Reps.none _ _)))))))));intro bJ w29 bA hb hg_ hnew_;clear hg_ hnew_;(first | rw [← bh.out] at bA | (simp only [Int.reduceToNat] at bA;rw [← bh.out] at bA));have ag:=Aside0.mk (Kd.R_lower bA (keep_size (w:=w) (g:=g) (row:=none) (by repeat (first | (with_reducible first | exact HK.out | apply KeepBut.set_ | apply keep_drewN | apply keep_drew | apply keep_alloc | refine keep_far ?_ aq.out _) | exact HK.out))));replace ae:=Aside0.mk (bb_ ae.out hb);replace HB:=Aside0.mk (below_step (by repeat (first | (with_reducible first | exact HB.out | apply below_alloc | apply pw_below_drewN | apply below_drew1 | refine below_set ?_ (IsS168.ge HI0.out) | refine below_set ?_ az.out) | exact HB.out)) hb);replace HI0:=Aside0.mk (IsS168.below (by repeat (first | (with_reducible first | exact HI0.out | apply IsS168.alloc | apply IsS168.drewN | apply IsS168.drew | apply IsS168.set_1 | apply IsS168.set_2 | refine IsS168.far ?_ aa.out _) | exact HI0.out)) hb);replace HK:=Aside0.mk (KeepBut.trans (by repeat (first | (with_reducible first | exact HK.out | apply KeepBut.set_ | apply keep_drewN | apply keep_drew | apply keep_alloc | refine keep_far ?_ aq.out _) | exact HK.out)) (KeepBut.of_below hb g none) (.inl rfl));clear hb bA;obtain⟨bT,bU,bV⟩:=Kd.R_slice ag.out;subst bV) | ((with_reducible refine gate_callee (f:=114) rfl ?_);refine gL_ 7 Try.func114 #[.pointer (some ⟨g,0,none⟩), .slice bT aW.length bU] ?_;(with_reducible refine(spec_l01Pick.calls g s0_0 s0_1 s0_2 _ _ aW aX aY aZ w0 _ ?aD ?aG ?bb ?bf ?bg A2.out).mono ?_);(case aD=>repeat (first | (with_reducible first | exact HI0.out | apply IsS168.alloc | apply IsS168.drewN | apply IsS168.drew | apply IsS168.set_1 | apply IsS168.set_2 | refine IsS168.far ?_ aa.out _) | exact HI0.out));(case aG=>repeat (first | (with_reducible first | exact HB.out | apply below_alloc | apply pw_below_drewN | apply below_drew1 | refine below_set ?_ (IsS168.ge HI0.out) | refine below_set ?_ az.out) | exact HB.out));(case bb=>repeat (first | exact(Kd.R_reads' ag.out).2.2 | (with_reducible refine Kd.C_alloc ?_ _) | (with_reducible refine Kd.C_drewN ?_ _) | (with_reducible refine Kd.C_drew ?_)));(case bf=>exact(Kd.R_reads' ag.out).2.1);(case bg=>exact far_slice (IsS168.own_ne HI0.out ag.out (by decide)));rintro e w32 ⟨rfl,hi,hb,hk⟩;refine⟨_,rfl,?_⟩;replace ae:=Aside0.mk (KeepBut.blk hk (g':=ai) (o:= .cells #[.int .i64 0, .slice none 0 0] 64 (0,0)) bk_ aC.out (by simp));replace ag:=Aside0.mk (Kd.R_mono (Kd.R_keep (IsS168.apart (show IsS168 w0 _ g s0_0 s0_1 s0_2 from by repeat (first | (with_reducible first | exact HI0.out | apply IsS168.alloc | apply IsS168.drewN | apply IsS168.drew | apply IsS168.set_1 | apply IsS168.set_2 | refine IsS168.far ?_ aa.out _) | exact HI0.out)) (ro_ ag.out) (by decide)) hk (fun _ h=>h.2)) (fun _ h=>h.1));replace HK:=Aside0.mk (KeepBut.trans (by repeat (first | (with_reducible first | exact HK.out | apply KeepBut.set_ | apply keep_drewN | apply keep_drew | apply keep_alloc | refine keep_far ?_ aq.out _) | exact HK.out)) hk (.inl rfl));replace HB:=Aside0.mk (hb);replace HI0:=Aside0.mk (hi);(try clear hb);(try clear hb2);(try clear hk);(try clear hi)) | ((with_reducible refine gate_callee (f:=172) rfl ?_);refine gL_ 8 Try.func172 #[.pointer (some ⟨g,0,none⟩), .int .i64 aX] ?_;(with_reducible refine(spec_l06DrawOf.calls k g s0_0 aY aZ aX ax aj aH aI w0 _ ?aD ?aG A3.out).mono ?_);(case aD=>repeat (first | (with_reducible first | exact HI0.out | apply IsS168.alloc | apply IsS168.drewN | apply IsS168.drew | apply IsS168.set_1 | apply IsS168.set_2 | refine IsS168.far ?_ aa.out _) | exact HI0.out));(case aG=>repeat (first | (with_reducible first | exact HB.out | apply below_alloc | apply pw_below_drewN | apply below_drew1 | refine below_set ?_ (IsS168.ge HI0.out) | refine below_set ?_ az.out) | exact HB.out));rintro e w33 ⟨bK,rfl,ho0,hi,hb,hk⟩;refine⟨_,rfl,?_⟩;replace ae:=Aside0.mk (KeepBut.blk hk (g':=ai) (o:= .cells #[.int .i64 0, .slice none 0 0] 64 (0,0)) bk_ aC.out (by simp));have ak:=Aside0.mk (Kd.R_lower (Kd.R_new' ho0 (Kd.R_lt (ro_ ag.out))) (keep_size (w:=w) (g:=g) (row:=none) (by repeat (first | (with_reducible first | exact HK.out | apply KeepBut.set_ | apply keep_drewN | apply keep_drew | apply keep_alloc | refine keep_far ?_ aq.out _) | exact HK.out))));replace HB:=Aside0.mk (hb);replace ag:=Aside0.mk (Kd.R_mono (Kd.R_told (Kd.R_oldK (IsS168.apart (show IsS168 w0 _ g s0_0 aY aZ from by repeat (first | (with_reducible first | exact HI0.out | apply IsS168.alloc | apply IsS168.drewN | apply IsS168.drew | apply IsS168.set_1 | apply IsS168.set_2 | refine IsS168.far ?_ aa.out _) | exact HI0.out)) (ro_ ag.out) (by decide)) hk) (Kd.R_base ho0)) (fun _ h_=>h_.1));replace HK:=Aside0.mk (KeepBut.trans (by repeat (first | (with_reducible first | exact HK.out | apply KeepBut.set_ | apply keep_drewN | apply keep_drew | apply keep_alloc | refine keep_far ?_ aq.out _) | exact HK.out)) hk (.inl rfl));replace HI0:=Aside0.mk (hi);(try clear hb);(try clear hb2);(try clear hk);(try clear hi);(try clear ho0)) | ((with_reducible refine gate_dst (N:=3) rfl ?_);refine box_event ?hg (N:=3) ?hd (cs:= #[.int .i64 0, .slice none 0 0]) (t:=64) ?hr ?_;(case hd=>rfl);(case hg=>rfl);(case hr=>first | (go_simp;done) | (go_simp;rfl));intro af hg w34 hbox hb;replace ag:=Aside0.mk (rb_ ag.out hb);replace ak:=Aside0.mk (rb_ ak.out hb);replace HB:=Aside0.mk (below_step (by repeat (first | (with_reducible first | exact HB.out | apply below_alloc | apply pw_below_drewN | apply below_drew1 | refine below_set ?_ (IsS168.ge HI0.out) | refine below_set ?_ az.out) | exact HB.out)) hb);have ah:=Aside0.mk (hbox);have aK:=Aside0.mk ((by rw [hg];exact(keep_size (w:=w) (g:=g) (row:=none) (by repeat (first | (with_reducible first | exact HK.out | apply KeepBut.set_ | apply keep_drewN | apply keep_drew | apply keep_alloc | refine keep_far ?_ aq.out _) | exact HK.out))):w.heap.size≤af));have aN:=Aside0.mk ((Nat.le_trans HW0.out (by rw [hg];exact(keep_size (w:=w) (g:=g) (row:=none) (by repeat (first | (with_reducible first | exact HK.out | apply KeepBut.set_ | apply keep_drewN | apply keep_drew | apply keep_alloc | refine keep_far ?_ aq.out _) | exact HK.out))):w.heap.size≤af):w0.heap.size≤af));have aA:=Aside0.mk ((by rw [hg];exact lt_ ae.out:ai≠af));have aV:=Aside0.mk ((by rw [hg];exact gt_ ae.out:af≠ai));have av:=Aside0.mk ((by rw [hg];exact Nat.ne_of_lt (IsS168.lt (show IsS168 w0 _ g s0_0 aH aI from by repeat (first | (with_reducible first | exact HI0.out | apply IsS168.alloc | apply IsS168.drewN | apply IsS168.drew | apply IsS168.set_1 | apply IsS168.set_2 | refine IsS168.far ?_ aa.out _) | exact HI0.out))):g≠af));have aJ:=Aside0.mk ((by rw [hg];exact Nat.ne_of_gt (IsS168.lt (show IsS168 w0 _ g s0_0 aH aI from by repeat (first | (with_reducible first | exact HI0.out | apply IsS168.alloc | apply IsS168.drewN | apply IsS168.drew | apply IsS168.set_1 | apply IsS168.set_2 | refine IsS168.far ?_ aa.out _) | exact HI0.out))):af≠g));replace HI0:=Aside0.mk (IsS168.below (by repeat (first | (with_reducible first | exact HI0.out | apply IsS168.alloc | apply IsS168.drewN | apply IsS168.drew | apply IsS168.set_1 | apply IsS168.set_2 | refine IsS168.far ?_ aa.out _) | exact HI0.out)) hb);replace ae:=Aside0.mk (bb_ ae.out hb);replace HK:=Aside0.mk (KeepBut.trans (by repeat (first | (with_reducible first | exact HK.out | apply KeepBut.set_ | apply keep_drewN | apply keep_drew | apply keep_alloc | refine keep_far ?_ aq.out _) | exact HK.out)) (KeepBut.of_below hb g none) (.inl rfl));clear hb hbox hg;have dC:=aV.out;have dD:=aA.out;have dE:=aJ.out;have dF:=av.out;have cI:w34.cell? ⟨af,0,none⟩=some (.int .i64 0):=(blk_cell ah.out 0).trans rfl;have cJ:w34.cell? ⟨af,1,none⟩=some (.slice none 0 0):=(blk_cell ah.out 1).trans rfl;have cK:=blk_frozen ah.out 0;have cL:=blk_frozen ah.out 1;obtain⟨bk,bn,bW⟩:=Kd.R_slice ak.out;subst bW) | ((with_reducible refine gate_callee (f:=100) rfl ?_);refine gL_ 10 Try.func100 #[.pointer (some ⟨g,0,none⟩), .int .i64 40] ?_;(with_reducible refine(spec_l01Next.calls g s0_0 aH aI 40 aM aT aU w0 _ ?aD ?aG A4.out).mono ?_);(case aD=>repeat (first | (with_reducible first | exact HI0.out | apply IsS168.alloc | apply IsS168.drewN | apply IsS168.drew | apply IsS168.set_1 | apply IsS168.set_2 | refine IsS168.far ?_ aa.out _ | refine IsS168.far ?_ av.out _) | exact HI0.out));(case aG=>repeat (first | (with_reducible first | exact HB.out | apply below_alloc | apply pw_below_drewN | apply below_drew1 | refine below_set ?_ (IsS168.ge HI0.out) | refine below_set ?_ az.out | refine below_set ?_ aN.out) | exact HB.out));rintro e w39 ⟨rfl,hi,hb,hk⟩;refine⟨_,rfl,?_⟩;replace ae:=Aside0.mk (KeepBut.blk hk (g':=ai) (o:= .cells #[.int .i64 0, .slice none 0 0] 64 (0,0)) (by(with_reducible repeat (first | refine blk_drewN ?_ _ | refine blk_drew ?_ | refine blk_alloc ?_ _));refine blk_far ?_ aA.out _;(with_reducible repeat (first | refine blk_drewN ?_ _ | refine blk_drew ?_ | refine blk_alloc ?_ _));refine blk_far ?_ aA.out _;(with_reducible repeat (first | refine blk_drewN ?_ _ | refine blk_drew ?_ | refine blk_alloc ?_ _));exact ae.out) aC.out (by simp));replace ag:=Aside0.mk (Kd.R_mono (Kd.R_keep (IsS168.apart (show IsS168 w0 _ g s0_0 aH aI from by repeat (first | (with_reducible first | exact HI0.out | apply IsS168.alloc | apply IsS168.drewN | apply IsS168.drew | apply IsS168.set_1 | apply IsS168.set_2 | refine IsS168.far ?_ aa.out _ | refine IsS168.far ?_ av.out _) | exact HI0.out)) (by(with_reducible repeat (first | apply Kd.R_alloc | apply Kd.R_drewN | apply Kd.R_drew));exact(Kd.R_mono (Kd.R_far (p:=⟨af,1,none⟩) (Kd.R_far (p:=⟨af,0,none⟩) (Kd.R_types ag.out ah.out (by decide)) (fun _ hk=>hk.2) (.int .i64 ax)) (fun _ hk=>hk.2) (.slice bk aj.length bn)) (fun _ h_=>h_.1))) (by decide)) hk (fun _ h=>h.2)) (fun _ h=>h.1));replace ak:=Aside0.mk (Kd.R_mono (Kd.R_keep (IsS168.apart (show IsS168 w0 _ g s0_0 aH aI from by repeat (first | (with_reducible first | exact HI0.out | apply IsS168.alloc | apply IsS168.drewN | apply IsS168.drew | apply IsS168.set_1 | apply IsS168.set_2 | refine IsS168.far ?_ aa.out _ | refine IsS168.far ?_ av.out _) | exact HI0.out)) (by(with_reducible repeat (first | apply Kd.R_alloc | apply Kd.R_drewN | apply Kd.R_drew));exact(Kd.R_mono (Kd.R_far (p:=⟨af,1,none⟩) (Kd.R_far (p:=⟨af,0,none⟩) (Kd.R_types ak.out ah.out (by decide)) (fun _ hk=>hk.2) (.int .i64 ax)) (fun _ hk=>hk.2) (.slice bk aj.length bn)) (fun _ h_=>h_.1))) (by decide)) hk (fun _ h=>h.2)) (fun _ h=>h.1));replace HK:=Aside0.mk (KeepBut.trans (by repeat (first | (with_reducible first | exact HK.out | apply KeepBut.set_ | apply keep_drewN | apply keep_drew | apply keep_alloc | refine keep_far ?_ aq.out _ | refine keep_far ?_ aK.out _) | exact HK.out)) hk (.inl rfl));replace HB:=Aside0.mk (hb);replace ah:=Aside0.mk (KeepBut.blk hk (g':=af) (o:= .cells #[.int .i64 ax, .slice bk aj.length bn] 64 (0,0)) (by(with_reducible repeat (first | refine blk_drewN ?_ _ | refine blk_drew ?_ | refine blk_alloc ?_ _));refine blk_put (cs:= #[.int .i64 ax, .slice none 0 0]) ?_ 1 _ rfl;(with_reducible repeat (first | refine blk_drewN ?_ _ | refine blk_drew ?_ | refine blk_alloc ?_ _));refine blk_put (cs:= #[.int .i64 0, .slice none 0 0]) ?_ 0 _ rfl;(with_reducible repeat (first | refine blk_drewN ?_ _ | refine blk_drew ?_ | refine blk_alloc ?_ _));exact ah.out) aJ.out (by simp));replace HI0:=Aside0.mk (hi);(try clear hb);(try clear hb2);(try clear hk);(try clear hi)) | ((with_reducible refine gate_dst (N:=24) rfl ?_);refine Kd.R_lit (Kd.int .i64) _ 2 ?hg (N:=24) ?hd (xs:=([0,6,1,2]:List Int)) (inner:= [.int .i64 0, .int .i64 6, .int .i64 1, .int .i64 2]) (ok:=fun _=>True) (okp:=fun _=>True) ?hr ?hp (fun _ hk=>hk) trivial (Below.refl _ _) (Nat.le_refl _) (by simp) ?_;(case hd=>rfl);(case hg=>rfl);(case hr=>first | (go_simp;done) | (go_simp;rfl));(case hp=>exact(Reps.one (show Kd.M (Kd.int .i64) _ _ _ 0 [.int .i64 0] from rfl) (Reps.one (show Kd.M (Kd.int .i64) _ _ _ 6 [.int .i64 6] from rfl) (Reps.one (show Kd.M (Kd.int .i64) _ _ _ 1 [.int .i64 1] from rfl) (Reps.one (show Kd.M (Kd.int .i64) _ _ _ 2 [.int .i64 2] from rfl) (Reps.none _ _))))));intro dO w40 bq hb hg_ hnew_;clear hg_ hnew_;(first | rw [← bH.out] at bq | (simp only [Int.reduceToNat] at bq;rw [← bH.out] at bq));have bi:=Aside0.mk (Kd.R_lower (Kd.R_new' (Kd.R_new' bq (Kd.R_lt (ro_ ag.out))) (Kd.R_lt (ro_ ak.out))) (keep_size (w:=w) (g:=g) (row:=none) (by repeat (first | (with_reducible first | exact HK.out | apply KeepBut.set_ | apply keep_drewN | apply keep_drew | apply keep_alloc | refine keep_far ?_ aq.out _ | refine keep_far ?_ aK.out _) | exact HK.out))));replace ae:=Aside0.mk (bb_ ae.out hb);replace ah:=Aside0.mk (bb_ ah.out hb);replace HB:=Aside0.mk (below_step (by repeat (first | (with_reducible first | exact HB.out | apply below_alloc | apply pw_below_drewN | apply below_drew1 | refine below_set ?_ (IsS168.ge HI0.out) | refine below_set ?_ az.out | refine below_set ?_ aN.out) | exact HB.out)) hb);replace ag:=Aside0.mk (Kd.R_elder' (ro_ ag.out) (Kd.R_base bq) hb);replace ak:=Aside0.mk (Kd.R_elder' (ro_ ak.out) (Kd.R_base bq) hb);replace HI0:=Aside0.mk (IsS168.below (by repeat (first | (with_reducible first | exact HI0.out | apply IsS168.alloc | apply IsS168.drewN | apply IsS168.drew | apply IsS168.set_1 | apply IsS168.set_2 | refine IsS168.far ?_ aa.out _ | refine IsS168.far ?_ av.out _) | exact HI0.out)) hb);replace HK:=Aside0.mk (KeepBut.trans (by repeat (first | (with_reducible first | exact HK.out | apply KeepBut.set_ | apply keep_drewN | apply keep_drew | apply keep_alloc | refine keep_far ?_ aq.out _ | refine keep_far ?_ aK.out _) | exact HK.out)) (KeepBut.of_below hb g none) (.inl rfl));clear hb bq;obtain⟨bX,bY,bZ⟩:=Kd.R_slice bi.out;subst bZ) | ((with_reducible refine gate_callee (f:=114) rfl ?_);refine gL_ 25 Try.func114 #[.pointer (some ⟨g,0,none⟩), .slice bX bG.length bY] ?_;(with_reducible refine(spec_l01Pick.calls g s0_0 aT aU _ _ bG bu bL bM w0 _ ?aD ?aG ?bb ?bf ?bg A27.out).mono ?_);(case aD=>repeat (first | (with_reducible first | exact HI0.out | apply IsS168.alloc | apply IsS168.drewN | apply IsS168.drew | apply IsS168.set_1 | apply IsS168.set_2 | refine IsS168.far ?_ aa.out _ | refine IsS168.far ?_ av.out _) | exact HI0.out));(case aG=>repeat (first | (with_reducible first | exact HB.out | apply below_alloc | apply pw_below_drewN | apply below_drew1 | refine below_set ?_ (IsS168.ge HI0.out) | refine below_set ?_ az.out | refine below_set ?_ aN.out) | exact HB.out));(case bb=>repeat (first | exact(Kd.R_reads' bi.out).2.2 | (with_reducible refine Kd.C_alloc ?_ _) | (with_reducible refine Kd.C_drewN ?_ _) | (with_reducible refine Kd.C_drew ?_)));(case bf=>exact(Kd.R_reads' bi.out).2.1);(case bg=>exact far_slice (IsS168.own_ne HI0.out bi.out (by decide)));rintro e w43 ⟨rfl,hi,hb,hk⟩;refine⟨_,rfl,?_⟩;replace ae:=Aside0.mk (KeepBut.blk hk (g':=ai) (o:= .cells #[.int .i64 0, .slice none 0 0] 64 (0,0)) bk_ aC.out (by simp));replace ag:=Aside0.mk (Kd.R_mono (Kd.R_keep (IsS168.apart (show IsS168 w0 _ g s0_0 aT aU from by repeat (first | (with_reducible first | exact HI0.out | apply IsS168.alloc | apply IsS168.drewN | apply IsS168.drew | apply IsS168.set_1 | apply IsS168.set_2 | refine IsS168.far ?_ aa.out _ | refine IsS168.far ?_ av.out _) | exact HI0.out)) (ro_ ag.out) (by decide)) hk (fun _ h=>h.2)) (fun _ h=>h.1));replace ak:=Aside0.mk (Kd.R_mono (Kd.R_keep (IsS168.apart (show IsS168 w0 _ g s0_0 aT aU from by repeat (first | (with_reducible first | exact HI0.out | apply IsS168.alloc | apply IsS168.drewN | apply IsS168.drew | apply IsS168.set_1 | apply IsS168.set_2 | refine IsS168.far ?_ aa.out _ | refine IsS168.far ?_ av.out _) | exact HI0.out)) (ro_ ak.out) (by decide)) hk (fun _ h=>h.2)) (fun _ h=>h.1));replace ah:=Aside0.mk (KeepBut.blk hk (g':=af) (o:= .cells #[.int .i64 ax, .slice bk aj.length bn] 64 (0,0)) bk_ aJ.out (by simp));replace bi:=Aside0.mk (Kd.R_mono (Kd.R_keep (IsS168.apart (show IsS168 w0 _ g s0_0 aT aU from by repeat (first | (with_reducible first | exact HI0.out | apply IsS168.alloc | apply IsS168.drewN | apply IsS168.drew | apply IsS168.set_1 | apply IsS168.set_2 | refine IsS168.far ?_ aa.out _ | refine IsS168.far ?_ av.out _) | exact HI0.out)) (ro_ bi.out) (by decide)) hk (fun _ h=>h.2)) (fun _ h=>h.1));replace HK:=Aside0.mk (KeepBut.trans (by repeat (first | (with_reducible first | exact HK.out | apply KeepBut.set_ | apply keep_drewN | apply keep_drew | apply keep_alloc | refine keep_far ?_ aq.out _ | refine keep_far ?_ aK.out _) | exact HK.out)) hk (.inl rfl));replace HB:=Aside0.mk (hb);replace HI0:=Aside0.mk (hi);(try clear hb);(try clear hb2);(try clear hk);(try clear hi);have cN:w43.cell? ⟨af,0,none⟩=some (.int .i64 ax):=(blk_cell ah.out 0).trans rfl;have cO:w43.cell? ⟨af,1,none⟩=some (.slice bk aj.length bn):=(blk_cell ah.out 1).trans rfl;have cP:=blk_frozen ah.out 0;have cQ:=blk_frozen ah.out 1;have dG:=aC.out;have dH:=aa.out;have cR:w43.cell? ⟨ai,0,none⟩=some (.int .i64 0):=(blk_cell ae.out 0).trans rfl;have cS:w43.cell? ⟨ai,1,none⟩=some (.slice none 0 0):=(blk_cell ae.out 1).trans rfl;have cT:=blk_frozen ae.out 0;have cU:=blk_frozen ae.out 1))
   refine bodyPost_ret (results_cell_row rfl _ _ ai 64 #[.int .i64 bu, .slice bk aj.length bn] (0,0) _ rfl (by(with_reducible repeat (first | refine blk_drewN ?_ _ | refine blk_drew ?_ | refine blk_alloc ?_ _));refine blk_put (cs:= #[.int .i64 bu, .slice none 0 0]) ?_ 1 _ rfl;(with_reducible repeat (first | refine blk_drewN ?_ _ | refine blk_drew ?_ | refine blk_alloc ?_ _));refine blk_put (cs:= #[.int .i64 0, .slice none 0 0]) ?_ 0 _ rfl;(with_reducible repeat (first | refine blk_drewN ?_ _ | refine blk_drew ?_ | refine blk_alloc ?_ _));refine blk_far ?_ aA.out _;(with_reducible repeat (first | refine blk_drewN ?_ _ | refine blk_drew ?_ | refine blk_alloc ?_ _));exact ae.out) Try.underlying64 rfl (by kernel_rfl)) rfl ?_
   exact⟨_,by first | rfl | (simp [errW_none,errW_some] <;> rfl) | (simp [*,errW_none,errW_some] <;> rfl),by(with_reducible repeat (first | apply Kd.R_alloc | apply Kd.R_drewN | apply Kd.R_drew));exact Kd.R_mono (Kd.R_far (p:=⟨ai,1,none⟩) (Kd.R_far (p:=⟨ai,0,none⟩) (Kd.R_far (p:=⟨af,0,none⟩) (Kd.R_types (Kd.R_types ak.out ah.out (by decide)) ae.out (by decide)) (fun _ hk=>hk.1.2) (.int .i64 bu)) (fun _ hk=>hk.2) (.int .i64 bu)) (fun _ hk=>hk.2) (.slice bk aj.length bn)) (fun _ hk=>trivial),by repeat (first | (with_reducible first | exact HI0.out | apply IsS168.alloc | apply IsS168.drewN | apply IsS168.drew | apply IsS168.set_1 | apply IsS168.set_2 | refine IsS168.far ?_ aa.out _ | refine IsS168.far ?_ av.out _) | exact HI0.out),by repeat (first | (with_reducible first | exact HB.out | apply below_alloc | apply pw_below_drewN | apply below_drew1 | refine below_set ?_ (IsS168.ge HI0.out) | refine below_set ?_ az.out | refine below_set ?_ aN.out) | exact HB.out),by repeat (first | (with_reducible first | exact HK.out | apply KeepBut.set_ | apply keep_drewN | apply keep_drew | apply keep_alloc | refine keep_far ?_ aq.out _ | refine keep_far ?_ aK.out _) | exact HK.out)⟩
  ·rw [if_neg c26] at H
   have c26b0:(aM==1)=false:=beq_eq_false_iff_ne.mpr c26
   have c26b1:(aM !=1)=true:=bne_iff_ne.mpr c26
   simp only [Option.some.injEq,Prod.mk.injEq] at H
   obtain⟨rfl,rfl,rfl,rfl⟩:=H
   go_enter Try.func126,Try.ntmps126
   go_wp2_with (first | ((with_reducible refine gate_dst (N:=2) rfl ?_);refine box_event ?hg (N:=2) ?hd (cs:= #[.int .i64 0, .slice none 0 0]) (t:=64) ?hr ?_;(case hd=>rfl);(case hg=>rfl);(case hr=>first | (go_simp;done) | (go_simp;rfl));intro ai hg w47 hbox hb;replace HB:=Aside0.mk (below_step (by repeat (first | (with_reducible first | exact HB.out | apply below_alloc | apply pw_below_drewN | apply below_drew1 | refine below_set ?_ (IsS168.ge HI0.out)) | exact HB.out)) hb);have ae:=Aside0.mk (hbox);have aq:=Aside0.mk ((by rw [hg];exact(keep_size (w:=w) (g:=g) (row:=none) (by repeat (first | (with_reducible first | exact HK.out | apply KeepBut.set_ | apply keep_drewN | apply keep_drew | apply keep_alloc) | exact HK.out))):w.heap.size≤ai));have az:=Aside0.mk ((Nat.le_trans HW0.out (by rw [hg];exact(keep_size (w:=w) (g:=g) (row:=none) (by repeat (first | (with_reducible first | exact HK.out | apply KeepBut.set_ | apply keep_drewN | apply keep_drew | apply keep_alloc) | exact HK.out))):w.heap.size≤ai):w0.heap.size≤ai));have aa:=Aside0.mk ((by rw [hg];exact Nat.ne_of_lt (IsS168.lt (show IsS168 w0 _ g s0_0 s0_1 s0_2 from by repeat (first | (with_reducible first | exact HI0.out | apply IsS168.alloc | apply IsS168.drewN | apply IsS168.drew | apply IsS168.set_1 | apply IsS168.set_2) | exact HI0.out))):g≠ai));have aC:=Aside0.mk ((by rw [hg];exact Nat.ne_of_gt (IsS168.lt (show IsS168 w0 _ g s0_0 s0_1 s0_2 from by repeat (first | (with_reducible first | exact HI0.out | apply IsS168.alloc | apply IsS168.drewN | apply IsS168.drew | apply IsS168.set_1 | apply IsS168.set_2) | exact HI0.out))):ai≠g));replace HI0:=Aside0.mk (IsS168.below (by repeat (first | (with_reducible first | exact HI0.out | apply IsS168.alloc | apply IsS168.drewN | apply IsS168.drew | apply IsS168.set_1 | apply IsS168.set_2) | exact HI0.out)) hb);replace HK:=Aside0.mk (KeepBut.trans (by repeat (first | (with_reducible first | exact HK.out | apply KeepBut.set_ | apply keep_drewN | apply keep_drew | apply keep_alloc) | exact HK.out)) (KeepBut.of_below hb g none) (.inl rfl));clear hb hbox hg) | ((with_reducible refine gate_dst (N:=6) rfl ?_);refine Kd.R_lit (Kd.int .i64) _ 2 ?hg (N:=6) ?hd (xs:=([1,2,2,3,3,4,5]:List Int)) (inner:= [.int .i64 1, .int .i64 2, .int .i64 2, .int .i64 3, .int .i64 3, .int .i64 4, .int .i64 5]) (ok:=fun _=>True) (okp:=fun _=>True) ?hr ?hp (fun _ hk=>hk) trivial (Below.refl _ _) (Nat.le_refl _) (by simp) ?_;(case hd=>rfl);(case hg=>rfl);(case hr=>first | (go_simp;done) | (go_simp;rfl));(case hp=>exact(Reps.one (show Kd.M (Kd.int .i64) _ _ _ 1 [.int .i64 1] from rfl) (Reps.one (show Kd.M (Kd.int .i64) _ _ _ 2 [.int .i64 2] from rfl) (Reps.one (show Kd.M (Kd.int .i64) _ _ _ 2 [.int .i64 2] from rfl) (Reps.one (show Kd.M (Kd.int .i64) _ _ _ 3 [.int .i64 3] from rfl) (Reps.one (show Kd.M (Kd.int .i64) _ _ _ 3 [.int .i64 3] from rfl) (Reps.one (show Kd.M (Kd.int .i64) _ _ _ 4 [.int .i64 4] from rfl) (Reps.one (show Kd.M (Kd.int .i64) _ _ _ 5 [.int .i64 5] from rfl) (Reps.none _ _)))))))));intro bJ w48 bC hb hg_ hnew_;clear hg_ hnew_;(first | rw [← bh.out] at bC | (simp only [Int.reduceToNat] at bC;rw [← bh.out] at bC));have ag:=Aside0.mk (Kd.R_lower bC (keep_size (w:=w) (g:=g) (row:=none) (by repeat (first | (with_reducible first | exact HK.out | apply KeepBut.set_ | apply keep_drewN | apply keep_drew | apply keep_alloc | refine keep_far ?_ aq.out _) | exact HK.out))));replace ae:=Aside0.mk (bb_ ae.out hb);replace HB:=Aside0.mk (below_step (by repeat (first | (with_reducible first | exact HB.out | apply below_alloc | apply pw_below_drewN | apply below_drew1 | refine below_set ?_ (IsS168.ge HI0.out) | refine below_set ?_ az.out) | exact HB.out)) hb);replace HI0:=Aside0.mk (IsS168.below (by repeat (first | (with_reducible first | exact HI0.out | apply IsS168.alloc | apply IsS168.drewN | apply IsS168.drew | apply IsS168.set_1 | apply IsS168.set_2 | refine IsS168.far ?_ aa.out _) | exact HI0.out)) hb);replace HK:=Aside0.mk (KeepBut.trans (by repeat (first | (with_reducible first | exact HK.out | apply KeepBut.set_ | apply keep_drewN | apply keep_drew | apply keep_alloc | refine keep_far ?_ aq.out _) | exact HK.out)) (KeepBut.of_below hb g none) (.inl rfl));clear hb bC;obtain⟨cf,ck,cl⟩:=Kd.R_slice ag.out;subst cl) | ((with_reducible refine gate_callee (f:=114) rfl ?_);refine gL_ 7 Try.func114 #[.pointer (some ⟨g,0,none⟩), .slice cf aW.length ck] ?_;(with_reducible refine(spec_l01Pick.calls g s0_0 s0_1 s0_2 _ _ aW aX aY aZ w0 _ ?aD ?aG ?bb ?bf ?bg A2.out).mono ?_);(case aD=>repeat (first | (with_reducible first | exact HI0.out | apply IsS168.alloc | apply IsS168.drewN | apply IsS168.drew | apply IsS168.set_1 | apply IsS168.set_2 | refine IsS168.far ?_ aa.out _) | exact HI0.out));(case aG=>repeat (first | (with_reducible first | exact HB.out | apply below_alloc | apply pw_below_drewN | apply below_drew1 | refine below_set ?_ (IsS168.ge HI0.out) | refine below_set ?_ az.out) | exact HB.out));(case bb=>repeat (first | exact(Kd.R_reads' ag.out).2.2 | (with_reducible refine Kd.C_alloc ?_ _) | (with_reducible refine Kd.C_drewN ?_ _) | (with_reducible refine Kd.C_drew ?_)));(case bf=>exact(Kd.R_reads' ag.out).2.1);(case bg=>exact far_slice (IsS168.own_ne HI0.out ag.out (by decide)));rintro e w51 ⟨rfl,hi,hb,hk⟩;refine⟨_,rfl,?_⟩;replace ae:=Aside0.mk (KeepBut.blk hk (g':=ai) (o:= .cells #[.int .i64 0, .slice none 0 0] 64 (0,0)) bk_ aC.out (by simp));replace ag:=Aside0.mk (Kd.R_mono (Kd.R_keep (IsS168.apart (show IsS168 w0 _ g s0_0 s0_1 s0_2 from by repeat (first | (with_reducible first | exact HI0.out | apply IsS168.alloc | apply IsS168.drewN | apply IsS168.drew | apply IsS168.set_1 | apply IsS168.set_2 | refine IsS168.far ?_ aa.out _) | exact HI0.out)) (ro_ ag.out) (by decide)) hk (fun _ h=>h.2)) (fun _ h=>h.1));replace HK:=Aside0.mk (KeepBut.trans (by repeat (first | (with_reducible first | exact HK.out | apply KeepBut.set_ | apply keep_drewN | apply keep_drew | apply keep_alloc | refine keep_far ?_ aq.out _) | exact HK.out)) hk (.inl rfl));replace HB:=Aside0.mk (hb);replace HI0:=Aside0.mk (hi);(try clear hb);(try clear hb2);(try clear hk);(try clear hi)) | ((with_reducible refine gate_callee (f:=172) rfl ?_);refine gL_ 8 Try.func172 #[.pointer (some ⟨g,0,none⟩), .int .i64 aX] ?_;(with_reducible refine(spec_l06DrawOf.calls k g s0_0 aY aZ aX ax aj aH aI w0 _ ?aD ?aG A3.out).mono ?_);(case aD=>repeat (first | (with_reducible first | exact HI0.out | apply IsS168.alloc | apply IsS168.drewN | apply IsS168.drew | apply IsS168.set_1 | apply IsS168.set_2 | refine IsS168.far ?_ aa.out _) | exact HI0.out));(case aG=>repeat (first | (with_reducible first | exact HB.out | apply below_alloc | apply pw_below_drewN | apply below_drew1 | refine below_set ?_ (IsS168.ge HI0.out) | refine below_set ?_ az.out) | exact HB.out));rintro e w52 ⟨bK,rfl,ho0,hi,hb,hk⟩;refine⟨_,rfl,?_⟩;replace ae:=Aside0.mk (KeepBut.blk hk (g':=ai) (o:= .cells #[.int .i64 0, .slice none 0 0] 64 (0,0)) bk_ aC.out (by simp));have ak:=Aside0.mk (Kd.R_lower (Kd.R_new' ho0 (Kd.R_lt (ro_ ag.out))) (keep_size (w:=w) (g:=g) (row:=none) (by repeat (first | (with_reducible first | exact HK.out | apply KeepBut.set_ | apply keep_drewN | apply keep_drew | apply keep_alloc | refine keep_far ?_ aq.out _) | exact HK.out))));replace HB:=Aside0.mk (hb);replace ag:=Aside0.mk (Kd.R_mono (Kd.R_told (Kd.R_oldK (IsS168.apart (show IsS168 w0 _ g s0_0 aY aZ from by repeat (first | (with_reducible first | exact HI0.out | apply IsS168.alloc | apply IsS168.drewN | apply IsS168.drew | apply IsS168.set_1 | apply IsS168.set_2 | refine IsS168.far ?_ aa.out _) | exact HI0.out)) (ro_ ag.out) (by decide)) hk) (Kd.R_base ho0)) (fun _ h_=>h_.1));replace HK:=Aside0.mk (KeepBut.trans (by repeat (first | (with_reducible first | exact HK.out | apply KeepBut.set_ | apply keep_drewN | apply keep_drew | apply keep_alloc | refine keep_far ?_ aq.out _) | exact HK.out)) hk (.inl rfl));replace HI0:=Aside0.mk (hi);(try clear hb);(try clear hb2);(try clear hk);(try clear hi);(try clear ho0)) | ((with_reducible refine gate_dst (N:=3) rfl ?_);refine box_event ?hg (N:=3) ?hd (cs:= #[.int .i64 0, .slice none 0 0]) (t:=64) ?hr ?_;(case hd=>rfl);(case hg=>rfl);(case hr=>first | (go_simp;done) | (go_simp;rfl));intro af hg w53 hbox hb;replace ag:=Aside0.mk (rb_ ag.out hb);replace ak:=Aside0.mk (rb_ ak.out hb);replace HB:=Aside0.mk (below_step (by repeat (first | (with_reducible first | exact HB.out | apply below_alloc | apply pw_below_drewN | apply below_drew1 | refine below_set ?_ (IsS168.ge HI0.out) | refine below_set ?_ az.out) | exact HB.out)) hb);have ah:=Aside0.mk (hbox);have aK:=Aside0.mk ((by rw [hg];exact(keep_size (w:=w) (g:=g) (row:=none) (by repeat (first | (with_reducible first | exact HK.out | apply KeepBut.set_ | apply keep_drewN | apply keep_drew | apply keep_alloc | refine keep_far ?_ aq.out _) | exact HK.out))):w.heap.size≤af));have aN:=Aside0.mk ((Nat.le_trans HW0.out (by rw [hg];exact(keep_size (w:=w) (g:=g) (row:=none) (by repeat (first | (with_reducible first | exact HK.out | apply KeepBut.set_ | apply keep_drewN | apply keep_drew | apply keep_alloc | refine keep_far ?_ aq.out _) | exact HK.out))):w.heap.size≤af):w0.heap.size≤af));have aA:=Aside0.mk ((by rw [hg];exact lt_ ae.out:ai≠af));have aV:=Aside0.mk ((by rw [hg];exact gt_ ae.out:af≠ai));have av:=Aside0.mk ((by rw [hg];exact Nat.ne_of_lt (IsS168.lt (show IsS168 w0 _ g s0_0 aH aI from by repeat (first | (with_reducible first | exact HI0.out | apply IsS168.alloc | apply IsS168.drewN | apply IsS168.drew | apply IsS168.set_1 | apply IsS168.set_2 | refine IsS168.far ?_ aa.out _) | exact HI0.out))):g≠af));have aJ:=Aside0.mk ((by rw [hg];exact Nat.ne_of_gt (IsS168.lt (show IsS168 w0 _ g s0_0 aH aI from by repeat (first | (with_reducible first | exact HI0.out | apply IsS168.alloc | apply IsS168.drewN | apply IsS168.drew | apply IsS168.set_1 | apply IsS168.set_2 | refine IsS168.far ?_ aa.out _) | exact HI0.out))):af≠g));replace HI0:=Aside0.mk (IsS168.below (by repeat (first | (with_reducible first | exact HI0.out | apply IsS168.alloc | apply IsS168.drewN | apply IsS168.drew | apply IsS168.set_1 | apply IsS168.set_2 | refine IsS168.far ?_ aa.out _) | exact HI0.out)) hb);replace ae:=Aside0.mk (bb_ ae.out hb);replace HK:=Aside0.mk (KeepBut.trans (by repeat (first | (with_reducible first | exact HK.out | apply KeepBut.set_ | apply keep_drewN | apply keep_drew | apply keep_alloc | refine keep_far ?_ aq.out _) | exact HK.out)) (KeepBut.of_below hb g none) (.inl rfl));clear hb hbox hg;have dI:=aV.out;have dJ:=aA.out;have dK:=aJ.out;have dL:=av.out;have cV:w53.cell? ⟨af,0,none⟩=some (.int .i64 0):=(blk_cell ah.out 0).trans rfl;have cW:w53.cell? ⟨af,1,none⟩=some (.slice none 0 0):=(blk_cell ah.out 1).trans rfl;have cZ:=blk_frozen ah.out 0;have da:=blk_frozen ah.out 1;obtain⟨bv,bw,cm⟩:=Kd.R_slice ak.out;subst cm) | ((with_reducible refine gate_callee (f:=100) rfl ?_);refine gL_ 10 Try.func100 #[.pointer (some ⟨g,0,none⟩), .int .i64 40] ?_;(with_reducible refine(spec_l01Next.calls g s0_0 aH aI 40 aM aT aU w0 _ ?aD ?aG A4.out).mono ?_);(case aD=>repeat (first | (with_reducible first | exact HI0.out | apply IsS168.alloc | apply IsS168.drewN | apply IsS168.drew | apply IsS168.set_1 | apply IsS168.set_2 | refine IsS168.far ?_ aa.out _ | refine IsS168.far ?_ av.out _) | exact HI0.out));(case aG=>repeat (first | (with_reducible first | exact HB.out | apply below_alloc | apply pw_below_drewN | apply below_drew1 | refine below_set ?_ (IsS168.ge HI0.out) | refine below_set ?_ az.out | refine below_set ?_ aN.out) | exact HB.out));rintro e w58 ⟨rfl,hi,hb,hk⟩;refine⟨_,rfl,?_⟩;replace ae:=Aside0.mk (KeepBut.blk hk (g':=ai) (o:= .cells #[.int .i64 0, .slice none 0 0] 64 (0,0)) (by(with_reducible repeat (first | refine blk_drewN ?_ _ | refine blk_drew ?_ | refine blk_alloc ?_ _));refine blk_far ?_ aA.out _;(with_reducible repeat (first | refine blk_drewN ?_ _ | refine blk_drew ?_ | refine blk_alloc ?_ _));refine blk_far ?_ aA.out _;(with_reducible repeat (first | refine blk_drewN ?_ _ | refine blk_drew ?_ | refine blk_alloc ?_ _));exact ae.out) aC.out (by simp));replace ag:=Aside0.mk (Kd.R_mono (Kd.R_keep (IsS168.apart (show IsS168 w0 _ g s0_0 aH aI from by repeat (first | (with_reducible first | exact HI0.out | apply IsS168.alloc | apply IsS168.drewN | apply IsS168.drew | apply IsS168.set_1 | apply IsS168.set_2 | refine IsS168.far ?_ aa.out _ | refine IsS168.far ?_ av.out _) | exact HI0.out)) (by(with_reducible repeat (first | apply Kd.R_alloc | apply Kd.R_drewN | apply Kd.R_drew));exact(Kd.R_mono (Kd.R_far (p:=⟨af,1,none⟩) (Kd.R_far (p:=⟨af,0,none⟩) (Kd.R_types ag.out ah.out (by decide)) (fun _ hk=>hk.2) (.int .i64 ax)) (fun _ hk=>hk.2) (.slice bv aj.length bw)) (fun _ h_=>h_.1))) (by decide)) hk (fun _ h=>h.2)) (fun _ h=>h.1));replace ak:=Aside0.mk (Kd.R_mono (Kd.R_keep (IsS168.apart (show IsS168 w0 _ g s0_0 aH aI from by repeat (first | (with_reducible first | exact HI0.out | apply IsS168.alloc | apply IsS168.drewN | apply IsS168.drew | apply IsS168.set_1 | apply IsS168.set_2 | refine IsS168.far ?_ aa.out _ | refine IsS168.far ?_ av.out _) | exact HI0.out)) (by(with_reducible repeat (first | apply Kd.R_alloc | apply Kd.R_drewN | apply Kd.R_drew));exact(Kd.R_mono (Kd.R_far (p:=⟨af,1,none⟩) (Kd.R_far (p:=⟨af,0,none⟩) (Kd.R_types ak.out ah.out (by decide)) (fun _ hk=>hk.2) (.int .i64 ax)) (fun _ hk=>hk.2) (.slice bv aj.length bw)) (fun _ h_=>h_.1))) (by decide)) hk (fun _ h=>h.2)) (fun _ h=>h.1));replace HK:=Aside0.mk (KeepBut.trans (by repeat (first | (with_reducible first | exact HK.out | apply KeepBut.set_ | apply keep_drewN | apply keep_drew | apply keep_alloc | refine keep_far ?_ aq.out _ | refine keep_far ?_ aK.out _) | exact HK.out)) hk (.inl rfl));replace HB:=Aside0.mk (hb);replace ah:=Aside0.mk (KeepBut.blk hk (g':=af) (o:= .cells #[.int .i64 ax, .slice bv aj.length bw] 64 (0,0)) (by(with_reducible repeat (first | refine blk_drewN ?_ _ | refine blk_drew ?_ | refine blk_alloc ?_ _));refine blk_put (cs:= #[.int .i64 ax, .slice none 0 0]) ?_ 1 _ rfl;(with_reducible repeat (first | refine blk_drewN ?_ _ | refine blk_drew ?_ | refine blk_alloc ?_ _));refine blk_put (cs:= #[.int .i64 0, .slice none 0 0]) ?_ 0 _ rfl;(with_reducible repeat (first | refine blk_drewN ?_ _ | refine blk_drew ?_ | refine blk_alloc ?_ _));exact ah.out) aJ.out (by simp));replace HI0:=Aside0.mk (hi);(try clear hb);(try clear hb2);(try clear hk);(try clear hi);have db:w58.cell? ⟨af,0,none⟩=some (.int .i64 ax):=(blk_cell ah.out 0).trans rfl;have dc:w58.cell? ⟨af,1,none⟩=some (.slice bv aj.length bw):=(blk_cell ah.out 1).trans rfl;have df:=blk_frozen ah.out 0;have dh:=blk_frozen ah.out 1;have dM:=aC.out;have dN:=aa.out;have di:w58.cell? ⟨ai,0,none⟩=some (.int .i64 0):=(blk_cell ae.out 0).trans rfl;have dl:w58.cell? ⟨ai,1,none⟩=some (.slice none 0 0):=(blk_cell ae.out 1).trans rfl;have dm:=blk_frozen ae.out 0;have dq:=blk_frozen ae.out 1))
   refine bodyPost_ret (results_cell_row rfl _ _ ai 64 #[.int .i64 ax, .slice bv aj.length bw] (0,0) _ rfl (by(with_reducible repeat (first | refine blk_drewN ?_ _ | refine blk_drew ?_ | refine blk_alloc ?_ _));refine blk_put (cs:= #[.int .i64 ax, .slice none 0 0]) ?_ 1 _ rfl;(with_reducible repeat (first | refine blk_drewN ?_ _ | refine blk_drew ?_ | refine blk_alloc ?_ _));refine blk_put (cs:= #[.int .i64 0, .slice none 0 0]) ?_ 0 _ rfl;(with_reducible repeat (first | refine blk_drewN ?_ _ | refine blk_drew ?_ | refine blk_alloc ?_ _));exact ae.out) Try.underlying64 rfl (by kernel_rfl)) rfl ?_
   exact⟨_,by first | rfl | (simp [errW_none,errW_some] <;> rfl) | (simp [*,errW_none,errW_some] <;> rfl),by(with_reducible repeat (first | apply Kd.R_alloc | apply Kd.R_drewN | apply Kd.R_drew));exact Kd.R_mono (Kd.R_far (p:=⟨ai,1,none⟩) (Kd.R_far (p:=⟨ai,0,none⟩) (Kd.R_types ak.out ae.out (by decide)) (fun _ hk=>hk.2) (.int .i64 ax)) (fun _ hk=>hk.2) (.slice bv aj.length bw)) (fun _ hk=>trivial),by repeat (first | (with_reducible first | exact HI0.out | apply IsS168.alloc | apply IsS168.drewN | apply IsS168.drew | apply IsS168.set_1 | apply IsS168.set_2 | refine IsS168.far ?_ aa.out _ | refine IsS168.far ?_ av.out _) | exact HI0.out),by repeat (first | (with_reducible first | exact HB.out | apply below_alloc | apply pw_below_drewN | apply below_drew1 | refine below_set ?_ (IsS168.ge HI0.out) | refine below_set ?_ az.out | refine below_set ?_ aN.out) | exact HB.out),by repeat (first | (with_reducible first | exact HK.out | apply KeepBut.set_ | apply keep_drewN | apply keep_drew | apply keep_alloc | refine keep_far ?_ aq.out _ | refine keep_far ?_ aK.out _) | exact HK.out)⟩
def spec_DrawHasUniqueSinks.f (k:Nat) (l0:List Int):Option (Int × List Int):=(spec_l01From.f k l0).bind fun aa=>((spec_l06Draw.f k aa.1 aa.2.1 aa.2.2).bind fun ae=>(some (ae.1,ae.2.1)))
theorem spec_DrawHasUniqueSinks.mono: ∀a0 k,LeO (spec_DrawHasUniqueSinks.f k a0) (spec_DrawHasUniqueSinks.f (k+1) a0):=by
 intro a0 k
 unfold spec_DrawHasUniqueSinks.f
 repeat' first
   | (with_reducible exact spec_l01From.mono _ _)
   | (with_reducible exact spec_l06Draw.mono _ _ _ _)
   | (with_reducible exact LeO.refl _)
   | (with_reducible exact LeO.none _)
   | (with_reducible refine LeO.ite ?_ ?_)
   | (with_reducible refine LeO.bind ?_ (fun _=>?_))
   | exact spec_l01From.mono _ _
   | exact spec_l06Draw.mono _ _ _ _
   | exact LeO.none _
   | refine LeO.ite ?_ ?_
   | refine LeO.bind ?_ (fun _=>?_)
theorem spec_DrawHasUniqueSinks.calls (k:Nat) (A0:Option Addr) (c0:Nat) (l0:List Int) (r1:Int) (r2:List Int) (w:World) (hr0:Kd.C (Kd.int .u8) w A0 l0.length l0) (hc0:l0.length≤c0) (h:spec_DrawHasUniqueSinks.f k l0=some (r1,r2)):
  Calls Try.prog 39 #[.slice A0 l0.length c0] w fun e w'=> ∃v1_:Value,e= .returned (.agg #[.int .i64 r1,v1_])∧Kd.R (Kd.int .i64) 2 w' w.heap.size (fun _=>True) v1_ r2∧Below w.heap.size w w':=by
 have hu64:=Try.underlying64
 have HR0:=Aside0.mk hr0
 have HC0:=Aside0.mk hc0
 clear hr0 hc0
 have HB:=Aside0.mk (Below.refl w.heap.size w)
 have H:((spec_l01From.f k l0).bind fun ak=>((spec_l06Draw.f k ak.1 ak.2.1 ak.2.2).bind fun af=>(some (af.1,af.2.1))))=some (r1,r2):=h
 clear h
 replace H:=Option.bind_eq_some_iff.mp H
 obtain⟨⟨aw,ax,ay⟩,A20,H⟩:=H
 replace H:((spec_l06Draw.f k aw ax ay).bind fun af=>(some (af.1,af.2.1)))=some (r1,r2):=H
 have A2:=Aside0.mk A20
 clear A20
 replace H:=Option.bind_eq_some_iff.mp H
 obtain⟨⟨aj,aq,aG,aH⟩,A30,H⟩:=H
 replace H:(some (aj,aq))=some (r1,r2):=H
 have A3:=Aside0.mk A30
 clear A30
 simp only [Option.some.injEq,Prod.mk.injEq] at H
 obtain⟨rfl,rfl⟩:=H
 go_enter Try.func39,Try.ntmps39
 go_wp2_with (first | ((with_reducible refine gate_dst (N:=2) rfl ?_);refine box_event ?hg (N:=2) ?hd (cs:= #[.int .i64 0, .slice none 0 0]) (t:=64) ?hr ?_;(case hd=>rfl);(case hg=>rfl);(case hr=>first | (go_simp;done) | (go_simp;rfl));intro ae hg w4 hbox hb;have aa:=Aside0.mk (hbox);have aT:=Aside0.mk ((by rw [hg];exact bz_:w.heap.size≤ae));have ai:=Aside0.mk ((by rw [hg];exact bz_:w.heap.size≤ae));replace HB:=Aside0.mk (bs_ hb);clear hb hbox hg) | ((with_reducible refine gate_callee (f:=101) rfl ?_);refine gL_ 4 Try.func101 #[.slice A0 l0.length c0] ?_;(with_reducible refine(spec_l01From.calls k _ _ l0 aw ax ay w _ ?au ?av ?aA A2.out).mono ?_);(case au=>repeat (first | (with_reducible first | exact HB.out | apply below_alloc | apply pw_below_drewN | apply below_drew1 | refine below_set ?_ ai.out) | exact HB.out));(case av=>exact HR0.out);(case aA=>exact HC0.out);rintro e w5 ⟨g907,rfl,hi,hb,hb2⟩;refine⟨_,rfl,?_⟩;replace HB:=Aside0.mk (hb);have HI907:=Aside0.mk (hi);have ag:=Aside0.mk (IsS168.ne_blk hi (bb_ aa.out hb2) (by decide));have ah:=Aside0.mk (Ne.symm (IsS168.ne_blk hi (bb_ aa.out hb2) (by decide)));replace aa:=Aside0.mk (bb_ aa.out hb2);(try clear hb);(try clear hb2);(try clear hk);(try clear hi)) | ((with_reducible refine gate_callee (f:=126) rfl ?_);refine gL_ 5 Try.func126 #[.pointer (some ⟨g907,0,none⟩)] ?_;(with_reducible refine(spec_l06Draw.calls k g907 aw ax ay aj aq aG aH w _ ?au ?av A3.out).mono ?_);(case au=>repeat (first | (with_reducible first | exact HI907.out | apply IsS168.alloc | apply IsS168.drewN | apply IsS168.drew | apply IsS168.set_1 | apply IsS168.set_2 | refine IsS168.far ?_ ag.out _) | exact HI907.out));(case av=>repeat (first | (with_reducible first | exact HB.out | apply below_alloc | apply pw_below_drewN | apply below_drew1 | refine below_set ?_ (IsS168.ge HI907.out) | refine below_set ?_ ai.out) | exact HB.out));rintro e w6 ⟨aU,rfl,ho0,hi,hb,hk⟩;refine⟨_,rfl,?_⟩;replace aa:=Aside0.mk (KeepBut.blk hk (g':=ae) (o:= .cells #[.int .i64 0, .slice none 0 0] 64 (0,0)) bk_ ah.out (by simp));have az:=Aside0.mk (Kd.R_lower ho0 (below_size (by repeat (first | (with_reducible first | exact HB.out | apply below_alloc | apply pw_below_drewN | apply below_drew1 | refine below_set ?_ (IsS168.ge HI907.out) | refine below_set ?_ ai.out) | exact HB.out))));replace HB:=Aside0.mk (hb);replace HI907:=Aside0.mk (hi);(try clear hb);(try clear hb2);(try clear hk);(try clear hi);(try clear ho0);have aV:=ah.out;have aW:=ag.out;have aI:w6.cell? ⟨ae,0,none⟩=some (.int .i64 0):=(blk_cell aa.out 0).trans rfl;have aJ:w6.cell? ⟨ae,1,none⟩=some (.slice none 0 0):=(blk_cell aa.out 1).trans rfl;have aK:=blk_frozen aa.out 0;have aM:=blk_frozen aa.out 1;obtain⟨aC,aD,aN⟩:=Kd.R_slice az.out;subst aN))
 refine bodyPost_ret (results_cell_row rfl _ _ ae 64 #[.int .i64 aj, .slice aC aq.length aD] (0,0) _ rfl (by(with_reducible repeat (first | refine blk_drewN ?_ _ | refine blk_drew ?_ | refine blk_alloc ?_ _));refine blk_put (cs:= #[.int .i64 aj, .slice none 0 0]) ?_ 1 _ rfl;(with_reducible repeat (first | refine blk_drewN ?_ _ | refine blk_drew ?_ | refine blk_alloc ?_ _));refine blk_put (cs:= #[.int .i64 0, .slice none 0 0]) ?_ 0 _ rfl;(with_reducible repeat (first | refine blk_drewN ?_ _ | refine blk_drew ?_ | refine blk_alloc ?_ _));exact aa.out) Try.underlying64 rfl (by kernel_rfl)) rfl ?_
 exact⟨_,by first | rfl | (simp [errW_none,errW_some] <;> rfl) | (simp [*,errW_none,errW_some] <;> rfl),by(with_reducible repeat (first | apply Kd.R_alloc | apply Kd.R_drewN | apply Kd.R_drew));exact Kd.R_mono (Kd.R_far (p:=⟨ae,1,none⟩) (Kd.R_far (p:=⟨ae,0,none⟩) (Kd.R_types az.out aa.out (by decide)) (fun _ hk=>hk.2) (.int .i64 aj)) (fun _ hk=>hk.2) (.slice aC aq.length aD)) (fun _ hk=>trivial),by repeat (first | (with_reducible first | exact HB.out | apply below_alloc | apply pw_below_drewN | apply below_drew1 | refine below_set ?_ (IsS168.ge HI907.out) | refine below_set ?_ ai.out) | exact HB.out)⟩
def spec_l01Own.f (l0:List Int):Option (List Int):=(some (([]:List Int):List Int)).bind fun aa=>(if aa.length+l0.length < 17592186044416 then(some (aa++l0)) else(none))
theorem spec_l01Own.calls (A0:Option Addr) (c0:Nat) (l0:List Int) (r:List Int) (w:World) (hr0:Kd.C (Kd.int .i64) w A0 l0.length l0) (hc0:l0.length≤c0) (h:spec_l01Own.f l0=some r):
  Calls Try.prog 150 #[.slice A0 l0.length c0] w fun e w'=> ∃v0_:Value,e= .returned (v0_)∧Kd.R (Kd.int .i64) 2 w' w.heap.size (fun _=>True) v0_ r∧Below w.heap.size w w':=by
 have HR0:=Aside0.mk hr0
 have HC0:=Aside0.mk hc0
 clear hr0 hc0
 have HB:=Aside0.mk (Below.refl w.heap.size w)
 have H:((some (([]:List Int):List Int)).bind fun aa=>(if aa.length+l0.length < 17592186044416 then(some (aa++l0)) else(none)))=some r:=h
 clear h
 obtain⟨aa,hy149⟩: ∃y_:List Int,y_=(([]:List Int)):=⟨_,rfl⟩
 replace H:(if aa.length+l0.length < 17592186044416 then(some (aa++l0)) else(none))=some r:=by first | (rw [hy149];with_reducible exact H) | (have H2_:=(Option.bind_some _ _).symm.trans H;rw [hy149];with_reducible exact H2_) | (have H2_:=(Option.bind_some _ _).symm.trans H;with_reducible exact H2_) | with_reducible exact H | (rw [hy149];exact H) | exact H
 have ae:=Aside0.mk hy149
 clear hy149
 by_cases c2:aa.length+l0.length < 17592186044416
 ·rw [if_pos c2] at H
  have ai:=Aside0.mk c2
  clear c2
  obtain⟨aj,hy152⟩: ∃y_:List Int,y_=(aa++l0):=⟨_,rfl⟩
  replace H:(some aj)=some r:=by first | (rw [hy152];with_reducible exact H) | (have H2_:=(Option.bind_some _ _).symm.trans H;rw [hy152];with_reducible exact H2_) | (have H2_:=(Option.bind_some _ _).symm.trans H;with_reducible exact H2_) | with_reducible exact H | (rw [hy152];exact H) | exact H
  have ag:=Aside0.mk hy152
  clear hy152
  obtain rfl:=Option.some.inj H
  go_enter Try.func150,Try.ntmps150
  go_wp2_with (first | ((with_reducible refine gate_dst (N:=3) rfl ?_);refine Kd.R_lit (Kd.int .i64) _ 2 ?hg (N:=3) ?hd (xs:=([]:List Int)) (inner:= []) (ok:=fun _=>True) (okp:=fun _=>True) ?hr ?hp (fun _ hk=>hk) trivial (Below.refl _ _) (Nat.le_refl _) (by simp) ?_;(case hd=>rfl);(case hg=>rfl);(case hr=>first | (go_simp;done) | (go_simp;rfl));(case hp=>exact(Reps.none _ _));intro ak w3 ho4 hb hg_ hnew_;clear hg_ hnew_;(first | rw [← ae.out] at ho4 | (simp only [Int.reduceToNat] at ho4;rw [← ae.out] at ho4));have af:=Aside0.mk (Kd.R_lower ho4 bz_);replace HB:=Aside0.mk (bs_ hb);clear hb ho4) | ((with_reducible refine gate_builtin (b:= .append) (xs:= #[.tmp 3, .tmp 4]) rfl ?_);at_builtin;refine Kd.R_append_rows (Kd.int .i64) (w0:=w) w.heap.size rfl (.tmp 3) (.tmp 4) 23 2 (.int .i64 0) 8 rfl Try.underlying23 info2 rfl (by decide) (by omega) ak aa l0 _ _ _ (fun _=>True) (fun _=>False) rfl rfl ?aO ?aR (fun _ _ h=>h) (fun _ h=>h.elim) ?aF ?aB ?aS ?aL ?_;(case aR=>exact cb_ HR0.out HB.out);(case aB=>exact hb_);(case aF=>exact(fun _ _=>trivial));(case aO=>exact(ro_ af.out));(case aS=>exact bz_);(case aL=>have:=ai.out;omega);intro aq w5 ho hb hg hat;rw [← ag.out] at ho;replace HB:=Aside0.mk (hb);have ah:=Aside0.mk (ho);clear af ho hb hg hat))
  go_ret
  exact⟨_,by first | rfl | (simp [errW_none,errW_some] <;> rfl) | (simp [*,errW_none,errW_some] <;> rfl),ro_ ah.out,hb_⟩
 ·rw [if_neg c2] at H
  exact absurd H (by simp)
def impl_within.f (a0:Int) (a1:Int) (a2:Int):Option (Bool):=if a0 ≥ a1 then(some (decide (a0≤a2))) else(some false)
theorem impl_within.calls (a0:Int) (a1:Int) (a2:Int) (r:Bool) (w:World) (h:impl_within.f a0 a1 a2=some r):
  Calls Try.prog 117 #[.int .i64 a0, .int .i64 a1, .int .i64 a2] w fun e w'=>e= .returned (.bool r)∧Drawn0 w w':=by
 have H:(if a0 ≥ a1 then(some (decide (a0≤a2))) else(some false))=some r:=h
 clear h
 by_cases c4:a0 ≥ a1
 ·rw [if_pos c4] at H
  have c4b0:decide (a1≤a0)=true:=decide_eq_true c4
  clear c4
  obtain rfl:=Option.some.inj H
  go_enter Try.func117,Try.ntmps117
  go_wp2
  go_ret
  exact⟨by first | rfl | (simp;done) | (simp [*];done),by repeat (first | exact Drawn0.refl _ | apply Drawn0.step)⟩
 ·rw [if_neg c4] at H
  have c4b0:decide (a1≤a0)=false:=decide_eq_false c4
  clear c4
  obtain rfl:=Option.some.inj H
  go_enter Try.func117,Try.ntmps117
  go_wp2
  go_ret
  exact⟨by first | rfl | (simp;done) | (simp [*];done),by repeat (first | exact Drawn0.refl _ | apply Drawn0.step)⟩
def impl_has.f (a0:Int) (a1:Int):Option (Bool):=if 0≤a1 then(some ((Go.bits .and .i64 (shr .i64 a0 a1) 1)==1)) else(none)
theorem impl_has.calls (a0:Int) (a1:Int) (r:Bool) (w:World) (h:impl_has.f a0 a1=some r):
  Calls Try.prog 130 #[.int .i64 a0, .int .i64 a1] w fun e w'=>e= .returned (.bool r)∧Drawn0 w w':=by
 have H:(if 0≤a1 then(some ((Go.bits .and .i64 (shr .i64 a0 a1) 1)==1)) else(none))=some r:=h
 clear h
 by_cases c3:0≤a1
 ·rw [if_pos c3] at H
  have c3b0:=eq_true c3
  have c3b1:decide (0≤a1)=true:=decide_eq_true c3
  clear c3
  obtain⟨ji4,hji4⟩: ∃j_:Int,(shr .i64 a0 a1)=j_:=⟨_,rfl⟩
  replace H:(some ((Go.bits .and .i64 (ji4) 1)==1))=some r:=by first | (rw [hji4] at H;exact H) | (simp only [hji4] at H ⊢;exact H)
  have hji4_:(a0 / 2 ^ min a1.toNat 64)=ji4:=hji4
  have hji4z:a1≤64→(a0 / 2 ^ a1.toNat)=ji4:=shr_small hji4
  obtain rfl:=Option.some.inj H
  go_enter Try.func130,Try.ntmps130
  go_wp2
  go_ret
  exact⟨by first | rfl | (simp;done) | (simp only [← hji4] <;> (first | rfl | simp)) | (simp [*];done),by repeat (first | exact Drawn0.refl _ | apply Drawn0.step)⟩
 ·rw [if_neg c3] at H
  exact absurd H (by simp)
def spec_l01In.f (a0:Int) (a1:Int) (a2:Int):Option (Bool):=if a0 ≥ a1 then(some (decide (a0≤a2))) else(some false)
theorem spec_l01In.calls (a0:Int) (a1:Int) (a2:Int) (r:Bool) (w:World) (h:spec_l01In.f a0 a1 a2=some r):
  Calls Try.prog 119 #[.int .i64 a0, .int .i64 a1, .int .i64 a2] w fun e w'=>e= .returned (.bool r)∧Drawn0 w w':=by
 have H:(if a0 ≥ a1 then(some (decide (a0≤a2))) else(some false))=some r:=h
 clear h
 by_cases c4:a0 ≥ a1
 ·rw [if_pos c4] at H
  have c4b0:decide (a1≤a0)=true:=decide_eq_true c4
  clear c4
  obtain rfl:=Option.some.inj H
  go_enter Try.func119,Try.ntmps119
  go_wp2
  go_ret
  exact⟨by first | rfl | (simp;done) | (simp [*];done),by repeat (first | exact Drawn0.refl _ | apply Drawn0.step)⟩
 ·rw [if_neg c4] at H
  have c4b0:decide (a1≤a0)=false:=decide_eq_false c4
  clear c4
  obtain rfl:=Option.some.inj H
  go_enter Try.func119,Try.ntmps119
  go_wp2
  go_ret
  exact⟨by first | rfl | (simp;done) | (simp [*];done),by repeat (first | exact Drawn0.refl _ | apply Drawn0.step)⟩
mutual
def impl_IsCube.j0:Nat→Bool→Int→List Int→Option (Bool)
 | 0,_,_,_=>none
 | k+1,x18,ae,aa=>if x18=true then(some false) else(impl_IsCube.l0 k aa (aa.length:Int) 0 ae aa)
def impl_IsCube.l0:Nat→List Int→Int→Int→Int→List Int→Option (Bool)
 | 0,_,_,_,_,_=>none
 | k+1,x20,x21,x22,ae,aa=>if x22 < x21 then(if 0≤x22 then(if x22 < (x20.length:Int) then((impl_within.f (rd x20 x22) 0 (wrap64 ((aa.length:Int) - 1))).bind fun af=>(if af=true then(impl_IsCube.l1 k x22 (rd x20 x22) x20 x21 x22 ae 0 ae aa) else(some false))) else(none)) else(none)) else(some true)
def impl_IsCube.l1:Nat→Int→Int→List Int→Int→Int→Int→Int→Int→List Int→Option (Bool)
 | 0,_,_,_,_,_,_,_,_,_=>none
 | k+1,x3,x4,x20,x21,x22,x35,x36,ae,aa=>if x36 < x35 then((impl_has.f x4 x36).bind fun ag=>(if 0≤x36 then(if 0≤(Go.bits .xor .i64 x3 (shl .i64 1 x36)) then(if(Go.bits .xor .i64 x3 (shl .i64 1 x36)) < (aa.length:Int) then((impl_has.f (rd aa (Go.bits .xor .i64 x3 (shl .i64 1 x36))) x36).bind fun ah=>(if(ag==ah)=true then(some false) else(impl_IsCube.l1 k x3 x4 x20 x21 x22 x35 (wrap64 (x36+1)) ae aa))) else(none)) else(none)) else(none))) else(impl_IsCube.l0 k x20 x21 (wrap64 (x22+1)) ae aa)
end
def impl_IsCube.f (k:Nat) (a0_0:Int) (aa:List Int):Option (Bool):=(impl_within.f a0_0 1 5).bind fun ae=>(if ae=true then(if 0≤a0_0 then(impl_IsCube.j0 k ((aa.length:Int) !=(shl .i64 1 a0_0)) a0_0 aa) else(none)) else(impl_IsCube.j0 k true a0_0 aa))
theorem impl_IsCube.mono_l: ∀k,(∀y0 y1 y2,LeO (impl_IsCube.j0 k y0 y1 y2) (impl_IsCube.j0 (k+1) y0 y1 y2))∧(∀y0 y1 y2 y3 y4,LeO (impl_IsCube.l0 k y0 y1 y2 y3 y4) (impl_IsCube.l0 (k+1) y0 y1 y2 y3 y4))∧(∀y0 y1 y2 y3 y4 y5 y6 y7 y8,LeO (impl_IsCube.l1 k y0 y1 y2 y3 y4 y5 y6 y7 y8) (impl_IsCube.l1 (k+1) y0 y1 y2 y3 y4 y5 y6 y7 y8))
 | 0=>⟨fun _ _ _ r h=>by simp [impl_IsCube.j0] at h,fun _ _ _ _ _ r h=>by simp [impl_IsCube.l0] at h,fun _ _ _ _ _ _ _ _ _ r h=>by simp [impl_IsCube.l1] at h⟩
 | k+1=>by
  obtain⟨ih0,ih1,ih2⟩:=impl_IsCube.mono_l k
  refine⟨?_,?_,?_⟩
  ·intro y0 y1 y2
   unfold impl_IsCube.j0
   repeat' first
   | (with_reducible exact ih0 _ _ _)
   | (with_reducible exact ih1 _ _ _ _ _)
   | (with_reducible exact ih2 _ _ _ _ _ _ _ _ _)
   | (with_reducible exact LeO.refl _)
   | (with_reducible exact LeO.none _)
   | (with_reducible refine LeO.ite ?_ ?_)
   | (with_reducible refine LeO.bind ?_ (fun _=>?_))
   | exact ih0 _ _ _
   | exact ih1 _ _ _ _ _
   | exact ih2 _ _ _ _ _ _ _ _ _
   | exact LeO.none _
   | refine LeO.ite ?_ ?_
   | refine LeO.bind ?_ (fun _=>?_)
  ·intro y0 y1 y2 y3 y4
   unfold impl_IsCube.l0
   repeat' first
   | (with_reducible exact ih0 _ _ _)
   | (with_reducible exact ih1 _ _ _ _ _)
   | (with_reducible exact ih2 _ _ _ _ _ _ _ _ _)
   | (with_reducible exact LeO.refl _)
   | (with_reducible exact LeO.none _)
   | (with_reducible refine LeO.ite ?_ ?_)
   | (with_reducible refine LeO.bind ?_ (fun _=>?_))
   | exact ih0 _ _ _
   | exact ih1 _ _ _ _ _
   | exact ih2 _ _ _ _ _ _ _ _ _
   | exact LeO.none _
   | refine LeO.ite ?_ ?_
   | refine LeO.bind ?_ (fun _=>?_)
  ·intro y0 y1 y2 y3 y4 y5 y6 y7 y8
   unfold impl_IsCube.l1
   repeat' first
   | (with_reducible exact ih0 _ _ _)
   | (with_reducible exact ih1 _ _ _ _ _)
   | (with_reducible exact ih2 _ _ _ _ _ _ _ _ _)
   | (with_reducible exact LeO.refl _)
   | (with_reducible exact LeO.none _)
   | (with_reducible refine LeO.ite ?_ ?_)
   | (with_reducible refine LeO.bind ?_ (fun _=>?_))
   | exact ih0 _ _ _
   | exact ih1 _ _ _ _ _
   | exact ih2 _ _ _ _ _ _ _ _ _
   | exact LeO.none _
   | refine LeO.ite ?_ ?_
   | refine LeO.bind ?_ (fun _=>?_)
theorem impl_IsCube.mono: ∀a0 a1 k,LeO (impl_IsCube.f k a0 a1) (impl_IsCube.f (k+1) a0 a1):=by
 intro a0 a1 k
 obtain⟨ih0,ih1,ih2⟩:=impl_IsCube.mono_l k
 unfold impl_IsCube.f
 repeat' first
   | (with_reducible exact ih0 _ _ _)
   | (with_reducible exact ih1 _ _ _ _ _)
   | (with_reducible exact ih2 _ _ _ _ _ _ _ _ _)
   | (with_reducible exact LeO.refl _)
   | (with_reducible exact LeO.none _)
   | (with_reducible refine LeO.ite ?_ ?_)
   | (with_reducible refine LeO.bind ?_ (fun _=>?_))
   | exact ih0 _ _ _
   | exact ih1 _ _ _ _ _
   | exact ih2 _ _ _ _ _ _ _ _ _
   | exact LeO.none _
   | refine LeO.ite ?_ ?_
   | refine LeO.bind ?_ (fun _=>?_)
theorem impl_IsCube.calls (k:Nat) (a0_0:Int) (av:Option Addr) (aj:Nat) (aa:List Int) (r:Bool) (w:World) (ba:Kd.C (Kd.int .i64) w av aa.length aa) (bb:aa.length≤aj) (h:impl_IsCube.f k a0_0 aa=some r):
  Calls Try.prog 42 #[.agg #[.int .i64 a0_0, .slice av aa.length aj]] w fun e w'=>e= .returned (.bool r)∧Below w.heap.size w w':=by
 have hu64:=Try.underlying64
 have HR0_1:=Aside0.mk ba
 have HC0_1:=Aside0.mk bb
 clear ba bb
 have HB:=Aside0.mk (Below.refl w.heap.size w)
 have H:((impl_within.f a0_0 1 5).bind fun a9=>(if a9=true then(if 0≤a0_0 then(impl_IsCube.j0 k ((aa.length:Int) !=(shl .i64 1 a0_0)) a0_0 aa) else(none)) else(impl_IsCube.j0 k true a0_0 aa)))=some r:=h
 clear h
 have HC2:=Aside0.mk H
 clear H
 go_enter Try.func42,Try.ntmps42
 go_upto_region 1 with (first | ((with_reducible refine gate_dst (N:=1) rfl ?_);(try (refine gate_guard (by rfl) ?_;dsimp only));refine box_event ?hg (N:=1) ?hd (cs:= #[.int .i64 a0_0, .slice av aa.length aj]) (t:=64) ?hr ?_;(case hd=>rfl);(case hg=>rfl);(case hr=>first | (go_simp;done) | (go_simp;rfl));intro ah hg w3 hbox hb;have af:=Aside0.mk (hbox);have bf:=Aside0.mk ((by rw [hg];exact bz_:w.heap.size≤ah));have bg:=Aside0.mk ((by rw [hg];exact bz_:w.heap.size≤ah));replace HB:=Aside0.mk (bs_ hb);clear hb hbox hg))
 repeat (go_quiet (first | ((with_reducible refine gate_dst (N:=1) rfl ?_);(try (refine gate_guard (by rfl) ?_;dsimp only));refine box_event ?hg (N:=1) ?hd (cs:= #[.int .i64 a0_0, .slice av aa.length aj]) (t:=64) ?hr ?_;(case hd=>rfl);(case hg=>rfl);(case hr=>first | (go_simp;done) | (go_simp;rfl));intro ah hg w3 hbox hb;have af:=Aside0.mk (hbox);have bf:=Aside0.mk ((by rw [hg];exact bz_:w.heap.size≤ah));have bg:=Aside0.mk ((by rw [hg];exact bz_:w.heap.size≤ah));replace HB:=Aside0.mk (bs_ hb);clear hb hbox hg));go_upto_region 1 with (first | ((with_reducible refine gate_dst (N:=1) rfl ?_);(try (refine gate_guard (by rfl) ?_;dsimp only));refine box_event ?hg (N:=1) ?hd (cs:= #[.int .i64 a0_0, .slice av aa.length aj]) (t:=64) ?hr ?_;(case hd=>rfl);(case hg=>rfl);(case hr=>first | (go_simp;done) | (go_simp;rfl));intro ah hg w3 hbox hb;have af:=Aside0.mk (hbox);have bf:=Aside0.mk ((by rw [hg];exact bz_:w.heap.size≤ah));have bg:=Aside0.mk ((by rw [hg];exact bz_:w.heap.size≤ah));replace HB:=Aside0.mk (bs_ hb);clear hb hbox hg)))
 (try simp only [Act.put,List.setIfInBounds_toArray,List.set_cons_zero,List.set_cons_succ])
 go_cut [18] (fun v18 wc=> ∃(kq:Nat) (aw:Bool),v18= .bool aw∧Aside0 (impl_IsCube.j0 kq aw a0_0 aa=some r)∧Aside0 (kq≤k)∧Aside0 (wc.heap[ah]?=some (.cells #[.int .i64 a0_0,(.slice av aa.length aj)] 64 (0,0)))∧Aside0 (Below w.heap.size w wc))
 case first=>
  have H:=HC2.out
  clear HC2
  replace H:=Option.bind_eq_some_iff.mp H
  obtain⟨a9,A40,H⟩:=H
  replace H:(if a9=true then(if 0≤a0_0 then(impl_IsCube.j0 k ((aa.length:Int) !=(shl .i64 1 a0_0)) a0_0 aa) else(none)) else(impl_IsCube.j0 k true a0_0 aa))=some r:=H
  have A4:=Aside0.mk A40
  clear A40
  by_cases c5:a9=true
  ·subst c5
   have H1:(if 0≤a0_0 then(impl_IsCube.j0 k ((aa.length:Int) !=(shl .i64 1 a0_0)) a0_0 aa) else(none))=some r:=by rw [if_pos rfl] at H;exact H
   clear H
   have H:=H1
   clear H1
   by_cases c6:0≤a0_0
   ·rw [if_pos c6] at H
    have c6b0:=eq_true c6
    have c6b1:decide (0≤a0_0)=true:=decide_eq_true c6
    clear c6
    obtain⟨ji7,hji7⟩: ∃j_:Int,(shl .i64 1 a0_0)=j_:=⟨_,rfl⟩
    replace H:(impl_IsCube.j0 k ((aa.length:Int) !=(ji7)) a0_0 aa)=some r:=by first | (rw [hji7] at H;exact H) | (simp only [hji7] at H ⊢;exact H)
    (try rw [hji7] at A4)
    have hji7_:(IntKind.i64.wrap (1*2 ^ min a0_0.toNat 64))=ji7:=hji7
    have hji7z:a0_0≤64→(IntKind.i64.wrap (1*2 ^ a0_0.toNat))=ji7:=shl_small hji7
    have hji7u:(IntKind.i64.wrap (2 ^ min a0_0.toNat 64))=ji7:=by have h_:=hji7_;rw [Int.one_mul] at h_;exact h_
    have hji7v:a0_0≤64→(IntKind.i64.wrap (2 ^ a0_0.toNat))=ji7:=fun hle_=>by have h_:=hji7z hle_;rw [Int.one_mul] at h_;exact h_
    have hji7y:(wrap64 (1*2 ^ min a0_0.toNat 64))=ji7:=(i64_w _).symm.trans hji7_
    have hji7x:a0_0≤64→(wrap64 (1*2 ^ a0_0.toNat))=ji7:=fun h_=>(i64_w _).symm.trans (hji7z h_)
    have H':=Aside0.mk H
    clear H
    have ax:w3.cell? ⟨ah,0,none⟩=some (.int .i64 a0_0):=(blk_cell af.out 0).trans rfl
    have ay:w3.cell? ⟨ah,1,none⟩=some (.slice av aa.length aj):=(blk_cell af.out 1).trans rfl
    have az:=blk_frozen af.out 0
    have aA:=blk_frozen af.out 1
    go_wp2_with (first | (go_at_call 117;(with_reducible refine(impl_within.calls a0_0 1 5 true _ A4.out).mono ?_);rintro e w' ⟨rfl,⟨nd,rfl⟩⟩;(try first | exact⟨rfl,_,World.drewN_drewN _ _ _⟩ | exact⟨rfl,_,Eq.trans (World.drewN_drewN _ _ _) (congrArg (World.drewN _) (Nat.add_assoc _ _ _))⟩)))
    repeat (go_quiet (first | (go_at_call 117;(with_reducible refine(impl_within.calls a0_0 1 5 true _ A4.out).mono ?_);rintro e w' ⟨rfl,⟨nd,rfl⟩⟩;(try first | exact⟨rfl,_,World.drewN_drewN _ _ _⟩ | exact⟨rfl,_,Eq.trans (World.drewN_drewN _ _ _) (congrArg (World.drewN _) (Nat.add_assoc _ _ _))⟩)));try go_wp2_with (first | (go_at_call 117;(with_reducible refine(impl_within.calls a0_0 1 5 true _ A4.out).mono ?_);rintro e w' ⟨rfl,⟨nd,rfl⟩⟩;(try first | exact⟨rfl,_,World.drewN_drewN _ _ _⟩ | exact⟨rfl,_,Eq.trans (World.drewN_drewN _ _ _) (congrArg (World.drewN _) (Nat.add_assoc _ _ _))⟩))))
    go_meet
    case rel=>exact⟨_,(((aa.length:Int) !=(ji7))),(by first | rfl | (simp;done) | (simp only [← hji7] <;> (first | rfl | simp)) | (simp [*];done)),H',⟨by first | omega | exact Nat.le_refl _⟩,⟨bk_⟩,⟨hb_⟩⟩
   ·rw [if_neg c6] at H
    exact absurd H (by simp)
  ·replace c5:=Bool.eq_false_iff.mpr c5
   subst c5
   have H1:(impl_IsCube.j0 k true a0_0 aa)=some r:=by rw [if_neg (show ¬ (false=true) by decide)] at H;exact H
   clear H
   have H:=H1
   clear H1
   have H':=Aside0.mk H
   clear H
   have aC:w3.cell? ⟨ah,0,none⟩=some (.int .i64 a0_0):=(blk_cell af.out 0).trans rfl
   have aD:w3.cell? ⟨ah,1,none⟩=some (.slice av aa.length aj):=(blk_cell af.out 1).trans rfl
   have aG:=blk_frozen af.out 0
   have aH:=blk_frozen af.out 1
   go_wp2_with (first | (go_at_call 117;(with_reducible refine(impl_within.calls a0_0 1 5 false _ A4.out).mono ?_);rintro e w' ⟨rfl,⟨nd,rfl⟩⟩;(try first | exact⟨rfl,_,World.drewN_drewN _ _ _⟩ | exact⟨rfl,_,Eq.trans (World.drewN_drewN _ _ _) (congrArg (World.drewN _) (Nat.add_assoc _ _ _))⟩)))
   repeat (go_quiet (first | (go_at_call 117;(with_reducible refine(impl_within.calls a0_0 1 5 false _ A4.out).mono ?_);rintro e w' ⟨rfl,⟨nd,rfl⟩⟩;(try first | exact⟨rfl,_,World.drewN_drewN _ _ _⟩ | exact⟨rfl,_,Eq.trans (World.drewN_drewN _ _ _) (congrArg (World.drewN _) (Nat.add_assoc _ _ _))⟩)));try go_wp2_with (first | (go_at_call 117;(with_reducible refine(impl_within.calls a0_0 1 5 false _ A4.out).mono ?_);rintro e w' ⟨rfl,⟨nd,rfl⟩⟩;(try first | exact⟨rfl,_,World.drewN_drewN _ _ _⟩ | exact⟨rfl,_,Eq.trans (World.drewN_drewN _ _ _) (congrArg (World.drewN _) (Nat.add_assoc _ _ _))⟩))))
   go_meet
   case rel=>exact⟨_,(true),rs_,H',⟨by first | omega | exact Nat.le_refl _⟩,⟨bk_⟩,⟨hb_⟩⟩
 case rest=>
  clear HC2
  try clear p2
  try clear c4
  try clear c5
  try clear c6
  try clear c6b0
  try clear c6b1
  try clear p6
  try clear ax
  try clear ay
  try clear aC
  try clear aD
  try clear az
  try clear aA
  try clear aG
  try clear aH
  obtain⟨kq,aw,rfl,HA,HJ1,af,HB⟩:=hcut
  cases kq with
  | zero=>exact absurd HA.out (by simp [impl_IsCube.j0])
  | succ kj1=>
   have H:=HA.out
   clear HA
   simp only [impl_IsCube.j0] at H
   by_cases c10:aw=true
   ·subst c10
    have H1:(some false)=some r:=by rw [if_pos rfl] at H;exact H
    clear H
    have H:=H1
    clear H1
    obtain rfl:=Option.some.inj H
    go_wp2
    repeat (go_quiet (fail);try go_wp2)
    go_ret
    exact⟨by first | rfl | (simp [errW_none,errW_some] <;> rfl) | (simp [*,errW_none,errW_some] <;> rfl),hb_⟩
   ·replace c10:=Bool.eq_false_iff.mpr c10
    subst c10
    have H1:(impl_IsCube.l0 kj1 aa (aa.length:Int) 0 a0_0 aa)=some r:=by rw [if_neg (show ¬ (false=true) by decide)] at H;exact H
    clear H
    have H:=H1
    clear H1
    have H':=Aside0.mk H
    clear H
    have aI:wc.cell? ⟨ah,0,none⟩=some (.int .i64 a0_0):=(blk_cell af.out 0).trans rfl
    have aJ:wc.cell? ⟨ah,1,none⟩=some (.slice av aa.length aj):=(blk_cell af.out 1).trans rfl
    have aK:=blk_frozen af.out 0
    have aM:=blk_frozen af.out 1
    go_wp2
    repeat (go_quiet (fail);try go_wp2)
    go_loopg [22] kj1 (fun kq v22 w'=> ∃(ae:Int),v22= .int .i64 ae∧Aside0 (impl_IsCube.l0 kq aa (aa.length:Int) ae a0_0 aa=some r)∧Aside0 (kq≤kj1)∧Aside0 (w'.heap[ah]?=some (.cells #[.int .i64 a0_0,(.slice av aa.length aj)] 64 (0,0)))∧Aside0 (Below w.heap.size w w'))
    case atStart=>exact⟨(0),rs_,H',⟨Nat.le_refl _⟩,⟨bk_⟩,⟨hb_⟩⟩
    case round=>
     clear H'
     try clear c1
     try clear p2
     try clear c4
     try clear c5
     try clear c6
     try clear c6b0
     try clear c6b1
     try clear p6
     try clear c10
     try clear aI
     try clear aJ
     try clear ax
     try clear ay
     try clear aC
     try clear aD
     try clear aK
     try clear aM
     try clear az
     try clear aA
     try clear aG
     try clear aH
     try clear p2
     try clear p6
     obtain⟨ae,rfl,HA,HK2,af,HB⟩:=hrel
     cases gk with
     | zero=>exact absurd HA.out (by simp [impl_IsCube.l0])
     | succ k2=>
      have H:=HA.out
      clear HA
      simp only [impl_IsCube.l0] at H
      by_cases c12:ae < (aa.length:Int)
      ·rw [if_pos c12] at H
       have c12b0:decide (ae < (aa.length:Int))=true:=decide_eq_true c12
       clear c12
       by_cases c13:0≤ae
       ·rw [if_pos c13] at H
        have c13b0:decide (0≤ae)=true:=decide_eq_true c13
        clear c13
        by_cases c14:ae < (aa.length:Int)
        ·rw [if_pos c14] at H
         have c14b0:decide (ae < (aa.length:Int))=true:=decide_eq_true c14
         clear c14
         replace H:=Option.bind_eq_some_iff.mp H
         obtain⟨bq,A150,H⟩:=H
         replace H:(if bq=true then(impl_IsCube.l1 k2 ae (rd aa ae) aa (aa.length:Int) ae a0_0 0 a0_0 aa) else(some false))=some r:=H
         have A15:=Aside0.mk A150
         clear A150
         by_cases c16:bq=true
         ·subst c16
          have H1:(impl_IsCube.l1 k2 ae (rd aa ae) aa (aa.length:Int) ae a0_0 0 a0_0 aa)=some r:=by rw [if_pos rfl] at H;exact H
          clear H
          have H:=H1
          clear H1
          have H':=Aside0.mk H
          clear H
          have p916:0≤(ae:Int):=od_
          have q916:ae < (aa.length:Int):=od_
          obtain⟨ai,e916,hx916_0⟩:=Kd.at_int HR0_1.out ae p916 q916
          cases e916
          replace hx916_0:=(HB.out.cell (World.block_lt_of_cell? w _ hx916_0)).trans hx916_0
          replace p916:=eq_true p916
          replace q916:=eq_true q916
          have bh:wr.cell? ⟨ah,0,none⟩=some (.int .i64 a0_0):=(blk_cell af.out 0).trans rfl
          have bi:wr.cell? ⟨ah,1,none⟩=some (.slice (some ai) aa.length aj):=(blk_cell af.out 1).trans rfl
          have bk:=blk_frozen af.out 0
          have bn:=blk_frozen af.out 1
          go_wp2_with (first | (go_at_call 117;(with_reducible refine(impl_within.calls (rd aa ae) 0 (wrap64 ((aa.length:Int) - 1)) true _ A15.out).mono ?_);rintro e w' ⟨rfl,⟨nd,rfl⟩⟩;(try first | exact⟨rfl,_,World.drewN_drewN _ _ _⟩ | exact⟨rfl,_,Eq.trans (World.drewN_drewN _ _ _) (congrArg (World.drewN _) (Nat.add_assoc _ _ _))⟩)))
          repeat (go_quiet (first | (go_at_call 117;(with_reducible refine(impl_within.calls (rd aa ae) 0 (wrap64 ((aa.length:Int) - 1)) true _ A15.out).mono ?_);rintro e w' ⟨rfl,⟨nd,rfl⟩⟩;(try first | exact⟨rfl,_,World.drewN_drewN _ _ _⟩ | exact⟨rfl,_,Eq.trans (World.drewN_drewN _ _ _) (congrArg (World.drewN _) (Nat.add_assoc _ _ _))⟩)));try go_wp2_with (first | (go_at_call 117;(with_reducible refine(impl_within.calls (rd aa ae) 0 (wrap64 ((aa.length:Int) - 1)) true _ A15.out).mono ?_);rintro e w' ⟨rfl,⟨nd,rfl⟩⟩;(try first | exact⟨rfl,_,World.drewN_drewN _ _ _⟩ | exact⟨rfl,_,Eq.trans (World.drewN_drewN _ _ _) (congrArg (World.drewN _) (Nat.add_assoc _ _ _))⟩))))
          go_loopg [36] k2 (fun kq v36 w'=> ∃(ag:Int),v36= .int .i64 ag∧Aside0 (impl_IsCube.l1 kq ae (rd aa ae) aa (aa.length:Int) ae a0_0 ag a0_0 aa=some r)∧Aside0 (kq≤k2)∧Aside0 (w'.heap[ah]?=some (.cells #[.int .i64 a0_0,(.slice (some ai) aa.length aj)] 64 (0,0)))∧Aside0 (Below w.heap.size w w'))
          case atStart=>exact⟨(0),rs_,H',⟨Nat.le_refl _⟩,⟨bk_⟩,⟨hb_⟩⟩
          case round=>
           clear H'
           try clear c1
           try clear p2
           try clear c4
           try clear c5
           try clear c6
           try clear c6b0
           try clear c6b1
           try clear p6
           try clear p9
           try clear q9
           try clear hx9
           try clear c10
           try clear c12
           try clear c12b0
           try clear c13
           try clear c13b0
           try clear c14
           try clear c14b0
           try clear c16
           try clear aI
           try clear aJ
           try clear bh
           try clear bi
           try clear ax
           try clear ay
           try clear aC
           try clear aD
           try clear aK
           try clear aM
           try clear bk
           try clear bn
           try clear az
           try clear aA
           try clear aG
           try clear aH
           try clear hx916_0
           try clear p2
           try clear p6
           try clear p916
           try clear q916
           obtain⟨ag,rfl,HA,HK3,af,HB⟩:=hrel
           cases gk with
           | zero=>exact absurd HA.out (by simp [impl_IsCube.l1])
           | succ k3=>
            have H:=HA.out
            clear HA
            simp only [impl_IsCube.l1] at H
            by_cases c18:ag < a0_0
            ·rw [if_pos c18] at H
             have c18b0:decide (ag < a0_0)=true:=decide_eq_true c18
             clear c18
             replace H:=Option.bind_eq_some_iff.mp H
             obtain⟨aq,A190,H⟩:=H
             replace H:(if 0≤ag then(if 0≤(Go.bits .xor .i64 ae (shl .i64 1 ag)) then(if(Go.bits .xor .i64 ae (shl .i64 1 ag)) < (aa.length:Int) then((impl_has.f (rd aa (Go.bits .xor .i64 ae (shl .i64 1 ag))) ag).bind fun ak=>(if(aq==ak)=true then(some false) else(impl_IsCube.l1 k3 ae (rd aa ae) aa (aa.length:Int) ae a0_0 (wrap64 (ag+1)) a0_0 aa))) else(none)) else(none)) else(none))=some r:=H
             have A19:=Aside0.mk A190
             clear A190
             by_cases c20:0≤ag
             ·rw [if_pos c20] at H
              have c20b0:=eq_true c20
              have c20b1:decide (0≤ag)=true:=decide_eq_true c20
              clear c20
              obtain⟨ji21,hji21⟩: ∃j_:Int,(shl .i64 1 ag)=j_:=⟨_,rfl⟩
              replace H:(if 0≤(Go.bits .xor .i64 ae (ji21)) then(if(Go.bits .xor .i64 ae (ji21)) < (aa.length:Int) then((impl_has.f (rd aa (Go.bits .xor .i64 ae (ji21))) ag).bind fun ak=>(if(aq==ak)=true then(some false) else(impl_IsCube.l1 k3 ae (rd aa ae) aa (aa.length:Int) ae a0_0 (wrap64 (ag+1)) a0_0 aa))) else(none)) else(none))=some r:=by first | (rw [hji21] at H;exact H) | (simp only [hji21] at H ⊢;exact H)
              (try rw [hji21] at A19)
              have hji21_:(IntKind.i64.wrap (1*2 ^ min ag.toNat 64))=ji21:=hji21
              have hji21z:ag≤64→(IntKind.i64.wrap (1*2 ^ ag.toNat))=ji21:=shl_small hji21
              have hji21u:(IntKind.i64.wrap (2 ^ min ag.toNat 64))=ji21:=by have h_:=hji21_;rw [Int.one_mul] at h_;exact h_
              have hji21v:ag≤64→(IntKind.i64.wrap (2 ^ ag.toNat))=ji21:=fun hle_=>by have h_:=hji21z hle_;rw [Int.one_mul] at h_;exact h_
              have hji21y:(wrap64 (1*2 ^ min ag.toNat 64))=ji21:=(i64_w _).symm.trans hji21_
              have hji21x:ag≤64→(wrap64 (1*2 ^ ag.toNat))=ji21:=fun h_=>(i64_w _).symm.trans (hji21z h_)
              by_cases c22:0≤(Go.bits .xor .i64 ae (ji21))
              ·rw [if_pos c22] at H
               have c22b0:decide (0≤(Go.bits .xor .i64 ae (ji21)))=true:=decide_eq_true c22
               clear c22
               by_cases c23:(Go.bits .xor .i64 ae (ji21)) < (aa.length:Int)
               ·rw [if_pos c23] at H
                have c23b0:decide ((Go.bits .xor .i64 ae (ji21)) < (aa.length:Int))=true:=decide_eq_true c23
                clear c23
                replace H:=Option.bind_eq_some_iff.mp H
                obtain⟨ak,A240,H⟩:=H
                replace H:(if(aq==ak)=true then(some false) else(impl_IsCube.l1 k3 ae (rd aa ae) aa (aa.length:Int) ae a0_0 (wrap64 (ag+1)) a0_0 aa))=some r:=H
                have A24:=Aside0.mk A240
                clear A240
                by_cases c25:(aq==ak)=true
                ·rw [if_pos c25] at H
                 have c25b0:(aq==ak)=true:=c25
                 (try (have c25b1:decide (aq=ak)=true:=by simpa using c25))
                 (try (have c25b2:(aq==ak)=true:=by simpa using c25))
                 clear c25
                 obtain rfl:=Option.some.inj H
                 go_wp2_with (first | (go_at_call 130;(with_reducible refine(impl_has.calls (rd aa ae) ag aq _ A19.out).mono ?_);rintro e w' ⟨rfl,⟨nd,rfl⟩⟩;(try first | exact⟨rfl,_,World.drewN_drewN _ _ _⟩ | exact⟨rfl,_,Eq.trans (World.drewN_drewN _ _ _) (congrArg (World.drewN _) (Nat.add_assoc _ _ _))⟩);have aN:wr.cell? ⟨ah,0,none⟩=some (.int .i64 a0_0):=(blk_cell af.out 0).trans rfl;have aT:wr.cell? ⟨ah,1,none⟩=some (.slice (some ai) aa.length aj):=(blk_cell af.out 1).trans rfl;have aU:=blk_frozen af.out 0;have aV:=blk_frozen af.out 1;have p919:0≤((Go.bits .xor .i64 ae (ji21)):Int):=od_;have q919:(Go.bits .xor .i64 ae (ji21)) < (aa.length:Int):=od_;obtain⟨au,e919,hx919_0⟩:=Kd.at_int HR0_1.out (Go.bits .xor .i64 ae (ji21)) p919 q919;obtain rfl:ai=au:=(by injection e919);replace hx919_0:=(HB.out.cell (World.block_lt_of_cell? w _ hx919_0)).trans hx919_0;replace p919:=eq_true p919;replace q919:=eq_true q919) | (go_at_call 130;(with_reducible refine(impl_has.calls (rd aa (Go.bits .xor .i64 ae (ji21))) ag ak _ A24.out).mono ?_);rintro e w' ⟨rfl,⟨nd,rfl⟩⟩;(try first | exact⟨rfl,_,World.drewN_drewN _ _ _⟩ | exact⟨rfl,_,Eq.trans (World.drewN_drewN _ _ _) (congrArg (World.drewN _) (Nat.add_assoc _ _ _))⟩)))
                 repeat (go_quiet (first | (go_at_call 130;(with_reducible refine(impl_has.calls (rd aa ae) ag aq _ A19.out).mono ?_);rintro e w' ⟨rfl,⟨nd,rfl⟩⟩;(try first | exact⟨rfl,_,World.drewN_drewN _ _ _⟩ | exact⟨rfl,_,Eq.trans (World.drewN_drewN _ _ _) (congrArg (World.drewN _) (Nat.add_assoc _ _ _))⟩);have aN:wr.cell? ⟨ah,0,none⟩=some (.int .i64 a0_0):=(blk_cell af.out 0).trans rfl;have aT:wr.cell? ⟨ah,1,none⟩=some (.slice (some ai) aa.length aj):=(blk_cell af.out 1).trans rfl;have aU:=blk_frozen af.out 0;have aV:=blk_frozen af.out 1;have p919:0≤((Go.bits .xor .i64 ae (ji21)):Int):=od_;have q919:(Go.bits .xor .i64 ae (ji21)) < (aa.length:Int):=od_;obtain⟨au,e919,hx919_0⟩:=Kd.at_int HR0_1.out (Go.bits .xor .i64 ae (ji21)) p919 q919;obtain rfl:ai=au:=(by injection e919);replace hx919_0:=(HB.out.cell (World.block_lt_of_cell? w _ hx919_0)).trans hx919_0;replace p919:=eq_true p919;replace q919:=eq_true q919) | (go_at_call 130;(with_reducible refine(impl_has.calls (rd aa (Go.bits .xor .i64 ae (ji21))) ag ak _ A24.out).mono ?_);rintro e w' ⟨rfl,⟨nd,rfl⟩⟩;(try first | exact⟨rfl,_,World.drewN_drewN _ _ _⟩ | exact⟨rfl,_,Eq.trans (World.drewN_drewN _ _ _) (congrArg (World.drewN _) (Nat.add_assoc _ _ _))⟩)));try go_wp2_with (first | (go_at_call 130;(with_reducible refine(impl_has.calls (rd aa ae) ag aq _ A19.out).mono ?_);rintro e w' ⟨rfl,⟨nd,rfl⟩⟩;(try first | exact⟨rfl,_,World.drewN_drewN _ _ _⟩ | exact⟨rfl,_,Eq.trans (World.drewN_drewN _ _ _) (congrArg (World.drewN _) (Nat.add_assoc _ _ _))⟩);have aN:wr.cell? ⟨ah,0,none⟩=some (.int .i64 a0_0):=(blk_cell af.out 0).trans rfl;have aT:wr.cell? ⟨ah,1,none⟩=some (.slice (some ai) aa.length aj):=(blk_cell af.out 1).trans rfl;have aU:=blk_frozen af.out 0;have aV:=blk_frozen af.out 1;have p919:0≤((Go.bits .xor .i64 ae (ji21)):Int):=od_;have q919:(Go.bits .xor .i64 ae (ji21)) < (aa.length:Int):=od_;obtain⟨au,e919,hx919_0⟩:=Kd.at_int HR0_1.out (Go.bits .xor .i64 ae (ji21)) p919 q919;obtain rfl:ai=au:=(by injection e919);replace hx919_0:=(HB.out.cell (World.block_lt_of_cell? w _ hx919_0)).trans hx919_0;replace p919:=eq_true p919;replace q919:=eq_true q919) | (go_at_call 130;(with_reducible refine(impl_has.calls (rd aa (Go.bits .xor .i64 ae (ji21))) ag ak _ A24.out).mono ?_);rintro e w' ⟨rfl,⟨nd,rfl⟩⟩;(try first | exact⟨rfl,_,World.drewN_drewN _ _ _⟩ | exact⟨rfl,_,Eq.trans (World.drewN_drewN _ _ _) (congrArg (World.drewN _) (Nat.add_assoc _ _ _))⟩))))
                 go_ret
                 exact⟨by first | rfl | (simp [errW_none,errW_some] <;> rfl) | (simp only [← hji21];first | rfl | (simp [errW_none,errW_some] <;> rfl)) | (simp [*,errW_none,errW_some] <;> rfl),hb_⟩
                ·rw [if_neg c25] at H
                 have c25b0:(aq==ak)=false:=by simpa using c25
                 (try (have c25b1:decide (aq=ak)=false:=by simpa using c25))
                 (try (have c25b2:(aq==ak)=false:=by simpa using c25))
                 (try (have c25b3: ¬ (aq=ak):=by simpa using c25))
                 clear c25
                 have H':=Aside0.mk H
                 clear H
                 go_wp2_with (first | (go_at_call 130;(with_reducible refine(impl_has.calls (rd aa ae) ag aq _ A19.out).mono ?_);rintro e w' ⟨rfl,⟨nd,rfl⟩⟩;(try first | exact⟨rfl,_,World.drewN_drewN _ _ _⟩ | exact⟨rfl,_,Eq.trans (World.drewN_drewN _ _ _) (congrArg (World.drewN _) (Nat.add_assoc _ _ _))⟩);have aW:wr.cell? ⟨ah,0,none⟩=some (.int .i64 a0_0):=(blk_cell af.out 0).trans rfl;have aX:wr.cell? ⟨ah,1,none⟩=some (.slice (some ai) aa.length aj):=(blk_cell af.out 1).trans rfl;have aY:=blk_frozen af.out 0;have aZ:=blk_frozen af.out 1;have p919:0≤((Go.bits .xor .i64 ae (ji21)):Int):=od_;have q919:(Go.bits .xor .i64 ae (ji21)) < (aa.length:Int):=od_;obtain⟨au,e919,hx919_0⟩:=Kd.at_int HR0_1.out (Go.bits .xor .i64 ae (ji21)) p919 q919;obtain rfl:ai=au:=(by injection e919);replace hx919_0:=(HB.out.cell (World.block_lt_of_cell? w _ hx919_0)).trans hx919_0;replace p919:=eq_true p919;replace q919:=eq_true q919) | (go_at_call 130;(with_reducible refine(impl_has.calls (rd aa (Go.bits .xor .i64 ae (ji21))) ag ak _ A24.out).mono ?_);rintro e w' ⟨rfl,⟨nd,rfl⟩⟩;(try first | exact⟨rfl,_,World.drewN_drewN _ _ _⟩ | exact⟨rfl,_,Eq.trans (World.drewN_drewN _ _ _) (congrArg (World.drewN _) (Nat.add_assoc _ _ _))⟩)))
                 repeat (go_quiet (first | (go_at_call 130;(with_reducible refine(impl_has.calls (rd aa ae) ag aq _ A19.out).mono ?_);rintro e w' ⟨rfl,⟨nd,rfl⟩⟩;(try first | exact⟨rfl,_,World.drewN_drewN _ _ _⟩ | exact⟨rfl,_,Eq.trans (World.drewN_drewN _ _ _) (congrArg (World.drewN _) (Nat.add_assoc _ _ _))⟩);have aW:wr.cell? ⟨ah,0,none⟩=some (.int .i64 a0_0):=(blk_cell af.out 0).trans rfl;have aX:wr.cell? ⟨ah,1,none⟩=some (.slice (some ai) aa.length aj):=(blk_cell af.out 1).trans rfl;have aY:=blk_frozen af.out 0;have aZ:=blk_frozen af.out 1;have p919:0≤((Go.bits .xor .i64 ae (ji21)):Int):=od_;have q919:(Go.bits .xor .i64 ae (ji21)) < (aa.length:Int):=od_;obtain⟨au,e919,hx919_0⟩:=Kd.at_int HR0_1.out (Go.bits .xor .i64 ae (ji21)) p919 q919;obtain rfl:ai=au:=(by injection e919);replace hx919_0:=(HB.out.cell (World.block_lt_of_cell? w _ hx919_0)).trans hx919_0;replace p919:=eq_true p919;replace q919:=eq_true q919) | (go_at_call 130;(with_reducible refine(impl_has.calls (rd aa (Go.bits .xor .i64 ae (ji21))) ag ak _ A24.out).mono ?_);rintro e w' ⟨rfl,⟨nd,rfl⟩⟩;(try first | exact⟨rfl,_,World.drewN_drewN _ _ _⟩ | exact⟨rfl,_,Eq.trans (World.drewN_drewN _ _ _) (congrArg (World.drewN _) (Nat.add_assoc _ _ _))⟩)));try go_wp2_with (first | (go_at_call 130;(with_reducible refine(impl_has.calls (rd aa ae) ag aq _ A19.out).mono ?_);rintro e w' ⟨rfl,⟨nd,rfl⟩⟩;(try first | exact⟨rfl,_,World.drewN_drewN _ _ _⟩ | exact⟨rfl,_,Eq.trans (World.drewN_drewN _ _ _) (congrArg (World.drewN _) (Nat.add_assoc _ _ _))⟩);have aW:wr.cell? ⟨ah,0,none⟩=some (.int .i64 a0_0):=(blk_cell af.out 0).trans rfl;have aX:wr.cell? ⟨ah,1,none⟩=some (.slice (some ai) aa.length aj):=(blk_cell af.out 1).trans rfl;have aY:=blk_frozen af.out 0;have aZ:=blk_frozen af.out 1;have p919:0≤((Go.bits .xor .i64 ae (ji21)):Int):=od_;have q919:(Go.bits .xor .i64 ae (ji21)) < (aa.length:Int):=od_;obtain⟨au,e919,hx919_0⟩:=Kd.at_int HR0_1.out (Go.bits .xor .i64 ae (ji21)) p919 q919;obtain rfl:ai=au:=(by injection e919);replace hx919_0:=(HB.out.cell (World.block_lt_of_cell? w _ hx919_0)).trans hx919_0;replace p919:=eq_true p919;replace q919:=eq_true q919) | (go_at_call 130;(with_reducible refine(impl_has.calls (rd aa (Go.bits .xor .i64 ae (ji21))) ag ak _ A24.out).mono ?_);rintro e w' ⟨rfl,⟨nd,rfl⟩⟩;(try first | exact⟨rfl,_,World.drewN_drewN _ _ _⟩ | exact⟨rfl,_,Eq.trans (World.drewN_drewN _ _ _) (congrArg (World.drewN _) (Nat.add_assoc _ _ _))⟩))))
                 go_roundg k3
                 case measure=>have:=HJ1.out;have:=HK2.out;have:=HK3.out;omega
                 case rel=>exact⟨(wrap64 (ag+1)),rs_,H',⟨by have:=HJ1.out;have:=HK2.out;have:=HK3.out;omega⟩,⟨bk_⟩,⟨hb_⟩⟩
               ·rw [if_neg c23] at H
                exact absurd H (by simp)
              ·rw [if_neg c22] at H
               exact absurd H (by simp)
             ·rw [if_neg c20] at H
              exact absurd H (by simp)
            ·rw [if_neg c18] at H
             have c18b0:decide (ag < a0_0)=false:=decide_eq_false c18
             clear c18
             have H':=Aside0.mk H
             clear H
             go_wp2
             repeat (go_quiet (fail);try go_wp2)
             go_roundg k3
             case measure=>have:=HJ1.out;have:=HK2.out;have:=HK3.out;omega
             case rel=>exact⟨(wrap64 (ae+1)),rs_,H',⟨by have:=HJ1.out;have:=HK2.out;have:=HK3.out;omega⟩,⟨bk_⟩,⟨hb_⟩⟩
         ·replace c16:=Bool.eq_false_iff.mpr c16
          subst c16
          have H1:(some false)=some r:=by rw [if_neg (show ¬ (false=true) by decide)] at H;exact H
          clear H
          have H:=H1
          clear H1
          obtain rfl:=Option.some.inj H
          have p916:0≤(ae:Int):=od_
          have q916:ae < (aa.length:Int):=od_
          obtain⟨ai,e916,hx916_0⟩:=Kd.at_int HR0_1.out ae p916 q916
          cases e916
          replace hx916_0:=(HB.out.cell (World.block_lt_of_cell? w _ hx916_0)).trans hx916_0
          replace p916:=eq_true p916
          replace q916:=eq_true q916
          have bu:wr.cell? ⟨ah,0,none⟩=some (.int .i64 a0_0):=(blk_cell af.out 0).trans rfl
          have bv:wr.cell? ⟨ah,1,none⟩=some (.slice (some ai) aa.length aj):=(blk_cell af.out 1).trans rfl
          have bw:=blk_frozen af.out 0
          have bz:=blk_frozen af.out 1
          go_wp2_with (first | (go_at_call 117;(with_reducible refine(impl_within.calls (rd aa ae) 0 (wrap64 ((aa.length:Int) - 1)) false _ A15.out).mono ?_);rintro e w' ⟨rfl,⟨nd,rfl⟩⟩;(try first | exact⟨rfl,_,World.drewN_drewN _ _ _⟩ | exact⟨rfl,_,Eq.trans (World.drewN_drewN _ _ _) (congrArg (World.drewN _) (Nat.add_assoc _ _ _))⟩)))
          repeat (go_quiet (first | (go_at_call 117;(with_reducible refine(impl_within.calls (rd aa ae) 0 (wrap64 ((aa.length:Int) - 1)) false _ A15.out).mono ?_);rintro e w' ⟨rfl,⟨nd,rfl⟩⟩;(try first | exact⟨rfl,_,World.drewN_drewN _ _ _⟩ | exact⟨rfl,_,Eq.trans (World.drewN_drewN _ _ _) (congrArg (World.drewN _) (Nat.add_assoc _ _ _))⟩)));try go_wp2_with (first | (go_at_call 117;(with_reducible refine(impl_within.calls (rd aa ae) 0 (wrap64 ((aa.length:Int) - 1)) false _ A15.out).mono ?_);rintro e w' ⟨rfl,⟨nd,rfl⟩⟩;(try first | exact⟨rfl,_,World.drewN_drewN _ _ _⟩ | exact⟨rfl,_,Eq.trans (World.drewN_drewN _ _ _) (congrArg (World.drewN _) (Nat.add_assoc _ _ _))⟩))))
          go_ret
          exact⟨by first | rfl | (simp [errW_none,errW_some] <;> rfl) | (simp [*,errW_none,errW_some] <;> rfl),hb_⟩
        ·rw [if_neg c14] at H
         exact absurd H (by simp)
       ·rw [if_neg c13] at H
        exact absurd H (by simp)
      ·rw [if_neg c12] at H
       have c12b0:decide (ae < (aa.length:Int))=false:=decide_eq_false c12
       clear c12
       obtain rfl:=Option.some.inj H
       go_wp2
       repeat (go_quiet (fail);try go_wp2)
       go_ret
       exact⟨by first | rfl | (simp [errW_none,errW_some] <;> rfl) | (simp [*,errW_none,errW_some] <;> rfl),hb_⟩
end Go.Proofs.Ytmpkckiifeikkaa.Pr
end
