/- Texts of one claim (the words of the kit's print that the claim uses, printed functions, and this session's own texts), joined in the order of their imports by this session's own program (merge.py). -/
import Derived.Test.YthdoilfjcgickaaJnFnExactComplementOf0
import Derived.Test.YthdoilfjcgickaaJnFnExactComplementOf1
set_option linter.unusedVariables false
set_option linter.unusedSimpArgs false
set_option maxHeartbeats 8000000
set_option maxRecDepth 100000
section
namespace Go.Proofs.Ythdoilfjcgickaa.Pr
open Go.RowKit Go.Proofs.YthdoilfjcgickaaW.PrintWords Go.Proofs.YthdoilfjcgickaaW.PrintLast Go.Proofs.YthdoilfjcgickaaW.PrintMore
attribute [local go_sem] max2_int min2_int max_two min_two max_three min_three max_four min_four
mutual
def spec_l04Pivot.j0 : Nat → Int → Int → List (List Int) → List Int → Int → Int → List (List Int) → List Int → Option (Int × (List (List Int)) × List Int × Bool)
 | 0, _, _, _, _, _, _, _, _ => none
 | k + 1, x1, x6, x7, x8, x9, x10, x242000, x242001 => spec_l04Pivot.l0 k x1 x6 x7 x8 x10 0 x242000 x242001 (wrap64 (x10 * x9)) (([] : List (List Int))) (([] : List Int))
def spec_l04Pivot.l0 : Nat → Int → Int → List (List Int) → List Int → Int → Int → List (List Int) → List Int → Int → List (List Int) → List Int → Option (Int × (List (List Int)) × List Int × Bool)
 | 0, _, _, _, _, _, _, _, _, _, _, _ => none
 | k + 1, x1, x6, x7, x8, x10, x12, x242000, x242001, x254000, x254001, x254002 => if x12 < x6 then (if 0 ≤ x6 then (if (x6 : Int).toNat ≤ 35184372088832 then (if x254001.length < 5864062014805 then (if 0 ≤ x12 then (if x12 < (x8.length : Int) then (if x254002.length < 17592186044416 then (spec_l04Pivot.l0 k x1 x6 x7 x8 x10 (wrap64 (x12 + 1)) x242000 x242001 x254000 (x254001 ++ [(List.replicate (x6 : Int).toNat 0)]) (x254002 ++ [wrap64 (x10 * (rd x8 x12))])) else (none)) else (none)) else (none)) else (none)) else (none)) else (none)) else (spec_l04Pivot.l1 k x1 x6 x7 x10 0 x242000 x242001 x254000 x254001 x254002)
def spec_l04Pivot.l1 : Nat → Int → Int → List (List Int) → Int → Int → List (List Int) → List Int → Int → List (List Int) → List Int → Option (Int × (List (List Int)) × List Int × Bool)
 | 0, _, _, _, _, _, _, _, _, _, _ => none
 | k + 1, x1, x6, x7, x10, x13, x242000, x242001, x254000, x254001, x254002 => if x13 < x6 then (if 0 ≤ x6 then (if (x6 : Int).toNat ≤ 35184372088832 then (spec_l04Pivot.l2 k x1 x6 x7 x10 x13 (List.replicate (x6 : Int).toNat 0) 0 x242000 x242001 x254000 x254001 x254002) else (none)) else (none)) else (some (x254000, x254001, x254002, true))
def spec_l04Pivot.l2 : Nat → Int → Int → List (List Int) → Int → Int → List Int → Int → List (List Int) → List Int → Int → List (List Int) → List Int → Option (Int × (List (List Int)) × List Int × Bool)
 | 0, _, _, _, _, _, _, _, _, _, _, _, _ => none
 | k + 1, x1, x6, x7, x10, x13, x14, x15, x242000, x242001, x254000, x254001, x254002 => if x15 < x6 then (if 0 ≤ (IntKind.u64.wrap (x13)) then (if (Go.bits .and .i64 (shr .i64 x1 (IntKind.u64.wrap (x13))) 1) = 0 then (if 0 ≤ x15 then (if x15 < (x242000.length : Int) then (if 0 ≤ x13 then (if x13 < ((rd_L1 x242000 x15).length : Int) then (if x15 < (x14.length : Int) then (spec_l04Pivot.l2 k x1 x6 x7 x10 x13 (x14.set (x15 : Int).toNat (rd (rd_L1 x242000 x15) x13)) (wrap64 (x15 + 1)) x242000 x242001 x254000 x254001 x254002) else (none)) else (none)) else (none)) else (none)) else (none)) else (spec_l04Pivot.l2 k x1 x6 x7 x10 x13 x14 (wrap64 (x15 + 1)) x242000 x242001 x254000 x254001 x254002)) else (none)) else (if 0 ≤ (IntKind.u64.wrap (x13)) then (if (Go.bits .and .i64 (shr .i64 x1 (IntKind.u64.wrap (x13))) 1) = 1 then (if 0 ≤ x13 then (if x13 < (x14.length : Int) then (spec_l04Pivot.j4 k x1 x6 x7 x10 x13 (x14.set (x13 : Int).toNat (-1)) x242000 x242001 x254000 x254001 x254002) else (none)) else (none)) else (spec_l04Pivot.j4 k x1 x6 x7 x10 x13 x14 x242000 x242001 x254000 x254001 x254002)) else (none))
def spec_l04Pivot.j4 : Nat → Int → Int → List (List Int) → Int → Int → List Int → List (List Int) → List Int → Int → List (List Int) → List Int → Option (Int × (List (List Int)) × List Int × Bool)
 | 0, _, _, _, _, _, _, _, _, _, _, _ => none
 | k + 1, x1, x6, x7, x10, x13, x14, x242000, x242001, x254000, x254001, x254002 => (spec_l01Solve.f k x7 x14).bind fun bt271 => (spec_l04Pivot.l3 k x1 x6 x7 x10 x13 bt271.1 0 x242000 x242001 x254000 x254001 x254002)
def spec_l04Pivot.l3 : Nat → Int → Int → List (List Int) → Int → Int → List Int → Int → List (List Int) → List Int → Int → List (List Int) → List Int → Option (Int × (List (List Int)) × List Int × Bool)
 | 0, _, _, _, _, _, _, _, _, _, _, _, _ => none
 | k + 1, x1, x6, x7, x10, x13, x16, x18, x242000, x242001, x254000, x254001, x254002 => if x18 < x6 then (if 0 ≤ x18 then (if x18 < (x254001.length : Int) then (if x18 < (x16.length : Int) then (if 0 ≤ x13 then (if x13 < ((rd_L1 x254001 x18).length : Int) then (spec_l04Pivot.l3 k x1 x6 x7 x10 x13 x16 (wrap64 (x18 + 1)) x242000 x242001 x254000 (x254001.set (x18 : Int).toNat ((rd_L1 x254001 x18).set (x13 : Int).toNat (wrap64 (x10 * (rd x16 x18))))) x254002) else (none)) else (none)) else (none)) else (none)) else (none)) else (spec_l04Pivot.l1 k x1 x6 x7 x10 (wrap64 (x13 + 1)) x242000 x242001 x254000 x254001 x254002)
end
def spec_l04Pivot.f (k : Nat) (l0_0 : List (List Int)) (l0_1 : List Int) (a1 : Int) : Option (Int × (List (List Int)) × List Int × Bool) := (spec_l01Columns.f k l0_0 a1).bind fun l9 => ((spec_l01Solve.f k l9 l0_1).bind fun bt243 => (if bt243.2 = 0 then (some (0, ([] : List (List Int)), ([] : List Int), false)) else (if bt243.2 < 0 then (spec_l04Pivot.j0 k a1 (l0_1.length : Int) l9 bt243.1 bt243.2 (-1) l0_0 l0_1) else (spec_l04Pivot.j0 k a1 (l0_1.length : Int) l9 bt243.1 bt243.2 1 l0_0 l0_1))))
theorem spec_l04Pivot.mono_l : ∀ k, (∀ y0 y1 y2 y3 y4 y5 y6 y7, LeO (spec_l04Pivot.j0 k y0 y1 y2 y3 y4 y5 y6 y7) (spec_l04Pivot.j0 (k + 1) y0 y1 y2 y3 y4 y5 y6 y7)) ∧ (∀ y0 y1 y2 y3 y4 y5 y6 y7 y8 y9 y10, LeO (spec_l04Pivot.l0 k y0 y1 y2 y3 y4 y5 y6 y7 y8 y9 y10) (spec_l04Pivot.l0 (k + 1) y0 y1 y2 y3 y4 y5 y6 y7 y8 y9 y10)) ∧ (∀ y0 y1 y2 y3 y4 y5 y6 y7 y8 y9, LeO (spec_l04Pivot.l1 k y0 y1 y2 y3 y4 y5 y6 y7 y8 y9) (spec_l04Pivot.l1 (k + 1) y0 y1 y2 y3 y4 y5 y6 y7 y8 y9)) ∧ (∀ y0 y1 y2 y3 y4 y5 y6 y7 y8 y9 y10 y11, LeO (spec_l04Pivot.l2 k y0 y1 y2 y3 y4 y5 y6 y7 y8 y9 y10 y11) (spec_l04Pivot.l2 (k + 1) y0 y1 y2 y3 y4 y5 y6 y7 y8 y9 y10 y11)) ∧ (∀ y0 y1 y2 y3 y4 y5 y6 y7 y8 y9 y10, LeO (spec_l04Pivot.j4 k y0 y1 y2 y3 y4 y5 y6 y7 y8 y9 y10) (spec_l04Pivot.j4 (k + 1) y0 y1 y2 y3 y4 y5 y6 y7 y8 y9 y10)) ∧ (∀ y0 y1 y2 y3 y4 y5 y6 y7 y8 y9 y10 y11, LeO (spec_l04Pivot.l3 k y0 y1 y2 y3 y4 y5 y6 y7 y8 y9 y10 y11) (spec_l04Pivot.l3 (k + 1) y0 y1 y2 y3 y4 y5 y6 y7 y8 y9 y10 y11))
 | 0 => ⟨fun _ _ _ _ _ _ _ _ r h => by simp [spec_l04Pivot.j0] at h, fun _ _ _ _ _ _ _ _ _ _ _ r h => by simp [spec_l04Pivot.l0] at h, fun _ _ _ _ _ _ _ _ _ _ r h => by simp [spec_l04Pivot.l1] at h, fun _ _ _ _ _ _ _ _ _ _ _ _ r h => by simp [spec_l04Pivot.l2] at h, fun _ _ _ _ _ _ _ _ _ _ _ r h => by simp [spec_l04Pivot.j4] at h, fun _ _ _ _ _ _ _ _ _ _ _ _ r h => by simp [spec_l04Pivot.l3] at h⟩
 | k + 1 => by
  obtain ⟨ih0, ih1, ih2, ih3, ih4, ih5⟩ := spec_l04Pivot.mono_l k
  refine ⟨?_, ?_, ?_, ?_, ?_, ?_⟩
  ·intro y0 y1 y2 y3 y4 y5 y6 y7
   unfold spec_l04Pivot.j0
   repeat' first
   | (with_reducible exact ih0 _ _ _ _ _ _ _ _)
   | (with_reducible exact ih1 _ _ _ _ _ _ _ _ _ _ _)
   | (with_reducible exact ih2 _ _ _ _ _ _ _ _ _ _)
   | (with_reducible exact ih3 _ _ _ _ _ _ _ _ _ _ _ _)
   | (with_reducible exact ih4 _ _ _ _ _ _ _ _ _ _ _)
   | (with_reducible exact ih5 _ _ _ _ _ _ _ _ _ _ _ _)
   | (with_reducible exact spec_l01Columns.mono _ _ _)
   | (with_reducible exact spec_l01Solve.mono _ _ _)
   | (with_reducible exact LeO.refl _)
   | (with_reducible exact LeO.none _)
   | (with_reducible refine LeO.ite ?_ ?_)
   | (with_reducible refine LeO.bind ?_ (fun _ => ?_))
   | exact ih0 _ _ _ _ _ _ _ _
   | exact ih1 _ _ _ _ _ _ _ _ _ _ _
   | exact ih2 _ _ _ _ _ _ _ _ _ _
   | exact ih3 _ _ _ _ _ _ _ _ _ _ _ _
   | exact ih4 _ _ _ _ _ _ _ _ _ _ _
   | exact ih5 _ _ _ _ _ _ _ _ _ _ _ _
   | exact spec_l01Columns.mono _ _ _
   | exact spec_l01Solve.mono _ _ _
   | exact LeO.none _
   | refine LeO.ite ?_ ?_
   | refine LeO.bind ?_ (fun _ => ?_)
  ·intro y0 y1 y2 y3 y4 y5 y6 y7 y8 y9 y10
   unfold spec_l04Pivot.l0
   repeat' first
   | (with_reducible exact ih0 _ _ _ _ _ _ _ _)
   | (with_reducible exact ih1 _ _ _ _ _ _ _ _ _ _ _)
   | (with_reducible exact ih2 _ _ _ _ _ _ _ _ _ _)
   | (with_reducible exact ih3 _ _ _ _ _ _ _ _ _ _ _ _)
   | (with_reducible exact ih4 _ _ _ _ _ _ _ _ _ _ _)
   | (with_reducible exact ih5 _ _ _ _ _ _ _ _ _ _ _ _)
   | (with_reducible exact spec_l01Columns.mono _ _ _)
   | (with_reducible exact spec_l01Solve.mono _ _ _)
   | (with_reducible exact LeO.refl _)
   | (with_reducible exact LeO.none _)
   | (with_reducible refine LeO.ite ?_ ?_)
   | (with_reducible refine LeO.bind ?_ (fun _ => ?_))
   | exact ih0 _ _ _ _ _ _ _ _
   | exact ih1 _ _ _ _ _ _ _ _ _ _ _
   | exact ih2 _ _ _ _ _ _ _ _ _ _
   | exact ih3 _ _ _ _ _ _ _ _ _ _ _ _
   | exact ih4 _ _ _ _ _ _ _ _ _ _ _
   | exact ih5 _ _ _ _ _ _ _ _ _ _ _ _
   | exact spec_l01Columns.mono _ _ _
   | exact spec_l01Solve.mono _ _ _
   | exact LeO.none _
   | refine LeO.ite ?_ ?_
   | refine LeO.bind ?_ (fun _ => ?_)
  ·intro y0 y1 y2 y3 y4 y5 y6 y7 y8 y9
   unfold spec_l04Pivot.l1
   repeat' first
   | (with_reducible exact ih0 _ _ _ _ _ _ _ _)
   | (with_reducible exact ih1 _ _ _ _ _ _ _ _ _ _ _)
   | (with_reducible exact ih2 _ _ _ _ _ _ _ _ _ _)
   | (with_reducible exact ih3 _ _ _ _ _ _ _ _ _ _ _ _)
   | (with_reducible exact ih4 _ _ _ _ _ _ _ _ _ _ _)
   | (with_reducible exact ih5 _ _ _ _ _ _ _ _ _ _ _ _)
   | (with_reducible exact spec_l01Columns.mono _ _ _)
   | (with_reducible exact spec_l01Solve.mono _ _ _)
   | (with_reducible exact LeO.refl _)
   | (with_reducible exact LeO.none _)
   | (with_reducible refine LeO.ite ?_ ?_)
   | (with_reducible refine LeO.bind ?_ (fun _ => ?_))
   | exact ih0 _ _ _ _ _ _ _ _
   | exact ih1 _ _ _ _ _ _ _ _ _ _ _
   | exact ih2 _ _ _ _ _ _ _ _ _ _
   | exact ih3 _ _ _ _ _ _ _ _ _ _ _ _
   | exact ih4 _ _ _ _ _ _ _ _ _ _ _
   | exact ih5 _ _ _ _ _ _ _ _ _ _ _ _
   | exact spec_l01Columns.mono _ _ _
   | exact spec_l01Solve.mono _ _ _
   | exact LeO.none _
   | refine LeO.ite ?_ ?_
   | refine LeO.bind ?_ (fun _ => ?_)
  ·intro y0 y1 y2 y3 y4 y5 y6 y7 y8 y9 y10 y11
   unfold spec_l04Pivot.l2
   repeat' first
   | (with_reducible exact ih0 _ _ _ _ _ _ _ _)
   | (with_reducible exact ih1 _ _ _ _ _ _ _ _ _ _ _)
   | (with_reducible exact ih2 _ _ _ _ _ _ _ _ _ _)
   | (with_reducible exact ih3 _ _ _ _ _ _ _ _ _ _ _ _)
   | (with_reducible exact ih4 _ _ _ _ _ _ _ _ _ _ _)
   | (with_reducible exact ih5 _ _ _ _ _ _ _ _ _ _ _ _)
   | (with_reducible exact spec_l01Columns.mono _ _ _)
   | (with_reducible exact spec_l01Solve.mono _ _ _)
   | (with_reducible exact LeO.refl _)
   | (with_reducible exact LeO.none _)
   | (with_reducible refine LeO.ite ?_ ?_)
   | (with_reducible refine LeO.bind ?_ (fun _ => ?_))
   | exact ih0 _ _ _ _ _ _ _ _
   | exact ih1 _ _ _ _ _ _ _ _ _ _ _
   | exact ih2 _ _ _ _ _ _ _ _ _ _
   | exact ih3 _ _ _ _ _ _ _ _ _ _ _ _
   | exact ih4 _ _ _ _ _ _ _ _ _ _ _
   | exact ih5 _ _ _ _ _ _ _ _ _ _ _ _
   | exact spec_l01Columns.mono _ _ _
   | exact spec_l01Solve.mono _ _ _
   | exact LeO.none _
   | refine LeO.ite ?_ ?_
   | refine LeO.bind ?_ (fun _ => ?_)
  ·intro y0 y1 y2 y3 y4 y5 y6 y7 y8 y9 y10
   unfold spec_l04Pivot.j4
   repeat' first
   | (with_reducible exact ih0 _ _ _ _ _ _ _ _)
   | (with_reducible exact ih1 _ _ _ _ _ _ _ _ _ _ _)
   | (with_reducible exact ih2 _ _ _ _ _ _ _ _ _ _)
   | (with_reducible exact ih3 _ _ _ _ _ _ _ _ _ _ _ _)
   | (with_reducible exact ih4 _ _ _ _ _ _ _ _ _ _ _)
   | (with_reducible exact ih5 _ _ _ _ _ _ _ _ _ _ _ _)
   | (with_reducible exact spec_l01Columns.mono _ _ _)
   | (with_reducible exact spec_l01Solve.mono _ _ _)
   | (with_reducible exact LeO.refl _)
   | (with_reducible exact LeO.none _)
   | (with_reducible refine LeO.ite ?_ ?_)
   | (with_reducible refine LeO.bind ?_ (fun _ => ?_))
   | exact ih0 _ _ _ _ _ _ _ _
   | exact ih1 _ _ _ _ _ _ _ _ _ _ _
   | exact ih2 _ _ _ _ _ _ _ _ _ _
   | exact ih3 _ _ _ _ _ _ _ _ _ _ _ _
   | exact ih4 _ _ _ _ _ _ _ _ _ _ _
   | exact ih5 _ _ _ _ _ _ _ _ _ _ _ _
   | exact spec_l01Columns.mono _ _ _
   | exact spec_l01Solve.mono _ _ _
   | exact LeO.none _
   | refine LeO.ite ?_ ?_
   | refine LeO.bind ?_ (fun _ => ?_)
  ·intro y0 y1 y2 y3 y4 y5 y6 y7 y8 y9 y10 y11
   unfold spec_l04Pivot.l3
   repeat' first
   | (with_reducible exact ih0 _ _ _ _ _ _ _ _)
   | (with_reducible exact ih1 _ _ _ _ _ _ _ _ _ _ _)
   | (with_reducible exact ih2 _ _ _ _ _ _ _ _ _ _)
   | (with_reducible exact ih3 _ _ _ _ _ _ _ _ _ _ _ _)
   | (with_reducible exact ih4 _ _ _ _ _ _ _ _ _ _ _)
   | (with_reducible exact ih5 _ _ _ _ _ _ _ _ _ _ _ _)
   | (with_reducible exact spec_l01Columns.mono _ _ _)
   | (with_reducible exact spec_l01Solve.mono _ _ _)
   | (with_reducible exact LeO.refl _)
   | (with_reducible exact LeO.none _)
   | (with_reducible refine LeO.ite ?_ ?_)
   | (with_reducible refine LeO.bind ?_ (fun _ => ?_))
   | exact ih0 _ _ _ _ _ _ _ _
   | exact ih1 _ _ _ _ _ _ _ _ _ _ _
   | exact ih2 _ _ _ _ _ _ _ _ _ _
   | exact ih3 _ _ _ _ _ _ _ _ _ _ _ _
   | exact ih4 _ _ _ _ _ _ _ _ _ _ _
   | exact ih5 _ _ _ _ _ _ _ _ _ _ _ _
   | exact spec_l01Columns.mono _ _ _
   | exact spec_l01Solve.mono _ _ _
   | exact LeO.none _
   | refine LeO.ite ?_ ?_
   | refine LeO.bind ?_ (fun _ => ?_)
theorem spec_l04Pivot.mono : ∀ a0 a1 a2 k, LeO (spec_l04Pivot.f k a0 a1 a2) (spec_l04Pivot.f (k + 1) a0 a1 a2) := by
 intro a0 a1 a2 k
 obtain ⟨ih0, ih1, ih2, ih3, ih4, ih5⟩ := spec_l04Pivot.mono_l k
 unfold spec_l04Pivot.f
 repeat' first
   | (with_reducible exact ih0 _ _ _ _ _ _ _ _)
   | (with_reducible exact ih1 _ _ _ _ _ _ _ _ _ _ _)
   | (with_reducible exact ih2 _ _ _ _ _ _ _ _ _ _)
   | (with_reducible exact ih3 _ _ _ _ _ _ _ _ _ _ _ _)
   | (with_reducible exact ih4 _ _ _ _ _ _ _ _ _ _ _)
   | (with_reducible exact ih5 _ _ _ _ _ _ _ _ _ _ _ _)
   | (with_reducible exact spec_l01Columns.mono _ _ _)
   | (with_reducible exact spec_l01Solve.mono _ _ _)
   | (with_reducible exact LeO.refl _)
   | (with_reducible exact LeO.none _)
   | (with_reducible refine LeO.ite ?_ ?_)
   | (with_reducible refine LeO.bind ?_ (fun _ => ?_))
   | exact ih0 _ _ _ _ _ _ _ _
   | exact ih1 _ _ _ _ _ _ _ _ _ _ _
   | exact ih2 _ _ _ _ _ _ _ _ _ _
   | exact ih3 _ _ _ _ _ _ _ _ _ _ _ _
   | exact ih4 _ _ _ _ _ _ _ _ _ _ _
   | exact ih5 _ _ _ _ _ _ _ _ _ _ _ _
   | exact spec_l01Columns.mono _ _ _
   | exact spec_l01Solve.mono _ _ _
   | exact LeO.none _
   | refine LeO.ite ?_ ?_
   | refine LeO.bind ?_ (fun _ => ?_)
def spec_l04Pivot.T1 : Bool × List (List Nat × List Nat) := (true, [([], []), ([0], [0]), ([1], [1]), ([], []), ([3], [3]), ([], []), ([4, 5], [4, 5]), ([2, 6, 0, 1, 2], [2]), ([6, 7, 0, 1, 2, 3, 4, 5, 6, 7], [6])])
def spec_l04Pivot.B1 : List Nat := [0, 1, 3, 0, 8, 0, 56, 127, 255]
theorem spec_l04Pivot.tab1 : rtab .any (opsOf Try.f75 1) = spec_l04Pivot.T1 := by kernel_rfl
theorem spec_l04Pivot.bits1 : waitsOk spec_l04Pivot.T1.2 spec_l04Pivot.B1 = true := by kernel_rfl
def spec_l04Pivot.T12 : Bool × List (List Nat × List Nat) := (true, [([], []), ([0], [0]), ([], []), ([2, 2], [2]), ([3], [3]), ([1, 4], [1, 4]), ([0, 1, 2, 3, 4, 5], []), ([6, 5, 5, 0, 1, 2, 3, 4, 5], [5, 6])])
def spec_l04Pivot.B12 : List Nat := [0, 1, 0, 4, 12, 31, 63, 127]
theorem spec_l04Pivot.tab12 : rtab .any (opsOf Try.f75 12) = spec_l04Pivot.T12 := by kernel_rfl
theorem spec_l04Pivot.bits12 : waitsOk spec_l04Pivot.T12.2 spec_l04Pivot.B12 = true := by kernel_rfl
def spec_l04Pivot.T13 : Bool × List (List Nat × List Nat) := (true, [([], []), ([0], [0]), ([], []), ([], []), ([], []), ([3, 4], [3, 4]), ([5], [5]), ([2, 6], [2, 6]), ([7], [7]), ([1, 8], [1, 8]), ([0, 1, 2, 3, 4, 5, 6, 7, 8, 9], []), ([10, 9, 9, 0, 1, 2, 3, 4, 5, 6, 7, 8, 9], [9, 10])])
def spec_l04Pivot.B13 : List Nat := [0, 1, 0, 0, 0, 24, 56, 124, 252, 511, 1023, 2047]
theorem spec_l04Pivot.tab13 : rtab .any (opsOf Try.f75 13) = spec_l04Pivot.T13 := by kernel_rfl
theorem spec_l04Pivot.bits13 : waitsOk spec_l04Pivot.T13.2 spec_l04Pivot.B13 = true := by kernel_rfl
theorem spec_l04Pivot.calls (k : Nat) (A0_0 : Option Addr) (c0_0 : Nat) (l0_0 : List (List Int)) (A0_1 : Option Addr) (c0_1 : Nat) (l0_1 : List Int) (a1 : Int) (r1 : Int) (r2 : List (List Int)) (r3 : List Int) (r4 : Bool) (w : World) (hr0_0 : Kd.C (Kd.slice 2 (Kd.int .i64)) w A0_0 l0_0.length l0_0) (hc0_0 : l0_0.length ≤ c0_0) (hr0_1 : Kd.C (Kd.int .i64) w A0_1 l0_1.length l0_1) (hc0_1 : l0_1.length ≤ c0_1) (h : spec_l04Pivot.f k l0_0 l0_1 a1 = some (r1, r2, r3, r4)) :
  Calls Try.prog 75 #[.agg #[.slice A0_0 l0_0.length c0_0, .slice A0_1 l0_1.length c0_1], .int .i64 a1] w fun e w' => ∃ v1_ v2_ : Value, e = .returned (.tuple #[.agg #[.int .i64 r1, v1_, v2_], .bool r4]) ∧ Kd.S (Kd.slice 2 (Kd.int .i64)) 23 w' w.heap.size (fun k_ => some k_ ≠ (v2_ : Value).ownBlock) v1_ r2 ∧ Kd.R (Kd.int .i64) 2 w' w.heap.size (fun _ => True) v2_ r3 ∧ Below w.heap.size w w' := by
 have hu29 := Try.underlying29
 have hu75 := Try.underlying75
 have HR0_0 := Aside0.mk hr0_0
 have HC0_0 := Aside0.mk hc0_0
 clear hr0_0 hc0_0
 have HR0_1 := Aside0.mk hr0_1
 have HC0_1 := Aside0.mk hc0_1
 clear hr0_1 hc0_1
 have HB := Aside0.mk (Below.refl w.heap.size w)
 have H : ((spec_l01Columns.f k l0_0 a1).bind fun l9 => ((spec_l01Solve.f k l9 l0_1).bind fun bt243 => (if bt243.2 = 0 then (some (0, ([] : List (List Int)), ([] : List Int), false)) else (if bt243.2 < 0 then (spec_l04Pivot.j0 k a1 (l0_1.length : Int) l9 bt243.1 bt243.2 (-1) l0_0 l0_1) else (spec_l04Pivot.j0 k a1 (l0_1.length : Int) l9 bt243.1 bt243.2 1 l0_0 l0_1))))) = some (r1, r2, r3, r4) := h
 clear h
 replace H := Option.bind_eq_some_iff.mp H
 obtain ⟨l9, A30, H⟩ := H
 replace H : ((spec_l01Solve.f k l9 l0_1).bind fun bt243 => (if bt243.2 = 0 then (some (0, ([] : List (List Int)), ([] : List Int), false)) else (if bt243.2 < 0 then (spec_l04Pivot.j0 k a1 (l0_1.length : Int) l9 bt243.1 bt243.2 (-1) l0_0 l0_1) else (spec_l04Pivot.j0 k a1 (l0_1.length : Int) l9 bt243.1 bt243.2 1 l0_0 l0_1)))) = some (r1, r2, r3, r4) := H
 have A3 := Aside0.mk A30
 clear A30
 replace H := Option.bind_eq_some_iff.mp H
 obtain ⟨⟨t243, t244⟩, A40, H⟩ := H
 replace H : (if t244 = 0 then (some (0, ([] : List (List Int)), ([] : List Int), false)) else (if t244 < 0 then (spec_l04Pivot.j0 k a1 (l0_1.length : Int) l9 t243 t244 (-1) l0_0 l0_1) else (spec_l04Pivot.j0 k a1 (l0_1.length : Int) l9 t243 t244 1 l0_0 l0_1))) = some (r1, r2, r3, r4) := H
 have A4 := Aside0.mk A40
 clear A40
 by_cases c5 : t244 = 0
 ·rw [if_pos c5] at H
  have c5b0 : (t244 == 0) = true := beq_iff_eq.mpr c5
  have c5b1 : (t244 != 0) = false := bne_eq_false_iff_eq.mpr c5
  clear c5
  simp only [Option.some.injEq, Prod.mk.injEq] at H
  obtain ⟨rfl, rfl, rfl, rfl⟩ := H
  go_enter Try.func75, Try.ntmps75
  try go_wp2_with (first | ((with_reducible refine gate_dst (N := 2) rfl ?_); refine box_event ?hg (N := 2) ?hd (cs := #[.slice A0_0 l0_0.length c0_0, .slice A0_1 l0_1.length c0_1]) (t := 29) ?hr ?_; (case hd => rfl); (case hg => rfl); (case hr => first | (go_simp; done) | (go_simp; rfl)); intro gb241 hg w6 hbox hb; have n0_ := Aside0.mk (bs_ hb); have n1_ := Aside0.mk (hbox); have n2_ := Aside0.mk ((by rw [hg]; exact bz_ : w.heap.size ≤ gb241)); have n3_ := Aside0.mk ((by rw [hg]; exact bz_ : w.heap.size ≤ gb241)); clear HB; have HB := n0_; have BK241 := n1_; have GW241 := n2_; have GE241 := n3_; clear n0_ n1_ n2_ n3_; clear hb hbox hg) | ((with_reducible refine gate_dst (N := 4) rfl ?_); refine box_event ?hg (N := 4) ?hd (cs := #[.int .i64 0, .slice none 0 0, .slice none 0 0]) (t := 75) ?hr ?_; (case hd => rfl); (case hg => rfl); (case hr => first | (go_simp; done) | (go_simp; rfl)); intro gb242 hg w7 hbox hb; have n0_ := Aside0.mk (bb_ BK241.out hb); have n1_ := Aside0.mk (bs_ hb); have n2_ := Aside0.mk (hbox); have n3_ := Aside0.mk ((by rw [hg]; exact bz_ : w.heap.size ≤ gb242)); have n4_ := Aside0.mk ((by rw [hg]; exact bz_ : w.heap.size ≤ gb242)); have n5_ := Aside0.mk ((by rw [hg]; exact lt_ BK241.out : gb241 ≠ gb242)); have n6_ := Aside0.mk ((by rw [hg]; exact gt_ BK241.out : gb242 ≠ gb241)); clear BK241; clear HB; have BK241 := n0_; have HB := n1_; have BK242 := n2_; have GW242 := n3_; have GE242 := n4_; have NB241_242 := n5_; have NB242_241 := n6_; clear n0_ n1_ n2_ n3_ n4_ n5_ n6_; clear hb hbox hg))
  have n0_ := Aside0.mk (blk_drew BK241.out)
  have n1_ := Aside0.mk (blk_drew BK242.out)
  have n2_ := Aside0.mk (below_drew1 HB.out)
  clear BK241
  clear BK242
  clear HB
  have BK241 := n0_
  have BK242 := n1_
  have HB := n2_
  clear n0_ n1_ n2_
  refine st_ (n := 9) (S := fun w' => w'.cell? ⟨gb241, 0, none⟩ = some (.slice A0_0 l0_0.length c0_0) ∧ w'.cell? ⟨gb241, 1, none⟩ = some (.slice A0_1 l0_1.length c0_1)) (ds := []) ⟨(blk_cell BK241.out 0).trans rfl, (blk_cell BK241.out 1).trans rfl⟩ (fun hHeld => ?_); refine with_tabW spec_l04Pivot.tab1 spec_l04Pivot.bits1 (fun HT_ HW_ => ?_)
  generalize w7.drew = w8 at BK241 BK242 HB hHeld ⊢
  refine pu_ 0 20 ?_; refine pu_ 3 23 ?_; refine pu_ 5 25 ?_; refine tk_ 1 21 ?_; refine pu_ 2 22 ?_; refine tk_ 4 24 ?_
  refine on_ 6 (some 26) (fun K hK => ?_)
  refine goes_ Try.func104 (by kernel_rfl) rfl #[.slice A0_0 l0_0.length c0_0, .int .i64 a1] (by rfl) rfl rfl (by (try simp only [List.map_toArray, List.map_cons, List.map_nil]); first | done | rfl | (simp only [List.length_drop, List.length_take]; rfl)) ?_
  with_reducible refine (spec_l01Columns.calls k _ _ l0_0 a1 l9 _ ?side1 ?side2 A3.out).mono ?_
  (case side1 => exact cb_ HR0_0.out HB.out)
  (case side2 => exact HC0_0.out)
  rintro e w9 ⟨v9_, rfl, ho0, hb⟩
  obtain ⟨A9, c9, e9_⟩ := Kd.S_slice ho0
  subst e9_
  refine ⟨_, rfl, ?_⟩
  have n0_ := Aside0.mk (Kd.S_lower ho0 bz_)
  have n1_ := Aside0.mk (bb_ BK241.out hb)
  have n2_ := Aside0.mk (bb_ BK242.out hb)
  have n3_ := Aside0.mk (bs_ hb)
  clear BK241
  clear BK242
  clear HB
  have HR9 := n0_
  have BK241 := n1_
  have BK242 := n2_
  have HB := n3_
  clear n0_ n1_ n2_ n3_
  (try clear hb)
  (try clear hb2)
  (try clear hk)
  (try clear hi)
  (try clear ho0)
  refine hK.out _ _ ⟨(blk_cell BK241.out 0).trans rfl, (blk_cell BK241.out 1).trans rfl⟩ (fun hHeld => ?_)
  clear hK K
  refine norm_ (a' := ?_) ?_ ?_
  rotate_left
  ·show Act.put _ (some 26) _ = _
   simp only [Act.put, List.setIfInBounds_toArray, List.set_cons_zero, List.set_cons_succ, i64_w, i32_w]
   rfl
  refine pu_ 7 6 ?_; refine pu_ 8 7 ?_
  refine done_ (done_of HT_.out (by kernel_rfl)) ?_
  have HBo0 := HB
  have HS9 := HR9
  have HR00 := HR0_0
  have HR01 := HR0_1
  clear HB HR9 HR0_0 HR0_1
  obtain ⟨wO, hwO⟩ : ∃ x : World, x = w := ⟨_, rfl⟩
  subst hwO
  obtain ⟨w, hw⟩ : ∃ x : World, x = w9 := ⟨_, rfl⟩
  have HB : Aside0 (Below w.heap.size w w9) := ⟨by rw [hw]; exact Below.refl _ _⟩
  have HBo : Aside0 (Below wO.heap.size wO w) := ⟨by rw [hw]; exact HBo0.out⟩
  have HR9 : Aside0 (Kd.C (Kd.slice 2 (Kd.int .i64)) w A9 l9.length l9) := ⟨by rw [hw]; exact (Kd.S_reads' HS9.out).2.2⟩
  have HC9 : Aside0 (l9.length ≤ c9) := ⟨(Kd.S_reads' HS9.out).2.1⟩
  have HR0_0 : Aside0 (Kd.C (Kd.slice 2 (Kd.int .i64)) w A0_0 l0_0.length l0_0) := ⟨by rw [hw]; exact Kd.C_below HR00.out HBo0.out⟩
  have HR0_1 : Aside0 (Kd.C (Kd.int .i64) w A0_1 l0_1.length l0_1) := ⟨by rw [hw]; exact Kd.C_below HR01.out HBo0.out⟩
  clear HBo0 HS9 HR00 HR01 hw
  have hnb10 := NB241_242.out
  have hnc10 := NB242_241.out
  have hcz11_0 : w9.cell? ⟨gb241, 0, none⟩ = some (.slice A0_0 l0_0.length c0_0) := (blk_cell BK241.out 0).trans rfl
  have hcz11_1 : w9.cell? ⟨gb241, 1, none⟩ = some (.slice A0_1 l0_1.length c0_1) := (blk_cell BK241.out 1).trans rfl
  have hfz11_0 := blk_frozen BK241.out 0
  have hfz11_1 := blk_frozen BK241.out 1
  try go_wp2_with (first | ((with_reducible refine gate_callee (f := 103) rfl ?_); refine goesL_ (some 31) rfl rfl Try.func103 (by kernel_rfl) rfl #[.slice A9 l9.length c9, .slice A0_1 l0_1.length c0_1] rfl (by (try simp only [List.map_toArray, List.map_cons, List.map_nil]); first | done | rfl | (simp only [List.length_drop, List.length_take]; rfl)) ?_; (with_reducible refine (spec_l01Solve.calls k _ _ l9 _ _ l0_1 t243 t244 _ ?side1 ?side2 ?side3 ?side4 A4.out).mono ?_); (case side1 => exact cb_ HR9.out HB.out); (case side2 => exact HC9.out); (case side3 => exact cb_ HR0_1.out HB.out); (case side4 => exact HC0_1.out); rintro e w12 ⟨v245, rfl, ho0, hb⟩; refine ⟨_, rfl, ?_⟩; have n0_ := Aside0.mk (Kd.R_lower ho0 bz_); have n1_ := Aside0.mk (bb_ BK241.out hb); have n2_ := Aside0.mk (bb_ BK242.out hb); have n3_ := Aside0.mk (bs_ hb); clear BK241; clear BK242; clear HB; have HO246 := n0_; have BK241 := n1_; have BK242 := n2_; have HB := n3_; clear n0_ n1_ n2_ n3_; (try clear hb); (try clear hb2); (try clear hk); (try clear hi); (try clear ho0); have hcz13_0 : w12.cell? ⟨gb242, 0, none⟩ = some (.int .i64 0) := (blk_cell BK242.out 0).trans rfl; have hcz13_1 : w12.cell? ⟨gb242, 1, none⟩ = some (.slice none 0 0) := (blk_cell BK242.out 1).trans rfl; have hcz13_2 : w12.cell? ⟨gb242, 2, none⟩ = some (.slice none 0 0) := (blk_cell BK242.out 2).trans rfl; have hfz13_0 := blk_frozen BK242.out 0; have hfz13_1 := blk_frozen BK242.out 1; have hfz13_2 := blk_frozen BK242.out 2))
  have HB := Aside0.mk (below_step HBo.out HB.out)
  refine bodyPost_ret (results_ct rfl _ _ gb242 75 #[.int .i64 0, .slice none 0 0, .slice none 0 0] (0, 0) _ rfl (by (with_reducible repeat (first | refine blk_drewN ?_ _ | refine blk_drew ?_ | refine blk_alloc ?_ _)); refine blk_put (cs := #[.int .i64 0, .slice none 0 0, .slice none 0 0]) ?_ 2 _ rfl; (with_reducible repeat (first | refine blk_drewN ?_ _ | refine blk_drew ?_ | refine blk_alloc ?_ _)); refine blk_put (cs := #[.int .i64 0, .slice none 0 0, .slice none 0 0]) ?_ 1 _ rfl; (with_reducible repeat (first | refine blk_drewN ?_ _ | refine blk_drew ?_ | refine blk_alloc ?_ _)); refine blk_put (cs := #[.int .i64 0, .slice none 0 0, .slice none 0 0]) ?_ 0 _ rfl; (with_reducible repeat (first | refine blk_drewN ?_ _ | refine blk_drew ?_ | refine blk_alloc ?_ _)); exact BK242.out) Try.underlying75 rfl (by kernel_rfl)) rfl ?_
  exact ⟨_, _, by first | rfl | (simp [errW_none, errW_some] <;> rfl) | (simp [*, errW_none, errW_some] <;> rfl), by first | exact Kd.S_nil _ _ _ _ _ | exact Kd.N_nil _ _ _ _ _ | exact Kd.V_nil _ _ _ _ _ | exact Kd.Q_nil _ _ _ _ _ | exact Kd.R_nil _ _ _ _ _, by first | exact Kd.R_nil _ _ _ _ _ | exact Kd.N_nil _ _ _ _ _ | exact Kd.V_nil _ _ _ _ _ | exact Kd.Q_nil _ _ _ _ _ | exact Kd.S_nil _ _ _ _ _, hb_⟩
 ·rw [if_neg c5] at H
  have c5b0 : (t244 == 0) = false := beq_eq_false_iff_ne.mpr c5
  have c5b1 : (t244 != 0) = true := bne_iff_ne.mpr c5
  have HC14 := Aside0.mk H
  clear H
  go_enter Try.func75, Try.ntmps75
  try go_wp2_with (first | ((with_reducible refine gate_dst (N := 2) rfl ?_); refine box_event ?hg (N := 2) ?hd (cs := #[.slice A0_0 l0_0.length c0_0, .slice A0_1 l0_1.length c0_1]) (t := 29) ?hr ?_; (case hd => rfl); (case hg => rfl); (case hr => first | (go_simp; done) | (go_simp; rfl)); intro gb241 hg w15 hbox hb; have n0_ := Aside0.mk (bs_ hb); have n1_ := Aside0.mk (hbox); have n2_ := Aside0.mk ((by rw [hg]; exact bz_ : w.heap.size ≤ gb241)); have n3_ := Aside0.mk ((by rw [hg]; exact bz_ : w.heap.size ≤ gb241)); clear HB; have HB := n0_; have BK241 := n1_; have GW241 := n2_; have GE241 := n3_; clear n0_ n1_ n2_ n3_; clear hb hbox hg) | ((with_reducible refine gate_dst (N := 4) rfl ?_); refine box_event ?hg (N := 4) ?hd (cs := #[.int .i64 0, .slice none 0 0, .slice none 0 0]) (t := 75) ?hr ?_; (case hd => rfl); (case hg => rfl); (case hr => first | (go_simp; done) | (go_simp; rfl)); intro gb242 hg w16 hbox hb; have n0_ := Aside0.mk (bb_ BK241.out hb); have n1_ := Aside0.mk (bs_ hb); have n2_ := Aside0.mk (hbox); have n3_ := Aside0.mk ((by rw [hg]; exact bz_ : w.heap.size ≤ gb242)); have n4_ := Aside0.mk ((by rw [hg]; exact bz_ : w.heap.size ≤ gb242)); have n5_ := Aside0.mk ((by rw [hg]; exact lt_ BK241.out : gb241 ≠ gb242)); have n6_ := Aside0.mk ((by rw [hg]; exact gt_ BK241.out : gb242 ≠ gb241)); clear BK241; clear HB; have BK241 := n0_; have HB := n1_; have BK242 := n2_; have GW242 := n3_; have GE242 := n4_; have NB241_242 := n5_; have NB242_241 := n6_; clear n0_ n1_ n2_ n3_ n4_ n5_ n6_; clear hb hbox hg))
  have n0_ := Aside0.mk (blk_drew BK241.out)
  have n1_ := Aside0.mk (blk_drew BK242.out)
  have n2_ := Aside0.mk (below_drew1 HB.out)
  clear BK241
  clear BK242
  clear HB
  have BK241 := n0_
  have BK242 := n1_
  have HB := n2_
  clear n0_ n1_ n2_
  refine st_ (n := 9) (S := fun w' => w'.cell? ⟨gb241, 0, none⟩ = some (.slice A0_0 l0_0.length c0_0) ∧ w'.cell? ⟨gb241, 1, none⟩ = some (.slice A0_1 l0_1.length c0_1)) (ds := []) ⟨(blk_cell BK241.out 0).trans rfl, (blk_cell BK241.out 1).trans rfl⟩ (fun hHeld => ?_); refine with_tabW spec_l04Pivot.tab1 spec_l04Pivot.bits1 (fun HT_ HW_ => ?_)
  generalize w16.drew = w17 at BK241 BK242 HB hHeld ⊢
  refine pu_ 0 20 ?_; refine pu_ 3 23 ?_; refine pu_ 5 25 ?_; refine tk_ 1 21 ?_; refine pu_ 2 22 ?_; refine tk_ 4 24 ?_
  refine on_ 6 (some 26) (fun K hK => ?_)
  refine goes_ Try.func104 (by kernel_rfl) rfl #[.slice A0_0 l0_0.length c0_0, .int .i64 a1] (by rfl) rfl rfl (by (try simp only [List.map_toArray, List.map_cons, List.map_nil]); first | done | rfl | (simp only [List.length_drop, List.length_take]; rfl)) ?_
  with_reducible refine (spec_l01Columns.calls k _ _ l0_0 a1 l9 _ ?side1 ?side2 A3.out).mono ?_
  (case side1 => exact cb_ HR0_0.out HB.out)
  (case side2 => exact HC0_0.out)
  rintro e w18 ⟨v9_, rfl, ho0, hb⟩
  obtain ⟨A9, c9, e9_⟩ := Kd.S_slice ho0
  subst e9_
  refine ⟨_, rfl, ?_⟩
  have n0_ := Aside0.mk (Kd.S_lower ho0 bz_)
  have n1_ := Aside0.mk (bb_ BK241.out hb)
  have n2_ := Aside0.mk (bb_ BK242.out hb)
  have n3_ := Aside0.mk (bs_ hb)
  clear BK241
  clear BK242
  clear HB
  have HR9 := n0_
  have BK241 := n1_
  have BK242 := n2_
  have HB := n3_
  clear n0_ n1_ n2_ n3_
  (try clear hb)
  (try clear hb2)
  (try clear hk)
  (try clear hi)
  (try clear ho0)
  refine hK.out _ _ ⟨(blk_cell BK241.out 0).trans rfl, (blk_cell BK241.out 1).trans rfl⟩ (fun hHeld => ?_)
  clear hK K
  refine norm_ (a' := ?_) ?_ ?_
  rotate_left
  ·show Act.put _ (some 26) _ = _
   simp only [Act.put, List.setIfInBounds_toArray, List.set_cons_zero, List.set_cons_succ, i64_w, i32_w]
   rfl
  refine pu_ 7 6 ?_; refine pu_ 8 7 ?_
  refine done_ (done_of HT_.out (by kernel_rfl)) ?_
  have HBo0 := HB
  have HS9 := HR9
  have HR00 := HR0_0
  have HR01 := HR0_1
  clear HB HR9 HR0_0 HR0_1
  obtain ⟨wO, hwO⟩ : ∃ x : World, x = w := ⟨_, rfl⟩
  subst hwO
  obtain ⟨w, hw⟩ : ∃ x : World, x = w18 := ⟨_, rfl⟩
  have HB : Aside0 (Below w.heap.size w w18) := ⟨by rw [hw]; exact Below.refl _ _⟩
  have HBo : Aside0 (Below wO.heap.size wO w) := ⟨by rw [hw]; exact HBo0.out⟩
  have HR9 : Aside0 (Kd.C (Kd.slice 2 (Kd.int .i64)) w A9 l9.length l9) := ⟨by rw [hw]; exact (Kd.S_reads' HS9.out).2.2⟩
  have HC9 : Aside0 (l9.length ≤ c9) := ⟨(Kd.S_reads' HS9.out).2.1⟩
  have HR0_0 : Aside0 (Kd.C (Kd.slice 2 (Kd.int .i64)) w A0_0 l0_0.length l0_0) := ⟨by rw [hw]; exact Kd.C_below HR00.out HBo0.out⟩
  have HR0_1 : Aside0 (Kd.C (Kd.int .i64) w A0_1 l0_1.length l0_1) := ⟨by rw [hw]; exact Kd.C_below HR01.out HBo0.out⟩
  clear HBo0 HS9 HR00 HR01 hw
  have hnb19 := NB241_242.out
  have hnc19 := NB242_241.out
  have hcz20_0 : w18.cell? ⟨gb241, 0, none⟩ = some (.slice A0_0 l0_0.length c0_0) := (blk_cell BK241.out 0).trans rfl
  have hcz20_1 : w18.cell? ⟨gb241, 1, none⟩ = some (.slice A0_1 l0_1.length c0_1) := (blk_cell BK241.out 1).trans rfl
  have hfz20_0 := blk_frozen BK241.out 0
  have hfz20_1 := blk_frozen BK241.out 1
  go_upto_if 38 with (first | ((with_reducible refine gate_callee (f := 103) rfl ?_); refine goesL_ (some 31) rfl rfl Try.func103 (by kernel_rfl) rfl #[.slice A9 l9.length c9, .slice A0_1 l0_1.length c0_1] rfl (by (try simp only [List.map_toArray, List.map_cons, List.map_nil]); first | done | rfl | (simp only [List.length_drop, List.length_take]; rfl)) ?_; (with_reducible refine (spec_l01Solve.calls k _ _ l9 _ _ l0_1 t243 t244 _ ?side1 ?side2 ?side3 ?side4 A4.out).mono ?_); (case side1 => exact cb_ HR9.out HB.out); (case side2 => exact HC9.out); (case side3 => exact cb_ HR0_1.out HB.out); (case side4 => exact HC0_1.out); rintro e w21 ⟨v245, rfl, ho0, hb⟩; refine ⟨_, rfl, ?_⟩; have n0_ := Aside0.mk (Kd.R_lower ho0 bz_); have n1_ := Aside0.mk (bb_ BK241.out hb); have n2_ := Aside0.mk (bb_ BK242.out hb); have n3_ := Aside0.mk (bs_ hb); clear BK241; clear BK242; clear HB; have HO246 := n0_; have BK241 := n1_; have BK242 := n2_; have HB := n3_; clear n0_ n1_ n2_ n3_; (try clear hb); (try clear hb2); (try clear hk); (try clear hi); (try clear ho0)))
  (try simp only [Act.put, List.setIfInBounds_toArray, List.set_cons_zero, List.set_cons_succ])
  go_cut [10] (fun v10 wc => ∃ (kq : Nat) (x10_13 : Int), v10 = .int .i64 x10_13 ∧ Aside0 (spec_l04Pivot.j0 kq a1 (l0_1.length : Int) l9 t243 t244 x10_13 l0_0 l0_1 = some (r1, r2, r3, r4)) ∧ Aside0 (kq ≤ k) ∧ Aside0 (Kd.R (Kd.int .i64) 2 wc w.heap.size (fun _ => True) v245 t243) ∧ Aside0 (wc.heap[gb241]? = some (.cells #[(.slice A0_0 l0_0.length c0_0), (.slice A0_1 l0_1.length c0_1)] 29 (0, 0))) ∧ Aside0 (wc.heap[gb242]? = some (.cells #[.int .i64 0, (.slice none 0 0), (.slice none 0 0)] 75 (0, 0))) ∧ Aside0 (Below w.heap.size w wc))
  case first =>
   have H := HC14.out
   clear HC14
   by_cases c22 : t244 < 0
   ·rw [if_pos c22] at H
    have c22b0 : decide (t244 < 0) = true := decide_eq_true c22
    clear c22
    (first | rw [c22b0] | (simp only [i64_w, i32_w]; rw [c22b0]) | skip)
    have H' := Aside0.mk H
    clear H
    go_wp2
    go_meet
    case rel => exact ⟨_, ((-1)), (by first | rfl | (simp; done) | (simp [*]; done)), H', ⟨by first | omega | exact Nat.le_refl _⟩, ⟨ro_ HO246.out⟩, ⟨bk_⟩, ⟨bk_⟩, ⟨hb_⟩⟩
   ·rw [if_neg c22] at H
    have c22b0 : decide (t244 < 0) = false := decide_eq_false c22
    clear c22
    (first | rw [c22b0] | (simp only [i64_w, i32_w]; rw [c22b0]) | skip)
    have H' := Aside0.mk H
    clear H
    go_wp2
    go_meet
    case rel => exact ⟨_, (1), (by first | rfl | (simp; done) | (simp [*]; done)), H', ⟨by first | omega | exact Nat.le_refl _⟩, ⟨ro_ HO246.out⟩, ⟨bk_⟩, ⟨bk_⟩, ⟨hb_⟩⟩
  case rest =>
   clear HC14
   try clear c1
   try clear c2
   try clear p2
   try clear c5
   try clear c5b0
   try clear c5b1
   try clear c7
   try clear c9
   try clear c10
   try clear c19
   try clear c22
   try clear c22b0
   try clear hcz11_0
   try clear hcz11_1
   try clear hcz13_0
   try clear hcz13_1
   try clear hcz13_2
   try clear hcz20_0
   try clear hcz20_1
   try clear hfz11_0
   try clear hfz11_1
   try clear hfz13_0
   try clear hfz13_1
   try clear hfz13_2
   try clear hfz20_0
   try clear hfz20_1
   obtain ⟨kq, x10_13, rfl, HA, HJ13, HO_8, BK241, BK242, HB⟩ := hcut
   cases kq with
   | zero => exact absurd HA.out (by simp [spec_l04Pivot.j0])
   | succ kj13 =>
    have H := HA.out
    clear HA
    simp only [spec_l04Pivot.j0] at H
    obtain ⟨y247, hy247⟩ : ∃ y_ : List (List Int), y_ = (([] : List (List Int))) := ⟨_, rfl⟩
    replace H : (spec_l04Pivot.l0 kj13 a1 (l0_1.length : Int) l9 t243 x10_13 0 l0_0 l0_1 (wrap64 (x10_13 * t244)) y247 (([] : List Int))) = some (r1, r2, r3, r4) := by first | (rw [hy247]; with_reducible exact H) | (have H2_ := (Option.bind_some _ _).symm.trans H; rw [hy247]; with_reducible exact H2_) | (have H2_ := (Option.bind_some _ _).symm.trans H; with_reducible exact H2_) | with_reducible exact H | (rw [hy247]; exact H) | exact H
    have Ny247 := Aside0.mk hy247
    clear hy247
    obtain ⟨y250, hy250⟩ : ∃ y_ : List Int, y_ = (([] : List Int)) := ⟨_, rfl⟩
    replace H : (spec_l04Pivot.l0 kj13 a1 (l0_1.length : Int) l9 t243 x10_13 0 l0_0 l0_1 (wrap64 (x10_13 * t244)) y247 y250) = some (r1, r2, r3, r4) := by first | (rw [hy250]; with_reducible exact H) | (have H2_ := (Option.bind_some _ _).symm.trans H; rw [hy250]; with_reducible exact H2_) | (have H2_ := (Option.bind_some _ _).symm.trans H; with_reducible exact H2_) | with_reducible exact H | (rw [hy250]; exact H) | exact H
    have Ny250 := Aside0.mk hy250
    clear hy250
    have H' := Aside0.mk H
    clear H
    go_wp2_with (first | ((with_reducible refine gate_dst (N := 42) rfl ?_); refine Kd.S_lit (Kd.slice 2 (Kd.int .i64)) _ 23 ?hg (N := 42) ?hd (xs := ([] : List (List Int))) (inner := []) (ok := fun _ => True) (okp := fun _ => True) ?hr ?hp (fun _ hk => hk) trivial (Below.refl _ _) (Nat.le_refl _) (by simp) ?_; (case hd => rfl); (case hg => rfl); (case hr => first | (go_simp; done) | (go_simp; rfl)); (case hp => exact (Reps.none _ _)); intro v248 w23 ho24 hb hg_ hnew_; clear hg_ hnew_; (first | rw [← Ny247.out] at ho24 | (simp only [Int.reduceToNat] at ho24; rw [← Ny247.out] at ho24)); have n0_ := Aside0.mk (rb_ HO_8.out hb); have n1_ := Aside0.mk (Kd.S_lower (Kd.S_new' ho24 (Kd.R_lt (ro_ HO_8.out))) bz_); have n2_ := Aside0.mk (bb_ BK241.out hb); have n3_ := Aside0.mk (bb_ BK242.out hb); have n4_ := Aside0.mk (bs_ hb); clear HO_8; clear BK241; clear BK242; clear HB; have HO_8 := n0_; have HO249 := n1_; have BK241 := n2_; have BK242 := n3_; have HB := n4_; clear n0_ n1_ n2_ n3_ n4_; clear hb ho24) | ((with_reducible refine gate_dst (N := 43) rfl ?_); refine Kd.R_lit (Kd.int .i64) _ 2 ?hg (N := 43) ?hd (xs := ([] : List Int)) (inner := []) (ok := fun _ => True) (okp := fun _ => True) ?hr ?hp (fun _ hk => hk) trivial (Below.refl _ _) (Nat.le_refl _) (by simp) ?_; (case hd => rfl); (case hg => rfl); (case hr => first | (go_simp; done) | (go_simp; rfl)); (case hp => exact (Reps.none _ _)); intro v251 w25 ho26 hb hg_ hnew_; clear hg_ hnew_; (first | rw [← Ny250.out] at ho26 | (simp only [Int.reduceToNat] at ho26; rw [← Ny250.out] at ho26)); have n0_ := Aside0.mk (Kd.R_elder' (ro_ HO_8.out) (Kd.R_base ho26) hb); have n1_ := Aside0.mk (Kd.S_elder' (so_ HO249.out) (Kd.R_base ho26) hb); have n2_ := Aside0.mk (Kd.R_lower (Kd.R_new' ho26 (Kd.R_lt (ro_ HO_8.out))) bz_); have n3_ := Aside0.mk (bb_ BK241.out hb); have n4_ := Aside0.mk (bb_ BK242.out hb); have n5_ := Aside0.mk (bs_ hb); clear HO_8; clear HO249; clear BK241; clear BK242; clear HB; have HO_8 := n0_; have HO249 := n1_; have HO252 := n2_; have BK241 := n3_; have BK242 := n4_; have HB := n5_; clear n0_ n1_ n2_ n3_ n4_ n5_; clear hb ho26; obtain ⟨Ao27, co27, eo27⟩ := Kd.R_slice HO252.out; subst eo27; obtain ⟨Ao28, co28, eo28⟩ := Kd.S_slice HO249.out; subst eo28) | ((with_reducible refine gate_dst (N := 11) rfl ?_); refine box_event ?hg (N := 11) ?hd (cs := #[.int .i64 0, .slice none 0 0, .slice none 0 0]) (t := 75) ?hr ?_; (case hd => rfl); (case hg => rfl); (case hr => first | (go_simp; done) | (go_simp; rfl)); intro gb253 hg w29 hbox hb; have n0_ := Aside0.mk (rb_ HO_8.out hb); have n1_ := Aside0.mk (Kd.S_below (so_ HO249.out) hb); have n2_ := Aside0.mk (rb_ HO252.out hb); have n3_ := Aside0.mk (bb_ BK241.out hb); have n4_ := Aside0.mk (bb_ BK242.out hb); have n5_ := Aside0.mk (bs_ hb); have n6_ := Aside0.mk (hbox); have n7_ := Aside0.mk ((by rw [hg]; exact bz_ : w.heap.size ≤ gb253)); have n8_ := Aside0.mk ((by rw [hg]; exact bz_ : w.heap.size ≤ gb253)); have n9_ := Aside0.mk ((by rw [hg]; exact lt_ BK241.out : gb241 ≠ gb253)); have n10_ := Aside0.mk ((by rw [hg]; exact gt_ BK241.out : gb253 ≠ gb241)); have n11_ := Aside0.mk ((by rw [hg]; exact lt_ BK242.out : gb242 ≠ gb253)); have n12_ := Aside0.mk ((by rw [hg]; exact gt_ BK242.out : gb253 ≠ gb242)); clear HO_8; clear HO249; clear HO252; clear BK241; clear BK242; clear HB; have HO_8 := n0_; have HO249 := n1_; have HO252 := n2_; have BK241 := n3_; have BK242 := n4_; have HB := n5_; have BK253 := n6_; have GW253 := n7_; have GE253 := n8_; have NB241_253 := n9_; have NB253_241 := n10_; have NB242_253 := n11_; have NB253_242 := n12_; clear n0_ n1_ n2_ n3_ n4_ n5_ n6_ n7_ n8_ n9_ n10_ n11_ n12_; clear hb hbox hg; have hnb30 := NB253_241.out; have hnc30 := NB241_253.out; have hnb31 := NB253_242.out; have hnc31 := NB242_253.out; have hcz32_0 : w29.cell? ⟨gb253, 0, none⟩ = some (.int .i64 0) := (blk_cell BK253.out 0).trans rfl; have hcz32_1 : w29.cell? ⟨gb253, 1, none⟩ = some (.slice none 0 0) := (blk_cell BK253.out 1).trans rfl; have hcz32_2 : w29.cell? ⟨gb253, 2, none⟩ = some (.slice none 0 0) := (blk_cell BK253.out 2).trans rfl; have hfz32_0 := blk_frozen BK253.out 0; have hfz32_1 := blk_frozen BK253.out 1; have hfz32_2 := blk_frozen BK253.out 2))
    go_loopg [12] kj13 (fun kq v12 w' => ∃ (x12_2 : Int) (x254001_2 : List (List Int)) (x254002_2 : List Int) (u254001 : Value) (u254002 : Value), v12 = .int .i64 x12_2 ∧ Aside0 (spec_l04Pivot.l0 kq a1 (l0_1.length : Int) l9 t243 x10_13 x12_2 l0_0 l0_1 (wrap64 (x10_13 * t244)) x254001_2 x254002_2 = some (r1, r2, r3, r4)) ∧ Aside0 (kq ≤ kj13) ∧ Aside0 (Kd.R (Kd.int .i64) 2 w' w.heap.size (fun k_ => some k_ ≠ (u254002 : Value).ownBlock) v245 t243) ∧ Aside0 (Kd.S (Kd.slice 2 (Kd.int .i64)) 23 w' w.heap.size (fun k_ => some k_ ≠ (v245 : Value).ownBlock ∧ some k_ ≠ (u254002 : Value).ownBlock) u254001 x254001_2) ∧ Aside0 (Kd.R (Kd.int .i64) 2 w' w.heap.size (fun k_ => some k_ ≠ (v245 : Value).ownBlock) u254002 x254002_2) ∧ Aside0 (w'.heap[gb241]? = some (.cells #[(.slice A0_0 l0_0.length c0_0), (.slice A0_1 l0_1.length c0_1)] 29 (0, 0))) ∧ Aside0 (w'.heap[gb242]? = some (.cells #[.int .i64 0, (.slice none 0 0), (.slice none 0 0)] 75 (0, 0))) ∧ Aside0 (w'.heap[gb253]? = some (.cells #[.int .i64 (wrap64 (x10_13 * t244)), u254001, u254002] 75 (0, 0))) ∧ Aside0 (Below w.heap.size w w'))
    case atStart => exact ⟨(0), (y247), (y250), (.slice Ao28 y247.length co28), (.slice Ao27 y250.length co27), (by first | rfl | (simp; done) | (simp [*]; done)), H', ⟨Nat.le_refl _⟩, ⟨by (with_reducible repeat (first | apply Kd.R_alloc | apply Kd.R_drewN | apply Kd.R_drew)); exact Kd.R_mono (Kd.R_far (p := ⟨gb253, 2, none⟩) (Kd.R_far (p := ⟨gb253, 1, none⟩) (Kd.R_far (p := ⟨gb253, 0, none⟩) (Kd.R_types HO_8.out BK253.out (by decide)) (fun _ hk => hk.2) (.int .i64 (wrap64 (x10_13 * t244)))) (fun _ hk => hk.2) (.slice Ao28 y247.length co28)) (fun _ hk => hk.2) (.slice Ao27 y250.length co27)) (fun _ hk => hk.1.2)⟩, ⟨by (with_reducible repeat (first | apply Kd.S_alloc | apply Kd.S_drewN | apply Kd.S_drew)); exact Kd.S_mono (Kd.S_far (p := ⟨gb253, 2, none⟩) (Kd.S_far (p := ⟨gb253, 1, none⟩) (Kd.S_far (p := ⟨gb253, 0, none⟩) (Kd.S_types HO249.out BK253.out (by decide)) (fun _ hk => hk.2) (.int .i64 (wrap64 (x10_13 * t244)))) (fun _ hk => hk.2) (.slice Ao28 y247.length co28)) (fun _ hk => hk.2) (.slice Ao27 y250.length co27)) (fun _ hk => ⟨hk.1.1.2, hk.1.2⟩)⟩, ⟨by (with_reducible repeat (first | apply Kd.R_alloc | apply Kd.R_drewN | apply Kd.R_drew)); exact Kd.R_mono (Kd.R_far (p := ⟨gb253, 2, none⟩) (Kd.R_far (p := ⟨gb253, 1, none⟩) (Kd.R_far (p := ⟨gb253, 0, none⟩) (Kd.R_types HO252.out BK253.out (by decide)) (fun _ hk => hk.2) (.int .i64 (wrap64 (x10_13 * t244)))) (fun _ hk => hk.2) (.slice Ao28 y247.length co28)) (fun _ hk => hk.2) (.slice Ao27 y250.length co27)) (fun _ hk => hk.1.2)⟩, ⟨by (with_reducible repeat (first | refine blk_drewN ?_ _ | refine blk_drew ?_ | refine blk_alloc ?_ _)); refine blk_far ?_ NB241_253.out _; (with_reducible repeat (first | refine blk_drewN ?_ _ | refine blk_drew ?_ | refine blk_alloc ?_ _)); refine blk_far ?_ NB241_253.out _; (with_reducible repeat (first | refine blk_drewN ?_ _ | refine blk_drew ?_ | refine blk_alloc ?_ _)); refine blk_far ?_ NB241_253.out _; (with_reducible repeat (first | refine blk_drewN ?_ _ | refine blk_drew ?_ | refine blk_alloc ?_ _)); exact BK241.out⟩, ⟨by (with_reducible repeat (first | refine blk_drewN ?_ _ | refine blk_drew ?_ | refine blk_alloc ?_ _)); refine blk_far ?_ NB242_253.out _; (with_reducible repeat (first | refine blk_drewN ?_ _ | refine blk_drew ?_ | refine blk_alloc ?_ _)); refine blk_far ?_ NB242_253.out _; (with_reducible repeat (first | refine blk_drewN ?_ _ | refine blk_drew ?_ | refine blk_alloc ?_ _)); refine blk_far ?_ NB242_253.out _; (with_reducible repeat (first | refine blk_drewN ?_ _ | refine blk_drew ?_ | refine blk_alloc ?_ _)); exact BK242.out⟩, ⟨by (with_reducible repeat (first | refine blk_drewN ?_ _ | refine blk_drew ?_ | refine blk_alloc ?_ _)); refine blk_put (cs := #[.int .i64 (wrap64 (x10_13 * t244)), .slice Ao28 y247.length co28, .slice none 0 0]) ?_ 2 _ rfl; (with_reducible repeat (first | refine blk_drewN ?_ _ | refine blk_drew ?_ | refine blk_alloc ?_ _)); refine blk_put (cs := #[.int .i64 (wrap64 (x10_13 * t244)), .slice none 0 0, .slice none 0 0]) ?_ 1 _ rfl; (with_reducible repeat (first | refine blk_drewN ?_ _ | refine blk_drew ?_ | refine blk_alloc ?_ _)); refine blk_put (cs := #[.int .i64 0, .slice none 0 0, .slice none 0 0]) ?_ 0 _ rfl; (with_reducible repeat (first | refine blk_drewN ?_ _ | refine blk_drew ?_ | refine blk_alloc ?_ _)); exact BK253.out⟩, ⟨hb_⟩⟩
    case round =>
     clear H'
     try clear c1
     try clear c2
     try clear p2
     try clear c3
     try clear c5
     try clear c5b0
     try clear c5b1
     try clear p6
     try clear c7
     try clear c9
     try clear c10
     try clear c19
     try clear c22
     try clear c22b0
     try clear c30
     try clear c31
     try clear hcz11_0
     try clear hcz11_1
     try clear hcz13_0
     try clear hcz13_1
     try clear hcz13_2
     try clear hcz20_0
     try clear hcz20_1
     try clear hcz32_0
     try clear hcz32_1
     try clear hcz32_2
     try clear hfz11_0
     try clear hfz11_1
     try clear hfz13_0
     try clear hfz13_1
     try clear hfz13_2
     try clear hfz20_0
     try clear hfz20_1
     try clear hfz32_0
     try clear hfz32_1
     try clear hfz32_2
     try clear p2
     obtain ⟨x12_2, x254001_2, x254002_2, u254001, u254002, rfl, HA, HK2, HO_8, HO_254001, HO_254002, BK241, BK242, BK253, HB⟩ := hrel
     cases gk with
     | zero => exact absurd HA.out (by simp [spec_l04Pivot.l0])
     | succ k2 =>
      have H := HA.out
      clear HA
      simp only [spec_l04Pivot.l0] at H
      by_cases c33 : x12_2 < (l0_1.length : Int)
      ·rw [if_pos c33] at H
       have c33b0 : decide (x12_2 < (l0_1.length : Int)) = true := decide_eq_true c33
       clear c33
       by_cases c34 : 0 ≤ (l0_1.length : Int)
       ·rw [if_pos c34] at H
        have c34b0 := eq_true c34
        have c34b1 : decide (0 ≤ (l0_1.length : Int)) = true := decide_eq_true c34
        clear c34
        by_cases c35 : ((l0_1.length : Int) : Int).toNat ≤ 35184372088832
        ·rw [if_pos c35] at H
         have c35b0 := eq_true c35
         have c35b1 : decide (((l0_1.length : Int) : Int).toNat ≤ 35184372088832) = true := decide_eq_true c35
         clear c35
         obtain ⟨y254, hy254⟩ : ∃ y_ : List Int, y_ = (List.replicate ((l0_1.length : Int) : Int).toNat 0) := ⟨_, rfl⟩
         replace H : (if x254001_2.length < 5864062014805 then (if 0 ≤ x12_2 then (if x12_2 < (t243.length : Int) then (if x254002_2.length < 17592186044416 then (spec_l04Pivot.l0 k2 a1 (l0_1.length : Int) l9 t243 x10_13 (wrap64 (x12_2 + 1)) l0_0 l0_1 (wrap64 (x10_13 * t244)) (x254001_2 ++ [y254]) (x254002_2 ++ [wrap64 (x10_13 * (rd t243 x12_2))])) else (none)) else (none)) else (none)) else (none)) = some (r1, r2, r3, r4) := by first | (rw [hy254]; with_reducible exact H) | (have H2_ := (Option.bind_some _ _).symm.trans H; rw [hy254]; with_reducible exact H2_) | (have H2_ := (Option.bind_some _ _).symm.trans H; with_reducible exact H2_) | with_reducible exact H | (rw [hy254]; exact H) | exact H
         have Ny254 := Aside0.mk hy254
         clear hy254
         by_cases c36 : x254001_2.length < 5864062014805
         ·rw [if_pos c36] at H
          have LMc36 := Aside0.mk c36
          clear c36
          obtain ⟨y257, hy257⟩ : ∃ y_ : List (List Int), y_ = (x254001_2 ++ [y254]) := ⟨_, rfl⟩
          replace H : (if 0 ≤ x12_2 then (if x12_2 < (t243.length : Int) then (if x254002_2.length < 17592186044416 then (spec_l04Pivot.l0 k2 a1 (l0_1.length : Int) l9 t243 x10_13 (wrap64 (x12_2 + 1)) l0_0 l0_1 (wrap64 (x10_13 * t244)) y257 (x254002_2 ++ [wrap64 (x10_13 * (rd t243 x12_2))])) else (none)) else (none)) else (none)) = some (r1, r2, r3, r4) := by first | (rw [hy257]; with_reducible exact H) | (have H2_ := (Option.bind_some _ _).symm.trans H; rw [hy257]; with_reducible exact H2_) | (have H2_ := (Option.bind_some _ _).symm.trans H; with_reducible exact H2_) | with_reducible exact H | (rw [hy257]; exact H) | exact H
          have Ny257 := Aside0.mk hy257
          clear hy257
          by_cases c37 : 0 ≤ x12_2
          ·rw [if_pos c37] at H
           have c37b0 : decide (0 ≤ x12_2) = true := decide_eq_true c37
           clear c37
           by_cases c38 : x12_2 < (t243.length : Int)
           ·rw [if_pos c38] at H
            have c38b0 : decide (x12_2 < (t243.length : Int)) = true := decide_eq_true c38
            clear c38
            by_cases c39 : x254002_2.length < 17592186044416
            ·rw [if_pos c39] at H
             have LMc39 := Aside0.mk c39
             clear c39
             obtain ⟨y261, hy261⟩ : ∃ y_ : List Int, y_ = (x254002_2 ++ [wrap64 (x10_13 * (rd t243 x12_2))]) := ⟨_, rfl⟩
             replace H : (spec_l04Pivot.l0 k2 a1 (l0_1.length : Int) l9 t243 x10_13 (wrap64 (x12_2 + 1)) l0_0 l0_1 (wrap64 (x10_13 * t244)) y257 y261) = some (r1, r2, r3, r4) := by first | (rw [hy261]; with_reducible exact H) | (have H2_ := (Option.bind_some _ _).symm.trans H; rw [hy261]; with_reducible exact H2_) | (have H2_ := (Option.bind_some _ _).symm.trans H; with_reducible exact H2_) | with_reducible exact H | (rw [hy261]; exact H) | exact H
             have Ny261 := Aside0.mk hy261
             clear hy261
             have H' := Aside0.mk H
             clear H
             try go_wp2
             have n0_ := Aside0.mk (Kd.R_drew HO_8.out)
             have n1_ := Aside0.mk (Kd.S_drew HO_254001.out)
             have n2_ := Aside0.mk (Kd.R_drew HO_254002.out)
             have n3_ := Aside0.mk (blk_drew BK241.out)
             have n4_ := Aside0.mk (blk_drew BK242.out)
             have n5_ := Aside0.mk (blk_drew BK253.out)
             have n6_ := Aside0.mk (below_drew1 HB.out)
             clear HO_8
             clear HO_254001
             clear HO_254002
             clear BK241
             clear BK242
             clear BK253
             clear HB
             have HO_8 := n0_
             have HO_254001 := n1_
             have HO_254002 := n2_
             have BK241 := n3_
             have BK242 := n4_
             have BK253 := n5_
             have HB := n6_
             clear n0_ n1_ n2_ n3_ n4_ n5_ n6_
             refine st_ (n := 8) (S := fun w' => w'.cell? ⟨gb253, 0, none⟩ = some (.int .i64 (wrap64 (x10_13 * t244))) ∧ w'.cell? ⟨gb253, 1, none⟩ = some (u254001) ∧ w'.cell? ⟨gb253, 2, none⟩ = some (u254002)) (ds := [7]) ⟨(blk_cell BK253.out 0).trans rfl, (blk_cell BK253.out 1).trans rfl, (blk_cell BK253.out 2).trans rfl⟩ (fun hHeld => ?_); refine with_tabW spec_l04Pivot.tab12 spec_l04Pivot.bits12 (fun HT_ HW_ => ?_)
             generalize wr.drew = w40 at HO_8 HO_254001 HO_254002 BK241 BK242 BK253 HB hHeld ⊢
             refine pu_ 0 50 ?_; refine pu_ 2 52 ?_; refine tk_ 1 51 ?_
             refine on_ 3 (some 53) (fun K hK => ?_)
             refine Kd.R_make_step (Kd.int .i64) _ 2 (by rfl) (N := 53) rfl 23 _ _ rfl (l0_1.length : Int) rfl rfl Try.underlying23 (.int .i64 0) 8 info2 rfl (by decide) (by omega) 0 (ok := fun _ => True) (okp := fun _ => True) rfl (fun _ hk => hk) trivial (of_decide_eq_true (by first | (with_reducible assumption) | assumption)) (Nat.le_trans (Nat.mul_le_mul_right _ (of_decide_eq_true (by first | (with_reducible assumption) | assumption) : (l0_1.length : Int).toNat ≤ 35184372088832)) (by omega)) (Below.refl _ _) (Nat.le_refl _) ?_
             intro v255 w41 ho42 hb hg_ hnew_
             clear hg_ hnew_
             (first | rw [← Ny254.out] at ho42 | (simp only [Int.reduceToNat] at ho42; rw [← Ny254.out] at ho42))
             have n0_ := Aside0.mk (Kd.R_elder' (ro_ HO_8.out) (Kd.R_base ho42) hb)
             have n1_ := Aside0.mk (Kd.S_elder' (so_ HO_254001.out) (Kd.R_base ho42) hb)
             have n2_ := Aside0.mk (Kd.R_elder' (ro_ HO_254002.out) (Kd.R_base ho42) hb)
             have n3_ := Aside0.mk (Kd.R_lower (Kd.R_new' (Kd.R_new' ho42 (Kd.R_lt (ro_ HO_8.out))) (Kd.R_lt (ro_ HO_254002.out))) bz_)
             have n4_ := Aside0.mk (bb_ BK241.out hb)
             have n5_ := Aside0.mk (bb_ BK242.out hb)
             have n6_ := Aside0.mk (bb_ BK253.out hb)
             have n7_ := Aside0.mk (bs_ hb)
             clear HO_8
             clear HO_254001
             clear HO_254002
             clear BK241
             clear BK242
             clear BK253
             clear HB
             have HO_8 := n0_
             have HO_254001 := n1_
             have HO_254002 := n2_
             have HO256 := n3_
             have BK241 := n4_
             have BK242 := n5_
             have BK253 := n6_
             have HB := n7_
             clear n0_ n1_ n2_ n3_ n4_ n5_ n6_ n7_
             clear hb ho42
             obtain ⟨Ao44, co44, eo44⟩ := Kd.R_slice HO256.out
             (first | subst eo44 | (injection eo44 with f1_ f2_ f3_; have f4_ := f1_.symm; have f5_ := f3_.symm; clear f1_ f2_ f3_; subst f4_; subst f5_))
             refine hK.out _ _ ⟨(blk_cell BK253.out 0).trans rfl, (blk_cell BK253.out 1).trans rfl, (blk_cell BK253.out 2).trans rfl⟩ (fun hHeld => ?_)
             clear hK K
             refine norm_ (a' := ?_) ?_ ?_
             rotate_left
             ·show Act.put _ (some 53) _ = _
              simp only [Act.put, List.setIfInBounds_toArray, List.set_cons_zero, List.set_cons_succ, i64_w, i32_w]
              rfl
             refine on_ 4 (some 54) (fun K hK => ?_)
             refine value_ (w1 := ?_) (v := ?_) (by rfl) rfl ?_ ?_
             rotate_left 2
             ·go_simp
              constructor
              ·rfl
              ·rfl
             refine hK.out _ _ ⟨(blk_cell (blk_alloc BK253.out _) 0).trans rfl, (blk_cell (blk_alloc BK253.out _) 1).trans rfl, (blk_cell (blk_alloc BK253.out _) 2).trans rfl⟩ (fun hHeld => ?_)
             clear hK K
             refine norm_ (a' := ?_) ?_ ?_
             rotate_left
             ·show Act.put _ (some 54) _ = _
              simp only [Act.put, List.setIfInBounds_toArray, List.set_cons_zero, List.set_cons_succ, i64_w, i32_w]
              rfl
             refine on_ 5 (some 55) (fun K hK => ?_)
             refine Kd.S_append_step (Kd.slice 2 (Kd.int .i64)) (w0 := w) w.heap.size (by rfl) (.tmp 51) (.tmp 54) 22 23 (.slice none 0 0) 24 rfl Try.underlying22 info23 rfl (by decide) (by omega) u254001 x254001_2 y254 [.slice Ao44 y254.length co44] (fun k_ => some k_ ≠ (v245 : Value).ownBlock ∧ some k_ ≠ (u254002 : Value).ownBlock) (fun k_ => some k_ = (.slice Ao44 y254.length co44 : Value).ownBlock) rfl rfl ?aP (fun k_ hk_ => ((Kd.R_mono (ok' := fun k_ => ((fun k_ => some k_ ≠ (v245 : Value).ownBlock ∧ some k_ ≠ (u254002 : Value).ownBlock)) k_ ∧ some k_ ≠ (u254001 : Value).ownBlock) (Kd.R_apart' (HO256.out) (Kd.S_typed HO_254001.out) (by decide)) (fun k_ hk => ⟨⟨hk.1.1.2, hk.1.2⟩, hk.2⟩))).1 k_ hk_.symm) ?aF ?aO ?aB ?aS ?aL ?_
             (case aP => exact Kd.M_row (Kd.R_mono (Kd.R_tight rfl (Kd.R_mono (ok' := fun k_ => ((fun k_ => some k_ ≠ (v245 : Value).ownBlock ∧ some k_ ≠ (u254002 : Value).ownBlock)) k_ ∧ some k_ ≠ (u254001 : Value).ownBlock) (Kd.R_apart' (HO256.out) (Kd.S_typed HO_254001.out) (by decide)) (fun k_ hk => ⟨⟨hk.1.1.2, hk.1.2⟩, hk.2⟩))) (fun _ h_ => h_)))
             (case aB => exact hb_)
             (case aF => exact (fun k_ hk => ⟨Kd.fresh' (Kd.R_lt (ro_ HO_8.out)) k_ hk, Kd.fresh' (Kd.R_lt (ro_ HO_254002.out)) k_ hk⟩))
             (case aO => exact (by (with_reducible repeat (first | apply Kd.S_alloc | apply Kd.S_drewN | apply Kd.S_drew)); exact Kd.S_mono HO_254001.out (fun k_ hk => ⟨⟨hk.1.1, hk.1.2⟩, fun e_ => hk.2 e_⟩)))
             (case aS => exact bz_)
             (case aL => have := LMc36.out; omega)
             intro v258 w43 ho hb hg hat
             rw [← Ny257.out] at ho
             have n0_ := Aside0.mk (Kd.R_over' (ro_ HO_8.out) (Kd.S_typed (so_ HO_254001.out)) (by decide) hg)
             have n1_ := Aside0.mk (Kd.R_over' (ro_ HO_254002.out) (Kd.S_typed (so_ HO_254001.out)) (by decide) hg)
             have n2_ := Aside0.mk (bg_ BK241.out hg (Kd.S_ne HO_254001.out BK241.out (by decide)))
             have n3_ := Aside0.mk (bg_ BK242.out hg (Kd.S_ne HO_254001.out BK242.out (by decide)))
             have n4_ := Aside0.mk (bg_ BK253.out hg (Kd.S_ne HO_254001.out BK253.out (by decide)))
             have n5_ := Aside0.mk (hb)
             have n6_ := Aside0.mk (ho)
             clear HO_8
             clear HO_254002
             clear BK241
             clear BK242
             clear BK253
             clear HB
             clear HO_254001
             clear HO256
             have HO_8 := n0_
             have HO_254002 := n1_
             have BK241 := n2_
             have BK242 := n3_
             have BK253 := n4_
             have HB := n5_
             have HO259 := n6_
             clear n0_ n1_ n2_ n3_ n4_ n5_ n6_
             clear ho hb hg hat
             obtain ⟨Ao45, co45, eo45⟩ := Kd.S_slice HO259.out
             (first | subst eo45 | (injection eo45 with f1_ f2_ f3_; have f4_ := f1_.symm; have f5_ := f3_.symm; clear f1_ f2_ f3_; subst f4_; subst f5_))
             refine hK.out _ _ ⟨(blk_cell BK253.out 0).trans rfl, (blk_cell BK253.out 1).trans rfl, (blk_cell BK253.out 2).trans rfl⟩ (fun hHeld => ?_)
             clear hK K
             refine norm_ (a' := ?_) ?_ ?_
             rotate_left
             ·show Act.put _ (some 55) _ = _
              simp only [Act.put, List.setIfInBounds_toArray, List.set_cons_zero, List.set_cons_succ, i64_w, i32_w]
              rfl
             refine pu_ 6 56 ?_
             refine la_ 7 none (fun K hK => ?_)
             have hs46 : w43.cell? ⟨gb253, 1, none⟩ = some (u254001) := (blk_cell BK253.out 1).trans rfl
             have hfs46 := blk_frozen BK253.out 1
             have hns46_0 := NB241_253.out
             have hns46_1 := NB242_253.out
             have hms46_0 := NB253_241.out
             have hms46_1 := NB253_242.out
             refine skip_ (w1 := ?_) (by rfl) rfl ?_ ?_
             rotate_left
             ·go_simp
              rfl
             refine hK.out _ _ ?_
             clear hK K
             refine done_ (done_of HT_.out (by kernel_rfl)) ?_
             try go_wp2
             have n0_ : Aside0 (Kd.R (Kd.int .i64) 2 (w43.setCell ⟨gb253, 1, none⟩ (.slice Ao45 y257.length co45)) w.heap.size (fun k_ => some k_ ≠ (u254002 : Value).ownBlock) v245 t243) := ⟨by (with_reducible repeat (first | apply Kd.R_alloc | apply Kd.R_drewN | apply Kd.R_drew)); exact Kd.R_mono (Kd.R_far (p := ⟨gb253, 1, none⟩) (Kd.R_types HO_8.out BK253.out (by decide)) (fun _ hk => hk.2) (.slice Ao45 y257.length co45)) (fun _ hk => hk.1.1)⟩
             have n1_ : Aside0 (Kd.R (Kd.int .i64) 2 (w43.setCell ⟨gb253, 1, none⟩ (.slice Ao45 y257.length co45)) w.heap.size (fun k_ => some k_ ≠ (v245 : Value).ownBlock) u254002 x254002_2) := ⟨by (with_reducible repeat (first | apply Kd.R_alloc | apply Kd.R_drewN | apply Kd.R_drew)); exact Kd.R_mono (Kd.R_far (p := ⟨gb253, 1, none⟩) (Kd.R_types HO_254002.out BK253.out (by decide)) (fun _ hk => hk.2) (.slice Ao45 y257.length co45)) (fun _ hk => hk.1.1)⟩
             have n2_ : Aside0 (Kd.S (Kd.slice 2 (Kd.int .i64)) 23 (w43.setCell ⟨gb253, 1, none⟩ (.slice Ao45 y257.length co45)) w.heap.size (fun k_ => some k_ ≠ (v245 : Value).ownBlock ∧ some k_ ≠ (u254002 : Value).ownBlock) (.slice Ao45 y257.length co45) y257) := ⟨by (with_reducible repeat (first | apply Kd.S_alloc | apply Kd.S_drewN | apply Kd.S_drew)); exact Kd.S_mono (Kd.S_far (p := ⟨gb253, 1, none⟩) (Kd.S_types HO259.out BK253.out (by decide)) (fun _ hk => hk.2) (.slice Ao45 y257.length co45)) (fun _ hk => ⟨hk.1.1, hk.1.2⟩)⟩
             have n3_ : Aside0 ((w43.setCell ⟨gb253, 1, none⟩ (.slice Ao45 y257.length co45)).heap[gb241]? = some (.cells #[.slice A0_0 l0_0.length c0_0, .slice A0_1 l0_1.length c0_1] 29 (0, 0))) := ⟨by (with_reducible repeat (first | refine blk_drewN ?_ _ | refine blk_drew ?_ | refine blk_alloc ?_ _)); refine blk_far ?_ NB241_253.out _; (with_reducible repeat (first | refine blk_drewN ?_ _ | refine blk_drew ?_ | refine blk_alloc ?_ _)); exact BK241.out⟩
             have n4_ : Aside0 ((w43.setCell ⟨gb253, 1, none⟩ (.slice Ao45 y257.length co45)).heap[gb242]? = some (.cells #[.int .i64 0, .slice none 0 0, .slice none 0 0] 75 (0, 0))) := ⟨by (with_reducible repeat (first | refine blk_drewN ?_ _ | refine blk_drew ?_ | refine blk_alloc ?_ _)); refine blk_far ?_ NB242_253.out _; (with_reducible repeat (first | refine blk_drewN ?_ _ | refine blk_drew ?_ | refine blk_alloc ?_ _)); exact BK242.out⟩
             have n5_ : Aside0 ((w43.setCell ⟨gb253, 1, none⟩ (.slice Ao45 y257.length co45)).heap[gb253]? = some (.cells #[.int .i64 (wrap64 (x10_13 * t244)), .slice Ao45 y257.length co45, u254002] 75 (0, 0))) := ⟨by (with_reducible repeat (first | refine blk_drewN ?_ _ | refine blk_drew ?_ | refine blk_alloc ?_ _)); refine blk_put (cs := #[.int .i64 (wrap64 (x10_13 * t244)), u254001, u254002]) ?_ 1 _ rfl; (with_reducible repeat (first | refine blk_drewN ?_ _ | refine blk_drew ?_ | refine blk_alloc ?_ _)); exact BK253.out⟩
             have n6_ : Aside0 (Below w.heap.size w (w43.setCell ⟨gb253, 1, none⟩ (.slice Ao45 y257.length co45))) := ⟨hb_⟩
             (try clear HO_8)
             (try clear HO_254002)
             (try clear HO259)
             (try clear BK241)
             (try clear BK242)
             (try clear BK253)
             (try clear HB)
             generalize (w43.setCell ⟨gb253, 1, none⟩ (.slice Ao45 y257.length co45)) = w47 at n0_ n1_ n2_ n3_ n4_ n5_ n6_ ⊢
             have HO_8 := n0_
             have HO_254002 := n1_
             have HO259 := n2_
             have BK241 := n3_
             have BK242 := n4_
             have BK253 := n5_
             have HB := n6_
             clear n0_ n1_ n2_ n3_ n4_ n5_ n6_
             have n0_ := Aside0.mk (Kd.R_drew HO_8.out)
             have n1_ := Aside0.mk (Kd.R_drew HO_254002.out)
             have n2_ := Aside0.mk (Kd.S_drew HO259.out)
             have n3_ := Aside0.mk (blk_drew BK241.out)
             have n4_ := Aside0.mk (blk_drew BK242.out)
             have n5_ := Aside0.mk (blk_drew BK253.out)
             have n6_ := Aside0.mk (below_drew1 HB.out)
             clear HO_8
             clear HO_254002
             clear HO259
             clear BK241
             clear BK242
             clear BK253
             clear HB
             have HO_8 := n0_
             have HO_254002 := n1_
             have HO259 := n2_
             have BK241 := n3_
             have BK242 := n4_
             have BK253 := n5_
             have HB := n6_
             clear n0_ n1_ n2_ n3_ n4_ n5_ n6_
             obtain ⟨Ao49, co49, eo49⟩ := Kd.R_slice HO_8.out
             (first | subst eo49 | (injection eo49 with f1_ f2_ f3_; have f4_ := f1_.symm; have f5_ := f3_.symm; clear f1_ f2_ f3_; subst f4_; subst f5_))
             have p260 : 0 ≤ (x12_2 : Int) := of_decide_eq_true (by first | (with_reducible assumption) | assumption)
             have q260 : x12_2 < (t243.length : Int) := of_decide_eq_true (by first | (with_reducible assumption) | assumption)
             obtain ⟨ad260, e260, hx260_0⟩ := Kd.at_int (Kd.R_reads' HO_8.out).2.2 x12_2 p260 q260
             cases e260
             replace p260 := eq_true p260
             replace q260 := eq_true q260
             refine st_ (n := 12) (S := fun w' => w'.cell? ⟨gb253, 0, none⟩ = some (.int .i64 (wrap64 (x10_13 * t244))) ∧ w'.cell? ⟨gb253, 1, none⟩ = some (.slice Ao45 y257.length co45) ∧ w'.cell? ⟨gb253, 2, none⟩ = some (u254002) ∧ w'.cell? (ad260.add (x12_2).toNat) = some (.int .i64 (rd t243 x12_2))) (ds := [9, 11]) ⟨(blk_cell BK253.out 0).trans rfl, (blk_cell BK253.out 1).trans rfl, (blk_cell BK253.out 2).trans rfl, hx260_0⟩ (fun hHeld => ?_); refine with_tabW spec_l04Pivot.tab13 spec_l04Pivot.bits13 (fun HT_ HW_ => ?_)
             generalize w47.drew = w48 at HO_8 HO_254002 HO259 BK241 BK242 BK253 HB hx260_0 hHeld ⊢
             refine pu_ 0 57 ?_; refine pu_ 2 59 ?_; refine pu_ 3 60 ?_; refine pu_ 4 61 ?_; refine pu_ 5 62 ?_; refine tk_ 1 58 ?_; refine tk_ 6 63 ?_; refine pu_ 7 64 ?_
             refine on_ 8 (some 65) (fun K hK => ?_)
             refine value_ (w1 := ?_) (v := ?_) (by rfl) rfl ?_ ?_
             rotate_left 2
             ·go_simp
              constructor
              ·rfl
              ·rfl
             refine hK.out _ _ ⟨(blk_cell (blk_alloc BK253.out _) 0).trans rfl, (blk_cell (blk_alloc BK253.out _) 1).trans rfl, (blk_cell (blk_alloc BK253.out _) 2).trans rfl, (World.cell?_alloc_lt _ _ _ (World.block_lt_of_cell? _ _ (hHeld.2.2.2))).trans (hHeld.2.2.2)⟩ (fun hHeld => ?_)
             clear hK K
             refine norm_ (a' := ?_) ?_ ?_
             rotate_left
             ·show Act.put _ (some 65) _ = _
              simp only [Act.put, List.setIfInBounds_toArray, List.set_cons_zero, List.set_cons_succ, i64_w, i32_w]
              rfl
             refine la_ 9 (some 66) (fun K hK => ?_)
             refine Kd.R_append_step (Kd.int .i64) (w0 := w) w.heap.size (by rfl) (.tmp 58) (.tmp 65) 23 2 (.int .i64 0) 8 rfl Try.underlying23 info2 rfl (by decide) (by omega) u254002 x254002_2 (wrap64 (x10_13 * (rd t243 x12_2))) [.int .i64 (wrap64 (x10_13 * (rd t243 x12_2)))] (fun k_ => some k_ ≠ (.slice (some ad260) t243.length co49 : Value).ownBlock) (fun _ => False) rfl rfl ?aP (fun _ hk => hk.elim) ?aF ?aO ?aB ?aS ?aL ?_
             (case aP => exact rfl)
             (case aB => exact hb_)
             (case aF => exact (fun k_ hk => Kd.fresh' (Kd.R_lt (ro_ HO_8.out)) k_ hk))
             (case aO => exact (ro_ HO_254002.out))
             (case aS => exact bz_)
             (case aL => have := LMc39.out; omega)
             intro v262 w50 ho hb hg hat
             rw [← Ny261.out] at ho
             have n0_ := Aside0.mk (Kd.R_after (ok := (fun _ => True)) (by (with_reducible repeat (first | apply Kd.R_alloc | apply Kd.R_drewN | apply Kd.R_drew)); exact Kd.R_mono HO_8.out (fun _ hk => ⟨trivial, hk⟩)) hg hat)
             have n1_ := Aside0.mk (bg_ BK241.out hg (Kd.R_ne HO_254002.out BK241.out (by decide)))
             have n2_ := Aside0.mk (bg_ BK242.out hg (Kd.R_ne HO_254002.out BK242.out (by decide)))
             have n3_ := Aside0.mk (bg_ BK253.out hg (Kd.R_ne HO_254002.out BK253.out (by decide)))
             have n4_ := Aside0.mk (Kd.S_after (ok := (fun k_ => some k_ ≠ (.slice (some ad260) t243.length co49 : Value).ownBlock)) (so_ HO259.out) hg hat)
             have n5_ := Aside0.mk (hb)
             have n6_ := Aside0.mk (ho)
             clear HO_8
             clear BK241
             clear BK242
             clear BK253
             clear HO259
             clear HB
             clear HO_254002
             have HO_8 := n0_
             have BK241 := n1_
             have BK242 := n2_
             have BK253 := n3_
             have HO259 := n4_
             have HB := n5_
             have HO263 := n6_
             clear n0_ n1_ n2_ n3_ n4_ n5_ n6_
             clear ho hb hg hat
             obtain ⟨Ao51, co51, eo51⟩ := Kd.R_slice HO263.out
             (first | subst eo51 | (injection eo51 with f1_ f2_ f3_; have f4_ := f1_.symm; have f5_ := f3_.symm; clear f1_ f2_ f3_; subst f4_; subst f5_))
             refine hK.out _ _ ?_
             clear hK K
             refine norm_ (a' := ?_) ?_ ?_
             rotate_left
             ·show Act.put _ (some 66) _ = _
              simp only [Act.put, List.setIfInBounds_toArray, List.set_cons_zero, List.set_cons_succ, i64_w, i32_w]
              rfl
             refine pu_ 10 67 ?_
             refine la_ 11 none (fun K hK => ?_)
             have hs52 : w50.cell? ⟨gb253, 2, none⟩ = some (u254002) := (blk_cell BK253.out 2).trans rfl
             have hfs52 := blk_frozen BK253.out 2
             have hns52_0 := NB241_253.out
             have hns52_1 := NB242_253.out
             have hms52_0 := NB253_241.out
             have hms52_1 := NB253_242.out
             refine skip_ (w1 := ?_) (by rfl) rfl ?_ ?_
             rotate_left
             ·go_simp
              rfl
             refine hK.out _ _ ?_
             clear hK K
             refine done_ (done_of HT_.out (by kernel_rfl)) ?_
             try go_wp2
             go_roundg k2
             case measure => have := HJ13.out; have := HK2.out; omega
             case rel => exact ⟨(wrap64 (x12_2 + 1)), (y257), (y261), (.slice Ao45 y257.length co45), (.slice Ao51 y261.length co51), (by first | rfl | (simp; done) | (simp [*]; done)), H', ⟨by have := HJ13.out; have := HK2.out; omega⟩, ⟨by (with_reducible repeat (first | apply Kd.R_alloc | apply Kd.R_drewN | apply Kd.R_drew)); exact Kd.R_mono (Kd.R_far (p := ⟨gb253, 2, none⟩) (Kd.R_types HO_8.out BK253.out (by decide)) (fun _ hk => hk.2) (.slice Ao51 y261.length co51)) (fun _ hk => hk.1.2)⟩, ⟨by (with_reducible repeat (first | apply Kd.S_alloc | apply Kd.S_drewN | apply Kd.S_drew)); exact Kd.S_mono (Kd.S_far (p := ⟨gb253, 2, none⟩) (Kd.S_types HO259.out BK253.out (by decide)) (fun _ hk => hk.2) (.slice Ao51 y261.length co51)) (fun _ hk => ⟨hk.1.1, hk.1.2⟩)⟩, ⟨by (with_reducible repeat (first | apply Kd.R_alloc | apply Kd.R_drewN | apply Kd.R_drew)); exact Kd.R_mono (Kd.R_far (p := ⟨gb253, 2, none⟩) (Kd.R_types HO263.out BK253.out (by decide)) (fun _ hk => hk.2) (.slice Ao51 y261.length co51)) (fun _ hk => hk.1)⟩, ⟨by (with_reducible repeat (first | refine blk_drewN ?_ _ | refine blk_drew ?_ | refine blk_alloc ?_ _)); refine blk_far ?_ NB241_253.out _; (with_reducible repeat (first | refine blk_drewN ?_ _ | refine blk_drew ?_ | refine blk_alloc ?_ _)); exact BK241.out⟩, ⟨by (with_reducible repeat (first | refine blk_drewN ?_ _ | refine blk_drew ?_ | refine blk_alloc ?_ _)); refine blk_far ?_ NB242_253.out _; (with_reducible repeat (first | refine blk_drewN ?_ _ | refine blk_drew ?_ | refine blk_alloc ?_ _)); exact BK242.out⟩, ⟨by (with_reducible repeat (first | refine blk_drewN ?_ _ | refine blk_drew ?_ | refine blk_alloc ?_ _)); refine blk_put (cs := #[.int .i64 (wrap64 (x10_13 * t244)), .slice Ao45 y257.length co45, u254002]) ?_ 2 _ rfl; (with_reducible repeat (first | refine blk_drewN ?_ _ | refine blk_drew ?_ | refine blk_alloc ?_ _)); exact BK253.out⟩, ⟨hb_⟩⟩
            ·rw [if_neg c39] at H
             exact absurd H (by simp)
           ·rw [if_neg c38] at H
            exact absurd H (by simp)
          ·rw [if_neg c37] at H
           exact absurd H (by simp)
         ·rw [if_neg c36] at H
          exact absurd H (by simp)
        ·rw [if_neg c35] at H
         exact absurd H (by simp)
       ·rw [if_neg c34] at H
        exact absurd H (by simp)
      ·rw [if_neg c33] at H
       have c33b0 : decide (x12_2 < (l0_1.length : Int)) = false := decide_eq_false c33
       clear c33
       have H' := Aside0.mk H
       clear H
       go_wp2
       go_loopg [13] k2 (fun kq v13 w' => ∃ (x13_3 : Int) (x254001_3 : List (List Int)) (x254002_3 : List Int) (u254001 : Value) (u254002 : Value), v13 = .int .i64 x13_3 ∧ Aside0 (spec_l04Pivot.l1 kq a1 (l0_1.length : Int) l9 x10_13 x13_3 l0_0 l0_1 (wrap64 (x10_13 * t244)) x254001_3 x254002_3 = some (r1, r2, r3, r4)) ∧ Aside0 (kq ≤ k2) ∧ Aside0 (Kd.S (Kd.slice 2 (Kd.int .i64)) 23 w' w.heap.size (fun k_ => some k_ ≠ (u254002 : Value).ownBlock) u254001 x254001_3) ∧ Aside0 (Kd.R (Kd.int .i64) 2 w' w.heap.size (fun _ => True) u254002 x254002_3) ∧ Aside0 (w'.heap[gb241]? = some (.cells #[(.slice A0_0 l0_0.length c0_0), (.slice A0_1 l0_1.length c0_1)] 29 (0, 0))) ∧ Aside0 (w'.heap[gb242]? = some (.cells #[.int .i64 0, (.slice none 0 0), (.slice none 0 0)] 75 (0, 0))) ∧ Aside0 (w'.heap[gb253]? = some (.cells #[.int .i64 (wrap64 (x10_13 * t244)), u254001, u254002] 75 (0, 0))) ∧ Aside0 (Below w.heap.size w w'))
       case atStart => exact ⟨(0), (x254001_2), (x254002_2), (u254001), (u254002), (by first | rfl | (simp; done) | (simp [*]; done)), H', ⟨Nat.le_refl _⟩, ⟨by (with_reducible repeat (first | apply Kd.S_alloc | apply Kd.S_drewN | apply Kd.S_drew)); exact Kd.S_mono HO_254001.out (fun _ hk => hk.2)⟩, ⟨by (with_reducible repeat (first | apply Kd.R_alloc | apply Kd.R_drewN | apply Kd.R_drew)); exact Kd.R_mono HO_254002.out (fun _ hk => trivial)⟩, ⟨bk_⟩, ⟨bk_⟩, ⟨bk_⟩, ⟨hb_⟩⟩
       case round =>
        clear H'
        try clear c1
        try clear c2
        try clear p2
        try clear q2
        try clear hx2
        try clear c3
        try clear c5
        try clear c5b0
        try clear c5b1
        try clear p6
        try clear c7
        try clear c9
        try clear c10
        try clear c19
        try clear c22
        try clear c22b0
        try clear p26
        try clear q26
        try clear hx26
        try clear c30
        try clear c31
        try clear c33
        try clear c33b0
        try clear c34
        try clear c34b0
        try clear c34b1
        try clear c35
        try clear c35b0
        try clear c35b1
        try clear c36
        try clear c37
        try clear c37b0
        try clear c38
        try clear c38b0
        try clear c39
        try clear hcz11_0
        try clear hcz11_1
        try clear hcz13_0
        try clear hcz13_1
        try clear hcz13_2
        try clear hcz20_0
        try clear hcz20_1
        try clear hcz32_0
        try clear hcz32_1
        try clear hcz32_2
        try clear hfz11_0
        try clear hfz11_1
        try clear hfz13_0
        try clear hfz13_1
        try clear hfz13_2
        try clear hfz20_0
        try clear hfz20_1
        try clear hfz32_0
        try clear hfz32_1
        try clear hfz32_2
        try clear hx260_0
        try clear p2
        try clear p260
        try clear p6
        try clear q260
        obtain ⟨x13_3, x254001_3, x254002_3, u254001, u254002, rfl, HA, HK3, HO_254001, HO_254002, BK241, BK242, BK253, HB⟩ := hrel
        cases gk with
        | zero => exact absurd HA.out (by simp [spec_l04Pivot.l1])
        | succ k3 =>
         have H := HA.out
         clear HA
         simp only [spec_l04Pivot.l1] at H
         by_cases c53 : x13_3 < (l0_1.length : Int)
         ·rw [if_pos c53] at H
          have c53b0 : decide (x13_3 < (l0_1.length : Int)) = true := decide_eq_true c53
          clear c53
          by_cases c54 : 0 ≤ (l0_1.length : Int)
          ·rw [if_pos c54] at H
           have c54b0 := eq_true c54
           have c54b1 : decide (0 ≤ (l0_1.length : Int)) = true := decide_eq_true c54
           clear c54
           by_cases c55 : ((l0_1.length : Int) : Int).toNat ≤ 35184372088832
           ·rw [if_pos c55] at H
            have c55b0 := eq_true c55
            have c55b1 : decide (((l0_1.length : Int) : Int).toNat ≤ 35184372088832) = true := decide_eq_true c55
            clear c55
            obtain ⟨y264, hy264⟩ : ∃ y_ : List Int, y_ = (List.replicate ((l0_1.length : Int) : Int).toNat 0) := ⟨_, rfl⟩
            replace H : (spec_l04Pivot.l2 k3 a1 (l0_1.length : Int) l9 x10_13 x13_3 y264 0 l0_0 l0_1 (wrap64 (x10_13 * t244)) x254001_3 x254002_3) = some (r1, r2, r3, r4) := by first | (rw [hy264]; with_reducible exact H) | (have H2_ := (Option.bind_some _ _).symm.trans H; rw [hy264]; with_reducible exact H2_) | (have H2_ := (Option.bind_some _ _).symm.trans H; with_reducible exact H2_) | with_reducible exact H | (rw [hy264]; exact H) | exact H
            have Ny264 := Aside0.mk hy264
            clear hy264
            have H' := Aside0.mk H
            clear H
            go_wp2_with (first | ((with_reducible refine gate_dst (N := 74) rfl ?_); refine Kd.R_make (Kd.int .i64) _ 2 rfl (N := 74) rfl 23 _ _ rfl (l0_1.length : Int) rfl rfl Try.underlying23 (.int .i64 0) 8 info2 rfl (by decide) (by omega) 0 (ok := fun _ => True) (okp := fun _ => True) rfl (fun _ hk => hk) trivial (of_decide_eq_true (by first | (with_reducible assumption) | assumption)) (Nat.le_trans (Nat.mul_le_mul_right _ (of_decide_eq_true (by first | (with_reducible assumption) | assumption) : (l0_1.length : Int).toNat ≤ 35184372088832)) (by omega)) (Below.refl _ _) (Nat.le_refl _) ?_; intro v265 w56 ho57 hb hg_ hnew_; clear hg_ hnew_; (first | rw [← Ny264.out] at ho57 | (simp only [Int.reduceToNat] at ho57; rw [← Ny264.out] at ho57)); have n0_ := Aside0.mk (Kd.S_elder' (so_ HO_254001.out) (Kd.R_base ho57) hb); have n1_ := Aside0.mk (Kd.R_elder' (ro_ HO_254002.out) (Kd.R_base ho57) hb); have n2_ := Aside0.mk (Kd.R_lower (Kd.R_new' ho57 (Kd.R_lt (ro_ HO_254002.out))) bz_); have n3_ := Aside0.mk (bb_ BK241.out hb); have n4_ := Aside0.mk (bb_ BK242.out hb); have n5_ := Aside0.mk (bb_ BK253.out hb); have n6_ := Aside0.mk (bs_ hb); clear HO_254001; clear HO_254002; clear BK241; clear BK242; clear BK253; clear HB; have HO_254001 := n0_; have HO_254002 := n1_; have HO266 := n2_; have BK241 := n3_; have BK242 := n4_; have BK253 := n5_; have HB := n6_; clear n0_ n1_ n2_ n3_ n4_ n5_ n6_; clear hb ho57))
            go_loopg [15] k3 (fun kq v15 w' => ∃ (x14_4 : List Int) (x15_4 : Int), v15 = .int .i64 x15_4 ∧ Aside0 (spec_l04Pivot.l2 kq a1 (l0_1.length : Int) l9 x10_13 x13_3 x14_4 x15_4 l0_0 l0_1 (wrap64 (x10_13 * t244)) x254001_3 x254002_3 = some (r1, r2, r3, r4)) ∧ Aside0 (kq ≤ k3) ∧ Aside0 (Kd.R (Kd.int .i64) 2 w' w.heap.size (fun k_ => some k_ ≠ (u254002 : Value).ownBlock) v265 x14_4) ∧ Aside0 (Kd.S (Kd.slice 2 (Kd.int .i64)) 23 w' w.heap.size (fun k_ => some k_ ≠ (v265 : Value).ownBlock ∧ some k_ ≠ (u254002 : Value).ownBlock) u254001 x254001_3) ∧ Aside0 (Kd.R (Kd.int .i64) 2 w' w.heap.size (fun k_ => some k_ ≠ (v265 : Value).ownBlock) u254002 x254002_3) ∧ Aside0 (w'.heap[gb241]? = some (.cells #[(.slice A0_0 l0_0.length c0_0), (.slice A0_1 l0_1.length c0_1)] 29 (0, 0))) ∧ Aside0 (w'.heap[gb242]? = some (.cells #[.int .i64 0, (.slice none 0 0), (.slice none 0 0)] 75 (0, 0))) ∧ Aside0 (w'.heap[gb253]? = some (.cells #[.int .i64 (wrap64 (x10_13 * t244)), u254001, u254002] 75 (0, 0))) ∧ Aside0 (Below w.heap.size w w'))
            case atStart => exact ⟨(y264), (0), (by first | rfl | (simp; done) | (simp [*]; done)), H', ⟨Nat.le_refl _⟩, ⟨by (with_reducible repeat (first | apply Kd.R_alloc | apply Kd.R_drewN | apply Kd.R_drew)); exact Kd.R_mono HO266.out (fun _ hk => hk.2)⟩, ⟨by (with_reducible repeat (first | apply Kd.S_alloc | apply Kd.S_drewN | apply Kd.S_drew)); exact Kd.S_mono HO_254001.out (fun _ hk => ⟨hk.2, hk.1⟩)⟩, ⟨by (with_reducible repeat (first | apply Kd.R_alloc | apply Kd.R_drewN | apply Kd.R_drew)); exact Kd.R_mono HO_254002.out (fun _ hk => hk.2)⟩, ⟨bk_⟩, ⟨bk_⟩, ⟨bk_⟩, ⟨hb_⟩⟩
            case round =>
             clear H'
             try clear c1
             try clear c2
             try clear p2
             try clear q2
             try clear hx2
             try clear c3
             try clear c5
             try clear c5b0
             try clear c5b1
             try clear p6
             try clear c7
             try clear c9
             try clear c10
             try clear c19
             try clear c22
             try clear c22b0
             try clear p26
             try clear q26
             try clear hx26
             try clear c30
             try clear c31
             try clear c33
             try clear c33b0
             try clear c34
             try clear c34b0
             try clear c34b1
             try clear c35
             try clear c35b0
             try clear c35b1
             try clear c36
             try clear c37
             try clear c37b0
             try clear c38
             try clear c38b0
             try clear c39
             try clear c53
             try clear c53b0
             try clear c54
             try clear c54b0
             try clear c54b1
             try clear c55
             try clear c55b0
             try clear c55b1
             try clear hcz11_0
             try clear hcz11_1
             try clear hcz13_0
             try clear hcz13_1
             try clear hcz13_2
             try clear hcz20_0
             try clear hcz20_1
             try clear hcz32_0
             try clear hcz32_1
             try clear hcz32_2
             try clear hfz11_0
             try clear hfz11_1
             try clear hfz13_0
             try clear hfz13_1
             try clear hfz13_2
             try clear hfz20_0
             try clear hfz20_1
             try clear hfz32_0
             try clear hfz32_1
             try clear hfz32_2
             try clear hx260_0
             try clear p2
             try clear p26
             try clear p260
             try clear p6
             try clear q2
             try clear q26
             try clear q260
             obtain ⟨x14_4, x15_4, rfl, HA, HK4, HO_14, HO_254001, HO_254002, BK241, BK242, BK253, HB⟩ := hrel
             cases gk with
             | zero => exact absurd HA.out (by simp [spec_l04Pivot.l2])
             | succ k4 =>
              have H := HA.out
              clear HA
              simp only [spec_l04Pivot.l2] at H
              by_cases c58 : x15_4 < (l0_1.length : Int)
              ·rw [if_pos c58] at H
               have c58b0 : decide (x15_4 < (l0_1.length : Int)) = true := decide_eq_true c58
               clear c58
               obtain ⟨ji59, hji59⟩ : ∃ j_ : Int, (IntKind.u64.wrap (x13_3)) = j_ := ⟨_, rfl⟩
               replace H : (if 0 ≤ (ji59) then (if (Go.bits .and .i64 (shr .i64 a1 (ji59)) 1) = 0 then (if 0 ≤ x15_4 then (if x15_4 < (l0_0.length : Int) then (if 0 ≤ x13_3 then (if x13_3 < ((rd_L1 l0_0 x15_4).length : Int) then (if x15_4 < (x14_4.length : Int) then (spec_l04Pivot.l2 k4 a1 (l0_1.length : Int) l9 x10_13 x13_3 (x14_4.set (x15_4 : Int).toNat (rd (rd_L1 l0_0 x15_4) x13_3)) (wrap64 (x15_4 + 1)) l0_0 l0_1 (wrap64 (x10_13 * t244)) x254001_3 x254002_3) else (none)) else (none)) else (none)) else (none)) else (none)) else (spec_l04Pivot.l2 k4 a1 (l0_1.length : Int) l9 x10_13 x13_3 x14_4 (wrap64 (x15_4 + 1)) l0_0 l0_1 (wrap64 (x10_13 * t244)) x254001_3 x254002_3)) else (none)) = some (r1, r2, r3, r4) := by first | (rw [hji59] at H; exact H) | (simp only [hji59] at H ⊢; exact H)
               by_cases c60 : 0 ≤ (ji59)
               ·rw [if_pos c60] at H
                have c60b0 := eq_true c60
                have c60b1 : decide (0 ≤ (ji59)) = true := decide_eq_true c60
                clear c60
                obtain ⟨ji61, hji61⟩ : ∃ j_ : Int, (shr .i64 a1 (ji59)) = j_ := ⟨_, rfl⟩
                replace H : (if (Go.bits .and .i64 (ji61) 1) = 0 then (if 0 ≤ x15_4 then (if x15_4 < (l0_0.length : Int) then (if 0 ≤ x13_3 then (if x13_3 < ((rd_L1 l0_0 x15_4).length : Int) then (if x15_4 < (x14_4.length : Int) then (spec_l04Pivot.l2 k4 a1 (l0_1.length : Int) l9 x10_13 x13_3 (x14_4.set (x15_4 : Int).toNat (rd (rd_L1 l0_0 x15_4) x13_3)) (wrap64 (x15_4 + 1)) l0_0 l0_1 (wrap64 (x10_13 * t244)) x254001_3 x254002_3) else (none)) else (none)) else (none)) else (none)) else (none)) else (spec_l04Pivot.l2 k4 a1 (l0_1.length : Int) l9 x10_13 x13_3 x14_4 (wrap64 (x15_4 + 1)) l0_0 l0_1 (wrap64 (x10_13 * t244)) x254001_3 x254002_3)) = some (r1, r2, r3, r4) := by first | (rw [hji61] at H; exact H) | (simp only [hji61] at H ⊢; exact H)
                have hji61_ : (a1 / 2 ^ min (ji59).toNat 64) = ji61 := hji61
                have hji61z : (ji59) ≤ 64 → (a1 / 2 ^ (ji59).toNat) = ji61 := shr_small hji61
                by_cases c62 : (Go.bits .and .i64 (ji61) 1) = 0
                ·rw [if_pos c62] at H
                 have c62b0 : ((Go.bits .and .i64 (ji61) 1) == 0) = true := beq_iff_eq.mpr c62
                 have c62b1 : ((Go.bits .and .i64 (ji61) 1) != 0) = false := bne_eq_false_iff_eq.mpr c62
                 clear c62
                 by_cases c63 : 0 ≤ x15_4
                 ·rw [if_pos c63] at H
                  have c63b0 : decide (0 ≤ x15_4) = true := decide_eq_true c63
                  clear c63
                  by_cases c64 : x15_4 < (l0_0.length : Int)
                  ·rw [if_pos c64] at H
                   have c64b0 : decide (x15_4 < (l0_0.length : Int)) = true := decide_eq_true c64
                   clear c64
                   by_cases c65 : 0 ≤ x13_3
                   ·rw [if_pos c65] at H
                    have c65b0 : decide (0 ≤ x13_3) = true := decide_eq_true c65
                    clear c65
                    by_cases c66 : x13_3 < ((rd_L1 l0_0 x15_4).length : Int)
                    ·rw [if_pos c66] at H
                     have c66b0 : decide (x13_3 < ((rd_L1 l0_0 x15_4).length : Int)) = true := decide_eq_true c66
                     clear c66
                     by_cases c67 : x15_4 < (x14_4.length : Int)
                     ·rw [if_pos c67] at H
                      have c67b0 : decide (x15_4 < (x14_4.length : Int)) = true := decide_eq_true c67
                      clear c67
                      obtain ⟨y269, hy269⟩ : ∃ y_ : List Int, y_ = (x14_4.set (x15_4 : Int).toNat (rd (rd_L1 l0_0 x15_4) x13_3)) := ⟨_, rfl⟩
                      replace H : (spec_l04Pivot.l2 k4 a1 (l0_1.length : Int) l9 x10_13 x13_3 y269 (wrap64 (x15_4 + 1)) l0_0 l0_1 (wrap64 (x10_13 * t244)) x254001_3 x254002_3) = some (r1, r2, r3, r4) := by first | (rw [hy269]; with_reducible exact H) | (have H2_ := (Option.bind_some _ _).symm.trans H; rw [hy269]; with_reducible exact H2_) | (have H2_ := (Option.bind_some _ _).symm.trans H; with_reducible exact H2_) | with_reducible exact H | (rw [hy269]; exact H) | exact H
                      have Ny269 := Aside0.mk hy269
                      clear hy269
                      have H' := Aside0.mk H
                      clear H
                      have hnb69 := NB241_242.out
                      have hnc69 := NB242_241.out
                      have hnb70 := NB241_253.out
                      have hnc70 := NB253_241.out
                      have hcz71_0 : wr.cell? ⟨gb241, 0, none⟩ = some (.slice A0_0 l0_0.length c0_0) := (blk_cell BK241.out 0).trans rfl
                      have hcz71_1 : wr.cell? ⟨gb241, 1, none⟩ = some (.slice A0_1 l0_1.length c0_1) := (blk_cell BK241.out 1).trans rfl
                      have hfz71_0 := blk_frozen BK241.out 0
                      have hfz71_1 := blk_frozen BK241.out 1
                      have p267 : 0 ≤ (x15_4 : Int) := of_decide_eq_true (by first | (with_reducible assumption) | assumption)
                      have q267 : x15_4 < (l0_0.length : Int) := of_decide_eq_true (by first | (with_reducible assumption) | assumption)
                      obtain ⟨ad267, A267_0, c267_0, e267, hx267_0, hl267_0, hi267_0⟩ := at_L1 HR0_0.out x15_4 p267 q267
                      cases e267
                      replace hx267_0 := (HB.out.cell (World.block_lt_of_cell? w _ hx267_0)).trans hx267_0
                      have HR267_0 := Aside0.mk hi267_0
                      have HC267_0 := Aside0.mk hl267_0
                      clear hi267_0 hl267_0
                      replace p267 := eq_true p267
                      replace q267 := eq_true q267
                      have p268 : 0 ≤ (x13_3 : Int) := of_decide_eq_true (by first | (with_reducible assumption) | assumption)
                      have q268 : x13_3 < ((rd_L1 l0_0 x15_4).length : Int) := of_decide_eq_true (by first | (with_reducible assumption) | assumption)
                      obtain ⟨ad268, e268, hx268_0⟩ := Kd.at_int HR267_0.out x13_3 p268 q268
                      cases e268
                      replace hx268_0 := (HB.out.cell (World.block_lt_of_cell? w _ hx268_0)).trans hx268_0
                      replace p268 := eq_true p268
                      replace q268 := eq_true q268
                      have p68 : 0 ≤ (x15_4 : Int) := of_decide_eq_true (by first | (with_reducible assumption) | assumption)
                      have q68 : (x15_4 : Int) < ((x14_4.length : Int) : Int) := of_decide_eq_true (by first | (with_reducible assumption) | assumption)
                      obtain ⟨go68, co68, eo68, gb68, gl68, cl68, HG68⟩ := Kd.R_form HO_14.out (by omega)
                      (first | cases eo68 | (injection eo68 with ea_ en_ ec_; (first | subst ea_ | (injection ea_ with ea_; subst ea_)); subst ec_; clear en_))
                      have GB68 := Aside0.mk gb68
                      have GG68 := Aside0.mk HG68
                      clear gb68 gl68 HG68
                      obtain ⟨hx68_0, hf68_0⟩ := Kd.R_celln 0 HO_14.out (x15_4 : Int) p68 q68
                      replace p68 := eq_true p68
                      replace q68 := eq_true q68
                      have HP72 := Kd.R_putg HO_14.out (x15_4 : Int) (rd (rd_L1 l0_0 x15_4) x13_3)
                      go_wp2_with (first | ((with_reducible refine gate_store (t := 2) (p := 96) rfl ?_); refine store_event (t := 2) (p := 96) (v := ?vo_w73) (w1 := (wr.setCell ⟨go68, (x15_4 : Int).toNat, none⟩ (.int .i64 (rd (rd_L1 l0_0 x15_4) x13_3)))) ?hg ?ho ?hn ?hr ?_; (case ho => rfl); (case hg => rfl); (case hn => rfl); (case hr => first | (go_simp; done) | (go_simp; rfl)); intro w73 hw; have hg : wr.grownBy w73 (some go68) := (by rw [hw]; exact HP72.2); have hp_ : Kd.R (Kd.int .i64) 2 w73 w.heap.size (fun k_ => some k_ ≠ (u254002 : Value).ownBlock) (.slice (some ⟨go68, 0, none⟩) x14_4.length co68) y269 := (by rw [hw, Ny269.out]; exact HP72.1); clear HP72; have n0_ := Aside0.mk (hp_); have n1_ := Aside0.mk (Kd.S_after (v := (.slice (some ⟨go68, 0, none⟩) x14_4.length co68)) (v1 := (.slice (some ⟨go68, 0, none⟩) x14_4.length co68)) (ok := (fun k_ => some k_ ≠ (u254002 : Value).ownBlock)) (by (with_reducible repeat (first | apply Kd.S_alloc | apply Kd.S_drewN | apply Kd.S_drew)); exact Kd.S_mono HO_254001.out (fun _ hk => ⟨hk.2, hk.1⟩)) hg (.inl rfl)); have n2_ := Aside0.mk (Kd.R_after (v := (.slice (some ⟨go68, 0, none⟩) x14_4.length co68)) (v1 := (.slice (some ⟨go68, 0, none⟩) x14_4.length co68)) (ok := (fun _ => True)) (by (with_reducible repeat (first | apply Kd.R_alloc | apply Kd.R_drewN | apply Kd.R_drew)); exact Kd.R_mono HO_254002.out (fun _ hk => ⟨trivial, hk⟩)) hg (.inl rfl)); have n3_ := Aside0.mk (bg_ BK241.out hg (Kd.R_ne HO_14.out BK241.out (by decide))); have n4_ := Aside0.mk (bg_ BK242.out hg (Kd.R_ne HO_14.out BK242.out (by decide))); have n5_ := Aside0.mk (bg_ BK253.out hg (Kd.R_ne HO_14.out BK253.out (by decide))); have n6_ := Aside0.mk ((by rw [hw]; exact below_set (HB.out) GB68.out : Below w.heap.size w w73)); clear HO_14; clear HO_254001; clear HO_254002; clear BK241; clear BK242; clear BK253; clear HB; have HO_14 := n0_; have HO_254001 := n1_; have HO_254002 := n2_; have BK241 := n3_; have BK242 := n4_; have BK253 := n5_; have HB := n6_; clear n0_ n1_ n2_ n3_ n4_ n5_ n6_; clear hg hw hp_))
                      go_roundg k4
                      case measure => have := HJ13.out; have := HK2.out; have := HK3.out; have := HK4.out; omega
                      case rel => exact ⟨(y269), (wrap64 (x15_4 + 1)), (by first | rfl | (simp; done) | (simp [*]; done)), H', ⟨by have := HJ13.out; have := HK2.out; have := HK3.out; have := HK4.out; omega⟩, ⟨ro_ HO_14.out⟩, ⟨by (with_reducible repeat (first | apply Kd.S_alloc | apply Kd.S_drewN | apply Kd.S_drew)); exact Kd.S_mono HO_254001.out (fun _ hk => ⟨hk.2, hk.1⟩)⟩, ⟨by (with_reducible repeat (first | apply Kd.R_alloc | apply Kd.R_drewN | apply Kd.R_drew)); exact Kd.R_mono HO_254002.out (fun _ hk => hk.2)⟩, ⟨bk_⟩, ⟨bk_⟩, ⟨bk_⟩, ⟨hb_⟩⟩
                     ·rw [if_neg c67] at H
                      exact absurd H (by simp)
                    ·rw [if_neg c66] at H
                     exact absurd H (by simp)
                   ·rw [if_neg c65] at H
                    exact absurd H (by simp)
                  ·rw [if_neg c64] at H
                   exact absurd H (by simp)
                 ·rw [if_neg c63] at H
                  exact absurd H (by simp)
                ·rw [if_neg c62] at H
                 have c62b0 : ((Go.bits .and .i64 (ji61) 1) == 0) = false := beq_eq_false_iff_ne.mpr c62
                 have c62b1 : ((Go.bits .and .i64 (ji61) 1) != 0) = true := bne_iff_ne.mpr c62
                 have H' := Aside0.mk H
                 clear H
                 go_wp2
                 go_roundg k4
                 case measure => have := HJ13.out; have := HK2.out; have := HK3.out; have := HK4.out; omega
                 case rel => exact ⟨(x14_4), (wrap64 (x15_4 + 1)), (by first | rfl | (simp; done) | (simp [*]; done)), H', ⟨by have := HJ13.out; have := HK2.out; have := HK3.out; have := HK4.out; omega⟩, ⟨ro_ HO_14.out⟩, ⟨so_ HO_254001.out⟩, ⟨ro_ HO_254002.out⟩, ⟨bk_⟩, ⟨bk_⟩, ⟨bk_⟩, ⟨hb_⟩⟩
               ·rw [if_neg c60] at H
                exact absurd H (by simp)
              ·rw [if_neg c58] at H
               have c58b0 : decide (x15_4 < (l0_1.length : Int)) = false := decide_eq_false c58
               clear c58
               try clear hji59
               try clear hji59_
               try clear hji59z
               try clear hji59u
               try clear hji59v
               try clear hji59y
               try clear hji59x
               try clear hji59w
               obtain ⟨ji74, hji74⟩ : ∃ j_ : Int, (IntKind.u64.wrap (x13_3)) = j_ := ⟨_, rfl⟩
               replace H : (if 0 ≤ (ji74) then (if (Go.bits .and .i64 (shr .i64 a1 (ji74)) 1) = 1 then (if 0 ≤ x13_3 then (if x13_3 < (x14_4.length : Int) then (spec_l04Pivot.j4 k4 a1 (l0_1.length : Int) l9 x10_13 x13_3 (x14_4.set (x13_3 : Int).toNat (-1)) l0_0 l0_1 (wrap64 (x10_13 * t244)) x254001_3 x254002_3) else (none)) else (none)) else (spec_l04Pivot.j4 k4 a1 (l0_1.length : Int) l9 x10_13 x13_3 x14_4 l0_0 l0_1 (wrap64 (x10_13 * t244)) x254001_3 x254002_3)) else (none)) = some (r1, r2, r3, r4) := by first | (rw [hji74] at H; exact H) | (simp only [hji74] at H ⊢; exact H)
               by_cases c75 : 0 ≤ (ji74)
               ·rw [if_pos c75] at H
                have c75b0 := eq_true c75
                have c75b1 : decide (0 ≤ (ji74)) = true := decide_eq_true c75
                clear c75
                obtain ⟨ji76, hji76⟩ : ∃ j_ : Int, (shr .i64 a1 (ji74)) = j_ := ⟨_, rfl⟩
                replace H : (if (Go.bits .and .i64 (ji76) 1) = 1 then (if 0 ≤ x13_3 then (if x13_3 < (x14_4.length : Int) then (spec_l04Pivot.j4 k4 a1 (l0_1.length : Int) l9 x10_13 x13_3 (x14_4.set (x13_3 : Int).toNat (-1)) l0_0 l0_1 (wrap64 (x10_13 * t244)) x254001_3 x254002_3) else (none)) else (none)) else (spec_l04Pivot.j4 k4 a1 (l0_1.length : Int) l9 x10_13 x13_3 x14_4 l0_0 l0_1 (wrap64 (x10_13 * t244)) x254001_3 x254002_3)) = some (r1, r2, r3, r4) := by first | (rw [hji76] at H; exact H) | (simp only [hji76] at H ⊢; exact H)
                have hji76_ : (a1 / 2 ^ min (ji74).toNat 64) = ji76 := hji76
                have hji76z : (ji74) ≤ 64 → (a1 / 2 ^ (ji74).toNat) = ji76 := shr_small hji76
                have HC77 := Aside0.mk H
                clear H
                go_upto_if 102 with (fail)
                go_cut [] (fun wc => ∃ (kq : Nat) (x14_76 : List Int), Aside0 (spec_l04Pivot.j4 kq a1 (l0_1.length : Int) l9 x10_13 x13_3 x14_76 l0_0 l0_1 (wrap64 (x10_13 * t244)) x254001_3 x254002_3 = some (r1, r2, r3, r4)) ∧ Aside0 (kq ≤ k4) ∧ Aside0 (Kd.R (Kd.int .i64) 2 wc w.heap.size (fun k_ => some k_ ≠ (u254002 : Value).ownBlock) v265 x14_76) ∧ Aside0 (Kd.S (Kd.slice 2 (Kd.int .i64)) 23 wc w.heap.size (fun k_ => some k_ ≠ (v265 : Value).ownBlock ∧ some k_ ≠ (u254002 : Value).ownBlock) u254001 x254001_3) ∧ Aside0 (Kd.R (Kd.int .i64) 2 wc w.heap.size (fun k_ => some k_ ≠ (v265 : Value).ownBlock) u254002 x254002_3) ∧ Aside0 (wc.heap[gb241]? = some (.cells #[(.slice A0_0 l0_0.length c0_0), (.slice A0_1 l0_1.length c0_1)] 29 (0, 0))) ∧ Aside0 (wc.heap[gb242]? = some (.cells #[.int .i64 0, (.slice none 0 0), (.slice none 0 0)] 75 (0, 0))) ∧ Aside0 (wc.heap[gb253]? = some (.cells #[.int .i64 (wrap64 (x10_13 * t244)), u254001, u254002] 75 (0, 0))) ∧ Aside0 (Below w.heap.size w wc))
                case first =>
                 have H := HC77.out
                 clear HC77
                 by_cases c78 : (Go.bits .and .i64 (ji76) 1) = 1
                 ·rw [if_pos c78] at H
                  have c78b0 : ((Go.bits .and .i64 (ji76) 1) == 1) = true := beq_iff_eq.mpr c78
                  have c78b1 : ((Go.bits .and .i64 (ji76) 1) != 1) = false := bne_eq_false_iff_eq.mpr c78
                  clear c78
                  (first | rw [c78b0] | (simp only [i64_w, i32_w]; rw [c78b0]) | skip)
                  by_cases c79 : 0 ≤ x13_3
                  ·rw [if_pos c79] at H
                   have c79b0 : decide (0 ≤ x13_3) = true := decide_eq_true c79
                   clear c79
                   by_cases c80 : x13_3 < (x14_4.length : Int)
                   ·rw [if_pos c80] at H
                    have c80b0 : decide (x13_3 < (x14_4.length : Int)) = true := decide_eq_true c80
                    clear c80
                    obtain ⟨y270, hy270⟩ : ∃ y_ : List Int, y_ = (x14_4.set (x13_3 : Int).toNat (-1)) := ⟨_, rfl⟩
                    replace H : (spec_l04Pivot.j4 k4 a1 (l0_1.length : Int) l9 x10_13 x13_3 y270 l0_0 l0_1 (wrap64 (x10_13 * t244)) x254001_3 x254002_3) = some (r1, r2, r3, r4) := by first | (rw [hy270]; with_reducible exact H) | (have H2_ := (Option.bind_some _ _).symm.trans H; rw [hy270]; with_reducible exact H2_) | (have H2_ := (Option.bind_some _ _).symm.trans H; with_reducible exact H2_) | with_reducible exact H | (rw [hy270]; exact H) | exact H
                    have Ny270 := Aside0.mk hy270
                    clear hy270
                    have H' := Aside0.mk H
                    clear H
                    have p81 : 0 ≤ (x13_3 : Int) := of_decide_eq_true (by first | (with_reducible assumption) | assumption)
                    have q81 : (x13_3 : Int) < ((x14_4.length : Int) : Int) := of_decide_eq_true (by first | (with_reducible assumption) | assumption)
                    obtain ⟨go81, co81, eo81, gb81, gl81, cl81, HG81⟩ := Kd.R_form HO_14.out (by omega)
                    (first | cases eo81 | (injection eo81 with ea_ en_ ec_; (first | subst ea_ | (injection ea_ with ea_; subst ea_)); subst ec_; clear en_))
                    have GB81 := Aside0.mk gb81
                    have GG81 := Aside0.mk HG81
                    clear gb81 gl81 HG81
                    obtain ⟨hx81_0, hf81_0⟩ := Kd.R_celln 0 HO_14.out (x13_3 : Int) p81 q81
                    replace p81 := eq_true p81
                    replace q81 := eq_true q81
                    have HP82 := Kd.R_putg HO_14.out (x13_3 : Int) (-1)
                    go_wp2_with (first | ((with_reducible refine gate_store (t := 2) (p := 105) rfl ?_); refine store_event (t := 2) (p := 105) (v := ?vo_w83) (w1 := (wr.setCell ⟨go81, (x13_3 : Int).toNat, none⟩ (.int .i64 (-1)))) ?hg ?ho ?hn ?hr ?_; (case ho => rfl); (case hg => rfl); (case hn => rfl); (case hr => first | (go_simp; done) | (go_simp; rfl)); intro w83 hw; have hg : wr.grownBy w83 (some go81) := (by rw [hw]; exact HP82.2); have hp_ : Kd.R (Kd.int .i64) 2 w83 w.heap.size (fun k_ => some k_ ≠ (u254002 : Value).ownBlock) (.slice (some ⟨go81, 0, none⟩) x14_4.length co81) y270 := (by rw [hw, Ny270.out]; exact HP82.1); clear HP82; have n0_ := Aside0.mk (hp_); have n1_ := Aside0.mk (Kd.S_after (v := (.slice (some ⟨go81, 0, none⟩) x14_4.length co81)) (v1 := (.slice (some ⟨go81, 0, none⟩) x14_4.length co81)) (ok := (fun k_ => some k_ ≠ (u254002 : Value).ownBlock)) (by (with_reducible repeat (first | apply Kd.S_alloc | apply Kd.S_drewN | apply Kd.S_drew)); exact Kd.S_mono HO_254001.out (fun _ hk => ⟨hk.2, hk.1⟩)) hg (.inl rfl)); have n2_ := Aside0.mk (Kd.R_after (v := (.slice (some ⟨go81, 0, none⟩) x14_4.length co81)) (v1 := (.slice (some ⟨go81, 0, none⟩) x14_4.length co81)) (ok := (fun _ => True)) (by (with_reducible repeat (first | apply Kd.R_alloc | apply Kd.R_drewN | apply Kd.R_drew)); exact Kd.R_mono HO_254002.out (fun _ hk => ⟨trivial, hk⟩)) hg (.inl rfl)); have n3_ := Aside0.mk (bg_ BK241.out hg (Kd.R_ne HO_14.out BK241.out (by decide))); have n4_ := Aside0.mk (bg_ BK242.out hg (Kd.R_ne HO_14.out BK242.out (by decide))); have n5_ := Aside0.mk (bg_ BK253.out hg (Kd.R_ne HO_14.out BK253.out (by decide))); have n6_ := Aside0.mk ((by rw [hw]; exact below_set (HB.out) GB81.out : Below w.heap.size w w83)); clear HO_14; clear HO_254001; clear HO_254002; clear BK241; clear BK242; clear BK253; clear HB; have HO_14 := n0_; have HO_254001 := n1_; have HO_254002 := n2_; have BK241 := n3_; have BK242 := n4_; have BK253 := n5_; have HB := n6_; clear n0_ n1_ n2_ n3_ n4_ n5_ n6_; clear hg hw hp_))
                    go_meet
                    case rel => exact ⟨_, (y270), H', ⟨by have := HJ13.out; have := HK2.out; have := HK3.out; have := HK4.out; first | omega | exact Nat.le_refl _⟩, ⟨ro_ HO_14.out⟩, ⟨by (with_reducible repeat (first | apply Kd.S_alloc | apply Kd.S_drewN | apply Kd.S_drew)); exact Kd.S_mono HO_254001.out (fun _ hk => ⟨hk.2, hk.1⟩)⟩, ⟨by (with_reducible repeat (first | apply Kd.R_alloc | apply Kd.R_drewN | apply Kd.R_drew)); exact Kd.R_mono HO_254002.out (fun _ hk => hk.2)⟩, ⟨bk_⟩, ⟨bk_⟩, ⟨bk_⟩, ⟨hb_⟩⟩
                   ·rw [if_neg c80] at H
                    exact absurd H (by simp)
                  ·rw [if_neg c79] at H
                   exact absurd H (by simp)
                 ·rw [if_neg c78] at H
                  have c78b0 : ((Go.bits .and .i64 (ji76) 1) == 1) = false := beq_eq_false_iff_ne.mpr c78
                  have c78b1 : ((Go.bits .and .i64 (ji76) 1) != 1) = true := bne_iff_ne.mpr c78
                  (first | rw [c78b0] | (simp only [i64_w, i32_w]; rw [c78b0]) | skip)
                  have H' := Aside0.mk H
                  clear H
                  go_wp2
                  go_meet
                  case rel => exact ⟨_, (x14_4), H', ⟨by have := HJ13.out; have := HK2.out; have := HK3.out; have := HK4.out; first | omega | exact Nat.le_refl _⟩, ⟨ro_ HO_14.out⟩, ⟨so_ HO_254001.out⟩, ⟨ro_ HO_254002.out⟩, ⟨bk_⟩, ⟨bk_⟩, ⟨bk_⟩, ⟨hb_⟩⟩
                case rest =>
                 clear HC77
                 try clear c1
                 try clear c2
                 try clear p2
                 try clear q2
                 try clear hx2
                 try clear c3
                 try clear c5
                 try clear c5b0
                 try clear c5b1
                 try clear c6
                 try clear p6
                 try clear q6
                 try clear hx6
                 try clear hf6
                 try clear c7
                 try clear c8
                 try clear p8
                 try clear q8
                 try clear hx8
                 try clear hf8
                 try clear c9
                 try clear c10
                 try clear c19
                 try clear c22
                 try clear c22b0
                 try clear c26
                 try clear p26
                 try clear q26
                 try clear hx26
                 try clear c30
                 try clear c31
                 try clear c33
                 try clear c33b0
                 try clear c34
                 try clear c34b0
                 try clear c34b1
                 try clear c35
                 try clear c35b0
                 try clear c35b1
                 try clear c36
                 try clear c37
                 try clear c37b0
                 try clear c38
                 try clear c38b0
                 try clear c39
                 try clear c53
                 try clear c53b0
                 try clear c54
                 try clear c54b0
                 try clear c54b1
                 try clear c55
                 try clear c55b0
                 try clear c55b1
                 try clear c58
                 try clear c58b0
                 try clear c60
                 try clear c60b0
                 try clear c60b1
                 try clear c62
                 try clear c62b0
                 try clear c62b1
                 try clear c63
                 try clear c63b0
                 try clear c64
                 try clear c64b0
                 try clear p64
                 try clear c65
                 try clear c65b0
                 try clear c66
                 try clear c66b0
                 try clear c67
                 try clear c67b0
                 try clear p68
                 try clear q68
                 try clear hx68
                 try clear hf68
                 try clear c69
                 try clear c70
                 try clear c75
                 try clear c75b0
                 try clear c75b1
                 try clear c78
                 try clear c78b0
                 try clear c78b1
                 try clear c79
                 try clear c79b0
                 try clear c80
                 try clear c80b0
                 try clear p81
                 try clear q81
                 try clear hx81
                 try clear hf81
                 try clear hcz11_0
                 try clear hcz11_1
                 try clear hcz13_0
                 try clear hcz13_1
                 try clear hcz13_2
                 try clear hcz20_0
                 try clear hcz20_1
                 try clear hcz32_0
                 try clear hcz32_1
                 try clear hcz32_2
                 try clear hcz71_0
                 try clear hcz71_1
                 try clear hfz11_0
                 try clear hfz11_1
                 try clear hfz13_0
                 try clear hfz13_1
                 try clear hfz13_2
                 try clear hfz20_0
                 try clear hfz20_1
                 try clear hfz32_0
                 try clear hfz32_1
                 try clear hfz32_2
                 try clear hfz71_0
                 try clear hfz71_1
                 try clear hx260_0
                 try clear hx267_0
                 try clear hx268_0
                 try clear hx68_0
                 try clear hx81_0
                 try clear p2
                 try clear p26
                 try clear p260
                 try clear p267
                 try clear p268
                 try clear p6
                 try clear p68
                 try clear p81
                 try clear q2
                 try clear q26
                 try clear q260
                 try clear q267
                 try clear q268
                 try clear q68
                 try clear q81
                 obtain ⟨kq, x14_76, HA, HJ76, HO_14, HO_254001, HO_254002, BK241, BK242, BK253, HB⟩ := hcut
                 cases kq with
                 | zero => exact absurd HA.out (by simp [spec_l04Pivot.j4])
                 | succ kj76 =>
                  have H := HA.out
                  clear HA
                  simp only [spec_l04Pivot.j4] at H
                  replace H := Option.bind_eq_some_iff.mp H
                  obtain ⟨⟨t271, t272⟩, A840, H⟩ := H
                  replace H : (spec_l04Pivot.l3 kj76 a1 (l0_1.length : Int) l9 x10_13 x13_3 t271 0 l0_0 l0_1 (wrap64 (x10_13 * t244)) x254001_3 x254002_3) = some (r1, r2, r3, r4) := H
                  have A84 := Aside0.mk A840
                  clear A840
                  have H' := Aside0.mk H
                  clear H
                  obtain ⟨Ao85, co85, eo85⟩ := Kd.R_slice HO_14.out
                  subst eo85
                  go_wp2_with (first | ((with_reducible refine gate_callee (f := 103) rfl ?_); refine goesL_ (some 109) rfl rfl Try.func103 (by kernel_rfl) rfl #[.slice A9 l9.length c9, .slice Ao85 x14_76.length co85] rfl (by (try simp only [List.map_toArray, List.map_cons, List.map_nil]); first | done | rfl | (simp only [List.length_drop, List.length_take]; rfl)) ?_; (with_reducible refine (spec_l01Solve.calls kj76 _ _ l9 _ _ x14_76 t271 t272 _ ?side1 ?side2 ?side3 ?side4 A84.out).mono ?_); (case side1 => exact cb_ HR9.out HB.out); (case side2 => exact HC9.out); (case side3 => repeat (first | exact (Kd.R_reads' HO_14.out).2.2 | (with_reducible refine Kd.C_alloc ?_ _) | (with_reducible refine Kd.C_drewN ?_ _) | (with_reducible refine Kd.C_drew ?_))); (case side4 => exact (Kd.R_reads' HO_14.out).2.1); rintro e w86 ⟨v273, rfl, ho0, hb⟩; refine ⟨_, rfl, ?_⟩; have n0_ := Aside0.mk (Kd.R_elder' (ro_ HO_14.out) (Kd.R_base ho0) hb); have n1_ := Aside0.mk (Kd.S_elder' (so_ HO_254001.out) (Kd.R_base ho0) hb); have n2_ := Aside0.mk (Kd.R_elder' (ro_ HO_254002.out) (Kd.R_base ho0) hb); have n3_ := Aside0.mk (Kd.R_lower (Kd.R_new' (Kd.R_new' ho0 (Kd.R_lt (ro_ HO_14.out))) (Kd.R_lt (ro_ HO_254002.out))) bz_); have n4_ := Aside0.mk (bb_ BK241.out hb); have n5_ := Aside0.mk (bb_ BK242.out hb); have n6_ := Aside0.mk (bb_ BK253.out hb); have n7_ := Aside0.mk (bs_ hb); clear HO_14; clear HO_254001; clear HO_254002; clear BK241; clear BK242; clear BK253; clear HB; have HO_14 := n0_; have HO_254001 := n1_; have HO_254002 := n2_; have HO274 := n3_; have BK241 := n4_; have BK242 := n5_; have BK253 := n6_; have HB := n7_; clear n0_ n1_ n2_ n3_ n4_ n5_ n6_ n7_; (try clear hb); (try clear hb2); (try clear hk); (try clear hi); (try clear ho0)))
                  go_loopg [18] kj76 (fun kq v18 w' => ∃ (x16_6 : List Int) (x18_6 : Int) (x254001_6 : List (List Int)) (x254002_6 : List Int) (u254001 : Value) (u254002 : Value), v18 = .int .i64 x18_6 ∧ Aside0 (spec_l04Pivot.l3 kq a1 (l0_1.length : Int) l9 x10_13 x13_3 x16_6 x18_6 l0_0 l0_1 (wrap64 (x10_13 * t244)) x254001_6 x254002_6 = some (r1, r2, r3, r4)) ∧ Aside0 (kq ≤ kj76) ∧ Aside0 (Kd.R (Kd.int .i64) 2 w' w.heap.size (fun k_ => some k_ ≠ (u254002 : Value).ownBlock) v273 x16_6) ∧ Aside0 (Kd.S (Kd.slice 2 (Kd.int .i64)) 23 w' w.heap.size (fun k_ => some k_ ≠ (v273 : Value).ownBlock ∧ some k_ ≠ (u254002 : Value).ownBlock) u254001 x254001_6) ∧ Aside0 (Kd.R (Kd.int .i64) 2 w' w.heap.size (fun k_ => some k_ ≠ (v273 : Value).ownBlock) u254002 x254002_6) ∧ Aside0 (w'.heap[gb241]? = some (.cells #[(.slice A0_0 l0_0.length c0_0), (.slice A0_1 l0_1.length c0_1)] 29 (0, 0))) ∧ Aside0 (w'.heap[gb242]? = some (.cells #[.int .i64 0, (.slice none 0 0), (.slice none 0 0)] 75 (0, 0))) ∧ Aside0 (w'.heap[gb253]? = some (.cells #[.int .i64 (wrap64 (x10_13 * t244)), u254001, u254002] 75 (0, 0))) ∧ Aside0 (Below w.heap.size w w'))
                  case atStart => exact ⟨(t271), (0), (x254001_3), (x254002_3), (u254001), (u254002), (by first | rfl | (simp; done) | (simp [*]; done)), H', ⟨Nat.le_refl _⟩, ⟨by (with_reducible repeat (first | apply Kd.R_alloc | apply Kd.R_drewN | apply Kd.R_drew)); exact Kd.R_mono HO274.out (fun _ hk => hk.2)⟩, ⟨by (with_reducible repeat (first | apply Kd.S_alloc | apply Kd.S_drewN | apply Kd.S_drew)); exact Kd.S_mono HO_254001.out (fun _ hk => ⟨hk.2, hk.1.2⟩)⟩, ⟨by (with_reducible repeat (first | apply Kd.R_alloc | apply Kd.R_drewN | apply Kd.R_drew)); exact Kd.R_mono HO_254002.out (fun _ hk => hk.2)⟩, ⟨bk_⟩, ⟨bk_⟩, ⟨bk_⟩, ⟨hb_⟩⟩
                  case round =>
                   clear H'
                   try clear c1
                   try clear c2
                   try clear p2
                   try clear q2
                   try clear hx2
                   try clear c3
                   try clear c5
                   try clear c5b0
                   try clear c5b1
                   try clear c6
                   try clear p6
                   try clear q6
                   try clear hx6
                   try clear hf6
                   try clear c7
                   try clear c8
                   try clear p8
                   try clear q8
                   try clear hx8
                   try clear hf8
                   try clear c9
                   try clear c10
                   try clear c19
                   try clear c22
                   try clear c22b0
                   try clear c26
                   try clear p26
                   try clear q26
                   try clear hx26
                   try clear c30
                   try clear c31
                   try clear c33
                   try clear c33b0
                   try clear c34
                   try clear c34b0
                   try clear c34b1
                   try clear c35
                   try clear c35b0
                   try clear c35b1
                   try clear c36
                   try clear c37
                   try clear c37b0
                   try clear c38
                   try clear c38b0
                   try clear c39
                   try clear c53
                   try clear c53b0
                   try clear c54
                   try clear c54b0
                   try clear c54b1
                   try clear c55
                   try clear c55b0
                   try clear c55b1
                   try clear c58
                   try clear c58b0
                   try clear c60
                   try clear c60b0
                   try clear c60b1
                   try clear c62
                   try clear c62b0
                   try clear c62b1
                   try clear c63
                   try clear c63b0
                   try clear c64
                   try clear c64b0
                   try clear p64
                   try clear c65
                   try clear c65b0
                   try clear c66
                   try clear c66b0
                   try clear c67
                   try clear c67b0
                   try clear p68
                   try clear q68
                   try clear hx68
                   try clear hf68
                   try clear c69
                   try clear c70
                   try clear c75
                   try clear c75b0
                   try clear c75b1
                   try clear c78
                   try clear c78b0
                   try clear c78b1
                   try clear c79
                   try clear c79b0
                   try clear c80
                   try clear c80b0
                   try clear p81
                   try clear q81
                   try clear hx81
                   try clear hf81
                   try clear hcz11_0
                   try clear hcz11_1
                   try clear hcz13_0
                   try clear hcz13_1
                   try clear hcz13_2
                   try clear hcz20_0
                   try clear hcz20_1
                   try clear hcz32_0
                   try clear hcz32_1
                   try clear hcz32_2
                   try clear hcz71_0
                   try clear hcz71_1
                   try clear hfz11_0
                   try clear hfz11_1
                   try clear hfz13_0
                   try clear hfz13_1
                   try clear hfz13_2
                   try clear hfz20_0
                   try clear hfz20_1
                   try clear hfz32_0
                   try clear hfz32_1
                   try clear hfz32_2
                   try clear hfz71_0
                   try clear hfz71_1
                   try clear hx260_0
                   try clear hx267_0
                   try clear hx268_0
                   try clear hx68_0
                   try clear hx81_0
                   try clear p2
                   try clear p26
                   try clear p260
                   try clear p267
                   try clear p268
                   try clear p6
                   try clear p64
                   try clear p68
                   try clear p8
                   try clear p81
                   try clear q2
                   try clear q26
                   try clear q260
                   try clear q267
                   try clear q268
                   try clear q6
                   try clear q68
                   try clear q8
                   try clear q81
                   obtain ⟨x16_6, x18_6, x254001_6, x254002_6, u254001, u254002, rfl, HA, HK6, HO_16, HO_254001, HO_254002, BK241, BK242, BK253, HB⟩ := hrel
                   cases gk with
                   | zero => exact absurd HA.out (by simp [spec_l04Pivot.l3])
                   | succ k6 =>
                    have H := HA.out
                    clear HA
                    simp only [spec_l04Pivot.l3] at H
                    by_cases c87 : x18_6 < (l0_1.length : Int)
                    ·rw [if_pos c87] at H
                     have c87b0 : decide (x18_6 < (l0_1.length : Int)) = true := decide_eq_true c87
                     clear c87
                     by_cases c88 : 0 ≤ x18_6
                     ·rw [if_pos c88] at H
                      have c88b0 : decide (0 ≤ x18_6) = true := decide_eq_true c88
                      clear c88
                      by_cases c89 : x18_6 < (x254001_6.length : Int)
                      ·rw [if_pos c89] at H
                       have c89b0 : decide (x18_6 < (x254001_6.length : Int)) = true := decide_eq_true c89
                       clear c89
                       by_cases c90 : x18_6 < (x16_6.length : Int)
                       ·rw [if_pos c90] at H
                        have c90b0 : decide (x18_6 < (x16_6.length : Int)) = true := decide_eq_true c90
                        clear c90
                        by_cases c91 : 0 ≤ x13_3
                        ·rw [if_pos c91] at H
                         have c91b0 : decide (0 ≤ x13_3) = true := decide_eq_true c91
                         clear c91
                         by_cases c92 : x13_3 < ((rd_L1 x254001_6 x18_6).length : Int)
                         ·rw [if_pos c92] at H
                          have c92b0 : decide (x13_3 < ((rd_L1 x254001_6 x18_6).length : Int)) = true := decide_eq_true c92
                          clear c92
                          obtain ⟨y277, hy277⟩ : ∃ y_ : List Int, y_ = ((rd_L1 x254001_6 x18_6).set (x13_3 : Int).toNat (wrap64 (x10_13 * (rd x16_6 x18_6)))) := ⟨_, rfl⟩
                          replace H : (spec_l04Pivot.l3 k6 a1 (l0_1.length : Int) l9 x10_13 x13_3 x16_6 (wrap64 (x18_6 + 1)) l0_0 l0_1 (wrap64 (x10_13 * t244)) (x254001_6.set (x18_6 : Int).toNat y277) x254002_6) = some (r1, r2, r3, r4) := by first | (rw [hy277]; with_reducible exact H) | (have H2_ := (Option.bind_some _ _).symm.trans H; rw [hy277]; with_reducible exact H2_) | (have H2_ := (Option.bind_some _ _).symm.trans H; with_reducible exact H2_) | with_reducible exact H | (rw [hy277]; exact H) | exact H
                          have Ny277 := Aside0.mk hy277
                          clear hy277
                          obtain ⟨y279, hy279⟩ : ∃ y_ : List (List Int), y_ = (x254001_6.set (x18_6 : Int).toNat y277) := ⟨_, rfl⟩
                          replace H : (spec_l04Pivot.l3 k6 a1 (l0_1.length : Int) l9 x10_13 x13_3 x16_6 (wrap64 (x18_6 + 1)) l0_0 l0_1 (wrap64 (x10_13 * t244)) y279 x254002_6) = some (r1, r2, r3, r4) := by first | (rw [hy279]; with_reducible exact H) | (have H2_ := (Option.bind_some _ _).symm.trans H; rw [hy279]; with_reducible exact H2_) | (have H2_ := (Option.bind_some _ _).symm.trans H; with_reducible exact H2_) | with_reducible exact H | (rw [hy279]; exact H) | exact H
                          have Ny279 := Aside0.mk hy279
                          clear hy279
                          have H' := Aside0.mk H
                          clear H
                          have hnb94 := NB253_241.out
                          have hnc94 := NB241_253.out
                          have hnb95 := NB253_242.out
                          have hnc95 := NB242_253.out
                          have hcz96_0 : wr.cell? ⟨gb253, 0, none⟩ = some (.int .i64 (wrap64 (x10_13 * t244))) := (blk_cell BK253.out 0).trans rfl
                          have hcz96_1 : wr.cell? ⟨gb253, 1, none⟩ = some (u254001) := (blk_cell BK253.out 1).trans rfl
                          have hcz96_2 : wr.cell? ⟨gb253, 2, none⟩ = some (u254002) := (blk_cell BK253.out 2).trans rfl
                          have hfz96_0 := blk_frozen BK253.out 0
                          have hfz96_1 := blk_frozen BK253.out 1
                          have hfz96_2 := blk_frozen BK253.out 2
                          obtain ⟨Ao97, co97, eo97⟩ := Kd.S_slice HO_254001.out
                          subst eo97
                          have p275 : 0 ≤ (x18_6 : Int) := of_decide_eq_true (by first | (with_reducible assumption) | assumption)
                          have q275 : x18_6 < (x254001_6.length : Int) := of_decide_eq_true (by first | (with_reducible assumption) | assumption)
                          obtain ⟨ad275, A275_0, c275_0, e275, hx275_0, hl275_0, hi275_0⟩ := at_L1 (Kd.S_reads' HO_254001.out).2.2 x18_6 p275 q275
                          cases e275
                          obtain ⟨ce275, hce275, hMe275, hcc275⟩ := Kd.S_get HO_254001.out [] x18_6 p275 (by first | exact q275 | exact of_decide_eq_true (by first | (with_reducible assumption) | assumption) | (have e_ := (Kd.S_reads' HO_254001.out).1; omega))
                          obtain ⟨ve275_0, rfl, ge275_0⟩ := hMe275
                          have hv275_0 := hcc275 0 _ rfl
                          rw [Nat.add_zero, show ((Kd.slice 2 (Kd.int .i64))).sz = 1 from rfl, Nat.mul_one] at hv275_0
                          replace hv275_0 := Option.some.inj (hv275_0.symm.trans hx275_0)
                          rw [hv275_0] at ge275_0
                          have HL275_0 := Aside0.mk (show Kd.R (Kd.int .i64) 2 _ _ _ _ (rd_L1 x254001_6 x18_6) from ge275_0)
                          clear hv275_0 ge275_0
                          have HX275_0 := Aside0.mk hx275_0
                          clear hcc275 hce275
                          have HR275_0 := Aside0.mk hi275_0
                          have HC275_0 := Aside0.mk hl275_0
                          clear hi275_0 hl275_0
                          replace p275 := eq_true p275
                          replace q275 := eq_true q275
                          obtain ⟨Ao98, co98, eo98⟩ := Kd.R_slice HO_16.out
                          subst eo98
                          have p276 : 0 ≤ (x18_6 : Int) := of_decide_eq_true (by first | (with_reducible assumption) | assumption)
                          have q276 : x18_6 < (x16_6.length : Int) := of_decide_eq_true (by first | (with_reducible assumption) | assumption)
                          obtain ⟨ad276, e276, hx276_0⟩ := Kd.at_int (Kd.R_reads' HO_16.out).2.2 x18_6 p276 q276
                          cases e276
                          replace p276 := eq_true p276
                          replace q276 := eq_true q276
                          have p93 : 0 ≤ (x13_3 : Int) := of_decide_eq_true (by first | (with_reducible assumption) | assumption)
                          have q93 : (x13_3 : Int) < (((rd_L1 x254001_6 x18_6).length : Int) : Int) := of_decide_eq_true (by first | (with_reducible assumption) | assumption)
                          obtain ⟨go93, co93, eo93, gb93, gl93, cl93, HG93⟩ := Kd.R_form HL275_0.out (by omega)
                          (first | cases eo93 | (injection eo93 with ea_ en_ ec_; (first | subst ea_ | (injection ea_ with ea_; subst ea_)); subst ec_; clear en_))
                          have GB93 := Aside0.mk gb93
                          have GG93 := Aside0.mk HG93
                          clear gb93 gl93 HG93
                          obtain ⟨hx93_0, hf93_0⟩ := Kd.R_celln 0 HL275_0.out (x13_3 : Int) p93 q93
                          replace p93 := eq_true p93
                          replace q93 := eq_true q93
                          have hq99 : (x18_6 : Int) < (x254001_6.length : Int) := (by have h_ : (x18_6 : Int) < ((x254001_6.length : Int) : Int) := of_decide_eq_true (by first | (with_reducible assumption) | assumption); first | exact h_ | (have e_ := (Kd.S_reads' HO_254001.out).1; omega) | simpa only [List.length_set, List.length_set] using h_)
                          obtain ⟨oki99, ce99, hcl99, hM99, hcc99, hok99, hbk99⟩ := Kd.S_borrow HO_254001.out [] (x18_6 : Int) (of_decide_eq_true (by first | (with_reducible assumption) | assumption)) hq99
                          obtain ⟨ve99_0, rfl, ge99_0⟩ := hM99
                          have hv99 := hcc99 0 _ rfl
                          rw [Nat.add_zero, show ((Kd.slice 2 (Kd.int .i64))).sz = 1 from rfl, Nat.mul_one] at hv99
                          replace hv99 := Option.some.inj (hv99.symm.trans HX275_0.out)
                          subst hv99
                          clear hcc99 hcl99
                          replace ge99_0 := (show Kd.R (Kd.int .i64) 2 _ _ _ _ (rd_L1 x254001_6 x18_6) from ge99_0)
                          have HP99 := Kd.R_putg ge99_0 (x13_3 : Int) (wrap64 (x10_13 * (rd x16_6 x18_6)))
                          go_wp2_with (first | ((with_reducible refine gate_store (t := 2) (p := 130) rfl ?_); refine store_event (t := 2) (p := 130) (v := ?vo_w100) (w1 := (wr.setCell ⟨go93, (x13_3 : Int).toNat, none⟩ (.int .i64 (wrap64 (x10_13 * (rd x16_6 x18_6)))))) ?hg ?ho ?hn ?hr ?_; (case ho => rfl); (case hg => rfl); (case hn => rfl); (case hr => first | (go_simp; done) | (go_simp; rfl)); intro w100 hw; have hg : wr.grownBy w100 (some go93) := (by rw [hw]; exact HP99.2); have hz_ : Kd.R (Kd.int .i64) 2 w100 w.heap.size oki99 (.slice (some ⟨go93, 0, none⟩) (rd_L1 x254001_6 x18_6).length c275_0) y277 := (by rw [hw, Ny277.out]; exact HP99.1); have hp_ : Kd.S (Kd.slice 2 (Kd.int .i64)) 23 w100 w.heap.size (fun k_ => some k_ ≠ (.slice (some ad276) x16_6.length co98 : Value).ownBlock ∧ some k_ ≠ (u254002 : Value).ownBlock) (.slice (some ad275) x254001_6.length co97) y279 := (by rw [Ny279.out]; exact hbk99 hg (fun k_ e_ => by injection e_ with e_; subst e_; exact ge99_0.1 _ rfl) (Kd.M_row hz_)); have hm_ := Kd.R_mono hz_ hok99; clear HP99 hbk99; have n0_ := Aside0.mk (Kd.R_grown1 (ro_ HO_16.out) rfl hg ((HL275_0.out.1 _ rfl).1.1)); have n1_ := Aside0.mk (hp_); have n2_ := Aside0.mk (Kd.R_grown1 (ro_ HO_254002.out) rfl hg ((HL275_0.out.1 _ rfl).1.2)); have n3_ := Aside0.mk (bg_ BK241.out hg (Kd.R_ne HL275_0.out BK241.out (by decide))); have n4_ := Aside0.mk (bg_ BK242.out hg (Kd.R_ne HL275_0.out BK242.out (by decide))); have n5_ := Aside0.mk (bg_ BK253.out hg (Kd.R_ne HL275_0.out BK253.out (by decide))); have n6_ := Aside0.mk ((by rw [hw]; exact below_set (HB.out) GB93.out : Below w.heap.size w w100)); have n7_ := Aside0.mk (hm_); have n8_ := Aside0.mk ((Kd.R_reads' hm_).2.1); clear HO_16; clear HO_254001; clear HO_254002; clear BK241; clear BK242; clear BK253; clear HB; clear HL275_0; have HO_16 := n0_; have HO_254001 := n1_; have HO_254002 := n2_; have BK241 := n3_; have BK242 := n4_; have BK253 := n5_; have HB := n6_; have HL280 := n7_; have HC278 := n8_; clear n0_ n1_ n2_ n3_ n4_ n5_ n6_ n7_ n8_; clear hg hw hp_ hz_ hm_ hok99))
                          go_roundg k6
                          case measure => have := HJ13.out; have := HK2.out; have := HK3.out; have := HK4.out; have := HJ76.out; have := HK6.out; omega
                          case rel => exact ⟨(x16_6), (wrap64 (x18_6 + 1)), (y279), (x254002_6), (.slice (some ad275) x254001_6.length co97), (u254002), (by first | rfl | (simp; done) | (simp [*]; done)), H', ⟨by have := HJ13.out; have := HK2.out; have := HK3.out; have := HK4.out; have := HJ76.out; have := HK6.out; omega⟩, ⟨ro_ HO_16.out⟩, ⟨so_ HO_254001.out⟩, ⟨ro_ HO_254002.out⟩, ⟨bk_⟩, ⟨bk_⟩, ⟨bk_⟩, ⟨hb_⟩⟩
                         ·rw [if_neg c92] at H
                          exact absurd H (by simp)
                        ·rw [if_neg c91] at H
                         exact absurd H (by simp)
                       ·rw [if_neg c90] at H
                        exact absurd H (by simp)
                      ·rw [if_neg c89] at H
                       exact absurd H (by simp)
                     ·rw [if_neg c88] at H
                      exact absurd H (by simp)
                    ·rw [if_neg c87] at H
                     have c87b0 : decide (x18_6 < (l0_1.length : Int)) = false := decide_eq_false c87
                     clear c87
                     have H' := Aside0.mk H
                     clear H
                     go_wp2
                     go_roundg k6
                     case measure => have := HJ13.out; have := HK2.out; have := HK3.out; have := HK4.out; have := HJ76.out; have := HK6.out; omega
                     case rel => exact ⟨(wrap64 (x13_3 + 1)), (x254001_6), (x254002_6), (u254001), (u254002), (by first | rfl | (simp; done) | (simp [*]; done)), H', ⟨by have := HJ13.out; have := HK2.out; have := HK3.out; have := HK4.out; have := HJ76.out; have := HK6.out; omega⟩, ⟨by (with_reducible repeat (first | apply Kd.S_alloc | apply Kd.S_drewN | apply Kd.S_drew)); exact Kd.S_mono HO_254001.out (fun _ hk => hk.2)⟩, ⟨by (with_reducible repeat (first | apply Kd.R_alloc | apply Kd.R_drewN | apply Kd.R_drew)); exact Kd.R_mono HO_254002.out (fun _ hk => trivial)⟩, ⟨bk_⟩, ⟨bk_⟩, ⟨bk_⟩, ⟨hb_⟩⟩
               ·rw [if_neg c75] at H
                exact absurd H (by simp)
           ·rw [if_neg c55] at H
            exact absurd H (by simp)
          ·rw [if_neg c54] at H
           exact absurd H (by simp)
         ·rw [if_neg c53] at H
          have c53b0 : decide (x13_3 < (l0_1.length : Int)) = false := decide_eq_false c53
          clear c53
          simp only [Option.some.injEq, Prod.mk.injEq] at H
          obtain ⟨rfl, rfl, rfl, rfl⟩ := H
          have hnb101 := NB253_241.out
          have hnc101 := NB241_253.out
          have hnb102 := NB253_242.out
          have hnc102 := NB242_253.out
          have hcz103_0 : wr.cell? ⟨gb253, 0, none⟩ = some (.int .i64 (wrap64 (x10_13 * t244))) := (blk_cell BK253.out 0).trans rfl
          have hcz103_1 : wr.cell? ⟨gb253, 1, none⟩ = some (u254001) := (blk_cell BK253.out 1).trans rfl
          have hcz103_2 : wr.cell? ⟨gb253, 2, none⟩ = some (u254002) := (blk_cell BK253.out 2).trans rfl
          have hfz103_0 := blk_frozen BK253.out 0
          have hfz103_1 := blk_frozen BK253.out 1
          have hfz103_2 := blk_frozen BK253.out 2
          have hnb104 := NB242_241.out
          have hnc104 := NB241_242.out
          have hcz105_0 : wr.cell? ⟨gb242, 0, none⟩ = some (.int .i64 0) := (blk_cell BK242.out 0).trans rfl
          have hcz105_1 : wr.cell? ⟨gb242, 1, none⟩ = some (.slice none 0 0) := (blk_cell BK242.out 1).trans rfl
          have hcz105_2 : wr.cell? ⟨gb242, 2, none⟩ = some (.slice none 0 0) := (blk_cell BK242.out 2).trans rfl
          have hfz105_0 := blk_frozen BK242.out 0
          have hfz105_1 := blk_frozen BK242.out 1
          have hfz105_2 := blk_frozen BK242.out 2
          obtain ⟨Ao106, co106, eo106⟩ := Kd.S_slice HO_254001.out
          subst eo106
          obtain ⟨Ao107, co107, eo107⟩ := Kd.R_slice HO_254002.out
          subst eo107
          go_wp2
          have HB := Aside0.mk (below_step HBo.out HB.out)
          have HO_254002 := Aside0.mk (Kd.R_lower HO_254002.out (below_size HBo.out))
          have HO_254001 := Aside0.mk (Kd.S_lower HO_254001.out (below_size HBo.out))
          refine bodyPost_ret (results_ct rfl _ _ gb242 75 #[.int .i64 (wrap64 (x10_13 * t244)), .slice Ao106 x254001_3.length co106, .slice Ao107 x254002_3.length co107] (0, 0) _ rfl (by (with_reducible repeat (first | refine blk_drewN ?_ _ | refine blk_drew ?_ | refine blk_alloc ?_ _)); refine blk_put (cs := #[.int .i64 (wrap64 (x10_13 * t244)), .slice Ao106 x254001_3.length co106, .slice none 0 0]) ?_ 2 _ rfl; (with_reducible repeat (first | refine blk_drewN ?_ _ | refine blk_drew ?_ | refine blk_alloc ?_ _)); refine blk_put (cs := #[.int .i64 (wrap64 (x10_13 * t244)), .slice none 0 0, .slice none 0 0]) ?_ 1 _ rfl; (with_reducible repeat (first | refine blk_drewN ?_ _ | refine blk_drew ?_ | refine blk_alloc ?_ _)); refine blk_put (cs := #[.int .i64 0, .slice none 0 0, .slice none 0 0]) ?_ 0 _ rfl; (with_reducible repeat (first | refine blk_drewN ?_ _ | refine blk_drew ?_ | refine blk_alloc ?_ _)); exact BK242.out) Try.underlying75 rfl (by kernel_rfl)) rfl ?_
          exact ⟨_, _, by first | rfl | (simp [errW_none, errW_some] <;> rfl) | (simp [*, errW_none, errW_some] <;> rfl), by (with_reducible repeat (first | apply Kd.S_alloc | apply Kd.S_drewN | apply Kd.S_drew)); exact Kd.S_mono (Kd.S_far (p := ⟨gb242, 2, none⟩) (Kd.S_far (p := ⟨gb242, 1, none⟩) (Kd.S_far (p := ⟨gb242, 0, none⟩) (Kd.S_types HO_254001.out BK242.out (by decide)) (fun _ hk => hk.2) (.int .i64 (wrap64 (x10_13 * t244)))) (fun _ hk => hk.2) (.slice Ao106 x254001_3.length co106)) (fun _ hk => hk.2) (.slice Ao107 x254002_3.length co107)) (fun _ hk => hk.1), by (with_reducible repeat (first | apply Kd.R_alloc | apply Kd.R_drewN | apply Kd.R_drew)); exact Kd.R_mono (Kd.R_far (p := ⟨gb242, 2, none⟩) (Kd.R_far (p := ⟨gb242, 1, none⟩) (Kd.R_far (p := ⟨gb242, 0, none⟩) (Kd.R_types HO_254002.out BK242.out (by decide)) (fun _ hk => hk.2) (.int .i64 (wrap64 (x10_13 * t244)))) (fun _ hk => hk.2) (.slice Ao106 x254001_3.length co106)) (fun _ hk => hk.2) (.slice Ao107 x254002_3.length co107)) (fun _ hk => trivial), hb_⟩
mutual
def spec_ComplementOf.j0 : Nat → Int → Int → Bool → List (List Int) → List Int → Option ((List (List Int)) × Int × Int)
 | 0, _, _, _, _, _ => none
 | k + 1, x1, x7, x28, x541000, x541001 => if x28 = true then (spec_ComplementOf.j1 k x1 2 x541000 x541001) else (spec_ComplementOf.j1 k x1 x7 x541000 x541001)
def spec_ComplementOf.j1 : Nat → Int → Int → List (List Int) → List Int → Option ((List (List Int)) × Int × Int)
 | 0, _, _, _, _ => none
 | k + 1, x1, x7, x541000, x541001 => if x7 = 0 then ((spec_l04Pivot.f k x541000 x541001 x1).bind fun bt542 => (if bt542.2.2.2 = true then (spec_ComplementOf.l0 k x1 (([] : List (List Int))) 0 x541000 x541001 bt542.1 bt542.2.1 bt542.2.2.1) else (some (([] : List (List Int)), 0, 5)))) else (some (([] : List (List Int)), 0, x7))
def spec_ComplementOf.l0 : Nat → Int → List (List Int) → Int → List (List Int) → List Int → Int → List (List Int) → List Int → Option ((List (List Int)) × Int × Int)
 | 0, _, _, _, _, _, _, _, _ => none
 | k + 1, x1, x10, x11, x541000, x541001, x551000, x551001, x551002 => if x11 < (x541001.length : Int) then (if 0 ≤ (IntKind.u64.wrap (x11)) then (if (Go.bits .and .i64 (shr .i64 x1 (IntKind.u64.wrap (x11))) 1) = 1 then (spec_ComplementOf.l0 k x1 x10 (wrap64 (x11 + 1)) x541000 x541001 x551000 x551001 x551002) else (spec_ComplementOf.l1 k x1 x10 x11 (([] : List Int)) 0 x541000 x541001 x551000 x551001 x551002)) else (none)) else (some (x10, x551000, 0))
def spec_ComplementOf.l1 : Nat → Int → List (List Int) → Int → List Int → Int → List (List Int) → List Int → Int → List (List Int) → List Int → Option ((List (List Int)) × Int × Int)
 | 0, _, _, _, _, _, _, _, _, _, _ => none
 | k + 1, x1, x10, x11, x12, x13, x541000, x541001, x551000, x551001, x551002 => if x13 < (x541001.length : Int) then (if 0 ≤ (IntKind.u64.wrap (x13)) then (if (Go.bits .and .i64 (shr .i64 x1 (IntKind.u64.wrap (x13))) 1) = 0 then (if 0 ≤ x11 then (if x11 < (x551001.length : Int) then (if 0 ≤ x13 then (if x13 < ((rd_L1 x551001 x11).length : Int) then (if x12.length < 17592186044416 then (spec_ComplementOf.l1 k x1 x10 x11 (x12 ++ [rd (rd_L1 x551001 x11) x13]) (wrap64 (x13 + 1)) x541000 x541001 x551000 x551001 x551002) else (none)) else (none)) else (none)) else (none)) else (none)) else (spec_ComplementOf.l1 k x1 x10 x11 x12 (wrap64 (x13 + 1)) x541000 x541001 x551000 x551001 x551002)) else (none)) else (if x10.length < 5864062014805 then (spec_ComplementOf.l0 k x1 (x10 ++ [x12]) (wrap64 (x11 + 1)) x541000 x541001 x551000 x551001 x551002) else (none))
end
def spec_ComplementOf.f (k : Nat) (l0_0 : List (List Int)) (l0_1 : List Int) (a1 : Int) : Option ((List (List Int)) × Int × Int) := (spec_l02Code.f k l0_0 l0_1 a1).bind fun t541 => (if t541 = 0 then (if 0 ≤ (IntKind.u64.wrap ((l0_1.length : Int))) then (spec_ComplementOf.j0 k a1 t541 (a1 == (wrap64 ((shl .i64 1 (IntKind.u64.wrap ((l0_1.length : Int)))) - 1))) l0_0 l0_1) else (none)) else (spec_ComplementOf.j0 k a1 t541 false l0_0 l0_1))
theorem spec_ComplementOf.mono_l : ∀ k, (∀ y0 y1 y2 y3 y4, LeO (spec_ComplementOf.j0 k y0 y1 y2 y3 y4) (spec_ComplementOf.j0 (k + 1) y0 y1 y2 y3 y4)) ∧ (∀ y0 y1 y2 y3, LeO (spec_ComplementOf.j1 k y0 y1 y2 y3) (spec_ComplementOf.j1 (k + 1) y0 y1 y2 y3)) ∧ (∀ y0 y1 y2 y3 y4 y5 y6 y7, LeO (spec_ComplementOf.l0 k y0 y1 y2 y3 y4 y5 y6 y7) (spec_ComplementOf.l0 (k + 1) y0 y1 y2 y3 y4 y5 y6 y7)) ∧ (∀ y0 y1 y2 y3 y4 y5 y6 y7 y8 y9, LeO (spec_ComplementOf.l1 k y0 y1 y2 y3 y4 y5 y6 y7 y8 y9) (spec_ComplementOf.l1 (k + 1) y0 y1 y2 y3 y4 y5 y6 y7 y8 y9))
 | 0 => ⟨fun _ _ _ _ _ r h => by simp [spec_ComplementOf.j0] at h, fun _ _ _ _ r h => by simp [spec_ComplementOf.j1] at h, fun _ _ _ _ _ _ _ _ r h => by simp [spec_ComplementOf.l0] at h, fun _ _ _ _ _ _ _ _ _ _ r h => by simp [spec_ComplementOf.l1] at h⟩
 | k + 1 => by
  obtain ⟨ih0, ih1, ih2, ih3⟩ := spec_ComplementOf.mono_l k
  refine ⟨?_, ?_, ?_, ?_⟩
  ·intro y0 y1 y2 y3 y4
   unfold spec_ComplementOf.j0
   repeat' first
   | (with_reducible exact ih0 _ _ _ _ _)
   | (with_reducible exact ih1 _ _ _ _)
   | (with_reducible exact ih2 _ _ _ _ _ _ _ _)
   | (with_reducible exact ih3 _ _ _ _ _ _ _ _ _ _)
   | (with_reducible exact spec_l02Code.mono _ _ _ _)
   | (with_reducible exact spec_l04Pivot.mono _ _ _ _)
   | (with_reducible exact LeO.refl _)
   | (with_reducible exact LeO.none _)
   | (with_reducible refine LeO.ite ?_ ?_)
   | (with_reducible refine LeO.bind ?_ (fun _ => ?_))
   | exact ih0 _ _ _ _ _
   | exact ih1 _ _ _ _
   | exact ih2 _ _ _ _ _ _ _ _
   | exact ih3 _ _ _ _ _ _ _ _ _ _
   | exact spec_l02Code.mono _ _ _ _
   | exact spec_l04Pivot.mono _ _ _ _
   | exact LeO.none _
   | refine LeO.ite ?_ ?_
   | refine LeO.bind ?_ (fun _ => ?_)
  ·intro y0 y1 y2 y3
   unfold spec_ComplementOf.j1
   repeat' first
   | (with_reducible exact ih0 _ _ _ _ _)
   | (with_reducible exact ih1 _ _ _ _)
   | (with_reducible exact ih2 _ _ _ _ _ _ _ _)
   | (with_reducible exact ih3 _ _ _ _ _ _ _ _ _ _)
   | (with_reducible exact spec_l02Code.mono _ _ _ _)
   | (with_reducible exact spec_l04Pivot.mono _ _ _ _)
   | (with_reducible exact LeO.refl _)
   | (with_reducible exact LeO.none _)
   | (with_reducible refine LeO.ite ?_ ?_)
   | (with_reducible refine LeO.bind ?_ (fun _ => ?_))
   | exact ih0 _ _ _ _ _
   | exact ih1 _ _ _ _
   | exact ih2 _ _ _ _ _ _ _ _
   | exact ih3 _ _ _ _ _ _ _ _ _ _
   | exact spec_l02Code.mono _ _ _ _
   | exact spec_l04Pivot.mono _ _ _ _
   | exact LeO.none _
   | refine LeO.ite ?_ ?_
   | refine LeO.bind ?_ (fun _ => ?_)
  ·intro y0 y1 y2 y3 y4 y5 y6 y7
   unfold spec_ComplementOf.l0
   repeat' first
   | (with_reducible exact ih0 _ _ _ _ _)
   | (with_reducible exact ih1 _ _ _ _)
   | (with_reducible exact ih2 _ _ _ _ _ _ _ _)
   | (with_reducible exact ih3 _ _ _ _ _ _ _ _ _ _)
   | (with_reducible exact spec_l02Code.mono _ _ _ _)
   | (with_reducible exact spec_l04Pivot.mono _ _ _ _)
   | (with_reducible exact LeO.refl _)
   | (with_reducible exact LeO.none _)
   | (with_reducible refine LeO.ite ?_ ?_)
   | (with_reducible refine LeO.bind ?_ (fun _ => ?_))
   | exact ih0 _ _ _ _ _
   | exact ih1 _ _ _ _
   | exact ih2 _ _ _ _ _ _ _ _
   | exact ih3 _ _ _ _ _ _ _ _ _ _
   | exact spec_l02Code.mono _ _ _ _
   | exact spec_l04Pivot.mono _ _ _ _
   | exact LeO.none _
   | refine LeO.ite ?_ ?_
   | refine LeO.bind ?_ (fun _ => ?_)
  ·intro y0 y1 y2 y3 y4 y5 y6 y7 y8 y9
   unfold spec_ComplementOf.l1
   repeat' first
   | (with_reducible exact ih0 _ _ _ _ _)
   | (with_reducible exact ih1 _ _ _ _)
   | (with_reducible exact ih2 _ _ _ _ _ _ _ _)
   | (with_reducible exact ih3 _ _ _ _ _ _ _ _ _ _)
   | (with_reducible exact spec_l02Code.mono _ _ _ _)
   | (with_reducible exact spec_l04Pivot.mono _ _ _ _)
   | (with_reducible exact LeO.refl _)
   | (with_reducible exact LeO.none _)
   | (with_reducible refine LeO.ite ?_ ?_)
   | (with_reducible refine LeO.bind ?_ (fun _ => ?_))
   | exact ih0 _ _ _ _ _
   | exact ih1 _ _ _ _
   | exact ih2 _ _ _ _ _ _ _ _
   | exact ih3 _ _ _ _ _ _ _ _ _ _
   | exact spec_l02Code.mono _ _ _ _
   | exact spec_l04Pivot.mono _ _ _ _
   | exact LeO.none _
   | refine LeO.ite ?_ ?_
   | refine LeO.bind ?_ (fun _ => ?_)
theorem spec_ComplementOf.mono : ∀ a0 a1 a2 k, LeO (spec_ComplementOf.f k a0 a1 a2) (spec_ComplementOf.f (k + 1) a0 a1 a2) := by
 intro a0 a1 a2 k
 obtain ⟨ih0, ih1, ih2, ih3⟩ := spec_ComplementOf.mono_l k
 unfold spec_ComplementOf.f
 repeat' first
   | (with_reducible exact ih0 _ _ _ _ _)
   | (with_reducible exact ih1 _ _ _ _)
   | (with_reducible exact ih2 _ _ _ _ _ _ _ _)
   | (with_reducible exact ih3 _ _ _ _ _ _ _ _ _ _)
   | (with_reducible exact spec_l02Code.mono _ _ _ _)
   | (with_reducible exact spec_l04Pivot.mono _ _ _ _)
   | (with_reducible exact LeO.refl _)
   | (with_reducible exact LeO.none _)
   | (with_reducible refine LeO.ite ?_ ?_)
   | (with_reducible refine LeO.bind ?_ (fun _ => ?_))
   | exact ih0 _ _ _ _ _
   | exact ih1 _ _ _ _
   | exact ih2 _ _ _ _ _ _ _ _
   | exact ih3 _ _ _ _ _ _ _ _ _ _
   | exact spec_l02Code.mono _ _ _ _
   | exact spec_l04Pivot.mono _ _ _ _
   | exact LeO.none _
   | refine LeO.ite ?_ ?_
   | refine LeO.bind ?_ (fun _ => ?_)
theorem spec_ComplementOf.calls (k : Nat) (A0_0 : Option Addr) (c0_0 : Nat) (l0_0 : List (List Int)) (A0_1 : Option Addr) (c0_1 : Nat) (l0_1 : List Int) (a1 : Int) (r1 : List (List Int)) (r2 : Int) (r3 : Int) (w : World) (hr0_0 : Kd.C (Kd.slice 2 (Kd.int .i64)) w A0_0 l0_0.length l0_0) (hc0_0 : l0_0.length ≤ c0_0) (hr0_1 : Kd.C (Kd.int .i64) w A0_1 l0_1.length l0_1) (hc0_1 : l0_1.length ≤ c0_1) (h : spec_ComplementOf.f k l0_0 l0_1 a1 = some (r1, r2, r3)) :
  Calls Try.prog 29 #[.agg #[.slice A0_0 l0_0.length c0_0, .slice A0_1 l0_1.length c0_1], .int .i64 a1] w fun e w' => ∃ v0_ : Value, e = .returned (.tuple #[v0_, .int .i64 r2, .int .i64 r3]) ∧ Kd.S (Kd.slice 2 (Kd.int .i64)) 23 w' w.heap.size (fun _ => True) v0_ r1 ∧ Below w.heap.size w w' := by
 have hu29 := Try.underlying29
 have hu75 := Try.underlying75
 have HR0_0 := Aside0.mk hr0_0
 have HC0_0 := Aside0.mk hc0_0
 clear hr0_0 hc0_0
 have HR0_1 := Aside0.mk hr0_1
 have HC0_1 := Aside0.mk hc0_1
 clear hr0_1 hc0_1
 have HB := Aside0.mk (Below.refl w.heap.size w)
 have H : ((spec_l02Code.f k l0_0 l0_1 a1).bind fun t541 => (if t541 = 0 then (if 0 ≤ (IntKind.u64.wrap ((l0_1.length : Int))) then (spec_ComplementOf.j0 k a1 t541 (a1 == (wrap64 ((shl .i64 1 (IntKind.u64.wrap ((l0_1.length : Int)))) - 1))) l0_0 l0_1) else (none)) else (spec_ComplementOf.j0 k a1 t541 false l0_0 l0_1))) = some (r1, r2, r3) := h
 clear h
 replace H := Option.bind_eq_some_iff.mp H
 obtain ⟨t541, A30, H⟩ := H
 replace H : (if t541 = 0 then (if 0 ≤ (IntKind.u64.wrap ((l0_1.length : Int))) then (spec_ComplementOf.j0 k a1 t541 (a1 == (wrap64 ((shl .i64 1 (IntKind.u64.wrap ((l0_1.length : Int)))) - 1))) l0_0 l0_1) else (none)) else (spec_ComplementOf.j0 k a1 t541 false l0_0 l0_1)) = some (r1, r2, r3) := H
 have A3 := Aside0.mk A30
 clear A30
 have HC4 := Aside0.mk H
 clear H
 go_enter Try.func29, Try.ntmps29
 go_upto_region 2 with (first | ((with_reducible refine gate_dst (N := 2) rfl ?_); (try (refine gate_guard (by rfl) ?_; dsimp only)); refine box_event ?hg (N := 2) ?hd (cs := #[.slice A0_0 l0_0.length c0_0, .slice A0_1 l0_1.length c0_1]) (t := 29) ?hr ?_; (case hd => rfl); (case hg => rfl); (case hr => first | (go_simp; done) | (go_simp; rfl)); intro gb540 hg w5 hbox hb; have n0_ := Aside0.mk (bs_ hb); have n1_ := Aside0.mk (hbox); have n2_ := Aside0.mk ((by rw [hg]; exact bz_ : w.heap.size ≤ gb540)); have n3_ := Aside0.mk ((by rw [hg]; exact bz_ : w.heap.size ≤ gb540)); clear HB; have HB := n0_; have BK540 := n1_; have GW540 := n2_; have GE540 := n3_; clear n0_ n1_ n2_ n3_; clear hb hbox hg; have hcz6_0 : w5.cell? ⟨gb540, 0, none⟩ = some (.slice A0_0 l0_0.length c0_0) := (blk_cell BK540.out 0).trans rfl; have hcz6_1 : w5.cell? ⟨gb540, 1, none⟩ = some (.slice A0_1 l0_1.length c0_1) := (blk_cell BK540.out 1).trans rfl; have hfz6_0 := blk_frozen BK540.out 0; have hfz6_1 := blk_frozen BK540.out 1) | (go_at_call 74; (with_reducible refine (spec_l02Code.calls k _ _ l0_0 _ _ l0_1 a1 t541 _ ?side1 ?side2 ?side3 ?side4 A3.out).mono ?_); (case side1 => exact cb_ HR0_0.out HB.out); (case side2 => exact HC0_0.out); (case side3 => exact cb_ HR0_1.out HB.out); (case side4 => exact HC0_1.out); rintro e w7 ⟨rfl, hb⟩; have n0_ := Aside0.mk (bb_ BK540.out hb); have n1_ := Aside0.mk (bs_ hb); clear BK540; clear HB; have BK540 := n0_; have HB := n1_; clear n0_ n1_; (try clear hb); (try clear hb2); (try clear hk); (try clear hi)))
 repeat (go_quiet (first | ((with_reducible refine gate_dst (N := 2) rfl ?_); (try (refine gate_guard (by rfl) ?_; dsimp only)); refine box_event ?hg (N := 2) ?hd (cs := #[.slice A0_0 l0_0.length c0_0, .slice A0_1 l0_1.length c0_1]) (t := 29) ?hr ?_; (case hd => rfl); (case hg => rfl); (case hr => first | (go_simp; done) | (go_simp; rfl)); intro gb540 hg w5 hbox hb; have n0_ := Aside0.mk (bs_ hb); have n1_ := Aside0.mk (hbox); have n2_ := Aside0.mk ((by rw [hg]; exact bz_ : w.heap.size ≤ gb540)); have n3_ := Aside0.mk ((by rw [hg]; exact bz_ : w.heap.size ≤ gb540)); clear HB; have HB := n0_; have BK540 := n1_; have GW540 := n2_; have GE540 := n3_; clear n0_ n1_ n2_ n3_; clear hb hbox hg; have hcz6_0 : w5.cell? ⟨gb540, 0, none⟩ = some (.slice A0_0 l0_0.length c0_0) := (blk_cell BK540.out 0).trans rfl; have hcz6_1 : w5.cell? ⟨gb540, 1, none⟩ = some (.slice A0_1 l0_1.length c0_1) := (blk_cell BK540.out 1).trans rfl; have hfz6_0 := blk_frozen BK540.out 0; have hfz6_1 := blk_frozen BK540.out 1) | (go_at_call 74; (with_reducible refine (spec_l02Code.calls k _ _ l0_0 _ _ l0_1 a1 t541 _ ?side1 ?side2 ?side3 ?side4 A3.out).mono ?_); (case side1 => exact cb_ HR0_0.out HB.out); (case side2 => exact HC0_0.out); (case side3 => exact cb_ HR0_1.out HB.out); (case side4 => exact HC0_1.out); rintro e w7 ⟨rfl, hb⟩; have n0_ := Aside0.mk (bb_ BK540.out hb); have n1_ := Aside0.mk (bs_ hb); clear BK540; clear HB; have BK540 := n0_; have HB := n1_; clear n0_ n1_; (try clear hb); (try clear hb2); (try clear hk); (try clear hi))); go_upto_region 2 with (first | ((with_reducible refine gate_dst (N := 2) rfl ?_); (try (refine gate_guard (by rfl) ?_; dsimp only)); refine box_event ?hg (N := 2) ?hd (cs := #[.slice A0_0 l0_0.length c0_0, .slice A0_1 l0_1.length c0_1]) (t := 29) ?hr ?_; (case hd => rfl); (case hg => rfl); (case hr => first | (go_simp; done) | (go_simp; rfl)); intro gb540 hg w5 hbox hb; have n0_ := Aside0.mk (bs_ hb); have n1_ := Aside0.mk (hbox); have n2_ := Aside0.mk ((by rw [hg]; exact bz_ : w.heap.size ≤ gb540)); have n3_ := Aside0.mk ((by rw [hg]; exact bz_ : w.heap.size ≤ gb540)); clear HB; have HB := n0_; have BK540 := n1_; have GW540 := n2_; have GE540 := n3_; clear n0_ n1_ n2_ n3_; clear hb hbox hg; have hcz6_0 : w5.cell? ⟨gb540, 0, none⟩ = some (.slice A0_0 l0_0.length c0_0) := (blk_cell BK540.out 0).trans rfl; have hcz6_1 : w5.cell? ⟨gb540, 1, none⟩ = some (.slice A0_1 l0_1.length c0_1) := (blk_cell BK540.out 1).trans rfl; have hfz6_0 := blk_frozen BK540.out 0; have hfz6_1 := blk_frozen BK540.out 1) | (go_at_call 74; (with_reducible refine (spec_l02Code.calls k _ _ l0_0 _ _ l0_1 a1 t541 _ ?side1 ?side2 ?side3 ?side4 A3.out).mono ?_); (case side1 => exact cb_ HR0_0.out HB.out); (case side2 => exact HC0_0.out); (case side3 => exact cb_ HR0_1.out HB.out); (case side4 => exact HC0_1.out); rintro e w7 ⟨rfl, hb⟩; have n0_ := Aside0.mk (bb_ BK540.out hb); have n1_ := Aside0.mk (bs_ hb); clear BK540; clear HB; have BK540 := n0_; have HB := n1_; clear n0_ n1_; (try clear hb); (try clear hb2); (try clear hk); (try clear hi))))
 (try simp only [Act.put, List.setIfInBounds_toArray, List.set_cons_zero, List.set_cons_succ])
 go_cut [28] (fun v28 wc => ∃ (kq : Nat) (x28_3 : Bool), v28 = .bool x28_3 ∧ Aside0 (spec_ComplementOf.j0 kq a1 t541 x28_3 l0_0 l0_1 = some (r1, r2, r3)) ∧ Aside0 (kq ≤ k) ∧ Aside0 (wc.heap[gb540]? = some (.cells #[(.slice A0_0 l0_0.length c0_0), (.slice A0_1 l0_1.length c0_1)] 29 (0, 0))) ∧ Aside0 (Below w.heap.size w wc))
 case first =>
  have H := HC4.out
  clear HC4
  by_cases c8 : t541 = 0
  ·rw [if_pos c8] at H
   have c8b0 : (t541 == 0) = true := beq_iff_eq.mpr c8
   have c8b1 : (t541 != 0) = false := bne_eq_false_iff_eq.mpr c8
   clear c8
   (first | rw [c8b0] | (simp only [i64_w, i32_w]; rw [c8b0]) | skip)
   obtain ⟨ji9, hji9⟩ : ∃ j_ : Int, (IntKind.u64.wrap ((l0_1.length : Int))) = j_ := ⟨_, rfl⟩
   replace H : (if 0 ≤ (ji9) then (spec_ComplementOf.j0 k a1 t541 (a1 == (wrap64 ((shl .i64 1 (ji9)) - 1))) l0_0 l0_1) else (none)) = some (r1, r2, r3) := by first | (rw [hji9] at H; exact H) | (simp only [hji9] at H ⊢; exact H)
   by_cases c10 : 0 ≤ (ji9)
   ·rw [if_pos c10] at H
    have c10b0 := eq_true c10
    have c10b1 : decide (0 ≤ (ji9)) = true := decide_eq_true c10
    clear c10
    obtain ⟨ji11, hji11⟩ : ∃ j_ : Int, (shl .i64 1 (ji9)) = j_ := ⟨_, rfl⟩
    replace H : (spec_ComplementOf.j0 k a1 t541 (a1 == (wrap64 ((ji11) - 1))) l0_0 l0_1) = some (r1, r2, r3) := by first | (rw [hji11] at H; exact H) | (simp only [hji11] at H ⊢; exact H)
    have hji11_ : (IntKind.i64.wrap (1 * 2 ^ min (ji9).toNat 64)) = ji11 := hji11
    have hji11z : (ji9) ≤ 64 → (IntKind.i64.wrap (1 * 2 ^ (ji9).toNat)) = ji11 := shl_small hji11
    have hji11u : (IntKind.i64.wrap (2 ^ min (ji9).toNat 64)) = ji11 := by have h_ := hji11_; rw [Int.one_mul] at h_; exact h_
    have hji11v : (ji9) ≤ 64 → (IntKind.i64.wrap (2 ^ (ji9).toNat)) = ji11 := fun hle_ => by have h_ := hji11z hle_; rw [Int.one_mul] at h_; exact h_
    have hji11y : (wrap64 (1 * 2 ^ min (ji9).toNat 64)) = ji11 := (i64_w _).symm.trans hji11_
    have hji11x : (ji9) ≤ 64 → (wrap64 (1 * 2 ^ (ji9).toNat)) = ji11 := fun h_ => (i64_w _).symm.trans (hji11z h_)
    have H' := Aside0.mk H
    clear H
    have hcz12_0 : w7.cell? ⟨gb540, 0, none⟩ = some (.slice A0_0 l0_0.length c0_0) := (blk_cell BK540.out 0).trans rfl
    have hcz12_1 : w7.cell? ⟨gb540, 1, none⟩ = some (.slice A0_1 l0_1.length c0_1) := (blk_cell BK540.out 1).trans rfl
    have hfz12_0 := blk_frozen BK540.out 0
    have hfz12_1 := blk_frozen BK540.out 1
    go_wp2
    repeat (go_quiet (fail); try go_wp2)
    go_meet
    case rel => exact ⟨_, ((a1 == (wrap64 ((ji11) - 1)))), (by first | rfl | (simp; done) | (simp only [← hji11] <;> (first | rfl | simp)) | (simp [*]; done)), H', ⟨by first | omega | exact Nat.le_refl _⟩, ⟨bk_⟩, ⟨hb_⟩⟩
   ·rw [if_neg c10] at H
    exact absurd H (by simp)
  ·rw [if_neg c8] at H
   have c8b0 : (t541 == 0) = false := beq_eq_false_iff_ne.mpr c8
   have c8b1 : (t541 != 0) = true := bne_iff_ne.mpr c8
   (first | rw [c8b0] | (simp only [i64_w, i32_w]; rw [c8b0]) | skip)
   have H' := Aside0.mk H
   clear H
   go_wp2
   repeat (go_quiet (fail); try go_wp2)
   go_meet
   case rel => exact ⟨_, (false), (by first | rfl | (simp; done) | (simp [*]; done)), H', ⟨by first | omega | exact Nat.le_refl _⟩, ⟨bk_⟩, ⟨hb_⟩⟩
 case rest =>
  clear HC4
  try clear c1
  try clear c2
  try clear p2
  try clear p6
  try clear c8
  try clear c8b0
  try clear c8b1
  try clear c10
  try clear c10b0
  try clear c10b1
  try clear hcz12_0
  try clear hcz12_1
  try clear hcz6_0
  try clear hcz6_1
  try clear hfz12_0
  try clear hfz12_1
  try clear hfz6_0
  try clear hfz6_1
  obtain ⟨kq, x28_3, rfl, HA, HJ3, BK540, HB⟩ := hcut
  cases kq with
  | zero => exact absurd HA.out (by simp [spec_ComplementOf.j0])
  | succ kj3 =>
   have H := HA.out
   clear HA
   simp only [spec_ComplementOf.j0] at H
   have HC13 := Aside0.mk H
   clear H
   go_upto_if 28 with (fail)
   repeat (go_quiet (fail); go_upto_if 28 with (fail))
   go_cut [7] (fun v7 wc => ∃ (kq : Nat) (x7_12 : Int), v7 = .int .i64 x7_12 ∧ Aside0 (spec_ComplementOf.j1 kq a1 x7_12 l0_0 l0_1 = some (r1, r2, r3)) ∧ Aside0 (kq ≤ kj3) ∧ Aside0 (wc.heap[gb540]? = some (.cells #[(.slice A0_0 l0_0.length c0_0), (.slice A0_1 l0_1.length c0_1)] 29 (0, 0))) ∧ Aside0 (Below w.heap.size w wc))
   case first =>
    have H := HC13.out
    clear HC13
    by_cases c14 : x28_3 = true
    ·subst c14
     have H1 : (spec_ComplementOf.j1 kj3 a1 2 l0_0 l0_1) = some (r1, r2, r3) := by rw [if_pos rfl] at H; exact H
     clear H
     have H := H1
     clear H1
     have H' := Aside0.mk H
     clear H
     go_wp2
     repeat (go_quiet (fail); try go_wp2)
     go_meet
     case rel => exact ⟨_, (2), (by first | rfl | (simp; done) | (simp [*]; done)), H', ⟨by have := HJ3.out; first | omega | exact Nat.le_refl _⟩, ⟨bk_⟩, ⟨hb_⟩⟩
    ·replace c14 := Bool.eq_false_iff.mpr c14
     subst c14
     have H1 : (spec_ComplementOf.j1 kj3 a1 t541 l0_0 l0_1) = some (r1, r2, r3) := by rw [if_neg (show ¬ (false = true) by decide)] at H; exact H
     clear H
     have H := H1
     clear H1
     have H' := Aside0.mk H
     clear H
     go_wp2
     repeat (go_quiet (fail); try go_wp2)
     go_meet
     case rel => exact ⟨_, (t541), (by first | rfl | (simp; done) | (simp [*]; done)), H', ⟨by have := HJ3.out; first | omega | exact Nat.le_refl _⟩, ⟨bk_⟩, ⟨hb_⟩⟩
   case rest =>
    clear HC13
    try clear c1
    try clear c2
    try clear p2
    try clear p6
    try clear c8
    try clear c8b0
    try clear c8b1
    try clear c10
    try clear c10b0
    try clear c10b1
    try clear c14
    try clear hcz12_0
    try clear hcz12_1
    try clear hcz6_0
    try clear hcz6_1
    try clear hfz12_0
    try clear hfz12_1
    try clear hfz6_0
    try clear hfz6_1
    try clear p2
    try clear p6
    obtain ⟨kq, x7_12, rfl, HA, HJ12, BK540, HB⟩ := hcut
    cases kq with
    | zero => exact absurd HA.out (by simp [spec_ComplementOf.j1])
    | succ kj12 =>
     have H := HA.out
     clear HA
     simp only [spec_ComplementOf.j1] at H
     by_cases c15 : x7_12 = 0
     ·rw [if_pos c15] at H
      have c15b0 : (x7_12 == 0) = true := beq_iff_eq.mpr c15
      have c15b1 : (x7_12 != 0) = false := bne_eq_false_iff_eq.mpr c15
      clear c15
      replace H := Option.bind_eq_some_iff.mp H
      obtain ⟨⟨t542, t543, t546, t549⟩, A160, H⟩ := H
      replace H : (if t549 = true then (spec_ComplementOf.l0 kj12 a1 (([] : List (List Int))) 0 l0_0 l0_1 t542 t543 t546) else (some (([] : List (List Int)), 0, 5))) = some (r1, r2, r3) := H
      have A16 := Aside0.mk A160
      clear A160
      by_cases c17 : t549 = true
      ·subst c17
       have H1 : (spec_ComplementOf.l0 kj12 a1 (([] : List (List Int))) 0 l0_0 l0_1 t542 t543 t546) = some (r1, r2, r3) := by rw [if_pos rfl] at H; exact H
       clear H
       have H := H1
       clear H1
       obtain ⟨y551, hy551⟩ : ∃ y_ : List (List Int), y_ = (([] : List (List Int))) := ⟨_, rfl⟩
       replace H : (spec_ComplementOf.l0 kj12 a1 y551 0 l0_0 l0_1 t542 t543 t546) = some (r1, r2, r3) := by first | (rw [hy551]; with_reducible exact H) | (have H2_ := (Option.bind_some _ _).symm.trans H; rw [hy551]; with_reducible exact H2_) | (have H2_ := (Option.bind_some _ _).symm.trans H; with_reducible exact H2_) | with_reducible exact H | (rw [hy551]; exact H) | exact H
       have Ny551 := Aside0.mk hy551
       clear hy551
       have H' := Aside0.mk H
       clear H
       have hcz18_0 : wc.cell? ⟨gb540, 0, none⟩ = some (.slice A0_0 l0_0.length c0_0) := (blk_cell BK540.out 0).trans rfl
       have hcz18_1 : wc.cell? ⟨gb540, 1, none⟩ = some (.slice A0_1 l0_1.length c0_1) := (blk_cell BK540.out 1).trans rfl
       have hfz18_0 := blk_frozen BK540.out 0
       have hfz18_1 := blk_frozen BK540.out 1
       go_wp2_with (first | (go_at_call 75; (with_reducible refine (spec_l04Pivot.calls kj12 _ _ l0_0 _ _ l0_1 a1 t542 t543 t546 true _ ?side1 ?side2 ?side3 ?side4 A16.out).mono ?_); (case side1 => exact cb_ HR0_0.out HB.out); (case side2 => exact HC0_0.out); (case side3 => exact cb_ HR0_1.out HB.out); (case side4 => exact HC0_1.out); rintro e w19 ⟨v544, v547, rfl, ho0, ho1, hb⟩; have n0_ := Aside0.mk (Kd.S_lower ho0 bz_); have n1_ := Aside0.mk (Kd.R_lower ho1 bz_); have n2_ := Aside0.mk (bb_ BK540.out hb); have n3_ := Aside0.mk (bs_ hb); clear BK540; clear HB; have HO545 := n0_; have HO548 := n1_; have BK540 := n2_; have HB := n3_; clear n0_ n1_ n2_ n3_; (try clear hb); (try clear hb2); (try clear hk); (try clear hi); (try clear ho0); (try clear ho1)) | ((with_reducible refine gate_dst (N := 8) rfl ?_); (try (refine gate_guard (by rfl) ?_; dsimp only)); refine box_event ?hg (N := 8) ?hd (cs := #[.int .i64 0, .slice none 0 0, .slice none 0 0]) (t := 75) ?hr ?_; (case hd => rfl); (case hg => rfl); (case hr => first | (go_simp; done) | (go_simp; rfl)); intro gb550 hg w20 hbox hb; have n0_ := Aside0.mk (Kd.S_below (so_ HO545.out) hb); have n1_ := Aside0.mk (rb_ HO548.out hb); have n2_ := Aside0.mk (bb_ BK540.out hb); have n3_ := Aside0.mk (bs_ hb); have n4_ := Aside0.mk (hbox); have n5_ := Aside0.mk ((by rw [hg]; exact bz_ : w.heap.size ≤ gb550)); have n6_ := Aside0.mk ((by rw [hg]; exact bz_ : w.heap.size ≤ gb550)); have n7_ := Aside0.mk ((by rw [hg]; exact lt_ BK540.out : gb540 ≠ gb550)); have n8_ := Aside0.mk ((by rw [hg]; exact gt_ BK540.out : gb550 ≠ gb540)); clear HO545; clear HO548; clear BK540; clear HB; have HO545 := n0_; have HO548 := n1_; have BK540 := n2_; have HB := n3_; have BK550 := n4_; have GW550 := n5_; have GE550 := n6_; have NB540_550 := n7_; have NB550_540 := n8_; clear n0_ n1_ n2_ n3_ n4_ n5_ n6_ n7_ n8_; clear hb hbox hg; have hnb21 := NB550_540.out; have hnc21 := NB540_550.out; have hcz22_0 : w20.cell? ⟨gb550, 0, none⟩ = some (.int .i64 0) := (blk_cell BK550.out 0).trans rfl; have hcz22_1 : w20.cell? ⟨gb550, 1, none⟩ = some (.slice none 0 0) := (blk_cell BK550.out 1).trans rfl; have hcz22_2 : w20.cell? ⟨gb550, 2, none⟩ = some (.slice none 0 0) := (blk_cell BK550.out 2).trans rfl; have hfz22_0 := blk_frozen BK550.out 0; have hfz22_1 := blk_frozen BK550.out 1; have hfz22_2 := blk_frozen BK550.out 2; obtain ⟨Ao23, co23, eo23⟩ := Kd.S_slice HO545.out; subst eo23; obtain ⟨Ao24, co24, eo24⟩ := Kd.R_slice HO548.out; subst eo24) | ((with_reducible refine gate_dst (N := 40) rfl ?_); (try (refine gate_guard (by rfl) ?_; dsimp only)); refine Kd.S_lit (Kd.slice 2 (Kd.int .i64)) _ 23 ?hg (N := 40) ?hd (xs := ([] : List (List Int))) (inner := []) (ok := fun _ => True) (okp := fun _ => True) ?hr ?hp (fun _ hk => hk) trivial (Below.refl _ _) (Nat.le_refl _) (by simp) ?_; (case hd => rfl); (case hg => rfl); (case hr => first | (go_simp; done) | (go_simp; rfl)); (case hp => exact (Reps.none _ _)); intro v552 w25 ho26 hb hg_ hnew_; clear hg_ hnew_; (first | rw [← Ny551.out] at ho26 | (simp only [Int.reduceToNat] at ho26; rw [← Ny551.out] at ho26)); have n0_ := Aside0.mk (Kd.S_elder' (by (with_reducible repeat (first | apply Kd.S_alloc | apply Kd.S_drewN | apply Kd.S_drew)); exact (Kd.S_mono (Kd.S_far (p := ⟨gb550, 2, none⟩) (Kd.S_far (p := ⟨gb550, 1, none⟩) (Kd.S_far (p := ⟨gb550, 0, none⟩) (Kd.S_types HO545.out BK550.out (by decide)) (fun _ hk => hk.2) (.int .i64 t542)) (fun _ hk => hk.2) (.slice Ao23 t543.length co23)) (fun _ hk => hk.2) (.slice Ao24 t546.length co24)) (fun _ h_ => h_.1))) (Kd.S_base ho26) hb); have n1_ := Aside0.mk (Kd.R_below (by (with_reducible repeat (first | apply Kd.R_alloc | apply Kd.R_drewN | apply Kd.R_drew)); exact (Kd.R_mono (Kd.R_far (p := ⟨gb550, 2, none⟩) (Kd.R_far (p := ⟨gb550, 1, none⟩) (Kd.R_far (p := ⟨gb550, 0, none⟩) (Kd.R_types HO548.out BK550.out (by decide)) (fun _ hk => hk.2) (.int .i64 t542)) (fun _ hk => hk.2) (.slice Ao23 t543.length co23)) (fun _ hk => hk.2) (.slice Ao24 t546.length co24)) (fun _ h_ => h_.1))) hb); have n2_ := Aside0.mk (Kd.S_lower (Kd.S_new' (Kd.S_new' ho26 (Kd.S_lt (by (with_reducible repeat (first | apply Kd.S_alloc | apply Kd.S_drewN | apply Kd.S_drew)); exact (Kd.S_mono (Kd.S_far (p := ⟨gb550, 2, none⟩) (Kd.S_far (p := ⟨gb550, 1, none⟩) (Kd.S_far (p := ⟨gb550, 0, none⟩) (Kd.S_types HO545.out BK550.out (by decide)) (fun _ hk => hk.2) (.int .i64 t542)) (fun _ hk => hk.2) (.slice Ao23 t543.length co23)) (fun _ hk => hk.2) (.slice Ao24 t546.length co24)) (fun _ h_ => h_.1))))) (Kd.R_lt (by (with_reducible repeat (first | apply Kd.R_alloc | apply Kd.R_drewN | apply Kd.R_drew)); exact (Kd.R_mono (Kd.R_far (p := ⟨gb550, 2, none⟩) (Kd.R_far (p := ⟨gb550, 1, none⟩) (Kd.R_far (p := ⟨gb550, 0, none⟩) (Kd.R_types HO548.out BK550.out (by decide)) (fun _ hk => hk.2) (.int .i64 t542)) (fun _ hk => hk.2) (.slice Ao23 t543.length co23)) (fun _ hk => hk.2) (.slice Ao24 t546.length co24)) (fun _ h_ => h_.1))))) bz_); have n3_ := Aside0.mk (blk_below (g := gb540) (o := .cells #[.slice A0_0 l0_0.length c0_0, .slice A0_1 l0_1.length c0_1] 29 (0, 0)) (by (with_reducible repeat (first | refine blk_drewN ?_ _ | refine blk_drew ?_ | refine blk_alloc ?_ _)); refine blk_far ?_ NB540_550.out _; (with_reducible repeat (first | refine blk_drewN ?_ _ | refine blk_drew ?_ | refine blk_alloc ?_ _)); refine blk_far ?_ NB540_550.out _; (with_reducible repeat (first | refine blk_drewN ?_ _ | refine blk_drew ?_ | refine blk_alloc ?_ _)); refine blk_far ?_ NB540_550.out _; (with_reducible repeat (first | refine blk_drewN ?_ _ | refine blk_drew ?_ | refine blk_alloc ?_ _)); exact BK540.out) hb); have n4_ := Aside0.mk (blk_below (g := gb550) (o := .cells #[.int .i64 t542, .slice Ao23 t543.length co23, .slice Ao24 t546.length co24] 75 (0, 0)) (by (with_reducible repeat (first | refine blk_drewN ?_ _ | refine blk_drew ?_ | refine blk_alloc ?_ _)); refine blk_put (cs := #[.int .i64 t542, .slice Ao23 t543.length co23, .slice none 0 0]) ?_ 2 _ rfl; (with_reducible repeat (first | refine blk_drewN ?_ _ | refine blk_drew ?_ | refine blk_alloc ?_ _)); refine blk_put (cs := #[.int .i64 t542, .slice none 0 0, .slice none 0 0]) ?_ 1 _ rfl; (with_reducible repeat (first | refine blk_drewN ?_ _ | refine blk_drew ?_ | refine blk_alloc ?_ _)); refine blk_put (cs := #[.int .i64 0, .slice none 0 0, .slice none 0 0]) ?_ 0 _ rfl; (with_reducible repeat (first | refine blk_drewN ?_ _ | refine blk_drew ?_ | refine blk_alloc ?_ _)); exact BK550.out) hb); have n5_ := Aside0.mk (bs_ hb); clear HO545; clear HO548; clear BK540; clear BK550; clear HB; have HO545 := n0_; have HO548 := n1_; have HO553 := n2_; have BK540 := n3_; have BK550 := n4_; have HB := n5_; clear n0_ n1_ n2_ n3_ n4_ n5_; clear hb ho26))
       repeat (go_quiet (first | (go_at_call 75; (with_reducible refine (spec_l04Pivot.calls kj12 _ _ l0_0 _ _ l0_1 a1 t542 t543 t546 true _ ?side1 ?side2 ?side3 ?side4 A16.out).mono ?_); (case side1 => exact cb_ HR0_0.out HB.out); (case side2 => exact HC0_0.out); (case side3 => exact cb_ HR0_1.out HB.out); (case side4 => exact HC0_1.out); rintro e w19 ⟨v544, v547, rfl, ho0, ho1, hb⟩; have n0_ := Aside0.mk (Kd.S_lower ho0 bz_); have n1_ := Aside0.mk (Kd.R_lower ho1 bz_); have n2_ := Aside0.mk (bb_ BK540.out hb); have n3_ := Aside0.mk (bs_ hb); clear BK540; clear HB; have HO545 := n0_; have HO548 := n1_; have BK540 := n2_; have HB := n3_; clear n0_ n1_ n2_ n3_; (try clear hb); (try clear hb2); (try clear hk); (try clear hi); (try clear ho0); (try clear ho1)) | ((with_reducible refine gate_dst (N := 8) rfl ?_); (try (refine gate_guard (by rfl) ?_; dsimp only)); refine box_event ?hg (N := 8) ?hd (cs := #[.int .i64 0, .slice none 0 0, .slice none 0 0]) (t := 75) ?hr ?_; (case hd => rfl); (case hg => rfl); (case hr => first | (go_simp; done) | (go_simp; rfl)); intro gb550 hg w20 hbox hb; have n0_ := Aside0.mk (Kd.S_below (so_ HO545.out) hb); have n1_ := Aside0.mk (rb_ HO548.out hb); have n2_ := Aside0.mk (bb_ BK540.out hb); have n3_ := Aside0.mk (bs_ hb); have n4_ := Aside0.mk (hbox); have n5_ := Aside0.mk ((by rw [hg]; exact bz_ : w.heap.size ≤ gb550)); have n6_ := Aside0.mk ((by rw [hg]; exact bz_ : w.heap.size ≤ gb550)); have n7_ := Aside0.mk ((by rw [hg]; exact lt_ BK540.out : gb540 ≠ gb550)); have n8_ := Aside0.mk ((by rw [hg]; exact gt_ BK540.out : gb550 ≠ gb540)); clear HO545; clear HO548; clear BK540; clear HB; have HO545 := n0_; have HO548 := n1_; have BK540 := n2_; have HB := n3_; have BK550 := n4_; have GW550 := n5_; have GE550 := n6_; have NB540_550 := n7_; have NB550_540 := n8_; clear n0_ n1_ n2_ n3_ n4_ n5_ n6_ n7_ n8_; clear hb hbox hg; have hnb21 := NB550_540.out; have hnc21 := NB540_550.out; have hcz22_0 : w20.cell? ⟨gb550, 0, none⟩ = some (.int .i64 0) := (blk_cell BK550.out 0).trans rfl; have hcz22_1 : w20.cell? ⟨gb550, 1, none⟩ = some (.slice none 0 0) := (blk_cell BK550.out 1).trans rfl; have hcz22_2 : w20.cell? ⟨gb550, 2, none⟩ = some (.slice none 0 0) := (blk_cell BK550.out 2).trans rfl; have hfz22_0 := blk_frozen BK550.out 0; have hfz22_1 := blk_frozen BK550.out 1; have hfz22_2 := blk_frozen BK550.out 2; obtain ⟨Ao23, co23, eo23⟩ := Kd.S_slice HO545.out; subst eo23; obtain ⟨Ao24, co24, eo24⟩ := Kd.R_slice HO548.out; subst eo24) | ((with_reducible refine gate_dst (N := 40) rfl ?_); (try (refine gate_guard (by rfl) ?_; dsimp only)); refine Kd.S_lit (Kd.slice 2 (Kd.int .i64)) _ 23 ?hg (N := 40) ?hd (xs := ([] : List (List Int))) (inner := []) (ok := fun _ => True) (okp := fun _ => True) ?hr ?hp (fun _ hk => hk) trivial (Below.refl _ _) (Nat.le_refl _) (by simp) ?_; (case hd => rfl); (case hg => rfl); (case hr => first | (go_simp; done) | (go_simp; rfl)); (case hp => exact (Reps.none _ _)); intro v552 w25 ho26 hb hg_ hnew_; clear hg_ hnew_; (first | rw [← Ny551.out] at ho26 | (simp only [Int.reduceToNat] at ho26; rw [← Ny551.out] at ho26)); have n0_ := Aside0.mk (Kd.S_elder' (by (with_reducible repeat (first | apply Kd.S_alloc | apply Kd.S_drewN | apply Kd.S_drew)); exact (Kd.S_mono (Kd.S_far (p := ⟨gb550, 2, none⟩) (Kd.S_far (p := ⟨gb550, 1, none⟩) (Kd.S_far (p := ⟨gb550, 0, none⟩) (Kd.S_types HO545.out BK550.out (by decide)) (fun _ hk => hk.2) (.int .i64 t542)) (fun _ hk => hk.2) (.slice Ao23 t543.length co23)) (fun _ hk => hk.2) (.slice Ao24 t546.length co24)) (fun _ h_ => h_.1))) (Kd.S_base ho26) hb); have n1_ := Aside0.mk (Kd.R_below (by (with_reducible repeat (first | apply Kd.R_alloc | apply Kd.R_drewN | apply Kd.R_drew)); exact (Kd.R_mono (Kd.R_far (p := ⟨gb550, 2, none⟩) (Kd.R_far (p := ⟨gb550, 1, none⟩) (Kd.R_far (p := ⟨gb550, 0, none⟩) (Kd.R_types HO548.out BK550.out (by decide)) (fun _ hk => hk.2) (.int .i64 t542)) (fun _ hk => hk.2) (.slice Ao23 t543.length co23)) (fun _ hk => hk.2) (.slice Ao24 t546.length co24)) (fun _ h_ => h_.1))) hb); have n2_ := Aside0.mk (Kd.S_lower (Kd.S_new' (Kd.S_new' ho26 (Kd.S_lt (by (with_reducible repeat (first | apply Kd.S_alloc | apply Kd.S_drewN | apply Kd.S_drew)); exact (Kd.S_mono (Kd.S_far (p := ⟨gb550, 2, none⟩) (Kd.S_far (p := ⟨gb550, 1, none⟩) (Kd.S_far (p := ⟨gb550, 0, none⟩) (Kd.S_types HO545.out BK550.out (by decide)) (fun _ hk => hk.2) (.int .i64 t542)) (fun _ hk => hk.2) (.slice Ao23 t543.length co23)) (fun _ hk => hk.2) (.slice Ao24 t546.length co24)) (fun _ h_ => h_.1))))) (Kd.R_lt (by (with_reducible repeat (first | apply Kd.R_alloc | apply Kd.R_drewN | apply Kd.R_drew)); exact (Kd.R_mono (Kd.R_far (p := ⟨gb550, 2, none⟩) (Kd.R_far (p := ⟨gb550, 1, none⟩) (Kd.R_far (p := ⟨gb550, 0, none⟩) (Kd.R_types HO548.out BK550.out (by decide)) (fun _ hk => hk.2) (.int .i64 t542)) (fun _ hk => hk.2) (.slice Ao23 t543.length co23)) (fun _ hk => hk.2) (.slice Ao24 t546.length co24)) (fun _ h_ => h_.1))))) bz_); have n3_ := Aside0.mk (blk_below (g := gb540) (o := .cells #[.slice A0_0 l0_0.length c0_0, .slice A0_1 l0_1.length c0_1] 29 (0, 0)) (by (with_reducible repeat (first | refine blk_drewN ?_ _ | refine blk_drew ?_ | refine blk_alloc ?_ _)); refine blk_far ?_ NB540_550.out _; (with_reducible repeat (first | refine blk_drewN ?_ _ | refine blk_drew ?_ | refine blk_alloc ?_ _)); refine blk_far ?_ NB540_550.out _; (with_reducible repeat (first | refine blk_drewN ?_ _ | refine blk_drew ?_ | refine blk_alloc ?_ _)); refine blk_far ?_ NB540_550.out _; (with_reducible repeat (first | refine blk_drewN ?_ _ | refine blk_drew ?_ | refine blk_alloc ?_ _)); exact BK540.out) hb); have n4_ := Aside0.mk (blk_below (g := gb550) (o := .cells #[.int .i64 t542, .slice Ao23 t543.length co23, .slice Ao24 t546.length co24] 75 (0, 0)) (by (with_reducible repeat (first | refine blk_drewN ?_ _ | refine blk_drew ?_ | refine blk_alloc ?_ _)); refine blk_put (cs := #[.int .i64 t542, .slice Ao23 t543.length co23, .slice none 0 0]) ?_ 2 _ rfl; (with_reducible repeat (first | refine blk_drewN ?_ _ | refine blk_drew ?_ | refine blk_alloc ?_ _)); refine blk_put (cs := #[.int .i64 t542, .slice none 0 0, .slice none 0 0]) ?_ 1 _ rfl; (with_reducible repeat (first | refine blk_drewN ?_ _ | refine blk_drew ?_ | refine blk_alloc ?_ _)); refine blk_put (cs := #[.int .i64 0, .slice none 0 0, .slice none 0 0]) ?_ 0 _ rfl; (with_reducible repeat (first | refine blk_drewN ?_ _ | refine blk_drew ?_ | refine blk_alloc ?_ _)); exact BK550.out) hb); have n5_ := Aside0.mk (bs_ hb); clear HO545; clear HO548; clear BK540; clear BK550; clear HB; have HO545 := n0_; have HO548 := n1_; have HO553 := n2_; have BK540 := n3_; have BK550 := n4_; have HB := n5_; clear n0_ n1_ n2_ n3_ n4_ n5_; clear hb ho26)); try go_wp2_with (first | (go_at_call 75; (with_reducible refine (spec_l04Pivot.calls kj12 _ _ l0_0 _ _ l0_1 a1 t542 t543 t546 true _ ?side1 ?side2 ?side3 ?side4 A16.out).mono ?_); (case side1 => exact cb_ HR0_0.out HB.out); (case side2 => exact HC0_0.out); (case side3 => exact cb_ HR0_1.out HB.out); (case side4 => exact HC0_1.out); rintro e w19 ⟨v544, v547, rfl, ho0, ho1, hb⟩; have n0_ := Aside0.mk (Kd.S_lower ho0 bz_); have n1_ := Aside0.mk (Kd.R_lower ho1 bz_); have n2_ := Aside0.mk (bb_ BK540.out hb); have n3_ := Aside0.mk (bs_ hb); clear BK540; clear HB; have HO545 := n0_; have HO548 := n1_; have BK540 := n2_; have HB := n3_; clear n0_ n1_ n2_ n3_; (try clear hb); (try clear hb2); (try clear hk); (try clear hi); (try clear ho0); (try clear ho1)) | ((with_reducible refine gate_dst (N := 8) rfl ?_); (try (refine gate_guard (by rfl) ?_; dsimp only)); refine box_event ?hg (N := 8) ?hd (cs := #[.int .i64 0, .slice none 0 0, .slice none 0 0]) (t := 75) ?hr ?_; (case hd => rfl); (case hg => rfl); (case hr => first | (go_simp; done) | (go_simp; rfl)); intro gb550 hg w20 hbox hb; have n0_ := Aside0.mk (Kd.S_below (so_ HO545.out) hb); have n1_ := Aside0.mk (rb_ HO548.out hb); have n2_ := Aside0.mk (bb_ BK540.out hb); have n3_ := Aside0.mk (bs_ hb); have n4_ := Aside0.mk (hbox); have n5_ := Aside0.mk ((by rw [hg]; exact bz_ : w.heap.size ≤ gb550)); have n6_ := Aside0.mk ((by rw [hg]; exact bz_ : w.heap.size ≤ gb550)); have n7_ := Aside0.mk ((by rw [hg]; exact lt_ BK540.out : gb540 ≠ gb550)); have n8_ := Aside0.mk ((by rw [hg]; exact gt_ BK540.out : gb550 ≠ gb540)); clear HO545; clear HO548; clear BK540; clear HB; have HO545 := n0_; have HO548 := n1_; have BK540 := n2_; have HB := n3_; have BK550 := n4_; have GW550 := n5_; have GE550 := n6_; have NB540_550 := n7_; have NB550_540 := n8_; clear n0_ n1_ n2_ n3_ n4_ n5_ n6_ n7_ n8_; clear hb hbox hg; have hnb21 := NB550_540.out; have hnc21 := NB540_550.out; have hcz22_0 : w20.cell? ⟨gb550, 0, none⟩ = some (.int .i64 0) := (blk_cell BK550.out 0).trans rfl; have hcz22_1 : w20.cell? ⟨gb550, 1, none⟩ = some (.slice none 0 0) := (blk_cell BK550.out 1).trans rfl; have hcz22_2 : w20.cell? ⟨gb550, 2, none⟩ = some (.slice none 0 0) := (blk_cell BK550.out 2).trans rfl; have hfz22_0 := blk_frozen BK550.out 0; have hfz22_1 := blk_frozen BK550.out 1; have hfz22_2 := blk_frozen BK550.out 2; obtain ⟨Ao23, co23, eo23⟩ := Kd.S_slice HO545.out; subst eo23; obtain ⟨Ao24, co24, eo24⟩ := Kd.R_slice HO548.out; subst eo24) | ((with_reducible refine gate_dst (N := 40) rfl ?_); (try (refine gate_guard (by rfl) ?_; dsimp only)); refine Kd.S_lit (Kd.slice 2 (Kd.int .i64)) _ 23 ?hg (N := 40) ?hd (xs := ([] : List (List Int))) (inner := []) (ok := fun _ => True) (okp := fun _ => True) ?hr ?hp (fun _ hk => hk) trivial (Below.refl _ _) (Nat.le_refl _) (by simp) ?_; (case hd => rfl); (case hg => rfl); (case hr => first | (go_simp; done) | (go_simp; rfl)); (case hp => exact (Reps.none _ _)); intro v552 w25 ho26 hb hg_ hnew_; clear hg_ hnew_; (first | rw [← Ny551.out] at ho26 | (simp only [Int.reduceToNat] at ho26; rw [← Ny551.out] at ho26)); have n0_ := Aside0.mk (Kd.S_elder' (by (with_reducible repeat (first | apply Kd.S_alloc | apply Kd.S_drewN | apply Kd.S_drew)); exact (Kd.S_mono (Kd.S_far (p := ⟨gb550, 2, none⟩) (Kd.S_far (p := ⟨gb550, 1, none⟩) (Kd.S_far (p := ⟨gb550, 0, none⟩) (Kd.S_types HO545.out BK550.out (by decide)) (fun _ hk => hk.2) (.int .i64 t542)) (fun _ hk => hk.2) (.slice Ao23 t543.length co23)) (fun _ hk => hk.2) (.slice Ao24 t546.length co24)) (fun _ h_ => h_.1))) (Kd.S_base ho26) hb); have n1_ := Aside0.mk (Kd.R_below (by (with_reducible repeat (first | apply Kd.R_alloc | apply Kd.R_drewN | apply Kd.R_drew)); exact (Kd.R_mono (Kd.R_far (p := ⟨gb550, 2, none⟩) (Kd.R_far (p := ⟨gb550, 1, none⟩) (Kd.R_far (p := ⟨gb550, 0, none⟩) (Kd.R_types HO548.out BK550.out (by decide)) (fun _ hk => hk.2) (.int .i64 t542)) (fun _ hk => hk.2) (.slice Ao23 t543.length co23)) (fun _ hk => hk.2) (.slice Ao24 t546.length co24)) (fun _ h_ => h_.1))) hb); have n2_ := Aside0.mk (Kd.S_lower (Kd.S_new' (Kd.S_new' ho26 (Kd.S_lt (by (with_reducible repeat (first | apply Kd.S_alloc | apply Kd.S_drewN | apply Kd.S_drew)); exact (Kd.S_mono (Kd.S_far (p := ⟨gb550, 2, none⟩) (Kd.S_far (p := ⟨gb550, 1, none⟩) (Kd.S_far (p := ⟨gb550, 0, none⟩) (Kd.S_types HO545.out BK550.out (by decide)) (fun _ hk => hk.2) (.int .i64 t542)) (fun _ hk => hk.2) (.slice Ao23 t543.length co23)) (fun _ hk => hk.2) (.slice Ao24 t546.length co24)) (fun _ h_ => h_.1))))) (Kd.R_lt (by (with_reducible repeat (first | apply Kd.R_alloc | apply Kd.R_drewN | apply Kd.R_drew)); exact (Kd.R_mono (Kd.R_far (p := ⟨gb550, 2, none⟩) (Kd.R_far (p := ⟨gb550, 1, none⟩) (Kd.R_far (p := ⟨gb550, 0, none⟩) (Kd.R_types HO548.out BK550.out (by decide)) (fun _ hk => hk.2) (.int .i64 t542)) (fun _ hk => hk.2) (.slice Ao23 t543.length co23)) (fun _ hk => hk.2) (.slice Ao24 t546.length co24)) (fun _ h_ => h_.1))))) bz_); have n3_ := Aside0.mk (blk_below (g := gb540) (o := .cells #[.slice A0_0 l0_0.length c0_0, .slice A0_1 l0_1.length c0_1] 29 (0, 0)) (by (with_reducible repeat (first | refine blk_drewN ?_ _ | refine blk_drew ?_ | refine blk_alloc ?_ _)); refine blk_far ?_ NB540_550.out _; (with_reducible repeat (first | refine blk_drewN ?_ _ | refine blk_drew ?_ | refine blk_alloc ?_ _)); refine blk_far ?_ NB540_550.out _; (with_reducible repeat (first | refine blk_drewN ?_ _ | refine blk_drew ?_ | refine blk_alloc ?_ _)); refine blk_far ?_ NB540_550.out _; (with_reducible repeat (first | refine blk_drewN ?_ _ | refine blk_drew ?_ | refine blk_alloc ?_ _)); exact BK540.out) hb); have n4_ := Aside0.mk (blk_below (g := gb550) (o := .cells #[.int .i64 t542, .slice Ao23 t543.length co23, .slice Ao24 t546.length co24] 75 (0, 0)) (by (with_reducible repeat (first | refine blk_drewN ?_ _ | refine blk_drew ?_ | refine blk_alloc ?_ _)); refine blk_put (cs := #[.int .i64 t542, .slice Ao23 t543.length co23, .slice none 0 0]) ?_ 2 _ rfl; (with_reducible repeat (first | refine blk_drewN ?_ _ | refine blk_drew ?_ | refine blk_alloc ?_ _)); refine blk_put (cs := #[.int .i64 t542, .slice none 0 0, .slice none 0 0]) ?_ 1 _ rfl; (with_reducible repeat (first | refine blk_drewN ?_ _ | refine blk_drew ?_ | refine blk_alloc ?_ _)); refine blk_put (cs := #[.int .i64 0, .slice none 0 0, .slice none 0 0]) ?_ 0 _ rfl; (with_reducible repeat (first | refine blk_drewN ?_ _ | refine blk_drew ?_ | refine blk_alloc ?_ _)); exact BK550.out) hb); have n5_ := Aside0.mk (bs_ hb); clear HO545; clear HO548; clear BK540; clear BK550; clear HB; have HO545 := n0_; have HO548 := n1_; have HO553 := n2_; have BK540 := n3_; have BK550 := n4_; have HB := n5_; clear n0_ n1_ n2_ n3_ n4_ n5_; clear hb ho26)))
       go_loopg [10, 11] kj12 (fun kq v10 v11 w' => ∃ (x10_3 : List (List Int)) (x11_3 : Int), v11 = .int .i64 x11_3 ∧ Aside0 (spec_ComplementOf.l0 kq a1 x10_3 x11_3 l0_0 l0_1 t542 t543 t546 = some (r1, r2, r3)) ∧ Aside0 (kq ≤ kj12) ∧ Aside0 (Kd.S (Kd.slice 2 (Kd.int .i64)) 23 w' w.heap.size (fun k_ => some k_ ≠ ((.slice Ao23 t543.length co23) : Value).ownBlock ∧ some k_ ≠ ((.slice Ao24 t546.length co24) : Value).ownBlock) v10 x10_3) ∧ Aside0 (Kd.S (Kd.slice 2 (Kd.int .i64)) 23 w' w.heap.size (fun k_ => some k_ ≠ (v10 : Value).ownBlock ∧ some k_ ≠ ((.slice Ao24 t546.length co24) : Value).ownBlock) (.slice Ao23 t543.length co23) t543) ∧ Aside0 (Kd.R (Kd.int .i64) 2 w' w.heap.size (fun _ => True) (.slice Ao24 t546.length co24) t546) ∧ Aside0 (w'.heap[gb540]? = some (.cells #[(.slice A0_0 l0_0.length c0_0), (.slice A0_1 l0_1.length c0_1)] 29 (0, 0))) ∧ Aside0 (w'.heap[gb550]? = some (.cells #[.int .i64 t542, (.slice Ao23 t543.length co23), (.slice Ao24 t546.length co24)] 75 (0, 0))) ∧ Aside0 (Below w.heap.size w w'))
       case atStart => exact ⟨(y551), (0), (by first | rfl | (simp; done) | (simp [*]; done)), H', ⟨Nat.le_refl _⟩, ⟨by (with_reducible repeat (first | apply Kd.S_alloc | apply Kd.S_drewN | apply Kd.S_drew)); exact Kd.S_mono HO553.out (fun _ hk => ⟨hk.1.2, hk.2⟩)⟩, ⟨by (with_reducible repeat (first | apply Kd.S_alloc | apply Kd.S_drewN | apply Kd.S_drew)); exact Kd.S_mono HO545.out (fun _ hk => ⟨hk.2, hk.1⟩)⟩, ⟨ro_ HO548.out⟩, ⟨bk_⟩, ⟨bk_⟩, ⟨hb_⟩⟩
       case round =>
        clear H'
        try clear c1
        try clear c2
        try clear p2
        try clear p6
        try clear c8
        try clear c8b0
        try clear c8b1
        try clear c10
        try clear c10b0
        try clear c10b1
        try clear c14
        try clear c15
        try clear c15b0
        try clear c15b1
        try clear c17
        try clear c21
        try clear hcz12_0
        try clear hcz12_1
        try clear hcz18_0
        try clear hcz18_1
        try clear hcz22_0
        try clear hcz22_1
        try clear hcz22_2
        try clear hcz6_0
        try clear hcz6_1
        try clear hfz12_0
        try clear hfz12_1
        try clear hfz18_0
        try clear hfz18_1
        try clear hfz22_0
        try clear hfz22_1
        try clear hfz22_2
        try clear hfz6_0
        try clear hfz6_1
        try clear p2
        try clear p6
        obtain ⟨x10_3, x11_3, rfl, HA, HK3, HO_10, HO_551001, HO_551002, BK540, BK550, HB⟩ := hrel
        cases gk with
        | zero => exact absurd HA.out (by simp [spec_ComplementOf.l0])
        | succ k3 =>
         have H := HA.out
         clear HA
         simp only [spec_ComplementOf.l0] at H
         by_cases c27 : x11_3 < (l0_1.length : Int)
         ·rw [if_pos c27] at H
          have c27b0 : decide (x11_3 < (l0_1.length : Int)) = true := decide_eq_true c27
          clear c27
          obtain ⟨ji28, hji28⟩ : ∃ j_ : Int, (IntKind.u64.wrap (x11_3)) = j_ := ⟨_, rfl⟩
          replace H : (if 0 ≤ (ji28) then (if (Go.bits .and .i64 (shr .i64 a1 (ji28)) 1) = 1 then (spec_ComplementOf.l0 k3 a1 x10_3 (wrap64 (x11_3 + 1)) l0_0 l0_1 t542 t543 t546) else (spec_ComplementOf.l1 k3 a1 x10_3 x11_3 (([] : List Int)) 0 l0_0 l0_1 t542 t543 t546)) else (none)) = some (r1, r2, r3) := by first | (rw [hji28] at H; exact H) | (simp only [hji28] at H ⊢; exact H)
          by_cases c29 : 0 ≤ (ji28)
          ·rw [if_pos c29] at H
           have c29b0 := eq_true c29
           have c29b1 : decide (0 ≤ (ji28)) = true := decide_eq_true c29
           clear c29
           obtain ⟨ji30, hji30⟩ : ∃ j_ : Int, (shr .i64 a1 (ji28)) = j_ := ⟨_, rfl⟩
           replace H : (if (Go.bits .and .i64 (ji30) 1) = 1 then (spec_ComplementOf.l0 k3 a1 x10_3 (wrap64 (x11_3 + 1)) l0_0 l0_1 t542 t543 t546) else (spec_ComplementOf.l1 k3 a1 x10_3 x11_3 (([] : List Int)) 0 l0_0 l0_1 t542 t543 t546)) = some (r1, r2, r3) := by first | (rw [hji30] at H; exact H) | (simp only [hji30] at H ⊢; exact H)
           have hji30_ : (a1 / 2 ^ min (ji28).toNat 64) = ji30 := hji30
           have hji30z : (ji28) ≤ 64 → (a1 / 2 ^ (ji28).toNat) = ji30 := shr_small hji30
           by_cases c31 : (Go.bits .and .i64 (ji30) 1) = 1
           ·rw [if_pos c31] at H
            have c31b0 : ((Go.bits .and .i64 (ji30) 1) == 1) = true := beq_iff_eq.mpr c31
            have c31b1 : ((Go.bits .and .i64 (ji30) 1) != 1) = false := bne_eq_false_iff_eq.mpr c31
            clear c31
            have H' := Aside0.mk H
            clear H
            have hnb32 := NB540_550.out
            have hnc32 := NB550_540.out
            have hcz33_0 : wr.cell? ⟨gb540, 0, none⟩ = some (.slice A0_0 l0_0.length c0_0) := (blk_cell BK540.out 0).trans rfl
            have hcz33_1 : wr.cell? ⟨gb540, 1, none⟩ = some (.slice A0_1 l0_1.length c0_1) := (blk_cell BK540.out 1).trans rfl
            have hfz33_0 := blk_frozen BK540.out 0
            have hfz33_1 := blk_frozen BK540.out 1
            go_wp2
            repeat (go_quiet (fail); try go_wp2)
            go_roundg k3
            case measure => have := HJ3.out; have := HJ12.out; have := HK3.out; omega
            case rel => exact ⟨(x10_3), (wrap64 (x11_3 + 1)), (by first | rfl | (simp; done) | (simp [*]; done)), H', ⟨by have := HJ3.out; have := HJ12.out; have := HK3.out; omega⟩, ⟨so_ HO_10.out⟩, ⟨so_ HO_551001.out⟩, ⟨ro_ HO_551002.out⟩, ⟨bk_⟩, ⟨bk_⟩, ⟨hb_⟩⟩
           ·rw [if_neg c31] at H
            have c31b0 : ((Go.bits .and .i64 (ji30) 1) == 1) = false := beq_eq_false_iff_ne.mpr c31
            have c31b1 : ((Go.bits .and .i64 (ji30) 1) != 1) = true := bne_iff_ne.mpr c31
            obtain ⟨y554, hy554⟩ : ∃ y_ : List Int, y_ = (([] : List Int)) := ⟨_, rfl⟩
            replace H : (spec_ComplementOf.l1 k3 a1 x10_3 x11_3 y554 0 l0_0 l0_1 t542 t543 t546) = some (r1, r2, r3) := by first | (rw [hy554]; with_reducible exact H) | (have H2_ := (Option.bind_some _ _).symm.trans H; rw [hy554]; with_reducible exact H2_) | (have H2_ := (Option.bind_some _ _).symm.trans H; with_reducible exact H2_) | with_reducible exact H | (rw [hy554]; exact H) | exact H
            have Ny554 := Aside0.mk hy554
            clear hy554
            have H' := Aside0.mk H
            clear H
            have hnb34 := NB540_550.out
            have hnc34 := NB550_540.out
            have hcz35_0 : wr.cell? ⟨gb540, 0, none⟩ = some (.slice A0_0 l0_0.length c0_0) := (blk_cell BK540.out 0).trans rfl
            have hcz35_1 : wr.cell? ⟨gb540, 1, none⟩ = some (.slice A0_1 l0_1.length c0_1) := (blk_cell BK540.out 1).trans rfl
            have hfz35_0 := blk_frozen BK540.out 0
            have hfz35_1 := blk_frozen BK540.out 1
            go_wp2_with (first | ((with_reducible refine gate_dst (N := 54) rfl ?_); (try (refine gate_guard (by rfl) ?_; dsimp only)); refine Kd.R_lit (Kd.int .i64) _ 2 ?hg (N := 54) ?hd (xs := ([] : List Int)) (inner := []) (ok := fun _ => True) (okp := fun _ => True) ?hr ?hp (fun _ hk => hk) trivial (Below.refl _ _) (Nat.le_refl _) (by simp) ?_; (case hd => rfl); (case hg => rfl); (case hr => first | (go_simp; done) | (go_simp; rfl)); (case hp => exact (Reps.none _ _)); intro v555 w36 ho37 hb hg_ hnew_; clear hg_ hnew_; (first | rw [← Ny554.out] at ho37 | (simp only [Int.reduceToNat] at ho37; rw [← Ny554.out] at ho37)); have n0_ := Aside0.mk (Kd.S_elder' (so_ HO_10.out) (Kd.R_base ho37) hb); have n1_ := Aside0.mk (Kd.S_elder' (so_ HO_551001.out) (Kd.R_base ho37) hb); have n2_ := Aside0.mk (Kd.R_elder' (ro_ HO_551002.out) (Kd.R_base ho37) hb); have n3_ := Aside0.mk (Kd.R_lower (Kd.R_new' ho37 (Kd.R_lt (ro_ HO_551002.out))) bz_); have n4_ := Aside0.mk (bb_ BK540.out hb); have n5_ := Aside0.mk (bb_ BK550.out hb); have n6_ := Aside0.mk (bs_ hb); clear HO_10; clear HO_551001; clear HO_551002; clear BK540; clear BK550; clear HB; have HO_10 := n0_; have HO_551001 := n1_; have HO_551002 := n2_; have HO556 := n3_; have BK540 := n4_; have BK550 := n5_; have HB := n6_; clear n0_ n1_ n2_ n3_ n4_ n5_ n6_; clear hb ho37))
            repeat (go_quiet (first | ((with_reducible refine gate_dst (N := 54) rfl ?_); (try (refine gate_guard (by rfl) ?_; dsimp only)); refine Kd.R_lit (Kd.int .i64) _ 2 ?hg (N := 54) ?hd (xs := ([] : List Int)) (inner := []) (ok := fun _ => True) (okp := fun _ => True) ?hr ?hp (fun _ hk => hk) trivial (Below.refl _ _) (Nat.le_refl _) (by simp) ?_; (case hd => rfl); (case hg => rfl); (case hr => first | (go_simp; done) | (go_simp; rfl)); (case hp => exact (Reps.none _ _)); intro v555 w36 ho37 hb hg_ hnew_; clear hg_ hnew_; (first | rw [← Ny554.out] at ho37 | (simp only [Int.reduceToNat] at ho37; rw [← Ny554.out] at ho37)); have n0_ := Aside0.mk (Kd.S_elder' (so_ HO_10.out) (Kd.R_base ho37) hb); have n1_ := Aside0.mk (Kd.S_elder' (so_ HO_551001.out) (Kd.R_base ho37) hb); have n2_ := Aside0.mk (Kd.R_elder' (ro_ HO_551002.out) (Kd.R_base ho37) hb); have n3_ := Aside0.mk (Kd.R_lower (Kd.R_new' ho37 (Kd.R_lt (ro_ HO_551002.out))) bz_); have n4_ := Aside0.mk (bb_ BK540.out hb); have n5_ := Aside0.mk (bb_ BK550.out hb); have n6_ := Aside0.mk (bs_ hb); clear HO_10; clear HO_551001; clear HO_551002; clear BK540; clear BK550; clear HB; have HO_10 := n0_; have HO_551001 := n1_; have HO_551002 := n2_; have HO556 := n3_; have BK540 := n4_; have BK550 := n5_; have HB := n6_; clear n0_ n1_ n2_ n3_ n4_ n5_ n6_; clear hb ho37)); try go_wp2_with (first | ((with_reducible refine gate_dst (N := 54) rfl ?_); (try (refine gate_guard (by rfl) ?_; dsimp only)); refine Kd.R_lit (Kd.int .i64) _ 2 ?hg (N := 54) ?hd (xs := ([] : List Int)) (inner := []) (ok := fun _ => True) (okp := fun _ => True) ?hr ?hp (fun _ hk => hk) trivial (Below.refl _ _) (Nat.le_refl _) (by simp) ?_; (case hd => rfl); (case hg => rfl); (case hr => first | (go_simp; done) | (go_simp; rfl)); (case hp => exact (Reps.none _ _)); intro v555 w36 ho37 hb hg_ hnew_; clear hg_ hnew_; (first | rw [← Ny554.out] at ho37 | (simp only [Int.reduceToNat] at ho37; rw [← Ny554.out] at ho37)); have n0_ := Aside0.mk (Kd.S_elder' (so_ HO_10.out) (Kd.R_base ho37) hb); have n1_ := Aside0.mk (Kd.S_elder' (so_ HO_551001.out) (Kd.R_base ho37) hb); have n2_ := Aside0.mk (Kd.R_elder' (ro_ HO_551002.out) (Kd.R_base ho37) hb); have n3_ := Aside0.mk (Kd.R_lower (Kd.R_new' ho37 (Kd.R_lt (ro_ HO_551002.out))) bz_); have n4_ := Aside0.mk (bb_ BK540.out hb); have n5_ := Aside0.mk (bb_ BK550.out hb); have n6_ := Aside0.mk (bs_ hb); clear HO_10; clear HO_551001; clear HO_551002; clear BK540; clear BK550; clear HB; have HO_10 := n0_; have HO_551001 := n1_; have HO_551002 := n2_; have HO556 := n3_; have BK540 := n4_; have BK550 := n5_; have HB := n6_; clear n0_ n1_ n2_ n3_ n4_ n5_ n6_; clear hb ho37)))
            go_loopg [12, 13] k3 (fun kq v12 v13 w' => ∃ (x12_4 : List Int) (x13_4 : Int), v13 = .int .i64 x13_4 ∧ Aside0 (spec_ComplementOf.l1 kq a1 x10_3 x11_3 x12_4 x13_4 l0_0 l0_1 t542 t543 t546 = some (r1, r2, r3)) ∧ Aside0 (kq ≤ k3) ∧ Aside0 (Kd.S (Kd.slice 2 (Kd.int .i64)) 23 w' w.heap.size (fun k_ => some k_ ≠ (v12 : Value).ownBlock ∧ some k_ ≠ ((.slice Ao23 t543.length co23) : Value).ownBlock ∧ some k_ ≠ ((.slice Ao24 t546.length co24) : Value).ownBlock) u10 x10_3) ∧ Aside0 (Kd.R (Kd.int .i64) 2 w' w.heap.size (fun k_ => some k_ ≠ ((.slice Ao24 t546.length co24) : Value).ownBlock) v12 x12_4) ∧ Aside0 (Kd.S (Kd.slice 2 (Kd.int .i64)) 23 w' w.heap.size (fun k_ => some k_ ≠ (u10 : Value).ownBlock ∧ some k_ ≠ (v12 : Value).ownBlock ∧ some k_ ≠ ((.slice Ao24 t546.length co24) : Value).ownBlock) (.slice Ao23 t543.length co23) t543) ∧ Aside0 (Kd.R (Kd.int .i64) 2 w' w.heap.size (fun k_ => some k_ ≠ (v12 : Value).ownBlock) (.slice Ao24 t546.length co24) t546) ∧ Aside0 (w'.heap[gb540]? = some (.cells #[(.slice A0_0 l0_0.length c0_0), (.slice A0_1 l0_1.length c0_1)] 29 (0, 0))) ∧ Aside0 (w'.heap[gb550]? = some (.cells #[.int .i64 t542, (.slice Ao23 t543.length co23), (.slice Ao24 t546.length co24)] 75 (0, 0))) ∧ Aside0 (Below w.heap.size w w'))
            case atStart => exact ⟨(y554), (0), (by first | rfl | (simp; done) | (simp [*]; done)), H', ⟨Nat.le_refl _⟩, ⟨by (with_reducible repeat (first | apply Kd.S_alloc | apply Kd.S_drewN | apply Kd.S_drew)); exact Kd.S_mono HO_10.out (fun _ hk => ⟨hk.2, ⟨hk.1.1, hk.1.2⟩⟩)⟩, ⟨by (with_reducible repeat (first | apply Kd.R_alloc | apply Kd.R_drewN | apply Kd.R_drew)); exact Kd.R_mono HO556.out (fun _ hk => hk.2)⟩, ⟨by (with_reducible repeat (first | apply Kd.S_alloc | apply Kd.S_drewN | apply Kd.S_drew)); exact Kd.S_mono HO_551001.out (fun _ hk => ⟨hk.1.1, ⟨hk.2, hk.1.2⟩⟩)⟩, ⟨by (with_reducible repeat (first | apply Kd.R_alloc | apply Kd.R_drewN | apply Kd.R_drew)); exact Kd.R_mono HO_551002.out (fun _ hk => hk.2)⟩, ⟨bk_⟩, ⟨bk_⟩, ⟨hb_⟩⟩
            case round =>
             clear H'
             try clear c1
             try clear c2
             try clear p2
             try clear c3
             try clear p6
             try clear c8
             try clear c8b0
             try clear c8b1
             try clear c10
             try clear c10b0
             try clear c10b1
             try clear c14
             try clear c15
             try clear c15b0
             try clear c15b1
             try clear c17
             try clear c21
             try clear c27
             try clear c27b0
             try clear c29
             try clear c29b0
             try clear c29b1
             try clear c31
             try clear c31b0
             try clear c31b1
             try clear c32
             try clear c34
             try clear hcz12_0
             try clear hcz12_1
             try clear hcz18_0
             try clear hcz18_1
             try clear hcz22_0
             try clear hcz22_1
             try clear hcz22_2
             try clear hcz33_0
             try clear hcz33_1
             try clear hcz35_0
             try clear hcz35_1
             try clear hcz6_0
             try clear hcz6_1
             try clear hfz12_0
             try clear hfz12_1
             try clear hfz18_0
             try clear hfz18_1
             try clear hfz22_0
             try clear hfz22_1
             try clear hfz22_2
             try clear hfz33_0
             try clear hfz33_1
             try clear hfz35_0
             try clear hfz35_1
             try clear hfz6_0
             try clear hfz6_1
             try clear p2
             try clear p6
             obtain ⟨x12_4, x13_4, rfl, HA, HK4, HO_10, HO_12, HO_551001, HO_551002, BK540, BK550, HB⟩ := hrel
             cases gk with
             | zero => exact absurd HA.out (by simp [spec_ComplementOf.l1])
             | succ k4 =>
              have H := HA.out
              clear HA
              simp only [spec_ComplementOf.l1] at H
              by_cases c38 : x13_4 < (l0_1.length : Int)
              ·rw [if_pos c38] at H
               have c38b0 : decide (x13_4 < (l0_1.length : Int)) = true := decide_eq_true c38
               clear c38
               obtain ⟨ji39, hji39⟩ : ∃ j_ : Int, (IntKind.u64.wrap (x13_4)) = j_ := ⟨_, rfl⟩
               replace H : (if 0 ≤ (ji39) then (if (Go.bits .and .i64 (shr .i64 a1 (ji39)) 1) = 0 then (if 0 ≤ x11_3 then (if x11_3 < (t543.length : Int) then (if 0 ≤ x13_4 then (if x13_4 < ((rd_L1 t543 x11_3).length : Int) then (if x12_4.length < 17592186044416 then (spec_ComplementOf.l1 k4 a1 x10_3 x11_3 (x12_4 ++ [rd (rd_L1 t543 x11_3) x13_4]) (wrap64 (x13_4 + 1)) l0_0 l0_1 t542 t543 t546) else (none)) else (none)) else (none)) else (none)) else (none)) else (spec_ComplementOf.l1 k4 a1 x10_3 x11_3 x12_4 (wrap64 (x13_4 + 1)) l0_0 l0_1 t542 t543 t546)) else (none)) = some (r1, r2, r3) := by first | (rw [hji39] at H; exact H) | (simp only [hji39] at H ⊢; exact H)
               by_cases c40 : 0 ≤ (ji39)
               ·rw [if_pos c40] at H
                have c40b0 := eq_true c40
                have c40b1 : decide (0 ≤ (ji39)) = true := decide_eq_true c40
                clear c40
                obtain ⟨ji41, hji41⟩ : ∃ j_ : Int, (shr .i64 a1 (ji39)) = j_ := ⟨_, rfl⟩
                replace H : (if (Go.bits .and .i64 (ji41) 1) = 0 then (if 0 ≤ x11_3 then (if x11_3 < (t543.length : Int) then (if 0 ≤ x13_4 then (if x13_4 < ((rd_L1 t543 x11_3).length : Int) then (if x12_4.length < 17592186044416 then (spec_ComplementOf.l1 k4 a1 x10_3 x11_3 (x12_4 ++ [rd (rd_L1 t543 x11_3) x13_4]) (wrap64 (x13_4 + 1)) l0_0 l0_1 t542 t543 t546) else (none)) else (none)) else (none)) else (none)) else (none)) else (spec_ComplementOf.l1 k4 a1 x10_3 x11_3 x12_4 (wrap64 (x13_4 + 1)) l0_0 l0_1 t542 t543 t546)) = some (r1, r2, r3) := by first | (rw [hji41] at H; exact H) | (simp only [hji41] at H ⊢; exact H)
                have hji41_ : (a1 / 2 ^ min (ji39).toNat 64) = ji41 := hji41
                have hji41z : (ji39) ≤ 64 → (a1 / 2 ^ (ji39).toNat) = ji41 := shr_small hji41
                by_cases c42 : (Go.bits .and .i64 (ji41) 1) = 0
                ·rw [if_pos c42] at H
                 have c42b0 : ((Go.bits .and .i64 (ji41) 1) == 0) = true := beq_iff_eq.mpr c42
                 have c42b1 : ((Go.bits .and .i64 (ji41) 1) != 0) = false := bne_eq_false_iff_eq.mpr c42
                 clear c42
                 by_cases c43 : 0 ≤ x11_3
                 ·rw [if_pos c43] at H
                  have c43b0 : decide (0 ≤ x11_3) = true := decide_eq_true c43
                  clear c43
                  by_cases c44 : x11_3 < (t543.length : Int)
                  ·rw [if_pos c44] at H
                   have c44b0 : decide (x11_3 < (t543.length : Int)) = true := decide_eq_true c44
                   clear c44
                   by_cases c45 : 0 ≤ x13_4
                   ·rw [if_pos c45] at H
                    have c45b0 : decide (0 ≤ x13_4) = true := decide_eq_true c45
                    clear c45
                    by_cases c46 : x13_4 < ((rd_L1 t543 x11_3).length : Int)
                    ·rw [if_pos c46] at H
                     have c46b0 : decide (x13_4 < ((rd_L1 t543 x11_3).length : Int)) = true := decide_eq_true c46
                     clear c46
                     by_cases c47 : x12_4.length < 17592186044416
                     ·rw [if_pos c47] at H
                      have LMc47 := Aside0.mk c47
                      clear c47
                      obtain ⟨y559, hy559⟩ : ∃ y_ : List Int, y_ = (x12_4 ++ [rd (rd_L1 t543 x11_3) x13_4]) := ⟨_, rfl⟩
                      replace H : (spec_ComplementOf.l1 k4 a1 x10_3 x11_3 y559 (wrap64 (x13_4 + 1)) l0_0 l0_1 t542 t543 t546) = some (r1, r2, r3) := by first | (rw [hy559]; with_reducible exact H) | (have H2_ := (Option.bind_some _ _).symm.trans H; rw [hy559]; with_reducible exact H2_) | (have H2_ := (Option.bind_some _ _).symm.trans H; with_reducible exact H2_) | with_reducible exact H | (rw [hy559]; exact H) | exact H
                      have Ny559 := Aside0.mk hy559
                      clear hy559
                      have H' := Aside0.mk H
                      clear H
                      have hnb48 := NB540_550.out
                      have hnc48 := NB550_540.out
                      have hcz49_0 : wr.cell? ⟨gb540, 0, none⟩ = some (.slice A0_0 l0_0.length c0_0) := (blk_cell BK540.out 0).trans rfl
                      have hcz49_1 : wr.cell? ⟨gb540, 1, none⟩ = some (.slice A0_1 l0_1.length c0_1) := (blk_cell BK540.out 1).trans rfl
                      have hfz49_0 := blk_frozen BK540.out 0
                      have hfz49_1 := blk_frozen BK540.out 1
                      have hcz50_0 : wr.cell? ⟨gb550, 0, none⟩ = some (.int .i64 t542) := (blk_cell BK550.out 0).trans rfl
                      have hcz50_1 : wr.cell? ⟨gb550, 1, none⟩ = some (.slice Ao23 t543.length co23) := (blk_cell BK550.out 1).trans rfl
                      have hcz50_2 : wr.cell? ⟨gb550, 2, none⟩ = some (.slice Ao24 t546.length co24) := (blk_cell BK550.out 2).trans rfl
                      have hfz50_0 := blk_frozen BK550.out 0
                      have hfz50_1 := blk_frozen BK550.out 1
                      have hfz50_2 := blk_frozen BK550.out 2
                      have p557 : 0 ≤ (x11_3 : Int) := of_decide_eq_true (by first | (with_reducible assumption) | assumption)
                      have q557 : x11_3 < (t543.length : Int) := of_decide_eq_true (by first | (with_reducible assumption) | assumption)
                      obtain ⟨ad557, A557_0, c557_0, e557, hx557_0, hl557_0, hi557_0⟩ := at_L1 (Kd.S_reads' HO_551001.out).2.2 x11_3 p557 q557
                      cases e557
                      obtain ⟨ce557, hce557, hMe557, hcc557⟩ := Kd.S_get HO_551001.out [] x11_3 p557 (by first | exact q557 | exact of_decide_eq_true (by first | (with_reducible assumption) | assumption) | (have e_ := (Kd.S_reads' HO_551001.out).1; omega))
                      obtain ⟨ve557_0, rfl, ge557_0⟩ := hMe557
                      have hv557_0 := hcc557 0 _ rfl
                      rw [Nat.add_zero, show ((Kd.slice 2 (Kd.int .i64))).sz = 1 from rfl, Nat.mul_one] at hv557_0
                      replace hv557_0 := Option.some.inj (hv557_0.symm.trans hx557_0)
                      rw [hv557_0] at ge557_0
                      have HL557_0 := Aside0.mk (show Kd.R (Kd.int .i64) 2 _ _ _ _ (rd_L1 t543 x11_3) from ge557_0)
                      clear hv557_0 ge557_0
                      clear hcc557 hce557
                      have HR557_0 := Aside0.mk hi557_0
                      have HC557_0 := Aside0.mk hl557_0
                      clear hi557_0 hl557_0
                      replace p557 := eq_true p557
                      replace q557 := eq_true q557
                      have p558 : 0 ≤ (x13_4 : Int) := of_decide_eq_true (by first | (with_reducible assumption) | assumption)
                      have q558 : x13_4 < ((rd_L1 t543 x11_3).length : Int) := of_decide_eq_true (by first | (with_reducible assumption) | assumption)
                      obtain ⟨ad558, e558, hx558_0⟩ := Kd.at_int (by repeat (first | (with_reducible exact HR557_0.out) | (with_reducible refine Kd.C_alloc ?_ _) | (with_reducible refine Kd.C_drewN ?_ _) | (with_reducible refine Kd.C_drew ?_) | exact HR557_0.out)) x13_4 p558 q558
                      cases e558
                      replace p558 := eq_true p558
                      replace q558 := eq_true q558
                      go_wp2_with (first | ((with_reducible refine gate_builtin (b := .append) (xs := #[.tmp 68, .tmp 77]) rfl ?_); (try (refine gate_guard (by rfl) ?_; dsimp only)); at_builtin; refine Kd.R_append (Kd.int .i64) (w0 := w) w.heap.size rfl (.tmp 68) (.tmp 77) 23 2 (.int .i64 0) 8 rfl Try.underlying23 info2 rfl (by decide) (by omega) u12 x12_4 (rd (rd_L1 t543 x11_3) x13_4) [.int .i64 (rd (rd_L1 t543 x11_3) x13_4)] (fun k_ => some k_ ≠ (.slice Ao24 t546.length co24 : Value).ownBlock) (fun _ => False) rfl rfl ?aP (fun _ hk => hk.elim) ?aF ?aO ?aB ?aS ?aL ?_; (case aP => exact rfl); (case aB => exact hb_); (case aF => exact (fun k_ hk => Kd.fresh' (Kd.R_lt (ro_ HO_551002.out)) k_ hk)); (case aO => exact (ro_ HO_12.out)); (case aS => exact bz_); (case aL => have := LMc47.out; omega); intro v560 w51 ho hb hg hat; rw [← Ny559.out] at ho; have n0_ := Aside0.mk (Kd.S_after (ok := (fun k_ => some k_ ≠ (.slice (some ad557) t543.length co23 : Value).ownBlock ∧ some k_ ≠ (.slice Ao24 t546.length co24 : Value).ownBlock)) (by (with_reducible repeat (first | apply Kd.S_alloc | apply Kd.S_drewN | apply Kd.S_drew)); exact Kd.S_mono HO_10.out (fun _ hk => ⟨⟨hk.2.1, hk.2.2⟩, hk.1⟩)) hg hat); have n1_ := Aside0.mk (Kd.S_after (ok := (fun k_ => some k_ ≠ (u10 : Value).ownBlock ∧ some k_ ≠ (.slice Ao24 t546.length co24 : Value).ownBlock)) (by (with_reducible repeat (first | apply Kd.S_alloc | apply Kd.S_drewN | apply Kd.S_drew)); exact Kd.S_mono HO_551001.out (fun _ hk => ⟨⟨hk.1, hk.2.2⟩, hk.2.1⟩)) hg hat); have n2_ := Aside0.mk (Kd.R_after (ok := (fun _ => True)) (by (with_reducible repeat (first | apply Kd.R_alloc | apply Kd.R_drewN | apply Kd.R_drew)); exact Kd.R_mono HO_551002.out (fun _ hk => ⟨trivial, hk⟩)) hg hat); have n3_ := Aside0.mk (bg_ BK540.out hg (Kd.R_ne HO_12.out BK540.out (by decide))); have n4_ := Aside0.mk (bg_ BK550.out hg (Kd.R_ne HO_12.out BK550.out (by decide))); have n5_ := Aside0.mk (Kd.R_after (ok := (fun k_ => some k_ ≠ (u10 : Value).ownBlock ∧ some k_ ≠ (.slice (some ad557) t543.length co23 : Value).ownBlock ∧ some k_ ≠ (.slice Ao24 t546.length co24 : Value).ownBlock)) (by (with_reducible repeat (first | apply Kd.R_alloc | apply Kd.R_drewN | apply Kd.R_drew)); exact Kd.R_mono HL557_0.out (fun _ hk => ⟨⟨hk.1.1, ⟨hk.2, hk.1.2.2⟩⟩, hk.1.2.1⟩)) hg hat); have n6_ := Aside0.mk (hb); have n7_ := Aside0.mk (ho); clear HO_10; clear HO_551001; clear HO_551002; clear BK540; clear BK550; clear HL557_0; clear HB; clear HO_12; have HO_10 := n0_; have HO_551001 := n1_; have HO_551002 := n2_; have BK540 := n3_; have BK550 := n4_; have HL557_0 := n5_; have HB := n6_; have HO561 := n7_; clear n0_ n1_ n2_ n3_ n4_ n5_ n6_ n7_; clear ho hb hg hat))
                      repeat (go_quiet (first | ((with_reducible refine gate_builtin (b := .append) (xs := #[.tmp 68, .tmp 77]) rfl ?_); (try (refine gate_guard (by rfl) ?_; dsimp only)); at_builtin; refine Kd.R_append (Kd.int .i64) (w0 := w) w.heap.size rfl (.tmp 68) (.tmp 77) 23 2 (.int .i64 0) 8 rfl Try.underlying23 info2 rfl (by decide) (by omega) u12 x12_4 (rd (rd_L1 t543 x11_3) x13_4) [.int .i64 (rd (rd_L1 t543 x11_3) x13_4)] (fun k_ => some k_ ≠ (.slice Ao24 t546.length co24 : Value).ownBlock) (fun _ => False) rfl rfl ?aP (fun _ hk => hk.elim) ?aF ?aO ?aB ?aS ?aL ?_; (case aP => exact rfl); (case aB => exact hb_); (case aF => exact (fun k_ hk => Kd.fresh' (Kd.R_lt (ro_ HO_551002.out)) k_ hk)); (case aO => exact (ro_ HO_12.out)); (case aS => exact bz_); (case aL => have := LMc47.out; omega); intro v560 w51 ho hb hg hat; rw [← Ny559.out] at ho; have n0_ := Aside0.mk (Kd.S_after (ok := (fun k_ => some k_ ≠ (.slice (some ad557) t543.length co23 : Value).ownBlock ∧ some k_ ≠ (.slice Ao24 t546.length co24 : Value).ownBlock)) (by (with_reducible repeat (first | apply Kd.S_alloc | apply Kd.S_drewN | apply Kd.S_drew)); exact Kd.S_mono HO_10.out (fun _ hk => ⟨⟨hk.2.1, hk.2.2⟩, hk.1⟩)) hg hat); have n1_ := Aside0.mk (Kd.S_after (ok := (fun k_ => some k_ ≠ (u10 : Value).ownBlock ∧ some k_ ≠ (.slice Ao24 t546.length co24 : Value).ownBlock)) (by (with_reducible repeat (first | apply Kd.S_alloc | apply Kd.S_drewN | apply Kd.S_drew)); exact Kd.S_mono HO_551001.out (fun _ hk => ⟨⟨hk.1, hk.2.2⟩, hk.2.1⟩)) hg hat); have n2_ := Aside0.mk (Kd.R_after (ok := (fun _ => True)) (by (with_reducible repeat (first | apply Kd.R_alloc | apply Kd.R_drewN | apply Kd.R_drew)); exact Kd.R_mono HO_551002.out (fun _ hk => ⟨trivial, hk⟩)) hg hat); have n3_ := Aside0.mk (bg_ BK540.out hg (Kd.R_ne HO_12.out BK540.out (by decide))); have n4_ := Aside0.mk (bg_ BK550.out hg (Kd.R_ne HO_12.out BK550.out (by decide))); have n5_ := Aside0.mk (Kd.R_after (ok := (fun k_ => some k_ ≠ (u10 : Value).ownBlock ∧ some k_ ≠ (.slice (some ad557) t543.length co23 : Value).ownBlock ∧ some k_ ≠ (.slice Ao24 t546.length co24 : Value).ownBlock)) (by (with_reducible repeat (first | apply Kd.R_alloc | apply Kd.R_drewN | apply Kd.R_drew)); exact Kd.R_mono HL557_0.out (fun _ hk => ⟨⟨hk.1.1, ⟨hk.2, hk.1.2.2⟩⟩, hk.1.2.1⟩)) hg hat); have n6_ := Aside0.mk (hb); have n7_ := Aside0.mk (ho); clear HO_10; clear HO_551001; clear HO_551002; clear BK540; clear BK550; clear HL557_0; clear HB; clear HO_12; have HO_10 := n0_; have HO_551001 := n1_; have HO_551002 := n2_; have BK540 := n3_; have BK550 := n4_; have HL557_0 := n5_; have HB := n6_; have HO561 := n7_; clear n0_ n1_ n2_ n3_ n4_ n5_ n6_ n7_; clear ho hb hg hat)); try go_wp2_with (first | ((with_reducible refine gate_builtin (b := .append) (xs := #[.tmp 68, .tmp 77]) rfl ?_); (try (refine gate_guard (by rfl) ?_; dsimp only)); at_builtin; refine Kd.R_append (Kd.int .i64) (w0 := w) w.heap.size rfl (.tmp 68) (.tmp 77) 23 2 (.int .i64 0) 8 rfl Try.underlying23 info2 rfl (by decide) (by omega) u12 x12_4 (rd (rd_L1 t543 x11_3) x13_4) [.int .i64 (rd (rd_L1 t543 x11_3) x13_4)] (fun k_ => some k_ ≠ (.slice Ao24 t546.length co24 : Value).ownBlock) (fun _ => False) rfl rfl ?aP (fun _ hk => hk.elim) ?aF ?aO ?aB ?aS ?aL ?_; (case aP => exact rfl); (case aB => exact hb_); (case aF => exact (fun k_ hk => Kd.fresh' (Kd.R_lt (ro_ HO_551002.out)) k_ hk)); (case aO => exact (ro_ HO_12.out)); (case aS => exact bz_); (case aL => have := LMc47.out; omega); intro v560 w51 ho hb hg hat; rw [← Ny559.out] at ho; have n0_ := Aside0.mk (Kd.S_after (ok := (fun k_ => some k_ ≠ (.slice (some ad557) t543.length co23 : Value).ownBlock ∧ some k_ ≠ (.slice Ao24 t546.length co24 : Value).ownBlock)) (by (with_reducible repeat (first | apply Kd.S_alloc | apply Kd.S_drewN | apply Kd.S_drew)); exact Kd.S_mono HO_10.out (fun _ hk => ⟨⟨hk.2.1, hk.2.2⟩, hk.1⟩)) hg hat); have n1_ := Aside0.mk (Kd.S_after (ok := (fun k_ => some k_ ≠ (u10 : Value).ownBlock ∧ some k_ ≠ (.slice Ao24 t546.length co24 : Value).ownBlock)) (by (with_reducible repeat (first | apply Kd.S_alloc | apply Kd.S_drewN | apply Kd.S_drew)); exact Kd.S_mono HO_551001.out (fun _ hk => ⟨⟨hk.1, hk.2.2⟩, hk.2.1⟩)) hg hat); have n2_ := Aside0.mk (Kd.R_after (ok := (fun _ => True)) (by (with_reducible repeat (first | apply Kd.R_alloc | apply Kd.R_drewN | apply Kd.R_drew)); exact Kd.R_mono HO_551002.out (fun _ hk => ⟨trivial, hk⟩)) hg hat); have n3_ := Aside0.mk (bg_ BK540.out hg (Kd.R_ne HO_12.out BK540.out (by decide))); have n4_ := Aside0.mk (bg_ BK550.out hg (Kd.R_ne HO_12.out BK550.out (by decide))); have n5_ := Aside0.mk (Kd.R_after (ok := (fun k_ => some k_ ≠ (u10 : Value).ownBlock ∧ some k_ ≠ (.slice (some ad557) t543.length co23 : Value).ownBlock ∧ some k_ ≠ (.slice Ao24 t546.length co24 : Value).ownBlock)) (by (with_reducible repeat (first | apply Kd.R_alloc | apply Kd.R_drewN | apply Kd.R_drew)); exact Kd.R_mono HL557_0.out (fun _ hk => ⟨⟨hk.1.1, ⟨hk.2, hk.1.2.2⟩⟩, hk.1.2.1⟩)) hg hat); have n6_ := Aside0.mk (hb); have n7_ := Aside0.mk (ho); clear HO_10; clear HO_551001; clear HO_551002; clear BK540; clear BK550; clear HL557_0; clear HB; clear HO_12; have HO_10 := n0_; have HO_551001 := n1_; have HO_551002 := n2_; have BK540 := n3_; have BK550 := n4_; have HL557_0 := n5_; have HB := n6_; have HO561 := n7_; clear n0_ n1_ n2_ n3_ n4_ n5_ n6_ n7_; clear ho hb hg hat)))
                      go_roundg k4
                      case measure => have := HJ3.out; have := HJ12.out; have := HK3.out; have := HK4.out; omega
                      case rel => exact ⟨(y559), (wrap64 (x13_4 + 1)), (by first | rfl | (simp; done) | (simp [*]; done)), H', ⟨by have := HJ3.out; have := HJ12.out; have := HK3.out; have := HK4.out; omega⟩, ⟨by (with_reducible repeat (first | apply Kd.S_alloc | apply Kd.S_drewN | apply Kd.S_drew)); exact Kd.S_mono HO_10.out (fun _ hk => ⟨hk.2, ⟨hk.1.1, hk.1.2⟩⟩)⟩, ⟨ro_ HO561.out⟩, ⟨by (with_reducible repeat (first | apply Kd.S_alloc | apply Kd.S_drewN | apply Kd.S_drew)); exact Kd.S_mono HO_551001.out (fun _ hk => ⟨hk.1.1, ⟨hk.2, hk.1.2⟩⟩)⟩, ⟨by (with_reducible repeat (first | apply Kd.R_alloc | apply Kd.R_drewN | apply Kd.R_drew)); exact Kd.R_mono HO_551002.out (fun _ hk => hk.2)⟩, ⟨bk_⟩, ⟨bk_⟩, ⟨hb_⟩⟩
                     ·rw [if_neg c47] at H
                      exact absurd H (by simp)
                    ·rw [if_neg c46] at H
                     exact absurd H (by simp)
                   ·rw [if_neg c45] at H
                    exact absurd H (by simp)
                  ·rw [if_neg c44] at H
                   exact absurd H (by simp)
                 ·rw [if_neg c43] at H
                  exact absurd H (by simp)
                ·rw [if_neg c42] at H
                 have c42b0 : ((Go.bits .and .i64 (ji41) 1) == 0) = false := beq_eq_false_iff_ne.mpr c42
                 have c42b1 : ((Go.bits .and .i64 (ji41) 1) != 0) = true := bne_iff_ne.mpr c42
                 have H' := Aside0.mk H
                 clear H
                 have hnb52 := NB540_550.out
                 have hnc52 := NB550_540.out
                 have hcz53_0 : wr.cell? ⟨gb540, 0, none⟩ = some (.slice A0_0 l0_0.length c0_0) := (blk_cell BK540.out 0).trans rfl
                 have hcz53_1 : wr.cell? ⟨gb540, 1, none⟩ = some (.slice A0_1 l0_1.length c0_1) := (blk_cell BK540.out 1).trans rfl
                 have hfz53_0 := blk_frozen BK540.out 0
                 have hfz53_1 := blk_frozen BK540.out 1
                 go_wp2
                 repeat (go_quiet (fail); try go_wp2)
                 go_roundg k4
                 case measure => have := HJ3.out; have := HJ12.out; have := HK3.out; have := HK4.out; omega
                 case rel => exact ⟨(x12_4), (wrap64 (x13_4 + 1)), (by first | rfl | (simp; done) | (simp [*]; done)), H', ⟨by have := HJ3.out; have := HJ12.out; have := HK3.out; have := HK4.out; omega⟩, ⟨so_ HO_10.out⟩, ⟨ro_ HO_12.out⟩, ⟨so_ HO_551001.out⟩, ⟨ro_ HO_551002.out⟩, ⟨bk_⟩, ⟨bk_⟩, ⟨hb_⟩⟩
               ·rw [if_neg c40] at H
                exact absurd H (by simp)
              ·rw [if_neg c38] at H
               have c38b0 : decide (x13_4 < (l0_1.length : Int)) = false := decide_eq_false c38
               clear c38
               by_cases c54 : x10_3.length < 5864062014805
               ·rw [if_pos c54] at H
                have LMc54 := Aside0.mk c54
                clear c54
                obtain ⟨y562, hy562⟩ : ∃ y_ : List (List Int), y_ = (x10_3 ++ [x12_4]) := ⟨_, rfl⟩
                replace H : (spec_ComplementOf.l0 k4 a1 y562 (wrap64 (x11_3 + 1)) l0_0 l0_1 t542 t543 t546) = some (r1, r2, r3) := by first | (rw [hy562]; with_reducible exact H) | (have H2_ := (Option.bind_some _ _).symm.trans H; rw [hy562]; with_reducible exact H2_) | (have H2_ := (Option.bind_some _ _).symm.trans H; with_reducible exact H2_) | with_reducible exact H | (rw [hy562]; exact H) | exact H
                have Ny562 := Aside0.mk hy562
                clear hy562
                have H' := Aside0.mk H
                clear H
                have hnb55 := NB540_550.out
                have hnc55 := NB550_540.out
                have hcz56_0 : wr.cell? ⟨gb540, 0, none⟩ = some (.slice A0_0 l0_0.length c0_0) := (blk_cell BK540.out 0).trans rfl
                have hcz56_1 : wr.cell? ⟨gb540, 1, none⟩ = some (.slice A0_1 l0_1.length c0_1) := (blk_cell BK540.out 1).trans rfl
                have hfz56_0 := blk_frozen BK540.out 0
                have hfz56_1 := blk_frozen BK540.out 1
                obtain ⟨Ao58, co58, eo58⟩ := Kd.R_slice HO_12.out
                subst eo58
                go_wp2_with (first | ((with_reducible refine gate_builtin (b := .append) (xs := #[.tmp 79, .tmp 81]) rfl ?_); (try (refine gate_guard (by rfl) ?_; dsimp only)); at_builtin; refine Kd.S_append (Kd.slice 2 (Kd.int .i64)) (w0 := w) w.heap.size rfl (.tmp 79) (.tmp 81) 22 23 (.slice none 0 0) 24 rfl Try.underlying22 info23 rfl (by decide) (by omega) u10 x10_3 x12_4 [.slice Ao58 x12_4.length co58] (fun k_ => some k_ ≠ (.slice Ao23 t543.length co23 : Value).ownBlock ∧ some k_ ≠ (.slice Ao24 t546.length co24 : Value).ownBlock) (fun k_ => some k_ = (.slice Ao58 x12_4.length co58 : Value).ownBlock) rfl rfl ?aP (fun k_ hk_ => ((Kd.R_mono (ok' := fun k_ => ((fun k_ => some k_ ≠ (.slice Ao23 t543.length co23 : Value).ownBlock ∧ some k_ ≠ (.slice Ao24 t546.length co24 : Value).ownBlock)) k_ ∧ some k_ ≠ (u10 : Value).ownBlock) (Kd.R_apart' (Kd.R_apart' (HO_12.out) (Kd.S_typed HO_551001.out) (by decide)) (Kd.S_typed HO_10.out) (by decide)) (fun k_ hk => ⟨⟨hk.1.2, hk.1.1⟩, hk.2⟩))).1 k_ hk_.symm) ?aF ?aO ?aB ?aS ?aL ?_; (case aP => exact Kd.M_row (Kd.R_mono (Kd.R_tight rfl (Kd.R_mono (ok' := fun k_ => ((fun k_ => some k_ ≠ (.slice Ao23 t543.length co23 : Value).ownBlock ∧ some k_ ≠ (.slice Ao24 t546.length co24 : Value).ownBlock)) k_ ∧ some k_ ≠ (u10 : Value).ownBlock) (Kd.R_apart' (Kd.R_apart' (HO_12.out) (Kd.S_typed HO_551001.out) (by decide)) (Kd.S_typed HO_10.out) (by decide)) (fun k_ hk => ⟨⟨hk.1.2, hk.1.1⟩, hk.2⟩))) (fun _ h_ => h_))); (case aB => exact hb_); (case aF => exact (fun k_ hk => ⟨Kd.fresh' (Kd.S_lt (so_ HO_551001.out)) k_ hk, Kd.fresh' (Kd.R_lt (ro_ HO_551002.out)) k_ hk⟩)); (case aO => exact (by (with_reducible repeat (first | apply Kd.S_alloc | apply Kd.S_drewN | apply Kd.S_drew)); exact Kd.S_mono HO_10.out (fun k_ hk => ⟨⟨hk.2.1, hk.2.2⟩, fun e_ => hk.1 e_⟩))); (case aS => exact bz_); (case aL => have := LMc54.out; omega); intro v563 w57 ho hb hg hat; rw [← Ny562.out] at ho; have n0_ := Aside0.mk (Kd.S_after (ok := (fun k_ => some k_ ≠ (.slice Ao58 x12_4.length co58 : Value).ownBlock ∧ some k_ ≠ (.slice Ao24 t546.length co24 : Value).ownBlock)) (by (with_reducible repeat (first | apply Kd.S_alloc | apply Kd.S_drewN | apply Kd.S_drew)); exact Kd.S_mono HO_551001.out (fun _ hk => ⟨⟨hk.2.1, hk.2.2⟩, hk.1⟩)) hg hat); have n1_ := Aside0.mk (Kd.R_over' (ro_ HO_551002.out) (Kd.S_typed (so_ HO_10.out)) (by decide) hg); have n2_ := Aside0.mk (bg_ BK540.out hg (Kd.S_ne HO_10.out BK540.out (by decide))); have n3_ := Aside0.mk (bg_ BK550.out hg (Kd.S_ne HO_10.out BK550.out (by decide))); have n4_ := Aside0.mk (hb); have n5_ := Aside0.mk (ho); clear HO_551001; clear HO_551002; clear BK540; clear BK550; clear HB; clear HO_10; clear HO_12; have HO_551001 := n0_; have HO_551002 := n1_; have BK540 := n2_; have BK550 := n3_; have HB := n4_; have HO564 := n5_; clear n0_ n1_ n2_ n3_ n4_ n5_; clear ho hb hg hat))
                repeat (go_quiet (first | ((with_reducible refine gate_builtin (b := .append) (xs := #[.tmp 79, .tmp 81]) rfl ?_); (try (refine gate_guard (by rfl) ?_; dsimp only)); at_builtin; refine Kd.S_append (Kd.slice 2 (Kd.int .i64)) (w0 := w) w.heap.size rfl (.tmp 79) (.tmp 81) 22 23 (.slice none 0 0) 24 rfl Try.underlying22 info23 rfl (by decide) (by omega) u10 x10_3 x12_4 [.slice Ao58 x12_4.length co58] (fun k_ => some k_ ≠ (.slice Ao23 t543.length co23 : Value).ownBlock ∧ some k_ ≠ (.slice Ao24 t546.length co24 : Value).ownBlock) (fun k_ => some k_ = (.slice Ao58 x12_4.length co58 : Value).ownBlock) rfl rfl ?aP (fun k_ hk_ => ((Kd.R_mono (ok' := fun k_ => ((fun k_ => some k_ ≠ (.slice Ao23 t543.length co23 : Value).ownBlock ∧ some k_ ≠ (.slice Ao24 t546.length co24 : Value).ownBlock)) k_ ∧ some k_ ≠ (u10 : Value).ownBlock) (Kd.R_apart' (Kd.R_apart' (HO_12.out) (Kd.S_typed HO_551001.out) (by decide)) (Kd.S_typed HO_10.out) (by decide)) (fun k_ hk => ⟨⟨hk.1.2, hk.1.1⟩, hk.2⟩))).1 k_ hk_.symm) ?aF ?aO ?aB ?aS ?aL ?_; (case aP => exact Kd.M_row (Kd.R_mono (Kd.R_tight rfl (Kd.R_mono (ok' := fun k_ => ((fun k_ => some k_ ≠ (.slice Ao23 t543.length co23 : Value).ownBlock ∧ some k_ ≠ (.slice Ao24 t546.length co24 : Value).ownBlock)) k_ ∧ some k_ ≠ (u10 : Value).ownBlock) (Kd.R_apart' (Kd.R_apart' (HO_12.out) (Kd.S_typed HO_551001.out) (by decide)) (Kd.S_typed HO_10.out) (by decide)) (fun k_ hk => ⟨⟨hk.1.2, hk.1.1⟩, hk.2⟩))) (fun _ h_ => h_))); (case aB => exact hb_); (case aF => exact (fun k_ hk => ⟨Kd.fresh' (Kd.S_lt (so_ HO_551001.out)) k_ hk, Kd.fresh' (Kd.R_lt (ro_ HO_551002.out)) k_ hk⟩)); (case aO => exact (by (with_reducible repeat (first | apply Kd.S_alloc | apply Kd.S_drewN | apply Kd.S_drew)); exact Kd.S_mono HO_10.out (fun k_ hk => ⟨⟨hk.2.1, hk.2.2⟩, fun e_ => hk.1 e_⟩))); (case aS => exact bz_); (case aL => have := LMc54.out; omega); intro v563 w57 ho hb hg hat; rw [← Ny562.out] at ho; have n0_ := Aside0.mk (Kd.S_after (ok := (fun k_ => some k_ ≠ (.slice Ao58 x12_4.length co58 : Value).ownBlock ∧ some k_ ≠ (.slice Ao24 t546.length co24 : Value).ownBlock)) (by (with_reducible repeat (first | apply Kd.S_alloc | apply Kd.S_drewN | apply Kd.S_drew)); exact Kd.S_mono HO_551001.out (fun _ hk => ⟨⟨hk.2.1, hk.2.2⟩, hk.1⟩)) hg hat); have n1_ := Aside0.mk (Kd.R_over' (ro_ HO_551002.out) (Kd.S_typed (so_ HO_10.out)) (by decide) hg); have n2_ := Aside0.mk (bg_ BK540.out hg (Kd.S_ne HO_10.out BK540.out (by decide))); have n3_ := Aside0.mk (bg_ BK550.out hg (Kd.S_ne HO_10.out BK550.out (by decide))); have n4_ := Aside0.mk (hb); have n5_ := Aside0.mk (ho); clear HO_551001; clear HO_551002; clear BK540; clear BK550; clear HB; clear HO_10; clear HO_12; have HO_551001 := n0_; have HO_551002 := n1_; have BK540 := n2_; have BK550 := n3_; have HB := n4_; have HO564 := n5_; clear n0_ n1_ n2_ n3_ n4_ n5_; clear ho hb hg hat)); try go_wp2_with (first | ((with_reducible refine gate_builtin (b := .append) (xs := #[.tmp 79, .tmp 81]) rfl ?_); (try (refine gate_guard (by rfl) ?_; dsimp only)); at_builtin; refine Kd.S_append (Kd.slice 2 (Kd.int .i64)) (w0 := w) w.heap.size rfl (.tmp 79) (.tmp 81) 22 23 (.slice none 0 0) 24 rfl Try.underlying22 info23 rfl (by decide) (by omega) u10 x10_3 x12_4 [.slice Ao58 x12_4.length co58] (fun k_ => some k_ ≠ (.slice Ao23 t543.length co23 : Value).ownBlock ∧ some k_ ≠ (.slice Ao24 t546.length co24 : Value).ownBlock) (fun k_ => some k_ = (.slice Ao58 x12_4.length co58 : Value).ownBlock) rfl rfl ?aP (fun k_ hk_ => ((Kd.R_mono (ok' := fun k_ => ((fun k_ => some k_ ≠ (.slice Ao23 t543.length co23 : Value).ownBlock ∧ some k_ ≠ (.slice Ao24 t546.length co24 : Value).ownBlock)) k_ ∧ some k_ ≠ (u10 : Value).ownBlock) (Kd.R_apart' (Kd.R_apart' (HO_12.out) (Kd.S_typed HO_551001.out) (by decide)) (Kd.S_typed HO_10.out) (by decide)) (fun k_ hk => ⟨⟨hk.1.2, hk.1.1⟩, hk.2⟩))).1 k_ hk_.symm) ?aF ?aO ?aB ?aS ?aL ?_; (case aP => exact Kd.M_row (Kd.R_mono (Kd.R_tight rfl (Kd.R_mono (ok' := fun k_ => ((fun k_ => some k_ ≠ (.slice Ao23 t543.length co23 : Value).ownBlock ∧ some k_ ≠ (.slice Ao24 t546.length co24 : Value).ownBlock)) k_ ∧ some k_ ≠ (u10 : Value).ownBlock) (Kd.R_apart' (Kd.R_apart' (HO_12.out) (Kd.S_typed HO_551001.out) (by decide)) (Kd.S_typed HO_10.out) (by decide)) (fun k_ hk => ⟨⟨hk.1.2, hk.1.1⟩, hk.2⟩))) (fun _ h_ => h_))); (case aB => exact hb_); (case aF => exact (fun k_ hk => ⟨Kd.fresh' (Kd.S_lt (so_ HO_551001.out)) k_ hk, Kd.fresh' (Kd.R_lt (ro_ HO_551002.out)) k_ hk⟩)); (case aO => exact (by (with_reducible repeat (first | apply Kd.S_alloc | apply Kd.S_drewN | apply Kd.S_drew)); exact Kd.S_mono HO_10.out (fun k_ hk => ⟨⟨hk.2.1, hk.2.2⟩, fun e_ => hk.1 e_⟩))); (case aS => exact bz_); (case aL => have := LMc54.out; omega); intro v563 w57 ho hb hg hat; rw [← Ny562.out] at ho; have n0_ := Aside0.mk (Kd.S_after (ok := (fun k_ => some k_ ≠ (.slice Ao58 x12_4.length co58 : Value).ownBlock ∧ some k_ ≠ (.slice Ao24 t546.length co24 : Value).ownBlock)) (by (with_reducible repeat (first | apply Kd.S_alloc | apply Kd.S_drewN | apply Kd.S_drew)); exact Kd.S_mono HO_551001.out (fun _ hk => ⟨⟨hk.2.1, hk.2.2⟩, hk.1⟩)) hg hat); have n1_ := Aside0.mk (Kd.R_over' (ro_ HO_551002.out) (Kd.S_typed (so_ HO_10.out)) (by decide) hg); have n2_ := Aside0.mk (bg_ BK540.out hg (Kd.S_ne HO_10.out BK540.out (by decide))); have n3_ := Aside0.mk (bg_ BK550.out hg (Kd.S_ne HO_10.out BK550.out (by decide))); have n4_ := Aside0.mk (hb); have n5_ := Aside0.mk (ho); clear HO_551001; clear HO_551002; clear BK540; clear BK550; clear HB; clear HO_10; clear HO_12; have HO_551001 := n0_; have HO_551002 := n1_; have BK540 := n2_; have BK550 := n3_; have HB := n4_; have HO564 := n5_; clear n0_ n1_ n2_ n3_ n4_ n5_; clear ho hb hg hat)))
                go_roundg k4
                case measure => have := HJ3.out; have := HJ12.out; have := HK3.out; have := HK4.out; omega
                case rel => exact ⟨(y562), (wrap64 (x11_3 + 1)), (by first | rfl | (simp; done) | (simp [*]; done)), H', ⟨by have := HJ3.out; have := HJ12.out; have := HK3.out; have := HK4.out; omega⟩, ⟨so_ HO564.out⟩, ⟨by (with_reducible repeat (first | apply Kd.S_alloc | apply Kd.S_drewN | apply Kd.S_drew)); exact Kd.S_mono HO_551001.out (fun _ hk => ⟨hk.2, hk.1.2⟩)⟩, ⟨by (with_reducible repeat (first | apply Kd.R_alloc | apply Kd.R_drewN | apply Kd.R_drew)); exact Kd.R_mono HO_551002.out (fun _ hk => trivial)⟩, ⟨bk_⟩, ⟨bk_⟩, ⟨hb_⟩⟩
               ·rw [if_neg c54] at H
                exact absurd H (by simp)
          ·rw [if_neg c29] at H
           exact absurd H (by simp)
         ·rw [if_neg c27] at H
          have c27b0 : decide (x11_3 < (l0_1.length : Int)) = false := decide_eq_false c27
          clear c27
          simp only [Option.some.injEq, Prod.mk.injEq] at H
          obtain ⟨rfl, rfl, rfl⟩ := H
          have hnb59 := NB540_550.out
          have hnc59 := NB550_540.out
          have hcz60_0 : wr.cell? ⟨gb540, 0, none⟩ = some (.slice A0_0 l0_0.length c0_0) := (blk_cell BK540.out 0).trans rfl
          have hcz60_1 : wr.cell? ⟨gb540, 1, none⟩ = some (.slice A0_1 l0_1.length c0_1) := (blk_cell BK540.out 1).trans rfl
          have hfz60_0 := blk_frozen BK540.out 0
          have hfz60_1 := blk_frozen BK540.out 1
          have hcz61_0 : wr.cell? ⟨gb550, 0, none⟩ = some (.int .i64 t542) := (blk_cell BK550.out 0).trans rfl
          have hcz61_1 : wr.cell? ⟨gb550, 1, none⟩ = some (.slice Ao23 t543.length co23) := (blk_cell BK550.out 1).trans rfl
          have hcz61_2 : wr.cell? ⟨gb550, 2, none⟩ = some (.slice Ao24 t546.length co24) := (blk_cell BK550.out 2).trans rfl
          have hfz61_0 := blk_frozen BK550.out 0
          have hfz61_1 := blk_frozen BK550.out 1
          have hfz61_2 := blk_frozen BK550.out 2
          go_wp2
          repeat (go_quiet (fail); try go_wp2)
          go_ret3
          exact ⟨_, by first | rfl | (simp [errW_none, errW_some] <;> rfl) | (simp [*, errW_none, errW_some] <;> rfl), by (with_reducible repeat (first | apply Kd.S_alloc | apply Kd.S_drewN | apply Kd.S_drew)); exact Kd.S_mono HO_10.out (fun _ hk => trivial), hb_⟩
      ·replace c17 := Bool.eq_false_iff.mpr c17
       subst c17
       have H1 : (some (([] : List (List Int)), 0, 5)) = some (r1, r2, r3) := by rw [if_neg (show ¬ (false = true) by decide)] at H; exact H
       clear H
       have H := H1
       clear H1
       simp only [Option.some.injEq, Prod.mk.injEq] at H
       obtain ⟨rfl, rfl, rfl⟩ := H
       have hcz62_0 : wc.cell? ⟨gb540, 0, none⟩ = some (.slice A0_0 l0_0.length c0_0) := (blk_cell BK540.out 0).trans rfl
       have hcz62_1 : wc.cell? ⟨gb540, 1, none⟩ = some (.slice A0_1 l0_1.length c0_1) := (blk_cell BK540.out 1).trans rfl
       have hfz62_0 := blk_frozen BK540.out 0
       have hfz62_1 := blk_frozen BK540.out 1
       go_wp2_with (first | (go_at_call 75; (with_reducible refine (spec_l04Pivot.calls kj12 _ _ l0_0 _ _ l0_1 a1 t542 t543 t546 false _ ?side1 ?side2 ?side3 ?side4 A16.out).mono ?_); (case side1 => exact cb_ HR0_0.out HB.out); (case side2 => exact HC0_0.out); (case side3 => exact cb_ HR0_1.out HB.out); (case side4 => exact HC0_1.out); rintro e w63 ⟨v544, v547, rfl, ho0, ho1, hb⟩; have n0_ := Aside0.mk (Kd.S_lower ho0 bz_); have n1_ := Aside0.mk (Kd.R_lower ho1 bz_); have n2_ := Aside0.mk (bb_ BK540.out hb); have n3_ := Aside0.mk (bs_ hb); clear BK540; clear HB; have HO545 := n0_; have HO548 := n1_; have BK540 := n2_; have HB := n3_; clear n0_ n1_ n2_ n3_; (try clear hb); (try clear hb2); (try clear hk); (try clear hi); (try clear ho0); (try clear ho1)) | ((with_reducible refine gate_dst (N := 8) rfl ?_); (try (refine gate_guard (by rfl) ?_; dsimp only)); refine box_event ?hg (N := 8) ?hd (cs := #[.int .i64 0, .slice none 0 0, .slice none 0 0]) (t := 75) ?hr ?_; (case hd => rfl); (case hg => rfl); (case hr => first | (go_simp; done) | (go_simp; rfl)); intro gb550 hg w64 hbox hb; have n0_ := Aside0.mk (Kd.S_below (so_ HO545.out) hb); have n1_ := Aside0.mk (rb_ HO548.out hb); have n2_ := Aside0.mk (bb_ BK540.out hb); have n3_ := Aside0.mk (bs_ hb); have n4_ := Aside0.mk (hbox); have n5_ := Aside0.mk ((by rw [hg]; exact bz_ : w.heap.size ≤ gb550)); have n6_ := Aside0.mk ((by rw [hg]; exact bz_ : w.heap.size ≤ gb550)); have n7_ := Aside0.mk ((by rw [hg]; exact lt_ BK540.out : gb540 ≠ gb550)); have n8_ := Aside0.mk ((by rw [hg]; exact gt_ BK540.out : gb550 ≠ gb540)); clear HO545; clear HO548; clear BK540; clear HB; have HO545 := n0_; have HO548 := n1_; have BK540 := n2_; have HB := n3_; have BK550 := n4_; have GW550 := n5_; have GE550 := n6_; have NB540_550 := n7_; have NB550_540 := n8_; clear n0_ n1_ n2_ n3_ n4_ n5_ n6_ n7_ n8_; clear hb hbox hg; have hnb65 := NB550_540.out; have hnc65 := NB540_550.out; have hcz66_0 : w64.cell? ⟨gb550, 0, none⟩ = some (.int .i64 0) := (blk_cell BK550.out 0).trans rfl; have hcz66_1 : w64.cell? ⟨gb550, 1, none⟩ = some (.slice none 0 0) := (blk_cell BK550.out 1).trans rfl; have hcz66_2 : w64.cell? ⟨gb550, 2, none⟩ = some (.slice none 0 0) := (blk_cell BK550.out 2).trans rfl; have hfz66_0 := blk_frozen BK550.out 0; have hfz66_1 := blk_frozen BK550.out 1; have hfz66_2 := blk_frozen BK550.out 2; obtain ⟨Ao67, co67, eo67⟩ := Kd.S_slice HO545.out; subst eo67; obtain ⟨Ao68, co68, eo68⟩ := Kd.R_slice HO548.out; subst eo68))
       repeat (go_quiet (first | (go_at_call 75; (with_reducible refine (spec_l04Pivot.calls kj12 _ _ l0_0 _ _ l0_1 a1 t542 t543 t546 false _ ?side1 ?side2 ?side3 ?side4 A16.out).mono ?_); (case side1 => exact cb_ HR0_0.out HB.out); (case side2 => exact HC0_0.out); (case side3 => exact cb_ HR0_1.out HB.out); (case side4 => exact HC0_1.out); rintro e w63 ⟨v544, v547, rfl, ho0, ho1, hb⟩; have n0_ := Aside0.mk (Kd.S_lower ho0 bz_); have n1_ := Aside0.mk (Kd.R_lower ho1 bz_); have n2_ := Aside0.mk (bb_ BK540.out hb); have n3_ := Aside0.mk (bs_ hb); clear BK540; clear HB; have HO545 := n0_; have HO548 := n1_; have BK540 := n2_; have HB := n3_; clear n0_ n1_ n2_ n3_; (try clear hb); (try clear hb2); (try clear hk); (try clear hi); (try clear ho0); (try clear ho1)) | ((with_reducible refine gate_dst (N := 8) rfl ?_); (try (refine gate_guard (by rfl) ?_; dsimp only)); refine box_event ?hg (N := 8) ?hd (cs := #[.int .i64 0, .slice none 0 0, .slice none 0 0]) (t := 75) ?hr ?_; (case hd => rfl); (case hg => rfl); (case hr => first | (go_simp; done) | (go_simp; rfl)); intro gb550 hg w64 hbox hb; have n0_ := Aside0.mk (Kd.S_below (so_ HO545.out) hb); have n1_ := Aside0.mk (rb_ HO548.out hb); have n2_ := Aside0.mk (bb_ BK540.out hb); have n3_ := Aside0.mk (bs_ hb); have n4_ := Aside0.mk (hbox); have n5_ := Aside0.mk ((by rw [hg]; exact bz_ : w.heap.size ≤ gb550)); have n6_ := Aside0.mk ((by rw [hg]; exact bz_ : w.heap.size ≤ gb550)); have n7_ := Aside0.mk ((by rw [hg]; exact lt_ BK540.out : gb540 ≠ gb550)); have n8_ := Aside0.mk ((by rw [hg]; exact gt_ BK540.out : gb550 ≠ gb540)); clear HO545; clear HO548; clear BK540; clear HB; have HO545 := n0_; have HO548 := n1_; have BK540 := n2_; have HB := n3_; have BK550 := n4_; have GW550 := n5_; have GE550 := n6_; have NB540_550 := n7_; have NB550_540 := n8_; clear n0_ n1_ n2_ n3_ n4_ n5_ n6_ n7_ n8_; clear hb hbox hg; have hnb65 := NB550_540.out; have hnc65 := NB540_550.out; have hcz66_0 : w64.cell? ⟨gb550, 0, none⟩ = some (.int .i64 0) := (blk_cell BK550.out 0).trans rfl; have hcz66_1 : w64.cell? ⟨gb550, 1, none⟩ = some (.slice none 0 0) := (blk_cell BK550.out 1).trans rfl; have hcz66_2 : w64.cell? ⟨gb550, 2, none⟩ = some (.slice none 0 0) := (blk_cell BK550.out 2).trans rfl; have hfz66_0 := blk_frozen BK550.out 0; have hfz66_1 := blk_frozen BK550.out 1; have hfz66_2 := blk_frozen BK550.out 2; obtain ⟨Ao67, co67, eo67⟩ := Kd.S_slice HO545.out; subst eo67; obtain ⟨Ao68, co68, eo68⟩ := Kd.R_slice HO548.out; subst eo68)); try go_wp2_with (first | (go_at_call 75; (with_reducible refine (spec_l04Pivot.calls kj12 _ _ l0_0 _ _ l0_1 a1 t542 t543 t546 false _ ?side1 ?side2 ?side3 ?side4 A16.out).mono ?_); (case side1 => exact cb_ HR0_0.out HB.out); (case side2 => exact HC0_0.out); (case side3 => exact cb_ HR0_1.out HB.out); (case side4 => exact HC0_1.out); rintro e w63 ⟨v544, v547, rfl, ho0, ho1, hb⟩; have n0_ := Aside0.mk (Kd.S_lower ho0 bz_); have n1_ := Aside0.mk (Kd.R_lower ho1 bz_); have n2_ := Aside0.mk (bb_ BK540.out hb); have n3_ := Aside0.mk (bs_ hb); clear BK540; clear HB; have HO545 := n0_; have HO548 := n1_; have BK540 := n2_; have HB := n3_; clear n0_ n1_ n2_ n3_; (try clear hb); (try clear hb2); (try clear hk); (try clear hi); (try clear ho0); (try clear ho1)) | ((with_reducible refine gate_dst (N := 8) rfl ?_); (try (refine gate_guard (by rfl) ?_; dsimp only)); refine box_event ?hg (N := 8) ?hd (cs := #[.int .i64 0, .slice none 0 0, .slice none 0 0]) (t := 75) ?hr ?_; (case hd => rfl); (case hg => rfl); (case hr => first | (go_simp; done) | (go_simp; rfl)); intro gb550 hg w64 hbox hb; have n0_ := Aside0.mk (Kd.S_below (so_ HO545.out) hb); have n1_ := Aside0.mk (rb_ HO548.out hb); have n2_ := Aside0.mk (bb_ BK540.out hb); have n3_ := Aside0.mk (bs_ hb); have n4_ := Aside0.mk (hbox); have n5_ := Aside0.mk ((by rw [hg]; exact bz_ : w.heap.size ≤ gb550)); have n6_ := Aside0.mk ((by rw [hg]; exact bz_ : w.heap.size ≤ gb550)); have n7_ := Aside0.mk ((by rw [hg]; exact lt_ BK540.out : gb540 ≠ gb550)); have n8_ := Aside0.mk ((by rw [hg]; exact gt_ BK540.out : gb550 ≠ gb540)); clear HO545; clear HO548; clear BK540; clear HB; have HO545 := n0_; have HO548 := n1_; have BK540 := n2_; have HB := n3_; have BK550 := n4_; have GW550 := n5_; have GE550 := n6_; have NB540_550 := n7_; have NB550_540 := n8_; clear n0_ n1_ n2_ n3_ n4_ n5_ n6_ n7_ n8_; clear hb hbox hg; have hnb65 := NB550_540.out; have hnc65 := NB540_550.out; have hcz66_0 : w64.cell? ⟨gb550, 0, none⟩ = some (.int .i64 0) := (blk_cell BK550.out 0).trans rfl; have hcz66_1 : w64.cell? ⟨gb550, 1, none⟩ = some (.slice none 0 0) := (blk_cell BK550.out 1).trans rfl; have hcz66_2 : w64.cell? ⟨gb550, 2, none⟩ = some (.slice none 0 0) := (blk_cell BK550.out 2).trans rfl; have hfz66_0 := blk_frozen BK550.out 0; have hfz66_1 := blk_frozen BK550.out 1; have hfz66_2 := blk_frozen BK550.out 2; obtain ⟨Ao67, co67, eo67⟩ := Kd.S_slice HO545.out; subst eo67; obtain ⟨Ao68, co68, eo68⟩ := Kd.R_slice HO548.out; subst eo68)))
       go_ret3
       exact ⟨_, by first | rfl | (simp [errW_none, errW_some] <;> rfl) | (simp [*, errW_none, errW_some] <;> rfl), by first | exact Kd.S_nil _ _ _ _ _ | exact Kd.N_nil _ _ _ _ _ | exact Kd.V_nil _ _ _ _ _ | exact Kd.Q_nil _ _ _ _ _ | exact Kd.R_nil _ _ _ _ _, hb_⟩
     ·rw [if_neg c15] at H
      have c15b0 : (x7_12 == 0) = false := beq_eq_false_iff_ne.mpr c15
      have c15b1 : (x7_12 != 0) = true := bne_iff_ne.mpr c15
      simp only [Option.some.injEq, Prod.mk.injEq] at H
      obtain ⟨rfl, rfl, rfl⟩ := H
      go_wp2
      repeat (go_quiet (fail); try go_wp2)
      go_ret3
      exact ⟨_, by first | rfl | (simp [errW_none, errW_some] <;> rfl) | (simp [*, errW_none, errW_some] <;> rfl), by first | exact Kd.S_nil _ _ _ _ _ | exact Kd.N_nil _ _ _ _ _ | exact Kd.V_nil _ _ _ _ _ | exact Kd.Q_nil _ _ _ _ _ | exact Kd.R_nil _ _ _ _ _, hb_⟩
def impl_within.f (a0 : Int) (a1 : Int) (a2 : Int) : Option (Bool) := if a0 ≥ a1 then (some (decide (a0 ≤ a2))) else (some false)
theorem impl_within.calls (a0 : Int) (a1 : Int) (a2 : Int) (r : Bool) (w : World) (h : impl_within.f a0 a1 a2 = some r) :
  Calls Try.prog 92 #[.int .i64 a0, .int .i64 a1, .int .i64 a2] w fun e w' => e = .returned (.bool r) ∧ Drawn0 w w' := by
 have H : (if a0 ≥ a1 then (some (decide (a0 ≤ a2))) else (some false)) = some r := h
 clear h
 by_cases c4 : a0 ≥ a1
 ·rw [if_pos c4] at H
  have c4b0 : decide (a1 ≤ a0) = true := decide_eq_true c4
  clear c4
  obtain rfl := Option.some.inj H
  go_enter Try.func92, Try.ntmps92
  go_wp2
  go_ret
  exact ⟨by first | rfl | (simp; done) | (simp [*]; done), by repeat (first | exact Drawn0.refl _ | apply Drawn0.step)⟩
 ·rw [if_neg c4] at H
  have c4b0 : decide (a1 ≤ a0) = false := decide_eq_false c4
  clear c4
  obtain rfl := Option.some.inj H
  go_enter Try.func92, Try.ntmps92
  go_wp2
  go_ret
  exact ⟨by first | rfl | (simp; done) | (simp [*]; done), by repeat (first | exact Drawn0.refl _ | apply Drawn0.step)⟩
end Go.Proofs.Ythdoilfjcgickaa.Pr
end
section
namespace Go.Proofs.Ythdoilfjcgickaa.Pr
open Go.RowKit Go.Proofs.YthdoilfjcgickaaW.PrintWords Go.Proofs.YthdoilfjcgickaaW.PrintLast Go.Proofs.YthdoilfjcgickaaW.PrintMore
def RowsPred (g : Nat) (lb : Array Value) (p : List Int → Bool) (w : World) (l : List (List Int)) : Prop :=
 ∀ (W : World) (A : Option Addr) (c : Nat) (x : List Int), x ∈ l → Below w.heap.size w W → x.length ≤ c → Kd.C (Kd.int .i64) W A x.length x → Calls Try.prog g (#[.slice A x.length c] ++ lb) W fun e w' => e = .returned (.bool (p x)) ∧ Below W.heap.size W w'
theorem indexFuncRows (p : List Int → Bool) (g : Nat) (lb : Array Value) (eg : ∀ args w, (callFunc g args).run Try.prog w = .ok (.enter g args) w) (A : Option Addr) (c : Nat) (l : List (List Int)) (w : World)
  (hr : Kd.C (Kd.slice 2 (Kd.int .i64)) w A l.length l) (hp : RowsPred g lb p w l) :
  Calls Try.prog 158 #[.slice A l.length c, .func (.func g) #[] lb] w fun e w' => e = .returned (.int .i64 (idxP p l 0)) ∧ Below w.heap.size w w' := by
 have HR := Aside0.mk hr
 have HP := Aside0.mk hp
 have hbig : l.length ≤ 9223372036854775807 := hr.2.1
 clear hr hp
 go_enter Try.func158, Try.ntmps158
 go_wp2
 go_loopg [5, 8] l.length (fun gg _ s8 wr => ∃ kk : Nat, kk ≤ l.length ∧ l.length - kk ≤ gg ∧ s8 = .int .i64 kk ∧ Aside0 (Below w.heap.size w wr) ∧ Aside0 (∀ j (hj : j < l.length), j < kk → p l[j] = false))
 case atStart => exact ⟨0, Nat.zero_le _, by omega, rfl, ⟨Below.refl _ w⟩, ⟨fun j _ hj => absurd hj (Nat.not_lt_zero _)⟩⟩
 case round =>
  obtain ⟨kk, hkk, hg, rfl, BW, F⟩ := hrel
  by_cases hlt : kk < l.length
  ·obtain ⟨ad, A', c', e, hx, hc', hi⟩ := at_L1 HR.out kk (by omega) (by omega)
   cases e
   rw [Int.toNat_natCast] at hx
   have hx' := (BW.out.cell (World.block_lt_of_cell? w _ hx)).trans hx
   clear hx
   have hel : rd_L1 l (kk : Int) = l[kk] := by simp [rd_L1, hlt]
   have hcall := HP.out wr A' c' l[kk] (List.getElem_mem hlt) BW.out (by rw [← hel]; exact hc') (by rw [← hel]; exact Kd.C_below hi BW.out)
   rw [hel] at hx' hc' hi
   have HI := Aside0.mk hi
   have HC := Aside0.mk hc'
   clear hi hc' hel
   have hltz : (kk : Int) < (l.length : Int) := by omega
   have h0z : (0 : Int) ≤ (kk : Int) := by omega
   generalize hy : l[kk] = y at hx' hcall HI HC
   have HY := Aside0.mk hy
   clear hy
   cases hq : p y with
   | true =>
    rw [hq] at hcall
    have HQ := Aside0.mk hq
    clear hq
    go_wp2_with fail
    refine hcall.mono ?_
    rintro e w' ⟨rfl, hb'⟩
    clear hcall
    go_wp2
    go_ret
    refine ⟨?_, Below.trans BW.out (hb'.mono BW.out.size)⟩
    rw [idxP_hit p l kk hlt F.out (by rw [HY.out]; exact HQ.out)]
    rfl
   | false =>
    rw [hq] at hcall
    have HQ := Aside0.mk hq
    clear hq
    go_wp2_with fail
    refine hcall.mono ?_
    rintro e w' ⟨rfl, hb'⟩
    clear hcall
    go_wp2
    go_roundg (l.length - (kk + 1))
    case measure => omega
    case rel =>
     refine ⟨kk + 1, by omega, by omega, by go_num, ⟨Below.trans BW.out (hb'.mono BW.out.size)⟩, ⟨fun j hj hjk => ?_⟩⟩
     by_cases e : j = kk
     ·subst e
      rw [HY.out]; exact HQ.out
     ·exact F.out j hj (by omega)
  ·have hltz : ¬ (kk : Int) < (l.length : Int) := by omega
   obtain rfl : kk = l.length := by omega
   go_wp2
   go_ret
   refine ⟨?_, BW.out⟩
   rw [idxP_miss p l (fun i hi => F.out i hi hi)]
   rfl
theorem containsFuncRows (p : List Int → Bool) (g : Nat) (lb : Array Value) (eg : ∀ args w, (callFunc g args).run Try.prog w = .ok (.enter g args) w) (A : Option Addr) (c : Nat) (l : List (List Int)) (w : World)
  (hr : Kd.C (Kd.slice 2 (Kd.int .i64)) w A l.length l) (hp : RowsPred g lb p w l) :
  Calls Try.prog 138 #[.slice A l.length c, .func (.func g) #[] lb] w fun e w' => e = .returned (.bool (l.any p)) ∧ Below w.heap.size w w' := by
 rw [← idxP_nonneg p l 0 (Int.le_refl _)]
 have HR := Aside0.mk hr
 have HP := Aside0.mk hp
 clear hr hp
 go_enter Try.func138, Try.ntmps138
 go_wp2_with fail
 refine (indexFuncRows p g lb eg A c l _ HR.out HP.out).mono ?_
 rintro e w' ⟨rfl, hb'⟩
 go_wp2
 go_ret
 exact ⟨rfl, hb'⟩
end Go.Proofs.Ythdoilfjcgickaa.Pr
end
section
namespace Go.Proofs.Ythdoilfjcgickaa.Pr
open Go.RowKit Go.Proofs.YthdoilfjcgickaaW.PrintWords Go.Proofs.YthdoilfjcgickaaW.PrintLast Go.Proofs.YthdoilfjcgickaaW.PrintMore
def badL (k : Int) (row : List Int) : Bool := (row.length : Int) != k
theorem isSquare1 (gb : Nat) (k : Int) (A : Option Addr) (c : Nat) (x : List Int) (w : World) (hb : w.cell? ⟨gb, 0, none⟩ = some (.int .i64 k)) :
  Calls Try.prog 157 (#[.slice A x.length c] ++ #[.pointer (some ⟨gb, 0, none⟩)]) w fun e w' => e = .returned (.bool (badL k x)) ∧ Below w.heap.size w w' := by
 unfold badL
 show Calls Try.prog 157 #[.slice A x.length c, .pointer (some ⟨gb, 0, none⟩)] w _
 by_cases e : (x.length : Int) = k
 ·have h1 : ((x.length : Int) != k) = false := by simp [e]
  have h2 : ((x.length : Int) == k) = true := by simp [e]
  clear e
  go_enter Try.func157, Try.ntmps157
  go_wp2
  go_ret
  exact ⟨by rw [h1]; rfl, Below.refl _ _⟩
 ·have h1 : ((x.length : Int) != k) = true := by simp [e]
  have h2 : ((x.length : Int) == k) = false := by simp [e]
  clear e
  go_enter Try.func157, Try.ntmps157
  go_wp2
  go_ret
  exact ⟨by rw [h1]; rfl, Below.refl _ _⟩
theorem isSquare1_enters : ∀ args w, (callFunc 157 args).run Try.prog w = .ok (.enter 157 args) w := enters_fn Try.func157 (by kernel_rfl) rfl
def impl_isSquare.f (l0 : List (List Int)) (a1 : Int) : Option Bool := some (((l0.length : Int) == a1) && !(l0.any (badL a1)))
theorem impl_isSquare.calls (A0 : Option Addr) (c0 : Nat) (l0 : List (List Int)) (a1 : Int) (r : Bool) (w : World) (hr0 : Kd.C (Kd.slice 2 (Kd.int .i64)) w A0 l0.length l0) (hc0 : l0.length ≤ c0) (h : impl_isSquare.f l0 a1 = some r) :
  Calls Try.prog 137 #[.slice A0 l0.length c0, .int .i64 a1] w fun e w' => e = .returned (.bool r) ∧ Below w.heap.size w w' := by
 have HR := Aside0.mk hr0
 clear hr0 hc0
 have hv := (Option.some.inj h)
 clear h
 by_cases e : (l0.length : Int) = a1
 ·have h1 : ((l0.length : Int) == a1) = true := by simp [e]
  rw [h1, Bool.true_and] at hv
  have HV := Aside0.mk hv
  clear hv e
  have hcall := fun (gb : Nat) W (hW : Below w.heap.size w W) (hgb : gb < W.heap.size) (hcell : W.cell? ⟨gb, 0, none⟩ = some (.int .i64 a1)) =>
   containsFuncRows (badL a1) 157 #[.pointer (some ⟨gb, 0, none⟩)] isSquare1_enters A0 c0 l0 W (Kd.C_below HR.out hW)
    (fun W' A c x _ hb _ hC => isSquare1 gb a1 A c x W' ((hb.cell (p := ⟨gb, 0, none⟩) hgb).trans hcell))
  have HC := Aside0.mk hcall
  clear hcall
  generalize l0.any (badL a1) = b at HC HV
  go_enter Try.func137, Try.ntmps137
  go_wp2_with fail
  refine (HC.out _ _ ((Below.refl _ _).alloc (Nat.le_refl _) _) (by simp) (by simp)).mono ?_
  rintro e w' ⟨rfl, hb'⟩
  go_wp2
  go_ret
  exact ⟨by rw [← HV.out]; rfl, ((Below.refl _ _).alloc (Nat.le_refl _) _).trans (hb'.mono (by simp))⟩
 ·have h1 : ((l0.length : Int) == a1) = false := by simp [e]
  rw [h1, Bool.false_and] at hv
  have HV := Aside0.mk hv
  clear hv e
  go_enter Try.func137, Try.ntmps137
  go_wp2
  go_ret
  exact ⟨by rw [← HV.out]; rfl, (Below.refl _ _).alloc (Nat.le_refl _) _⟩
end Go.Proofs.Ythdoilfjcgickaa.Pr
end
section
namespace Go.Proofs.Ythdoilfjcgickaa.Pr
open Go.RowKit Go.Proofs.YthdoilfjcgickaaW.PrintWords Go.Proofs.YthdoilfjcgickaaW.PrintLast Go.Proofs.YthdoilfjcgickaaW.PrintMore
def IntsPred (g : Nat) (lb : Array Value) (p : Int → Bool) (w : World) (l : List Int) : Prop :=
 ∀ (W : World) (x : Int), x ∈ l → Below w.heap.size w W → Calls Try.prog g (#[.int .i64 x] ++ lb) W fun e w' => e = .returned (.bool (p x)) ∧ Below W.heap.size W w'
theorem indexFuncInts (p : Int → Bool) (g : Nat) (lb : Array Value) (eg : ∀ args w, (callFunc g args).run Try.prog w = .ok (.enter g args) w) (A : Option Addr) (c : Nat) (l : List Int) (w : World)
  (hr : Kd.C (Kd.int .i64) w A l.length l) (hp : IntsPred g lb p w l) :
  Calls Try.prog 148 #[.slice A l.length c, .func (.func g) #[] lb] w fun e w' => e = .returned (.int .i64 (idxP p l 0)) ∧ Below w.heap.size w w' := by
 have HR := Aside0.mk hr
 have HP := Aside0.mk hp
 have hbig : l.length ≤ 9223372036854775807 := hr.2.1
 clear hr hp
 go_enter Try.func148, Try.ntmps148
 go_wp2
 go_loopg [5, 8] l.length (fun gg _ s8 wr => ∃ kk : Nat, kk ≤ l.length ∧ l.length - kk ≤ gg ∧ s8 = .int .i64 kk ∧ Aside0 (Below w.heap.size w wr) ∧ Aside0 (∀ j (hj : j < l.length), j < kk → p l[j] = false))
 case atStart => exact ⟨0, Nat.zero_le _, by omega, rfl, ⟨Below.refl _ w⟩, ⟨fun j _ hj => absurd hj (Nat.not_lt_zero _)⟩⟩
 case round =>
  obtain ⟨kk, hkk, hg, rfl, BW, F⟩ := hrel
  by_cases hlt : kk < l.length
  ·obtain ⟨ad, e, hx⟩ := Kd.at_int HR.out kk (by omega) (by omega)
   cases e
   rw [Int.toNat_natCast] at hx
   have hx' := (BW.out.cell (World.block_lt_of_cell? w _ hx)).trans hx
   clear hx
   have hel : rd l (kk : Int) = l[kk] := by simp [rd, hlt]
   have hcall := HP.out wr l[kk] (List.getElem_mem hlt) BW.out
   rw [hel] at hx'
   clear hel
   have hltz : (kk : Int) < (l.length : Int) := by omega
   have h0z : (0 : Int) ≤ (kk : Int) := by omega
   generalize hy : l[kk] = y at hx' hcall
   have HY := Aside0.mk hy
   clear hy
   cases hq : p y with
   | true =>
    rw [hq] at hcall
    have HQ := Aside0.mk hq
    clear hq
    go_wp2_with fail
    refine hcall.mono ?_
    rintro e w' ⟨rfl, hb'⟩
    clear hcall
    go_wp2
    go_ret
    refine ⟨?_, Below.trans BW.out (hb'.mono BW.out.size)⟩
    rw [idxP_hit p l kk hlt F.out (by rw [HY.out]; exact HQ.out)]
    rfl
   | false =>
    rw [hq] at hcall
    have HQ := Aside0.mk hq
    clear hq
    go_wp2_with fail
    refine hcall.mono ?_
    rintro e w' ⟨rfl, hb'⟩
    clear hcall
    go_wp2
    go_roundg (l.length - (kk + 1))
    case measure => omega
    case rel =>
     refine ⟨kk + 1, by omega, by omega, by go_num, ⟨Below.trans BW.out (hb'.mono BW.out.size)⟩, ⟨fun j hj hjk => ?_⟩⟩
     by_cases e : j = kk
     ·subst e
      rw [HY.out]; exact HQ.out
     ·exact F.out j hj (by omega)
  ·have hltz : ¬ (kk : Int) < (l.length : Int) := by omega
   obtain rfl : kk = l.length := by omega
   go_wp2
   go_ret
   refine ⟨?_, BW.out⟩
   rw [idxP_miss p l (fun i hi => F.out i hi hi)]
   rfl
theorem containsFuncInts (p : Int → Bool) (g : Nat) (lb : Array Value) (eg : ∀ args w, (callFunc g args).run Try.prog w = .ok (.enter g args) w) (A : Option Addr) (c : Nat) (l : List Int) (w : World)
  (hr : Kd.C (Kd.int .i64) w A l.length l) (hp : IntsPred g lb p w l) :
  Calls Try.prog 113 #[.slice A l.length c, .func (.func g) #[] lb] w fun e w' => e = .returned (.bool (l.any p)) ∧ Below w.heap.size w w' := by
 rw [← idxP_nonneg p l 0 (Int.le_refl _)]
 have HR := Aside0.mk hr
 have HP := Aside0.mk hp
 clear hr hp
 go_enter Try.func113, Try.ntmps113
 go_wp2_with fail
 refine (indexFuncInts p g lb eg A c l _ HR.out HP.out).mono ?_
 rintro e w' ⟨rfl, hb'⟩
 go_wp2
 go_ret
 exact ⟨rfl, hb'⟩
end Go.Proofs.Ythdoilfjcgickaa.Pr
end
section
namespace Go.Proofs.Ythdoilfjcgickaa.Pr
open Go.RowKit Go.Proofs.YthdoilfjcgickaaW.PrintWords Go.Proofs.YthdoilfjcgickaaW.PrintLast Go.Proofs.YthdoilfjcgickaaW.PrintMore
attribute [local go_sem] max2_int min2_int max_two min_two max_three min_three max_four min_four
def impl_size.f (a0 : Int) : Option (Int) := some (mx a0 (wrap64 (-a0)))
theorem impl_size.calls (a0 : Int) (r : Int) (w : World) (h : impl_size.f a0 = some r) :
  Calls Try.prog 145 #[.int .i64 a0] w fun e w' => e = .returned (.int .i64 r) ∧ Below w.heap.size w w' := by
 have HB := Aside0.mk (Below.refl w.heap.size w)
 have H : (some (mx a0 (wrap64 (-a0)))) = some r := h
 clear h
 obtain ⟨ji2, hji2⟩ : ∃ j_ : Int, (mx a0 (wrap64 (-a0))) = j_ := ⟨_, rfl⟩
 replace H : (some ji2) = some r := by first | (rw [hji2] at H; exact H) | (simp only [hji2] at H ⊢; exact H)
 have hji2_ : (if a0 < (wrap64 (-a0)) then (wrap64 (-a0)) else a0) = ji2 := hji2
 obtain rfl := Option.some.inj H
 go_enter Try.func145, Try.ntmps145
 go_wp2
 go_ret
 exact ⟨by first | rfl | (simp [errW_none, errW_some] <;> rfl) | (simp only [← hji2]; first | rfl | (simp [errW_none, errW_some] <;> rfl)) | (simp [*, errW_none, errW_some] <;> rfl), hb_⟩
def impl_upTo.f (a0 : Int) (a1 : Int) : Option (Bool) := (impl_within.f a0 (wrap64 (-a1)) a1).bind fun t1075 => (some t1075)
theorem impl_upTo.calls (a0 : Int) (a1 : Int) (r : Bool) (w : World) (h : impl_upTo.f a0 a1 = some r) :
  Calls Try.prog 141 #[.int .i64 a0, .int .i64 a1] w fun e w' => e = .returned (.bool r) ∧ Drawn0 w w' := by
 have H : ((impl_within.f a0 (wrap64 (-a1)) a1).bind fun t1075 => (some t1075)) = some r := h
 clear h
 replace H := Option.bind_eq_some_iff.mp H
 obtain ⟨t1075, A30, H⟩ := H
 replace H : (some t1075) = some r := H
 have A3 := Aside0.mk A30
 clear A30
 obtain rfl := Option.some.inj H
 go_enter Try.func141, Try.ntmps141
 go_wp2_with (first | ((with_reducible refine gate_callee (f := 92) rfl ?_); refine goesL_ (some 9) rfl rfl Try.func92 (by kernel_rfl) rfl #[.int .i64 a0, .int .i64 (wrap64 (-a1)), .int .i64 a1] rfl (by (try simp only [List.map_toArray, List.map_cons, List.map_nil]); first | done | rfl | (simp only [List.length_drop, List.length_take]; rfl)) ?_; (with_reducible refine (impl_within.calls a0 (wrap64 (-a1)) a1 t1075 _ A3.out).mono ?_); rintro e w' ⟨rfl, ⟨nd, rfl⟩⟩; refine ⟨_, rfl, ?_⟩))
 go_ret
 exact ⟨by first | rfl | (simp; done) | (simp [*]; done), by repeat (first | exact Drawn0.refl _ | apply Drawn0.step)⟩
end Go.Proofs.Ythdoilfjcgickaa.Pr
end
section
namespace Go.Proofs.Ythdoilfjcgickaa.Pr
open Go.RowKit Go.Proofs.YthdoilfjcgickaaW.PrintWords Go.Proofs.YthdoilfjcgickaaW.PrintLast Go.Proofs.YthdoilfjcgickaaW.PrintMore
def badU (a n : Int) : Bool := !(decide (-a ≤ n) && decide (n ≤ a))
theorem upTo_f (n a : Int) (h0 : 0 ≤ a) (h1 : a ≤ 1099511627776) : impl_upTo.f n a = some (!(badU a n)) := by
 unfold impl_upTo.f impl_within.f badU
 rw [Ma.w64 (by omega) (by omega), Bool.not_not]
 by_cases h : -a ≤ n
 ·rw [if_pos (by omega)]; simp [h]
 ·rw [if_neg (by omega)]; simp [h]
theorem allUpTo1 (gb : Nat) (a n : Int) (w : World) (h0 : 0 ≤ a) (h1 : a ≤ 1099511627776) (hb : w.cell? ⟨gb, 0, none⟩ = some (.int .i64 a)) :
  Calls Try.prog 140 (#[.int .i64 n] ++ #[.pointer (some ⟨gb, 0, none⟩)]) w fun e w' => e = .returned (.bool (badU a n)) ∧ Below w.heap.size w w' := by
 have hf := upTo_f n a h0 h1
 have HF := Aside0.mk hf
 clear hf h0 h1
 show Calls Try.prog 140 #[.int .i64 n, .pointer (some ⟨gb, 0, none⟩)] w _
 generalize badU a n = b at HF ⊢
 go_enter Try.func140, Try.ntmps140
 go_wp2_with fail
 refine (impl_upTo.calls n a _ _ HF.out).mono ?_
 rintro e w' ⟨rfl, ⟨nd, rfl⟩⟩
 go_wp2
 go_ret
 refine ⟨by simp, pw_below_drewN (Below.refl _ _) _⟩
theorem allUpTo1_enters : ∀ args w, (callFunc 140 args).run Try.prog w = .ok (.enter 140 args) w := enters_fn Try.func140 (by kernel_rfl) rfl
def impl_allUpTo.f (l0 : List Int) (a1 : Int) : Option Bool := if 0 ≤ a1 ∧ a1 ≤ 1099511627776 then some (!(l0.any (badU a1))) else none
theorem impl_allUpTo.calls (A0 : Option Addr) (c0 : Nat) (l0 : List Int) (a1 : Int) (r : Bool) (w : World) (hr0 : Kd.C (Kd.int .i64) w A0 l0.length l0) (hc0 : l0.length ≤ c0) (h : impl_allUpTo.f l0 a1 = some r) :
  Calls Try.prog 106 #[.slice A0 l0.length c0, .int .i64 a1] w fun e w' => e = .returned (.bool r) ∧ Below w.heap.size w w' := by
 unfold impl_allUpTo.f at h
 split at h
 case isFalse => cases h
 rename_i ha
 have HR := Aside0.mk hr0
 clear hr0 hc0
 have HV := Aside0.mk (Option.some.inj h)
 clear h
 have hcall := fun (gb : Nat) W (hW : Below w.heap.size w W) (hgb : gb < W.heap.size) (hcell : W.cell? ⟨gb, 0, none⟩ = some (.int .i64 a1)) =>
  containsFuncInts (badU a1) 140 #[.pointer (some ⟨gb, 0, none⟩)] allUpTo1_enters A0 c0 l0 W (Kd.C_below HR.out hW)
   (fun W' x _ hb => allUpTo1 gb a1 x W' ha.1 ha.2 ((hb.cell (p := ⟨gb, 0, none⟩) hgb).trans hcell))
 have HC := Aside0.mk hcall
 clear hcall ha
 generalize l0.any (badU a1) = b at HC HV
 go_enter Try.func106, Try.ntmps106
 go_wp2_with fail
 refine (HC.out _ _ ((Below.refl _ _).alloc (Nat.le_refl _) _) (by simp) (by simp)).mono ?_
 rintro e w' ⟨rfl, hb'⟩
 go_wp2
 go_ret
 exact ⟨by rw [← HV.out]; rfl, ((Below.refl _ _).alloc (Nat.le_refl _) _).trans (hb'.mono (by simp))⟩
end Go.Proofs.Ythdoilfjcgickaa.Pr
end
section
namespace Go.Proofs.Ythdoilfjcgickaa.Pr
open Go.RowKit Go.Proofs.YthdoilfjcgickaaW.PrintWords Go.Proofs.YthdoilfjcgickaaW.PrintLast Go.Proofs.YthdoilfjcgickaaW.PrintMore
def badM (row : List Int) : Bool := row.any (badU 20)
theorem isMatrix1 (A : Option Addr) (c : Nat) (x : List Int) (w : World) (hx : Kd.C (Kd.int .i64) w A x.length x) (hc : x.length ≤ c) :
  Calls Try.prog 139 (#[.slice A x.length c] ++ #[]) w fun e w' => e = .returned (.bool (badM x)) ∧ Below w.heap.size w w' := by
 have HX := Aside0.mk hx
 have HC := Aside0.mk hc
 have hf : impl_allUpTo.f x 20 = some (!(badM x)) := by unfold impl_allUpTo.f badM; rw [if_pos ⟨by decide, by decide⟩]
 have HF := Aside0.mk hf
 clear hx hc hf
 show Calls Try.prog 139 #[.slice A x.length c] w _
 generalize badM x = b at HF ⊢
 go_enter Try.func139, Try.ntmps139
 go_wp2_with fail
 refine (impl_allUpTo.calls A c x 20 _ _ HX.out HC.out HF.out).mono ?_
 rintro e w' ⟨rfl, hb⟩
 go_wp2
 go_ret
 exact ⟨by simp, hb⟩
theorem isMatrix1_enters : ∀ args w, (callFunc 139 args).run Try.prog w = .ok (.enter 139 args) w := enters_fn Try.func139 (by kernel_rfl) rfl
def impl_IsMatrix.f (l0 : List (List Int)) : Option Bool := some ((decide (1 ≤ (l0.length : Int)) && decide ((l0.length : Int) ≤ 5)) && !(l0.any (badL l0.length)) && !(l0.any badM))
theorem within_b (n a b : Int) : impl_within.f n a b = some (decide (a ≤ n) && decide (n ≤ b)) := by
 unfold impl_within.f
 by_cases h : a ≤ n
 ·rw [if_pos (by omega)]; simp [h]
 ·rw [if_neg (by omega)]; simp [h]
theorem impl_IsMatrix.calls (A0 : Option Addr) (c0 : Nat) (l0 : List (List Int)) (r : Bool) (w : World) (hr0 : Kd.C (Kd.slice 2 (Kd.int .i64)) w A0 l0.length l0) (hc0 : l0.length ≤ c0) (h : impl_IsMatrix.f l0 = some r) :
  Calls Try.prog 105 #[.slice A0 l0.length c0] w fun e w' => e = .returned (.bool r) ∧ Below w.heap.size w w' := by
 have HR := Aside0.mk hr0
 have HC0 := Aside0.mk hc0
 have HW := Aside0.mk (within_b (l0.length : Int) 1 5)
 have hsq : impl_isSquare.f l0 (l0.length : Int) = some (!(l0.any (badL l0.length))) := by unfold impl_isSquare.f; simp
 have HS := Aside0.mk hsq
 have hv := (Option.some.inj h)
 have hcall := fun W (hW : Below w.heap.size w W) => containsFuncRows badM 139 #[] isMatrix1_enters A0 c0 l0 W (Kd.C_below HR.out hW) (fun W' A c x _ _ hc hC => isMatrix1 A c x W' hC hc)
 have HC := Aside0.mk hcall
 have HV := Aside0.mk hv
 clear hr0 hc0 h hsq hv hcall
 generalize l0.any badM = b3 at HC HV
 generalize l0.any (badL l0.length) = b2 at HS HV
 generalize (decide (1 ≤ (l0.length : Int)) && decide ((l0.length : Int) ≤ 5)) = b1 at HW HV
 go_enter Try.func105, Try.ntmps105
 go_wp2_with fail
 refine (impl_within.calls _ 1 5 _ _ HW.out).mono ?_
 rintro e w1 ⟨rfl, hd⟩
 have hb1 := hd.below
 have HB1 := Aside0.mk hb1
 clear hb1 hd
 cases b1 with
 | false =>
  go_wp2
  go_ret
  exact ⟨by rw [← HV.out]; rfl, HB1.out⟩
 | true =>
  go_wp2_with fail
  refine (impl_isSquare.calls A0 c0 l0 _ _ _ (Kd.C_below HR.out HB1.out) HC0.out HS.out).mono ?_
  rintro e w2 ⟨rfl, hb2⟩
  have HB2 := Aside0.mk (HB1.out.trans (hb2.mono HB1.out.size))
  clear hb2
  cases b2 with
  | true =>
   go_wp2
   go_ret
   exact ⟨by rw [← HV.out]; rfl, HB2.out⟩
  | false =>
   go_wp2_with fail
   refine (HC.out _ HB2.out).mono ?_
   rintro e w3 ⟨rfl, hb3⟩
   go_wp2
   go_ret
   exact ⟨by rw [← HV.out]; simp, HB2.out.trans (hb3.mono HB2.out.size)⟩
end Go.Proofs.Ythdoilfjcgickaa.Pr
end
section
namespace Go.Proofs.Ythdoilfjcgickaa.Pr
open Go.RowKit Go.Proofs.YthdoilfjcgickaaW.PrintWords Go.Proofs.YthdoilfjcgickaaW.PrintLast Go.Proofs.YthdoilfjcgickaaW.PrintMore
attribute [local go_sem] max2_int min2_int max_two min_two max_three min_three max_four min_four
def impl_IsProblem.f (l0_0 : List (List Int)) (l0_1 : List Int) : Option (Bool) := (impl_IsMatrix.f l0_0).bind fun t324 => (if t324 = true then (if (l0_1.length : Int) = (l0_0.length : Int) then ((impl_allUpTo.f l0_1 100).bind fun t325 => (some t325)) else (some false)) else (some false))
theorem impl_IsProblem.calls (A0_0 : Option Addr) (c0_0 : Nat) (l0_0 : List (List Int)) (A0_1 : Option Addr) (c0_1 : Nat) (l0_1 : List Int) (r : Bool) (w : World) (hr0_0 : Kd.C (Kd.slice 2 (Kd.int .i64)) w A0_0 l0_0.length l0_0) (hc0_0 : l0_0.length ≤ c0_0) (hr0_1 : Kd.C (Kd.int .i64) w A0_1 l0_1.length l0_1) (hc0_1 : l0_1.length ≤ c0_1) (h : impl_IsProblem.f l0_0 l0_1 = some r) :
  Calls Try.prog 69 #[.agg #[.slice A0_0 l0_0.length c0_0, .slice A0_1 l0_1.length c0_1]] w fun e w' => e = .returned (.bool r) ∧ Below w.heap.size w w' := by
 have hu29 := Try.underlying29
 have HR0_0 := Aside0.mk hr0_0
 have HC0_0 := Aside0.mk hc0_0
 clear hr0_0 hc0_0
 have HR0_1 := Aside0.mk hr0_1
 have HC0_1 := Aside0.mk hc0_1
 clear hr0_1 hc0_1
 have HB := Aside0.mk (Below.refl w.heap.size w)
 have H : ((impl_IsMatrix.f l0_0).bind fun t324 => (if t324 = true then (if (l0_1.length : Int) = (l0_0.length : Int) then ((impl_allUpTo.f l0_1 100).bind fun t325 => (some t325)) else (some false)) else (some false))) = some r := h
 clear h
 replace H := Option.bind_eq_some_iff.mp H
 obtain ⟨t324, A20, H⟩ := H
 replace H : (if t324 = true then (if (l0_1.length : Int) = (l0_0.length : Int) then ((impl_allUpTo.f l0_1 100).bind fun t325 => (some t325)) else (some false)) else (some false)) = some r := H
 have A2 := Aside0.mk A20
 clear A20
 by_cases c3 : t324 = true
 ·subst c3
  have H1 : (if (l0_1.length : Int) = (l0_0.length : Int) then ((impl_allUpTo.f l0_1 100).bind fun t325 => (some t325)) else (some false)) = some r := by rw [if_pos rfl] at H; exact H
  clear H
  have H := H1
  clear H1
  by_cases c4 : (l0_1.length : Int) = (l0_0.length : Int)
  ·rw [if_pos c4] at H
   have c4b0 : ((l0_1.length : Int) == (l0_0.length : Int)) = true := beq_iff_eq.mpr c4
   have c4b1 : ((l0_1.length : Int) != (l0_0.length : Int)) = false := bne_eq_false_iff_eq.mpr c4
   have c4b2 : (l0_1.length == l0_0.length) = true := by first | simpa using c4 | (simp at c4 ⊢; omega)
   clear c4
   replace H := Option.bind_eq_some_iff.mp H
   obtain ⟨t325, A50, H⟩ := H
   replace H : (some t325) = some r := H
   have A5 := Aside0.mk A50
   clear A50
   obtain rfl := Option.some.inj H
   go_enter Try.func69, Try.ntmps69
   go_wp2_with (first | ((with_reducible refine gate_dst (N := 1) rfl ?_); (try (refine gate_guard (by rfl) ?_; dsimp only)); refine box_event ?hg (N := 1) ?hd (cs := #[.slice A0_0 l0_0.length c0_0, .slice A0_1 l0_1.length c0_1]) (t := 29) ?hr ?_; (case hd => rfl); (case hg => rfl); (case hr => first | (go_simp; done) | (go_simp; rfl)); intro gb323 hg w6 hbox hb; have n0_ := Aside0.mk (bs_ hb); have n1_ := Aside0.mk (hbox); have n2_ := Aside0.mk ((by rw [hg]; exact bz_ : w.heap.size ≤ gb323)); have n3_ := Aside0.mk ((by rw [hg]; exact bz_ : w.heap.size ≤ gb323)); clear HB; have HB := n0_; have BK323 := n1_; have GW323 := n2_; have GE323 := n3_; clear n0_ n1_ n2_ n3_; clear hb hbox hg; have hcz7_0 : w6.cell? ⟨gb323, 0, none⟩ = some (.slice A0_0 l0_0.length c0_0) := (blk_cell BK323.out 0).trans rfl; have hcz7_1 : w6.cell? ⟨gb323, 1, none⟩ = some (.slice A0_1 l0_1.length c0_1) := (blk_cell BK323.out 1).trans rfl; have hfz7_0 := blk_frozen BK323.out 0; have hfz7_1 := blk_frozen BK323.out 1) | ((with_reducible refine gate_callee (f := 105) rfl ?_); refine goesL_ (some 5) rfl rfl Try.func105 (by kernel_rfl) rfl #[.slice A0_0 l0_0.length c0_0] rfl (by (try simp only [List.map_toArray, List.map_cons, List.map_nil]); first | done | rfl | (simp only [List.length_drop, List.length_take]; rfl)) ?_; (with_reducible refine (impl_IsMatrix.calls _ _ l0_0 true _ ?side1 ?side2 A2.out).mono ?_); (case side1 => exact cb_ HR0_0.out HB.out); (case side2 => exact HC0_0.out); rintro e w8 ⟨rfl, hb⟩; refine ⟨_, rfl, ?_⟩; have n0_ := Aside0.mk (bb_ BK323.out hb); have n1_ := Aside0.mk (bs_ hb); clear BK323; clear HB; have BK323 := n0_; have HB := n1_; clear n0_ n1_; (try clear hb); (try clear hb2); (try clear hk); (try clear hi); have hcz9_0 : w8.cell? ⟨gb323, 0, none⟩ = some (.slice A0_0 l0_0.length c0_0) := (blk_cell BK323.out 0).trans rfl; have hcz9_1 : w8.cell? ⟨gb323, 1, none⟩ = some (.slice A0_1 l0_1.length c0_1) := (blk_cell BK323.out 1).trans rfl; have hfz9_0 := blk_frozen BK323.out 0; have hfz9_1 := blk_frozen BK323.out 1) | (go_at_call 106; (with_reducible refine (impl_allUpTo.calls _ _ l0_1 100 t325 _ ?side1 ?side2 A5.out).mono ?_); (case side1 => exact cb_ HR0_1.out HB.out); (case side2 => exact HC0_1.out); rintro e w10 ⟨rfl, hb⟩; have n0_ := Aside0.mk (bb_ BK323.out hb); have n1_ := Aside0.mk (bs_ hb); clear BK323; clear HB; have BK323 := n0_; have HB := n1_; clear n0_ n1_; (try clear hb); (try clear hb2); (try clear hk); (try clear hi)))
   go_ret
   exact ⟨by first | rfl | (simp [errW_none, errW_some] <;> rfl) | (simp [*, errW_none, errW_some] <;> rfl), hb_⟩
  ·rw [if_neg c4] at H
   have c4b0 : ((l0_1.length : Int) == (l0_0.length : Int)) = false := beq_eq_false_iff_ne.mpr c4
   have c4b1 : ((l0_1.length : Int) != (l0_0.length : Int)) = true := bne_iff_ne.mpr c4
   have c4b2 : (l0_1.length == l0_0.length) = false := by first | simpa using c4 | (simp at c4 ⊢; omega)
   obtain rfl := Option.some.inj H
   go_enter Try.func69, Try.ntmps69
   go_wp2_with (first | ((with_reducible refine gate_dst (N := 1) rfl ?_); (try (refine gate_guard (by rfl) ?_; dsimp only)); refine box_event ?hg (N := 1) ?hd (cs := #[.slice A0_0 l0_0.length c0_0, .slice A0_1 l0_1.length c0_1]) (t := 29) ?hr ?_; (case hd => rfl); (case hg => rfl); (case hr => first | (go_simp; done) | (go_simp; rfl)); intro gb323 hg w11 hbox hb; have n0_ := Aside0.mk (bs_ hb); have n1_ := Aside0.mk (hbox); have n2_ := Aside0.mk ((by rw [hg]; exact bz_ : w.heap.size ≤ gb323)); have n3_ := Aside0.mk ((by rw [hg]; exact bz_ : w.heap.size ≤ gb323)); clear HB; have HB := n0_; have BK323 := n1_; have GW323 := n2_; have GE323 := n3_; clear n0_ n1_ n2_ n3_; clear hb hbox hg; have hcz12_0 : w11.cell? ⟨gb323, 0, none⟩ = some (.slice A0_0 l0_0.length c0_0) := (blk_cell BK323.out 0).trans rfl; have hcz12_1 : w11.cell? ⟨gb323, 1, none⟩ = some (.slice A0_1 l0_1.length c0_1) := (blk_cell BK323.out 1).trans rfl; have hfz12_0 := blk_frozen BK323.out 0; have hfz12_1 := blk_frozen BK323.out 1) | ((with_reducible refine gate_callee (f := 105) rfl ?_); refine goesL_ (some 5) rfl rfl Try.func105 (by kernel_rfl) rfl #[.slice A0_0 l0_0.length c0_0] rfl (by (try simp only [List.map_toArray, List.map_cons, List.map_nil]); first | done | rfl | (simp only [List.length_drop, List.length_take]; rfl)) ?_; (with_reducible refine (impl_IsMatrix.calls _ _ l0_0 true _ ?side1 ?side2 A2.out).mono ?_); (case side1 => exact cb_ HR0_0.out HB.out); (case side2 => exact HC0_0.out); rintro e w13 ⟨rfl, hb⟩; refine ⟨_, rfl, ?_⟩; have n0_ := Aside0.mk (bb_ BK323.out hb); have n1_ := Aside0.mk (bs_ hb); clear BK323; clear HB; have BK323 := n0_; have HB := n1_; clear n0_ n1_; (try clear hb); (try clear hb2); (try clear hk); (try clear hi); have hcz14_0 : w13.cell? ⟨gb323, 0, none⟩ = some (.slice A0_0 l0_0.length c0_0) := (blk_cell BK323.out 0).trans rfl; have hcz14_1 : w13.cell? ⟨gb323, 1, none⟩ = some (.slice A0_1 l0_1.length c0_1) := (blk_cell BK323.out 1).trans rfl; have hfz14_0 := blk_frozen BK323.out 0; have hfz14_1 := blk_frozen BK323.out 1))
   go_ret
   exact ⟨by first | rfl | (simp [errW_none, errW_some] <;> rfl) | (simp [*, errW_none, errW_some] <;> rfl), hb_⟩
 ·replace c3 := Bool.eq_false_iff.mpr c3
  subst c3
  have H1 : (some false) = some r := by rw [if_neg (show ¬ (false = true) by decide)] at H; exact H
  clear H
  have H := H1
  clear H1
  obtain rfl := Option.some.inj H
  go_enter Try.func69, Try.ntmps69
  go_wp2_with (first | ((with_reducible refine gate_dst (N := 1) rfl ?_); (try (refine gate_guard (by rfl) ?_; dsimp only)); refine box_event ?hg (N := 1) ?hd (cs := #[.slice A0_0 l0_0.length c0_0, .slice A0_1 l0_1.length c0_1]) (t := 29) ?hr ?_; (case hd => rfl); (case hg => rfl); (case hr => first | (go_simp; done) | (go_simp; rfl)); intro gb323 hg w15 hbox hb; have n0_ := Aside0.mk (bs_ hb); have n1_ := Aside0.mk (hbox); have n2_ := Aside0.mk ((by rw [hg]; exact bz_ : w.heap.size ≤ gb323)); have n3_ := Aside0.mk ((by rw [hg]; exact bz_ : w.heap.size ≤ gb323)); clear HB; have HB := n0_; have BK323 := n1_; have GW323 := n2_; have GE323 := n3_; clear n0_ n1_ n2_ n3_; clear hb hbox hg; have hcz16_0 : w15.cell? ⟨gb323, 0, none⟩ = some (.slice A0_0 l0_0.length c0_0) := (blk_cell BK323.out 0).trans rfl; have hcz16_1 : w15.cell? ⟨gb323, 1, none⟩ = some (.slice A0_1 l0_1.length c0_1) := (blk_cell BK323.out 1).trans rfl; have hfz16_0 := blk_frozen BK323.out 0; have hfz16_1 := blk_frozen BK323.out 1) | ((with_reducible refine gate_callee (f := 105) rfl ?_); refine goesL_ (some 5) rfl rfl Try.func105 (by kernel_rfl) rfl #[.slice A0_0 l0_0.length c0_0] rfl (by (try simp only [List.map_toArray, List.map_cons, List.map_nil]); first | done | rfl | (simp only [List.length_drop, List.length_take]; rfl)) ?_; (with_reducible refine (impl_IsMatrix.calls _ _ l0_0 false _ ?side1 ?side2 A2.out).mono ?_); (case side1 => exact cb_ HR0_0.out HB.out); (case side2 => exact HC0_0.out); rintro e w17 ⟨rfl, hb⟩; refine ⟨_, rfl, ?_⟩; have n0_ := Aside0.mk (bb_ BK323.out hb); have n1_ := Aside0.mk (bs_ hb); clear BK323; clear HB; have BK323 := n0_; have HB := n1_; clear n0_ n1_; (try clear hb); (try clear hb2); (try clear hk); (try clear hi)))
  go_ret
  exact ⟨by first | rfl | (simp [errW_none, errW_some] <;> rfl) | (simp [*, errW_none, errW_some] <;> rfl), hb_⟩
def impl_isSet.f (a0 : Int) (a1 : Int) : Option (Bool) := if 0 ≤ a1 then ((impl_within.f a0 0 (wrap64 ((shl .i64 1 a1) - 1))).bind fun t326 => (some t326)) else (none)
theorem impl_isSet.calls (a0 : Int) (a1 : Int) (r : Bool) (w : World) (h : impl_isSet.f a0 a1 = some r) :
  Calls Try.prog 110 #[.int .i64 a0, .int .i64 a1] w fun e w' => e = .returned (.bool r) ∧ Drawn0 w w' := by
 have H : (if 0 ≤ a1 then ((impl_within.f a0 0 (wrap64 ((shl .i64 1 a1) - 1))).bind fun t326 => (some t326)) else (none)) = some r := h
 clear h
 by_cases c3 : 0 ≤ a1
 ·rw [if_pos c3] at H
  have c3b0 := eq_true c3
  have c3b1 : decide (0 ≤ a1) = true := decide_eq_true c3
  clear c3
  obtain ⟨ji4, hji4⟩ : ∃ j_ : Int, (shl .i64 1 a1) = j_ := ⟨_, rfl⟩
  replace H : ((impl_within.f a0 0 (wrap64 ((ji4) - 1))).bind fun t326 => (some t326)) = some r := by first | (rw [hji4] at H; exact H) | (simp only [hji4] at H ⊢; exact H)
  have hji4_ : (IntKind.i64.wrap (1 * 2 ^ min a1.toNat 64)) = ji4 := hji4
  have hji4z : a1 ≤ 64 → (IntKind.i64.wrap (1 * 2 ^ a1.toNat)) = ji4 := shl_small hji4
  have hji4u : (IntKind.i64.wrap (2 ^ min a1.toNat 64)) = ji4 := by have h_ := hji4_; rw [Int.one_mul] at h_; exact h_
  have hji4v : a1 ≤ 64 → (IntKind.i64.wrap (2 ^ a1.toNat)) = ji4 := fun hle_ => by have h_ := hji4z hle_; rw [Int.one_mul] at h_; exact h_
  have hji4y : (wrap64 (1 * 2 ^ min a1.toNat 64)) = ji4 := (i64_w _).symm.trans hji4_
  have hji4x : a1 ≤ 64 → (wrap64 (1 * 2 ^ a1.toNat)) = ji4 := fun h_ => (i64_w _).symm.trans (hji4z h_)
  replace H := Option.bind_eq_some_iff.mp H
  obtain ⟨t326, A50, H⟩ := H
  replace H : (some t326) = some r := H
  have A5 := Aside0.mk A50
  clear A50
  obtain rfl := Option.some.inj H
  go_enter Try.func110, Try.ntmps110
  go_wp2_with (first | ((with_reducible refine gate_callee (f := 92) rfl ?_); refine goesL_ (some 9) rfl rfl Try.func92 (by kernel_rfl) rfl #[.int .i64 a0, .int .i64 0, .int .i64 (wrap64 ((ji4) - 1))] rfl (by (try simp only [List.map_toArray, List.map_cons, List.map_nil]); first | done | (simp only [hji4]; rfl) | rfl | (simp only [List.length_drop, List.length_take]; rfl)) ?_; (with_reducible refine (impl_within.calls a0 0 (wrap64 ((ji4) - 1)) t326 _ A5.out).mono ?_); rintro e w' ⟨rfl, ⟨nd, rfl⟩⟩; refine ⟨_, rfl, ?_⟩))
  go_ret
  exact ⟨by first | rfl | (simp; done) | (simp only [← hji4] <;> (first | rfl | simp)) | (simp [*]; done), by repeat (first | exact Drawn0.refl _ | apply Drawn0.step)⟩
 ·rw [if_neg c3] at H
  exact absurd H (by simp)
def impl_setCode.f (l0_0 : List (List Int)) (l0_1 : List Int) (a1 : Int) : Option (Int) := (impl_IsProblem.f l0_0 l0_1).bind fun t328 => (if t328 = true then ((impl_isSet.f a1 (l0_1.length : Int)).bind fun t329 => (if t329 = true then (some 0) else (some 2))) else (some 1))
theorem impl_setCode.calls (A0_0 : Option Addr) (c0_0 : Nat) (l0_0 : List (List Int)) (A0_1 : Option Addr) (c0_1 : Nat) (l0_1 : List Int) (a1 : Int) (r : Int) (w : World) (hr0_0 : Kd.C (Kd.slice 2 (Kd.int .i64)) w A0_0 l0_0.length l0_0) (hc0_0 : l0_0.length ≤ c0_0) (hr0_1 : Kd.C (Kd.int .i64) w A0_1 l0_1.length l0_1) (hc0_1 : l0_1.length ≤ c0_1) (h : impl_setCode.f l0_0 l0_1 a1 = some r) :
  Calls Try.prog 76 #[.agg #[.slice A0_0 l0_0.length c0_0, .slice A0_1 l0_1.length c0_1], .int .i64 a1] w fun e w' => e = .returned (.int .i64 r) ∧ Below w.heap.size w w' := by
 have hu29 := Try.underlying29
 have HR0_0 := Aside0.mk hr0_0
 have HC0_0 := Aside0.mk hc0_0
 clear hr0_0 hc0_0
 have HR0_1 := Aside0.mk hr0_1
 have HC0_1 := Aside0.mk hc0_1
 clear hr0_1 hc0_1
 have HB := Aside0.mk (Below.refl w.heap.size w)
 have H : ((impl_IsProblem.f l0_0 l0_1).bind fun t328 => (if t328 = true then ((impl_isSet.f a1 (l0_1.length : Int)).bind fun t329 => (if t329 = true then (some 0) else (some 2))) else (some 1))) = some r := h
 clear h
 replace H := Option.bind_eq_some_iff.mp H
 obtain ⟨t328, A30, H⟩ := H
 replace H : (if t328 = true then ((impl_isSet.f a1 (l0_1.length : Int)).bind fun t329 => (if t329 = true then (some 0) else (some 2))) else (some 1)) = some r := H
 have A3 := Aside0.mk A30
 clear A30
 by_cases c4 : t328 = true
 ·subst c4
  have H1 : ((impl_isSet.f a1 (l0_1.length : Int)).bind fun t329 => (if t329 = true then (some 0) else (some 2))) = some r := by rw [if_pos rfl] at H; exact H
  clear H
  have H := H1
  clear H1
  replace H := Option.bind_eq_some_iff.mp H
  obtain ⟨t329, A50, H⟩ := H
  replace H : (if t329 = true then (some 0) else (some 2)) = some r := H
  have A5 := Aside0.mk A50
  clear A50
  by_cases c6 : t329 = true
  ·subst c6
   have H1 : (some 0) = some r := by rw [if_pos rfl] at H; exact H
   clear H
   have H := H1
   clear H1
   obtain rfl := Option.some.inj H
   go_enter Try.func76, Try.ntmps76
   go_wp2_with (first | ((with_reducible refine gate_dst (N := 2) rfl ?_); refine box_event ?hg (N := 2) ?hd (cs := #[.slice A0_0 l0_0.length c0_0, .slice A0_1 l0_1.length c0_1]) (t := 29) ?hr ?_; (case hd => rfl); (case hg => rfl); (case hr => first | (go_simp; done) | (go_simp; rfl)); intro gb327 hg w7 hbox hb; have n0_ := Aside0.mk (bs_ hb); have n1_ := Aside0.mk (hbox); have n2_ := Aside0.mk ((by rw [hg]; exact bz_ : w.heap.size ≤ gb327)); have n3_ := Aside0.mk ((by rw [hg]; exact bz_ : w.heap.size ≤ gb327)); clear HB; have HB := n0_; have BK327 := n1_; have GW327 := n2_; have GE327 := n3_; clear n0_ n1_ n2_ n3_; clear hb hbox hg; have hcz8_0 : w7.cell? ⟨gb327, 0, none⟩ = some (.slice A0_0 l0_0.length c0_0) := (blk_cell BK327.out 0).trans rfl; have hcz8_1 : w7.cell? ⟨gb327, 1, none⟩ = some (.slice A0_1 l0_1.length c0_1) := (blk_cell BK327.out 1).trans rfl; have hfz8_0 := blk_frozen BK327.out 0; have hfz8_1 := blk_frozen BK327.out 1) | ((with_reducible refine gate_callee (f := 69) rfl ?_); refine goesL_ (some 7) rfl rfl Try.func69 (by kernel_rfl) rfl #[.agg #[.slice A0_0 l0_0.length c0_0, .slice A0_1 l0_1.length c0_1]] rfl (by (try simp only [List.map_toArray, List.map_cons, List.map_nil]); first | done | rfl | (simp only [List.length_drop, List.length_take]; rfl)) ?_; (with_reducible refine (impl_IsProblem.calls _ _ l0_0 _ _ l0_1 true _ ?side1 ?side2 ?side3 ?side4 A3.out).mono ?_); (case side1 => exact cb_ HR0_0.out HB.out); (case side2 => exact HC0_0.out); (case side3 => exact cb_ HR0_1.out HB.out); (case side4 => exact HC0_1.out); rintro e w9 ⟨rfl, hb⟩; refine ⟨_, rfl, ?_⟩; have n0_ := Aside0.mk (bb_ BK327.out hb); have n1_ := Aside0.mk (bs_ hb); clear BK327; clear HB; have BK327 := n0_; have HB := n1_; clear n0_ n1_; (try clear hb); (try clear hb2); (try clear hk); (try clear hi); have hcz10_0 : w9.cell? ⟨gb327, 0, none⟩ = some (.slice A0_0 l0_0.length c0_0) := (blk_cell BK327.out 0).trans rfl; have hcz10_1 : w9.cell? ⟨gb327, 1, none⟩ = some (.slice A0_1 l0_1.length c0_1) := (blk_cell BK327.out 1).trans rfl; have hfz10_0 := blk_frozen BK327.out 0; have hfz10_1 := blk_frozen BK327.out 1) | ((with_reducible refine gate_callee (f := 110) rfl ?_); refine goesL_ (some 14) rfl rfl Try.func110 (by kernel_rfl) rfl #[.int .i64 a1, .int .i64 (l0_1.length : Int)] rfl (by (try simp only [List.map_toArray, List.map_cons, List.map_nil]); first | done | rfl | (simp only [List.length_drop, List.length_take]; rfl)) ?_; (with_reducible refine (impl_isSet.calls a1 (l0_1.length : Int) true _ A5.out).mono ?_); rintro e w' ⟨rfl, ⟨nd, rfl⟩⟩; refine ⟨_, rfl, ?_⟩))
   go_ret
   exact ⟨by first | rfl | (simp [errW_none, errW_some] <;> rfl) | (simp [*, errW_none, errW_some] <;> rfl), hb_⟩
  ·replace c6 := Bool.eq_false_iff.mpr c6
   subst c6
   have H1 : (some 2) = some r := by rw [if_neg (show ¬ (false = true) by decide)] at H; exact H
   clear H
   have H := H1
   clear H1
   obtain rfl := Option.some.inj H
   go_enter Try.func76, Try.ntmps76
   go_wp2_with (first | ((with_reducible refine gate_dst (N := 2) rfl ?_); refine box_event ?hg (N := 2) ?hd (cs := #[.slice A0_0 l0_0.length c0_0, .slice A0_1 l0_1.length c0_1]) (t := 29) ?hr ?_; (case hd => rfl); (case hg => rfl); (case hr => first | (go_simp; done) | (go_simp; rfl)); intro gb327 hg w11 hbox hb; have n0_ := Aside0.mk (bs_ hb); have n1_ := Aside0.mk (hbox); have n2_ := Aside0.mk ((by rw [hg]; exact bz_ : w.heap.size ≤ gb327)); have n3_ := Aside0.mk ((by rw [hg]; exact bz_ : w.heap.size ≤ gb327)); clear HB; have HB := n0_; have BK327 := n1_; have GW327 := n2_; have GE327 := n3_; clear n0_ n1_ n2_ n3_; clear hb hbox hg; have hcz12_0 : w11.cell? ⟨gb327, 0, none⟩ = some (.slice A0_0 l0_0.length c0_0) := (blk_cell BK327.out 0).trans rfl; have hcz12_1 : w11.cell? ⟨gb327, 1, none⟩ = some (.slice A0_1 l0_1.length c0_1) := (blk_cell BK327.out 1).trans rfl; have hfz12_0 := blk_frozen BK327.out 0; have hfz12_1 := blk_frozen BK327.out 1) | ((with_reducible refine gate_callee (f := 69) rfl ?_); refine goesL_ (some 7) rfl rfl Try.func69 (by kernel_rfl) rfl #[.agg #[.slice A0_0 l0_0.length c0_0, .slice A0_1 l0_1.length c0_1]] rfl (by (try simp only [List.map_toArray, List.map_cons, List.map_nil]); first | done | rfl | (simp only [List.length_drop, List.length_take]; rfl)) ?_; (with_reducible refine (impl_IsProblem.calls _ _ l0_0 _ _ l0_1 true _ ?side1 ?side2 ?side3 ?side4 A3.out).mono ?_); (case side1 => exact cb_ HR0_0.out HB.out); (case side2 => exact HC0_0.out); (case side3 => exact cb_ HR0_1.out HB.out); (case side4 => exact HC0_1.out); rintro e w13 ⟨rfl, hb⟩; refine ⟨_, rfl, ?_⟩; have n0_ := Aside0.mk (bb_ BK327.out hb); have n1_ := Aside0.mk (bs_ hb); clear BK327; clear HB; have BK327 := n0_; have HB := n1_; clear n0_ n1_; (try clear hb); (try clear hb2); (try clear hk); (try clear hi); have hcz14_0 : w13.cell? ⟨gb327, 0, none⟩ = some (.slice A0_0 l0_0.length c0_0) := (blk_cell BK327.out 0).trans rfl; have hcz14_1 : w13.cell? ⟨gb327, 1, none⟩ = some (.slice A0_1 l0_1.length c0_1) := (blk_cell BK327.out 1).trans rfl; have hfz14_0 := blk_frozen BK327.out 0; have hfz14_1 := blk_frozen BK327.out 1) | ((with_reducible refine gate_callee (f := 110) rfl ?_); refine goesL_ (some 14) rfl rfl Try.func110 (by kernel_rfl) rfl #[.int .i64 a1, .int .i64 (l0_1.length : Int)] rfl (by (try simp only [List.map_toArray, List.map_cons, List.map_nil]); first | done | rfl | (simp only [List.length_drop, List.length_take]; rfl)) ?_; (with_reducible refine (impl_isSet.calls a1 (l0_1.length : Int) false _ A5.out).mono ?_); rintro e w' ⟨rfl, ⟨nd, rfl⟩⟩; refine ⟨_, rfl, ?_⟩))
   go_ret
   exact ⟨by first | rfl | (simp [errW_none, errW_some] <;> rfl) | (simp [*, errW_none, errW_some] <;> rfl), hb_⟩
 ·replace c4 := Bool.eq_false_iff.mpr c4
  subst c4
  have H1 : (some 1) = some r := by rw [if_neg (show ¬ (false = true) by decide)] at H; exact H
  clear H
  have H := H1
  clear H1
  obtain rfl := Option.some.inj H
  go_enter Try.func76, Try.ntmps76
  go_wp2_with (first | ((with_reducible refine gate_dst (N := 2) rfl ?_); refine box_event ?hg (N := 2) ?hd (cs := #[.slice A0_0 l0_0.length c0_0, .slice A0_1 l0_1.length c0_1]) (t := 29) ?hr ?_; (case hd => rfl); (case hg => rfl); (case hr => first | (go_simp; done) | (go_simp; rfl)); intro gb327 hg w15 hbox hb; have n0_ := Aside0.mk (bs_ hb); have n1_ := Aside0.mk (hbox); have n2_ := Aside0.mk ((by rw [hg]; exact bz_ : w.heap.size ≤ gb327)); have n3_ := Aside0.mk ((by rw [hg]; exact bz_ : w.heap.size ≤ gb327)); clear HB; have HB := n0_; have BK327 := n1_; have GW327 := n2_; have GE327 := n3_; clear n0_ n1_ n2_ n3_; clear hb hbox hg; have hcz16_0 : w15.cell? ⟨gb327, 0, none⟩ = some (.slice A0_0 l0_0.length c0_0) := (blk_cell BK327.out 0).trans rfl; have hcz16_1 : w15.cell? ⟨gb327, 1, none⟩ = some (.slice A0_1 l0_1.length c0_1) := (blk_cell BK327.out 1).trans rfl; have hfz16_0 := blk_frozen BK327.out 0; have hfz16_1 := blk_frozen BK327.out 1) | ((with_reducible refine gate_callee (f := 69) rfl ?_); refine goesL_ (some 7) rfl rfl Try.func69 (by kernel_rfl) rfl #[.agg #[.slice A0_0 l0_0.length c0_0, .slice A0_1 l0_1.length c0_1]] rfl (by (try simp only [List.map_toArray, List.map_cons, List.map_nil]); first | done | rfl | (simp only [List.length_drop, List.length_take]; rfl)) ?_; (with_reducible refine (impl_IsProblem.calls _ _ l0_0 _ _ l0_1 false _ ?side1 ?side2 ?side3 ?side4 A3.out).mono ?_); (case side1 => exact cb_ HR0_0.out HB.out); (case side2 => exact HC0_0.out); (case side3 => exact cb_ HR0_1.out HB.out); (case side4 => exact HC0_1.out); rintro e w17 ⟨rfl, hb⟩; refine ⟨_, rfl, ?_⟩; have n0_ := Aside0.mk (bb_ BK327.out hb); have n1_ := Aside0.mk (bs_ hb); clear BK327; clear HB; have BK327 := n0_; have HB := n1_; clear n0_ n1_; (try clear hb); (try clear hb2); (try clear hk); (try clear hi)))
  go_ret
  exact ⟨by first | rfl | (simp [errW_none, errW_some] <;> rfl) | (simp [*, errW_none, errW_some] <;> rfl), hb_⟩
def impl_sign.f (a0 : Int) : Option (Int) := if a0 < 0 then (some (-1)) else (if a0 > 0 then (some 1) else (some 0))
theorem impl_sign.calls (a0 : Int) (r : Int) (w : World) (h : impl_sign.f a0 = some r) :
  Calls Try.prog 65 #[.int .i64 a0] w fun e w' => e = .returned (.int .i64 r) ∧ Drawn0 w w' := by
 have H : (if a0 < 0 then (some (-1)) else (if a0 > 0 then (some 1) else (some 0))) = some r := h
 clear h
 by_cases c2 : a0 < 0
 ·rw [if_pos c2] at H
  have c2b0 : decide (a0 < 0) = true := decide_eq_true c2
  clear c2
  obtain rfl := Option.some.inj H
  go_enter Try.func65, Try.ntmps65
  go_wp2
  go_ret
  exact ⟨by first | rfl | (simp; done) | (simp [*]; done), by repeat (first | exact Drawn0.refl _ | apply Drawn0.step)⟩
 ·rw [if_neg c2] at H
  have c2b0 : decide (a0 < 0) = false := decide_eq_false c2
  clear c2
  by_cases c3 : a0 > 0
  ·rw [if_pos c3] at H
   have c3b0 : decide (0 < a0) = true := decide_eq_true c3
   clear c3
   obtain rfl := Option.some.inj H
   go_enter Try.func65, Try.ntmps65
   go_wp2
   go_ret
   exact ⟨by first | rfl | (simp; done) | (simp [*]; done), by repeat (first | exact Drawn0.refl _ | apply Drawn0.step)⟩
  ·rw [if_neg c3] at H
   have c3b0 : decide (0 < a0) = false := decide_eq_false c3
   clear c3
   obtain rfl := Option.some.inj H
   go_enter Try.func65, Try.ntmps65
   go_wp2
   go_ret
   exact ⟨by first | rfl | (simp; done) | (simp [*]; done), by repeat (first | exact Drawn0.refl _ | apply Drawn0.step)⟩
end Go.Proofs.Ythdoilfjcgickaa.Pr
end
