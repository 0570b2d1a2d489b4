/- Texts of one claim (the words of the kit's print that the claim uses, printed functions, and this session's own texts), joined in the order of their imports by this session's own program (merge.py). -/
import Derived.Test.YtjjbhdpjnjncbaaJnFnExactIsWholePivot0
import Derived.Test.YtjjbhdpjnjncbaaJnFnExactIsWholePivot1
set_option linter.unusedVariables false
set_option linter.unusedSimpArgs false
set_option maxHeartbeats 8000000
set_option maxRecDepth 100000
section
namespace Go.Proofs.Ytjjbhdpjnjncbaa.Pr
open Go.RowKit Go.Proofs.YtjjbhdpjnjncbaaW.PrintWords Go.Proofs.YtjjbhdpjnjncbaaW.PrintLast Go.Proofs.YtjjbhdpjnjncbaaW.PrintMore
attribute [local go_sem] max2_int min2_int max_two min_two max_three min_three max_four min_four
mutual
def spec_l04Pivot.j0 : Nat → Int → Int → List (List Int) → List Int → Int → Int → List (List Int) → List Int → Option (Int × (List (List Int)) × List Int × Bool)
 | 0, _, _, _, _, _, _, _, _ => none
 | k + 1, x1, x6, x7, x8, x9, x10, x1075000, x1075001 => spec_l04Pivot.l0 k x1 x6 x7 x8 x10 0 x1075000 x1075001 (wrap64 (x10 * x9)) (([] : List (List Int))) (([] : List Int))
def spec_l04Pivot.l0 : Nat → Int → Int → List (List Int) → List Int → Int → Int → List (List Int) → List Int → Int → List (List Int) → List Int → Option (Int × (List (List Int)) × List Int × Bool)
 | 0, _, _, _, _, _, _, _, _, _, _, _ => none
 | k + 1, x1, x6, x7, x8, x10, x12, x1075000, x1075001, x1087000, x1087001, x1087002 => if x12 < x6 then (if 0 ≤ x6 then (if (x6 : Int).toNat ≤ 35184372088832 then (if x1087001.length < 5864062014805 then (if 0 ≤ x12 then (if x12 < (x8.length : Int) then (if x1087002.length < 17592186044416 then (spec_l04Pivot.l0 k x1 x6 x7 x8 x10 (wrap64 (x12 + 1)) x1075000 x1075001 x1087000 (x1087001 ++ [(List.replicate (x6 : Int).toNat 0)]) (x1087002 ++ [wrap64 (x10 * (rd x8 x12))])) else (none)) else (none)) else (none)) else (none)) else (none)) else (none)) else (spec_l04Pivot.l1 k x1 x6 x7 x10 0 x1075000 x1075001 x1087000 x1087001 x1087002)
def spec_l04Pivot.l1 : Nat → Int → Int → List (List Int) → Int → Int → List (List Int) → List Int → Int → List (List Int) → List Int → Option (Int × (List (List Int)) × List Int × Bool)
 | 0, _, _, _, _, _, _, _, _, _, _ => none
 | k + 1, x1, x6, x7, x10, x13, x1075000, x1075001, x1087000, x1087001, x1087002 => if x13 < x6 then (if 0 ≤ x6 then (if (x6 : Int).toNat ≤ 35184372088832 then (spec_l04Pivot.l2 k x1 x6 x7 x10 x13 (List.replicate (x6 : Int).toNat 0) 0 x1075000 x1075001 x1087000 x1087001 x1087002) else (none)) else (none)) else (some (x1087000, x1087001, x1087002, true))
def spec_l04Pivot.l2 : Nat → Int → Int → List (List Int) → Int → Int → List Int → Int → List (List Int) → List Int → Int → List (List Int) → List Int → Option (Int × (List (List Int)) × List Int × Bool)
 | 0, _, _, _, _, _, _, _, _, _, _, _, _ => none
 | k + 1, x1, x6, x7, x10, x13, x14, x15, x1075000, x1075001, x1087000, x1087001, x1087002 => if x15 < x6 then (if 0 ≤ (IntKind.u64.wrap (x13)) then (if (Go.bits .and .i64 (shr .i64 x1 (IntKind.u64.wrap (x13))) 1) = 0 then (if 0 ≤ x15 then (if x15 < (x1075000.length : Int) then (if 0 ≤ x13 then (if x13 < ((rd_L1 x1075000 x15).length : Int) then (if x15 < (x14.length : Int) then (spec_l04Pivot.l2 k x1 x6 x7 x10 x13 (x14.set (x15 : Int).toNat (rd (rd_L1 x1075000 x15) x13)) (wrap64 (x15 + 1)) x1075000 x1075001 x1087000 x1087001 x1087002) else (none)) else (none)) else (none)) else (none)) else (none)) else (spec_l04Pivot.l2 k x1 x6 x7 x10 x13 x14 (wrap64 (x15 + 1)) x1075000 x1075001 x1087000 x1087001 x1087002)) else (none)) else (if 0 ≤ (IntKind.u64.wrap (x13)) then (if (Go.bits .and .i64 (shr .i64 x1 (IntKind.u64.wrap (x13))) 1) = 1 then (if 0 ≤ x13 then (if x13 < (x14.length : Int) then (spec_l04Pivot.j4 k x1 x6 x7 x10 x13 (x14.set (x13 : Int).toNat (-1)) x1075000 x1075001 x1087000 x1087001 x1087002) else (none)) else (none)) else (spec_l04Pivot.j4 k x1 x6 x7 x10 x13 x14 x1075000 x1075001 x1087000 x1087001 x1087002)) else (none))
def spec_l04Pivot.j4 : Nat → Int → Int → List (List Int) → Int → Int → List Int → List (List Int) → List Int → Int → List (List Int) → List Int → Option (Int × (List (List Int)) × List Int × Bool)
 | 0, _, _, _, _, _, _, _, _, _, _, _ => none
 | k + 1, x1, x6, x7, x10, x13, x14, x1075000, x1075001, x1087000, x1087001, x1087002 => (spec_l01Solve.f k x7 x14).bind fun bt1104 => (spec_l04Pivot.l3 k x1 x6 x7 x10 x13 bt1104.1 0 x1075000 x1075001 x1087000 x1087001 x1087002)
def spec_l04Pivot.l3 : Nat → Int → Int → List (List Int) → Int → Int → List Int → Int → List (List Int) → List Int → Int → List (List Int) → List Int → Option (Int × (List (List Int)) × List Int × Bool)
 | 0, _, _, _, _, _, _, _, _, _, _, _, _ => none
 | k + 1, x1, x6, x7, x10, x13, x16, x18, x1075000, x1075001, x1087000, x1087001, x1087002 => if x18 < x6 then (if 0 ≤ x18 then (if x18 < (x1087001.length : Int) then (if x18 < (x16.length : Int) then (if 0 ≤ x13 then (if x13 < ((rd_L1 x1087001 x18).length : Int) then (spec_l04Pivot.l3 k x1 x6 x7 x10 x13 x16 (wrap64 (x18 + 1)) x1075000 x1075001 x1087000 (x1087001.set (x18 : Int).toNat ((rd_L1 x1087001 x18).set (x13 : Int).toNat (wrap64 (x10 * (rd x16 x18))))) x1087002) else (none)) else (none)) else (none)) else (none)) else (none)) else (spec_l04Pivot.l1 k x1 x6 x7 x10 (wrap64 (x13 + 1)) x1075000 x1075001 x1087000 x1087001 x1087002)
end
def spec_l04Pivot.f (k : Nat) (l0_0 : List (List Int)) (l0_1 : List Int) (a1 : Int) : Option (Int × (List (List Int)) × List Int × Bool) := (spec_l01Columns.f k l0_0 a1).bind fun l9 => ((spec_l01Solve.f k l9 l0_1).bind fun bt1076 => (if bt1076.2 = 0 then (some (0, ([] : List (List Int)), ([] : List Int), false)) else (if bt1076.2 < 0 then (spec_l04Pivot.j0 k a1 (l0_1.length : Int) l9 bt1076.1 bt1076.2 (-1) l0_0 l0_1) else (spec_l04Pivot.j0 k a1 (l0_1.length : Int) l9 bt1076.1 bt1076.2 1 l0_0 l0_1))))
theorem spec_l04Pivot.mono_l : ∀ k, (∀ y0 y1 y2 y3 y4 y5 y6 y7, LeO (spec_l04Pivot.j0 k y0 y1 y2 y3 y4 y5 y6 y7) (spec_l04Pivot.j0 (k + 1) y0 y1 y2 y3 y4 y5 y6 y7)) ∧ (∀ y0 y1 y2 y3 y4 y5 y6 y7 y8 y9 y10, LeO (spec_l04Pivot.l0 k y0 y1 y2 y3 y4 y5 y6 y7 y8 y9 y10) (spec_l04Pivot.l0 (k + 1) y0 y1 y2 y3 y4 y5 y6 y7 y8 y9 y10)) ∧ (∀ y0 y1 y2 y3 y4 y5 y6 y7 y8 y9, LeO (spec_l04Pivot.l1 k y0 y1 y2 y3 y4 y5 y6 y7 y8 y9) (spec_l04Pivot.l1 (k + 1) y0 y1 y2 y3 y4 y5 y6 y7 y8 y9)) ∧ (∀ y0 y1 y2 y3 y4 y5 y6 y7 y8 y9 y10 y11, LeO (spec_l04Pivot.l2 k y0 y1 y2 y3 y4 y5 y6 y7 y8 y9 y10 y11) (spec_l04Pivot.l2 (k + 1) y0 y1 y2 y3 y4 y5 y6 y7 y8 y9 y10 y11)) ∧ (∀ y0 y1 y2 y3 y4 y5 y6 y7 y8 y9 y10, LeO (spec_l04Pivot.j4 k y0 y1 y2 y3 y4 y5 y6 y7 y8 y9 y10) (spec_l04Pivot.j4 (k + 1) y0 y1 y2 y3 y4 y5 y6 y7 y8 y9 y10)) ∧ (∀ y0 y1 y2 y3 y4 y5 y6 y7 y8 y9 y10 y11, LeO (spec_l04Pivot.l3 k y0 y1 y2 y3 y4 y5 y6 y7 y8 y9 y10 y11) (spec_l04Pivot.l3 (k + 1) y0 y1 y2 y3 y4 y5 y6 y7 y8 y9 y10 y11))
 | 0 => ⟨fun _ _ _ _ _ _ _ _ r h => by simp [spec_l04Pivot.j0] at h, fun _ _ _ _ _ _ _ _ _ _ _ r h => by simp [spec_l04Pivot.l0] at h, fun _ _ _ _ _ _ _ _ _ _ r h => by simp [spec_l04Pivot.l1] at h, fun _ _ _ _ _ _ _ _ _ _ _ _ r h => by simp [spec_l04Pivot.l2] at h, fun _ _ _ _ _ _ _ _ _ _ _ r h => by simp [spec_l04Pivot.j4] at h, fun _ _ _ _ _ _ _ _ _ _ _ _ r h => by simp [spec_l04Pivot.l3] at h⟩
 | k + 1 => by
  obtain ⟨ih0, ih1, ih2, ih3, ih4, ih5⟩ := spec_l04Pivot.mono_l k
  refine ⟨?_, ?_, ?_, ?_, ?_, ?_⟩
  ·intro y0 y1 y2 y3 y4 y5 y6 y7
   unfold spec_l04Pivot.j0
   repeat' first
   | (with_reducible exact ih0 _ _ _ _ _ _ _ _)
   | (with_reducible exact ih1 _ _ _ _ _ _ _ _ _ _ _)
   | (with_reducible exact ih2 _ _ _ _ _ _ _ _ _ _)
   | (with_reducible exact ih3 _ _ _ _ _ _ _ _ _ _ _ _)
   | (with_reducible exact ih4 _ _ _ _ _ _ _ _ _ _ _)
   | (with_reducible exact ih5 _ _ _ _ _ _ _ _ _ _ _ _)
   | (with_reducible exact spec_l01Columns.mono _ _ _)
   | (with_reducible exact spec_l01Solve.mono _ _ _)
   | (with_reducible exact LeO.refl _)
   | (with_reducible exact LeO.none _)
   | (with_reducible refine LeO.ite ?_ ?_)
   | (with_reducible refine LeO.bind ?_ (fun _ => ?_))
   | exact ih0 _ _ _ _ _ _ _ _
   | exact ih1 _ _ _ _ _ _ _ _ _ _ _
   | exact ih2 _ _ _ _ _ _ _ _ _ _
   | exact ih3 _ _ _ _ _ _ _ _ _ _ _ _
   | exact ih4 _ _ _ _ _ _ _ _ _ _ _
   | exact ih5 _ _ _ _ _ _ _ _ _ _ _ _
   | exact spec_l01Columns.mono _ _ _
   | exact spec_l01Solve.mono _ _ _
   | exact LeO.none _
   | refine LeO.ite ?_ ?_
   | refine LeO.bind ?_ (fun _ => ?_)
  ·intro y0 y1 y2 y3 y4 y5 y6 y7 y8 y9 y10
   unfold spec_l04Pivot.l0
   repeat' first
   | (with_reducible exact ih0 _ _ _ _ _ _ _ _)
   | (with_reducible exact ih1 _ _ _ _ _ _ _ _ _ _ _)
   | (with_reducible exact ih2 _ _ _ _ _ _ _ _ _ _)
   | (with_reducible exact ih3 _ _ _ _ _ _ _ _ _ _ _ _)
   | (with_reducible exact ih4 _ _ _ _ _ _ _ _ _ _ _)
   | (with_reducible exact ih5 _ _ _ _ _ _ _ _ _ _ _ _)
   | (with_reducible exact spec_l01Columns.mono _ _ _)
   | (with_reducible exact spec_l01Solve.mono _ _ _)
   | (with_reducible exact LeO.refl _)
   | (with_reducible exact LeO.none _)
   | (with_reducible refine LeO.ite ?_ ?_)
   | (with_reducible refine LeO.bind ?_ (fun _ => ?_))
   | exact ih0 _ _ _ _ _ _ _ _
   | exact ih1 _ _ _ _ _ _ _ _ _ _ _
   | exact ih2 _ _ _ _ _ _ _ _ _ _
   | exact ih3 _ _ _ _ _ _ _ _ _ _ _ _
   | exact ih4 _ _ _ _ _ _ _ _ _ _ _
   | exact ih5 _ _ _ _ _ _ _ _ _ _ _ _
   | exact spec_l01Columns.mono _ _ _
   | exact spec_l01Solve.mono _ _ _
   | exact LeO.none _
   | refine LeO.ite ?_ ?_
   | refine LeO.bind ?_ (fun _ => ?_)
  ·intro y0 y1 y2 y3 y4 y5 y6 y7 y8 y9
   unfold spec_l04Pivot.l1
   repeat' first
   | (with_reducible exact ih0 _ _ _ _ _ _ _ _)
   | (with_reducible exact ih1 _ _ _ _ _ _ _ _ _ _ _)
   | (with_reducible exact ih2 _ _ _ _ _ _ _ _ _ _)
   | (with_reducible exact ih3 _ _ _ _ _ _ _ _ _ _ _ _)
   | (with_reducible exact ih4 _ _ _ _ _ _ _ _ _ _ _)
   | (with_reducible exact ih5 _ _ _ _ _ _ _ _ _ _ _ _)
   | (with_reducible exact spec_l01Columns.mono _ _ _)
   | (with_reducible exact spec_l01Solve.mono _ _ _)
   | (with_reducible exact LeO.refl _)
   | (with_reducible exact LeO.none _)
   | (with_reducible refine LeO.ite ?_ ?_)
   | (with_reducible refine LeO.bind ?_ (fun _ => ?_))
   | exact ih0 _ _ _ _ _ _ _ _
   | exact ih1 _ _ _ _ _ _ _ _ _ _ _
   | exact ih2 _ _ _ _ _ _ _ _ _ _
   | exact ih3 _ _ _ _ _ _ _ _ _ _ _ _
   | exact ih4 _ _ _ _ _ _ _ _ _ _ _
   | exact ih5 _ _ _ _ _ _ _ _ _ _ _ _
   | exact spec_l01Columns.mono _ _ _
   | exact spec_l01Solve.mono _ _ _
   | exact LeO.none _
   | refine LeO.ite ?_ ?_
   | refine LeO.bind ?_ (fun _ => ?_)
  ·intro y0 y1 y2 y3 y4 y5 y6 y7 y8 y9 y10 y11
   unfold spec_l04Pivot.l2
   repeat' first
   | (with_reducible exact ih0 _ _ _ _ _ _ _ _)
   | (with_reducible exact ih1 _ _ _ _ _ _ _ _ _ _ _)
   | (with_reducible exact ih2 _ _ _ _ _ _ _ _ _ _)
   | (with_reducible exact ih3 _ _ _ _ _ _ _ _ _ _ _ _)
   | (with_reducible exact ih4 _ _ _ _ _ _ _ _ _ _ _)
   | (with_reducible exact ih5 _ _ _ _ _ _ _ _ _ _ _ _)
   | (with_reducible exact spec_l01Columns.mono _ _ _)
   | (with_reducible exact spec_l01Solve.mono _ _ _)
   | (with_reducible exact LeO.refl _)
   | (with_reducible exact LeO.none _)
   | (with_reducible refine LeO.ite ?_ ?_)
   | (with_reducible refine LeO.bind ?_ (fun _ => ?_))
   | exact ih0 _ _ _ _ _ _ _ _
   | exact ih1 _ _ _ _ _ _ _ _ _ _ _
   | exact ih2 _ _ _ _ _ _ _ _ _ _
   | exact ih3 _ _ _ _ _ _ _ _ _ _ _ _
   | exact ih4 _ _ _ _ _ _ _ _ _ _ _
   | exact ih5 _ _ _ _ _ _ _ _ _ _ _ _
   | exact spec_l01Columns.mono _ _ _
   | exact spec_l01Solve.mono _ _ _
   | exact LeO.none _
   | refine LeO.ite ?_ ?_
   | refine LeO.bind ?_ (fun _ => ?_)
  ·intro y0 y1 y2 y3 y4 y5 y6 y7 y8 y9 y10
   unfold spec_l04Pivot.j4
   repeat' first
   | (with_reducible exact ih0 _ _ _ _ _ _ _ _)
   | (with_reducible exact ih1 _ _ _ _ _ _ _ _ _ _ _)
   | (with_reducible exact ih2 _ _ _ _ _ _ _ _ _ _)
   | (with_reducible exact ih3 _ _ _ _ _ _ _ _ _ _ _ _)
   | (with_reducible exact ih4 _ _ _ _ _ _ _ _ _ _ _)
   | (with_reducible exact ih5 _ _ _ _ _ _ _ _ _ _ _ _)
   | (with_reducible exact spec_l01Columns.mono _ _ _)
   | (with_reducible exact spec_l01Solve.mono _ _ _)
   | (with_reducible exact LeO.refl _)
   | (with_reducible exact LeO.none _)
   | (with_reducible refine LeO.ite ?_ ?_)
   | (with_reducible refine LeO.bind ?_ (fun _ => ?_))
   | exact ih0 _ _ _ _ _ _ _ _
   | exact ih1 _ _ _ _ _ _ _ _ _ _ _
   | exact ih2 _ _ _ _ _ _ _ _ _ _
   | exact ih3 _ _ _ _ _ _ _ _ _ _ _ _
   | exact ih4 _ _ _ _ _ _ _ _ _ _ _
   | exact ih5 _ _ _ _ _ _ _ _ _ _ _ _
   | exact spec_l01Columns.mono _ _ _
   | exact spec_l01Solve.mono _ _ _
   | exact LeO.none _
   | refine LeO.ite ?_ ?_
   | refine LeO.bind ?_ (fun _ => ?_)
  ·intro y0 y1 y2 y3 y4 y5 y6 y7 y8 y9 y10 y11
   unfold spec_l04Pivot.l3
   repeat' first
   | (with_reducible exact ih0 _ _ _ _ _ _ _ _)
   | (with_reducible exact ih1 _ _ _ _ _ _ _ _ _ _ _)
   | (with_reducible exact ih2 _ _ _ _ _ _ _ _ _ _)
   | (with_reducible exact ih3 _ _ _ _ _ _ _ _ _ _ _ _)
   | (with_reducible exact ih4 _ _ _ _ _ _ _ _ _ _ _)
   | (with_reducible exact ih5 _ _ _ _ _ _ _ _ _ _ _ _)
   | (with_reducible exact spec_l01Columns.mono _ _ _)
   | (with_reducible exact spec_l01Solve.mono _ _ _)
   | (with_reducible exact LeO.refl _)
   | (with_reducible exact LeO.none _)
   | (with_reducible refine LeO.ite ?_ ?_)
   | (with_reducible refine LeO.bind ?_ (fun _ => ?_))
   | exact ih0 _ _ _ _ _ _ _ _
   | exact ih1 _ _ _ _ _ _ _ _ _ _ _
   | exact ih2 _ _ _ _ _ _ _ _ _ _
   | exact ih3 _ _ _ _ _ _ _ _ _ _ _ _
   | exact ih4 _ _ _ _ _ _ _ _ _ _ _
   | exact ih5 _ _ _ _ _ _ _ _ _ _ _ _
   | exact spec_l01Columns.mono _ _ _
   | exact spec_l01Solve.mono _ _ _
   | exact LeO.none _
   | refine LeO.ite ?_ ?_
   | refine LeO.bind ?_ (fun _ => ?_)
theorem spec_l04Pivot.mono : ∀ a0 a1 a2 k, LeO (spec_l04Pivot.f k a0 a1 a2) (spec_l04Pivot.f (k + 1) a0 a1 a2) := by
 intro a0 a1 a2 k
 obtain ⟨ih0, ih1, ih2, ih3, ih4, ih5⟩ := spec_l04Pivot.mono_l k
 unfold spec_l04Pivot.f
 repeat' first
   | (with_reducible exact ih0 _ _ _ _ _ _ _ _)
   | (with_reducible exact ih1 _ _ _ _ _ _ _ _ _ _ _)
   | (with_reducible exact ih2 _ _ _ _ _ _ _ _ _ _)
   | (with_reducible exact ih3 _ _ _ _ _ _ _ _ _ _ _ _)
   | (with_reducible exact ih4 _ _ _ _ _ _ _ _ _ _ _)
   | (with_reducible exact ih5 _ _ _ _ _ _ _ _ _ _ _ _)
   | (with_reducible exact spec_l01Columns.mono _ _ _)
   | (with_reducible exact spec_l01Solve.mono _ _ _)
   | (with_reducible exact LeO.refl _)
   | (with_reducible exact LeO.none _)
   | (with_reducible refine LeO.ite ?_ ?_)
   | (with_reducible refine LeO.bind ?_ (fun _ => ?_))
   | exact ih0 _ _ _ _ _ _ _ _
   | exact ih1 _ _ _ _ _ _ _ _ _ _ _
   | exact ih2 _ _ _ _ _ _ _ _ _ _
   | exact ih3 _ _ _ _ _ _ _ _ _ _ _ _
   | exact ih4 _ _ _ _ _ _ _ _ _ _ _
   | exact ih5 _ _ _ _ _ _ _ _ _ _ _ _
   | exact spec_l01Columns.mono _ _ _
   | exact spec_l01Solve.mono _ _ _
   | exact LeO.none _
   | refine LeO.ite ?_ ?_
   | refine LeO.bind ?_ (fun _ => ?_)
def spec_l04Pivot.T1 : Bool × List (List Nat × List Nat) := (true, [([], []), ([0], [0]), ([1], [1]), ([], []), ([3], [3]), ([], []), ([4, 5], [4, 5]), ([2, 6, 0, 1, 2], [2]), ([6, 7, 0, 1, 2, 3, 4, 5, 6, 7], [6])])
def spec_l04Pivot.B1 : List Nat := [0, 1, 3, 0, 8, 0, 56, 127, 255]
theorem spec_l04Pivot.tab1 : rtab .any (opsOf Try.f108 1) = spec_l04Pivot.T1 := by kernel_rfl
theorem spec_l04Pivot.bits1 : waitsOk spec_l04Pivot.T1.2 spec_l04Pivot.B1 = true := by kernel_rfl
def spec_l04Pivot.T12 : Bool × List (List Nat × List Nat) := (true, [([], []), ([0], [0]), ([], []), ([2, 2], [2]), ([3], [3]), ([1, 4], [1, 4]), ([0, 1, 2, 3, 4, 5], []), ([6, 5, 5, 0, 1, 2, 3, 4, 5], [5, 6])])
def spec_l04Pivot.B12 : List Nat := [0, 1, 0, 4, 12, 31, 63, 127]
theorem spec_l04Pivot.tab12 : rtab .any (opsOf Try.f108 12) = spec_l04Pivot.T12 := by kernel_rfl
theorem spec_l04Pivot.bits12 : waitsOk spec_l04Pivot.T12.2 spec_l04Pivot.B12 = true := by kernel_rfl
def spec_l04Pivot.T13 : Bool × List (List Nat × List Nat) := (true, [([], []), ([0], [0]), ([], []), ([], []), ([], []), ([3, 4], [3, 4]), ([5], [5]), ([2, 6], [2, 6]), ([7], [7]), ([1, 8], [1, 8]), ([0, 1, 2, 3, 4, 5, 6, 7, 8, 9], []), ([10, 9, 9, 0, 1, 2, 3, 4, 5, 6, 7, 8, 9], [9, 10])])
def spec_l04Pivot.B13 : List Nat := [0, 1, 0, 0, 0, 24, 56, 124, 252, 511, 1023, 2047]
theorem spec_l04Pivot.tab13 : rtab .any (opsOf Try.f108 13) = spec_l04Pivot.T13 := by kernel_rfl
theorem spec_l04Pivot.bits13 : waitsOk spec_l04Pivot.T13.2 spec_l04Pivot.B13 = true := by kernel_rfl
theorem spec_l04Pivot.calls (k : Nat) (A0_0 : Option Addr) (c0_0 : Nat) (l0_0 : List (List Int)) (A0_1 : Option Addr) (c0_1 : Nat) (l0_1 : List Int) (a1 : Int) (r1 : Int) (r2 : List (List Int)) (r3 : List Int) (r4 : Bool) (w : World) (hr0_0 : Kd.C (Kd.slice 2 (Kd.int .i64)) w A0_0 l0_0.length l0_0) (hc0_0 : l0_0.length ≤ c0_0) (hr0_1 : Kd.C (Kd.int .i64) w A0_1 l0_1.length l0_1) (hc0_1 : l0_1.length ≤ c0_1) (h : spec_l04Pivot.f k l0_0 l0_1 a1 = some (r1, r2, r3, r4)) :
  Calls Try.prog 108 #[.agg #[.slice A0_0 l0_0.length c0_0, .slice A0_1 l0_1.length c0_1], .int .i64 a1] w fun e w' => ∃ v1_ v2_ : Value, e = .returned (.tuple #[.agg #[.int .i64 r1, v1_, v2_], .bool r4]) ∧ Kd.S (Kd.slice 2 (Kd.int .i64)) 33 w' w.heap.size (fun k_ => some k_ ≠ (v2_ : Value).ownBlock) v1_ r2 ∧ Kd.R (Kd.int .i64) 2 w' w.heap.size (fun _ => True) v2_ r3 ∧ Below w.heap.size w w' := by
 have hu56 := Try.underlying56
 have hu86 := Try.underlying86
 have HR0_0 := Aside0.mk hr0_0
 have HC0_0 := Aside0.mk hc0_0
 clear hr0_0 hc0_0
 have HR0_1 := Aside0.mk hr0_1
 have HC0_1 := Aside0.mk hc0_1
 clear hr0_1 hc0_1
 have HB := Aside0.mk (Below.refl w.heap.size w)
 have H : ((spec_l01Columns.f k l0_0 a1).bind fun l9 => ((spec_l01Solve.f k l9 l0_1).bind fun bt1076 => (if bt1076.2 = 0 then (some (0, ([] : List (List Int)), ([] : List Int), false)) else (if bt1076.2 < 0 then (spec_l04Pivot.j0 k a1 (l0_1.length : Int) l9 bt1076.1 bt1076.2 (-1) l0_0 l0_1) else (spec_l04Pivot.j0 k a1 (l0_1.length : Int) l9 bt1076.1 bt1076.2 1 l0_0 l0_1))))) = some (r1, r2, r3, r4) := h
 clear h
 replace H := Option.bind_eq_some_iff.mp H
 obtain ⟨l9, A30, H⟩ := H
 replace H : ((spec_l01Solve.f k l9 l0_1).bind fun bt1076 => (if bt1076.2 = 0 then (some (0, ([] : List (List Int)), ([] : List Int), false)) else (if bt1076.2 < 0 then (spec_l04Pivot.j0 k a1 (l0_1.length : Int) l9 bt1076.1 bt1076.2 (-1) l0_0 l0_1) else (spec_l04Pivot.j0 k a1 (l0_1.length : Int) l9 bt1076.1 bt1076.2 1 l0_0 l0_1)))) = some (r1, r2, r3, r4) := H
 have A3 := Aside0.mk A30
 clear A30
 replace H := Option.bind_eq_some_iff.mp H
 obtain ⟨⟨t1076, t1077⟩, A40, H⟩ := H
 replace H : (if t1077 = 0 then (some (0, ([] : List (List Int)), ([] : List Int), false)) else (if t1077 < 0 then (spec_l04Pivot.j0 k a1 (l0_1.length : Int) l9 t1076 t1077 (-1) l0_0 l0_1) else (spec_l04Pivot.j0 k a1 (l0_1.length : Int) l9 t1076 t1077 1 l0_0 l0_1))) = some (r1, r2, r3, r4) := H
 have A4 := Aside0.mk A40
 clear A40
 by_cases c5 : t1077 = 0
 ·rw [if_pos c5] at H
  have c5b0 : (t1077 == 0) = true := beq_iff_eq.mpr c5
  have c5b1 : (t1077 != 0) = false := bne_eq_false_iff_eq.mpr c5
  clear c5
  simp only [Option.some.injEq, Prod.mk.injEq] at H
  obtain ⟨rfl, rfl, rfl, rfl⟩ := H
  go_enter Try.func108, Try.ntmps108
  try go_wp2_with (first | ((with_reducible refine gate_dst (N := 2) rfl ?_); refine box_event ?hg (N := 2) ?hd (cs := #[.slice A0_0 l0_0.length c0_0, .slice A0_1 l0_1.length c0_1]) (t := 56) ?hr ?_; (case hd => rfl); (case hg => rfl); (case hr => first | (go_simp; done) | (go_simp; rfl)); intro gb1074 hg w6 hbox hb; have n0_ := Aside0.mk (bs_ hb); have n1_ := Aside0.mk (hbox); have n2_ := Aside0.mk ((by rw [hg]; exact bz_ : w.heap.size ≤ gb1074)); have n3_ := Aside0.mk ((by rw [hg]; exact bz_ : w.heap.size ≤ gb1074)); clear HB; have HB := n0_; have BK1074 := n1_; have GW1074 := n2_; have GE1074 := n3_; clear n0_ n1_ n2_ n3_; clear hb hbox hg) | ((with_reducible refine gate_dst (N := 4) rfl ?_); refine box_event ?hg (N := 4) ?hd (cs := #[.int .i64 0, .slice none 0 0, .slice none 0 0]) (t := 86) ?hr ?_; (case hd => rfl); (case hg => rfl); (case hr => first | (go_simp; done) | (go_simp; rfl)); intro gb1075 hg w7 hbox hb; have n0_ := Aside0.mk (bb_ BK1074.out hb); have n1_ := Aside0.mk (bs_ hb); have n2_ := Aside0.mk (hbox); have n3_ := Aside0.mk ((by rw [hg]; exact bz_ : w.heap.size ≤ gb1075)); have n4_ := Aside0.mk ((by rw [hg]; exact bz_ : w.heap.size ≤ gb1075)); have n5_ := Aside0.mk ((by rw [hg]; exact lt_ BK1074.out : gb1074 ≠ gb1075)); have n6_ := Aside0.mk ((by rw [hg]; exact gt_ BK1074.out : gb1075 ≠ gb1074)); clear BK1074; clear HB; have BK1074 := n0_; have HB := n1_; have BK1075 := n2_; have GW1075 := n3_; have GE1075 := n4_; have NB1074_1075 := n5_; have NB1075_1074 := n6_; clear n0_ n1_ n2_ n3_ n4_ n5_ n6_; clear hb hbox hg))
  have n0_ := Aside0.mk (blk_drew BK1074.out)
  have n1_ := Aside0.mk (blk_drew BK1075.out)
  have n2_ := Aside0.mk (below_drew1 HB.out)
  clear BK1074
  clear BK1075
  clear HB
  have BK1074 := n0_
  have BK1075 := n1_
  have HB := n2_
  clear n0_ n1_ n2_
  refine st_ (n := 9) (S := fun w' => w'.cell? ⟨gb1074, 0, none⟩ = some (.slice A0_0 l0_0.length c0_0) ∧ w'.cell? ⟨gb1074, 1, none⟩ = some (.slice A0_1 l0_1.length c0_1)) (ds := []) ⟨(blk_cell BK1074.out 0).trans rfl, (blk_cell BK1074.out 1).trans rfl⟩ (fun hHeld => ?_); refine with_tabW spec_l04Pivot.tab1 spec_l04Pivot.bits1 (fun HT_ HW_ => ?_)
  generalize w7.drew = w8 at BK1074 BK1075 HB hHeld ⊢
  refine pu_ 0 20 ?_; refine pu_ 3 23 ?_; refine pu_ 5 25 ?_; refine tk_ 1 21 ?_; refine pu_ 2 22 ?_; refine tk_ 4 24 ?_
  refine on_ 6 (some 26) (fun K hK => ?_)
  refine goes_ Try.func89 (by kernel_rfl) rfl #[.slice A0_0 l0_0.length c0_0, .int .i64 a1] (by rfl) rfl rfl (by (try simp only [List.map_toArray, List.map_cons, List.map_nil]); first | done | rfl | (simp only [List.length_drop, List.length_take]; rfl)) ?_
  with_reducible refine (spec_l01Columns.calls k _ _ l0_0 a1 l9 _ ?side1 ?side2 A3.out).mono ?_
  (case side1 => exact cb_ HR0_0.out HB.out)
  (case side2 => exact HC0_0.out)
  rintro e w9 ⟨v9_, rfl, ho0, hb⟩
  obtain ⟨A9, c9, e9_⟩ := Kd.S_slice ho0
  subst e9_
  refine ⟨_, rfl, ?_⟩
  have n0_ := Aside0.mk (Kd.S_lower ho0 bz_)
  have n1_ := Aside0.mk (bb_ BK1074.out hb)
  have n2_ := Aside0.mk (bb_ BK1075.out hb)
  have n3_ := Aside0.mk (bs_ hb)
  clear BK1074
  clear BK1075
  clear HB
  have HR9 := n0_
  have BK1074 := n1_
  have BK1075 := n2_
  have HB := n3_
  clear n0_ n1_ n2_ n3_
  (try clear hb)
  (try clear hb2)
  (try clear hk)
  (try clear hi)
  (try clear ho0)
  refine hK.out _ _ ⟨(blk_cell BK1074.out 0).trans rfl, (blk_cell BK1074.out 1).trans rfl⟩ (fun hHeld => ?_)
  clear hK K
  refine norm_ (a' := ?_) ?_ ?_
  rotate_left
  ·show Act.put _ (some 26) _ = _
   simp only [Act.put, List.setIfInBounds_toArray, List.set_cons_zero, List.set_cons_succ, i64_w, i32_w]
   rfl
  refine pu_ 7 6 ?_; refine pu_ 8 7 ?_
  refine done_ (done_of HT_.out (by kernel_rfl)) ?_
  have HBo0 := HB
  have HS9 := HR9
  have HR00 := HR0_0
  have HR01 := HR0_1
  clear HB HR9 HR0_0 HR0_1
  obtain ⟨wO, hwO⟩ : ∃ x : World, x = w := ⟨_, rfl⟩
  subst hwO
  obtain ⟨w, hw⟩ : ∃ x : World, x = w9 := ⟨_, rfl⟩
  have HB : Aside0 (Below w.heap.size w w9) := ⟨by rw [hw]; exact Below.refl _ _⟩
  have HBo : Aside0 (Below wO.heap.size wO w) := ⟨by rw [hw]; exact HBo0.out⟩
  have HR9 : Aside0 (Kd.C (Kd.slice 2 (Kd.int .i64)) w A9 l9.length l9) := ⟨by rw [hw]; exact (Kd.S_reads' HS9.out).2.2⟩
  have HC9 : Aside0 (l9.length ≤ c9) := ⟨(Kd.S_reads' HS9.out).2.1⟩
  have HR0_0 : Aside0 (Kd.C (Kd.slice 2 (Kd.int .i64)) w A0_0 l0_0.length l0_0) := ⟨by rw [hw]; exact Kd.C_below HR00.out HBo0.out⟩
  have HR0_1 : Aside0 (Kd.C (Kd.int .i64) w A0_1 l0_1.length l0_1) := ⟨by rw [hw]; exact Kd.C_below HR01.out HBo0.out⟩
  clear HBo0 HS9 HR00 HR01 hw
  have hnb10 := NB1074_1075.out
  have hnc10 := NB1075_1074.out
  have hcz11_0 : w9.cell? ⟨gb1074, 0, none⟩ = some (.slice A0_0 l0_0.length c0_0) := (blk_cell BK1074.out 0).trans rfl
  have hcz11_1 : w9.cell? ⟨gb1074, 1, none⟩ = some (.slice A0_1 l0_1.length c0_1) := (blk_cell BK1074.out 1).trans rfl
  have hfz11_0 := blk_frozen BK1074.out 0
  have hfz11_1 := blk_frozen BK1074.out 1
  try go_wp2_with (first | ((with_reducible refine gate_callee (f := 143) rfl ?_); refine goesL_ (some 31) rfl rfl Try.func143 (by kernel_rfl) rfl #[.slice A9 l9.length c9, .slice A0_1 l0_1.length c0_1] rfl (by (try simp only [List.map_toArray, List.map_cons, List.map_nil]); first | done | rfl | (simp only [List.length_drop, List.length_take]; rfl)) ?_; (with_reducible refine (spec_l01Solve.calls k _ _ l9 _ _ l0_1 t1076 t1077 _ ?side1 ?side2 ?side3 ?side4 A4.out).mono ?_); (case side1 => exact cb_ HR9.out HB.out); (case side2 => exact HC9.out); (case side3 => exact cb_ HR0_1.out HB.out); (case side4 => exact HC0_1.out); rintro e w12 ⟨v1078, rfl, ho0, hb⟩; refine ⟨_, rfl, ?_⟩; have n0_ := Aside0.mk (Kd.R_lower ho0 bz_); have n1_ := Aside0.mk (bb_ BK1074.out hb); have n2_ := Aside0.mk (bb_ BK1075.out hb); have n3_ := Aside0.mk (bs_ hb); clear BK1074; clear BK1075; clear HB; have HO1079 := n0_; have BK1074 := n1_; have BK1075 := n2_; have HB := n3_; clear n0_ n1_ n2_ n3_; (try clear hb); (try clear hb2); (try clear hk); (try clear hi); (try clear ho0); have hcz13_0 : w12.cell? ⟨gb1075, 0, none⟩ = some (.int .i64 0) := (blk_cell BK1075.out 0).trans rfl; have hcz13_1 : w12.cell? ⟨gb1075, 1, none⟩ = some (.slice none 0 0) := (blk_cell BK1075.out 1).trans rfl; have hcz13_2 : w12.cell? ⟨gb1075, 2, none⟩ = some (.slice none 0 0) := (blk_cell BK1075.out 2).trans rfl; have hfz13_0 := blk_frozen BK1075.out 0; have hfz13_1 := blk_frozen BK1075.out 1; have hfz13_2 := blk_frozen BK1075.out 2))
  have HB := Aside0.mk (below_step HBo.out HB.out)
  refine bodyPost_ret (results_ct rfl _ _ gb1075 86 #[.int .i64 0, .slice none 0 0, .slice none 0 0] (0, 0) _ rfl (by (with_reducible repeat (first | refine blk_drewN ?_ _ | refine blk_drew ?_ | refine blk_alloc ?_ _)); refine blk_put (cs := #[.int .i64 0, .slice none 0 0, .slice none 0 0]) ?_ 2 _ rfl; (with_reducible repeat (first | refine blk_drewN ?_ _ | refine blk_drew ?_ | refine blk_alloc ?_ _)); refine blk_put (cs := #[.int .i64 0, .slice none 0 0, .slice none 0 0]) ?_ 1 _ rfl; (with_reducible repeat (first | refine blk_drewN ?_ _ | refine blk_drew ?_ | refine blk_alloc ?_ _)); refine blk_put (cs := #[.int .i64 0, .slice none 0 0, .slice none 0 0]) ?_ 0 _ rfl; (with_reducible repeat (first | refine blk_drewN ?_ _ | refine blk_drew ?_ | refine blk_alloc ?_ _)); exact BK1075.out) Try.underlying86 rfl (by kernel_rfl)) rfl ?_
  exact ⟨_, _, by first | rfl | (simp [errW_none, errW_some] <;> rfl) | (simp [*, errW_none, errW_some] <;> rfl), by first | exact Kd.S_nil _ _ _ _ _ | exact Kd.N_nil _ _ _ _ _ | exact Kd.V_nil _ _ _ _ _ | exact Kd.Q_nil _ _ _ _ _ | exact Kd.R_nil _ _ _ _ _, by first | exact Kd.R_nil _ _ _ _ _ | exact Kd.N_nil _ _ _ _ _ | exact Kd.V_nil _ _ _ _ _ | exact Kd.Q_nil _ _ _ _ _ | exact Kd.S_nil _ _ _ _ _, hb_⟩
 ·rw [if_neg c5] at H
  have c5b0 : (t1077 == 0) = false := beq_eq_false_iff_ne.mpr c5
  have c5b1 : (t1077 != 0) = true := bne_iff_ne.mpr c5
  have HC14 := Aside0.mk H
  clear H
  go_enter Try.func108, Try.ntmps108
  try go_wp2_with (first | ((with_reducible refine gate_dst (N := 2) rfl ?_); refine box_event ?hg (N := 2) ?hd (cs := #[.slice A0_0 l0_0.length c0_0, .slice A0_1 l0_1.length c0_1]) (t := 56) ?hr ?_; (case hd => rfl); (case hg => rfl); (case hr => first | (go_simp; done) | (go_simp; rfl)); intro gb1074 hg w15 hbox hb; have n0_ := Aside0.mk (bs_ hb); have n1_ := Aside0.mk (hbox); have n2_ := Aside0.mk ((by rw [hg]; exact bz_ : w.heap.size ≤ gb1074)); have n3_ := Aside0.mk ((by rw [hg]; exact bz_ : w.heap.size ≤ gb1074)); clear HB; have HB := n0_; have BK1074 := n1_; have GW1074 := n2_; have GE1074 := n3_; clear n0_ n1_ n2_ n3_; clear hb hbox hg) | ((with_reducible refine gate_dst (N := 4) rfl ?_); refine box_event ?hg (N := 4) ?hd (cs := #[.int .i64 0, .slice none 0 0, .slice none 0 0]) (t := 86) ?hr ?_; (case hd => rfl); (case hg => rfl); (case hr => first | (go_simp; done) | (go_simp; rfl)); intro gb1075 hg w16 hbox hb; have n0_ := Aside0.mk (bb_ BK1074.out hb); have n1_ := Aside0.mk (bs_ hb); have n2_ := Aside0.mk (hbox); have n3_ := Aside0.mk ((by rw [hg]; exact bz_ : w.heap.size ≤ gb1075)); have n4_ := Aside0.mk ((by rw [hg]; exact bz_ : w.heap.size ≤ gb1075)); have n5_ := Aside0.mk ((by rw [hg]; exact lt_ BK1074.out : gb1074 ≠ gb1075)); have n6_ := Aside0.mk ((by rw [hg]; exact gt_ BK1074.out : gb1075 ≠ gb1074)); clear BK1074; clear HB; have BK1074 := n0_; have HB := n1_; have BK1075 := n2_; have GW1075 := n3_; have GE1075 := n4_; have NB1074_1075 := n5_; have NB1075_1074 := n6_; clear n0_ n1_ n2_ n3_ n4_ n5_ n6_; clear hb hbox hg))
  have n0_ := Aside0.mk (blk_drew BK1074.out)
  have n1_ := Aside0.mk (blk_drew BK1075.out)
  have n2_ := Aside0.mk (below_drew1 HB.out)
  clear BK1074
  clear BK1075
  clear HB
  have BK1074 := n0_
  have BK1075 := n1_
  have HB := n2_
  clear n0_ n1_ n2_
  refine st_ (n := 9) (S := fun w' => w'.cell? ⟨gb1074, 0, none⟩ = some (.slice A0_0 l0_0.length c0_0) ∧ w'.cell? ⟨gb1074, 1, none⟩ = some (.slice A0_1 l0_1.length c0_1)) (ds := []) ⟨(blk_cell BK1074.out 0).trans rfl, (blk_cell BK1074.out 1).trans rfl⟩ (fun hHeld => ?_); refine with_tabW spec_l04Pivot.tab1 spec_l04Pivot.bits1 (fun HT_ HW_ => ?_)
  generalize w16.drew = w17 at BK1074 BK1075 HB hHeld ⊢
  refine pu_ 0 20 ?_; refine pu_ 3 23 ?_; refine pu_ 5 25 ?_; refine tk_ 1 21 ?_; refine pu_ 2 22 ?_; refine tk_ 4 24 ?_
  refine on_ 6 (some 26) (fun K hK => ?_)
  refine goes_ Try.func89 (by kernel_rfl) rfl #[.slice A0_0 l0_0.length c0_0, .int .i64 a1] (by rfl) rfl rfl (by (try simp only [List.map_toArray, List.map_cons, List.map_nil]); first | done | rfl | (simp only [List.length_drop, List.length_take]; rfl)) ?_
  with_reducible refine (spec_l01Columns.calls k _ _ l0_0 a1 l9 _ ?side1 ?side2 A3.out).mono ?_
  (case side1 => exact cb_ HR0_0.out HB.out)
  (case side2 => exact HC0_0.out)
  rintro e w18 ⟨v9_, rfl, ho0, hb⟩
  obtain ⟨A9, c9, e9_⟩ := Kd.S_slice ho0
  subst e9_
  refine ⟨_, rfl, ?_⟩
  have n0_ := Aside0.mk (Kd.S_lower ho0 bz_)
  have n1_ := Aside0.mk (bb_ BK1074.out hb)
  have n2_ := Aside0.mk (bb_ BK1075.out hb)
  have n3_ := Aside0.mk (bs_ hb)
  clear BK1074
  clear BK1075
  clear HB
  have HR9 := n0_
  have BK1074 := n1_
  have BK1075 := n2_
  have HB := n3_
  clear n0_ n1_ n2_ n3_
  (try clear hb)
  (try clear hb2)
  (try clear hk)
  (try clear hi)
  (try clear ho0)
  refine hK.out _ _ ⟨(blk_cell BK1074.out 0).trans rfl, (blk_cell BK1074.out 1).trans rfl⟩ (fun hHeld => ?_)
  clear hK K
  refine norm_ (a' := ?_) ?_ ?_
  rotate_left
  ·show Act.put _ (some 26) _ = _
   simp only [Act.put, List.setIfInBounds_toArray, List.set_cons_zero, List.set_cons_succ, i64_w, i32_w]
   rfl
  refine pu_ 7 6 ?_; refine pu_ 8 7 ?_
  refine done_ (done_of HT_.out (by kernel_rfl)) ?_
  have HBo0 := HB
  have HS9 := HR9
  have HR00 := HR0_0
  have HR01 := HR0_1
  clear HB HR9 HR0_0 HR0_1
  obtain ⟨wO, hwO⟩ : ∃ x : World, x = w := ⟨_, rfl⟩
  subst hwO
  obtain ⟨w, hw⟩ : ∃ x : World, x = w18 := ⟨_, rfl⟩
  have HB : Aside0 (Below w.heap.size w w18) := ⟨by rw [hw]; exact Below.refl _ _⟩
  have HBo : Aside0 (Below wO.heap.size wO w) := ⟨by rw [hw]; exact HBo0.out⟩
  have HR9 : Aside0 (Kd.C (Kd.slice 2 (Kd.int .i64)) w A9 l9.length l9) := ⟨by rw [hw]; exact (Kd.S_reads' HS9.out).2.2⟩
  have HC9 : Aside0 (l9.length ≤ c9) := ⟨(Kd.S_reads' HS9.out).2.1⟩
  have HR0_0 : Aside0 (Kd.C (Kd.slice 2 (Kd.int .i64)) w A0_0 l0_0.length l0_0) := ⟨by rw [hw]; exact Kd.C_below HR00.out HBo0.out⟩
  have HR0_1 : Aside0 (Kd.C (Kd.int .i64) w A0_1 l0_1.length l0_1) := ⟨by rw [hw]; exact Kd.C_below HR01.out HBo0.out⟩
  clear HBo0 HS9 HR00 HR01 hw
  have hnb19 := NB1074_1075.out
  have hnc19 := NB1075_1074.out
  have hcz20_0 : w18.cell? ⟨gb1074, 0, none⟩ = some (.slice A0_0 l0_0.length c0_0) := (blk_cell BK1074.out 0).trans rfl
  have hcz20_1 : w18.cell? ⟨gb1074, 1, none⟩ = some (.slice A0_1 l0_1.length c0_1) := (blk_cell BK1074.out 1).trans rfl
  have hfz20_0 := blk_frozen BK1074.out 0
  have hfz20_1 := blk_frozen BK1074.out 1
  go_upto_if 38 with (first | ((with_reducible refine gate_callee (f := 143) rfl ?_); refine goesL_ (some 31) rfl rfl Try.func143 (by kernel_rfl) rfl #[.slice A9 l9.length c9, .slice A0_1 l0_1.length c0_1] rfl (by (try simp only [List.map_toArray, List.map_cons, List.map_nil]); first | done | rfl | (simp only [List.length_drop, List.length_take]; rfl)) ?_; (with_reducible refine (spec_l01Solve.calls k _ _ l9 _ _ l0_1 t1076 t1077 _ ?side1 ?side2 ?side3 ?side4 A4.out).mono ?_); (case side1 => exact cb_ HR9.out HB.out); (case side2 => exact HC9.out); (case side3 => exact cb_ HR0_1.out HB.out); (case side4 => exact HC0_1.out); rintro e w21 ⟨v1078, rfl, ho0, hb⟩; refine ⟨_, rfl, ?_⟩; have n0_ := Aside0.mk (Kd.R_lower ho0 bz_); have n1_ := Aside0.mk (bb_ BK1074.out hb); have n2_ := Aside0.mk (bb_ BK1075.out hb); have n3_ := Aside0.mk (bs_ hb); clear BK1074; clear BK1075; clear HB; have HO1079 := n0_; have BK1074 := n1_; have BK1075 := n2_; have HB := n3_; clear n0_ n1_ n2_ n3_; (try clear hb); (try clear hb2); (try clear hk); (try clear hi); (try clear ho0)))
  (try simp only [Act.put, List.setIfInBounds_toArray, List.set_cons_zero, List.set_cons_succ])
  go_cut [10] (fun v10 wc => ∃ (kq : Nat) (x10_13 : Int), v10 = .int .i64 x10_13 ∧ Aside0 (spec_l04Pivot.j0 kq a1 (l0_1.length : Int) l9 t1076 t1077 x10_13 l0_0 l0_1 = some (r1, r2, r3, r4)) ∧ Aside0 (kq ≤ k) ∧ Aside0 (Kd.R (Kd.int .i64) 2 wc w.heap.size (fun _ => True) v1078 t1076) ∧ Aside0 (wc.heap[gb1074]? = some (.cells #[(.slice A0_0 l0_0.length c0_0), (.slice A0_1 l0_1.length c0_1)] 56 (0, 0))) ∧ Aside0 (wc.heap[gb1075]? = some (.cells #[.int .i64 0, (.slice none 0 0), (.slice none 0 0)] 86 (0, 0))) ∧ Aside0 (Below w.heap.size w wc))
  case first =>
   have H := HC14.out
   clear HC14
   by_cases c22 : t1077 < 0
   ·rw [if_pos c22] at H
    have c22b0 : decide (t1077 < 0) = true := decide_eq_true c22
    clear c22
    (first | rw [c22b0] | (simp only [i64_w, i32_w]; rw [c22b0]) | skip)
    have H' := Aside0.mk H
    clear H
    go_wp2
    go_meet
    case rel => exact ⟨_, ((-1)), (by first | rfl | (simp; done) | (simp [*]; done)), H', ⟨by first | omega | exact Nat.le_refl _⟩, ⟨ro_ HO1079.out⟩, ⟨bk_⟩, ⟨bk_⟩, ⟨hb_⟩⟩
   ·rw [if_neg c22] at H
    have c22b0 : decide (t1077 < 0) = false := decide_eq_false c22
    clear c22
    (first | rw [c22b0] | (simp only [i64_w, i32_w]; rw [c22b0]) | skip)
    have H' := Aside0.mk H
    clear H
    go_wp2
    go_meet
    case rel => exact ⟨_, (1), (by first | rfl | (simp; done) | (simp [*]; done)), H', ⟨by first | omega | exact Nat.le_refl _⟩, ⟨ro_ HO1079.out⟩, ⟨bk_⟩, ⟨bk_⟩, ⟨hb_⟩⟩
  case rest =>
   clear HC14
   try clear c1
   try clear c2
   try clear p2
   try clear c5
   try clear c5b0
   try clear c5b1
   try clear c8
   try clear c9
   try clear c10
   try clear c14
   try clear c19
   try clear c22
   try clear c22b0
   try clear hcz11_0
   try clear hcz11_1
   try clear hcz13_0
   try clear hcz13_1
   try clear hcz13_2
   try clear hcz20_0
   try clear hcz20_1
   try clear hfz11_0
   try clear hfz11_1
   try clear hfz13_0
   try clear hfz13_1
   try clear hfz13_2
   try clear hfz20_0
   try clear hfz20_1
   obtain ⟨kq, x10_13, rfl, HA, HJ13, HO_8, BK1074, BK1075, HB⟩ := hcut
   cases kq with
   | zero => exact absurd HA.out (by simp [spec_l04Pivot.j0])
   | succ kj13 =>
    have H := HA.out
    clear HA
    simp only [spec_l04Pivot.j0] at H
    obtain ⟨y1080, hy1080⟩ : ∃ y_ : List (List Int), y_ = (([] : List (List Int))) := ⟨_, rfl⟩
    replace H : (spec_l04Pivot.l0 kj13 a1 (l0_1.length : Int) l9 t1076 x10_13 0 l0_0 l0_1 (wrap64 (x10_13 * t1077)) y1080 (([] : List Int))) = some (r1, r2, r3, r4) := by first | (rw [hy1080]; with_reducible exact H) | (have H2_ := (Option.bind_some _ _).symm.trans H; rw [hy1080]; with_reducible exact H2_) | (have H2_ := (Option.bind_some _ _).symm.trans H; with_reducible exact H2_) | with_reducible exact H | (rw [hy1080]; exact H) | exact H
    have Ny1080 := Aside0.mk hy1080
    clear hy1080
    obtain ⟨y1083, hy1083⟩ : ∃ y_ : List Int, y_ = (([] : List Int)) := ⟨_, rfl⟩
    replace H : (spec_l04Pivot.l0 kj13 a1 (l0_1.length : Int) l9 t1076 x10_13 0 l0_0 l0_1 (wrap64 (x10_13 * t1077)) y1080 y1083) = some (r1, r2, r3, r4) := by first | (rw [hy1083]; with_reducible exact H) | (have H2_ := (Option.bind_some _ _).symm.trans H; rw [hy1083]; with_reducible exact H2_) | (have H2_ := (Option.bind_some _ _).symm.trans H; with_reducible exact H2_) | with_reducible exact H | (rw [hy1083]; exact H) | exact H
    have Ny1083 := Aside0.mk hy1083
    clear hy1083
    have H' := Aside0.mk H
    clear H
    go_wp2_with (first | ((with_reducible refine gate_dst (N := 42) rfl ?_); refine Kd.S_lit (Kd.slice 2 (Kd.int .i64)) _ 33 ?hg (N := 42) ?hd (xs := ([] : List (List Int))) (inner := []) (ok := fun _ => True) (okp := fun _ => True) ?hr ?hp (fun _ hk => hk) trivial (Below.refl _ _) (Nat.le_refl _) (by simp) ?_; (case hd => rfl); (case hg => rfl); (case hr => first | (go_simp; done) | (go_simp; rfl)); (case hp => exact (Reps.none _ _)); intro v1081 w23 ho24 hb hg_ hnew_; clear hg_ hnew_; (first | rw [← Ny1080.out] at ho24 | (simp only [Int.reduceToNat] at ho24; rw [← Ny1080.out] at ho24)); have n0_ := Aside0.mk (rb_ HO_8.out hb); have n1_ := Aside0.mk (Kd.S_lower (Kd.S_new' ho24 (Kd.R_lt (ro_ HO_8.out))) bz_); have n2_ := Aside0.mk (bb_ BK1074.out hb); have n3_ := Aside0.mk (bb_ BK1075.out hb); have n4_ := Aside0.mk (bs_ hb); clear HO_8; clear BK1074; clear BK1075; clear HB; have HO_8 := n0_; have HO1082 := n1_; have BK1074 := n2_; have BK1075 := n3_; have HB := n4_; clear n0_ n1_ n2_ n3_ n4_; clear hb ho24) | ((with_reducible refine gate_dst (N := 43) rfl ?_); refine Kd.R_lit (Kd.int .i64) _ 2 ?hg (N := 43) ?hd (xs := ([] : List Int)) (inner := []) (ok := fun _ => True) (okp := fun _ => True) ?hr ?hp (fun _ hk => hk) trivial (Below.refl _ _) (Nat.le_refl _) (by simp) ?_; (case hd => rfl); (case hg => rfl); (case hr => first | (go_simp; done) | (go_simp; rfl)); (case hp => exact (Reps.none _ _)); intro v1084 w25 ho26 hb hg_ hnew_; clear hg_ hnew_; (first | rw [← Ny1083.out] at ho26 | (simp only [Int.reduceToNat] at ho26; rw [← Ny1083.out] at ho26)); have n0_ := Aside0.mk (Kd.R_elder' (ro_ HO_8.out) (Kd.R_base ho26) hb); have n1_ := Aside0.mk (Kd.S_elder' (so_ HO1082.out) (Kd.R_base ho26) hb); have n2_ := Aside0.mk (Kd.R_lower (Kd.R_new' ho26 (Kd.R_lt (ro_ HO_8.out))) bz_); have n3_ := Aside0.mk (bb_ BK1074.out hb); have n4_ := Aside0.mk (bb_ BK1075.out hb); have n5_ := Aside0.mk (bs_ hb); clear HO_8; clear HO1082; clear BK1074; clear BK1075; clear HB; have HO_8 := n0_; have HO1082 := n1_; have HO1085 := n2_; have BK1074 := n3_; have BK1075 := n4_; have HB := n5_; clear n0_ n1_ n2_ n3_ n4_ n5_; clear hb ho26; obtain ⟨Ao27, co27, eo27⟩ := Kd.R_slice HO1085.out; subst eo27; obtain ⟨Ao28, co28, eo28⟩ := Kd.S_slice HO1082.out; subst eo28) | ((with_reducible refine gate_dst (N := 11) rfl ?_); refine box_event ?hg (N := 11) ?hd (cs := #[.int .i64 0, .slice none 0 0, .slice none 0 0]) (t := 86) ?hr ?_; (case hd => rfl); (case hg => rfl); (case hr => first | (go_simp; done) | (go_simp; rfl)); intro gb1086 hg w29 hbox hb; have n0_ := Aside0.mk (rb_ HO_8.out hb); have n1_ := Aside0.mk (Kd.S_below (so_ HO1082.out) hb); have n2_ := Aside0.mk (rb_ HO1085.out hb); have n3_ := Aside0.mk (bb_ BK1074.out hb); have n4_ := Aside0.mk (bb_ BK1075.out hb); have n5_ := Aside0.mk (bs_ hb); have n6_ := Aside0.mk (hbox); have n7_ := Aside0.mk ((by rw [hg]; exact bz_ : w.heap.size ≤ gb1086)); have n8_ := Aside0.mk ((by rw [hg]; exact bz_ : w.heap.size ≤ gb1086)); have n9_ := Aside0.mk ((by rw [hg]; exact lt_ BK1074.out : gb1074 ≠ gb1086)); have n10_ := Aside0.mk ((by rw [hg]; exact gt_ BK1074.out : gb1086 ≠ gb1074)); have n11_ := Aside0.mk ((by rw [hg]; exact lt_ BK1075.out : gb1075 ≠ gb1086)); have n12_ := Aside0.mk ((by rw [hg]; exact gt_ BK1075.out : gb1086 ≠ gb1075)); clear HO_8; clear HO1082; clear HO1085; clear BK1074; clear BK1075; clear HB; have HO_8 := n0_; have HO1082 := n1_; have HO1085 := n2_; have BK1074 := n3_; have BK1075 := n4_; have HB := n5_; have BK1086 := n6_; have GW1086 := n7_; have GE1086 := n8_; have NB1074_1086 := n9_; have NB1086_1074 := n10_; have NB1075_1086 := n11_; have NB1086_1075 := n12_; clear n0_ n1_ n2_ n3_ n4_ n5_ n6_ n7_ n8_ n9_ n10_ n11_ n12_; clear hb hbox hg; have hnb30 := NB1086_1074.out; have hnc30 := NB1074_1086.out; have hnb31 := NB1086_1075.out; have hnc31 := NB1075_1086.out; have hcz32_0 : w29.cell? ⟨gb1086, 0, none⟩ = some (.int .i64 0) := (blk_cell BK1086.out 0).trans rfl; have hcz32_1 : w29.cell? ⟨gb1086, 1, none⟩ = some (.slice none 0 0) := (blk_cell BK1086.out 1).trans rfl; have hcz32_2 : w29.cell? ⟨gb1086, 2, none⟩ = some (.slice none 0 0) := (blk_cell BK1086.out 2).trans rfl; have hfz32_0 := blk_frozen BK1086.out 0; have hfz32_1 := blk_frozen BK1086.out 1; have hfz32_2 := blk_frozen BK1086.out 2))
    go_loopg [12] kj13 (fun kq v12 w' => ∃ (x12_2 : Int) (x1087001_2 : List (List Int)) (x1087002_2 : List Int) (u1087001 : Value) (u1087002 : Value), v12 = .int .i64 x12_2 ∧ Aside0 (spec_l04Pivot.l0 kq a1 (l0_1.length : Int) l9 t1076 x10_13 x12_2 l0_0 l0_1 (wrap64 (x10_13 * t1077)) x1087001_2 x1087002_2 = some (r1, r2, r3, r4)) ∧ Aside0 (kq ≤ kj13) ∧ Aside0 (Kd.R (Kd.int .i64) 2 w' w.heap.size (fun k_ => some k_ ≠ (u1087002 : Value).ownBlock) v1078 t1076) ∧ Aside0 (Kd.S (Kd.slice 2 (Kd.int .i64)) 33 w' w.heap.size (fun k_ => some k_ ≠ (v1078 : Value).ownBlock ∧ some k_ ≠ (u1087002 : Value).ownBlock) u1087001 x1087001_2) ∧ Aside0 (Kd.R (Kd.int .i64) 2 w' w.heap.size (fun k_ => some k_ ≠ (v1078 : Value).ownBlock) u1087002 x1087002_2) ∧ Aside0 (w'.heap[gb1074]? = some (.cells #[(.slice A0_0 l0_0.length c0_0), (.slice A0_1 l0_1.length c0_1)] 56 (0, 0))) ∧ Aside0 (w'.heap[gb1075]? = some (.cells #[.int .i64 0, (.slice none 0 0), (.slice none 0 0)] 86 (0, 0))) ∧ Aside0 (w'.heap[gb1086]? = some (.cells #[.int .i64 (wrap64 (x10_13 * t1077)), u1087001, u1087002] 86 (0, 0))) ∧ Aside0 (Below w.heap.size w w'))
    case atStart => exact ⟨(0), (y1080), (y1083), (.slice Ao28 y1080.length co28), (.slice Ao27 y1083.length co27), (by first | rfl | (simp; done) | (simp [*]; done)), H', ⟨Nat.le_refl _⟩, ⟨by (with_reducible repeat (first | apply Kd.R_alloc | apply Kd.R_drewN | apply Kd.R_drew)); exact Kd.R_mono (Kd.R_far (p := ⟨gb1086, 2, none⟩) (Kd.R_far (p := ⟨gb1086, 1, none⟩) (Kd.R_far (p := ⟨gb1086, 0, none⟩) (Kd.R_types HO_8.out BK1086.out (by decide)) (fun _ hk => hk.2) (.int .i64 (wrap64 (x10_13 * t1077)))) (fun _ hk => hk.2) (.slice Ao28 y1080.length co28)) (fun _ hk => hk.2) (.slice Ao27 y1083.length co27)) (fun _ hk => hk.1.2)⟩, ⟨by (with_reducible repeat (first | apply Kd.S_alloc | apply Kd.S_drewN | apply Kd.S_drew)); exact Kd.S_mono (Kd.S_far (p := ⟨gb1086, 2, none⟩) (Kd.S_far (p := ⟨gb1086, 1, none⟩) (Kd.S_far (p := ⟨gb1086, 0, none⟩) (Kd.S_types HO1082.out BK1086.out (by decide)) (fun _ hk => hk.2) (.int .i64 (wrap64 (x10_13 * t1077)))) (fun _ hk => hk.2) (.slice Ao28 y1080.length co28)) (fun _ hk => hk.2) (.slice Ao27 y1083.length co27)) (fun _ hk => ⟨hk.1.1.2, hk.1.2⟩)⟩, ⟨by (with_reducible repeat (first | apply Kd.R_alloc | apply Kd.R_drewN | apply Kd.R_drew)); exact Kd.R_mono (Kd.R_far (p := ⟨gb1086, 2, none⟩) (Kd.R_far (p := ⟨gb1086, 1, none⟩) (Kd.R_far (p := ⟨gb1086, 0, none⟩) (Kd.R_types HO1085.out BK1086.out (by decide)) (fun _ hk => hk.2) (.int .i64 (wrap64 (x10_13 * t1077)))) (fun _ hk => hk.2) (.slice Ao28 y1080.length co28)) (fun _ hk => hk.2) (.slice Ao27 y1083.length co27)) (fun _ hk => hk.1.2)⟩, ⟨by (with_reducible repeat (first | refine blk_drewN ?_ _ | refine blk_drew ?_ | refine blk_alloc ?_ _)); refine blk_far ?_ NB1074_1086.out _; (with_reducible repeat (first | refine blk_drewN ?_ _ | refine blk_drew ?_ | refine blk_alloc ?_ _)); refine blk_far ?_ NB1074_1086.out _; (with_reducible repeat (first | refine blk_drewN ?_ _ | refine blk_drew ?_ | refine blk_alloc ?_ _)); refine blk_far ?_ NB1074_1086.out _; (with_reducible repeat (first | refine blk_drewN ?_ _ | refine blk_drew ?_ | refine blk_alloc ?_ _)); exact BK1074.out⟩, ⟨by (with_reducible repeat (first | refine blk_drewN ?_ _ | refine blk_drew ?_ | refine blk_alloc ?_ _)); refine blk_far ?_ NB1075_1086.out _; (with_reducible repeat (first | refine blk_drewN ?_ _ | refine blk_drew ?_ | refine blk_alloc ?_ _)); refine blk_far ?_ NB1075_1086.out _; (with_reducible repeat (first | refine blk_drewN ?_ _ | refine blk_drew ?_ | refine blk_alloc ?_ _)); refine blk_far ?_ NB1075_1086.out _; (with_reducible repeat (first | refine blk_drewN ?_ _ | refine blk_drew ?_ | refine blk_alloc ?_ _)); exact BK1075.out⟩, ⟨by (with_reducible repeat (first | refine blk_drewN ?_ _ | refine blk_drew ?_ | refine blk_alloc ?_ _)); refine blk_put (cs := #[.int .i64 (wrap64 (x10_13 * t1077)), .slice Ao28 y1080.length co28, .slice none 0 0]) ?_ 2 _ rfl; (with_reducible repeat (first | refine blk_drewN ?_ _ | refine blk_drew ?_ | refine blk_alloc ?_ _)); refine blk_put (cs := #[.int .i64 (wrap64 (x10_13 * t1077)), .slice none 0 0, .slice none 0 0]) ?_ 1 _ rfl; (with_reducible repeat (first | refine blk_drewN ?_ _ | refine blk_drew ?_ | refine blk_alloc ?_ _)); refine blk_put (cs := #[.int .i64 0, .slice none 0 0, .slice none 0 0]) ?_ 0 _ rfl; (with_reducible repeat (first | refine blk_drewN ?_ _ | refine blk_drew ?_ | refine blk_alloc ?_ _)); exact BK1086.out⟩, ⟨hb_⟩⟩
    case round =>
     clear H'
     try clear c1
     try clear c2
     try clear p2
     try clear c3
     try clear c5
     try clear c5b0
     try clear c5b1
     try clear p6
     try clear c8
     try clear c9
     try clear c10
     try clear c14
     try clear c19
     try clear c22
     try clear c22b0
     try clear c30
     try clear c31
     try clear hcz11_0
     try clear hcz11_1
     try clear hcz13_0
     try clear hcz13_1
     try clear hcz13_2
     try clear hcz20_0
     try clear hcz20_1
     try clear hcz32_0
     try clear hcz32_1
     try clear hcz32_2
     try clear hfz11_0
     try clear hfz11_1
     try clear hfz13_0
     try clear hfz13_1
     try clear hfz13_2
     try clear hfz20_0
     try clear hfz20_1
     try clear hfz32_0
     try clear hfz32_1
     try clear hfz32_2
     try clear p2
     obtain ⟨x12_2, x1087001_2, x1087002_2, u1087001, u1087002, rfl, HA, HK2, HO_8, HO_1087001, HO_1087002, BK1074, BK1075, BK1086, HB⟩ := hrel
     cases gk with
     | zero => exact absurd HA.out (by simp [spec_l04Pivot.l0])
     | succ k2 =>
      have H := HA.out
      clear HA
      simp only [spec_l04Pivot.l0] at H
      by_cases c33 : x12_2 < (l0_1.length : Int)
      ·rw [if_pos c33] at H
       have c33b0 : decide (x12_2 < (l0_1.length : Int)) = true := decide_eq_true c33
       clear c33
       by_cases c34 : 0 ≤ (l0_1.length : Int)
       ·rw [if_pos c34] at H
        have c34b0 := eq_true c34
        have c34b1 : decide (0 ≤ (l0_1.length : Int)) = true := decide_eq_true c34
        clear c34
        by_cases c35 : ((l0_1.length : Int) : Int).toNat ≤ 35184372088832
        ·rw [if_pos c35] at H
         have c35b0 := eq_true c35
         have c35b1 : decide (((l0_1.length : Int) : Int).toNat ≤ 35184372088832) = true := decide_eq_true c35
         clear c35
         obtain ⟨y1087, hy1087⟩ : ∃ y_ : List Int, y_ = (List.replicate ((l0_1.length : Int) : Int).toNat 0) := ⟨_, rfl⟩
         replace H : (if x1087001_2.length < 5864062014805 then (if 0 ≤ x12_2 then (if x12_2 < (t1076.length : Int) then (if x1087002_2.length < 17592186044416 then (spec_l04Pivot.l0 k2 a1 (l0_1.length : Int) l9 t1076 x10_13 (wrap64 (x12_2 + 1)) l0_0 l0_1 (wrap64 (x10_13 * t1077)) (x1087001_2 ++ [y1087]) (x1087002_2 ++ [wrap64 (x10_13 * (rd t1076 x12_2))])) else (none)) else (none)) else (none)) else (none)) = some (r1, r2, r3, r4) := by first | (rw [hy1087]; with_reducible exact H) | (have H2_ := (Option.bind_some _ _).symm.trans H; rw [hy1087]; with_reducible exact H2_) | (have H2_ := (Option.bind_some _ _).symm.trans H; with_reducible exact H2_) | with_reducible exact H | (rw [hy1087]; exact H) | exact H
         have Ny1087 := Aside0.mk hy1087
         clear hy1087
         by_cases c36 : x1087001_2.length < 5864062014805
         ·rw [if_pos c36] at H
          have LMc36 := Aside0.mk c36
          clear c36
          obtain ⟨y1090, hy1090⟩ : ∃ y_ : List (List Int), y_ = (x1087001_2 ++ [y1087]) := ⟨_, rfl⟩
          replace H : (if 0 ≤ x12_2 then (if x12_2 < (t1076.length : Int) then (if x1087002_2.length < 17592186044416 then (spec_l04Pivot.l0 k2 a1 (l0_1.length : Int) l9 t1076 x10_13 (wrap64 (x12_2 + 1)) l0_0 l0_1 (wrap64 (x10_13 * t1077)) y1090 (x1087002_2 ++ [wrap64 (x10_13 * (rd t1076 x12_2))])) else (none)) else (none)) else (none)) = some (r1, r2, r3, r4) := by first | (rw [hy1090]; with_reducible exact H) | (have H2_ := (Option.bind_some _ _).symm.trans H; rw [hy1090]; with_reducible exact H2_) | (have H2_ := (Option.bind_some _ _).symm.trans H; with_reducible exact H2_) | with_reducible exact H | (rw [hy1090]; exact H) | exact H
          have Ny1090 := Aside0.mk hy1090
          clear hy1090
          by_cases c37 : 0 ≤ x12_2
          ·rw [if_pos c37] at H
           have c37b0 : decide (0 ≤ x12_2) = true := decide_eq_true c37
           clear c37
           by_cases c38 : x12_2 < (t1076.length : Int)
           ·rw [if_pos c38] at H
            have c38b0 : decide (x12_2 < (t1076.length : Int)) = true := decide_eq_true c38
            clear c38
            by_cases c39 : x1087002_2.length < 17592186044416
            ·rw [if_pos c39] at H
             have LMc39 := Aside0.mk c39
             clear c39
             obtain ⟨y1094, hy1094⟩ : ∃ y_ : List Int, y_ = (x1087002_2 ++ [wrap64 (x10_13 * (rd t1076 x12_2))]) := ⟨_, rfl⟩
             replace H : (spec_l04Pivot.l0 k2 a1 (l0_1.length : Int) l9 t1076 x10_13 (wrap64 (x12_2 + 1)) l0_0 l0_1 (wrap64 (x10_13 * t1077)) y1090 y1094) = some (r1, r2, r3, r4) := by first | (rw [hy1094]; with_reducible exact H) | (have H2_ := (Option.bind_some _ _).symm.trans H; rw [hy1094]; with_reducible exact H2_) | (have H2_ := (Option.bind_some _ _).symm.trans H; with_reducible exact H2_) | with_reducible exact H | (rw [hy1094]; exact H) | exact H
             have Ny1094 := Aside0.mk hy1094
             clear hy1094
             have H' := Aside0.mk H
             clear H
             try go_wp2
             have n0_ := Aside0.mk (Kd.R_drew HO_8.out)
             have n1_ := Aside0.mk (Kd.S_drew HO_1087001.out)
             have n2_ := Aside0.mk (Kd.R_drew HO_1087002.out)
             have n3_ := Aside0.mk (blk_drew BK1074.out)
             have n4_ := Aside0.mk (blk_drew BK1075.out)
             have n5_ := Aside0.mk (blk_drew BK1086.out)
             have n6_ := Aside0.mk (below_drew1 HB.out)
             clear HO_8
             clear HO_1087001
             clear HO_1087002
             clear BK1074
             clear BK1075
             clear BK1086
             clear HB
             have HO_8 := n0_
             have HO_1087001 := n1_
             have HO_1087002 := n2_
             have BK1074 := n3_
             have BK1075 := n4_
             have BK1086 := n5_
             have HB := n6_
             clear n0_ n1_ n2_ n3_ n4_ n5_ n6_
             refine st_ (n := 8) (S := fun w' => w'.cell? ⟨gb1086, 0, none⟩ = some (.int .i64 (wrap64 (x10_13 * t1077))) ∧ w'.cell? ⟨gb1086, 1, none⟩ = some (u1087001) ∧ w'.cell? ⟨gb1086, 2, none⟩ = some (u1087002)) (ds := [7]) ⟨(blk_cell BK1086.out 0).trans rfl, (blk_cell BK1086.out 1).trans rfl, (blk_cell BK1086.out 2).trans rfl⟩ (fun hHeld => ?_); refine with_tabW spec_l04Pivot.tab12 spec_l04Pivot.bits12 (fun HT_ HW_ => ?_)
             generalize wr.drew = w40 at HO_8 HO_1087001 HO_1087002 BK1074 BK1075 BK1086 HB hHeld ⊢
             refine pu_ 0 50 ?_; refine pu_ 2 52 ?_; refine tk_ 1 51 ?_
             refine on_ 3 (some 53) (fun K hK => ?_)
             refine Kd.R_make_step (Kd.int .i64) _ 2 (by rfl) (N := 53) rfl 33 _ _ rfl (l0_1.length : Int) rfl rfl Try.underlying33 (.int .i64 0) 8 info2 rfl (by decide) (by omega) 0 (ok := fun _ => True) (okp := fun _ => True) rfl (fun _ hk => hk) trivial (of_decide_eq_true (by first | (with_reducible assumption) | assumption)) (Nat.le_trans (Nat.mul_le_mul_right _ (of_decide_eq_true (by first | (with_reducible assumption) | assumption) : (l0_1.length : Int).toNat ≤ 35184372088832)) (by omega)) (Below.refl _ _) (Nat.le_refl _) ?_
             intro v1088 w41 ho42 hb hg_ hnew_
             clear hg_ hnew_
             (first | rw [← Ny1087.out] at ho42 | (simp only [Int.reduceToNat] at ho42; rw [← Ny1087.out] at ho42))
             have n0_ := Aside0.mk (Kd.R_elder' (ro_ HO_8.out) (Kd.R_base ho42) hb)
             have n1_ := Aside0.mk (Kd.S_elder' (so_ HO_1087001.out) (Kd.R_base ho42) hb)
             have n2_ := Aside0.mk (Kd.R_elder' (ro_ HO_1087002.out) (Kd.R_base ho42) hb)
             have n3_ := Aside0.mk (Kd.R_lower (Kd.R_new' (Kd.R_new' ho42 (Kd.R_lt (ro_ HO_8.out))) (Kd.R_lt (ro_ HO_1087002.out))) bz_)
             have n4_ := Aside0.mk (bb_ BK1074.out hb)
             have n5_ := Aside0.mk (bb_ BK1075.out hb)
             have n6_ := Aside0.mk (bb_ BK1086.out hb)
             have n7_ := Aside0.mk (bs_ hb)
             clear HO_8
             clear HO_1087001
             clear HO_1087002
             clear BK1074
             clear BK1075
             clear BK1086
             clear HB
             have HO_8 := n0_
             have HO_1087001 := n1_
             have HO_1087002 := n2_
             have HO1089 := n3_
             have BK1074 := n4_
             have BK1075 := n5_
             have BK1086 := n6_
             have HB := n7_
             clear n0_ n1_ n2_ n3_ n4_ n5_ n6_ n7_
             clear hb ho42
             obtain ⟨Ao44, co44, eo44⟩ := Kd.R_slice HO1089.out
             (first | subst eo44 | (injection eo44 with f1_ f2_ f3_; have f4_ := f1_.symm; have f5_ := f3_.symm; clear f1_ f2_ f3_; subst f4_; subst f5_))
             refine hK.out _ _ ⟨(blk_cell BK1086.out 0).trans rfl, (blk_cell BK1086.out 1).trans rfl, (blk_cell BK1086.out 2).trans rfl⟩ (fun hHeld => ?_)
             clear hK K
             refine norm_ (a' := ?_) ?_ ?_
             rotate_left
             ·show Act.put _ (some 53) _ = _
              simp only [Act.put, List.setIfInBounds_toArray, List.set_cons_zero, List.set_cons_succ, i64_w, i32_w]
              rfl
             refine on_ 4 (some 54) (fun K hK => ?_)
             refine value_ (w1 := ?_) (v := ?_) (by rfl) rfl ?_ ?_
             rotate_left 2
             ·go_simp
              constructor
              ·rfl
              ·rfl
             refine hK.out _ _ ⟨(blk_cell (blk_alloc BK1086.out _) 0).trans rfl, (blk_cell (blk_alloc BK1086.out _) 1).trans rfl, (blk_cell (blk_alloc BK1086.out _) 2).trans rfl⟩ (fun hHeld => ?_)
             clear hK K
             refine norm_ (a' := ?_) ?_ ?_
             rotate_left
             ·show Act.put _ (some 54) _ = _
              simp only [Act.put, List.setIfInBounds_toArray, List.set_cons_zero, List.set_cons_succ, i64_w, i32_w]
              rfl
             refine on_ 5 (some 55) (fun K hK => ?_)
             refine Kd.S_append_step (Kd.slice 2 (Kd.int .i64)) (w0 := w) w.heap.size (by rfl) (.tmp 51) (.tmp 54) 22 33 (.slice none 0 0) 24 rfl Try.underlying22 info33 rfl (by decide) (by omega) u1087001 x1087001_2 y1087 [.slice Ao44 y1087.length co44] (fun k_ => some k_ ≠ (v1078 : Value).ownBlock ∧ some k_ ≠ (u1087002 : Value).ownBlock) (fun k_ => some k_ = (.slice Ao44 y1087.length co44 : Value).ownBlock) rfl rfl ?aP (fun k_ hk_ => ((Kd.R_mono (ok' := fun k_ => ((fun k_ => some k_ ≠ (v1078 : Value).ownBlock ∧ some k_ ≠ (u1087002 : Value).ownBlock)) k_ ∧ some k_ ≠ (u1087001 : Value).ownBlock) (Kd.R_apart' (HO1089.out) (Kd.S_typed HO_1087001.out) (by decide)) (fun k_ hk => ⟨⟨hk.1.1.2, hk.1.2⟩, hk.2⟩))).1 k_ hk_.symm) ?aF ?aO ?aB ?aS ?aL ?_
             (case aP => exact Kd.M_row (Kd.R_mono (Kd.R_tight rfl (Kd.R_mono (ok' := fun k_ => ((fun k_ => some k_ ≠ (v1078 : Value).ownBlock ∧ some k_ ≠ (u1087002 : Value).ownBlock)) k_ ∧ some k_ ≠ (u1087001 : Value).ownBlock) (Kd.R_apart' (HO1089.out) (Kd.S_typed HO_1087001.out) (by decide)) (fun k_ hk => ⟨⟨hk.1.1.2, hk.1.2⟩, hk.2⟩))) (fun _ h_ => h_)))
             (case aB => exact hb_)
             (case aF => exact (fun k_ hk => ⟨Kd.fresh' (Kd.R_lt (ro_ HO_8.out)) k_ hk, Kd.fresh' (Kd.R_lt (ro_ HO_1087002.out)) k_ hk⟩))
             (case aO => exact (by (with_reducible repeat (first | apply Kd.S_alloc | apply Kd.S_drewN | apply Kd.S_drew)); exact Kd.S_mono HO_1087001.out (fun k_ hk => ⟨⟨hk.1.1, hk.1.2⟩, fun e_ => hk.2 e_⟩)))
             (case aS => exact bz_)
             (case aL => have := LMc36.out; omega)
             intro v1091 w43 ho hb hg hat
             rw [← Ny1090.out] at ho
             have n0_ := Aside0.mk (Kd.R_over' (ro_ HO_8.out) (Kd.S_typed (so_ HO_1087001.out)) (by decide) hg)
             have n1_ := Aside0.mk (Kd.R_over' (ro_ HO_1087002.out) (Kd.S_typed (so_ HO_1087001.out)) (by decide) hg)
             have n2_ := Aside0.mk (bg_ BK1074.out hg (Kd.S_ne HO_1087001.out BK1074.out (by decide)))
             have n3_ := Aside0.mk (bg_ BK1075.out hg (Kd.S_ne HO_1087001.out BK1075.out (by decide)))
             have n4_ := Aside0.mk (bg_ BK1086.out hg (Kd.S_ne HO_1087001.out BK1086.out (by decide)))
             have n5_ := Aside0.mk (hb)
             have n6_ := Aside0.mk (ho)
             clear HO_8
             clear HO_1087002
             clear BK1074
             clear BK1075
             clear BK1086
             clear HB
             clear HO_1087001
             clear HO1089
             have HO_8 := n0_
             have HO_1087002 := n1_
             have BK1074 := n2_
             have BK1075 := n3_
             have BK1086 := n4_
             have HB := n5_
             have HO1092 := n6_
             clear n0_ n1_ n2_ n3_ n4_ n5_ n6_
             clear ho hb hg hat
             obtain ⟨Ao45, co45, eo45⟩ := Kd.S_slice HO1092.out
             (first | subst eo45 | (injection eo45 with f1_ f2_ f3_; have f4_ := f1_.symm; have f5_ := f3_.symm; clear f1_ f2_ f3_; subst f4_; subst f5_))
             refine hK.out _ _ ⟨(blk_cell BK1086.out 0).trans rfl, (blk_cell BK1086.out 1).trans rfl, (blk_cell BK1086.out 2).trans rfl⟩ (fun hHeld => ?_)
             clear hK K
             refine norm_ (a' := ?_) ?_ ?_
             rotate_left
             ·show Act.put _ (some 55) _ = _
              simp only [Act.put, List.setIfInBounds_toArray, List.set_cons_zero, List.set_cons_succ, i64_w, i32_w]
              rfl
             refine pu_ 6 56 ?_
             refine la_ 7 none (fun K hK => ?_)
             have hs46 : w43.cell? ⟨gb1086, 1, none⟩ = some (u1087001) := (blk_cell BK1086.out 1).trans rfl
             have hfs46 := blk_frozen BK1086.out 1
             have hns46_0 := NB1074_1086.out
             have hns46_1 := NB1075_1086.out
             have hms46_0 := NB1086_1074.out
             have hms46_1 := NB1086_1075.out
             refine skip_ (w1 := ?_) (by rfl) rfl ?_ ?_
             rotate_left
             ·go_simp
              rfl
             refine hK.out _ _ ?_
             clear hK K
             refine done_ (done_of HT_.out (by kernel_rfl)) ?_
             try go_wp2
             have n0_ : Aside0 (Kd.R (Kd.int .i64) 2 (w43.setCell ⟨gb1086, 1, none⟩ (.slice Ao45 y1090.length co45)) w.heap.size (fun k_ => some k_ ≠ (u1087002 : Value).ownBlock) v1078 t1076) := ⟨by (with_reducible repeat (first | apply Kd.R_alloc | apply Kd.R_drewN | apply Kd.R_drew)); exact Kd.R_mono (Kd.R_far (p := ⟨gb1086, 1, none⟩) (Kd.R_types HO_8.out BK1086.out (by decide)) (fun _ hk => hk.2) (.slice Ao45 y1090.length co45)) (fun _ hk => hk.1.1)⟩
             have n1_ : Aside0 (Kd.R (Kd.int .i64) 2 (w43.setCell ⟨gb1086, 1, none⟩ (.slice Ao45 y1090.length co45)) w.heap.size (fun k_ => some k_ ≠ (v1078 : Value).ownBlock) u1087002 x1087002_2) := ⟨by (with_reducible repeat (first | apply Kd.R_alloc | apply Kd.R_drewN | apply Kd.R_drew)); exact Kd.R_mono (Kd.R_far (p := ⟨gb1086, 1, none⟩) (Kd.R_types HO_1087002.out BK1086.out (by decide)) (fun _ hk => hk.2) (.slice Ao45 y1090.length co45)) (fun _ hk => hk.1.1)⟩
             have n2_ : Aside0 (Kd.S (Kd.slice 2 (Kd.int .i64)) 33 (w43.setCell ⟨gb1086, 1, none⟩ (.slice Ao45 y1090.length co45)) w.heap.size (fun k_ => some k_ ≠ (v1078 : Value).ownBlock ∧ some k_ ≠ (u1087002 : Value).ownBlock) (.slice Ao45 y1090.length co45) y1090) := ⟨by (with_reducible repeat (first | apply Kd.S_alloc | apply Kd.S_drewN | apply Kd.S_drew)); exact Kd.S_mono (Kd.S_far (p := ⟨gb1086, 1, none⟩) (Kd.S_types HO1092.out BK1086.out (by decide)) (fun _ hk => hk.2) (.slice Ao45 y1090.length co45)) (fun _ hk => ⟨hk.1.1, hk.1.2⟩)⟩
             have n3_ : Aside0 ((w43.setCell ⟨gb1086, 1, none⟩ (.slice Ao45 y1090.length co45)).heap[gb1074]? = some (.cells #[.slice A0_0 l0_0.length c0_0, .slice A0_1 l0_1.length c0_1] 56 (0, 0))) := ⟨by (with_reducible repeat (first | refine blk_drewN ?_ _ | refine blk_drew ?_ | refine blk_alloc ?_ _)); refine blk_far ?_ NB1074_1086.out _; (with_reducible repeat (first | refine blk_drewN ?_ _ | refine blk_drew ?_ | refine blk_alloc ?_ _)); exact BK1074.out⟩
             have n4_ : Aside0 ((w43.setCell ⟨gb1086, 1, none⟩ (.slice Ao45 y1090.length co45)).heap[gb1075]? = some (.cells #[.int .i64 0, .slice none 0 0, .slice none 0 0] 86 (0, 0))) := ⟨by (with_reducible repeat (first | refine blk_drewN ?_ _ | refine blk_drew ?_ | refine blk_alloc ?_ _)); refine blk_far ?_ NB1075_1086.out _; (with_reducible repeat (first | refine blk_drewN ?_ _ | refine blk_drew ?_ | refine blk_alloc ?_ _)); exact BK1075.out⟩
             have n5_ : Aside0 ((w43.setCell ⟨gb1086, 1, none⟩ (.slice Ao45 y1090.length co45)).heap[gb1086]? = some (.cells #[.int .i64 (wrap64 (x10_13 * t1077)), .slice Ao45 y1090.length co45, u1087002] 86 (0, 0))) := ⟨by (with_reducible repeat (first | refine blk_drewN ?_ _ | refine blk_drew ?_ | refine blk_alloc ?_ _)); refine blk_put (cs := #[.int .i64 (wrap64 (x10_13 * t1077)), u1087001, u1087002]) ?_ 1 _ rfl; (with_reducible repeat (first | refine blk_drewN ?_ _ | refine blk_drew ?_ | refine blk_alloc ?_ _)); exact BK1086.out⟩
             have n6_ : Aside0 (Below w.heap.size w (w43.setCell ⟨gb1086, 1, none⟩ (.slice Ao45 y1090.length co45))) := ⟨hb_⟩
             (try clear HO_8)
             (try clear HO_1087002)
             (try clear HO1092)
             (try clear BK1074)
             (try clear BK1075)
             (try clear BK1086)
             (try clear HB)
             generalize (w43.setCell ⟨gb1086, 1, none⟩ (.slice Ao45 y1090.length co45)) = w47 at n0_ n1_ n2_ n3_ n4_ n5_ n6_ ⊢
             have HO_8 := n0_
             have HO_1087002 := n1_
             have HO1092 := n2_
             have BK1074 := n3_
             have BK1075 := n4_
             have BK1086 := n5_
             have HB := n6_
             clear n0_ n1_ n2_ n3_ n4_ n5_ n6_
             have n0_ := Aside0.mk (Kd.R_drew HO_8.out)
             have n1_ := Aside0.mk (Kd.R_drew HO_1087002.out)
             have n2_ := Aside0.mk (Kd.S_drew HO1092.out)
             have n3_ := Aside0.mk (blk_drew BK1074.out)
             have n4_ := Aside0.mk (blk_drew BK1075.out)
             have n5_ := Aside0.mk (blk_drew BK1086.out)
             have n6_ := Aside0.mk (below_drew1 HB.out)
             clear HO_8
             clear HO_1087002
             clear HO1092
             clear BK1074
             clear BK1075
             clear BK1086
             clear HB
             have HO_8 := n0_
             have HO_1087002 := n1_
             have HO1092 := n2_
             have BK1074 := n3_
             have BK1075 := n4_
             have BK1086 := n5_
             have HB := n6_
             clear n0_ n1_ n2_ n3_ n4_ n5_ n6_
             obtain ⟨Ao49, co49, eo49⟩ := Kd.R_slice HO_8.out
             (first | subst eo49 | (injection eo49 with f1_ f2_ f3_; have f4_ := f1_.symm; have f5_ := f3_.symm; clear f1_ f2_ f3_; subst f4_; subst f5_))
             have p1093 : 0 ≤ (x12_2 : Int) := of_decide_eq_true (by first | (with_reducible assumption) | assumption)
             have q1093 : x12_2 < (t1076.length : Int) := of_decide_eq_true (by first | (with_reducible assumption) | assumption)
             obtain ⟨ad1093, e1093, hx1093_0⟩ := Kd.at_int (Kd.R_reads' HO_8.out).2.2 x12_2 p1093 q1093
             cases e1093
             replace p1093 := eq_true p1093
             replace q1093 := eq_true q1093
             refine st_ (n := 12) (S := fun w' => w'.cell? ⟨gb1086, 0, none⟩ = some (.int .i64 (wrap64 (x10_13 * t1077))) ∧ w'.cell? ⟨gb1086, 1, none⟩ = some (.slice Ao45 y1090.length co45) ∧ w'.cell? ⟨gb1086, 2, none⟩ = some (u1087002) ∧ w'.cell? (ad1093.add (x12_2).toNat) = some (.int .i64 (rd t1076 x12_2))) (ds := [9, 11]) ⟨(blk_cell BK1086.out 0).trans rfl, (blk_cell BK1086.out 1).trans rfl, (blk_cell BK1086.out 2).trans rfl, hx1093_0⟩ (fun hHeld => ?_); refine with_tabW spec_l04Pivot.tab13 spec_l04Pivot.bits13 (fun HT_ HW_ => ?_)
             generalize w47.drew = w48 at HO_8 HO_1087002 HO1092 BK1074 BK1075 BK1086 HB hx1093_0 hHeld ⊢
             refine pu_ 0 57 ?_; refine pu_ 2 59 ?_; refine pu_ 3 60 ?_; refine pu_ 4 61 ?_; refine pu_ 5 62 ?_; refine tk_ 1 58 ?_; refine tk_ 6 63 ?_; refine pu_ 7 64 ?_
             refine on_ 8 (some 65) (fun K hK => ?_)
             refine value_ (w1 := ?_) (v := ?_) (by rfl) rfl ?_ ?_
             rotate_left 2
             ·go_simp
              constructor
              ·rfl
              ·rfl
             refine hK.out _ _ ⟨(blk_cell (blk_alloc BK1086.out _) 0).trans rfl, (blk_cell (blk_alloc BK1086.out _) 1).trans rfl, (blk_cell (blk_alloc BK1086.out _) 2).trans rfl, (World.cell?_alloc_lt _ _ _ (World.block_lt_of_cell? _ _ (hHeld.2.2.2))).trans (hHeld.2.2.2)⟩ (fun hHeld => ?_)
             clear hK K
             refine norm_ (a' := ?_) ?_ ?_
             rotate_left
             ·show Act.put _ (some 65) _ = _
              simp only [Act.put, List.setIfInBounds_toArray, List.set_cons_zero, List.set_cons_succ, i64_w, i32_w]
              rfl
             refine la_ 9 (some 66) (fun K hK => ?_)
             refine Kd.R_append_step (Kd.int .i64) (w0 := w) w.heap.size (by rfl) (.tmp 58) (.tmp 65) 33 2 (.int .i64 0) 8 rfl Try.underlying33 info2 rfl (by decide) (by omega) u1087002 x1087002_2 (wrap64 (x10_13 * (rd t1076 x12_2))) [.int .i64 (wrap64 (x10_13 * (rd t1076 x12_2)))] (fun k_ => some k_ ≠ (.slice (some ad1093) t1076.length co49 : Value).ownBlock) (fun _ => False) rfl rfl ?aP (fun _ hk => hk.elim) ?aF ?aO ?aB ?aS ?aL ?_
             (case aP => exact rfl)
             (case aB => exact hb_)
             (case aF => exact (fun k_ hk => Kd.fresh' (Kd.R_lt (ro_ HO_8.out)) k_ hk))
             (case aO => exact (ro_ HO_1087002.out))
             (case aS => exact bz_)
             (case aL => have := LMc39.out; omega)
             intro v1095 w50 ho hb hg hat
             rw [← Ny1094.out] at ho
             have n0_ := Aside0.mk (Kd.R_after (ok := (fun _ => True)) (by (with_reducible repeat (first | apply Kd.R_alloc | apply Kd.R_drewN | apply Kd.R_drew)); exact Kd.R_mono HO_8.out (fun _ hk => ⟨trivial, hk⟩)) hg hat)
             have n1_ := Aside0.mk (bg_ BK1074.out hg (Kd.R_ne HO_1087002.out BK1074.out (by decide)))
             have n2_ := Aside0.mk (bg_ BK1075.out hg (Kd.R_ne HO_1087002.out BK1075.out (by decide)))
             have n3_ := Aside0.mk (bg_ BK1086.out hg (Kd.R_ne HO_1087002.out BK1086.out (by decide)))
             have n4_ := Aside0.mk (Kd.S_after (ok := (fun k_ => some k_ ≠ (.slice (some ad1093) t1076.length co49 : Value).ownBlock)) (so_ HO1092.out) hg hat)
             have n5_ := Aside0.mk (hb)
             have n6_ := Aside0.mk (ho)
             clear HO_8
             clear BK1074
             clear BK1075
             clear BK1086
             clear HO1092
             clear HB
             clear HO_1087002
             have HO_8 := n0_
             have BK1074 := n1_
             have BK1075 := n2_
             have BK1086 := n3_
             have HO1092 := n4_
             have HB := n5_
             have HO1096 := n6_
             clear n0_ n1_ n2_ n3_ n4_ n5_ n6_
             clear ho hb hg hat
             obtain ⟨Ao51, co51, eo51⟩ := Kd.R_slice HO1096.out
             (first | subst eo51 | (injection eo51 with f1_ f2_ f3_; have f4_ := f1_.symm; have f5_ := f3_.symm; clear f1_ f2_ f3_; subst f4_; subst f5_))
             refine hK.out _ _ ?_
             clear hK K
             refine norm_ (a' := ?_) ?_ ?_
             rotate_left
             ·show Act.put _ (some 66) _ = _
              simp only [Act.put, List.setIfInBounds_toArray, List.set_cons_zero, List.set_cons_succ, i64_w, i32_w]
              rfl
             refine pu_ 10 67 ?_
             refine la_ 11 none (fun K hK => ?_)
             have hs52 : w50.cell? ⟨gb1086, 2, none⟩ = some (u1087002) := (blk_cell BK1086.out 2).trans rfl
             have hfs52 := blk_frozen BK1086.out 2
             have hns52_0 := NB1074_1086.out
             have hns52_1 := NB1075_1086.out
             have hms52_0 := NB1086_1074.out
             have hms52_1 := NB1086_1075.out
             refine skip_ (w1 := ?_) (by rfl) rfl ?_ ?_
             rotate_left
             ·go_simp
              rfl
             refine hK.out _ _ ?_
             clear hK K
             refine done_ (done_of HT_.out (by kernel_rfl)) ?_
             try go_wp2
             go_roundg k2
             case measure => have := HJ13.out; have := HK2.out; omega
             case rel => exact ⟨(wrap64 (x12_2 + 1)), (y1090), (y1094), (.slice Ao45 y1090.length co45), (.slice Ao51 y1094.length co51), (by first | rfl | (simp; done) | (simp [*]; done)), H', ⟨by have := HJ13.out; have := HK2.out; omega⟩, ⟨by (with_reducible repeat (first | apply Kd.R_alloc | apply Kd.R_drewN | apply Kd.R_drew)); exact Kd.R_mono (Kd.R_far (p := ⟨gb1086, 2, none⟩) (Kd.R_types HO_8.out BK1086.out (by decide)) (fun _ hk => hk.2) (.slice Ao51 y1094.length co51)) (fun _ hk => hk.1.2)⟩, ⟨by (with_reducible repeat (first | apply Kd.S_alloc | apply Kd.S_drewN | apply Kd.S_drew)); exact Kd.S_mono (Kd.S_far (p := ⟨gb1086, 2, none⟩) (Kd.S_types HO1092.out BK1086.out (by decide)) (fun _ hk => hk.2) (.slice Ao51 y1094.length co51)) (fun _ hk => ⟨hk.1.1, hk.1.2⟩)⟩, ⟨by (with_reducible repeat (first | apply Kd.R_alloc | apply Kd.R_drewN | apply Kd.R_drew)); exact Kd.R_mono (Kd.R_far (p := ⟨gb1086, 2, none⟩) (Kd.R_types HO1096.out BK1086.out (by decide)) (fun _ hk => hk.2) (.slice Ao51 y1094.length co51)) (fun _ hk => hk.1)⟩, ⟨by (with_reducible repeat (first | refine blk_drewN ?_ _ | refine blk_drew ?_ | refine blk_alloc ?_ _)); refine blk_far ?_ NB1074_1086.out _; (with_reducible repeat (first | refine blk_drewN ?_ _ | refine blk_drew ?_ | refine blk_alloc ?_ _)); exact BK1074.out⟩, ⟨by (with_reducible repeat (first | refine blk_drewN ?_ _ | refine blk_drew ?_ | refine blk_alloc ?_ _)); refine blk_far ?_ NB1075_1086.out _; (with_reducible repeat (first | refine blk_drewN ?_ _ | refine blk_drew ?_ | refine blk_alloc ?_ _)); exact BK1075.out⟩, ⟨by (with_reducible repeat (first | refine blk_drewN ?_ _ | refine blk_drew ?_ | refine blk_alloc ?_ _)); refine blk_put (cs := #[.int .i64 (wrap64 (x10_13 * t1077)), .slice Ao45 y1090.length co45, u1087002]) ?_ 2 _ rfl; (with_reducible repeat (first | refine blk_drewN ?_ _ | refine blk_drew ?_ | refine blk_alloc ?_ _)); exact BK1086.out⟩, ⟨hb_⟩⟩
            ·rw [if_neg c39] at H
             exact absurd H (by simp)
           ·rw [if_neg c38] at H
            exact absurd H (by simp)
          ·rw [if_neg c37] at H
           exact absurd H (by simp)
         ·rw [if_neg c36] at H
          exact absurd H (by simp)
        ·rw [if_neg c35] at H
         exact absurd H (by simp)
       ·rw [if_neg c34] at H
        exact absurd H (by simp)
      ·rw [if_neg c33] at H
       have c33b0 : decide (x12_2 < (l0_1.length : Int)) = false := decide_eq_false c33
       clear c33
       have H' := Aside0.mk H
       clear H
       go_wp2
       go_loopg [13] k2 (fun kq v13 w' => ∃ (x13_3 : Int) (x1087001_3 : List (List Int)) (x1087002_3 : List Int) (u1087001 : Value) (u1087002 : Value), v13 = .int .i64 x13_3 ∧ Aside0 (spec_l04Pivot.l1 kq a1 (l0_1.length : Int) l9 x10_13 x13_3 l0_0 l0_1 (wrap64 (x10_13 * t1077)) x1087001_3 x1087002_3 = some (r1, r2, r3, r4)) ∧ Aside0 (kq ≤ k2) ∧ Aside0 (Kd.S (Kd.slice 2 (Kd.int .i64)) 33 w' w.heap.size (fun k_ => some k_ ≠ (u1087002 : Value).ownBlock) u1087001 x1087001_3) ∧ Aside0 (Kd.R (Kd.int .i64) 2 w' w.heap.size (fun _ => True) u1087002 x1087002_3) ∧ Aside0 (w'.heap[gb1074]? = some (.cells #[(.slice A0_0 l0_0.length c0_0), (.slice A0_1 l0_1.length c0_1)] 56 (0, 0))) ∧ Aside0 (w'.heap[gb1075]? = some (.cells #[.int .i64 0, (.slice none 0 0), (.slice none 0 0)] 86 (0, 0))) ∧ Aside0 (w'.heap[gb1086]? = some (.cells #[.int .i64 (wrap64 (x10_13 * t1077)), u1087001, u1087002] 86 (0, 0))) ∧ Aside0 (Below w.heap.size w w'))
       case atStart => exact ⟨(0), (x1087001_2), (x1087002_2), (u1087001), (u1087002), (by first | rfl | (simp; done) | (simp [*]; done)), H', ⟨Nat.le_refl _⟩, ⟨by (with_reducible repeat (first | apply Kd.S_alloc | apply Kd.S_drewN | apply Kd.S_drew)); exact Kd.S_mono HO_1087001.out (fun _ hk => hk.2)⟩, ⟨by (with_reducible repeat (first | apply Kd.R_alloc | apply Kd.R_drewN | apply Kd.R_drew)); exact Kd.R_mono HO_1087002.out (fun _ hk => trivial)⟩, ⟨bk_⟩, ⟨bk_⟩, ⟨bk_⟩, ⟨hb_⟩⟩
       case round =>
        clear H'
        try clear c1
        try clear p1
        try clear q1
        try clear hx1
        try clear c2
        try clear p2
        try clear c3
        try clear c5
        try clear c5b0
        try clear c5b1
        try clear p6
        try clear c8
        try clear c9
        try clear c10
        try clear p10
        try clear q10
        try clear hx10
        try clear c14
        try clear c19
        try clear c22
        try clear c22b0
        try clear c30
        try clear c31
        try clear c33
        try clear c33b0
        try clear c34
        try clear c34b0
        try clear c34b1
        try clear c35
        try clear c35b0
        try clear c35b1
        try clear c36
        try clear c37
        try clear c37b0
        try clear c38
        try clear c38b0
        try clear c39
        try clear hcz11_0
        try clear hcz11_1
        try clear hcz13_0
        try clear hcz13_1
        try clear hcz13_2
        try clear hcz20_0
        try clear hcz20_1
        try clear hcz32_0
        try clear hcz32_1
        try clear hcz32_2
        try clear hfz11_0
        try clear hfz11_1
        try clear hfz13_0
        try clear hfz13_1
        try clear hfz13_2
        try clear hfz20_0
        try clear hfz20_1
        try clear hfz32_0
        try clear hfz32_1
        try clear hfz32_2
        try clear hx1093_0
        try clear p1093
        try clear p2
        try clear p6
        try clear q1093
        obtain ⟨x13_3, x1087001_3, x1087002_3, u1087001, u1087002, rfl, HA, HK3, HO_1087001, HO_1087002, BK1074, BK1075, BK1086, HB⟩ := hrel
        cases gk with
        | zero => exact absurd HA.out (by simp [spec_l04Pivot.l1])
        | succ k3 =>
         have H := HA.out
         clear HA
         simp only [spec_l04Pivot.l1] at H
         by_cases c53 : x13_3 < (l0_1.length : Int)
         ·rw [if_pos c53] at H
          have c53b0 : decide (x13_3 < (l0_1.length : Int)) = true := decide_eq_true c53
          clear c53
          by_cases c54 : 0 ≤ (l0_1.length : Int)
          ·rw [if_pos c54] at H
           have c54b0 := eq_true c54
           have c54b1 : decide (0 ≤ (l0_1.length : Int)) = true := decide_eq_true c54
           clear c54
           by_cases c55 : ((l0_1.length : Int) : Int).toNat ≤ 35184372088832
           ·rw [if_pos c55] at H
            have c55b0 := eq_true c55
            have c55b1 : decide (((l0_1.length : Int) : Int).toNat ≤ 35184372088832) = true := decide_eq_true c55
            clear c55
            obtain ⟨y1097, hy1097⟩ : ∃ y_ : List Int, y_ = (List.replicate ((l0_1.length : Int) : Int).toNat 0) := ⟨_, rfl⟩
            replace H : (spec_l04Pivot.l2 k3 a1 (l0_1.length : Int) l9 x10_13 x13_3 y1097 0 l0_0 l0_1 (wrap64 (x10_13 * t1077)) x1087001_3 x1087002_3) = some (r1, r2, r3, r4) := by first | (rw [hy1097]; with_reducible exact H) | (have H2_ := (Option.bind_some _ _).symm.trans H; rw [hy1097]; with_reducible exact H2_) | (have H2_ := (Option.bind_some _ _).symm.trans H; with_reducible exact H2_) | with_reducible exact H | (rw [hy1097]; exact H) | exact H
            have Ny1097 := Aside0.mk hy1097
            clear hy1097
            have H' := Aside0.mk H
            clear H
            go_wp2_with (first | ((with_reducible refine gate_dst (N := 74) rfl ?_); refine Kd.R_make (Kd.int .i64) _ 2 rfl (N := 74) rfl 33 _ _ rfl (l0_1.length : Int) rfl rfl Try.underlying33 (.int .i64 0) 8 info2 rfl (by decide) (by omega) 0 (ok := fun _ => True) (okp := fun _ => True) rfl (fun _ hk => hk) trivial (of_decide_eq_true (by first | (with_reducible assumption) | assumption)) (Nat.le_trans (Nat.mul_le_mul_right _ (of_decide_eq_true (by first | (with_reducible assumption) | assumption) : (l0_1.length : Int).toNat ≤ 35184372088832)) (by omega)) (Below.refl _ _) (Nat.le_refl _) ?_; intro v1098 w56 ho57 hb hg_ hnew_; clear hg_ hnew_; (first | rw [← Ny1097.out] at ho57 | (simp only [Int.reduceToNat] at ho57; rw [← Ny1097.out] at ho57)); have n0_ := Aside0.mk (Kd.S_elder' (so_ HO_1087001.out) (Kd.R_base ho57) hb); have n1_ := Aside0.mk (Kd.R_elder' (ro_ HO_1087002.out) (Kd.R_base ho57) hb); have n2_ := Aside0.mk (Kd.R_lower (Kd.R_new' ho57 (Kd.R_lt (ro_ HO_1087002.out))) bz_); have n3_ := Aside0.mk (bb_ BK1074.out hb); have n4_ := Aside0.mk (bb_ BK1075.out hb); have n5_ := Aside0.mk (bb_ BK1086.out hb); have n6_ := Aside0.mk (bs_ hb); clear HO_1087001; clear HO_1087002; clear BK1074; clear BK1075; clear BK1086; clear HB; have HO_1087001 := n0_; have HO_1087002 := n1_; have HO1099 := n2_; have BK1074 := n3_; have BK1075 := n4_; have BK1086 := n5_; have HB := n6_; clear n0_ n1_ n2_ n3_ n4_ n5_ n6_; clear hb ho57))
            go_loopg [15] k3 (fun kq v15 w' => ∃ (x14_4 : List Int) (x15_4 : Int), v15 = .int .i64 x15_4 ∧ Aside0 (spec_l04Pivot.l2 kq a1 (l0_1.length : Int) l9 x10_13 x13_3 x14_4 x15_4 l0_0 l0_1 (wrap64 (x10_13 * t1077)) x1087001_3 x1087002_3 = some (r1, r2, r3, r4)) ∧ Aside0 (kq ≤ k3) ∧ Aside0 (Kd.R (Kd.int .i64) 2 w' w.heap.size (fun k_ => some k_ ≠ (u1087002 : Value).ownBlock) v1098 x14_4) ∧ Aside0 (Kd.S (Kd.slice 2 (Kd.int .i64)) 33 w' w.heap.size (fun k_ => some k_ ≠ (v1098 : Value).ownBlock ∧ some k_ ≠ (u1087002 : Value).ownBlock) u1087001 x1087001_3) ∧ Aside0 (Kd.R (Kd.int .i64) 2 w' w.heap.size (fun k_ => some k_ ≠ (v1098 : Value).ownBlock) u1087002 x1087002_3) ∧ Aside0 (w'.heap[gb1074]? = some (.cells #[(.slice A0_0 l0_0.length c0_0), (.slice A0_1 l0_1.length c0_1)] 56 (0, 0))) ∧ Aside0 (w'.heap[gb1075]? = some (.cells #[.int .i64 0, (.slice none 0 0), (.slice none 0 0)] 86 (0, 0))) ∧ Aside0 (w'.heap[gb1086]? = some (.cells #[.int .i64 (wrap64 (x10_13 * t1077)), u1087001, u1087002] 86 (0, 0))) ∧ Aside0 (Below w.heap.size w w'))
            case atStart => exact ⟨(y1097), (0), (by first | rfl | (simp; done) | (simp [*]; done)), H', ⟨Nat.le_refl _⟩, ⟨by (with_reducible repeat (first | apply Kd.R_alloc | apply Kd.R_drewN | apply Kd.R_drew)); exact Kd.R_mono HO1099.out (fun _ hk => hk.2)⟩, ⟨by (with_reducible repeat (first | apply Kd.S_alloc | apply Kd.S_drewN | apply Kd.S_drew)); exact Kd.S_mono HO_1087001.out (fun _ hk => ⟨hk.2, hk.1⟩)⟩, ⟨by (with_reducible repeat (first | apply Kd.R_alloc | apply Kd.R_drewN | apply Kd.R_drew)); exact Kd.R_mono HO_1087002.out (fun _ hk => hk.2)⟩, ⟨bk_⟩, ⟨bk_⟩, ⟨bk_⟩, ⟨hb_⟩⟩
            case round =>
             clear H'
             try clear c1
             try clear p1
             try clear q1
             try clear hx1
             try clear c2
             try clear p2
             try clear c3
             try clear c5
             try clear c5b0
             try clear c5b1
             try clear p6
             try clear c8
             try clear c9
             try clear c10
             try clear p10
             try clear q10
             try clear hx10
             try clear c14
             try clear c19
             try clear c22
             try clear c22b0
             try clear c30
             try clear c31
             try clear c33
             try clear c33b0
             try clear c34
             try clear c34b0
             try clear c34b1
             try clear c35
             try clear c35b0
             try clear c35b1
             try clear c36
             try clear c37
             try clear c37b0
             try clear c38
             try clear c38b0
             try clear c39
             try clear c53
             try clear c53b0
             try clear c54
             try clear c54b0
             try clear c54b1
             try clear c55
             try clear c55b0
             try clear c55b1
             try clear hcz11_0
             try clear hcz11_1
             try clear hcz13_0
             try clear hcz13_1
             try clear hcz13_2
             try clear hcz20_0
             try clear hcz20_1
             try clear hcz32_0
             try clear hcz32_1
             try clear hcz32_2
             try clear hfz11_0
             try clear hfz11_1
             try clear hfz13_0
             try clear hfz13_1
             try clear hfz13_2
             try clear hfz20_0
             try clear hfz20_1
             try clear hfz32_0
             try clear hfz32_1
             try clear hfz32_2
             try clear hx1093_0
             try clear p1
             try clear p10
             try clear p1093
             try clear p2
             try clear p6
             try clear q1
             try clear q10
             try clear q1093
             obtain ⟨x14_4, x15_4, rfl, HA, HK4, HO_14, HO_1087001, HO_1087002, BK1074, BK1075, BK1086, HB⟩ := hrel
             cases gk with
             | zero => exact absurd HA.out (by simp [spec_l04Pivot.l2])
             | succ k4 =>
              have H := HA.out
              clear HA
              simp only [spec_l04Pivot.l2] at H
              by_cases c58 : x15_4 < (l0_1.length : Int)
              ·rw [if_pos c58] at H
               have c58b0 : decide (x15_4 < (l0_1.length : Int)) = true := decide_eq_true c58
               clear c58
               obtain ⟨ji59, hji59⟩ : ∃ j_ : Int, (IntKind.u64.wrap (x13_3)) = j_ := ⟨_, rfl⟩
               replace H : (if 0 ≤ (ji59) then (if (Go.bits .and .i64 (shr .i64 a1 (ji59)) 1) = 0 then (if 0 ≤ x15_4 then (if x15_4 < (l0_0.length : Int) then (if 0 ≤ x13_3 then (if x13_3 < ((rd_L1 l0_0 x15_4).length : Int) then (if x15_4 < (x14_4.length : Int) then (spec_l04Pivot.l2 k4 a1 (l0_1.length : Int) l9 x10_13 x13_3 (x14_4.set (x15_4 : Int).toNat (rd (rd_L1 l0_0 x15_4) x13_3)) (wrap64 (x15_4 + 1)) l0_0 l0_1 (wrap64 (x10_13 * t1077)) x1087001_3 x1087002_3) else (none)) else (none)) else (none)) else (none)) else (none)) else (spec_l04Pivot.l2 k4 a1 (l0_1.length : Int) l9 x10_13 x13_3 x14_4 (wrap64 (x15_4 + 1)) l0_0 l0_1 (wrap64 (x10_13 * t1077)) x1087001_3 x1087002_3)) else (none)) = some (r1, r2, r3, r4) := by first | (rw [hji59] at H; exact H) | (simp only [hji59] at H ⊢; exact H)
               by_cases c60 : 0 ≤ (ji59)
               ·rw [if_pos c60] at H
                have c60b0 := eq_true c60
                have c60b1 : decide (0 ≤ (ji59)) = true := decide_eq_true c60
                clear c60
                obtain ⟨ji61, hji61⟩ : ∃ j_ : Int, (shr .i64 a1 (ji59)) = j_ := ⟨_, rfl⟩
                replace H : (if (Go.bits .and .i64 (ji61) 1) = 0 then (if 0 ≤ x15_4 then (if x15_4 < (l0_0.length : Int) then (if 0 ≤ x13_3 then (if x13_3 < ((rd_L1 l0_0 x15_4).length : Int) then (if x15_4 < (x14_4.length : Int) then (spec_l04Pivot.l2 k4 a1 (l0_1.length : Int) l9 x10_13 x13_3 (x14_4.set (x15_4 : Int).toNat (rd (rd_L1 l0_0 x15_4) x13_3)) (wrap64 (x15_4 + 1)) l0_0 l0_1 (wrap64 (x10_13 * t1077)) x1087001_3 x1087002_3) else (none)) else (none)) else (none)) else (none)) else (none)) else (spec_l04Pivot.l2 k4 a1 (l0_1.length : Int) l9 x10_13 x13_3 x14_4 (wrap64 (x15_4 + 1)) l0_0 l0_1 (wrap64 (x10_13 * t1077)) x1087001_3 x1087002_3)) = some (r1, r2, r3, r4) := by first | (rw [hji61] at H; exact H) | (simp only [hji61] at H ⊢; exact H)
                have hji61_ : (a1 / 2 ^ min (ji59).toNat 64) = ji61 := hji61
                have hji61z : (ji59) ≤ 64 → (a1 / 2 ^ (ji59).toNat) = ji61 := shr_small hji61
                by_cases c62 : (Go.bits .and .i64 (ji61) 1) = 0
                ·rw [if_pos c62] at H
                 have c62b0 : ((Go.bits .and .i64 (ji61) 1) == 0) = true := beq_iff_eq.mpr c62
                 have c62b1 : ((Go.bits .and .i64 (ji61) 1) != 0) = false := bne_eq_false_iff_eq.mpr c62
                 clear c62
                 by_cases c63 : 0 ≤ x15_4
                 ·rw [if_pos c63] at H
                  have c63b0 : decide (0 ≤ x15_4) = true := decide_eq_true c63
                  clear c63
                  by_cases c64 : x15_4 < (l0_0.length : Int)
                  ·rw [if_pos c64] at H
                   have c64b0 : decide (x15_4 < (l0_0.length : Int)) = true := decide_eq_true c64
                   clear c64
                   by_cases c65 : 0 ≤ x13_3
                   ·rw [if_pos c65] at H
                    have c65b0 : decide (0 ≤ x13_3) = true := decide_eq_true c65
                    clear c65
                    by_cases c66 : x13_3 < ((rd_L1 l0_0 x15_4).length : Int)
                    ·rw [if_pos c66] at H
                     have c66b0 : decide (x13_3 < ((rd_L1 l0_0 x15_4).length : Int)) = true := decide_eq_true c66
                     clear c66
                     by_cases c67 : x15_4 < (x14_4.length : Int)
                     ·rw [if_pos c67] at H
                      have c67b0 : decide (x15_4 < (x14_4.length : Int)) = true := decide_eq_true c67
                      clear c67
                      obtain ⟨y1102, hy1102⟩ : ∃ y_ : List Int, y_ = (x14_4.set (x15_4 : Int).toNat (rd (rd_L1 l0_0 x15_4) x13_3)) := ⟨_, rfl⟩
                      replace H : (spec_l04Pivot.l2 k4 a1 (l0_1.length : Int) l9 x10_13 x13_3 y1102 (wrap64 (x15_4 + 1)) l0_0 l0_1 (wrap64 (x10_13 * t1077)) x1087001_3 x1087002_3) = some (r1, r2, r3, r4) := by first | (rw [hy1102]; with_reducible exact H) | (have H2_ := (Option.bind_some _ _).symm.trans H; rw [hy1102]; with_reducible exact H2_) | (have H2_ := (Option.bind_some _ _).symm.trans H; with_reducible exact H2_) | with_reducible exact H | (rw [hy1102]; exact H) | exact H
                      have Ny1102 := Aside0.mk hy1102
                      clear hy1102
                      have H' := Aside0.mk H
                      clear H
                      have hnb69 := NB1074_1075.out
                      have hnc69 := NB1075_1074.out
                      have hnb70 := NB1074_1086.out
                      have hnc70 := NB1086_1074.out
                      have hcz71_0 : wr.cell? ⟨gb1074, 0, none⟩ = some (.slice A0_0 l0_0.length c0_0) := (blk_cell BK1074.out 0).trans rfl
                      have hcz71_1 : wr.cell? ⟨gb1074, 1, none⟩ = some (.slice A0_1 l0_1.length c0_1) := (blk_cell BK1074.out 1).trans rfl
                      have hfz71_0 := blk_frozen BK1074.out 0
                      have hfz71_1 := blk_frozen BK1074.out 1
                      have p1100 : 0 ≤ (x15_4 : Int) := of_decide_eq_true (by first | (with_reducible assumption) | assumption)
                      have q1100 : x15_4 < (l0_0.length : Int) := of_decide_eq_true (by first | (with_reducible assumption) | assumption)
                      obtain ⟨ad1100, A1100_0, c1100_0, e1100, hx1100_0, hl1100_0, hi1100_0⟩ := at_L1 HR0_0.out x15_4 p1100 q1100
                      cases e1100
                      replace hx1100_0 := (HB.out.cell (World.block_lt_of_cell? w _ hx1100_0)).trans hx1100_0
                      have HR1100_0 := Aside0.mk hi1100_0
                      have HC1100_0 := Aside0.mk hl1100_0
                      clear hi1100_0 hl1100_0
                      replace p1100 := eq_true p1100
                      replace q1100 := eq_true q1100
                      have p1101 : 0 ≤ (x13_3 : Int) := of_decide_eq_true (by first | (with_reducible assumption) | assumption)
                      have q1101 : x13_3 < ((rd_L1 l0_0 x15_4).length : Int) := of_decide_eq_true (by first | (with_reducible assumption) | assumption)
                      obtain ⟨ad1101, e1101, hx1101_0⟩ := Kd.at_int HR1100_0.out x13_3 p1101 q1101
                      cases e1101
                      replace hx1101_0 := (HB.out.cell (World.block_lt_of_cell? w _ hx1101_0)).trans hx1101_0
                      replace p1101 := eq_true p1101
                      replace q1101 := eq_true q1101
                      have p68 : 0 ≤ (x15_4 : Int) := of_decide_eq_true (by first | (with_reducible assumption) | assumption)
                      have q68 : (x15_4 : Int) < ((x14_4.length : Int) : Int) := of_decide_eq_true (by first | (with_reducible assumption) | assumption)
                      obtain ⟨go68, co68, eo68, gb68, gl68, cl68, HG68⟩ := Kd.R_form HO_14.out (by omega)
                      (first | cases eo68 | (injection eo68 with ea_ en_ ec_; (first | subst ea_ | (injection ea_ with ea_; subst ea_)); subst ec_; clear en_))
                      have GB68 := Aside0.mk gb68
                      have GG68 := Aside0.mk HG68
                      clear gb68 gl68 HG68
                      obtain ⟨hx68_0, hf68_0⟩ := Kd.R_celln 0 HO_14.out (x15_4 : Int) p68 q68
                      replace p68 := eq_true p68
                      replace q68 := eq_true q68
                      have HP72 := Kd.R_putg HO_14.out (x15_4 : Int) (rd (rd_L1 l0_0 x15_4) x13_3)
                      go_wp2_with (first | ((with_reducible refine gate_store (t := 2) (p := 96) rfl ?_); refine store_event (t := 2) (p := 96) (v := ?vo_w73) (w1 := (wr.setCell ⟨go68, (x15_4 : Int).toNat, none⟩ (.int .i64 (rd (rd_L1 l0_0 x15_4) x13_3)))) ?hg ?ho ?hn ?hr ?_; (case ho => rfl); (case hg => rfl); (case hn => rfl); (case hr => first | (go_simp; done) | (go_simp; rfl)); intro w73 hw; have hg : wr.grownBy w73 (some go68) := (by rw [hw]; exact HP72.2); have hp_ : Kd.R (Kd.int .i64) 2 w73 w.heap.size (fun k_ => some k_ ≠ (u1087002 : Value).ownBlock) (.slice (some ⟨go68, 0, none⟩) x14_4.length co68) y1102 := (by rw [hw, Ny1102.out]; exact HP72.1); clear HP72; have n0_ := Aside0.mk (hp_); have n1_ := Aside0.mk (Kd.S_after (v := (.slice (some ⟨go68, 0, none⟩) x14_4.length co68)) (v1 := (.slice (some ⟨go68, 0, none⟩) x14_4.length co68)) (ok := (fun k_ => some k_ ≠ (u1087002 : Value).ownBlock)) (by (with_reducible repeat (first | apply Kd.S_alloc | apply Kd.S_drewN | apply Kd.S_drew)); exact Kd.S_mono HO_1087001.out (fun _ hk => ⟨hk.2, hk.1⟩)) hg (.inl rfl)); have n2_ := Aside0.mk (Kd.R_after (v := (.slice (some ⟨go68, 0, none⟩) x14_4.length co68)) (v1 := (.slice (some ⟨go68, 0, none⟩) x14_4.length co68)) (ok := (fun _ => True)) (by (with_reducible repeat (first | apply Kd.R_alloc | apply Kd.R_drewN | apply Kd.R_drew)); exact Kd.R_mono HO_1087002.out (fun _ hk => ⟨trivial, hk⟩)) hg (.inl rfl)); have n3_ := Aside0.mk (bg_ BK1074.out hg (Kd.R_ne HO_14.out BK1074.out (by decide))); have n4_ := Aside0.mk (bg_ BK1075.out hg (Kd.R_ne HO_14.out BK1075.out (by decide))); have n5_ := Aside0.mk (bg_ BK1086.out hg (Kd.R_ne HO_14.out BK1086.out (by decide))); have n6_ := Aside0.mk ((by rw [hw]; exact below_set (HB.out) GB68.out : Below w.heap.size w w73)); clear HO_14; clear HO_1087001; clear HO_1087002; clear BK1074; clear BK1075; clear BK1086; clear HB; have HO_14 := n0_; have HO_1087001 := n1_; have HO_1087002 := n2_; have BK1074 := n3_; have BK1075 := n4_; have BK1086 := n5_; have HB := n6_; clear n0_ n1_ n2_ n3_ n4_ n5_ n6_; clear hg hw hp_))
                      go_roundg k4
                      case measure => have := HJ13.out; have := HK2.out; have := HK3.out; have := HK4.out; omega
                      case rel => exact ⟨(y1102), (wrap64 (x15_4 + 1)), (by first | rfl | (simp; done) | (simp [*]; done)), H', ⟨by have := HJ13.out; have := HK2.out; have := HK3.out; have := HK4.out; omega⟩, ⟨ro_ HO_14.out⟩, ⟨by (with_reducible repeat (first | apply Kd.S_alloc | apply Kd.S_drewN | apply Kd.S_drew)); exact Kd.S_mono HO_1087001.out (fun _ hk => ⟨hk.2, hk.1⟩)⟩, ⟨by (with_reducible repeat (first | apply Kd.R_alloc | apply Kd.R_drewN | apply Kd.R_drew)); exact Kd.R_mono HO_1087002.out (fun _ hk => hk.2)⟩, ⟨bk_⟩, ⟨bk_⟩, ⟨bk_⟩, ⟨hb_⟩⟩
                     ·rw [if_neg c67] at H
                      exact absurd H (by simp)
                    ·rw [if_neg c66] at H
                     exact absurd H (by simp)
                   ·rw [if_neg c65] at H
                    exact absurd H (by simp)
                  ·rw [if_neg c64] at H
                   exact absurd H (by simp)
                 ·rw [if_neg c63] at H
                  exact absurd H (by simp)
                ·rw [if_neg c62] at H
                 have c62b0 : ((Go.bits .and .i64 (ji61) 1) == 0) = false := beq_eq_false_iff_ne.mpr c62
                 have c62b1 : ((Go.bits .and .i64 (ji61) 1) != 0) = true := bne_iff_ne.mpr c62
                 have H' := Aside0.mk H
                 clear H
                 go_wp2
                 go_roundg k4
                 case measure => have := HJ13.out; have := HK2.out; have := HK3.out; have := HK4.out; omega
                 case rel => exact ⟨(x14_4), (wrap64 (x15_4 + 1)), (by first | rfl | (simp; done) | (simp [*]; done)), H', ⟨by have := HJ13.out; have := HK2.out; have := HK3.out; have := HK4.out; omega⟩, ⟨ro_ HO_14.out⟩, ⟨so_ HO_1087001.out⟩, ⟨ro_ HO_1087002.out⟩, ⟨bk_⟩, ⟨bk_⟩, ⟨bk_⟩, ⟨hb_⟩⟩
               ·rw [if_neg c60] at H
                exact absurd H (by simp)
              ·rw [if_neg c58] at H
               have c58b0 : decide (x15_4 < (l0_1.length : Int)) = false := decide_eq_false c58
               clear c58
               try clear hji59
               try clear hji59_
               try clear hji59z
               try clear hji59u
               try clear hji59v
               try clear hji59y
               try clear hji59x
               try clear hji59w
               obtain ⟨ji74, hji74⟩ : ∃ j_ : Int, (IntKind.u64.wrap (x13_3)) = j_ := ⟨_, rfl⟩
               replace H : (if 0 ≤ (ji74) then (if (Go.bits .and .i64 (shr .i64 a1 (ji74)) 1) = 1 then (if 0 ≤ x13_3 then (if x13_3 < (x14_4.length : Int) then (spec_l04Pivot.j4 k4 a1 (l0_1.length : Int) l9 x10_13 x13_3 (x14_4.set (x13_3 : Int).toNat (-1)) l0_0 l0_1 (wrap64 (x10_13 * t1077)) x1087001_3 x1087002_3) else (none)) else (none)) else (spec_l04Pivot.j4 k4 a1 (l0_1.length : Int) l9 x10_13 x13_3 x14_4 l0_0 l0_1 (wrap64 (x10_13 * t1077)) x1087001_3 x1087002_3)) else (none)) = some (r1, r2, r3, r4) := by first | (rw [hji74] at H; exact H) | (simp only [hji74] at H ⊢; exact H)
               by_cases c75 : 0 ≤ (ji74)
               ·rw [if_pos c75] at H
                have c75b0 := eq_true c75
                have c75b1 : decide (0 ≤ (ji74)) = true := decide_eq_true c75
                clear c75
                obtain ⟨ji76, hji76⟩ : ∃ j_ : Int, (shr .i64 a1 (ji74)) = j_ := ⟨_, rfl⟩
                replace H : (if (Go.bits .and .i64 (ji76) 1) = 1 then (if 0 ≤ x13_3 then (if x13_3 < (x14_4.length : Int) then (spec_l04Pivot.j4 k4 a1 (l0_1.length : Int) l9 x10_13 x13_3 (x14_4.set (x13_3 : Int).toNat (-1)) l0_0 l0_1 (wrap64 (x10_13 * t1077)) x1087001_3 x1087002_3) else (none)) else (none)) else (spec_l04Pivot.j4 k4 a1 (l0_1.length : Int) l9 x10_13 x13_3 x14_4 l0_0 l0_1 (wrap64 (x10_13 * t1077)) x1087001_3 x1087002_3)) = some (r1, r2, r3, r4) := by first | (rw [hji76] at H; exact H) | (simp only [hji76] at H ⊢; exact H)
                have hji76_ : (a1 / 2 ^ min (ji74).toNat 64) = ji76 := hji76
                have hji76z : (ji74) ≤ 64 → (a1 / 2 ^ (ji74).toNat) = ji76 := shr_small hji76
                have HC77 := Aside0.mk H
                clear H
                go_upto_if 102 with (fail)
                go_cut [] (fun wc => ∃ (kq : Nat) (x14_76 : List Int), Aside0 (spec_l04Pivot.j4 kq a1 (l0_1.length : Int) l9 x10_13 x13_3 x14_76 l0_0 l0_1 (wrap64 (x10_13 * t1077)) x1087001_3 x1087002_3 = some (r1, r2, r3, r4)) ∧ Aside0 (kq ≤ k4) ∧ Aside0 (Kd.R (Kd.int .i64) 2 wc w.heap.size (fun k_ => some k_ ≠ (u1087002 : Value).ownBlock) v1098 x14_76) ∧ Aside0 (Kd.S (Kd.slice 2 (Kd.int .i64)) 33 wc w.heap.size (fun k_ => some k_ ≠ (v1098 : Value).ownBlock ∧ some k_ ≠ (u1087002 : Value).ownBlock) u1087001 x1087001_3) ∧ Aside0 (Kd.R (Kd.int .i64) 2 wc w.heap.size (fun k_ => some k_ ≠ (v1098 : Value).ownBlock) u1087002 x1087002_3) ∧ Aside0 (wc.heap[gb1074]? = some (.cells #[(.slice A0_0 l0_0.length c0_0), (.slice A0_1 l0_1.length c0_1)] 56 (0, 0))) ∧ Aside0 (wc.heap[gb1075]? = some (.cells #[.int .i64 0, (.slice none 0 0), (.slice none 0 0)] 86 (0, 0))) ∧ Aside0 (wc.heap[gb1086]? = some (.cells #[.int .i64 (wrap64 (x10_13 * t1077)), u1087001, u1087002] 86 (0, 0))) ∧ Aside0 (Below w.heap.size w wc))
                case first =>
                 have H := HC77.out
                 clear HC77
                 by_cases c78 : (Go.bits .and .i64 (ji76) 1) = 1
                 ·rw [if_pos c78] at H
                  have c78b0 : ((Go.bits .and .i64 (ji76) 1) == 1) = true := beq_iff_eq.mpr c78
                  have c78b1 : ((Go.bits .and .i64 (ji76) 1) != 1) = false := bne_eq_false_iff_eq.mpr c78
                  clear c78
                  (first | rw [c78b0] | (simp only [i64_w, i32_w]; rw [c78b0]) | skip)
                  by_cases c79 : 0 ≤ x13_3
                  ·rw [if_pos c79] at H
                   have c79b0 : decide (0 ≤ x13_3) = true := decide_eq_true c79
                   clear c79
                   by_cases c80 : x13_3 < (x14_4.length : Int)
                   ·rw [if_pos c80] at H
                    have c80b0 : decide (x13_3 < (x14_4.length : Int)) = true := decide_eq_true c80
                    clear c80
                    obtain ⟨y1103, hy1103⟩ : ∃ y_ : List Int, y_ = (x14_4.set (x13_3 : Int).toNat (-1)) := ⟨_, rfl⟩
                    replace H : (spec_l04Pivot.j4 k4 a1 (l0_1.length : Int) l9 x10_13 x13_3 y1103 l0_0 l0_1 (wrap64 (x10_13 * t1077)) x1087001_3 x1087002_3) = some (r1, r2, r3, r4) := by first | (rw [hy1103]; with_reducible exact H) | (have H2_ := (Option.bind_some _ _).symm.trans H; rw [hy1103]; with_reducible exact H2_) | (have H2_ := (Option.bind_some _ _).symm.trans H; with_reducible exact H2_) | with_reducible exact H | (rw [hy1103]; exact H) | exact H
                    have Ny1103 := Aside0.mk hy1103
                    clear hy1103
                    have H' := Aside0.mk H
                    clear H
                    have p81 : 0 ≤ (x13_3 : Int) := of_decide_eq_true (by first | (with_reducible assumption) | assumption)
                    have q81 : (x13_3 : Int) < ((x14_4.length : Int) : Int) := of_decide_eq_true (by first | (with_reducible assumption) | assumption)
                    obtain ⟨go81, co81, eo81, gb81, gl81, cl81, HG81⟩ := Kd.R_form HO_14.out (by omega)
                    (first | cases eo81 | (injection eo81 with ea_ en_ ec_; (first | subst ea_ | (injection ea_ with ea_; subst ea_)); subst ec_; clear en_))
                    have GB81 := Aside0.mk gb81
                    have GG81 := Aside0.mk HG81
                    clear gb81 gl81 HG81
                    obtain ⟨hx81_0, hf81_0⟩ := Kd.R_celln 0 HO_14.out (x13_3 : Int) p81 q81
                    replace p81 := eq_true p81
                    replace q81 := eq_true q81
                    have HP82 := Kd.R_putg HO_14.out (x13_3 : Int) (-1)
                    go_wp2_with (first | ((with_reducible refine gate_store (t := 2) (p := 105) rfl ?_); refine store_event (t := 2) (p := 105) (v := ?vo_w83) (w1 := (wr.setCell ⟨go81, (x13_3 : Int).toNat, none⟩ (.int .i64 (-1)))) ?hg ?ho ?hn ?hr ?_; (case ho => rfl); (case hg => rfl); (case hn => rfl); (case hr => first | (go_simp; done) | (go_simp; rfl)); intro w83 hw; have hg : wr.grownBy w83 (some go81) := (by rw [hw]; exact HP82.2); have hp_ : Kd.R (Kd.int .i64) 2 w83 w.heap.size (fun k_ => some k_ ≠ (u1087002 : Value).ownBlock) (.slice (some ⟨go81, 0, none⟩) x14_4.length co81) y1103 := (by rw [hw, Ny1103.out]; exact HP82.1); clear HP82; have n0_ := Aside0.mk (hp_); have n1_ := Aside0.mk (Kd.S_after (v := (.slice (some ⟨go81, 0, none⟩) x14_4.length co81)) (v1 := (.slice (some ⟨go81, 0, none⟩) x14_4.length co81)) (ok := (fun k_ => some k_ ≠ (u1087002 : Value).ownBlock)) (by (with_reducible repeat (first | apply Kd.S_alloc | apply Kd.S_drewN | apply Kd.S_drew)); exact Kd.S_mono HO_1087001.out (fun _ hk => ⟨hk.2, hk.1⟩)) hg (.inl rfl)); have n2_ := Aside0.mk (Kd.R_after (v := (.slice (some ⟨go81, 0, none⟩) x14_4.length co81)) (v1 := (.slice (some ⟨go81, 0, none⟩) x14_4.length co81)) (ok := (fun _ => True)) (by (with_reducible repeat (first | apply Kd.R_alloc | apply Kd.R_drewN | apply Kd.R_drew)); exact Kd.R_mono HO_1087002.out (fun _ hk => ⟨trivial, hk⟩)) hg (.inl rfl)); have n3_ := Aside0.mk (bg_ BK1074.out hg (Kd.R_ne HO_14.out BK1074.out (by decide))); have n4_ := Aside0.mk (bg_ BK1075.out hg (Kd.R_ne HO_14.out BK1075.out (by decide))); have n5_ := Aside0.mk (bg_ BK1086.out hg (Kd.R_ne HO_14.out BK1086.out (by decide))); have n6_ := Aside0.mk ((by rw [hw]; exact below_set (HB.out) GB81.out : Below w.heap.size w w83)); clear HO_14; clear HO_1087001; clear HO_1087002; clear BK1074; clear BK1075; clear BK1086; clear HB; have HO_14 := n0_; have HO_1087001 := n1_; have HO_1087002 := n2_; have BK1074 := n3_; have BK1075 := n4_; have BK1086 := n5_; have HB := n6_; clear n0_ n1_ n2_ n3_ n4_ n5_ n6_; clear hg hw hp_))
                    go_meet
                    case rel => exact ⟨_, (y1103), H', ⟨by have := HJ13.out; have := HK2.out; have := HK3.out; have := HK4.out; first | omega | exact Nat.le_refl _⟩, ⟨ro_ HO_14.out⟩, ⟨by (with_reducible repeat (first | apply Kd.S_alloc | apply Kd.S_drewN | apply Kd.S_drew)); exact Kd.S_mono HO_1087001.out (fun _ hk => ⟨hk.2, hk.1⟩)⟩, ⟨by (with_reducible repeat (first | apply Kd.R_alloc | apply Kd.R_drewN | apply Kd.R_drew)); exact Kd.R_mono HO_1087002.out (fun _ hk => hk.2)⟩, ⟨bk_⟩, ⟨bk_⟩, ⟨bk_⟩, ⟨hb_⟩⟩
                   ·rw [if_neg c80] at H
                    exact absurd H (by simp)
                  ·rw [if_neg c79] at H
                   exact absurd H (by simp)
                 ·rw [if_neg c78] at H
                  have c78b0 : ((Go.bits .and .i64 (ji76) 1) == 1) = false := beq_eq_false_iff_ne.mpr c78
                  have c78b1 : ((Go.bits .and .i64 (ji76) 1) != 1) = true := bne_iff_ne.mpr c78
                  (first | rw [c78b0] | (simp only [i64_w, i32_w]; rw [c78b0]) | skip)
                  have H' := Aside0.mk H
                  clear H
                  go_wp2
                  go_meet
                  case rel => exact ⟨_, (x14_4), H', ⟨by have := HJ13.out; have := HK2.out; have := HK3.out; have := HK4.out; first | omega | exact Nat.le_refl _⟩, ⟨ro_ HO_14.out⟩, ⟨so_ HO_1087001.out⟩, ⟨ro_ HO_1087002.out⟩, ⟨bk_⟩, ⟨bk_⟩, ⟨bk_⟩, ⟨hb_⟩⟩
                case rest =>
                 clear HC77
                 try clear c1
                 try clear p1
                 try clear q1
                 try clear hx1
                 try clear c2
                 try clear p2
                 try clear c3
                 try clear c5
                 try clear c5b0
                 try clear c5b1
                 try clear c6
                 try clear p6
                 try clear q6
                 try clear hx6
                 try clear hf6
                 try clear c7
                 try clear c8
                 try clear p8
                 try clear q8
                 try clear hx8
                 try clear hf8
                 try clear c9
                 try clear c10
                 try clear p10
                 try clear q10
                 try clear hx10
                 try clear c11
                 try clear p11
                 try clear q11
                 try clear hx11
                 try clear c14
                 try clear c19
                 try clear c22
                 try clear c22b0
                 try clear c30
                 try clear c31
                 try clear c33
                 try clear c33b0
                 try clear c34
                 try clear c34b0
                 try clear c34b1
                 try clear c35
                 try clear c35b0
                 try clear c35b1
                 try clear c36
                 try clear c37
                 try clear c37b0
                 try clear c38
                 try clear c38b0
                 try clear c39
                 try clear c53
                 try clear c53b0
                 try clear c54
                 try clear c54b0
                 try clear c54b1
                 try clear c55
                 try clear c55b0
                 try clear c55b1
                 try clear c58
                 try clear c58b0
                 try clear c60
                 try clear c60b0
                 try clear c60b1
                 try clear c62
                 try clear c62b0
                 try clear c62b1
                 try clear c63
                 try clear c63b0
                 try clear c64
                 try clear c64b0
                 try clear p64
                 try clear c65
                 try clear c65b0
                 try clear c66
                 try clear c66b0
                 try clear c67
                 try clear c67b0
                 try clear p68
                 try clear q68
                 try clear hx68
                 try clear hf68
                 try clear c69
                 try clear c70
                 try clear c75
                 try clear c75b0
                 try clear c75b1
                 try clear c78
                 try clear c78b0
                 try clear c78b1
                 try clear c79
                 try clear c79b0
                 try clear c80
                 try clear c80b0
                 try clear p81
                 try clear q81
                 try clear hx81
                 try clear hf81
                 try clear hcz11_0
                 try clear hcz11_1
                 try clear hcz13_0
                 try clear hcz13_1
                 try clear hcz13_2
                 try clear hcz20_0
                 try clear hcz20_1
                 try clear hcz32_0
                 try clear hcz32_1
                 try clear hcz32_2
                 try clear hcz71_0
                 try clear hcz71_1
                 try clear hfz11_0
                 try clear hfz11_1
                 try clear hfz13_0
                 try clear hfz13_1
                 try clear hfz13_2
                 try clear hfz20_0
                 try clear hfz20_1
                 try clear hfz32_0
                 try clear hfz32_1
                 try clear hfz32_2
                 try clear hfz71_0
                 try clear hfz71_1
                 try clear hx1093_0
                 try clear hx1100_0
                 try clear hx1101_0
                 try clear hx68_0
                 try clear hx81_0
                 try clear p1
                 try clear p10
                 try clear p1093
                 try clear p1100
                 try clear p1101
                 try clear p2
                 try clear p6
                 try clear p68
                 try clear p81
                 try clear q1
                 try clear q10
                 try clear q1093
                 try clear q1100
                 try clear q1101
                 try clear q68
                 try clear q81
                 obtain ⟨kq, x14_76, HA, HJ76, HO_14, HO_1087001, HO_1087002, BK1074, BK1075, BK1086, HB⟩ := hcut
                 cases kq with
                 | zero => exact absurd HA.out (by simp [spec_l04Pivot.j4])
                 | succ kj76 =>
                  have H := HA.out
                  clear HA
                  simp only [spec_l04Pivot.j4] at H
                  replace H := Option.bind_eq_some_iff.mp H
                  obtain ⟨⟨t1104, t1105⟩, A840, H⟩ := H
                  replace H : (spec_l04Pivot.l3 kj76 a1 (l0_1.length : Int) l9 x10_13 x13_3 t1104 0 l0_0 l0_1 (wrap64 (x10_13 * t1077)) x1087001_3 x1087002_3) = some (r1, r2, r3, r4) := H
                  have A84 := Aside0.mk A840
                  clear A840
                  have H' := Aside0.mk H
                  clear H
                  obtain ⟨Ao85, co85, eo85⟩ := Kd.R_slice HO_14.out
                  subst eo85
                  go_wp2_with (first | ((with_reducible refine gate_callee (f := 143) rfl ?_); refine goesL_ (some 109) rfl rfl Try.func143 (by kernel_rfl) rfl #[.slice A9 l9.length c9, .slice Ao85 x14_76.length co85] rfl (by (try simp only [List.map_toArray, List.map_cons, List.map_nil]); first | done | rfl | (simp only [List.length_drop, List.length_take]; rfl)) ?_; (with_reducible refine (spec_l01Solve.calls kj76 _ _ l9 _ _ x14_76 t1104 t1105 _ ?side1 ?side2 ?side3 ?side4 A84.out).mono ?_); (case side1 => exact cb_ HR9.out HB.out); (case side2 => exact HC9.out); (case side3 => repeat (first | exact (Kd.R_reads' HO_14.out).2.2 | (with_reducible refine Kd.C_alloc ?_ _) | (with_reducible refine Kd.C_drewN ?_ _) | (with_reducible refine Kd.C_drew ?_))); (case side4 => exact (Kd.R_reads' HO_14.out).2.1); rintro e w86 ⟨v1106, rfl, ho0, hb⟩; refine ⟨_, rfl, ?_⟩; have n0_ := Aside0.mk (Kd.R_elder' (ro_ HO_14.out) (Kd.R_base ho0) hb); have n1_ := Aside0.mk (Kd.S_elder' (so_ HO_1087001.out) (Kd.R_base ho0) hb); have n2_ := Aside0.mk (Kd.R_elder' (ro_ HO_1087002.out) (Kd.R_base ho0) hb); have n3_ := Aside0.mk (Kd.R_lower (Kd.R_new' (Kd.R_new' ho0 (Kd.R_lt (ro_ HO_14.out))) (Kd.R_lt (ro_ HO_1087002.out))) bz_); have n4_ := Aside0.mk (bb_ BK1074.out hb); have n5_ := Aside0.mk (bb_ BK1075.out hb); have n6_ := Aside0.mk (bb_ BK1086.out hb); have n7_ := Aside0.mk (bs_ hb); clear HO_14; clear HO_1087001; clear HO_1087002; clear BK1074; clear BK1075; clear BK1086; clear HB; have HO_14 := n0_; have HO_1087001 := n1_; have HO_1087002 := n2_; have HO1107 := n3_; have BK1074 := n4_; have BK1075 := n5_; have BK1086 := n6_; have HB := n7_; clear n0_ n1_ n2_ n3_ n4_ n5_ n6_ n7_; (try clear hb); (try clear hb2); (try clear hk); (try clear hi); (try clear ho0)))
                  go_loopg [18] kj76 (fun kq v18 w' => ∃ (x16_6 : List Int) (x18_6 : Int) (x1087001_6 : List (List Int)) (x1087002_6 : List Int) (u1087001 : Value) (u1087002 : Value), v18 = .int .i64 x18_6 ∧ Aside0 (spec_l04Pivot.l3 kq a1 (l0_1.length : Int) l9 x10_13 x13_3 x16_6 x18_6 l0_0 l0_1 (wrap64 (x10_13 * t1077)) x1087001_6 x1087002_6 = some (r1, r2, r3, r4)) ∧ Aside0 (kq ≤ kj76) ∧ Aside0 (Kd.R (Kd.int .i64) 2 w' w.heap.size (fun k_ => some k_ ≠ (u1087002 : Value).ownBlock) v1106 x16_6) ∧ Aside0 (Kd.S (Kd.slice 2 (Kd.int .i64)) 33 w' w.heap.size (fun k_ => some k_ ≠ (v1106 : Value).ownBlock ∧ some k_ ≠ (u1087002 : Value).ownBlock) u1087001 x1087001_6) ∧ Aside0 (Kd.R (Kd.int .i64) 2 w' w.heap.size (fun k_ => some k_ ≠ (v1106 : Value).ownBlock) u1087002 x1087002_6) ∧ Aside0 (w'.heap[gb1074]? = some (.cells #[(.slice A0_0 l0_0.length c0_0), (.slice A0_1 l0_1.length c0_1)] 56 (0, 0))) ∧ Aside0 (w'.heap[gb1075]? = some (.cells #[.int .i64 0, (.slice none 0 0), (.slice none 0 0)] 86 (0, 0))) ∧ Aside0 (w'.heap[gb1086]? = some (.cells #[.int .i64 (wrap64 (x10_13 * t1077)), u1087001, u1087002] 86 (0, 0))) ∧ Aside0 (Below w.heap.size w w'))
                  case atStart => exact ⟨(t1104), (0), (x1087001_3), (x1087002_3), (u1087001), (u1087002), (by first | rfl | (simp; done) | (simp [*]; done)), H', ⟨Nat.le_refl _⟩, ⟨by (with_reducible repeat (first | apply Kd.R_alloc | apply Kd.R_drewN | apply Kd.R_drew)); exact Kd.R_mono HO1107.out (fun _ hk => hk.2)⟩, ⟨by (with_reducible repeat (first | apply Kd.S_alloc | apply Kd.S_drewN | apply Kd.S_drew)); exact Kd.S_mono HO_1087001.out (fun _ hk => ⟨hk.2, hk.1.2⟩)⟩, ⟨by (with_reducible repeat (first | apply Kd.R_alloc | apply Kd.R_drewN | apply Kd.R_drew)); exact Kd.R_mono HO_1087002.out (fun _ hk => hk.2)⟩, ⟨bk_⟩, ⟨bk_⟩, ⟨bk_⟩, ⟨hb_⟩⟩
                  case round =>
                   clear H'
                   try clear c1
                   try clear p1
                   try clear q1
                   try clear hx1
                   try clear c2
                   try clear p2
                   try clear c3
                   try clear c5
                   try clear c5b0
                   try clear c5b1
                   try clear c6
                   try clear p6
                   try clear q6
                   try clear hx6
                   try clear hf6
                   try clear c7
                   try clear c8
                   try clear p8
                   try clear q8
                   try clear hx8
                   try clear hf8
                   try clear c9
                   try clear c10
                   try clear p10
                   try clear q10
                   try clear hx10
                   try clear c11
                   try clear p11
                   try clear q11
                   try clear hx11
                   try clear c14
                   try clear c19
                   try clear c22
                   try clear c22b0
                   try clear c30
                   try clear c31
                   try clear c33
                   try clear c33b0
                   try clear c34
                   try clear c34b0
                   try clear c34b1
                   try clear c35
                   try clear c35b0
                   try clear c35b1
                   try clear c36
                   try clear c37
                   try clear c37b0
                   try clear c38
                   try clear c38b0
                   try clear c39
                   try clear c53
                   try clear c53b0
                   try clear c54
                   try clear c54b0
                   try clear c54b1
                   try clear c55
                   try clear c55b0
                   try clear c55b1
                   try clear c58
                   try clear c58b0
                   try clear c60
                   try clear c60b0
                   try clear c60b1
                   try clear c62
                   try clear c62b0
                   try clear c62b1
                   try clear c63
                   try clear c63b0
                   try clear c64
                   try clear c64b0
                   try clear p64
                   try clear c65
                   try clear c65b0
                   try clear c66
                   try clear c66b0
                   try clear c67
                   try clear c67b0
                   try clear p68
                   try clear q68
                   try clear hx68
                   try clear hf68
                   try clear c69
                   try clear c70
                   try clear c75
                   try clear c75b0
                   try clear c75b1
                   try clear c78
                   try clear c78b0
                   try clear c78b1
                   try clear c79
                   try clear c79b0
                   try clear c80
                   try clear c80b0
                   try clear p81
                   try clear q81
                   try clear hx81
                   try clear hf81
                   try clear hcz11_0
                   try clear hcz11_1
                   try clear hcz13_0
                   try clear hcz13_1
                   try clear hcz13_2
                   try clear hcz20_0
                   try clear hcz20_1
                   try clear hcz32_0
                   try clear hcz32_1
                   try clear hcz32_2
                   try clear hcz71_0
                   try clear hcz71_1
                   try clear hfz11_0
                   try clear hfz11_1
                   try clear hfz13_0
                   try clear hfz13_1
                   try clear hfz13_2
                   try clear hfz20_0
                   try clear hfz20_1
                   try clear hfz32_0
                   try clear hfz32_1
                   try clear hfz32_2
                   try clear hfz71_0
                   try clear hfz71_1
                   try clear hx1093_0
                   try clear hx1100_0
                   try clear hx1101_0
                   try clear hx68_0
                   try clear hx81_0
                   try clear p1
                   try clear p10
                   try clear p1093
                   try clear p11
                   try clear p1100
                   try clear p1101
                   try clear p2
                   try clear p6
                   try clear p64
                   try clear p68
                   try clear p8
                   try clear p81
                   try clear q1
                   try clear q10
                   try clear q1093
                   try clear q11
                   try clear q1100
                   try clear q1101
                   try clear q6
                   try clear q68
                   try clear q8
                   try clear q81
                   obtain ⟨x16_6, x18_6, x1087001_6, x1087002_6, u1087001, u1087002, rfl, HA, HK6, HO_16, HO_1087001, HO_1087002, BK1074, BK1075, BK1086, HB⟩ := hrel
                   cases gk with
                   | zero => exact absurd HA.out (by simp [spec_l04Pivot.l3])
                   | succ k6 =>
                    have H := HA.out
                    clear HA
                    simp only [spec_l04Pivot.l3] at H
                    by_cases c87 : x18_6 < (l0_1.length : Int)
                    ·rw [if_pos c87] at H
                     have c87b0 : decide (x18_6 < (l0_1.length : Int)) = true := decide_eq_true c87
                     clear c87
                     by_cases c88 : 0 ≤ x18_6
                     ·rw [if_pos c88] at H
                      have c88b0 : decide (0 ≤ x18_6) = true := decide_eq_true c88
                      clear c88
                      by_cases c89 : x18_6 < (x1087001_6.length : Int)
                      ·rw [if_pos c89] at H
                       have c89b0 : decide (x18_6 < (x1087001_6.length : Int)) = true := decide_eq_true c89
                       clear c89
                       by_cases c90 : x18_6 < (x16_6.length : Int)
                       ·rw [if_pos c90] at H
                        have c90b0 : decide (x18_6 < (x16_6.length : Int)) = true := decide_eq_true c90
                        clear c90
                        by_cases c91 : 0 ≤ x13_3
                        ·rw [if_pos c91] at H
                         have c91b0 : decide (0 ≤ x13_3) = true := decide_eq_true c91
                         clear c91
                         by_cases c92 : x13_3 < ((rd_L1 x1087001_6 x18_6).length : Int)
                         ·rw [if_pos c92] at H
                          have c92b0 : decide (x13_3 < ((rd_L1 x1087001_6 x18_6).length : Int)) = true := decide_eq_true c92
                          clear c92
                          obtain ⟨y1110, hy1110⟩ : ∃ y_ : List Int, y_ = ((rd_L1 x1087001_6 x18_6).set (x13_3 : Int).toNat (wrap64 (x10_13 * (rd x16_6 x18_6)))) := ⟨_, rfl⟩
                          replace H : (spec_l04Pivot.l3 k6 a1 (l0_1.length : Int) l9 x10_13 x13_3 x16_6 (wrap64 (x18_6 + 1)) l0_0 l0_1 (wrap64 (x10_13 * t1077)) (x1087001_6.set (x18_6 : Int).toNat y1110) x1087002_6) = some (r1, r2, r3, r4) := by first | (rw [hy1110]; with_reducible exact H) | (have H2_ := (Option.bind_some _ _).symm.trans H; rw [hy1110]; with_reducible exact H2_) | (have H2_ := (Option.bind_some _ _).symm.trans H; with_reducible exact H2_) | with_reducible exact H | (rw [hy1110]; exact H) | exact H
                          have Ny1110 := Aside0.mk hy1110
                          clear hy1110
                          obtain ⟨y1112, hy1112⟩ : ∃ y_ : List (List Int), y_ = (x1087001_6.set (x18_6 : Int).toNat y1110) := ⟨_, rfl⟩
                          replace H : (spec_l04Pivot.l3 k6 a1 (l0_1.length : Int) l9 x10_13 x13_3 x16_6 (wrap64 (x18_6 + 1)) l0_0 l0_1 (wrap64 (x10_13 * t1077)) y1112 x1087002_6) = some (r1, r2, r3, r4) := by first | (rw [hy1112]; with_reducible exact H) | (have H2_ := (Option.bind_some _ _).symm.trans H; rw [hy1112]; with_reducible exact H2_) | (have H2_ := (Option.bind_some _ _).symm.trans H; with_reducible exact H2_) | with_reducible exact H | (rw [hy1112]; exact H) | exact H
                          have Ny1112 := Aside0.mk hy1112
                          clear hy1112
                          have H' := Aside0.mk H
                          clear H
                          have hnb94 := NB1086_1074.out
                          have hnc94 := NB1074_1086.out
                          have hnb95 := NB1086_1075.out
                          have hnc95 := NB1075_1086.out
                          have hcz96_0 : wr.cell? ⟨gb1086, 0, none⟩ = some (.int .i64 (wrap64 (x10_13 * t1077))) := (blk_cell BK1086.out 0).trans rfl
                          have hcz96_1 : wr.cell? ⟨gb1086, 1, none⟩ = some (u1087001) := (blk_cell BK1086.out 1).trans rfl
                          have hcz96_2 : wr.cell? ⟨gb1086, 2, none⟩ = some (u1087002) := (blk_cell BK1086.out 2).trans rfl
                          have hfz96_0 := blk_frozen BK1086.out 0
                          have hfz96_1 := blk_frozen BK1086.out 1
                          have hfz96_2 := blk_frozen BK1086.out 2
                          obtain ⟨Ao97, co97, eo97⟩ := Kd.S_slice HO_1087001.out
                          subst eo97
                          have p1108 : 0 ≤ (x18_6 : Int) := of_decide_eq_true (by first | (with_reducible assumption) | assumption)
                          have q1108 : x18_6 < (x1087001_6.length : Int) := of_decide_eq_true (by first | (with_reducible assumption) | assumption)
                          obtain ⟨ad1108, A1108_0, c1108_0, e1108, hx1108_0, hl1108_0, hi1108_0⟩ := at_L1 (Kd.S_reads' HO_1087001.out).2.2 x18_6 p1108 q1108
                          cases e1108
                          obtain ⟨ce1108, hce1108, hMe1108, hcc1108⟩ := Kd.S_get HO_1087001.out [] x18_6 p1108 (by first | exact q1108 | exact of_decide_eq_true (by first | (with_reducible assumption) | assumption) | (have e_ := (Kd.S_reads' HO_1087001.out).1; omega))
                          obtain ⟨ve1108_0, rfl, ge1108_0⟩ := hMe1108
                          have hv1108_0 := hcc1108 0 _ rfl
                          rw [Nat.add_zero, show ((Kd.slice 2 (Kd.int .i64))).sz = 1 from rfl, Nat.mul_one] at hv1108_0
                          replace hv1108_0 := Option.some.inj (hv1108_0.symm.trans hx1108_0)
                          rw [hv1108_0] at ge1108_0
                          have HL1108_0 := Aside0.mk (show Kd.R (Kd.int .i64) 2 _ _ _ _ (rd_L1 x1087001_6 x18_6) from ge1108_0)
                          clear hv1108_0 ge1108_0
                          have HX1108_0 := Aside0.mk hx1108_0
                          clear hcc1108 hce1108
                          have HR1108_0 := Aside0.mk hi1108_0
                          have HC1108_0 := Aside0.mk hl1108_0
                          clear hi1108_0 hl1108_0
                          replace p1108 := eq_true p1108
                          replace q1108 := eq_true q1108
                          obtain ⟨Ao98, co98, eo98⟩ := Kd.R_slice HO_16.out
                          subst eo98
                          have p1109 : 0 ≤ (x18_6 : Int) := of_decide_eq_true (by first | (with_reducible assumption) | assumption)
                          have q1109 : x18_6 < (x16_6.length : Int) := of_decide_eq_true (by first | (with_reducible assumption) | assumption)
                          obtain ⟨ad1109, e1109, hx1109_0⟩ := Kd.at_int (Kd.R_reads' HO_16.out).2.2 x18_6 p1109 q1109
                          cases e1109
                          replace p1109 := eq_true p1109
                          replace q1109 := eq_true q1109
                          have p93 : 0 ≤ (x13_3 : Int) := of_decide_eq_true (by first | (with_reducible assumption) | assumption)
                          have q93 : (x13_3 : Int) < (((rd_L1 x1087001_6 x18_6).length : Int) : Int) := of_decide_eq_true (by first | (with_reducible assumption) | assumption)
                          obtain ⟨go93, co93, eo93, gb93, gl93, cl93, HG93⟩ := Kd.R_form HL1108_0.out (by omega)
                          (first | cases eo93 | (injection eo93 with ea_ en_ ec_; (first | subst ea_ | (injection ea_ with ea_; subst ea_)); subst ec_; clear en_))
                          have GB93 := Aside0.mk gb93
                          have GG93 := Aside0.mk HG93
                          clear gb93 gl93 HG93
                          obtain ⟨hx93_0, hf93_0⟩ := Kd.R_celln 0 HL1108_0.out (x13_3 : Int) p93 q93
                          replace p93 := eq_true p93
                          replace q93 := eq_true q93
                          have hq99 : (x18_6 : Int) < (x1087001_6.length : Int) := (by have h_ : (x18_6 : Int) < ((x1087001_6.length : Int) : Int) := of_decide_eq_true (by first | (with_reducible assumption) | assumption); first | exact h_ | (have e_ := (Kd.S_reads' HO_1087001.out).1; omega) | simpa only [List.length_set, List.length_set] using h_)
                          obtain ⟨oki99, ce99, hcl99, hM99, hcc99, hok99, hbk99⟩ := Kd.S_borrow HO_1087001.out [] (x18_6 : Int) (of_decide_eq_true (by first | (with_reducible assumption) | assumption)) hq99
                          obtain ⟨ve99_0, rfl, ge99_0⟩ := hM99
                          have hv99 := hcc99 0 _ rfl
                          rw [Nat.add_zero, show ((Kd.slice 2 (Kd.int .i64))).sz = 1 from rfl, Nat.mul_one] at hv99
                          replace hv99 := Option.some.inj (hv99.symm.trans HX1108_0.out)
                          subst hv99
                          clear hcc99 hcl99
                          replace ge99_0 := (show Kd.R (Kd.int .i64) 2 _ _ _ _ (rd_L1 x1087001_6 x18_6) from ge99_0)
                          have HP99 := Kd.R_putg ge99_0 (x13_3 : Int) (wrap64 (x10_13 * (rd x16_6 x18_6)))
                          go_wp2_with (first | ((with_reducible refine gate_store (t := 2) (p := 130) rfl ?_); refine store_event (t := 2) (p := 130) (v := ?vo_w100) (w1 := (wr.setCell ⟨go93, (x13_3 : Int).toNat, none⟩ (.int .i64 (wrap64 (x10_13 * (rd x16_6 x18_6)))))) ?hg ?ho ?hn ?hr ?_; (case ho => rfl); (case hg => rfl); (case hn => rfl); (case hr => first | (go_simp; done) | (go_simp; rfl)); intro w100 hw; have hg : wr.grownBy w100 (some go93) := (by rw [hw]; exact HP99.2); have hz_ : Kd.R (Kd.int .i64) 2 w100 w.heap.size oki99 (.slice (some ⟨go93, 0, none⟩) (rd_L1 x1087001_6 x18_6).length c1108_0) y1110 := (by rw [hw, Ny1110.out]; exact HP99.1); have hp_ : Kd.S (Kd.slice 2 (Kd.int .i64)) 33 w100 w.heap.size (fun k_ => some k_ ≠ (.slice (some ad1109) x16_6.length co98 : Value).ownBlock ∧ some k_ ≠ (u1087002 : Value).ownBlock) (.slice (some ad1108) x1087001_6.length co97) y1112 := (by rw [Ny1112.out]; exact hbk99 hg (fun k_ e_ => by injection e_ with e_; subst e_; exact ge99_0.1 _ rfl) (Kd.M_row hz_)); have hm_ := Kd.R_mono hz_ hok99; clear HP99 hbk99; have n0_ := Aside0.mk (Kd.R_grown1 (ro_ HO_16.out) rfl hg ((HL1108_0.out.1 _ rfl).1.1)); have n1_ := Aside0.mk (hp_); have n2_ := Aside0.mk (Kd.R_grown1 (ro_ HO_1087002.out) rfl hg ((HL1108_0.out.1 _ rfl).1.2)); have n3_ := Aside0.mk (bg_ BK1074.out hg (Kd.R_ne HL1108_0.out BK1074.out (by decide))); have n4_ := Aside0.mk (bg_ BK1075.out hg (Kd.R_ne HL1108_0.out BK1075.out (by decide))); have n5_ := Aside0.mk (bg_ BK1086.out hg (Kd.R_ne HL1108_0.out BK1086.out (by decide))); have n6_ := Aside0.mk ((by rw [hw]; exact below_set (HB.out) GB93.out : Below w.heap.size w w100)); have n7_ := Aside0.mk (hm_); have n8_ := Aside0.mk ((Kd.R_reads' hm_).2.1); clear HO_16; clear HO_1087001; clear HO_1087002; clear BK1074; clear BK1075; clear BK1086; clear HB; clear HL1108_0; have HO_16 := n0_; have HO_1087001 := n1_; have HO_1087002 := n2_; have BK1074 := n3_; have BK1075 := n4_; have BK1086 := n5_; have HB := n6_; have HL1113 := n7_; have HC1111 := n8_; clear n0_ n1_ n2_ n3_ n4_ n5_ n6_ n7_ n8_; clear hg hw hp_ hz_ hm_ hok99))
                          go_roundg k6
                          case measure => have := HJ13.out; have := HK2.out; have := HK3.out; have := HK4.out; have := HJ76.out; have := HK6.out; omega
                          case rel => exact ⟨(x16_6), (wrap64 (x18_6 + 1)), (y1112), (x1087002_6), (.slice (some ad1108) x1087001_6.length co97), (u1087002), (by first | rfl | (simp; done) | (simp [*]; done)), H', ⟨by have := HJ13.out; have := HK2.out; have := HK3.out; have := HK4.out; have := HJ76.out; have := HK6.out; omega⟩, ⟨ro_ HO_16.out⟩, ⟨so_ HO_1087001.out⟩, ⟨ro_ HO_1087002.out⟩, ⟨bk_⟩, ⟨bk_⟩, ⟨bk_⟩, ⟨hb_⟩⟩
                         ·rw [if_neg c92] at H
                          exact absurd H (by simp)
                        ·rw [if_neg c91] at H
                         exact absurd H (by simp)
                       ·rw [if_neg c90] at H
                        exact absurd H (by simp)
                      ·rw [if_neg c89] at H
                       exact absurd H (by simp)
                     ·rw [if_neg c88] at H
                      exact absurd H (by simp)
                    ·rw [if_neg c87] at H
                     have c87b0 : decide (x18_6 < (l0_1.length : Int)) = false := decide_eq_false c87
                     clear c87
                     have H' := Aside0.mk H
                     clear H
                     go_wp2
                     go_roundg k6
                     case measure => have := HJ13.out; have := HK2.out; have := HK3.out; have := HK4.out; have := HJ76.out; have := HK6.out; omega
                     case rel => exact ⟨(wrap64 (x13_3 + 1)), (x1087001_6), (x1087002_6), (u1087001), (u1087002), (by first | rfl | (simp; done) | (simp [*]; done)), H', ⟨by have := HJ13.out; have := HK2.out; have := HK3.out; have := HK4.out; have := HJ76.out; have := HK6.out; omega⟩, ⟨by (with_reducible repeat (first | apply Kd.S_alloc | apply Kd.S_drewN | apply Kd.S_drew)); exact Kd.S_mono HO_1087001.out (fun _ hk => hk.2)⟩, ⟨by (with_reducible repeat (first | apply Kd.R_alloc | apply Kd.R_drewN | apply Kd.R_drew)); exact Kd.R_mono HO_1087002.out (fun _ hk => trivial)⟩, ⟨bk_⟩, ⟨bk_⟩, ⟨bk_⟩, ⟨hb_⟩⟩
               ·rw [if_neg c75] at H
                exact absurd H (by simp)
           ·rw [if_neg c55] at H
            exact absurd H (by simp)
          ·rw [if_neg c54] at H
           exact absurd H (by simp)
         ·rw [if_neg c53] at H
          have c53b0 : decide (x13_3 < (l0_1.length : Int)) = false := decide_eq_false c53
          clear c53
          simp only [Option.some.injEq, Prod.mk.injEq] at H
          obtain ⟨rfl, rfl, rfl, rfl⟩ := H
          have hnb101 := NB1086_1074.out
          have hnc101 := NB1074_1086.out
          have hnb102 := NB1086_1075.out
          have hnc102 := NB1075_1086.out
          have hcz103_0 : wr.cell? ⟨gb1086, 0, none⟩ = some (.int .i64 (wrap64 (x10_13 * t1077))) := (blk_cell BK1086.out 0).trans rfl
          have hcz103_1 : wr.cell? ⟨gb1086, 1, none⟩ = some (u1087001) := (blk_cell BK1086.out 1).trans rfl
          have hcz103_2 : wr.cell? ⟨gb1086, 2, none⟩ = some (u1087002) := (blk_cell BK1086.out 2).trans rfl
          have hfz103_0 := blk_frozen BK1086.out 0
          have hfz103_1 := blk_frozen BK1086.out 1
          have hfz103_2 := blk_frozen BK1086.out 2
          have hnb104 := NB1075_1074.out
          have hnc104 := NB1074_1075.out
          have hcz105_0 : wr.cell? ⟨gb1075, 0, none⟩ = some (.int .i64 0) := (blk_cell BK1075.out 0).trans rfl
          have hcz105_1 : wr.cell? ⟨gb1075, 1, none⟩ = some (.slice none 0 0) := (blk_cell BK1075.out 1).trans rfl
          have hcz105_2 : wr.cell? ⟨gb1075, 2, none⟩ = some (.slice none 0 0) := (blk_cell BK1075.out 2).trans rfl
          have hfz105_0 := blk_frozen BK1075.out 0
          have hfz105_1 := blk_frozen BK1075.out 1
          have hfz105_2 := blk_frozen BK1075.out 2
          obtain ⟨Ao106, co106, eo106⟩ := Kd.S_slice HO_1087001.out
          subst eo106
          obtain ⟨Ao107, co107, eo107⟩ := Kd.R_slice HO_1087002.out
          subst eo107
          go_wp2
          have HB := Aside0.mk (below_step HBo.out HB.out)
          have HO_1087002 := Aside0.mk (Kd.R_lower HO_1087002.out (below_size HBo.out))
          have HO_1087001 := Aside0.mk (Kd.S_lower HO_1087001.out (below_size HBo.out))
          refine bodyPost_ret (results_ct rfl _ _ gb1075 86 #[.int .i64 (wrap64 (x10_13 * t1077)), .slice Ao106 x1087001_3.length co106, .slice Ao107 x1087002_3.length co107] (0, 0) _ rfl (by (with_reducible repeat (first | refine blk_drewN ?_ _ | refine blk_drew ?_ | refine blk_alloc ?_ _)); refine blk_put (cs := #[.int .i64 (wrap64 (x10_13 * t1077)), .slice Ao106 x1087001_3.length co106, .slice none 0 0]) ?_ 2 _ rfl; (with_reducible repeat (first | refine blk_drewN ?_ _ | refine blk_drew ?_ | refine blk_alloc ?_ _)); refine blk_put (cs := #[.int .i64 (wrap64 (x10_13 * t1077)), .slice none 0 0, .slice none 0 0]) ?_ 1 _ rfl; (with_reducible repeat (first | refine blk_drewN ?_ _ | refine blk_drew ?_ | refine blk_alloc ?_ _)); refine blk_put (cs := #[.int .i64 0, .slice none 0 0, .slice none 0 0]) ?_ 0 _ rfl; (with_reducible repeat (first | refine blk_drewN ?_ _ | refine blk_drew ?_ | refine blk_alloc ?_ _)); exact BK1075.out) Try.underlying86 rfl (by kernel_rfl)) rfl ?_
          exact ⟨_, _, by first | rfl | (simp [errW_none, errW_some] <;> rfl) | (simp [*, errW_none, errW_some] <;> rfl), by (with_reducible repeat (first | apply Kd.S_alloc | apply Kd.S_drewN | apply Kd.S_drew)); exact Kd.S_mono (Kd.S_far (p := ⟨gb1075, 2, none⟩) (Kd.S_far (p := ⟨gb1075, 1, none⟩) (Kd.S_far (p := ⟨gb1075, 0, none⟩) (Kd.S_types HO_1087001.out BK1075.out (by decide)) (fun _ hk => hk.2) (.int .i64 (wrap64 (x10_13 * t1077)))) (fun _ hk => hk.2) (.slice Ao106 x1087001_3.length co106)) (fun _ hk => hk.2) (.slice Ao107 x1087002_3.length co107)) (fun _ hk => hk.1), by (with_reducible repeat (first | apply Kd.R_alloc | apply Kd.R_drewN | apply Kd.R_drew)); exact Kd.R_mono (Kd.R_far (p := ⟨gb1075, 2, none⟩) (Kd.R_far (p := ⟨gb1075, 1, none⟩) (Kd.R_far (p := ⟨gb1075, 0, none⟩) (Kd.R_types HO_1087002.out BK1075.out (by decide)) (fun _ hk => hk.2) (.int .i64 (wrap64 (x10_13 * t1077)))) (fun _ hk => hk.2) (.slice Ao106 x1087001_3.length co106)) (fun _ hk => hk.2) (.slice Ao107 x1087002_3.length co107)) (fun _ hk => trivial), hb_⟩
def spec_l02Code.f (k : Nat) (l0_0 : List (List Int)) (l0_1 : List Int) (a1 : Int) : Option (Int) := (spec_l01Is.f k l0_0 l0_1).bind fun t1216 => (if t1216 = true then (if 0 ≤ (IntKind.u64.wrap ((l0_1.length : Int))) then ((spec_l01In.f a1 0 (wrap64 ((shl .i64 1 (IntKind.u64.wrap ((l0_1.length : Int)))) - 1))).bind fun t1217 => (if t1217 = true then (some 0) else (some 2))) else (none)) else (some 1))
theorem spec_l02Code.mono : ∀ a0 a1 a2 k, LeO (spec_l02Code.f k a0 a1 a2) (spec_l02Code.f (k + 1) a0 a1 a2) := by
 intro a0 a1 a2 k
 unfold spec_l02Code.f
 repeat' first
   | (with_reducible exact spec_l01Is.mono _ _ _)
   | (with_reducible exact LeO.refl _)
   | (with_reducible exact LeO.none _)
   | (with_reducible refine LeO.ite ?_ ?_)
   | (with_reducible refine LeO.bind ?_ (fun _ => ?_))
   | exact spec_l01Is.mono _ _ _
   | exact LeO.none _
   | refine LeO.ite ?_ ?_
   | refine LeO.bind ?_ (fun _ => ?_)
theorem spec_l02Code.calls (k : Nat) (A0_0 : Option Addr) (c0_0 : Nat) (l0_0 : List (List Int)) (A0_1 : Option Addr) (c0_1 : Nat) (l0_1 : List Int) (a1 : Int) (r : Int) (w : World) (hr0_0 : Kd.C (Kd.slice 2 (Kd.int .i64)) w A0_0 l0_0.length l0_0) (hc0_0 : l0_0.length ≤ c0_0) (hr0_1 : Kd.C (Kd.int .i64) w A0_1 l0_1.length l0_1) (hc0_1 : l0_1.length ≤ c0_1) (h : spec_l02Code.f k l0_0 l0_1 a1 = some r) :
  Calls Try.prog 118 #[.agg #[.slice A0_0 l0_0.length c0_0, .slice A0_1 l0_1.length c0_1], .int .i64 a1] w fun e w' => e = .returned (.int .i64 r) ∧ Below w.heap.size w w' := by
 have hu56 := Try.underlying56
 have HR0_0 := Aside0.mk hr0_0
 have HC0_0 := Aside0.mk hc0_0
 clear hr0_0 hc0_0
 have HR0_1 := Aside0.mk hr0_1
 have HC0_1 := Aside0.mk hc0_1
 clear hr0_1 hc0_1
 have HB := Aside0.mk (Below.refl w.heap.size w)
 have H : ((spec_l01Is.f k l0_0 l0_1).bind fun t1216 => (if t1216 = true then (if 0 ≤ (IntKind.u64.wrap ((l0_1.length : Int))) then ((spec_l01In.f a1 0 (wrap64 ((shl .i64 1 (IntKind.u64.wrap ((l0_1.length : Int)))) - 1))).bind fun t1217 => (if t1217 = true then (some 0) else (some 2))) else (none)) else (some 1))) = some r := h
 clear h
 replace H := Option.bind_eq_some_iff.mp H
 obtain ⟨t1216, A30, H⟩ := H
 replace H : (if t1216 = true then (if 0 ≤ (IntKind.u64.wrap ((l0_1.length : Int))) then ((spec_l01In.f a1 0 (wrap64 ((shl .i64 1 (IntKind.u64.wrap ((l0_1.length : Int)))) - 1))).bind fun t1217 => (if t1217 = true then (some 0) else (some 2))) else (none)) else (some 1)) = some r := H
 have A3 := Aside0.mk A30
 clear A30
 by_cases c4 : t1216 = true
 ·subst c4
  have H1 : (if 0 ≤ (IntKind.u64.wrap ((l0_1.length : Int))) then ((spec_l01In.f a1 0 (wrap64 ((shl .i64 1 (IntKind.u64.wrap ((l0_1.length : Int)))) - 1))).bind fun t1217 => (if t1217 = true then (some 0) else (some 2))) else (none)) = some r := by rw [if_pos rfl] at H; exact H
  clear H
  have H := H1
  clear H1
  obtain ⟨ji5, hji5⟩ : ∃ j_ : Int, (IntKind.u64.wrap ((l0_1.length : Int))) = j_ := ⟨_, rfl⟩
  replace H : (if 0 ≤ (ji5) then ((spec_l01In.f a1 0 (wrap64 ((shl .i64 1 (ji5)) - 1))).bind fun t1217 => (if t1217 = true then (some 0) else (some 2))) else (none)) = some r := by first | (rw [hji5] at H; exact H) | (simp only [hji5] at H ⊢; exact H)
  (try rw [hji5] at A3)
  by_cases c6 : 0 ≤ (ji5)
  ·rw [if_pos c6] at H
   have c6b0 := eq_true c6
   have c6b1 : decide (0 ≤ (ji5)) = true := decide_eq_true c6
   clear c6
   obtain ⟨ji7, hji7⟩ : ∃ j_ : Int, (shl .i64 1 (ji5)) = j_ := ⟨_, rfl⟩
   replace H : ((spec_l01In.f a1 0 (wrap64 ((ji7) - 1))).bind fun t1217 => (if t1217 = true then (some 0) else (some 2))) = some r := by first | (rw [hji7] at H; exact H) | (simp only [hji7] at H ⊢; exact H)
   (try rw [hji7] at A3)
   have hji7_ : (IntKind.i64.wrap (1 * 2 ^ min (ji5).toNat 64)) = ji7 := hji7
   have hji7z : (ji5) ≤ 64 → (IntKind.i64.wrap (1 * 2 ^ (ji5).toNat)) = ji7 := shl_small hji7
   have hji7u : (IntKind.i64.wrap (2 ^ min (ji5).toNat 64)) = ji7 := by have h_ := hji7_; rw [Int.one_mul] at h_; exact h_
   have hji7v : (ji5) ≤ 64 → (IntKind.i64.wrap (2 ^ (ji5).toNat)) = ji7 := fun hle_ => by have h_ := hji7z hle_; rw [Int.one_mul] at h_; exact h_
   have hji7y : (wrap64 (1 * 2 ^ min (ji5).toNat 64)) = ji7 := (i64_w _).symm.trans hji7_
   have hji7x : (ji5) ≤ 64 → (wrap64 (1 * 2 ^ (ji5).toNat)) = ji7 := fun h_ => (i64_w _).symm.trans (hji7z h_)
   replace H := Option.bind_eq_some_iff.mp H
   obtain ⟨t1217, A80, H⟩ := H
   replace H : (if t1217 = true then (some 0) else (some 2)) = some r := H
   have A8 := Aside0.mk A80
   clear A80
   by_cases c9 : t1217 = true
   ·subst c9
    have H1 : (some 0) = some r := by rw [if_pos rfl] at H; exact H
    clear H
    have H := H1
    clear H1
    obtain rfl := Option.some.inj H
    go_enter Try.func118, Try.ntmps118
    go_wp2_with (first | ((with_reducible refine gate_dst (N := 2) rfl ?_); refine box_event ?hg (N := 2) ?hd (cs := #[.slice A0_0 l0_0.length c0_0, .slice A0_1 l0_1.length c0_1]) (t := 56) ?hr ?_; (case hd => rfl); (case hg => rfl); (case hr => first | (go_simp; done) | (go_simp; rfl)); intro gb1215 hg w10 hbox hb; have n0_ := Aside0.mk (bs_ hb); have n1_ := Aside0.mk (hbox); have n2_ := Aside0.mk ((by rw [hg]; exact bz_ : w.heap.size ≤ gb1215)); have n3_ := Aside0.mk ((by rw [hg]; exact bz_ : w.heap.size ≤ gb1215)); clear HB; have HB := n0_; have BK1215 := n1_; have GW1215 := n2_; have GE1215 := n3_; clear n0_ n1_ n2_ n3_; clear hb hbox hg; have hcz11_0 : w10.cell? ⟨gb1215, 0, none⟩ = some (.slice A0_0 l0_0.length c0_0) := (blk_cell BK1215.out 0).trans rfl; have hcz11_1 : w10.cell? ⟨gb1215, 1, none⟩ = some (.slice A0_1 l0_1.length c0_1) := (blk_cell BK1215.out 1).trans rfl; have hfz11_0 := blk_frozen BK1215.out 0; have hfz11_1 := blk_frozen BK1215.out 1) | ((with_reducible refine gate_callee (f := 86) rfl ?_); refine goesL_ (some 7) rfl rfl Try.func86 (by kernel_rfl) rfl #[.agg #[.slice A0_0 l0_0.length c0_0, .slice A0_1 l0_1.length c0_1]] rfl (by (try simp only [List.map_toArray, List.map_cons, List.map_nil]); first | done | rfl | (simp only [List.length_drop, List.length_take]; rfl)) ?_; (with_reducible refine (spec_l01Is.calls k _ _ l0_0 _ _ l0_1 true _ ?side1 ?side2 ?side3 ?side4 A3.out).mono ?_); (case side1 => exact cb_ HR0_0.out HB.out); (case side2 => exact HC0_0.out); (case side3 => exact cb_ HR0_1.out HB.out); (case side4 => exact HC0_1.out); rintro e w12 ⟨rfl, hb⟩; refine ⟨_, rfl, ?_⟩; have n0_ := Aside0.mk (bb_ BK1215.out hb); have n1_ := Aside0.mk (bs_ hb); clear BK1215; clear HB; have BK1215 := n0_; have HB := n1_; clear n0_ n1_; (try clear hb); (try clear hb2); (try clear hk); (try clear hi); have hcz13_0 : w12.cell? ⟨gb1215, 0, none⟩ = some (.slice A0_0 l0_0.length c0_0) := (blk_cell BK1215.out 0).trans rfl; have hcz13_1 : w12.cell? ⟨gb1215, 1, none⟩ = some (.slice A0_1 l0_1.length c0_1) := (blk_cell BK1215.out 1).trans rfl; have hfz13_0 := blk_frozen BK1215.out 0; have hfz13_1 := blk_frozen BK1215.out 1) | ((with_reducible refine gate_callee (f := 87) rfl ?_); refine goesL_ (some 17) rfl rfl Try.func87 (by kernel_rfl) rfl #[.int .i64 a1, .int .i64 0, .int .i64 (wrap64 ((ji7) - 1))] rfl (by (try simp only [List.map_toArray, List.map_cons, List.map_nil]); first | done | (simp only [hji7]; rfl) | rfl | (simp only [List.length_drop, List.length_take]; rfl)) ?_; (with_reducible refine (spec_l01In.calls a1 0 (wrap64 ((ji7) - 1)) true _ A8.out).mono ?_); rintro e w' ⟨rfl, ⟨nd, rfl⟩⟩; refine ⟨_, rfl, ?_⟩))
    go_ret
    exact ⟨by first | rfl | (simp [errW_none, errW_some] <;> rfl) | (simp only [← hji5, ← hji7]; first | rfl | (simp [errW_none, errW_some] <;> rfl)) | (simp [*, errW_none, errW_some] <;> rfl), hb_⟩
   ·replace c9 := Bool.eq_false_iff.mpr c9
    subst c9
    have H1 : (some 2) = some r := by rw [if_neg (show ¬ (false = true) by decide)] at H; exact H
    clear H
    have H := H1
    clear H1
    obtain rfl := Option.some.inj H
    go_enter Try.func118, Try.ntmps118
    go_wp2_with (first | ((with_reducible refine gate_dst (N := 2) rfl ?_); refine box_event ?hg (N := 2) ?hd (cs := #[.slice A0_0 l0_0.length c0_0, .slice A0_1 l0_1.length c0_1]) (t := 56) ?hr ?_; (case hd => rfl); (case hg => rfl); (case hr => first | (go_simp; done) | (go_simp; rfl)); intro gb1215 hg w14 hbox hb; have n0_ := Aside0.mk (bs_ hb); have n1_ := Aside0.mk (hbox); have n2_ := Aside0.mk ((by rw [hg]; exact bz_ : w.heap.size ≤ gb1215)); have n3_ := Aside0.mk ((by rw [hg]; exact bz_ : w.heap.size ≤ gb1215)); clear HB; have HB := n0_; have BK1215 := n1_; have GW1215 := n2_; have GE1215 := n3_; clear n0_ n1_ n2_ n3_; clear hb hbox hg; have hcz15_0 : w14.cell? ⟨gb1215, 0, none⟩ = some (.slice A0_0 l0_0.length c0_0) := (blk_cell BK1215.out 0).trans rfl; have hcz15_1 : w14.cell? ⟨gb1215, 1, none⟩ = some (.slice A0_1 l0_1.length c0_1) := (blk_cell BK1215.out 1).trans rfl; have hfz15_0 := blk_frozen BK1215.out 0; have hfz15_1 := blk_frozen BK1215.out 1) | ((with_reducible refine gate_callee (f := 86) rfl ?_); refine goesL_ (some 7) rfl rfl Try.func86 (by kernel_rfl) rfl #[.agg #[.slice A0_0 l0_0.length c0_0, .slice A0_1 l0_1.length c0_1]] rfl (by (try simp only [List.map_toArray, List.map_cons, List.map_nil]); first | done | rfl | (simp only [List.length_drop, List.length_take]; rfl)) ?_; (with_reducible refine (spec_l01Is.calls k _ _ l0_0 _ _ l0_1 true _ ?side1 ?side2 ?side3 ?side4 A3.out).mono ?_); (case side1 => exact cb_ HR0_0.out HB.out); (case side2 => exact HC0_0.out); (case side3 => exact cb_ HR0_1.out HB.out); (case side4 => exact HC0_1.out); rintro e w16 ⟨rfl, hb⟩; refine ⟨_, rfl, ?_⟩; have n0_ := Aside0.mk (bb_ BK1215.out hb); have n1_ := Aside0.mk (bs_ hb); clear BK1215; clear HB; have BK1215 := n0_; have HB := n1_; clear n0_ n1_; (try clear hb); (try clear hb2); (try clear hk); (try clear hi); have hcz17_0 : w16.cell? ⟨gb1215, 0, none⟩ = some (.slice A0_0 l0_0.length c0_0) := (blk_cell BK1215.out 0).trans rfl; have hcz17_1 : w16.cell? ⟨gb1215, 1, none⟩ = some (.slice A0_1 l0_1.length c0_1) := (blk_cell BK1215.out 1).trans rfl; have hfz17_0 := blk_frozen BK1215.out 0; have hfz17_1 := blk_frozen BK1215.out 1) | ((with_reducible refine gate_callee (f := 87) rfl ?_); refine goesL_ (some 17) rfl rfl Try.func87 (by kernel_rfl) rfl #[.int .i64 a1, .int .i64 0, .int .i64 (wrap64 ((ji7) - 1))] rfl (by (try simp only [List.map_toArray, List.map_cons, List.map_nil]); first | done | (simp only [hji7]; rfl) | rfl | (simp only [List.length_drop, List.length_take]; rfl)) ?_; (with_reducible refine (spec_l01In.calls a1 0 (wrap64 ((ji7) - 1)) false _ A8.out).mono ?_); rintro e w' ⟨rfl, ⟨nd, rfl⟩⟩; refine ⟨_, rfl, ?_⟩))
    go_ret
    exact ⟨by first | rfl | (simp [errW_none, errW_some] <;> rfl) | (simp only [← hji5, ← hji7]; first | rfl | (simp [errW_none, errW_some] <;> rfl)) | (simp [*, errW_none, errW_some] <;> rfl), hb_⟩
  ·rw [if_neg c6] at H
   exact absurd H (by simp)
 ·replace c4 := Bool.eq_false_iff.mpr c4
  subst c4
  have H1 : (some 1) = some r := by rw [if_neg (show ¬ (false = true) by decide)] at H; exact H
  clear H
  have H := H1
  clear H1
  obtain rfl := Option.some.inj H
  go_enter Try.func118, Try.ntmps118
  go_wp2_with (first | ((with_reducible refine gate_dst (N := 2) rfl ?_); refine box_event ?hg (N := 2) ?hd (cs := #[.slice A0_0 l0_0.length c0_0, .slice A0_1 l0_1.length c0_1]) (t := 56) ?hr ?_; (case hd => rfl); (case hg => rfl); (case hr => first | (go_simp; done) | (go_simp; rfl)); intro gb1215 hg w18 hbox hb; have n0_ := Aside0.mk (bs_ hb); have n1_ := Aside0.mk (hbox); have n2_ := Aside0.mk ((by rw [hg]; exact bz_ : w.heap.size ≤ gb1215)); have n3_ := Aside0.mk ((by rw [hg]; exact bz_ : w.heap.size ≤ gb1215)); clear HB; have HB := n0_; have BK1215 := n1_; have GW1215 := n2_; have GE1215 := n3_; clear n0_ n1_ n2_ n3_; clear hb hbox hg; have hcz19_0 : w18.cell? ⟨gb1215, 0, none⟩ = some (.slice A0_0 l0_0.length c0_0) := (blk_cell BK1215.out 0).trans rfl; have hcz19_1 : w18.cell? ⟨gb1215, 1, none⟩ = some (.slice A0_1 l0_1.length c0_1) := (blk_cell BK1215.out 1).trans rfl; have hfz19_0 := blk_frozen BK1215.out 0; have hfz19_1 := blk_frozen BK1215.out 1) | ((with_reducible refine gate_callee (f := 86) rfl ?_); refine goesL_ (some 7) rfl rfl Try.func86 (by kernel_rfl) rfl #[.agg #[.slice A0_0 l0_0.length c0_0, .slice A0_1 l0_1.length c0_1]] rfl (by (try simp only [List.map_toArray, List.map_cons, List.map_nil]); first | done | rfl | (simp only [List.length_drop, List.length_take]; rfl)) ?_; (with_reducible refine (spec_l01Is.calls k _ _ l0_0 _ _ l0_1 false _ ?side1 ?side2 ?side3 ?side4 A3.out).mono ?_); (case side1 => exact cb_ HR0_0.out HB.out); (case side2 => exact HC0_0.out); (case side3 => exact cb_ HR0_1.out HB.out); (case side4 => exact HC0_1.out); rintro e w20 ⟨rfl, hb⟩; refine ⟨_, rfl, ?_⟩; have n0_ := Aside0.mk (bb_ BK1215.out hb); have n1_ := Aside0.mk (bs_ hb); clear BK1215; clear HB; have BK1215 := n0_; have HB := n1_; clear n0_ n1_; (try clear hb); (try clear hb2); (try clear hk); (try clear hi)))
  go_ret
  exact ⟨by first | rfl | (simp [errW_none, errW_some] <;> rfl) | (simp [*, errW_none, errW_some] <;> rfl), hb_⟩
def spec_PivotOf.f (k : Nat) (l0_0 : List (List Int)) (l0_1 : List Int) (a1 : Int) : Option (Int × (List (List Int)) × List Int × Int) := (spec_l02Code.f k l0_0 l0_1 a1).bind fun t1220 => (if t1220 = 0 then ((spec_l04Pivot.f k l0_0 l0_1 a1).bind fun bt1221 => (if bt1221.2.2.2 = true then (some (bt1221.1, bt1221.2.1, bt1221.2.2.1, 0)) else (some (0, ([] : List (List Int)), ([] : List Int), 5)))) else (some (0, ([] : List (List Int)), ([] : List Int), t1220)))
theorem spec_PivotOf.mono : ∀ a0 a1 a2 k, LeO (spec_PivotOf.f k a0 a1 a2) (spec_PivotOf.f (k + 1) a0 a1 a2) := by
 intro a0 a1 a2 k
 unfold spec_PivotOf.f
 repeat' first
   | (with_reducible exact spec_l02Code.mono _ _ _ _)
   | (with_reducible exact spec_l04Pivot.mono _ _ _ _)
   | (with_reducible exact LeO.refl _)
   | (with_reducible exact LeO.none _)
   | (with_reducible refine LeO.ite ?_ ?_)
   | (with_reducible refine LeO.bind ?_ (fun _ => ?_))
   | exact spec_l02Code.mono _ _ _ _
   | exact spec_l04Pivot.mono _ _ _ _
   | exact LeO.none _
   | refine LeO.ite ?_ ?_
   | refine LeO.bind ?_ (fun _ => ?_)
theorem spec_PivotOf.calls (k : Nat) (A0_0 : Option Addr) (c0_0 : Nat) (l0_0 : List (List Int)) (A0_1 : Option Addr) (c0_1 : Nat) (l0_1 : List Int) (a1 : Int) (r1 : Int) (r2 : List (List Int)) (r3 : List Int) (r4 : Int) (w : World) (hr0_0 : Kd.C (Kd.slice 2 (Kd.int .i64)) w A0_0 l0_0.length l0_0) (hc0_0 : l0_0.length ≤ c0_0) (hr0_1 : Kd.C (Kd.int .i64) w A0_1 l0_1.length l0_1) (hc0_1 : l0_1.length ≤ c0_1) (h : spec_PivotOf.f k l0_0 l0_1 a1 = some (r1, r2, r3, r4)) :
  Calls Try.prog 61 #[.agg #[.slice A0_0 l0_0.length c0_0, .slice A0_1 l0_1.length c0_1], .int .i64 a1] w fun e w' => ∃ v1_ v2_ : Value, e = .returned (.tuple #[.agg #[.int .i64 r1, v1_, v2_], .int .i64 r4]) ∧ Kd.S (Kd.slice 2 (Kd.int .i64)) 33 w' w.heap.size (fun k_ => some k_ ≠ (v2_ : Value).ownBlock) v1_ r2 ∧ Kd.R (Kd.int .i64) 2 w' w.heap.size (fun _ => True) v2_ r3 ∧ Below w.heap.size w w' := by
 have hu56 := Try.underlying56
 have hu86 := Try.underlying86
 have HR0_0 := Aside0.mk hr0_0
 have HC0_0 := Aside0.mk hc0_0
 clear hr0_0 hc0_0
 have HR0_1 := Aside0.mk hr0_1
 have HC0_1 := Aside0.mk hc0_1
 clear hr0_1 hc0_1
 have HB := Aside0.mk (Below.refl w.heap.size w)
 have H : ((spec_l02Code.f k l0_0 l0_1 a1).bind fun t1220 => (if t1220 = 0 then ((spec_l04Pivot.f k l0_0 l0_1 a1).bind fun bt1221 => (if bt1221.2.2.2 = true then (some (bt1221.1, bt1221.2.1, bt1221.2.2.1, 0)) else (some (0, ([] : List (List Int)), ([] : List Int), 5)))) else (some (0, ([] : List (List Int)), ([] : List Int), t1220)))) = some (r1, r2, r3, r4) := h
 clear h
 replace H := Option.bind_eq_some_iff.mp H
 obtain ⟨t1220, A30, H⟩ := H
 replace H : (if t1220 = 0 then ((spec_l04Pivot.f k l0_0 l0_1 a1).bind fun bt1221 => (if bt1221.2.2.2 = true then (some (bt1221.1, bt1221.2.1, bt1221.2.2.1, 0)) else (some (0, ([] : List (List Int)), ([] : List Int), 5)))) else (some (0, ([] : List (List Int)), ([] : List Int), t1220))) = some (r1, r2, r3, r4) := H
 have A3 := Aside0.mk A30
 clear A30
 by_cases c4 : t1220 = 0
 ·rw [if_pos c4] at H
  have c4b0 : (t1220 == 0) = true := beq_iff_eq.mpr c4
  have c4b1 : (t1220 != 0) = false := bne_eq_false_iff_eq.mpr c4
  clear c4
  replace H := Option.bind_eq_some_iff.mp H
  obtain ⟨⟨t1221, t1222, t1225, t1228⟩, A50, H⟩ := H
  replace H : (if t1228 = true then (some (t1221, t1222, t1225, 0)) else (some (0, ([] : List (List Int)), ([] : List Int), 5))) = some (r1, r2, r3, r4) := H
  have A5 := Aside0.mk A50
  clear A50
  by_cases c6 : t1228 = true
  ·subst c6
   have H1 : (some (t1221, t1222, t1225, 0)) = some (r1, r2, r3, r4) := by rw [if_pos rfl] at H; exact H
   clear H
   have H := H1
   clear H1
   simp only [Option.some.injEq, Prod.mk.injEq] at H
   obtain ⟨rfl, rfl, rfl, rfl⟩ := H
   go_enter Try.func61, Try.ntmps61
   go_wp2_with (first | ((with_reducible refine gate_dst (N := 2) rfl ?_); refine box_event ?hg (N := 2) ?hd (cs := #[.slice A0_0 l0_0.length c0_0, .slice A0_1 l0_1.length c0_1]) (t := 56) ?hr ?_; (case hd => rfl); (case hg => rfl); (case hr => first | (go_simp; done) | (go_simp; rfl)); intro gb1218 hg w7 hbox hb; have n0_ := Aside0.mk (bs_ hb); have n1_ := Aside0.mk (hbox); have n2_ := Aside0.mk ((by rw [hg]; exact bz_ : w.heap.size ≤ gb1218)); have n3_ := Aside0.mk ((by rw [hg]; exact bz_ : w.heap.size ≤ gb1218)); clear HB; have HB := n0_; have BK1218 := n1_; have GW1218 := n2_; have GE1218 := n3_; clear n0_ n1_ n2_ n3_; clear hb hbox hg) | ((with_reducible refine gate_dst (N := 4) rfl ?_); refine box_event ?hg (N := 4) ?hd (cs := #[.int .i64 0, .slice none 0 0, .slice none 0 0]) (t := 86) ?hr ?_; (case hd => rfl); (case hg => rfl); (case hr => first | (go_simp; done) | (go_simp; rfl)); intro gb1219 hg w8 hbox hb; have n0_ := Aside0.mk (bb_ BK1218.out hb); have n1_ := Aside0.mk (bs_ hb); have n2_ := Aside0.mk (hbox); have n3_ := Aside0.mk ((by rw [hg]; exact bz_ : w.heap.size ≤ gb1219)); have n4_ := Aside0.mk ((by rw [hg]; exact bz_ : w.heap.size ≤ gb1219)); have n5_ := Aside0.mk ((by rw [hg]; exact lt_ BK1218.out : gb1218 ≠ gb1219)); have n6_ := Aside0.mk ((by rw [hg]; exact gt_ BK1218.out : gb1219 ≠ gb1218)); clear BK1218; clear HB; have BK1218 := n0_; have HB := n1_; have BK1219 := n2_; have GW1219 := n3_; have GE1219 := n4_; have NB1218_1219 := n5_; have NB1219_1218 := n6_; clear n0_ n1_ n2_ n3_ n4_ n5_ n6_; clear hb hbox hg; have hnb9 := NB1218_1219.out; have hnc9 := NB1219_1218.out; have hcz10_0 : w8.cell? ⟨gb1218, 0, none⟩ = some (.slice A0_0 l0_0.length c0_0) := (blk_cell BK1218.out 0).trans rfl; have hcz10_1 : w8.cell? ⟨gb1218, 1, none⟩ = some (.slice A0_1 l0_1.length c0_1) := (blk_cell BK1218.out 1).trans rfl; have hfz10_0 := blk_frozen BK1218.out 0; have hfz10_1 := blk_frozen BK1218.out 1) | ((with_reducible refine gate_callee (f := 118) rfl ?_); refine goesL_ (some 11) rfl rfl Try.func118 (by kernel_rfl) rfl #[.agg #[.slice A0_0 l0_0.length c0_0, .slice A0_1 l0_1.length c0_1], .int .i64 a1] rfl (by (try simp only [List.map_toArray, List.map_cons, List.map_nil]); first | done | rfl | (simp only [List.length_drop, List.length_take]; rfl)) ?_; (with_reducible refine (spec_l02Code.calls k _ _ l0_0 _ _ l0_1 a1 t1220 _ ?side1 ?side2 ?side3 ?side4 A3.out).mono ?_); (case side1 => exact cb_ HR0_0.out HB.out); (case side2 => exact HC0_0.out); (case side3 => exact cb_ HR0_1.out HB.out); (case side4 => exact HC0_1.out); rintro e w11 ⟨rfl, hb⟩; refine ⟨_, rfl, ?_⟩; have n0_ := Aside0.mk (bb_ BK1218.out hb); have n1_ := Aside0.mk (bb_ BK1219.out hb); have n2_ := Aside0.mk (bs_ hb); clear BK1218; clear BK1219; clear HB; have BK1218 := n0_; have BK1219 := n1_; have HB := n2_; clear n0_ n1_ n2_; (try clear hb); (try clear hb2); (try clear hk); (try clear hi); have hcz12_0 : w11.cell? ⟨gb1218, 0, none⟩ = some (.slice A0_0 l0_0.length c0_0) := (blk_cell BK1218.out 0).trans rfl; have hcz12_1 : w11.cell? ⟨gb1218, 1, none⟩ = some (.slice A0_1 l0_1.length c0_1) := (blk_cell BK1218.out 1).trans rfl; have hfz12_0 := blk_frozen BK1218.out 0; have hfz12_1 := blk_frozen BK1218.out 1) | ((with_reducible refine gate_callee (f := 108) rfl ?_); refine goesL_ (some 19) rfl rfl Try.func108 (by kernel_rfl) rfl #[.agg #[.slice A0_0 l0_0.length c0_0, .slice A0_1 l0_1.length c0_1], .int .i64 a1] rfl (by (try simp only [List.map_toArray, List.map_cons, List.map_nil]); first | done | rfl | (simp only [List.length_drop, List.length_take]; rfl)) ?_; (with_reducible refine (spec_l04Pivot.calls k _ _ l0_0 _ _ l0_1 a1 t1221 t1222 t1225 true _ ?side1 ?side2 ?side3 ?side4 A5.out).mono ?_); (case side1 => exact cb_ HR0_0.out HB.out); (case side2 => exact HC0_0.out); (case side3 => exact cb_ HR0_1.out HB.out); (case side4 => exact HC0_1.out); rintro e w13 ⟨v1223, v1226, rfl, ho0, ho1, hb⟩; refine ⟨_, rfl, ?_⟩; have n0_ := Aside0.mk (Kd.S_lower ho0 bz_); have n1_ := Aside0.mk (Kd.R_lower ho1 bz_); have n2_ := Aside0.mk (bb_ BK1218.out hb); have n3_ := Aside0.mk (bb_ BK1219.out hb); have n4_ := Aside0.mk (bs_ hb); clear BK1218; clear BK1219; clear HB; have HO1224 := n0_; have HO1227 := n1_; have BK1218 := n2_; have BK1219 := n3_; have HB := n4_; clear n0_ n1_ n2_ n3_ n4_; (try clear hb); (try clear hb2); (try clear hk); (try clear hi); (try clear ho0); (try clear ho1)) | ((with_reducible refine gate_dst (N := 7) rfl ?_); refine box_event ?hg (N := 7) ?hd (cs := #[.int .i64 0, .slice none 0 0, .slice none 0 0]) (t := 86) ?hr ?_; (case hd => rfl); (case hg => rfl); (case hr => first | (go_simp; done) | (go_simp; rfl)); intro gb1229 hg w14 hbox hb; have n0_ := Aside0.mk (Kd.S_below (so_ HO1224.out) hb); have n1_ := Aside0.mk (rb_ HO1227.out hb); have n2_ := Aside0.mk (bb_ BK1218.out hb); have n3_ := Aside0.mk (bb_ BK1219.out hb); have n4_ := Aside0.mk (bs_ hb); have n5_ := Aside0.mk (hbox); have n6_ := Aside0.mk ((by rw [hg]; exact bz_ : w.heap.size ≤ gb1229)); have n7_ := Aside0.mk ((by rw [hg]; exact bz_ : w.heap.size ≤ gb1229)); have n8_ := Aside0.mk ((by rw [hg]; exact lt_ BK1218.out : gb1218 ≠ gb1229)); have n9_ := Aside0.mk ((by rw [hg]; exact gt_ BK1218.out : gb1229 ≠ gb1218)); have n10_ := Aside0.mk ((by rw [hg]; exact lt_ BK1219.out : gb1219 ≠ gb1229)); have n11_ := Aside0.mk ((by rw [hg]; exact gt_ BK1219.out : gb1229 ≠ gb1219)); clear HO1224; clear HO1227; clear BK1218; clear BK1219; clear HB; have HO1224 := n0_; have HO1227 := n1_; have BK1218 := n2_; have BK1219 := n3_; have HB := n4_; have BK1229 := n5_; have GW1229 := n6_; have GE1229 := n7_; have NB1218_1229 := n8_; have NB1229_1218 := n9_; have NB1219_1229 := n10_; have NB1229_1219 := n11_; clear n0_ n1_ n2_ n3_ n4_ n5_ n6_ n7_ n8_ n9_ n10_ n11_; clear hb hbox hg; have hnb15 := NB1229_1218.out; have hnc15 := NB1218_1229.out; have hnb16 := NB1229_1219.out; have hnc16 := NB1219_1229.out; have hcz17_0 : w14.cell? ⟨gb1229, 0, none⟩ = some (.int .i64 0) := (blk_cell BK1229.out 0).trans rfl; have hcz17_1 : w14.cell? ⟨gb1229, 1, none⟩ = some (.slice none 0 0) := (blk_cell BK1229.out 1).trans rfl; have hcz17_2 : w14.cell? ⟨gb1229, 2, none⟩ = some (.slice none 0 0) := (blk_cell BK1229.out 2).trans rfl; have hfz17_0 := blk_frozen BK1229.out 0; have hfz17_1 := blk_frozen BK1229.out 1; have hfz17_2 := blk_frozen BK1229.out 2; obtain ⟨Ao18, co18, eo18⟩ := Kd.S_slice HO1224.out; subst eo18; obtain ⟨Ao19, co19, eo19⟩ := Kd.R_slice HO1227.out; subst eo19; have hcz20_0 : w14.cell? ⟨gb1219, 0, none⟩ = some (.int .i64 0) := (blk_cell BK1219.out 0).trans rfl; have hcz20_1 : w14.cell? ⟨gb1219, 1, none⟩ = some (.slice none 0 0) := (blk_cell BK1219.out 1).trans rfl; have hcz20_2 : w14.cell? ⟨gb1219, 2, none⟩ = some (.slice none 0 0) := (blk_cell BK1219.out 2).trans rfl; have hfz20_0 := blk_frozen BK1219.out 0; have hfz20_1 := blk_frozen BK1219.out 1; have hfz20_2 := blk_frozen BK1219.out 2))
   refine bodyPost_ret (results_ct rfl _ _ gb1219 86 #[.int .i64 t1221, .slice Ao18 t1222.length co18, .slice Ao19 t1225.length co19] (0, 0) _ rfl (by (with_reducible repeat (first | refine blk_drewN ?_ _ | refine blk_drew ?_ | refine blk_alloc ?_ _)); refine blk_put (cs := #[.int .i64 t1221, .slice Ao18 t1222.length co18, .slice none 0 0]) ?_ 2 _ rfl; (with_reducible repeat (first | refine blk_drewN ?_ _ | refine blk_drew ?_ | refine blk_alloc ?_ _)); refine blk_put (cs := #[.int .i64 t1221, .slice none 0 0, .slice none 0 0]) ?_ 1 _ rfl; (with_reducible repeat (first | refine blk_drewN ?_ _ | refine blk_drew ?_ | refine blk_alloc ?_ _)); refine blk_put (cs := #[.int .i64 0, .slice none 0 0, .slice none 0 0]) ?_ 0 _ rfl; (with_reducible repeat (first | refine blk_drewN ?_ _ | refine blk_drew ?_ | refine blk_alloc ?_ _)); refine blk_far ?_ NB1219_1229.out _; (with_reducible repeat (first | refine blk_drewN ?_ _ | refine blk_drew ?_ | refine blk_alloc ?_ _)); refine blk_far ?_ NB1219_1229.out _; (with_reducible repeat (first | refine blk_drewN ?_ _ | refine blk_drew ?_ | refine blk_alloc ?_ _)); refine blk_far ?_ NB1219_1229.out _; (with_reducible repeat (first | refine blk_drewN ?_ _ | refine blk_drew ?_ | refine blk_alloc ?_ _)); exact BK1219.out) Try.underlying86 rfl (by kernel_rfl)) rfl ?_
   exact ⟨_, _, by first | rfl | (simp [errW_none, errW_some] <;> rfl) | (simp [*, errW_none, errW_some] <;> rfl), by (with_reducible repeat (first | apply Kd.S_alloc | apply Kd.S_drewN | apply Kd.S_drew)); exact Kd.S_mono (Kd.S_far (p := ⟨gb1219, 2, none⟩) (Kd.S_far (p := ⟨gb1219, 1, none⟩) (Kd.S_far (p := ⟨gb1219, 0, none⟩) (Kd.S_far (p := ⟨gb1229, 2, none⟩) (Kd.S_far (p := ⟨gb1229, 1, none⟩) (Kd.S_far (p := ⟨gb1229, 0, none⟩) (Kd.S_types (Kd.S_types HO1224.out BK1229.out (by decide)) BK1219.out (by decide)) (fun _ hk => hk.1.2) (.int .i64 t1221)) (fun _ hk => hk.1.2) (.slice Ao18 t1222.length co18)) (fun _ hk => hk.1.2) (.slice Ao19 t1225.length co19)) (fun _ hk => hk.2) (.int .i64 t1221)) (fun _ hk => hk.2) (.slice Ao18 t1222.length co18)) (fun _ hk => hk.2) (.slice Ao19 t1225.length co19)) (fun _ hk => hk.1.1), by (with_reducible repeat (first | apply Kd.R_alloc | apply Kd.R_drewN | apply Kd.R_drew)); exact Kd.R_mono (Kd.R_far (p := ⟨gb1219, 2, none⟩) (Kd.R_far (p := ⟨gb1219, 1, none⟩) (Kd.R_far (p := ⟨gb1219, 0, none⟩) (Kd.R_far (p := ⟨gb1229, 2, none⟩) (Kd.R_far (p := ⟨gb1229, 1, none⟩) (Kd.R_far (p := ⟨gb1229, 0, none⟩) (Kd.R_types (Kd.R_types HO1227.out BK1229.out (by decide)) BK1219.out (by decide)) (fun _ hk => hk.1.2) (.int .i64 t1221)) (fun _ hk => hk.1.2) (.slice Ao18 t1222.length co18)) (fun _ hk => hk.1.2) (.slice Ao19 t1225.length co19)) (fun _ hk => hk.2) (.int .i64 t1221)) (fun _ hk => hk.2) (.slice Ao18 t1222.length co18)) (fun _ hk => hk.2) (.slice Ao19 t1225.length co19)) (fun _ hk => trivial), hb_⟩
  ·replace c6 := Bool.eq_false_iff.mpr c6
   subst c6
   have H1 : (some (0, ([] : List (List Int)), ([] : List Int), 5)) = some (r1, r2, r3, r4) := by rw [if_neg (show ¬ (false = true) by decide)] at H; exact H
   clear H
   have H := H1
   clear H1
   simp only [Option.some.injEq, Prod.mk.injEq] at H
   obtain ⟨rfl, rfl, rfl, rfl⟩ := H
   go_enter Try.func61, Try.ntmps61
   go_wp2_with (first | ((with_reducible refine gate_dst (N := 2) rfl ?_); refine box_event ?hg (N := 2) ?hd (cs := #[.slice A0_0 l0_0.length c0_0, .slice A0_1 l0_1.length c0_1]) (t := 56) ?hr ?_; (case hd => rfl); (case hg => rfl); (case hr => first | (go_simp; done) | (go_simp; rfl)); intro gb1218 hg w21 hbox hb; have n0_ := Aside0.mk (bs_ hb); have n1_ := Aside0.mk (hbox); have n2_ := Aside0.mk ((by rw [hg]; exact bz_ : w.heap.size ≤ gb1218)); have n3_ := Aside0.mk ((by rw [hg]; exact bz_ : w.heap.size ≤ gb1218)); clear HB; have HB := n0_; have BK1218 := n1_; have GW1218 := n2_; have GE1218 := n3_; clear n0_ n1_ n2_ n3_; clear hb hbox hg) | ((with_reducible refine gate_dst (N := 4) rfl ?_); refine box_event ?hg (N := 4) ?hd (cs := #[.int .i64 0, .slice none 0 0, .slice none 0 0]) (t := 86) ?hr ?_; (case hd => rfl); (case hg => rfl); (case hr => first | (go_simp; done) | (go_simp; rfl)); intro gb1219 hg w22 hbox hb; have n0_ := Aside0.mk (bb_ BK1218.out hb); have n1_ := Aside0.mk (bs_ hb); have n2_ := Aside0.mk (hbox); have n3_ := Aside0.mk ((by rw [hg]; exact bz_ : w.heap.size ≤ gb1219)); have n4_ := Aside0.mk ((by rw [hg]; exact bz_ : w.heap.size ≤ gb1219)); have n5_ := Aside0.mk ((by rw [hg]; exact lt_ BK1218.out : gb1218 ≠ gb1219)); have n6_ := Aside0.mk ((by rw [hg]; exact gt_ BK1218.out : gb1219 ≠ gb1218)); clear BK1218; clear HB; have BK1218 := n0_; have HB := n1_; have BK1219 := n2_; have GW1219 := n3_; have GE1219 := n4_; have NB1218_1219 := n5_; have NB1219_1218 := n6_; clear n0_ n1_ n2_ n3_ n4_ n5_ n6_; clear hb hbox hg; have hnb23 := NB1218_1219.out; have hnc23 := NB1219_1218.out; have hcz24_0 : w22.cell? ⟨gb1218, 0, none⟩ = some (.slice A0_0 l0_0.length c0_0) := (blk_cell BK1218.out 0).trans rfl; have hcz24_1 : w22.cell? ⟨gb1218, 1, none⟩ = some (.slice A0_1 l0_1.length c0_1) := (blk_cell BK1218.out 1).trans rfl; have hfz24_0 := blk_frozen BK1218.out 0; have hfz24_1 := blk_frozen BK1218.out 1) | ((with_reducible refine gate_callee (f := 118) rfl ?_); refine goesL_ (some 11) rfl rfl Try.func118 (by kernel_rfl) rfl #[.agg #[.slice A0_0 l0_0.length c0_0, .slice A0_1 l0_1.length c0_1], .int .i64 a1] rfl (by (try simp only [List.map_toArray, List.map_cons, List.map_nil]); first | done | rfl | (simp only [List.length_drop, List.length_take]; rfl)) ?_; (with_reducible refine (spec_l02Code.calls k _ _ l0_0 _ _ l0_1 a1 t1220 _ ?side1 ?side2 ?side3 ?side4 A3.out).mono ?_); (case side1 => exact cb_ HR0_0.out HB.out); (case side2 => exact HC0_0.out); (case side3 => exact cb_ HR0_1.out HB.out); (case side4 => exact HC0_1.out); rintro e w25 ⟨rfl, hb⟩; refine ⟨_, rfl, ?_⟩; have n0_ := Aside0.mk (bb_ BK1218.out hb); have n1_ := Aside0.mk (bb_ BK1219.out hb); have n2_ := Aside0.mk (bs_ hb); clear BK1218; clear BK1219; clear HB; have BK1218 := n0_; have BK1219 := n1_; have HB := n2_; clear n0_ n1_ n2_; (try clear hb); (try clear hb2); (try clear hk); (try clear hi); have hcz26_0 : w25.cell? ⟨gb1218, 0, none⟩ = some (.slice A0_0 l0_0.length c0_0) := (blk_cell BK1218.out 0).trans rfl; have hcz26_1 : w25.cell? ⟨gb1218, 1, none⟩ = some (.slice A0_1 l0_1.length c0_1) := (blk_cell BK1218.out 1).trans rfl; have hfz26_0 := blk_frozen BK1218.out 0; have hfz26_1 := blk_frozen BK1218.out 1) | ((with_reducible refine gate_callee (f := 108) rfl ?_); refine goesL_ (some 19) rfl rfl Try.func108 (by kernel_rfl) rfl #[.agg #[.slice A0_0 l0_0.length c0_0, .slice A0_1 l0_1.length c0_1], .int .i64 a1] rfl (by (try simp only [List.map_toArray, List.map_cons, List.map_nil]); first | done | rfl | (simp only [List.length_drop, List.length_take]; rfl)) ?_; (with_reducible refine (spec_l04Pivot.calls k _ _ l0_0 _ _ l0_1 a1 t1221 t1222 t1225 false _ ?side1 ?side2 ?side3 ?side4 A5.out).mono ?_); (case side1 => exact cb_ HR0_0.out HB.out); (case side2 => exact HC0_0.out); (case side3 => exact cb_ HR0_1.out HB.out); (case side4 => exact HC0_1.out); rintro e w27 ⟨v1223, v1226, rfl, ho0, ho1, hb⟩; refine ⟨_, rfl, ?_⟩; have n0_ := Aside0.mk (Kd.S_lower ho0 bz_); have n1_ := Aside0.mk (Kd.R_lower ho1 bz_); have n2_ := Aside0.mk (bb_ BK1218.out hb); have n3_ := Aside0.mk (bb_ BK1219.out hb); have n4_ := Aside0.mk (bs_ hb); clear BK1218; clear BK1219; clear HB; have HO1224 := n0_; have HO1227 := n1_; have BK1218 := n2_; have BK1219 := n3_; have HB := n4_; clear n0_ n1_ n2_ n3_ n4_; (try clear hb); (try clear hb2); (try clear hk); (try clear hi); (try clear ho0); (try clear ho1)) | ((with_reducible refine gate_dst (N := 7) rfl ?_); refine box_event ?hg (N := 7) ?hd (cs := #[.int .i64 0, .slice none 0 0, .slice none 0 0]) (t := 86) ?hr ?_; (case hd => rfl); (case hg => rfl); (case hr => first | (go_simp; done) | (go_simp; rfl)); intro gb1229 hg w28 hbox hb; have n0_ := Aside0.mk (Kd.S_below (so_ HO1224.out) hb); have n1_ := Aside0.mk (rb_ HO1227.out hb); have n2_ := Aside0.mk (bb_ BK1218.out hb); have n3_ := Aside0.mk (bb_ BK1219.out hb); have n4_ := Aside0.mk (bs_ hb); have n5_ := Aside0.mk (hbox); have n6_ := Aside0.mk ((by rw [hg]; exact bz_ : w.heap.size ≤ gb1229)); have n7_ := Aside0.mk ((by rw [hg]; exact bz_ : w.heap.size ≤ gb1229)); have n8_ := Aside0.mk ((by rw [hg]; exact lt_ BK1218.out : gb1218 ≠ gb1229)); have n9_ := Aside0.mk ((by rw [hg]; exact gt_ BK1218.out : gb1229 ≠ gb1218)); have n10_ := Aside0.mk ((by rw [hg]; exact lt_ BK1219.out : gb1219 ≠ gb1229)); have n11_ := Aside0.mk ((by rw [hg]; exact gt_ BK1219.out : gb1229 ≠ gb1219)); clear HO1224; clear HO1227; clear BK1218; clear BK1219; clear HB; have HO1224 := n0_; have HO1227 := n1_; have BK1218 := n2_; have BK1219 := n3_; have HB := n4_; have BK1229 := n5_; have GW1229 := n6_; have GE1229 := n7_; have NB1218_1229 := n8_; have NB1229_1218 := n9_; have NB1219_1229 := n10_; have NB1229_1219 := n11_; clear n0_ n1_ n2_ n3_ n4_ n5_ n6_ n7_ n8_ n9_ n10_ n11_; clear hb hbox hg; have hnb29 := NB1229_1218.out; have hnc29 := NB1218_1229.out; have hnb30 := NB1229_1219.out; have hnc30 := NB1219_1229.out; have hcz31_0 : w28.cell? ⟨gb1229, 0, none⟩ = some (.int .i64 0) := (blk_cell BK1229.out 0).trans rfl; have hcz31_1 : w28.cell? ⟨gb1229, 1, none⟩ = some (.slice none 0 0) := (blk_cell BK1229.out 1).trans rfl; have hcz31_2 : w28.cell? ⟨gb1229, 2, none⟩ = some (.slice none 0 0) := (blk_cell BK1229.out 2).trans rfl; have hfz31_0 := blk_frozen BK1229.out 0; have hfz31_1 := blk_frozen BK1229.out 1; have hfz31_2 := blk_frozen BK1229.out 2; obtain ⟨Ao32, co32, eo32⟩ := Kd.S_slice HO1224.out; subst eo32; obtain ⟨Ao33, co33, eo33⟩ := Kd.R_slice HO1227.out; subst eo33; have hcz34_0 : w28.cell? ⟨gb1219, 0, none⟩ = some (.int .i64 0) := (blk_cell BK1219.out 0).trans rfl; have hcz34_1 : w28.cell? ⟨gb1219, 1, none⟩ = some (.slice none 0 0) := (blk_cell BK1219.out 1).trans rfl; have hcz34_2 : w28.cell? ⟨gb1219, 2, none⟩ = some (.slice none 0 0) := (blk_cell BK1219.out 2).trans rfl; have hfz34_0 := blk_frozen BK1219.out 0; have hfz34_1 := blk_frozen BK1219.out 1; have hfz34_2 := blk_frozen BK1219.out 2))
   refine bodyPost_ret (results_ct rfl _ _ gb1219 86 #[.int .i64 0, .slice none 0 0, .slice none 0 0] (0, 0) _ rfl (by (with_reducible repeat (first | refine blk_drewN ?_ _ | refine blk_drew ?_ | refine blk_alloc ?_ _)); refine blk_put (cs := #[.int .i64 0, .slice none 0 0, .slice none 0 0]) ?_ 2 _ rfl; (with_reducible repeat (first | refine blk_drewN ?_ _ | refine blk_drew ?_ | refine blk_alloc ?_ _)); refine blk_put (cs := #[.int .i64 0, .slice none 0 0, .slice none 0 0]) ?_ 1 _ rfl; (with_reducible repeat (first | refine blk_drewN ?_ _ | refine blk_drew ?_ | refine blk_alloc ?_ _)); refine blk_put (cs := #[.int .i64 0, .slice none 0 0, .slice none 0 0]) ?_ 0 _ rfl; (with_reducible repeat (first | refine blk_drewN ?_ _ | refine blk_drew ?_ | refine blk_alloc ?_ _)); refine blk_far ?_ NB1219_1229.out _; (with_reducible repeat (first | refine blk_drewN ?_ _ | refine blk_drew ?_ | refine blk_alloc ?_ _)); refine blk_far ?_ NB1219_1229.out _; (with_reducible repeat (first | refine blk_drewN ?_ _ | refine blk_drew ?_ | refine blk_alloc ?_ _)); refine blk_far ?_ NB1219_1229.out _; (with_reducible repeat (first | refine blk_drewN ?_ _ | refine blk_drew ?_ | refine blk_alloc ?_ _)); exact BK1219.out) Try.underlying86 rfl (by kernel_rfl)) rfl ?_
   exact ⟨_, _, by first | rfl | (simp [errW_none, errW_some] <;> rfl) | (simp [*, errW_none, errW_some] <;> rfl), by first | exact Kd.S_nil _ _ _ _ _ | exact Kd.N_nil _ _ _ _ _ | exact Kd.V_nil _ _ _ _ _ | exact Kd.Q_nil _ _ _ _ _ | exact Kd.R_nil _ _ _ _ _, by first | exact Kd.R_nil _ _ _ _ _ | exact Kd.N_nil _ _ _ _ _ | exact Kd.V_nil _ _ _ _ _ | exact Kd.Q_nil _ _ _ _ _ | exact Kd.S_nil _ _ _ _ _, hb_⟩
 ·rw [if_neg c4] at H
  have c4b0 : (t1220 == 0) = false := beq_eq_false_iff_ne.mpr c4
  have c4b1 : (t1220 != 0) = true := bne_iff_ne.mpr c4
  simp only [Option.some.injEq, Prod.mk.injEq] at H
  obtain ⟨rfl, rfl, rfl, rfl⟩ := H
  go_enter Try.func61, Try.ntmps61
  go_wp2_with (first | ((with_reducible refine gate_dst (N := 2) rfl ?_); refine box_event ?hg (N := 2) ?hd (cs := #[.slice A0_0 l0_0.length c0_0, .slice A0_1 l0_1.length c0_1]) (t := 56) ?hr ?_; (case hd => rfl); (case hg => rfl); (case hr => first | (go_simp; done) | (go_simp; rfl)); intro gb1218 hg w35 hbox hb; have n0_ := Aside0.mk (bs_ hb); have n1_ := Aside0.mk (hbox); have n2_ := Aside0.mk ((by rw [hg]; exact bz_ : w.heap.size ≤ gb1218)); have n3_ := Aside0.mk ((by rw [hg]; exact bz_ : w.heap.size ≤ gb1218)); clear HB; have HB := n0_; have BK1218 := n1_; have GW1218 := n2_; have GE1218 := n3_; clear n0_ n1_ n2_ n3_; clear hb hbox hg) | ((with_reducible refine gate_dst (N := 4) rfl ?_); refine box_event ?hg (N := 4) ?hd (cs := #[.int .i64 0, .slice none 0 0, .slice none 0 0]) (t := 86) ?hr ?_; (case hd => rfl); (case hg => rfl); (case hr => first | (go_simp; done) | (go_simp; rfl)); intro gb1219 hg w36 hbox hb; have n0_ := Aside0.mk (bb_ BK1218.out hb); have n1_ := Aside0.mk (bs_ hb); have n2_ := Aside0.mk (hbox); have n3_ := Aside0.mk ((by rw [hg]; exact bz_ : w.heap.size ≤ gb1219)); have n4_ := Aside0.mk ((by rw [hg]; exact bz_ : w.heap.size ≤ gb1219)); have n5_ := Aside0.mk ((by rw [hg]; exact lt_ BK1218.out : gb1218 ≠ gb1219)); have n6_ := Aside0.mk ((by rw [hg]; exact gt_ BK1218.out : gb1219 ≠ gb1218)); clear BK1218; clear HB; have BK1218 := n0_; have HB := n1_; have BK1219 := n2_; have GW1219 := n3_; have GE1219 := n4_; have NB1218_1219 := n5_; have NB1219_1218 := n6_; clear n0_ n1_ n2_ n3_ n4_ n5_ n6_; clear hb hbox hg; have hnb37 := NB1218_1219.out; have hnc37 := NB1219_1218.out; have hcz38_0 : w36.cell? ⟨gb1218, 0, none⟩ = some (.slice A0_0 l0_0.length c0_0) := (blk_cell BK1218.out 0).trans rfl; have hcz38_1 : w36.cell? ⟨gb1218, 1, none⟩ = some (.slice A0_1 l0_1.length c0_1) := (blk_cell BK1218.out 1).trans rfl; have hfz38_0 := blk_frozen BK1218.out 0; have hfz38_1 := blk_frozen BK1218.out 1) | ((with_reducible refine gate_callee (f := 118) rfl ?_); refine goesL_ (some 11) rfl rfl Try.func118 (by kernel_rfl) rfl #[.agg #[.slice A0_0 l0_0.length c0_0, .slice A0_1 l0_1.length c0_1], .int .i64 a1] rfl (by (try simp only [List.map_toArray, List.map_cons, List.map_nil]); first | done | rfl | (simp only [List.length_drop, List.length_take]; rfl)) ?_; (with_reducible refine (spec_l02Code.calls k _ _ l0_0 _ _ l0_1 a1 t1220 _ ?side1 ?side2 ?side3 ?side4 A3.out).mono ?_); (case side1 => exact cb_ HR0_0.out HB.out); (case side2 => exact HC0_0.out); (case side3 => exact cb_ HR0_1.out HB.out); (case side4 => exact HC0_1.out); rintro e w39 ⟨rfl, hb⟩; refine ⟨_, rfl, ?_⟩; have n0_ := Aside0.mk (bb_ BK1218.out hb); have n1_ := Aside0.mk (bb_ BK1219.out hb); have n2_ := Aside0.mk (bs_ hb); clear BK1218; clear BK1219; clear HB; have BK1218 := n0_; have BK1219 := n1_; have HB := n2_; clear n0_ n1_ n2_; (try clear hb); (try clear hb2); (try clear hk); (try clear hi); have hcz40_0 : w39.cell? ⟨gb1219, 0, none⟩ = some (.int .i64 0) := (blk_cell BK1219.out 0).trans rfl; have hcz40_1 : w39.cell? ⟨gb1219, 1, none⟩ = some (.slice none 0 0) := (blk_cell BK1219.out 1).trans rfl; have hcz40_2 : w39.cell? ⟨gb1219, 2, none⟩ = some (.slice none 0 0) := (blk_cell BK1219.out 2).trans rfl; have hfz40_0 := blk_frozen BK1219.out 0; have hfz40_1 := blk_frozen BK1219.out 1; have hfz40_2 := blk_frozen BK1219.out 2))
  refine bodyPost_ret (results_ct rfl _ _ gb1219 86 #[.int .i64 0, .slice none 0 0, .slice none 0 0] (0, 0) _ rfl (by (with_reducible repeat (first | refine blk_drewN ?_ _ | refine blk_drew ?_ | refine blk_alloc ?_ _)); refine blk_put (cs := #[.int .i64 0, .slice none 0 0, .slice none 0 0]) ?_ 2 _ rfl; (with_reducible repeat (first | refine blk_drewN ?_ _ | refine blk_drew ?_ | refine blk_alloc ?_ _)); refine blk_put (cs := #[.int .i64 0, .slice none 0 0, .slice none 0 0]) ?_ 1 _ rfl; (with_reducible repeat (first | refine blk_drewN ?_ _ | refine blk_drew ?_ | refine blk_alloc ?_ _)); refine blk_put (cs := #[.int .i64 0, .slice none 0 0, .slice none 0 0]) ?_ 0 _ rfl; (with_reducible repeat (first | refine blk_drewN ?_ _ | refine blk_drew ?_ | refine blk_alloc ?_ _)); exact BK1219.out) Try.underlying86 rfl (by kernel_rfl)) rfl ?_
  exact ⟨_, _, by first | rfl | (simp [errW_none, errW_some] <;> rfl) | (simp [*, errW_none, errW_some] <;> rfl), by first | exact Kd.S_nil _ _ _ _ _ | exact Kd.N_nil _ _ _ _ _ | exact Kd.V_nil _ _ _ _ _ | exact Kd.Q_nil _ _ _ _ _ | exact Kd.R_nil _ _ _ _ _, by first | exact Kd.R_nil _ _ _ _ _ | exact Kd.N_nil _ _ _ _ _ | exact Kd.V_nil _ _ _ _ _ | exact Kd.Q_nil _ _ _ _ _ | exact Kd.S_nil _ _ _ _ _, hb_⟩
mutual
def spec_l04Whole.l0 : Nat → Int → Int → List (List Int) → List Int → Option (Bool)
 | 0, _, _, _, _ => none
 | k + 1, x3, x1231000, x1231001, x1231002 => if x3 < (x1231002.length : Int) then (if 0 ≤ x3 then (if x1231000 = 0 then (none) else (if (Int.tmod (rd x1231002 x3) x1231000) = 0 then (spec_l04Whole.l1 k x3 0 x1231000 x1231001 x1231002) else (some false))) else (none)) else (some true)
def spec_l04Whole.l1 : Nat → Int → Int → Int → List (List Int) → List Int → Option (Bool)
 | 0, _, _, _, _, _ => none
 | k + 1, x3, x4, x1231000, x1231001, x1231002 => if x4 < (x1231002.length : Int) then (if 0 ≤ x3 then (if x3 < (x1231001.length : Int) then (if 0 ≤ x4 then (if x4 < ((rd_L1 x1231001 x3).length : Int) then (if x1231000 = 0 then (none) else (if (Int.tmod (rd (rd_L1 x1231001 x3) x4) x1231000) = 0 then (spec_l04Whole.l1 k x3 (wrap64 (x4 + 1)) x1231000 x1231001 x1231002) else (some false))) else (none)) else (none)) else (none)) else (none)) else (spec_l04Whole.l0 k (wrap64 (x3 + 1)) x1231000 x1231001 x1231002)
end
def spec_l04Whole.f (k : Nat) (a0_0 : Int) (l0_1 : List (List Int)) (l0_2 : List Int) : Option (Bool) := spec_l04Whole.l0 k 0 a0_0 l0_1 l0_2
theorem spec_l04Whole.mono_l : ∀ k, (∀ y0 y1 y2 y3, LeO (spec_l04Whole.l0 k y0 y1 y2 y3) (spec_l04Whole.l0 (k + 1) y0 y1 y2 y3)) ∧ (∀ y0 y1 y2 y3 y4, LeO (spec_l04Whole.l1 k y0 y1 y2 y3 y4) (spec_l04Whole.l1 (k + 1) y0 y1 y2 y3 y4))
 | 0 => ⟨fun _ _ _ _ r h => by simp [spec_l04Whole.l0] at h, fun _ _ _ _ _ r h => by simp [spec_l04Whole.l1] at h⟩
 | k + 1 => by
  obtain ⟨ih0, ih1⟩ := spec_l04Whole.mono_l k
  refine ⟨?_, ?_⟩
  ·intro y0 y1 y2 y3
   unfold spec_l04Whole.l0
   repeat' first
   | (with_reducible exact ih0 _ _ _ _)
   | (with_reducible exact ih1 _ _ _ _ _)
   | (with_reducible exact LeO.refl _)
   | (with_reducible exact LeO.none _)
   | (with_reducible refine LeO.ite ?_ ?_)
   | (with_reducible refine LeO.bind ?_ (fun _ => ?_))
   | exact ih0 _ _ _ _
   | exact ih1 _ _ _ _ _
   | exact LeO.none _
   | refine LeO.ite ?_ ?_
   | refine LeO.bind ?_ (fun _ => ?_)
  ·intro y0 y1 y2 y3 y4
   unfold spec_l04Whole.l1
   repeat' first
   | (with_reducible exact ih0 _ _ _ _)
   | (with_reducible exact ih1 _ _ _ _ _)
   | (with_reducible exact LeO.refl _)
   | (with_reducible exact LeO.none _)
   | (with_reducible refine LeO.ite ?_ ?_)
   | (with_reducible refine LeO.bind ?_ (fun _ => ?_))
   | exact ih0 _ _ _ _
   | exact ih1 _ _ _ _ _
   | exact LeO.none _
   | refine LeO.ite ?_ ?_
   | refine LeO.bind ?_ (fun _ => ?_)
theorem spec_l04Whole.mono : ∀ a0 a1 a2 k, LeO (spec_l04Whole.f k a0 a1 a2) (spec_l04Whole.f (k + 1) a0 a1 a2) := by
 intro a0 a1 a2 k
 obtain ⟨ih0, ih1⟩ := spec_l04Whole.mono_l k
 unfold spec_l04Whole.f
 repeat' first
   | (with_reducible exact ih0 _ _ _ _)
   | (with_reducible exact ih1 _ _ _ _ _)
   | (with_reducible exact LeO.refl _)
   | (with_reducible exact LeO.none _)
   | (with_reducible refine LeO.ite ?_ ?_)
   | (with_reducible refine LeO.bind ?_ (fun _ => ?_))
   | exact ih0 _ _ _ _
   | exact ih1 _ _ _ _ _
   | exact LeO.none _
   | refine LeO.ite ?_ ?_
   | refine LeO.bind ?_ (fun _ => ?_)
theorem spec_l04Whole.calls (k : Nat) (a0_0 : Int) (A0_1 : Option Addr) (c0_1 : Nat) (l0_1 : List (List Int)) (A0_2 : Option Addr) (c0_2 : Nat) (l0_2 : List Int) (r : Bool) (w : World) (hr0_1 : Kd.C (Kd.slice 2 (Kd.int .i64)) w A0_1 l0_1.length l0_1) (hc0_1 : l0_1.length ≤ c0_1) (hr0_2 : Kd.C (Kd.int .i64) w A0_2 l0_2.length l0_2) (hc0_2 : l0_2.length ≤ c0_2) (h : spec_l04Whole.f k a0_0 l0_1 l0_2 = some r) :
  Calls Try.prog 111 #[.agg #[.int .i64 a0_0, .slice A0_1 l0_1.length c0_1, .slice A0_2 l0_2.length c0_2]] w fun e w' => e = .returned (.bool r) ∧ Below w.heap.size w w' := by
 have hu86 := Try.underlying86
 have HR0_1 := Aside0.mk hr0_1
 have HC0_1 := Aside0.mk hc0_1
 clear hr0_1 hc0_1
 have HR0_2 := Aside0.mk hr0_2
 have HC0_2 := Aside0.mk hc0_2
 clear hr0_2 hc0_2
 have HB := Aside0.mk (Below.refl w.heap.size w)
 have H : (spec_l04Whole.l0 k 0 a0_0 l0_1 l0_2) = some r := h
 clear h
 have H' := Aside0.mk H
 clear H
 go_enter Try.func111, Try.ntmps111
 go_wp2_with (first | ((with_reducible refine gate_dst (N := 1) rfl ?_); refine box_event ?hg (N := 1) ?hd (cs := #[.int .i64 a0_0, .slice A0_1 l0_1.length c0_1, .slice A0_2 l0_2.length c0_2]) (t := 86) ?hr ?_; (case hd => rfl); (case hg => rfl); (case hr => first | (go_simp; done) | (go_simp; rfl)); intro gb1230 hg w2 hbox hb; have n0_ := Aside0.mk (bs_ hb); have n1_ := Aside0.mk (hbox); have n2_ := Aside0.mk ((by rw [hg]; exact bz_ : w.heap.size ≤ gb1230)); have n3_ := Aside0.mk ((by rw [hg]; exact bz_ : w.heap.size ≤ gb1230)); clear HB; have HB := n0_; have BK1230 := n1_; have GW1230 := n2_; have GE1230 := n3_; clear n0_ n1_ n2_ n3_; clear hb hbox hg))
 repeat (go_quiet (first | ((with_reducible refine gate_dst (N := 1) rfl ?_); refine box_event ?hg (N := 1) ?hd (cs := #[.int .i64 a0_0, .slice A0_1 l0_1.length c0_1, .slice A0_2 l0_2.length c0_2]) (t := 86) ?hr ?_; (case hd => rfl); (case hg => rfl); (case hr => first | (go_simp; done) | (go_simp; rfl)); intro gb1230 hg w2 hbox hb; have n0_ := Aside0.mk (bs_ hb); have n1_ := Aside0.mk (hbox); have n2_ := Aside0.mk ((by rw [hg]; exact bz_ : w.heap.size ≤ gb1230)); have n3_ := Aside0.mk ((by rw [hg]; exact bz_ : w.heap.size ≤ gb1230)); clear HB; have HB := n0_; have BK1230 := n1_; have GW1230 := n2_; have GE1230 := n3_; clear n0_ n1_ n2_ n3_; clear hb hbox hg)); try go_wp2_with (first | ((with_reducible refine gate_dst (N := 1) rfl ?_); refine box_event ?hg (N := 1) ?hd (cs := #[.int .i64 a0_0, .slice A0_1 l0_1.length c0_1, .slice A0_2 l0_2.length c0_2]) (t := 86) ?hr ?_; (case hd => rfl); (case hg => rfl); (case hr => first | (go_simp; done) | (go_simp; rfl)); intro gb1230 hg w2 hbox hb; have n0_ := Aside0.mk (bs_ hb); have n1_ := Aside0.mk (hbox); have n2_ := Aside0.mk ((by rw [hg]; exact bz_ : w.heap.size ≤ gb1230)); have n3_ := Aside0.mk ((by rw [hg]; exact bz_ : w.heap.size ≤ gb1230)); clear HB; have HB := n0_; have BK1230 := n1_; have GW1230 := n2_; have GE1230 := n3_; clear n0_ n1_ n2_ n3_; clear hb hbox hg)))
 go_loopg [3] k (fun kq v3 w' => ∃ (x3_1 : Int), v3 = .int .i64 x3_1 ∧ Aside0 (spec_l04Whole.l0 kq x3_1 a0_0 l0_1 l0_2 = some r) ∧ Aside0 (kq ≤ k) ∧ Aside0 (w'.heap[gb1230]? = some (.cells #[.int .i64 a0_0, (.slice A0_1 l0_1.length c0_1), (.slice A0_2 l0_2.length c0_2)] 86 (0, 0))) ∧ Aside0 (Below w.heap.size w w'))
 case atStart => exact ⟨(0), (by first | rfl | (simp; done) | (simp [*]; done)), H', ⟨Nat.le_refl _⟩, ⟨bk_⟩, ⟨hb_⟩⟩
 case round =>
  clear H'
  try clear c1
  try clear p2
  obtain ⟨x3_1, rfl, HA, HK1, BK1230, HB⟩ := hrel
  cases gk with
  | zero => exact absurd HA.out (by simp [spec_l04Whole.l0])
  | succ k1 =>
   have H := HA.out
   clear HA
   simp only [spec_l04Whole.l0] at H
   by_cases c3 : x3_1 < (l0_2.length : Int)
   ·rw [if_pos c3] at H
    have c3b0 : decide (x3_1 < (l0_2.length : Int)) = true := decide_eq_true c3
    clear c3
    by_cases c4 : 0 ≤ x3_1
    ·rw [if_pos c4] at H
     have c4b0 : decide (0 ≤ x3_1) = true := decide_eq_true c4
     clear c4
     by_cases c5 : a0_0 = 0
     ·rw [if_pos c5] at H
      exact absurd H (by simp)
     ·rw [if_neg c5] at H
      have c5b0 : (a0_0 == 0) = false := beq_eq_false_iff_ne.mpr c5
      have c5b1 : (a0_0 != 0) = true := bne_iff_ne.mpr c5
      by_cases c6 : (Int.tmod (rd l0_2 x3_1) a0_0) = 0
      ·rw [if_pos c6] at H
       have c6b0 : ((Int.tmod (rd l0_2 x3_1) a0_0) == 0) = true := beq_iff_eq.mpr c6
       have c6b1 : ((Int.tmod (rd l0_2 x3_1) a0_0) != 0) = false := bne_eq_false_iff_eq.mpr c6
       clear c6
       have H' := Aside0.mk H
       clear H
       have hcz7_0 : wr.cell? ⟨gb1230, 0, none⟩ = some (.int .i64 a0_0) := (blk_cell BK1230.out 0).trans rfl
       have hcz7_1 : wr.cell? ⟨gb1230, 1, none⟩ = some (.slice A0_1 l0_1.length c0_1) := (blk_cell BK1230.out 1).trans rfl
       have hcz7_2 : wr.cell? ⟨gb1230, 2, none⟩ = some (.slice A0_2 l0_2.length c0_2) := (blk_cell BK1230.out 2).trans rfl
       have hfz7_0 := blk_frozen BK1230.out 0
       have hfz7_1 := blk_frozen BK1230.out 1
       have hfz7_2 := blk_frozen BK1230.out 2
       have p1231 : 0 ≤ (x3_1 : Int) := of_decide_eq_true (by first | (with_reducible assumption) | assumption)
       have q1231 : x3_1 < (l0_2.length : Int) := of_decide_eq_true (by first | (with_reducible assumption) | assumption)
       obtain ⟨ad1231, e1231, hx1231_0⟩ := Kd.at_int HR0_2.out x3_1 p1231 q1231
       cases e1231
       replace hx1231_0 := (HB.out.cell (World.block_lt_of_cell? w _ hx1231_0)).trans hx1231_0
       replace p1231 := eq_true p1231
       replace q1231 := eq_true q1231
       go_wp2
       repeat (go_quiet (fail); try go_wp2)
       go_loopg [4] k1 (fun kq v4 w' => ∃ (x4_2 : Int), v4 = .int .i64 x4_2 ∧ Aside0 (spec_l04Whole.l1 kq x3_1 x4_2 a0_0 l0_1 l0_2 = some r) ∧ Aside0 (kq ≤ k1) ∧ Aside0 (w'.heap[gb1230]? = some (.cells #[.int .i64 a0_0, (.slice A0_1 l0_1.length c0_1), (.slice (some ad1231) l0_2.length c0_2)] 86 (0, 0))) ∧ Aside0 (Below w.heap.size w w'))
       case atStart => exact ⟨(0), (by first | rfl | (simp; done) | (simp [*]; done)), H', ⟨Nat.le_refl _⟩, ⟨bk_⟩, ⟨hb_⟩⟩
       case round =>
        clear H'
        try clear c1
        try clear p1
        try clear q1
        try clear hx1
        try clear p2
        try clear c3
        try clear c3b0
        try clear c4
        try clear c4b0
        try clear c5
        try clear c5b0
        try clear c5b1
        try clear c6
        try clear c6b0
        try clear c6b1
        try clear hcz7_0
        try clear hcz7_1
        try clear hcz7_2
        try clear hfz7_0
        try clear hfz7_1
        try clear hfz7_2
        try clear hx1231_0
        try clear p1231
        try clear p2
        try clear q1231
        obtain ⟨x4_2, rfl, HA, HK2, BK1230, HB⟩ := hrel
        cases gk with
        | zero => exact absurd HA.out (by simp [spec_l04Whole.l1])
        | succ k2 =>
         have H := HA.out
         clear HA
         simp only [spec_l04Whole.l1] at H
         by_cases c8 : x4_2 < (l0_2.length : Int)
         ·rw [if_pos c8] at H
          have c8b0 : decide (x4_2 < (l0_2.length : Int)) = true := decide_eq_true c8
          clear c8
          by_cases c9 : 0 ≤ x3_1
          ·rw [if_pos c9] at H
           have c9b0 : decide (0 ≤ x3_1) = true := decide_eq_true c9
           clear c9
           by_cases c10 : x3_1 < (l0_1.length : Int)
           ·rw [if_pos c10] at H
            have c10b0 : decide (x3_1 < (l0_1.length : Int)) = true := decide_eq_true c10
            clear c10
            by_cases c11 : 0 ≤ x4_2
            ·rw [if_pos c11] at H
             have c11b0 : decide (0 ≤ x4_2) = true := decide_eq_true c11
             clear c11
             by_cases c12 : x4_2 < ((rd_L1 l0_1 x3_1).length : Int)
             ·rw [if_pos c12] at H
              have c12b0 : decide (x4_2 < ((rd_L1 l0_1 x3_1).length : Int)) = true := decide_eq_true c12
              clear c12
              by_cases c13 : a0_0 = 0
              ·rw [if_pos c13] at H
               exact absurd H (by simp)
              ·rw [if_neg c13] at H
               have c13b0 : (a0_0 == 0) = false := beq_eq_false_iff_ne.mpr c13
               have c13b1 : (a0_0 != 0) = true := bne_iff_ne.mpr c13
               by_cases c14 : (Int.tmod (rd (rd_L1 l0_1 x3_1) x4_2) a0_0) = 0
               ·rw [if_pos c14] at H
                have c14b0 : ((Int.tmod (rd (rd_L1 l0_1 x3_1) x4_2) a0_0) == 0) = true := beq_iff_eq.mpr c14
                have c14b1 : ((Int.tmod (rd (rd_L1 l0_1 x3_1) x4_2) a0_0) != 0) = false := bne_eq_false_iff_eq.mpr c14
                clear c14
                have H' := Aside0.mk H
                clear H
                have hcz15_0 : wr.cell? ⟨gb1230, 0, none⟩ = some (.int .i64 a0_0) := (blk_cell BK1230.out 0).trans rfl
                have hcz15_1 : wr.cell? ⟨gb1230, 1, none⟩ = some (.slice A0_1 l0_1.length c0_1) := (blk_cell BK1230.out 1).trans rfl
                have hcz15_2 : wr.cell? ⟨gb1230, 2, none⟩ = some (.slice (some ad1231) l0_2.length c0_2) := (blk_cell BK1230.out 2).trans rfl
                have hfz15_0 := blk_frozen BK1230.out 0
                have hfz15_1 := blk_frozen BK1230.out 1
                have hfz15_2 := blk_frozen BK1230.out 2
                have p1232 : 0 ≤ (x3_1 : Int) := of_decide_eq_true (by first | (with_reducible assumption) | assumption)
                have q1232 : x3_1 < (l0_1.length : Int) := of_decide_eq_true (by first | (with_reducible assumption) | assumption)
                obtain ⟨ad1232, A1232_0, c1232_0, e1232, hx1232_0, hl1232_0, hi1232_0⟩ := at_L1 HR0_1.out x3_1 p1232 q1232
                cases e1232
                replace hx1232_0 := (HB.out.cell (World.block_lt_of_cell? w _ hx1232_0)).trans hx1232_0
                have HR1232_0 := Aside0.mk hi1232_0
                have HC1232_0 := Aside0.mk hl1232_0
                clear hi1232_0 hl1232_0
                replace p1232 := eq_true p1232
                replace q1232 := eq_true q1232
                have p1233 : 0 ≤ (x4_2 : Int) := of_decide_eq_true (by first | (with_reducible assumption) | assumption)
                have q1233 : x4_2 < ((rd_L1 l0_1 x3_1).length : Int) := of_decide_eq_true (by first | (with_reducible assumption) | assumption)
                obtain ⟨ad1233, e1233, hx1233_0⟩ := Kd.at_int HR1232_0.out x4_2 p1233 q1233
                cases e1233
                replace hx1233_0 := (HB.out.cell (World.block_lt_of_cell? w _ hx1233_0)).trans hx1233_0
                replace p1233 := eq_true p1233
                replace q1233 := eq_true q1233
                go_wp2
                repeat (go_quiet (fail); try go_wp2)
                go_roundg k2
                case measure => have := HK1.out; have := HK2.out; omega
                case rel => exact ⟨(wrap64 (x4_2 + 1)), (by first | rfl | (simp; done) | (simp [*]; done)), H', ⟨by have := HK1.out; have := HK2.out; omega⟩, ⟨bk_⟩, ⟨hb_⟩⟩
               ·rw [if_neg c14] at H
                have c14b0 : ((Int.tmod (rd (rd_L1 l0_1 x3_1) x4_2) a0_0) == 0) = false := beq_eq_false_iff_ne.mpr c14
                have c14b1 : ((Int.tmod (rd (rd_L1 l0_1 x3_1) x4_2) a0_0) != 0) = true := bne_iff_ne.mpr c14
                obtain rfl := Option.some.inj H
                have hcz16_0 : wr.cell? ⟨gb1230, 0, none⟩ = some (.int .i64 a0_0) := (blk_cell BK1230.out 0).trans rfl
                have hcz16_1 : wr.cell? ⟨gb1230, 1, none⟩ = some (.slice A0_1 l0_1.length c0_1) := (blk_cell BK1230.out 1).trans rfl
                have hcz16_2 : wr.cell? ⟨gb1230, 2, none⟩ = some (.slice (some ad1231) l0_2.length c0_2) := (blk_cell BK1230.out 2).trans rfl
                have hfz16_0 := blk_frozen BK1230.out 0
                have hfz16_1 := blk_frozen BK1230.out 1
                have hfz16_2 := blk_frozen BK1230.out 2
                have p1232 : 0 ≤ (x3_1 : Int) := of_decide_eq_true (by first | (with_reducible assumption) | assumption)
                have q1232 : x3_1 < (l0_1.length : Int) := of_decide_eq_true (by first | (with_reducible assumption) | assumption)
                obtain ⟨ad1232, A1232_0, c1232_0, e1232, hx1232_0, hl1232_0, hi1232_0⟩ := at_L1 HR0_1.out x3_1 p1232 q1232
                cases e1232
                replace hx1232_0 := (HB.out.cell (World.block_lt_of_cell? w _ hx1232_0)).trans hx1232_0
                have HR1232_0 := Aside0.mk hi1232_0
                have HC1232_0 := Aside0.mk hl1232_0
                clear hi1232_0 hl1232_0
                replace p1232 := eq_true p1232
                replace q1232 := eq_true q1232
                have p1233 : 0 ≤ (x4_2 : Int) := of_decide_eq_true (by first | (with_reducible assumption) | assumption)
                have q1233 : x4_2 < ((rd_L1 l0_1 x3_1).length : Int) := of_decide_eq_true (by first | (with_reducible assumption) | assumption)
                obtain ⟨ad1233, e1233, hx1233_0⟩ := Kd.at_int HR1232_0.out x4_2 p1233 q1233
                cases e1233
                replace hx1233_0 := (HB.out.cell (World.block_lt_of_cell? w _ hx1233_0)).trans hx1233_0
                replace p1233 := eq_true p1233
                replace q1233 := eq_true q1233
                go_wp2
                repeat (go_quiet (fail); try go_wp2)
                go_ret
                exact ⟨by first | rfl | (simp [errW_none, errW_some] <;> rfl) | (simp [*, errW_none, errW_some] <;> rfl), hb_⟩
             ·rw [if_neg c12] at H
              exact absurd H (by simp)
            ·rw [if_neg c11] at H
             exact absurd H (by simp)
           ·rw [if_neg c10] at H
            exact absurd H (by simp)
          ·rw [if_neg c9] at H
           exact absurd H (by simp)
         ·rw [if_neg c8] at H
          have c8b0 : decide (x4_2 < (l0_2.length : Int)) = false := decide_eq_false c8
          clear c8
          have H' := Aside0.mk H
          clear H
          have hcz17_0 : wr.cell? ⟨gb1230, 0, none⟩ = some (.int .i64 a0_0) := (blk_cell BK1230.out 0).trans rfl
          have hcz17_1 : wr.cell? ⟨gb1230, 1, none⟩ = some (.slice A0_1 l0_1.length c0_1) := (blk_cell BK1230.out 1).trans rfl
          have hcz17_2 : wr.cell? ⟨gb1230, 2, none⟩ = some (.slice (some ad1231) l0_2.length c0_2) := (blk_cell BK1230.out 2).trans rfl
          have hfz17_0 := blk_frozen BK1230.out 0
          have hfz17_1 := blk_frozen BK1230.out 1
          have hfz17_2 := blk_frozen BK1230.out 2
          go_wp2
          repeat (go_quiet (fail); try go_wp2)
          go_roundg k2
          case measure => have := HK1.out; have := HK2.out; omega
          case rel => exact ⟨(wrap64 (x3_1 + 1)), (by first | rfl | (simp; done) | (simp [*]; done)), H', ⟨by have := HK1.out; have := HK2.out; omega⟩, ⟨bk_⟩, ⟨hb_⟩⟩
      ·rw [if_neg c6] at H
       have c6b0 : ((Int.tmod (rd l0_2 x3_1) a0_0) == 0) = false := beq_eq_false_iff_ne.mpr c6
       have c6b1 : ((Int.tmod (rd l0_2 x3_1) a0_0) != 0) = true := bne_iff_ne.mpr c6
       obtain rfl := Option.some.inj H
       have hcz18_0 : wr.cell? ⟨gb1230, 0, none⟩ = some (.int .i64 a0_0) := (blk_cell BK1230.out 0).trans rfl
       have hcz18_1 : wr.cell? ⟨gb1230, 1, none⟩ = some (.slice A0_1 l0_1.length c0_1) := (blk_cell BK1230.out 1).trans rfl
       have hcz18_2 : wr.cell? ⟨gb1230, 2, none⟩ = some (.slice A0_2 l0_2.length c0_2) := (blk_cell BK1230.out 2).trans rfl
       have hfz18_0 := blk_frozen BK1230.out 0
       have hfz18_1 := blk_frozen BK1230.out 1
       have hfz18_2 := blk_frozen BK1230.out 2
       have p1231 : 0 ≤ (x3_1 : Int) := of_decide_eq_true (by first | (with_reducible assumption) | assumption)
       have q1231 : x3_1 < (l0_2.length : Int) := of_decide_eq_true (by first | (with_reducible assumption) | assumption)
       obtain ⟨ad1231, e1231, hx1231_0⟩ := Kd.at_int HR0_2.out x3_1 p1231 q1231
       cases e1231
       replace hx1231_0 := (HB.out.cell (World.block_lt_of_cell? w _ hx1231_0)).trans hx1231_0
       replace p1231 := eq_true p1231
       replace q1231 := eq_true q1231
       go_wp2
       repeat (go_quiet (fail); try go_wp2)
       go_ret
       exact ⟨by first | rfl | (simp [errW_none, errW_some] <;> rfl) | (simp [*, errW_none, errW_some] <;> rfl), hb_⟩
    ·rw [if_neg c4] at H
     exact absurd H (by simp)
   ·rw [if_neg c3] at H
    have c3b0 : decide (x3_1 < (l0_2.length : Int)) = false := decide_eq_false c3
    clear c3
    obtain rfl := Option.some.inj H
    have hcz19_0 : wr.cell? ⟨gb1230, 0, none⟩ = some (.int .i64 a0_0) := (blk_cell BK1230.out 0).trans rfl
    have hcz19_1 : wr.cell? ⟨gb1230, 1, none⟩ = some (.slice A0_1 l0_1.length c0_1) := (blk_cell BK1230.out 1).trans rfl
    have hcz19_2 : wr.cell? ⟨gb1230, 2, none⟩ = some (.slice A0_2 l0_2.length c0_2) := (blk_cell BK1230.out 2).trans rfl
    have hfz19_0 := blk_frozen BK1230.out 0
    have hfz19_1 := blk_frozen BK1230.out 1
    have hfz19_2 := blk_frozen BK1230.out 2
    go_wp2
    repeat (go_quiet (fail); try go_wp2)
    go_ret
    exact ⟨by first | rfl | (simp [errW_none, errW_some] <;> rfl) | (simp [*, errW_none, errW_some] <;> rfl), hb_⟩
def spec_IsWholePivot.f (k : Nat) (l0_0 : List (List Int)) (l0_1 : List Int) (a1 : Int) : Option (Bool × Int) := (spec_PivotOf.f k l0_0 l0_1 a1).bind fun bt1235 => (if bt1235.2.2.2 = 0 then ((spec_l04Whole.f k bt1235.1 bt1235.2.1 bt1235.2.2.1).bind fun t1244 => (some (t1244, 0))) else (some (false, bt1235.2.2.2)))
theorem spec_IsWholePivot.mono : ∀ a0 a1 a2 k, LeO (spec_IsWholePivot.f k a0 a1 a2) (spec_IsWholePivot.f (k + 1) a0 a1 a2) := by
 intro a0 a1 a2 k
 unfold spec_IsWholePivot.f
 repeat' first
   | (with_reducible exact spec_PivotOf.mono _ _ _ _)
   | (with_reducible exact spec_l04Whole.mono _ _ _ _)
   | (with_reducible exact LeO.refl _)
   | (with_reducible exact LeO.none _)
   | (with_reducible refine LeO.ite ?_ ?_)
   | (with_reducible refine LeO.bind ?_ (fun _ => ?_))
   | exact spec_PivotOf.mono _ _ _ _
   | exact spec_l04Whole.mono _ _ _ _
   | exact LeO.none _
   | refine LeO.ite ?_ ?_
   | refine LeO.bind ?_ (fun _ => ?_)
theorem spec_IsWholePivot.calls (k : Nat) (A0_0 : Option Addr) (c0_0 : Nat) (l0_0 : List (List Int)) (A0_1 : Option Addr) (c0_1 : Nat) (l0_1 : List Int) (a1 : Int) (r1 : Bool) (r2 : Int) (w : World) (hr0_0 : Kd.C (Kd.slice 2 (Kd.int .i64)) w A0_0 l0_0.length l0_0) (hc0_0 : l0_0.length ≤ c0_0) (hr0_1 : Kd.C (Kd.int .i64) w A0_1 l0_1.length l0_1) (hc0_1 : l0_1.length ≤ c0_1) (h : spec_IsWholePivot.f k l0_0 l0_1 a1 = some (r1, r2)) :
  Calls Try.prog 57 #[.agg #[.slice A0_0 l0_0.length c0_0, .slice A0_1 l0_1.length c0_1], .int .i64 a1] w fun e w' => e = .returned (.tuple #[.bool r1, .int .i64 r2]) ∧ Below w.heap.size w w' := by
 have hu56 := Try.underlying56
 have hu86 := Try.underlying86
 have HR0_0 := Aside0.mk hr0_0
 have HC0_0 := Aside0.mk hc0_0
 clear hr0_0 hc0_0
 have HR0_1 := Aside0.mk hr0_1
 have HC0_1 := Aside0.mk hc0_1
 clear hr0_1 hc0_1
 have HB := Aside0.mk (Below.refl w.heap.size w)
 have H : ((spec_PivotOf.f k l0_0 l0_1 a1).bind fun bt1235 => (if bt1235.2.2.2 = 0 then ((spec_l04Whole.f k bt1235.1 bt1235.2.1 bt1235.2.2.1).bind fun t1244 => (some (t1244, 0))) else (some (false, bt1235.2.2.2)))) = some (r1, r2) := h
 clear h
 replace H := Option.bind_eq_some_iff.mp H
 obtain ⟨⟨t1235, t1236, t1239, t1242⟩, A30, H⟩ := H
 replace H : (if t1242 = 0 then ((spec_l04Whole.f k t1235 t1236 t1239).bind fun t1244 => (some (t1244, 0))) else (some (false, t1242))) = some (r1, r2) := H
 have A3 := Aside0.mk A30
 clear A30
 by_cases c4 : t1242 = 0
 ·rw [if_pos c4] at H
  have c4b0 : (t1242 == 0) = true := beq_iff_eq.mpr c4
  have c4b1 : (t1242 != 0) = false := bne_eq_false_iff_eq.mpr c4
  clear c4
  replace H := Option.bind_eq_some_iff.mp H
  obtain ⟨t1244, A50, H⟩ := H
  replace H : (some (t1244, 0)) = some (r1, r2) := H
  have A5 := Aside0.mk A50
  clear A50
  simp only [Option.some.injEq, Prod.mk.injEq] at H
  obtain ⟨rfl, rfl⟩ := H
  go_enter Try.func57, Try.ntmps57
  go_wp2_with (first | ((with_reducible refine gate_dst (N := 2) rfl ?_); refine box_event ?hg (N := 2) ?hd (cs := #[.slice A0_0 l0_0.length c0_0, .slice A0_1 l0_1.length c0_1]) (t := 56) ?hr ?_; (case hd => rfl); (case hg => rfl); (case hr => first | (go_simp; done) | (go_simp; rfl)); intro gb1234 hg w6 hbox hb; have n0_ := Aside0.mk (bs_ hb); have n1_ := Aside0.mk (hbox); have n2_ := Aside0.mk ((by rw [hg]; exact bz_ : w.heap.size ≤ gb1234)); have n3_ := Aside0.mk ((by rw [hg]; exact bz_ : w.heap.size ≤ gb1234)); clear HB; have HB := n0_; have BK1234 := n1_; have GW1234 := n2_; have GE1234 := n3_; clear n0_ n1_ n2_ n3_; clear hb hbox hg; have hcz7_0 : w6.cell? ⟨gb1234, 0, none⟩ = some (.slice A0_0 l0_0.length c0_0) := (blk_cell BK1234.out 0).trans rfl; have hcz7_1 : w6.cell? ⟨gb1234, 1, none⟩ = some (.slice A0_1 l0_1.length c0_1) := (blk_cell BK1234.out 1).trans rfl; have hfz7_0 := blk_frozen BK1234.out 0; have hfz7_1 := blk_frozen BK1234.out 1) | ((with_reducible refine gate_callee (f := 61) rfl ?_); refine goesL_ (some 11) rfl rfl Try.func61 (by kernel_rfl) rfl #[.agg #[.slice A0_0 l0_0.length c0_0, .slice A0_1 l0_1.length c0_1], .int .i64 a1] rfl (by (try simp only [List.map_toArray, List.map_cons, List.map_nil]); first | done | rfl | (simp only [List.length_drop, List.length_take]; rfl)) ?_; (with_reducible refine (spec_PivotOf.calls k _ _ l0_0 _ _ l0_1 a1 t1235 t1236 t1239 t1242 _ ?side1 ?side2 ?side3 ?side4 A3.out).mono ?_); (case side1 => exact cb_ HR0_0.out HB.out); (case side2 => exact HC0_0.out); (case side3 => exact cb_ HR0_1.out HB.out); (case side4 => exact HC0_1.out); rintro e w8 ⟨v1237, v1240, rfl, ho0, ho1, hb⟩; refine ⟨_, rfl, ?_⟩; have n0_ := Aside0.mk (Kd.S_lower ho0 bz_); have n1_ := Aside0.mk (Kd.R_lower ho1 bz_); have n2_ := Aside0.mk (bb_ BK1234.out hb); have n3_ := Aside0.mk (bs_ hb); clear BK1234; clear HB; have HO1238 := n0_; have HO1241 := n1_; have BK1234 := n2_; have HB := n3_; clear n0_ n1_ n2_ n3_; (try clear hb); (try clear hb2); (try clear hk); (try clear hi); (try clear ho0); (try clear ho1)) | ((with_reducible refine gate_dst (N := 6) rfl ?_); refine box_event ?hg (N := 6) ?hd (cs := #[.int .i64 0, .slice none 0 0, .slice none 0 0]) (t := 86) ?hr ?_; (case hd => rfl); (case hg => rfl); (case hr => first | (go_simp; done) | (go_simp; rfl)); intro gb1243 hg w9 hbox hb; have n0_ := Aside0.mk (Kd.S_below (so_ HO1238.out) hb); have n1_ := Aside0.mk (rb_ HO1241.out hb); have n2_ := Aside0.mk (bb_ BK1234.out hb); have n3_ := Aside0.mk (bs_ hb); have n4_ := Aside0.mk (hbox); have n5_ := Aside0.mk ((by rw [hg]; exact bz_ : w.heap.size ≤ gb1243)); have n6_ := Aside0.mk ((by rw [hg]; exact bz_ : w.heap.size ≤ gb1243)); have n7_ := Aside0.mk ((by rw [hg]; exact lt_ BK1234.out : gb1234 ≠ gb1243)); have n8_ := Aside0.mk ((by rw [hg]; exact gt_ BK1234.out : gb1243 ≠ gb1234)); clear HO1238; clear HO1241; clear BK1234; clear HB; have HO1238 := n0_; have HO1241 := n1_; have BK1234 := n2_; have HB := n3_; have BK1243 := n4_; have GW1243 := n5_; have GE1243 := n6_; have NB1234_1243 := n7_; have NB1243_1234 := n8_; clear n0_ n1_ n2_ n3_ n4_ n5_ n6_ n7_ n8_; clear hb hbox hg; have hnb10 := NB1243_1234.out; have hnc10 := NB1234_1243.out; have hcz11_0 : w9.cell? ⟨gb1243, 0, none⟩ = some (.int .i64 0) := (blk_cell BK1243.out 0).trans rfl; have hcz11_1 : w9.cell? ⟨gb1243, 1, none⟩ = some (.slice none 0 0) := (blk_cell BK1243.out 1).trans rfl; have hcz11_2 : w9.cell? ⟨gb1243, 2, none⟩ = some (.slice none 0 0) := (blk_cell BK1243.out 2).trans rfl; have hfz11_0 := blk_frozen BK1243.out 0; have hfz11_1 := blk_frozen BK1243.out 1; have hfz11_2 := blk_frozen BK1243.out 2; obtain ⟨Ao12, co12, eo12⟩ := Kd.S_slice HO1238.out; subst eo12; obtain ⟨Ao13, co13, eo13⟩ := Kd.R_slice HO1241.out; subst eo13) | ((with_reducible refine gate_callee (f := 111) rfl ?_); refine goesL_ (some 18) rfl rfl Try.func111 (by kernel_rfl) rfl #[.agg #[.int .i64 t1235, .slice Ao12 t1236.length co12, .slice Ao13 t1239.length co13]] rfl (by (try simp only [List.map_toArray, List.map_cons, List.map_nil]); first | done | rfl | (simp only [List.length_drop, List.length_take]; rfl)) ?_; (with_reducible refine (spec_l04Whole.calls k t1235 _ _ t1236 _ _ t1239 t1244 _ ?side1 ?side2 ?side3 ?side4 A5.out).mono ?_); (case side1 => refine (Kd.S_reads' (e := 33) (base := w.heap.size) (ok := fun k_ => some k_ ≠ (.slice Ao13 t1239.length co13 : Value).ownBlock) (n := t1236.length) (c := co12) ?_).2.2; exact (by (with_reducible repeat (first | apply Kd.S_alloc | apply Kd.S_drewN | apply Kd.S_drew)); exact (Kd.S_mono (Kd.S_far (p := ⟨gb1243, 2, none⟩) (Kd.S_far (p := ⟨gb1243, 1, none⟩) (Kd.S_far (p := ⟨gb1243, 0, none⟩) (Kd.S_types HO1238.out BK1243.out (by decide)) (fun _ hk => hk.2) (.int .i64 t1235)) (fun _ hk => hk.2) (.slice Ao12 t1236.length co12)) (fun _ hk => hk.2) (.slice Ao13 t1239.length co13)) (fun _ h_ => h_.1)))); (case side2 => exact (Kd.S_reads' HO1238.out).2.1); (case side3 => refine (Kd.R_reads' (e := 2) (base := w.heap.size) (ok := fun k_ => True) (n := t1239.length) (c := co13) ?_).2.2; exact (by (with_reducible repeat (first | apply Kd.R_alloc | apply Kd.R_drewN | apply Kd.R_drew)); exact (Kd.R_mono (Kd.R_far (p := ⟨gb1243, 2, none⟩) (Kd.R_far (p := ⟨gb1243, 1, none⟩) (Kd.R_far (p := ⟨gb1243, 0, none⟩) (Kd.R_types HO1241.out BK1243.out (by decide)) (fun _ hk => hk.2) (.int .i64 t1235)) (fun _ hk => hk.2) (.slice Ao12 t1236.length co12)) (fun _ hk => hk.2) (.slice Ao13 t1239.length co13)) (fun _ h_ => h_.1)))); (case side4 => exact (Kd.R_reads' HO1241.out).2.1); rintro e w14 ⟨rfl, hb⟩; refine ⟨_, rfl, ?_⟩; have n0_ := Aside0.mk (Kd.S_below (by (with_reducible repeat (first | apply Kd.S_alloc | apply Kd.S_drewN | apply Kd.S_drew)); exact (Kd.S_mono (Kd.S_far (p := ⟨gb1243, 2, none⟩) (Kd.S_far (p := ⟨gb1243, 1, none⟩) (Kd.S_far (p := ⟨gb1243, 0, none⟩) (Kd.S_types HO1238.out BK1243.out (by decide)) (fun _ hk => hk.2) (.int .i64 t1235)) (fun _ hk => hk.2) (.slice Ao12 t1236.length co12)) (fun _ hk => hk.2) (.slice Ao13 t1239.length co13)) (fun _ h_ => h_.1))) hb); have n1_ := Aside0.mk (Kd.R_below (by (with_reducible repeat (first | apply Kd.R_alloc | apply Kd.R_drewN | apply Kd.R_drew)); exact (Kd.R_mono (Kd.R_far (p := ⟨gb1243, 2, none⟩) (Kd.R_far (p := ⟨gb1243, 1, none⟩) (Kd.R_far (p := ⟨gb1243, 0, none⟩) (Kd.R_types HO1241.out BK1243.out (by decide)) (fun _ hk => hk.2) (.int .i64 t1235)) (fun _ hk => hk.2) (.slice Ao12 t1236.length co12)) (fun _ hk => hk.2) (.slice Ao13 t1239.length co13)) (fun _ h_ => h_.1))) hb); have n2_ := Aside0.mk (blk_below (g := gb1234) (o := .cells #[.slice A0_0 l0_0.length c0_0, .slice A0_1 l0_1.length c0_1] 56 (0, 0)) (by (with_reducible repeat (first | refine blk_drewN ?_ _ | refine blk_drew ?_ | refine blk_alloc ?_ _)); refine blk_far ?_ NB1234_1243.out _; (with_reducible repeat (first | refine blk_drewN ?_ _ | refine blk_drew ?_ | refine blk_alloc ?_ _)); refine blk_far ?_ NB1234_1243.out _; (with_reducible repeat (first | refine blk_drewN ?_ _ | refine blk_drew ?_ | refine blk_alloc ?_ _)); refine blk_far ?_ NB1234_1243.out _; (with_reducible repeat (first | refine blk_drewN ?_ _ | refine blk_drew ?_ | refine blk_alloc ?_ _)); exact BK1234.out) hb); have n3_ := Aside0.mk (blk_below (g := gb1243) (o := .cells #[.int .i64 t1235, .slice Ao12 t1236.length co12, .slice Ao13 t1239.length co13] 86 (0, 0)) (by (with_reducible repeat (first | refine blk_drewN ?_ _ | refine blk_drew ?_ | refine blk_alloc ?_ _)); refine blk_put (cs := #[.int .i64 t1235, .slice Ao12 t1236.length co12, .slice none 0 0]) ?_ 2 _ rfl; (with_reducible repeat (first | refine blk_drewN ?_ _ | refine blk_drew ?_ | refine blk_alloc ?_ _)); refine blk_put (cs := #[.int .i64 t1235, .slice none 0 0, .slice none 0 0]) ?_ 1 _ rfl; (with_reducible repeat (first | refine blk_drewN ?_ _ | refine blk_drew ?_ | refine blk_alloc ?_ _)); refine blk_put (cs := #[.int .i64 0, .slice none 0 0, .slice none 0 0]) ?_ 0 _ rfl; (with_reducible repeat (first | refine blk_drewN ?_ _ | refine blk_drew ?_ | refine blk_alloc ?_ _)); exact BK1243.out) hb); have n4_ := Aside0.mk (bs_ hb); clear HO1238; clear HO1241; clear BK1234; clear BK1243; clear HB; have HO1238 := n0_; have HO1241 := n1_; have BK1234 := n2_; have BK1243 := n3_; have HB := n4_; clear n0_ n1_ n2_ n3_ n4_; (try clear hb); (try clear hb2); (try clear hk); (try clear hi)))
  go_ret2
  exact ⟨by first | rfl | (simp [errW_none, errW_some] <;> rfl) | (simp [*, errW_none, errW_some] <;> rfl), hb_⟩
 ·rw [if_neg c4] at H
  have c4b0 : (t1242 == 0) = false := beq_eq_false_iff_ne.mpr c4
  have c4b1 : (t1242 != 0) = true := bne_iff_ne.mpr c4
  simp only [Option.some.injEq, Prod.mk.injEq] at H
  obtain ⟨rfl, rfl⟩ := H
  go_enter Try.func57, Try.ntmps57
  go_wp2_with (first | ((with_reducible refine gate_dst (N := 2) rfl ?_); refine box_event ?hg (N := 2) ?hd (cs := #[.slice A0_0 l0_0.length c0_0, .slice A0_1 l0_1.length c0_1]) (t := 56) ?hr ?_; (case hd => rfl); (case hg => rfl); (case hr => first | (go_simp; done) | (go_simp; rfl)); intro gb1234 hg w15 hbox hb; have n0_ := Aside0.mk (bs_ hb); have n1_ := Aside0.mk (hbox); have n2_ := Aside0.mk ((by rw [hg]; exact bz_ : w.heap.size ≤ gb1234)); have n3_ := Aside0.mk ((by rw [hg]; exact bz_ : w.heap.size ≤ gb1234)); clear HB; have HB := n0_; have BK1234 := n1_; have GW1234 := n2_; have GE1234 := n3_; clear n0_ n1_ n2_ n3_; clear hb hbox hg; have hcz16_0 : w15.cell? ⟨gb1234, 0, none⟩ = some (.slice A0_0 l0_0.length c0_0) := (blk_cell BK1234.out 0).trans rfl; have hcz16_1 : w15.cell? ⟨gb1234, 1, none⟩ = some (.slice A0_1 l0_1.length c0_1) := (blk_cell BK1234.out 1).trans rfl; have hfz16_0 := blk_frozen BK1234.out 0; have hfz16_1 := blk_frozen BK1234.out 1) | ((with_reducible refine gate_callee (f := 61) rfl ?_); refine goesL_ (some 11) rfl rfl Try.func61 (by kernel_rfl) rfl #[.agg #[.slice A0_0 l0_0.length c0_0, .slice A0_1 l0_1.length c0_1], .int .i64 a1] rfl (by (try simp only [List.map_toArray, List.map_cons, List.map_nil]); first | done | rfl | (simp only [List.length_drop, List.length_take]; rfl)) ?_; (with_reducible refine (spec_PivotOf.calls k _ _ l0_0 _ _ l0_1 a1 t1235 t1236 t1239 t1242 _ ?side1 ?side2 ?side3 ?side4 A3.out).mono ?_); (case side1 => exact cb_ HR0_0.out HB.out); (case side2 => exact HC0_0.out); (case side3 => exact cb_ HR0_1.out HB.out); (case side4 => exact HC0_1.out); rintro e w17 ⟨v1237, v1240, rfl, ho0, ho1, hb⟩; refine ⟨_, rfl, ?_⟩; have n0_ := Aside0.mk (Kd.S_lower ho0 bz_); have n1_ := Aside0.mk (Kd.R_lower ho1 bz_); have n2_ := Aside0.mk (bb_ BK1234.out hb); have n3_ := Aside0.mk (bs_ hb); clear BK1234; clear HB; have HO1238 := n0_; have HO1241 := n1_; have BK1234 := n2_; have HB := n3_; clear n0_ n1_ n2_ n3_; (try clear hb); (try clear hb2); (try clear hk); (try clear hi); (try clear ho0); (try clear ho1)) | ((with_reducible refine gate_dst (N := 6) rfl ?_); refine box_event ?hg (N := 6) ?hd (cs := #[.int .i64 0, .slice none 0 0, .slice none 0 0]) (t := 86) ?hr ?_; (case hd => rfl); (case hg => rfl); (case hr => first | (go_simp; done) | (go_simp; rfl)); intro gb1243 hg w18 hbox hb; have n0_ := Aside0.mk (Kd.S_below (so_ HO1238.out) hb); have n1_ := Aside0.mk (rb_ HO1241.out hb); have n2_ := Aside0.mk (bb_ BK1234.out hb); have n3_ := Aside0.mk (bs_ hb); have n4_ := Aside0.mk (hbox); have n5_ := Aside0.mk ((by rw [hg]; exact bz_ : w.heap.size ≤ gb1243)); have n6_ := Aside0.mk ((by rw [hg]; exact bz_ : w.heap.size ≤ gb1243)); have n7_ := Aside0.mk ((by rw [hg]; exact lt_ BK1234.out : gb1234 ≠ gb1243)); have n8_ := Aside0.mk ((by rw [hg]; exact gt_ BK1234.out : gb1243 ≠ gb1234)); clear HO1238; clear HO1241; clear BK1234; clear HB; have HO1238 := n0_; have HO1241 := n1_; have BK1234 := n2_; have HB := n3_; have BK1243 := n4_; have GW1243 := n5_; have GE1243 := n6_; have NB1234_1243 := n7_; have NB1243_1234 := n8_; clear n0_ n1_ n2_ n3_ n4_ n5_ n6_ n7_ n8_; clear hb hbox hg; have hnb19 := NB1243_1234.out; have hnc19 := NB1234_1243.out; have hcz20_0 : w18.cell? ⟨gb1243, 0, none⟩ = some (.int .i64 0) := (blk_cell BK1243.out 0).trans rfl; have hcz20_1 : w18.cell? ⟨gb1243, 1, none⟩ = some (.slice none 0 0) := (blk_cell BK1243.out 1).trans rfl; have hcz20_2 : w18.cell? ⟨gb1243, 2, none⟩ = some (.slice none 0 0) := (blk_cell BK1243.out 2).trans rfl; have hfz20_0 := blk_frozen BK1243.out 0; have hfz20_1 := blk_frozen BK1243.out 1; have hfz20_2 := blk_frozen BK1243.out 2; obtain ⟨Ao21, co21, eo21⟩ := Kd.S_slice HO1238.out; subst eo21; obtain ⟨Ao22, co22, eo22⟩ := Kd.R_slice HO1241.out; subst eo22))
  go_ret2
  exact ⟨by first | rfl | (simp [errW_none, errW_some] <;> rfl) | (simp [*, errW_none, errW_some] <;> rfl), hb_⟩
def impl_within.f (a0 : Int) (a1 : Int) (a2 : Int) : Option (Bool) := if a0 ≥ a1 then (some (decide (a0 ≤ a2))) else (some false)
theorem impl_within.calls (a0 : Int) (a1 : Int) (a2 : Int) (r : Bool) (w : World) (h : impl_within.f a0 a1 a2 = some r) :
  Calls Try.prog 93 #[.int .i64 a0, .int .i64 a1, .int .i64 a2] w fun e w' => e = .returned (.bool r) ∧ Drawn0 w w' := by
 have H : (if a0 ≥ a1 then (some (decide (a0 ≤ a2))) else (some false)) = some r := h
 clear h
 by_cases c4 : a0 ≥ a1
 ·rw [if_pos c4] at H
  have c4b0 : decide (a1 ≤ a0) = true := decide_eq_true c4
  clear c4
  obtain rfl := Option.some.inj H
  go_enter Try.func93, Try.ntmps93
  go_wp2
  go_ret
  exact ⟨by first | rfl | (simp; done) | (simp [*]; done), by repeat (first | exact Drawn0.refl _ | apply Drawn0.step)⟩
 ·rw [if_neg c4] at H
  have c4b0 : decide (a1 ≤ a0) = false := decide_eq_false c4
  clear c4
  obtain rfl := Option.some.inj H
  go_enter Try.func93, Try.ntmps93
  go_wp2
  go_ret
  exact ⟨by first | rfl | (simp; done) | (simp [*]; done), by repeat (first | exact Drawn0.refl _ | apply Drawn0.step)⟩
end Go.Proofs.Ytjjbhdpjnjncbaa.Pr
end
section
namespace Go.Proofs.Ytjjbhdpjnjncbaa.Pr
open Go.RowKit Go.Proofs.YtjjbhdpjnjncbaaW.PrintWords Go.Proofs.YtjjbhdpjnjncbaaW.PrintLast Go.Proofs.YtjjbhdpjnjncbaaW.PrintMore
def RowsPred (g : Nat) (lb : Array Value) (p : List Int → Bool) (w : World) (l : List (List Int)) : Prop :=
 ∀ (W : World) (A : Option Addr) (c : Nat) (x : List Int), x ∈ l → Below w.heap.size w W → x.length ≤ c → Kd.C (Kd.int .i64) W A x.length x → Calls Try.prog g (#[.slice A x.length c] ++ lb) W fun e w' => e = .returned (.bool (p x)) ∧ Below W.heap.size W w'
theorem indexFuncRows (p : List Int → Bool) (g : Nat) (lb : Array Value) (eg : ∀ args w, (callFunc g args).run Try.prog w = .ok (.enter g args) w) (A : Option Addr) (c : Nat) (l : List (List Int)) (w : World)
  (hr : Kd.C (Kd.slice 2 (Kd.int .i64)) w A l.length l) (hp : RowsPred g lb p w l) :
  Calls Try.prog 161 #[.slice A l.length c, .func (.func g) #[] lb] w fun e w' => e = .returned (.int .i64 (idxP p l 0)) ∧ Below w.heap.size w w' := by
 have HR := Aside0.mk hr
 have HP := Aside0.mk hp
 have hbig : l.length ≤ 9223372036854775807 := hr.2.1
 clear hr hp
 go_enter Try.func161, Try.ntmps161
 go_wp2
 go_loopg [5, 8] l.length (fun gg _ s8 wr => ∃ kk : Nat, kk ≤ l.length ∧ l.length - kk ≤ gg ∧ s8 = .int .i64 kk ∧ Aside0 (Below w.heap.size w wr) ∧ Aside0 (∀ j (hj : j < l.length), j < kk → p l[j] = false))
 case atStart => exact ⟨0, Nat.zero_le _, by omega, rfl, ⟨Below.refl _ w⟩, ⟨fun j _ hj => absurd hj (Nat.not_lt_zero _)⟩⟩
 case round =>
  obtain ⟨kk, hkk, hg, rfl, BW, F⟩ := hrel
  by_cases hlt : kk < l.length
  ·obtain ⟨ad, A', c', e, hx, hc', hi⟩ := at_L1 HR.out kk (by omega) (by omega)
   cases e
   rw [Int.toNat_natCast] at hx
   have hx' := (BW.out.cell (World.block_lt_of_cell? w _ hx)).trans hx
   clear hx
   have hel : rd_L1 l (kk : Int) = l[kk] := by simp [rd_L1, hlt]
   have hcall := HP.out wr A' c' l[kk] (List.getElem_mem hlt) BW.out (by rw [← hel]; exact hc') (by rw [← hel]; exact Kd.C_below hi BW.out)
   rw [hel] at hx' hc' hi
   have HI := Aside0.mk hi
   have HC := Aside0.mk hc'
   clear hi hc' hel
   have hltz : (kk : Int) < (l.length : Int) := by omega
   have h0z : (0 : Int) ≤ (kk : Int) := by omega
   generalize hy : l[kk] = y at hx' hcall HI HC
   have HY := Aside0.mk hy
   clear hy
   cases hq : p y with
   | true =>
    rw [hq] at hcall
    have HQ := Aside0.mk hq
    clear hq
    go_wp2_with fail
    refine hcall.mono ?_
    rintro e w' ⟨rfl, hb'⟩
    clear hcall
    go_wp2
    go_ret
    refine ⟨?_, Below.trans BW.out (hb'.mono BW.out.size)⟩
    rw [idxP_hit p l kk hlt F.out (by rw [HY.out]; exact HQ.out)]
    rfl
   | false =>
    rw [hq] at hcall
    have HQ := Aside0.mk hq
    clear hq
    go_wp2_with fail
    refine hcall.mono ?_
    rintro e w' ⟨rfl, hb'⟩
    clear hcall
    go_wp2
    go_roundg (l.length - (kk + 1))
    case measure => omega
    case rel =>
     refine ⟨kk + 1, by omega, by omega, by go_num, ⟨Below.trans BW.out (hb'.mono BW.out.size)⟩, ⟨fun j hj hjk => ?_⟩⟩
     by_cases e : j = kk
     ·subst e
      rw [HY.out]; exact HQ.out
     ·exact F.out j hj (by omega)
  ·have hltz : ¬ (kk : Int) < (l.length : Int) := by omega
   obtain rfl : kk = l.length := by omega
   go_wp2
   go_ret
   refine ⟨?_, BW.out⟩
   rw [idxP_miss p l (fun i hi => F.out i hi hi)]
   rfl
theorem containsFuncRows (p : List Int → Bool) (g : Nat) (lb : Array Value) (eg : ∀ args w, (callFunc g args).run Try.prog w = .ok (.enter g args) w) (A : Option Addr) (c : Nat) (l : List (List Int)) (w : World)
  (hr : Kd.C (Kd.slice 2 (Kd.int .i64)) w A l.length l) (hp : RowsPred g lb p w l) :
  Calls Try.prog 152 #[.slice A l.length c, .func (.func g) #[] lb] w fun e w' => e = .returned (.bool (l.any p)) ∧ Below w.heap.size w w' := by
 rw [← idxP_nonneg p l 0 (Int.le_refl _)]
 have HR := Aside0.mk hr
 have HP := Aside0.mk hp
 clear hr hp
 go_enter Try.func152, Try.ntmps152
 go_wp2_with fail
 refine (indexFuncRows p g lb eg A c l _ HR.out HP.out).mono ?_
 rintro e w' ⟨rfl, hb'⟩
 go_wp2
 go_ret
 exact ⟨rfl, hb'⟩
end Go.Proofs.Ytjjbhdpjnjncbaa.Pr
end
section
namespace Go.Proofs.Ytjjbhdpjnjncbaa.Pr
open Go.RowKit Go.Proofs.YtjjbhdpjnjncbaaW.PrintWords Go.Proofs.YtjjbhdpjnjncbaaW.PrintLast Go.Proofs.YtjjbhdpjnjncbaaW.PrintMore
def badL (k : Int) (row : List Int) : Bool := (row.length : Int) != k
theorem isSquare1 (gb : Nat) (k : Int) (A : Option Addr) (c : Nat) (x : List Int) (w : World) (hb : w.cell? ⟨gb, 0, none⟩ = some (.int .i64 k)) :
  Calls Try.prog 175 (#[.slice A x.length c] ++ #[.pointer (some ⟨gb, 0, none⟩)]) w fun e w' => e = .returned (.bool (badL k x)) ∧ Below w.heap.size w w' := by
 unfold badL
 show Calls Try.prog 175 #[.slice A x.length c, .pointer (some ⟨gb, 0, none⟩)] w _
 by_cases e : (x.length : Int) = k
 ·have h1 : ((x.length : Int) != k) = false := by simp [e]
  have h2 : ((x.length : Int) == k) = true := by simp [e]
  clear e
  go_enter Try.func175, Try.ntmps175
  go_wp2
  go_ret
  exact ⟨by rw [h1]; rfl, Below.refl _ _⟩
 ·have h1 : ((x.length : Int) != k) = true := by simp [e]
  have h2 : ((x.length : Int) == k) = false := by simp [e]
  clear e
  go_enter Try.func175, Try.ntmps175
  go_wp2
  go_ret
  exact ⟨by rw [h1]; rfl, Below.refl _ _⟩
theorem isSquare1_enters : ∀ args w, (callFunc 175 args).run Try.prog w = .ok (.enter 175 args) w := enters_fn Try.func175 (by kernel_rfl) rfl
def impl_isSquare.f (l0 : List (List Int)) (a1 : Int) : Option Bool := some (((l0.length : Int) == a1) && !(l0.any (badL a1)))
theorem impl_isSquare.calls (A0 : Option Addr) (c0 : Nat) (l0 : List (List Int)) (a1 : Int) (r : Bool) (w : World) (hr0 : Kd.C (Kd.slice 2 (Kd.int .i64)) w A0 l0.length l0) (hc0 : l0.length ≤ c0) (h : impl_isSquare.f l0 a1 = some r) :
  Calls Try.prog 156 #[.slice A0 l0.length c0, .int .i64 a1] w fun e w' => e = .returned (.bool r) ∧ Below w.heap.size w w' := by
 have HR := Aside0.mk hr0
 clear hr0 hc0
 have hv := (Option.some.inj h)
 clear h
 by_cases e : (l0.length : Int) = a1
 ·have h1 : ((l0.length : Int) == a1) = true := by simp [e]
  rw [h1, Bool.true_and] at hv
  have HV := Aside0.mk hv
  clear hv e
  have hcall := fun (gb : Nat) W (hW : Below w.heap.size w W) (hgb : gb < W.heap.size) (hcell : W.cell? ⟨gb, 0, none⟩ = some (.int .i64 a1)) =>
   containsFuncRows (badL a1) 175 #[.pointer (some ⟨gb, 0, none⟩)] isSquare1_enters A0 c0 l0 W (Kd.C_below HR.out hW)
    (fun W' A c x _ hb _ hC => isSquare1 gb a1 A c x W' ((hb.cell (p := ⟨gb, 0, none⟩) hgb).trans hcell))
  have HC := Aside0.mk hcall
  clear hcall
  generalize l0.any (badL a1) = b at HC HV
  go_enter Try.func156, Try.ntmps156
  go_wp2_with fail
  refine (HC.out _ _ ((Below.refl _ _).alloc (Nat.le_refl _) _) (by simp) (by simp)).mono ?_
  rintro e w' ⟨rfl, hb'⟩
  go_wp2
  go_ret
  exact ⟨by rw [← HV.out]; rfl, ((Below.refl _ _).alloc (Nat.le_refl _) _).trans (hb'.mono (by simp))⟩
 ·have h1 : ((l0.length : Int) == a1) = false := by simp [e]
  rw [h1, Bool.false_and] at hv
  have HV := Aside0.mk hv
  clear hv e
  go_enter Try.func156, Try.ntmps156
  go_wp2
  go_ret
  exact ⟨by rw [← HV.out]; rfl, (Below.refl _ _).alloc (Nat.le_refl _) _⟩
end Go.Proofs.Ytjjbhdpjnjncbaa.Pr
end
section
namespace Go.Proofs.Ytjjbhdpjnjncbaa.Pr
open Go.RowKit Go.Proofs.YtjjbhdpjnjncbaaW.PrintWords Go.Proofs.YtjjbhdpjnjncbaaW.PrintLast Go.Proofs.YtjjbhdpjnjncbaaW.PrintMore
def IntsPred (g : Nat) (lb : Array Value) (p : Int → Bool) (w : World) (l : List Int) : Prop :=
 ∀ (W : World) (x : Int), x ∈ l → Below w.heap.size w W → Calls Try.prog g (#[.int .i64 x] ++ lb) W fun e w' => e = .returned (.bool (p x)) ∧ Below W.heap.size W w'
theorem indexFuncInts (p : Int → Bool) (g : Nat) (lb : Array Value) (eg : ∀ args w, (callFunc g args).run Try.prog w = .ok (.enter g args) w) (A : Option Addr) (c : Nat) (l : List Int) (w : World)
  (hr : Kd.C (Kd.int .i64) w A l.length l) (hp : IntsPred g lb p w l) :
  Calls Try.prog 129 #[.slice A l.length c, .func (.func g) #[] lb] w fun e w' => e = .returned (.int .i64 (idxP p l 0)) ∧ Below w.heap.size w w' := by
 have HR := Aside0.mk hr
 have HP := Aside0.mk hp
 have hbig : l.length ≤ 9223372036854775807 := hr.2.1
 clear hr hp
 go_enter Try.func129, Try.ntmps129
 go_wp2
 go_loopg [5, 8] l.length (fun gg _ s8 wr => ∃ kk : Nat, kk ≤ l.length ∧ l.length - kk ≤ gg ∧ s8 = .int .i64 kk ∧ Aside0 (Below w.heap.size w wr) ∧ Aside0 (∀ j (hj : j < l.length), j < kk → p l[j] = false))
 case atStart => exact ⟨0, Nat.zero_le _, by omega, rfl, ⟨Below.refl _ w⟩, ⟨fun j _ hj => absurd hj (Nat.not_lt_zero _)⟩⟩
 case round =>
  obtain ⟨kk, hkk, hg, rfl, BW, F⟩ := hrel
  by_cases hlt : kk < l.length
  ·obtain ⟨ad, e, hx⟩ := Kd.at_int HR.out kk (by omega) (by omega)
   cases e
   rw [Int.toNat_natCast] at hx
   have hx' := (BW.out.cell (World.block_lt_of_cell? w _ hx)).trans hx
   clear hx
   have hel : rd l (kk : Int) = l[kk] := by simp [rd, hlt]
   have hcall := HP.out wr l[kk] (List.getElem_mem hlt) BW.out
   rw [hel] at hx'
   clear hel
   have hltz : (kk : Int) < (l.length : Int) := by omega
   have h0z : (0 : Int) ≤ (kk : Int) := by omega
   generalize hy : l[kk] = y at hx' hcall
   have HY := Aside0.mk hy
   clear hy
   cases hq : p y with
   | true =>
    rw [hq] at hcall
    have HQ := Aside0.mk hq
    clear hq
    go_wp2_with fail
    refine hcall.mono ?_
    rintro e w' ⟨rfl, hb'⟩
    clear hcall
    go_wp2
    go_ret
    refine ⟨?_, Below.trans BW.out (hb'.mono BW.out.size)⟩
    rw [idxP_hit p l kk hlt F.out (by rw [HY.out]; exact HQ.out)]
    rfl
   | false =>
    rw [hq] at hcall
    have HQ := Aside0.mk hq
    clear hq
    go_wp2_with fail
    refine hcall.mono ?_
    rintro e w' ⟨rfl, hb'⟩
    clear hcall
    go_wp2
    go_roundg (l.length - (kk + 1))
    case measure => omega
    case rel =>
     refine ⟨kk + 1, by omega, by omega, by go_num, ⟨Below.trans BW.out (hb'.mono BW.out.size)⟩, ⟨fun j hj hjk => ?_⟩⟩
     by_cases e : j = kk
     ·subst e
      rw [HY.out]; exact HQ.out
     ·exact F.out j hj (by omega)
  ·have hltz : ¬ (kk : Int) < (l.length : Int) := by omega
   obtain rfl : kk = l.length := by omega
   go_wp2
   go_ret
   refine ⟨?_, BW.out⟩
   rw [idxP_miss p l (fun i hi => F.out i hi hi)]
   rfl
theorem containsFuncInts (p : Int → Bool) (g : Nat) (lb : Array Value) (eg : ∀ args w, (callFunc g args).run Try.prog w = .ok (.enter g args) w) (A : Option Addr) (c : Nat) (l : List Int) (w : World)
  (hr : Kd.C (Kd.int .i64) w A l.length l) (hp : IntsPred g lb p w l) :
  Calls Try.prog 91 #[.slice A l.length c, .func (.func g) #[] lb] w fun e w' => e = .returned (.bool (l.any p)) ∧ Below w.heap.size w w' := by
 rw [← idxP_nonneg p l 0 (Int.le_refl _)]
 have HR := Aside0.mk hr
 have HP := Aside0.mk hp
 clear hr hp
 go_enter Try.func91, Try.ntmps91
 go_wp2_with fail
 refine (indexFuncInts p g lb eg A c l _ HR.out HP.out).mono ?_
 rintro e w' ⟨rfl, hb'⟩
 go_wp2
 go_ret
 exact ⟨rfl, hb'⟩
end Go.Proofs.Ytjjbhdpjnjncbaa.Pr
end
section
namespace Go.Proofs.Ytjjbhdpjnjncbaa.Pr
open Go.RowKit Go.Proofs.YtjjbhdpjnjncbaaW.PrintWords Go.Proofs.YtjjbhdpjnjncbaaW.PrintLast Go.Proofs.YtjjbhdpjnjncbaaW.PrintMore
attribute [local go_sem] max2_int min2_int max_two min_two max_three min_three max_four min_four
def impl_size.f (a0 : Int) : Option (Int) := some (mx a0 (wrap64 (-a0)))
theorem impl_size.calls (a0 : Int) (r : Int) (w : World) (h : impl_size.f a0 = some r) :
  Calls Try.prog 166 #[.int .i64 a0] w fun e w' => e = .returned (.int .i64 r) ∧ Below w.heap.size w w' := by
 have HB := Aside0.mk (Below.refl w.heap.size w)
 have H : (some (mx a0 (wrap64 (-a0)))) = some r := h
 clear h
 obtain ⟨ji2, hji2⟩ : ∃ j_ : Int, (mx a0 (wrap64 (-a0))) = j_ := ⟨_, rfl⟩
 replace H : (some ji2) = some r := by first | (rw [hji2] at H; exact H) | (simp only [hji2] at H ⊢; exact H)
 have hji2_ : (if a0 < (wrap64 (-a0)) then (wrap64 (-a0)) else a0) = ji2 := hji2
 obtain rfl := Option.some.inj H
 go_enter Try.func166, Try.ntmps166
 go_wp2
 go_ret
 exact ⟨by first | rfl | (simp [errW_none, errW_some] <;> rfl) | (simp only [← hji2]; first | rfl | (simp [errW_none, errW_some] <;> rfl)) | (simp [*, errW_none, errW_some] <;> rfl), hb_⟩
def impl_upTo.f (a0 : Int) (a1 : Int) : Option (Bool) := (impl_within.f a0 (wrap64 (-a1)) a1).bind fun t727 => (some t727)
theorem impl_upTo.calls (a0 : Int) (a1 : Int) (r : Bool) (w : World) (h : impl_upTo.f a0 a1 = some r) :
  Calls Try.prog 159 #[.int .i64 a0, .int .i64 a1] w fun e w' => e = .returned (.bool r) ∧ Drawn0 w w' := by
 have H : ((impl_within.f a0 (wrap64 (-a1)) a1).bind fun t727 => (some t727)) = some r := h
 clear h
 replace H := Option.bind_eq_some_iff.mp H
 obtain ⟨t727, A30, H⟩ := H
 replace H : (some t727) = some r := H
 have A3 := Aside0.mk A30
 clear A30
 obtain rfl := Option.some.inj H
 go_enter Try.func159, Try.ntmps159
 go_wp2_with (first | ((with_reducible refine gate_callee (f := 93) rfl ?_); refine goesL_ (some 9) rfl rfl Try.func93 (by kernel_rfl) rfl #[.int .i64 a0, .int .i64 (wrap64 (-a1)), .int .i64 a1] rfl (by (try simp only [List.map_toArray, List.map_cons, List.map_nil]); first | done | rfl | (simp only [List.length_drop, List.length_take]; rfl)) ?_; (with_reducible refine (impl_within.calls a0 (wrap64 (-a1)) a1 t727 _ A3.out).mono ?_); rintro e w' ⟨rfl, ⟨nd, rfl⟩⟩; refine ⟨_, rfl, ?_⟩))
 go_ret
 exact ⟨by first | rfl | (simp; done) | (simp [*]; done), by repeat (first | exact Drawn0.refl _ | apply Drawn0.step)⟩
end Go.Proofs.Ytjjbhdpjnjncbaa.Pr
end
section
namespace Go.Proofs.Ytjjbhdpjnjncbaa.Pr
open Go.RowKit Go.Proofs.YtjjbhdpjnjncbaaW.PrintWords Go.Proofs.YtjjbhdpjnjncbaaW.PrintLast Go.Proofs.YtjjbhdpjnjncbaaW.PrintMore
def badU (a n : Int) : Bool := !(decide (-a ≤ n) && decide (n ≤ a))
theorem upTo_f (n a : Int) (h0 : 0 ≤ a) (h1 : a ≤ 1099511627776) : impl_upTo.f n a = some (!(badU a n)) := by
 unfold impl_upTo.f impl_within.f badU
 rw [Ma.w64 (by omega) (by omega), Bool.not_not]
 by_cases h : -a ≤ n
 ·rw [if_pos (by omega)]; simp [h]
 ·rw [if_neg (by omega)]; simp [h]
theorem allUpTo1 (gb : Nat) (a n : Int) (w : World) (h0 : 0 ≤ a) (h1 : a ≤ 1099511627776) (hb : w.cell? ⟨gb, 0, none⟩ = some (.int .i64 a)) :
  Calls Try.prog 158 (#[.int .i64 n] ++ #[.pointer (some ⟨gb, 0, none⟩)]) w fun e w' => e = .returned (.bool (badU a n)) ∧ Below w.heap.size w w' := by
 have hf := upTo_f n a h0 h1
 have HF := Aside0.mk hf
 clear hf h0 h1
 show Calls Try.prog 158 #[.int .i64 n, .pointer (some ⟨gb, 0, none⟩)] w _
 generalize badU a n = b at HF ⊢
 go_enter Try.func158, Try.ntmps158
 go_wp2_with fail
 refine (impl_upTo.calls n a _ _ HF.out).mono ?_
 rintro e w' ⟨rfl, ⟨nd, rfl⟩⟩
 go_wp2
 go_ret
 refine ⟨by simp, pw_below_drewN (Below.refl _ _) _⟩
theorem allUpTo1_enters : ∀ args w, (callFunc 158 args).run Try.prog w = .ok (.enter 158 args) w := enters_fn Try.func158 (by kernel_rfl) rfl
def impl_allUpTo.f (l0 : List Int) (a1 : Int) : Option Bool := if 0 ≤ a1 ∧ a1 ≤ 1099511627776 then some (!(l0.any (badU a1))) else none
theorem impl_allUpTo.calls (A0 : Option Addr) (c0 : Nat) (l0 : List Int) (a1 : Int) (r : Bool) (w : World) (hr0 : Kd.C (Kd.int .i64) w A0 l0.length l0) (hc0 : l0.length ≤ c0) (h : impl_allUpTo.f l0 a1 = some r) :
  Calls Try.prog 128 #[.slice A0 l0.length c0, .int .i64 a1] w fun e w' => e = .returned (.bool r) ∧ Below w.heap.size w w' := by
 unfold impl_allUpTo.f at h
 split at h
 case isFalse => cases h
 rename_i ha
 have HR := Aside0.mk hr0
 clear hr0 hc0
 have HV := Aside0.mk (Option.some.inj h)
 clear h
 have hcall := fun (gb : Nat) W (hW : Below w.heap.size w W) (hgb : gb < W.heap.size) (hcell : W.cell? ⟨gb, 0, none⟩ = some (.int .i64 a1)) =>
  containsFuncInts (badU a1) 158 #[.pointer (some ⟨gb, 0, none⟩)] allUpTo1_enters A0 c0 l0 W (Kd.C_below HR.out hW)
   (fun W' x _ hb => allUpTo1 gb a1 x W' ha.1 ha.2 ((hb.cell (p := ⟨gb, 0, none⟩) hgb).trans hcell))
 have HC := Aside0.mk hcall
 clear hcall ha
 generalize l0.any (badU a1) = b at HC HV
 go_enter Try.func128, Try.ntmps128
 go_wp2_with fail
 refine (HC.out _ _ ((Below.refl _ _).alloc (Nat.le_refl _) _) (by simp) (by simp)).mono ?_
 rintro e w' ⟨rfl, hb'⟩
 go_wp2
 go_ret
 exact ⟨by rw [← HV.out]; rfl, ((Below.refl _ _).alloc (Nat.le_refl _) _).trans (hb'.mono (by simp))⟩
end Go.Proofs.Ytjjbhdpjnjncbaa.Pr
end
section
namespace Go.Proofs.Ytjjbhdpjnjncbaa.Pr
open Go.RowKit Go.Proofs.YtjjbhdpjnjncbaaW.PrintWords Go.Proofs.YtjjbhdpjnjncbaaW.PrintLast Go.Proofs.YtjjbhdpjnjncbaaW.PrintMore
def badM (row : List Int) : Bool := row.any (badU 20)
theorem isMatrix1 (A : Option Addr) (c : Nat) (x : List Int) (w : World) (hx : Kd.C (Kd.int .i64) w A x.length x) (hc : x.length ≤ c) :
  Calls Try.prog 157 (#[.slice A x.length c] ++ #[]) w fun e w' => e = .returned (.bool (badM x)) ∧ Below w.heap.size w w' := by
 have HX := Aside0.mk hx
 have HC := Aside0.mk hc
 have hf : impl_allUpTo.f x 20 = some (!(badM x)) := by unfold impl_allUpTo.f badM; rw [if_pos ⟨by decide, by decide⟩]
 have HF := Aside0.mk hf
 clear hx hc hf
 show Calls Try.prog 157 #[.slice A x.length c] w _
 generalize badM x = b at HF ⊢
 go_enter Try.func157, Try.ntmps157
 go_wp2_with fail
 refine (impl_allUpTo.calls A c x 20 _ _ HX.out HC.out HF.out).mono ?_
 rintro e w' ⟨rfl, hb⟩
 go_wp2
 go_ret
 exact ⟨by simp, hb⟩
theorem isMatrix1_enters : ∀ args w, (callFunc 157 args).run Try.prog w = .ok (.enter 157 args) w := enters_fn Try.func157 (by kernel_rfl) rfl
def impl_IsMatrix.f (l0 : List (List Int)) : Option Bool := some ((decide (1 ≤ (l0.length : Int)) && decide ((l0.length : Int) ≤ 5)) && !(l0.any (badL l0.length)) && !(l0.any badM))
theorem within_b (n a b : Int) : impl_within.f n a b = some (decide (a ≤ n) && decide (n ≤ b)) := by
 unfold impl_within.f
 by_cases h : a ≤ n
 ·rw [if_pos (by omega)]; simp [h]
 ·rw [if_neg (by omega)]; simp [h]
theorem impl_IsMatrix.calls (A0 : Option Addr) (c0 : Nat) (l0 : List (List Int)) (r : Bool) (w : World) (hr0 : Kd.C (Kd.slice 2 (Kd.int .i64)) w A0 l0.length l0) (hc0 : l0.length ≤ c0) (h : impl_IsMatrix.f l0 = some r) :
  Calls Try.prog 127 #[.slice A0 l0.length c0] w fun e w' => e = .returned (.bool r) ∧ Below w.heap.size w w' := by
 have HR := Aside0.mk hr0
 have HC0 := Aside0.mk hc0
 have HW := Aside0.mk (within_b (l0.length : Int) 1 5)
 have hsq : impl_isSquare.f l0 (l0.length : Int) = some (!(l0.any (badL l0.length))) := by unfold impl_isSquare.f; simp
 have HS := Aside0.mk hsq
 have hv := (Option.some.inj h)
 have hcall := fun W (hW : Below w.heap.size w W) => containsFuncRows badM 157 #[] isMatrix1_enters A0 c0 l0 W (Kd.C_below HR.out hW) (fun W' A c x _ _ hc hC => isMatrix1 A c x W' hC hc)
 have HC := Aside0.mk hcall
 have HV := Aside0.mk hv
 clear hr0 hc0 h hsq hv hcall
 generalize l0.any badM = b3 at HC HV
 generalize l0.any (badL l0.length) = b2 at HS HV
 generalize (decide (1 ≤ (l0.length : Int)) && decide ((l0.length : Int) ≤ 5)) = b1 at HW HV
 go_enter Try.func127, Try.ntmps127
 go_wp2_with fail
 refine (impl_within.calls _ 1 5 _ _ HW.out).mono ?_
 rintro e w1 ⟨rfl, hd⟩
 have hb1 := hd.below
 have HB1 := Aside0.mk hb1
 clear hb1 hd
 cases b1 with
 | false =>
  go_wp2
  go_ret
  exact ⟨by rw [← HV.out]; rfl, HB1.out⟩
 | true =>
  go_wp2_with fail
  refine (impl_isSquare.calls A0 c0 l0 _ _ _ (Kd.C_below HR.out HB1.out) HC0.out HS.out).mono ?_
  rintro e w2 ⟨rfl, hb2⟩
  have HB2 := Aside0.mk (HB1.out.trans (hb2.mono HB1.out.size))
  clear hb2
  cases b2 with
  | true =>
   go_wp2
   go_ret
   exact ⟨by rw [← HV.out]; rfl, HB2.out⟩
  | false =>
   go_wp2_with fail
   refine (HC.out _ HB2.out).mono ?_
   rintro e w3 ⟨rfl, hb3⟩
   go_wp2
   go_ret
   exact ⟨by rw [← HV.out]; simp, HB2.out.trans (hb3.mono HB2.out.size)⟩
end Go.Proofs.Ytjjbhdpjnjncbaa.Pr
end
section
namespace Go.Proofs.Ytjjbhdpjnjncbaa.Pr
open Go.RowKit Go.Proofs.YtjjbhdpjnjncbaaW.PrintWords Go.Proofs.YtjjbhdpjnjncbaaW.PrintLast Go.Proofs.YtjjbhdpjnjncbaaW.PrintMore
attribute [local go_sem] max2_int min2_int max_two min_two max_three min_three max_four min_four
def impl_IsProblem.f (l0_0 : List (List Int)) (l0_1 : List Int) : Option (Bool) := (impl_IsMatrix.f l0_0).bind fun t595 => (if t595 = true then (if (l0_1.length : Int) = (l0_0.length : Int) then ((impl_allUpTo.f l0_1 100).bind fun t596 => (some t596)) else (some false)) else (some false))
theorem impl_IsProblem.calls (A0_0 : Option Addr) (c0_0 : Nat) (l0_0 : List (List Int)) (A0_1 : Option Addr) (c0_1 : Nat) (l0_1 : List Int) (r : Bool) (w : World) (hr0_0 : Kd.C (Kd.slice 2 (Kd.int .i64)) w A0_0 l0_0.length l0_0) (hc0_0 : l0_0.length ≤ c0_0) (hr0_1 : Kd.C (Kd.int .i64) w A0_1 l0_1.length l0_1) (hc0_1 : l0_1.length ≤ c0_1) (h : impl_IsProblem.f l0_0 l0_1 = some r) :
  Calls Try.prog 90 #[.agg #[.slice A0_0 l0_0.length c0_0, .slice A0_1 l0_1.length c0_1]] w fun e w' => e = .returned (.bool r) ∧ Below w.heap.size w w' := by
 have hu56 := Try.underlying56
 have HR0_0 := Aside0.mk hr0_0
 have HC0_0 := Aside0.mk hc0_0
 clear hr0_0 hc0_0
 have HR0_1 := Aside0.mk hr0_1
 have HC0_1 := Aside0.mk hc0_1
 clear hr0_1 hc0_1
 have HB := Aside0.mk (Below.refl w.heap.size w)
 have H : ((impl_IsMatrix.f l0_0).bind fun t595 => (if t595 = true then (if (l0_1.length : Int) = (l0_0.length : Int) then ((impl_allUpTo.f l0_1 100).bind fun t596 => (some t596)) else (some false)) else (some false))) = some r := h
 clear h
 replace H := Option.bind_eq_some_iff.mp H
 obtain ⟨t595, A20, H⟩ := H
 replace H : (if t595 = true then (if (l0_1.length : Int) = (l0_0.length : Int) then ((impl_allUpTo.f l0_1 100).bind fun t596 => (some t596)) else (some false)) else (some false)) = some r := H
 have A2 := Aside0.mk A20
 clear A20
 by_cases c3 : t595 = true
 ·subst c3
  have H1 : (if (l0_1.length : Int) = (l0_0.length : Int) then ((impl_allUpTo.f l0_1 100).bind fun t596 => (some t596)) else (some false)) = some r := by rw [if_pos rfl] at H; exact H
  clear H
  have H := H1
  clear H1
  by_cases c4 : (l0_1.length : Int) = (l0_0.length : Int)
  ·rw [if_pos c4] at H
   have c4b0 : ((l0_1.length : Int) == (l0_0.length : Int)) = true := beq_iff_eq.mpr c4
   have c4b1 : ((l0_1.length : Int) != (l0_0.length : Int)) = false := bne_eq_false_iff_eq.mpr c4
   have c4b2 : (l0_1.length == l0_0.length) = true := by first | simpa using c4 | (simp at c4 ⊢; omega)
   clear c4
   replace H := Option.bind_eq_some_iff.mp H
   obtain ⟨t596, A50, H⟩ := H
   replace H : (some t596) = some r := H
   have A5 := Aside0.mk A50
   clear A50
   obtain rfl := Option.some.inj H
   go_enter Try.func90, Try.ntmps90
   go_wp2_with (first | ((with_reducible refine gate_dst (N := 1) rfl ?_); (try (refine gate_guard (by rfl) ?_; dsimp only)); refine box_event ?hg (N := 1) ?hd (cs := #[.slice A0_0 l0_0.length c0_0, .slice A0_1 l0_1.length c0_1]) (t := 56) ?hr ?_; (case hd => rfl); (case hg => rfl); (case hr => first | (go_simp; done) | (go_simp; rfl)); intro gb594 hg w6 hbox hb; have n0_ := Aside0.mk (bs_ hb); have n1_ := Aside0.mk (hbox); have n2_ := Aside0.mk ((by rw [hg]; exact bz_ : w.heap.size ≤ gb594)); have n3_ := Aside0.mk ((by rw [hg]; exact bz_ : w.heap.size ≤ gb594)); clear HB; have HB := n0_; have BK594 := n1_; have GW594 := n2_; have GE594 := n3_; clear n0_ n1_ n2_ n3_; clear hb hbox hg; have hcz7_0 : w6.cell? ⟨gb594, 0, none⟩ = some (.slice A0_0 l0_0.length c0_0) := (blk_cell BK594.out 0).trans rfl; have hcz7_1 : w6.cell? ⟨gb594, 1, none⟩ = some (.slice A0_1 l0_1.length c0_1) := (blk_cell BK594.out 1).trans rfl; have hfz7_0 := blk_frozen BK594.out 0; have hfz7_1 := blk_frozen BK594.out 1) | ((with_reducible refine gate_callee (f := 127) rfl ?_); refine goesL_ (some 5) rfl rfl Try.func127 (by kernel_rfl) rfl #[.slice A0_0 l0_0.length c0_0] rfl (by (try simp only [List.map_toArray, List.map_cons, List.map_nil]); first | done | rfl | (simp only [List.length_drop, List.length_take]; rfl)) ?_; (with_reducible refine (impl_IsMatrix.calls _ _ l0_0 true _ ?side1 ?side2 A2.out).mono ?_); (case side1 => exact cb_ HR0_0.out HB.out); (case side2 => exact HC0_0.out); rintro e w8 ⟨rfl, hb⟩; refine ⟨_, rfl, ?_⟩; have n0_ := Aside0.mk (bb_ BK594.out hb); have n1_ := Aside0.mk (bs_ hb); clear BK594; clear HB; have BK594 := n0_; have HB := n1_; clear n0_ n1_; (try clear hb); (try clear hb2); (try clear hk); (try clear hi); have hcz9_0 : w8.cell? ⟨gb594, 0, none⟩ = some (.slice A0_0 l0_0.length c0_0) := (blk_cell BK594.out 0).trans rfl; have hcz9_1 : w8.cell? ⟨gb594, 1, none⟩ = some (.slice A0_1 l0_1.length c0_1) := (blk_cell BK594.out 1).trans rfl; have hfz9_0 := blk_frozen BK594.out 0; have hfz9_1 := blk_frozen BK594.out 1) | (go_at_call 128; (with_reducible refine (impl_allUpTo.calls _ _ l0_1 100 t596 _ ?side1 ?side2 A5.out).mono ?_); (case side1 => exact cb_ HR0_1.out HB.out); (case side2 => exact HC0_1.out); rintro e w10 ⟨rfl, hb⟩; have n0_ := Aside0.mk (bb_ BK594.out hb); have n1_ := Aside0.mk (bs_ hb); clear BK594; clear HB; have BK594 := n0_; have HB := n1_; clear n0_ n1_; (try clear hb); (try clear hb2); (try clear hk); (try clear hi)))
   go_ret
   exact ⟨by first | rfl | (simp [errW_none, errW_some] <;> rfl) | (simp [*, errW_none, errW_some] <;> rfl), hb_⟩
  ·rw [if_neg c4] at H
   have c4b0 : ((l0_1.length : Int) == (l0_0.length : Int)) = false := beq_eq_false_iff_ne.mpr c4
   have c4b1 : ((l0_1.length : Int) != (l0_0.length : Int)) = true := bne_iff_ne.mpr c4
   have c4b2 : (l0_1.length == l0_0.length) = false := by first | simpa using c4 | (simp at c4 ⊢; omega)
   obtain rfl := Option.some.inj H
   go_enter Try.func90, Try.ntmps90
   go_wp2_with (first | ((with_reducible refine gate_dst (N := 1) rfl ?_); (try (refine gate_guard (by rfl) ?_; dsimp only)); refine box_event ?hg (N := 1) ?hd (cs := #[.slice A0_0 l0_0.length c0_0, .slice A0_1 l0_1.length c0_1]) (t := 56) ?hr ?_; (case hd => rfl); (case hg => rfl); (case hr => first | (go_simp; done) | (go_simp; rfl)); intro gb594 hg w11 hbox hb; have n0_ := Aside0.mk (bs_ hb); have n1_ := Aside0.mk (hbox); have n2_ := Aside0.mk ((by rw [hg]; exact bz_ : w.heap.size ≤ gb594)); have n3_ := Aside0.mk ((by rw [hg]; exact bz_ : w.heap.size ≤ gb594)); clear HB; have HB := n0_; have BK594 := n1_; have GW594 := n2_; have GE594 := n3_; clear n0_ n1_ n2_ n3_; clear hb hbox hg; have hcz12_0 : w11.cell? ⟨gb594, 0, none⟩ = some (.slice A0_0 l0_0.length c0_0) := (blk_cell BK594.out 0).trans rfl; have hcz12_1 : w11.cell? ⟨gb594, 1, none⟩ = some (.slice A0_1 l0_1.length c0_1) := (blk_cell BK594.out 1).trans rfl; have hfz12_0 := blk_frozen BK594.out 0; have hfz12_1 := blk_frozen BK594.out 1) | ((with_reducible refine gate_callee (f := 127) rfl ?_); refine goesL_ (some 5) rfl rfl Try.func127 (by kernel_rfl) rfl #[.slice A0_0 l0_0.length c0_0] rfl (by (try simp only [List.map_toArray, List.map_cons, List.map_nil]); first | done | rfl | (simp only [List.length_drop, List.length_take]; rfl)) ?_; (with_reducible refine (impl_IsMatrix.calls _ _ l0_0 true _ ?side1 ?side2 A2.out).mono ?_); (case side1 => exact cb_ HR0_0.out HB.out); (case side2 => exact HC0_0.out); rintro e w13 ⟨rfl, hb⟩; refine ⟨_, rfl, ?_⟩; have n0_ := Aside0.mk (bb_ BK594.out hb); have n1_ := Aside0.mk (bs_ hb); clear BK594; clear HB; have BK594 := n0_; have HB := n1_; clear n0_ n1_; (try clear hb); (try clear hb2); (try clear hk); (try clear hi); have hcz14_0 : w13.cell? ⟨gb594, 0, none⟩ = some (.slice A0_0 l0_0.length c0_0) := (blk_cell BK594.out 0).trans rfl; have hcz14_1 : w13.cell? ⟨gb594, 1, none⟩ = some (.slice A0_1 l0_1.length c0_1) := (blk_cell BK594.out 1).trans rfl; have hfz14_0 := blk_frozen BK594.out 0; have hfz14_1 := blk_frozen BK594.out 1))
   go_ret
   exact ⟨by first | rfl | (simp [errW_none, errW_some] <;> rfl) | (simp [*, errW_none, errW_some] <;> rfl), hb_⟩
 ·replace c3 := Bool.eq_false_iff.mpr c3
  subst c3
  have H1 : (some false) = some r := by rw [if_neg (show ¬ (false = true) by decide)] at H; exact H
  clear H
  have H := H1
  clear H1
  obtain rfl := Option.some.inj H
  go_enter Try.func90, Try.ntmps90
  go_wp2_with (first | ((with_reducible refine gate_dst (N := 1) rfl ?_); (try (refine gate_guard (by rfl) ?_; dsimp only)); refine box_event ?hg (N := 1) ?hd (cs := #[.slice A0_0 l0_0.length c0_0, .slice A0_1 l0_1.length c0_1]) (t := 56) ?hr ?_; (case hd => rfl); (case hg => rfl); (case hr => first | (go_simp; done) | (go_simp; rfl)); intro gb594 hg w15 hbox hb; have n0_ := Aside0.mk (bs_ hb); have n1_ := Aside0.mk (hbox); have n2_ := Aside0.mk ((by rw [hg]; exact bz_ : w.heap.size ≤ gb594)); have n3_ := Aside0.mk ((by rw [hg]; exact bz_ : w.heap.size ≤ gb594)); clear HB; have HB := n0_; have BK594 := n1_; have GW594 := n2_; have GE594 := n3_; clear n0_ n1_ n2_ n3_; clear hb hbox hg; have hcz16_0 : w15.cell? ⟨gb594, 0, none⟩ = some (.slice A0_0 l0_0.length c0_0) := (blk_cell BK594.out 0).trans rfl; have hcz16_1 : w15.cell? ⟨gb594, 1, none⟩ = some (.slice A0_1 l0_1.length c0_1) := (blk_cell BK594.out 1).trans rfl; have hfz16_0 := blk_frozen BK594.out 0; have hfz16_1 := blk_frozen BK594.out 1) | ((with_reducible refine gate_callee (f := 127) rfl ?_); refine goesL_ (some 5) rfl rfl Try.func127 (by kernel_rfl) rfl #[.slice A0_0 l0_0.length c0_0] rfl (by (try simp only [List.map_toArray, List.map_cons, List.map_nil]); first | done | rfl | (simp only [List.length_drop, List.length_take]; rfl)) ?_; (with_reducible refine (impl_IsMatrix.calls _ _ l0_0 false _ ?side1 ?side2 A2.out).mono ?_); (case side1 => exact cb_ HR0_0.out HB.out); (case side2 => exact HC0_0.out); rintro e w17 ⟨rfl, hb⟩; refine ⟨_, rfl, ?_⟩; have n0_ := Aside0.mk (bb_ BK594.out hb); have n1_ := Aside0.mk (bs_ hb); clear BK594; clear HB; have BK594 := n0_; have HB := n1_; clear n0_ n1_; (try clear hb); (try clear hb2); (try clear hk); (try clear hi)))
  go_ret
  exact ⟨by first | rfl | (simp [errW_none, errW_some] <;> rfl) | (simp [*, errW_none, errW_some] <;> rfl), hb_⟩
def impl_isSet.f (a0 : Int) (a1 : Int) : Option (Bool) := if 0 ≤ a1 then ((impl_within.f a0 0 (wrap64 ((shl .i64 1 a1) - 1))).bind fun t1125 => (some t1125)) else (none)
theorem impl_isSet.calls (a0 : Int) (a1 : Int) (r : Bool) (w : World) (h : impl_isSet.f a0 a1 = some r) :
  Calls Try.prog 167 #[.int .i64 a0, .int .i64 a1] w fun e w' => e = .returned (.bool r) ∧ Drawn0 w w' := by
 have H : (if 0 ≤ a1 then ((impl_within.f a0 0 (wrap64 ((shl .i64 1 a1) - 1))).bind fun t1125 => (some t1125)) else (none)) = some r := h
 clear h
 by_cases c3 : 0 ≤ a1
 ·rw [if_pos c3] at H
  have c3b0 := eq_true c3
  have c3b1 : decide (0 ≤ a1) = true := decide_eq_true c3
  clear c3
  obtain ⟨ji4, hji4⟩ : ∃ j_ : Int, (shl .i64 1 a1) = j_ := ⟨_, rfl⟩
  replace H : ((impl_within.f a0 0 (wrap64 ((ji4) - 1))).bind fun t1125 => (some t1125)) = some r := by first | (rw [hji4] at H; exact H) | (simp only [hji4] at H ⊢; exact H)
  have hji4_ : (IntKind.i64.wrap (1 * 2 ^ min a1.toNat 64)) = ji4 := hji4
  have hji4z : a1 ≤ 64 → (IntKind.i64.wrap (1 * 2 ^ a1.toNat)) = ji4 := shl_small hji4
  have hji4u : (IntKind.i64.wrap (2 ^ min a1.toNat 64)) = ji4 := by have h_ := hji4_; rw [Int.one_mul] at h_; exact h_
  have hji4v : a1 ≤ 64 → (IntKind.i64.wrap (2 ^ a1.toNat)) = ji4 := fun hle_ => by have h_ := hji4z hle_; rw [Int.one_mul] at h_; exact h_
  have hji4y : (wrap64 (1 * 2 ^ min a1.toNat 64)) = ji4 := (i64_w _).symm.trans hji4_
  have hji4x : a1 ≤ 64 → (wrap64 (1 * 2 ^ a1.toNat)) = ji4 := fun h_ => (i64_w _).symm.trans (hji4z h_)
  replace H := Option.bind_eq_some_iff.mp H
  obtain ⟨t1125, A50, H⟩ := H
  replace H : (some t1125) = some r := H
  have A5 := Aside0.mk A50
  clear A50
  obtain rfl := Option.some.inj H
  go_enter Try.func167, Try.ntmps167
  go_wp2_with (first | ((with_reducible refine gate_callee (f := 93) rfl ?_); refine goesL_ (some 9) rfl rfl Try.func93 (by kernel_rfl) rfl #[.int .i64 a0, .int .i64 0, .int .i64 (wrap64 ((ji4) - 1))] rfl (by (try simp only [List.map_toArray, List.map_cons, List.map_nil]); first | done | (simp only [hji4]; rfl) | rfl | (simp only [List.length_drop, List.length_take]; rfl)) ?_; (with_reducible refine (impl_within.calls a0 0 (wrap64 ((ji4) - 1)) t1125 _ A5.out).mono ?_); rintro e w' ⟨rfl, ⟨nd, rfl⟩⟩; refine ⟨_, rfl, ?_⟩))
  go_ret
  exact ⟨by first | rfl | (simp; done) | (simp only [← hji4] <;> (first | rfl | simp)) | (simp [*]; done), by repeat (first | exact Drawn0.refl _ | apply Drawn0.step)⟩
 ·rw [if_neg c3] at H
  exact absurd H (by simp)
def impl_setCode.f (l0_0 : List (List Int)) (l0_1 : List Int) (a1 : Int) : Option (Int) := (impl_IsProblem.f l0_0 l0_1).bind fun t1127 => (if t1127 = true then ((impl_isSet.f a1 (l0_1.length : Int)).bind fun t1128 => (if t1128 = true then (some 0) else (some 2))) else (some 1))
theorem impl_setCode.calls (A0_0 : Option Addr) (c0_0 : Nat) (l0_0 : List (List Int)) (A0_1 : Option Addr) (c0_1 : Nat) (l0_1 : List Int) (a1 : Int) (r : Int) (w : World) (hr0_0 : Kd.C (Kd.slice 2 (Kd.int .i64)) w A0_0 l0_0.length l0_0) (hc0_0 : l0_0.length ≤ c0_0) (hr0_1 : Kd.C (Kd.int .i64) w A0_1 l0_1.length l0_1) (hc0_1 : l0_1.length ≤ c0_1) (h : impl_setCode.f l0_0 l0_1 a1 = some r) :
  Calls Try.prog 144 #[.agg #[.slice A0_0 l0_0.length c0_0, .slice A0_1 l0_1.length c0_1], .int .i64 a1] w fun e w' => e = .returned (.int .i64 r) ∧ Below w.heap.size w w' := by
 have hu56 := Try.underlying56
 have HR0_0 := Aside0.mk hr0_0
 have HC0_0 := Aside0.mk hc0_0
 clear hr0_0 hc0_0
 have HR0_1 := Aside0.mk hr0_1
 have HC0_1 := Aside0.mk hc0_1
 clear hr0_1 hc0_1
 have HB := Aside0.mk (Below.refl w.heap.size w)
 have H : ((impl_IsProblem.f l0_0 l0_1).bind fun t1127 => (if t1127 = true then ((impl_isSet.f a1 (l0_1.length : Int)).bind fun t1128 => (if t1128 = true then (some 0) else (some 2))) else (some 1))) = some r := h
 clear h
 replace H := Option.bind_eq_some_iff.mp H
 obtain ⟨t1127, A30, H⟩ := H
 replace H : (if t1127 = true then ((impl_isSet.f a1 (l0_1.length : Int)).bind fun t1128 => (if t1128 = true then (some 0) else (some 2))) else (some 1)) = some r := H
 have A3 := Aside0.mk A30
 clear A30
 by_cases c4 : t1127 = true
 ·subst c4
  have H1 : ((impl_isSet.f a1 (l0_1.length : Int)).bind fun t1128 => (if t1128 = true then (some 0) else (some 2))) = some r := by rw [if_pos rfl] at H; exact H
  clear H
  have H := H1
  clear H1
  replace H := Option.bind_eq_some_iff.mp H
  obtain ⟨t1128, A50, H⟩ := H
  replace H : (if t1128 = true then (some 0) else (some 2)) = some r := H
  have A5 := Aside0.mk A50
  clear A50
  by_cases c6 : t1128 = true
  ·subst c6
   have H1 : (some 0) = some r := by rw [if_pos rfl] at H; exact H
   clear H
   have H := H1
   clear H1
   obtain rfl := Option.some.inj H
   go_enter Try.func144, Try.ntmps144
   go_wp2_with (first | ((with_reducible refine gate_dst (N := 2) rfl ?_); refine box_event ?hg (N := 2) ?hd (cs := #[.slice A0_0 l0_0.length c0_0, .slice A0_1 l0_1.length c0_1]) (t := 56) ?hr ?_; (case hd => rfl); (case hg => rfl); (case hr => first | (go_simp; done) | (go_simp; rfl)); intro gb1126 hg w7 hbox hb; have n0_ := Aside0.mk (bs_ hb); have n1_ := Aside0.mk (hbox); have n2_ := Aside0.mk ((by rw [hg]; exact bz_ : w.heap.size ≤ gb1126)); have n3_ := Aside0.mk ((by rw [hg]; exact bz_ : w.heap.size ≤ gb1126)); clear HB; have HB := n0_; have BK1126 := n1_; have GW1126 := n2_; have GE1126 := n3_; clear n0_ n1_ n2_ n3_; clear hb hbox hg; have hcz8_0 : w7.cell? ⟨gb1126, 0, none⟩ = some (.slice A0_0 l0_0.length c0_0) := (blk_cell BK1126.out 0).trans rfl; have hcz8_1 : w7.cell? ⟨gb1126, 1, none⟩ = some (.slice A0_1 l0_1.length c0_1) := (blk_cell BK1126.out 1).trans rfl; have hfz8_0 := blk_frozen BK1126.out 0; have hfz8_1 := blk_frozen BK1126.out 1) | ((with_reducible refine gate_callee (f := 90) rfl ?_); refine goesL_ (some 7) rfl rfl Try.func90 (by kernel_rfl) rfl #[.agg #[.slice A0_0 l0_0.length c0_0, .slice A0_1 l0_1.length c0_1]] rfl (by (try simp only [List.map_toArray, List.map_cons, List.map_nil]); first | done | rfl | (simp only [List.length_drop, List.length_take]; rfl)) ?_; (with_reducible refine (impl_IsProblem.calls _ _ l0_0 _ _ l0_1 true _ ?side1 ?side2 ?side3 ?side4 A3.out).mono ?_); (case side1 => exact cb_ HR0_0.out HB.out); (case side2 => exact HC0_0.out); (case side3 => exact cb_ HR0_1.out HB.out); (case side4 => exact HC0_1.out); rintro e w9 ⟨rfl, hb⟩; refine ⟨_, rfl, ?_⟩; have n0_ := Aside0.mk (bb_ BK1126.out hb); have n1_ := Aside0.mk (bs_ hb); clear BK1126; clear HB; have BK1126 := n0_; have HB := n1_; clear n0_ n1_; (try clear hb); (try clear hb2); (try clear hk); (try clear hi); have hcz10_0 : w9.cell? ⟨gb1126, 0, none⟩ = some (.slice A0_0 l0_0.length c0_0) := (blk_cell BK1126.out 0).trans rfl; have hcz10_1 : w9.cell? ⟨gb1126, 1, none⟩ = some (.slice A0_1 l0_1.length c0_1) := (blk_cell BK1126.out 1).trans rfl; have hfz10_0 := blk_frozen BK1126.out 0; have hfz10_1 := blk_frozen BK1126.out 1) | ((with_reducible refine gate_callee (f := 167) rfl ?_); refine goesL_ (some 14) rfl rfl Try.func167 (by kernel_rfl) rfl #[.int .i64 a1, .int .i64 (l0_1.length : Int)] rfl (by (try simp only [List.map_toArray, List.map_cons, List.map_nil]); first | done | rfl | (simp only [List.length_drop, List.length_take]; rfl)) ?_; (with_reducible refine (impl_isSet.calls a1 (l0_1.length : Int) true _ A5.out).mono ?_); rintro e w' ⟨rfl, ⟨nd, rfl⟩⟩; refine ⟨_, rfl, ?_⟩))
   go_ret
   exact ⟨by first | rfl | (simp [errW_none, errW_some] <;> rfl) | (simp [*, errW_none, errW_some] <;> rfl), hb_⟩
  ·replace c6 := Bool.eq_false_iff.mpr c6
   subst c6
   have H1 : (some 2) = some r := by rw [if_neg (show ¬ (false = true) by decide)] at H; exact H
   clear H
   have H := H1
   clear H1
   obtain rfl := Option.some.inj H
   go_enter Try.func144, Try.ntmps144
   go_wp2_with (first | ((with_reducible refine gate_dst (N := 2) rfl ?_); refine box_event ?hg (N := 2) ?hd (cs := #[.slice A0_0 l0_0.length c0_0, .slice A0_1 l0_1.length c0_1]) (t := 56) ?hr ?_; (case hd => rfl); (case hg => rfl); (case hr => first | (go_simp; done) | (go_simp; rfl)); intro gb1126 hg w11 hbox hb; have n0_ := Aside0.mk (bs_ hb); have n1_ := Aside0.mk (hbox); have n2_ := Aside0.mk ((by rw [hg]; exact bz_ : w.heap.size ≤ gb1126)); have n3_ := Aside0.mk ((by rw [hg]; exact bz_ : w.heap.size ≤ gb1126)); clear HB; have HB := n0_; have BK1126 := n1_; have GW1126 := n2_; have GE1126 := n3_; clear n0_ n1_ n2_ n3_; clear hb hbox hg; have hcz12_0 : w11.cell? ⟨gb1126, 0, none⟩ = some (.slice A0_0 l0_0.length c0_0) := (blk_cell BK1126.out 0).trans rfl; have hcz12_1 : w11.cell? ⟨gb1126, 1, none⟩ = some (.slice A0_1 l0_1.length c0_1) := (blk_cell BK1126.out 1).trans rfl; have hfz12_0 := blk_frozen BK1126.out 0; have hfz12_1 := blk_frozen BK1126.out 1) | ((with_reducible refine gate_callee (f := 90) rfl ?_); refine goesL_ (some 7) rfl rfl Try.func90 (by kernel_rfl) rfl #[.agg #[.slice A0_0 l0_0.length c0_0, .slice A0_1 l0_1.length c0_1]] rfl (by (try simp only [List.map_toArray, List.map_cons, List.map_nil]); first | done | rfl | (simp only [List.length_drop, List.length_take]; rfl)) ?_; (with_reducible refine (impl_IsProblem.calls _ _ l0_0 _ _ l0_1 true _ ?side1 ?side2 ?side3 ?side4 A3.out).mono ?_); (case side1 => exact cb_ HR0_0.out HB.out); (case side2 => exact HC0_0.out); (case side3 => exact cb_ HR0_1.out HB.out); (case side4 => exact HC0_1.out); rintro e w13 ⟨rfl, hb⟩; refine ⟨_, rfl, ?_⟩; have n0_ := Aside0.mk (bb_ BK1126.out hb); have n1_ := Aside0.mk (bs_ hb); clear BK1126; clear HB; have BK1126 := n0_; have HB := n1_; clear n0_ n1_; (try clear hb); (try clear hb2); (try clear hk); (try clear hi); have hcz14_0 : w13.cell? ⟨gb1126, 0, none⟩ = some (.slice A0_0 l0_0.length c0_0) := (blk_cell BK1126.out 0).trans rfl; have hcz14_1 : w13.cell? ⟨gb1126, 1, none⟩ = some (.slice A0_1 l0_1.length c0_1) := (blk_cell BK1126.out 1).trans rfl; have hfz14_0 := blk_frozen BK1126.out 0; have hfz14_1 := blk_frozen BK1126.out 1) | ((with_reducible refine gate_callee (f := 167) rfl ?_); refine goesL_ (some 14) rfl rfl Try.func167 (by kernel_rfl) rfl #[.int .i64 a1, .int .i64 (l0_1.length : Int)] rfl (by (try simp only [List.map_toArray, List.map_cons, List.map_nil]); first | done | rfl | (simp only [List.length_drop, List.length_take]; rfl)) ?_; (with_reducible refine (impl_isSet.calls a1 (l0_1.length : Int) false _ A5.out).mono ?_); rintro e w' ⟨rfl, ⟨nd, rfl⟩⟩; refine ⟨_, rfl, ?_⟩))
   go_ret
   exact ⟨by first | rfl | (simp [errW_none, errW_some] <;> rfl) | (simp [*, errW_none, errW_some] <;> rfl), hb_⟩
 ·replace c4 := Bool.eq_false_iff.mpr c4
  subst c4
  have H1 : (some 1) = some r := by rw [if_neg (show ¬ (false = true) by decide)] at H; exact H
  clear H
  have H := H1
  clear H1
  obtain rfl := Option.some.inj H
  go_enter Try.func144, Try.ntmps144
  go_wp2_with (first | ((with_reducible refine gate_dst (N := 2) rfl ?_); refine box_event ?hg (N := 2) ?hd (cs := #[.slice A0_0 l0_0.length c0_0, .slice A0_1 l0_1.length c0_1]) (t := 56) ?hr ?_; (case hd => rfl); (case hg => rfl); (case hr => first | (go_simp; done) | (go_simp; rfl)); intro gb1126 hg w15 hbox hb; have n0_ := Aside0.mk (bs_ hb); have n1_ := Aside0.mk (hbox); have n2_ := Aside0.mk ((by rw [hg]; exact bz_ : w.heap.size ≤ gb1126)); have n3_ := Aside0.mk ((by rw [hg]; exact bz_ : w.heap.size ≤ gb1126)); clear HB; have HB := n0_; have BK1126 := n1_; have GW1126 := n2_; have GE1126 := n3_; clear n0_ n1_ n2_ n3_; clear hb hbox hg; have hcz16_0 : w15.cell? ⟨gb1126, 0, none⟩ = some (.slice A0_0 l0_0.length c0_0) := (blk_cell BK1126.out 0).trans rfl; have hcz16_1 : w15.cell? ⟨gb1126, 1, none⟩ = some (.slice A0_1 l0_1.length c0_1) := (blk_cell BK1126.out 1).trans rfl; have hfz16_0 := blk_frozen BK1126.out 0; have hfz16_1 := blk_frozen BK1126.out 1) | ((with_reducible refine gate_callee (f := 90) rfl ?_); refine goesL_ (some 7) rfl rfl Try.func90 (by kernel_rfl) rfl #[.agg #[.slice A0_0 l0_0.length c0_0, .slice A0_1 l0_1.length c0_1]] rfl (by (try simp only [List.map_toArray, List.map_cons, List.map_nil]); first | done | rfl | (simp only [List.length_drop, List.length_take]; rfl)) ?_; (with_reducible refine (impl_IsProblem.calls _ _ l0_0 _ _ l0_1 false _ ?side1 ?side2 ?side3 ?side4 A3.out).mono ?_); (case side1 => exact cb_ HR0_0.out HB.out); (case side2 => exact HC0_0.out); (case side3 => exact cb_ HR0_1.out HB.out); (case side4 => exact HC0_1.out); rintro e w17 ⟨rfl, hb⟩; refine ⟨_, rfl, ?_⟩; have n0_ := Aside0.mk (bb_ BK1126.out hb); have n1_ := Aside0.mk (bs_ hb); clear BK1126; clear HB; have BK1126 := n0_; have HB := n1_; clear n0_ n1_; (try clear hb); (try clear hb2); (try clear hk); (try clear hi)))
  go_ret
  exact ⟨by first | rfl | (simp [errW_none, errW_some] <;> rfl) | (simp [*, errW_none, errW_some] <;> rfl), hb_⟩
end Go.Proofs.Ytjjbhdpjnjncbaa.Pr
end
section
namespace Go.Proofs.Ytjjbhdpjnjncbaa.Dt
abbrev Mat := Nat → Nat → Int
def sm : Nat → (Nat → Int) → Int
 | 0, _ => 0
 | n + 1, f => sm n f + f n
theorem sm_congr {n : Nat} {f g : Nat → Int} (h : ∀ i, i < n → f i = g i) : sm n f = sm n g := by
 induction n with
 | zero => rfl
 | succ n ih => simp only [sm]; rw [ih (fun i hi => h i (by omega)), h n (by omega)]
theorem sm_add (n : Nat) (f g : Nat → Int) : sm n (fun i => f i + g i) = sm n f + sm n g := by
 induction n with
 | zero => rfl
 | succ n ih => simp only [sm]; rw [ih]; omega
theorem sm_mul (n : Nat) (c : Int) (f : Nat → Int) : sm n (fun i => c * f i) = c * sm n f := by
 induction n with
 | zero => simp [sm]
 | succ n ih => simp only [sm]; rw [ih, Int.mul_add]
theorem sm_mulr (n : Nat) (c : Int) (f : Nat → Int) : sm n (fun i => f i * c) = sm n f * c := by
 rw [Int.mul_comm, ← sm_mul]; exact sm_congr (fun i _ => Int.mul_comm _ _)
theorem sm_zero (n : Nat) : sm n (fun _ => 0) = 0 := by
 induction n with
 | zero => rfl
 | succ n ih => simp only [sm]; rw [ih]; rfl
theorem sm_none {n : Nat} {f : Nat → Int} (h : ∀ i, i < n → f i = 0) : sm n f = 0 := by rw [sm_congr h, sm_zero]
theorem sm_one {n : Nat} {f : Nat → Int} {k : Nat} (hk : k < n) (h : ∀ i, i < n → i ≠ k → f i = 0) : sm n f = f k := by
 induction n with
 | zero => omega
 | succ n ih =>
  simp only [sm]
  by_cases c : k = n
  ·subst c
   rw [sm_none (fun i hi => h i (by omega) (by omega))]; omega
  ·rw [ih (by omega) (fun i hi => h i (by omega)), h n (by omega) (by omega)]; omega
theorem sm_two {n : Nat} {f : Nat → Int} {k l : Nat} (hk : k < n) (hl : l < n) (hkl : k ≠ l) (h : ∀ i, i < n → i ≠ k → i ≠ l → f i = 0) : sm n f = f k + f l := by
 have e : sm n f = sm n (fun i => (if i = k then f i else 0) + (if i = k then 0 else f i)) := sm_congr (fun i _ => by split <;> omega)
 rw [e, sm_add, sm_one hk (fun i _ hi => by simp [hi]), sm_one hl]
 ·simp [Ne.symm hkl]
 ·intro i hi hil
  by_cases c : i = k
  ·simp [c]
  ·simp [c, h i hi c hil]
theorem sm_cut {n m : Nat} {f : Nat → Int} (h : ∀ i, n ≤ i → i < n + m → f i = 0) : sm (n + m) f = sm n f := by
 induction m with
 | zero => rfl
 | succ m ih =>
  rw [← Nat.add_assoc]; simp only [sm]
  rw [ih (fun i h1 h2 => h i h1 (by omega)), h (n + m) (by omega) (by omega)]; omega
theorem sm_split (n m : Nat) (f : Nat → Int) : sm (n + m) f = sm n f + sm m (fun i => f (n + i)) := by
 induction m with
 | zero => simp [sm]
 | succ m ih => rw [← Nat.add_assoc]; simp only [sm]; rw [ih]; omega
theorem sm_first (n : Nat) (f : Nat → Int) : sm (n + 1) f = f 0 + sm n (fun i => f (i + 1)) := by
 rw [Nat.add_comm, sm_split]
 simp only [sm]
 rw [sm_congr (f := fun i => f (1 + i)) (g := fun i => f (i + 1)) (fun i _ => by rw [Nat.add_comm])]
 omega
def up (k j : Nat) : Nat := if j < k then j else j + 1
def dn (k j : Nat) : Nat := if j < k then j else j - 1
theorem up_ne (k j : Nat) : up k j ≠ k := by unfold up; split <;> omega
theorem up_dn {k j : Nat} (h : j ≠ k) : up k (dn k j) = j := by unfold up dn; grind
theorem dn_up (k j : Nat) : dn k (up k j) = j := by unfold up dn; grind
theorem up_lt {k j n : Nat} (h : j < n) : up k j < n + 1 := by unfold up; split <;> omega
theorem dn_lt {k j n : Nat} (h : j < n + 1) (hk : k < n + 1) (hj : j ≠ k) : dn k j < n := by unfold dn; split <;> omega
def mnr (k : Nat) (A : Mat) : Mat := fun i j => A (i + 1) (up k j)
def sg (k : Nat) : Int := if k % 2 = 1 then -1 else 1
theorem sg_succ (k : Nat) : sg (k + 1) = - sg k := by unfold sg; split <;> split <;> omega
theorem sg_sq (k : Nat) : sg k * sg k = 1 := by unfold sg; split <;> rfl
def det : Nat → Mat → Int
 | 0, _ => 1
 | n + 1, A => sm (n + 1) (fun k => sg k * (A 0 k * det n (mnr k A)))
theorem det_succ (n : Nat) (A : Mat) : det (n + 1) A = sm (n + 1) (fun k => sg k * (A 0 k * det n (mnr k A))) := rfl
theorem det_congr {n : Nat} : ∀ {A B : Mat}, (∀ i j, i < n → j < n → A i j = B i j) → det n A = det n B := by
 induction n with
 | zero => intro A B _; rfl
 | succ n ih =>
  intro A B h
  unfold det
  refine sm_congr (fun k hk => ?_)
  rw [h 0 k (by omega) hk, ih (A := mnr k A) (B := mnr k B) (fun i j hi hj => h _ _ (by omega) (up_lt hj))]
theorem det_col_lin {n : Nat} : ∀ {A B C : Mat} {c : Nat} {s t : Int}, c < n → (∀ i, i < n → A i c = s * B i c + t * C i c) → (∀ i j, i < n → j < n → j ≠ c → A i j = B i j ∧ A i j = C i j) → det n A = s * det n B + t * det n C := by
 induction n with
 | zero => intro A B C c s t hc; omega
 | succ n ih =>
  intro A B C c s t hc h ho
  unfold det
  rw [← sm_mul, ← sm_mul, ← sm_add]
  refine sm_congr (fun k hk => ?_)
  by_cases e : k = c
  ·subst e
   have e1 : det n (mnr k A) = det n (mnr k B) := det_congr (fun i j hi hj => (ho _ _ (by omega) (up_lt hj) (up_ne k j)).1)
   have e2 : det n (mnr k A) = det n (mnr k C) := det_congr (fun i j hi hj => (ho _ _ (by omega) (up_lt hj) (up_ne k j)).2)
   rw [h 0 (by omega), ← e1, ← e2]
   grind
  ·have key := ih (A := mnr k A) (B := mnr k B) (C := mnr k C) (c := dn k c) (s := s) (t := t) (dn_lt hc hk (Ne.symm e)) (fun i hi => by unfold mnr; rw [up_dn (Ne.symm e)]; exact h _ (by omega)) (fun i j hi hj hjc => ho _ _ (by omega) (up_lt hj) (fun hh => hjc (by rw [← hh, dn_up])))
   have o := ho 0 k (by omega) hk e
   rw [key, ← o.1, ← o.2]
   grind
def cset (c : Nat) (v : Nat → Int) (A : Mat) : Mat := fun i j => if j = c then v i else A i j
def rset (r : Nat) (v : Nat → Int) (A : Mat) : Mat := fun i j => if i = r then v j else A i j
def tr (A : Mat) : Mat := fun i j => A j i
def one : Mat := fun i j => if i = j then 1 else 0
def mul (n : Nat) (A B : Mat) : Mat := fun i j => sm n (fun k => A i k * B k j)
theorem det_adj_eq {n : Nat} : ∀ {A : Mat} {c : Nat}, c + 1 < n → (∀ i, i < n → A i c = A i (c + 1)) → det n A = 0 := by
 induction n with
 | zero => intro A c hc; omega
 | succ n ih =>
  intro A c hc h
  unfold det
  rw [sm_two (k := c) (l := c + 1) (by omega) (by omega) (by omega)]
  ·have e : det n (mnr c A) = det n (mnr (c + 1) A) := det_congr (fun i j hi hj => by
    unfold mnr up
    by_cases e : j = c
    ·subst e
     simp only [Nat.lt_irrefl, if_false, Nat.lt_succ_self, if_true]
     exact (h _ (by omega)).symm
    ·by_cases e2 : j < c
     ·rw [if_pos e2, if_pos (by omega)]
     ·rw [if_neg e2, if_neg (by omega)])
   rw [sg_succ, ← e, ← h 0 (by omega)]
   grind
  ·intro k hk h1 h2
   rw [ih (A := mnr k A) (c := dn k c) (by unfold dn; split <;> omega) (fun i hi => ?_)]
   ·simp
   ·unfold mnr
    rw [up_dn (Ne.symm h1), show dn k c + 1 = dn k (c + 1) from by unfold dn; split <;> split <;> omega, up_dn (Ne.symm h2)]
    exact h _ (by omega)
theorem det_cadd {n c : Nat} (hc : c < n) (u v : Nat → Int) (A : Mat) (s t : Int) : det n (cset c (fun i => s * u i + t * v i) A) = s * det n (cset c u A) + t * det n (cset c v A) :=
 det_col_lin hc (fun i _ => by simp [cset]) (fun i j _ _ h => by simp [cset, h])
theorem det_adj_swap {n c : Nat} (hc : c + 1 < n) {A B : Mat} (h : ∀ i, i < n → B i c = A i (c + 1) ∧ B i (c + 1) = A i c) (ho : ∀ i j, i < n → j < n → j ≠ c → j ≠ c + 1 → B i j = A i j) : det n B = - det n A := by
 let W (u v : Nat → Int) : Mat := cset c u (cset (c + 1) v A)
 let x : Nat → Int := fun i => A i c
 let y : Nat → Int := fun i => A i (c + 1)
 have z (u v : Nat → Int) (e : ∀ i, u i = v i) : det n (W u v) = 0 := det_adj_eq hc (fun i hi => by simp [W, cset, e])
 have l1 (u v w : Nat → Int) : det n (W (fun i => 1 * u i + 1 * v i) w) = 1 * det n (W u w) + 1 * det n (W v w) := det_cadd (by omega) u v _ 1 1
 have l2 (u v w : Nat → Int) : det n (W w (fun i => 1 * u i + 1 * v i)) = 1 * det n (W w u) + 1 * det n (W w v) :=
  det_col_lin (c := c + 1) hc (fun i _ => by simp [W, cset]) (fun i j _ _ h => by by_cases e : j = c <;> simp [W, cset, h, e])
 have a := z (fun i => 1 * x i + 1 * y i) (fun i => 1 * x i + 1 * y i) (fun _ => rfl)
 rw [l1, l2, l2, z x x (fun _ => rfl), z y y (fun _ => rfl)] at a
 have ea : det n (W x y) = det n A := det_congr (fun i j _ _ => by by_cases e : j = c <;> by_cases e2 : j = c + 1 <;> simp [W, cset, x, y, e, e2])
 have eb : det n (W y x) = det n B := det_congr (fun i j hi hj => by
  by_cases e : j = c
  ·subst e; simp [W, cset, y, (h i hi).1]
  ·by_cases e2 : j = c + 1
   ·subst e2; simp [W, cset, x, (h i hi).2]
   ·simp [W, cset, e, e2, ho i j hi hj e e2])
 rw [ea, eb] at a
 omega
theorem det_col_eq {n : Nat} : ∀ (q : Nat) {A : Mat} {c d : Nat}, d = c + 1 + q → d < n → (∀ i, i < n → A i c = A i d) → det n A = 0 := by
 intro q
 induction q with
 | zero => intro A c d e hd h; subst e; exact det_adj_eq hd h
 | succ q ih =>
  intro A c d e hd h
  have k := ih (A := fun i j => if j = c + 1 + q then A i (c + 1 + q + 1) else if j = c + 1 + q + 1 then A i (c + 1 + q) else A i j) (c := c) (d := c + 1 + q) rfl (by omega) (fun i hi => by
   simp only [if_neg (show ¬ c = c + 1 + q by omega), if_neg (show ¬ c = c + 1 + q + 1 by omega), if_true]
   rw [h i hi, e]; rfl)
  have s := det_adj_swap (n := n) (c := c + 1 + q) (by omega) (A := A) (B := fun i j => if j = c + 1 + q then A i (c + 1 + q + 1) else if j = c + 1 + q + 1 then A i (c + 1 + q) else A i j) (fun i hi => ⟨by simp, by simp⟩) (fun i j _ _ h1 h2 => by simp [h1, h2])
  omega
theorem det_col_alt {n c d : Nat} {A : Mat} (hc : c < n) (hd : d < n) (hcd : c ≠ d) (h : ∀ i, i < n → A i c = A i d) : det n A = 0 := by
 by_cases e : c < d
 ·exact det_col_eq (d - c - 1) (by omega) hd h
 ·exact det_col_eq (c - d - 1) (by omega) hc (fun i hi => (h i hi).symm)
structure Form (n : Nat) (f : Mat → Int) : Prop where
 cong : ∀ A B : Mat, (∀ i j, i < n → j < n → A i j = B i j) → f A = f B
 lin : ∀ (A : Mat) (r : Nat) (u v : Nat → Int) (s t : Int), r < n → f (rset r (fun j => s * u j + t * v j) A) = s * f (rset r u A) + t * f (rset r v A)
 alt : ∀ (A : Mat) (r q : Nat), r < n → q < n → r ≠ q → (∀ j, j < n → A r j = A q j) → f A = 0
theorem rset_self (r : Nat) (A : Mat) : rset r (A r) A = A := by funext i j; unfold rset; split <;> simp_all
theorem Form.sums {n : Nat} {f : Mat → Int} (F : Form n f) {r : Nat} (hr : r < n) (A : Mat) (m : Nat) (c : Nat → Int) (v : Nat → Nat → Int) : f (rset r (fun j => sm m (fun k => c k * v k j)) A) = sm m (fun k => c k * f (rset r (v k) A)) := by
 induction m with
 | zero =>
  have := F.lin A r (fun _ => 0) (fun _ => 0) 0 0 hr
  simp only [sm] at *
  simpa using this
 | succ m ih =>
  simp only [sm]
  have := F.lin A r (fun j => sm m (fun k => c k * v k j)) (v m) 1 (c m) hr
  simp only [Int.one_mul] at this
  rw [this, ih]
theorem Form.swap {n : Nat} {f : Mat → Int} (F : Form n f) {r q : Nat} (hr : r < n) (hq : q < n) (hrq : r ≠ q) {A B : Mat} (h : ∀ j, j < n → B r j = A q j ∧ B q j = A r j) (ho : ∀ i j, i < n → j < n → i ≠ r → i ≠ q → B i j = A i j) : f B = - f A := by
 let W (u v : Nat → Int) : Mat := rset r u (rset q v A)
 have z (u v : Nat → Int) (e : ∀ i, u i = v i) : f (W u v) = 0 := F.alt _ r q hr hq hrq (fun j _ => by simp [W, rset, e, Ne.symm hrq])
 have l1 (u v w : Nat → Int) : f (W (fun i => 1 * u i + 1 * v i) w) = 1 * f (W u w) + 1 * f (W v w) := F.lin _ r u v 1 1 hr
 have c (u v : Nat → Int) : W u v = rset q v (rset r u A) := by
  funext i j; simp only [W, rset]
  by_cases e : i = r
  ·subst e; simp [hrq]
  ·simp [e]
 have l2 (u v w : Nat → Int) : f (W w (fun i => 1 * u i + 1 * v i)) = 1 * f (W w u) + 1 * f (W w v) := by
  rw [c, c, c]; exact F.lin _ q u v 1 1 hq
 have a := z (fun i => 1 * A r i + 1 * A q i) (fun i => 1 * A r i + 1 * A q i) (fun _ => rfl)
 rw [l1, l2, l2, z (A r) (A r) (fun _ => rfl), z (A q) (A q) (fun _ => rfl)] at a
 have ea : f (W (A r) (A q)) = f A := F.cong _ _ (fun i j _ _ => by simp only [W, rset]; grind)
 have eb : f (W (A q) (A r)) = f B := F.cong _ _ (fun i j hi hj => by
  by_cases e : i = r
  ·subst e; simp [W, rset, (h j hj).1]
  ·by_cases e2 : i = q
   ·subst e2; simp [W, rset, (h j hj).2, e]
   ·simp [W, rset, e, e2, ho i j hi hj e e2])
 rw [ea, eb] at a
 omega
theorem Form.addrow {n : Nat} {f : Mat → Int} (F : Form n f) {r q : Nat} (hr : r < n) (hq : q < n) (hrq : r ≠ q) (A : Mat) (t : Int) : f (rset r (fun j => A r j + t * A q j) A) = f A := by
 have l := F.lin A r (A r) (A q) 1 t hr
 simp only [Int.one_mul] at l
 rw [l, rset_self, F.alt (rset r (A q) A) r q hr hq hrq (fun j _ => by simp [rset, Ne.symm hrq])]
 omega
def emb (k : Nat) (B : Mat) : Mat
 | 0, j => if j = k then 1 else 0
 | i + 1, j => if j = k then 0 else B i (dn k j)
theorem Form.clean {n : Nat} {f : Mat → Int} (F : Form (n + 1) f) {k : Nat} (hk : k < n + 1) (A : Mat) : ∀ m, m ≤ n → f (rset 0 (fun j => if j = k then 1 else 0) A) = f (fun i j => if i = 0 then (if j = k then 1 else 0) else if i ≤ m ∧ j = k then 0 else A i j) := by
 intro m
 induction m with
 | zero => intro _; exact F.cong _ _ (fun i j _ _ => by by_cases e : i = 0 <;> simp [rset, e])
 | succ m ih =>
  intro hm
  rw [ih (by omega)]
  rw [← F.addrow (r := m + 1) (q := 0) (by omega) (by omega) (by omega) _ (- A (m + 1) k)]
  refine F.cong _ _ (fun i j hi hj => ?_)
  by_cases e : i = m + 1
  ·subst e
   by_cases e2 : j = k
   ·subst e2; simp [rset]; omega
   ·simp [rset, e2]
  ·by_cases e0 : i = 0
   ·simp [rset, e0]
   ·have : (i ≤ m ∧ j = k) ↔ (i ≤ m + 1 ∧ j = k) := by constructor <;> intro h <;> omega
    simp [rset, e, e0, this]
theorem Form.emb_sg {n : Nat} {f : Mat → Int} (F : Form (n + 1) f) : ∀ k, k < n + 1 → f (emb k one) = sg k * f one := by
 intro k
 induction k with
 | zero =>
  intro _
  rw [show sg 0 = 1 from rfl, Int.one_mul]
  refine F.cong _ _ (fun i j _ _ => ?_)
  cases i with
  | zero => unfold emb one; by_cases e : j = 0 <;> simp [e, eq_comm]
  | succ i => unfold emb one dn; cases j with
   | zero => simp
   | succ j => simp
 | succ k ih =>
  intro hk
  rw [F.swap (r := 0) (q := k + 1) (A := emb k one) (by omega) (by omega) (by omega), ih (by omega), sg_succ]
  ·grind
  ·intro j hj
   refine ⟨?_, ?_⟩
   ·simp only [emb, one, dn]; grind
   ·simp only [emb, one, dn]; grind
  ·intro i j hi hj h0 h1
   cases i with
   | zero => exact absurd rfl h0
   | succ i => simp only [emb, one, dn]; grind
theorem Form.uniq {n : Nat} : ∀ {f : Mat → Int}, Form n f → ∀ A, f A = det n A * f one := by
 induction n with
 | zero => intro f F A; rw [show det 0 A = 1 from rfl, Int.one_mul]; exact F.cong _ _ (fun i j hi _ => absurd hi (Nat.not_lt_zero _))
 | succ n ih =>
  intro f F A
  have e0 : f A = f (rset 0 (fun j => sm (n + 1) (fun k => A 0 k * (if j = k then 1 else 0))) A) := F.cong _ _ (fun i j hi hj => by
   by_cases e : i = 0
   ·subst e
    simp only [rset, if_true]
    rw [sm_one hj (fun i _ h => by simp [Ne.symm h])]; simp
   ·simp [rset, e])
  rw [e0, F.sums (by omega) A (n + 1) (A 0) (fun k j => if j = k then 1 else 0)]
  unfold det
  rw [← sm_mulr]
  refine sm_congr (fun k hk => ?_)
  have G : Form n (fun B => f (emb k B)) := by
   have er (B : Mat) (r : Nat) (v : Nat → Int) : emb k (rset r v B) = rset (r + 1) (fun j => if j = k then 0 else v (dn k j)) (emb k B) := by
    funext i j
    cases i with
    | zero => simp [emb, rset]
    | succ i => by_cases e : i = r <;> simp [emb, rset, e]
   refine ⟨fun B C h => F.cong _ _ (fun i j hi hj => ?_), fun B r u v s t hr => ?_, fun B r q hr hq hrq h => ?_⟩
   ·cases i with
    | zero => rfl
    | succ i =>
     unfold emb
     by_cases e : j = k
     ·simp [e]
     ·simp only [if_neg e]; exact h _ _ (by omega) (dn_lt hj hk e)
   ·simp only [er]
    rw [← F.lin _ _ _ _ s t (by omega)]
    congr 2
    funext j
    by_cases e : j = k <;> simp [e]
   ·refine F.alt _ (r + 1) (q + 1) (by omega) (by omega) (by omega) (fun j hj => ?_)
    unfold emb
    by_cases e : j = k
    ·simp [e]
    ·simp only [if_neg e]; exact h _ (dn_lt hj hk e)
  have e1 : f (rset 0 (fun j => if j = k then 1 else 0) A) = f (emb k (mnr k A)) := by
   rw [F.clean hk A n (Nat.le_refl _)]
   refine F.cong _ _ (fun i j hi hj => ?_)
   cases i with
   | zero => simp [emb]
   | succ i =>
    unfold emb mnr
    by_cases e : j = k
    ·simp [e]; omega
    ·simp [e, up_dn e]
  have e2 := ih G (mnr k A)
  rw [e1, e2, F.emb_sg k hk]
  grind
theorem det_one (n : Nat) : det n one = 1 := by
 induction n with
 | zero => rfl
 | succ n ih =>
  unfold det
  rw [sm_one (k := 0) (by omega) (fun i _ h => by simp [one, Ne.symm h])]
  rw [det_congr (A := mnr 0 one) (B := one) (fun i j _ _ => by simp [mnr, one, up]), ih]
  rfl
theorem tr_form (n : Nat) : Form n (fun A => det n (tr A)) := by
 refine ⟨fun A B h => det_congr (fun i j hi hj => h j i hj hi), fun A r u v s t hr => ?_, fun A r q hr hq hrq h => det_col_alt hr hq hrq h⟩
 exact det_col_lin (c := r) hr (fun i _ => by simp [tr, rset]) (fun i j _ _ h => by simp [tr, rset, h])
theorem det_tr (n : Nat) (A : Mat) : det n (tr A) = det n A := by
 have h : det n (tr A) = det n A * det n (tr one) := (tr_form n).uniq A
 rw [h, det_congr (A := tr one) (B := one) (fun i j _ _ => by simp [tr, one, eq_comm]), det_one, Int.mul_one]
theorem det_form (n : Nat) : Form n (det n) := by
 have e : det n = fun A => det n (tr A) := by funext A; exact (det_tr n A).symm
 rw [e]; exact tr_form n
theorem mul_form (n : Nat) (B : Mat) : Form n (fun A => det n (mul n A B)) := by
 have er (A : Mat) (r : Nat) (v : Nat → Int) : mul n (rset r v A) B = rset r (fun j => sm n (fun k => v k * B k j)) (mul n A B) := by
  funext i j; by_cases e : i = r <;> simp [mul, rset, e]
 refine ⟨fun A C h => det_congr (fun i j hi hj => sm_congr (fun k hk => by rw [h i k hi hk])), fun A r u v s t hr => ?_, fun A r q hr hq hrq h => ?_⟩
 ·simp only [er]
  rw [← (det_form n).lin _ _ _ _ s t hr]
  congr 2
  funext j
  rw [← sm_mul, ← sm_mul, ← sm_add]
  exact sm_congr (fun k _ => by grind)
 ·exact (det_form n).alt _ r q hr hq hrq (fun j hj => sm_congr (fun k hk => by rw [h k hk]))
theorem det_mul (n : Nat) (A B : Mat) : det n (mul n A B) = det n A * det n B := by
 have h : det n (mul n A B) = det n A * det n (mul n one B) := (mul_form n B).uniq A
 rw [h, det_congr (A := mul n one B) (B := B) (fun i j hi _ => ?_)]
 unfold mul
 rw [sm_one (k := i) hi (fun k _ h => by simp [one, Ne.symm h])]
 simp [one]
def sh (l : Nat) (A : Mat) : Mat := fun i j => A (l + i) (l + j)
theorem det_block (d : Nat) : ∀ (l : Nat) (A : Mat), (∀ i j, i < l → l ≤ j → j < l + d → A i j = 0) → det (l + d) A = det l A * det d (sh l A) := by
 intro l
 induction l with
 | zero => intro A _; rw [Nat.zero_add, show det 0 A = 1 from rfl, Int.one_mul]; exact det_congr (fun i j _ _ => by simp [sh])
 | succ l ih =>
  intro A h
  rw [show l + 1 + d = (l + d) + 1 from by omega, det_succ, det_succ]
  rw [show l + d + 1 = (l + 1) + d from by omega, sm_cut (fun i h1 h2 => by rw [h 0 i (by omega) h1 h2]; simp), ← sm_mulr]
  refine sm_congr (fun k hk => ?_)
  rw [ih (mnr k A) (fun i j hi h1 h2 => by
   unfold mnr up
   rw [if_neg (by omega)]
   exact h _ _ (by omega) (by omega) (by omega))]
  rw [det_congr (A := sh l (mnr k A)) (B := sh (l + 1) A) (fun i j _ _ => by
   unfold sh mnr up
   rw [if_neg (by omega), show l + i + 1 = l + 1 + i from by omega, show l + j + 1 = l + 1 + j from by omega])]
  grind
theorem det_block' (d l : Nat) (A : Mat) (h : ∀ i j, l ≤ i → i < l + d → j < l → A i j = 0) : det (l + d) A = det l A * det d (sh l A) := by
 rw [← det_tr (l + d) A, det_block d l (tr A) (fun i j h1 h2 h3 => h j i h2 h3 h1), det_tr l A, ← det_tr d (sh l A)]
 rfl
def mv (s t : Nat) (b : Nat → Int) (A : Mat) : Mat := fun i j => if i < s then A (up t i) j else if i = s then b j else A (up t (i - 1)) j
theorem mv_sg {n : Nat} (t : Nat) (b : Nat → Int) (A : Mat) : ∀ s, s < n → det n (mv s t b A) = sg s * det n (mv 0 t b A) := by
 intro s
 induction s with
 | zero => intro _; simp [sg]
 | succ s ih =>
  intro hs
  rw [(det_form n).swap (r := s) (q := s + 1) (A := mv s t b A) (by omega) (by omega) (by omega), ih (by omega), sg_succ]
  ·grind
  ·intro j _; refine ⟨?_, ?_⟩
   ·simp [mv]; intro h; omega
   ·simp [mv]
  ·intro i j _ _ h1 h2
   unfold mv
   by_cases e : i < s
   ·rw [if_pos e, if_pos (by omega)]
   ·rw [if_neg e, if_neg (by omega), if_neg h1, if_neg h2]
theorem adj_row {n : Nat} (B : Mat) (b : Nat → Int) {j : Nat} (hj : j < n) : sm n (fun t => det n (rset t b B) * B t j) = det n B * b j := by
 let X : Mat := fun i c => if i = 0 then (if c = 0 then b j else b (c - 1)) else (if c = 0 then B (i - 1) j else B (i - 1) (c - 1))
 have z : det (n + 1) X = 0 := det_col_alt (c := 0) (d := j + 1) (by omega) (by omega) (by omega) (fun i _ => by simp [X])
 have e := det_tr (n + 1) X
 rw [z] at e
 unfold det at e
 rw [sm_first] at e
 have m0 : det n (mnr 0 (tr X)) = det n B := by
  rw [← det_tr n B]; exact det_congr (fun p q _ _ => by simp [mnr, tr, X, up])
 have mt (t : Nat) (ht : t < n) : det n (mnr (t + 1) (tr X)) = sg t * det n (rset t b B) := by
  rw [← det_tr n (mnr (t + 1) (tr X))]
  have e1 : det n (tr (mnr (t + 1) (tr X))) = det n (mv 0 t b B) := det_congr (fun p q _ _ => by
   cases p with
   | zero => simp [mnr, tr, X, up, mv]
   | succ p =>
    simp only [mnr, tr, X, up, mv, Nat.not_lt_zero, if_false]
    by_cases c : p < t
    ·simp [c, Nat.succ_lt_succ c]
    ·simp [c, show ¬ p + 1 < t + 1 from by omega])
  have e2 : det n (mv t t b B) = det n (rset t b B) := det_congr (fun p q _ _ => by
   unfold mv rset up
   by_cases c : p < t
   ·simp [c, show p ≠ t from by omega]
   ·by_cases c2 : p = t
    ·simp [c2]
    ·rw [if_neg c, if_neg c2, if_neg c2, if_neg (by omega), show p - 1 + 1 = p from by omega])
  rw [e1, ← e2, mv_sg t b B t ht]
  have := sg_sq t
  grind
 have e3 : sm n (fun i => sg (i + 1) * (tr X 0 (i + 1) * det n (mnr (i + 1) (tr X)))) = - sm n (fun t => det n (rset t b B) * B t j) := by
  rw [← Int.neg_one_mul, ← sm_mul]
  refine sm_congr (fun t ht => ?_)
  rw [mt t ht, sg_succ]
  have := sg_sq t
  simp only [tr, X]
  simp
  grind
 rw [e3, m0] at e
 simp [tr, X, sg] at e
 grind
end Go.Proofs.Ytjjbhdpjnjncbaa.Dt
end
