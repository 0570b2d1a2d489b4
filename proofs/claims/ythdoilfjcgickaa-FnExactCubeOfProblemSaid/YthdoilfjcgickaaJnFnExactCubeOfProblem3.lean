/- Texts of one claim (the words of the kit's print that the claim uses, printed functions, and this session's own texts), joined in the order of their imports by this session's own program (merge.py). -/
import Derived.Test.YthdoilfjcgickaaJnFnExactCubeOfProblem0
import Derived.Test.YthdoilfjcgickaaJnFnExactCubeOfProblem1
import Derived.Test.YthdoilfjcgickaaJnFnExactCubeOfProblem2
set_option linter.unusedVariables false
set_option linter.unusedSimpArgs false
set_option maxHeartbeats 8000000
set_option maxRecDepth 100000
section
namespace Go.Proofs.Ythdoilfjcgickaa.Pr
open Go.RowKit Go.Proofs.YthdoilfjcgickaaW.PrintWords Go.Proofs.YthdoilfjcgickaaW.PrintLast Go.Proofs.YthdoilfjcgickaaW.PrintMore
attribute [local go_sem] max2_int min2_int max_two min_two max_three min_three max_four min_four
def impl_Problem_all.f (l0_0 : List (List Int)) (l0_1 : List Int) : Option (Int) := some (shl .i64 1 (l0_1.length : Int))
theorem impl_Problem_all.calls (A0_0 : Option Addr) (c0_0 : Nat) (l0_0 : List (List Int)) (A0_1 : Option Addr) (c0_1 : Nat) (l0_1 : List Int) (r : Int) (w : World) (hr0_0 : Kd.C (Kd.slice 2 (Kd.int .i64)) w A0_0 l0_0.length l0_0) (hc0_0 : l0_0.length ≤ c0_0) (hr0_1 : Kd.C (Kd.int .i64) w A0_1 l0_1.length l0_1) (hc0_1 : l0_1.length ≤ c0_1) (h : impl_Problem_all.f l0_0 l0_1 = some r) :
  Calls Try.prog 70 #[.agg #[.slice A0_0 l0_0.length c0_0, .slice A0_1 l0_1.length c0_1]] w fun e w' => e = .returned (.int .i64 r) ∧ Below w.heap.size w w' := by
 have hu29 := Try.underlying29
 have HR0_0 := Aside0.mk hr0_0
 have HC0_0 := Aside0.mk hc0_0
 clear hr0_0 hc0_0
 have HR0_1 := Aside0.mk hr0_1
 have HC0_1 := Aside0.mk hc0_1
 clear hr0_1 hc0_1
 have HB := Aside0.mk (Below.refl w.heap.size w)
 have H : (some (shl .i64 1 (l0_1.length : Int))) = some r := h
 clear h
 obtain ⟨ji2, hji2⟩ : ∃ j_ : Int, (shl .i64 1 (l0_1.length : Int)) = j_ := ⟨_, rfl⟩
 replace H : (some ji2) = some r := by first | (rw [hji2] at H; exact H) | (simp only [hji2] at H ⊢; exact H)
 have hji2_ : (IntKind.i64.wrap (1 * 2 ^ min (l0_1.length : Int).toNat 64)) = ji2 := hji2
 have hji2z : (l0_1.length : Int) ≤ 64 → (IntKind.i64.wrap (1 * 2 ^ (l0_1.length : Int).toNat)) = ji2 := shl_small hji2
 have hji2p : (IntKind.i64.wrap (1 * 2 ^ min l0_1.length 64)) = ji2 := hji2_
 have hji2q : (l0_1.length : Int) ≤ 64 → (IntKind.i64.wrap (1 * 2 ^ l0_1.length)) = ji2 := hji2z
 have hji2r : (IntKind.i64.wrap (2 ^ min l0_1.length 64)) = ji2 := by have h_ := hji2p; rw [Int.one_mul] at h_; exact h_
 have hji2s : (l0_1.length : Int) ≤ 64 → (IntKind.i64.wrap (2 ^ l0_1.length)) = ji2 := fun hle_ => by have h_ := hji2q hle_; rw [Int.one_mul] at h_; exact h_
 have hji2u : (IntKind.i64.wrap (2 ^ min (l0_1.length : Int).toNat 64)) = ji2 := by have h_ := hji2_; rw [Int.one_mul] at h_; exact h_
 have hji2v : (l0_1.length : Int) ≤ 64 → (IntKind.i64.wrap (2 ^ (l0_1.length : Int).toNat)) = ji2 := fun hle_ => by have h_ := hji2z hle_; rw [Int.one_mul] at h_; exact h_
 have hji2y : (wrap64 (1 * 2 ^ min (l0_1.length : Int).toNat 64)) = ji2 := (i64_w _).symm.trans hji2_
 have hji2x : (l0_1.length : Int) ≤ 64 → (wrap64 (1 * 2 ^ (l0_1.length : Int).toNat)) = ji2 := fun h_ => (i64_w _).symm.trans (hji2z h_)
 obtain rfl := Option.some.inj H
 go_enter Try.func70, Try.ntmps70
 go_wp2_with (first | ((with_reducible refine gate_dst (N := 1) rfl ?_); refine box_event ?hg (N := 1) ?hd (cs := #[.slice A0_0 l0_0.length c0_0, .slice A0_1 l0_1.length c0_1]) (t := 29) ?hr ?_; (case hd => rfl); (case hg => rfl); (case hr => first | (go_simp; done) | (go_simp; rfl)); intro gb479 hg w3 hbox hb; have n0_ := Aside0.mk (bs_ hb); have n1_ := Aside0.mk (hbox); have n2_ := Aside0.mk ((by rw [hg]; exact bz_ : w.heap.size ≤ gb479)); have n3_ := Aside0.mk ((by rw [hg]; exact bz_ : w.heap.size ≤ gb479)); clear HB; have HB := n0_; have BK479 := n1_; have GW479 := n2_; have GE479 := n3_; clear n0_ n1_ n2_ n3_; clear hb hbox hg; have hcz4_0 : w3.cell? ⟨gb479, 0, none⟩ = some (.slice A0_0 l0_0.length c0_0) := (blk_cell BK479.out 0).trans rfl; have hcz4_1 : w3.cell? ⟨gb479, 1, none⟩ = some (.slice A0_1 l0_1.length c0_1) := (blk_cell BK479.out 1).trans rfl; have hfz4_0 := blk_frozen BK479.out 0; have hfz4_1 := blk_frozen BK479.out 1))
 go_ret
 exact ⟨by first | rfl | (simp [errW_none, errW_some] <;> rfl) | (simp only [← hji2]; first | rfl | (simp [errW_none, errW_some] <;> rfl)) | (simp [*, errW_none, errW_some] <;> rfl), hb_⟩
def slices_Index_int64_int64.l0 : Nat → List Int → Int → Int → Int → Option (Int)
 | 0, _, _, _, _ => none
 | k + 1, x0, x1, x7, x8 => if x8 < x7 then (if 0 ≤ x8 then (if x8 < (x0.length : Int) then (if x1 = (rd x0 x8) then (some x8) else (slices_Index_int64_int64.l0 k x0 x1 x7 (wrap64 (x8 + 1)))) else (none)) else (none)) else (some (-1))
def slices_Index_int64_int64.f (k : Nat) (l0 : List Int) (a1 : Int) : Option (Int) := slices_Index_int64_int64.l0 k l0 a1 (l0.length : Int) 0
theorem slices_Index_int64_int64.mono_l : ∀ k, (∀ y0 y1 y2 y3, LeO (slices_Index_int64_int64.l0 k y0 y1 y2 y3) (slices_Index_int64_int64.l0 (k + 1) y0 y1 y2 y3))
 | 0 => fun _ _ _ _ r h => by simp [slices_Index_int64_int64.l0] at h
 | k + 1 => by
  have ih0 := slices_Index_int64_int64.mono_l k
  ·intro y0 y1 y2 y3
   unfold slices_Index_int64_int64.l0
   repeat' first
   | (with_reducible exact ih0 _ _ _ _)
   | (with_reducible exact LeO.refl _)
   | (with_reducible exact LeO.none _)
   | (with_reducible refine LeO.ite ?_ ?_)
   | (with_reducible refine LeO.bind ?_ (fun _ => ?_))
   | exact ih0 _ _ _ _
   | exact LeO.none _
   | refine LeO.ite ?_ ?_
   | refine LeO.bind ?_ (fun _ => ?_)
theorem slices_Index_int64_int64.mono : ∀ a0 a1 k, LeO (slices_Index_int64_int64.f k a0 a1) (slices_Index_int64_int64.f (k + 1) a0 a1) := by
 intro a0 a1 k
 have ih0 := slices_Index_int64_int64.mono_l k
 unfold slices_Index_int64_int64.f
 repeat' first
   | (with_reducible exact ih0 _ _ _ _)
   | (with_reducible exact LeO.refl _)
   | (with_reducible exact LeO.none _)
   | (with_reducible refine LeO.ite ?_ ?_)
   | (with_reducible refine LeO.bind ?_ (fun _ => ?_))
   | exact ih0 _ _ _ _
   | exact LeO.none _
   | refine LeO.ite ?_ ?_
   | refine LeO.bind ?_ (fun _ => ?_)
theorem slices_Index_int64_int64.calls (k : Nat) (A0 : Option Addr) (c0 : Nat) (l0 : List Int) (a1 : Int) (r : Int) (w : World) (hr0 : Kd.C (Kd.int .i64) w A0 l0.length l0) (hc0 : l0.length ≤ c0) (h : slices_Index_int64_int64.f k l0 a1 = some r) :
  Calls Try.prog 108 #[.slice A0 l0.length c0, .int .i64 a1] w fun e w' => e = .returned (.int .i64 r) ∧ Drawn0 w w' := by
 have HR0 := Aside0.mk hr0
 have HC0 := Aside0.mk hc0
 clear hr0 hc0
 have H : (slices_Index_int64_int64.l0 k l0 a1 (l0.length : Int) 0) = some r := h
 clear h
 have H' := Aside0.mk H
 clear H
 go_enter Try.func108, Try.ntmps108
 go_wp2
 go_loopg [8] k (fun kq v8 w' => ∃ (x8_1 : Int), v8 = .int .i64 x8_1 ∧ Aside0 (slices_Index_int64_int64.l0 kq l0 a1 (l0.length : Int) x8_1 = some r) ∧ Aside0 (kq ≤ k) ∧ Drawn0 w w')
 case atStart => exact ⟨(0), (by first | rfl | (simp; done) | (simp [*]; done)), H', ⟨Nat.le_refl _⟩, by repeat (first | exact Drawn0.refl _ | apply Drawn0.step)⟩
 case round =>
  clear H'
  try clear c1
  try clear p2
  obtain ⟨x8_1, rfl, HA, HK1, ⟨m1, rfl⟩⟩ := hrel
  cases gk with
  | zero => exact absurd HA.out (by simp [slices_Index_int64_int64.l0])
  | succ k1 =>
   have H := HA.out
   clear HA
   simp only [slices_Index_int64_int64.l0] at H
   by_cases c3 : x8_1 < (l0.length : Int)
   ·rw [if_pos c3] at H
    have c3b0 : decide (x8_1 < (l0.length : Int)) = true := decide_eq_true c3
    clear c3
    by_cases c4 : 0 ≤ x8_1
    ·rw [if_pos c4] at H
     have c4b0 : decide (0 ≤ x8_1) = true := decide_eq_true c4
     clear c4
     by_cases c5 : x8_1 < (l0.length : Int)
     ·rw [if_pos c5] at H
      have c5b0 : decide (x8_1 < (l0.length : Int)) = true := decide_eq_true c5
      clear c5
      by_cases c6 : a1 = (rd l0 x8_1)
      ·rw [if_pos c6] at H
       have c6b0 : (a1 == (rd l0 x8_1)) = true := beq_iff_eq.mpr c6
       have c6b1 : (a1 != (rd l0 x8_1)) = false := bne_eq_false_iff_eq.mpr c6
       clear c6
       obtain rfl := Option.some.inj H
       have p480 : 0 ≤ (x8_1 : Int) := of_decide_eq_true (by first | (with_reducible assumption) | assumption)
       have q480 : x8_1 < (l0.length : Int) := of_decide_eq_true (by first | (with_reducible assumption) | assumption)
       obtain ⟨ad480, e480, hx480_0⟩ := Kd.at_int HR0.out x8_1 p480 q480
       cases e480
       replace p480 := eq_true p480
       replace q480 := eq_true q480
       go_wp2
       go_ret
       exact ⟨by first | rfl | (simp; done) | (simp [*]; done), by repeat (first | exact Drawn0.refl _ | apply Drawn0.step)⟩
      ·rw [if_neg c6] at H
       have c6b0 : (a1 == (rd l0 x8_1)) = false := beq_eq_false_iff_ne.mpr c6
       have c6b1 : (a1 != (rd l0 x8_1)) = true := bne_iff_ne.mpr c6
       have H' := Aside0.mk H
       clear H
       have p480 : 0 ≤ (x8_1 : Int) := of_decide_eq_true (by first | (with_reducible assumption) | assumption)
       have q480 : x8_1 < (l0.length : Int) := of_decide_eq_true (by first | (with_reducible assumption) | assumption)
       obtain ⟨ad480, e480, hx480_0⟩ := Kd.at_int HR0.out x8_1 p480 q480
       cases e480
       replace p480 := eq_true p480
       replace q480 := eq_true q480
       go_wp2
       go_roundg k1
       case measure => have := HK1.out; omega
       case rel => exact ⟨(wrap64 (x8_1 + 1)), (by first | rfl | (simp; done) | (simp [*]; done)), H', ⟨by have := HK1.out; omega⟩, by repeat (first | exact Drawn0.refl _ | apply Drawn0.step)⟩
     ·rw [if_neg c5] at H
      exact absurd H (by simp)
    ·rw [if_neg c4] at H
     exact absurd H (by simp)
   ·rw [if_neg c3] at H
    have c3b0 : decide (x8_1 < (l0.length : Int)) = false := decide_eq_false c3
    clear c3
    obtain rfl := Option.some.inj H
    go_wp2
    go_ret
    exact ⟨by first | rfl | (simp; done) | (simp [*]; done), by repeat (first | exact Drawn0.refl _ | apply Drawn0.step)⟩
def slices_Contains_int64_int64.f (k : Nat) (l0 : List Int) (a1 : Int) : Option (Bool) := (slices_Index_int64_int64.f k l0 a1).bind fun t481 => (some (decide (t481 ≥ 0)))
theorem slices_Contains_int64_int64.mono : ∀ a0 a1 k, LeO (slices_Contains_int64_int64.f k a0 a1) (slices_Contains_int64_int64.f (k + 1) a0 a1) := by
 intro a0 a1 k
 unfold slices_Contains_int64_int64.f
 repeat' first
   | (with_reducible exact slices_Index_int64_int64.mono _ _ _)
   | (with_reducible exact LeO.refl _)
   | (with_reducible exact LeO.none _)
   | (with_reducible refine LeO.ite ?_ ?_)
   | (with_reducible refine LeO.bind ?_ (fun _ => ?_))
   | exact slices_Index_int64_int64.mono _ _ _
   | exact LeO.none _
   | refine LeO.ite ?_ ?_
   | refine LeO.bind ?_ (fun _ => ?_)
theorem slices_Contains_int64_int64.calls (k : Nat) (A0 : Option Addr) (c0 : Nat) (l0 : List Int) (a1 : Int) (r : Bool) (w : World) (hr0 : Kd.C (Kd.int .i64) w A0 l0.length l0) (hc0 : l0.length ≤ c0) (h : slices_Contains_int64_int64.f k l0 a1 = some r) :
  Calls Try.prog 72 #[.slice A0 l0.length c0, .int .i64 a1] w fun e w' => e = .returned (.bool r) ∧ Drawn0 w w' := by
 have HR0 := Aside0.mk hr0
 have HC0 := Aside0.mk hc0
 clear hr0 hc0
 have H : ((slices_Index_int64_int64.f k l0 a1).bind fun t481 => (some (decide (t481 ≥ 0)))) = some r := h
 clear h
 replace H := Option.bind_eq_some_iff.mp H
 obtain ⟨t481, A30, H⟩ := H
 replace H : (some (decide (t481 ≥ 0))) = some r := H
 have A3 := Aside0.mk A30
 clear A30
 obtain rfl := Option.some.inj H
 go_enter Try.func72, Try.ntmps72
 go_wp2_with (first | ((with_reducible refine gate_callee (f := 108) rfl ?_); refine goesL_ (some 7) rfl rfl Try.func108 (by kernel_rfl) rfl #[.slice A0 l0.length c0, .int .i64 a1] rfl (by (try simp only [List.map_toArray, List.map_cons, List.map_nil]); first | done | rfl | (simp only [List.length_drop, List.length_take]; rfl)) ?_; (with_reducible refine (slices_Index_int64_int64.calls k _ _ l0 a1 t481 _ ?side1 ?side2 A3.out).mono ?_); (case side1 => repeat (first | exact HR0.out | (with_reducible refine Kd.C_alloc ?_ _) | (with_reducible refine Kd.C_drewN ?_ _) | (with_reducible refine Kd.C_drew ?_))); (case side2 => exact HC0.out); rintro e w' ⟨rfl, ⟨nd, rfl⟩⟩; refine ⟨_, rfl, ?_⟩))
 go_ret
 exact ⟨by first | rfl | (simp; done) | (simp [*]; done), by repeat (first | exact Drawn0.refl _ | apply Drawn0.step)⟩
mutual
def impl_IsCube.j0 : Nat → Bool → Int → List Int → Option (Bool)
 | 0, _, _, _ => none
 | k + 1, x18, x483000, x483001 => if x18 = true then (some false) else (impl_IsCube.l0 k x483001 (x483001.length : Int) 0 x483000 x483001)
def impl_IsCube.l0 : Nat → List Int → Int → Int → Int → List Int → Option (Bool)
 | 0, _, _, _, _, _ => none
 | k + 1, x20, x21, x22, x483000, x483001 => if x22 < x21 then (if 0 ≤ x22 then (if x22 < (x20.length : Int) then ((impl_within.f (rd x20 x22) 0 (wrap64 ((x483001.length : Int) - 1))).bind fun t485 => (if t485 = true then (impl_IsCube.l1 k x22 (rd x20 x22) x20 x21 x22 x483000 0 x483000 x483001) else (some false))) else (none)) else (none)) else (some true)
def impl_IsCube.l1 : Nat → Int → Int → List Int → Int → Int → Int → Int → Int → List Int → Option (Bool)
 | 0, _, _, _, _, _, _, _, _, _ => none
 | k + 1, x3, x4, x20, x21, x22, x35, x36, x483000, x483001 => if x36 < x35 then ((impl_has.f x4 x36).bind fun t486 => (if 0 ≤ x36 then (if 0 ≤ (Go.bits .xor .i64 x3 (shl .i64 1 x36)) then (if (Go.bits .xor .i64 x3 (shl .i64 1 x36)) < (x483001.length : Int) then ((impl_has.f (rd x483001 (Go.bits .xor .i64 x3 (shl .i64 1 x36))) x36).bind fun t488 => (if (t486 == t488) = true then (some false) else (impl_IsCube.l1 k x3 x4 x20 x21 x22 x35 (wrap64 (x36 + 1)) x483000 x483001))) else (none)) else (none)) else (none))) else (impl_IsCube.l0 k x20 x21 (wrap64 (x22 + 1)) x483000 x483001)
end
def impl_IsCube.f (k : Nat) (a0_0 : Int) (l0_1 : List Int) : Option (Bool) := (impl_within.f a0_0 1 5).bind fun t483 => (if t483 = true then (if 0 ≤ a0_0 then (impl_IsCube.j0 k ((l0_1.length : Int) != (shl .i64 1 a0_0)) a0_0 l0_1) else (none)) else (impl_IsCube.j0 k true a0_0 l0_1))
theorem impl_IsCube.mono_l : ∀ k, (∀ y0 y1 y2, LeO (impl_IsCube.j0 k y0 y1 y2) (impl_IsCube.j0 (k + 1) y0 y1 y2)) ∧ (∀ y0 y1 y2 y3 y4, LeO (impl_IsCube.l0 k y0 y1 y2 y3 y4) (impl_IsCube.l0 (k + 1) y0 y1 y2 y3 y4)) ∧ (∀ y0 y1 y2 y3 y4 y5 y6 y7 y8, LeO (impl_IsCube.l1 k y0 y1 y2 y3 y4 y5 y6 y7 y8) (impl_IsCube.l1 (k + 1) y0 y1 y2 y3 y4 y5 y6 y7 y8))
 | 0 => ⟨fun _ _ _ r h => by simp [impl_IsCube.j0] at h, fun _ _ _ _ _ r h => by simp [impl_IsCube.l0] at h, fun _ _ _ _ _ _ _ _ _ r h => by simp [impl_IsCube.l1] at h⟩
 | k + 1 => by
  obtain ⟨ih0, ih1, ih2⟩ := impl_IsCube.mono_l k
  refine ⟨?_, ?_, ?_⟩
  ·intro y0 y1 y2
   unfold impl_IsCube.j0
   repeat' first
   | (with_reducible exact ih0 _ _ _)
   | (with_reducible exact ih1 _ _ _ _ _)
   | (with_reducible exact ih2 _ _ _ _ _ _ _ _ _)
   | (with_reducible exact LeO.refl _)
   | (with_reducible exact LeO.none _)
   | (with_reducible refine LeO.ite ?_ ?_)
   | (with_reducible refine LeO.bind ?_ (fun _ => ?_))
   | exact ih0 _ _ _
   | exact ih1 _ _ _ _ _
   | exact ih2 _ _ _ _ _ _ _ _ _
   | exact LeO.none _
   | refine LeO.ite ?_ ?_
   | refine LeO.bind ?_ (fun _ => ?_)
  ·intro y0 y1 y2 y3 y4
   unfold impl_IsCube.l0
   repeat' first
   | (with_reducible exact ih0 _ _ _)
   | (with_reducible exact ih1 _ _ _ _ _)
   | (with_reducible exact ih2 _ _ _ _ _ _ _ _ _)
   | (with_reducible exact LeO.refl _)
   | (with_reducible exact LeO.none _)
   | (with_reducible refine LeO.ite ?_ ?_)
   | (with_reducible refine LeO.bind ?_ (fun _ => ?_))
   | exact ih0 _ _ _
   | exact ih1 _ _ _ _ _
   | exact ih2 _ _ _ _ _ _ _ _ _
   | exact LeO.none _
   | refine LeO.ite ?_ ?_
   | refine LeO.bind ?_ (fun _ => ?_)
  ·intro y0 y1 y2 y3 y4 y5 y6 y7 y8
   unfold impl_IsCube.l1
   repeat' first
   | (with_reducible exact ih0 _ _ _)
   | (with_reducible exact ih1 _ _ _ _ _)
   | (with_reducible exact ih2 _ _ _ _ _ _ _ _ _)
   | (with_reducible exact LeO.refl _)
   | (with_reducible exact LeO.none _)
   | (with_reducible refine LeO.ite ?_ ?_)
   | (with_reducible refine LeO.bind ?_ (fun _ => ?_))
   | exact ih0 _ _ _
   | exact ih1 _ _ _ _ _
   | exact ih2 _ _ _ _ _ _ _ _ _
   | exact LeO.none _
   | refine LeO.ite ?_ ?_
   | refine LeO.bind ?_ (fun _ => ?_)
theorem impl_IsCube.mono : ∀ a0 a1 k, LeO (impl_IsCube.f k a0 a1) (impl_IsCube.f (k + 1) a0 a1) := by
 intro a0 a1 k
 obtain ⟨ih0, ih1, ih2⟩ := impl_IsCube.mono_l k
 unfold impl_IsCube.f
 repeat' first
   | (with_reducible exact ih0 _ _ _)
   | (with_reducible exact ih1 _ _ _ _ _)
   | (with_reducible exact ih2 _ _ _ _ _ _ _ _ _)
   | (with_reducible exact LeO.refl _)
   | (with_reducible exact LeO.none _)
   | (with_reducible refine LeO.ite ?_ ?_)
   | (with_reducible refine LeO.bind ?_ (fun _ => ?_))
   | exact ih0 _ _ _
   | exact ih1 _ _ _ _ _
   | exact ih2 _ _ _ _ _ _ _ _ _
   | exact LeO.none _
   | refine LeO.ite ?_ ?_
   | refine LeO.bind ?_ (fun _ => ?_)
theorem impl_IsCube.calls (k : Nat) (a0_0 : Int) (A0_1 : Option Addr) (c0_1 : Nat) (l0_1 : List Int) (r : Bool) (w : World) (hr0_1 : Kd.C (Kd.int .i64) w A0_1 l0_1.length l0_1) (hc0_1 : l0_1.length ≤ c0_1) (h : impl_IsCube.f k a0_0 l0_1 = some r) :
  Calls Try.prog 73 #[.agg #[.int .i64 a0_0, .slice A0_1 l0_1.length c0_1]] w fun e w' => e = .returned (.bool r) ∧ Below w.heap.size w w' := by
 have hu37 := Try.underlying37
 have HR0_1 := Aside0.mk hr0_1
 have HC0_1 := Aside0.mk hc0_1
 clear hr0_1 hc0_1
 have HB := Aside0.mk (Below.refl w.heap.size w)
 have H : ((impl_within.f a0_0 1 5).bind fun t483 => (if t483 = true then (if 0 ≤ a0_0 then (impl_IsCube.j0 k ((l0_1.length : Int) != (shl .i64 1 a0_0)) a0_0 l0_1) else (none)) else (impl_IsCube.j0 k true a0_0 l0_1))) = some r := h
 clear h
 have HC2 := Aside0.mk H
 clear H
 go_enter Try.func73, Try.ntmps73
 go_upto_region 1 with (first | ((with_reducible refine gate_dst (N := 1) rfl ?_); (try (refine gate_guard (by rfl) ?_; dsimp only)); refine box_event ?hg (N := 1) ?hd (cs := #[.int .i64 a0_0, .slice A0_1 l0_1.length c0_1]) (t := 37) ?hr ?_; (case hd => rfl); (case hg => rfl); (case hr => first | (go_simp; done) | (go_simp; rfl)); intro gb482 hg w3 hbox hb; have n0_ := Aside0.mk (bs_ hb); have n1_ := Aside0.mk (hbox); have n2_ := Aside0.mk ((by rw [hg]; exact bz_ : w.heap.size ≤ gb482)); have n3_ := Aside0.mk ((by rw [hg]; exact bz_ : w.heap.size ≤ gb482)); clear HB; have HB := n0_; have BK482 := n1_; have GW482 := n2_; have GE482 := n3_; clear n0_ n1_ n2_ n3_; clear hb hbox hg))
 repeat (go_quiet (first | ((with_reducible refine gate_dst (N := 1) rfl ?_); (try (refine gate_guard (by rfl) ?_; dsimp only)); refine box_event ?hg (N := 1) ?hd (cs := #[.int .i64 a0_0, .slice A0_1 l0_1.length c0_1]) (t := 37) ?hr ?_; (case hd => rfl); (case hg => rfl); (case hr => first | (go_simp; done) | (go_simp; rfl)); intro gb482 hg w3 hbox hb; have n0_ := Aside0.mk (bs_ hb); have n1_ := Aside0.mk (hbox); have n2_ := Aside0.mk ((by rw [hg]; exact bz_ : w.heap.size ≤ gb482)); have n3_ := Aside0.mk ((by rw [hg]; exact bz_ : w.heap.size ≤ gb482)); clear HB; have HB := n0_; have BK482 := n1_; have GW482 := n2_; have GE482 := n3_; clear n0_ n1_ n2_ n3_; clear hb hbox hg)); go_upto_region 1 with (first | ((with_reducible refine gate_dst (N := 1) rfl ?_); (try (refine gate_guard (by rfl) ?_; dsimp only)); refine box_event ?hg (N := 1) ?hd (cs := #[.int .i64 a0_0, .slice A0_1 l0_1.length c0_1]) (t := 37) ?hr ?_; (case hd => rfl); (case hg => rfl); (case hr => first | (go_simp; done) | (go_simp; rfl)); intro gb482 hg w3 hbox hb; have n0_ := Aside0.mk (bs_ hb); have n1_ := Aside0.mk (hbox); have n2_ := Aside0.mk ((by rw [hg]; exact bz_ : w.heap.size ≤ gb482)); have n3_ := Aside0.mk ((by rw [hg]; exact bz_ : w.heap.size ≤ gb482)); clear HB; have HB := n0_; have BK482 := n1_; have GW482 := n2_; have GE482 := n3_; clear n0_ n1_ n2_ n3_; clear hb hbox hg)))
 (try simp only [Act.put, List.setIfInBounds_toArray, List.set_cons_zero, List.set_cons_succ])
 go_cut [18] (fun v18 wc => ∃ (kq : Nat) (x18_1 : Bool), v18 = .bool x18_1 ∧ Aside0 (impl_IsCube.j0 kq x18_1 a0_0 l0_1 = some r) ∧ Aside0 (kq ≤ k) ∧ Aside0 (wc.heap[gb482]? = some (.cells #[.int .i64 a0_0, (.slice A0_1 l0_1.length c0_1)] 37 (0, 0))) ∧ Aside0 (Below w.heap.size w wc))
 case first =>
  have H := HC2.out
  clear HC2
  replace H := Option.bind_eq_some_iff.mp H
  obtain ⟨t483, A40, H⟩ := H
  replace H : (if t483 = true then (if 0 ≤ a0_0 then (impl_IsCube.j0 k ((l0_1.length : Int) != (shl .i64 1 a0_0)) a0_0 l0_1) else (none)) else (impl_IsCube.j0 k true a0_0 l0_1)) = some r := H
  have A4 := Aside0.mk A40
  clear A40
  by_cases c5 : t483 = true
  ·subst c5
   have H1 : (if 0 ≤ a0_0 then (impl_IsCube.j0 k ((l0_1.length : Int) != (shl .i64 1 a0_0)) a0_0 l0_1) else (none)) = some r := by rw [if_pos rfl] at H; exact H
   clear H
   have H := H1
   clear H1
   by_cases c6 : 0 ≤ a0_0
   ·rw [if_pos c6] at H
    have c6b0 := eq_true c6
    have c6b1 : decide (0 ≤ a0_0) = true := decide_eq_true c6
    clear c6
    obtain ⟨ji7, hji7⟩ : ∃ j_ : Int, (shl .i64 1 a0_0) = j_ := ⟨_, rfl⟩
    replace H : (impl_IsCube.j0 k ((l0_1.length : Int) != (ji7)) a0_0 l0_1) = some r := by first | (rw [hji7] at H; exact H) | (simp only [hji7] at H ⊢; exact H)
    (try rw [hji7] at A4)
    have hji7_ : (IntKind.i64.wrap (1 * 2 ^ min a0_0.toNat 64)) = ji7 := hji7
    have hji7z : a0_0 ≤ 64 → (IntKind.i64.wrap (1 * 2 ^ a0_0.toNat)) = ji7 := shl_small hji7
    have hji7u : (IntKind.i64.wrap (2 ^ min a0_0.toNat 64)) = ji7 := by have h_ := hji7_; rw [Int.one_mul] at h_; exact h_
    have hji7v : a0_0 ≤ 64 → (IntKind.i64.wrap (2 ^ a0_0.toNat)) = ji7 := fun hle_ => by have h_ := hji7z hle_; rw [Int.one_mul] at h_; exact h_
    have hji7y : (wrap64 (1 * 2 ^ min a0_0.toNat 64)) = ji7 := (i64_w _).symm.trans hji7_
    have hji7x : a0_0 ≤ 64 → (wrap64 (1 * 2 ^ a0_0.toNat)) = ji7 := fun h_ => (i64_w _).symm.trans (hji7z h_)
    have H' := Aside0.mk H
    clear H
    have hcz8_0 : w3.cell? ⟨gb482, 0, none⟩ = some (.int .i64 a0_0) := (blk_cell BK482.out 0).trans rfl
    have hcz8_1 : w3.cell? ⟨gb482, 1, none⟩ = some (.slice A0_1 l0_1.length c0_1) := (blk_cell BK482.out 1).trans rfl
    have hfz8_0 := blk_frozen BK482.out 0
    have hfz8_1 := blk_frozen BK482.out 1
    go_wp2_with (first | (go_at_call 92; (with_reducible refine (impl_within.calls a0_0 1 5 true _ A4.out).mono ?_); rintro e w' ⟨rfl, ⟨nd, rfl⟩⟩; (try first | exact ⟨rfl, _, World.drewN_drewN _ _ _⟩ | exact ⟨rfl, _, Eq.trans (World.drewN_drewN _ _ _) (congrArg (World.drewN _) (Nat.add_assoc _ _ _))⟩)))
    repeat (go_quiet (first | (go_at_call 92; (with_reducible refine (impl_within.calls a0_0 1 5 true _ A4.out).mono ?_); rintro e w' ⟨rfl, ⟨nd, rfl⟩⟩; (try first | exact ⟨rfl, _, World.drewN_drewN _ _ _⟩ | exact ⟨rfl, _, Eq.trans (World.drewN_drewN _ _ _) (congrArg (World.drewN _) (Nat.add_assoc _ _ _))⟩))); try go_wp2_with (first | (go_at_call 92; (with_reducible refine (impl_within.calls a0_0 1 5 true _ A4.out).mono ?_); rintro e w' ⟨rfl, ⟨nd, rfl⟩⟩; (try first | exact ⟨rfl, _, World.drewN_drewN _ _ _⟩ | exact ⟨rfl, _, Eq.trans (World.drewN_drewN _ _ _) (congrArg (World.drewN _) (Nat.add_assoc _ _ _))⟩))))
    go_meet
    case rel => exact ⟨_, (((l0_1.length : Int) != (ji7))), (by first | rfl | (simp; done) | (simp only [← hji7] <;> (first | rfl | simp)) | (simp [*]; done)), H', ⟨by first | omega | exact Nat.le_refl _⟩, ⟨bk_⟩, ⟨hb_⟩⟩
   ·rw [if_neg c6] at H
    exact absurd H (by simp)
  ·replace c5 := Bool.eq_false_iff.mpr c5
   subst c5
   have H1 : (impl_IsCube.j0 k true a0_0 l0_1) = some r := by rw [if_neg (show ¬ (false = true) by decide)] at H; exact H
   clear H
   have H := H1
   clear H1
   have H' := Aside0.mk H
   clear H
   have hcz9_0 : w3.cell? ⟨gb482, 0, none⟩ = some (.int .i64 a0_0) := (blk_cell BK482.out 0).trans rfl
   have hcz9_1 : w3.cell? ⟨gb482, 1, none⟩ = some (.slice A0_1 l0_1.length c0_1) := (blk_cell BK482.out 1).trans rfl
   have hfz9_0 := blk_frozen BK482.out 0
   have hfz9_1 := blk_frozen BK482.out 1
   go_wp2_with (first | (go_at_call 92; (with_reducible refine (impl_within.calls a0_0 1 5 false _ A4.out).mono ?_); rintro e w' ⟨rfl, ⟨nd, rfl⟩⟩; (try first | exact ⟨rfl, _, World.drewN_drewN _ _ _⟩ | exact ⟨rfl, _, Eq.trans (World.drewN_drewN _ _ _) (congrArg (World.drewN _) (Nat.add_assoc _ _ _))⟩)))
   repeat (go_quiet (first | (go_at_call 92; (with_reducible refine (impl_within.calls a0_0 1 5 false _ A4.out).mono ?_); rintro e w' ⟨rfl, ⟨nd, rfl⟩⟩; (try first | exact ⟨rfl, _, World.drewN_drewN _ _ _⟩ | exact ⟨rfl, _, Eq.trans (World.drewN_drewN _ _ _) (congrArg (World.drewN _) (Nat.add_assoc _ _ _))⟩))); try go_wp2_with (first | (go_at_call 92; (with_reducible refine (impl_within.calls a0_0 1 5 false _ A4.out).mono ?_); rintro e w' ⟨rfl, ⟨nd, rfl⟩⟩; (try first | exact ⟨rfl, _, World.drewN_drewN _ _ _⟩ | exact ⟨rfl, _, Eq.trans (World.drewN_drewN _ _ _) (congrArg (World.drewN _) (Nat.add_assoc _ _ _))⟩))))
   go_meet
   case rel => exact ⟨_, (true), (by first | rfl | (simp; done) | (simp [*]; done)), H', ⟨by first | omega | exact Nat.le_refl _⟩, ⟨bk_⟩, ⟨hb_⟩⟩
 case rest =>
  clear HC2
  try clear p2
  try clear c5
  try clear c6
  try clear c6b0
  try clear c6b1
  try clear p6
  try clear c7
  try clear hcz8_0
  try clear hcz8_1
  try clear hcz9_0
  try clear hcz9_1
  try clear hfz8_0
  try clear hfz8_1
  try clear hfz9_0
  try clear hfz9_1
  obtain ⟨kq, x18_1, rfl, HA, HJ1, BK482, HB⟩ := hcut
  cases kq with
  | zero => exact absurd HA.out (by simp [impl_IsCube.j0])
  | succ kj1 =>
   have H := HA.out
   clear HA
   simp only [impl_IsCube.j0] at H
   by_cases c10 : x18_1 = true
   ·subst c10
    have H1 : (some false) = some r := by rw [if_pos rfl] at H; exact H
    clear H
    have H := H1
    clear H1
    obtain rfl := Option.some.inj H
    go_wp2
    repeat (go_quiet (fail); try go_wp2)
    go_ret
    exact ⟨by first | rfl | (simp [errW_none, errW_some] <;> rfl) | (simp [*, errW_none, errW_some] <;> rfl), hb_⟩
   ·replace c10 := Bool.eq_false_iff.mpr c10
    subst c10
    have H1 : (impl_IsCube.l0 kj1 l0_1 (l0_1.length : Int) 0 a0_0 l0_1) = some r := by rw [if_neg (show ¬ (false = true) by decide)] at H; exact H
    clear H
    have H := H1
    clear H1
    have H' := Aside0.mk H
    clear H
    have hcz11_0 : wc.cell? ⟨gb482, 0, none⟩ = some (.int .i64 a0_0) := (blk_cell BK482.out 0).trans rfl
    have hcz11_1 : wc.cell? ⟨gb482, 1, none⟩ = some (.slice A0_1 l0_1.length c0_1) := (blk_cell BK482.out 1).trans rfl
    have hfz11_0 := blk_frozen BK482.out 0
    have hfz11_1 := blk_frozen BK482.out 1
    go_wp2
    repeat (go_quiet (fail); try go_wp2)
    go_loopg [22] kj1 (fun kq v22 w' => ∃ (x22_2 : Int), v22 = .int .i64 x22_2 ∧ Aside0 (impl_IsCube.l0 kq l0_1 (l0_1.length : Int) x22_2 a0_0 l0_1 = some r) ∧ Aside0 (kq ≤ kj1) ∧ Aside0 (w'.heap[gb482]? = some (.cells #[.int .i64 a0_0, (.slice A0_1 l0_1.length c0_1)] 37 (0, 0))) ∧ Aside0 (Below w.heap.size w w'))
    case atStart => exact ⟨(0), (by first | rfl | (simp; done) | (simp [*]; done)), H', ⟨Nat.le_refl _⟩, ⟨bk_⟩, ⟨hb_⟩⟩
    case round =>
     clear H'
     try clear c1
     try clear p2
     try clear c5
     try clear c6
     try clear c6b0
     try clear c6b1
     try clear p6
     try clear c7
     try clear c10
     try clear hcz11_0
     try clear hcz11_1
     try clear hcz8_0
     try clear hcz8_1
     try clear hcz9_0
     try clear hcz9_1
     try clear hfz11_0
     try clear hfz11_1
     try clear hfz8_0
     try clear hfz8_1
     try clear hfz9_0
     try clear hfz9_1
     try clear p2
     try clear p6
     obtain ⟨x22_2, rfl, HA, HK2, BK482, HB⟩ := hrel
     cases gk with
     | zero => exact absurd HA.out (by simp [impl_IsCube.l0])
     | succ k2 =>
      have H := HA.out
      clear HA
      simp only [impl_IsCube.l0] at H
      by_cases c12 : x22_2 < (l0_1.length : Int)
      ·rw [if_pos c12] at H
       have c12b0 : decide (x22_2 < (l0_1.length : Int)) = true := decide_eq_true c12
       clear c12
       by_cases c13 : 0 ≤ x22_2
       ·rw [if_pos c13] at H
        have c13b0 : decide (0 ≤ x22_2) = true := decide_eq_true c13
        clear c13
        by_cases c14 : x22_2 < (l0_1.length : Int)
        ·rw [if_pos c14] at H
         have c14b0 : decide (x22_2 < (l0_1.length : Int)) = true := decide_eq_true c14
         clear c14
         replace H := Option.bind_eq_some_iff.mp H
         obtain ⟨t485, A150, H⟩ := H
         replace H : (if t485 = true then (impl_IsCube.l1 k2 x22_2 (rd l0_1 x22_2) l0_1 (l0_1.length : Int) x22_2 a0_0 0 a0_0 l0_1) else (some false)) = some r := H
         have A15 := Aside0.mk A150
         clear A150
         by_cases c16 : t485 = true
         ·subst c16
          have H1 : (impl_IsCube.l1 k2 x22_2 (rd l0_1 x22_2) l0_1 (l0_1.length : Int) x22_2 a0_0 0 a0_0 l0_1) = some r := by rw [if_pos rfl] at H; exact H
          clear H
          have H := H1
          clear H1
          have H' := Aside0.mk H
          clear H
          have p484 : 0 ≤ (x22_2 : Int) := of_decide_eq_true (by first | (with_reducible assumption) | assumption)
          have q484 : x22_2 < (l0_1.length : Int) := of_decide_eq_true (by first | (with_reducible assumption) | assumption)
          obtain ⟨ad484, e484, hx484_0⟩ := Kd.at_int HR0_1.out x22_2 p484 q484
          cases e484
          replace hx484_0 := (HB.out.cell (World.block_lt_of_cell? w _ hx484_0)).trans hx484_0
          replace p484 := eq_true p484
          replace q484 := eq_true q484
          have hcz17_0 : wr.cell? ⟨gb482, 0, none⟩ = some (.int .i64 a0_0) := (blk_cell BK482.out 0).trans rfl
          have hcz17_1 : wr.cell? ⟨gb482, 1, none⟩ = some (.slice (some ad484) l0_1.length c0_1) := (blk_cell BK482.out 1).trans rfl
          have hfz17_0 := blk_frozen BK482.out 0
          have hfz17_1 := blk_frozen BK482.out 1
          go_wp2_with (first | (go_at_call 92; (with_reducible refine (impl_within.calls (rd l0_1 x22_2) 0 (wrap64 ((l0_1.length : Int) - 1)) true _ A15.out).mono ?_); rintro e w' ⟨rfl, ⟨nd, rfl⟩⟩; (try first | exact ⟨rfl, _, World.drewN_drewN _ _ _⟩ | exact ⟨rfl, _, Eq.trans (World.drewN_drewN _ _ _) (congrArg (World.drewN _) (Nat.add_assoc _ _ _))⟩)))
          repeat (go_quiet (first | (go_at_call 92; (with_reducible refine (impl_within.calls (rd l0_1 x22_2) 0 (wrap64 ((l0_1.length : Int) - 1)) true _ A15.out).mono ?_); rintro e w' ⟨rfl, ⟨nd, rfl⟩⟩; (try first | exact ⟨rfl, _, World.drewN_drewN _ _ _⟩ | exact ⟨rfl, _, Eq.trans (World.drewN_drewN _ _ _) (congrArg (World.drewN _) (Nat.add_assoc _ _ _))⟩))); try go_wp2_with (first | (go_at_call 92; (with_reducible refine (impl_within.calls (rd l0_1 x22_2) 0 (wrap64 ((l0_1.length : Int) - 1)) true _ A15.out).mono ?_); rintro e w' ⟨rfl, ⟨nd, rfl⟩⟩; (try first | exact ⟨rfl, _, World.drewN_drewN _ _ _⟩ | exact ⟨rfl, _, Eq.trans (World.drewN_drewN _ _ _) (congrArg (World.drewN _) (Nat.add_assoc _ _ _))⟩))))
          go_loopg [36] k2 (fun kq v36 w' => ∃ (x36_3 : Int), v36 = .int .i64 x36_3 ∧ Aside0 (impl_IsCube.l1 kq x22_2 (rd l0_1 x22_2) l0_1 (l0_1.length : Int) x22_2 a0_0 x36_3 a0_0 l0_1 = some r) ∧ Aside0 (kq ≤ k2) ∧ Aside0 (w'.heap[gb482]? = some (.cells #[.int .i64 a0_0, (.slice (some ad484) l0_1.length c0_1)] 37 (0, 0))) ∧ Aside0 (Below w.heap.size w w'))
          case atStart => exact ⟨(0), (by first | rfl | (simp; done) | (simp [*]; done)), H', ⟨Nat.le_refl _⟩, ⟨bk_⟩, ⟨hb_⟩⟩
          case round =>
           clear H'
           try clear c1
           try clear p2
           try clear p4
           try clear q4
           try clear hx4
           try clear c5
           try clear c6
           try clear c6b0
           try clear c6b1
           try clear p6
           try clear c7
           try clear c10
           try clear c12
           try clear c12b0
           try clear c13
           try clear c13b0
           try clear c14
           try clear c14b0
           try clear c16
           try clear hcz11_0
           try clear hcz11_1
           try clear hcz17_0
           try clear hcz17_1
           try clear hcz8_0
           try clear hcz8_1
           try clear hcz9_0
           try clear hcz9_1
           try clear hfz11_0
           try clear hfz11_1
           try clear hfz17_0
           try clear hfz17_1
           try clear hfz8_0
           try clear hfz8_1
           try clear hfz9_0
           try clear hfz9_1
           try clear hx484_0
           try clear p2
           try clear p484
           try clear p6
           try clear q484
           obtain ⟨x36_3, rfl, HA, HK3, BK482, HB⟩ := hrel
           cases gk with
           | zero => exact absurd HA.out (by simp [impl_IsCube.l1])
           | succ k3 =>
            have H := HA.out
            clear HA
            simp only [impl_IsCube.l1] at H
            by_cases c18 : x36_3 < a0_0
            ·rw [if_pos c18] at H
             have c18b0 : decide (x36_3 < a0_0) = true := decide_eq_true c18
             clear c18
             replace H := Option.bind_eq_some_iff.mp H
             obtain ⟨t486, A190, H⟩ := H
             replace H : (if 0 ≤ x36_3 then (if 0 ≤ (Go.bits .xor .i64 x22_2 (shl .i64 1 x36_3)) then (if (Go.bits .xor .i64 x22_2 (shl .i64 1 x36_3)) < (l0_1.length : Int) then ((impl_has.f (rd l0_1 (Go.bits .xor .i64 x22_2 (shl .i64 1 x36_3))) x36_3).bind fun t488 => (if (t486 == t488) = true then (some false) else (impl_IsCube.l1 k3 x22_2 (rd l0_1 x22_2) l0_1 (l0_1.length : Int) x22_2 a0_0 (wrap64 (x36_3 + 1)) a0_0 l0_1))) else (none)) else (none)) else (none)) = some r := H
             have A19 := Aside0.mk A190
             clear A190
             by_cases c20 : 0 ≤ x36_3
             ·rw [if_pos c20] at H
              have c20b0 := eq_true c20
              have c20b1 : decide (0 ≤ x36_3) = true := decide_eq_true c20
              clear c20
              obtain ⟨ji21, hji21⟩ : ∃ j_ : Int, (shl .i64 1 x36_3) = j_ := ⟨_, rfl⟩
              replace H : (if 0 ≤ (Go.bits .xor .i64 x22_2 (ji21)) then (if (Go.bits .xor .i64 x22_2 (ji21)) < (l0_1.length : Int) then ((impl_has.f (rd l0_1 (Go.bits .xor .i64 x22_2 (ji21))) x36_3).bind fun t488 => (if (t486 == t488) = true then (some false) else (impl_IsCube.l1 k3 x22_2 (rd l0_1 x22_2) l0_1 (l0_1.length : Int) x22_2 a0_0 (wrap64 (x36_3 + 1)) a0_0 l0_1))) else (none)) else (none)) = some r := by first | (rw [hji21] at H; exact H) | (simp only [hji21] at H ⊢; exact H)
              (try rw [hji21] at A19)
              have hji21_ : (IntKind.i64.wrap (1 * 2 ^ min x36_3.toNat 64)) = ji21 := hji21
              have hji21z : x36_3 ≤ 64 → (IntKind.i64.wrap (1 * 2 ^ x36_3.toNat)) = ji21 := shl_small hji21
              have hji21u : (IntKind.i64.wrap (2 ^ min x36_3.toNat 64)) = ji21 := by have h_ := hji21_; rw [Int.one_mul] at h_; exact h_
              have hji21v : x36_3 ≤ 64 → (IntKind.i64.wrap (2 ^ x36_3.toNat)) = ji21 := fun hle_ => by have h_ := hji21z hle_; rw [Int.one_mul] at h_; exact h_
              have hji21y : (wrap64 (1 * 2 ^ min x36_3.toNat 64)) = ji21 := (i64_w _).symm.trans hji21_
              have hji21x : x36_3 ≤ 64 → (wrap64 (1 * 2 ^ x36_3.toNat)) = ji21 := fun h_ => (i64_w _).symm.trans (hji21z h_)
              by_cases c22 : 0 ≤ (Go.bits .xor .i64 x22_2 (ji21))
              ·rw [if_pos c22] at H
               have c22b0 : decide (0 ≤ (Go.bits .xor .i64 x22_2 (ji21))) = true := decide_eq_true c22
               clear c22
               by_cases c23 : (Go.bits .xor .i64 x22_2 (ji21)) < (l0_1.length : Int)
               ·rw [if_pos c23] at H
                have c23b0 : decide ((Go.bits .xor .i64 x22_2 (ji21)) < (l0_1.length : Int)) = true := decide_eq_true c23
                clear c23
                replace H := Option.bind_eq_some_iff.mp H
                obtain ⟨t488, A240, H⟩ := H
                replace H : (if (t486 == t488) = true then (some false) else (impl_IsCube.l1 k3 x22_2 (rd l0_1 x22_2) l0_1 (l0_1.length : Int) x22_2 a0_0 (wrap64 (x36_3 + 1)) a0_0 l0_1)) = some r := H
                have A24 := Aside0.mk A240
                clear A240
                by_cases c25 : (t486 == t488) = true
                ·rw [if_pos c25] at H
                 have c25b0 : (t486 == t488) = true := c25
                 (try (have c25b1 : decide (t486 = t488) = true := by simpa using c25))
                 (try (have c25b2 : (t486 == t488) = true := by simpa using c25))
                 clear c25
                 obtain rfl := Option.some.inj H
                 go_wp2_with (first | (go_at_call 109; (with_reducible refine (impl_has.calls (rd l0_1 x22_2) x36_3 t486 _ A19.out).mono ?_); rintro e w' ⟨rfl, ⟨nd, rfl⟩⟩; (try first | exact ⟨rfl, _, World.drewN_drewN _ _ _⟩ | exact ⟨rfl, _, Eq.trans (World.drewN_drewN _ _ _) (congrArg (World.drewN _) (Nat.add_assoc _ _ _))⟩); have hcz26_0 : wr.cell? ⟨gb482, 0, none⟩ = some (.int .i64 a0_0) := (blk_cell BK482.out 0).trans rfl; have hcz26_1 : wr.cell? ⟨gb482, 1, none⟩ = some (.slice (some ad484) l0_1.length c0_1) := (blk_cell BK482.out 1).trans rfl; have hfz26_0 := blk_frozen BK482.out 0; have hfz26_1 := blk_frozen BK482.out 1; have p487 : 0 ≤ ((Go.bits .xor .i64 x22_2 (ji21)) : Int) := of_decide_eq_true (by first | (with_reducible assumption) | assumption); have q487 : (Go.bits .xor .i64 x22_2 (ji21)) < (l0_1.length : Int) := of_decide_eq_true (by first | (with_reducible assumption) | assumption); obtain ⟨ad487, e487, hx487_0⟩ := Kd.at_int HR0_1.out (Go.bits .xor .i64 x22_2 (ji21)) p487 q487; obtain rfl : ad484 = ad487 := (by injection e487); replace hx487_0 := (HB.out.cell (World.block_lt_of_cell? w _ hx487_0)).trans hx487_0; replace p487 := eq_true p487; replace q487 := eq_true q487) | (go_at_call 109; (with_reducible refine (impl_has.calls (rd l0_1 (Go.bits .xor .i64 x22_2 (ji21))) x36_3 t488 _ A24.out).mono ?_); rintro e w' ⟨rfl, ⟨nd, rfl⟩⟩; (try first | exact ⟨rfl, _, World.drewN_drewN _ _ _⟩ | exact ⟨rfl, _, Eq.trans (World.drewN_drewN _ _ _) (congrArg (World.drewN _) (Nat.add_assoc _ _ _))⟩)))
                 repeat (go_quiet (first | (go_at_call 109; (with_reducible refine (impl_has.calls (rd l0_1 x22_2) x36_3 t486 _ A19.out).mono ?_); rintro e w' ⟨rfl, ⟨nd, rfl⟩⟩; (try first | exact ⟨rfl, _, World.drewN_drewN _ _ _⟩ | exact ⟨rfl, _, Eq.trans (World.drewN_drewN _ _ _) (congrArg (World.drewN _) (Nat.add_assoc _ _ _))⟩); have hcz26_0 : wr.cell? ⟨gb482, 0, none⟩ = some (.int .i64 a0_0) := (blk_cell BK482.out 0).trans rfl; have hcz26_1 : wr.cell? ⟨gb482, 1, none⟩ = some (.slice (some ad484) l0_1.length c0_1) := (blk_cell BK482.out 1).trans rfl; have hfz26_0 := blk_frozen BK482.out 0; have hfz26_1 := blk_frozen BK482.out 1; have p487 : 0 ≤ ((Go.bits .xor .i64 x22_2 (ji21)) : Int) := of_decide_eq_true (by first | (with_reducible assumption) | assumption); have q487 : (Go.bits .xor .i64 x22_2 (ji21)) < (l0_1.length : Int) := of_decide_eq_true (by first | (with_reducible assumption) | assumption); obtain ⟨ad487, e487, hx487_0⟩ := Kd.at_int HR0_1.out (Go.bits .xor .i64 x22_2 (ji21)) p487 q487; obtain rfl : ad484 = ad487 := (by injection e487); replace hx487_0 := (HB.out.cell (World.block_lt_of_cell? w _ hx487_0)).trans hx487_0; replace p487 := eq_true p487; replace q487 := eq_true q487) | (go_at_call 109; (with_reducible refine (impl_has.calls (rd l0_1 (Go.bits .xor .i64 x22_2 (ji21))) x36_3 t488 _ A24.out).mono ?_); rintro e w' ⟨rfl, ⟨nd, rfl⟩⟩; (try first | exact ⟨rfl, _, World.drewN_drewN _ _ _⟩ | exact ⟨rfl, _, Eq.trans (World.drewN_drewN _ _ _) (congrArg (World.drewN _) (Nat.add_assoc _ _ _))⟩))); try go_wp2_with (first | (go_at_call 109; (with_reducible refine (impl_has.calls (rd l0_1 x22_2) x36_3 t486 _ A19.out).mono ?_); rintro e w' ⟨rfl, ⟨nd, rfl⟩⟩; (try first | exact ⟨rfl, _, World.drewN_drewN _ _ _⟩ | exact ⟨rfl, _, Eq.trans (World.drewN_drewN _ _ _) (congrArg (World.drewN _) (Nat.add_assoc _ _ _))⟩); have hcz26_0 : wr.cell? ⟨gb482, 0, none⟩ = some (.int .i64 a0_0) := (blk_cell BK482.out 0).trans rfl; have hcz26_1 : wr.cell? ⟨gb482, 1, none⟩ = some (.slice (some ad484) l0_1.length c0_1) := (blk_cell BK482.out 1).trans rfl; have hfz26_0 := blk_frozen BK482.out 0; have hfz26_1 := blk_frozen BK482.out 1; have p487 : 0 ≤ ((Go.bits .xor .i64 x22_2 (ji21)) : Int) := of_decide_eq_true (by first | (with_reducible assumption) | assumption); have q487 : (Go.bits .xor .i64 x22_2 (ji21)) < (l0_1.length : Int) := of_decide_eq_true (by first | (with_reducible assumption) | assumption); obtain ⟨ad487, e487, hx487_0⟩ := Kd.at_int HR0_1.out (Go.bits .xor .i64 x22_2 (ji21)) p487 q487; obtain rfl : ad484 = ad487 := (by injection e487); replace hx487_0 := (HB.out.cell (World.block_lt_of_cell? w _ hx487_0)).trans hx487_0; replace p487 := eq_true p487; replace q487 := eq_true q487) | (go_at_call 109; (with_reducible refine (impl_has.calls (rd l0_1 (Go.bits .xor .i64 x22_2 (ji21))) x36_3 t488 _ A24.out).mono ?_); rintro e w' ⟨rfl, ⟨nd, rfl⟩⟩; (try first | exact ⟨rfl, _, World.drewN_drewN _ _ _⟩ | exact ⟨rfl, _, Eq.trans (World.drewN_drewN _ _ _) (congrArg (World.drewN _) (Nat.add_assoc _ _ _))⟩))))
                 go_ret
                 exact ⟨by first | rfl | (simp [errW_none, errW_some] <;> rfl) | (simp only [← hji21]; first | rfl | (simp [errW_none, errW_some] <;> rfl)) | (simp [*, errW_none, errW_some] <;> rfl), hb_⟩
                ·rw [if_neg c25] at H
                 have c25b0 : (t486 == t488) = false := by simpa using c25
                 (try (have c25b1 : decide (t486 = t488) = false := by simpa using c25))
                 (try (have c25b2 : (t486 == t488) = false := by simpa using c25))
                 (try (have c25b3 : ¬ (t486 = t488) := by simpa using c25))
                 clear c25
                 have H' := Aside0.mk H
                 clear H
                 go_wp2_with (first | (go_at_call 109; (with_reducible refine (impl_has.calls (rd l0_1 x22_2) x36_3 t486 _ A19.out).mono ?_); rintro e w' ⟨rfl, ⟨nd, rfl⟩⟩; (try first | exact ⟨rfl, _, World.drewN_drewN _ _ _⟩ | exact ⟨rfl, _, Eq.trans (World.drewN_drewN _ _ _) (congrArg (World.drewN _) (Nat.add_assoc _ _ _))⟩); have hcz27_0 : wr.cell? ⟨gb482, 0, none⟩ = some (.int .i64 a0_0) := (blk_cell BK482.out 0).trans rfl; have hcz27_1 : wr.cell? ⟨gb482, 1, none⟩ = some (.slice (some ad484) l0_1.length c0_1) := (blk_cell BK482.out 1).trans rfl; have hfz27_0 := blk_frozen BK482.out 0; have hfz27_1 := blk_frozen BK482.out 1; have p487 : 0 ≤ ((Go.bits .xor .i64 x22_2 (ji21)) : Int) := of_decide_eq_true (by first | (with_reducible assumption) | assumption); have q487 : (Go.bits .xor .i64 x22_2 (ji21)) < (l0_1.length : Int) := of_decide_eq_true (by first | (with_reducible assumption) | assumption); obtain ⟨ad487, e487, hx487_0⟩ := Kd.at_int HR0_1.out (Go.bits .xor .i64 x22_2 (ji21)) p487 q487; obtain rfl : ad484 = ad487 := (by injection e487); replace hx487_0 := (HB.out.cell (World.block_lt_of_cell? w _ hx487_0)).trans hx487_0; replace p487 := eq_true p487; replace q487 := eq_true q487) | (go_at_call 109; (with_reducible refine (impl_has.calls (rd l0_1 (Go.bits .xor .i64 x22_2 (ji21))) x36_3 t488 _ A24.out).mono ?_); rintro e w' ⟨rfl, ⟨nd, rfl⟩⟩; (try first | exact ⟨rfl, _, World.drewN_drewN _ _ _⟩ | exact ⟨rfl, _, Eq.trans (World.drewN_drewN _ _ _) (congrArg (World.drewN _) (Nat.add_assoc _ _ _))⟩)))
                 repeat (go_quiet (first | (go_at_call 109; (with_reducible refine (impl_has.calls (rd l0_1 x22_2) x36_3 t486 _ A19.out).mono ?_); rintro e w' ⟨rfl, ⟨nd, rfl⟩⟩; (try first | exact ⟨rfl, _, World.drewN_drewN _ _ _⟩ | exact ⟨rfl, _, Eq.trans (World.drewN_drewN _ _ _) (congrArg (World.drewN _) (Nat.add_assoc _ _ _))⟩); have hcz27_0 : wr.cell? ⟨gb482, 0, none⟩ = some (.int .i64 a0_0) := (blk_cell BK482.out 0).trans rfl; have hcz27_1 : wr.cell? ⟨gb482, 1, none⟩ = some (.slice (some ad484) l0_1.length c0_1) := (blk_cell BK482.out 1).trans rfl; have hfz27_0 := blk_frozen BK482.out 0; have hfz27_1 := blk_frozen BK482.out 1; have p487 : 0 ≤ ((Go.bits .xor .i64 x22_2 (ji21)) : Int) := of_decide_eq_true (by first | (with_reducible assumption) | assumption); have q487 : (Go.bits .xor .i64 x22_2 (ji21)) < (l0_1.length : Int) := of_decide_eq_true (by first | (with_reducible assumption) | assumption); obtain ⟨ad487, e487, hx487_0⟩ := Kd.at_int HR0_1.out (Go.bits .xor .i64 x22_2 (ji21)) p487 q487; obtain rfl : ad484 = ad487 := (by injection e487); replace hx487_0 := (HB.out.cell (World.block_lt_of_cell? w _ hx487_0)).trans hx487_0; replace p487 := eq_true p487; replace q487 := eq_true q487) | (go_at_call 109; (with_reducible refine (impl_has.calls (rd l0_1 (Go.bits .xor .i64 x22_2 (ji21))) x36_3 t488 _ A24.out).mono ?_); rintro e w' ⟨rfl, ⟨nd, rfl⟩⟩; (try first | exact ⟨rfl, _, World.drewN_drewN _ _ _⟩ | exact ⟨rfl, _, Eq.trans (World.drewN_drewN _ _ _) (congrArg (World.drewN _) (Nat.add_assoc _ _ _))⟩))); try go_wp2_with (first | (go_at_call 109; (with_reducible refine (impl_has.calls (rd l0_1 x22_2) x36_3 t486 _ A19.out).mono ?_); rintro e w' ⟨rfl, ⟨nd, rfl⟩⟩; (try first | exact ⟨rfl, _, World.drewN_drewN _ _ _⟩ | exact ⟨rfl, _, Eq.trans (World.drewN_drewN _ _ _) (congrArg (World.drewN _) (Nat.add_assoc _ _ _))⟩); have hcz27_0 : wr.cell? ⟨gb482, 0, none⟩ = some (.int .i64 a0_0) := (blk_cell BK482.out 0).trans rfl; have hcz27_1 : wr.cell? ⟨gb482, 1, none⟩ = some (.slice (some ad484) l0_1.length c0_1) := (blk_cell BK482.out 1).trans rfl; have hfz27_0 := blk_frozen BK482.out 0; have hfz27_1 := blk_frozen BK482.out 1; have p487 : 0 ≤ ((Go.bits .xor .i64 x22_2 (ji21)) : Int) := of_decide_eq_true (by first | (with_reducible assumption) | assumption); have q487 : (Go.bits .xor .i64 x22_2 (ji21)) < (l0_1.length : Int) := of_decide_eq_true (by first | (with_reducible assumption) | assumption); obtain ⟨ad487, e487, hx487_0⟩ := Kd.at_int HR0_1.out (Go.bits .xor .i64 x22_2 (ji21)) p487 q487; obtain rfl : ad484 = ad487 := (by injection e487); replace hx487_0 := (HB.out.cell (World.block_lt_of_cell? w _ hx487_0)).trans hx487_0; replace p487 := eq_true p487; replace q487 := eq_true q487) | (go_at_call 109; (with_reducible refine (impl_has.calls (rd l0_1 (Go.bits .xor .i64 x22_2 (ji21))) x36_3 t488 _ A24.out).mono ?_); rintro e w' ⟨rfl, ⟨nd, rfl⟩⟩; (try first | exact ⟨rfl, _, World.drewN_drewN _ _ _⟩ | exact ⟨rfl, _, Eq.trans (World.drewN_drewN _ _ _) (congrArg (World.drewN _) (Nat.add_assoc _ _ _))⟩))))
                 go_roundg k3
                 case measure => have := HJ1.out; have := HK2.out; have := HK3.out; omega
                 case rel => exact ⟨(wrap64 (x36_3 + 1)), (by first | rfl | (simp; done) | (simp [*]; done)), H', ⟨by have := HJ1.out; have := HK2.out; have := HK3.out; omega⟩, ⟨bk_⟩, ⟨hb_⟩⟩
               ·rw [if_neg c23] at H
                exact absurd H (by simp)
              ·rw [if_neg c22] at H
               exact absurd H (by simp)
             ·rw [if_neg c20] at H
              exact absurd H (by simp)
            ·rw [if_neg c18] at H
             have c18b0 : decide (x36_3 < a0_0) = false := decide_eq_false c18
             clear c18
             have H' := Aside0.mk H
             clear H
             go_wp2
             repeat (go_quiet (fail); try go_wp2)
             go_roundg k3
             case measure => have := HJ1.out; have := HK2.out; have := HK3.out; omega
             case rel => exact ⟨(wrap64 (x22_2 + 1)), (by first | rfl | (simp; done) | (simp [*]; done)), H', ⟨by have := HJ1.out; have := HK2.out; have := HK3.out; omega⟩, ⟨bk_⟩, ⟨hb_⟩⟩
         ·replace c16 := Bool.eq_false_iff.mpr c16
          subst c16
          have H1 : (some false) = some r := by rw [if_neg (show ¬ (false = true) by decide)] at H; exact H
          clear H
          have H := H1
          clear H1
          obtain rfl := Option.some.inj H
          have p484 : 0 ≤ (x22_2 : Int) := of_decide_eq_true (by first | (with_reducible assumption) | assumption)
          have q484 : x22_2 < (l0_1.length : Int) := of_decide_eq_true (by first | (with_reducible assumption) | assumption)
          obtain ⟨ad484, e484, hx484_0⟩ := Kd.at_int HR0_1.out x22_2 p484 q484
          cases e484
          replace hx484_0 := (HB.out.cell (World.block_lt_of_cell? w _ hx484_0)).trans hx484_0
          replace p484 := eq_true p484
          replace q484 := eq_true q484
          have hcz28_0 : wr.cell? ⟨gb482, 0, none⟩ = some (.int .i64 a0_0) := (blk_cell BK482.out 0).trans rfl
          have hcz28_1 : wr.cell? ⟨gb482, 1, none⟩ = some (.slice (some ad484) l0_1.length c0_1) := (blk_cell BK482.out 1).trans rfl
          have hfz28_0 := blk_frozen BK482.out 0
          have hfz28_1 := blk_frozen BK482.out 1
          go_wp2_with (first | (go_at_call 92; (with_reducible refine (impl_within.calls (rd l0_1 x22_2) 0 (wrap64 ((l0_1.length : Int) - 1)) false _ A15.out).mono ?_); rintro e w' ⟨rfl, ⟨nd, rfl⟩⟩; (try first | exact ⟨rfl, _, World.drewN_drewN _ _ _⟩ | exact ⟨rfl, _, Eq.trans (World.drewN_drewN _ _ _) (congrArg (World.drewN _) (Nat.add_assoc _ _ _))⟩)))
          repeat (go_quiet (first | (go_at_call 92; (with_reducible refine (impl_within.calls (rd l0_1 x22_2) 0 (wrap64 ((l0_1.length : Int) - 1)) false _ A15.out).mono ?_); rintro e w' ⟨rfl, ⟨nd, rfl⟩⟩; (try first | exact ⟨rfl, _, World.drewN_drewN _ _ _⟩ | exact ⟨rfl, _, Eq.trans (World.drewN_drewN _ _ _) (congrArg (World.drewN _) (Nat.add_assoc _ _ _))⟩))); try go_wp2_with (first | (go_at_call 92; (with_reducible refine (impl_within.calls (rd l0_1 x22_2) 0 (wrap64 ((l0_1.length : Int) - 1)) false _ A15.out).mono ?_); rintro e w' ⟨rfl, ⟨nd, rfl⟩⟩; (try first | exact ⟨rfl, _, World.drewN_drewN _ _ _⟩ | exact ⟨rfl, _, Eq.trans (World.drewN_drewN _ _ _) (congrArg (World.drewN _) (Nat.add_assoc _ _ _))⟩))))
          go_ret
          exact ⟨by first | rfl | (simp [errW_none, errW_some] <;> rfl) | (simp [*, errW_none, errW_some] <;> rfl), hb_⟩
        ·rw [if_neg c14] at H
         exact absurd H (by simp)
       ·rw [if_neg c13] at H
        exact absurd H (by simp)
      ·rw [if_neg c12] at H
       have c12b0 : decide (x22_2 < (l0_1.length : Int)) = false := decide_eq_false c12
       clear c12
       obtain rfl := Option.some.inj H
       go_wp2
       repeat (go_quiet (fail); try go_wp2)
       go_ret
       exact ⟨by first | rfl | (simp [errW_none, errW_some] <;> rfl) | (simp [*, errW_none, errW_some] <;> rfl), hb_⟩
mutual
def impl_CubeOfProblem.l0 : Nat → Int → Int → List (List Int) → List Int → Int → List Int → Option (Int × List Int × Int)
 | 0, _, _, _, _, _, _ => none
 | k + 1, x21, x22, x490000, x490001, x493000, x493001 => if x22 < x21 then ((impl_Problem_point.f k x490000 x490001 x22).bind fun bt495 => (if bt495.2.2 = true then ((slices_Contains_int64_int64.f k bt495.1 0).bind fun t500 => (impl_CubeOfProblem.j1 k bt495.1 x21 x22 t500 x490000 x490001 x493000 x493001)) else (impl_CubeOfProblem.j1 k bt495.1 x21 x22 true x490000 x490001 x493000 x493001))) else ((impl_IsCube.f k x493000 x493001).bind fun t494 => (if t494 = true then (some (x493000, x493001, 0)) else (some (0, ([] : List Int), 5))))
def impl_CubeOfProblem.j1 : Nat → List Int → Int → Int → Bool → List (List Int) → List Int → Int → List Int → Option (Int × List Int × Int)
 | 0, _, _, _, _, _, _, _, _ => none
 | k + 1, x6, x21, x22, x37, x490000, x490001, x493000, x493001 => if x37 = true then (some (0, ([] : List Int), 5)) else (impl_CubeOfProblem.l1 k 0 x21 x22 x6 (x6.length : Int) 0 x490000 x490001 x493000 x493001)
def impl_CubeOfProblem.l1 : Nat → Int → Int → Int → List Int → Int → Int → List (List Int) → List Int → Int → List Int → Option (Int × List Int × Int)
 | 0, _, _, _, _, _, _, _, _, _, _ => none
 | k + 1, x9, x21, x22, x39, x40, x41, x490000, x490001, x493000, x493001 => if x41 < x40 then (if 0 ≤ x41 then (if x41 < (x39.length : Int) then (if (rd x39 x41) < 0 then (impl_CubeOfProblem.l1 k (Go.bits .or .i64 x9 (shl .i64 1 x41)) x21 x22 x39 x40 (wrap64 (x41 + 1)) x490000 x490001 x493000 x493001) else (impl_CubeOfProblem.l1 k x9 x21 x22 x39 x40 (wrap64 (x41 + 1)) x490000 x490001 x493000 x493001)) else (none)) else (none)) else (if x493001.length < 17592186044416 then (impl_CubeOfProblem.l0 k x21 (wrap64 (x22 + 1)) x490000 x490001 x493000 (x493001 ++ [x9])) else (none))
end
def impl_CubeOfProblem.f (k : Nat) (l0_0 : List (List Int)) (l0_1 : List Int) : Option (Int × List Int × Int) := (impl_IsProblem.f l0_0 l0_1).bind fun t491 => (if t491 = true then ((impl_Problem_all.f l0_0 l0_1).bind fun t493 => (impl_CubeOfProblem.l0 k t493 0 l0_0 l0_1 (l0_1.length : Int) ([] : List Int))) else (some (0, ([] : List Int), 1)))
theorem impl_CubeOfProblem.mono_l : ∀ k, (∀ y0 y1 y2 y3 y4 y5, LeO (impl_CubeOfProblem.l0 k y0 y1 y2 y3 y4 y5) (impl_CubeOfProblem.l0 (k + 1) y0 y1 y2 y3 y4 y5)) ∧ (∀ y0 y1 y2 y3 y4 y5 y6 y7, LeO (impl_CubeOfProblem.j1 k y0 y1 y2 y3 y4 y5 y6 y7) (impl_CubeOfProblem.j1 (k + 1) y0 y1 y2 y3 y4 y5 y6 y7)) ∧ (∀ y0 y1 y2 y3 y4 y5 y6 y7 y8 y9, LeO (impl_CubeOfProblem.l1 k y0 y1 y2 y3 y4 y5 y6 y7 y8 y9) (impl_CubeOfProblem.l1 (k + 1) y0 y1 y2 y3 y4 y5 y6 y7 y8 y9))
 | 0 => ⟨fun _ _ _ _ _ _ r h => by simp [impl_CubeOfProblem.l0] at h, fun _ _ _ _ _ _ _ _ r h => by simp [impl_CubeOfProblem.j1] at h, fun _ _ _ _ _ _ _ _ _ _ r h => by simp [impl_CubeOfProblem.l1] at h⟩
 | k + 1 => by
  obtain ⟨ih0, ih1, ih2⟩ := impl_CubeOfProblem.mono_l k
  refine ⟨?_, ?_, ?_⟩
  ·intro y0 y1 y2 y3 y4 y5
   unfold impl_CubeOfProblem.l0
   repeat' first
   | (with_reducible exact ih0 _ _ _ _ _ _)
   | (with_reducible exact ih1 _ _ _ _ _ _ _ _)
   | (with_reducible exact ih2 _ _ _ _ _ _ _ _ _ _)
   | (with_reducible exact impl_IsCube.mono _ _ _)
   | (with_reducible exact impl_Problem_point.mono _ _ _ _)
   | (with_reducible exact slices_Contains_int64_int64.mono _ _ _)
   | (with_reducible exact LeO.refl _)
   | (with_reducible exact LeO.none _)
   | (with_reducible refine LeO.ite ?_ ?_)
   | (with_reducible refine LeO.bind ?_ (fun _ => ?_))
   | exact ih0 _ _ _ _ _ _
   | exact ih1 _ _ _ _ _ _ _ _
   | exact ih2 _ _ _ _ _ _ _ _ _ _
   | exact impl_IsCube.mono _ _ _
   | exact impl_Problem_point.mono _ _ _ _
   | exact slices_Contains_int64_int64.mono _ _ _
   | exact LeO.none _
   | refine LeO.ite ?_ ?_
   | refine LeO.bind ?_ (fun _ => ?_)
  ·intro y0 y1 y2 y3 y4 y5 y6 y7
   unfold impl_CubeOfProblem.j1
   repeat' first
   | (with_reducible exact ih0 _ _ _ _ _ _)
   | (with_reducible exact ih1 _ _ _ _ _ _ _ _)
   | (with_reducible exact ih2 _ _ _ _ _ _ _ _ _ _)
   | (with_reducible exact impl_IsCube.mono _ _ _)
   | (with_reducible exact impl_Problem_point.mono _ _ _ _)
   | (with_reducible exact slices_Contains_int64_int64.mono _ _ _)
   | (with_reducible exact LeO.refl _)
   | (with_reducible exact LeO.none _)
   | (with_reducible refine LeO.ite ?_ ?_)
   | (with_reducible refine LeO.bind ?_ (fun _ => ?_))
   | exact ih0 _ _ _ _ _ _
   | exact ih1 _ _ _ _ _ _ _ _
   | exact ih2 _ _ _ _ _ _ _ _ _ _
   | exact impl_IsCube.mono _ _ _
   | exact impl_Problem_point.mono _ _ _ _
   | exact slices_Contains_int64_int64.mono _ _ _
   | exact LeO.none _
   | refine LeO.ite ?_ ?_
   | refine LeO.bind ?_ (fun _ => ?_)
  ·intro y0 y1 y2 y3 y4 y5 y6 y7 y8 y9
   unfold impl_CubeOfProblem.l1
   repeat' first
   | (with_reducible exact ih0 _ _ _ _ _ _)
   | (with_reducible exact ih1 _ _ _ _ _ _ _ _)
   | (with_reducible exact ih2 _ _ _ _ _ _ _ _ _ _)
   | (with_reducible exact impl_IsCube.mono _ _ _)
   | (with_reducible exact impl_Problem_point.mono _ _ _ _)
   | (with_reducible exact slices_Contains_int64_int64.mono _ _ _)
   | (with_reducible exact LeO.refl _)
   | (with_reducible exact LeO.none _)
   | (with_reducible refine LeO.ite ?_ ?_)
   | (with_reducible refine LeO.bind ?_ (fun _ => ?_))
   | exact ih0 _ _ _ _ _ _
   | exact ih1 _ _ _ _ _ _ _ _
   | exact ih2 _ _ _ _ _ _ _ _ _ _
   | exact impl_IsCube.mono _ _ _
   | exact impl_Problem_point.mono _ _ _ _
   | exact slices_Contains_int64_int64.mono _ _ _
   | exact LeO.none _
   | refine LeO.ite ?_ ?_
   | refine LeO.bind ?_ (fun _ => ?_)
theorem impl_CubeOfProblem.mono : ∀ a0 a1 k, LeO (impl_CubeOfProblem.f k a0 a1) (impl_CubeOfProblem.f (k + 1) a0 a1) := by
 intro a0 a1 k
 obtain ⟨ih0, ih1, ih2⟩ := impl_CubeOfProblem.mono_l k
 unfold impl_CubeOfProblem.f
 repeat' first
   | (with_reducible exact ih0 _ _ _ _ _ _)
   | (with_reducible exact ih1 _ _ _ _ _ _ _ _)
   | (with_reducible exact ih2 _ _ _ _ _ _ _ _ _ _)
   | (with_reducible exact impl_IsCube.mono _ _ _)
   | (with_reducible exact impl_Problem_point.mono _ _ _ _)
   | (with_reducible exact slices_Contains_int64_int64.mono _ _ _)
   | (with_reducible exact LeO.refl _)
   | (with_reducible exact LeO.none _)
   | (with_reducible refine LeO.ite ?_ ?_)
   | (with_reducible refine LeO.bind ?_ (fun _ => ?_))
   | exact ih0 _ _ _ _ _ _
   | exact ih1 _ _ _ _ _ _ _ _
   | exact ih2 _ _ _ _ _ _ _ _ _ _
   | exact impl_IsCube.mono _ _ _
   | exact impl_Problem_point.mono _ _ _ _
   | exact slices_Contains_int64_int64.mono _ _ _
   | exact LeO.none _
   | refine LeO.ite ?_ ?_
   | refine LeO.bind ?_ (fun _ => ?_)
theorem impl_CubeOfProblem.calls (k : Nat) (A0_0 : Option Addr) (c0_0 : Nat) (l0_0 : List (List Int)) (A0_1 : Option Addr) (c0_1 : Nat) (l0_1 : List Int) (r1 : Int) (r2 : List Int) (r3 : Int) (w : World) (hr0_0 : Kd.C (Kd.slice 2 (Kd.int .i64)) w A0_0 l0_0.length l0_0) (hc0_0 : l0_0.length ≤ c0_0) (hr0_1 : Kd.C (Kd.int .i64) w A0_1 l0_1.length l0_1) (hc0_1 : l0_1.length ≤ c0_1) (h : impl_CubeOfProblem.f k l0_0 l0_1 = some (r1, r2, r3)) :
  Calls Try.prog 25 #[.agg #[.slice A0_0 l0_0.length c0_0, .slice A0_1 l0_1.length c0_1]] w fun e w' => ∃ v1_ : Value, e = .returned (.tuple #[.agg #[.int .i64 r1, v1_], .int .i64 r3]) ∧ Kd.R (Kd.int .i64) 2 w' w.heap.size (fun _ => True) v1_ r2 ∧ Below w.heap.size w w' := by
 have hu29 := Try.underlying29
 have hu37 := Try.underlying37
 have HR0_0 := Aside0.mk hr0_0
 have HC0_0 := Aside0.mk hc0_0
 clear hr0_0 hc0_0
 have HR0_1 := Aside0.mk hr0_1
 have HC0_1 := Aside0.mk hc0_1
 clear hr0_1 hc0_1
 have HB := Aside0.mk (Below.refl w.heap.size w)
 have H : ((impl_IsProblem.f l0_0 l0_1).bind fun t491 => (if t491 = true then ((impl_Problem_all.f l0_0 l0_1).bind fun t493 => (impl_CubeOfProblem.l0 k t493 0 l0_0 l0_1 (l0_1.length : Int) ([] : List Int))) else (some (0, ([] : List Int), 1)))) = some (r1, r2, r3) := h
 clear h
 replace H := Option.bind_eq_some_iff.mp H
 obtain ⟨t491, A20, H⟩ := H
 replace H : (if t491 = true then ((impl_Problem_all.f l0_0 l0_1).bind fun t493 => (impl_CubeOfProblem.l0 k t493 0 l0_0 l0_1 (l0_1.length : Int) ([] : List Int))) else (some (0, ([] : List Int), 1))) = some (r1, r2, r3) := H
 have A2 := Aside0.mk A20
 clear A20
 by_cases c3 : t491 = true
 ·subst c3
  have H1 : ((impl_Problem_all.f l0_0 l0_1).bind fun t493 => (impl_CubeOfProblem.l0 k t493 0 l0_0 l0_1 (l0_1.length : Int) ([] : List Int))) = some (r1, r2, r3) := by rw [if_pos rfl] at H; exact H
  clear H
  have H := H1
  clear H1
  replace H := Option.bind_eq_some_iff.mp H
  obtain ⟨t493, A40, H⟩ := H
  replace H : (impl_CubeOfProblem.l0 k t493 0 l0_0 l0_1 (l0_1.length : Int) ([] : List Int)) = some (r1, r2, r3) := H
  have A4 := Aside0.mk A40
  clear A40
  have H' := Aside0.mk H
  clear H
  go_enter Try.func25, Try.ntmps25
  go_wp2_with (first | ((with_reducible refine gate_dst (N := 1) rfl ?_); refine box_event ?hg (N := 1) ?hd (cs := #[.slice A0_0 l0_0.length c0_0, .slice A0_1 l0_1.length c0_1]) (t := 29) ?hr ?_; (case hd => rfl); (case hg => rfl); (case hr => first | (go_simp; done) | (go_simp; rfl)); intro gb489 hg w5 hbox hb; have n0_ := Aside0.mk (bs_ hb); have n1_ := Aside0.mk (hbox); have n2_ := Aside0.mk ((by rw [hg]; exact bz_ : w.heap.size ≤ gb489)); have n3_ := Aside0.mk ((by rw [hg]; exact bz_ : w.heap.size ≤ gb489)); clear HB; have HB := n0_; have BK489 := n1_; have GW489 := n2_; have GE489 := n3_; clear n0_ n1_ n2_ n3_; clear hb hbox hg) | ((with_reducible refine gate_dst (N := 2) rfl ?_); refine box_event ?hg (N := 2) ?hd (cs := #[.int .i64 0, .slice none 0 0]) (t := 37) ?hr ?_; (case hd => rfl); (case hg => rfl); (case hr => first | (go_simp; done) | (go_simp; rfl)); intro gb490 hg w6 hbox hb; have n0_ := Aside0.mk (bb_ BK489.out hb); have n1_ := Aside0.mk (bs_ hb); have n2_ := Aside0.mk (hbox); have n3_ := Aside0.mk ((by rw [hg]; exact bz_ : w.heap.size ≤ gb490)); have n4_ := Aside0.mk ((by rw [hg]; exact bz_ : w.heap.size ≤ gb490)); have n5_ := Aside0.mk ((by rw [hg]; exact lt_ BK489.out : gb489 ≠ gb490)); have n6_ := Aside0.mk ((by rw [hg]; exact gt_ BK489.out : gb490 ≠ gb489)); clear BK489; clear HB; have BK489 := n0_; have HB := n1_; have BK490 := n2_; have GW490 := n3_; have GE490 := n4_; have NB489_490 := n5_; have NB490_489 := n6_; clear n0_ n1_ n2_ n3_ n4_ n5_ n6_; clear hb hbox hg; have hnb7 := NB489_490.out; have hnc7 := NB490_489.out; have hcz8_0 : w6.cell? ⟨gb489, 0, none⟩ = some (.slice A0_0 l0_0.length c0_0) := (blk_cell BK489.out 0).trans rfl; have hcz8_1 : w6.cell? ⟨gb489, 1, none⟩ = some (.slice A0_1 l0_1.length c0_1) := (blk_cell BK489.out 1).trans rfl; have hfz8_0 := blk_frozen BK489.out 0; have hfz8_1 := blk_frozen BK489.out 1) | ((with_reducible refine gate_callee (f := 69) rfl ?_); refine goesL_ (some 13) rfl rfl Try.func69 (by kernel_rfl) rfl #[.agg #[.slice A0_0 l0_0.length c0_0, .slice A0_1 l0_1.length c0_1]] rfl (by (try simp only [List.map_toArray, List.map_cons, List.map_nil]); first | done | rfl | (simp only [List.length_drop, List.length_take]; rfl)) ?_; (with_reducible refine (impl_IsProblem.calls _ _ l0_0 _ _ l0_1 true _ ?side1 ?side2 ?side3 ?side4 A2.out).mono ?_); (case side1 => exact cb_ HR0_0.out HB.out); (case side2 => exact HC0_0.out); (case side3 => exact cb_ HR0_1.out HB.out); (case side4 => exact HC0_1.out); rintro e w9 ⟨rfl, hb⟩; refine ⟨_, rfl, ?_⟩; have n0_ := Aside0.mk (bb_ BK489.out hb); have n1_ := Aside0.mk (bb_ BK490.out hb); have n2_ := Aside0.mk (bs_ hb); clear BK489; clear BK490; clear HB; have BK489 := n0_; have BK490 := n1_; have HB := n2_; clear n0_ n1_ n2_; (try clear hb); (try clear hb2); (try clear hk); (try clear hi); have hcz10_0 : w9.cell? ⟨gb489, 0, none⟩ = some (.slice A0_0 l0_0.length c0_0) := (blk_cell BK489.out 0).trans rfl; have hcz10_1 : w9.cell? ⟨gb489, 1, none⟩ = some (.slice A0_1 l0_1.length c0_1) := (blk_cell BK489.out 1).trans rfl; have hfz10_0 := blk_frozen BK489.out 0; have hfz10_1 := blk_frozen BK489.out 1) | ((with_reducible refine gate_dst (N := 4) rfl ?_); refine box_event ?hg (N := 4) ?hd (cs := #[.int .i64 0, .slice none 0 0]) (t := 37) ?hr ?_; (case hd => rfl); (case hg => rfl); (case hr => first | (go_simp; done) | (go_simp; rfl)); intro gb492 hg w11 hbox hb; have n0_ := Aside0.mk (bb_ BK489.out hb); have n1_ := Aside0.mk (bb_ BK490.out hb); have n2_ := Aside0.mk (bs_ hb); have n3_ := Aside0.mk (hbox); have n4_ := Aside0.mk ((by rw [hg]; exact bz_ : w.heap.size ≤ gb492)); have n5_ := Aside0.mk ((by rw [hg]; exact bz_ : w.heap.size ≤ gb492)); have n6_ := Aside0.mk ((by rw [hg]; exact lt_ BK489.out : gb489 ≠ gb492)); have n7_ := Aside0.mk ((by rw [hg]; exact gt_ BK489.out : gb492 ≠ gb489)); have n8_ := Aside0.mk ((by rw [hg]; exact lt_ BK490.out : gb490 ≠ gb492)); have n9_ := Aside0.mk ((by rw [hg]; exact gt_ BK490.out : gb492 ≠ gb490)); clear BK489; clear BK490; clear HB; have BK489 := n0_; have BK490 := n1_; have HB := n2_; have BK492 := n3_; have GW492 := n4_; have GE492 := n5_; have NB489_492 := n6_; have NB492_489 := n7_; have NB490_492 := n8_; have NB492_490 := n9_; clear n0_ n1_ n2_ n3_ n4_ n5_ n6_ n7_ n8_ n9_; clear hb hbox hg; have hnb12 := NB492_489.out; have hnc12 := NB489_492.out; have hnb13 := NB492_490.out; have hnc13 := NB490_492.out; have hcz14_0 : w11.cell? ⟨gb492, 0, none⟩ = some (.int .i64 0) := (blk_cell BK492.out 0).trans rfl; have hcz14_1 : w11.cell? ⟨gb492, 1, none⟩ = some (.slice none 0 0) := (blk_cell BK492.out 1).trans rfl; have hfz14_0 := blk_frozen BK492.out 0; have hfz14_1 := blk_frozen BK492.out 1; have hcz15_0 : w11.cell? ⟨gb489, 0, none⟩ = some (.slice A0_0 l0_0.length c0_0) := (blk_cell BK489.out 0).trans rfl; have hcz15_1 : w11.cell? ⟨gb489, 1, none⟩ = some (.slice A0_1 l0_1.length c0_1) := (blk_cell BK489.out 1).trans rfl; have hfz15_0 := blk_frozen BK489.out 0; have hfz15_1 := blk_frozen BK489.out 1) | ((with_reducible refine gate_callee (f := 70) rfl ?_); refine goesL_ (some 21) rfl rfl Try.func70 (by kernel_rfl) rfl #[.agg #[.slice A0_0 l0_0.length c0_0, .slice A0_1 l0_1.length c0_1]] rfl (by (try simp only [List.map_toArray, List.map_cons, List.map_nil]); first | done | rfl | (simp only [List.length_drop, List.length_take]; rfl)) ?_; (with_reducible refine (impl_Problem_all.calls _ _ l0_0 _ _ l0_1 t493 _ ?side1 ?side2 ?side3 ?side4 A4.out).mono ?_); (case side1 => exact Kd.C_below HR0_0.out hb_); (case side2 => exact HC0_0.out); (case side3 => exact Kd.C_below HR0_1.out hb_); (case side4 => exact HC0_1.out); rintro e w16 ⟨rfl, hb⟩; refine ⟨_, rfl, ?_⟩; have n0_ := Aside0.mk (blk_below (g := gb489) (o := .cells #[.slice A0_0 l0_0.length c0_0, .slice A0_1 l0_1.length c0_1] 29 (0, 0)) (by (with_reducible repeat (first | refine blk_drewN ?_ _ | refine blk_drew ?_ | refine blk_alloc ?_ _)); refine blk_far ?_ NB489_492.out _; (with_reducible repeat (first | refine blk_drewN ?_ _ | refine blk_drew ?_ | refine blk_alloc ?_ _)); refine blk_far ?_ NB489_492.out _; (with_reducible repeat (first | refine blk_drewN ?_ _ | refine blk_drew ?_ | refine blk_alloc ?_ _)); exact BK489.out) hb); have n1_ := Aside0.mk (blk_below (g := gb490) (o := .cells #[.int .i64 0, .slice none 0 0] 37 (0, 0)) (by (with_reducible repeat (first | refine blk_drewN ?_ _ | refine blk_drew ?_ | refine blk_alloc ?_ _)); refine blk_far ?_ NB490_492.out _; (with_reducible repeat (first | refine blk_drewN ?_ _ | refine blk_drew ?_ | refine blk_alloc ?_ _)); refine blk_far ?_ NB490_492.out _; (with_reducible repeat (first | refine blk_drewN ?_ _ | refine blk_drew ?_ | refine blk_alloc ?_ _)); exact BK490.out) hb); have n2_ := Aside0.mk (blk_below (g := gb492) (o := .cells #[.int .i64 (l0_1.length : Int), .slice none 0 0] 37 (0, 0)) (by (with_reducible repeat (first | refine blk_drewN ?_ _ | refine blk_drew ?_ | refine blk_alloc ?_ _)); refine blk_put (cs := #[.int .i64 (l0_1.length : Int), .slice none 0 0]) ?_ 1 _ rfl; (with_reducible repeat (first | refine blk_drewN ?_ _ | refine blk_drew ?_ | refine blk_alloc ?_ _)); refine blk_put (cs := #[.int .i64 0, .slice none 0 0]) ?_ 0 _ rfl; (with_reducible repeat (first | refine blk_drewN ?_ _ | refine blk_drew ?_ | refine blk_alloc ?_ _)); exact BK492.out) hb); have n3_ := Aside0.mk (bs_ hb); clear BK489; clear BK490; clear BK492; clear HB; have BK489 := n0_; have BK490 := n1_; have BK492 := n2_; have HB := n3_; clear n0_ n1_ n2_ n3_; (try clear hb); (try clear hb2); (try clear hk); (try clear hi)))
  go_loopg [22] k (fun kq v22 w' => ∃ (x22_1 : Int) (x491000_1 : Int) (x493001_1 : List Int) (u493001 : Value), v22 = .int .i64 x22_1 ∧ Aside0 (impl_CubeOfProblem.l0 kq t493 x22_1 l0_0 l0_1 (l0_1.length : Int) x493001_1 = some (r1, r2, r3)) ∧ Aside0 (kq ≤ k) ∧ Aside0 (Kd.R (Kd.int .i64) 2 w' w.heap.size (fun _ => True) u493001 x493001_1) ∧ Aside0 (w'.heap[gb489]? = some (.cells #[(.slice A0_0 l0_0.length c0_0), (.slice A0_1 l0_1.length c0_1)] 29 (0, 0))) ∧ Aside0 (w'.heap[gb490]? = some (.cells #[.int .i64 x491000_1, (.slice none 0 0)] 37 (0, 0))) ∧ Aside0 (w'.heap[gb492]? = some (.cells #[.int .i64 (l0_1.length : Int), u493001] 37 (0, 0))) ∧ Aside0 (Below w.heap.size w w'))
  case atStart => exact ⟨(0), (0), (([] : List Int)), (.slice none 0 0), (by first | rfl | (simp; done) | (simp [*]; done)), H', ⟨Nat.le_refl _⟩, ⟨by first | exact Kd.R_nil _ _ _ _ _ | exact Kd.N_nil _ _ _ _ _ | exact Kd.V_nil _ _ _ _ _ | exact Kd.Q_nil _ _ _ _ _ | exact Kd.S_nil _ _ _ _ _⟩, ⟨bk_⟩, ⟨bk_⟩, ⟨bk_⟩, ⟨hb_⟩⟩
  case round =>
   clear H'
   try clear c1
   try clear c2
   try clear p2
   try clear c3
   try clear c6
   try clear c7
   try clear c12
   try clear c13
   try clear hcz10_0
   try clear hcz10_1
   try clear hcz14_0
   try clear hcz14_1
   try clear hcz15_0
   try clear hcz15_1
   try clear hcz8_0
   try clear hcz8_1
   try clear hfz10_0
   try clear hfz10_1
   try clear hfz14_0
   try clear hfz14_1
   try clear hfz15_0
   try clear hfz15_1
   try clear hfz8_0
   try clear hfz8_1
   obtain ⟨x22_1, x491000_1, x493001_1, u493001, rfl, HA, HK1, HO_493001, BK489, BK490, BK492, HB⟩ := hrel
   cases gk with
   | zero => exact absurd HA.out (by simp [impl_CubeOfProblem.l0])
   | succ k1 =>
    have H := HA.out
    clear HA
    simp only [impl_CubeOfProblem.l0] at H
    by_cases c17 : x22_1 < t493
    ·rw [if_pos c17] at H
     have c17b0 : decide (x22_1 < t493) = true := decide_eq_true c17
     clear c17
     replace H := Option.bind_eq_some_iff.mp H
     obtain ⟨⟨t495, t498, t499⟩, A180, H⟩ := H
     replace H : (if t499 = true then ((slices_Contains_int64_int64.f k1 t495 0).bind fun t500 => (impl_CubeOfProblem.j1 k1 t495 t493 x22_1 t500 l0_0 l0_1 (l0_1.length : Int) x493001_1)) else (impl_CubeOfProblem.j1 k1 t495 t493 x22_1 true l0_0 l0_1 (l0_1.length : Int) x493001_1)) = some (r1, r2, r3) := H
     have A18 := Aside0.mk A180
     clear A180
     have HC19 := Aside0.mk H
     clear H
     have hnb20 := NB489_490.out
     have hnc20 := NB490_489.out
     have hnb21 := NB489_492.out
     have hnc21 := NB492_489.out
     have hcz22_0 : wr.cell? ⟨gb489, 0, none⟩ = some (.slice A0_0 l0_0.length c0_0) := (blk_cell BK489.out 0).trans rfl
     have hcz22_1 : wr.cell? ⟨gb489, 1, none⟩ = some (.slice A0_1 l0_1.length c0_1) := (blk_cell BK489.out 1).trans rfl
     have hfz22_0 := blk_frozen BK489.out 0
     have hfz22_1 := blk_frozen BK489.out 1
     go_upto_region 8 with (first | ((with_reducible refine gate_callee (f := 71) rfl ?_); refine goesL_ (some 28) rfl rfl Try.func71 (by kernel_rfl) rfl #[.agg #[.slice A0_0 l0_0.length c0_0, .slice A0_1 l0_1.length c0_1], .int .i64 x22_1] rfl (by (try simp only [List.map_toArray, List.map_cons, List.map_nil]); first | done | rfl | (simp only [List.length_drop, List.length_take]; rfl)) ?_; (with_reducible refine (impl_Problem_point.calls k1 _ _ l0_0 _ _ l0_1 x22_1 t495 t498 t499 _ ?side1 ?side2 ?side3 ?side4 A18.out).mono ?_); (case side1 => exact cb_ HR0_0.out HB.out); (case side2 => exact HC0_0.out); (case side3 => exact cb_ HR0_1.out HB.out); (case side4 => exact HC0_1.out); rintro e w23 ⟨v496, rfl, ho0, hb⟩; refine ⟨_, rfl, ?_⟩; have n0_ := Aside0.mk (Kd.R_elder' (ro_ HO_493001.out) (Kd.R_base ho0) hb); have n1_ := Aside0.mk (Kd.R_lower (Kd.R_new' ho0 (Kd.R_lt (ro_ HO_493001.out))) bz_); have n2_ := Aside0.mk (bb_ BK489.out hb); have n3_ := Aside0.mk (bb_ BK490.out hb); have n4_ := Aside0.mk (bb_ BK492.out hb); have n5_ := Aside0.mk (bs_ hb); clear HO_493001; clear BK489; clear BK490; clear BK492; clear HB; have HO_493001 := n0_; have HO497 := n1_; have BK489 := n2_; have BK490 := n3_; have BK492 := n4_; have HB := n5_; clear n0_ n1_ n2_ n3_ n4_ n5_; (try clear hb); (try clear hb2); (try clear hk); (try clear hi); (try clear ho0)))
     (try simp only [Act.put, List.setIfInBounds_toArray, List.set_cons_zero, List.set_cons_succ])
     go_cut [37] (fun v37 wc => ∃ (kq : Nat) (x37_18 : Bool), v37 = .bool x37_18 ∧ Aside0 (impl_CubeOfProblem.j1 kq t495 t493 x22_1 x37_18 l0_0 l0_1 (l0_1.length : Int) x493001_1 = some (r1, r2, r3)) ∧ Aside0 (kq ≤ k1) ∧ Aside0 (Kd.R (Kd.int .i64) 2 wc w.heap.size (fun k_ => some k_ ≠ (u493001 : Value).ownBlock) v496 t495) ∧ Aside0 (Kd.R (Kd.int .i64) 2 wc w.heap.size (fun k_ => some k_ ≠ (v496 : Value).ownBlock) u493001 x493001_1) ∧ Aside0 (wc.heap[gb489]? = some (.cells #[(.slice A0_0 l0_0.length c0_0), (.slice A0_1 l0_1.length c0_1)] 29 (0, 0))) ∧ Aside0 (wc.heap[gb490]? = some (.cells #[.int .i64 x491000_1, (.slice none 0 0)] 37 (0, 0))) ∧ Aside0 (wc.heap[gb492]? = some (.cells #[.int .i64 (l0_1.length : Int), u493001] 37 (0, 0))) ∧ Aside0 (Below w.heap.size w wc))
     case first =>
      have H := HC19.out
      clear HC19
      by_cases c24 : t499 = true
      ·subst c24
       have H1 : ((slices_Contains_int64_int64.f k1 t495 0).bind fun t500 => (impl_CubeOfProblem.j1 k1 t495 t493 x22_1 t500 l0_0 l0_1 (l0_1.length : Int) x493001_1)) = some (r1, r2, r3) := by rw [if_pos rfl] at H; exact H
       clear H
       have H := H1
       clear H1
       replace H := Option.bind_eq_some_iff.mp H
       obtain ⟨t500, A250, H⟩ := H
       replace H : (impl_CubeOfProblem.j1 k1 t495 t493 x22_1 t500 l0_0 l0_1 (l0_1.length : Int) x493001_1) = some (r1, r2, r3) := H
       have A25 := Aside0.mk A250
       clear A250
       have H' := Aside0.mk H
       clear H
       obtain ⟨Ao26, co26, eo26⟩ := Kd.R_slice HO497.out
       subst eo26
       go_wp2_with (first | (go_at_call 72; (with_reducible refine (slices_Contains_int64_int64.calls k1 _ _ t495 0 t500 _ ?side1 ?side2 A25.out).mono ?_); (case side1 => repeat (first | exact (Kd.R_reads' HO497.out).2.2 | (with_reducible refine Kd.C_alloc ?_ _) | (with_reducible refine Kd.C_drewN ?_ _) | (with_reducible refine Kd.C_drew ?_))); (case side2 => exact (Kd.R_reads' HO497.out).2.1); rintro e w' ⟨rfl, ⟨nd, rfl⟩⟩))
       go_meet
       case rel => exact ⟨_, (t500), (by first | rfl | (simp; done) | (simp [*]; done)), H', ⟨by have := HK1.out; first | omega | exact Nat.le_refl _⟩, ⟨by (with_reducible repeat (first | apply Kd.R_alloc | apply Kd.R_drewN | apply Kd.R_drew)); exact Kd.R_mono HO497.out (fun _ hk => hk.2)⟩, ⟨by (with_reducible repeat (first | apply Kd.R_alloc | apply Kd.R_drewN | apply Kd.R_drew)); exact Kd.R_mono HO_493001.out (fun _ hk => hk.2)⟩, ⟨bk_⟩, ⟨bk_⟩, ⟨bk_⟩, ⟨hb_⟩⟩
      ·replace c24 := Bool.eq_false_iff.mpr c24
       subst c24
       have H1 : (impl_CubeOfProblem.j1 k1 t495 t493 x22_1 true l0_0 l0_1 (l0_1.length : Int) x493001_1) = some (r1, r2, r3) := by rw [if_neg (show ¬ (false = true) by decide)] at H; exact H
       clear H
       have H := H1
       clear H1
       have H' := Aside0.mk H
       clear H
       go_wp2
       go_meet
       case rel => exact ⟨_, (true), (by first | rfl | (simp; done) | (simp [*]; done)), H', ⟨by have := HK1.out; first | omega | exact Nat.le_refl _⟩, ⟨by (with_reducible repeat (first | apply Kd.R_alloc | apply Kd.R_drewN | apply Kd.R_drew)); exact Kd.R_mono HO497.out (fun _ hk => hk.2)⟩, ⟨by (with_reducible repeat (first | apply Kd.R_alloc | apply Kd.R_drewN | apply Kd.R_drew)); exact Kd.R_mono HO_493001.out (fun _ hk => hk.2)⟩, ⟨bk_⟩, ⟨bk_⟩, ⟨bk_⟩, ⟨hb_⟩⟩
     case rest =>
      clear HC19
      try clear c1
      try clear c2
      try clear p2
      try clear c3
      try clear c6
      try clear c7
      try clear c12
      try clear c13
      try clear c17
      try clear c17b0
      try clear c20
      try clear c21
      try clear c24
      try clear c25
      try clear hcz10_0
      try clear hcz10_1
      try clear hcz14_0
      try clear hcz14_1
      try clear hcz15_0
      try clear hcz15_1
      try clear hcz22_0
      try clear hcz22_1
      try clear hcz8_0
      try clear hcz8_1
      try clear hfz10_0
      try clear hfz10_1
      try clear hfz14_0
      try clear hfz14_1
      try clear hfz15_0
      try clear hfz15_1
      try clear hfz22_0
      try clear hfz22_1
      try clear hfz8_0
      try clear hfz8_1
      try clear p2
      obtain ⟨kq, x37_18, rfl, HA, HJ18, HO_6, HO_493001, BK489, BK490, BK492, HB⟩ := hcut
      cases kq with
      | zero => exact absurd HA.out (by simp [impl_CubeOfProblem.j1])
      | succ kj18 =>
       have H := HA.out
       clear HA
       simp only [impl_CubeOfProblem.j1] at H
       by_cases c27 : x37_18 = true
       ·subst c27
        have H1 : (some (0, ([] : List Int), 5)) = some (r1, r2, r3) := by rw [if_pos rfl] at H; exact H
        clear H
        have H := H1
        clear H1
        simp only [Option.some.injEq, Prod.mk.injEq] at H
        obtain ⟨rfl, rfl, rfl⟩ := H
        have hnb28 := NB490_489.out
        have hnc28 := NB489_490.out
        have hnb29 := NB490_492.out
        have hnc29 := NB492_490.out
        have hcz30_0 : wc.cell? ⟨gb490, 0, none⟩ = some (.int .i64 x491000_1) := (blk_cell BK490.out 0).trans rfl
        have hcz30_1 : wc.cell? ⟨gb490, 1, none⟩ = some (.slice none 0 0) := (blk_cell BK490.out 1).trans rfl
        have hfz30_0 := blk_frozen BK490.out 0
        have hfz30_1 := blk_frozen BK490.out 1
        go_wp2
        refine bodyPost_ret (results_ct rfl _ _ gb490 37 #[.int .i64 0, .slice none 0 0] (0, 0) _ rfl (by (with_reducible repeat (first | refine blk_drewN ?_ _ | refine blk_drew ?_ | refine blk_alloc ?_ _)); refine blk_put (cs := #[.int .i64 0, .slice none 0 0]) ?_ 1 _ rfl; (with_reducible repeat (first | refine blk_drewN ?_ _ | refine blk_drew ?_ | refine blk_alloc ?_ _)); refine blk_put (cs := #[.int .i64 x491000_1, .slice none 0 0]) ?_ 0 _ rfl; (with_reducible repeat (first | refine blk_drewN ?_ _ | refine blk_drew ?_ | refine blk_alloc ?_ _)); exact BK490.out) Try.underlying37 rfl (by kernel_rfl)) rfl ?_
        exact ⟨_, by first | rfl | (simp [errW_none, errW_some] <;> rfl) | (simp [*, errW_none, errW_some] <;> rfl), by first | exact Kd.R_nil _ _ _ _ _ | exact Kd.N_nil _ _ _ _ _ | exact Kd.V_nil _ _ _ _ _ | exact Kd.Q_nil _ _ _ _ _ | exact Kd.S_nil _ _ _ _ _, hb_⟩
       ·replace c27 := Bool.eq_false_iff.mpr c27
        subst c27
        have H1 : (impl_CubeOfProblem.l1 kj18 0 t493 x22_1 t495 (t495.length : Int) 0 l0_0 l0_1 (l0_1.length : Int) x493001_1) = some (r1, r2, r3) := by rw [if_neg (show ¬ (false = true) by decide)] at H; exact H
        clear H
        have H := H1
        clear H1
        have H' := Aside0.mk H
        clear H
        obtain ⟨Ao31, co31, eo31⟩ := Kd.R_slice HO_6.out
        subst eo31
        go_wp2
        go_loopg [9, 41] kj18 (fun kq v9 v41 w' => ∃ (x9_3 : Int) (x41_3 : Int), v9 = .int .i64 x9_3 ∧ v41 = .int .i64 x41_3 ∧ Aside0 (impl_CubeOfProblem.l1 kq x9_3 t493 x22_1 t495 (t495.length : Int) x41_3 l0_0 l0_1 (l0_1.length : Int) x493001_1 = some (r1, r2, r3)) ∧ Aside0 (kq ≤ kj18) ∧ Aside0 (Kd.R (Kd.int .i64) 2 w' w.heap.size (fun k_ => some k_ ≠ (u493001 : Value).ownBlock) (.slice Ao31 t495.length co31) t495) ∧ Aside0 (Kd.R (Kd.int .i64) 2 w' w.heap.size (fun k_ => some k_ ≠ ((.slice Ao31 t495.length co31) : Value).ownBlock) u493001 x493001_1) ∧ Aside0 (w'.heap[gb489]? = some (.cells #[(.slice A0_0 l0_0.length c0_0), (.slice A0_1 l0_1.length c0_1)] 29 (0, 0))) ∧ Aside0 (w'.heap[gb490]? = some (.cells #[.int .i64 x491000_1, (.slice none 0 0)] 37 (0, 0))) ∧ Aside0 (w'.heap[gb492]? = some (.cells #[.int .i64 (l0_1.length : Int), u493001] 37 (0, 0))) ∧ Aside0 (Below w.heap.size w w'))
        case atStart => exact ⟨(0), (0), (by first | rfl | (simp; done) | (simp [*]; done)), (by first | rfl | (simp; done) | (simp [*]; done)), H', ⟨Nat.le_refl _⟩, ⟨ro_ HO_6.out⟩, ⟨ro_ HO_493001.out⟩, ⟨bk_⟩, ⟨bk_⟩, ⟨bk_⟩, ⟨hb_⟩⟩
        case round =>
         clear H'
         try clear c1
         try clear c2
         try clear p2
         try clear c3
         try clear c6
         try clear c7
         try clear c12
         try clear c13
         try clear c17
         try clear c17b0
         try clear c20
         try clear c21
         try clear c24
         try clear c25
         try clear c27
         try clear c28
         try clear c29
         try clear hcz10_0
         try clear hcz10_1
         try clear hcz14_0
         try clear hcz14_1
         try clear hcz15_0
         try clear hcz15_1
         try clear hcz22_0
         try clear hcz22_1
         try clear hcz30_0
         try clear hcz30_1
         try clear hcz8_0
         try clear hcz8_1
         try clear hfz10_0
         try clear hfz10_1
         try clear hfz14_0
         try clear hfz14_1
         try clear hfz15_0
         try clear hfz15_1
         try clear hfz22_0
         try clear hfz22_1
         try clear hfz30_0
         try clear hfz30_1
         try clear hfz8_0
         try clear hfz8_1
         try clear p2
         obtain ⟨x9_3, x41_3, rfl, rfl, HA, HK3, HO_39, HO_493001, BK489, BK490, BK492, HB⟩ := hrel
         cases gk with
         | zero => exact absurd HA.out (by simp [impl_CubeOfProblem.l1])
         | succ k3 =>
          have H := HA.out
          clear HA
          simp only [impl_CubeOfProblem.l1] at H
          by_cases c32 : x41_3 < (t495.length : Int)
          ·rw [if_pos c32] at H
           have c32b0 : decide (x41_3 < (t495.length : Int)) = true := decide_eq_true c32
           clear c32
           by_cases c33 : 0 ≤ x41_3
           ·rw [if_pos c33] at H
            have c33b0 : decide (0 ≤ x41_3) = true := decide_eq_true c33
            clear c33
            by_cases c34 : x41_3 < (t495.length : Int)
            ·rw [if_pos c34] at H
             have c34b0 : decide (x41_3 < (t495.length : Int)) = true := decide_eq_true c34
             clear c34
             by_cases c35 : (rd t495 x41_3) < 0
             ·rw [if_pos c35] at H
              have c35b0 : decide ((rd t495 x41_3) < 0) = true := decide_eq_true c35
              clear c35
              have c36b0 := eq_true (of_decide_eq_true (by first | (with_reducible assumption) | assumption) : 0 ≤ x41_3)
              obtain ⟨ji37, hji37⟩ : ∃ j_ : Int, (shl .i64 1 x41_3) = j_ := ⟨_, rfl⟩
              replace H : (impl_CubeOfProblem.l1 k3 (Go.bits .or .i64 x9_3 (ji37)) t493 x22_1 t495 (t495.length : Int) (wrap64 (x41_3 + 1)) l0_0 l0_1 (l0_1.length : Int) x493001_1) = some (r1, r2, r3) := by first | (rw [hji37] at H; exact H) | (simp only [hji37] at H ⊢; exact H)
              have hji37_ : (IntKind.i64.wrap (1 * 2 ^ min x41_3.toNat 64)) = ji37 := hji37
              have hji37z : x41_3 ≤ 64 → (IntKind.i64.wrap (1 * 2 ^ x41_3.toNat)) = ji37 := shl_small hji37
              have hji37u : (IntKind.i64.wrap (2 ^ min x41_3.toNat 64)) = ji37 := by have h_ := hji37_; rw [Int.one_mul] at h_; exact h_
              have hji37v : x41_3 ≤ 64 → (IntKind.i64.wrap (2 ^ x41_3.toNat)) = ji37 := fun hle_ => by have h_ := hji37z hle_; rw [Int.one_mul] at h_; exact h_
              have hji37y : (wrap64 (1 * 2 ^ min x41_3.toNat 64)) = ji37 := (i64_w _).symm.trans hji37_
              have hji37x : x41_3 ≤ 64 → (wrap64 (1 * 2 ^ x41_3.toNat)) = ji37 := fun h_ => (i64_w _).symm.trans (hji37z h_)
              have H' := Aside0.mk H
              clear H
              have p501 : 0 ≤ (x41_3 : Int) := of_decide_eq_true (by first | (with_reducible assumption) | assumption)
              have q501 : x41_3 < (t495.length : Int) := of_decide_eq_true (by first | (with_reducible assumption) | assumption)
              obtain ⟨ad501, e501, hx501_0⟩ := Kd.at_int (Kd.R_reads' HO_39.out).2.2 x41_3 p501 q501
              cases e501
              replace p501 := eq_true p501
              replace q501 := eq_true q501
              go_wp2
              go_roundg k3
              case measure => have := HK1.out; have := HJ18.out; have := HK3.out; omega
              case rel => exact ⟨(Go.bits .or .i64 x9_3 (ji37)), (wrap64 (x41_3 + 1)), (by first | rfl | (simp; done) | (simp only [← hji37] <;> (first | rfl | simp)) | (simp [*]; done)), (by first | rfl | (simp; done) | (simp [*]; done)), H', ⟨by have := HK1.out; have := HJ18.out; have := HK3.out; omega⟩, ⟨ro_ HO_39.out⟩, ⟨ro_ HO_493001.out⟩, ⟨bk_⟩, ⟨bk_⟩, ⟨bk_⟩, ⟨hb_⟩⟩
             ·rw [if_neg c35] at H
              have c35b0 : decide ((rd t495 x41_3) < 0) = false := decide_eq_false c35
              clear c35
              have H' := Aside0.mk H
              clear H
              have p501 : 0 ≤ (x41_3 : Int) := of_decide_eq_true (by first | (with_reducible assumption) | assumption)
              have q501 : x41_3 < (t495.length : Int) := of_decide_eq_true (by first | (with_reducible assumption) | assumption)
              obtain ⟨ad501, e501, hx501_0⟩ := Kd.at_int (Kd.R_reads' HO_39.out).2.2 x41_3 p501 q501
              cases e501
              replace p501 := eq_true p501
              replace q501 := eq_true q501
              go_wp2
              go_roundg k3
              case measure => have := HK1.out; have := HJ18.out; have := HK3.out; omega
              case rel => exact ⟨(x9_3), (wrap64 (x41_3 + 1)), (by first | rfl | (simp; done) | (simp [*]; done)), (by first | rfl | (simp; done) | (simp [*]; done)), H', ⟨by have := HK1.out; have := HJ18.out; have := HK3.out; omega⟩, ⟨ro_ HO_39.out⟩, ⟨ro_ HO_493001.out⟩, ⟨bk_⟩, ⟨bk_⟩, ⟨bk_⟩, ⟨hb_⟩⟩
            ·rw [if_neg c34] at H
             exact absurd H (by simp)
           ·rw [if_neg c33] at H
            exact absurd H (by simp)
          ·rw [if_neg c32] at H
           have c32b0 : decide (x41_3 < (t495.length : Int)) = false := decide_eq_false c32
           clear c32
           by_cases c38 : x493001_1.length < 17592186044416
           ·rw [if_pos c38] at H
            have LMc38 := Aside0.mk c38
            clear c38
            obtain ⟨y502, hy502⟩ : ∃ y_ : List Int, y_ = (x493001_1 ++ [x9_3]) := ⟨_, rfl⟩
            replace H : (impl_CubeOfProblem.l0 k3 t493 (wrap64 (x22_1 + 1)) l0_0 l0_1 (l0_1.length : Int) y502) = some (r1, r2, r3) := by first | (rw [hy502]; with_reducible exact H) | (have H2_ := (Option.bind_some _ _).symm.trans H; rw [hy502]; with_reducible exact H2_) | (have H2_ := (Option.bind_some _ _).symm.trans H; with_reducible exact H2_) | with_reducible exact H | (rw [hy502]; exact H) | exact H
            have Ny502 := Aside0.mk hy502
            clear hy502
            have H' := Aside0.mk H
            clear H
            have hnb39 := NB492_489.out
            have hnc39 := NB489_492.out
            have hnb40 := NB492_490.out
            have hnc40 := NB490_492.out
            have hcz41_0 : wr.cell? ⟨gb492, 0, none⟩ = some (.int .i64 (l0_1.length : Int)) := (blk_cell BK492.out 0).trans rfl
            have hcz41_1 : wr.cell? ⟨gb492, 1, none⟩ = some (u493001) := (blk_cell BK492.out 1).trans rfl
            have hfz41_0 := blk_frozen BK492.out 0
            have hfz41_1 := blk_frozen BK492.out 1
            go_wp2_with (first | ((with_reducible refine gate_builtin (b := .append) (xs := #[.tmp 54, .tmp 56]) rfl ?_); at_builtin; refine Kd.R_append (Kd.int .i64) (w0 := w) w.heap.size rfl (.tmp 54) (.tmp 56) 23 2 (.int .i64 0) 8 rfl Try.underlying23 info2 rfl (by decide) (by omega) u493001 x493001_1 x9_3 [.int .i64 x9_3] (fun k_ => some k_ ≠ (.slice Ao31 t495.length co31 : Value).ownBlock) (fun _ => False) rfl rfl ?aP (fun _ hk => hk.elim) ?aF ?aO ?aB ?aS ?aL ?_; (case aP => exact rfl); (case aB => exact hb_); (case aF => exact (fun k_ hk => Kd.fresh' (Kd.R_lt (ro_ HO_39.out)) k_ hk)); (case aO => exact (ro_ HO_493001.out)); (case aS => exact bz_); (case aL => have := LMc38.out; omega); intro v503 w42 ho hb hg hat; rw [← Ny502.out] at ho; have n0_ := Aside0.mk (Kd.R_after (ok := (fun _ => True)) (by (with_reducible repeat (first | apply Kd.R_alloc | apply Kd.R_drewN | apply Kd.R_drew)); exact Kd.R_mono HO_39.out (fun _ hk => ⟨trivial, hk⟩)) hg hat); have n1_ := Aside0.mk (bg_ BK489.out hg (Kd.R_ne HO_493001.out BK489.out (by decide))); have n2_ := Aside0.mk (bg_ BK490.out hg (Kd.R_ne HO_493001.out BK490.out (by decide))); have n3_ := Aside0.mk (bg_ BK492.out hg (Kd.R_ne HO_493001.out BK492.out (by decide))); have n4_ := Aside0.mk (hb); have n5_ := Aside0.mk (ho); clear HO_39; clear BK489; clear BK490; clear BK492; clear HB; clear HO_493001; have HO_39 := n0_; have BK489 := n1_; have BK490 := n2_; have BK492 := n3_; have HB := n4_; have HO504 := n5_; clear n0_ n1_ n2_ n3_ n4_ n5_; clear ho hb hg hat; obtain ⟨Ao43, co43, eo43⟩ := Kd.R_slice HO504.out; subst eo43; have hcz44_0 : w42.cell? ⟨gb492, 0, none⟩ = some (.int .i64 (l0_1.length : Int)) := (blk_cell BK492.out 0).trans rfl; have hcz44_1 : w42.cell? ⟨gb492, 1, none⟩ = some (u493001) := (blk_cell BK492.out 1).trans rfl; have hfz44_0 := blk_frozen BK492.out 0; have hfz44_1 := blk_frozen BK492.out 1))
            go_roundg k3
            case measure => have := HK1.out; have := HJ18.out; have := HK3.out; omega
            case rel => exact ⟨(wrap64 (x22_1 + 1)), (x491000_1), (y502), (.slice Ao43 y502.length co43), (by first | rfl | (simp; done) | (simp [*]; done)), H', ⟨by have := HK1.out; have := HJ18.out; have := HK3.out; omega⟩, ⟨by (with_reducible repeat (first | apply Kd.R_alloc | apply Kd.R_drewN | apply Kd.R_drew)); exact Kd.R_mono (Kd.R_far (p := ⟨gb492, 1, none⟩) (Kd.R_types HO504.out BK492.out (by decide)) (fun _ hk => hk.2) (.slice Ao43 y502.length co43)) (fun _ hk => trivial)⟩, ⟨by (with_reducible repeat (first | refine blk_drewN ?_ _ | refine blk_drew ?_ | refine blk_alloc ?_ _)); refine blk_far ?_ NB489_492.out _; (with_reducible repeat (first | refine blk_drewN ?_ _ | refine blk_drew ?_ | refine blk_alloc ?_ _)); exact BK489.out⟩, ⟨by (with_reducible repeat (first | refine blk_drewN ?_ _ | refine blk_drew ?_ | refine blk_alloc ?_ _)); refine blk_far ?_ NB490_492.out _; (with_reducible repeat (first | refine blk_drewN ?_ _ | refine blk_drew ?_ | refine blk_alloc ?_ _)); exact BK490.out⟩, ⟨by (with_reducible repeat (first | refine blk_drewN ?_ _ | refine blk_drew ?_ | refine blk_alloc ?_ _)); refine blk_put (cs := #[.int .i64 (l0_1.length : Int), u493001]) ?_ 1 _ rfl; (with_reducible repeat (first | refine blk_drewN ?_ _ | refine blk_drew ?_ | refine blk_alloc ?_ _)); exact BK492.out⟩, ⟨hb_⟩⟩
           ·rw [if_neg c38] at H
            exact absurd H (by simp)
    ·rw [if_neg c17] at H
     have c17b0 : decide (x22_1 < t493) = false := decide_eq_false c17
     clear c17
     replace H := Option.bind_eq_some_iff.mp H
     obtain ⟨t494, A450, H⟩ := H
     replace H : (if t494 = true then (some ((l0_1.length : Int), x493001_1, 0)) else (some (0, ([] : List Int), 5))) = some (r1, r2, r3) := H
     have A45 := Aside0.mk A450
     clear A450
     by_cases c46 : t494 = true
     ·subst c46
      have H1 : (some ((l0_1.length : Int), x493001_1, 0)) = some (r1, r2, r3) := by rw [if_pos rfl] at H; exact H
      clear H
      have H := H1
      clear H1
      simp only [Option.some.injEq, Prod.mk.injEq] at H
      obtain ⟨rfl, rfl, rfl⟩ := H
      have hnb47 := NB492_489.out
      have hnc47 := NB489_492.out
      have hnb48 := NB492_490.out
      have hnc48 := NB490_492.out
      have hcz49_0 : wr.cell? ⟨gb492, 0, none⟩ = some (.int .i64 (l0_1.length : Int)) := (blk_cell BK492.out 0).trans rfl
      have hcz49_1 : wr.cell? ⟨gb492, 1, none⟩ = some (u493001) := (blk_cell BK492.out 1).trans rfl
      have hfz49_0 := blk_frozen BK492.out 0
      have hfz49_1 := blk_frozen BK492.out 1
      obtain ⟨Ao50, co50, eo50⟩ := Kd.R_slice HO_493001.out
      subst eo50
      go_wp2_with (first | ((with_reducible refine gate_callee (f := 73) rfl ?_); refine goesL_ (some 61) rfl rfl Try.func73 (by kernel_rfl) rfl #[.agg #[.int .i64 (l0_1.length : Int), .slice Ao50 x493001_1.length co50]] rfl (by (try simp only [List.map_toArray, List.map_cons, List.map_nil]); first | done | rfl | (simp only [List.length_drop, List.length_take]; rfl)) ?_; (with_reducible refine (impl_IsCube.calls k1 (l0_1.length : Int) _ _ x493001_1 true _ ?side1 ?side2 A45.out).mono ?_); (case side1 => repeat (first | exact (Kd.R_reads' HO_493001.out).2.2 | (with_reducible refine Kd.C_alloc ?_ _) | (with_reducible refine Kd.C_drewN ?_ _) | (with_reducible refine Kd.C_drew ?_))); (case side2 => exact (Kd.R_reads' HO_493001.out).2.1); rintro e w51 ⟨rfl, hb⟩; refine ⟨_, rfl, ?_⟩; have n0_ := Aside0.mk (rb_ HO_493001.out hb); have n1_ := Aside0.mk (bb_ BK489.out hb); have n2_ := Aside0.mk (bb_ BK490.out hb); have n3_ := Aside0.mk (bb_ BK492.out hb); have n4_ := Aside0.mk (bs_ hb); clear HO_493001; clear BK489; clear BK490; clear BK492; clear HB; have HO_493001 := n0_; have BK489 := n1_; have BK490 := n2_; have BK492 := n3_; have HB := n4_; clear n0_ n1_ n2_ n3_ n4_; (try clear hb); (try clear hb2); (try clear hk); (try clear hi); have hcz52_0 : w51.cell? ⟨gb492, 0, none⟩ = some (.int .i64 (l0_1.length : Int)) := (blk_cell BK492.out 0).trans rfl; have hcz52_1 : w51.cell? ⟨gb492, 1, none⟩ = some (.slice Ao50 x493001_1.length co50) := (blk_cell BK492.out 1).trans rfl; have hfz52_0 := blk_frozen BK492.out 0; have hfz52_1 := blk_frozen BK492.out 1; have hnb53 := NB490_489.out; have hnc53 := NB489_490.out; have hcz54_0 : w51.cell? ⟨gb490, 0, none⟩ = some (.int .i64 x491000_1) := (blk_cell BK490.out 0).trans rfl; have hcz54_1 : w51.cell? ⟨gb490, 1, none⟩ = some (.slice none 0 0) := (blk_cell BK490.out 1).trans rfl; have hfz54_0 := blk_frozen BK490.out 0; have hfz54_1 := blk_frozen BK490.out 1))
      refine bodyPost_ret (results_ct rfl _ _ gb490 37 #[.int .i64 (l0_1.length : Int), .slice Ao50 x493001_1.length co50] (0, 0) _ rfl (by (with_reducible repeat (first | refine blk_drewN ?_ _ | refine blk_drew ?_ | refine blk_alloc ?_ _)); refine blk_put (cs := #[.int .i64 (l0_1.length : Int), .slice none 0 0]) ?_ 1 _ rfl; (with_reducible repeat (first | refine blk_drewN ?_ _ | refine blk_drew ?_ | refine blk_alloc ?_ _)); refine blk_put (cs := #[.int .i64 x491000_1, .slice none 0 0]) ?_ 0 _ rfl; (with_reducible repeat (first | refine blk_drewN ?_ _ | refine blk_drew ?_ | refine blk_alloc ?_ _)); exact BK490.out) Try.underlying37 rfl (by kernel_rfl)) rfl ?_
      exact ⟨_, by first | rfl | (simp [errW_none, errW_some] <;> rfl) | (simp [*, errW_none, errW_some] <;> rfl), by (with_reducible repeat (first | apply Kd.R_alloc | apply Kd.R_drewN | apply Kd.R_drew)); exact Kd.R_mono (Kd.R_far (p := ⟨gb490, 1, none⟩) (Kd.R_far (p := ⟨gb490, 0, none⟩) (Kd.R_types HO_493001.out BK490.out (by decide)) (fun _ hk => hk.2) (.int .i64 (l0_1.length : Int))) (fun _ hk => hk.2) (.slice Ao50 x493001_1.length co50)) (fun _ hk => trivial), hb_⟩
     ·replace c46 := Bool.eq_false_iff.mpr c46
      subst c46
      have H1 : (some (0, ([] : List Int), 5)) = some (r1, r2, r3) := by rw [if_neg (show ¬ (false = true) by decide)] at H; exact H
      clear H
      have H := H1
      clear H1
      simp only [Option.some.injEq, Prod.mk.injEq] at H
      obtain ⟨rfl, rfl, rfl⟩ := H
      have hnb55 := NB492_489.out
      have hnc55 := NB489_492.out
      have hnb56 := NB492_490.out
      have hnc56 := NB490_492.out
      have hcz57_0 : wr.cell? ⟨gb492, 0, none⟩ = some (.int .i64 (l0_1.length : Int)) := (blk_cell BK492.out 0).trans rfl
      have hcz57_1 : wr.cell? ⟨gb492, 1, none⟩ = some (u493001) := (blk_cell BK492.out 1).trans rfl
      have hfz57_0 := blk_frozen BK492.out 0
      have hfz57_1 := blk_frozen BK492.out 1
      obtain ⟨Ao58, co58, eo58⟩ := Kd.R_slice HO_493001.out
      subst eo58
      go_wp2_with (first | ((with_reducible refine gate_callee (f := 73) rfl ?_); refine goesL_ (some 61) rfl rfl Try.func73 (by kernel_rfl) rfl #[.agg #[.int .i64 (l0_1.length : Int), .slice Ao58 x493001_1.length co58]] rfl (by (try simp only [List.map_toArray, List.map_cons, List.map_nil]); first | done | rfl | (simp only [List.length_drop, List.length_take]; rfl)) ?_; (with_reducible refine (impl_IsCube.calls k1 (l0_1.length : Int) _ _ x493001_1 false _ ?side1 ?side2 A45.out).mono ?_); (case side1 => repeat (first | exact (Kd.R_reads' HO_493001.out).2.2 | (with_reducible refine Kd.C_alloc ?_ _) | (with_reducible refine Kd.C_drewN ?_ _) | (with_reducible refine Kd.C_drew ?_))); (case side2 => exact (Kd.R_reads' HO_493001.out).2.1); rintro e w59 ⟨rfl, hb⟩; refine ⟨_, rfl, ?_⟩; have n0_ := Aside0.mk (rb_ HO_493001.out hb); have n1_ := Aside0.mk (bb_ BK489.out hb); have n2_ := Aside0.mk (bb_ BK490.out hb); have n3_ := Aside0.mk (bb_ BK492.out hb); have n4_ := Aside0.mk (bs_ hb); clear HO_493001; clear BK489; clear BK490; clear BK492; clear HB; have HO_493001 := n0_; have BK489 := n1_; have BK490 := n2_; have BK492 := n3_; have HB := n4_; clear n0_ n1_ n2_ n3_ n4_; (try clear hb); (try clear hb2); (try clear hk); (try clear hi); have hnb60 := NB490_489.out; have hnc60 := NB489_490.out; have hcz61_0 : w59.cell? ⟨gb490, 0, none⟩ = some (.int .i64 x491000_1) := (blk_cell BK490.out 0).trans rfl; have hcz61_1 : w59.cell? ⟨gb490, 1, none⟩ = some (.slice none 0 0) := (blk_cell BK490.out 1).trans rfl; have hfz61_0 := blk_frozen BK490.out 0; have hfz61_1 := blk_frozen BK490.out 1))
      refine bodyPost_ret (results_ct rfl _ _ gb490 37 #[.int .i64 0, .slice none 0 0] (0, 0) _ rfl (by (with_reducible repeat (first | refine blk_drewN ?_ _ | refine blk_drew ?_ | refine blk_alloc ?_ _)); refine blk_put (cs := #[.int .i64 0, .slice none 0 0]) ?_ 1 _ rfl; (with_reducible repeat (first | refine blk_drewN ?_ _ | refine blk_drew ?_ | refine blk_alloc ?_ _)); refine blk_put (cs := #[.int .i64 x491000_1, .slice none 0 0]) ?_ 0 _ rfl; (with_reducible repeat (first | refine blk_drewN ?_ _ | refine blk_drew ?_ | refine blk_alloc ?_ _)); exact BK490.out) Try.underlying37 rfl (by kernel_rfl)) rfl ?_
      exact ⟨_, by first | rfl | (simp [errW_none, errW_some] <;> rfl) | (simp [*, errW_none, errW_some] <;> rfl), by first | exact Kd.R_nil _ _ _ _ _ | exact Kd.N_nil _ _ _ _ _ | exact Kd.V_nil _ _ _ _ _ | exact Kd.Q_nil _ _ _ _ _ | exact Kd.S_nil _ _ _ _ _, hb_⟩
 ·replace c3 := Bool.eq_false_iff.mpr c3
  subst c3
  have H1 : (some (0, ([] : List Int), 1)) = some (r1, r2, r3) := by rw [if_neg (show ¬ (false = true) by decide)] at H; exact H
  clear H
  have H := H1
  clear H1
  simp only [Option.some.injEq, Prod.mk.injEq] at H
  obtain ⟨rfl, rfl, rfl⟩ := H
  go_enter Try.func25, Try.ntmps25
  go_wp2_with (first | ((with_reducible refine gate_dst (N := 1) rfl ?_); refine box_event ?hg (N := 1) ?hd (cs := #[.slice A0_0 l0_0.length c0_0, .slice A0_1 l0_1.length c0_1]) (t := 29) ?hr ?_; (case hd => rfl); (case hg => rfl); (case hr => first | (go_simp; done) | (go_simp; rfl)); intro gb489 hg w62 hbox hb; have n0_ := Aside0.mk (bs_ hb); have n1_ := Aside0.mk (hbox); have n2_ := Aside0.mk ((by rw [hg]; exact bz_ : w.heap.size ≤ gb489)); have n3_ := Aside0.mk ((by rw [hg]; exact bz_ : w.heap.size ≤ gb489)); clear HB; have HB := n0_; have BK489 := n1_; have GW489 := n2_; have GE489 := n3_; clear n0_ n1_ n2_ n3_; clear hb hbox hg) | ((with_reducible refine gate_dst (N := 2) rfl ?_); refine box_event ?hg (N := 2) ?hd (cs := #[.int .i64 0, .slice none 0 0]) (t := 37) ?hr ?_; (case hd => rfl); (case hg => rfl); (case hr => first | (go_simp; done) | (go_simp; rfl)); intro gb490 hg w63 hbox hb; have n0_ := Aside0.mk (bb_ BK489.out hb); have n1_ := Aside0.mk (bs_ hb); have n2_ := Aside0.mk (hbox); have n3_ := Aside0.mk ((by rw [hg]; exact bz_ : w.heap.size ≤ gb490)); have n4_ := Aside0.mk ((by rw [hg]; exact bz_ : w.heap.size ≤ gb490)); have n5_ := Aside0.mk ((by rw [hg]; exact lt_ BK489.out : gb489 ≠ gb490)); have n6_ := Aside0.mk ((by rw [hg]; exact gt_ BK489.out : gb490 ≠ gb489)); clear BK489; clear HB; have BK489 := n0_; have HB := n1_; have BK490 := n2_; have GW490 := n3_; have GE490 := n4_; have NB489_490 := n5_; have NB490_489 := n6_; clear n0_ n1_ n2_ n3_ n4_ n5_ n6_; clear hb hbox hg; have hnb64 := NB489_490.out; have hnc64 := NB490_489.out; have hcz65_0 : w63.cell? ⟨gb489, 0, none⟩ = some (.slice A0_0 l0_0.length c0_0) := (blk_cell BK489.out 0).trans rfl; have hcz65_1 : w63.cell? ⟨gb489, 1, none⟩ = some (.slice A0_1 l0_1.length c0_1) := (blk_cell BK489.out 1).trans rfl; have hfz65_0 := blk_frozen BK489.out 0; have hfz65_1 := blk_frozen BK489.out 1) | ((with_reducible refine gate_callee (f := 69) rfl ?_); refine goesL_ (some 13) rfl rfl Try.func69 (by kernel_rfl) rfl #[.agg #[.slice A0_0 l0_0.length c0_0, .slice A0_1 l0_1.length c0_1]] rfl (by (try simp only [List.map_toArray, List.map_cons, List.map_nil]); first | done | rfl | (simp only [List.length_drop, List.length_take]; rfl)) ?_; (with_reducible refine (impl_IsProblem.calls _ _ l0_0 _ _ l0_1 false _ ?side1 ?side2 ?side3 ?side4 A2.out).mono ?_); (case side1 => exact cb_ HR0_0.out HB.out); (case side2 => exact HC0_0.out); (case side3 => exact cb_ HR0_1.out HB.out); (case side4 => exact HC0_1.out); rintro e w66 ⟨rfl, hb⟩; refine ⟨_, rfl, ?_⟩; have n0_ := Aside0.mk (bb_ BK489.out hb); have n1_ := Aside0.mk (bb_ BK490.out hb); have n2_ := Aside0.mk (bs_ hb); clear BK489; clear BK490; clear HB; have BK489 := n0_; have BK490 := n1_; have HB := n2_; clear n0_ n1_ n2_; (try clear hb); (try clear hb2); (try clear hk); (try clear hi); have hcz67_0 : w66.cell? ⟨gb490, 0, none⟩ = some (.int .i64 0) := (blk_cell BK490.out 0).trans rfl; have hcz67_1 : w66.cell? ⟨gb490, 1, none⟩ = some (.slice none 0 0) := (blk_cell BK490.out 1).trans rfl; have hfz67_0 := blk_frozen BK490.out 0; have hfz67_1 := blk_frozen BK490.out 1))
  refine bodyPost_ret (results_ct rfl _ _ gb490 37 #[.int .i64 0, .slice none 0 0] (0, 0) _ rfl (by (with_reducible repeat (first | refine blk_drewN ?_ _ | refine blk_drew ?_ | refine blk_alloc ?_ _)); refine blk_put (cs := #[.int .i64 0, .slice none 0 0]) ?_ 1 _ rfl; (with_reducible repeat (first | refine blk_drewN ?_ _ | refine blk_drew ?_ | refine blk_alloc ?_ _)); refine blk_put (cs := #[.int .i64 0, .slice none 0 0]) ?_ 0 _ rfl; (with_reducible repeat (first | refine blk_drewN ?_ _ | refine blk_drew ?_ | refine blk_alloc ?_ _)); exact BK490.out) Try.underlying37 rfl (by kernel_rfl)) rfl ?_
  exact ⟨_, by first | rfl | (simp [errW_none, errW_some] <;> rfl) | (simp [*, errW_none, errW_some] <;> rfl), by first | exact Kd.R_nil _ _ _ _ _ | exact Kd.N_nil _ _ _ _ _ | exact Kd.V_nil _ _ _ _ _ | exact Kd.Q_nil _ _ _ _ _ | exact Kd.S_nil _ _ _ _ _, hb_⟩
end Go.Proofs.Ythdoilfjcgickaa.Pr
end
section
namespace Go.Proofs.Ythdoilfjcgickaa.Pr
open Go.RowKit Go.Proofs.YthdoilfjcgickaaW.PrintWords Go.Proofs.YthdoilfjcgickaaW.PrintLast Go.Proofs.YthdoilfjcgickaaW.PrintMore Go.Proofs.Ythdoilfjcgickaa.La Go.Proofs.Ythdoilfjcgickaa.Hm Go.Proofs.Ythdoilfjcgickaa.Lw
theorem laws_FnExactCubeOfProblem.walk (k : Nat) (A0_0 : Option Addr) (c0_0 : Nat) (l0_0 : List (List Int)) (A0_1 : Option Addr) (c0_1 : Nat) (l0_1 : List Int) (t16 : Int) (s0 : Int) (s1 : List Int) (s2 : Int) (m1 : Int) (m2 : Int) (w : World) (hr0_0 : Kd.C (Kd.slice 2 (Kd.int .i64)) w A0_0 l0_0.length l0_0) (hc0_0 : l0_0.length ≤ c0_0) (hr0_1 : Kd.C (Kd.int .i64) w A0_1 l0_1.length l0_1) (hc0_1 : l0_1.length ≤ c0_1) (h1 : laws_szProblem.f k l0_0 l0_1 1048576 = some t16) (h2 : ¬ t16 < 0) (h3 : laws_toProblem.f k l0_0 l0_1 = some (l0_0, l0_1)) (h4 : spec_CubeOfProblem.f k l0_0 l0_1 = some (s0, s1, s2)) (h5 : impl_CubeOfProblem.f k l0_0 l0_1 = some (s0, s1, s2)) (h6 : laws_eqCube.f k s0 s1 s0 s1 = some true) (h7 : laws_eqProblem.f k l0_0 l0_1 l0_0 l0_1 = some true) (h8 : m1 = 1 + (lens l0_0 : Int) + (l0_1.length : Int)) (h9 : 1 + (lens l0_0 : Int) + (l0_1.length : Int) ≤ 1099511627776) (h10 : l0_0.length ≤ 1099511627776) (h11 : ¬ m1 < 0) (h12 : m2 = 1 + (s1.length : Int)) (h13 : 1 + (s1.length : Int) ≤ 1099511627776) (h14 : ¬ m2 < 0) (h15 : laws_heldCube.f k s0 ((count 1 s1.length)) 1 = some m2) :
  Calls Try.prog 4 #[.agg #[.slice A0_0 l0_0.length c0_0, .slice A0_1 l0_1.length c0_1]] w fun e w' => e = .returned (.bool true) ∧ Below w.heap.size w w' := by
 have HR0_0 := Aside0.mk hr0_0
 have HC0_0 := Aside0.mk hc0_0
 clear hr0_0 hc0_0
 have HR0_1 := Aside0.mk hr0_1
 have HC0_1 := Aside0.mk hc0_1
 clear hr0_1 hc0_1
 have HB := Aside0.mk (Below.refl w.heap.size w)
 have H1' := Aside0.mk h1
 clear h1
 have H3' := Aside0.mk h3
 clear h3
 have H4' := Aside0.mk h4
 clear h4
 have H5' := Aside0.mk h5
 clear h5
 have H6' := Aside0.mk h6
 clear h6
 have H7' := Aside0.mk h7
 clear h7
 have H8' := Aside0.mk h8
 clear h8
 have H9' := Aside0.mk h9
 clear h9
 have H10' := Aside0.mk h10
 clear h10
 have H12' := Aside0.mk h12
 clear h12
 have H13' := Aside0.mk h13
 clear h13
 have H15' := Aside0.mk h15
 clear h15
 go_enter Try.func4, Try.ntmps4
 go_wp2_with (first | ((with_reducible refine gate_dst (N := 1) rfl ?_); refine box_event ?hg (N := 1) ?hd (cs := #[.slice A0_0 l0_0.length c0_0, .slice A0_1 l0_1.length c0_1]) (t := 25) ?hr ?_; (case hd => rfl); (case hg => rfl); (case hr => first | (go_simp; done) | (go_simp; rfl)); intro g1 hg w1 hbox hb; have Gg1 : Aside0 (g1 = w.heap.size) := ⟨hg⟩; have Kg1 := Aside0.mk (blk_lt hbox); clear hg; have n_HB := Aside0.mk (below_step HB.out hb); have NN1 : Aside0 (w.heap.size ≤ w1.heap.size) := ⟨hb.size⟩; clear HB; have HB := n_HB; clear n_HB; have Bg1 := Aside0.mk hbox; clear hb hbox; have hc1_0 : w1.cell? ⟨g1, 0, none⟩ = some (.slice A0_0 l0_0.length c0_0) := (blk_cell Bg1.out 0).trans rfl; have hf1_0 := blk_frozen Bg1.out 0; have hc1_1 : w1.cell? ⟨g1, 1, none⟩ = some (.slice A0_1 l0_1.length c0_1) := (blk_cell Bg1.out 1).trans rfl; have hf1_1 := blk_frozen Bg1.out 1) | ((with_reducible refine gate_callee (f := 15) rfl ?_); refine goesL_ (some 16) rfl rfl Try.func15 (by kernel_rfl) rfl #[.agg #[.slice A0_0 l0_0.length c0_0, .slice A0_1 l0_1.length c0_1], .int .i64 1048576] rfl (by (try simp only [List.map_toArray, List.map_cons, List.map_nil]); first | done | rfl) ?_; refine (laws_szProblem.calls k _ _ l0_0 _ _ l0_1 1048576 t16 _ ?s1 ?s2 ?s3 ?s4 H1'.out).mono ?_; (case s1 => exact Kd.C_below HR0_0.out HB.out); (case s2 => exact HC0_0.out); (case s3 => exact Kd.C_below HR0_1.out HB.out); (case s4 => exact HC0_1.out); rintro e w2 ⟨rfl, hb⟩; refine ⟨_, rfl, ?_⟩; have n_Bg1 := Aside0.mk (blk_below Bg1.out hb); have n_HB := Aside0.mk (below_step HB.out hb); have NN2 : Aside0 (w1.heap.size ≤ w2.heap.size) := ⟨hb.size⟩; clear hc1_0 hf1_0; clear hc1_1 hf1_1; clear Bg1 HB; have Bg1 := n_Bg1; have HB := n_HB; clear n_Bg1 n_HB; clear hb; have hc1_0 : w2.cell? ⟨g1, 0, none⟩ = some (.slice A0_0 l0_0.length c0_0) := (blk_cell Bg1.out 0).trans rfl; have hf1_0 := blk_frozen Bg1.out 0; have hc1_1 : w2.cell? ⟨g1, 1, none⟩ = some (.slice A0_1 l0_1.length c0_1) := (blk_cell Bg1.out 1).trans rfl; have hf1_1 := blk_frozen Bg1.out 1) | ((with_reducible refine gate_callee (f := 17) rfl ?_); refine goesL_ (some 21) rfl rfl Try.func17 (by kernel_rfl) rfl #[.agg #[.slice A0_0 l0_0.length c0_0, .slice A0_1 l0_1.length c0_1]] rfl (by (try simp only [List.map_toArray, List.map_cons, List.map_nil]); first | done | rfl) ?_; refine (laws_toProblem.calls k _ _ l0_0 _ _ l0_1 l0_0 l0_1 _ ?s1 ?s2 ?s3 ?s4 H3'.out).mono ?_; (case s1 => exact Kd.C_below HR0_0.out HB.out); (case s2 => exact HC0_0.out); (case s3 => exact Kd.C_below HR0_1.out HB.out); (case s4 => exact HC0_1.out); rintro e w3 ⟨v21_0, v21_1, rfl, ho0, ho1, hb⟩; refine ⟨_, rfl, ?_⟩; have nu0 := Aside0.mk (UP.of ho0 ho1 HB.out.size); have n_Bg1 := Aside0.mk (blk_below Bg1.out hb); have n_HB := Aside0.mk (below_step HB.out hb); have NN3 : Aside0 (w2.heap.size ≤ w3.heap.size) := ⟨hb.size⟩; clear hc1_0 hf1_0; clear hc1_1 hf1_1; clear Bg1 HB; have Bg1 := n_Bg1; have HB := n_HB; clear n_Bg1 n_HB; clear hb ho0 ho1; have U21 := nu0; clear nu0; obtain ⟨A21_0, c21_0, A21_1, c21_1, e0, e1⟩ := U21.out.slices; subst e0; subst e1) | ((with_reducible refine gate_callee (f := 24) rfl ?_); refine goesL_ (some 22) rfl rfl Try.func24 (by kernel_rfl) rfl #[.agg #[.slice A21_0 l0_0.length c21_0, .slice A21_1 l0_1.length c21_1]] rfl (by (try simp only [List.map_toArray, List.map_cons, List.map_nil]); first | done | rfl) ?_; refine (spec_CubeOfProblem.calls k _ _ l0_0 _ _ l0_1 s0 s1 s2 _ ?s1 ?s2 ?s3 ?s4 H4'.out).mono ?_; (case s1 => exact U21.out.C0); (case s2 => exact U21.out.cap0); (case s3 => exact U21.out.C1); (case s4 => exact U21.out.cap1); rintro e w4 ⟨v22_0, rfl, ho0, hb⟩; refine ⟨_, rfl, ?_⟩; have nu0 := Aside0.mk (UR.of ho0 HB.out.size); have n_U21 := Aside0.mk (U21.out.mvB (Frm.below hb)); have n_Bg1 := Aside0.mk (blk_below Bg1.out hb); have n_HB := Aside0.mk (below_step HB.out hb); have NN4 : Aside0 (w3.heap.size ≤ w4.heap.size) := ⟨hb.size⟩; clear U21 Bg1 HB; have U21 := n_U21; have Bg1 := n_Bg1; have HB := n_HB; clear n_U21 n_Bg1 n_HB; clear hb ho0; have U22_0 := nu0; clear nu0; obtain ⟨A22_0, c22_0, e0⟩ := Kd.R_slice U22_0.out; subst e0) | ((with_reducible refine gate_dst (N := 4) rfl ?_); refine box_event ?hg (N := 4) ?hd (cs := #[.int .i64 0, .slice none 0 0]) (t := 37) ?hr ?_; (case hd => rfl); (case hg => rfl); (case hr => first | (go_simp; done) | (go_simp; rfl)); intro g4 hg w5 hbox hb; have Gg4 : Aside0 (g4 = w4.heap.size) := ⟨hg⟩; have Kg4 := Aside0.mk (blk_lt hbox); clear hg; have n_U21 := Aside0.mk (U21.out.mvB (Frm.below hb)); have n_U22_0 := Aside0.mk (U22_0.out.mvB (Frm.below hb)); have n_Bg1 := Aside0.mk (blk_below Bg1.out hb); have n_HB := Aside0.mk (below_step HB.out hb); have NN5 : Aside0 (w4.heap.size ≤ w5.heap.size) := ⟨hb.size⟩; clear U21 U22_0 Bg1 HB; have U21 := n_U21; have U22_0 := n_U22_0; have Bg1 := n_Bg1; have HB := n_HB; clear n_U21 n_U22_0 n_Bg1 n_HB; have Bg4 := Aside0.mk hbox; clear hb hbox; have hc4_0 : w5.cell? ⟨g4, 0, none⟩ = some (.int .i64 0) := (blk_cell Bg4.out 0).trans rfl; have hf4_0 := blk_frozen Bg4.out 0; have hc4_1 : w5.cell? ⟨g4, 1, none⟩ = some (.slice none 0 0) := (blk_cell Bg4.out 1).trans rfl; have hf4_1 := blk_frozen Bg4.out 1) | ((with_reducible refine gate_store (t := 37) (p := 4) rfl ?_); refine store_event (t := 37) (p := 4) (v := ?vo_w6) (w1 := ((w5.setCell ⟨g4, 0, none⟩ (.int .i64 s0)).setCell ⟨g4, 1, none⟩ (.slice A22_0 s1.length c22_0))) ?hg ?ho ?hn ?hr ?_; (case ho => rfl); (case hg => rfl); (case hn => rfl); (case hr => first | (go_simp; done) | (go_simp; rfl)); intro w6 hw; have hge : w.heap.size ≤ g4 := (by have := NN1.out; have := Gg1.out; have := Kg1.out; have := NN2.out; have := NN3.out; have := NN4.out; have := NN5.out; have := Gg4.out; have := Kg4.out; have := HB.out.size; omega); have hF : Frm w5 w6 g4 (g4 + 1) := (by rw [hw]; exact (Frm.trans (Frm.set _ _ _ _) (Frm.set _ _ _ _))); have nb := Aside0.mk (show w6.heap[g4]? = some (.cells #[.int .i64 s0, .slice A22_0 s1.length c22_0] 37 (0, 0)) from (by rw [hw]; exact (blk_put (blk_put Bg4.out 0 _ rfl) 1 _ rfl))); have n_U21 := Aside0.mk (U21.out.mv hF (by have := NN1.out; have := Gg1.out; have := Kg1.out; have := NN2.out; have := NN3.out; have := NN4.out; have := NN5.out; have := Gg4.out; have := Kg4.out; omega)); have n_U22_0 := Aside0.mk (U22_0.out.mv hF (by have := NN1.out; have := Gg1.out; have := Kg1.out; have := NN2.out; have := NN3.out; have := NN4.out; have := NN5.out; have := Gg4.out; have := Kg4.out; omega)); have n_Bg1 := Aside0.mk ((hF.same g1 (blk_lt Bg1.out) (by have := NN1.out; have := Gg1.out; have := Kg1.out; have := NN2.out; have := NN3.out; have := NN4.out; have := NN5.out; have := Gg4.out; have := Kg4.out; omega)).trans Bg1.out); have n_HB := Aside0.mk ((by rw [hw]; exact (below_set (below_set HB.out hge) hge) : Below w.heap.size w w6)); have NN6 : Aside0 (w5.heap.size ≤ w6.heap.size) := ⟨hF.size⟩; clear hc4_0 hf4_0; clear hc4_1 hf4_1; clear U21 U22_0 Bg1 HB; have U21 := n_U21; have U22_0 := n_U22_0; have Bg1 := n_Bg1; have HB := n_HB; clear n_U21 n_U22_0 n_Bg1 n_HB; clear Bg4; have Bg4 := nb; clear nb hF hge hw; have hc1_0 : w6.cell? ⟨g1, 0, none⟩ = some (.slice A0_0 l0_0.length c0_0) := (blk_cell Bg1.out 0).trans rfl; have hf1_0 := blk_frozen Bg1.out 0; have hc1_1 : w6.cell? ⟨g1, 1, none⟩ = some (.slice A0_1 l0_1.length c0_1) := (blk_cell Bg1.out 1).trans rfl; have hf1_1 := blk_frozen Bg1.out 1) | ((with_reducible refine gate_callee (f := 17) rfl ?_); refine goesL_ (some 26) rfl rfl Try.func17 (by kernel_rfl) rfl #[.agg #[.slice A0_0 l0_0.length c0_0, .slice A0_1 l0_1.length c0_1]] rfl (by (try simp only [List.map_toArray, List.map_cons, List.map_nil]); first | done | rfl) ?_; refine (laws_toProblem.calls k _ _ l0_0 _ _ l0_1 l0_0 l0_1 _ ?s1 ?s2 ?s3 ?s4 H3'.out).mono ?_; (case s1 => exact Kd.C_below HR0_0.out HB.out); (case s2 => exact HC0_0.out); (case s3 => exact Kd.C_below HR0_1.out HB.out); (case s4 => exact HC0_1.out); rintro e w7 ⟨v26_0, v26_1, rfl, ho0, ho1, hb⟩; refine ⟨_, rfl, ?_⟩; have nu0 := Aside0.mk (UP.of ho0 ho1 HB.out.size); have n_U21 := Aside0.mk (U21.out.mvB (Frm.below hb)); have n_U22_0 := Aside0.mk (U22_0.out.mvB (Frm.below hb)); have n_Bg1 := Aside0.mk (blk_below Bg1.out hb); have n_Bg4 := Aside0.mk (blk_below Bg4.out hb); have n_HB := Aside0.mk (below_step HB.out hb); have NN7 : Aside0 (w6.heap.size ≤ w7.heap.size) := ⟨hb.size⟩; clear hc1_0 hf1_0; clear hc1_1 hf1_1; clear U21 U22_0 Bg1 Bg4 HB; have U21 := n_U21; have U22_0 := n_U22_0; have Bg1 := n_Bg1; have Bg4 := n_Bg4; have HB := n_HB; clear n_U21 n_U22_0 n_Bg1 n_Bg4 n_HB; clear hb ho0 ho1; have U26 := nu0; clear nu0; obtain ⟨A26_0, c26_0, A26_1, c26_1, e0, e1⟩ := U26.out.slices; subst e0; subst e1) | ((with_reducible refine gate_dst (N := 6) rfl ?_); refine box_event ?hg (N := 6) ?hd (cs := #[.slice none 0 0, .slice none 0 0]) (t := 29) ?hr ?_; (case hd => rfl); (case hg => rfl); (case hr => first | (go_simp; done) | (go_simp; rfl)); intro g6 hg w8 hbox hb; have Gg6 : Aside0 (g6 = w7.heap.size) := ⟨hg⟩; have Kg6 := Aside0.mk (blk_lt hbox); clear hg; have n_U21 := Aside0.mk (U21.out.mvB (Frm.below hb)); have n_U22_0 := Aside0.mk (U22_0.out.mvB (Frm.below hb)); have n_U26 := Aside0.mk (U26.out.mvB (Frm.below hb)); have n_Bg1 := Aside0.mk (blk_below Bg1.out hb); have n_Bg4 := Aside0.mk (blk_below Bg4.out hb); have n_HB := Aside0.mk (below_step HB.out hb); have NN8 : Aside0 (w7.heap.size ≤ w8.heap.size) := ⟨hb.size⟩; clear U21 U22_0 U26 Bg1 Bg4 HB; have U21 := n_U21; have U22_0 := n_U22_0; have U26 := n_U26; have Bg1 := n_Bg1; have Bg4 := n_Bg4; have HB := n_HB; clear n_U21 n_U22_0 n_U26 n_Bg1 n_Bg4 n_HB; have Bg6 := Aside0.mk hbox; clear hb hbox; have hc6_0 : w8.cell? ⟨g6, 0, none⟩ = some (.slice none 0 0) := (blk_cell Bg6.out 0).trans rfl; have hf6_0 := blk_frozen Bg6.out 0; have hc6_1 : w8.cell? ⟨g6, 1, none⟩ = some (.slice none 0 0) := (blk_cell Bg6.out 1).trans rfl; have hf6_1 := blk_frozen Bg6.out 1) | ((with_reducible refine gate_store (t := 29) (p := 6) rfl ?_); refine store_event (t := 29) (p := 6) (v := ?vo_w9) (w1 := ((w8.setCell ⟨g6, 0, none⟩ (.slice A26_0 l0_0.length c26_0)).setCell ⟨g6, 1, none⟩ (.slice A26_1 l0_1.length c26_1))) ?hg ?ho ?hn ?hr ?_; (case ho => rfl); (case hg => rfl); (case hn => rfl); (case hr => first | (go_simp; done) | (go_simp; rfl)); intro w9 hw; have hge : w.heap.size ≤ g6 := (by have := NN1.out; have := Gg1.out; have := Kg1.out; have := NN2.out; have := NN3.out; have := NN4.out; have := NN5.out; have := Gg4.out; have := Kg4.out; have := NN6.out; have := NN7.out; have := NN8.out; have := Gg6.out; have := Kg6.out; have := HB.out.size; omega); have hF : Frm w8 w9 g6 (g6 + 1) := (by rw [hw]; exact (Frm.trans (Frm.set _ _ _ _) (Frm.set _ _ _ _))); have nb := Aside0.mk (show w9.heap[g6]? = some (.cells #[.slice A26_0 l0_0.length c26_0, .slice A26_1 l0_1.length c26_1] 29 (0, 0)) from (by rw [hw]; exact (blk_put (blk_put Bg6.out 0 _ rfl) 1 _ rfl))); have n_U21 := Aside0.mk (U21.out.mv hF (by have := NN1.out; have := Gg1.out; have := Kg1.out; have := NN2.out; have := NN3.out; have := NN4.out; have := NN5.out; have := Gg4.out; have := Kg4.out; have := NN6.out; have := NN7.out; have := NN8.out; have := Gg6.out; have := Kg6.out; omega)); have n_U22_0 := Aside0.mk (U22_0.out.mv hF (by have := NN1.out; have := Gg1.out; have := Kg1.out; have := NN2.out; have := NN3.out; have := NN4.out; have := NN5.out; have := Gg4.out; have := Kg4.out; have := NN6.out; have := NN7.out; have := NN8.out; have := Gg6.out; have := Kg6.out; omega)); have n_U26 := Aside0.mk (U26.out.mv hF (by have := NN1.out; have := Gg1.out; have := Kg1.out; have := NN2.out; have := NN3.out; have := NN4.out; have := NN5.out; have := Gg4.out; have := Kg4.out; have := NN6.out; have := NN7.out; have := NN8.out; have := Gg6.out; have := Kg6.out; omega)); have n_Bg1 := Aside0.mk ((hF.same g1 (blk_lt Bg1.out) (by have := NN1.out; have := Gg1.out; have := Kg1.out; have := NN2.out; have := NN3.out; have := NN4.out; have := NN5.out; have := Gg4.out; have := Kg4.out; have := NN6.out; have := NN7.out; have := NN8.out; have := Gg6.out; have := Kg6.out; omega)).trans Bg1.out); have n_Bg4 := Aside0.mk ((hF.same g4 (blk_lt Bg4.out) (by have := NN1.out; have := Gg1.out; have := Kg1.out; have := NN2.out; have := NN3.out; have := NN4.out; have := NN5.out; have := Gg4.out; have := Kg4.out; have := NN6.out; have := NN7.out; have := NN8.out; have := Gg6.out; have := Kg6.out; omega)).trans Bg4.out); have n_HB := Aside0.mk ((by rw [hw]; exact (below_set (below_set HB.out hge) hge) : Below w.heap.size w w9)); have NN9 : Aside0 (w8.heap.size ≤ w9.heap.size) := ⟨hF.size⟩; clear hc6_0 hf6_0; clear hc6_1 hf6_1; clear U21 U22_0 U26 Bg1 Bg4 HB; have U21 := n_U21; have U22_0 := n_U22_0; have U26 := n_U26; have Bg1 := n_Bg1; have Bg4 := n_Bg4; have HB := n_HB; clear n_U21 n_U22_0 n_U26 n_Bg1 n_Bg4 n_HB; clear Bg6; have Bg6 := nb; clear nb hF hge hw; have hc6_0 : w9.cell? ⟨g6, 0, none⟩ = some (.slice A26_0 l0_0.length c26_0) := (blk_cell Bg6.out 0).trans rfl; have hf6_0 := blk_frozen Bg6.out 0; have hc6_1 : w9.cell? ⟨g6, 1, none⟩ = some (.slice A26_1 l0_1.length c26_1) := (blk_cell Bg6.out 1).trans rfl; have hf6_1 := blk_frozen Bg6.out 1) | ((with_reducible refine gate_callee (f := 25) rfl ?_); refine goesL_ (some 29) rfl rfl Try.func25 (by kernel_rfl) rfl #[.agg #[.slice A26_0 l0_0.length c26_0, .slice A26_1 l0_1.length c26_1]] rfl (by (try simp only [List.map_toArray, List.map_cons, List.map_nil]); first | done | rfl) ?_; refine (impl_CubeOfProblem.calls k _ _ l0_0 _ _ l0_1 s0 s1 s2 _ ?s1 ?s2 ?s3 ?s4 H5'.out).mono ?_; (case s1 => exact U26.out.C0); (case s2 => exact U26.out.cap0); (case s3 => exact U26.out.C1); (case s4 => exact U26.out.cap1); rintro e w10 ⟨v29_0, rfl, ho0, hb⟩; refine ⟨_, rfl, ?_⟩; have nu0 := Aside0.mk (UR.of ho0 HB.out.size); have n_U21 := Aside0.mk (U21.out.mvB (Frm.below hb)); have n_U22_0 := Aside0.mk (U22_0.out.mvB (Frm.below hb)); have n_U26 := Aside0.mk (U26.out.mvB (Frm.below hb)); have n_Bg1 := Aside0.mk (blk_below Bg1.out hb); have n_Bg4 := Aside0.mk (blk_below Bg4.out hb); have n_Bg6 := Aside0.mk (blk_below Bg6.out hb); have n_HB := Aside0.mk (below_step HB.out hb); have NN10 : Aside0 (w9.heap.size ≤ w10.heap.size) := ⟨hb.size⟩; clear hc6_0 hf6_0; clear hc6_1 hf6_1; clear U21 U22_0 U26 Bg1 Bg4 Bg6 HB; have U21 := n_U21; have U22_0 := n_U22_0; have U26 := n_U26; have Bg1 := n_Bg1; have Bg4 := n_Bg4; have Bg6 := n_Bg6; have HB := n_HB; clear n_U21 n_U22_0 n_U26 n_Bg1 n_Bg4 n_Bg6 n_HB; clear hb ho0; have U29_0 := nu0; clear nu0; obtain ⟨A29_0, c29_0, e0⟩ := Kd.R_slice U29_0.out; subst e0) | ((with_reducible refine gate_dst (N := 7) rfl ?_); refine box_event ?hg (N := 7) ?hd (cs := #[.int .i64 0, .slice none 0 0]) (t := 37) ?hr ?_; (case hd => rfl); (case hg => rfl); (case hr => first | (go_simp; done) | (go_simp; rfl)); intro g7 hg w11 hbox hb; have Gg7 : Aside0 (g7 = w10.heap.size) := ⟨hg⟩; have Kg7 := Aside0.mk (blk_lt hbox); clear hg; have n_U21 := Aside0.mk (U21.out.mvB (Frm.below hb)); have n_U22_0 := Aside0.mk (U22_0.out.mvB (Frm.below hb)); have n_U26 := Aside0.mk (U26.out.mvB (Frm.below hb)); have n_U29_0 := Aside0.mk (U29_0.out.mvB (Frm.below hb)); have n_Bg1 := Aside0.mk (blk_below Bg1.out hb); have n_Bg4 := Aside0.mk (blk_below Bg4.out hb); have n_Bg6 := Aside0.mk (blk_below Bg6.out hb); have n_HB := Aside0.mk (below_step HB.out hb); have NN11 : Aside0 (w10.heap.size ≤ w11.heap.size) := ⟨hb.size⟩; clear U21 U22_0 U26 U29_0 Bg1 Bg4 Bg6 HB; have U21 := n_U21; have U22_0 := n_U22_0; have U26 := n_U26; have U29_0 := n_U29_0; have Bg1 := n_Bg1; have Bg4 := n_Bg4; have Bg6 := n_Bg6; have HB := n_HB; clear n_U21 n_U22_0 n_U26 n_U29_0 n_Bg1 n_Bg4 n_Bg6 n_HB; have Bg7 := Aside0.mk hbox; clear hb hbox; have hc7_0 : w11.cell? ⟨g7, 0, none⟩ = some (.int .i64 0) := (blk_cell Bg7.out 0).trans rfl; have hf7_0 := blk_frozen Bg7.out 0; have hc7_1 : w11.cell? ⟨g7, 1, none⟩ = some (.slice none 0 0) := (blk_cell Bg7.out 1).trans rfl; have hf7_1 := blk_frozen Bg7.out 1) | ((with_reducible refine gate_store (t := 37) (p := 7) rfl ?_); refine store_event (t := 37) (p := 7) (v := ?vo_w12) (w1 := ((w11.setCell ⟨g7, 0, none⟩ (.int .i64 s0)).setCell ⟨g7, 1, none⟩ (.slice A29_0 s1.length c29_0))) ?hg ?ho ?hn ?hr ?_; (case ho => rfl); (case hg => rfl); (case hn => rfl); (case hr => first | (go_simp; done) | (go_simp; rfl)); intro w12 hw; have hge : w.heap.size ≤ g7 := (by have := NN1.out; have := Gg1.out; have := Kg1.out; have := NN2.out; have := NN3.out; have := NN4.out; have := NN5.out; have := Gg4.out; have := Kg4.out; have := NN6.out; have := NN7.out; have := NN8.out; have := Gg6.out; have := Kg6.out; have := NN9.out; have := NN10.out; have := NN11.out; have := Gg7.out; have := Kg7.out; have := HB.out.size; omega); have hF : Frm w11 w12 g7 (g7 + 1) := (by rw [hw]; exact (Frm.trans (Frm.set _ _ _ _) (Frm.set _ _ _ _))); have nb := Aside0.mk (show w12.heap[g7]? = some (.cells #[.int .i64 s0, .slice A29_0 s1.length c29_0] 37 (0, 0)) from (by rw [hw]; exact (blk_put (blk_put Bg7.out 0 _ rfl) 1 _ rfl))); have n_U21 := Aside0.mk (U21.out.mv hF (by have := NN1.out; have := Gg1.out; have := Kg1.out; have := NN2.out; have := NN3.out; have := NN4.out; have := NN5.out; have := Gg4.out; have := Kg4.out; have := NN6.out; have := NN7.out; have := NN8.out; have := Gg6.out; have := Kg6.out; have := NN9.out; have := NN10.out; have := NN11.out; have := Gg7.out; have := Kg7.out; omega)); have n_U22_0 := Aside0.mk (U22_0.out.mv hF (by have := NN1.out; have := Gg1.out; have := Kg1.out; have := NN2.out; have := NN3.out; have := NN4.out; have := NN5.out; have := Gg4.out; have := Kg4.out; have := NN6.out; have := NN7.out; have := NN8.out; have := Gg6.out; have := Kg6.out; have := NN9.out; have := NN10.out; have := NN11.out; have := Gg7.out; have := Kg7.out; omega)); have n_U26 := Aside0.mk (U26.out.mv hF (by have := NN1.out; have := Gg1.out; have := Kg1.out; have := NN2.out; have := NN3.out; have := NN4.out; have := NN5.out; have := Gg4.out; have := Kg4.out; have := NN6.out; have := NN7.out; have := NN8.out; have := Gg6.out; have := Kg6.out; have := NN9.out; have := NN10.out; have := NN11.out; have := Gg7.out; have := Kg7.out; omega)); have n_U29_0 := Aside0.mk (U29_0.out.mv hF (by have := NN1.out; have := Gg1.out; have := Kg1.out; have := NN2.out; have := NN3.out; have := NN4.out; have := NN5.out; have := Gg4.out; have := Kg4.out; have := NN6.out; have := NN7.out; have := NN8.out; have := Gg6.out; have := Kg6.out; have := NN9.out; have := NN10.out; have := NN11.out; have := Gg7.out; have := Kg7.out; omega)); have n_Bg1 := Aside0.mk ((hF.same g1 (blk_lt Bg1.out) (by have := NN1.out; have := Gg1.out; have := Kg1.out; have := NN2.out; have := NN3.out; have := NN4.out; have := NN5.out; have := Gg4.out; have := Kg4.out; have := NN6.out; have := NN7.out; have := NN8.out; have := Gg6.out; have := Kg6.out; have := NN9.out; have := NN10.out; have := NN11.out; have := Gg7.out; have := Kg7.out; omega)).trans Bg1.out); have n_Bg4 := Aside0.mk ((hF.same g4 (blk_lt Bg4.out) (by have := NN1.out; have := Gg1.out; have := Kg1.out; have := NN2.out; have := NN3.out; have := NN4.out; have := NN5.out; have := Gg4.out; have := Kg4.out; have := NN6.out; have := NN7.out; have := NN8.out; have := Gg6.out; have := Kg6.out; have := NN9.out; have := NN10.out; have := NN11.out; have := Gg7.out; have := Kg7.out; omega)).trans Bg4.out); have n_Bg6 := Aside0.mk ((hF.same g6 (blk_lt Bg6.out) (by have := NN1.out; have := Gg1.out; have := Kg1.out; have := NN2.out; have := NN3.out; have := NN4.out; have := NN5.out; have := Gg4.out; have := Kg4.out; have := NN6.out; have := NN7.out; have := NN8.out; have := Gg6.out; have := Kg6.out; have := NN9.out; have := NN10.out; have := NN11.out; have := Gg7.out; have := Kg7.out; omega)).trans Bg6.out); have n_HB := Aside0.mk ((by rw [hw]; exact (below_set (below_set HB.out hge) hge) : Below w.heap.size w w12)); have NN12 : Aside0 (w11.heap.size ≤ w12.heap.size) := ⟨hF.size⟩; clear hc7_0 hf7_0; clear hc7_1 hf7_1; clear U21 U22_0 U26 U29_0 Bg1 Bg4 Bg6 HB; have U21 := n_U21; have U22_0 := n_U22_0; have U26 := n_U26; have U29_0 := n_U29_0; have Bg1 := n_Bg1; have Bg4 := n_Bg4; have Bg6 := n_Bg6; have HB := n_HB; clear n_U21 n_U22_0 n_U26 n_U29_0 n_Bg1 n_Bg4 n_Bg6 n_HB; clear Bg7; have Bg7 := nb; clear nb hF hge hw; have hc4_0 : w12.cell? ⟨g4, 0, none⟩ = some (.int .i64 s0) := (blk_cell Bg4.out 0).trans rfl; have hf4_0 := blk_frozen Bg4.out 0; have hc4_1 : w12.cell? ⟨g4, 1, none⟩ = some (.slice A22_0 s1.length c22_0) := (blk_cell Bg4.out 1).trans rfl; have hf4_1 := blk_frozen Bg4.out 1; have hc7_0 : w12.cell? ⟨g7, 0, none⟩ = some (.int .i64 s0) := (blk_cell Bg7.out 0).trans rfl; have hf7_0 := blk_frozen Bg7.out 0; have hc7_1 : w12.cell? ⟨g7, 1, none⟩ = some (.slice A29_0 s1.length c29_0) := (blk_cell Bg7.out 1).trans rfl; have hf7_1 := blk_frozen Bg7.out 1) | ((with_reducible refine gate_callee (f := 26) rfl ?_); refine goesL_ (some 34) rfl rfl Try.func26 (by kernel_rfl) rfl #[.agg #[.int .i64 s0, .slice A29_0 s1.length c29_0], .agg #[.int .i64 s0, .slice A22_0 s1.length c22_0]] rfl (by (try simp only [List.map_toArray, List.map_cons, List.map_nil]); first | done | rfl) ?_; refine (laws_eqCube.calls k s0 _ _ s1 s0 _ _ s1 true _ ?s1 ?s2 ?s3 ?s4 H6'.out).mono ?_; (case s1 => exact UR.C U29_0.out); (case s2 => exact UR.cap U29_0.out); (case s3 => exact UR.C U22_0.out); (case s4 => exact UR.cap U22_0.out); rintro e w13 ⟨rfl, hb⟩; refine ⟨_, rfl, ?_⟩; have n_U21 := Aside0.mk (U21.out.mvB (Frm.below hb)); have n_U22_0 := Aside0.mk (U22_0.out.mvB (Frm.below hb)); have n_U26 := Aside0.mk (U26.out.mvB (Frm.below hb)); have n_U29_0 := Aside0.mk (U29_0.out.mvB (Frm.below hb)); have n_Bg1 := Aside0.mk (blk_below Bg1.out hb); have n_Bg4 := Aside0.mk (blk_below Bg4.out hb); have n_Bg6 := Aside0.mk (blk_below Bg6.out hb); have n_Bg7 := Aside0.mk (blk_below Bg7.out hb); have n_HB := Aside0.mk (below_step HB.out hb); have NN13 : Aside0 (w12.heap.size ≤ w13.heap.size) := ⟨hb.size⟩; clear hc4_0 hf4_0; clear hc4_1 hf4_1; clear hc7_0 hf7_0; clear hc7_1 hf7_1; clear U21 U22_0 U26 U29_0 Bg1 Bg4 Bg6 Bg7 HB; have U21 := n_U21; have U22_0 := n_U22_0; have U26 := n_U26; have U29_0 := n_U29_0; have Bg1 := n_Bg1; have Bg4 := n_Bg4; have Bg6 := n_Bg6; have Bg7 := n_Bg7; have HB := n_HB; clear n_U21 n_U22_0 n_U26 n_U29_0 n_Bg1 n_Bg4 n_Bg6 n_Bg7 n_HB; clear hb))
 try go_wp2
 have hb : Below w13.heap.size w13 w13.drew := (Below.refl _ _).drew
 have n_U21 := Aside0.mk (U21.out.mvB (Frm.below hb))
 have n_U22_0 := Aside0.mk (U22_0.out.mvB (Frm.below hb))
 have n_U26 := Aside0.mk (U26.out.mvB (Frm.below hb))
 have n_U29_0 := Aside0.mk (U29_0.out.mvB (Frm.below hb))
 have n_Bg1 := Aside0.mk (blk_below Bg1.out hb)
 have n_Bg4 := Aside0.mk (blk_below Bg4.out hb)
 have n_Bg6 := Aside0.mk (blk_below Bg6.out hb)
 have n_Bg7 := Aside0.mk (blk_below Bg7.out hb)
 have n_HB := Aside0.mk (below_step HB.out hb)
 have NN14 : Aside0 (w13.heap.size ≤ w13.drew.heap.size) := ⟨hb.size⟩
 clear U21 U22_0 U26 U29_0 Bg1 Bg4 Bg6 Bg7 HB
 have U21 := n_U21
 have U22_0 := n_U22_0
 have U26 := n_U26
 have U29_0 := n_U29_0
 have Bg1 := n_Bg1
 have Bg4 := n_Bg4
 have Bg6 := n_Bg6
 have Bg7 := n_Bg7
 have HB := n_HB
 clear n_U21 n_U22_0 n_U26 n_U29_0 n_Bg1 n_Bg4 n_Bg6 n_Bg7 n_HB
 clear hb
 refine st_ (n := 5) (S := fun w' => w'.cell? ⟨g6, 0, none⟩ = some (.slice A26_0 l0_0.length c26_0) ∧ w'.cell? ⟨g6, 1, none⟩ = some (.slice A26_1 l0_1.length c26_1) ∧ w'.cell? ⟨g1, 0, none⟩ = some (.slice A0_0 l0_0.length c0_0) ∧ w'.cell? ⟨g1, 1, none⟩ = some (.slice A0_1 l0_1.length c0_1)) (ds := []) ⟨(blk_cell Bg6.out 0).trans rfl, (blk_cell Bg6.out 1).trans rfl, (blk_cell Bg1.out 0).trans rfl, (blk_cell Bg1.out 1).trans rfl⟩ (fun hHeld => ?_)
 generalize w13.drew = w14 at U21 U22_0 U26 U29_0 Bg1 Bg4 Bg6 Bg7 HB NN14 hHeld ⊢
 have hc1_0 : w14.cell? ⟨g1, 0, none⟩ = some (.slice A0_0 l0_0.length c0_0) := (blk_cell Bg1.out 0).trans rfl
 have hf1_0 := blk_frozen Bg1.out 0
 have hc1_1 : w14.cell? ⟨g1, 1, none⟩ = some (.slice A0_1 l0_1.length c0_1) := (blk_cell Bg1.out 1).trans rfl
 have hf1_1 := blk_frozen Bg1.out 1
 have hc6_0 : w14.cell? ⟨g6, 0, none⟩ = some (.slice A26_0 l0_0.length c26_0) := (blk_cell Bg6.out 0).trans rfl
 have hf6_0 := blk_frozen Bg6.out 0
 have hc6_1 : w14.cell? ⟨g6, 1, none⟩ = some (.slice A26_1 l0_1.length c26_1) := (blk_cell Bg6.out 1).trans rfl
 have hf6_1 := blk_frozen Bg6.out 1
 refine tk_ 0 41 ?_; refine tk_ 1 42 ?_
 refine on_ 2 (some 43) (fun K hK => ?_)
 refine goes_ Try.func17 (by kernel_rfl) rfl #[.agg #[.slice A0_0 l0_0.length c0_0, .slice A0_1 l0_1.length c0_1]] (by rfl) rfl rfl (by (try simp only [List.map_toArray, List.map_cons, List.map_nil]); first | done | rfl) ?_
 (refine (laws_toProblem.calls k _ _ l0_0 _ _ l0_1 l0_0 l0_1 _ ?s1 ?s2 ?s3 ?s4 H3'.out).mono ?_; (case s1 => exact Kd.C_below HR0_0.out HB.out); (case s2 => exact HC0_0.out); (case s3 => exact Kd.C_below HR0_1.out HB.out); (case s4 => exact HC0_1.out); rintro e w15 ⟨v43_0, v43_1, rfl, ho0, ho1, hb⟩; refine ⟨_, rfl, ?_⟩; have nu0 := Aside0.mk (UP.of ho0 ho1 HB.out.size); have n_U21 := Aside0.mk (U21.out.mvB (Frm.below hb)); have n_U22_0 := Aside0.mk (U22_0.out.mvB (Frm.below hb)); have n_U26 := Aside0.mk (U26.out.mvB (Frm.below hb)); have n_U29_0 := Aside0.mk (U29_0.out.mvB (Frm.below hb)); have n_Bg1 := Aside0.mk (blk_below Bg1.out hb); have n_Bg4 := Aside0.mk (blk_below Bg4.out hb); have n_Bg6 := Aside0.mk (blk_below Bg6.out hb); have n_Bg7 := Aside0.mk (blk_below Bg7.out hb); have n_HB := Aside0.mk (below_step HB.out hb); have NN15 : Aside0 (w14.heap.size ≤ w15.heap.size) := ⟨hb.size⟩; clear hc1_0 hf1_0; clear hc1_1 hf1_1; clear hc6_0 hf6_0; clear hc6_1 hf6_1; clear U21 U22_0 U26 U29_0 Bg1 Bg4 Bg6 Bg7 HB; have U21 := n_U21; have U22_0 := n_U22_0; have U26 := n_U26; have U29_0 := n_U29_0; have Bg1 := n_Bg1; have Bg4 := n_Bg4; have Bg6 := n_Bg6; have Bg7 := n_Bg7; have HB := n_HB; clear n_U21 n_U22_0 n_U26 n_U29_0 n_Bg1 n_Bg4 n_Bg6 n_Bg7 n_HB; clear hb ho0 ho1; have U43 := nu0; clear nu0; obtain ⟨A43_0, c43_0, A43_1, c43_1, e0, e1⟩ := U43.out.slices; subst e0; subst e1)
 refine hK.out _ _ ⟨(blk_cell Bg6.out 0).trans rfl, (blk_cell Bg6.out 1).trans rfl, (blk_cell Bg1.out 0).trans rfl, (blk_cell Bg1.out 1).trans rfl⟩ (fun hHeld => ?_)
 clear hK K
 refine norm_ (a' := ?_) ?_ ?_
 rotate_left
 ·show Act.put _ (some 43) _ = _
  simp only [Act.put, List.setIfInBounds_toArray, List.set_cons_zero, List.set_cons_succ, i64_w, i32_w]
  rfl
 refine on_ 3 (some 44) (fun K hK => ?_)
 refine goes_ Try.func20 (by kernel_rfl) rfl #[.agg #[.slice A26_0 l0_0.length c26_0, .slice A26_1 l0_1.length c26_1], .agg #[.slice A43_0 l0_0.length c43_0, .slice A43_1 l0_1.length c43_1]] (by rfl) rfl rfl (by (try simp only [List.map_toArray, List.map_cons, List.map_nil]); first | done | rfl) ?_
 (refine (laws_eqProblem.calls k _ _ l0_0 _ _ l0_1 _ _ l0_0 _ _ l0_1 true _ ?s1 ?s2 ?s3 ?s4 ?s5 ?s6 ?s7 ?s8 H7'.out).mono ?_; (case s1 => exact U26.out.C0); (case s2 => exact U26.out.cap0); (case s3 => exact U26.out.C1); (case s4 => exact U26.out.cap1); (case s5 => exact U43.out.C0); (case s6 => exact U43.out.cap0); (case s7 => exact U43.out.C1); (case s8 => exact U43.out.cap1); rintro e w16 ⟨rfl, hb⟩; refine ⟨_, rfl, ?_⟩; have n_U21 := Aside0.mk (U21.out.mvB (Frm.below hb)); have n_U22_0 := Aside0.mk (U22_0.out.mvB (Frm.below hb)); have n_U26 := Aside0.mk (U26.out.mvB (Frm.below hb)); have n_U29_0 := Aside0.mk (U29_0.out.mvB (Frm.below hb)); have n_U43 := Aside0.mk (U43.out.mvB (Frm.below hb)); have n_Bg1 := Aside0.mk (blk_below Bg1.out hb); have n_Bg4 := Aside0.mk (blk_below Bg4.out hb); have n_Bg6 := Aside0.mk (blk_below Bg6.out hb); have n_Bg7 := Aside0.mk (blk_below Bg7.out hb); have n_HB := Aside0.mk (below_step HB.out hb); have NN16 : Aside0 (w15.heap.size ≤ w16.heap.size) := ⟨hb.size⟩; clear U21 U22_0 U26 U29_0 U43 Bg1 Bg4 Bg6 Bg7 HB; have U21 := n_U21; have U22_0 := n_U22_0; have U26 := n_U26; have U29_0 := n_U29_0; have U43 := n_U43; have Bg1 := n_Bg1; have Bg4 := n_Bg4; have Bg6 := n_Bg6; have Bg7 := n_Bg7; have HB := n_HB; clear n_U21 n_U22_0 n_U26 n_U29_0 n_U43 n_Bg1 n_Bg4 n_Bg6 n_Bg7 n_HB; clear hb; have hc6_0 : w16.cell? ⟨g6, 0, none⟩ = some (.slice A26_0 l0_0.length c26_0) := (blk_cell Bg6.out 0).trans rfl; have hf6_0 := blk_frozen Bg6.out 0; have hc6_1 : w16.cell? ⟨g6, 1, none⟩ = some (.slice A26_1 l0_1.length c26_1) := (blk_cell Bg6.out 1).trans rfl; have hf6_1 := blk_frozen Bg6.out 1)
 refine hK.out _ _ ⟨(blk_cell Bg6.out 0).trans rfl, (blk_cell Bg6.out 1).trans rfl, (blk_cell Bg1.out 0).trans rfl, (blk_cell Bg1.out 1).trans rfl⟩ (fun hHeld => ?_)
 clear hK K
 refine norm_ (a' := ?_) ?_ ?_
 rotate_left
 ·show Act.put _ (some 44) _ = _
  simp only [Act.put, List.setIfInBounds_toArray, List.set_cons_zero, List.set_cons_succ, i64_w, i32_w]
  rfl
 refine pu_ 4 45 ?_
 refine done_ (by kernel_rfl) ?_
 go_wp2_with (first | ((with_reducible refine gate_callee (f := 21) rfl ?_); refine goesL_ (some 48) rfl rfl Try.func21 (by kernel_rfl) rfl #[.agg #[.slice A26_0 l0_0.length c26_0, .slice A26_1 l0_1.length c26_1], .int .i64 1] rfl (by (try simp only [List.map_toArray, List.map_cons, List.map_nil]); first | done | rfl) ?_; refine (mark_UP A26_0 c26_0 A26_1 c26_1 l0_0 l0_1 1 m1 HB.out U26.out (by decide) H9'.out H10'.out H8'.out (by have := NN1.out; have := Gg1.out; have := Kg1.out; have := NN2.out; have := NN3.out; have := NN4.out; have := NN5.out; have := Gg4.out; have := Kg4.out; have := NN6.out; have := NN7.out; have := NN8.out; have := Gg6.out; have := Kg6.out; have := NN9.out; have := NN10.out; have := NN11.out; have := Gg7.out; have := Kg7.out; have := NN12.out; have := NN13.out; have := NN14.out; have := NN15.out; have := NN16.out; omega)).mono ?_; rintro e w17 ⟨rfl, hU, hB', hF⟩; refine ⟨_, rfl, ?_⟩; have nu := Aside0.mk hU; have n_U21 := Aside0.mk (U21.out.mv hF (by have := NN1.out; have := Gg1.out; have := Kg1.out; have := NN2.out; have := NN3.out; have := NN4.out; have := NN5.out; have := Gg4.out; have := Kg4.out; have := NN6.out; have := NN7.out; have := NN8.out; have := Gg6.out; have := Kg6.out; have := NN9.out; have := NN10.out; have := NN11.out; have := Gg7.out; have := Kg7.out; have := NN12.out; have := NN13.out; have := NN14.out; have := NN15.out; have := NN16.out; omega)); have n_U22_0 := Aside0.mk (U22_0.out.mv hF (by have := NN1.out; have := Gg1.out; have := Kg1.out; have := NN2.out; have := NN3.out; have := NN4.out; have := NN5.out; have := Gg4.out; have := Kg4.out; have := NN6.out; have := NN7.out; have := NN8.out; have := Gg6.out; have := Kg6.out; have := NN9.out; have := NN10.out; have := NN11.out; have := Gg7.out; have := Kg7.out; have := NN12.out; have := NN13.out; have := NN14.out; have := NN15.out; have := NN16.out; omega)); have n_U29_0 := Aside0.mk (U29_0.out.mv hF (by have := NN1.out; have := Gg1.out; have := Kg1.out; have := NN2.out; have := NN3.out; have := NN4.out; have := NN5.out; have := Gg4.out; have := Kg4.out; have := NN6.out; have := NN7.out; have := NN8.out; have := Gg6.out; have := Kg6.out; have := NN9.out; have := NN10.out; have := NN11.out; have := Gg7.out; have := Kg7.out; have := NN12.out; have := NN13.out; have := NN14.out; have := NN15.out; have := NN16.out; omega)); have n_U43 := Aside0.mk (U43.out.mv hF (by have := NN1.out; have := Gg1.out; have := Kg1.out; have := NN2.out; have := NN3.out; have := NN4.out; have := NN5.out; have := Gg4.out; have := Kg4.out; have := NN6.out; have := NN7.out; have := NN8.out; have := Gg6.out; have := Kg6.out; have := NN9.out; have := NN10.out; have := NN11.out; have := Gg7.out; have := Kg7.out; have := NN12.out; have := NN13.out; have := NN14.out; have := NN15.out; have := NN16.out; omega)); have n_Bg1 := Aside0.mk ((hF.same g1 (blk_lt Bg1.out) (by have := NN1.out; have := Gg1.out; have := Kg1.out; have := NN2.out; have := NN3.out; have := NN4.out; have := NN5.out; have := Gg4.out; have := Kg4.out; have := NN6.out; have := NN7.out; have := NN8.out; have := Gg6.out; have := Kg6.out; have := NN9.out; have := NN10.out; have := NN11.out; have := Gg7.out; have := Kg7.out; have := NN12.out; have := NN13.out; have := NN14.out; have := NN15.out; have := NN16.out; omega)).trans Bg1.out); have n_Bg4 := Aside0.mk ((hF.same g4 (blk_lt Bg4.out) (by have := NN1.out; have := Gg1.out; have := Kg1.out; have := NN2.out; have := NN3.out; have := NN4.out; have := NN5.out; have := Gg4.out; have := Kg4.out; have := NN6.out; have := NN7.out; have := NN8.out; have := Gg6.out; have := Kg6.out; have := NN9.out; have := NN10.out; have := NN11.out; have := Gg7.out; have := Kg7.out; have := NN12.out; have := NN13.out; have := NN14.out; have := NN15.out; have := NN16.out; omega)).trans Bg4.out); have n_Bg6 := Aside0.mk ((hF.same g6 (blk_lt Bg6.out) (by have := NN1.out; have := Gg1.out; have := Kg1.out; have := NN2.out; have := NN3.out; have := NN4.out; have := NN5.out; have := Gg4.out; have := Kg4.out; have := NN6.out; have := NN7.out; have := NN8.out; have := Gg6.out; have := Kg6.out; have := NN9.out; have := NN10.out; have := NN11.out; have := Gg7.out; have := Kg7.out; have := NN12.out; have := NN13.out; have := NN14.out; have := NN15.out; have := NN16.out; omega)).trans Bg6.out); have n_Bg7 := Aside0.mk ((hF.same g7 (blk_lt Bg7.out) (by have := NN1.out; have := Gg1.out; have := Kg1.out; have := NN2.out; have := NN3.out; have := NN4.out; have := NN5.out; have := Gg4.out; have := Kg4.out; have := NN6.out; have := NN7.out; have := NN8.out; have := Gg6.out; have := Kg6.out; have := NN9.out; have := NN10.out; have := NN11.out; have := Gg7.out; have := Kg7.out; have := NN12.out; have := NN13.out; have := NN14.out; have := NN15.out; have := NN16.out; omega)).trans Bg7.out); have n_HB := Aside0.mk (hB'); have NN17 : Aside0 (w16.heap.size ≤ w17.heap.size) := ⟨hF.size⟩; clear hc6_0 hf6_0; clear hc6_1 hf6_1; clear U21 U22_0 U29_0 U43 Bg1 Bg4 Bg6 Bg7 HB; have U21 := n_U21; have U22_0 := n_U22_0; have U29_0 := n_U29_0; have U43 := n_U43; have Bg1 := n_Bg1; have Bg4 := n_Bg4; have Bg6 := n_Bg6; have Bg7 := n_Bg7; have HB := n_HB; clear n_U21 n_U22_0 n_U29_0 n_U43 n_Bg1 n_Bg4 n_Bg6 n_Bg7 n_HB; clear U26; have U26 := nu; clear nu hU hB' hF; have hc4_0 : w17.cell? ⟨g4, 0, none⟩ = some (.int .i64 s0) := (blk_cell Bg4.out 0).trans rfl; have hf4_0 := blk_frozen Bg4.out 0; have hc4_1 : w17.cell? ⟨g4, 1, none⟩ = some (.slice A22_0 s1.length c22_0) := (blk_cell Bg4.out 1).trans rfl; have hf4_1 := blk_frozen Bg4.out 1; have hc7_0 : w17.cell? ⟨g7, 0, none⟩ = some (.int .i64 s0) := (blk_cell Bg7.out 0).trans rfl; have hf7_0 := blk_frozen Bg7.out 0; have hc7_1 : w17.cell? ⟨g7, 1, none⟩ = some (.slice A29_0 s1.length c29_0) := (blk_cell Bg7.out 1).trans rfl; have hf7_1 := blk_frozen Bg7.out 1) | (go_at_call 26; refine (laws_eqCube.calls k s0 _ _ s1 s0 _ _ s1 true _ ?s1 ?s2 ?s3 ?s4 H6'.out).mono ?_; (case s1 => exact UR.C U29_0.out); (case s2 => exact UR.cap U29_0.out); (case s3 => exact UR.C U22_0.out); (case s4 => exact UR.cap U22_0.out); rintro e w18 ⟨rfl, hb⟩; have n_U21 := Aside0.mk (U21.out.mvB (Frm.below hb)); have n_U22_0 := Aside0.mk (U22_0.out.mvB (Frm.below hb)); have n_U26 := Aside0.mk (U26.out.mvB (Frm.below hb)); have n_U29_0 := Aside0.mk (U29_0.out.mvB (Frm.below hb)); have n_U43 := Aside0.mk (U43.out.mvB (Frm.below hb)); have n_Bg1 := Aside0.mk (blk_below Bg1.out hb); have n_Bg4 := Aside0.mk (blk_below Bg4.out hb); have n_Bg6 := Aside0.mk (blk_below Bg6.out hb); have n_Bg7 := Aside0.mk (blk_below Bg7.out hb); have n_HB := Aside0.mk (below_step HB.out hb); have NN18 : Aside0 (w17.heap.size ≤ w18.heap.size) := ⟨hb.size⟩; clear hc4_0 hf4_0; clear hc4_1 hf4_1; clear hc7_0 hf7_0; clear hc7_1 hf7_1; clear U21 U22_0 U26 U29_0 U43 Bg1 Bg4 Bg6 Bg7 HB; have U21 := n_U21; have U22_0 := n_U22_0; have U26 := n_U26; have U29_0 := n_U29_0; have U43 := n_U43; have Bg1 := n_Bg1; have Bg4 := n_Bg4; have Bg6 := n_Bg6; have Bg7 := n_Bg7; have HB := n_HB; clear n_U21 n_U22_0 n_U26 n_U29_0 n_U43 n_Bg1 n_Bg4 n_Bg6 n_Bg7 n_HB; clear hb; have hc7_0 : w18.cell? ⟨g7, 0, none⟩ = some (.int .i64 s0) := (blk_cell Bg7.out 0).trans rfl; have hf7_0 := blk_frozen Bg7.out 0; have hc7_1 : w18.cell? ⟨g7, 1, none⟩ = some (.slice A29_0 s1.length c29_0) := (blk_cell Bg7.out 1).trans rfl; have hf7_1 := blk_frozen Bg7.out 1) | ((with_reducible refine gate_callee (f := 27) rfl ?_); refine goesL_ (some 64) rfl rfl Try.func27 (by kernel_rfl) rfl #[.agg #[.int .i64 s0, .slice A29_0 s1.length c29_0], .int .i64 1] rfl (by (try simp only [List.map_toArray, List.map_cons, List.map_nil]); first | done | rfl) ?_; refine (mark_UC s0 A29_0 c29_0 s1 _ 1 m2 HB.out U29_0.out (by decide) H13'.out H12'.out).mono ?_; rintro e w19 ⟨rfl, hU, hB', hF⟩; refine ⟨_, rfl, ?_⟩; have nu := Aside0.mk hU; have n_U21 := Aside0.mk (U21.out.mv hF (by have := NN1.out; have := Gg1.out; have := Kg1.out; have := NN2.out; have := NN3.out; have := NN4.out; have := NN5.out; have := Gg4.out; have := Kg4.out; have := NN6.out; have := NN7.out; have := NN8.out; have := Gg6.out; have := Kg6.out; have := NN9.out; have := NN10.out; have := NN11.out; have := Gg7.out; have := Kg7.out; have := NN12.out; have := NN13.out; have := NN14.out; have := NN15.out; have := NN16.out; have := NN17.out; have := NN18.out; omega)); have n_U22_0 := Aside0.mk (U22_0.out.mv hF (by have := NN1.out; have := Gg1.out; have := Kg1.out; have := NN2.out; have := NN3.out; have := NN4.out; have := NN5.out; have := Gg4.out; have := Kg4.out; have := NN6.out; have := NN7.out; have := NN8.out; have := Gg6.out; have := Kg6.out; have := NN9.out; have := NN10.out; have := NN11.out; have := Gg7.out; have := Kg7.out; have := NN12.out; have := NN13.out; have := NN14.out; have := NN15.out; have := NN16.out; have := NN17.out; have := NN18.out; omega)); have n_U26 := Aside0.mk (U26.out.mv hF (by have := NN1.out; have := Gg1.out; have := Kg1.out; have := NN2.out; have := NN3.out; have := NN4.out; have := NN5.out; have := Gg4.out; have := Kg4.out; have := NN6.out; have := NN7.out; have := NN8.out; have := Gg6.out; have := Kg6.out; have := NN9.out; have := NN10.out; have := NN11.out; have := Gg7.out; have := Kg7.out; have := NN12.out; have := NN13.out; have := NN14.out; have := NN15.out; have := NN16.out; have := NN17.out; have := NN18.out; omega)); have n_U43 := Aside0.mk (U43.out.mv hF (by have := NN1.out; have := Gg1.out; have := Kg1.out; have := NN2.out; have := NN3.out; have := NN4.out; have := NN5.out; have := Gg4.out; have := Kg4.out; have := NN6.out; have := NN7.out; have := NN8.out; have := Gg6.out; have := Kg6.out; have := NN9.out; have := NN10.out; have := NN11.out; have := Gg7.out; have := Kg7.out; have := NN12.out; have := NN13.out; have := NN14.out; have := NN15.out; have := NN16.out; have := NN17.out; have := NN18.out; omega)); have n_Bg1 := Aside0.mk ((hF.same g1 (blk_lt Bg1.out) (by have := NN1.out; have := Gg1.out; have := Kg1.out; have := NN2.out; have := NN3.out; have := NN4.out; have := NN5.out; have := Gg4.out; have := Kg4.out; have := NN6.out; have := NN7.out; have := NN8.out; have := Gg6.out; have := Kg6.out; have := NN9.out; have := NN10.out; have := NN11.out; have := Gg7.out; have := Kg7.out; have := NN12.out; have := NN13.out; have := NN14.out; have := NN15.out; have := NN16.out; have := NN17.out; have := NN18.out; omega)).trans Bg1.out); have n_Bg4 := Aside0.mk ((hF.same g4 (blk_lt Bg4.out) (by have := NN1.out; have := Gg1.out; have := Kg1.out; have := NN2.out; have := NN3.out; have := NN4.out; have := NN5.out; have := Gg4.out; have := Kg4.out; have := NN6.out; have := NN7.out; have := NN8.out; have := Gg6.out; have := Kg6.out; have := NN9.out; have := NN10.out; have := NN11.out; have := Gg7.out; have := Kg7.out; have := NN12.out; have := NN13.out; have := NN14.out; have := NN15.out; have := NN16.out; have := NN17.out; have := NN18.out; omega)).trans Bg4.out); have n_Bg6 := Aside0.mk ((hF.same g6 (blk_lt Bg6.out) (by have := NN1.out; have := Gg1.out; have := Kg1.out; have := NN2.out; have := NN3.out; have := NN4.out; have := NN5.out; have := Gg4.out; have := Kg4.out; have := NN6.out; have := NN7.out; have := NN8.out; have := Gg6.out; have := Kg6.out; have := NN9.out; have := NN10.out; have := NN11.out; have := Gg7.out; have := Kg7.out; have := NN12.out; have := NN13.out; have := NN14.out; have := NN15.out; have := NN16.out; have := NN17.out; have := NN18.out; omega)).trans Bg6.out); have n_Bg7 := Aside0.mk ((hF.same g7 (blk_lt Bg7.out) (by have := NN1.out; have := Gg1.out; have := Kg1.out; have := NN2.out; have := NN3.out; have := NN4.out; have := NN5.out; have := Gg4.out; have := Kg4.out; have := NN6.out; have := NN7.out; have := NN8.out; have := Gg6.out; have := Kg6.out; have := NN9.out; have := NN10.out; have := NN11.out; have := Gg7.out; have := Kg7.out; have := NN12.out; have := NN13.out; have := NN14.out; have := NN15.out; have := NN16.out; have := NN17.out; have := NN18.out; omega)).trans Bg7.out); have n_HB := Aside0.mk (hB'); have NN19 : Aside0 (w18.heap.size ≤ w19.heap.size) := ⟨hF.size⟩; clear hc7_0 hf7_0; clear hc7_1 hf7_1; clear U21 U22_0 U26 U43 Bg1 Bg4 Bg6 Bg7 HB; have U21 := n_U21; have U22_0 := n_U22_0; have U26 := n_U26; have U43 := n_U43; have Bg1 := n_Bg1; have Bg4 := n_Bg4; have Bg6 := n_Bg6; have Bg7 := n_Bg7; have HB := n_HB; clear n_U21 n_U22_0 n_U26 n_U43 n_Bg1 n_Bg4 n_Bg6 n_Bg7 n_HB; clear U29_0; have U29_0 := nu; clear nu hU hB' hF; have hc7_0 : w19.cell? ⟨g7, 0, none⟩ = some (.int .i64 s0) := (blk_cell Bg7.out 0).trans rfl; have hf7_0 := blk_frozen Bg7.out 0; have hc7_1 : w19.cell? ⟨g7, 1, none⟩ = some (.slice A29_0 s1.length c29_0) := (blk_cell Bg7.out 1).trans rfl; have hf7_1 := blk_frozen Bg7.out 1) | ((with_reducible refine gate_callee (f := 28) rfl ?_); refine goesL_ (some 67) rfl rfl Try.func28 (by kernel_rfl) rfl #[.agg #[.int .i64 s0, .slice A29_0 s1.length c29_0], .int .i64 1] rfl (by (try simp only [List.map_toArray, List.map_cons, List.map_nil]); first | done | rfl) ?_; have hcall := laws_heldCube.calls k s0 _ _ ((count 1 s1.length)) 1 m2 _ (UR.C U29_0.out) (UR.cap U29_0.out) H15'.out; simp only [marks_length, count_length] at hcall; refine hcall.mono ?_; clear hcall; rintro e w20 ⟨rfl, hb⟩; refine ⟨_, rfl, ?_⟩; have n_U21 := Aside0.mk (U21.out.mvB (Frm.below hb)); have n_U22_0 := Aside0.mk (U22_0.out.mvB (Frm.below hb)); have n_U26 := Aside0.mk (U26.out.mvB (Frm.below hb)); have n_U29_0 := Aside0.mk (U29_0.out.mvB (Frm.below hb)); have n_U43 := Aside0.mk (U43.out.mvB (Frm.below hb)); have n_Bg1 := Aside0.mk (blk_below Bg1.out hb); have n_Bg4 := Aside0.mk (blk_below Bg4.out hb); have n_Bg6 := Aside0.mk (blk_below Bg6.out hb); have n_Bg7 := Aside0.mk (blk_below Bg7.out hb); have n_HB := Aside0.mk (below_step HB.out hb); have NN20 : Aside0 (w19.heap.size ≤ w20.heap.size) := ⟨hb.size⟩; clear hc7_0 hf7_0; clear hc7_1 hf7_1; clear U21 U22_0 U26 U29_0 U43 Bg1 Bg4 Bg6 Bg7 HB; have U21 := n_U21; have U22_0 := n_U22_0; have U26 := n_U26; have U29_0 := n_U29_0; have U43 := n_U43; have Bg1 := n_Bg1; have Bg4 := n_Bg4; have Bg6 := n_Bg6; have Bg7 := n_Bg7; have HB := n_HB; clear n_U21 n_U22_0 n_U26 n_U29_0 n_U43 n_Bg1 n_Bg4 n_Bg6 n_Bg7 n_HB; clear hb; have hc1_0 : w20.cell? ⟨g1, 0, none⟩ = some (.slice A0_0 l0_0.length c0_0) := (blk_cell Bg1.out 0).trans rfl; have hf1_0 := blk_frozen Bg1.out 0; have hc1_1 : w20.cell? ⟨g1, 1, none⟩ = some (.slice A0_1 l0_1.length c0_1) := (blk_cell Bg1.out 1).trans rfl; have hf1_1 := blk_frozen Bg1.out 1) | ((with_reducible refine gate_callee (f := 17) rfl ?_); refine goesL_ (some 75) rfl rfl Try.func17 (by kernel_rfl) rfl #[.agg #[.slice A0_0 l0_0.length c0_0, .slice A0_1 l0_1.length c0_1]] rfl (by (try simp only [List.map_toArray, List.map_cons, List.map_nil]); first | done | rfl) ?_; refine (laws_toProblem.calls k _ _ l0_0 _ _ l0_1 l0_0 l0_1 _ ?s1 ?s2 ?s3 ?s4 H3'.out).mono ?_; (case s1 => exact Kd.C_below HR0_0.out HB.out); (case s2 => exact HC0_0.out); (case s3 => exact Kd.C_below HR0_1.out HB.out); (case s4 => exact HC0_1.out); rintro e w21 ⟨v75_0, v75_1, rfl, ho0, ho1, hb⟩; refine ⟨_, rfl, ?_⟩; have nu0 := Aside0.mk (UP.of ho0 ho1 HB.out.size); have n_U21 := Aside0.mk (U21.out.mvB (Frm.below hb)); have n_U22_0 := Aside0.mk (U22_0.out.mvB (Frm.below hb)); have n_U26 := Aside0.mk (U26.out.mvB (Frm.below hb)); have n_U29_0 := Aside0.mk (U29_0.out.mvB (Frm.below hb)); have n_U43 := Aside0.mk (U43.out.mvB (Frm.below hb)); have n_Bg1 := Aside0.mk (blk_below Bg1.out hb); have n_Bg4 := Aside0.mk (blk_below Bg4.out hb); have n_Bg6 := Aside0.mk (blk_below Bg6.out hb); have n_Bg7 := Aside0.mk (blk_below Bg7.out hb); have n_HB := Aside0.mk (below_step HB.out hb); have NN21 : Aside0 (w20.heap.size ≤ w21.heap.size) := ⟨hb.size⟩; clear hc1_0 hf1_0; clear hc1_1 hf1_1; clear U21 U22_0 U26 U29_0 U43 Bg1 Bg4 Bg6 Bg7 HB; have U21 := n_U21; have U22_0 := n_U22_0; have U26 := n_U26; have U29_0 := n_U29_0; have U43 := n_U43; have Bg1 := n_Bg1; have Bg4 := n_Bg4; have Bg6 := n_Bg6; have Bg7 := n_Bg7; have HB := n_HB; clear n_U21 n_U22_0 n_U26 n_U29_0 n_U43 n_Bg1 n_Bg4 n_Bg6 n_Bg7 n_HB; clear hb ho0 ho1; have U75 := nu0; clear nu0; obtain ⟨A75_0, c75_0, A75_1, c75_1, e0, e1⟩ := U75.out.slices; subst e0; subst e1) | ((with_reducible refine gate_callee (f := 25) rfl ?_); refine goesL_ (some 76) rfl rfl Try.func25 (by kernel_rfl) rfl #[.agg #[.slice A75_0 l0_0.length c75_0, .slice A75_1 l0_1.length c75_1]] rfl (by (try simp only [List.map_toArray, List.map_cons, List.map_nil]); first | done | rfl) ?_; refine (impl_CubeOfProblem.calls k _ _ l0_0 _ _ l0_1 s0 s1 s2 _ ?s1 ?s2 ?s3 ?s4 H5'.out).mono ?_; (case s1 => exact U75.out.C0); (case s2 => exact U75.out.cap0); (case s3 => exact U75.out.C1); (case s4 => exact U75.out.cap1); rintro e w22 ⟨v76_0, rfl, ho0, hb⟩; refine ⟨_, rfl, ?_⟩; have nu0 := Aside0.mk (UR.of ho0 HB.out.size); have n_U21 := Aside0.mk (U21.out.mvB (Frm.below hb)); have n_U22_0 := Aside0.mk (U22_0.out.mvB (Frm.below hb)); have n_U26 := Aside0.mk (U26.out.mvB (Frm.below hb)); have n_U29_0 := Aside0.mk (U29_0.out.mvB (Frm.below hb)); have n_U43 := Aside0.mk (U43.out.mvB (Frm.below hb)); have n_U75 := Aside0.mk (U75.out.mvB (Frm.below hb)); have n_Bg1 := Aside0.mk (blk_below Bg1.out hb); have n_Bg4 := Aside0.mk (blk_below Bg4.out hb); have n_Bg6 := Aside0.mk (blk_below Bg6.out hb); have n_Bg7 := Aside0.mk (blk_below Bg7.out hb); have n_HB := Aside0.mk (below_step HB.out hb); have NN22 : Aside0 (w21.heap.size ≤ w22.heap.size) := ⟨hb.size⟩; clear U21 U22_0 U26 U29_0 U43 U75 Bg1 Bg4 Bg6 Bg7 HB; have U21 := n_U21; have U22_0 := n_U22_0; have U26 := n_U26; have U29_0 := n_U29_0; have U43 := n_U43; have U75 := n_U75; have Bg1 := n_Bg1; have Bg4 := n_Bg4; have Bg6 := n_Bg6; have Bg7 := n_Bg7; have HB := n_HB; clear n_U21 n_U22_0 n_U26 n_U29_0 n_U43 n_U75 n_Bg1 n_Bg4 n_Bg6 n_Bg7 n_HB; clear hb ho0; have U76_0 := nu0; clear nu0; obtain ⟨A76_0, c76_0, e0⟩ := Kd.R_slice U76_0.out; subst e0) | ((with_reducible refine gate_dst (N := 12) rfl ?_); refine box_event ?hg (N := 12) ?hd (cs := #[.int .i64 0, .slice none 0 0]) (t := 37) ?hr ?_; (case hd => rfl); (case hg => rfl); (case hr => first | (go_simp; done) | (go_simp; rfl)); intro g12 hg w23 hbox hb; have Gg12 : Aside0 (g12 = w22.heap.size) := ⟨hg⟩; have Kg12 := Aside0.mk (blk_lt hbox); clear hg; have n_U21 := Aside0.mk (U21.out.mvB (Frm.below hb)); have n_U22_0 := Aside0.mk (U22_0.out.mvB (Frm.below hb)); have n_U26 := Aside0.mk (U26.out.mvB (Frm.below hb)); have n_U29_0 := Aside0.mk (U29_0.out.mvB (Frm.below hb)); have n_U43 := Aside0.mk (U43.out.mvB (Frm.below hb)); have n_U75 := Aside0.mk (U75.out.mvB (Frm.below hb)); have n_U76_0 := Aside0.mk (U76_0.out.mvB (Frm.below hb)); have n_Bg1 := Aside0.mk (blk_below Bg1.out hb); have n_Bg4 := Aside0.mk (blk_below Bg4.out hb); have n_Bg6 := Aside0.mk (blk_below Bg6.out hb); have n_Bg7 := Aside0.mk (blk_below Bg7.out hb); have n_HB := Aside0.mk (below_step HB.out hb); have NN23 : Aside0 (w22.heap.size ≤ w23.heap.size) := ⟨hb.size⟩; clear U21 U22_0 U26 U29_0 U43 U75 U76_0 Bg1 Bg4 Bg6 Bg7 HB; have U21 := n_U21; have U22_0 := n_U22_0; have U26 := n_U26; have U29_0 := n_U29_0; have U43 := n_U43; have U75 := n_U75; have U76_0 := n_U76_0; have Bg1 := n_Bg1; have Bg4 := n_Bg4; have Bg6 := n_Bg6; have Bg7 := n_Bg7; have HB := n_HB; clear n_U21 n_U22_0 n_U26 n_U29_0 n_U43 n_U75 n_U76_0 n_Bg1 n_Bg4 n_Bg6 n_Bg7 n_HB; have Bg12 := Aside0.mk hbox; clear hb hbox; have hc12_0 : w23.cell? ⟨g12, 0, none⟩ = some (.int .i64 0) := (blk_cell Bg12.out 0).trans rfl; have hf12_0 := blk_frozen Bg12.out 0; have hc12_1 : w23.cell? ⟨g12, 1, none⟩ = some (.slice none 0 0) := (blk_cell Bg12.out 1).trans rfl; have hf12_1 := blk_frozen Bg12.out 1) | ((with_reducible refine gate_store (t := 37) (p := 12) rfl ?_); refine store_event (t := 37) (p := 12) (v := ?vo_w24) (w1 := ((w23.setCell ⟨g12, 0, none⟩ (.int .i64 s0)).setCell ⟨g12, 1, none⟩ (.slice A76_0 s1.length c76_0))) ?hg ?ho ?hn ?hr ?_; (case ho => rfl); (case hg => rfl); (case hn => rfl); (case hr => first | (go_simp; done) | (go_simp; rfl)); intro w24 hw; have hge : w.heap.size ≤ g12 := (by have := NN1.out; have := Gg1.out; have := Kg1.out; have := NN2.out; have := NN3.out; have := NN4.out; have := NN5.out; have := Gg4.out; have := Kg4.out; have := NN6.out; have := NN7.out; have := NN8.out; have := Gg6.out; have := Kg6.out; have := NN9.out; have := NN10.out; have := NN11.out; have := Gg7.out; have := Kg7.out; have := NN12.out; have := NN13.out; have := NN14.out; have := NN15.out; have := NN16.out; have := NN17.out; have := NN18.out; have := NN19.out; have := NN20.out; have := NN21.out; have := NN22.out; have := NN23.out; have := Gg12.out; have := Kg12.out; have := HB.out.size; omega); have hF : Frm w23 w24 g12 (g12 + 1) := (by rw [hw]; exact (Frm.trans (Frm.set _ _ _ _) (Frm.set _ _ _ _))); have nb := Aside0.mk (show w24.heap[g12]? = some (.cells #[.int .i64 s0, .slice A76_0 s1.length c76_0] 37 (0, 0)) from (by rw [hw]; exact (blk_put (blk_put Bg12.out 0 _ rfl) 1 _ rfl))); have n_U21 := Aside0.mk (U21.out.mv hF (by have := NN1.out; have := Gg1.out; have := Kg1.out; have := NN2.out; have := NN3.out; have := NN4.out; have := NN5.out; have := Gg4.out; have := Kg4.out; have := NN6.out; have := NN7.out; have := NN8.out; have := Gg6.out; have := Kg6.out; have := NN9.out; have := NN10.out; have := NN11.out; have := Gg7.out; have := Kg7.out; have := NN12.out; have := NN13.out; have := NN14.out; have := NN15.out; have := NN16.out; have := NN17.out; have := NN18.out; have := NN19.out; have := NN20.out; have := NN21.out; have := NN22.out; have := NN23.out; have := Gg12.out; have := Kg12.out; omega)); have n_U22_0 := Aside0.mk (U22_0.out.mv hF (by have := NN1.out; have := Gg1.out; have := Kg1.out; have := NN2.out; have := NN3.out; have := NN4.out; have := NN5.out; have := Gg4.out; have := Kg4.out; have := NN6.out; have := NN7.out; have := NN8.out; have := Gg6.out; have := Kg6.out; have := NN9.out; have := NN10.out; have := NN11.out; have := Gg7.out; have := Kg7.out; have := NN12.out; have := NN13.out; have := NN14.out; have := NN15.out; have := NN16.out; have := NN17.out; have := NN18.out; have := NN19.out; have := NN20.out; have := NN21.out; have := NN22.out; have := NN23.out; have := Gg12.out; have := Kg12.out; omega)); have n_U26 := Aside0.mk (U26.out.mv hF (by have := NN1.out; have := Gg1.out; have := Kg1.out; have := NN2.out; have := NN3.out; have := NN4.out; have := NN5.out; have := Gg4.out; have := Kg4.out; have := NN6.out; have := NN7.out; have := NN8.out; have := Gg6.out; have := Kg6.out; have := NN9.out; have := NN10.out; have := NN11.out; have := Gg7.out; have := Kg7.out; have := NN12.out; have := NN13.out; have := NN14.out; have := NN15.out; have := NN16.out; have := NN17.out; have := NN18.out; have := NN19.out; have := NN20.out; have := NN21.out; have := NN22.out; have := NN23.out; have := Gg12.out; have := Kg12.out; omega)); have n_U29_0 := Aside0.mk (U29_0.out.mv hF (by have := NN1.out; have := Gg1.out; have := Kg1.out; have := NN2.out; have := NN3.out; have := NN4.out; have := NN5.out; have := Gg4.out; have := Kg4.out; have := NN6.out; have := NN7.out; have := NN8.out; have := Gg6.out; have := Kg6.out; have := NN9.out; have := NN10.out; have := NN11.out; have := Gg7.out; have := Kg7.out; have := NN12.out; have := NN13.out; have := NN14.out; have := NN15.out; have := NN16.out; have := NN17.out; have := NN18.out; have := NN19.out; have := NN20.out; have := NN21.out; have := NN22.out; have := NN23.out; have := Gg12.out; have := Kg12.out; omega)); have n_U43 := Aside0.mk (U43.out.mv hF (by have := NN1.out; have := Gg1.out; have := Kg1.out; have := NN2.out; have := NN3.out; have := NN4.out; have := NN5.out; have := Gg4.out; have := Kg4.out; have := NN6.out; have := NN7.out; have := NN8.out; have := Gg6.out; have := Kg6.out; have := NN9.out; have := NN10.out; have := NN11.out; have := Gg7.out; have := Kg7.out; have := NN12.out; have := NN13.out; have := NN14.out; have := NN15.out; have := NN16.out; have := NN17.out; have := NN18.out; have := NN19.out; have := NN20.out; have := NN21.out; have := NN22.out; have := NN23.out; have := Gg12.out; have := Kg12.out; omega)); have n_U75 := Aside0.mk (U75.out.mv hF (by have := NN1.out; have := Gg1.out; have := Kg1.out; have := NN2.out; have := NN3.out; have := NN4.out; have := NN5.out; have := Gg4.out; have := Kg4.out; have := NN6.out; have := NN7.out; have := NN8.out; have := Gg6.out; have := Kg6.out; have := NN9.out; have := NN10.out; have := NN11.out; have := Gg7.out; have := Kg7.out; have := NN12.out; have := NN13.out; have := NN14.out; have := NN15.out; have := NN16.out; have := NN17.out; have := NN18.out; have := NN19.out; have := NN20.out; have := NN21.out; have := NN22.out; have := NN23.out; have := Gg12.out; have := Kg12.out; omega)); have n_U76_0 := Aside0.mk (U76_0.out.mv hF (by have := NN1.out; have := Gg1.out; have := Kg1.out; have := NN2.out; have := NN3.out; have := NN4.out; have := NN5.out; have := Gg4.out; have := Kg4.out; have := NN6.out; have := NN7.out; have := NN8.out; have := Gg6.out; have := Kg6.out; have := NN9.out; have := NN10.out; have := NN11.out; have := Gg7.out; have := Kg7.out; have := NN12.out; have := NN13.out; have := NN14.out; have := NN15.out; have := NN16.out; have := NN17.out; have := NN18.out; have := NN19.out; have := NN20.out; have := NN21.out; have := NN22.out; have := NN23.out; have := Gg12.out; have := Kg12.out; omega)); have n_Bg1 := Aside0.mk ((hF.same g1 (blk_lt Bg1.out) (by have := NN1.out; have := Gg1.out; have := Kg1.out; have := NN2.out; have := NN3.out; have := NN4.out; have := NN5.out; have := Gg4.out; have := Kg4.out; have := NN6.out; have := NN7.out; have := NN8.out; have := Gg6.out; have := Kg6.out; have := NN9.out; have := NN10.out; have := NN11.out; have := Gg7.out; have := Kg7.out; have := NN12.out; have := NN13.out; have := NN14.out; have := NN15.out; have := NN16.out; have := NN17.out; have := NN18.out; have := NN19.out; have := NN20.out; have := NN21.out; have := NN22.out; have := NN23.out; have := Gg12.out; have := Kg12.out; omega)).trans Bg1.out); have n_Bg4 := Aside0.mk ((hF.same g4 (blk_lt Bg4.out) (by have := NN1.out; have := Gg1.out; have := Kg1.out; have := NN2.out; have := NN3.out; have := NN4.out; have := NN5.out; have := Gg4.out; have := Kg4.out; have := NN6.out; have := NN7.out; have := NN8.out; have := Gg6.out; have := Kg6.out; have := NN9.out; have := NN10.out; have := NN11.out; have := Gg7.out; have := Kg7.out; have := NN12.out; have := NN13.out; have := NN14.out; have := NN15.out; have := NN16.out; have := NN17.out; have := NN18.out; have := NN19.out; have := NN20.out; have := NN21.out; have := NN22.out; have := NN23.out; have := Gg12.out; have := Kg12.out; omega)).trans Bg4.out); have n_Bg6 := Aside0.mk ((hF.same g6 (blk_lt Bg6.out) (by have := NN1.out; have := Gg1.out; have := Kg1.out; have := NN2.out; have := NN3.out; have := NN4.out; have := NN5.out; have := Gg4.out; have := Kg4.out; have := NN6.out; have := NN7.out; have := NN8.out; have := Gg6.out; have := Kg6.out; have := NN9.out; have := NN10.out; have := NN11.out; have := Gg7.out; have := Kg7.out; have := NN12.out; have := NN13.out; have := NN14.out; have := NN15.out; have := NN16.out; have := NN17.out; have := NN18.out; have := NN19.out; have := NN20.out; have := NN21.out; have := NN22.out; have := NN23.out; have := Gg12.out; have := Kg12.out; omega)).trans Bg6.out); have n_Bg7 := Aside0.mk ((hF.same g7 (blk_lt Bg7.out) (by have := NN1.out; have := Gg1.out; have := Kg1.out; have := NN2.out; have := NN3.out; have := NN4.out; have := NN5.out; have := Gg4.out; have := Kg4.out; have := NN6.out; have := NN7.out; have := NN8.out; have := Gg6.out; have := Kg6.out; have := NN9.out; have := NN10.out; have := NN11.out; have := Gg7.out; have := Kg7.out; have := NN12.out; have := NN13.out; have := NN14.out; have := NN15.out; have := NN16.out; have := NN17.out; have := NN18.out; have := NN19.out; have := NN20.out; have := NN21.out; have := NN22.out; have := NN23.out; have := Gg12.out; have := Kg12.out; omega)).trans Bg7.out); have n_HB := Aside0.mk ((by rw [hw]; exact (below_set (below_set HB.out hge) hge) : Below w.heap.size w w24)); have NN24 : Aside0 (w23.heap.size ≤ w24.heap.size) := ⟨hF.size⟩; clear hc12_0 hf12_0; clear hc12_1 hf12_1; clear U21 U22_0 U26 U29_0 U43 U75 U76_0 Bg1 Bg4 Bg6 Bg7 HB; have U21 := n_U21; have U22_0 := n_U22_0; have U26 := n_U26; have U29_0 := n_U29_0; have U43 := n_U43; have U75 := n_U75; have U76_0 := n_U76_0; have Bg1 := n_Bg1; have Bg4 := n_Bg4; have Bg6 := n_Bg6; have Bg7 := n_Bg7; have HB := n_HB; clear n_U21 n_U22_0 n_U26 n_U29_0 n_U43 n_U75 n_U76_0 n_Bg1 n_Bg4 n_Bg6 n_Bg7 n_HB; clear Bg12; have Bg12 := nb; clear nb hF hge hw; have hc4_0 : w24.cell? ⟨g4, 0, none⟩ = some (.int .i64 s0) := (blk_cell Bg4.out 0).trans rfl; have hf4_0 := blk_frozen Bg4.out 0; have hc4_1 : w24.cell? ⟨g4, 1, none⟩ = some (.slice A22_0 s1.length c22_0) := (blk_cell Bg4.out 1).trans rfl; have hf4_1 := blk_frozen Bg4.out 1; have hc12_0 : w24.cell? ⟨g12, 0, none⟩ = some (.int .i64 s0) := (blk_cell Bg12.out 0).trans rfl; have hf12_0 := blk_frozen Bg12.out 0; have hc12_1 : w24.cell? ⟨g12, 1, none⟩ = some (.slice A76_0 s1.length c76_0) := (blk_cell Bg12.out 1).trans rfl; have hf12_1 := blk_frozen Bg12.out 1) | ((with_reducible refine gate_callee (f := 26) rfl ?_); refine goesL_ (some 81) rfl rfl Try.func26 (by kernel_rfl) rfl #[.agg #[.int .i64 s0, .slice A76_0 s1.length c76_0], .agg #[.int .i64 s0, .slice A22_0 s1.length c22_0]] rfl (by (try simp only [List.map_toArray, List.map_cons, List.map_nil]); first | done | rfl) ?_; refine (laws_eqCube.calls k s0 _ _ s1 s0 _ _ s1 true _ ?s1 ?s2 ?s3 ?s4 H6'.out).mono ?_; (case s1 => exact UR.C U76_0.out); (case s2 => exact UR.cap U76_0.out); (case s3 => exact UR.C U22_0.out); (case s4 => exact UR.cap U22_0.out); rintro e w25 ⟨rfl, hb⟩; refine ⟨_, rfl, ?_⟩; have n_U21 := Aside0.mk (U21.out.mvB (Frm.below hb)); have n_U22_0 := Aside0.mk (U22_0.out.mvB (Frm.below hb)); have n_U26 := Aside0.mk (U26.out.mvB (Frm.below hb)); have n_U29_0 := Aside0.mk (U29_0.out.mvB (Frm.below hb)); have n_U43 := Aside0.mk (U43.out.mvB (Frm.below hb)); have n_U75 := Aside0.mk (U75.out.mvB (Frm.below hb)); have n_U76_0 := Aside0.mk (U76_0.out.mvB (Frm.below hb)); have n_Bg1 := Aside0.mk (blk_below Bg1.out hb); have n_Bg4 := Aside0.mk (blk_below Bg4.out hb); have n_Bg6 := Aside0.mk (blk_below Bg6.out hb); have n_Bg7 := Aside0.mk (blk_below Bg7.out hb); have n_Bg12 := Aside0.mk (blk_below Bg12.out hb); have n_HB := Aside0.mk (below_step HB.out hb); have NN25 : Aside0 (w24.heap.size ≤ w25.heap.size) := ⟨hb.size⟩; clear hc4_0 hf4_0; clear hc4_1 hf4_1; clear hc12_0 hf12_0; clear hc12_1 hf12_1; clear U21 U22_0 U26 U29_0 U43 U75 U76_0 Bg1 Bg4 Bg6 Bg7 Bg12 HB; have U21 := n_U21; have U22_0 := n_U22_0; have U26 := n_U26; have U29_0 := n_U29_0; have U43 := n_U43; have U75 := n_U75; have U76_0 := n_U76_0; have Bg1 := n_Bg1; have Bg4 := n_Bg4; have Bg6 := n_Bg6; have Bg7 := n_Bg7; have Bg12 := n_Bg12; have HB := n_HB; clear n_U21 n_U22_0 n_U26 n_U29_0 n_U43 n_U75 n_U76_0 n_Bg1 n_Bg4 n_Bg6 n_Bg7 n_Bg12 n_HB; clear hb; have hc7_0 : w25.cell? ⟨g7, 0, none⟩ = some (.int .i64 s0) := (blk_cell Bg7.out 0).trans rfl; have hf7_0 := blk_frozen Bg7.out 0; have hc7_1 : w25.cell? ⟨g7, 1, none⟩ = some (.slice A29_0 s1.length c29_0) := (blk_cell Bg7.out 1).trans rfl; have hf7_1 := blk_frozen Bg7.out 1) | ((with_reducible refine gate_callee (f := 28) rfl ?_); refine goesL_ (some 90) rfl rfl Try.func28 (by kernel_rfl) rfl #[.agg #[.int .i64 s0, .slice A29_0 s1.length c29_0], .int .i64 1] rfl (by (try simp only [List.map_toArray, List.map_cons, List.map_nil]); first | done | rfl) ?_; have hcall := laws_heldCube.calls k s0 _ _ ((count 1 s1.length)) 1 m2 _ (UR.C U29_0.out) (UR.cap U29_0.out) H15'.out; simp only [marks_length, count_length] at hcall; refine hcall.mono ?_; clear hcall; rintro e w26 ⟨rfl, hb⟩; refine ⟨_, rfl, ?_⟩; have n_U21 := Aside0.mk (U21.out.mvB (Frm.below hb)); have n_U22_0 := Aside0.mk (U22_0.out.mvB (Frm.below hb)); have n_U26 := Aside0.mk (U26.out.mvB (Frm.below hb)); have n_U29_0 := Aside0.mk (U29_0.out.mvB (Frm.below hb)); have n_U43 := Aside0.mk (U43.out.mvB (Frm.below hb)); have n_U75 := Aside0.mk (U75.out.mvB (Frm.below hb)); have n_U76_0 := Aside0.mk (U76_0.out.mvB (Frm.below hb)); have n_Bg1 := Aside0.mk (blk_below Bg1.out hb); have n_Bg4 := Aside0.mk (blk_below Bg4.out hb); have n_Bg6 := Aside0.mk (blk_below Bg6.out hb); have n_Bg7 := Aside0.mk (blk_below Bg7.out hb); have n_Bg12 := Aside0.mk (blk_below Bg12.out hb); have n_HB := Aside0.mk (below_step HB.out hb); have NN26 : Aside0 (w25.heap.size ≤ w26.heap.size) := ⟨hb.size⟩; clear hc7_0 hf7_0; clear hc7_1 hf7_1; clear U21 U22_0 U26 U29_0 U43 U75 U76_0 Bg1 Bg4 Bg6 Bg7 Bg12 HB; have U21 := n_U21; have U22_0 := n_U22_0; have U26 := n_U26; have U29_0 := n_U29_0; have U43 := n_U43; have U75 := n_U75; have U76_0 := n_U76_0; have Bg1 := n_Bg1; have Bg4 := n_Bg4; have Bg6 := n_Bg6; have Bg7 := n_Bg7; have Bg12 := n_Bg12; have HB := n_HB; clear n_U21 n_U22_0 n_U26 n_U29_0 n_U43 n_U75 n_U76_0 n_Bg1 n_Bg4 n_Bg6 n_Bg7 n_Bg12 n_HB; clear hb))
 go_ret
 exact ⟨rfl, HB.out⟩
theorem laws_FnExactCubeOfProblem.small0 (k : Nat) (A0_0 : Option Addr) (c0_0 : Nat) (l0_0 : List (List Int)) (A0_1 : Option Addr) (c0_1 : Nat) (l0_1 : List Int) (t16 : Int) (w : World) (hr0_0 : Kd.C (Kd.slice 2 (Kd.int .i64)) w A0_0 l0_0.length l0_0) (hc0_0 : l0_0.length ≤ c0_0) (hr0_1 : Kd.C (Kd.int .i64) w A0_1 l0_1.length l0_1) (hc0_1 : l0_1.length ≤ c0_1) (h1 : laws_szProblem.f k l0_0 l0_1 1048576 = some t16) (h2 : t16 < 0) :
  Calls Try.prog 4 #[.agg #[.slice A0_0 l0_0.length c0_0, .slice A0_1 l0_1.length c0_1]] w fun e w' => e = .returned (.bool true) ∧ Below w.heap.size w w' := by
 have HR0_0 := Aside0.mk hr0_0
 have HC0_0 := Aside0.mk hc0_0
 clear hr0_0 hc0_0
 have HR0_1 := Aside0.mk hr0_1
 have HC0_1 := Aside0.mk hc0_1
 clear hr0_1 hc0_1
 have HB := Aside0.mk (Below.refl w.heap.size w)
 have H1' := Aside0.mk h1
 clear h1
 go_enter Try.func4, Try.ntmps4
 go_wp2_with (first | ((with_reducible refine gate_dst (N := 1) rfl ?_); refine box_event ?hg (N := 1) ?hd (cs := #[.slice A0_0 l0_0.length c0_0, .slice A0_1 l0_1.length c0_1]) (t := 25) ?hr ?_; (case hd => rfl); (case hg => rfl); (case hr => first | (go_simp; done) | (go_simp; rfl)); intro g1 hg w1 hbox hb; have Gg1 : Aside0 (g1 = w.heap.size) := ⟨hg⟩; have Kg1 := Aside0.mk (blk_lt hbox); clear hg; have n_HB := Aside0.mk (below_step HB.out hb); have NN1 : Aside0 (w.heap.size ≤ w1.heap.size) := ⟨hb.size⟩; clear HB; have HB := n_HB; clear n_HB; have Bg1 := Aside0.mk hbox; clear hb hbox; have hc1_0 : w1.cell? ⟨g1, 0, none⟩ = some (.slice A0_0 l0_0.length c0_0) := (blk_cell Bg1.out 0).trans rfl; have hf1_0 := blk_frozen Bg1.out 0; have hc1_1 : w1.cell? ⟨g1, 1, none⟩ = some (.slice A0_1 l0_1.length c0_1) := (blk_cell Bg1.out 1).trans rfl; have hf1_1 := blk_frozen Bg1.out 1) | ((with_reducible refine gate_callee (f := 15) rfl ?_); refine goesL_ (some 16) rfl rfl Try.func15 (by kernel_rfl) rfl #[.agg #[.slice A0_0 l0_0.length c0_0, .slice A0_1 l0_1.length c0_1], .int .i64 1048576] rfl (by (try simp only [List.map_toArray, List.map_cons, List.map_nil]); first | done | rfl) ?_; refine (laws_szProblem.calls k _ _ l0_0 _ _ l0_1 1048576 t16 _ ?s1 ?s2 ?s3 ?s4 H1'.out).mono ?_; (case s1 => exact Kd.C_below HR0_0.out HB.out); (case s2 => exact HC0_0.out); (case s3 => exact Kd.C_below HR0_1.out HB.out); (case s4 => exact HC0_1.out); rintro e w2 ⟨rfl, hb⟩; refine ⟨_, rfl, ?_⟩; have n_Bg1 := Aside0.mk (blk_below Bg1.out hb); have n_HB := Aside0.mk (below_step HB.out hb); have NN2 : Aside0 (w1.heap.size ≤ w2.heap.size) := ⟨hb.size⟩; clear hc1_0 hf1_0; clear hc1_1 hf1_1; clear Bg1 HB; have Bg1 := n_Bg1; have HB := n_HB; clear n_Bg1 n_HB; clear hb; have hc1_0 : w2.cell? ⟨g1, 0, none⟩ = some (.slice A0_0 l0_0.length c0_0) := (blk_cell Bg1.out 0).trans rfl; have hf1_0 := blk_frozen Bg1.out 0; have hc1_1 : w2.cell? ⟨g1, 1, none⟩ = some (.slice A0_1 l0_1.length c0_1) := (blk_cell Bg1.out 1).trans rfl; have hf1_1 := blk_frozen Bg1.out 1))
 go_ret
 exact ⟨rfl, HB.out⟩
def laws_FnExactCubeOfProblem.ok_walk (k : Nat) (l0_0 : List (List Int)) (l0_1 : List Int) : Prop := ∃ (t16 : Int) (s0 : Int) (s1 : List Int) (s2 : Int) (m1 : Int) (m2 : Int), (laws_szProblem.f k l0_0 l0_1 1048576 = some t16) ∧ (¬ t16 < 0) ∧ (laws_toProblem.f k l0_0 l0_1 = some (l0_0, l0_1)) ∧ (spec_CubeOfProblem.f k l0_0 l0_1 = some (s0, s1, s2)) ∧ (impl_CubeOfProblem.f k l0_0 l0_1 = some (s0, s1, s2)) ∧ (laws_eqCube.f k s0 s1 s0 s1 = some true) ∧ (laws_eqProblem.f k l0_0 l0_1 l0_0 l0_1 = some true) ∧ (m1 = 1 + (lens l0_0 : Int) + (l0_1.length : Int)) ∧ (1 + (lens l0_0 : Int) + (l0_1.length : Int) ≤ 1099511627776) ∧ (l0_0.length ≤ 1099511627776) ∧ (¬ m1 < 0) ∧ (m2 = 1 + (s1.length : Int)) ∧ (1 + (s1.length : Int) ≤ 1099511627776) ∧ (¬ m2 < 0) ∧ (laws_heldCube.f k s0 ((count 1 s1.length)) 1 = some m2)
def laws_FnExactCubeOfProblem.ok_small0 (k : Nat) (l0_0 : List (List Int)) (l0_1 : List Int) : Prop := ∃ (t16 : Int), (laws_szProblem.f k l0_0 l0_1 1048576 = some t16) ∧ (t16 < 0)
open Classical in
noncomputable def laws_FnExactCubeOfProblem.f (k : Nat) (l0_0 : List (List Int)) (l0_1 : List Int) : Option Bool := if laws_FnExactCubeOfProblem.ok_walk k l0_0 l0_1 ∨ laws_FnExactCubeOfProblem.ok_small0 k l0_0 l0_1 then some true else none
theorem laws_FnExactCubeOfProblem.calls (k : Nat) (A0_0 : Option Addr) (c0_0 : Nat) (l0_0 : List (List Int)) (A0_1 : Option Addr) (c0_1 : Nat) (l0_1 : List Int) (r : Bool) (w : World) (hr0_0 : Kd.C (Kd.slice 2 (Kd.int .i64)) w A0_0 l0_0.length l0_0) (hc0_0 : l0_0.length ≤ c0_0) (hr0_1 : Kd.C (Kd.int .i64) w A0_1 l0_1.length l0_1) (hc0_1 : l0_1.length ≤ c0_1) (h : laws_FnExactCubeOfProblem.f k l0_0 l0_1 = some r) :
  Calls Try.prog 4 #[.agg #[.slice A0_0 l0_0.length c0_0, .slice A0_1 l0_1.length c0_1]] w fun e w' => e = .returned (.bool r) ∧ Below w.heap.size w w' := by
 unfold laws_FnExactCubeOfProblem.f at h
 split at h
 case isFalse => cases h
 rename_i hok
 cases h
 rcases hok with ⟨t16, s0, s1, s2, m1, m2, h1, h2, h3, h4, h5, h6, h7, h8, h9, h10, h11, h12, h13, h14, h15⟩ | ⟨t16, h1, h2⟩
 ·exact laws_FnExactCubeOfProblem.walk k A0_0 c0_0 l0_0 A0_1 c0_1 l0_1 t16 s0 s1 s2 m1 m2 w hr0_0 hc0_0 hr0_1 hc0_1 h1 h2 h3 h4 h5 h6 h7 h8 h9 h10 h11 h12 h13 h14 h15
 ·exact laws_FnExactCubeOfProblem.small0 k A0_0 c0_0 l0_0 A0_1 c0_1 l0_1 t16 w hr0_0 hc0_0 hr0_1 hc0_1 h1 h2
end Go.Proofs.Ythdoilfjcgickaa.Pr
end
section
namespace Go.Proofs.Ythdoilfjcgickaa.Say
open Go.Proofs.Ythdoilfjcgickaa.Op Go.Proofs.Ythdoilfjcgickaa.Pr
def FnExactCubeOfProblem : Prop := ∀ (l0_0 : List (List Int)) (l0_1 : List Int), GoodList (GoodList (GoodInt .i64)) l0_0 → GoodList (GoodInt .i64) l0_1 → ∃ k, laws_FnExactCubeOfProblem.f k l0_0 l0_1 = some true
end Go.Proofs.Ythdoilfjcgickaa.Say
end
section
namespace Go.Proofs.Ythdoilfjcgickaa.Bz
open Go.RowKit Go.Proofs.YthdoilfjcgickaaW.PrintWords Go.Proofs.YthdoilfjcgickaaW.PrintMore Go.Proofs.Ythdoilfjcgickaa.Ma Go.Proofs.Ythdoilfjcgickaa.Dt Go.Proofs.Ythdoilfjcgickaa.Bd
theorem det_scal (L : Int) : ∀ n, det n (fun a b => if a = b then L else 0) = L ^ n := by
 intro n
 induction n with
 | zero => simp [det]
 | succ n ih =>
  rw [det_succ, sm_one (k := 0) (by omega) (fun i _ h => by rw [if_neg (by omega)]; simp)]
  rw [det_congr (A := mnr 0 (fun a b => if a = b then L else 0)) (B := fun a b => if a = b then L else 0) (fun i j _ _ => by simp [mnr, up]), ih]
  rw [if_pos rfl, Int.pow_succ, show sg 0 = 1 from rfl]
  grind
theorem det_zero_col {n c : Nat} (hc : c < n) {A : Mat} (h : ∀ i, i < n → A i c = 0) : det n A = 0 := by
 have := det_col_lin (A := A) (B := A) (C := A) (s := 0) (t := 0) hc (fun i hi => by rw [h i hi]; simp) (fun i j _ _ _ => ⟨rfl, rfl⟩)
 simpa using this
theorem det_1 (A : Mat) : det 1 A = A 0 0 := by simp [det, sm, sg]
theorem det_2 (A : Mat) : det 2 A = A 0 0 * A 1 1 - A 0 1 * A 1 0 := by
 simp [det, sm, sg, mnr, up]
 omega
def rs (i : Nat) (A : Mat) (r c : Nat) : Int := det i A * A r c - sm i (fun t => det i (rset t (A r) A) * A t c)
theorem rs_zero (i : Nat) (A : Mat) (r : Nat) {j : Nat} (hj : j < i) : rs i A r j = 0 := by
 unfold rs
 rw [adj_row A (A r) hj]; omega
theorem block_elim (i d : Nat) (A : Mat) : det i A ^ d * det (i + d) A = det i A * det d (fun a b => rs i A (i + a) (i + b)) := by
 let E : Mat := fun a b => if a < i then one a b else if b < i then - det i (rset b (A a) A) else if a = b then det i A else 0
 have hE : det (i + d) E = det i A ^ d := by
  rw [det_block d i E (fun a b ha hb _ => by simp only [E, if_pos ha, one]; rw [if_neg (by omega)])]
  rw [det_congr (A := E) (B := one) (fun a b ha _ => by simp only [E, if_pos ha]), det_one, Int.one_mul, ← det_scal]
  exact det_congr (fun a b _ _ => by simp only [sh, E]; rw [if_neg (by omega), if_neg (by omega)]; simp)
 have hlow (a b : Nat) (ha : i ≤ a) (ha2 : a < i + d) : mul (i + d) E A a b = rs i A a b := by
  unfold mul
  rw [sm_split, sm_congr (f := fun k => E a k * A k b) (g := fun k => (-1) * (det i (rset k (A a) A) * A k b)) (fun k hk => by simp only [E]; rw [if_neg (by omega), if_pos hk]; grind), sm_mul]
  rw [sm_one (n := d) (k := a - i) (by omega) (fun k hk hne => by simp only [E]; rw [if_neg (by omega), if_neg (by omega), if_neg (by omega)]; simp)]
  simp only [E]
  rw [if_neg (by omega), if_neg (by omega), if_pos (by omega), show i + (a - i) = a from by omega]
  unfold rs
  omega
 have hup (a b : Nat) (ha : a < i) : mul (i + d) E A a b = A a b := by
  unfold mul
  rw [sm_one (k := a) (by omega) (fun k hk hne => by simp only [E, if_pos ha, one]; rw [if_neg (by omega)]; simp)]
  simp [E, ha, one]
 rw [← hE, ← det_mul, det_block' d i (mul (i + d) E A) (fun a b h1 h2 h3 => by rw [hlow a b h1 h2, rs_zero i A a h3])]
 rw [det_congr (A := mul (i + d) E A) (B := A) (fun a b ha _ => hup a b ha)]
 congr 1
 exact det_congr (fun a b ha _ => by simp only [sh]; exact hlow _ _ (by omega) (by omega))
def bord (i r c : Nat) (A : Mat) : Mat := fun a b => A (if a < i then a else r) (if b < i then b else c)
def bm (i r c : Nat) (A : Mat) : Int := det (i + 1) (bord i r c A)
theorem rs_re (i : Nat) (A B : Mat) (r c r' c' : Nat) (h1 : ∀ a b, a < i → b < i → B a b = A a b) (h2 : ∀ b, b < i → B r' b = A r b) (h3 : ∀ a, a < i → B a c' = A a c) (h4 : B r' c' = A r c) : rs i B r' c' = rs i A r c := by
 unfold rs
 rw [det_congr (A := B) (B := A) h1, h4]
 congr 1
 refine sm_congr (fun t ht => ?_)
 rw [h3 t ht, det_congr (A := rset t (B r') B) (B := rset t (A r) A) (fun a b ha hb => by
  unfold rset
  split
  ·exact h2 b hb
  ·exact h1 a b ha hb)]
theorem bm_rs {i : Nat} {A : Mat} (hL : det i A ≠ 0) (r c : Nat) : bm i r c A = rs i A r c := by
 have h := block_elim i 1 (bord i r c A)
 rw [det_1, det_congr (A := bord i r c A) (B := A) (n := i) (fun a b ha hb => by simp [bord, ha, hb]), Int.pow_succ, Int.pow_zero, Int.one_mul] at h
 rw [rs_re i A (bord i r c A) r c (i + 0) (i + 0) (fun a b ha hb => by simp [bord, ha, hb]) (fun b hb => by simp [bord, hb]) (fun a ha => by simp [bord, ha]) (by simp [bord])] at h
 exact Int.eq_of_mul_eq_mul_left hL h
theorem sylv {i : Nat} {A : Mat} (hL : det i A ≠ 0) (r c : Nat) : det i A * bm (i + 1) r c A = bm i i i A * bm i r c A - bm i i c A * bm i r i A := by
 have h := block_elim i 2 (bord (i + 1) r c A)
 rw [det_2, det_congr (A := bord (i + 1) r c A) (B := A) (n := i) (fun a b ha hb => by unfold bord; rw [if_pos (by omega), if_pos (by omega)])] at h
 have q (a b r' c' : Nat) (ha : (if a < i + 1 then a else r) = r') (hb : (if b < i + 1 then b else c) = c') : rs i (bord (i + 1) r c A) a b = rs i A r' c' :=
  rs_re i A (bord (i + 1) r c A) r' c' a b (fun x y hx hy => by unfold bord; rw [if_pos (by omega), if_pos (by omega)]) (fun y hy => by unfold bord; rw [ha, if_pos (by omega)]) (fun x hx => by unfold bord; rw [hb, if_pos (by omega)]) (by unfold bord; rw [ha, hb])
 rw [q (i + 0) (i + 0) i i (by simp) (by simp), q (i + 1) (i + 1) r c (by simp) (by simp), q (i + 0) (i + 1) i c (by simp) (by simp), q (i + 1) (i + 0) r i (by simp) (by simp)] at h
 rw [← bm_rs hL, ← bm_rs hL, ← bm_rs hL, ← bm_rs hL] at h
 have e : det i A ^ 2 * det (i + 2) (bord (i + 1) r c A) = det i A * (det i A * bm (i + 1) r c A) := by unfold bm; grind
 rw [e] at h
 exact Int.eq_of_mul_eq_mul_left hL h
def fact : Nat → Nat
 | 0 => 1
 | n + 1 => (n + 1) * fact n
def b20 (n : Nat) : Nat := fact n * 20 ^ n
theorem sm_abs {n B : Nat} {f : Nat → Int} (h : ∀ i, i < n → (f i).natAbs ≤ B) : (sm n f).natAbs ≤ n * B := by
 induction n with
 | zero => simp [sm]
 | succ n ih =>
  have h1 := ih (fun i hi => h i (by omega))
  have h2 := h n (by omega)
  have h3 := Int.natAbs_add_le (sm n f) (f n)
  simp only [sm]
  rw [Nat.add_mul, Nat.one_mul]
  omega
theorem sg_abs (k : Nat) : (sg k).natAbs = 1 := by unfold sg; split <;> rfl
theorem det_abs20 : ∀ (n : Nat) (A : Mat), (∀ i j, i < n → j < n → (A i j).natAbs ≤ 20) → (det n A).natAbs ≤ b20 n := by
 intro n
 induction n with
 | zero => intro A _; show (1 : Int).natAbs ≤ 1; decide
 | succ n ih =>
  intro A h
  rw [det_succ]
  refine Nat.le_trans (sm_abs (B := 20 * b20 n) (fun k hk => ?_)) ?_
  ·rw [Int.natAbs_mul, Int.natAbs_mul, sg_abs, Nat.one_mul]
   exact Nat.mul_le_mul (h 0 k (by omega) hk) (ih (mnr k A) (fun i j hi hj => h _ _ (by omega) (up_lt hj)))
  ·unfold b20; rw [fact, Nat.pow_succ]
   exact Nat.le_of_eq (by grind)
def Bk (n k : Nat) (A : Mat) : Prop := ∀ i j, i < n → j < n → (A i j).natAbs ≤ if j = k then 100 else 20
theorem det_absk : ∀ (n k : Nat) (A : Mat), Bk n k A → (det n A).natAbs ≤ 5 * b20 n := by
 intro n
 induction n with
 | zero => intro k A _; show (1 : Int).natAbs ≤ 5 * 1; decide
 | succ n ih =>
  intro k A h
  rw [det_succ]
  refine Nat.le_trans (sm_abs (B := 100 * b20 n) (fun c hc => ?_)) ?_
  ·rw [Int.natAbs_mul, Int.natAbs_mul, sg_abs, Nat.one_mul]
   have h0 := h 0 c (by omega) hc
   by_cases e : c = k
   ·subst e
    rw [if_pos rfl] at h0
    exact Nat.mul_le_mul h0 (det_abs20 n (mnr c A) (fun i j hi hj => by have := h (i + 1) (up c j) (by omega) (up_lt hj); rwa [if_neg (up_ne c j)] at this))
   ·rw [if_neg e] at h0
    have := ih (dn c k) (mnr c A) (fun i j hi hj => by
     have := h (i + 1) (up c j) (by omega) (up_lt hj)
     unfold mnr
     by_cases q : up c j = k
     ·rw [if_pos q] at this
      rw [if_pos (by rw [← q, dn_up])]; exact this
     ·rw [if_neg q] at this
      split <;> omega)
    calc (A 0 c).natAbs * (det n (mnr c A)).natAbs ≤ 20 * (5 * b20 n) := Nat.mul_le_mul h0 this
     _ = 100 * b20 n := by omega
  ·unfold b20; rw [fact, Nat.pow_succ]
   exact Nat.le_of_eq (by grind)
theorem b20_le : ∀ n, n ≤ 5 → 5 * b20 n ≤ 1920000000 := by
 intro n h
 match n, h with
 | 0, _ => decide
 | 1, _ => decide
 | 2, _ => decide
 | 3, _ => decide
 | 4, _ => decide
 | 5, _ => decide
 | n + 6, h => omega
theorem bm_abs {n k : Nat} (hn : n ≤ 5) {A : Mat} (h : Bk n k A) {i r c : Nat} (hi : i < n) (hr : r < n) (hic : i ≤ c) (hc : c < n) : -1920000000 ≤ bm i r c A ∧ bm i r c A ≤ 1920000000 := by
 have h1 : (bm i r c A).natAbs ≤ 5 * b20 (i + 1) := det_absk (i + 1) (if k < i then k else i) _ (fun a b ha hb => by
  unfold bord
  have := h (if a < i then a else r) (if b < i then b else c) (by split <;> omega) (by split <;> omega)
  refine Nat.le_trans this ?_
  grind)
 have h2 := b20_le (i + 1) (by omega)
 omega
theorem prod_b {x y : Int} (hx : -1920000000 ≤ x ∧ x ≤ 1920000000) (hy : -1920000000 ≤ y ∧ y ≤ 1920000000) : -3686400000000000000 ≤ x * y ∧ x * y ≤ 3686400000000000000 := by
 have h : (x * y).natAbs ≤ 1920000000 * 1920000000 := by rw [Int.natAbs_mul]; exact Nat.mul_le_mul (by omega) (by omega)
 omega
structure Inv (n k i : Nat) (M : Mat) (last turn : Int) (A A0 : Mat) : Prop where
 le : i ≤ n
 small : Bk n k A
 num : ∀ r c, i ≤ r → r < n → i ≤ c → c < n → M r c = bm i r c A
 last_ : last = det i A
 nz : last ≠ 0
 turn_ : turn = 1 ∨ turn = -1
 det_ : turn * det n A = det n A0
section
variable {n k : Nat} (hn : n ≤ 5) {A0 : Mat}
include hn
theorem Inv.step {i : Nat} {M A : Mat} {last turn : Int} (h : Inv n k i M last turn A A0) (hi : i < n) (hp : M i i ≠ 0) : Inv n k (i + 1) (el M i last) (M i i) turn A A0 := by
 have hL : det i A ≠ 0 := by rw [← h.last_]; exact h.nz
 have hpi := h.num i i (Nat.le_refl _) hi (Nat.le_refl _) hi
 refine ⟨by omega, h.small, fun r c hr hrn hc hcn => ?_, ?_, hp, h.turn_, h.det_⟩
 ·unfold el ev
  rw [if_pos (by omega), h.num r c (by omega) hrn (by omega) hcn, hpi, h.num r i (by omega) hrn (Nat.le_refl _) hi, h.num i c (Nat.le_refl _) hi (by omega) hcn]
  have p1 := prod_b (bm_abs hn h.small hi hrn (by omega) hcn) (bm_abs hn h.small hi hi (Nat.le_refl _) hi)
  have p2 := prod_b (bm_abs hn h.small hi hrn (Nat.le_refl _) hi) (bm_abs hn h.small hi hi (by omega) hcn)
  have s := sylv hL r c
  have e : bm i r c A * bm i i i A - bm i r i A * bm i i c A = det i A * bm (i + 1) r c A := by rw [s]; grind
  have b := bm_abs hn h.small (i := i + 1) (r := r) (c := c) (by omega) hrn hc hcn
  rw [w64 (x := bm i r c A * bm i i i A) (by omega) (by omega), w64 (x := bm i r i A * bm i i c A) (by omega) (by omega), w64 (x := bm i r c A * bm i i i A - bm i r i A * bm i i c A) (by omega) (by omega), e, h.last_, Int.mul_tdiv_cancel_left _ hL]
  exact w64 (by omega) (by omega)
 ·rw [hpi]; unfold bm
  exact det_congr (fun a b ha hb => by
   unfold bord
   have e1 : (if a < i then a else i) = a := by split <;> omega
   have e2 : (if b < i then b else i) = b := by split <;> omega
   rw [e1, e2])
theorem Inv.none_ {i : Nat} {M A : Mat} {last turn : Int} (h : Inv n k i M last turn A A0) (hi : i < n) (hz : ∀ r, i ≤ r → r < n → M r i = 0) : det n A0 = 0 := by
 have _h := hn
 have hL : det i A ≠ 0 := by rw [← h.last_]; exact h.nz
 have b := block_elim i (n - i) A
 rw [show i + (n - i) = n from by omega, det_zero_col (c := 0) (A := fun a b => rs i A (i + a) (i + b)) (by omega) (fun a ha => by
  rw [← bm_rs hL, Nat.add_zero, ← h.num (i + a) i (by omega) (by omega) (Nat.le_refl _) hi]; exact hz _ (by omega) (by omega)), Int.mul_zero] at b
 have : det n A = 0 := by
  rcases Int.mul_eq_zero.1 b with b | b
  ·exact absurd b (Int.pow_ne_zero hL)
  ·exact b
 rw [← h.det_, this, Int.mul_zero]
theorem Inv.swap {i s : Nat} {M A : Mat} {last turn : Int} (h : Inv n k i M last turn A A0) (his : i < s) (hs : s < n) : Inv n k i (swp M i s) last (wrap64 (-turn)) (swp A i s) A0 := by
 have _h := hn
 have hsr (r : Nat) (hr : r < n) : (if r = i then s else if r = s then i else r) < n := by grind
 have hlow (a : Nat) (ha : a < i) : (if a = i then s else if a = s then i else a) = a := by rw [if_neg (by omega), if_neg (by omega)]
 have w : wrap64 (-turn) = -turn := w64 (by have := h.turn_; omega) (by have := h.turn_; omega)
 refine ⟨h.le, fun a b ha hb => h.small _ _ (hsr a ha) hb, fun r c hr hrn hc hcn => ?_, ?_, h.nz, by rw [w]; have := h.turn_; omega, ?_⟩
 ·unfold swp
  rw [h.num _ c (by grind) (hsr r hrn) hc hcn]
  unfold bm
  refine det_congr (fun a b _ _ => ?_)
  unfold bord
  by_cases ha : a < i
  ·simp only [if_pos ha]; rw [hlow a ha]
  ·simp only [if_neg ha]
 ·rw [h.last_]
  exact det_congr (fun a b ha _ => by unfold swp; rw [hlow a ha])
 ·have e := (det_form n).swap (r := i) (q := s) (A := A) (B := swp A i s) (by omega) hs (by omega) (fun j _ => ⟨by unfold swp; rw [if_pos rfl], by unfold swp; rw [if_neg (by omega), if_pos rfl]⟩) (fun a b _ _ h1 h2 => by unfold swp; rw [if_neg h1, if_neg h2])
  rw [e, w, ← h.det_]
  grind
theorem dgo_inv : ∀ (q i : Nat), i + q = n → ∀ (M A : Mat) (last turn : Int), Inv n k i M last turn A A0 → dgo n q i M last turn = det n A0 := by
 intro q
 induction q with
 | zero =>
  intro i hi M A last turn h
  obtain rfl : i = n := by omega
  show wrap64 (turn * last) = _
  rw [h.last_, h.det_]
  have b := det_absk i k A h.small
  have b2 := b20_le i hn
  have t := h.turn_
  have e := h.det_
  have : (det i A0).natAbs = (det i A).natAbs := by
   rw [← e, Int.natAbs_mul]
   rcases t with t | t <;> rw [t] <;> simp
  exact w64 (by omega) (by omega)
 | succ q ih =>
  intro i hi M A last turn h
  unfold dgo
  cases hf : fnd M i (n - i) 0 with
  | none =>
   have hz := fnd_none hf
   exact (h.none_ hn (by omega) (fun r h1 h2 => by have := hz (r - i) (Nat.zero_le _) (by omega); rwa [show i + (r - i) = r from by omega] at this)).symm
  | some kk =>
   obtain ⟨_, h2, h3, _⟩ := fnd_some hf
   cases kk with
   | zero => exact ih (i + 1) (by omega) _ A _ _ (h.step hn (by omega) h3)
   | succ kk =>
    have hs := h.swap hn (s := i + (kk + 1)) (by omega) (by omega)
    exact ih (i + 1) (by omega) _ _ _ _ (hs.step hn (by omega) (by unfold swp; rw [if_pos rfl]; exact h3))
end
theorem dgo_det {n k : Nat} (hn : n ≤ 5) (A : Mat) (h : Bk n k A) : dgo n n 0 A 1 1 = det n A := by
 refine dgo_inv hn (k := k) n 0 (by omega) A A 1 1 ⟨Nat.zero_le _, h, fun r c _ _ _ _ => ?_, rfl, by decide, .inl rfl, Int.one_mul _⟩
 unfold bm
 rw [det_1]; simp [bord]
end Go.Proofs.Ythdoilfjcgickaa.Bz
end
section
namespace Go.Proofs.Ythdoilfjcgickaa.Un
open Go.RowKit Go.Proofs.YthdoilfjcgickaaW.PrintWords Go.Proofs.YthdoilfjcgickaaW.PrintMore Go.Proofs.Ythdoilfjcgickaa.Ma Go.Proofs.Ythdoilfjcgickaa.Dt Go.Proofs.Ythdoilfjcgickaa.Bz
def colM (P : Nat → Bool) (M : Mat) : Mat := fun i k => if P k = true then - M i k else if i = k then 1 else 0
end Go.Proofs.Ythdoilfjcgickaa.Un
end
section
namespace Go.Proofs.Ythdoilfjcgickaa.Pr
open Go.RowKit Go.Proofs.YthdoilfjcgickaaW.PrintWords Go.Proofs.YthdoilfjcgickaaW.PrintLast Go.Proofs.YthdoilfjcgickaaW.PrintMore
attribute [local go_sem] max2_int min2_int max_two min_two max_three min_three max_four min_four
mutual
def impl_part.l0 : Nat → Int → Int → List (List Int) → List (List Int) → Int → Int → Option ((List (List Int)))
 | 0, _, _, _, _, _, _ => none
 | k + 1, x1, x2, x7, x13, x14, x15 => if x15 < x14 then (if 0 ≤ x15 then (if x15 < (x13.length : Int) then ((impl_has.f x1 x15).bind fun t566 => (if t566 = true then (impl_part.l1 k x1 x2 x7 ([] : List Int) x13 x14 x15 (rd_L1 x13 x15) ((rd_L1 x13 x15).length : Int) 0) else (impl_part.l0 k x1 x2 x7 x13 x14 (wrap64 (x15 + 1))))) else (none)) else (none)) else (some x7)
def impl_part.l1 : Nat → Int → Int → List (List Int) → List Int → List (List Int) → Int → Int → List Int → Int → Int → Option ((List (List Int)))
 | 0, _, _, _, _, _, _, _, _, _, _ => none
 | k + 1, x1, x2, x7, x10, x13, x14, x15, x24, x25, x26 => if x26 < x25 then (if 0 ≤ x26 then (if x26 < (x24.length : Int) then ((impl_has.f x2 x26).bind fun t568 => (if t568 = true then (if x10.length < 17592186044416 then (impl_part.l1 k x1 x2 x7 (x10 ++ [rd x24 x26]) x13 x14 x15 x24 x25 (wrap64 (x26 + 1))) else (none)) else (impl_part.l1 k x1 x2 x7 x10 x13 x14 x15 x24 x25 (wrap64 (x26 + 1))))) else (none)) else (none)) else (if x7.length < 5864062014805 then (impl_part.l0 k x1 x2 (x7 ++ [x10]) x13 x14 (wrap64 (x15 + 1))) else (none))
end
def impl_part.f (k : Nat) (l0 : List (List Int)) (a1 : Int) (a2 : Int) : Option ((List (List Int))) := impl_part.l0 k a1 a2 ([] : List (List Int)) l0 (l0.length : Int) 0
theorem impl_part.mono_l : ∀ k, (∀ y0 y1 y2 y3 y4 y5, LeO (impl_part.l0 k y0 y1 y2 y3 y4 y5) (impl_part.l0 (k + 1) y0 y1 y2 y3 y4 y5)) ∧ (∀ y0 y1 y2 y3 y4 y5 y6 y7 y8 y9, LeO (impl_part.l1 k y0 y1 y2 y3 y4 y5 y6 y7 y8 y9) (impl_part.l1 (k + 1) y0 y1 y2 y3 y4 y5 y6 y7 y8 y9))
 | 0 => ⟨fun _ _ _ _ _ _ r h => by simp [impl_part.l0] at h, fun _ _ _ _ _ _ _ _ _ _ r h => by simp [impl_part.l1] at h⟩
 | k + 1 => by
  obtain ⟨ih0, ih1⟩ := impl_part.mono_l k
  refine ⟨?_, ?_⟩
  ·intro y0 y1 y2 y3 y4 y5
   unfold impl_part.l0
   repeat' first
   | (with_reducible exact ih0 _ _ _ _ _ _)
   | (with_reducible exact ih1 _ _ _ _ _ _ _ _ _ _)
   | (with_reducible exact LeO.refl _)
   | (with_reducible exact LeO.none _)
   | (with_reducible refine LeO.ite ?_ ?_)
   | (with_reducible refine LeO.bind ?_ (fun _ => ?_))
   | exact ih0 _ _ _ _ _ _
   | exact ih1 _ _ _ _ _ _ _ _ _ _
   | exact LeO.none _
   | refine LeO.ite ?_ ?_
   | refine LeO.bind ?_ (fun _ => ?_)
  ·intro y0 y1 y2 y3 y4 y5 y6 y7 y8 y9
   unfold impl_part.l1
   repeat' first
   | (with_reducible exact ih0 _ _ _ _ _ _)
   | (with_reducible exact ih1 _ _ _ _ _ _ _ _ _ _)
   | (with_reducible exact LeO.refl _)
   | (with_reducible exact LeO.none _)
   | (with_reducible refine LeO.ite ?_ ?_)
   | (with_reducible refine LeO.bind ?_ (fun _ => ?_))
   | exact ih0 _ _ _ _ _ _
   | exact ih1 _ _ _ _ _ _ _ _ _ _
   | exact LeO.none _
   | refine LeO.ite ?_ ?_
   | refine LeO.bind ?_ (fun _ => ?_)
theorem impl_part.mono : ∀ a0 a1 a2 k, LeO (impl_part.f k a0 a1 a2) (impl_part.f (k + 1) a0 a1 a2) := by
 intro a0 a1 a2 k
 obtain ⟨ih0, ih1⟩ := impl_part.mono_l k
 unfold impl_part.f
 repeat' first
   | (with_reducible exact ih0 _ _ _ _ _ _)
   | (with_reducible exact ih1 _ _ _ _ _ _ _ _ _ _)
   | (with_reducible exact LeO.refl _)
   | (with_reducible exact LeO.none _)
   | (with_reducible refine LeO.ite ?_ ?_)
   | (with_reducible refine LeO.bind ?_ (fun _ => ?_))
   | exact ih0 _ _ _ _ _ _
   | exact ih1 _ _ _ _ _ _ _ _ _ _
   | exact LeO.none _
   | refine LeO.ite ?_ ?_
   | refine LeO.bind ?_ (fun _ => ?_)
theorem impl_part.calls (k : Nat) (A0 : Option Addr) (c0 : Nat) (l0 : List (List Int)) (a1 : Int) (a2 : Int) (r : List (List Int)) (w : World) (hr0 : Kd.C (Kd.slice 2 (Kd.int .i64)) w A0 l0.length l0) (hc0 : l0.length ≤ c0) (h : impl_part.f k l0 a1 a2 = some r) :
  Calls Try.prog 77 #[.slice A0 l0.length c0, .int .i64 a1, .int .i64 a2] w fun e w' => ∃ v0_ : Value, e = .returned (v0_) ∧ Kd.S (Kd.slice 2 (Kd.int .i64)) 23 w' w.heap.size (fun _ => True) v0_ r ∧ Below w.heap.size w w' := by
 have HR0 := Aside0.mk hr0
 have HC0 := Aside0.mk hc0
 clear hr0 hc0
 have HB := Aside0.mk (Below.refl w.heap.size w)
 have H : (impl_part.l0 k a1 a2 ([] : List (List Int)) l0 (l0.length : Int) 0) = some r := h
 clear h
 have H' := Aside0.mk H
 clear H
 go_enter Try.func77, Try.ntmps77
 go_wp2
 go_loopg [7, 15] k (fun kq v7 v15 w' => ∃ (x7_1 : List (List Int)) (x15_1 : Int), v15 = .int .i64 x15_1 ∧ Aside0 (impl_part.l0 kq a1 a2 x7_1 l0 (l0.length : Int) x15_1 = some r) ∧ Aside0 (kq ≤ k) ∧ Aside0 (Kd.S (Kd.slice 2 (Kd.int .i64)) 23 w' w.heap.size (fun _ => True) v7 x7_1) ∧ Aside0 (Below w.heap.size w w'))
 case atStart => exact ⟨(([] : List (List Int))), (0), (by first | rfl | (simp; done) | (simp [*]; done)), H', ⟨Nat.le_refl _⟩, ⟨by first | exact Kd.S_nil _ _ _ _ _ | exact Kd.N_nil _ _ _ _ _ | exact Kd.V_nil _ _ _ _ _ | exact Kd.Q_nil _ _ _ _ _ | exact Kd.R_nil _ _ _ _ _⟩, ⟨hb_⟩⟩
 case round =>
  clear H'
  try clear p2
  obtain ⟨x7_1, x15_1, rfl, HA, HK1, HO_7, HB⟩ := hrel
  cases gk with
  | zero => exact absurd HA.out (by simp [impl_part.l0])
  | succ k1 =>
   have H := HA.out
   clear HA
   simp only [impl_part.l0] at H
   by_cases c4 : x15_1 < (l0.length : Int)
   ·rw [if_pos c4] at H
    have c4b0 : decide (x15_1 < (l0.length : Int)) = true := decide_eq_true c4
    clear c4
    by_cases c5 : 0 ≤ x15_1
    ·rw [if_pos c5] at H
     have c5b0 : decide (0 ≤ x15_1) = true := decide_eq_true c5
     clear c5
     by_cases c6 : x15_1 < (l0.length : Int)
     ·rw [if_pos c6] at H
      have c6b0 : decide (x15_1 < (l0.length : Int)) = true := decide_eq_true c6
      clear c6
      replace H := Option.bind_eq_some_iff.mp H
      obtain ⟨t566, A70, H⟩ := H
      replace H : (if t566 = true then (impl_part.l1 k1 a1 a2 x7_1 ([] : List Int) l0 (l0.length : Int) x15_1 (rd_L1 l0 x15_1) ((rd_L1 l0 x15_1).length : Int) 0) else (impl_part.l0 k1 a1 a2 x7_1 l0 (l0.length : Int) (wrap64 (x15_1 + 1)))) = some r := H
      have A7 := Aside0.mk A70
      clear A70
      by_cases c8 : t566 = true
      ·subst c8
       have H1 : (impl_part.l1 k1 a1 a2 x7_1 ([] : List Int) l0 (l0.length : Int) x15_1 (rd_L1 l0 x15_1) ((rd_L1 l0 x15_1).length : Int) 0) = some r := by rw [if_pos rfl] at H; exact H
       clear H
       have H := H1
       clear H1
       have H' := Aside0.mk H
       clear H
       have p565 : 0 ≤ (x15_1 : Int) := of_decide_eq_true (by first | (with_reducible assumption) | assumption)
       have q565 : x15_1 < (l0.length : Int) := of_decide_eq_true (by first | (with_reducible assumption) | assumption)
       obtain ⟨ad565, A565_0, c565_0, e565, hx565_0, hl565_0, hi565_0⟩ := at_L1 HR0.out x15_1 p565 q565
       cases e565
       replace hx565_0 := (HB.out.cell (World.block_lt_of_cell? w _ hx565_0)).trans hx565_0
       have HR565_0 := Aside0.mk hi565_0
       have HC565_0 := Aside0.mk hl565_0
       clear hi565_0 hl565_0
       replace p565 := eq_true p565
       replace q565 := eq_true q565
       go_wp2_with (first | ((with_reducible refine gate_callee (f := 109) rfl ?_); refine goesL_ (some 22) rfl rfl Try.func109 (by kernel_rfl) rfl #[.int .i64 a1, .int .i64 x15_1] rfl (by (try simp only [List.map_toArray, List.map_cons, List.map_nil]); first | done | rfl | (simp only [List.length_drop, List.length_take]; rfl)) ?_; (with_reducible refine (impl_has.calls a1 x15_1 true _ A7.out).mono ?_); rintro e w' ⟨rfl, ⟨nd, rfl⟩⟩; refine ⟨_, rfl, ?_⟩))
       go_loopg [10, 26] k1 (fun kq v10 v26 w' => ∃ (x10_2 : List Int) (x26_2 : Int), v26 = .int .i64 x26_2 ∧ Aside0 (impl_part.l1 kq a1 a2 x7_1 x10_2 l0 (l0.length : Int) x15_1 (rd_L1 l0 x15_1) ((rd_L1 l0 x15_1).length : Int) x26_2 = some r) ∧ Aside0 (kq ≤ k1) ∧ Aside0 (Kd.S (Kd.slice 2 (Kd.int .i64)) 23 w' w.heap.size (fun k_ => some k_ ≠ (v10 : Value).ownBlock) u7 x7_1) ∧ Aside0 (Kd.R (Kd.int .i64) 2 w' w.heap.size (fun _ => True) v10 x10_2) ∧ Aside0 (Below w.heap.size w w'))
       case atStart => exact ⟨(([] : List Int)), (0), (by first | rfl | (simp; done) | (simp [*]; done)), H', ⟨Nat.le_refl _⟩, ⟨by (with_reducible repeat (first | apply Kd.S_alloc | apply Kd.S_drewN | apply Kd.S_drew)); exact Kd.S_mono HO_7.out (fun _ hk => (by simp [Value.ownBlock]))⟩, ⟨by first | exact Kd.R_nil _ _ _ _ _ | exact Kd.N_nil _ _ _ _ _ | exact Kd.V_nil _ _ _ _ _ | exact Kd.Q_nil _ _ _ _ _ | exact Kd.S_nil _ _ _ _ _⟩, ⟨hb_⟩⟩
       case round =>
        clear H'
        try clear c1
        try clear p2
        try clear c4
        try clear c4b0
        try clear c5
        try clear c5b0
        try clear p5
        try clear q5
        try clear hx5
        try clear c6
        try clear c6b0
        try clear p6
        try clear c7
        try clear c8
        try clear hx565_0
        try clear p2
        try clear p565
        try clear q565
        obtain ⟨x10_2, x26_2, rfl, HA, HK2, HO_7, HO_10, HB⟩ := hrel
        cases gk with
        | zero => exact absurd HA.out (by simp [impl_part.l1])
        | succ k2 =>
         have H := HA.out
         clear HA
         simp only [impl_part.l1] at H
         by_cases c9 : x26_2 < ((rd_L1 l0 x15_1).length : Int)
         ·rw [if_pos c9] at H
          have c9b0 : decide (x26_2 < ((rd_L1 l0 x15_1).length : Int)) = true := decide_eq_true c9
          clear c9
          by_cases c10 : 0 ≤ x26_2
          ·rw [if_pos c10] at H
           have c10b0 : decide (0 ≤ x26_2) = true := decide_eq_true c10
           clear c10
           by_cases c11 : x26_2 < ((rd_L1 l0 x15_1).length : Int)
           ·rw [if_pos c11] at H
            have c11b0 : decide (x26_2 < ((rd_L1 l0 x15_1).length : Int)) = true := decide_eq_true c11
            clear c11
            replace H := Option.bind_eq_some_iff.mp H
            obtain ⟨t568, A120, H⟩ := H
            replace H : (if t568 = true then (if x10_2.length < 17592186044416 then (impl_part.l1 k2 a1 a2 x7_1 (x10_2 ++ [rd (rd_L1 l0 x15_1) x26_2]) l0 (l0.length : Int) x15_1 (rd_L1 l0 x15_1) ((rd_L1 l0 x15_1).length : Int) (wrap64 (x26_2 + 1))) else (none)) else (impl_part.l1 k2 a1 a2 x7_1 x10_2 l0 (l0.length : Int) x15_1 (rd_L1 l0 x15_1) ((rd_L1 l0 x15_1).length : Int) (wrap64 (x26_2 + 1)))) = some r := H
            have A12 := Aside0.mk A120
            clear A120
            by_cases c13 : t568 = true
            ·subst c13
             have H1 : (if x10_2.length < 17592186044416 then (impl_part.l1 k2 a1 a2 x7_1 (x10_2 ++ [rd (rd_L1 l0 x15_1) x26_2]) l0 (l0.length : Int) x15_1 (rd_L1 l0 x15_1) ((rd_L1 l0 x15_1).length : Int) (wrap64 (x26_2 + 1))) else (none)) = some r := by rw [if_pos rfl] at H; exact H
             clear H
             have H := H1
             clear H1
             by_cases c14 : x10_2.length < 17592186044416
             ·rw [if_pos c14] at H
              have LMc14 := Aside0.mk c14
              clear c14
              obtain ⟨y569, hy569⟩ : ∃ y_ : List Int, y_ = (x10_2 ++ [rd (rd_L1 l0 x15_1) x26_2]) := ⟨_, rfl⟩
              replace H : (impl_part.l1 k2 a1 a2 x7_1 y569 l0 (l0.length : Int) x15_1 (rd_L1 l0 x15_1) ((rd_L1 l0 x15_1).length : Int) (wrap64 (x26_2 + 1))) = some r := by first | (rw [hy569]; with_reducible exact H) | (have H2_ := (Option.bind_some _ _).symm.trans H; rw [hy569]; with_reducible exact H2_) | (have H2_ := (Option.bind_some _ _).symm.trans H; with_reducible exact H2_) | with_reducible exact H | (rw [hy569]; exact H) | exact H
              have Ny569 := Aside0.mk hy569
              clear hy569
              have H' := Aside0.mk H
              clear H
              have p567 : 0 ≤ (x26_2 : Int) := of_decide_eq_true (by first | (with_reducible assumption) | assumption)
              have q567 : x26_2 < ((rd_L1 l0 x15_1).length : Int) := of_decide_eq_true (by first | (with_reducible assumption) | assumption)
              obtain ⟨ad567, e567, hx567_0⟩ := Kd.at_int HR565_0.out x26_2 p567 q567
              cases e567
              replace hx567_0 := (HB.out.cell (World.block_lt_of_cell? w _ hx567_0)).trans hx567_0
              replace p567 := eq_true p567
              replace q567 := eq_true q567
              go_wp2_with (first | ((with_reducible refine gate_callee (f := 109) rfl ?_); refine goesL_ (some 33) rfl rfl Try.func109 (by kernel_rfl) rfl #[.int .i64 a2, .int .i64 x26_2] rfl (by (try simp only [List.map_toArray, List.map_cons, List.map_nil]); first | done | rfl | (simp only [List.length_drop, List.length_take]; rfl)) ?_; (with_reducible refine (impl_has.calls a2 x26_2 true _ A12.out).mono ?_); rintro e w' ⟨rfl, ⟨nd, rfl⟩⟩; refine ⟨_, rfl, ?_⟩) | ((with_reducible refine gate_builtin (b := .append) (xs := #[.tmp 34, .tmp 36]) rfl ?_); at_builtin; refine Kd.R_append (Kd.int .i64) (w0 := w) w.heap.size rfl (.tmp 34) (.tmp 36) 23 2 (.int .i64 0) 8 rfl Try.underlying23 info2 rfl (by decide) (by omega) u10 x10_2 (rd (rd_L1 l0 x15_1) x26_2) [.int .i64 (rd (rd_L1 l0 x15_1) x26_2)] (fun _ => True) (fun _ => False) rfl rfl ?aP (fun _ hk => hk.elim) ?aF ?aO ?aB ?aS ?aL ?_; (case aP => exact rfl); (case aB => exact hb_); (case aF => exact (fun _ _ => trivial)); (case aO => exact (ro_ HO_10.out)); (case aS => exact bz_); (case aL => have := LMc14.out; omega); intro v570 w15 ho hb hg hat; rw [← Ny569.out] at ho; have n0_ := Aside0.mk (Kd.S_after (ok := (fun _ => True)) (by (with_reducible repeat (first | apply Kd.S_alloc | apply Kd.S_drewN | apply Kd.S_drew)); exact Kd.S_mono HO_7.out (fun _ hk => ⟨trivial, hk⟩)) hg hat); have n1_ := Aside0.mk (hb); have n2_ := Aside0.mk (ho); clear HO_7; clear HB; clear HO_10; have HO_7 := n0_; have HB := n1_; have HO571 := n2_; clear n0_ n1_ n2_; clear ho hb hg hat))
              go_roundg k2
              case measure => have := HK1.out; have := HK2.out; omega
              case rel => exact ⟨(y569), (wrap64 (x26_2 + 1)), (by first | rfl | (simp; done) | (simp [*]; done)), H', ⟨by have := HK1.out; have := HK2.out; omega⟩, ⟨by (with_reducible repeat (first | apply Kd.S_alloc | apply Kd.S_drewN | apply Kd.S_drew)); exact Kd.S_mono HO_7.out (fun _ hk => hk.2)⟩, ⟨ro_ HO571.out⟩, ⟨hb_⟩⟩
             ·rw [if_neg c14] at H
              exact absurd H (by simp)
            ·replace c13 := Bool.eq_false_iff.mpr c13
             subst c13
             have H1 : (impl_part.l1 k2 a1 a2 x7_1 x10_2 l0 (l0.length : Int) x15_1 (rd_L1 l0 x15_1) ((rd_L1 l0 x15_1).length : Int) (wrap64 (x26_2 + 1))) = some r := by rw [if_neg (show ¬ (false = true) by decide)] at H; exact H
             clear H
             have H := H1
             clear H1
             have H' := Aside0.mk H
             clear H
             have p567 : 0 ≤ (x26_2 : Int) := of_decide_eq_true (by first | (with_reducible assumption) | assumption)
             have q567 : x26_2 < ((rd_L1 l0 x15_1).length : Int) := of_decide_eq_true (by first | (with_reducible assumption) | assumption)
             obtain ⟨ad567, e567, hx567_0⟩ := Kd.at_int HR565_0.out x26_2 p567 q567
             cases e567
             replace hx567_0 := (HB.out.cell (World.block_lt_of_cell? w _ hx567_0)).trans hx567_0
             replace p567 := eq_true p567
             replace q567 := eq_true q567
             go_wp2_with (first | ((with_reducible refine gate_callee (f := 109) rfl ?_); refine goesL_ (some 33) rfl rfl Try.func109 (by kernel_rfl) rfl #[.int .i64 a2, .int .i64 x26_2] rfl (by (try simp only [List.map_toArray, List.map_cons, List.map_nil]); first | done | rfl | (simp only [List.length_drop, List.length_take]; rfl)) ?_; (with_reducible refine (impl_has.calls a2 x26_2 false _ A12.out).mono ?_); rintro e w' ⟨rfl, ⟨nd, rfl⟩⟩; refine ⟨_, rfl, ?_⟩))
             go_roundg k2
             case measure => have := HK1.out; have := HK2.out; omega
             case rel => exact ⟨(x10_2), (wrap64 (x26_2 + 1)), (by first | rfl | (simp; done) | (simp [*]; done)), H', ⟨by have := HK1.out; have := HK2.out; omega⟩, ⟨so_ HO_7.out⟩, ⟨ro_ HO_10.out⟩, ⟨hb_⟩⟩
           ·rw [if_neg c11] at H
            exact absurd H (by simp)
          ·rw [if_neg c10] at H
           exact absurd H (by simp)
         ·rw [if_neg c9] at H
          have c9b0 : decide (x26_2 < ((rd_L1 l0 x15_1).length : Int)) = false := decide_eq_false c9
          clear c9
          by_cases c16 : x7_1.length < 5864062014805
          ·rw [if_pos c16] at H
           have LMc16 := Aside0.mk c16
           clear c16
           obtain ⟨y572, hy572⟩ : ∃ y_ : List (List Int), y_ = (x7_1 ++ [x10_2]) := ⟨_, rfl⟩
           replace H : (impl_part.l0 k2 a1 a2 y572 l0 (l0.length : Int) (wrap64 (x15_1 + 1))) = some r := by first | (rw [hy572]; with_reducible exact H) | (have H2_ := (Option.bind_some _ _).symm.trans H; rw [hy572]; with_reducible exact H2_) | (have H2_ := (Option.bind_some _ _).symm.trans H; with_reducible exact H2_) | with_reducible exact H | (rw [hy572]; exact H) | exact H
           have Ny572 := Aside0.mk hy572
           clear hy572
           have H' := Aside0.mk H
           clear H
           obtain ⟨Ao18, co18, eo18⟩ := Kd.R_slice HO_10.out
           subst eo18
           go_wp2_with (first | ((with_reducible refine gate_builtin (b := .append) (xs := #[.tmp 39, .tmp 41]) rfl ?_); at_builtin; refine Kd.S_append (Kd.slice 2 (Kd.int .i64)) (w0 := w) w.heap.size rfl (.tmp 39) (.tmp 41) 22 23 (.slice none 0 0) 24 rfl Try.underlying22 info23 rfl (by decide) (by omega) u7 x7_1 x10_2 [.slice Ao18 x10_2.length co18] (fun _ => True) (fun k_ => some k_ = (.slice Ao18 x10_2.length co18 : Value).ownBlock) rfl rfl ?aP (fun k_ hk_ => ((Kd.R_mono (ok' := fun k_ => ((fun _ => True)) k_ ∧ some k_ ≠ (u7 : Value).ownBlock) (Kd.R_apart' (HO_10.out) (Kd.S_typed HO_7.out) (by decide)) (fun k_ hk => ⟨trivial, hk.2⟩))).1 k_ hk_.symm) ?aF ?aO ?aB ?aS ?aL ?_; (case aP => exact Kd.M_row (Kd.R_mono (Kd.R_tight rfl (Kd.R_mono (ok' := fun k_ => ((fun _ => True)) k_ ∧ some k_ ≠ (u7 : Value).ownBlock) (Kd.R_apart' (HO_10.out) (Kd.S_typed HO_7.out) (by decide)) (fun k_ hk => ⟨trivial, hk.2⟩))) (fun _ h_ => h_))); (case aB => exact hb_); (case aF => exact (fun _ _ => trivial)); (case aO => exact (by (with_reducible repeat (first | apply Kd.S_alloc | apply Kd.S_drewN | apply Kd.S_drew)); exact Kd.S_mono HO_7.out (fun k_ hk => ⟨trivial, fun e_ => hk e_⟩))); (case aS => exact bz_); (case aL => have := LMc16.out; omega); intro v573 w17 ho hb hg hat; rw [← Ny572.out] at ho; have n0_ := Aside0.mk (hb); have n1_ := Aside0.mk (ho); clear HB; clear HO_7; clear HO_10; have HB := n0_; have HO574 := n1_; clear n0_ n1_; clear ho hb hg hat))
           go_roundg k2
           case measure => have := HK1.out; have := HK2.out; omega
           case rel => exact ⟨(y572), (wrap64 (x15_1 + 1)), (by first | rfl | (simp; done) | (simp [*]; done)), H', ⟨by have := HK1.out; have := HK2.out; omega⟩, ⟨so_ HO574.out⟩, ⟨hb_⟩⟩
          ·rw [if_neg c16] at H
           exact absurd H (by simp)
      ·replace c8 := Bool.eq_false_iff.mpr c8
       subst c8
       have H1 : (impl_part.l0 k1 a1 a2 x7_1 l0 (l0.length : Int) (wrap64 (x15_1 + 1))) = some r := by rw [if_neg (show ¬ (false = true) by decide)] at H; exact H
       clear H
       have H := H1
       clear H1
       have H' := Aside0.mk H
       clear H
       have p565 : 0 ≤ (x15_1 : Int) := of_decide_eq_true (by first | (with_reducible assumption) | assumption)
       have q565 : x15_1 < (l0.length : Int) := of_decide_eq_true (by first | (with_reducible assumption) | assumption)
       obtain ⟨ad565, A565_0, c565_0, e565, hx565_0, hl565_0, hi565_0⟩ := at_L1 HR0.out x15_1 p565 q565
       cases e565
       replace hx565_0 := (HB.out.cell (World.block_lt_of_cell? w _ hx565_0)).trans hx565_0
       have HR565_0 := Aside0.mk hi565_0
       have HC565_0 := Aside0.mk hl565_0
       clear hi565_0 hl565_0
       replace p565 := eq_true p565
       replace q565 := eq_true q565
       go_wp2_with (first | ((with_reducible refine gate_callee (f := 109) rfl ?_); refine goesL_ (some 22) rfl rfl Try.func109 (by kernel_rfl) rfl #[.int .i64 a1, .int .i64 x15_1] rfl (by (try simp only [List.map_toArray, List.map_cons, List.map_nil]); first | done | rfl | (simp only [List.length_drop, List.length_take]; rfl)) ?_; (with_reducible refine (impl_has.calls a1 x15_1 false _ A7.out).mono ?_); rintro e w' ⟨rfl, ⟨nd, rfl⟩⟩; refine ⟨_, rfl, ?_⟩))
       go_roundg k1
       case measure => have := HK1.out; omega
       case rel => exact ⟨(x7_1), (wrap64 (x15_1 + 1)), (by first | rfl | (simp; done) | (simp [*]; done)), H', ⟨by have := HK1.out; omega⟩, ⟨so_ HO_7.out⟩, ⟨hb_⟩⟩
     ·rw [if_neg c6] at H
      exact absurd H (by simp)
    ·rw [if_neg c5] at H
     exact absurd H (by simp)
   ·rw [if_neg c4] at H
    have c4b0 : decide (x15_1 < (l0.length : Int)) = false := decide_eq_false c4
    clear c4
    obtain rfl := Option.some.inj H
    go_wp2
    go_ret
    exact ⟨_, by first | rfl | (simp [errW_none, errW_some] <;> rfl) | (simp [*, errW_none, errW_some] <;> rfl), so_ HO_7.out, hb_⟩
end Go.Proofs.Ythdoilfjcgickaa.Pr
end
section
namespace Go.Proofs.Ythdoilfjcgickaa.Cz
open Go.RowKit Go.Proofs.YthdoilfjcgickaaW.PrintWords Go.Proofs.YthdoilfjcgickaaW.PrintMore Go.Proofs.Ythdoilfjcgickaa.Ma Go.Proofs.Ythdoilfjcgickaa.Pr Go.Proofs.Ythdoilfjcgickaa.Dt Go.Proofs.Ythdoilfjcgickaa.Bz Go.Proofs.Ythdoilfjcgickaa.Un
def en (l : List (List Int)) : Mat := fun i j => (l.getD i []).getD j 0
structure Sq (n : Nat) (l : List (List Int)) : Prop where
 len : l.length = n
 row : ∀ i, i < n → (l.getD i []).length = n
 num : ∀ i j, i < n → j < n → (en l i j).natAbs ≤ 20
theorem rdL1 (l : List (List Int)) (i : Nat) : rd_L1 l (i : Int) = l.getD i [] := by simp [rd_L1]
def rw1 (m : Nat) (f : Nat → Int) : List Int := (List.range m).map f
theorem rw1_len (m : Nat) (f : Nat → Int) : (rw1 m f).length = m := by simp [rw1]
theorem rw1_succ (m : Nat) (f : Nat → Int) : rw1 (m + 1) f = rw1 m f ++ [f m] := by simp [rw1, List.range_succ]
def mk (r m : Nat) (f : Nat → Nat → Int) : List (List Int) := (List.range r).map fun i => rw1 m (f i)
theorem mk_len (r m : Nat) (f : Nat → Nat → Int) : (mk r m f).length = r := by simp [mk]
theorem mk_succ (r m : Nat) (f : Nat → Nat → Int) : mk (r + 1) m f = mk r m f ++ [rw1 m (f r)] := by simp [mk, List.range_succ]
theorem mk_row (r m : Nat) (f : Nat → Nat → Int) (i : Nat) (hi : i < r) : (mk r m f).getD i [] = rw1 m (f i) := by simp [mk, hi]
theorem mk_en (r m : Nat) (f : Nat → Nat → Int) (i j : Nat) (hi : i < r) (hj : j < m) : en (mk r m f) i j = f i j := by
 unfold en; rw [mk_row r m f i hi]; simp [rw1, hj]
theorem mk_rows (r m : Nat) (f : Nat → Nat → Int) : ∀ x ∈ mk r m f, x.length = m := by
 intro x hx
 obtain ⟨i, _, rfl⟩ := List.mem_map.1 hx
 exact rw1_len _ _
section
variable {n : Nat} {l : List (List Int)} (h : Sq n l) (hn : n ≤ 5) (s : Int)
include h hn
theorem spec_cols : Ev (fun k => spec_l01Columns.f k l s) (mk n n (colM (bB s) (en l))) := by
 have hl := h.len
 have rows : ∀ q i, i + q = n → Ev (fun k => spec_l01Columns.l0 k l s (mk i n (colM (bB s) (en l))) i) (mk n n (colM (bB s) (en l))) := by
  intro q
  induction q with
  | zero =>
   intro i hi
   obtain rfl : i = n := by omega
   exact evstep (fun k => by rw [spec_l01Columns.l0]) (evneg (by omega) (evc rfl))
  | succ q ih =>
   intro i hi
   have nx := ih (i + 1) (by omega)
   have hr := h.row i (by omega)
   have cols : ∀ p c, c + p = n → Ev (fun k => spec_l01Columns.l1 k l s (mk i n (colM (bB s) (en l))) i (rw1 c (colM (bB s) (en l) i)) c) (mk n n (colM (bB s) (en l))) := by
    intro p
    induction p with
    | zero =>
     intro c hc
     obtain rfl : c = n := by omega
     refine evstep (fun k => by rw [spec_l01Columns.l1]) (evneg (by omega) (evpos (by rw [mk_len]; omega) ?_))
     rw [w64 (x := (i : Int) + 1) (by omega) (by omega), ← mk_succ]
     exact nx
    | succ p ihp =>
     intro c hc
     have nx2 := ihp (c + 1) (by omega)
     rw [rw1_succ] at nx2
     have hnum := h.num i c (by omega) (by omega)
     refine evstep (fun k => by rw [spec_l01Columns.l1]) (evpos (by omega) ?_)
     rw [u64w (x := (c : Int)) (by omega) (by omega), shr_and_one s (by omega)]
     refine evpos (by omega) ?_
     have ce : colM (bB s) (en l) i c = if bB s c = true then - en l i c else if i = c then 1 else 0 := rfl
     by_cases b : bB s c = true
     ·rw [if_pos b] at ce
      rw [ce] at nx2
      rw [rdL1]
      refine evpos (by rw [if_pos b]) (evpos (by omega) (evpos (by omega) (evpos (by omega) (evpos (by omega) (evpos (by rw [rw1_len]; omega) ?_)))))
      rw [rd_nat, show (l.getD i []).getD c 0 = en l i c from rfl, w64 (x := - en l i c) (by omega) (by omega), w64 (x := (c : Int) + 1) (by omega) (by omega)]
      exact nx2
     ·rw [if_neg b] at ce
      refine evneg (by rw [if_neg b]; decide) ?_
      rw [w64 (x := (c : Int) + 1) (by omega) (by omega)]
      by_cases e : i = c
      ·rw [if_pos e] at ce
       rw [ce] at nx2
       exact evpos (by omega) (evpos (by rw [rw1_len]; omega) nx2)
      ·rw [if_neg e] at ce
       rw [ce] at nx2
       exact evneg (by omega) (evpos (by rw [rw1_len]; omega) nx2)
   refine evstep (fun k => by rw [spec_l01Columns.l0]) (evpos (by omega) ?_)
   exact cols n 0 (by omega)
 exact rows n 0 (by omega)
theorem has_eq (c : Nat) (hc : c < 64) : impl_has.f s (c : Int) = some (bB s c) := by
 have _h := h
 have _h2 := hn
 unfold impl_has.f
 rw [if_pos (by omega), shr_and_one s hc]
 congr 1
 cases hb : bB s c <;> simp
end
end Go.Proofs.Ythdoilfjcgickaa.Cz
end
section
namespace Go.Proofs.Ythdoilfjcgickaa.Pb
open Go.RowKit Go.Proofs.YthdoilfjcgickaaW.PrintWords Go.Proofs.YthdoilfjcgickaaW.PrintMore Go.Proofs.Ythdoilfjcgickaa.Ma Go.Proofs.Ythdoilfjcgickaa.Pr Go.Proofs.Ythdoilfjcgickaa.Dt Go.Proofs.Ythdoilfjcgickaa.Bz Go.Proofs.Ythdoilfjcgickaa.Cz
theorem sin_eq (x a b : Int) : spec_l01In.f x a b = some (decide (a ≤ x ∧ x ≤ b)) := by
 unfold spec_l01In.f
 by_cases h : x ≥ a
 ·rw [if_pos h]; congr 1; rw [Bool.eq_iff_iff]; simp; omega
 ·rw [if_neg h]; congr 1; rw [Bool.eq_iff_iff]; simp; omega
theorem head_step {P : Nat → Prop} {i d : Nat} (h : i < d) : (∀ j, i ≤ j → j < d → P j) ↔ P i ∧ ∀ j, i + 1 ≤ j → j < d → P j :=
 ⟨fun q => ⟨q i (Nat.le_refl _) h, fun j h1 h2 => q j (by omega) h2⟩, fun q j h1 h2 => by
  by_cases e : j = i
  ·subst e; exact q.1
  ·exact q.2 j (by omega) h2⟩
theorem no_iff {b : Bool} {p : Prop} (h : b = true ↔ p) (hp : ¬ p) : b = false := by
 cases b with
 | false => rfl
 | true => exact absurd (h.1 rfl) hp
def N20 (x : Int) : Prop := -20 ≤ x ∧ x ≤ 20
def N100 (x : Int) : Prop := -100 ≤ x ∧ x ≤ 100
def RowM (M : List (List Int)) (i : Nat) : Prop := (M.getD i []).length = M.length ∧ ∀ j, 0 ≤ j → j < M.length → N20 (en M i j)
structure MatOK (M : List (List Int)) : Prop where
 n1 : 1 ≤ M.length
 n5 : M.length ≤ 5
 rows : ∀ i, 0 ≤ i → i < M.length → RowM M i
structure POK (M : List (List Int)) (q : List Int) : Prop where
 mat : MatOK M
 len : q.length = M.length
 num : ∀ i, 0 ≤ i → i < q.length → N100 (q.getD i 0)
theorem MatOK.sq {M : List (List Int)} (h : MatOK M) : Sq M.length M := ⟨rfl, fun i hi => (h.rows i (Nat.zero_le _) hi).1, fun i j hi hj => by have := (h.rows i (Nat.zero_le _) hi).2 j (Nat.zero_le _) hj; unfold N20 at this; omega⟩
section
variable {M : List (List Int)} (hM : M.length ≤ 5)
include hM
theorem spec_mrows : ∀ m i, i + m = M.length → ∀ t : Bool, (t = true ↔ ∀ u, i ≤ u → u < M.length → RowM M u) → Ev (fun k => spec_l01Matrix.l0 k M (M.length : Int) i) t := by
 intro m
 induction m with
 | zero =>
  intro i hi t ht
  obtain rfl : t = true := ht.2 (fun u h1 h2 => by omega)
  exact evstep (fun k => by rw [spec_l01Matrix.l0]) (evneg (by omega) (evc rfl))
 | succ m ih =>
  intro i hi t ht
  have hs := head_step (P := RowM M) (i := i) (d := M.length) (by omega)
  have ht2 := ht.trans hs
  refine evstep (fun k => by rw [spec_l01Matrix.l0]) (evpos (by omega) (evpos (by omega) (evpos (by omega) ?_)))
  rw [rdL1]
  by_cases c : (M.getD i []).length = M.length
  ·refine evpos (by omega) ?_
   have cols : ∀ p j, j + p = M.length → ∀ t : Bool, (t = true ↔ (∀ v, j ≤ v → v < M.length → N20 (en M i v)) ∧ ∀ u, i + 1 ≤ u → u < M.length → RowM M u) → Ev (fun k => spec_l01Matrix.l1 k M (M.length : Int) i j) t := by
    intro p
    induction p with
    | zero =>
     intro j hj t ht
     refine evstep (fun k => by rw [spec_l01Matrix.l1]) (evneg (by omega) ?_)
     rw [w64 (x := (i : Int) + 1) (by omega) (by omega)]
     exact ih (i + 1) (by omega) t (ht.trans ⟨fun h => h.2, fun h => ⟨fun v h1 h2 => by omega, h⟩⟩)
    | succ p ihp =>
     intro j hj t ht
     have hs2 := head_step (P := fun v => N20 (en M i v)) (i := j) (d := M.length) (by omega)
     refine evstep (fun k => by rw [spec_l01Matrix.l1]) ?_
     rw [rdL1]
     refine evpos (by omega) (evpos (by omega) (evpos (by omega) (evpos (by omega) (evpos (by omega) (evsome (sin_eq _ _ _) ?_)))))
     rw [rd_nat, show (M.getD i []).getD j 0 = en M i j from rfl, w64 (x := (j : Int) + 1) (by omega) (by omega)]
     by_cases d : -20 ≤ en M i j ∧ en M i j ≤ 20
     ·exact evpos (decide_eq_true d) (ihp (j + 1) (by omega) t (ht.trans ⟨fun h => ⟨(hs2.1 h.1).2, h.2⟩, fun h => ⟨hs2.2 ⟨d, h.1⟩, h.2⟩⟩))
     ·rw [no_iff ht (fun h => d ((hs2.1 h.1).1))]
      exact evneg (by simpa using d) (evc rfl)
   exact cols M.length 0 (by omega) t (ht2.trans ⟨fun h => ⟨fun v h1 h2 => h.1.2 v h1 h2, h.2⟩, fun h => ⟨⟨c, fun v h1 h2 => h.1 v h1 h2⟩, h.2⟩⟩)
  ·rw [no_iff ht2 (fun h => c h.1.1)]
   exact evneg (by omega) (evc rfl)
end
theorem spec_mat (M : List (List Int)) (t : Bool) (ht : t = true ↔ MatOK M) : Ev (fun k => spec_l01Matrix.f k M) t := by
 unfold spec_l01Matrix.f
 by_cases c1 : (M.length : Int) < 1
 ·rw [no_iff ht (fun h => by have := h.n1; omega)]
  exact evpos c1 (evstep (fun k => by rw [spec_l01Matrix.j0]) (evpos rfl (evc rfl)))
 ·refine evneg c1 (evstep (fun k => by rw [spec_l01Matrix.j0]) ?_)
  by_cases c2 : (M.length : Int) > 5
  ·rw [no_iff ht (fun h => by have := h.n5; omega)]
   exact evpos (decide_eq_true c2) (evc rfl)
  ·refine evneg (by simpa using c2) ?_
   exact spec_mrows (by omega) M.length 0 (by omega) t (ht.trans ⟨fun h => h.rows, fun h => ⟨by omega, by omega, h⟩⟩)
open Classical in
theorem spec_is (M : List (List Int)) (q : List Int) (hq : q.length ≤ 1048576) (t : Bool) (ht : t = true ↔ POK M q) : Ev (fun k => spec_l01Is.f k M q) t := by
 unfold spec_l01Is.f
 refine evbind (spec_mat M (decide (MatOK M)) (by simp)) ?_
 by_cases m : MatOK M
 ·refine evpos (by simpa using m) (evstep (fun k => by rw [spec_l01Is.j0]) ?_)
  by_cases c : q.length = M.length
  ·refine evneg (by simp [c]) ?_
   have loop : ∀ p i, i + p = q.length → ∀ t : Bool, (t = true ↔ ∀ u, i ≤ u → u < q.length → N100 (q.getD u 0)) → Ev (fun k => spec_l01Is.l0 k i M q) t := by
    intro p
    induction p with
    | zero =>
     intro i hi t ht
     obtain rfl : t = true := ht.2 (fun u h1 h2 => by omega)
     exact evstep (fun k => by rw [spec_l01Is.l0]) (evneg (by omega) (evc rfl))
    | succ p ih =>
     intro i hi t ht
     have hs := head_step (P := fun u => N100 (q.getD u 0)) (i := i) (d := q.length) (by omega)
     refine evstep (fun k => by rw [spec_l01Is.l0]) (evpos (by omega) (evpos (by omega) (evsome (sin_eq _ _ _) ?_)))
     rw [rd_nat, w64 (x := (i : Int) + 1) (by omega) (by omega)]
     by_cases d : -100 ≤ q.getD i 0 ∧ q.getD i 0 ≤ 100
     ·exact evpos (decide_eq_true d) (ih (i + 1) (by omega) t (ht.trans (hs.trans ⟨fun h => h.2, fun h => ⟨d, h⟩⟩)))
     ·rw [no_iff (ht.trans hs) (fun h => d h.1)]
      exact evneg (by simpa using d) (evc rfl)
   exact loop q.length 0 (by omega) t (ht.trans ⟨fun h => h.num, fun h => ⟨m, c, h⟩⟩)
  ·rw [no_iff ht (fun h => c h.len)]
   exact evpos (by simp; omega) (evc rfl)
 ·rw [no_iff ht (fun h => m h.mat)]
  exact evneg (by simpa using m) (evstep (fun k => by rw [spec_l01Is.j0]) (evpos rfl (evc rfl)))
theorem any_false {α : Type} (p : α → Bool) (l : List α) : l.any p = false ↔ ∀ i (h : i < l.length), p l[i] = false := by
 rw [List.any_eq_false]
 constructor
 ·intro h i hi
  have := h l[i] (List.getElem_mem hi)
  simpa using this
 ·intro h x hx
  obtain ⟨i, hi, rfl⟩ := List.getElem_of_mem hx
  simp [h i hi]
theorem badU_iff (a n : Int) : badU a n = false ↔ -a ≤ n ∧ n ≤ a := by unfold badU; simp
theorem any_badU (a : Int) (l : List Int) : l.any (badU a) = false ↔ ∀ i, 0 ≤ i → i < l.length → -a ≤ l.getD i 0 ∧ l.getD i 0 ≤ a := by
 rw [any_false]
 constructor
 ·intro h i _ hi
  have := (badU_iff a _).1 (h i hi)
  simpa [hi] using this
 ·intro h i hi
  have := h i (Nat.zero_le _) hi
  exact (badU_iff a _).2 (by simpa [hi] using this)
theorem gD {M : List (List Int)} {i : Nat} (h : i < M.length) : M.getD i [] = M[i] := by simp [h]
open Classical in
theorem impl_mat (M : List (List Int)) : impl_IsMatrix.f M = some (decide (MatOK M)) := by
 unfold impl_IsMatrix.f
 congr 1
 rw [Bool.eq_iff_iff]
 simp only [Bool.and_eq_true, decide_eq_true_eq, Bool.not_eq_true']
 rw [any_false, any_false]
 constructor
 ·rintro ⟨⟨h1, h2⟩, h3⟩
  refine ⟨by omega, by omega, fun i _ hi => ?_⟩
  have r1 := h2 i hi
  have r2 := h3 i hi
  unfold badL at r1
  unfold badM at r2
  have e : M[i].length = M.length := by simp at r1; omega
  refine ⟨by rw [gD hi]; exact e, fun j _ hj => ?_⟩
  have := (any_badU 20 M[i]).1 r2 j (Nat.zero_le _) (by omega)
  rw [← gD hi] at this
  exact this
 ·intro h
  refine ⟨⟨⟨by have := h.n1; omega, by have := h.n5; omega⟩, fun i hi => ?_⟩, fun i hi => ?_⟩
  ·have := (h.rows i (Nat.zero_le _) hi).1
   rw [gD hi] at this
   unfold badL; simp [this]
  ·have := h.rows i (Nat.zero_le _) hi
   unfold badM
   refine (any_badU 20 M[i]).2 (fun j h0 hj => ?_)
   have e := this.1
   rw [gD hi] at e
   have := this.2 j h0 (by omega)
   unfold N20 en at this
   rwa [gD hi] at this
open Classical in
theorem impl_is (M : List (List Int)) (q : List Int) (t : Bool) (ht : t = true ↔ POK M q) : impl_IsProblem.f M q = some t := by
 unfold impl_IsProblem.f
 rw [impl_mat, Option.bind_some]
 by_cases m : MatOK M
 ·rw [if_pos (by simpa using m)]
  by_cases c : q.length = M.length
  ·rw [if_pos (by omega)]
   unfold impl_allUpTo.f
   rw [if_pos (by decide), Option.bind_some]
   congr 1
   rw [Bool.eq_iff_iff, ht, Bool.not_eq_true', any_badU]
   exact ⟨fun h => ⟨m, c, h⟩, fun h => h.num⟩
  ·rw [if_neg (by omega), no_iff ht (fun h => c h.len)]
 ·rw [if_neg (by simpa using m), no_iff ht (fun h => m h.mat)]
end Go.Proofs.Ythdoilfjcgickaa.Pb
end
section
namespace Go.Proofs.Ythdoilfjcgickaa.Sd
open Go.RowKit Go.Proofs.YthdoilfjcgickaaW.PrintWords Go.Proofs.YthdoilfjcgickaaW.PrintMore Go.Proofs.Ythdoilfjcgickaa.Ma Go.Proofs.Ythdoilfjcgickaa.Pr Go.Proofs.Ythdoilfjcgickaa.Dt Go.Proofs.Ythdoilfjcgickaa.Bz
def en (l : List (List Int)) : Mat := fun i j => (l.getD i []).getD j 0
def SB (n : Nat) (A : Mat) : Prop := ∃ k, Bk n k A
theorem SB.mnr {n c : Nat} {A : Mat} (h : SB (n + 1) A) (hc : c < n + 1) : SB n (mnr c A) := by
 obtain ⟨k, h⟩ := h
 by_cases e : c = k
 ·subst e
  refine ⟨n, fun i j hi hj => ?_⟩
  have := h (i + 1) (up c j) (by omega) (up_lt hj)
  rw [if_neg (up_ne c j)] at this
  unfold Dt.mnr
  split <;> omega
 ·refine ⟨dn c k, fun i j hi hj => ?_⟩
  have := h (i + 1) (up c j) (by omega) (up_lt hj)
  unfold Dt.mnr
  by_cases q : up c j = k
  ·rw [if_pos q] at this
   rw [if_pos (by rw [← q, dn_up])]; exact this
  ·rw [if_neg q] at this
   split <;> omega
theorem SB.det {n : Nat} {A : Mat} (h : SB n A) (hn : n ≤ 5) : -1920000000 ≤ det n A ∧ det n A ≤ 1920000000 := by
 obtain ⟨k, h⟩ := h
 have h1 := det_absk n k A h
 have h2 := b20_le n hn
 omega
theorem SB.num {n : Nat} {A : Mat} (h : SB n A) {i j : Nat} (hi : i < n) (hj : j < n) : -100 ≤ A i j ∧ A i j ≤ 100 := by
 obtain ⟨k, h⟩ := h
 have := h i j hi hj
 split at this <;> omega
def mrow (l : List (List Int)) (c r : Nat) : List (List Int) := (List.range r).map fun i => ((l.getD (i + 1) []).take c) ++ ((l.getD (i + 1) []).drop (c + 1))
theorem mrow_len (l : List (List Int)) (c r : Nat) : (mrow l c r).length = r := by simp [mrow]
theorem mrow_succ (l : List (List Int)) (c r : Nat) : mrow l c (r + 1) = mrow l c r ++ [((l.getD (r + 1) []).take c) ++ ((l.getD (r + 1) []).drop (c + 1))] := by simp [mrow, List.range_succ]
theorem mrow_en (l : List (List Int)) (c r n : Nat) (hl : ∀ x ∈ l, x.length = n + 1) (hn : l.length = n + 1) (hc : c < n + 1) (i j : Nat) (hi : i < r) (hr : r ≤ n) (hj : j < n) : en (mrow l c r) i j = Dt.mnr c (en l) i j := by
 have hx : (l.getD (i + 1) []).length = n + 1 := by
  rw [List.getD_eq_getElem?_getD, List.getElem?_eq_getElem (show i + 1 < l.length by omega)]; exact hl _ (List.getElem_mem _)
 unfold en Dt.mnr mrow
 rw [List.getD_eq_getElem?_getD (l := List.map _ _), List.getElem?_map, List.getElem?_range hi]
 simp only [Option.map_some, Option.getD_some]
 show _ = (l.getD (i + 1) []).getD (up c j) 0
 generalize l.getD (i + 1) [] = x at hx ⊢
 rw [List.getD_eq_getElem?_getD, List.getD_eq_getElem?_getD]
 congr 1
 unfold up
 by_cases q : j < c
 ·rw [if_pos q, List.getElem?_append_left (by rw [List.length_take]; omega), List.getElem?_take_of_lt q]
 ·rw [if_neg q, List.getElem?_append_right (by rw [List.length_take]; omega), List.length_take, Nat.min_eq_left (by omega), List.getElem?_drop, show c + 1 + (j - c) = j + 1 from by omega]
theorem own_eq (x : List Int) (h : x.length < 17592186044416) : spec_l01Own.f x = some x := by
 unfold spec_l01Own.f
 simp only [Option.bind_some, List.length_nil, Nat.zero_add, List.nil_append]
 rw [if_pos h]
theorem rdL1 (l : List (List Int)) (i : Nat) : rd_L1 l (i : Int) = l.getD i [] := by simp [rd_L1]
theorem odd_sg (c : Nat) (x : Int) : (if Int.tmod (c : Int) 2 = 1 then -x else x) = sg c * x := by
 have e : Int.tmod (c : Int) 2 = ((c % 2 : Nat) : Int) := by rw [Int.tmod_eq_emod_of_nonneg (by omega)]; omega
 unfold sg
 by_cases q : c % 2 = 1
 ·rw [if_pos (by rw [e, q]; rfl), if_pos q]; omega
 ·rw [if_neg (by rw [e]; omega), if_neg q]; omega
theorem spec_det : ∀ (n : Nat) (l : List (List Int)), n ≤ 5 → l.length = n → (∀ x ∈ l, x.length = n) → SB n (en l) → Ev (fun k => spec_l01Det.f k l) (det n (en l)) := by
 intro n
 induction n with
 | zero =>
  intro l _ hn _ _
  show Ev _ (1 : Int)
  exact evstep (fun k => by rw [spec_l01Det.f]) (evpos (by omega) (evc rfl))
 | succ n ih =>
  intro l h5 hn hl hs
  have hrow (i : Nat) (hi : i < n + 1) : (l.getD i []).length = n + 1 := by
   rw [List.getD_eq_getElem?_getD, List.getElem?_eq_getElem (show i < l.length by omega)]; exact hl _ (List.getElem_mem _)
  let F : Nat → Int := fun k => sg k * (en l 0 k * det n (Dt.mnr k (en l)))
  have hF (k : Nat) (hk : k < n + 1) : -192000000000 ≤ F k ∧ F k ≤ 192000000000 := by
   have h1 := (hs.mnr hk).det (by omega)
   have h2 := hs.num (i := 0) (j := k) (by omega) hk
   have : (F k).natAbs ≤ 100 * 1920000000 := by
    show (sg k * (en l 0 k * det n (Dt.mnr k (en l)))).natAbs ≤ _
    rw [Int.natAbs_mul, Int.natAbs_mul, sg_abs, Nat.one_mul]
    exact Nat.mul_le_mul (by omega) (by omega)
   omega
  have hS : ∀ c, c ≤ n + 1 → -192000000000 * (c : Int) ≤ sm c F ∧ sm c F ≤ 192000000000 * (c : Int) := by
   intro c
   induction c with
   | zero => intro _; simp [sm]
   | succ c ihc =>
    intro hc
    have h1 := ihc (by omega)
    have h2 := hF c (by omega)
    simp only [sm]
    push_cast
    omega
  have key : ∀ q c, c + q = n + 1 → Ev (fun k => spec_l01Det.l0 k l (sm c F) c) (sm (n + 1) F) := by
   intro q
   induction q with
   | zero =>
    intro c hc
    obtain rfl : c = n + 1 := by omega
    exact evstep (fun k => by rw [spec_l01Det.l0]) (evneg (by omega) (evc rfl))
   | succ q ihq =>
    intro c hc
    have nx := ihq (c + 1) (by omega)
    have hr0 := hrow 0 (by omega)
    have e0 : rd (rd_L1 l 0) (c : Int) = en l 0 c := by
     rw [show rd_L1 l 0 = l.getD 0 [] from rdL1 l 0, rd_nat]; rfl
    have hr0' : (rd_L1 l 0).length = n + 1 := by rw [show rd_L1 l 0 = l.getD 0 [] from rdL1 l 0]; exact hr0
    have f1 := hF c (by omega)
    have s1 := hS c (by omega)
    have s2 := hS (c + 1) (by omega)
    refine evstep (fun k => by rw [spec_l01Det.l0]) (evpos (by omega) (evpos (by omega) (evpos (by omega) (evpos (by omega) ?_))))
    rw [e0]
    by_cases z : en l 0 c = 0
    ·refine evpos z ?_
     rw [w64 (x := (c : Int) + 1) (by omega) (by omega)]
     have e : sm (c + 1) F = sm c F := by
      show sm c F + sg c * (en l 0 c * det n (Dt.mnr c (en l))) = _
      rw [z]; simp
     rw [e] at nx
     exact nx
    ·refine evneg z ?_
     have build : ∀ p r, r + p = n → Ev (fun k => spec_l01Det.l1 k l (sm c F) c (mrow l c r) ((r + 1 : Nat) : Int)) (sm (n + 1) F) := by
      intro p
      induction p with
      | zero =>
       intro r hr
       obtain rfl : r = n := by omega
       refine evstep (fun k => by rw [spec_l01Det.l1]) (evneg (by omega) (evpos (by omega) (evpos (by omega) (evpos (by omega) ?_))))
       have hm := ih (mrow l c r) (by omega) (mrow_len l c r) (fun x hx => by
        obtain ⟨i, hi, rfl⟩ := List.mem_map.1 hx
        have := hrow (i + 1) (by have := List.mem_range.1 hi; omega)
        rw [List.length_append, List.length_take, List.length_drop]; omega) (by
        obtain ⟨k', hk'⟩ := hs.mnr (c := c) (by omega)
        exact ⟨k', fun i j hi hj => by rw [mrow_en l c r r hl hn (by omega) i j hi (Nat.le_refl _) hj]; exact hk' i j hi hj⟩)
       rw [det_congr (A := en (mrow l c r)) (B := Dt.mnr c (en l)) (fun i j hi hj => mrow_en l c r r hl hn (by omega) i j hi (Nat.le_refl _) hj)] at hm
       have hd := (hs.mnr (c := c) (by omega)).det (by omega)
       have ha := hs.num (i := 0) (j := c) (by omega) (by omega)
       refine evbind hm ?_
       rw [e0]
       have hp : -192000000000 ≤ en l 0 c * det r (Dt.mnr c (en l)) ∧ en l 0 c * det r (Dt.mnr c (en l)) ≤ 192000000000 := by
        have : (en l 0 c * det r (Dt.mnr c (en l))).natAbs ≤ 100 * 1920000000 := by
         rw [Int.natAbs_mul]; exact Nat.mul_le_mul (by omega) (by omega)
        omega
       have o := odd_sg c (en l 0 c * det r (Dt.mnr c (en l)))
       have fe : F c = sg c * (en l 0 c * det r (Dt.mnr c (en l))) := rfl
       have se : sm (c + 1) F = sm c F + F c := rfl
       rw [w64 (x := en l 0 c * det r (Dt.mnr c (en l))) (by omega) (by omega)]
       by_cases od : Int.tmod (c : Int) 2 = 1
       ·refine evpos od ?_
        rw [if_pos od] at o
        rw [w64 (x := -(en l 0 c * det r (Dt.mnr c (en l)))) (by omega) (by omega), o, ← fe, ← se, w64 (x := sm (c + 1) F) (by omega) (by omega), w64 (x := (c : Int) + 1) (by omega) (by omega)]
        exact nx
       ·refine evneg od ?_
        rw [if_neg od] at o
        rw [o, ← fe, ← se, w64 (x := sm (c + 1) F) (by omega) (by omega), w64 (x := (c : Int) + 1) (by omega) (by omega)]
        exact nx
      | succ p ihp =>
       intro r hr
       have hx := hrow (r + 1) (by omega)
       have nx2 := ihp (r + 1) (by omega)
       rw [mrow_succ] at nx2
       refine evstep (fun k => by rw [spec_l01Det.l1]) ?_
       rw [rdL1]
       refine evpos (by omega) (evpos (by omega) (evpos (by omega) (evpos (by omega) ?_)))
       rw [Int.toNat_natCast, w64 (x := (c : Int) + 1) (by omega) (by omega)]
       refine evsome (a := (l.getD (r + 1) []).take c) (own_eq _ (by rw [List.length_take]; omega)) (evpos (by omega) (evpos (by omega) (evpos ?_ (evpos (by rw [mrow_len]; omega) ?_))))
       ·rw [List.length_take, List.length_drop]; omega
       ·rw [show ((c : Int) + 1).toNat = c + 1 from by omega, w64 (x := ((r + 1 : Nat) : Int) + 1) (by omega) (by omega)]
        exact nx2
     have := build n 0 (by omega)
     exact this
  refine evstep (fun k => by rw [spec_l01Det.f]) (evneg (by omega) ?_)
  exact key (n + 1) 0 (by omega)
end Go.Proofs.Ythdoilfjcgickaa.Sd
end
section
namespace Go.Proofs.Ythdoilfjcgickaa.Mn
open Go.RowKit Go.Proofs.YthdoilfjcgickaaW.PrintWords Go.Proofs.YthdoilfjcgickaaW.PrintMore Go.Proofs.Ythdoilfjcgickaa.Ma Go.Proofs.Ythdoilfjcgickaa.Pr Go.Proofs.Ythdoilfjcgickaa.Dt Go.Proofs.Ythdoilfjcgickaa.Bz Go.Proofs.Ythdoilfjcgickaa.Bd Go.Proofs.Ythdoilfjcgickaa.Un Go.Proofs.Ythdoilfjcgickaa.Cz
section
variable {n : Nat} {l : List (List Int)} (h : Sq n l) (hn : n ≤ 5) (s : Int)
include h hn
theorem colM_small (i j : Nat) (hi : i < n) (hj : j < n) : (colM (bB s) (en l) i j).natAbs ≤ 20 := by
 have _h := hn
 have := h.num i j hi hj
 unfold colM
 split
 ·omega
 ·split <;> decide
theorem cols_det : Ev (fun k => spec_l01Det.f k (mk n n (colM (bB s) (en l)))) (det n (colM (bB s) (en l))) := by
 have he (i j : Nat) (hi : i < n) (hj : j < n) : en (mk n n (colM (bB s) (en l))) i j = colM (bB s) (en l) i j := mk_en n n _ i j hi hj
 have := Sd.spec_det n (mk n n (colM (bB s) (en l))) hn (mk_len _ _ _) (mk_rows _ _ _) ⟨0, fun i j hi hj => by
  show (en (mk n n (colM (bB s) (en l))) i j).natAbs ≤ _
  rw [he i j hi hj]
  have := colM_small h hn s i j hi hj
  split <;> omega⟩
 have e : det n (Sd.en (mk n n (colM (bB s) (en l)))) = det n (colM (bB s) (en l)) := det_congr he
 rw [e] at this
 exact this
end
end Go.Proofs.Ythdoilfjcgickaa.Mn
end
section
namespace Go.Proofs.Ythdoilfjcgickaa.Sv
open Go.RowKit Go.Proofs.YthdoilfjcgickaaW.PrintWords Go.Proofs.YthdoilfjcgickaaW.PrintMore Go.Proofs.Ythdoilfjcgickaa.Ma Go.Proofs.Ythdoilfjcgickaa.Pr Go.Proofs.Ythdoilfjcgickaa.Dt Go.Proofs.Ythdoilfjcgickaa.Bz Go.Proofs.Ythdoilfjcgickaa.Bd Go.Proofs.Ythdoilfjcgickaa.Un Go.Proofs.Ythdoilfjcgickaa.Cz Go.Proofs.Ythdoilfjcgickaa.Mn
open Go.Proofs.Ythdoilfjcgickaa.Hd (dO cM pcol rowsFrom rowsFrom_len sl slL)
def dc (n : Nat) (C : Mat) (x : List Int) (i : Nat) : Int := det n (cset i (fun r => x.getD r 0) C)
def sgn (d : Int) : Int := if d < 0 then -1 else if d > 0 then 1 else 0
section
variable {n : Nat} {l : List (List Int)} (h : Sq n l) (hn : n ≤ 5) (s : Int)
include h hn
theorem col_t (Q : List Int) (hQ : Q.length = n) (i : Nat) (hi : i < n) : Ev (fun k => impl_Problem_column.f k l Q (i : Int) true) (rw1 n (fun r => - en l r i)) := by
 have hl := h.len
 have at_ (r : Nat) (hr : r < n) : ((List.range n).map fun u => if u < r then - en l u i else 0).set r (- en l r i) = (List.range n).map fun u => if u < r + 1 then - en l u i else 0 := by
  apply List.ext_getElem
  ·simp
  ·intro k h1 h2
   have hk : k < n := by simpa using h2
   rw [List.getElem_set]
   simp only [List.getElem_map, List.getElem_range]
   by_cases e : r = k
   ·subst e; rw [if_pos rfl, if_pos (by omega)]
   ·rw [if_neg e]
    by_cases c : k < r
    ·rw [if_pos c, if_pos (by omega)]
    ·rw [if_neg c, if_neg (by omega)]
 have loop : ∀ q r, r + q = n → Ev (fun k => impl_Problem_column.l0 k (i : Int) true ((List.range n).map fun u => if u < r then - en l u i else 0) l (n : Int) r) (rw1 n (fun r => - en l r i)) := by
  intro q
  induction q with
  | zero =>
   intro r hr
   obtain rfl : r = n := by omega
   refine evstep (fun k => by rw [impl_Problem_column.l0]) (evneg (by omega) (evpos rfl (evc ?_)))
   congr 1
   exact List.map_congr_left (fun u hu => by rw [if_pos (List.mem_range.1 hu)])
  | succ q ih =>
   intro r hr
   have nx := ih (r + 1) (by omega)
   have hrow := h.row r (by omega)
   have hnum := h.num r i (by omega) hi
   refine evstep (fun k => by rw [impl_Problem_column.l0]) ?_
   rw [rdL1]
   refine evpos (by omega) (evpos (by omega) (evpos (by omega) (evpos rfl (evpos (by omega) (evpos (by omega) (evpos (by simp; omega) ?_))))))
   rw [rd_nat, show (l.getD r []).getD i 0 = en l r i from rfl, w64 (x := - en l r i) (by omega) (by omega), Int.toNat_natCast, at_ r (by omega), w64 (x := (r : Int) + 1) (by omega) (by omega)]
   exact nx
 unfold impl_Problem_column.f
 rw [hQ, hl]
 refine evpos (by omega) (evpos (by omega) ?_)
 have := loop n 0 (by omega)
 rw [show ((List.range n).map fun u => if u < 0 then - en l u i else 0) = List.replicate ((n : Int)).toNat 0 from by
  apply List.ext_getElem
  ·simp
  ·intro k h1 h2; simp] at this
 exact this
theorem col_f (Q : List Int) (hQ : Q.length = n) (i : Nat) (hi : i < n) : Ev (fun k => impl_Problem_column.f k l Q (i : Int) false) (rw1 n (fun r => if r = i then 1 else 0)) := by
 have hl := h.len
 have loop : ∀ q r, r + q = n → Ev (fun k => impl_Problem_column.l0 k (i : Int) false (List.replicate n 0) l (n : Int) r) (rw1 n (fun r => if r = i then 1 else 0)) := by
  intro q
  induction q with
  | zero =>
   intro r hr
   obtain rfl : r = n := by omega
   refine evstep (fun k => by rw [impl_Problem_column.l0]) (evneg (by omega) (evneg (by simp) (evpos (by omega) (evpos (by simp; omega) (evc ?_)))))
   congr 1
   rw [Int.toNat_natCast]
   apply List.ext_getElem
   ·simp [rw1]
   ·intro k h1 h2
    rw [List.getElem_set]
    simp only [rw1, List.getElem_map, List.getElem_range, List.getElem_replicate]
    by_cases e : i = k
    ·subst e; simp
    ·rw [if_neg e, if_neg (Ne.symm e)]
  | succ q ih =>
   intro r hr
   have nx := ih (r + 1) (by omega)
   refine evstep (fun k => by rw [impl_Problem_column.l0]) (evpos (by omega) (evpos (by omega) (evpos (by omega) (evneg (by simp) ?_))))
   rw [w64 (x := (r : Int) + 1) (by omega) (by omega)]
   exact nx
 unfold impl_Problem_column.f
 rw [hQ, hl]
 refine evpos (by omega) (evpos (by omega) ?_)
 have := loop n 0 (by omega)
 rw [Int.toNat_natCast]
 exact this
theorem colF_eq (Q : List Int) (hQ : Q.length = n) (i : Nat) (hi : i < n) : Ev (fun k => colF k l Q s i) (rw1 n (fun r => colM (bB s) (en l) r i)) := by
 unfold colF
 refine evsome (has_eq h hn s i (by omega)) ?_
 cases hb : bB s i with
 | true =>
  have := col_t h hn Q hQ i hi
  have e : (fun r => colM (bB s) (en l) r i) = fun r => - en l r i := by funext r; unfold colM; rw [if_pos hb]
  rw [e]; exact this
 | false =>
  have := col_f h hn Q hQ i hi
  have e : (fun r => colM (bB s) (en l) r i) = fun r => if r = i then 1 else 0 := by funext r; unfold colM; rw [if_neg (by simp [hb])]
  rw [e]; exact this
theorem cols_all (Q : List Int) (hQ : Q.length = n) : ∃ K, ∀ k, K ≤ k → ∀ i, i < n → colF k l Q s i = some (rw1 n (fun r => colM (bB s) (en l) r i)) := by
 have key : ∀ m, m ≤ n → ∃ K, ∀ k, K ≤ k → ∀ i, i < m → colF k l Q s i = some (rw1 n (fun r => colM (bB s) (en l) r i)) := by
  intro m
  induction m with
  | zero => intro _; exact ⟨0, fun k _ i hi => by omega⟩
  | succ m ih =>
   intro hm
   obtain ⟨K1, h1⟩ := ih (by omega)
   obtain ⟨K2, h2⟩ := colF_eq h hn s Q hQ m (by omega)
   refine ⟨K1 + K2, fun k hk i hi => ?_⟩
   by_cases e : i = m
   ·subst e; exact h2 k (by omega)
   ·exact h1 k (by omega) i (by omega)
 exact key n (Nat.le_refl _)
end
theorem en_rows (M : Mat) (n a d : Nat) (ha : a < n) (hd : d < n) : Hd.en (rowsFrom M n 0) a d = M a d := by
 unfold Hd.en rowsFrom
 simp [ha, hd]
theorem dO_det {n k : Nat} (hn : n ≤ 5) (M : Mat) (hb : Bk n k M) : dO n M = det n M := by
 unfold dO
 rw [dgo_det hn (k := k) (Hd.en (rowsFrom M n 0)) (fun i j hi hj => by rw [en_rows M n i j hi hj]; exact hb i j hi hj)]
 exact det_congr (fun i j hi hj => en_rows M n i j hi hj)
theorem sgn_mul (d x : Int) (hx : -1920000000 ≤ x ∧ x ≤ 1920000000) : wrap64 (sgn d * x) = sgn d * x := by
 unfold sgn
 split
 ·exact w64 (by omega) (by omega)
 ·split
  ·exact w64 (by omega) (by omega)
  ·exact w64 (by omega) (by omega)
section
variable {n : Nat} {l : List (List Int)} (h : Sq n l) (hn : n ≤ 5) (s : Int)
include h hn
theorem D_b : -1920000000 ≤ det n (colM (bB s) (en l)) ∧ det n (colM (bB s) (en l)) ≤ 1920000000 := by
 have h1 := det_abs20 n (colM (bB s) (en l)) (fun i j hi hj => colM_small h hn s i j hi hj)
 have h2 := b20_le n hn
 omega
end
section
variable {n : Nat} {l : List (List Int)} (h : Sq n l) (hn : n ≤ 5) (s : Int) (x : List Int) (hx : ∀ r, r < n → (x.getD r 0).natAbs ≤ 100)
include h hn hx
theorem cset_small (i : Nat) : Bk n i (cset i (fun r => x.getD r 0) (colM (bB s) (en l))) := by
 intro a d ha hd
 unfold cset
 by_cases e : d = i
 ·rw [if_pos e, if_pos e]; exact hx a ha
 ·rw [if_neg e, if_neg e]; exact colM_small h hn s a d ha hd
theorem dc_b (i : Nat) : -1920000000 ≤ dc n (colM (bB s) (en l)) x i ∧ dc n (colM (bB s) (en l)) x i ≤ 1920000000 := by
 have h1 := det_absk n i _ (cset_small h hn s x hx i)
 have h2 := b20_le n hn
 unfold dc
 omega
def solR (n : Nat) (C : Mat) (x : List Int) : List Int × Int × Bool := if det n C = 0 then ([], 0, false) else ((List.range n).map fun i => sgn (det n C) * dc n C x i, (if det n C < 0 then - det n C else det n C), true)
theorem impl_solve (Q : List Int) (hQ : Q.length = n) (hxl : x.length = n) (hp : 0 < n) : Ev (fun k => impl_Problem_solve.f k l Q s x) (solR n (colM (bB s) (en l)) x) := by
 obtain ⟨K, hK⟩ := cols_all h hn s Q hQ
 refine ⟨K, fun k hk => ?_⟩
 have hc := hK k hk
 have hL (i : Nat) (hi : i < n) : colL k l Q s i = rw1 n (fun r => colM (bB s) (en l) r i) := by unfold colL; rw [hc i hi]; rfl
 have hcM (a d : Nat) (ha : a < n) (hd : d < n) : cM (colL k l Q s) n a d = colM (bB s) (en l) a d := by
  unfold cM
  rw [if_pos hd, hL d hd]
  simp [rw1, ha]
 have hD : dO n (cM (colL k l Q s) n) = det n (colM (bB s) (en l)) := by
  rw [dO_det hn (k := 0) _ (fun i j hi hj => by rw [hcM i j hi hj]; have := colM_small h hn s i j hi hj; split <;> omega)]
  exact det_congr hcM
 have db := D_b h hn s
 show impl_Problem_solve.f k l Q s x = _
 unfold impl_Problem_solve.f
 rw [hQ]
 rw [if_pos ⟨hp, by omega, hxl, by
  unfold colOK
  rw [List.all_eq_true]
  intro i hi
  rw [hc i (List.mem_range.1 hi)]
  simp [rw1]⟩]
 rw [hD]
 have e1 : impl_sign.f (det n (colM (bB s) (en l))) = some (sgn (det n (colM (bB s) (en l)))) := by
  unfold impl_sign.f sgn
  split
  ·rfl
  ·split <;> rfl
 have e2 : impl_size.f (det n (colM (bB s) (en l))) = some (if det n (colM (bB s) (en l)) < 0 then - det n (colM (bB s) (en l)) else det n (colM (bB s) (en l))) := by
  unfold impl_size.f mx
  rw [w64 (x := - det n (colM (bB s) (en l))) (by omega) (by omega)]
  congr 1
  split <;> split <;> omega
 rw [e1, e2, Option.bind_some, Option.bind_some]
 congr 1
 unfold solR
 by_cases d : det n (colM (bB s) (en l)) = 0
 ·rw [if_pos d, if_pos d]
 ·rw [if_neg d, if_neg d]
  congr 1
  unfold slL
  refine List.map_congr_left (fun i hi => ?_)
  have hi := List.mem_range.1 hi
  rw [if_pos hi]
  unfold sl
  have hY (a d : Nat) (ha : a < n) (hd : d < n) : pcol (Hd.en (rowsFrom (cM (colL k l Q s) n) n 0)) i x n a d = cset i (fun r => x.getD r 0) (colM (bB s) (en l)) a d := by
   unfold pcol cset
   by_cases e : d = i
   ·rw [if_pos ⟨e, ha⟩, if_pos e]
   ·rw [if_neg (fun q => e q.1), if_neg e, en_rows _ n a d ha hd, hcM a d ha hd]
  rw [dO_det hn (k := i) _ (fun a d ha hd => by rw [hY a d ha hd]; exact cset_small h hn s x hx i a d ha hd), det_congr hY]
  exact sgn_mul _ _ (dc_b h hn s x hx i)
theorem spec_solve (hxl : x.length = n) : Ev (fun k => spec_l01Solve.f k (mk n n (colM (bB s) (en l))) x) ((List.range n).map (dc n (colM (bB s) (en l)) x), det n (colM (bB s) (en l))) := by
 have hml := mk_len n n (colM (bB s) (en l))
 have rows : ∀ q c, c + q = n → Ev (fun k => spec_l01Solve.l0 k (mk n n (colM (bB s) (en l))) x ((List.range c).map (dc n (colM (bB s) (en l)) x)) c) ((List.range n).map (dc n (colM (bB s) (en l)) x), det n (colM (bB s) (en l))) := by
  intro q
  induction q with
  | zero =>
   intro c hc
   obtain rfl : c = n := by omega
   exact evstep (fun k => by rw [spec_l01Solve.l0]) (evneg (by omega) (evbind (cols_det h hn s) (evc rfl)))
  | succ q ih =>
   intro c hc
   have nx := ih (c + 1) (by omega)
   rw [List.range_succ, List.map_append] at nx
   have build : ∀ p r, r + p = n → Ev (fun k => spec_l01Solve.l1 k (mk n n (colM (bB s) (en l))) x ((List.range c).map (dc n (colM (bB s) (en l)) x)) c (mk r n (cset c (fun r => x.getD r 0) (colM (bB s) (en l)))) r) ((List.range n).map (dc n (colM (bB s) (en l)) x), det n (colM (bB s) (en l))) := by
    intro p
    induction p with
    | zero =>
     intro r hr
     obtain rfl : r = n := by omega
     have he (i j : Nat) (hi : i < r) (hj : j < r) : en (mk r r (cset c (fun r => x.getD r 0) (colM (bB s) (en l)))) i j = cset c (fun r => x.getD r 0) (colM (bB s) (en l)) i j := mk_en r r _ i j hi hj
     have hd := Sd.spec_det r (mk r r (cset c (fun r => x.getD r 0) (colM (bB s) (en l)))) hn (mk_len _ _ _) (mk_rows _ _ _) ⟨c, fun i j hi hj => by
      show (en (mk r r (cset c (fun r => x.getD r 0) (colM (bB s) (en l)))) i j).natAbs ≤ _
      rw [he i j hi hj]; exact cset_small h hn s x hx c i j hi hj⟩
     have e : det r (Sd.en (mk r r (cset c (fun r => x.getD r 0) (colM (bB s) (en l))))) = dc r (colM (bB s) (en l)) x c := det_congr he
     rw [e] at hd
     refine evstep (fun k => by rw [spec_l01Solve.l1]) (evneg (by omega) (evbind hd ?_))
     refine evpos (by rw [List.length_map, List.length_range]; omega) ?_
     rw [w64 (x := (c : Int) + 1) (by omega) (by omega)]
     exact nx
    | succ p ihp =>
     intro r hr
     have nx2 := ihp (r + 1) (by omega)
     rw [mk_succ] at nx2
     refine evstep (fun k => by rw [spec_l01Solve.l1]) ?_
     rw [rdL1, mk_row n n _ r (by omega)]
     refine evpos (by omega) (evpos (by omega) (evsome (Sd.own_eq _ (by rw [rw1_len]; omega)) (evpos (by omega) (evpos (by omega) (evpos (by rw [rw1_len]; omega) (evpos (by rw [mk_len]; omega) ?_))))))
     rw [rd_nat, Int.toNat_natCast, w64 (x := (r : Int) + 1) (by omega) (by omega), show (rw1 n (colM (bB s) (en l) r)).set c (x.getD r 0) = rw1 n (cset c (fun r => x.getD r 0) (colM (bB s) (en l)) r) from by
      apply List.ext_getElem
      ·simp [rw1]
      ·intro k h1 h2
       rw [List.getElem_set]
       simp only [rw1, List.getElem_map, List.getElem_range, cset]
       by_cases e : c = k
       ·subst e; simp
       ·rw [if_neg e, if_neg (Ne.symm e)]]
     exact nx2
   refine evstep (fun k => by rw [spec_l01Solve.l0]) (evpos (by omega) ?_)
   exact build n 0 (by omega)
 exact rows n 0 (by omega)
end
end Go.Proofs.Ythdoilfjcgickaa.Sv
end
section
namespace Go.Proofs.Ythdoilfjcgickaa.Fr
open Go.RowKit Go.Proofs.YthdoilfjcgickaaW.PrintWords Go.Proofs.YthdoilfjcgickaaW.PrintMore Go.Proofs.Ythdoilfjcgickaa.Ma Go.Proofs.Ythdoilfjcgickaa.Pr
def gc (a b : Int) : Int := (Int.gcd a b : Int)
def Big (x : Int) : Prop := -4611686018427387904 ≤ x ∧ x ≤ 4611686018427387904
theorem gc_zero (a : Int) : gc a 0 = if 0 ≤ a then a else -a := by
 unfold gc
 rw [Int.gcd_zero_right]
 split <;> omega
theorem gc_step (a b : Int) : gc a b = gc b (Int.tmod a b) := by
 unfold gc Int.gcd
 rw [Int.natAbs_tmod, Nat.gcd_comm, Nat.gcd_rec, Nat.gcd_comm]
theorem tmod_lt {a b : Int} (h : b ≠ 0) : (Int.tmod a b).natAbs < b.natAbs := by
 rw [Int.natAbs_tmod]
 exact Nat.mod_lt _ (by omega)
theorem abs_eq {a : Int} (h : Big a) : mx a (wrap64 (-a)) = if 0 ≤ a then a else -a := by
 unfold Big at h
 rw [w64 (by omega) (by omega)]
 unfold mx
 split <;> split <;> omega
theorem spec_loop : ∀ (n : Nat) (a b : Int), b.natAbs ≤ n → Big a → Big b → Ev (fun k => spec_l01Gcd.l0 k a b) (gc a b) := by
 intro n
 induction n with
 | zero =>
  intro a b hn ha hb
  obtain rfl : b = 0 := by omega
  refine evstep (fun k => by rw [spec_l01Gcd.l0]) (evpos rfl (evc ?_))
  rw [abs_eq ha, gc_zero]
 | succ n ih =>
  intro a b hn ha hb
  by_cases e : b = 0
  ·subst e
   refine evstep (fun k => by rw [spec_l01Gcd.l0]) (evpos rfl (evc ?_))
   rw [abs_eq ha, gc_zero]
  ·refine evstep (fun k => by rw [spec_l01Gcd.l0]) (evneg e ?_)
   have h := tmod_lt (a := a) e
   rw [gc_step]
   exact ih b (Int.tmod a b) (by omega) hb (by unfold Big at *; omega)
theorem spec_gcd (a b : Int) (ha : Big a) (hb : Big b) : Ev (fun k => spec_l01Gcd.f k a b) (gc a b) := spec_loop b.natAbs a b (Nat.le_refl _) ha hb
end Go.Proofs.Ythdoilfjcgickaa.Fr
end
section
namespace Go.Proofs.Ythdoilfjcgickaa.Pr
open Go.RowKit Go.Proofs.YthdoilfjcgickaaW.PrintWords Go.Proofs.YthdoilfjcgickaaW.PrintLast Go.Proofs.YthdoilfjcgickaaW.PrintMore
attribute [local go_sem] max2_int min2_int max_two min_two max_three min_three max_four min_four
mutual
def impl_exchanged.l0 : Nat → List Int → Int → Int → Int → Int → Int → List Int → Int → Int → Option (Int)
 | 0, _, _, _, _, _, _, _, _, _ => none
 | k + 1, x0, x1, x5, x6, x7, x8, x11, x12, x13 => if x13 < x12 then (if 0 ≤ x13 then (if x13 < (x11.length : Int) then (if (rd x11 x13) ≥ 0 then (impl_exchanged.l0 k x0 x1 x5 x6 x7 x8 x11 x12 (wrap64 (x13 + 1))) else (if x6 < 0 then (if 0 ≤ x8 then (if x8 < (x0.length : Int) then (if (rd x11 x13) < (rd x0 x8) then (impl_exchanged.l0 k x0 x1 (Go.bits .or .i64 x5 (shl .i64 1 x13)) x13 x13 x13 x11 x12 (wrap64 (x13 + 1))) else (impl_exchanged.l0 k x0 x1 (Go.bits .or .i64 x5 (shl .i64 1 x13)) x13 x13 x8 x11 x12 (wrap64 (x13 + 1)))) else (none)) else (none)) else (if 0 ≤ x8 then (if x8 < (x0.length : Int) then (if (rd x11 x13) < (rd x0 x8) then (impl_exchanged.l0 k x0 x1 (Go.bits .or .i64 x5 (shl .i64 1 x13)) x6 x13 x13 x11 x12 (wrap64 (x13 + 1))) else (impl_exchanged.l0 k x0 x1 (Go.bits .or .i64 x5 (shl .i64 1 x13)) x6 x13 x8 x11 x12 (wrap64 (x13 + 1)))) else (none)) else (none)))) else (none)) else (none)) else (if x5 = 0 then (impl_exchanged.j1 k x1 x5 x6 x7 x8 true) else (impl_exchanged.j1 k x1 x5 x6 x7 x8 (x1 == 3)))
def impl_exchanged.j1 : Nat → Int → Int → Int → Int → Int → Bool → Option (Int)
 | 0, _, _, _, _, _, _ => none
 | k + 1, x1, x5, x6, x7, x8, x36 => if x36 = true then (some x5) else (if x1 = 0 then (if 0 ≤ x6 then (some (shl .i64 1 x6)) else (none)) else (if x1 = 1 then (if 0 ≤ x7 then (some (shl .i64 1 x7)) else (none)) else (if 0 ≤ x8 then (some (shl .i64 1 x8)) else (none))))
end
def impl_exchanged.f (k : Nat) (l0 : List Int) (a1 : Int) : Option (Int) := impl_exchanged.l0 k l0 a1 0 (-1) (-1) 0 l0 (l0.length : Int) 0
theorem impl_exchanged.mono_l : ∀ k, (∀ y0 y1 y2 y3 y4 y5 y6 y7 y8, LeO (impl_exchanged.l0 k y0 y1 y2 y3 y4 y5 y6 y7 y8) (impl_exchanged.l0 (k + 1) y0 y1 y2 y3 y4 y5 y6 y7 y8)) ∧ (∀ y0 y1 y2 y3 y4 y5, LeO (impl_exchanged.j1 k y0 y1 y2 y3 y4 y5) (impl_exchanged.j1 (k + 1) y0 y1 y2 y3 y4 y5))
 | 0 => ⟨fun _ _ _ _ _ _ _ _ _ r h => by simp [impl_exchanged.l0] at h, fun _ _ _ _ _ _ r h => by simp [impl_exchanged.j1] at h⟩
 | k + 1 => by
  obtain ⟨ih0, ih1⟩ := impl_exchanged.mono_l k
  refine ⟨?_, ?_⟩
  ·intro y0 y1 y2 y3 y4 y5 y6 y7 y8
   unfold impl_exchanged.l0
   repeat' first
   | (with_reducible exact ih0 _ _ _ _ _ _ _ _ _)
   | (with_reducible exact ih1 _ _ _ _ _ _)
   | (with_reducible exact LeO.refl _)
   | (with_reducible exact LeO.none _)
   | (with_reducible refine LeO.ite ?_ ?_)
   | (with_reducible refine LeO.bind ?_ (fun _ => ?_))
   | exact ih0 _ _ _ _ _ _ _ _ _
   | exact ih1 _ _ _ _ _ _
   | exact LeO.none _
   | refine LeO.ite ?_ ?_
   | refine LeO.bind ?_ (fun _ => ?_)
  ·intro y0 y1 y2 y3 y4 y5
   unfold impl_exchanged.j1
   repeat' first
   | (with_reducible exact ih0 _ _ _ _ _ _ _ _ _)
   | (with_reducible exact ih1 _ _ _ _ _ _)
   | (with_reducible exact LeO.refl _)
   | (with_reducible exact LeO.none _)
   | (with_reducible refine LeO.ite ?_ ?_)
   | (with_reducible refine LeO.bind ?_ (fun _ => ?_))
   | exact ih0 _ _ _ _ _ _ _ _ _
   | exact ih1 _ _ _ _ _ _
   | exact LeO.none _
   | refine LeO.ite ?_ ?_
   | refine LeO.bind ?_ (fun _ => ?_)
theorem impl_exchanged.mono : ∀ a0 a1 k, LeO (impl_exchanged.f k a0 a1) (impl_exchanged.f (k + 1) a0 a1) := by
 intro a0 a1 k
 obtain ⟨ih0, ih1⟩ := impl_exchanged.mono_l k
 unfold impl_exchanged.f
 repeat' first
   | (with_reducible exact ih0 _ _ _ _ _ _ _ _ _)
   | (with_reducible exact ih1 _ _ _ _ _ _)
   | (with_reducible exact LeO.refl _)
   | (with_reducible exact LeO.none _)
   | (with_reducible refine LeO.ite ?_ ?_)
   | (with_reducible refine LeO.bind ?_ (fun _ => ?_))
   | exact ih0 _ _ _ _ _ _ _ _ _
   | exact ih1 _ _ _ _ _ _
   | exact LeO.none _
   | refine LeO.ite ?_ ?_
   | refine LeO.bind ?_ (fun _ => ?_)
theorem impl_exchanged.calls (k : Nat) (A0 : Option Addr) (c0 : Nat) (l0 : List Int) (a1 : Int) (r : Int) (w : World) (hr0 : Kd.C (Kd.int .i64) w A0 l0.length l0) (hc0 : l0.length ≤ c0) (h : impl_exchanged.f k l0 a1 = some r) :
  Calls Try.prog 112 #[.slice A0 l0.length c0, .int .i64 a1] w fun e w' => e = .returned (.int .i64 r) ∧ Drawn0 w w' := by
 have HR0 := Aside0.mk hr0
 have HC0 := Aside0.mk hc0
 clear hr0 hc0
 have H : (impl_exchanged.l0 k l0 a1 0 (-1) (-1) 0 l0 (l0.length : Int) 0) = some r := h
 clear h
 have H' := Aside0.mk H
 clear H
 go_enter Try.func112, Try.ntmps112
 go_wp2
 go_loopg [5, 6, 7, 8, 13] k (fun kq v5 v6 v7 v8 v13 w' => ∃ (x5_1 : Int) (x6_1 : Int) (x7_1 : Int) (x8_1 : Int) (x13_1 : Int), v5 = .int .i64 x5_1 ∧ v6 = .int .i64 x6_1 ∧ v7 = .int .i64 x7_1 ∧ v8 = .int .i64 x8_1 ∧ v13 = .int .i64 x13_1 ∧ Aside0 (impl_exchanged.l0 kq l0 a1 x5_1 x6_1 x7_1 x8_1 l0 (l0.length : Int) x13_1 = some r) ∧ Aside0 (kq ≤ k) ∧ Drawn0 w w')
 case atStart => exact ⟨(0), ((-1)), ((-1)), (0), (0), (by first | rfl | (simp; done) | (simp [*]; done)), (by first | rfl | (simp; done) | (simp [*]; done)), (by first | rfl | (simp; done) | (simp [*]; done)), (by first | rfl | (simp; done) | (simp [*]; done)), (by first | rfl | (simp; done) | (simp [*]; done)), H', ⟨Nat.le_refl _⟩, by repeat (first | exact Drawn0.refl _ | apply Drawn0.step)⟩
 case round =>
  clear H'
  try clear c1
  try clear p2
  obtain ⟨x5_1, x6_1, x7_1, x8_1, x13_1, rfl, rfl, rfl, rfl, rfl, HA, HK1, ⟨m1, rfl⟩⟩ := hrel
  cases gk with
  | zero => exact absurd HA.out (by simp [impl_exchanged.l0])
  | succ k1 =>
   have H := HA.out
   clear HA
   simp only [impl_exchanged.l0] at H
   by_cases c3 : x13_1 < (l0.length : Int)
   ·rw [if_pos c3] at H
    have c3b0 : decide (x13_1 < (l0.length : Int)) = true := decide_eq_true c3
    clear c3
    by_cases c4 : 0 ≤ x13_1
    ·rw [if_pos c4] at H
     have c4b0 : decide (0 ≤ x13_1) = true := decide_eq_true c4
     clear c4
     by_cases c5 : x13_1 < (l0.length : Int)
     ·rw [if_pos c5] at H
      have c5b0 : decide (x13_1 < (l0.length : Int)) = true := decide_eq_true c5
      clear c5
      by_cases c6 : (rd l0 x13_1) ≥ 0
      ·rw [if_pos c6] at H
       have c6b0 : decide (0 ≤ (rd l0 x13_1)) = true := decide_eq_true c6
       clear c6
       have H' := Aside0.mk H
       clear H
       have p668 : 0 ≤ (x13_1 : Int) := of_decide_eq_true (by first | (with_reducible assumption) | assumption)
       have q668 : x13_1 < (l0.length : Int) := of_decide_eq_true (by first | (with_reducible assumption) | assumption)
       obtain ⟨ad668, e668, hx668_0⟩ := Kd.at_int HR0.out x13_1 p668 q668
       cases e668
       replace p668 := eq_true p668
       replace q668 := eq_true q668
       go_wp2
       go_roundg k1
       case measure => have := HK1.out; omega
       case rel => exact ⟨(x5_1), (x6_1), (x7_1), (x8_1), (wrap64 (x13_1 + 1)), (by first | rfl | (simp; done) | (simp [*]; done)), (by first | rfl | (simp; done) | (simp [*]; done)), (by first | rfl | (simp; done) | (simp [*]; done)), (by first | rfl | (simp; done) | (simp [*]; done)), (by first | rfl | (simp; done) | (simp [*]; done)), H', ⟨by have := HK1.out; omega⟩, by repeat (first | exact Drawn0.refl _ | apply Drawn0.step)⟩
      ·rw [if_neg c6] at H
       have c6b0 : decide (0 ≤ (rd l0 x13_1)) = false := decide_eq_false c6
       clear c6
       have c7b0 := eq_true (of_decide_eq_true (by first | (with_reducible assumption) | assumption) : 0 ≤ x13_1)
       obtain ⟨ji8, hji8⟩ : ∃ j_ : Int, (shl .i64 1 x13_1) = j_ := ⟨_, rfl⟩
       replace H : (if x6_1 < 0 then (if 0 ≤ x8_1 then (if x8_1 < (l0.length : Int) then (if (rd l0 x13_1) < (rd l0 x8_1) then (impl_exchanged.l0 k1 l0 a1 (Go.bits .or .i64 x5_1 (ji8)) x13_1 x13_1 x13_1 l0 (l0.length : Int) (wrap64 (x13_1 + 1))) else (impl_exchanged.l0 k1 l0 a1 (Go.bits .or .i64 x5_1 (ji8)) x13_1 x13_1 x8_1 l0 (l0.length : Int) (wrap64 (x13_1 + 1)))) else (none)) else (none)) else (if 0 ≤ x8_1 then (if x8_1 < (l0.length : Int) then (if (rd l0 x13_1) < (rd l0 x8_1) then (impl_exchanged.l0 k1 l0 a1 (Go.bits .or .i64 x5_1 (ji8)) x6_1 x13_1 x13_1 l0 (l0.length : Int) (wrap64 (x13_1 + 1))) else (impl_exchanged.l0 k1 l0 a1 (Go.bits .or .i64 x5_1 (ji8)) x6_1 x13_1 x8_1 l0 (l0.length : Int) (wrap64 (x13_1 + 1)))) else (none)) else (none))) = some r := by first | (rw [hji8] at H; exact H) | (simp only [hji8] at H ⊢; exact H)
       have hji8_ : (IntKind.i64.wrap (1 * 2 ^ min x13_1.toNat 64)) = ji8 := hji8
       have hji8z : x13_1 ≤ 64 → (IntKind.i64.wrap (1 * 2 ^ x13_1.toNat)) = ji8 := shl_small hji8
       have hji8u : (IntKind.i64.wrap (2 ^ min x13_1.toNat 64)) = ji8 := by have h_ := hji8_; rw [Int.one_mul] at h_; exact h_
       have hji8v : x13_1 ≤ 64 → (IntKind.i64.wrap (2 ^ x13_1.toNat)) = ji8 := fun hle_ => by have h_ := hji8z hle_; rw [Int.one_mul] at h_; exact h_
       have hji8y : (wrap64 (1 * 2 ^ min x13_1.toNat 64)) = ji8 := (i64_w _).symm.trans hji8_
       have hji8x : x13_1 ≤ 64 → (wrap64 (1 * 2 ^ x13_1.toNat)) = ji8 := fun h_ => (i64_w _).symm.trans (hji8z h_)
       by_cases c9 : x6_1 < 0
       ·rw [if_pos c9] at H
        have c9b0 : decide (x6_1 < 0) = true := decide_eq_true c9
        clear c9
        by_cases c10 : 0 ≤ x8_1
        ·rw [if_pos c10] at H
         have c10b0 : decide (0 ≤ x8_1) = true := decide_eq_true c10
         clear c10
         by_cases c11 : x8_1 < (l0.length : Int)
         ·rw [if_pos c11] at H
          have c11b0 : decide (x8_1 < (l0.length : Int)) = true := decide_eq_true c11
          clear c11
          by_cases c12 : (rd l0 x13_1) < (rd l0 x8_1)
          ·rw [if_pos c12] at H
           have c12b0 : decide ((rd l0 x13_1) < (rd l0 x8_1)) = true := decide_eq_true c12
           clear c12
           have H' := Aside0.mk H
           clear H
           have p668 : 0 ≤ (x13_1 : Int) := of_decide_eq_true (by first | (with_reducible assumption) | assumption)
           have q668 : x13_1 < (l0.length : Int) := of_decide_eq_true (by first | (with_reducible assumption) | assumption)
           obtain ⟨ad668, e668, hx668_0⟩ := Kd.at_int HR0.out x13_1 p668 q668
           cases e668
           replace p668 := eq_true p668
           replace q668 := eq_true q668
           have p669 : 0 ≤ (x8_1 : Int) := of_decide_eq_true (by first | (with_reducible assumption) | assumption)
           have q669 : x8_1 < (l0.length : Int) := of_decide_eq_true (by first | (with_reducible assumption) | assumption)
           obtain ⟨ad669, e669, hx669_0⟩ := Kd.at_int HR0.out x8_1 p669 q669
           obtain rfl : ad668 = ad669 := (by injection e669)
           replace p669 := eq_true p669
           replace q669 := eq_true q669
           go_wp2
           go_roundg k1
           case measure => have := HK1.out; omega
           case rel => exact ⟨(Go.bits .or .i64 x5_1 (ji8)), (x13_1), (x13_1), (x13_1), (wrap64 (x13_1 + 1)), (by first | rfl | (simp; done) | (simp only [← hji8] <;> (first | rfl | simp)) | (simp [*]; done)), (by first | rfl | (simp; done) | (simp [*]; done)), (by first | rfl | (simp; done) | (simp [*]; done)), (by first | rfl | (simp; done) | (simp [*]; done)), (by first | rfl | (simp; done) | (simp [*]; done)), H', ⟨by have := HK1.out; omega⟩, by repeat (first | exact Drawn0.refl _ | apply Drawn0.step)⟩
          ·rw [if_neg c12] at H
           have c12b0 : decide ((rd l0 x13_1) < (rd l0 x8_1)) = false := decide_eq_false c12
           clear c12
           have H' := Aside0.mk H
           clear H
           have p668 : 0 ≤ (x13_1 : Int) := of_decide_eq_true (by first | (with_reducible assumption) | assumption)
           have q668 : x13_1 < (l0.length : Int) := of_decide_eq_true (by first | (with_reducible assumption) | assumption)
           obtain ⟨ad668, e668, hx668_0⟩ := Kd.at_int HR0.out x13_1 p668 q668
           cases e668
           replace p668 := eq_true p668
           replace q668 := eq_true q668
           have p669 : 0 ≤ (x8_1 : Int) := of_decide_eq_true (by first | (with_reducible assumption) | assumption)
           have q669 : x8_1 < (l0.length : Int) := of_decide_eq_true (by first | (with_reducible assumption) | assumption)
           obtain ⟨ad669, e669, hx669_0⟩ := Kd.at_int HR0.out x8_1 p669 q669
           obtain rfl : ad668 = ad669 := (by injection e669)
           replace p669 := eq_true p669
           replace q669 := eq_true q669
           go_wp2
           go_roundg k1
           case measure => have := HK1.out; omega
           case rel => exact ⟨(Go.bits .or .i64 x5_1 (ji8)), (x13_1), (x13_1), (x8_1), (wrap64 (x13_1 + 1)), (by first | rfl | (simp; done) | (simp only [← hji8] <;> (first | rfl | simp)) | (simp [*]; done)), (by first | rfl | (simp; done) | (simp [*]; done)), (by first | rfl | (simp; done) | (simp [*]; done)), (by first | rfl | (simp; done) | (simp [*]; done)), (by first | rfl | (simp; done) | (simp [*]; done)), H', ⟨by have := HK1.out; omega⟩, by repeat (first | exact Drawn0.refl _ | apply Drawn0.step)⟩
         ·rw [if_neg c11] at H
          exact absurd H (by simp)
        ·rw [if_neg c10] at H
         exact absurd H (by simp)
       ·rw [if_neg c9] at H
        have c9b0 : decide (x6_1 < 0) = false := decide_eq_false c9
        clear c9
        by_cases c13 : 0 ≤ x8_1
        ·rw [if_pos c13] at H
         have c13b0 : decide (0 ≤ x8_1) = true := decide_eq_true c13
         clear c13
         by_cases c14 : x8_1 < (l0.length : Int)
         ·rw [if_pos c14] at H
          have c14b0 : decide (x8_1 < (l0.length : Int)) = true := decide_eq_true c14
          clear c14
          by_cases c15 : (rd l0 x13_1) < (rd l0 x8_1)
          ·rw [if_pos c15] at H
           have c15b0 : decide ((rd l0 x13_1) < (rd l0 x8_1)) = true := decide_eq_true c15
           clear c15
           have H' := Aside0.mk H
           clear H
           have p668 : 0 ≤ (x13_1 : Int) := of_decide_eq_true (by first | (with_reducible assumption) | assumption)
           have q668 : x13_1 < (l0.length : Int) := of_decide_eq_true (by first | (with_reducible assumption) | assumption)
           obtain ⟨ad668, e668, hx668_0⟩ := Kd.at_int HR0.out x13_1 p668 q668
           cases e668
           replace p668 := eq_true p668
           replace q668 := eq_true q668
           have p670 : 0 ≤ (x8_1 : Int) := of_decide_eq_true (by first | (with_reducible assumption) | assumption)
           have q670 : x8_1 < (l0.length : Int) := of_decide_eq_true (by first | (with_reducible assumption) | assumption)
           obtain ⟨ad670, e670, hx670_0⟩ := Kd.at_int HR0.out x8_1 p670 q670
           obtain rfl : ad668 = ad670 := (by injection e670)
           replace p670 := eq_true p670
           replace q670 := eq_true q670
           go_wp2
           go_roundg k1
           case measure => have := HK1.out; omega
           case rel => exact ⟨(Go.bits .or .i64 x5_1 (ji8)), (x6_1), (x13_1), (x13_1), (wrap64 (x13_1 + 1)), (by first | rfl | (simp; done) | (simp only [← hji8] <;> (first | rfl | simp)) | (simp [*]; done)), (by first | rfl | (simp; done) | (simp [*]; done)), (by first | rfl | (simp; done) | (simp [*]; done)), (by first | rfl | (simp; done) | (simp [*]; done)), (by first | rfl | (simp; done) | (simp [*]; done)), H', ⟨by have := HK1.out; omega⟩, by repeat (first | exact Drawn0.refl _ | apply Drawn0.step)⟩
          ·rw [if_neg c15] at H
           have c15b0 : decide ((rd l0 x13_1) < (rd l0 x8_1)) = false := decide_eq_false c15
           clear c15
           have H' := Aside0.mk H
           clear H
           have p668 : 0 ≤ (x13_1 : Int) := of_decide_eq_true (by first | (with_reducible assumption) | assumption)
           have q668 : x13_1 < (l0.length : Int) := of_decide_eq_true (by first | (with_reducible assumption) | assumption)
           obtain ⟨ad668, e668, hx668_0⟩ := Kd.at_int HR0.out x13_1 p668 q668
           cases e668
           replace p668 := eq_true p668
           replace q668 := eq_true q668
           have p670 : 0 ≤ (x8_1 : Int) := of_decide_eq_true (by first | (with_reducible assumption) | assumption)
           have q670 : x8_1 < (l0.length : Int) := of_decide_eq_true (by first | (with_reducible assumption) | assumption)
           obtain ⟨ad670, e670, hx670_0⟩ := Kd.at_int HR0.out x8_1 p670 q670
           obtain rfl : ad668 = ad670 := (by injection e670)
           replace p670 := eq_true p670
           replace q670 := eq_true q670
           go_wp2
           go_roundg k1
           case measure => have := HK1.out; omega
           case rel => exact ⟨(Go.bits .or .i64 x5_1 (ji8)), (x6_1), (x13_1), (x8_1), (wrap64 (x13_1 + 1)), (by first | rfl | (simp; done) | (simp only [← hji8] <;> (first | rfl | simp)) | (simp [*]; done)), (by first | rfl | (simp; done) | (simp [*]; done)), (by first | rfl | (simp; done) | (simp [*]; done)), (by first | rfl | (simp; done) | (simp [*]; done)), (by first | rfl | (simp; done) | (simp [*]; done)), H', ⟨by have := HK1.out; omega⟩, by repeat (first | exact Drawn0.refl _ | apply Drawn0.step)⟩
         ·rw [if_neg c14] at H
          exact absurd H (by simp)
        ·rw [if_neg c13] at H
         exact absurd H (by simp)
     ·rw [if_neg c5] at H
      exact absurd H (by simp)
    ·rw [if_neg c4] at H
     exact absurd H (by simp)
   ·rw [if_neg c3] at H
    have c3b0 : decide (x13_1 < (l0.length : Int)) = false := decide_eq_false c3
    clear c3
    have HC16 := Aside0.mk H
    clear H
    go_upto_region 13 with (fail)
    go_cut [36] (fun v36 wc => ∃ (kq : Nat) (x36_15 : Bool), v36 = .bool x36_15 ∧ Aside0 (impl_exchanged.j1 kq a1 x5_1 x6_1 x7_1 x8_1 x36_15 = some r) ∧ Aside0 (kq ≤ k1) ∧ Drawn0 w wc)
    case first =>
     have H := HC16.out
     clear HC16
     by_cases c17 : x5_1 = 0
     ·rw [if_pos c17] at H
      have c17b0 : (x5_1 == 0) = true := beq_iff_eq.mpr c17
      have c17b1 : (x5_1 != 0) = false := bne_eq_false_iff_eq.mpr c17
      clear c17
      (first | rw [c17b0] | (simp only [i64_w, i32_w]; rw [c17b0]) | skip)
      have H' := Aside0.mk H
      clear H
      go_wp2
      go_meet
      case rel => exact ⟨_, (true), (by first | rfl | (simp; done) | (simp [*]; done)), H', ⟨by have := HK1.out; first | omega | exact Nat.le_refl _⟩, by repeat (first | exact Drawn0.refl _ | apply Drawn0.step)⟩
     ·rw [if_neg c17] at H
      have c17b0 : (x5_1 == 0) = false := beq_eq_false_iff_ne.mpr c17
      have c17b1 : (x5_1 != 0) = true := bne_iff_ne.mpr c17
      (first | rw [c17b0] | (simp only [i64_w, i32_w]; rw [c17b0]) | skip)
      have H' := Aside0.mk H
      clear H
      go_wp2
      go_meet
      case rel => exact ⟨_, ((a1 == 3)), (by first | rfl | (simp; done) | (simp [*]; done)), H', ⟨by have := HK1.out; first | omega | exact Nat.le_refl _⟩, by repeat (first | exact Drawn0.refl _ | apply Drawn0.step)⟩
    case rest =>
     clear HC16
     try clear c1
     try clear p2
     try clear c3
     try clear c3b0
     try clear c4
     try clear c4b0
     try clear c5
     try clear c5b0
     try clear c6
     try clear c6b0
     try clear p6
     try clear q6
     try clear hx6
     try clear c7
     try clear c7b0
     try clear c9
     try clear c9b0
     try clear c10
     try clear c10b0
     try clear c11
     try clear c11b0
     try clear c12
     try clear c12b0
     try clear c13
     try clear c13b0
     try clear c14
     try clear c14b0
     try clear c15
     try clear c15b0
     try clear c17
     try clear c17b0
     try clear c17b1
     try clear hx668_0
     try clear hx669_0
     try clear hx670_0
     try clear p2
     try clear p668
     try clear p669
     try clear p670
     try clear q668
     try clear q669
     try clear q670
     obtain ⟨kq, x36_15, rfl, HA, HJ15, ⟨mc15, rfl⟩⟩ := hcut
     cases kq with
     | zero => exact absurd HA.out (by simp [impl_exchanged.j1])
     | succ kj15 =>
      have H := HA.out
      clear HA
      simp only [impl_exchanged.j1] at H
      by_cases c18 : x36_15 = true
      ·subst c18
       have H1 : (some x5_1) = some r := by rw [if_pos rfl] at H; exact H
       clear H
       have H := H1
       clear H1
       obtain rfl := Option.some.inj H
       go_wp2
       go_ret
       exact ⟨by first | rfl | (simp; done) | (simp [*]; done), by repeat (first | exact Drawn0.refl _ | apply Drawn0.step)⟩
      ·replace c18 := Bool.eq_false_iff.mpr c18
       subst c18
       have H1 : (if a1 = 0 then (if 0 ≤ x6_1 then (some (shl .i64 1 x6_1)) else (none)) else (if a1 = 1 then (if 0 ≤ x7_1 then (some (shl .i64 1 x7_1)) else (none)) else (if 0 ≤ x8_1 then (some (shl .i64 1 x8_1)) else (none)))) = some r := by rw [if_neg (show ¬ (false = true) by decide)] at H; exact H
       clear H
       have H := H1
       clear H1
       by_cases c19 : a1 = 0
       ·rw [if_pos c19] at H
        have c19b0 : (a1 == 0) = true := beq_iff_eq.mpr c19
        have c19b1 : (a1 != 0) = false := bne_eq_false_iff_eq.mpr c19
        clear c19
        by_cases c20 : 0 ≤ x6_1
        ·rw [if_pos c20] at H
         have c20b0 := eq_true c20
         have c20b1 : decide (0 ≤ x6_1) = true := decide_eq_true c20
         clear c20
         obtain ⟨ji21, hji21⟩ : ∃ j_ : Int, (shl .i64 1 x6_1) = j_ := ⟨_, rfl⟩
         replace H : (some ji21) = some r := by first | (rw [hji21] at H; exact H) | (simp only [hji21] at H ⊢; exact H)
         have hji21_ : (IntKind.i64.wrap (1 * 2 ^ min x6_1.toNat 64)) = ji21 := hji21
         have hji21z : x6_1 ≤ 64 → (IntKind.i64.wrap (1 * 2 ^ x6_1.toNat)) = ji21 := shl_small hji21
         have hji21u : (IntKind.i64.wrap (2 ^ min x6_1.toNat 64)) = ji21 := by have h_ := hji21_; rw [Int.one_mul] at h_; exact h_
         have hji21v : x6_1 ≤ 64 → (IntKind.i64.wrap (2 ^ x6_1.toNat)) = ji21 := fun hle_ => by have h_ := hji21z hle_; rw [Int.one_mul] at h_; exact h_
         have hji21y : (wrap64 (1 * 2 ^ min x6_1.toNat 64)) = ji21 := (i64_w _).symm.trans hji21_
         have hji21x : x6_1 ≤ 64 → (wrap64 (1 * 2 ^ x6_1.toNat)) = ji21 := fun h_ => (i64_w _).symm.trans (hji21z h_)
         obtain rfl := Option.some.inj H
         go_wp2
         go_ret
         exact ⟨by first | rfl | (simp; done) | (simp only [← hji21] <;> (first | rfl | simp)) | (simp [*]; done), by repeat (first | exact Drawn0.refl _ | apply Drawn0.step)⟩
        ·rw [if_neg c20] at H
         exact absurd H (by simp)
       ·rw [if_neg c19] at H
        have c19b0 : (a1 == 0) = false := beq_eq_false_iff_ne.mpr c19
        have c19b1 : (a1 != 0) = true := bne_iff_ne.mpr c19
        by_cases c22 : a1 = 1
        ·rw [if_pos c22] at H
         have c22b0 : (a1 == 1) = true := beq_iff_eq.mpr c22
         have c22b1 : (a1 != 1) = false := bne_eq_false_iff_eq.mpr c22
         clear c22
         by_cases c23 : 0 ≤ x7_1
         ·rw [if_pos c23] at H
          have c23b0 := eq_true c23
          have c23b1 : decide (0 ≤ x7_1) = true := decide_eq_true c23
          clear c23
          obtain ⟨ji24, hji24⟩ : ∃ j_ : Int, (shl .i64 1 x7_1) = j_ := ⟨_, rfl⟩
          replace H : (some ji24) = some r := by first | (rw [hji24] at H; exact H) | (simp only [hji24] at H ⊢; exact H)
          have hji24_ : (IntKind.i64.wrap (1 * 2 ^ min x7_1.toNat 64)) = ji24 := hji24
          have hji24z : x7_1 ≤ 64 → (IntKind.i64.wrap (1 * 2 ^ x7_1.toNat)) = ji24 := shl_small hji24
          have hji24u : (IntKind.i64.wrap (2 ^ min x7_1.toNat 64)) = ji24 := by have h_ := hji24_; rw [Int.one_mul] at h_; exact h_
          have hji24v : x7_1 ≤ 64 → (IntKind.i64.wrap (2 ^ x7_1.toNat)) = ji24 := fun hle_ => by have h_ := hji24z hle_; rw [Int.one_mul] at h_; exact h_
          have hji24y : (wrap64 (1 * 2 ^ min x7_1.toNat 64)) = ji24 := (i64_w _).symm.trans hji24_
          have hji24x : x7_1 ≤ 64 → (wrap64 (1 * 2 ^ x7_1.toNat)) = ji24 := fun h_ => (i64_w _).symm.trans (hji24z h_)
          obtain rfl := Option.some.inj H
          go_wp2
          go_ret
          exact ⟨by first | rfl | (simp; done) | (simp only [← hji24] <;> (first | rfl | simp)) | (simp [*]; done), by repeat (first | exact Drawn0.refl _ | apply Drawn0.step)⟩
         ·rw [if_neg c23] at H
          exact absurd H (by simp)
        ·rw [if_neg c22] at H
         have c22b0 : (a1 == 1) = false := beq_eq_false_iff_ne.mpr c22
         have c22b1 : (a1 != 1) = true := bne_iff_ne.mpr c22
         by_cases c25 : 0 ≤ x8_1
         ·rw [if_pos c25] at H
          have c25b0 := eq_true c25
          have c25b1 : decide (0 ≤ x8_1) = true := decide_eq_true c25
          clear c25
          obtain ⟨ji26, hji26⟩ : ∃ j_ : Int, (shl .i64 1 x8_1) = j_ := ⟨_, rfl⟩
          replace H : (some ji26) = some r := by first | (rw [hji26] at H; exact H) | (simp only [hji26] at H ⊢; exact H)
          have hji26_ : (IntKind.i64.wrap (1 * 2 ^ min x8_1.toNat 64)) = ji26 := hji26
          have hji26z : x8_1 ≤ 64 → (IntKind.i64.wrap (1 * 2 ^ x8_1.toNat)) = ji26 := shl_small hji26
          have hji26u : (IntKind.i64.wrap (2 ^ min x8_1.toNat 64)) = ji26 := by have h_ := hji26_; rw [Int.one_mul] at h_; exact h_
          have hji26v : x8_1 ≤ 64 → (IntKind.i64.wrap (2 ^ x8_1.toNat)) = ji26 := fun hle_ => by have h_ := hji26z hle_; rw [Int.one_mul] at h_; exact h_
          have hji26y : (wrap64 (1 * 2 ^ min x8_1.toNat 64)) = ji26 := (i64_w _).symm.trans hji26_
          have hji26x : x8_1 ≤ 64 → (wrap64 (1 * 2 ^ x8_1.toNat)) = ji26 := fun h_ => (i64_w _).symm.trans (hji26z h_)
          obtain rfl := Option.some.inj H
          go_wp2
          go_ret
          exact ⟨by first | rfl | (simp; done) | (simp only [← hji26] <;> (first | rfl | simp)) | (simp [*]; done), by repeat (first | exact Drawn0.refl _ | apply Drawn0.step)⟩
         ·rw [if_neg c25] at H
          exact absurd H (by simp)
end Go.Proofs.Ythdoilfjcgickaa.Pr
end
