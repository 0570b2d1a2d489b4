/- The law FnExactLongestPath, for every input: the program answers true and leaves its arguments as they were. Conditions: none beyond the row's own. -/
import Derived.Test.YtjjbhdpjnjncbaaRows
import Derived.Test.YtjjbhdpjnjncbaaPrx23
import Derived.Test.YtjjbhdpjnjncbaaOp
import Derived.Test.YtjjbhdpjnjncbaaPureFnExactLongestPath
import Derived.WalkKit
import Derived.ProofKit
import Derived.OpenShut
import Derived.ShutString
import Derived.ChangeOld
import Derived.Below
import Derived.SizedLaws
namespace Go.Proofs.Ytjjbhdpjnjncbaa.fnExactLongestPath
open Go.ChangeShapes Go.WideShapes Go.ChangeAt Go.RowKit Go.Proofs.Ytjjbhdpjnjncbaa.Op Go.Proofs.YtjjbhdpjnjncbaaW.PrintWords
set_option linter.unusedVariables false
theorem own : ownKnob Try.prog.godebug = none := by kernel_rfl
theorem laidOut : laidOutB Try.prog = true := by kernel_rfl
set_option maxRecDepth 100000 in
theorem lifted (os : Os) (started : os.Started) (H : Type) (enc : TypeId × Value → H) :
    ReturnsInHanded {} Try.checked os 4 .any (Rows.fnExactLongestPathSpec.pre6 enc Try.prog Try.f4 Rows.fnExactLongestPathRow.domain false) (Rows.fnExactLongestPathSpec.post enc Try.prog Try.f4 false true false false) := by
  refine returnsInHanded_of_change_sized (C := Try.checked) own started (by kernel_rfl) Try.func4
    (ChangeSpec.witness6 (enc := enc) (C := Try.checked) false ⟨#[], #[.agg #[.int .i64 0, .slice none 0 0]], []⟩ 8 (by kernel_rfl) (by kernel_rfl) (by kernel_rfl) (by kernel_rfl)) ?_
  intro W base args ds gs before hval0 hW hcnd hsz0 _
  have hval : ∀ (j : Nat) t v, Try.f4.params[j]? = some t → args[j]? = some v → Value.okWide Try.prog W .any base t v := hval0
  have hW' := hW
  obtain ⟨p, q, hA0, hV, rfl, hfz, hnd⟩ := hW
  have hA : DataW.TrodAll enc Try.prog W 0 (fun _ => true) true Try.f4.params.toList args.toList ds p := hA0
  rw [Try.params4] at hA hval
  obtain ⟨v0, vs0, d0, ds0, p0, q0, hargs, rfl, rfl, h0, r0⟩ := trodAll_cons hA
  obtain ⟨rfl, rfl, rfl⟩ := trodAll_nil r0
  obtain rfl : args = #[v0] := by cases args; simp_all
  obtain ⟨rfl, rfl⟩ := trodVars_none hV
  have k0 := h0
  have lt0 := trod_blocks k0
  obtain ⟨⟨x0_0, x0_1⟩, cs0, rfl, hk0, g0⟩ := arg_struct Try.underlying35 (opens_struct2 Try.underlying35 ⟨by kernel_rfl, by kernel_rfl⟩ ⟨by kernel_rfl, by kernel_rfl⟩ (by kernel_rfl) (opens_int Try.underlying2) (opens_slice Try.underlying33 (by kernel_rfl) (opens_int Try.underlying2)) id (Kd.pair (Kd.int .i64) (Kd.slice 2 (Kd.int .i64))) (fun _ _ _ h => h) (fun x => (GoodInt .i64) x.1 ∧ (GoodList (GoodInt .i64)) x.2) (fun _ h0 h1 => ⟨h0, h1⟩)) (hval 0 35 v0 rfl rfl) h0
  obtain ⟨A0_1, c0_1, rfl, q0_1, r0_1⟩ := cells_int_slice hk0
  obtain ⟨k, h⟩ := Pure.FnExactLongestPath x0_0 x0_1 g0.1 g0.2
  clear hA0 hval0 hsz0
  refine (Pr.laws_FnExactLongestPath.calls k x0_0 A0_1 c0_1 x0_1 true W r0_1 q0_1 h).mono ?_
  rintro e W' ⟨rfl, bel0⟩
  have bel : Below W.heap.size W W' := by first | exact bel0 | exact bel0.below
  exact ⟨_, rfl, _, _, _, [], _, [], hW', trodAll_mk1 (shut_bool Try.underlying4 _), (trodAll_cons_mk (Below.trod laidOut (by kernel_rfl) (of_decide_eq_true (by kernel_rfl)) k0 bel lt0) trodAll_mk0), rfl, bel.frame _, fun h => by cases h⟩
theorem over : Rows.fnExactLongestPathRow.holds Try.pinned (OpenSpec.ofChange Rows.fnExactLongestPathSpec) :=
  OpenClaim.holds_of_wide 4 Try.f4 rfl rfl rfl rfl rfl rfl rfl ⟨rfl, rfl, rfl, rfl, rfl⟩ rfl rfl rfl rfl rfl (by kernel_rfl) Try.func4 (by kernel_rfl)
    (of_decide_eq_true (by kernel_rfl)) (by unfold Func.isWrapper; first | (rw [if_pos (by decide +kernel)]; kernel_rfl) | (rw [if_neg (by decide +kernel)]; exact ⟨rfl, rfl⟩))
    (fun os started H enc _ => lifted os started H enc)
theorem proved : Rows.FnExactLongestPathSaid := over
#print axioms proved
end Go.Proofs.Ytjjbhdpjnjncbaa.fnExactLongestPath
namespace Go.Proofs.Ytjjbhdpjnjncbaa
/-- The row, under a short name, for the claim. -/
theorem fnExactLongestPath_holds : Rows.FnExactLongestPathSaid := fnExactLongestPath.proved
end Go.Proofs.Ytjjbhdpjnjncbaa
