/- isTable: what the program's call returns, for all arguments. -/
import Derived.Test.YtlnoidhaoinpbaaHi
import Derived.Test.YtlnoidhaoinpbaaHn
import Derived.Test.YtlnoidhaoinpbaaPrx8
namespace Go.Proofs.Ytlnoidhaoinpbaa.Pr
open Go.RowKit Go.Proofs.YtlnoidhaoinpbaaW.PrintWords Go.Proofs.YtlnoidhaoinpbaaW.PrintLast Go.Proofs.YtlnoidhaoinpbaaW.PrintMore
set_option linter.unusedVariables false
set_option linter.unusedSimpArgs false

/-- An entry of a game that is none. -/
def badE (n : Int) : Bool := !(decide (1 ≤ n) && decide (n ≤ 20))
def badR (k : Int) (row : List Int) : Bool := ((row.length : Int) != k) || row.any badE
theorem within_f (n a b : Int) : impl_within.f n a b = some (decide (a ≤ n) && decide (n ≤ b)) := by
  unfold impl_within.f
  by_cases h : a ≤ n
  · rw [if_pos (by omega)]; simp [h]
  · rw [if_neg (by omega)]; simp [h]
set_option maxHeartbeats 1000000 in
theorem isTable11 (n : Int) (w : World) : Calls Try.prog 85 #[.int .i64 n] w fun e w' => e = .returned (.bool (badE n)) ∧ Below w.heap.size w w' := by
  unfold badE
  have hf := within_f n 1 20
  generalize (decide (1 ≤ n) && decide (n ≤ 20)) = b at hf ⊢
  have HF := Aside0.mk hf
  clear hf
  go_enter Try.func85, Try.ntmps85
  go_wp2_with fail
  refine (impl_within.calls n 1 20 _ _ HF.out).mono ?_
  rintro e w' ⟨rfl, ⟨nd, rfl⟩⟩
  go_wp2
  go_ret
  exact ⟨rfl, pw_below_drewN (Below.refl _ _) _⟩
theorem isTable11_enters : ∀ args w, (callFunc 85 args).run Try.prog w = .ok (.enter 85 args) w := enters_fn Try.func85 (by kernel_rfl) rfl
set_option maxHeartbeats 1000000 in
theorem isTable1 (gb : Nat) (k : Int) (A : Option Addr) (c : Nat) (x : List Int) (w : World) (hx : Kd.C (Kd.int .i64) w A x.length x) (hb : w.cell? ⟨gb, 0, none⟩ = some (.int .i64 k)) :
    Calls Try.prog 83 (#[.slice A x.length c] ++ #[.pointer (some ⟨gb, 0, none⟩)]) w fun e w' => e = .returned (.bool (badR k x)) ∧ Below w.heap.size w w' := by
  have HX := Aside0.mk hx
  clear hx
  unfold badR
  show Calls Try.prog 83 #[.slice A x.length c, .pointer (some ⟨gb, 0, none⟩)] w _
  by_cases e : (x.length : Int) = k
  · have h1 : ((x.length : Int) != k) = false := by simp [e]
    have h2 : ((x.length : Int) == k) = true := by simp [e]
    have hcall := fun W (hW : Below w.heap.size w W) => containsFuncInts badE 85 #[] isTable11_enters A c x W (Kd.C_below HX.out hW) (fun W' n _ _ => isTable11 n W')
    clear e
    have HC := Aside0.mk hcall
    clear hcall
    generalize x.any badE = b at HC ⊢
    go_enter Try.func83, Try.ntmps83
    go_wp2_with fail
    refine (HC.out _ (Below.refl _ _)).mono ?_
    rintro e w' ⟨rfl, hb'⟩
    go_wp2
    go_ret
    exact ⟨by rw [h1]; rfl, hb'⟩
  · have h1 : ((x.length : Int) != k) = true := by simp [e]
    have h2 : ((x.length : Int) == k) = false := by simp [e]
    clear e
    go_enter Try.func83, Try.ntmps83
    go_wp2
    go_ret
    exact ⟨by rw [h1]; rfl, Below.refl _ _⟩
theorem isTable1_enters : ∀ args w, (callFunc 83 args).run Try.prog w = .ok (.enter 83 args) w := enters_fn Try.func83 (by kernel_rfl) rfl

def impl_isTable.f (l0 : List (List Int)) (a1 : Int) (a2 : Int) : Option (Bool) := some (((l0.length : Int) == a1) && !(l0.any (badR a2)))
set_option maxHeartbeats 2000000 in
theorem impl_isTable.calls (A0 : Option Addr) (c0 : Nat) (l0 : List (List Int)) (a1 : Int) (a2 : Int) (r : Bool) (w : World) (hr0 : Kd.C (Kd.slice 2 (Kd.int .i64)) w A0 l0.length l0) (hc0 : l0.length ≤ c0) (h : impl_isTable.f l0 a1 a2 = some r) :
    Calls Try.prog 64 #[.slice A0 l0.length c0, .int .i64 a1, .int .i64 a2] w fun e w' => e = .returned (.bool r) ∧ Below w.heap.size w w' := by
  have HR := Aside0.mk hr0
  clear hr0 hc0
  have hv := (Option.some.inj h)
  clear h
  by_cases e : (l0.length : Int) = a1
  · have h1 : ((l0.length : Int) == a1) = true := by simp [e]
    rw [h1, Bool.true_and] at hv
    have HV := Aside0.mk hv
    clear hv e
    have hcall := fun (gb : Nat) W (hW : Below w.heap.size w W) (hgb : gb < W.heap.size) (hcell : W.cell? ⟨gb, 0, none⟩ = some (.int .i64 a2)) =>
      containsFuncRows (badR a2) 83 #[.pointer (some ⟨gb, 0, none⟩)] isTable1_enters A0 c0 l0 W (Kd.C_below HR.out hW)
        (fun W' A c x _ hb _ hC => isTable1 gb a2 A c x W' hC ((hb.cell (p := ⟨gb, 0, none⟩) hgb).trans hcell))
    have HC := Aside0.mk hcall
    clear hcall
    generalize l0.any (badR a2) = b at HC HV
    go_enter Try.func64, Try.ntmps64
    go_wp2_with fail
    refine (HC.out _ _ ((Below.refl _ _).alloc (Nat.le_refl _) _) (by simp) (by simp)).mono ?_
    rintro e w' ⟨rfl, hb'⟩
    go_wp2
    go_ret
    exact ⟨by rw [← HV.out]; rfl, ((Below.refl _ _).alloc (Nat.le_refl _) _).trans (hb'.mono (by simp))⟩
  · have h1 : ((l0.length : Int) == a1) = false := by simp [e]
    rw [h1, Bool.false_and] at hv
    have HV := Aside0.mk hv
    clear hv e
    go_enter Try.func64, Try.ntmps64
    go_wp2
    go_ret
    exact ⟨by rw [← HV.out]; rfl, (Below.refl _ _).alloc (Nat.le_refl _) _⟩
end Go.Proofs.Ytlnoidhaoinpbaa.Pr
