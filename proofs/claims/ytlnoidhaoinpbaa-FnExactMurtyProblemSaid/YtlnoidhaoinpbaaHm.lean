/- The law's mark of rows of lists of whole numbers: what the call leaves in memory, by hand (the print does not cover it). Condition: the rows are the caller's own, no two in one block, all blocks among `ok`. -/
import Derived.Test.YtlnoidhaoinpbaaHx
import Derived.Test.YtlnoidhaoinpbaaLm
import Derived.Test.YtlnoidhaoinpbaaLaS
namespace Go.Proofs.Ytlnoidhaoinpbaa.Hm
open Go.RowKit Go.Proofs.YtlnoidhaoinpbaaW.PrintWords Go.Proofs.YtlnoidhaoinpbaaW.PrintLast Go.Proofs.YtlnoidhaoinpbaaW.PrintMore Go.Proofs.Ytlnoidhaoinpbaa.Pr Go.Proofs.Ytlnoidhaoinpbaa.La Go.Proofs.Ytlnoidhaoinpbaa.Ma
set_option linter.unusedVariables false
set_option linter.unusedSimpArgs false

/-- Rows marked with the numbers from n on. -/
def marks : List (List Int) → Int → List (List Int)
  | [], _ => []
  | x :: l, n => count n x.length :: marks l (n + x.length)
/-- The first i rows marked. -/
def part (l : List (List Int)) (n : Int) (i : Nat) : List (List Int) := marks (l.take i) n ++ l.drop i
theorem marks_length : ∀ (l : List (List Int)) (n : Int), (marks l n).length = l.length
  | [], _ => rfl
  | x :: l, n => by simp [marks, marks_length l]
theorem part_length (l : List (List Int)) (n : Int) (i : Nat) (h : i ≤ l.length) : (part l n i).length = l.length := by
  simp [part, marks_length]; omega
theorem lens_append (a b : List (List Int)) : lens (a ++ b) = lens a + lens b := by
  induction a with
  | nil => simp [lens]
  | cons x a ih => simp only [List.cons_append, lens, ih]; omega
theorem marks_append : ∀ (a b : List (List Int)) (n : Int), marks (a ++ b) n = marks a n ++ marks b (n + lens a)
  | [], b, n => by simp [marks, lens]
  | x :: a, b, n => by
    simp only [List.cons_append, marks, marks_append a b, lens]
    congr 3
    push_cast
    omega
theorem part_at (l : List (List Int)) (n : Int) (i : Nat) (h : i < l.length) : (part l n i).getD i [] = l[i] := by
  have hm : (marks (l.take i) n).length = i := by rw [marks_length, List.length_take]; omega
  unfold part
  rw [List.getD_eq_getElem?_getD, List.getElem?_append_right (by omega), hm, Nat.sub_self, List.getElem?_drop, Nat.add_zero, List.getElem?_eq_getElem h]
  rfl
theorem part_set (l : List (List Int)) (n : Int) (i : Nat) (h : i < l.length) : (part l n i).set i (count (n + lens (l.take i)) l[i].length) = part l n (i + 1) := by
  have hm : (marks (l.take i) n).length = i := by rw [marks_length, List.length_take]; omega
  unfold part
  rw [List.take_succ_eq_append_getElem h, marks_append, List.append_assoc, List.set_append_right _ _ (by omega), hm, Nat.sub_self, List.drop_eq_getElem_cons h, List.set_cons_zero]
  simp [marks]
theorem lens_take_succ (l : List (List Int)) (i : Nat) (h : i < l.length) : lens (l.take (i + 1)) = lens (l.take i) + l[i].length := by
  rw [List.take_succ_eq_append_getElem h, lens_append]; simp [lens]
theorem lens_take_le (l : List (List Int)) (i : Nat) : lens (l.take i) ≤ lens l := by
  have := lens_append (l.take i) (l.drop i)
  rw [List.take_append_drop] at this
  omega
theorem mark_k (l : List Int) (n : Int) (hl : l.length ≤ 1152921504606846976) (h0 : 0 ≤ n) (h1 : n ≤ 1152921504606846976) : ∃ k, laws_markInt64S.f k l n = some (n + l.length, count n l.length) := evk (markI l n hl h0 h1)

section
variable {w0 : World} {ok : Nat → Prop}
/-- Rows of the caller's own. -/
abbrev SS (w0 w : World) (ok : Nat → Prop) (v : Value) (l : List (List Int)) : Prop := Kd.S (Kd.slice 2 (Kd.int .i64)) 22 w w0.heap.size ok v l
/-- One row marked. -/
theorem mark_row {g cap : Nat} {w : World} {l : List (List Int)} (hB : Below w0.heap.size w0 w) (h : SS w0 w ok (.slice (some ⟨g, 0, none⟩) l.length cap) l) (i : Nat) (hi : i < l.length) (n : Int) (hl : l[i].length ≤ 1152921504606846976) (h0 : 0 ≤ n) (h1 : n ≤ 1152921504606846976) :
    ∃ u : Value, w.cell? ⟨g, i, none⟩ = some u ∧ Calls Try.prog 28 #[u, .int .i64 n] w fun e w' => e = .returned (.int .i64 (n + l[i].length)) ∧ SS w0 w' ok (.slice (some ⟨g, 0, none⟩) l.length cap) (l.set i (count n l[i].length)) ∧ Below w0.heap.size w0 w' ∧ Kept w w' ok := by
  obtain ⟨oki, c, hcl, hM, hcc, hoki, hH⟩ := Kd.S_lend h [] (i : Int) (by omega) (by omega)
  rw [Int.toNat_natCast, List.getD_eq_getElem?_getD, List.getElem?_eq_getElem hi] at hM
  obtain ⟨u, rfl, hR⟩ := hM
  refine ⟨u, by have := hcc 0 u rfl; rw [show (Kd.slice 2 (Kd.int .i64)).sz = 1 from rfl] at this; simpa using this, ?_⟩
  obtain ⟨k, hk⟩ := mark_k l[i] n hl h0 h1
  refine (laws_markInt64S.calls k (fun b => some b = u.ownBlock) u l[i] n _ _ w0 w hB (Kd.R_tight rfl hR) hk).mono ?_
  rintro e w' ⟨rfl, hR', hB', hK⟩
  have hok : ∀ b, some b = u.ownBlock → oki b := fun b hb => hR.1 b hb.symm
  refine ⟨rfl, ?_, hB', hK.mono (fun b hb => (hoki b (hok b hb)).1)⟩
  have hH' := Kd.H_step (w1 := w') hH (fun b _ hn hlt => hK.2 b hlt (fun hb => hn (hok b hb)))
  have hT := Kd.R_tight (d := Kd.int .i64) rfl hR'
  have := Kd.H_back hH' (x' := count n l[i].length) (okp := fun b => some b = u.ownBlock) ⟨u, rfl, hT⟩ hok
  rw [Int.toNat_natCast] at this
  exact this
end

set_option maxHeartbeats 1000000 in
/-- The call marks all rows, and turns nothing else. -/
theorem markSS {w0 w : World} {ok : Nat → Prop} (v : Value) (l : List (List Int)) (n : Int) (hB : Below w0.heap.size w0 w) (h : SS w0 w ok v l) (h0 : 0 ≤ n) (h1 : n + lens l ≤ 1099511627776) (hl : l.length ≤ 1099511627776) :
    Calls Try.prog 69 #[v, .int .i64 n] w fun e w' => e = .returned (.int .i64 (n + lens l)) ∧ SS w0 w' ok v (marks l n) ∧ Below w0.heap.size w0 w' ∧ Kept w w' ok := by
  obtain ⟨A, c, rfl⟩ := Kd.S_slice h
  have HS := Aside0.mk h
  have HB := Aside0.mk hB
  have H1 := Aside0.mk h1
  have H0 := Aside0.mk h0
  have HL := Aside0.mk hl
  clear h hB h1 h0 hl
  go_enter Try.func69, Try.ntmps69
  go_wp2
  go_loopg [1, 5] l.length (fun gg v1 v5 wr => ∃ (i : Nat) (m : Int), i ≤ l.length ∧ l.length - i ≤ gg ∧ v1 = .int .i64 m ∧ v5 = .int .i64 (i : Int) ∧ Aside0 (m = n + lens (l.take i)) ∧ Aside0 (SS w0 wr ok (.slice A l.length c) (part l n i)) ∧ Aside0 (Below w0.heap.size w0 wr) ∧ Aside0 (Kept w wr ok))
  case atStart => exact ⟨0, n, Nat.zero_le _, by omega, rfl, rfl, ⟨by simp [lens]⟩, ⟨by simpa [part, marks] using HS.out⟩, HB, ⟨Kept.refl _ _⟩⟩
  case round =>
    obtain ⟨i, m, hi, hg, rfl, rfl, HM, RS, RB, RK⟩ := hrel
    by_cases hlt : i < l.length
    · have hpl := part_length l n i hi
      obtain ⟨g, cap, hv, hb1, hb2, cells, hc1⟩ := Kd.S_form RS.out (by rw [hpl]; omega)
      rw [hpl] at hv
      injection hv with hA hn hc
      subst hA; subst hc
      have hm0 : 0 ≤ m := by have := HM.out; have := H0.out; omega
      have hm1 : m + l[i].length ≤ 1099511627776 := by
        have e1 := lens_take_succ l i hlt
        have e2 := lens_take_le l (i + 1)
        have := HM.out; have := H1.out; omega
      have e : (part l n i)[i]'(by omega) = l[i] := by
        have := part_at l n i hlt
        rwa [List.getD_eq_getElem?_getD, List.getElem?_eq_getElem (by omega)] at this
      have hrow := mark_row (g := g) (cap := c) RB.out (by rw [hpl]; exact RS.out) i (by omega) m (by rw [e]; omega) hm0 (by omega)
      rw [e, hpl] at hrow
      obtain ⟨u, hcell, hcall⟩ := hrow
      have HCALL := Aside0.mk hcall
      have hltz : (i : Int) < (l.length : Int) := by omega
      have h0z : (0 : Int) ≤ (i : Int) := by omega
      have hlen := HL.out
      have hw : IntKind.i64.wrap ((i : Int) + 1) = ((i + 1 : Nat) : Int) := by rw [IntWalk.i64_in _ (by omega)]; rfl
      have HLT := Aside0.mk hlt
      clear hcall hm0 hm1 e hc1 hb1 hb2 hpl hn hlen
      go_wp2_with fail
      refine HCALL.out.mono ?_
      rintro e w' ⟨rfl, hS, hB', hK⟩
      have HS' := Aside0.mk hS
      have HB' := Aside0.mk hB'
      have HK' := Aside0.mk hK
      clear hS hB' hK HCALL
      go_wp2
      go_roundg (l.length - (i + 1))
      case measure => omega
      case rel =>
        have hle := HLT.out
        refine ⟨i + 1, m + l[i].length, by omega, by omega, rfl, by first | rfl | (rw [hw]) | simp [hw], ⟨?_⟩, ⟨?_⟩, ⟨HB'.out⟩, ⟨?_⟩⟩
        · rw [HM.out, lens_take_succ l i hle]; push_cast; omega
        · have := HS'.out
          rw [HM.out, part_set l n i hle] at this
          exact this
        · exact RK.out.then_ HK'.out (fun b hb => .inl hb)
    · have hltz : ¬ (i : Int) < (l.length : Int) := by omega
      obtain rfl : i = l.length := by omega
      go_wp2
      go_ret
      have e1 : l.take l.length = l := List.take_length
      refine ⟨by rw [HM.out, e1]; rfl, ?_, RB.out, RK.out⟩
      have := RS.out
      simpa [part, e1] using this
end Go.Proofs.Ytlnoidhaoinpbaa.Hm
