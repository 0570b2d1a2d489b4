/- What a law's argument holds, opened by its type: a value that reads as data at a type of whole numbers, slices and structs of these lies in memory as the print's kinds say. Conditions: the types' rows of the program, each by the kernel. -/
import Derived.Test.YtlnoidhaoinpbaaWMore
import Derived.Test.YtlnoidhaoinpbaaWSized
import Derived.Deep.Slices
import Derived.Deep.Fields
import Derived.Lib.SmallJoins
namespace Go.Proofs.Ytlnoidhaoinpbaa.Op
open Go.ChangeShapes Go.WideShapes Go.ChangeAt Go.RowKit Go.Deep Go.Joins Go.Proofs.YtlnoidhaoinpbaaW.PrintWords
set_option linter.unusedVariables false

/-- At type t each value that reads as data is of kind d, and G is known of what it holds. -/
def Opens (P : Program) (t : TypeId) {α : Type} (d : Kd α) (G : α → Prop) : Prop :=
  ∀ (H : Type) (enc : TypeId × Value → H) (w : World) (base : Nat) (held : Bool) (fuel : Nat) (cs : List Value) (x : DataW H × List MemPlace),
    DataW.trod enc P w base (fun _ => true) held fuel t cs = some x → ∃ a, d.K w a cs ∧ G a

def GoodInt (k : IntKind) (n : Int) : Prop := (Lit.int k n).wf = true
def GoodList {α : Type} (G : α → Prop) (l : List α) : Prop := l.length ≤ maxLen ∧ ∀ x ∈ l, G x

theorem opens_int {P : Program} {t : TypeId} {k : IntKind} (ht : P.underlying t = some (.int k)) : Opens P t (Kd.int k) (GoodInt k) := by
  intro H enc w base held fuel cs x h
  obtain ⟨n, rfl, _, hw⟩ := DataW.trod_int ht h
  exact ⟨n, rfl, hw⟩

theorem opens_slice {P : Program} {t e : TypeId} {α : Type} [Inhabited α] {d : Kd α} {G : α → Prop} (ht : P.underlying t = some (.slice e)) (hc : P.cellsOf e = d.sz) (he : Opens P e d G) :
    Opens P t (Kd.slice e d) (GoodList G) := by
  intro H enc w base held fuel cs x h
  rcases open_slice ht h with ⟨rfl, _⟩ | ⟨a, len, cap, m, n, D, Pl, rfl, hb, hl, hm, hmm, _, hx⟩
  · exact ⟨[], ⟨none, 0, rfl, Nat.le_refl _, ⟨rfl, Nat.zero_le _, fun hn => absurd hn (Nat.lt_irrefl 0)⟩⟩, ⟨Nat.zero_le _, fun x hx => by cases hx⟩⟩
  · simp only [if_true] at hmm
    subst hmm
    have each : ∀ i, i < m → ∃ y : α, (∃ c, c.length = d.sz ∧ d.K w y c ∧ ∀ j u, c[j]? = some u → w.cell? (a.add (i * d.sz + j)) = some u) ∧ G y := by
      intro i hi
      obtain ⟨cs', h1, h2⟩ := hx i hi
      obtain ⟨_, hlen, hcell⟩ := World.cells?_some h1
      obtain ⟨y, hy, hg⟩ := he H enc w base held n cs' _ h2
      rw [hc] at hlen hcell
      refine ⟨y, ⟨cs', hlen, hy, fun j u hu => ?_⟩, hg⟩
      have hj : j < d.sz := by rw [← hlen]; exact (List.getElem?_eq_some_iff.1 hu).1
      rw [← hu, ← hcell j hj]
      congr 1
      unfold Addr.add
      by_cases h1 : i * d.sz = 0 <;> by_cases h2 : j = 0 <;> simp [h1, h2, Nat.add_assoc]
    obtain ⟨Y, hY⟩ := choose_lt each
    have hmax : m ≤ 9223372036854775807 := by unfold maxLen at hm; omega
    refine ⟨(List.range len).map Y, ⟨some a, m, by simp, by simpa using hl, ?_⟩, by simp; omega, ?_⟩
    · refine ⟨rfl, by simp; omega, fun _ => ⟨a, rfl, fun j p hj => ?_⟩⟩
      have hjl : j < len := by have := (List.getElem?_eq_some_iff.1 hj).1; simpa using this
      have hp : p = Y j := by
        rw [List.getElem?_map, List.getElem?_range hjl] at hj
        simpa using hj.symm
      subst hp
      exact (hY j (by omega)).1
    · intro y hy
      obtain ⟨j, hj, rfl⟩ := List.mem_map.1 hy
      exact (hY j (by have := List.mem_range.1 hj; omega)).2

/-- A struct of two fields that lie one behind the other. -/
theorem opens_struct2 {P : Program} {t : TypeId} {f0 f1 : Field} {α β γ : Type} {d0 : Kd α} {d1 : Kd β} {G0 : α → Prop} {G1 : β → Prop} (ht : P.underlying t = some (.struct #[f0, f1]))
    (h0 : f0.offset = 0 ∧ P.cellsOf f0.type = d0.sz) (h1 : f1.offset = d0.sz ∧ P.cellsOf f1.type = d1.sz) (hC : P.cellsOf t = d0.sz + d1.sz)
    (he0 : Opens P f0.type d0 G0) (he1 : Opens P f1.type d1 G1) (mk : α × β → γ) (d : Kd γ) (hd : ∀ w x cs, (Kd.pair d0 d1).K w x cs → d.K w (mk x) cs) (G : γ → Prop) (hG : ∀ x, G0 x.1 → G1 x.2 → G (mk x)) : Opens P t d G := by
  intro H enc w base held fuel cs x h
  obtain ⟨y0, y1, n, _, hl, t0, t1⟩ := trod_struct2 ht h
  rw [h0.1, h0.2] at t0
  rw [h1.1, h1.2] at t1
  obtain ⟨a, ha, ga⟩ := he0 H enc w base held n _ _ t0
  obtain ⟨b, hb, gb⟩ := he1 H enc w base held n _ _ t1
  refine ⟨mk (a, b), hd w (a, b) cs ⟨_, _, ?_, ha, hb⟩, hG (a, b) ga gb⟩
  rw [hC] at hl
  rw [List.drop_zero]
  have : (List.drop d0.sz cs).take d1.sz = List.drop d0.sz cs := List.take_of_length_le (by rw [List.length_drop]; omega)
  rw [this, List.take_append_drop]

section
variable {P : Program} {W : World} {H : Type} {enc : TypeId × Value → H} {base : Nat} {held : Bool} {t : TypeId} {v : Value} {dd : DataW H} {ps : List MemPlace} {r : Reach} {b0 : Nat}
/-- An argument that is a slice. -/
theorem arg_slice {e : TypeId} {α : Type} [Inhabited α] {d : Kd α} {G : α → Prop} (ht : P.underlying t = some (.slice e)) (hc : P.cellsOf e = d.sz) (he : Opens P e d G) (hv : Value.okWide P W r b0 t v) (h : DataW.Trod enc P W base (fun _ => true) held t v dd ps) :
    ∃ A c l, v = .slice A l.length c ∧ l.length ≤ c ∧ d.C W A l.length l ∧ GoodList G l := by
  obtain ⟨A, len, cap, rfl⟩ := okWide_slice ht hv
  obtain ⟨fuel, hf⟩ := h
  obtain ⟨l, ⟨A', c', hcs, hl, hr⟩, hg⟩ := opens_slice ht hc he H enc W base held fuel _ _ hf
  simp [Value.cells] at hcs
  obtain ⟨rfl, rfl, rfl⟩ := hcs
  exact ⟨_, _, l, rfl, hl, hr, hg⟩
/-- An argument that is a struct: the cells of its value. -/
theorem arg_struct {fs : Array Field} {α : Type} {d : Kd α} {G : α → Prop} (ht : P.underlying t = some (.struct fs)) (he : Opens P t d G) (hv : Value.okWide P W r b0 t v) (h : DataW.Trod enc P W base (fun _ => true) held t v dd ps) :
    ∃ a cs, v = .agg cs ∧ d.K W a cs.toList ∧ G a := by
  obtain ⟨cs, rfl, _⟩ := okWide_struct ht hv
  obtain ⟨fuel, hf⟩ := h
  obtain ⟨a, ha, hg⟩ := he H enc W base held fuel _ _ hf
  exact ⟨a, cs, rfl, by simpa [Value.cells] using ha, hg⟩
theorem trod_blocks (h : DataW.Trod enc P W base (fun _ => true) held t v dd ps) : ∀ x ∈ ps, x.block < W.heap.size := by
  obtain ⟨m, hm⟩ := h
  exact DataW.trod_lt m _ _ _ hm
theorem cells_int_slice {k : IntKind} {e : Nat} {β : Type} {d : Kd β} {w : World} {x : Int × List β} {cs : Array Value} (h : (Kd.pair (Kd.int k) (Kd.slice e d)).K w x cs.toList) :
    ∃ A c, cs = #[.int k x.1, .slice A x.2.length c] ∧ x.2.length ≤ c ∧ d.C w A x.2.length x.2 := by
  obtain ⟨c0, c1, hcs, h0, A, c, rfl, hl, hr⟩ := h
  have h0' : c0 = [.int k x.1] := h0
  subst h0'
  exact ⟨A, c, by cases cs; simp at hcs; simp [hcs], hl, hr⟩
theorem cells_slice_slice {e0 e1 : Nat} {α β : Type} {d0 : Kd α} {d1 : Kd β} {w : World} {x : List α × List β} {cs : Array Value} (h : (Kd.pair (Kd.slice e0 d0) (Kd.slice e1 d1)).K w x cs.toList) :
    ∃ A0 c0 A1 c1, cs = #[.slice A0 x.1.length c0, .slice A1 x.2.length c1] ∧ x.1.length ≤ c0 ∧ d0.C w A0 x.1.length x.1 ∧ x.2.length ≤ c1 ∧ d1.C w A1 x.2.length x.2 := by
  obtain ⟨c0, c1, hcs, ⟨A, c, rfl, hl, hr⟩, A', c', rfl, hl', hr'⟩ := h
  exact ⟨A, c, A', c', by cases cs; simp at hcs; simp [hcs], hl, hr, hl', hr'⟩
end
end Go.Proofs.Ytlnoidhaoinpbaa.Op
