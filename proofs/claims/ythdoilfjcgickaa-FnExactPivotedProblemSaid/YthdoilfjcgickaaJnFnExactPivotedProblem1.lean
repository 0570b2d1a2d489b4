/- Texts of one claim (the words of the kit's print that the claim uses, printed functions, and this session's own texts), joined in the order of their imports by this session's own program (merge.py). -/
import Derived.Deep.Slices
import Derived.Deep.Fields
import Derived.Lib.SmallJoins
import Derived.WalkLawsBesides
import Derived.Test.YthdoilfjcgickaaJnFnExactPivotedProblem0
set_option linter.unusedVariables false
set_option linter.unusedSimpArgs false
set_option maxHeartbeats 8000000
set_option maxRecDepth 100000
section
namespace Go.Proofs.Ythdoilfjcgickaa.Op
open Go.ChangeShapes Go.WideShapes Go.ChangeAt Go.RowKit Go.Deep Go.Joins Go.Proofs.YthdoilfjcgickaaW.PrintWords
def Opens (P : Program) (t : TypeId) {α : Type} (d : Kd α) (G : α → Prop) : Prop :=
 ∀ (H : Type) (enc : TypeId × Value → H) (w : World) (base : Nat) (held : Bool) (fuel : Nat) (cs : List Value) (x : DataW H × List MemPlace),
  DataW.trod enc P w base (fun _ => true) held fuel t cs = some x → ∃ a, d.K w a cs ∧ G a
def GoodInt (k : IntKind) (n : Int) : Prop := (Lit.int k n).wf = true
def GoodList {α : Type} (G : α → Prop) (l : List α) : Prop := l.length ≤ maxLen ∧ ∀ x ∈ l, G x
theorem opens_int {P : Program} {t : TypeId} {k : IntKind} (ht : P.underlying t = some (.int k)) : Opens P t (Kd.int k) (GoodInt k) := by
 intro H enc w base held fuel cs x h
 obtain ⟨n, rfl, _, hw⟩ := DataW.trod_int ht h
 exact ⟨n, rfl, hw⟩
theorem opens_slice {P : Program} {t e : TypeId} {α : Type} [Inhabited α] {d : Kd α} {G : α → Prop} (ht : P.underlying t = some (.slice e)) (hc : P.cellsOf e = d.sz) (he : Opens P e d G) :
  Opens P t (Kd.slice e d) (GoodList G) := by
 intro H enc w base held fuel cs x h
 rcases open_slice ht h with ⟨rfl, _⟩ | ⟨a, len, cap, m, n, D, Pl, rfl, hb, hl, hm, hmm, _, hx⟩
 ·exact ⟨[], ⟨none, 0, rfl, Nat.le_refl _, ⟨rfl, Nat.zero_le _, fun hn => absurd hn (Nat.lt_irrefl 0)⟩⟩, ⟨Nat.zero_le _, fun x hx => by cases hx⟩⟩
 ·simp only [if_true] at hmm
  subst hmm
  have each : ∀ i, i < m → ∃ y : α, (∃ c, c.length = d.sz ∧ d.K w y c ∧ ∀ j u, c[j]? = some u → w.cell? (a.add (i * d.sz + j)) = some u) ∧ G y := by
   intro i hi
   obtain ⟨cs', h1, h2⟩ := hx i hi
   obtain ⟨_, hlen, hcell⟩ := World.cells?_some h1
   obtain ⟨y, hy, hg⟩ := he H enc w base held n cs' _ h2
   rw [hc] at hlen hcell
   refine ⟨y, ⟨cs', hlen, hy, fun j u hu => ?_⟩, hg⟩
   have hj : j < d.sz := by rw [← hlen]; exact (List.getElem?_eq_some_iff.1 hu).1
   rw [← hu, ← hcell j hj]
   congr 1
   unfold Addr.add
   by_cases h1 : i * d.sz = 0 <;> by_cases h2 : j = 0 <;> simp [h1, h2, Nat.add_assoc]
  obtain ⟨Y, hY⟩ := choose_lt each
  have hmax : m ≤ 9223372036854775807 := by unfold maxLen at hm; omega
  refine ⟨(List.range len).map Y, ⟨some a, m, by simp, by simpa using hl, ?_⟩, by simp; omega, ?_⟩
  ·refine ⟨rfl, by simp; omega, fun _ => ⟨a, rfl, fun j p hj => ?_⟩⟩
   have hjl : j < len := by have := (List.getElem?_eq_some_iff.1 hj).1; simpa using this
   have hp : p = Y j := by
    rw [List.getElem?_map, List.getElem?_range hjl] at hj
    simpa using hj.symm
   subst hp
   exact (hY j (by omega)).1
  ·intro y hy
   obtain ⟨j, hj, rfl⟩ := List.mem_map.1 hy
   exact (hY j (by have := List.mem_range.1 hj; omega)).2
theorem opens_struct2 {P : Program} {t : TypeId} {f0 f1 : Field} {α β γ : Type} {d0 : Kd α} {d1 : Kd β} {G0 : α → Prop} {G1 : β → Prop} (ht : P.underlying t = some (.struct #[f0, f1]))
  (h0 : f0.offset = 0 ∧ P.cellsOf f0.type = d0.sz) (h1 : f1.offset = d0.sz ∧ P.cellsOf f1.type = d1.sz) (hC : P.cellsOf t = d0.sz + d1.sz)
  (he0 : Opens P f0.type d0 G0) (he1 : Opens P f1.type d1 G1) (mk : α × β → γ) (d : Kd γ) (hd : ∀ w x cs, (Kd.pair d0 d1).K w x cs → d.K w (mk x) cs) (G : γ → Prop) (hG : ∀ x, G0 x.1 → G1 x.2 → G (mk x)) : Opens P t d G := by
 intro H enc w base held fuel cs x h
 obtain ⟨y0, y1, n, _, hl, t0, t1⟩ := trod_struct2 ht h
 rw [h0.1, h0.2] at t0
 rw [h1.1, h1.2] at t1
 obtain ⟨a, ha, ga⟩ := he0 H enc w base held n _ _ t0
 obtain ⟨b, hb, gb⟩ := he1 H enc w base held n _ _ t1
 refine ⟨mk (a, b), hd w (a, b) cs ⟨_, _, ?_, ha, hb⟩, hG (a, b) ga gb⟩
 rw [hC] at hl
 rw [List.drop_zero]
 have : (List.drop d0.sz cs).take d1.sz = List.drop d0.sz cs := List.take_of_length_le (by rw [List.length_drop]; omega)
 rw [this, List.take_append_drop]
section
variable {P : Program} {W : World} {H : Type} {enc : TypeId × Value → H} {base : Nat} {held : Bool} {t : TypeId} {v : Value} {dd : DataW H} {ps : List MemPlace} {r : Reach} {b0 : Nat}
theorem arg_struct {fs : Array Field} {α : Type} {d : Kd α} {G : α → Prop} (ht : P.underlying t = some (.struct fs)) (he : Opens P t d G) (hv : Value.okWide P W r b0 t v) (h : DataW.Trod enc P W base (fun _ => true) held t v dd ps) :
  ∃ a cs, v = .agg cs ∧ d.K W a cs.toList ∧ G a := by
 obtain ⟨cs, rfl, _⟩ := okWide_struct ht hv
 obtain ⟨fuel, hf⟩ := h
 obtain ⟨a, ha, hg⟩ := he H enc W base held fuel _ _ hf
 exact ⟨a, cs, rfl, by simpa [Value.cells] using ha, hg⟩
theorem trod_blocks (h : DataW.Trod enc P W base (fun _ => true) held t v dd ps) : ∀ x ∈ ps, x.block < W.heap.size := by
 obtain ⟨m, hm⟩ := h
 exact DataW.trod_lt m _ _ _ hm
theorem cells_slice_slice {e0 e1 : Nat} {α β : Type} {d0 : Kd α} {d1 : Kd β} {w : World} {x : List α × List β} {cs : Array Value} (h : (Kd.pair (Kd.slice e0 d0) (Kd.slice e1 d1)).K w x cs.toList) :
  ∃ A0 c0 A1 c1, cs = #[.slice A0 x.1.length c0, .slice A1 x.2.length c1] ∧ x.1.length ≤ c0 ∧ d0.C w A0 x.1.length x.1 ∧ x.2.length ≤ c1 ∧ d1.C w A1 x.2.length x.2 := by
 obtain ⟨c0, c1, hcs, ⟨A, c, rfl, hl, hr⟩, A', c', rfl, hl', hr'⟩ := h
 exact ⟨A, c, A', c', by cases cs; simp at hcs; simp [hcs], hl, hr, hl', hr'⟩
end
end Go.Proofs.Ythdoilfjcgickaa.Op
end
section
namespace Go.Proofs.Ythdoilfjcgickaa.Pr
open Go.RowKit Go.Proofs.YthdoilfjcgickaaW.PrintWords Go.Proofs.YthdoilfjcgickaaW.PrintLast Go.Proofs.YthdoilfjcgickaaW.PrintMore
attribute [local go_sem] max2_int min2_int max_two min_two max_three min_three max_four min_four
def laws_szInt64SS.l0 : Nat → List (List Int) → Int → Int → Option (Int)
 | 0, _, _, _ => none
 | k + 1, x0, x1, x5 => if x5 < (x0.length : Int) then (if 0 ≤ x5 then ((laws_szInt64S.f (rd_L1 x0 x5) x1).bind fun t119 => (if t119 < 0 then (some (-1)) else (laws_szInt64SS.l0 k x0 t119 (wrap64 (x5 + 1))))) else (none)) else (some x1)
def laws_szInt64SS.f (k : Nat) (l0 : List (List Int)) (a1 : Int) : Option (Int) := if (wrap64 (a1 - (l0.length : Int))) < 0 then (some (-1)) else (laws_szInt64SS.l0 k l0 (wrap64 (a1 - (l0.length : Int))) 0)
theorem laws_szInt64SS.mono_l : ∀ k, (∀ y0 y1 y2, LeO (laws_szInt64SS.l0 k y0 y1 y2) (laws_szInt64SS.l0 (k + 1) y0 y1 y2))
 | 0 => fun _ _ _ r h => by simp [laws_szInt64SS.l0] at h
 | k + 1 => by
  have ih0 := laws_szInt64SS.mono_l k
  ·intro y0 y1 y2
   unfold laws_szInt64SS.l0
   repeat' first
   | (with_reducible exact ih0 _ _ _)
   | (with_reducible exact LeO.refl _)
   | (with_reducible exact LeO.none _)
   | (with_reducible refine LeO.ite ?_ ?_)
   | (with_reducible refine LeO.bind ?_ (fun _ => ?_))
   | exact ih0 _ _ _
   | exact LeO.none _
   | refine LeO.ite ?_ ?_
   | refine LeO.bind ?_ (fun _ => ?_)
theorem laws_szInt64SS.mono : ∀ a0 a1 k, LeO (laws_szInt64SS.f k a0 a1) (laws_szInt64SS.f (k + 1) a0 a1) := by
 intro a0 a1 k
 have ih0 := laws_szInt64SS.mono_l k
 unfold laws_szInt64SS.f
 repeat' first
   | (with_reducible exact ih0 _ _ _)
   | (with_reducible exact LeO.refl _)
   | (with_reducible exact LeO.none _)
   | (with_reducible refine LeO.ite ?_ ?_)
   | (with_reducible refine LeO.bind ?_ (fun _ => ?_))
   | exact ih0 _ _ _
   | exact LeO.none _
   | refine LeO.ite ?_ ?_
   | refine LeO.bind ?_ (fun _ => ?_)
theorem laws_szInt64SS.calls (k : Nat) (A0 : Option Addr) (c0 : Nat) (l0 : List (List Int)) (a1 : Int) (r : Int) (w : World) (hr0 : Kd.C (Kd.slice 2 (Kd.int .i64)) w A0 l0.length l0) (hc0 : l0.length ≤ c0) (h : laws_szInt64SS.f k l0 a1 = some r) :
  Calls Try.prog 58 #[.slice A0 l0.length c0, .int .i64 a1] w fun e w' => e = .returned (.int .i64 r) ∧ Drawn0 w w' := by
 have HR0 := Aside0.mk hr0
 have HC0 := Aside0.mk hc0
 clear hr0 hc0
 have H : (if (wrap64 (a1 - (l0.length : Int))) < 0 then (some (-1)) else (laws_szInt64SS.l0 k l0 (wrap64 (a1 - (l0.length : Int))) 0)) = some r := h
 clear h
 by_cases c3 : (wrap64 (a1 - (l0.length : Int))) < 0
 ·rw [if_pos c3] at H
  have c3b0 : decide ((wrap64 (a1 - (l0.length : Int))) < 0) = true := decide_eq_true c3
  clear c3
  obtain rfl := Option.some.inj H
  go_enter Try.func58, Try.ntmps58
  go_wp2
  go_ret
  exact ⟨by first | rfl | (simp; done) | (simp [*]; done), by repeat (first | exact Drawn0.refl _ | apply Drawn0.step)⟩
 ·rw [if_neg c3] at H
  have c3b0 : decide ((wrap64 (a1 - (l0.length : Int))) < 0) = false := decide_eq_false c3
  clear c3
  have H' := Aside0.mk H
  clear H
  go_enter Try.func58, Try.ntmps58
  go_wp2
  go_loopg [1, 5] k (fun kq v1 v5 w' => ∃ (x1_1 : Int) (x5_1 : Int), v1 = .int .i64 x1_1 ∧ v5 = .int .i64 x5_1 ∧ Aside0 (laws_szInt64SS.l0 kq l0 x1_1 x5_1 = some r) ∧ Aside0 (kq ≤ k) ∧ Drawn0 w w')
  case atStart => exact ⟨(wrap64 (a1 - (l0.length : Int))), (0), (by first | rfl | (simp; done) | (simp [*]; done)), (by first | rfl | (simp; done) | (simp [*]; done)), H', ⟨Nat.le_refl _⟩, by repeat (first | exact Drawn0.refl _ | apply Drawn0.step)⟩
  case round =>
   clear H'
   try clear p2
   try clear c3
   try clear c3b0
   obtain ⟨x1_1, x5_1, rfl, rfl, HA, HK1, ⟨m1, rfl⟩⟩ := hrel
   cases gk with
   | zero => exact absurd HA.out (by simp [laws_szInt64SS.l0])
   | succ k1 =>
    have H := HA.out
    clear HA
    simp only [laws_szInt64SS.l0] at H
    by_cases c4 : x5_1 < (l0.length : Int)
    ·rw [if_pos c4] at H
     have c4b0 : decide (x5_1 < (l0.length : Int)) = true := decide_eq_true c4
     clear c4
     by_cases c5 : 0 ≤ x5_1
     ·rw [if_pos c5] at H
      have c5b0 : decide (0 ≤ x5_1) = true := decide_eq_true c5
      clear c5
      replace H := Option.bind_eq_some_iff.mp H
      obtain ⟨t119, A60, H⟩ := H
      replace H : (if t119 < 0 then (some (-1)) else (laws_szInt64SS.l0 k1 l0 t119 (wrap64 (x5_1 + 1)))) = some r := H
      have A6 := Aside0.mk A60
      clear A60
      by_cases c7 : t119 < 0
      ·rw [if_pos c7] at H
       have c7b0 : decide (t119 < 0) = true := decide_eq_true c7
       clear c7
       obtain rfl := Option.some.inj H
       have p118 : 0 ≤ (x5_1 : Int) := of_decide_eq_true (by first | (with_reducible assumption) | assumption)
       have q118 : x5_1 < (l0.length : Int) := of_decide_eq_true (by first | (with_reducible assumption) | assumption)
       obtain ⟨ad118, A118_0, c118_0, e118, hx118_0, hl118_0, hi118_0⟩ := at_L1 HR0.out x5_1 p118 q118
       cases e118
       have HR118_0 := Aside0.mk hi118_0
       have HC118_0 := Aside0.mk hl118_0
       clear hi118_0 hl118_0
       replace p118 := eq_true p118
       replace q118 := eq_true q118
       go_wp2_with (first | ((with_reducible refine gate_callee (f := 59) rfl ?_); refine goesL_ (some 23) rfl rfl Try.func59 (by kernel_rfl) rfl #[.slice A118_0 (rd_L1 l0 x5_1).length c118_0, .int .i64 x1_1] rfl (by (try simp only [List.map_toArray, List.map_cons, List.map_nil]); first | done | rfl | (simp only [List.length_drop, List.length_take]; rfl)) ?_; (with_reducible refine (laws_szInt64S.calls _ _ (rd_L1 l0 x5_1) x1_1 t119 _ ?side1 ?side2 A6.out).mono ?_); (case side1 => repeat (first | exact HR118_0.out | (with_reducible refine Kd.C_alloc ?_ _) | (with_reducible refine Kd.C_drewN ?_ _) | (with_reducible refine Kd.C_drew ?_))); (case side2 => exact HC118_0.out); rintro e w' ⟨rfl, ⟨nd, rfl⟩⟩; refine ⟨_, rfl, ?_⟩))
       go_ret
       exact ⟨by first | rfl | (simp; done) | (simp [*]; done), by repeat (first | exact Drawn0.refl _ | apply Drawn0.step)⟩
      ·rw [if_neg c7] at H
       have c7b0 : decide (t119 < 0) = false := decide_eq_false c7
       clear c7
       have H' := Aside0.mk H
       clear H
       have p118 : 0 ≤ (x5_1 : Int) := of_decide_eq_true (by first | (with_reducible assumption) | assumption)
       have q118 : x5_1 < (l0.length : Int) := of_decide_eq_true (by first | (with_reducible assumption) | assumption)
       obtain ⟨ad118, A118_0, c118_0, e118, hx118_0, hl118_0, hi118_0⟩ := at_L1 HR0.out x5_1 p118 q118
       cases e118
       have HR118_0 := Aside0.mk hi118_0
       have HC118_0 := Aside0.mk hl118_0
       clear hi118_0 hl118_0
       replace p118 := eq_true p118
       replace q118 := eq_true q118
       go_wp2_with (first | ((with_reducible refine gate_callee (f := 59) rfl ?_); refine goesL_ (some 23) rfl rfl Try.func59 (by kernel_rfl) rfl #[.slice A118_0 (rd_L1 l0 x5_1).length c118_0, .int .i64 x1_1] rfl (by (try simp only [List.map_toArray, List.map_cons, List.map_nil]); first | done | rfl | (simp only [List.length_drop, List.length_take]; rfl)) ?_; (with_reducible refine (laws_szInt64S.calls _ _ (rd_L1 l0 x5_1) x1_1 t119 _ ?side1 ?side2 A6.out).mono ?_); (case side1 => repeat (first | exact HR118_0.out | (with_reducible refine Kd.C_alloc ?_ _) | (with_reducible refine Kd.C_drewN ?_ _) | (with_reducible refine Kd.C_drew ?_))); (case side2 => exact HC118_0.out); rintro e w' ⟨rfl, ⟨nd, rfl⟩⟩; refine ⟨_, rfl, ?_⟩))
       go_roundg k1
       case measure => have := HK1.out; omega
       case rel => exact ⟨(t119), (wrap64 (x5_1 + 1)), (by first | rfl | (simp; done) | (simp [*]; done)), (by first | rfl | (simp; done) | (simp [*]; done)), H', ⟨by have := HK1.out; omega⟩, by repeat (first | exact Drawn0.refl _ | apply Drawn0.step)⟩
     ·rw [if_neg c5] at H
      exact absurd H (by simp)
    ·rw [if_neg c4] at H
     have c4b0 : decide (x5_1 < (l0.length : Int)) = false := decide_eq_false c4
     clear c4
     obtain rfl := Option.some.inj H
     go_wp2
     go_ret
     exact ⟨by first | rfl | (simp; done) | (simp [*]; done), by repeat (first | exact Drawn0.refl _ | apply Drawn0.step)⟩
def laws_szProblem.f (k : Nat) (l0_0 : List (List Int)) (l0_1 : List Int) (a1 : Int) : Option (Int) := (laws_szInt64SS.f k l0_0 a1).bind fun t121 => (if t121 < 0 then (some (-1)) else ((laws_szInt64S.f l0_1 t121).bind fun t122 => (if t122 < 0 then (some (-1)) else (some t122))))
theorem laws_szProblem.mono : ∀ a0 a1 a2 k, LeO (laws_szProblem.f k a0 a1 a2) (laws_szProblem.f (k + 1) a0 a1 a2) := by
 intro a0 a1 a2 k
 unfold laws_szProblem.f
 repeat' first
   | (with_reducible exact laws_szInt64SS.mono _ _ _)
   | (with_reducible exact LeO.refl _)
   | (with_reducible exact LeO.none _)
   | (with_reducible refine LeO.ite ?_ ?_)
   | (with_reducible refine LeO.bind ?_ (fun _ => ?_))
   | exact laws_szInt64SS.mono _ _ _
   | exact LeO.none _
   | refine LeO.ite ?_ ?_
   | refine LeO.bind ?_ (fun _ => ?_)
theorem laws_szProblem.calls (k : Nat) (A0_0 : Option Addr) (c0_0 : Nat) (l0_0 : List (List Int)) (A0_1 : Option Addr) (c0_1 : Nat) (l0_1 : List Int) (a1 : Int) (r : Int) (w : World) (hr0_0 : Kd.C (Kd.slice 2 (Kd.int .i64)) w A0_0 l0_0.length l0_0) (hc0_0 : l0_0.length ≤ c0_0) (hr0_1 : Kd.C (Kd.int .i64) w A0_1 l0_1.length l0_1) (hc0_1 : l0_1.length ≤ c0_1) (h : laws_szProblem.f k l0_0 l0_1 a1 = some r) :
  Calls Try.prog 15 #[.agg #[.slice A0_0 l0_0.length c0_0, .slice A0_1 l0_1.length c0_1], .int .i64 a1] w fun e w' => e = .returned (.int .i64 r) ∧ Below w.heap.size w w' := by
 have hu25 := Try.underlying25
 have HR0_0 := Aside0.mk hr0_0
 have HC0_0 := Aside0.mk hc0_0
 clear hr0_0 hc0_0
 have HR0_1 := Aside0.mk hr0_1
 have HC0_1 := Aside0.mk hc0_1
 clear hr0_1 hc0_1
 have HB := Aside0.mk (Below.refl w.heap.size w)
 have H : ((laws_szInt64SS.f k l0_0 a1).bind fun t121 => (if t121 < 0 then (some (-1)) else ((laws_szInt64S.f l0_1 t121).bind fun t122 => (if t122 < 0 then (some (-1)) else (some t122))))) = some r := h
 clear h
 replace H := Option.bind_eq_some_iff.mp H
 obtain ⟨t121, A30, H⟩ := H
 replace H : (if t121 < 0 then (some (-1)) else ((laws_szInt64S.f l0_1 t121).bind fun t122 => (if t122 < 0 then (some (-1)) else (some t122)))) = some r := H
 have A3 := Aside0.mk A30
 clear A30
 by_cases c4 : t121 < 0
 ·rw [if_pos c4] at H
  have c4b0 : decide (t121 < 0) = true := decide_eq_true c4
  clear c4
  obtain rfl := Option.some.inj H
  go_enter Try.func15, Try.ntmps15
  go_wp2_with (first | ((with_reducible refine gate_dst (N := 2) rfl ?_); refine box_event ?hg (N := 2) ?hd (cs := #[.slice A0_0 l0_0.length c0_0, .slice A0_1 l0_1.length c0_1]) (t := 25) ?hr ?_; (case hd => rfl); (case hg => rfl); (case hr => first | (go_simp; done) | (go_simp; rfl)); intro gb120 hg w5 hbox hb; have n0_ := Aside0.mk (bs_ hb); have n1_ := Aside0.mk (hbox); have n2_ := Aside0.mk ((by rw [hg]; exact bz_ : w.heap.size ≤ gb120)); have n3_ := Aside0.mk ((by rw [hg]; exact bz_ : w.heap.size ≤ gb120)); clear HB; have HB := n0_; have BK120 := n1_; have GW120 := n2_; have GE120 := n3_; clear n0_ n1_ n2_ n3_; clear hb hbox hg; have hcz6_0 : w5.cell? ⟨gb120, 0, none⟩ = some (.slice A0_0 l0_0.length c0_0) := (blk_cell BK120.out 0).trans rfl; have hcz6_1 : w5.cell? ⟨gb120, 1, none⟩ = some (.slice A0_1 l0_1.length c0_1) := (blk_cell BK120.out 1).trans rfl; have hfz6_0 := blk_frozen BK120.out 0; have hfz6_1 := blk_frozen BK120.out 1) | ((with_reducible refine gate_callee (f := 58) rfl ?_); refine goesL_ (some 8) rfl rfl Try.func58 (by kernel_rfl) rfl #[.slice A0_0 l0_0.length c0_0, .int .i64 a1] rfl (by (try simp only [List.map_toArray, List.map_cons, List.map_nil]); first | done | rfl | (simp only [List.length_drop, List.length_take]; rfl)) ?_; (with_reducible refine (laws_szInt64SS.calls k _ _ l0_0 a1 t121 _ ?side1 ?side2 A3.out).mono ?_); (case side1 => exact cb_ HR0_0.out HB.out); (case side2 => exact HC0_0.out); rintro e w' ⟨rfl, ⟨nd, rfl⟩⟩; refine ⟨_, rfl, ?_⟩))
  go_ret
  exact ⟨by first | rfl | (simp [errW_none, errW_some] <;> rfl) | (simp [*, errW_none, errW_some] <;> rfl), hb_⟩
 ·rw [if_neg c4] at H
  have c4b0 : decide (t121 < 0) = false := decide_eq_false c4
  clear c4
  replace H := Option.bind_eq_some_iff.mp H
  obtain ⟨t122, A70, H⟩ := H
  replace H : (if t122 < 0 then (some (-1)) else (some t122)) = some r := H
  have A7 := Aside0.mk A70
  clear A70
  by_cases c8 : t122 < 0
  ·rw [if_pos c8] at H
   have c8b0 : decide (t122 < 0) = true := decide_eq_true c8
   clear c8
   obtain rfl := Option.some.inj H
   go_enter Try.func15, Try.ntmps15
   go_wp2_with (first | ((with_reducible refine gate_dst (N := 2) rfl ?_); refine box_event ?hg (N := 2) ?hd (cs := #[.slice A0_0 l0_0.length c0_0, .slice A0_1 l0_1.length c0_1]) (t := 25) ?hr ?_; (case hd => rfl); (case hg => rfl); (case hr => first | (go_simp; done) | (go_simp; rfl)); intro gb120 hg w9 hbox hb; have n0_ := Aside0.mk (bs_ hb); have n1_ := Aside0.mk (hbox); have n2_ := Aside0.mk ((by rw [hg]; exact bz_ : w.heap.size ≤ gb120)); have n3_ := Aside0.mk ((by rw [hg]; exact bz_ : w.heap.size ≤ gb120)); clear HB; have HB := n0_; have BK120 := n1_; have GW120 := n2_; have GE120 := n3_; clear n0_ n1_ n2_ n3_; clear hb hbox hg; have hcz10_0 : w9.cell? ⟨gb120, 0, none⟩ = some (.slice A0_0 l0_0.length c0_0) := (blk_cell BK120.out 0).trans rfl; have hcz10_1 : w9.cell? ⟨gb120, 1, none⟩ = some (.slice A0_1 l0_1.length c0_1) := (blk_cell BK120.out 1).trans rfl; have hfz10_0 := blk_frozen BK120.out 0; have hfz10_1 := blk_frozen BK120.out 1) | ((with_reducible refine gate_callee (f := 58) rfl ?_); refine goesL_ (some 8) rfl rfl Try.func58 (by kernel_rfl) rfl #[.slice A0_0 l0_0.length c0_0, .int .i64 a1] rfl (by (try simp only [List.map_toArray, List.map_cons, List.map_nil]); first | done | rfl | (simp only [List.length_drop, List.length_take]; rfl)) ?_; (with_reducible refine (laws_szInt64SS.calls k _ _ l0_0 a1 t121 _ ?side1 ?side2 A3.out).mono ?_); (case side1 => exact cb_ HR0_0.out HB.out); (case side2 => exact HC0_0.out); rintro e w' ⟨rfl, ⟨nd, rfl⟩⟩; refine ⟨_, rfl, ?_⟩) | ((with_reducible refine gate_callee (f := 59) rfl ?_); refine goesL_ (some 14) rfl rfl Try.func59 (by kernel_rfl) rfl #[.slice A0_1 l0_1.length c0_1, .int .i64 t121] rfl (by (try simp only [List.map_toArray, List.map_cons, List.map_nil]); first | done | rfl | (simp only [List.length_drop, List.length_take]; rfl)) ?_; (with_reducible refine (laws_szInt64S.calls _ _ l0_1 t121 t122 _ ?side1 ?side2 A7.out).mono ?_); (case side1 => repeat (first | exact (Kd.C_below HR0_1.out hb_) | (with_reducible refine Kd.C_alloc ?_ _) | (with_reducible refine Kd.C_drewN ?_ _) | (with_reducible refine Kd.C_drew ?_))); (case side2 => exact HC0_1.out); rintro e w' ⟨rfl, ⟨nd, rfl⟩⟩; refine ⟨_, rfl, ?_⟩))
   go_ret
   exact ⟨by first | rfl | (simp [errW_none, errW_some] <;> rfl) | (simp [*, errW_none, errW_some] <;> rfl), hb_⟩
  ·rw [if_neg c8] at H
   have c8b0 : decide (t122 < 0) = false := decide_eq_false c8
   clear c8
   obtain rfl := Option.some.inj H
   go_enter Try.func15, Try.ntmps15
   go_wp2_with (first | ((with_reducible refine gate_dst (N := 2) rfl ?_); refine box_event ?hg (N := 2) ?hd (cs := #[.slice A0_0 l0_0.length c0_0, .slice A0_1 l0_1.length c0_1]) (t := 25) ?hr ?_; (case hd => rfl); (case hg => rfl); (case hr => first | (go_simp; done) | (go_simp; rfl)); intro gb120 hg w11 hbox hb; have n0_ := Aside0.mk (bs_ hb); have n1_ := Aside0.mk (hbox); have n2_ := Aside0.mk ((by rw [hg]; exact bz_ : w.heap.size ≤ gb120)); have n3_ := Aside0.mk ((by rw [hg]; exact bz_ : w.heap.size ≤ gb120)); clear HB; have HB := n0_; have BK120 := n1_; have GW120 := n2_; have GE120 := n3_; clear n0_ n1_ n2_ n3_; clear hb hbox hg; have hcz12_0 : w11.cell? ⟨gb120, 0, none⟩ = some (.slice A0_0 l0_0.length c0_0) := (blk_cell BK120.out 0).trans rfl; have hcz12_1 : w11.cell? ⟨gb120, 1, none⟩ = some (.slice A0_1 l0_1.length c0_1) := (blk_cell BK120.out 1).trans rfl; have hfz12_0 := blk_frozen BK120.out 0; have hfz12_1 := blk_frozen BK120.out 1) | ((with_reducible refine gate_callee (f := 58) rfl ?_); refine goesL_ (some 8) rfl rfl Try.func58 (by kernel_rfl) rfl #[.slice A0_0 l0_0.length c0_0, .int .i64 a1] rfl (by (try simp only [List.map_toArray, List.map_cons, List.map_nil]); first | done | rfl | (simp only [List.length_drop, List.length_take]; rfl)) ?_; (with_reducible refine (laws_szInt64SS.calls k _ _ l0_0 a1 t121 _ ?side1 ?side2 A3.out).mono ?_); (case side1 => exact cb_ HR0_0.out HB.out); (case side2 => exact HC0_0.out); rintro e w' ⟨rfl, ⟨nd, rfl⟩⟩; refine ⟨_, rfl, ?_⟩) | ((with_reducible refine gate_callee (f := 59) rfl ?_); refine goesL_ (some 14) rfl rfl Try.func59 (by kernel_rfl) rfl #[.slice A0_1 l0_1.length c0_1, .int .i64 t121] rfl (by (try simp only [List.map_toArray, List.map_cons, List.map_nil]); first | done | rfl | (simp only [List.length_drop, List.length_take]; rfl)) ?_; (with_reducible refine (laws_szInt64S.calls _ _ l0_1 t121 t122 _ ?side1 ?side2 A7.out).mono ?_); (case side1 => repeat (first | exact (Kd.C_below HR0_1.out hb_) | (with_reducible refine Kd.C_alloc ?_ _) | (with_reducible refine Kd.C_drewN ?_ _) | (with_reducible refine Kd.C_drew ?_))); (case side2 => exact HC0_1.out); rintro e w' ⟨rfl, ⟨nd, rfl⟩⟩; refine ⟨_, rfl, ?_⟩))
   go_ret
   exact ⟨by first | rfl | (simp [errW_none, errW_some] <;> rfl) | (simp [*, errW_none, errW_some] <;> rfl), hb_⟩
def laws_toInt64SS.l0 : Nat → List (List Int) → List (List Int) → Int → Option ((List (List Int)))
 | 0, _, _, _ => none
 | k + 1, x0, x3, x4 => if x4 < (x0.length : Int) then (if 0 ≤ x4 then ((laws_toInt64S.f k (rd_L1 x0 x4)).bind fun t127 => (if x4 < (x3.length : Int) then (laws_toInt64SS.l0 k x0 (x3.set (x4 : Int).toNat t127) (wrap64 (x4 + 1))) else (none))) else (none)) else (some x3)
def laws_toInt64SS.f (k : Nat) (l0 : List (List Int)) : Option ((List (List Int))) := if 0 ≤ (l0.length : Int) then (if ((l0.length : Int) : Int).toNat ≤ 11728124029610 then (laws_toInt64SS.l0 k l0 (List.replicate ((l0.length : Int) : Int).toNat []) 0) else (none)) else (none)
theorem laws_toInt64SS.mono_l : ∀ k, (∀ y0 y1 y2, LeO (laws_toInt64SS.l0 k y0 y1 y2) (laws_toInt64SS.l0 (k + 1) y0 y1 y2))
 | 0 => fun _ _ _ r h => by simp [laws_toInt64SS.l0] at h
 | k + 1 => by
  have ih0 := laws_toInt64SS.mono_l k
  ·intro y0 y1 y2
   unfold laws_toInt64SS.l0
   repeat' first
   | (with_reducible exact ih0 _ _ _)
   | (with_reducible exact laws_toInt64S.mono _ _)
   | (with_reducible exact LeO.refl _)
   | (with_reducible exact LeO.none _)
   | (with_reducible refine LeO.ite ?_ ?_)
   | (with_reducible refine LeO.bind ?_ (fun _ => ?_))
   | exact ih0 _ _ _
   | exact laws_toInt64S.mono _ _
   | exact LeO.none _
   | refine LeO.ite ?_ ?_
   | refine LeO.bind ?_ (fun _ => ?_)
theorem laws_toInt64SS.mono : ∀ a0 k, LeO (laws_toInt64SS.f k a0) (laws_toInt64SS.f (k + 1) a0) := by
 intro a0 k
 have ih0 := laws_toInt64SS.mono_l k
 unfold laws_toInt64SS.f
 repeat' first
   | (with_reducible exact ih0 _ _ _)
   | (with_reducible exact laws_toInt64S.mono _ _)
   | (with_reducible exact LeO.refl _)
   | (with_reducible exact LeO.none _)
   | (with_reducible refine LeO.ite ?_ ?_)
   | (with_reducible refine LeO.bind ?_ (fun _ => ?_))
   | exact ih0 _ _ _
   | exact laws_toInt64S.mono _ _
   | exact LeO.none _
   | refine LeO.ite ?_ ?_
   | refine LeO.bind ?_ (fun _ => ?_)
theorem laws_toInt64SS.calls (k : Nat) (A0 : Option Addr) (c0 : Nat) (l0 : List (List Int)) (r : List (List Int)) (w : World) (hr0 : Kd.C (Kd.slice 2 (Kd.int .i64)) w A0 l0.length l0) (hc0 : l0.length ≤ c0) (h : laws_toInt64SS.f k l0 = some r) :
  Calls Try.prog 62 #[.slice A0 l0.length c0] w fun e w' => ∃ v0_ : Value, e = .returned (v0_) ∧ Kd.S (Kd.slice 2 (Kd.int .i64)) 23 w' w.heap.size (fun _ => True) v0_ r ∧ Below w.heap.size w w' := by
 have HR0 := Aside0.mk hr0
 have HC0 := Aside0.mk hc0
 clear hr0 hc0
 have HB := Aside0.mk (Below.refl w.heap.size w)
 have H : (if 0 ≤ (l0.length : Int) then (if ((l0.length : Int) : Int).toNat ≤ 11728124029610 then (laws_toInt64SS.l0 k l0 (List.replicate ((l0.length : Int) : Int).toNat []) 0) else (none)) else (none)) = some r := h
 clear h
 by_cases c2 : 0 ≤ (l0.length : Int)
 ·rw [if_pos c2] at H
  have c2b0 := eq_true c2
  have c2b1 : decide (0 ≤ (l0.length : Int)) = true := decide_eq_true c2
  clear c2
  by_cases c3 : ((l0.length : Int) : Int).toNat ≤ 11728124029610
  ·rw [if_pos c3] at H
   have c3b0 := eq_true c3
   have c3b1 : decide (((l0.length : Int) : Int).toNat ≤ 11728124029610) = true := decide_eq_true c3
   clear c3
   obtain ⟨y123, hy123⟩ : ∃ y_ : List (List Int), y_ = (List.replicate ((l0.length : Int) : Int).toNat []) := ⟨_, rfl⟩
   replace H : (laws_toInt64SS.l0 k l0 y123 0) = some r := by first | (rw [hy123]; with_reducible exact H) | (have H2_ := (Option.bind_some _ _).symm.trans H; rw [hy123]; with_reducible exact H2_) | (have H2_ := (Option.bind_some _ _).symm.trans H; with_reducible exact H2_) | with_reducible exact H | (rw [hy123]; exact H) | exact H
   have Ny123 := Aside0.mk hy123
   clear hy123
   have H' := Aside0.mk H
   clear H
   go_enter Try.func62, Try.ntmps62
   go_wp2_with (first | ((with_reducible refine gate_dst (N := 7) rfl ?_); refine Kd.S_make (Kd.slice 2 (Kd.int .i64)) _ 23 rfl (N := 7) rfl 22 _ _ rfl (l0.length : Int) rfl rfl Try.underlying22 (.slice none 0 0) 24 info23 rfl (by decide) (by omega) [] (ok := fun _ => True) (okp := fun _ => True) ⟨_, rfl, Kd.R_nil _ _ _ _ _⟩ (fun _ hk => hk) trivial (of_decide_eq_true (by first | (with_reducible assumption) | assumption)) (Nat.le_trans (Nat.mul_le_mul_right _ (of_decide_eq_true (by first | (with_reducible assumption) | assumption) : (l0.length : Int).toNat ≤ 11728124029610)) (by omega)) (Below.refl _ _) (Nat.le_refl _) ?_; intro v124 w4 ho5 hb hg_ hnew_; clear hg_ hnew_; (first | rw [← Ny123.out] at ho5 | (simp only [Int.reduceToNat] at ho5; rw [← Ny123.out] at ho5)); have n0_ := Aside0.mk (Kd.S_lower ho5 bz_); have n1_ := Aside0.mk (bs_ hb); clear HB; have HO125 := n0_; have HB := n1_; clear n0_ n1_; clear hb ho5))
   go_loopg [4] k (fun kq v4 w' => ∃ (x3_1 : List (List Int)) (x4_1 : Int), v4 = .int .i64 x4_1 ∧ Aside0 (laws_toInt64SS.l0 kq l0 x3_1 x4_1 = some r) ∧ Aside0 (kq ≤ k) ∧ Aside0 (Kd.S (Kd.slice 2 (Kd.int .i64)) 23 w' w.heap.size (fun _ => True) v124 x3_1) ∧ Aside0 (Below w.heap.size w w'))
   case atStart => exact ⟨(y123), (0), (by first | rfl | (simp; done) | (simp [*]; done)), H', ⟨Nat.le_refl _⟩, ⟨so_ HO125.out⟩, ⟨hb_⟩⟩
   case round =>
    clear H'
    try clear c2
    try clear c2b0
    try clear c2b1
    try clear p2
    try clear c3
    try clear c3b0
    try clear c3b1
    obtain ⟨x3_1, x4_1, rfl, HA, HK1, HO_3, HB⟩ := hrel
    cases gk with
    | zero => exact absurd HA.out (by simp [laws_toInt64SS.l0])
    | succ k1 =>
     have H := HA.out
     clear HA
     simp only [laws_toInt64SS.l0] at H
     by_cases c6 : x4_1 < (l0.length : Int)
     ·rw [if_pos c6] at H
      have c6b0 : decide (x4_1 < (l0.length : Int)) = true := decide_eq_true c6
      clear c6
      by_cases c7 : 0 ≤ x4_1
      ·rw [if_pos c7] at H
       have c7b0 : decide (0 ≤ x4_1) = true := decide_eq_true c7
       clear c7
       replace H := Option.bind_eq_some_iff.mp H
       obtain ⟨t127, A80, H⟩ := H
       replace H : (if x4_1 < (x3_1.length : Int) then (laws_toInt64SS.l0 k1 l0 (x3_1.set (x4_1 : Int).toNat t127) (wrap64 (x4_1 + 1))) else (none)) = some r := H
       have A8 := Aside0.mk A80
       clear A80
       by_cases c9 : x4_1 < (x3_1.length : Int)
       ·rw [if_pos c9] at H
        have c9b0 : decide (x4_1 < (x3_1.length : Int)) = true := decide_eq_true c9
        clear c9
        obtain ⟨y130, hy130⟩ : ∃ y_ : List (List Int), y_ = (x3_1.set (x4_1 : Int).toNat t127) := ⟨_, rfl⟩
        replace H : (laws_toInt64SS.l0 k1 l0 y130 (wrap64 (x4_1 + 1))) = some r := by first | (rw [hy130]; with_reducible exact H) | (have H2_ := (Option.bind_some _ _).symm.trans H; rw [hy130]; with_reducible exact H2_) | (have H2_ := (Option.bind_some _ _).symm.trans H; with_reducible exact H2_) | with_reducible exact H | (rw [hy130]; exact H) | exact H
        have Ny130 := Aside0.mk hy130
        clear hy130
        have H' := Aside0.mk H
        clear H
        have p126 : 0 ≤ (x4_1 : Int) := of_decide_eq_true (by first | (with_reducible assumption) | assumption)
        have q126 : x4_1 < (l0.length : Int) := of_decide_eq_true (by first | (with_reducible assumption) | assumption)
        obtain ⟨ad126, A126_0, c126_0, e126, hx126_0, hl126_0, hi126_0⟩ := at_L1 HR0.out x4_1 p126 q126
        cases e126
        replace hx126_0 := (HB.out.cell (World.block_lt_of_cell? w _ hx126_0)).trans hx126_0
        have HR126_0 := Aside0.mk hi126_0
        have HC126_0 := Aside0.mk hl126_0
        clear hi126_0 hl126_0
        replace p126 := eq_true p126
        replace q126 := eq_true q126
        go_wp2_with (first | ((with_reducible refine gate_callee (f := 44) rfl ?_); refine goesL_ (some 20) rfl rfl Try.func44 (by kernel_rfl) rfl #[.slice A126_0 (rd_L1 l0 x4_1).length c126_0] rfl (by (try simp only [List.map_toArray, List.map_cons, List.map_nil]); first | done | rfl | (simp only [List.length_drop, List.length_take]; rfl)) ?_; (with_reducible refine (laws_toInt64S.calls k1 _ _ (rd_L1 l0 x4_1) t127 _ ?side1 ?side2 A8.out).mono ?_); (case side1 => exact cb_ HR126_0.out HB.out); (case side2 => exact HC126_0.out); rintro e w11 ⟨v128, rfl, ho0, hb⟩; refine ⟨_, rfl, ?_⟩; have n0_ := Aside0.mk (Kd.S_elder' (so_ HO_3.out) (Kd.R_base ho0) hb); have n1_ := Aside0.mk (Kd.R_lower ho0 bz_); have n2_ := Aside0.mk (bs_ hb); clear HO_3; clear HB; have HO_3 := n0_; have HO129 := n1_; have HB := n2_; clear n0_ n1_ n2_; (try clear hb); (try clear hb2); (try clear hk); (try clear hi); (try clear ho0); have p10 : 0 ≤ (x4_1 : Int) := of_decide_eq_true (by first | (with_reducible assumption) | assumption); have q10 : (x4_1 : Int) < ((x3_1.length : Int) : Int) := of_decide_eq_true (by first | (with_reducible assumption) | assumption); obtain ⟨go10, co10, eo10, gb10, gl10, cl10, HG10⟩ := Kd.S_form HO_3.out (by omega); (first | cases eo10 | (injection eo10 with ea_ en_ ec_; (first | subst ea_ | (injection ea_ with ea_; subst ea_)); subst ec_; clear en_)); have GB10 := Aside0.mk gb10; have GG10 := Aside0.mk HG10; clear gb10 gl10 HG10; obtain ⟨_, ce10, hcl10, hM10, hcc10, hfr10, _, _⟩ := Kd.S_elem HO_3.out [] (x4_1 : Int) p10 q10; obtain ⟨ve10_0, rfl, ge10_0⟩ := hM10; have hx10_0 := hcc10 0 _ rfl; have hf10_0 := hfr10 0; (try simp only [show ((Kd.slice 2 (Kd.int .i64))).sz = 1 from rfl, Nat.mul_one, Nat.add_zero] at hx10_0); (try simp only [show ((Kd.slice 2 (Kd.int .i64))).sz = 1 from rfl, Nat.mul_one, Nat.add_zero] at hf10_0); (try clear hcl10); (try clear hcc10); (try clear hfr10); (try clear hM10); replace p10 := eq_true p10; replace q10 := eq_true q10; have n_ := Aside0.mk (Kd.S_mono (ok' := (fun k_ => some k_ ≠ (v128 : Value).ownBlock)) HO_3.out (fun k_ hk => hk.2)); clear HO_3; have HO_3 := n_; clear n_; have HX12 := Aside0.mk (show Kd.S (Kd.slice 2 (Kd.int .i64)) 23 w11 w.heap.size (fun k_ => ((fun _ => True)) k_ ∧ ¬ ((fun k_ => some k_ = (v128 : Value).ownBlock)) k_) (.slice (some ⟨go10, 0, none⟩) x3_1.length co10) x3_1 from (by (with_reducible repeat (first | apply Kd.S_alloc | apply Kd.S_drewN | apply Kd.S_drew)); exact Kd.S_mono HO_3.out (fun k_ hk => ⟨trivial, fun e_ => hk e_⟩))); obtain ⟨oki12, ce12, hcl12, hM12, hcc12, hfr12, hoki12, hH12⟩ := Kd.S_elem HX12.out [] (x4_1 : Int) (of_decide_eq_true (by first | (with_reducible assumption) | assumption)) (by have h_ : (x4_1 : Int) < ((x3_1.length : Int) : Int) := of_decide_eq_true (by first | (with_reducible assumption) | assumption); first | exact h_ | (have e_ := (Kd.S_reads' HO_3.out).1; omega) | simpa using h_); obtain ⟨ve12_0, rfl, ge12_0⟩ := hM12; have HP12 := Kd.S_seg hH12 (of_decide_eq_true (by first | (with_reducible assumption) | assumption)) (by have h_ : (x4_1 : Int) < ((x3_1.length : Int) : Int) := of_decide_eq_true (by first | (with_reducible assumption) | assumption); first | exact h_ | (have e_ := (Kd.S_reads' HO_3.out).1; omega) | simpa using h_) (seg := [v128]) (j := 0) (show 1 ≤ 1 from by decide) (x' := t127) (Kd.M_row (Kd.R_mono (Kd.R_tight rfl (Kd.R_mono (ok' := fun k_ => ((fun _ => True)) k_ ∧ k_ ≠ go10) (Kd.R_apart' (HO129.out) (Kd.S_typed HO_3.out) (by decide)) (fun k_ hk => ⟨trivial, fun e_ => (hk.2) (by rw [e_]; rfl)⟩))) (fun _ h_ => Or.inr (h_)))) (fun _ hk => hk) (fun k_ hk_ => ((Kd.R_mono (ok' := fun k_ => ((fun _ => True)) k_ ∧ k_ ≠ go10) (Kd.R_apart' (HO129.out) (Kd.S_typed HO_3.out) (by decide)) (fun k_ hk => ⟨trivial, fun e_ => (hk.2) (by rw [e_]; rfl)⟩))).1 k_ hk_.symm); have hx12_0 := hcc12 0 _ rfl; (try simp only [show ((Kd.slice 2 (Kd.int .i64))).sz = 1 from rfl, Nat.mul_one, Nat.add_zero] at hx12_0); have hf12_0 := hfr12 0; (try simp only [show ((Kd.slice 2 (Kd.int .i64))).sz = 1 from rfl, Nat.mul_one, Nat.add_zero] at hf12_0); (try clear hcl12); (try clear hcc12); (try clear hfr12); (try clear hM12); (try clear hoki12); (try clear hH12); (try simp only [show ((Kd.slice 2 (Kd.int .i64))).sz = 1 from rfl, Nat.mul_one, Nat.add_zero] at HP12)) | ((with_reducible refine gate_store (t := 23) (p := 21) rfl ?_); refine store_event (t := 23) (p := 21) (v := ?vo_w13) (w1 := (w11.setCell ⟨go10, (x4_1 : Int).toNat, none⟩ (v128))) ?hg ?ho ?hn ?hr ?_; (case ho => rfl); (case hg => rfl); (case hn => rfl); (case hr => first | (go_simp; done) | (go_simp; rfl) | ((try (obtain ⟨_, _, e_⟩ := Kd.R_slice HO129.out; subst e_)); first | (go_simp; done) | (go_simp; rfl))); intro w13 hw; have hg : w11.grownBy w13 (some go10) := (by rw [hw]; exact HP12.2); have hp_ : Kd.S (Kd.slice 2 (Kd.int .i64)) 23 w13 w.heap.size (fun _ => True) (.slice (some ⟨go10, 0, none⟩) x3_1.length co10) y130 := (by rw [hw, Ny130.out]; exact HP12.1); clear HP12; have n0_ := Aside0.mk (hp_); have n1_ := Aside0.mk ((by rw [hw]; exact below_set (HB.out) GB10.out : Below w.heap.size w w13)); clear HO_3; clear HB; clear HO129; have HO_3 := n0_; have HB := n1_; clear n0_ n1_; clear hg hw hp_))
        go_roundg k1
        case measure => have := HK1.out; omega
        case rel => exact ⟨(y130), (wrap64 (x4_1 + 1)), (by first | rfl | (simp; done) | (simp [*]; done)), H', ⟨by have := HK1.out; omega⟩, ⟨so_ HO_3.out⟩, ⟨hb_⟩⟩
       ·rw [if_neg c9] at H
        exact absurd H (by simp)
      ·rw [if_neg c7] at H
       exact absurd H (by simp)
     ·rw [if_neg c6] at H
      have c6b0 : decide (x4_1 < (l0.length : Int)) = false := decide_eq_false c6
      clear c6
      obtain rfl := Option.some.inj H
      go_wp2
      go_ret
      exact ⟨_, by first | rfl | (simp [errW_none, errW_some] <;> rfl) | (simp [*, errW_none, errW_some] <;> rfl), so_ HO_3.out, hb_⟩
  ·rw [if_neg c3] at H
   exact absurd H (by simp)
 ·rw [if_neg c2] at H
  exact absurd H (by simp)
def laws_toProblem.f (k : Nat) (l0_0 : List (List Int)) (l0_1 : List Int) : Option ((List (List Int)) × List Int) := (laws_toInt64SS.f k l0_0).bind fun t134 => ((laws_toInt64S.f k l0_1).bind fun t137 => (some (t134, t137)))
theorem laws_toProblem.mono : ∀ a0 a1 k, LeO (laws_toProblem.f k a0 a1) (laws_toProblem.f (k + 1) a0 a1) := by
 intro a0 a1 k
 unfold laws_toProblem.f
 repeat' first
   | (with_reducible exact laws_toInt64S.mono _ _)
   | (with_reducible exact laws_toInt64SS.mono _ _)
   | (with_reducible exact LeO.refl _)
   | (with_reducible exact LeO.none _)
   | (with_reducible refine LeO.ite ?_ ?_)
   | (with_reducible refine LeO.bind ?_ (fun _ => ?_))
   | exact laws_toInt64S.mono _ _
   | exact laws_toInt64SS.mono _ _
   | exact LeO.none _
   | refine LeO.ite ?_ ?_
   | refine LeO.bind ?_ (fun _ => ?_)
theorem laws_toProblem.calls (k : Nat) (A0_0 : Option Addr) (c0_0 : Nat) (l0_0 : List (List Int)) (A0_1 : Option Addr) (c0_1 : Nat) (l0_1 : List Int) (r1 : List (List Int)) (r2 : List Int) (w : World) (hr0_0 : Kd.C (Kd.slice 2 (Kd.int .i64)) w A0_0 l0_0.length l0_0) (hc0_0 : l0_0.length ≤ c0_0) (hr0_1 : Kd.C (Kd.int .i64) w A0_1 l0_1.length l0_1) (hc0_1 : l0_1.length ≤ c0_1) (h : laws_toProblem.f k l0_0 l0_1 = some (r1, r2)) :
  Calls Try.prog 17 #[.agg #[.slice A0_0 l0_0.length c0_0, .slice A0_1 l0_1.length c0_1]] w fun e w' => ∃ v0_ v1_ : Value, e = .returned (.agg #[v0_, v1_]) ∧ Kd.S (Kd.slice 2 (Kd.int .i64)) 23 w' w.heap.size (fun k_ => some k_ ≠ (v1_ : Value).ownBlock) v0_ r1 ∧ Kd.R (Kd.int .i64) 2 w' w.heap.size (fun _ => True) v1_ r2 ∧ Below w.heap.size w w' := by
 have hu25 := Try.underlying25
 have hu29 := Try.underlying29
 have HR0_0 := Aside0.mk hr0_0
 have HC0_0 := Aside0.mk hc0_0
 clear hr0_0 hc0_0
 have HR0_1 := Aside0.mk hr0_1
 have HC0_1 := Aside0.mk hc0_1
 clear hr0_1 hc0_1
 have HB := Aside0.mk (Below.refl w.heap.size w)
 have H : ((laws_toInt64SS.f k l0_0).bind fun t134 => ((laws_toInt64S.f k l0_1).bind fun t137 => (some (t134, t137)))) = some (r1, r2) := h
 clear h
 replace H := Option.bind_eq_some_iff.mp H
 obtain ⟨t134, A20, H⟩ := H
 replace H : ((laws_toInt64S.f k l0_1).bind fun t137 => (some (t134, t137))) = some (r1, r2) := H
 have A2 := Aside0.mk A20
 clear A20
 replace H := Option.bind_eq_some_iff.mp H
 obtain ⟨t137, A30, H⟩ := H
 replace H : (some (t134, t137)) = some (r1, r2) := H
 have A3 := Aside0.mk A30
 clear A30
 simp only [Option.some.injEq, Prod.mk.injEq] at H
 obtain ⟨rfl, rfl⟩ := H
 go_enter Try.func17, Try.ntmps17
 go_wp2_with (first | ((with_reducible refine gate_dst (N := 1) rfl ?_); refine box_event ?hg (N := 1) ?hd (cs := #[.slice A0_0 l0_0.length c0_0, .slice A0_1 l0_1.length c0_1]) (t := 25) ?hr ?_; (case hd => rfl); (case hg => rfl); (case hr => first | (go_simp; done) | (go_simp; rfl)); intro gb131 hg w4 hbox hb; have n0_ := Aside0.mk (bs_ hb); have n1_ := Aside0.mk (hbox); have n2_ := Aside0.mk ((by rw [hg]; exact bz_ : w.heap.size ≤ gb131)); have n3_ := Aside0.mk ((by rw [hg]; exact bz_ : w.heap.size ≤ gb131)); clear HB; have HB := n0_; have BK131 := n1_; have GW131 := n2_; have GE131 := n3_; clear n0_ n1_ n2_ n3_; clear hb hbox hg) | ((with_reducible refine gate_dst (N := 2) rfl ?_); refine box_event ?hg (N := 2) ?hd (cs := #[.slice none 0 0, .slice none 0 0]) (t := 29) ?hr ?_; (case hd => rfl); (case hg => rfl); (case hr => first | (go_simp; done) | (go_simp; rfl)); intro gb132 hg w5 hbox hb; have n0_ := Aside0.mk (bb_ BK131.out hb); have n1_ := Aside0.mk (bs_ hb); have n2_ := Aside0.mk (hbox); have n3_ := Aside0.mk ((by rw [hg]; exact bz_ : w.heap.size ≤ gb132)); have n4_ := Aside0.mk ((by rw [hg]; exact bz_ : w.heap.size ≤ gb132)); have n5_ := Aside0.mk ((by rw [hg]; exact lt_ BK131.out : gb131 ≠ gb132)); have n6_ := Aside0.mk ((by rw [hg]; exact gt_ BK131.out : gb132 ≠ gb131)); clear BK131; clear HB; have BK131 := n0_; have HB := n1_; have BK132 := n2_; have GW132 := n3_; have GE132 := n4_; have NB131_132 := n5_; have NB132_131 := n6_; clear n0_ n1_ n2_ n3_ n4_ n5_ n6_; clear hb hbox hg) | ((with_reducible refine gate_dst (N := 3) rfl ?_); refine box_event ?hg (N := 3) ?hd (cs := #[.slice none 0 0, .slice none 0 0]) (t := 29) ?hr ?_; (case hd => rfl); (case hg => rfl); (case hr => first | (go_simp; done) | (go_simp; rfl)); intro gb133 hg w6 hbox hb; have n0_ := Aside0.mk (bb_ BK131.out hb); have n1_ := Aside0.mk (bb_ BK132.out hb); have n2_ := Aside0.mk (bs_ hb); have n3_ := Aside0.mk (hbox); have n4_ := Aside0.mk ((by rw [hg]; exact bz_ : w.heap.size ≤ gb133)); have n5_ := Aside0.mk ((by rw [hg]; exact bz_ : w.heap.size ≤ gb133)); have n6_ := Aside0.mk ((by rw [hg]; exact lt_ BK131.out : gb131 ≠ gb133)); have n7_ := Aside0.mk ((by rw [hg]; exact gt_ BK131.out : gb133 ≠ gb131)); have n8_ := Aside0.mk ((by rw [hg]; exact lt_ BK132.out : gb132 ≠ gb133)); have n9_ := Aside0.mk ((by rw [hg]; exact gt_ BK132.out : gb133 ≠ gb132)); clear BK131; clear BK132; clear HB; have BK131 := n0_; have BK132 := n1_; have HB := n2_; have BK133 := n3_; have GW133 := n4_; have GE133 := n5_; have NB131_133 := n6_; have NB133_131 := n7_; have NB132_133 := n8_; have NB133_132 := n9_; clear n0_ n1_ n2_ n3_ n4_ n5_ n6_ n7_ n8_ n9_; clear hb hbox hg; have hnb7 := NB131_132.out; have hnc7 := NB132_131.out; have hnb8 := NB131_133.out; have hnc8 := NB133_131.out; have hcz9_0 : w6.cell? ⟨gb131, 0, none⟩ = some (.slice A0_0 l0_0.length c0_0) := (blk_cell BK131.out 0).trans rfl; have hcz9_1 : w6.cell? ⟨gb131, 1, none⟩ = some (.slice A0_1 l0_1.length c0_1) := (blk_cell BK131.out 1).trans rfl; have hfz9_0 := blk_frozen BK131.out 0; have hfz9_1 := blk_frozen BK131.out 1) | ((with_reducible refine gate_callee (f := 62) rfl ?_); refine goesL_ (some 6) rfl rfl Try.func62 (by kernel_rfl) rfl #[.slice A0_0 l0_0.length c0_0] rfl (by (try simp only [List.map_toArray, List.map_cons, List.map_nil]); first | done | rfl | (simp only [List.length_drop, List.length_take]; rfl)) ?_; (with_reducible refine (laws_toInt64SS.calls k _ _ l0_0 t134 _ ?side1 ?side2 A2.out).mono ?_); (case side1 => exact cb_ HR0_0.out HB.out); (case side2 => exact HC0_0.out); rintro e w10 ⟨v135, rfl, ho0, hb⟩; refine ⟨_, rfl, ?_⟩; have n0_ := Aside0.mk (Kd.S_lower ho0 bz_); have n1_ := Aside0.mk (bb_ BK131.out hb); have n2_ := Aside0.mk (bb_ BK132.out hb); have n3_ := Aside0.mk (bb_ BK133.out hb); have n4_ := Aside0.mk (bs_ hb); clear BK131; clear BK132; clear BK133; clear HB; have HO136 := n0_; have BK131 := n1_; have BK132 := n2_; have BK133 := n3_; have HB := n4_; clear n0_ n1_ n2_ n3_ n4_; (try clear hb); (try clear hb2); (try clear hk); (try clear hi); (try clear ho0); obtain ⟨Ao11, co11, eo11⟩ := Kd.S_slice HO136.out; subst eo11; have hnb12 := NB133_132.out; have hnc12 := NB132_133.out; have hcz13_0 : w10.cell? ⟨gb133, 0, none⟩ = some (.slice none 0 0) := (blk_cell BK133.out 0).trans rfl; have hcz13_1 : w10.cell? ⟨gb133, 1, none⟩ = some (.slice none 0 0) := (blk_cell BK133.out 1).trans rfl; have hfz13_0 := blk_frozen BK133.out 0; have hfz13_1 := blk_frozen BK133.out 1; have hcz14_0 : w10.cell? ⟨gb131, 0, none⟩ = some (.slice A0_0 l0_0.length c0_0) := (blk_cell BK131.out 0).trans rfl; have hcz14_1 : w10.cell? ⟨gb131, 1, none⟩ = some (.slice A0_1 l0_1.length c0_1) := (blk_cell BK131.out 1).trans rfl; have hfz14_0 := blk_frozen BK131.out 0; have hfz14_1 := blk_frozen BK131.out 1) | ((with_reducible refine gate_callee (f := 44) rfl ?_); refine goesL_ (some 10) rfl rfl Try.func44 (by kernel_rfl) rfl #[.slice A0_1 l0_1.length c0_1] rfl (by (try simp only [List.map_toArray, List.map_cons, List.map_nil]); first | done | rfl | (simp only [List.length_drop, List.length_take]; rfl)) ?_; (with_reducible refine (laws_toInt64S.calls k _ _ l0_1 t137 _ ?side1 ?side2 A3.out).mono ?_); (case side1 => exact Kd.C_below HR0_1.out hb_); (case side2 => exact HC0_1.out); rintro e w15 ⟨v138, rfl, ho0, hb⟩; refine ⟨_, rfl, ?_⟩; have n0_ := Aside0.mk (Kd.S_elder' (by (with_reducible repeat (first | apply Kd.S_alloc | apply Kd.S_drewN | apply Kd.S_drew)); exact (Kd.S_mono (Kd.S_far (p := ⟨gb133, 0, none⟩) (Kd.S_types HO136.out BK133.out (by decide)) (fun _ hk => hk.2) (.slice Ao11 t134.length co11)) (fun _ h_ => h_.1))) (Kd.R_base ho0) hb); have n1_ := Aside0.mk (Kd.R_lower ho0 bz_); have n2_ := Aside0.mk (blk_below (g := gb131) (o := .cells #[.slice A0_0 l0_0.length c0_0, .slice A0_1 l0_1.length c0_1] 25 (0, 0)) (by (with_reducible repeat (first | refine blk_drewN ?_ _ | refine blk_drew ?_ | refine blk_alloc ?_ _)); refine blk_far ?_ NB131_133.out _; (with_reducible repeat (first | refine blk_drewN ?_ _ | refine blk_drew ?_ | refine blk_alloc ?_ _)); exact BK131.out) hb); have n3_ := Aside0.mk (blk_below (g := gb132) (o := .cells #[.slice none 0 0, .slice none 0 0] 29 (0, 0)) (by (with_reducible repeat (first | refine blk_drewN ?_ _ | refine blk_drew ?_ | refine blk_alloc ?_ _)); refine blk_far ?_ NB132_133.out _; (with_reducible repeat (first | refine blk_drewN ?_ _ | refine blk_drew ?_ | refine blk_alloc ?_ _)); exact BK132.out) hb); have n4_ := Aside0.mk (blk_below (g := gb133) (o := .cells #[.slice Ao11 t134.length co11, .slice none 0 0] 29 (0, 0)) (by (with_reducible repeat (first | refine blk_drewN ?_ _ | refine blk_drew ?_ | refine blk_alloc ?_ _)); refine blk_put (cs := #[.slice none 0 0, .slice none 0 0]) ?_ 0 _ rfl; (with_reducible repeat (first | refine blk_drewN ?_ _ | refine blk_drew ?_ | refine blk_alloc ?_ _)); exact BK133.out) hb); have n5_ := Aside0.mk (bs_ hb); clear HO136; clear BK131; clear BK132; clear BK133; clear HB; have HO136 := n0_; have HO139 := n1_; have BK131 := n2_; have BK132 := n3_; have BK133 := n4_; have HB := n5_; clear n0_ n1_ n2_ n3_ n4_ n5_; (try clear hb); (try clear hb2); (try clear hk); (try clear hi); (try clear ho0); obtain ⟨Ao16, co16, eo16⟩ := Kd.R_slice HO139.out; subst eo16; have hcz17_0 : w15.cell? ⟨gb133, 0, none⟩ = some (.slice Ao11 t134.length co11) := (blk_cell BK133.out 0).trans rfl; have hcz17_1 : w15.cell? ⟨gb133, 1, none⟩ = some (.slice none 0 0) := (blk_cell BK133.out 1).trans rfl; have hfz17_0 := blk_frozen BK133.out 0; have hfz17_1 := blk_frozen BK133.out 1; have hcz18_0 : w15.cell? ⟨gb132, 0, none⟩ = some (.slice none 0 0) := (blk_cell BK132.out 0).trans rfl; have hcz18_1 : w15.cell? ⟨gb132, 1, none⟩ = some (.slice none 0 0) := (blk_cell BK132.out 1).trans rfl; have hfz18_0 := blk_frozen BK132.out 0; have hfz18_1 := blk_frozen BK132.out 1))
 refine bodyPost_ret (results_cell_row rfl _ _ gb132 29 #[.slice Ao11 t134.length co11, .slice Ao16 t137.length co16] (0, 0) _ rfl (by (with_reducible repeat (first | refine blk_drewN ?_ _ | refine blk_drew ?_ | refine blk_alloc ?_ _)); refine blk_put (cs := #[.slice Ao11 t134.length co11, .slice none 0 0]) ?_ 1 _ rfl; (with_reducible repeat (first | refine blk_drewN ?_ _ | refine blk_drew ?_ | refine blk_alloc ?_ _)); refine blk_put (cs := #[.slice none 0 0, .slice none 0 0]) ?_ 0 _ rfl; (with_reducible repeat (first | refine blk_drewN ?_ _ | refine blk_drew ?_ | refine blk_alloc ?_ _)); refine blk_far ?_ NB132_133.out _; (with_reducible repeat (first | refine blk_drewN ?_ _ | refine blk_drew ?_ | refine blk_alloc ?_ _)); exact BK132.out) Try.underlying29 rfl (by kernel_rfl)) rfl ?_
 exact ⟨_, _, by first | rfl | (simp [errW_none, errW_some] <;> rfl) | (simp [*, errW_none, errW_some] <;> rfl), by (with_reducible repeat (first | apply Kd.S_alloc | apply Kd.S_drewN | apply Kd.S_drew)); exact Kd.S_mono (Kd.S_far (p := ⟨gb132, 1, none⟩) (Kd.S_far (p := ⟨gb132, 0, none⟩) (Kd.S_far (p := ⟨gb133, 1, none⟩) (Kd.S_types (Kd.S_types HO136.out BK133.out (by decide)) BK132.out (by decide)) (fun _ hk => hk.1.2) (.slice Ao16 t137.length co16)) (fun _ hk => hk.2) (.slice Ao11 t134.length co11)) (fun _ hk => hk.2) (.slice Ao16 t137.length co16)) (fun _ hk => hk.1.1.2), by (with_reducible repeat (first | apply Kd.R_alloc | apply Kd.R_drewN | apply Kd.R_drew)); exact Kd.R_mono (Kd.R_far (p := ⟨gb132, 1, none⟩) (Kd.R_far (p := ⟨gb132, 0, none⟩) (Kd.R_far (p := ⟨gb133, 1, none⟩) (Kd.R_types (Kd.R_types HO139.out BK133.out (by decide)) BK132.out (by decide)) (fun _ hk => hk.1.2) (.slice Ao16 t137.length co16)) (fun _ hk => hk.2) (.slice Ao11 t134.length co11)) (fun _ hk => hk.2) (.slice Ao16 t137.length co16)) (fun _ hk => trivial), hb_⟩
def laws_eqInt64SS.l0 : Nat → List (List Int) → List (List Int) → Int → Option (Bool)
 | 0, _, _, _ => none
 | k + 1, x0, x1, x5 => if x5 < (x0.length : Int) then (if 0 ≤ x5 then (if x5 < (x1.length : Int) then ((laws_eqInt64S.f k (rd_L1 x0 x5) (rd_L1 x1 x5)).bind fun t142 => (if t142 = true then (laws_eqInt64SS.l0 k x0 x1 (wrap64 (x5 + 1))) else (some false))) else (none)) else (none)) else (some true)
def laws_eqInt64SS.f (k : Nat) (l0 : List (List Int)) (l1 : List (List Int)) : Option (Bool) := if (l0.length : Int) = (l1.length : Int) then (laws_eqInt64SS.l0 k l0 l1 0) else (some false)
theorem laws_eqInt64SS.mono_l : ∀ k, (∀ y0 y1 y2, LeO (laws_eqInt64SS.l0 k y0 y1 y2) (laws_eqInt64SS.l0 (k + 1) y0 y1 y2))
 | 0 => fun _ _ _ r h => by simp [laws_eqInt64SS.l0] at h
 | k + 1 => by
  have ih0 := laws_eqInt64SS.mono_l k
  ·intro y0 y1 y2
   unfold laws_eqInt64SS.l0
   repeat' first
   | (with_reducible exact ih0 _ _ _)
   | (with_reducible exact laws_eqInt64S.mono _ _ _)
   | (with_reducible exact LeO.refl _)
   | (with_reducible exact LeO.none _)
   | (with_reducible refine LeO.ite ?_ ?_)
   | (with_reducible refine LeO.bind ?_ (fun _ => ?_))
   | exact ih0 _ _ _
   | exact laws_eqInt64S.mono _ _ _
   | exact LeO.none _
   | refine LeO.ite ?_ ?_
   | refine LeO.bind ?_ (fun _ => ?_)
theorem laws_eqInt64SS.mono : ∀ a0 a1 k, LeO (laws_eqInt64SS.f k a0 a1) (laws_eqInt64SS.f (k + 1) a0 a1) := by
 intro a0 a1 k
 have ih0 := laws_eqInt64SS.mono_l k
 unfold laws_eqInt64SS.f
 repeat' first
   | (with_reducible exact ih0 _ _ _)
   | (with_reducible exact laws_eqInt64S.mono _ _ _)
   | (with_reducible exact LeO.refl _)
   | (with_reducible exact LeO.none _)
   | (with_reducible refine LeO.ite ?_ ?_)
   | (with_reducible refine LeO.bind ?_ (fun _ => ?_))
   | exact ih0 _ _ _
   | exact laws_eqInt64S.mono _ _ _
   | exact LeO.none _
   | refine LeO.ite ?_ ?_
   | refine LeO.bind ?_ (fun _ => ?_)
theorem laws_eqInt64SS.calls (k : Nat) (A0 : Option Addr) (c0 : Nat) (l0 : List (List Int)) (A1 : Option Addr) (c1 : Nat) (l1 : List (List Int)) (r : Bool) (w : World) (hr0 : Kd.C (Kd.slice 2 (Kd.int .i64)) w A0 l0.length l0) (hc0 : l0.length ≤ c0) (hr1 : Kd.C (Kd.slice 2 (Kd.int .i64)) w A1 l1.length l1) (hc1 : l1.length ≤ c1) (h : laws_eqInt64SS.f k l0 l1 = some r) :
  Calls Try.prog 19 #[.slice A0 l0.length c0, .slice A1 l1.length c1] w fun e w' => e = .returned (.bool r) ∧ Drawn0 w w' := by
 have HR0 := Aside0.mk hr0
 have HC0 := Aside0.mk hc0
 clear hr0 hc0
 have HR1 := Aside0.mk hr1
 have HC1 := Aside0.mk hc1
 clear hr1 hc1
 have H : (if (l0.length : Int) = (l1.length : Int) then (laws_eqInt64SS.l0 k l0 l1 0) else (some false)) = some r := h
 clear h
 by_cases c3 : (l0.length : Int) = (l1.length : Int)
 ·rw [if_pos c3] at H
  have c3b0 : ((l0.length : Int) == (l1.length : Int)) = true := beq_iff_eq.mpr c3
  have c3b1 : ((l0.length : Int) != (l1.length : Int)) = false := bne_eq_false_iff_eq.mpr c3
  have c3b2 : (l0.length == l1.length) = true := by first | simpa using c3 | (simp at c3 ⊢; omega)
  clear c3
  have H' := Aside0.mk H
  clear H
  go_enter Try.func19, Try.ntmps19
  go_wp2
  repeat (go_quiet (fail); try go_wp2)
  go_loopg [5] k (fun kq v5 w' => ∃ (x5_1 : Int), v5 = .int .i64 x5_1 ∧ Aside0 (laws_eqInt64SS.l0 kq l0 l1 x5_1 = some r) ∧ Aside0 (kq ≤ k) ∧ Drawn0 w w')
  case atStart => exact ⟨(0), (by first | rfl | (simp; done) | (simp [*]; done)), H', ⟨Nat.le_refl _⟩, by repeat (first | exact Drawn0.refl _ | apply Drawn0.step)⟩
  case round =>
   clear H'
   try clear c1
   try clear p2
   try clear c3
   try clear c3b0
   try clear c3b1
   try clear c3b2
   obtain ⟨x5_1, rfl, HA, HK1, ⟨m1, rfl⟩⟩ := hrel
   cases gk with
   | zero => exact absurd HA.out (by simp [laws_eqInt64SS.l0])
   | succ k1 =>
    have H := HA.out
    clear HA
    simp only [laws_eqInt64SS.l0] at H
    by_cases c4 : x5_1 < (l0.length : Int)
    ·rw [if_pos c4] at H
     have c4b0 : decide (x5_1 < (l0.length : Int)) = true := decide_eq_true c4
     clear c4
     by_cases c5 : 0 ≤ x5_1
     ·rw [if_pos c5] at H
      have c5b0 : decide (0 ≤ x5_1) = true := decide_eq_true c5
      clear c5
      by_cases c6 : x5_1 < (l1.length : Int)
      ·rw [if_pos c6] at H
       have c6b0 : decide (x5_1 < (l1.length : Int)) = true := decide_eq_true c6
       clear c6
       replace H := Option.bind_eq_some_iff.mp H
       obtain ⟨t142, A70, H⟩ := H
       replace H : (if t142 = true then (laws_eqInt64SS.l0 k1 l0 l1 (wrap64 (x5_1 + 1))) else (some false)) = some r := H
       have A7 := Aside0.mk A70
       clear A70
       by_cases c8 : t142 = true
       ·subst c8
        have H1 : (laws_eqInt64SS.l0 k1 l0 l1 (wrap64 (x5_1 + 1))) = some r := by rw [if_pos rfl] at H; exact H
        clear H
        have H := H1
        clear H1
        have H' := Aside0.mk H
        clear H
        have p140 : 0 ≤ (x5_1 : Int) := of_decide_eq_true (by first | (with_reducible assumption) | assumption)
        have q140 : x5_1 < (l0.length : Int) := of_decide_eq_true (by first | (with_reducible assumption) | assumption)
        obtain ⟨ad140, A140_0, c140_0, e140, hx140_0, hl140_0, hi140_0⟩ := at_L1 HR0.out x5_1 p140 q140
        cases e140
        have HR140_0 := Aside0.mk hi140_0
        have HC140_0 := Aside0.mk hl140_0
        clear hi140_0 hl140_0
        replace p140 := eq_true p140
        replace q140 := eq_true q140
        have p141 : 0 ≤ (x5_1 : Int) := of_decide_eq_true (by first | (with_reducible assumption) | assumption)
        have q141 : x5_1 < (l1.length : Int) := of_decide_eq_true (by first | (with_reducible assumption) | assumption)
        obtain ⟨ad141, A141_0, c141_0, e141, hx141_0, hl141_0, hi141_0⟩ := at_L1 HR1.out x5_1 p141 q141
        cases e141
        have HR141_0 := Aside0.mk hi141_0
        have HC141_0 := Aside0.mk hl141_0
        clear hi141_0 hl141_0
        replace p141 := eq_true p141
        replace q141 := eq_true q141
        go_wp2_with (first | (go_at_call 35; (with_reducible refine (laws_eqInt64S.calls k1 _ _ (rd_L1 l0 x5_1) _ _ (rd_L1 l1 x5_1) true _ ?side1 ?side2 ?side3 ?side4 A7.out).mono ?_); (case side1 => repeat (first | exact HR140_0.out | (with_reducible refine Kd.C_alloc ?_ _) | (with_reducible refine Kd.C_drewN ?_ _) | (with_reducible refine Kd.C_drew ?_))); (case side2 => exact HC140_0.out); (case side3 => repeat (first | exact HR141_0.out | (with_reducible refine Kd.C_alloc ?_ _) | (with_reducible refine Kd.C_drewN ?_ _) | (with_reducible refine Kd.C_drew ?_))); (case side4 => exact HC141_0.out); rintro e w' ⟨rfl, ⟨nd, rfl⟩⟩; (try first | exact ⟨rfl, _, World.drewN_drewN _ _ _⟩ | exact ⟨rfl, _, Eq.trans (World.drewN_drewN _ _ _) (congrArg (World.drewN _) (Nat.add_assoc _ _ _))⟩)))
        repeat (go_quiet (first | (go_at_call 35; (with_reducible refine (laws_eqInt64S.calls k1 _ _ (rd_L1 l0 x5_1) _ _ (rd_L1 l1 x5_1) true _ ?side1 ?side2 ?side3 ?side4 A7.out).mono ?_); (case side1 => repeat (first | exact HR140_0.out | (with_reducible refine Kd.C_alloc ?_ _) | (with_reducible refine Kd.C_drewN ?_ _) | (with_reducible refine Kd.C_drew ?_))); (case side2 => exact HC140_0.out); (case side3 => repeat (first | exact HR141_0.out | (with_reducible refine Kd.C_alloc ?_ _) | (with_reducible refine Kd.C_drewN ?_ _) | (with_reducible refine Kd.C_drew ?_))); (case side4 => exact HC141_0.out); rintro e w' ⟨rfl, ⟨nd, rfl⟩⟩; (try first | exact ⟨rfl, _, World.drewN_drewN _ _ _⟩ | exact ⟨rfl, _, Eq.trans (World.drewN_drewN _ _ _) (congrArg (World.drewN _) (Nat.add_assoc _ _ _))⟩))); try go_wp2_with (first | (go_at_call 35; (with_reducible refine (laws_eqInt64S.calls k1 _ _ (rd_L1 l0 x5_1) _ _ (rd_L1 l1 x5_1) true _ ?side1 ?side2 ?side3 ?side4 A7.out).mono ?_); (case side1 => repeat (first | exact HR140_0.out | (with_reducible refine Kd.C_alloc ?_ _) | (with_reducible refine Kd.C_drewN ?_ _) | (with_reducible refine Kd.C_drew ?_))); (case side2 => exact HC140_0.out); (case side3 => repeat (first | exact HR141_0.out | (with_reducible refine Kd.C_alloc ?_ _) | (with_reducible refine Kd.C_drewN ?_ _) | (with_reducible refine Kd.C_drew ?_))); (case side4 => exact HC141_0.out); rintro e w' ⟨rfl, ⟨nd, rfl⟩⟩; (try first | exact ⟨rfl, _, World.drewN_drewN _ _ _⟩ | exact ⟨rfl, _, Eq.trans (World.drewN_drewN _ _ _) (congrArg (World.drewN _) (Nat.add_assoc _ _ _))⟩))))
        go_roundg k1
        case measure => have := HK1.out; omega
        case rel => exact ⟨(wrap64 (x5_1 + 1)), (by first | rfl | (simp; done) | (simp [*]; done)), H', ⟨by have := HK1.out; omega⟩, by repeat (first | exact Drawn0.refl _ | apply Drawn0.step)⟩
       ·replace c8 := Bool.eq_false_iff.mpr c8
        subst c8
        have H1 : (some false) = some r := by rw [if_neg (show ¬ (false = true) by decide)] at H; exact H
        clear H
        have H := H1
        clear H1
        obtain rfl := Option.some.inj H
        have p140 : 0 ≤ (x5_1 : Int) := of_decide_eq_true (by first | (with_reducible assumption) | assumption)
        have q140 : x5_1 < (l0.length : Int) := of_decide_eq_true (by first | (with_reducible assumption) | assumption)
        obtain ⟨ad140, A140_0, c140_0, e140, hx140_0, hl140_0, hi140_0⟩ := at_L1 HR0.out x5_1 p140 q140
        cases e140
        have HR140_0 := Aside0.mk hi140_0
        have HC140_0 := Aside0.mk hl140_0
        clear hi140_0 hl140_0
        replace p140 := eq_true p140
        replace q140 := eq_true q140
        have p141 : 0 ≤ (x5_1 : Int) := of_decide_eq_true (by first | (with_reducible assumption) | assumption)
        have q141 : x5_1 < (l1.length : Int) := of_decide_eq_true (by first | (with_reducible assumption) | assumption)
        obtain ⟨ad141, A141_0, c141_0, e141, hx141_0, hl141_0, hi141_0⟩ := at_L1 HR1.out x5_1 p141 q141
        cases e141
        have HR141_0 := Aside0.mk hi141_0
        have HC141_0 := Aside0.mk hl141_0
        clear hi141_0 hl141_0
        replace p141 := eq_true p141
        replace q141 := eq_true q141
        go_wp2_with (first | (go_at_call 35; (with_reducible refine (laws_eqInt64S.calls k1 _ _ (rd_L1 l0 x5_1) _ _ (rd_L1 l1 x5_1) false _ ?side1 ?side2 ?side3 ?side4 A7.out).mono ?_); (case side1 => repeat (first | exact HR140_0.out | (with_reducible refine Kd.C_alloc ?_ _) | (with_reducible refine Kd.C_drewN ?_ _) | (with_reducible refine Kd.C_drew ?_))); (case side2 => exact HC140_0.out); (case side3 => repeat (first | exact HR141_0.out | (with_reducible refine Kd.C_alloc ?_ _) | (with_reducible refine Kd.C_drewN ?_ _) | (with_reducible refine Kd.C_drew ?_))); (case side4 => exact HC141_0.out); rintro e w' ⟨rfl, ⟨nd, rfl⟩⟩; (try first | exact ⟨rfl, _, World.drewN_drewN _ _ _⟩ | exact ⟨rfl, _, Eq.trans (World.drewN_drewN _ _ _) (congrArg (World.drewN _) (Nat.add_assoc _ _ _))⟩)))
        repeat (go_quiet (first | (go_at_call 35; (with_reducible refine (laws_eqInt64S.calls k1 _ _ (rd_L1 l0 x5_1) _ _ (rd_L1 l1 x5_1) false _ ?side1 ?side2 ?side3 ?side4 A7.out).mono ?_); (case side1 => repeat (first | exact HR140_0.out | (with_reducible refine Kd.C_alloc ?_ _) | (with_reducible refine Kd.C_drewN ?_ _) | (with_reducible refine Kd.C_drew ?_))); (case side2 => exact HC140_0.out); (case side3 => repeat (first | exact HR141_0.out | (with_reducible refine Kd.C_alloc ?_ _) | (with_reducible refine Kd.C_drewN ?_ _) | (with_reducible refine Kd.C_drew ?_))); (case side4 => exact HC141_0.out); rintro e w' ⟨rfl, ⟨nd, rfl⟩⟩; (try first | exact ⟨rfl, _, World.drewN_drewN _ _ _⟩ | exact ⟨rfl, _, Eq.trans (World.drewN_drewN _ _ _) (congrArg (World.drewN _) (Nat.add_assoc _ _ _))⟩))); try go_wp2_with (first | (go_at_call 35; (with_reducible refine (laws_eqInt64S.calls k1 _ _ (rd_L1 l0 x5_1) _ _ (rd_L1 l1 x5_1) false _ ?side1 ?side2 ?side3 ?side4 A7.out).mono ?_); (case side1 => repeat (first | exact HR140_0.out | (with_reducible refine Kd.C_alloc ?_ _) | (with_reducible refine Kd.C_drewN ?_ _) | (with_reducible refine Kd.C_drew ?_))); (case side2 => exact HC140_0.out); (case side3 => repeat (first | exact HR141_0.out | (with_reducible refine Kd.C_alloc ?_ _) | (with_reducible refine Kd.C_drewN ?_ _) | (with_reducible refine Kd.C_drew ?_))); (case side4 => exact HC141_0.out); rintro e w' ⟨rfl, ⟨nd, rfl⟩⟩; (try first | exact ⟨rfl, _, World.drewN_drewN _ _ _⟩ | exact ⟨rfl, _, Eq.trans (World.drewN_drewN _ _ _) (congrArg (World.drewN _) (Nat.add_assoc _ _ _))⟩))))
        go_ret
        exact ⟨by first | rfl | (simp; done) | (simp [*]; done), by repeat (first | exact Drawn0.refl _ | apply Drawn0.step)⟩
      ·rw [if_neg c6] at H
       exact absurd H (by simp)
     ·rw [if_neg c5] at H
      exact absurd H (by simp)
    ·rw [if_neg c4] at H
     have c4b0 : decide (x5_1 < (l0.length : Int)) = false := decide_eq_false c4
     clear c4
     obtain rfl := Option.some.inj H
     go_wp2
     repeat (go_quiet (fail); try go_wp2)
     go_ret
     exact ⟨by first | rfl | (simp; done) | (simp [*]; done), by repeat (first | exact Drawn0.refl _ | apply Drawn0.step)⟩
 ·rw [if_neg c3] at H
  have c3b0 : ((l0.length : Int) == (l1.length : Int)) = false := beq_eq_false_iff_ne.mpr c3
  have c3b1 : ((l0.length : Int) != (l1.length : Int)) = true := bne_iff_ne.mpr c3
  have c3b2 : (l0.length == l1.length) = false := by first | simpa using c3 | (simp at c3 ⊢; omega)
  obtain rfl := Option.some.inj H
  go_enter Try.func19, Try.ntmps19
  go_wp2
  repeat (go_quiet (fail); try go_wp2)
  go_ret
  exact ⟨by first | rfl | (simp; done) | (simp [*]; done), by repeat (first | exact Drawn0.refl _ | apply Drawn0.step)⟩
def laws_eqProblem.f (k : Nat) (l0_0 : List (List Int)) (l0_1 : List Int) (l1_0 : List (List Int)) (l1_1 : List Int) : Option (Bool) := (laws_eqInt64SS.f k l0_0 l1_0).bind fun t145 => (if t145 = true then ((laws_eqInt64S.f k l0_1 l1_1).bind fun t146 => (if t146 = true then (some true) else (some false))) else (some false))
theorem laws_eqProblem.mono : ∀ a0 a1 a2 a3 k, LeO (laws_eqProblem.f k a0 a1 a2 a3) (laws_eqProblem.f (k + 1) a0 a1 a2 a3) := by
 intro a0 a1 a2 a3 k
 unfold laws_eqProblem.f
 repeat' first
   | (with_reducible exact laws_eqInt64S.mono _ _ _)
   | (with_reducible exact laws_eqInt64SS.mono _ _ _)
   | (with_reducible exact LeO.refl _)
   | (with_reducible exact LeO.none _)
   | (with_reducible refine LeO.ite ?_ ?_)
   | (with_reducible refine LeO.bind ?_ (fun _ => ?_))
   | exact laws_eqInt64S.mono _ _ _
   | exact laws_eqInt64SS.mono _ _ _
   | exact LeO.none _
   | refine LeO.ite ?_ ?_
   | refine LeO.bind ?_ (fun _ => ?_)
theorem laws_eqProblem.calls (k : Nat) (A0_0 : Option Addr) (c0_0 : Nat) (l0_0 : List (List Int)) (A0_1 : Option Addr) (c0_1 : Nat) (l0_1 : List Int) (A1_0 : Option Addr) (c1_0 : Nat) (l1_0 : List (List Int)) (A1_1 : Option Addr) (c1_1 : Nat) (l1_1 : List Int) (r : Bool) (w : World) (hr0_0 : Kd.C (Kd.slice 2 (Kd.int .i64)) w A0_0 l0_0.length l0_0) (hc0_0 : l0_0.length ≤ c0_0) (hr0_1 : Kd.C (Kd.int .i64) w A0_1 l0_1.length l0_1) (hc0_1 : l0_1.length ≤ c0_1) (hr1_0 : Kd.C (Kd.slice 2 (Kd.int .i64)) w A1_0 l1_0.length l1_0) (hc1_0 : l1_0.length ≤ c1_0) (hr1_1 : Kd.C (Kd.int .i64) w A1_1 l1_1.length l1_1) (hc1_1 : l1_1.length ≤ c1_1) (h : laws_eqProblem.f k l0_0 l0_1 l1_0 l1_1 = some r) :
  Calls Try.prog 20 #[.agg #[.slice A0_0 l0_0.length c0_0, .slice A0_1 l0_1.length c0_1], .agg #[.slice A1_0 l1_0.length c1_0, .slice A1_1 l1_1.length c1_1]] w fun e w' => e = .returned (.bool r) ∧ Below w.heap.size w w' := by
 have hu29 := Try.underlying29
 have HR0_0 := Aside0.mk hr0_0
 have HC0_0 := Aside0.mk hc0_0
 clear hr0_0 hc0_0
 have HR0_1 := Aside0.mk hr0_1
 have HC0_1 := Aside0.mk hc0_1
 clear hr0_1 hc0_1
 have HR1_0 := Aside0.mk hr1_0
 have HC1_0 := Aside0.mk hc1_0
 clear hr1_0 hc1_0
 have HR1_1 := Aside0.mk hr1_1
 have HC1_1 := Aside0.mk hc1_1
 clear hr1_1 hc1_1
 have HB := Aside0.mk (Below.refl w.heap.size w)
 have H : ((laws_eqInt64SS.f k l0_0 l1_0).bind fun t145 => (if t145 = true then ((laws_eqInt64S.f k l0_1 l1_1).bind fun t146 => (if t146 = true then (some true) else (some false))) else (some false))) = some r := h
 clear h
 replace H := Option.bind_eq_some_iff.mp H
 obtain ⟨t145, A30, H⟩ := H
 replace H : (if t145 = true then ((laws_eqInt64S.f k l0_1 l1_1).bind fun t146 => (if t146 = true then (some true) else (some false))) else (some false)) = some r := H
 have A3 := Aside0.mk A30
 clear A30
 by_cases c4 : t145 = true
 ·subst c4
  have H1 : ((laws_eqInt64S.f k l0_1 l1_1).bind fun t146 => (if t146 = true then (some true) else (some false))) = some r := by rw [if_pos rfl] at H; exact H
  clear H
  have H := H1
  clear H1
  replace H := Option.bind_eq_some_iff.mp H
  obtain ⟨t146, A50, H⟩ := H
  replace H : (if t146 = true then (some true) else (some false)) = some r := H
  have A5 := Aside0.mk A50
  clear A50
  by_cases c6 : t146 = true
  ·subst c6
   have H1 : (some true) = some r := by rw [if_pos rfl] at H; exact H
   clear H
   have H := H1
   clear H1
   obtain rfl := Option.some.inj H
   go_enter Try.func20, Try.ntmps20
   go_wp2_with (first | ((with_reducible refine gate_dst (N := 2) rfl ?_); refine box_event ?hg (N := 2) ?hd (cs := #[.slice A0_0 l0_0.length c0_0, .slice A0_1 l0_1.length c0_1]) (t := 29) ?hr ?_; (case hd => rfl); (case hg => rfl); (case hr => first | (go_simp; done) | (go_simp; rfl)); intro gb143 hg w7 hbox hb; have n0_ := Aside0.mk (bs_ hb); have n1_ := Aside0.mk (hbox); have n2_ := Aside0.mk ((by rw [hg]; exact bz_ : w.heap.size ≤ gb143)); have n3_ := Aside0.mk ((by rw [hg]; exact bz_ : w.heap.size ≤ gb143)); clear HB; have HB := n0_; have BK143 := n1_; have GW143 := n2_; have GE143 := n3_; clear n0_ n1_ n2_ n3_; clear hb hbox hg) | ((with_reducible refine gate_dst (N := 3) rfl ?_); refine box_event ?hg (N := 3) ?hd (cs := #[.slice A1_0 l1_0.length c1_0, .slice A1_1 l1_1.length c1_1]) (t := 29) ?hr ?_; (case hd => rfl); (case hg => rfl); (case hr => first | (go_simp; done) | (go_simp; rfl)); intro gb144 hg w8 hbox hb; have n0_ := Aside0.mk (bb_ BK143.out hb); have n1_ := Aside0.mk (bs_ hb); have n2_ := Aside0.mk (hbox); have n3_ := Aside0.mk ((by rw [hg]; exact bz_ : w.heap.size ≤ gb144)); have n4_ := Aside0.mk ((by rw [hg]; exact bz_ : w.heap.size ≤ gb144)); have n5_ := Aside0.mk ((by rw [hg]; exact lt_ BK143.out : gb143 ≠ gb144)); have n6_ := Aside0.mk ((by rw [hg]; exact gt_ BK143.out : gb144 ≠ gb143)); clear BK143; clear HB; have BK143 := n0_; have HB := n1_; have BK144 := n2_; have GW144 := n3_; have GE144 := n4_; have NB143_144 := n5_; have NB144_143 := n6_; clear n0_ n1_ n2_ n3_ n4_ n5_ n6_; clear hb hbox hg; have hnb9 := NB143_144.out; have hnc9 := NB144_143.out; have hcz10_0 : w8.cell? ⟨gb143, 0, none⟩ = some (.slice A0_0 l0_0.length c0_0) := (blk_cell BK143.out 0).trans rfl; have hcz10_1 : w8.cell? ⟨gb143, 1, none⟩ = some (.slice A0_1 l0_1.length c0_1) := (blk_cell BK143.out 1).trans rfl; have hfz10_0 := blk_frozen BK143.out 0; have hfz10_1 := blk_frozen BK143.out 1; have hcz11_0 : w8.cell? ⟨gb144, 0, none⟩ = some (.slice A1_0 l1_0.length c1_0) := (blk_cell BK144.out 0).trans rfl; have hcz11_1 : w8.cell? ⟨gb144, 1, none⟩ = some (.slice A1_1 l1_1.length c1_1) := (blk_cell BK144.out 1).trans rfl; have hfz11_0 := blk_frozen BK144.out 0; have hfz11_1 := blk_frozen BK144.out 1) | ((with_reducible refine gate_callee (f := 19) rfl ?_); refine goesL_ (some 9) rfl rfl Try.func19 (by kernel_rfl) rfl #[.slice A0_0 l0_0.length c0_0, .slice A1_0 l1_0.length c1_0] rfl (by (try simp only [List.map_toArray, List.map_cons, List.map_nil]); first | done | rfl | (simp only [List.length_drop, List.length_take]; rfl)) ?_; (with_reducible refine (laws_eqInt64SS.calls k _ _ l0_0 _ _ l1_0 true _ ?side1 ?side2 ?side3 ?side4 A3.out).mono ?_); (case side1 => exact cb_ HR0_0.out HB.out); (case side2 => exact HC0_0.out); (case side3 => exact cb_ HR1_0.out HB.out); (case side4 => exact HC1_0.out); rintro e w' ⟨rfl, ⟨nd, rfl⟩⟩; refine ⟨_, rfl, ?_⟩) | ((with_reducible refine gate_callee (f := 35) rfl ?_); refine goesL_ (some 15) rfl rfl Try.func35 (by kernel_rfl) rfl #[.slice A0_1 l0_1.length c0_1, .slice A1_1 l1_1.length c1_1] rfl (by (try simp only [List.map_toArray, List.map_cons, List.map_nil]); first | done | rfl | (simp only [List.length_drop, List.length_take]; rfl)) ?_; (with_reducible refine (laws_eqInt64S.calls k _ _ l0_1 _ _ l1_1 true _ ?side1 ?side2 ?side3 ?side4 A5.out).mono ?_); (case side1 => repeat (first | exact (Kd.C_below HR0_1.out hb_) | (with_reducible refine Kd.C_alloc ?_ _) | (with_reducible refine Kd.C_drewN ?_ _) | (with_reducible refine Kd.C_drew ?_))); (case side2 => exact HC0_1.out); (case side3 => repeat (first | exact (Kd.C_below HR1_1.out hb_) | (with_reducible refine Kd.C_alloc ?_ _) | (with_reducible refine Kd.C_drewN ?_ _) | (with_reducible refine Kd.C_drew ?_))); (case side4 => exact HC1_1.out); rintro e w' ⟨rfl, ⟨nd, rfl⟩⟩; refine ⟨_, rfl, ?_⟩))
   go_ret
   exact ⟨by first | rfl | (simp [errW_none, errW_some] <;> rfl) | (simp [*, errW_none, errW_some] <;> rfl), hb_⟩
  ·replace c6 := Bool.eq_false_iff.mpr c6
   subst c6
   have H1 : (some false) = some r := by rw [if_neg (show ¬ (false = true) by decide)] at H; exact H
   clear H
   have H := H1
   clear H1
   obtain rfl := Option.some.inj H
   go_enter Try.func20, Try.ntmps20
   go_wp2_with (first | ((with_reducible refine gate_dst (N := 2) rfl ?_); refine box_event ?hg (N := 2) ?hd (cs := #[.slice A0_0 l0_0.length c0_0, .slice A0_1 l0_1.length c0_1]) (t := 29) ?hr ?_; (case hd => rfl); (case hg => rfl); (case hr => first | (go_simp; done) | (go_simp; rfl)); intro gb143 hg w12 hbox hb; have n0_ := Aside0.mk (bs_ hb); have n1_ := Aside0.mk (hbox); have n2_ := Aside0.mk ((by rw [hg]; exact bz_ : w.heap.size ≤ gb143)); have n3_ := Aside0.mk ((by rw [hg]; exact bz_ : w.heap.size ≤ gb143)); clear HB; have HB := n0_; have BK143 := n1_; have GW143 := n2_; have GE143 := n3_; clear n0_ n1_ n2_ n3_; clear hb hbox hg) | ((with_reducible refine gate_dst (N := 3) rfl ?_); refine box_event ?hg (N := 3) ?hd (cs := #[.slice A1_0 l1_0.length c1_0, .slice A1_1 l1_1.length c1_1]) (t := 29) ?hr ?_; (case hd => rfl); (case hg => rfl); (case hr => first | (go_simp; done) | (go_simp; rfl)); intro gb144 hg w13 hbox hb; have n0_ := Aside0.mk (bb_ BK143.out hb); have n1_ := Aside0.mk (bs_ hb); have n2_ := Aside0.mk (hbox); have n3_ := Aside0.mk ((by rw [hg]; exact bz_ : w.heap.size ≤ gb144)); have n4_ := Aside0.mk ((by rw [hg]; exact bz_ : w.heap.size ≤ gb144)); have n5_ := Aside0.mk ((by rw [hg]; exact lt_ BK143.out : gb143 ≠ gb144)); have n6_ := Aside0.mk ((by rw [hg]; exact gt_ BK143.out : gb144 ≠ gb143)); clear BK143; clear HB; have BK143 := n0_; have HB := n1_; have BK144 := n2_; have GW144 := n3_; have GE144 := n4_; have NB143_144 := n5_; have NB144_143 := n6_; clear n0_ n1_ n2_ n3_ n4_ n5_ n6_; clear hb hbox hg; have hnb14 := NB143_144.out; have hnc14 := NB144_143.out; have hcz15_0 : w13.cell? ⟨gb143, 0, none⟩ = some (.slice A0_0 l0_0.length c0_0) := (blk_cell BK143.out 0).trans rfl; have hcz15_1 : w13.cell? ⟨gb143, 1, none⟩ = some (.slice A0_1 l0_1.length c0_1) := (blk_cell BK143.out 1).trans rfl; have hfz15_0 := blk_frozen BK143.out 0; have hfz15_1 := blk_frozen BK143.out 1; have hcz16_0 : w13.cell? ⟨gb144, 0, none⟩ = some (.slice A1_0 l1_0.length c1_0) := (blk_cell BK144.out 0).trans rfl; have hcz16_1 : w13.cell? ⟨gb144, 1, none⟩ = some (.slice A1_1 l1_1.length c1_1) := (blk_cell BK144.out 1).trans rfl; have hfz16_0 := blk_frozen BK144.out 0; have hfz16_1 := blk_frozen BK144.out 1) | ((with_reducible refine gate_callee (f := 19) rfl ?_); refine goesL_ (some 9) rfl rfl Try.func19 (by kernel_rfl) rfl #[.slice A0_0 l0_0.length c0_0, .slice A1_0 l1_0.length c1_0] rfl (by (try simp only [List.map_toArray, List.map_cons, List.map_nil]); first | done | rfl | (simp only [List.length_drop, List.length_take]; rfl)) ?_; (with_reducible refine (laws_eqInt64SS.calls k _ _ l0_0 _ _ l1_0 true _ ?side1 ?side2 ?side3 ?side4 A3.out).mono ?_); (case side1 => exact cb_ HR0_0.out HB.out); (case side2 => exact HC0_0.out); (case side3 => exact cb_ HR1_0.out HB.out); (case side4 => exact HC1_0.out); rintro e w' ⟨rfl, ⟨nd, rfl⟩⟩; refine ⟨_, rfl, ?_⟩) | ((with_reducible refine gate_callee (f := 35) rfl ?_); refine goesL_ (some 15) rfl rfl Try.func35 (by kernel_rfl) rfl #[.slice A0_1 l0_1.length c0_1, .slice A1_1 l1_1.length c1_1] rfl (by (try simp only [List.map_toArray, List.map_cons, List.map_nil]); first | done | rfl | (simp only [List.length_drop, List.length_take]; rfl)) ?_; (with_reducible refine (laws_eqInt64S.calls k _ _ l0_1 _ _ l1_1 false _ ?side1 ?side2 ?side3 ?side4 A5.out).mono ?_); (case side1 => repeat (first | exact (Kd.C_below HR0_1.out hb_) | (with_reducible refine Kd.C_alloc ?_ _) | (with_reducible refine Kd.C_drewN ?_ _) | (with_reducible refine Kd.C_drew ?_))); (case side2 => exact HC0_1.out); (case side3 => repeat (first | exact (Kd.C_below HR1_1.out hb_) | (with_reducible refine Kd.C_alloc ?_ _) | (with_reducible refine Kd.C_drewN ?_ _) | (with_reducible refine Kd.C_drew ?_))); (case side4 => exact HC1_1.out); rintro e w' ⟨rfl, ⟨nd, rfl⟩⟩; refine ⟨_, rfl, ?_⟩))
   go_ret
   exact ⟨by first | rfl | (simp [errW_none, errW_some] <;> rfl) | (simp [*, errW_none, errW_some] <;> rfl), hb_⟩
 ·replace c4 := Bool.eq_false_iff.mpr c4
  subst c4
  have H1 : (some false) = some r := by rw [if_neg (show ¬ (false = true) by decide)] at H; exact H
  clear H
  have H := H1
  clear H1
  obtain rfl := Option.some.inj H
  go_enter Try.func20, Try.ntmps20
  go_wp2_with (first | ((with_reducible refine gate_dst (N := 2) rfl ?_); refine box_event ?hg (N := 2) ?hd (cs := #[.slice A0_0 l0_0.length c0_0, .slice A0_1 l0_1.length c0_1]) (t := 29) ?hr ?_; (case hd => rfl); (case hg => rfl); (case hr => first | (go_simp; done) | (go_simp; rfl)); intro gb143 hg w17 hbox hb; have n0_ := Aside0.mk (bs_ hb); have n1_ := Aside0.mk (hbox); have n2_ := Aside0.mk ((by rw [hg]; exact bz_ : w.heap.size ≤ gb143)); have n3_ := Aside0.mk ((by rw [hg]; exact bz_ : w.heap.size ≤ gb143)); clear HB; have HB := n0_; have BK143 := n1_; have GW143 := n2_; have GE143 := n3_; clear n0_ n1_ n2_ n3_; clear hb hbox hg) | ((with_reducible refine gate_dst (N := 3) rfl ?_); refine box_event ?hg (N := 3) ?hd (cs := #[.slice A1_0 l1_0.length c1_0, .slice A1_1 l1_1.length c1_1]) (t := 29) ?hr ?_; (case hd => rfl); (case hg => rfl); (case hr => first | (go_simp; done) | (go_simp; rfl)); intro gb144 hg w18 hbox hb; have n0_ := Aside0.mk (bb_ BK143.out hb); have n1_ := Aside0.mk (bs_ hb); have n2_ := Aside0.mk (hbox); have n3_ := Aside0.mk ((by rw [hg]; exact bz_ : w.heap.size ≤ gb144)); have n4_ := Aside0.mk ((by rw [hg]; exact bz_ : w.heap.size ≤ gb144)); have n5_ := Aside0.mk ((by rw [hg]; exact lt_ BK143.out : gb143 ≠ gb144)); have n6_ := Aside0.mk ((by rw [hg]; exact gt_ BK143.out : gb144 ≠ gb143)); clear BK143; clear HB; have BK143 := n0_; have HB := n1_; have BK144 := n2_; have GW144 := n3_; have GE144 := n4_; have NB143_144 := n5_; have NB144_143 := n6_; clear n0_ n1_ n2_ n3_ n4_ n5_ n6_; clear hb hbox hg; have hnb19 := NB143_144.out; have hnc19 := NB144_143.out; have hcz20_0 : w18.cell? ⟨gb143, 0, none⟩ = some (.slice A0_0 l0_0.length c0_0) := (blk_cell BK143.out 0).trans rfl; have hcz20_1 : w18.cell? ⟨gb143, 1, none⟩ = some (.slice A0_1 l0_1.length c0_1) := (blk_cell BK143.out 1).trans rfl; have hfz20_0 := blk_frozen BK143.out 0; have hfz20_1 := blk_frozen BK143.out 1; have hcz21_0 : w18.cell? ⟨gb144, 0, none⟩ = some (.slice A1_0 l1_0.length c1_0) := (blk_cell BK144.out 0).trans rfl; have hcz21_1 : w18.cell? ⟨gb144, 1, none⟩ = some (.slice A1_1 l1_1.length c1_1) := (blk_cell BK144.out 1).trans rfl; have hfz21_0 := blk_frozen BK144.out 0; have hfz21_1 := blk_frozen BK144.out 1) | ((with_reducible refine gate_callee (f := 19) rfl ?_); refine goesL_ (some 9) rfl rfl Try.func19 (by kernel_rfl) rfl #[.slice A0_0 l0_0.length c0_0, .slice A1_0 l1_0.length c1_0] rfl (by (try simp only [List.map_toArray, List.map_cons, List.map_nil]); first | done | rfl | (simp only [List.length_drop, List.length_take]; rfl)) ?_; (with_reducible refine (laws_eqInt64SS.calls k _ _ l0_0 _ _ l1_0 false _ ?side1 ?side2 ?side3 ?side4 A3.out).mono ?_); (case side1 => exact cb_ HR0_0.out HB.out); (case side2 => exact HC0_0.out); (case side3 => exact cb_ HR1_0.out HB.out); (case side4 => exact HC1_0.out); rintro e w' ⟨rfl, ⟨nd, rfl⟩⟩; refine ⟨_, rfl, ?_⟩))
  go_ret
  exact ⟨by first | rfl | (simp [errW_none, errW_some] <;> rfl) | (simp [*, errW_none, errW_some] <;> rfl), hb_⟩
end Go.Proofs.Ythdoilfjcgickaa.Pr
end
section
namespace Go.Proofs.Ythdoilfjcgickaa.La
open Go.RowKit Go.Proofs.YthdoilfjcgickaaW.PrintWords Go.Proofs.YthdoilfjcgickaaW.PrintMore Go.Proofs.Ythdoilfjcgickaa.Ma Go.Proofs.Ythdoilfjcgickaa.Pr Go.Proofs.Ythdoilfjcgickaa.Op
theorem rdL (l : List (List Int)) (i : Nat) : rd_L1 l (i : Int) = l.getD i [] := by simp [rd_L1]
theorem rdL_at {l : List (List Int)} {i : Nat} (h : i < l.length) : rd_L1 l (i : Int) = l[i] := by simp [rd_L1, h]
def lens : List (List Int) → Nat
 | [] => 0
 | x :: l => x.length + lens l
theorem lens_cons (x : List Int) (l : List (List Int)) : (lens (x :: l) : Int) = (x.length : Int) + (lens l : Int) := by simp [lens]
def tot (l : List (List Int)) : Nat := l.length + lens l
theorem lens_mem {l : List (List Int)} {x : List Int} (h : x ∈ l) : x.length ≤ lens l := by
 induction l with
 | nil => cases h
 | cons y l ih =>
  rcases List.mem_cons.1 h with rfl | h
  ·exact Nat.le_add_right _ _
  ·exact Nat.le_trans (ih h) (Nat.le_add_left _ _)
theorem szSS_loop (l : List (List Int)) (hr : ∀ x ∈ l, x.length ≤ maxLen) (hlen : l.length ≤ 1048576) : ∀ m i (n : Int), i + m = l.length → 0 ≤ n → n ≤ 1048576 →
  Ev (fun k => laws_szInt64SS.l0 k l n i) (if n < (lens (l.drop i) : Int) then (-1 : Int) else n - (lens (l.drop i) : Int)) := by
 intro m
 induction m with
 | zero =>
  intro i n hi h0 h1
  refine evstep (fun k => by rw [laws_szInt64SS.l0]) (evneg (by omega) (evc ?_))
  rw [List.drop_of_length_le (by omega), if_neg (by simp [lens]; omega)]
  simp [lens]
 | succ m ih =>
  intro i n hi h0 h1
  have hlt : i < l.length := by omega
  have hx := hr l[i] (List.getElem_mem hlt)
  refine evstep (fun k => by rw [laws_szInt64SS.l0]) (evpos (by omega) (evpos (by omega) ?_))
  rw [rdL_at hlt]
  refine evsome (sz_eq h0 h1 hx) ?_
  rw [List.drop_eq_getElem_cons hlt]
  by_cases c : n < (l[i].length : Int)
  ·rw [if_pos c, if_pos (by rw [lens_cons]; omega)]
   exact evpos (by decide) (evc rfl)
  ·rw [if_neg c]
   refine evneg (by omega) ?_
   rw [w64 (by omega) (by omega)]
   have := ih (i + 1) (n - (l[i].length : Int)) (by omega) (by omega) (by omega)
   have e : (if n - (l[i].length : Int) < (lens (l.drop (i + 1)) : Int) then (-1 : Int) else n - (l[i].length : Int) - (lens (l.drop (i + 1)) : Int)) = (if n < (lens (l[i] :: l.drop (i + 1)) : Int) then (-1 : Int) else n - (lens (l[i] :: l.drop (i + 1)) : Int)) := by
    rw [lens_cons]
    by_cases c2 : n - (l[i].length : Int) < (lens (l.drop (i + 1)) : Int)
    ·rw [if_pos c2, if_pos (by omega)]
    ·rw [if_neg c2, if_neg (by omega)]; omega
   rw [← e]
   exact this
theorem szSS (l : List (List Int)) (hg : GoodList (GoodList (GoodInt .i64)) l) {n : Int} (h0 : 0 ≤ n) (h1 : n ≤ 1048576) : Ev (fun k => laws_szInt64SS.f k l n) (if n < (tot l : Int) then (-1 : Int) else n - (tot l : Int)) := by
 have hl := hg.1
 unfold maxLen at hl
 unfold laws_szInt64SS.f
 rw [w64 (by omega) (by omega)]
 by_cases c : n < (l.length : Int)
 ·rw [if_pos (by unfold tot; omega)]
  exact evpos (by omega) (evc rfl)
 ·refine evneg (by omega) ?_
  have := szSS_loop l (fun x hx => (hg.2 x hx).1) (by omega) l.length 0 (n - (l.length : Int)) (by omega) (by omega) (by omega)
  rw [List.drop_zero] at this
  have e : (if n - (l.length : Int) < (lens l : Int) then (-1 : Int) else n - (l.length : Int) - (lens l : Int)) = (if n < (tot l : Int) then (-1 : Int) else n - (tot l : Int)) := by
   unfold tot
   by_cases c2 : n - (l.length : Int) < (lens l : Int)
   ·rw [if_pos c2, if_pos (by omega)]
   ·rw [if_neg c2, if_neg (by omega)]; omega
  rw [← e]
  exact this
theorem set_append_at {α : Type} (a b : List α) (x y : α) : (a ++ y :: b).set a.length x = a ++ x :: b := by
 rw [List.set_append_right _ _ (Nat.le_refl _), Nat.sub_self, List.set_cons_zero]
theorem toSS (l : List (List Int)) (hl : l.length ≤ 1048576) (hr : ∀ x ∈ l, x.length ≤ 1048576) : Ev (fun k => laws_toInt64SS.f k l) l := by
 have key : ∀ (m i : Nat), i + m = l.length → Ev (fun k => laws_toInt64SS.l0 k l (l.take i ++ List.replicate m []) i) l := by
  intro m
  induction m with
  | zero =>
   intro i hi
   refine evstep (fun k => by rw [laws_toInt64SS.l0]) (evneg (by omega) (evc ?_))
   rw [List.replicate_zero, List.append_nil, List.take_of_length_le (by omega)]
  | succ m ih =>
   intro i hi
   have hlt : i < l.length := by omega
   refine evstep (fun k => by rw [laws_toInt64SS.l0]) (evpos (by omega) (evpos (by omega) ?_))
   rw [rdL_at hlt]
   refine evbind (toI l[i] (hr _ (List.getElem_mem hlt))) (evpos (by simp; omega) ?_)
   rw [w64 (by omega) (by omega), Int.toNat_natCast]
   have e : (l.take i ++ List.replicate (m + 1) []).set i l[i] = l.take (i + 1) ++ List.replicate m [] := by
    have h1 : (l.take i).length = i := by rw [List.length_take]; omega
    have h2 := set_append_at (l.take i) (List.replicate m []) l[i] []
    rw [h1] at h2
    rw [List.replicate_succ, h2, List.take_succ_eq_append_getElem hlt, List.append_assoc]
    rfl
   rw [e]
   exact ih (i + 1) (by omega)
 unfold laws_toInt64SS.f
 refine evpos (by omega) (evpos (by omega) ?_)
 have := key l.length 0 (by omega)
 simpa using this
theorem eqSS (l : List (List Int)) (hl : l.length ≤ 1152921504606846976) (hr : ∀ x ∈ l, x.length ≤ 1152921504606846976) : Ev (fun k => laws_eqInt64SS.f k l l) true := by
 have key : ∀ (m i : Nat), i + m = l.length → Ev (fun k => laws_eqInt64SS.l0 k l l i) true := by
  intro m
  induction m with
  | zero =>
   intro i hi
   refine evstep (fun k => by rw [laws_eqInt64SS.l0]) ?_
   exact evneg (by omega) (evc rfl)
  | succ m ih =>
   intro i hi
   have hlt : i < l.length := by omega
   refine evstep (fun k => by rw [laws_eqInt64SS.l0]) (evpos (by omega) (evpos (by omega) (evpos (by omega) ?_)))
   rw [rdL_at hlt]
   refine evbind (eqI_same _ (hr _ (List.getElem_mem hlt))) (evpos rfl ?_)
   rw [w64 (by omega) (by omega)]
   exact ih (i + 1) (by omega)
 unfold laws_eqInt64SS.f
 exact evpos rfl (key l.length 0 (by omega))
structure Fit (l : List (List Int)) : Prop where
 len : l.length ≤ 1048576
 row : ∀ x ∈ l, x.length ≤ 1048576
theorem fit_of {l : List (List Int)} (h : tot l ≤ 1048576) : Fit l := ⟨by unfold tot at h; omega, fun x hx => by have := lens_mem hx; unfold tot at h; omega⟩
theorem fit_eq {l : List (List Int)} (h : Fit l) : Ev (fun k => laws_eqInt64SS.f k l l) true := eqSS l (by have := h.len; omega) (fun x hx => by have := h.row x hx; omega)
theorem fit_to {l : List (List Int)} (h : Fit l) : Ev (fun k => laws_toInt64SS.f k l) l := toSS l h.len h.row
end Go.Proofs.Ythdoilfjcgickaa.La
end
section
namespace Go.Proofs.Ythdoilfjcgickaa.Hm
open Go.RowKit Go.Proofs.YthdoilfjcgickaaW.PrintWords Go.Proofs.YthdoilfjcgickaaW.PrintLast Go.Proofs.YthdoilfjcgickaaW.PrintMore Go.Proofs.Ythdoilfjcgickaa.Pr Go.Proofs.Ythdoilfjcgickaa.La Go.Proofs.Ythdoilfjcgickaa.Ma
def marks : List (List Int) → Int → List (List Int)
 | [], _ => []
 | x :: l, n => count n x.length :: marks l (n + x.length)
def part (l : List (List Int)) (n : Int) (i : Nat) : List (List Int) := marks (l.take i) n ++ l.drop i
theorem marks_length : ∀ (l : List (List Int)) (n : Int), (marks l n).length = l.length
 | [], _ => rfl
 | x :: l, n => by simp [marks, marks_length l]
theorem part_length (l : List (List Int)) (n : Int) (i : Nat) (h : i ≤ l.length) : (part l n i).length = l.length := by
 simp [part, marks_length]; omega
theorem lens_append (a b : List (List Int)) : lens (a ++ b) = lens a + lens b := by
 induction a with
 | nil => simp [lens]
 | cons x a ih => simp only [List.cons_append, lens, ih]; omega
theorem marks_append : ∀ (a b : List (List Int)) (n : Int), marks (a ++ b) n = marks a n ++ marks b (n + lens a)
 | [], b, n => by simp [marks, lens]
 | x :: a, b, n => by
  simp only [List.cons_append, marks, marks_append a b, lens]
  congr 3
  push_cast
  omega
theorem part_at (l : List (List Int)) (n : Int) (i : Nat) (h : i < l.length) : (part l n i).getD i [] = l[i] := by
 have hm : (marks (l.take i) n).length = i := by rw [marks_length, List.length_take]; omega
 unfold part
 rw [List.getD_eq_getElem?_getD, List.getElem?_append_right (by omega), hm, Nat.sub_self, List.getElem?_drop, Nat.add_zero, List.getElem?_eq_getElem h]
 rfl
theorem part_set (l : List (List Int)) (n : Int) (i : Nat) (h : i < l.length) : (part l n i).set i (count (n + lens (l.take i)) l[i].length) = part l n (i + 1) := by
 have hm : (marks (l.take i) n).length = i := by rw [marks_length, List.length_take]; omega
 unfold part
 rw [List.take_succ_eq_append_getElem h, marks_append, List.append_assoc, List.set_append_right _ _ (by omega), hm, Nat.sub_self, List.drop_eq_getElem_cons h, List.set_cons_zero]
 simp [marks]
theorem lens_take_succ (l : List (List Int)) (i : Nat) (h : i < l.length) : lens (l.take (i + 1)) = lens (l.take i) + l[i].length := by
 rw [List.take_succ_eq_append_getElem h, lens_append]; simp [lens]
theorem lens_take_le (l : List (List Int)) (i : Nat) : lens (l.take i) ≤ lens l := by
 have := lens_append (l.take i) (l.drop i)
 rw [List.take_append_drop] at this
 omega
theorem mark_k (l : List Int) (n : Int) (hl : l.length ≤ 1152921504606846976) (h0 : 0 ≤ n) (h1 : n ≤ 1152921504606846976) : ∃ k, laws_markInt64S.f k l n = some (n + l.length, count n l.length) := evk (markI l n hl h0 h1)
section
variable {w0 : World} {ok : Nat → Prop}
abbrev SS (w0 w : World) (ok : Nat → Prop) (v : Value) (l : List (List Int)) : Prop := Kd.S (Kd.slice 2 (Kd.int .i64)) 23 w w0.heap.size ok v l
theorem mark_row {g cap : Nat} {w : World} {l : List (List Int)} (hB : Below w0.heap.size w0 w) (h : SS w0 w ok (.slice (some ⟨g, 0, none⟩) l.length cap) l) (i : Nat) (hi : i < l.length) (n : Int) (hl : l[i].length ≤ 1152921504606846976) (h0 : 0 ≤ n) (h1 : n ≤ 1152921504606846976) :
  ∃ u : Value, w.cell? ⟨g, i, none⟩ = some u ∧ Calls Try.prog 36 #[u, .int .i64 n] w fun e w' => e = .returned (.int .i64 (n + l[i].length)) ∧ SS w0 w' ok (.slice (some ⟨g, 0, none⟩) l.length cap) (l.set i (count n l[i].length)) ∧ Below w0.heap.size w0 w' ∧ Kept w w' ok := by
 obtain ⟨oki, c, hcl, hM, hcc, hoki, hH⟩ := Kd.S_lend h [] (i : Int) (by omega) (by omega)
 rw [Int.toNat_natCast, List.getD_eq_getElem?_getD, List.getElem?_eq_getElem hi] at hM
 obtain ⟨u, rfl, hR⟩ := hM
 refine ⟨u, by have := hcc 0 u rfl; rw [show (Kd.slice 2 (Kd.int .i64)).sz = 1 from rfl] at this; simpa using this, ?_⟩
 obtain ⟨k, hk⟩ := mark_k l[i] n hl h0 h1
 refine (laws_markInt64S.calls k (fun b => some b = u.ownBlock) u l[i] n _ _ w0 w hB (Kd.R_tight rfl hR) hk).mono ?_
 rintro e w' ⟨rfl, hR', hB', hK⟩
 have hok : ∀ b, some b = u.ownBlock → oki b := fun b hb => hR.1 b hb.symm
 refine ⟨rfl, ?_, hB', hK.mono (fun b hb => (hoki b (hok b hb)).1)⟩
 have hH' := Kd.H_step (w1 := w') hH (fun b _ hn hlt => hK.2 b hlt (fun hb => hn (hok b hb)))
 have hT := Kd.R_tight (d := Kd.int .i64) rfl hR'
 have := Kd.H_back hH' (x' := count n l[i].length) (okp := fun b => some b = u.ownBlock) ⟨u, rfl, hT⟩ hok
 rw [Int.toNat_natCast] at this
 exact this
end
theorem markSS {w0 w : World} {ok : Nat → Prop} (v : Value) (l : List (List Int)) (n : Int) (hB : Below w0.heap.size w0 w) (h : SS w0 w ok v l) (h0 : 0 ≤ n) (h1 : n + lens l ≤ 1099511627776) (hl : l.length ≤ 1099511627776) :
  Calls Try.prog 22 #[v, .int .i64 n] w fun e w' => e = .returned (.int .i64 (n + lens l)) ∧ SS w0 w' ok v (marks l n) ∧ Below w0.heap.size w0 w' ∧ Kept w w' ok := by
 obtain ⟨A, c, rfl⟩ := Kd.S_slice h
 have HS := Aside0.mk h
 have HB := Aside0.mk hB
 have H1 := Aside0.mk h1
 have H0 := Aside0.mk h0
 have HL := Aside0.mk hl
 clear h hB h1 h0 hl
 go_enter Try.func22, Try.ntmps22
 go_wp2
 go_loopg [1, 5] l.length (fun gg v1 v5 wr => ∃ (i : Nat) (m : Int), i ≤ l.length ∧ l.length - i ≤ gg ∧ v1 = .int .i64 m ∧ v5 = .int .i64 (i : Int) ∧ Aside0 (m = n + lens (l.take i)) ∧ Aside0 (SS w0 wr ok (.slice A l.length c) (part l n i)) ∧ Aside0 (Below w0.heap.size w0 wr) ∧ Aside0 (Kept w wr ok))
 case atStart => exact ⟨0, n, Nat.zero_le _, by omega, rfl, rfl, ⟨by simp [lens]⟩, ⟨by simpa [part, marks] using HS.out⟩, HB, ⟨Kept.refl _ _⟩⟩
 case round =>
  obtain ⟨i, m, hi, hg, rfl, rfl, HM, RS, RB, RK⟩ := hrel
  by_cases hlt : i < l.length
  ·have hpl := part_length l n i hi
   obtain ⟨g, cap, hv, hb1, hb2, cells, hc1⟩ := Kd.S_form RS.out (by rw [hpl]; omega)
   rw [hpl] at hv
   injection hv with hA hn hc
   subst hA; subst hc
   have hm0 : 0 ≤ m := by have := HM.out; have := H0.out; omega
   have hm1 : m + l[i].length ≤ 1099511627776 := by
    have e1 := lens_take_succ l i hlt
    have e2 := lens_take_le l (i + 1)
    have := HM.out; have := H1.out; omega
   have e : (part l n i)[i]'(by omega) = l[i] := by
    have := part_at l n i hlt
    rwa [List.getD_eq_getElem?_getD, List.getElem?_eq_getElem (by omega)] at this
   have hrow := mark_row (g := g) (cap := c) RB.out (by rw [hpl]; exact RS.out) i (by omega) m (by rw [e]; omega) hm0 (by omega)
   rw [e, hpl] at hrow
   obtain ⟨u, hcell, hcall⟩ := hrow
   have HCALL := Aside0.mk hcall
   have hltz : (i : Int) < (l.length : Int) := by omega
   have h0z : (0 : Int) ≤ (i : Int) := by omega
   have hlen := HL.out
   have hw : IntKind.i64.wrap ((i : Int) + 1) = ((i + 1 : Nat) : Int) := by rw [IntWalk.i64_in _ (by omega)]; rfl
   have HLT := Aside0.mk hlt
   clear hcall hm0 hm1 e hc1 hb1 hb2 hpl hn hlen
   go_wp2_with fail
   refine HCALL.out.mono ?_
   rintro e w' ⟨rfl, hS, hB', hK⟩
   have HS' := Aside0.mk hS
   have HB' := Aside0.mk hB'
   have HK' := Aside0.mk hK
   clear hS hB' hK HCALL
   go_wp2
   go_roundg (l.length - (i + 1))
   case measure => omega
   case rel =>
    have hle := HLT.out
    refine ⟨i + 1, m + l[i].length, by omega, by omega, rfl, by first | rfl | (rw [hw]) | simp [hw], ⟨?_⟩, ⟨?_⟩, ⟨HB'.out⟩, ⟨?_⟩⟩
    ·rw [HM.out, lens_take_succ l i hle]; push_cast; omega
    ·have := HS'.out
     rw [HM.out, part_set l n i hle] at this
     exact this
    ·exact RK.out.then_ HK'.out (fun b hb => .inl hb)
  ·have hltz : ¬ (i : Int) < (l.length : Int) := by omega
   obtain rfl : i = l.length := by omega
   go_wp2
   go_ret
   have e1 : l.take l.length = l := List.take_length
   refine ⟨by rw [HM.out, e1]; rfl, ?_, RB.out, RK.out⟩
   have := RS.out
   simpa [part, e1] using this
end Go.Proofs.Ythdoilfjcgickaa.Hm
end
section
namespace Go.Proofs.Ythdoilfjcgickaa.Lw
open Go.RowKit Go.Proofs.YthdoilfjcgickaaW.PrintWords Go.Proofs.YthdoilfjcgickaaW.PrintLast Go.Proofs.YthdoilfjcgickaaW.PrintMore Go.Proofs.Ythdoilfjcgickaa.Pr Go.Proofs.Ythdoilfjcgickaa.La Go.Proofs.Ythdoilfjcgickaa.Ma Go.Proofs.Ythdoilfjcgickaa.Hm
structure Frm (w w' : World) (a b : Nat) : Prop where
 size : w.heap.size ≤ w'.heap.size
 same : ∀ k, k < w.heap.size → k < a ∨ b ≤ k → w'.heap[k]? = w.heap[k]?
theorem Frm.below {w w' : World} (h : Below w.heap.size w w') : Frm w w' 0 0 := ⟨h.size, fun k hk _ => h.block k hk⟩
theorem Frm.set (w : World) (g i : Nat) (u : Value) : Frm w (w.setCell ⟨g, i, none⟩ u) g (g + 1) :=
 ⟨by simp, fun k _ hk => Below.heap_setCell w ⟨g, i, none⟩ u k (by simp; omega)⟩
theorem Frm.trans {w w1 w2 : World} {a b : Nat} (h : Frm w w1 a b) (k : Frm w1 w2 a b) : Frm w w2 a b :=
 ⟨Nat.le_trans h.size k.size, fun i hi hn => (k.same i (Nat.lt_of_lt_of_le hi h.size) hn).trans (h.same i hi hn)⟩
theorem Frm.kept {w w' : World} {ok : Nat → Prop} {a b : Nat} (h : Kept w w' ok) (hok : ∀ k, ok k → a ≤ k ∧ k < b) : Frm w w' a b :=
 ⟨h.1, fun k hk hn => h.2 k hk (fun ho => by have := hok k ho; omega)⟩
section
variable {α : Type} {d : Kd α} {e lo hi a b : Nat} {w0 w w' : World} {v v1 : Value} {xs : List α}
def UR (d : Kd α) (e : Nat) (w0 w : World) (lo hi : Nat) (v : Value) (xs : List α) : Prop := d.R e w w0.heap.size (fun k => lo ≤ k ∧ k < hi) v xs
def US (d : Kd α) (e : Nat) (w0 w : World) (lo hi : Nat) (v : Value) (xs : List α) : Prop := d.S e w w0.heap.size (fun k => lo ≤ k ∧ k < hi) v xs
theorem UR.mv (h : UR d e w0 w lo hi v xs) (F : Frm w w' a b) (hd : hi ≤ a ∨ b ≤ lo) : UR d e w0 w' lo hi v xs := Kd.R_step h (fun k hk hlt => F.same k hlt (by omega))
theorem US.mv (h : US d e w0 w lo hi v xs) (F : Frm w w' a b) (hd : hi ≤ a ∨ b ≤ lo) : US d e w0 w' lo hi v xs := Kd.S_step h (fun k hk hlt => F.same k hlt (by omega))
theorem UR.mvB (h : UR d e w0 w lo hi v xs) (F : Frm w w' 0 0) : UR d e w0 w' lo hi v xs := h.mv F (.inr (Nat.zero_le _))
theorem US.mvB (h : US d e w0 w lo hi v xs) (F : Frm w w' 0 0) : US d e w0 w' lo hi v xs := h.mv F (.inr (Nat.zero_le _))
theorem UR.of {ok : Nat → Prop} (h : d.R e w' w.heap.size ok v xs) (hb : w0.heap.size ≤ w.heap.size) : UR d e w0 w' w.heap.size w'.heap.size v xs :=
 Kd.R_lower (Kd.R_mono (Kd.R_bound h) (fun k hk => ⟨hk.2.1, hk.2.2.1⟩)) hb
theorem US.of {ok : Nat → Prop} (h : d.S e w' w.heap.size ok v xs) (hb : w0.heap.size ≤ w.heap.size) : US d e w0 w' w.heap.size w'.heap.size v xs :=
 Kd.S_lower (Kd.S_mono (Kd.S_bound h) (fun k hk => ⟨hk.2.1, hk.2.2.1⟩)) hb
theorem UR.C {A : Option Addr} {n c : Nat} (h : UR d e w0 w lo hi (.slice A n c) xs) : d.C w A xs.length xs := (Kd.R_reads' h).2.2
theorem UR.len {A : Option Addr} {n c : Nat} (h : UR d e w0 w lo hi (.slice A n c) xs) : n = xs.length := (Kd.R_reads' h).1
theorem UR.cap {A : Option Addr} {n c : Nat} (h : UR d e w0 w lo hi (.slice A n c) xs) : xs.length ≤ c := (Kd.R_reads' h).1 ▸ (Kd.R_reads' h).2.1
theorem US.C {A : Option Addr} {n c : Nat} (h : US d e w0 w lo hi (.slice A n c) xs) : d.C w A xs.length xs := (Kd.S_reads' h).2.2
theorem US.cap {A : Option Addr} {n c : Nat} (h : US d e w0 w lo hi (.slice A n c) xs) : xs.length ≤ c := (Kd.S_reads' h).1 ▸ (Kd.S_reads' h).2.1
end
structure UP (w0 w : World) (lo hi : Nat) (v0 v1 : Value) (M : List (List Int)) (Q : List Int) : Prop where
 m : Kd.S (Kd.slice 2 (Kd.int .i64)) 23 w w0.heap.size (fun k => (lo ≤ k ∧ k < hi) ∧ some k ≠ v1.ownBlock) v0 M
 q : Kd.R (Kd.int .i64) 2 w w0.heap.size (fun k => lo ≤ k ∧ k < hi) v1 Q
section
variable {lo hi a b : Nat} {w0 w w' : World} {v0 v1 : Value} {M : List (List Int)} {Q : List Int}
theorem UP.mv (h : UP w0 w lo hi v0 v1 M Q) (F : Frm w w' a b) (hd : hi ≤ a ∨ b ≤ lo) : UP w0 w' lo hi v0 v1 M Q :=
 ⟨Kd.S_step h.m (fun k hk hlt => F.same k hlt (by have := hk.1; omega)), Kd.R_step h.q (fun k hk hlt => F.same k hlt (by omega))⟩
theorem UP.mvB (h : UP w0 w lo hi v0 v1 M Q) (F : Frm w w' 0 0) : UP w0 w' lo hi v0 v1 M Q := h.mv F (.inr (Nat.zero_le _))
theorem UP.of {ok : Nat → Prop} (h : Kd.S (Kd.slice 2 (Kd.int .i64)) 23 w' w.heap.size (fun k => some k ≠ v1.ownBlock) v0 M) (h' : Kd.R (Kd.int .i64) 2 w' w.heap.size ok v1 Q) (hb : w0.heap.size ≤ w.heap.size) : UP w0 w' w.heap.size w'.heap.size v0 v1 M Q :=
 ⟨Kd.S_lower (Kd.S_mono (Kd.S_bound h) (fun k hk => ⟨⟨hk.2.1, hk.2.2.1⟩, hk.1⟩)) hb, UR.of h' hb⟩
theorem UP.slices (h : UP w0 w lo hi v0 v1 M Q) : ∃ A0 c0 A1 c1, v0 = .slice A0 M.length c0 ∧ v1 = .slice A1 Q.length c1 := by
 obtain ⟨A0, c0, e0⟩ := Kd.S_slice h.m
 obtain ⟨A1, c1, e1⟩ := Kd.R_slice h.q
 exact ⟨A0, c0, A1, c1, e0, e1⟩
variable {A0 A1 : Option Addr} {n0 c0 n1 c1 : Nat}
theorem UP.C0 (h : UP w0 w lo hi (.slice A0 n0 c0) v1 M Q) : Kd.C (Kd.slice 2 (Kd.int .i64)) w A0 M.length M := (Kd.S_reads' h.m).2.2
theorem UP.C1 (h : UP w0 w lo hi v0 (.slice A1 n1 c1) M Q) : Kd.C (Kd.int .i64) w A1 Q.length Q := (Kd.R_reads' h.q).2.2
theorem UP.cap0 (h : UP w0 w lo hi (.slice A0 n0 c0) v1 M Q) : M.length ≤ c0 := (Kd.S_reads' h.m).1 ▸ (Kd.S_reads' h.m).2.1
theorem UP.cap1 (h : UP w0 w lo hi v0 (.slice A1 n1 c1) M Q) : Q.length ≤ c1 := (Kd.R_reads' h.q).1 ▸ (Kd.R_reads' h.q).2.1
end
end Go.Proofs.Ythdoilfjcgickaa.Lw
end
section
namespace Go.Proofs.Ythdoilfjcgickaa.Lw
open Go.RowKit Go.Proofs.YthdoilfjcgickaaW.PrintWords Go.Proofs.YthdoilfjcgickaaW.PrintLast Go.Proofs.YthdoilfjcgickaaW.PrintMore Go.Proofs.Ythdoilfjcgickaa.Pr Go.Proofs.Ythdoilfjcgickaa.La Go.Proofs.Ythdoilfjcgickaa.Ma Go.Proofs.Ythdoilfjcgickaa.Hm
theorem UP.step1 {w0 w w' : World} {lo hi : Nat} {v0 v1 : Value} {M M' : List (List Int)} {Q : List Int} (h : UP w0 w lo hi v0 v1 M Q)
  (hS : SS w0 w' (fun k => (lo ≤ k ∧ k < hi) ∧ some k ≠ v1.ownBlock) v0 M') (hK : Kept w w' (fun k => (lo ≤ k ∧ k < hi) ∧ some k ≠ v1.ownBlock)) : UP w0 w' lo hi v0 v1 M' Q :=
 ⟨hS, Kd.R_mono (Kd.R_step (Kd.R_tight (d := Kd.int .i64) rfl h.q) (fun k hk hlt => hK.2 k hlt (fun ho => ho.2 hk))) (fun k hk => h.q.1 k hk.symm)⟩
theorem UP.step2 {w0 w w' : World} {lo hi : Nat} {v0 v1 : Value} {M : List (List Int)} {Q Q' : List Int} (h : UP w0 w lo hi v0 v1 M Q) {ok' : Nat → Prop}
  (hR : Kd.R (Kd.int .i64) 2 w' w0.heap.size ok' v1 Q') (hK : Kept w w' (fun k => some k = v1.ownBlock)) : UP w0 w' lo hi v0 v1 M Q' :=
 ⟨Kd.S_step h.m (fun k hk hlt => hK.2 k hlt hk.2), Kd.R_mono (Kd.R_tight (d := Kd.int .i64) rfl hR) (fun k hk => h.q.1 k hk.symm)⟩
theorem mark_UP {w0 w : World} {lo hi : Nat} (A0 : Option Addr) (c0 : Nat) (A1 : Option Addr) (c1 : Nat) (M : List (List Int)) (Q : List Int) (n m : Int) (hB : Below w0.heap.size w0 w) (h : UP w0 w lo hi (.slice A0 M.length c0) (.slice A1 Q.length c1) M Q) (h0 : 0 ≤ n)
  (h1 : n + lens M + Q.length ≤ 1099511627776) (hl : M.length ≤ 1099511627776) (hm : m = n + lens M + Q.length) (hhi : hi ≤ w.heap.size) :
  Calls Try.prog 21 #[.agg #[.slice A0 M.length c0, .slice A1 Q.length c1], .int .i64 n] w fun e w' => e = .returned (.int .i64 m) ∧ UP w0 w' lo hi (.slice A0 M.length c0) (.slice A1 Q.length c1) (marks M n) (count (n + lens M) Q.length) ∧ Below w0.heap.size w0 w' ∧ Frm w w' lo hi := by
 have HB := Aside0.mk hB
 have HU := Aside0.mk h
 have H0 := Aside0.mk h0
 have H1 := Aside0.mk h1
 have HL := Aside0.mk hl
 have HM := Aside0.mk hm
 have HF := Aside0.mk (show Kept w w (fun k => lo ≤ k ∧ k < hi) from Kept.refl _ _)
 obtain ⟨n1, hn1⟩ : ∃ x, x = n + lens M := ⟨_, rfl⟩
 have HN := Aside0.mk hn1
 have HHI := Aside0.mk hhi
 obtain ⟨kq, hkq⟩ := mark_k Q n1 (by omega) (by omega) (by omega)
 rw [show n1 + (Q.length : Int) = m from by rw [hn1, hm]] at hkq
 have HKQ := Aside0.mk hkq
 clear hB h h0 h1 hl hm hn1 hhi hkq
 go_enter Try.func21, Try.ntmps21
 go_wp2_with (first | ((with_reducible refine gate_dst (N := 2) rfl ?_); refine box_event ?hg (N := 2) ?hd (cs := #[.slice A0 M.length c0, .slice A1 Q.length c1]) (t := 29) ?hr ?_; (case hd => rfl); (case hg => rfl); (case hr => first | (go_simp; done) | (go_simp; rfl)); intro gb hg w1 hbox hb; have n0 := Aside0.mk (HU.out.mvB (Frm.below hb)); have n1 := Aside0.mk (below_then HB.out HB.out.size hb); have n2 := Aside0.mk (HF.out.below hb); have BK := Aside0.mk hbox; have HG := Aside0.mk (show hi ≤ gb by rw [hg]; exact HHI.out); clear HU HB HF hb hbox hg; have HU := n0; have HB := n1; have HF := n2; clear n0 n1 n2; have hc0 : w1.cell? ⟨gb, 0, none⟩ = some (.slice A0 M.length c0) := (blk_cell BK.out 0).trans rfl; have hc1 : w1.cell? ⟨gb, 1, none⟩ = some (.slice A1 Q.length c1) := (blk_cell BK.out 1).trans rfl) | ((with_reducible refine gate_callee (f := 22) rfl ?_); refine goesL_ (some 8) rfl rfl Try.func22 (by kernel_rfl) rfl #[.slice A0 M.length c0, .int .i64 n] rfl (by (try simp only [List.map_toArray, List.map_cons, List.map_nil]); first | done | rfl) ?_; refine (markSS _ M n HB.out HU.out.m H0.out (by have := H1.out; omega) HL.out).mono ?_; rintro e w2 ⟨rfl, hS, hB', hK⟩; rw [← HN.out]; refine ⟨_, rfl, ?_⟩; have n0 := Aside0.mk (HU.out.step1 hS hK); have n1 := Aside0.mk hB'; have n2 := Aside0.mk (HF.out.then_ hK (fun k hk => .inl hk.1)); have n3 := Aside0.mk ((hK.2 gb (blk_lt BK.out) (fun ho => by have := HG.out; have := ho.1; omega)).trans BK.out); clear HU HB HF BK hS hB' hK hc0 hc1; have HU := n0; have HB := n1; have HF := n2; have BK := n3; clear n0 n1 n2 n3; have hc0 : w2.cell? ⟨gb, 0, none⟩ = some (.slice A0 M.length c0) := (blk_cell BK.out 0).trans rfl; have hc1 : w2.cell? ⟨gb, 1, none⟩ = some (.slice A1 Q.length c1) := (blk_cell BK.out 1).trans rfl) | ((with_reducible refine gate_callee (f := 36) rfl ?_); refine goesL_ (some 12) rfl rfl Try.func36 (by kernel_rfl) rfl #[.slice A1 Q.length c1, .int .i64 n1] rfl (by (try simp only [List.map_toArray, List.map_cons, List.map_nil]); first | done | rfl) ?_; refine (laws_markInt64S.calls kq (fun b => some b = (Value.slice A1 Q.length c1).ownBlock) (.slice A1 Q.length c1) Q n1 _ _ w0 _ HB.out (Kd.R_tight (d := Kd.int .i64) rfl HU.out.q) HKQ.out).mono ?_; rintro e w3 ⟨rfl, hR, hB', hK⟩; refine ⟨_, rfl, ?_⟩; have n0 := Aside0.mk (HU.out.step2 hR hK); have n1_ := Aside0.mk hB'; have n2 := Aside0.mk (HF.out.then_ hK (fun k hk => .inl (HU.out.q.1 k hk.symm))); clear HU HB HF hR hB' hK hc0 hc1; have HU := n0; have HB := n1_; have HF := n2; clear n0 n1_ n2))
 go_ret
 rw [← HN.out]
 exact ⟨rfl, HU.out, HB.out, Frm.kept HF.out (fun _ hk => hk)⟩
end Go.Proofs.Ythdoilfjcgickaa.Lw
end
section
namespace Go.Proofs.Ythdoilfjcgickaa.Dt
abbrev Mat := Nat → Nat → Int
def sm : Nat → (Nat → Int) → Int
 | 0, _ => 0
 | n + 1, f => sm n f + f n
theorem sm_congr {n : Nat} {f g : Nat → Int} (h : ∀ i, i < n → f i = g i) : sm n f = sm n g := by
 induction n with
 | zero => rfl
 | succ n ih => simp only [sm]; rw [ih (fun i hi => h i (by omega)), h n (by omega)]
theorem sm_add (n : Nat) (f g : Nat → Int) : sm n (fun i => f i + g i) = sm n f + sm n g := by
 induction n with
 | zero => rfl
 | succ n ih => simp only [sm]; rw [ih]; omega
theorem sm_mul (n : Nat) (c : Int) (f : Nat → Int) : sm n (fun i => c * f i) = c * sm n f := by
 induction n with
 | zero => simp [sm]
 | succ n ih => simp only [sm]; rw [ih, Int.mul_add]
theorem sm_mulr (n : Nat) (c : Int) (f : Nat → Int) : sm n (fun i => f i * c) = sm n f * c := by
 rw [Int.mul_comm, ← sm_mul]; exact sm_congr (fun i _ => Int.mul_comm _ _)
theorem sm_zero (n : Nat) : sm n (fun _ => 0) = 0 := by
 induction n with
 | zero => rfl
 | succ n ih => simp only [sm]; rw [ih]; rfl
theorem sm_none {n : Nat} {f : Nat → Int} (h : ∀ i, i < n → f i = 0) : sm n f = 0 := by rw [sm_congr h, sm_zero]
theorem sm_one {n : Nat} {f : Nat → Int} {k : Nat} (hk : k < n) (h : ∀ i, i < n → i ≠ k → f i = 0) : sm n f = f k := by
 induction n with
 | zero => omega
 | succ n ih =>
  simp only [sm]
  by_cases c : k = n
  ·subst c
   rw [sm_none (fun i hi => h i (by omega) (by omega))]; omega
  ·rw [ih (by omega) (fun i hi => h i (by omega)), h n (by omega) (by omega)]; omega
theorem sm_two {n : Nat} {f : Nat → Int} {k l : Nat} (hk : k < n) (hl : l < n) (hkl : k ≠ l) (h : ∀ i, i < n → i ≠ k → i ≠ l → f i = 0) : sm n f = f k + f l := by
 have e : sm n f = sm n (fun i => (if i = k then f i else 0) + (if i = k then 0 else f i)) := sm_congr (fun i _ => by split <;> omega)
 rw [e, sm_add, sm_one hk (fun i _ hi => by simp [hi]), sm_one hl]
 ·simp [Ne.symm hkl]
 ·intro i hi hil
  by_cases c : i = k
  ·simp [c]
  ·simp [c, h i hi c hil]
theorem sm_cut {n m : Nat} {f : Nat → Int} (h : ∀ i, n ≤ i → i < n + m → f i = 0) : sm (n + m) f = sm n f := by
 induction m with
 | zero => rfl
 | succ m ih =>
  rw [← Nat.add_assoc]; simp only [sm]
  rw [ih (fun i h1 h2 => h i h1 (by omega)), h (n + m) (by omega) (by omega)]; omega
theorem sm_split (n m : Nat) (f : Nat → Int) : sm (n + m) f = sm n f + sm m (fun i => f (n + i)) := by
 induction m with
 | zero => simp [sm]
 | succ m ih => rw [← Nat.add_assoc]; simp only [sm]; rw [ih]; omega
theorem sm_first (n : Nat) (f : Nat → Int) : sm (n + 1) f = f 0 + sm n (fun i => f (i + 1)) := by
 rw [Nat.add_comm, sm_split]
 simp only [sm]
 rw [sm_congr (f := fun i => f (1 + i)) (g := fun i => f (i + 1)) (fun i _ => by rw [Nat.add_comm])]
 omega
def up (k j : Nat) : Nat := if j < k then j else j + 1
def dn (k j : Nat) : Nat := if j < k then j else j - 1
theorem up_ne (k j : Nat) : up k j ≠ k := by unfold up; split <;> omega
theorem up_dn {k j : Nat} (h : j ≠ k) : up k (dn k j) = j := by unfold up dn; grind
theorem dn_up (k j : Nat) : dn k (up k j) = j := by unfold up dn; grind
theorem up_lt {k j n : Nat} (h : j < n) : up k j < n + 1 := by unfold up; split <;> omega
theorem dn_lt {k j n : Nat} (h : j < n + 1) (hk : k < n + 1) (hj : j ≠ k) : dn k j < n := by unfold dn; split <;> omega
def mnr (k : Nat) (A : Mat) : Mat := fun i j => A (i + 1) (up k j)
def sg (k : Nat) : Int := if k % 2 = 1 then -1 else 1
theorem sg_succ (k : Nat) : sg (k + 1) = - sg k := by unfold sg; split <;> split <;> omega
theorem sg_sq (k : Nat) : sg k * sg k = 1 := by unfold sg; split <;> rfl
def det : Nat → Mat → Int
 | 0, _ => 1
 | n + 1, A => sm (n + 1) (fun k => sg k * (A 0 k * det n (mnr k A)))
theorem det_succ (n : Nat) (A : Mat) : det (n + 1) A = sm (n + 1) (fun k => sg k * (A 0 k * det n (mnr k A))) := rfl
theorem det_congr {n : Nat} : ∀ {A B : Mat}, (∀ i j, i < n → j < n → A i j = B i j) → det n A = det n B := by
 induction n with
 | zero => intro A B _; rfl
 | succ n ih =>
  intro A B h
  unfold det
  refine sm_congr (fun k hk => ?_)
  rw [h 0 k (by omega) hk, ih (A := mnr k A) (B := mnr k B) (fun i j hi hj => h _ _ (by omega) (up_lt hj))]
theorem det_col_lin {n : Nat} : ∀ {A B C : Mat} {c : Nat} {s t : Int}, c < n → (∀ i, i < n → A i c = s * B i c + t * C i c) → (∀ i j, i < n → j < n → j ≠ c → A i j = B i j ∧ A i j = C i j) → det n A = s * det n B + t * det n C := by
 induction n with
 | zero => intro A B C c s t hc; omega
 | succ n ih =>
  intro A B C c s t hc h ho
  unfold det
  rw [← sm_mul, ← sm_mul, ← sm_add]
  refine sm_congr (fun k hk => ?_)
  by_cases e : k = c
  ·subst e
   have e1 : det n (mnr k A) = det n (mnr k B) := det_congr (fun i j hi hj => (ho _ _ (by omega) (up_lt hj) (up_ne k j)).1)
   have e2 : det n (mnr k A) = det n (mnr k C) := det_congr (fun i j hi hj => (ho _ _ (by omega) (up_lt hj) (up_ne k j)).2)
   rw [h 0 (by omega), ← e1, ← e2]
   grind
  ·have key := ih (A := mnr k A) (B := mnr k B) (C := mnr k C) (c := dn k c) (s := s) (t := t) (dn_lt hc hk (Ne.symm e)) (fun i hi => by unfold mnr; rw [up_dn (Ne.symm e)]; exact h _ (by omega)) (fun i j hi hj hjc => ho _ _ (by omega) (up_lt hj) (fun hh => hjc (by rw [← hh, dn_up])))
   have o := ho 0 k (by omega) hk e
   rw [key, ← o.1, ← o.2]
   grind
def cset (c : Nat) (v : Nat → Int) (A : Mat) : Mat := fun i j => if j = c then v i else A i j
def rset (r : Nat) (v : Nat → Int) (A : Mat) : Mat := fun i j => if i = r then v j else A i j
def tr (A : Mat) : Mat := fun i j => A j i
def one : Mat := fun i j => if i = j then 1 else 0
def mul (n : Nat) (A B : Mat) : Mat := fun i j => sm n (fun k => A i k * B k j)
theorem det_adj_eq {n : Nat} : ∀ {A : Mat} {c : Nat}, c + 1 < n → (∀ i, i < n → A i c = A i (c + 1)) → det n A = 0 := by
 induction n with
 | zero => intro A c hc; omega
 | succ n ih =>
  intro A c hc h
  unfold det
  rw [sm_two (k := c) (l := c + 1) (by omega) (by omega) (by omega)]
  ·have e : det n (mnr c A) = det n (mnr (c + 1) A) := det_congr (fun i j hi hj => by
    unfold mnr up
    by_cases e : j = c
    ·subst e
     simp only [Nat.lt_irrefl, if_false, Nat.lt_succ_self, if_true]
     exact (h _ (by omega)).symm
    ·by_cases e2 : j < c
     ·rw [if_pos e2, if_pos (by omega)]
     ·rw [if_neg e2, if_neg (by omega)])
   rw [sg_succ, ← e, ← h 0 (by omega)]
   grind
  ·intro k hk h1 h2
   rw [ih (A := mnr k A) (c := dn k c) (by unfold dn; split <;> omega) (fun i hi => ?_)]
   ·simp
   ·unfold mnr
    rw [up_dn (Ne.symm h1), show dn k c + 1 = dn k (c + 1) from by unfold dn; split <;> split <;> omega, up_dn (Ne.symm h2)]
    exact h _ (by omega)
theorem det_cadd {n c : Nat} (hc : c < n) (u v : Nat → Int) (A : Mat) (s t : Int) : det n (cset c (fun i => s * u i + t * v i) A) = s * det n (cset c u A) + t * det n (cset c v A) :=
 det_col_lin hc (fun i _ => by simp [cset]) (fun i j _ _ h => by simp [cset, h])
theorem det_adj_swap {n c : Nat} (hc : c + 1 < n) {A B : Mat} (h : ∀ i, i < n → B i c = A i (c + 1) ∧ B i (c + 1) = A i c) (ho : ∀ i j, i < n → j < n → j ≠ c → j ≠ c + 1 → B i j = A i j) : det n B = - det n A := by
 let W (u v : Nat → Int) : Mat := cset c u (cset (c + 1) v A)
 let x : Nat → Int := fun i => A i c
 let y : Nat → Int := fun i => A i (c + 1)
 have z (u v : Nat → Int) (e : ∀ i, u i = v i) : det n (W u v) = 0 := det_adj_eq hc (fun i hi => by simp [W, cset, e])
 have l1 (u v w : Nat → Int) : det n (W (fun i => 1 * u i + 1 * v i) w) = 1 * det n (W u w) + 1 * det n (W v w) := det_cadd (by omega) u v _ 1 1
 have l2 (u v w : Nat → Int) : det n (W w (fun i => 1 * u i + 1 * v i)) = 1 * det n (W w u) + 1 * det n (W w v) :=
  det_col_lin (c := c + 1) hc (fun i _ => by simp [W, cset]) (fun i j _ _ h => by by_cases e : j = c <;> simp [W, cset, h, e])
 have a := z (fun i => 1 * x i + 1 * y i) (fun i => 1 * x i + 1 * y i) (fun _ => rfl)
 rw [l1, l2, l2, z x x (fun _ => rfl), z y y (fun _ => rfl)] at a
 have ea : det n (W x y) = det n A := det_congr (fun i j _ _ => by by_cases e : j = c <;> by_cases e2 : j = c + 1 <;> simp [W, cset, x, y, e, e2])
 have eb : det n (W y x) = det n B := det_congr (fun i j hi hj => by
  by_cases e : j = c
  ·subst e; simp [W, cset, y, (h i hi).1]
  ·by_cases e2 : j = c + 1
   ·subst e2; simp [W, cset, x, (h i hi).2]
   ·simp [W, cset, e, e2, ho i j hi hj e e2])
 rw [ea, eb] at a
 omega
theorem det_col_eq {n : Nat} : ∀ (q : Nat) {A : Mat} {c d : Nat}, d = c + 1 + q → d < n → (∀ i, i < n → A i c = A i d) → det n A = 0 := by
 intro q
 induction q with
 | zero => intro A c d e hd h; subst e; exact det_adj_eq hd h
 | succ q ih =>
  intro A c d e hd h
  have k := ih (A := fun i j => if j = c + 1 + q then A i (c + 1 + q + 1) else if j = c + 1 + q + 1 then A i (c + 1 + q) else A i j) (c := c) (d := c + 1 + q) rfl (by omega) (fun i hi => by
   simp only [if_neg (show ¬ c = c + 1 + q by omega), if_neg (show ¬ c = c + 1 + q + 1 by omega), if_true]
   rw [h i hi, e]; rfl)
  have s := det_adj_swap (n := n) (c := c + 1 + q) (by omega) (A := A) (B := fun i j => if j = c + 1 + q then A i (c + 1 + q + 1) else if j = c + 1 + q + 1 then A i (c + 1 + q) else A i j) (fun i hi => ⟨by simp, by simp⟩) (fun i j _ _ h1 h2 => by simp [h1, h2])
  omega
theorem det_col_alt {n c d : Nat} {A : Mat} (hc : c < n) (hd : d < n) (hcd : c ≠ d) (h : ∀ i, i < n → A i c = A i d) : det n A = 0 := by
 by_cases e : c < d
 ·exact det_col_eq (d - c - 1) (by omega) hd h
 ·exact det_col_eq (c - d - 1) (by omega) hc (fun i hi => (h i hi).symm)
structure Form (n : Nat) (f : Mat → Int) : Prop where
 cong : ∀ A B : Mat, (∀ i j, i < n → j < n → A i j = B i j) → f A = f B
 lin : ∀ (A : Mat) (r : Nat) (u v : Nat → Int) (s t : Int), r < n → f (rset r (fun j => s * u j + t * v j) A) = s * f (rset r u A) + t * f (rset r v A)
 alt : ∀ (A : Mat) (r q : Nat), r < n → q < n → r ≠ q → (∀ j, j < n → A r j = A q j) → f A = 0
theorem rset_self (r : Nat) (A : Mat) : rset r (A r) A = A := by funext i j; unfold rset; split <;> simp_all
theorem Form.sums {n : Nat} {f : Mat → Int} (F : Form n f) {r : Nat} (hr : r < n) (A : Mat) (m : Nat) (c : Nat → Int) (v : Nat → Nat → Int) : f (rset r (fun j => sm m (fun k => c k * v k j)) A) = sm m (fun k => c k * f (rset r (v k) A)) := by
 induction m with
 | zero =>
  have := F.lin A r (fun _ => 0) (fun _ => 0) 0 0 hr
  simp only [sm] at *
  simpa using this
 | succ m ih =>
  simp only [sm]
  have := F.lin A r (fun j => sm m (fun k => c k * v k j)) (v m) 1 (c m) hr
  simp only [Int.one_mul] at this
  rw [this, ih]
theorem Form.swap {n : Nat} {f : Mat → Int} (F : Form n f) {r q : Nat} (hr : r < n) (hq : q < n) (hrq : r ≠ q) {A B : Mat} (h : ∀ j, j < n → B r j = A q j ∧ B q j = A r j) (ho : ∀ i j, i < n → j < n → i ≠ r → i ≠ q → B i j = A i j) : f B = - f A := by
 let W (u v : Nat → Int) : Mat := rset r u (rset q v A)
 have z (u v : Nat → Int) (e : ∀ i, u i = v i) : f (W u v) = 0 := F.alt _ r q hr hq hrq (fun j _ => by simp [W, rset, e, Ne.symm hrq])
 have l1 (u v w : Nat → Int) : f (W (fun i => 1 * u i + 1 * v i) w) = 1 * f (W u w) + 1 * f (W v w) := F.lin _ r u v 1 1 hr
 have c (u v : Nat → Int) : W u v = rset q v (rset r u A) := by
  funext i j; simp only [W, rset]
  by_cases e : i = r
  ·subst e; simp [hrq]
  ·simp [e]
 have l2 (u v w : Nat → Int) : f (W w (fun i => 1 * u i + 1 * v i)) = 1 * f (W w u) + 1 * f (W w v) := by
  rw [c, c, c]; exact F.lin _ q u v 1 1 hq
 have a := z (fun i => 1 * A r i + 1 * A q i) (fun i => 1 * A r i + 1 * A q i) (fun _ => rfl)
 rw [l1, l2, l2, z (A r) (A r) (fun _ => rfl), z (A q) (A q) (fun _ => rfl)] at a
 have ea : f (W (A r) (A q)) = f A := F.cong _ _ (fun i j _ _ => by simp only [W, rset]; grind)
 have eb : f (W (A q) (A r)) = f B := F.cong _ _ (fun i j hi hj => by
  by_cases e : i = r
  ·subst e; simp [W, rset, (h j hj).1]
  ·by_cases e2 : i = q
   ·subst e2; simp [W, rset, (h j hj).2, e]
   ·simp [W, rset, e, e2, ho i j hi hj e e2])
 rw [ea, eb] at a
 omega
theorem Form.addrow {n : Nat} {f : Mat → Int} (F : Form n f) {r q : Nat} (hr : r < n) (hq : q < n) (hrq : r ≠ q) (A : Mat) (t : Int) : f (rset r (fun j => A r j + t * A q j) A) = f A := by
 have l := F.lin A r (A r) (A q) 1 t hr
 simp only [Int.one_mul] at l
 rw [l, rset_self, F.alt (rset r (A q) A) r q hr hq hrq (fun j _ => by simp [rset, Ne.symm hrq])]
 omega
def emb (k : Nat) (B : Mat) : Mat
 | 0, j => if j = k then 1 else 0
 | i + 1, j => if j = k then 0 else B i (dn k j)
theorem Form.clean {n : Nat} {f : Mat → Int} (F : Form (n + 1) f) {k : Nat} (hk : k < n + 1) (A : Mat) : ∀ m, m ≤ n → f (rset 0 (fun j => if j = k then 1 else 0) A) = f (fun i j => if i = 0 then (if j = k then 1 else 0) else if i ≤ m ∧ j = k then 0 else A i j) := by
 intro m
 induction m with
 | zero => intro _; exact F.cong _ _ (fun i j _ _ => by by_cases e : i = 0 <;> simp [rset, e])
 | succ m ih =>
  intro hm
  rw [ih (by omega)]
  rw [← F.addrow (r := m + 1) (q := 0) (by omega) (by omega) (by omega) _ (- A (m + 1) k)]
  refine F.cong _ _ (fun i j hi hj => ?_)
  by_cases e : i = m + 1
  ·subst e
   by_cases e2 : j = k
   ·subst e2; simp [rset]; omega
   ·simp [rset, e2]
  ·by_cases e0 : i = 0
   ·simp [rset, e0]
   ·have : (i ≤ m ∧ j = k) ↔ (i ≤ m + 1 ∧ j = k) := by constructor <;> intro h <;> omega
    simp [rset, e, e0, this]
theorem Form.emb_sg {n : Nat} {f : Mat → Int} (F : Form (n + 1) f) : ∀ k, k < n + 1 → f (emb k one) = sg k * f one := by
 intro k
 induction k with
 | zero =>
  intro _
  rw [show sg 0 = 1 from rfl, Int.one_mul]
  refine F.cong _ _ (fun i j _ _ => ?_)
  cases i with
  | zero => unfold emb one; by_cases e : j = 0 <;> simp [e, eq_comm]
  | succ i => unfold emb one dn; cases j with
   | zero => simp
   | succ j => simp
 | succ k ih =>
  intro hk
  rw [F.swap (r := 0) (q := k + 1) (A := emb k one) (by omega) (by omega) (by omega), ih (by omega), sg_succ]
  ·grind
  ·intro j hj
   refine ⟨?_, ?_⟩
   ·simp only [emb, one, dn]; grind
   ·simp only [emb, one, dn]; grind
  ·intro i j hi hj h0 h1
   cases i with
   | zero => exact absurd rfl h0
   | succ i => simp only [emb, one, dn]; grind
theorem Form.uniq {n : Nat} : ∀ {f : Mat → Int}, Form n f → ∀ A, f A = det n A * f one := by
 induction n with
 | zero => intro f F A; rw [show det 0 A = 1 from rfl, Int.one_mul]; exact F.cong _ _ (fun i j hi _ => absurd hi (Nat.not_lt_zero _))
 | succ n ih =>
  intro f F A
  have e0 : f A = f (rset 0 (fun j => sm (n + 1) (fun k => A 0 k * (if j = k then 1 else 0))) A) := F.cong _ _ (fun i j hi hj => by
   by_cases e : i = 0
   ·subst e
    simp only [rset, if_true]
    rw [sm_one hj (fun i _ h => by simp [Ne.symm h])]; simp
   ·simp [rset, e])
  rw [e0, F.sums (by omega) A (n + 1) (A 0) (fun k j => if j = k then 1 else 0)]
  unfold det
  rw [← sm_mulr]
  refine sm_congr (fun k hk => ?_)
  have G : Form n (fun B => f (emb k B)) := by
   have er (B : Mat) (r : Nat) (v : Nat → Int) : emb k (rset r v B) = rset (r + 1) (fun j => if j = k then 0 else v (dn k j)) (emb k B) := by
    funext i j
    cases i with
    | zero => simp [emb, rset]
    | succ i => by_cases e : i = r <;> simp [emb, rset, e]
   refine ⟨fun B C h => F.cong _ _ (fun i j hi hj => ?_), fun B r u v s t hr => ?_, fun B r q hr hq hrq h => ?_⟩
   ·cases i with
    | zero => rfl
    | succ i =>
     unfold emb
     by_cases e : j = k
     ·simp [e]
     ·simp only [if_neg e]; exact h _ _ (by omega) (dn_lt hj hk e)
   ·simp only [er]
    rw [← F.lin _ _ _ _ s t (by omega)]
    congr 2
    funext j
    by_cases e : j = k <;> simp [e]
   ·refine F.alt _ (r + 1) (q + 1) (by omega) (by omega) (by omega) (fun j hj => ?_)
    unfold emb
    by_cases e : j = k
    ·simp [e]
    ·simp only [if_neg e]; exact h _ (dn_lt hj hk e)
  have e1 : f (rset 0 (fun j => if j = k then 1 else 0) A) = f (emb k (mnr k A)) := by
   rw [F.clean hk A n (Nat.le_refl _)]
   refine F.cong _ _ (fun i j hi hj => ?_)
   cases i with
   | zero => simp [emb]
   | succ i =>
    unfold emb mnr
    by_cases e : j = k
    ·simp [e]; omega
    ·simp [e, up_dn e]
  have e2 := ih G (mnr k A)
  rw [e1, e2, F.emb_sg k hk]
  grind
theorem det_one (n : Nat) : det n one = 1 := by
 induction n with
 | zero => rfl
 | succ n ih =>
  unfold det
  rw [sm_one (k := 0) (by omega) (fun i _ h => by simp [one, Ne.symm h])]
  rw [det_congr (A := mnr 0 one) (B := one) (fun i j _ _ => by simp [mnr, one, up]), ih]
  rfl
theorem tr_form (n : Nat) : Form n (fun A => det n (tr A)) := by
 refine ⟨fun A B h => det_congr (fun i j hi hj => h j i hj hi), fun A r u v s t hr => ?_, fun A r q hr hq hrq h => det_col_alt hr hq hrq h⟩
 exact det_col_lin (c := r) hr (fun i _ => by simp [tr, rset]) (fun i j _ _ h => by simp [tr, rset, h])
theorem det_tr (n : Nat) (A : Mat) : det n (tr A) = det n A := by
 have h : det n (tr A) = det n A * det n (tr one) := (tr_form n).uniq A
 rw [h, det_congr (A := tr one) (B := one) (fun i j _ _ => by simp [tr, one, eq_comm]), det_one, Int.mul_one]
theorem det_form (n : Nat) : Form n (det n) := by
 have e : det n = fun A => det n (tr A) := by funext A; exact (det_tr n A).symm
 rw [e]; exact tr_form n
theorem mul_form (n : Nat) (B : Mat) : Form n (fun A => det n (mul n A B)) := by
 have er (A : Mat) (r : Nat) (v : Nat → Int) : mul n (rset r v A) B = rset r (fun j => sm n (fun k => v k * B k j)) (mul n A B) := by
  funext i j; by_cases e : i = r <;> simp [mul, rset, e]
 refine ⟨fun A C h => det_congr (fun i j hi hj => sm_congr (fun k hk => by rw [h i k hi hk])), fun A r u v s t hr => ?_, fun A r q hr hq hrq h => ?_⟩
 ·simp only [er]
  rw [← (det_form n).lin _ _ _ _ s t hr]
  congr 2
  funext j
  rw [← sm_mul, ← sm_mul, ← sm_add]
  exact sm_congr (fun k _ => by grind)
 ·exact (det_form n).alt _ r q hr hq hrq (fun j hj => sm_congr (fun k hk => by rw [h k hk]))
theorem det_mul (n : Nat) (A B : Mat) : det n (mul n A B) = det n A * det n B := by
 have h : det n (mul n A B) = det n A * det n (mul n one B) := (mul_form n B).uniq A
 rw [h, det_congr (A := mul n one B) (B := B) (fun i j hi _ => ?_)]
 unfold mul
 rw [sm_one (k := i) hi (fun k _ h => by simp [one, Ne.symm h])]
 simp [one]
def sh (l : Nat) (A : Mat) : Mat := fun i j => A (l + i) (l + j)
theorem det_block (d : Nat) : ∀ (l : Nat) (A : Mat), (∀ i j, i < l → l ≤ j → j < l + d → A i j = 0) → det (l + d) A = det l A * det d (sh l A) := by
 intro l
 induction l with
 | zero => intro A _; rw [Nat.zero_add, show det 0 A = 1 from rfl, Int.one_mul]; exact det_congr (fun i j _ _ => by simp [sh])
 | succ l ih =>
  intro A h
  rw [show l + 1 + d = (l + d) + 1 from by omega, det_succ, det_succ]
  rw [show l + d + 1 = (l + 1) + d from by omega, sm_cut (fun i h1 h2 => by rw [h 0 i (by omega) h1 h2]; simp), ← sm_mulr]
  refine sm_congr (fun k hk => ?_)
  rw [ih (mnr k A) (fun i j hi h1 h2 => by
   unfold mnr up
   rw [if_neg (by omega)]
   exact h _ _ (by omega) (by omega) (by omega))]
  rw [det_congr (A := sh l (mnr k A)) (B := sh (l + 1) A) (fun i j _ _ => by
   unfold sh mnr up
   rw [if_neg (by omega), show l + i + 1 = l + 1 + i from by omega, show l + j + 1 = l + 1 + j from by omega])]
  grind
theorem det_block' (d l : Nat) (A : Mat) (h : ∀ i j, l ≤ i → i < l + d → j < l → A i j = 0) : det (l + d) A = det l A * det d (sh l A) := by
 rw [← det_tr (l + d) A, det_block d l (tr A) (fun i j h1 h2 h3 => h j i h2 h3 h1), det_tr l A, ← det_tr d (sh l A)]
 rfl
def mv (s t : Nat) (b : Nat → Int) (A : Mat) : Mat := fun i j => if i < s then A (up t i) j else if i = s then b j else A (up t (i - 1)) j
theorem mv_sg {n : Nat} (t : Nat) (b : Nat → Int) (A : Mat) : ∀ s, s < n → det n (mv s t b A) = sg s * det n (mv 0 t b A) := by
 intro s
 induction s with
 | zero => intro _; simp [sg]
 | succ s ih =>
  intro hs
  rw [(det_form n).swap (r := s) (q := s + 1) (A := mv s t b A) (by omega) (by omega) (by omega), ih (by omega), sg_succ]
  ·grind
  ·intro j _; refine ⟨?_, ?_⟩
   ·simp [mv]; intro h; omega
   ·simp [mv]
  ·intro i j _ _ h1 h2
   unfold mv
   by_cases e : i < s
   ·rw [if_pos e, if_pos (by omega)]
   ·rw [if_neg e, if_neg (by omega), if_neg h1, if_neg h2]
theorem adj_row {n : Nat} (B : Mat) (b : Nat → Int) {j : Nat} (hj : j < n) : sm n (fun t => det n (rset t b B) * B t j) = det n B * b j := by
 let X : Mat := fun i c => if i = 0 then (if c = 0 then b j else b (c - 1)) else (if c = 0 then B (i - 1) j else B (i - 1) (c - 1))
 have z : det (n + 1) X = 0 := det_col_alt (c := 0) (d := j + 1) (by omega) (by omega) (by omega) (fun i _ => by simp [X])
 have e := det_tr (n + 1) X
 rw [z] at e
 unfold det at e
 rw [sm_first] at e
 have m0 : det n (mnr 0 (tr X)) = det n B := by
  rw [← det_tr n B]; exact det_congr (fun p q _ _ => by simp [mnr, tr, X, up])
 have mt (t : Nat) (ht : t < n) : det n (mnr (t + 1) (tr X)) = sg t * det n (rset t b B) := by
  rw [← det_tr n (mnr (t + 1) (tr X))]
  have e1 : det n (tr (mnr (t + 1) (tr X))) = det n (mv 0 t b B) := det_congr (fun p q _ _ => by
   cases p with
   | zero => simp [mnr, tr, X, up, mv]
   | succ p =>
    simp only [mnr, tr, X, up, mv, Nat.not_lt_zero, if_false]
    by_cases c : p < t
    ·simp [c, Nat.succ_lt_succ c]
    ·simp [c, show ¬ p + 1 < t + 1 from by omega])
  have e2 : det n (mv t t b B) = det n (rset t b B) := det_congr (fun p q _ _ => by
   unfold mv rset up
   by_cases c : p < t
   ·simp [c, show p ≠ t from by omega]
   ·by_cases c2 : p = t
    ·simp [c2]
    ·rw [if_neg c, if_neg c2, if_neg c2, if_neg (by omega), show p - 1 + 1 = p from by omega])
  rw [e1, ← e2, mv_sg t b B t ht]
  have := sg_sq t
  grind
 have e3 : sm n (fun i => sg (i + 1) * (tr X 0 (i + 1) * det n (mnr (i + 1) (tr X)))) = - sm n (fun t => det n (rset t b B) * B t j) := by
  rw [← Int.neg_one_mul, ← sm_mul]
  refine sm_congr (fun t ht => ?_)
  rw [mt t ht, sg_succ]
  have := sg_sq t
  simp only [tr, X]
  simp
  grind
 rw [e3, m0] at e
 simp [tr, X, sg] at e
 grind
end Go.Proofs.Ythdoilfjcgickaa.Dt
end
section
namespace Go.Proofs.Ythdoilfjcgickaa.Hd
open Go.RowKit Go.Proofs.YthdoilfjcgickaaW.PrintWords Go.Proofs.YthdoilfjcgickaaW.PrintLast Go.Proofs.YthdoilfjcgickaaW.PrintMore Go.Proofs.Ythdoilfjcgickaa.Pr Go.Proofs.Ythdoilfjcgickaa.La Go.Proofs.Ythdoilfjcgickaa.Ma Go.Proofs.Ythdoilfjcgickaa.Hm Go.Proofs.Ythdoilfjcgickaa.Dt
structure Own (w0 w : World) (g n : Nat) (b cp : Nat → Nat) (M : Mat) : Prop where
 below : Below w0.heap.size w0 w
 gb : w0.heap.size ≤ g
 bb : ∀ j, j < n → w0.heap.size ≤ b j
 inj : ∀ i j, i < n → j < n → b i = b j → i = j
 ne : ∀ j, j < n → b j ≠ g
 cap : ∀ j, j < n → n ≤ cp j
 og : ∀ j, j < n → w.cell? ⟨g, j, none⟩ = some (.slice (some ⟨b j, 0, none⟩) n (cp j)) ∧ w.frozen? ⟨g, j, none⟩ = false
 ob : ∀ j c, j < n → c < n → w.cell? ⟨b j, c, none⟩ = some (.int .i64 (M j c)) ∧ w.frozen? ⟨b j, c, none⟩ = false
theorem frozen_below {w w' : World} (h : Below w.heap.size w w') {p : Addr} (hp : p.block < w.heap.size) : w'.frozen? p = w.frozen? p := by
 unfold World.frozen?
 rw [h.block _ hp]
theorem lt_of_cell {w : World} {p : Addr} {v : Value} (h : w.cell? p = some v) : p.block < w.heap.size := World.block_lt_of_cell? w _ h
theorem cset_same {w : World} {p : Addr} {u v : Value} (h : w.cell? p = some u) : (w.setCell p v).cell? p = some v := World.cell?_setCell_same w p v h
theorem cset_other {w : World} {p q : Addr} {v : Value} (h : p ≠ q) : (w.setCell p v).cell? q = w.cell? q := World.cell?_setCell_other w p q v h
theorem fset {w : World} {p q : Addr} {v : Value} : (w.setCell p v).frozen? q = w.frozen? q := World.frozen?_setCell w p q v
theorem add_off (g i j : Nat) : (⟨g, i, none⟩ : Addr).add j = ⟨g, i + j, none⟩ := by unfold Addr.add; split <;> simp_all
section
variable {w0 w w' : World} {g n : Nat} {b cp : Nat → Nat} {M : Mat}
theorem Own.step (h : Own w0 w g n b cp M) (hb : Below w.heap.size w w') : Own w0 w' g n b cp M :=
  ⟨Below.trans h.below (hb.mono h.below.size), h.gb, h.bb, h.inj, h.ne, h.cap,
   fun j hj => by have := lt_of_cell (h.og j hj).1; exact ⟨(hb.cell (p := ⟨g, j, none⟩) this).trans (h.og j hj).1, (frozen_below hb this).trans (h.og j hj).2⟩,
   fun j c hj hc => by have := lt_of_cell (h.ob j c hj hc).1; exact ⟨(hb.cell (p := ⟨b j, c, none⟩) this).trans (h.ob j c hj hc).1, (frozen_below hb this).trans (h.ob j c hj hc).2⟩⟩
theorem Own.congr {M' : Mat} (h : Own w0 w g n b cp M) (e : ∀ i j, i < n → j < n → M i j = M' i j) : Own w0 w g n b cp M' :=
 ⟨h.below, h.gb, h.bb, h.inj, h.ne, h.cap, h.og, fun j c hj hc => by rw [← e j c hj hc]; exact h.ob j c hj hc⟩
def mset (M : Mat) (r c : Nat) (x : Int) : Mat := fun i j => if i = r ∧ j = c then x else M i j
theorem Own.put (h : Own w0 w g n b cp M) {r c : Nat} (hr : r < n) (hc : c < n) (x : Int) : Own w0 (w.setCell ⟨b r, c, none⟩ (.int .i64 x)) g n b cp (mset M r c x) := by
 refine ⟨h.below.setCell (h.bb r hr) _, h.gb, h.bb, h.inj, h.ne, h.cap, fun j hj => ⟨?_, ?_⟩, fun j d hj hd => ⟨?_, ?_⟩⟩
 ·rw [cset_other (by intro e; have := congrArg Addr.block e; exact h.ne r hr this)]
  exact (h.og j hj).1
 ·rw [fset]; exact (h.og j hj).2
 ·unfold mset
  by_cases e : j = r ∧ d = c
  ·obtain ⟨rfl, rfl⟩ := e
   rw [if_pos ⟨rfl, rfl⟩]
   exact cset_same (h.ob j d hj hd).1
  ·rw [if_neg e, cset_other (by
    intro q
    have q1 := congrArg Addr.block q
    have q2 := congrArg Addr.off q
    exact e ⟨(h.inj r j hr hj q1).symm, q2.symm⟩)]
   exact (h.ob j d hj hd).1
 ·rw [fset]; exact (h.ob j d hj hd).2
def sw (r q j : Nat) : Nat := if j = r then q else if j = q then r else j
theorem sw_lt {r q j : Nat} (hr : r < n) (hq : q < n) (hj : j < n) : sw r q j < n := by unfold sw; grind
theorem sw_sw (r q j : Nat) : sw r q (sw r q j) = j := by unfold sw; grind
theorem sw_inj {r q i j : Nat} (h : sw r q i = sw r q j) : i = j := by rw [← sw_sw r q i, h, sw_sw]
theorem Own.swap (h : Own w0 w g n b cp M) {r q : Nat} (hr : r < n) (hq : q < n) :
  Own w0 ((w.setCell ⟨g, r, none⟩ (.slice (some ⟨b q, 0, none⟩) n (cp q))).setCell ⟨g, q, none⟩ (.slice (some ⟨b r, 0, none⟩) n (cp r))) g n (fun j => b (sw r q j)) (fun j => cp (sw r q j)) (fun j => M (sw r q j)) := by
 refine ⟨(h.below.setCell h.gb _).setCell h.gb _, h.gb, fun j hj => h.bb _ (sw_lt hr hq hj), fun i j hi hj e => sw_inj (h.inj _ _ (sw_lt hr hq hi) (sw_lt hr hq hj) e), fun j hj => h.ne _ (sw_lt hr hq hj), fun j hj => h.cap _ (sw_lt hr hq hj), fun j hj => ⟨?_, ?_⟩, fun j d hj hd => ⟨?_, ?_⟩⟩
 ·by_cases e : j = q
  ·subst e
   have : sw r j j = r := by unfold sw; split <;> simp_all
   rw [this]
   by_cases e2 : r = j
   ·subst e2; exact cset_same (cset_same (h.og r hr).1)
   ·exact cset_same (u := .slice (some ⟨b j, 0, none⟩) n (cp j)) (by rw [cset_other (by intro q1; exact e2 (congrArg Addr.off q1))]; exact (h.og j hj).1)
  ·rw [cset_other (by intro q1; exact e (congrArg Addr.off q1).symm)]
   by_cases e2 : j = r
   ·subst e2
    rw [show sw j q j = q from by simp [sw]]
    exact cset_same (h.og j hj).1
   ·rw [cset_other (by intro q1; exact e2 (congrArg Addr.off q1).symm), show sw r q j = j from by simp [sw, e, e2]]
    exact (h.og j hj).1
 ·rw [fset, fset]; exact (h.og j hj).2
 ·have hl := sw_lt hr hq hj
  rw [cset_other (by intro q1; exact h.ne _ hl (congrArg Addr.block q1).symm), cset_other (by intro q1; exact h.ne _ hl (congrArg Addr.block q1).symm)]
  exact (h.ob _ d hl hd).1
 ·rw [fset, fset]; exact (h.ob _ d (sw_lt hr hq hj) hd).2
def rowsFrom (M : Mat) (n i : Nat) : List (List Int) := (List.range (n - i)).map fun r => (List.range n).map fun c => M (i + r) c
theorem rowsFrom_len (M : Mat) (n i : Nat) : (rowsFrom M n i).length = n - i := by simp [rowsFrom]
theorem Own.C (h : Own w0 w g n b cp M) (i : Nat) (hn : n ≤ 1099511627776) : Kd.C (Kd.slice 2 (Kd.int .i64)) w (some ⟨g, i, none⟩) (rowsFrom M n i).length (rowsFrom M n i) := by
 have hl := rowsFrom_len M n i
 refine ⟨rfl, by omega, fun _ => ⟨_, rfl, fun j p hp => ?_⟩⟩
 have hj : j < n - i := by have := (List.getElem?_eq_some_iff.1 hp).1; omega
 have hpe : p = (List.range n).map fun c => M (i + j) c := by
  rw [rowsFrom, List.getElem?_map, List.getElem?_range hj] at hp
  exact (Option.some.inj hp).symm
 subst hpe
 have hc := (h.og (i + j) (by omega)).1
 refine ⟨[.slice (some ⟨b (i + j), 0, none⟩) n (cp (i + j))], rfl, ⟨some ⟨b (i + j), 0, none⟩, cp (i + j), by simp, by simp; exact h.cap _ (by omega), ?_⟩, fun u v hv => ?_⟩
 ·refine ⟨rfl, by simp; omega, fun _ => ⟨_, rfl, fun c p hp => ?_⟩⟩
  have hcn : c < n := by have := (List.getElem?_eq_some_iff.1 hp).1; simpa using this
  rw [List.getElem?_map, List.getElem?_range hcn] at hp
  have hp := Option.some.inj hp
  refine ⟨[.int .i64 p], rfl, rfl, fun u v hv => ?_⟩
  have hu : u = 0 := by cases u with
   | zero => rfl
   | succ u => simp at hv
  subst hu
  have hv : Value.int .i64 p = v := by simpa using hv
  rw [← hv, ← hp]
  have := (h.ob (i + j) c (by omega) hcn).1
  have e : (⟨b (i + j), 0, none⟩ : Addr).add (c * (Kd.int .i64).sz + 0) = ⟨b (i + j), c, none⟩ := by
   show (⟨b (i + j), 0, none⟩ : Addr).add (c * 1 + 0) = _
   rw [Nat.mul_one, Nat.add_zero, add_off]; try rw [Nat.zero_add]
  rw [e]; exact this
 ·have hu : u = 0 := by cases u with
   | zero => rfl
   | succ u => simp at hv
  subst hu
  have hv : Value.slice (some ⟨b (i + j), 0, none⟩) n (cp (i + j)) = v := by simpa using hv
  rw [← hv]
  have e : (⟨g, i, none⟩ : Addr).add (j * (Kd.slice 2 (Kd.int .i64)).sz + 0) = ⟨g, i + j, none⟩ := by
   show (⟨g, i, none⟩ : Addr).add (j * 1 + 0) = _
   rw [Nat.mul_one, Nat.add_zero, add_off]; try rw [Nat.zero_add]
  rw [e]; exact hc
end
def en (l : List (List Int)) : Mat := fun i j => (l.getD i []).getD j 0
theorem own_of_S {w0 W : World} {ok : Nat → Prop} {v : Value} {l : List (List Int)} (h : SS w0 W ok v l) (hB : Below w0.heap.size w0 W) (hp : 0 < l.length) (hr : ∀ x ∈ l, x.length = l.length) : ∃ (g cap : Nat) (b cp : Nat → Nat), v = .slice (some ⟨g, 0, none⟩) l.length cap ∧ l.length ≤ cap ∧ Own w0 W g l.length b cp (en l) := by
 obtain ⟨g, cap, rfl, hg0, hg1, cells, hgc⟩ := Kd.S_form h hp
 have hrd := Kd.S_reads' h
 obtain ⟨f, h0, hO⟩ := h
 obtain ⟨A, c, hv, hc, _, _, hread⟩ := hO.reads
 injection hv with hA _ _
 subst hA
 rw [List.length_zipIdx] at hread
 obtain ⟨ad, had, hj⟩ := hread hp
 injection had with had
 subst had
 have key : ∀ j, ∃ p : Nat × Nat, j < l.length → W.cell? ⟨g, j, none⟩ = some (.slice (some ⟨p.1, 0, none⟩) l.length p.2) ∧ l.length ≤ p.2 ∧ w0.heap.size ≤ p.1 ∧ f p.1 = j ∧ p.1 ≠ g ∧ ∀ d, d < l.length → W.cell? ⟨p.1, d, none⟩ = some (.int .i64 (en l j d)) ∧ W.frozen? ⟨p.1, d, none⟩ = false := by
  intro j
  by_cases hjl : j < l.length
  ·obtain ⟨cs, hcs, hM, hcell⟩ := hj j (l[j], j) (Kd.zip_at (List.getElem?_eq_getElem hjl))
   obtain ⟨u, rfl, hR⟩ := (show ∃ u, cs = [u] ∧ Kd.R (Kd.int .i64) 2 W w0.heap.size (fun k => (ok k ∧ some k ≠ (Value.slice (some ⟨g, 0, none⟩) l.length cap).ownBlock) ∧ f k = j) u l[j] from hM)
   have hlen := hr l[j] (List.getElem_mem hjl)
   obtain ⟨bj, cj, rfl, hb1, hb2, cells2, hbc⟩ := Kd.R_form hR (by omega)
   have hcj := (Kd.R_reads' hR).2.1
   have hown := hR.1 bj (by simp [Value.ownBlock])
   refine ⟨(bj, cj), fun _ => ⟨?_, by simpa [hlen] using hcj, hb1, hown.2, ?_, fun d hd => ?_⟩⟩
   ·have := hcell 0 _ rfl
    have e : (⟨g, 0, none⟩ : Addr).add (j * (Kd.tag f (Kd.slice 2 (Kd.int .i64))).sz + 0) = ⟨g, j, none⟩ := by
     show (⟨g, 0, none⟩ : Addr).add (j * 1 + 0) = _
     rw [Nat.mul_one, Nat.add_zero, add_off]; try rw [Nat.zero_add]
    rw [e, hlen] at this
    exact this
   ·intro e
    have e : bj = g := e
    subst e
    exact hown.1.2 (by simp [Value.ownBlock])
   ·have hat := Kd.R_celln 0 hR (d : Int) (by omega) (by omega)
    rw [Int.toNat_natCast] at hat
    have e2 : en l j d = l[j].getD d 0 := by unfold en; rw [List.getD_eq_getElem?_getD (l := l), List.getElem?_eq_getElem hjl]; rfl
    rw [e2]
    exact ⟨by simpa [rdOf] using hat.1, hat.2⟩
  ·exact ⟨(0, 0), fun hh => absurd hh hjl⟩
 obtain ⟨p, hp2⟩ := Classical.skolem.1 key
 refine ⟨g, cap, fun j => (p j).1, fun j => (p j).2, rfl, hrd.2.1, ⟨hB, hg0, fun j hj => (hp2 j hj).2.2.1, fun i j hi hj e => ?_, fun j hj => (hp2 j hj).2.2.2.2.1, fun j hj => (hp2 j hj).2.1, fun j hj => ⟨(hp2 j hj).1, blk_frozen hgc j⟩, fun j d hj hd => (hp2 j hj).2.2.2.2.2 d hd⟩⟩
 have h1 := (hp2 i hi).2.2.2.1
 have h2 := (hp2 j hj).2.2.2.1
 rw [← h1, ← h2]
 exact congrArg f e
end Go.Proofs.Ythdoilfjcgickaa.Hd
end
section
namespace Go.Proofs.Ythdoilfjcgickaa.Hd
open Go.RowKit Go.Proofs.YthdoilfjcgickaaW.PrintWords Go.Proofs.YthdoilfjcgickaaW.PrintLast Go.Proofs.YthdoilfjcgickaaW.PrintMore Go.Proofs.Ythdoilfjcgickaa.Pr Go.Proofs.Ythdoilfjcgickaa.La Go.Proofs.Ythdoilfjcgickaa.Ma Go.Proofs.Ythdoilfjcgickaa.Hm Go.Proofs.Ythdoilfjcgickaa.Dt
def pcol (M : Mat) (i : Nat) (col : List Int) (r : Nat) : Mat := fun a d => if d = i ∧ a < r then col.getD a 0 else M a d
theorem pcol_zero (M : Mat) (i : Nat) (col : List Int) (a d : Nat) : pcol M i col 0 a d = M a d := by unfold pcol; rw [if_neg (by omega)]
theorem pcol_next (M : Mat) (i : Nat) (col : List Int) (r a d : Nat) : mset (pcol M i col r) r i (col.getD r 0) a d = pcol M i col (r + 1) a d := by
 unfold mset pcol
 by_cases e : a = r ∧ d = i
 ·obtain ⟨rfl, rfl⟩ := e
  rw [if_pos ⟨rfl, rfl⟩, if_pos ⟨rfl, by omega⟩]
 ·rw [if_neg e]
  by_cases q : d = i ∧ a < r
  ·rw [if_pos q, if_pos (by omega)]
  ·rw [if_neg q, if_neg (by omega)]
def okB (n : Nat) (b : Nat → Nat) (k : Nat) : Prop := ∃ j, j < n ∧ k = b j
theorem putO {w0 w : World} {g n : Nat} {b cp : Nat → Nat} {M : Mat} (i : Nat) (hi : i < n) (cap : Nat) (A : Option Addr) (c : Nat) (col : List Int) (hO : Own w0 w g n b cp M) (hn : n ≤ 1000) (hc : n ≤ col.length)
  (hcol : ∀ W, Kept w W (okB n b) → Below w0.heap.size w0 W → Kd.C (Kd.int .i64) W A col.length col) :
  Calls Try.prog 144 #[.slice (some ⟨g, 0, none⟩) n cap, .int .i64 (i : Int), .slice A col.length c] w fun e w' => e = .returned (.tuple #[]) ∧ Own w0 w' g n b cp (pcol M i col n) ∧ Kept w w' (okB n b) := by
 have HO := Aside0.mk hO
 have HI := Aside0.mk hi
 have HN := Aside0.mk hn
 have HC := Aside0.mk hc
 have HCOL := Aside0.mk hcol
 clear hO hi hn hc hcol
 go_enter Try.func144, Try.ntmps144
 go_wp2
 go_loopg [6, 7, 10] n (fun gg v6 v7 v10 wr => ∃ r : Nat, r ≤ n ∧ n - r ≤ gg ∧ v10 = .int .i64 (r : Int) ∧ Aside0 (Own w0 wr g n b cp (pcol M i col r)) ∧ Aside0 (Kept w wr (okB n b)))
 case atStart => exact ⟨0, Nat.zero_le _, by omega, rfl, ⟨HO.out.congr (fun a d _ _ => (pcol_zero M i col a d).symm)⟩, ⟨Kept.refl _ _⟩⟩
 case round =>
  clear HO
  obtain ⟨r, hr, hg, rfl, RO, RK⟩ := hrel
  by_cases hlt : r < n
  ·have hltz : (r : Int) < (n : Int) := by omega
   have h0z : (0 : Int) ≤ (r : Int) := by omega
   have hiz : (i : Int) < (n : Int) := by have := HI.out; omega
   have h0i : (0 : Int) ≤ (i : Int) := by omega
   have hcell := (RO.out.og r hlt).1
   have hold := (RO.out.ob r i hlt HI.out).1
   have hfr := (RO.out.ob r i hlt HI.out).2
   have hcz : (r : Int) < (col.length : Int) := by have := HC.out; omega
   obtain ⟨adc, eA, hcc⟩ := Kd.at_int (HCOL.out wr RK.out RO.out.below) (r : Int) (by omega) (by omega)
   subst eA
   rw [Int.toNat_natCast, rd_nat] at hcc
   have hw : IntKind.i64.wrap ((r : Int) + 1) = ((r + 1 : Nat) : Int) := by rw [IntWalk.i64_in _ (by have := HN.out; omega)]; rfl
   have HW := Aside0.mk hw
   have HLT := Aside0.mk hlt
   have HG := Aside0.mk hg
   clear hlt hr hg
   go_wp2
   go_roundg (n - (r + 1))
   case measure => have := HG.out; have := HLT.out; omega
   case rel =>
    have hput := (RO.out.put HLT.out HI.out (col.getD r 0)).congr (M' := pcol M i col (r + 1)) (fun a d _ _ => pcol_next M i col r a d)
    exact ⟨r + 1, by have := HLT.out; omega, by omega, by first | rfl | (rw [HW.out]) | (simp [HW.out]), ⟨hput⟩, ⟨RK.out.then_ ((Kept.refl _ _).setCell (.inl ⟨r, HLT.out, rfl⟩) _) (fun k hk => .inl hk)⟩⟩
  ·have hltz : ¬ (r : Int) < (n : Int) := by omega
   obtain rfl : r = n := by omega
   go_wp2
   go_end0
   exact ⟨rfl, RO.out, RK.out⟩
end Go.Proofs.Ythdoilfjcgickaa.Hd
end
section
namespace Go.Proofs.Ythdoilfjcgickaa.Pr
open Go.RowKit Go.Proofs.YthdoilfjcgickaaW.PrintWords Go.Proofs.YthdoilfjcgickaaW.PrintLast Go.Proofs.YthdoilfjcgickaaW.PrintMore
attribute [local go_sem] max2_int min2_int max_two min_two max_three min_three max_four min_four
def impl_Problem_column.l0 : Nat → Int → Bool → List Int → List (List Int) → Int → Int → Option (List Int)
 | 0, _, _, _, _, _, _ => none
 | k + 1, x1, x2, x7, x15, x16, x17 => if x17 < x16 then (if 0 ≤ x17 then (if x17 < (x15.length : Int) then (if x2 = true then (if 0 ≤ x1 then (if x1 < ((rd_L1 x15 x17).length : Int) then (if x17 < (x7.length : Int) then (impl_Problem_column.l0 k x1 x2 (x7.set (x17 : Int).toNat (wrap64 (-(rd (rd_L1 x15 x17) x1)))) x15 x16 (wrap64 (x17 + 1))) else (none)) else (none)) else (none)) else (impl_Problem_column.l0 k x1 x2 x7 x15 x16 (wrap64 (x17 + 1)))) else (none)) else (none)) else (if x2 = true then (some x7) else (if 0 ≤ x1 then (if x1 < (x7.length : Int) then (some (x7.set (x1 : Int).toNat 1)) else (none)) else (none)))
def impl_Problem_column.f (k : Nat) (l0_0 : List (List Int)) (l0_1 : List Int) (a1 : Int) (a2 : Bool) : Option (List Int) := if 0 ≤ (l0_1.length : Int) then (if ((l0_1.length : Int) : Int).toNat ≤ 35184372088832 then (impl_Problem_column.l0 k a1 a2 (List.replicate ((l0_1.length : Int) : Int).toNat 0) l0_0 (l0_0.length : Int) 0) else (none)) else (none)
theorem impl_Problem_column.mono_l : ∀ k, (∀ y0 y1 y2 y3 y4 y5, LeO (impl_Problem_column.l0 k y0 y1 y2 y3 y4 y5) (impl_Problem_column.l0 (k + 1) y0 y1 y2 y3 y4 y5))
 | 0 => fun _ _ _ _ _ _ r h => by simp [impl_Problem_column.l0] at h
 | k + 1 => by
  have ih0 := impl_Problem_column.mono_l k
  ·intro y0 y1 y2 y3 y4 y5
   unfold impl_Problem_column.l0
   repeat' first
   | (with_reducible exact ih0 _ _ _ _ _ _)
   | (with_reducible exact LeO.refl _)
   | (with_reducible exact LeO.none _)
   | (with_reducible refine LeO.ite ?_ ?_)
   | (with_reducible refine LeO.bind ?_ (fun _ => ?_))
   | exact ih0 _ _ _ _ _ _
   | exact LeO.none _
   | refine LeO.ite ?_ ?_
   | refine LeO.bind ?_ (fun _ => ?_)
theorem impl_Problem_column.mono : ∀ a0 a1 a2 a3 k, LeO (impl_Problem_column.f k a0 a1 a2 a3) (impl_Problem_column.f (k + 1) a0 a1 a2 a3) := by
 intro a0 a1 a2 a3 k
 have ih0 := impl_Problem_column.mono_l k
 unfold impl_Problem_column.f
 repeat' first
   | (with_reducible exact ih0 _ _ _ _ _ _)
   | (with_reducible exact LeO.refl _)
   | (with_reducible exact LeO.none _)
   | (with_reducible refine LeO.ite ?_ ?_)
   | (with_reducible refine LeO.bind ?_ (fun _ => ?_))
   | exact ih0 _ _ _ _ _ _
   | exact LeO.none _
   | refine LeO.ite ?_ ?_
   | refine LeO.bind ?_ (fun _ => ?_)
theorem impl_Problem_column.calls (k : Nat) (A0_0 : Option Addr) (c0_0 : Nat) (l0_0 : List (List Int)) (A0_1 : Option Addr) (c0_1 : Nat) (l0_1 : List Int) (a1 : Int) (a2 : Bool) (r : List Int) (w : World) (hr0_0 : Kd.C (Kd.slice 2 (Kd.int .i64)) w A0_0 l0_0.length l0_0) (hc0_0 : l0_0.length ≤ c0_0) (hr0_1 : Kd.C (Kd.int .i64) w A0_1 l0_1.length l0_1) (hc0_1 : l0_1.length ≤ c0_1) (h : impl_Problem_column.f k l0_0 l0_1 a1 a2 = some r) :
  Calls Try.prog 135 #[.agg #[.slice A0_0 l0_0.length c0_0, .slice A0_1 l0_1.length c0_1], .int .i64 a1, .bool a2] w fun e w' => ∃ v0_ : Value, e = .returned (v0_) ∧ Kd.R (Kd.int .i64) 2 w' w.heap.size (fun _ => True) v0_ r ∧ Below w.heap.size w w' := by
 have hu29 := Try.underlying29
 have HR0_0 := Aside0.mk hr0_0
 have HC0_0 := Aside0.mk hc0_0
 clear hr0_0 hc0_0
 have HR0_1 := Aside0.mk hr0_1
 have HC0_1 := Aside0.mk hc0_1
 clear hr0_1 hc0_1
 have HB := Aside0.mk (Below.refl w.heap.size w)
 have H : (if 0 ≤ (l0_1.length : Int) then (if ((l0_1.length : Int) : Int).toNat ≤ 35184372088832 then (impl_Problem_column.l0 k a1 a2 (List.replicate ((l0_1.length : Int) : Int).toNat 0) l0_0 (l0_0.length : Int) 0) else (none)) else (none)) = some r := h
 clear h
 by_cases c4 : 0 ≤ (l0_1.length : Int)
 ·rw [if_pos c4] at H
  have c4b0 := eq_true c4
  have c4b1 : decide (0 ≤ (l0_1.length : Int)) = true := decide_eq_true c4
  clear c4
  by_cases c5 : ((l0_1.length : Int) : Int).toNat ≤ 35184372088832
  ·rw [if_pos c5] at H
   have c5b0 := eq_true c5
   have c5b1 : decide (((l0_1.length : Int) : Int).toNat ≤ 35184372088832) = true := decide_eq_true c5
   clear c5
   obtain ⟨y338, hy338⟩ : ∃ y_ : List Int, y_ = (List.replicate ((l0_1.length : Int) : Int).toNat 0) := ⟨_, rfl⟩
   replace H : (impl_Problem_column.l0 k a1 a2 y338 l0_0 (l0_0.length : Int) 0) = some r := by first | (rw [hy338]; with_reducible exact H) | (have H2_ := (Option.bind_some _ _).symm.trans H; rw [hy338]; with_reducible exact H2_) | (have H2_ := (Option.bind_some _ _).symm.trans H; with_reducible exact H2_) | with_reducible exact H | (rw [hy338]; exact H) | exact H
   have Ny338 := Aside0.mk hy338
   clear hy338
   have H' := Aside0.mk H
   clear H
   go_enter Try.func135, Try.ntmps135
   go_wp2_with (first | ((with_reducible refine gate_dst (N := 3) rfl ?_); refine box_event ?hg (N := 3) ?hd (cs := #[.slice A0_0 l0_0.length c0_0, .slice A0_1 l0_1.length c0_1]) (t := 29) ?hr ?_; (case hd => rfl); (case hg => rfl); (case hr => first | (go_simp; done) | (go_simp; rfl)); intro gb337 hg w6 hbox hb; have n0_ := Aside0.mk (bs_ hb); have n1_ := Aside0.mk (hbox); have n2_ := Aside0.mk ((by rw [hg]; exact bz_ : w.heap.size ≤ gb337)); have n3_ := Aside0.mk ((by rw [hg]; exact bz_ : w.heap.size ≤ gb337)); clear HB; have HB := n0_; have BK337 := n1_; have GW337 := n2_; have GE337 := n3_; clear n0_ n1_ n2_ n3_; clear hb hbox hg; have hcz7_0 : w6.cell? ⟨gb337, 0, none⟩ = some (.slice A0_0 l0_0.length c0_0) := (blk_cell BK337.out 0).trans rfl; have hcz7_1 : w6.cell? ⟨gb337, 1, none⟩ = some (.slice A0_1 l0_1.length c0_1) := (blk_cell BK337.out 1).trans rfl; have hfz7_0 := blk_frozen BK337.out 0; have hfz7_1 := blk_frozen BK337.out 1) | ((with_reducible refine gate_dst (N := 13) rfl ?_); refine Kd.R_make (Kd.int .i64) _ 2 rfl (N := 13) rfl 23 _ _ rfl (l0_1.length : Int) rfl rfl Try.underlying23 (.int .i64 0) 8 info2 rfl (by decide) (by omega) 0 (ok := fun _ => True) (okp := fun _ => True) rfl (fun _ hk => hk) trivial (of_decide_eq_true (by first | (with_reducible assumption) | assumption)) (Nat.le_trans (Nat.mul_le_mul_right _ (of_decide_eq_true (by first | (with_reducible assumption) | assumption) : (l0_1.length : Int).toNat ≤ 35184372088832)) (by omega)) (Below.refl _ _) (Nat.le_refl _) ?_; intro v339 w8 ho9 hb hg_ hnew_; clear hg_ hnew_; (first | rw [← Ny338.out] at ho9 | (simp only [Int.reduceToNat] at ho9; rw [← Ny338.out] at ho9)); have n0_ := Aside0.mk (Kd.R_lower ho9 bz_); have n1_ := Aside0.mk (bb_ BK337.out hb); have n2_ := Aside0.mk (bs_ hb); clear BK337; clear HB; have HO340 := n0_; have BK337 := n1_; have HB := n2_; clear n0_ n1_ n2_; clear hb ho9; have hcz10_0 : w8.cell? ⟨gb337, 0, none⟩ = some (.slice A0_0 l0_0.length c0_0) := (blk_cell BK337.out 0).trans rfl; have hcz10_1 : w8.cell? ⟨gb337, 1, none⟩ = some (.slice A0_1 l0_1.length c0_1) := (blk_cell BK337.out 1).trans rfl; have hfz10_0 := blk_frozen BK337.out 0; have hfz10_1 := blk_frozen BK337.out 1))
   go_loopg [17] k (fun kq v17 w' => ∃ (x7_1 : List Int) (x17_1 : Int), v17 = .int .i64 x17_1 ∧ Aside0 (impl_Problem_column.l0 kq a1 a2 x7_1 l0_0 (l0_0.length : Int) x17_1 = some r) ∧ Aside0 (kq ≤ k) ∧ Aside0 (Kd.R (Kd.int .i64) 2 w' w.heap.size (fun _ => True) v339 x7_1) ∧ Aside0 (w'.heap[gb337]? = some (.cells #[(.slice A0_0 l0_0.length c0_0), (.slice A0_1 l0_1.length c0_1)] 29 (0, 0))) ∧ Aside0 (Below w.heap.size w w'))
   case atStart => exact ⟨(y338), (0), (by first | rfl | (simp; done) | (simp [*]; done)), H', ⟨Nat.le_refl _⟩, ⟨ro_ HO340.out⟩, ⟨bk_⟩, ⟨hb_⟩⟩
   case round =>
    clear H'
    try clear c1
    try clear p2
    try clear c4
    try clear c4b0
    try clear c4b1
    try clear c5
    try clear c5b0
    try clear c5b1
    try clear hcz10_0
    try clear hcz10_1
    try clear hcz7_0
    try clear hcz7_1
    try clear hfz10_0
    try clear hfz10_1
    try clear hfz7_0
    try clear hfz7_1
    obtain ⟨x7_1, x17_1, rfl, HA, HK1, HO_7, BK337, HB⟩ := hrel
    cases gk with
    | zero => exact absurd HA.out (by simp [impl_Problem_column.l0])
    | succ k1 =>
     have H := HA.out
     clear HA
     simp only [impl_Problem_column.l0] at H
     by_cases c11 : x17_1 < (l0_0.length : Int)
     ·rw [if_pos c11] at H
      have c11b0 : decide (x17_1 < (l0_0.length : Int)) = true := decide_eq_true c11
      clear c11
      by_cases c12 : 0 ≤ x17_1
      ·rw [if_pos c12] at H
       have c12b0 : decide (0 ≤ x17_1) = true := decide_eq_true c12
       clear c12
       by_cases c13 : x17_1 < (l0_0.length : Int)
       ·rw [if_pos c13] at H
        have c13b0 : decide (x17_1 < (l0_0.length : Int)) = true := decide_eq_true c13
        clear c13
        by_cases c14 : a2 = true
        ·subst c14
         have H1 : (if 0 ≤ a1 then (if a1 < ((rd_L1 l0_0 x17_1).length : Int) then (if x17_1 < (x7_1.length : Int) then (impl_Problem_column.l0 k1 a1 true (x7_1.set (x17_1 : Int).toNat (wrap64 (-(rd (rd_L1 l0_0 x17_1) a1)))) l0_0 (l0_0.length : Int) (wrap64 (x17_1 + 1))) else (none)) else (none)) else (none)) = some r := by rw [if_pos rfl] at H; exact H
         clear H
         have H := H1
         clear H1
         by_cases c15 : 0 ≤ a1
         ·rw [if_pos c15] at H
          have c15b0 : decide (0 ≤ a1) = true := decide_eq_true c15
          clear c15
          by_cases c16 : a1 < ((rd_L1 l0_0 x17_1).length : Int)
          ·rw [if_pos c16] at H
           have c16b0 : decide (a1 < ((rd_L1 l0_0 x17_1).length : Int)) = true := decide_eq_true c16
           clear c16
           by_cases c17 : x17_1 < (x7_1.length : Int)
           ·rw [if_pos c17] at H
            have c17b0 : decide (x17_1 < (x7_1.length : Int)) = true := decide_eq_true c17
            clear c17
            obtain ⟨y343, hy343⟩ : ∃ y_ : List Int, y_ = (x7_1.set (x17_1 : Int).toNat (wrap64 (-(rd (rd_L1 l0_0 x17_1) a1)))) := ⟨_, rfl⟩
            replace H : (impl_Problem_column.l0 k1 a1 true y343 l0_0 (l0_0.length : Int) (wrap64 (x17_1 + 1))) = some r := by first | (rw [hy343]; with_reducible exact H) | (have H2_ := (Option.bind_some _ _).symm.trans H; rw [hy343]; with_reducible exact H2_) | (have H2_ := (Option.bind_some _ _).symm.trans H; with_reducible exact H2_) | with_reducible exact H | (rw [hy343]; exact H) | exact H
            have Ny343 := Aside0.mk hy343
            clear hy343
            have H' := Aside0.mk H
            clear H
            have p341 : 0 ≤ (x17_1 : Int) := of_decide_eq_true (by first | (with_reducible assumption) | assumption)
            have q341 : x17_1 < (l0_0.length : Int) := of_decide_eq_true (by first | (with_reducible assumption) | assumption)
            obtain ⟨ad341, A341_0, c341_0, e341, hx341_0, hl341_0, hi341_0⟩ := at_L1 HR0_0.out x17_1 p341 q341
            cases e341
            replace hx341_0 := (HB.out.cell (World.block_lt_of_cell? w _ hx341_0)).trans hx341_0
            have HR341_0 := Aside0.mk hi341_0
            have HC341_0 := Aside0.mk hl341_0
            clear hi341_0 hl341_0
            replace p341 := eq_true p341
            replace q341 := eq_true q341
            have p342 : 0 ≤ (a1 : Int) := of_decide_eq_true (by first | (with_reducible assumption) | assumption)
            have q342 : a1 < ((rd_L1 l0_0 x17_1).length : Int) := of_decide_eq_true (by first | (with_reducible assumption) | assumption)
            obtain ⟨ad342, e342, hx342_0⟩ := Kd.at_int HR341_0.out a1 p342 q342
            cases e342
            replace hx342_0 := (HB.out.cell (World.block_lt_of_cell? w _ hx342_0)).trans hx342_0
            replace p342 := eq_true p342
            replace q342 := eq_true q342
            have p18 : 0 ≤ (x17_1 : Int) := of_decide_eq_true (by first | (with_reducible assumption) | assumption)
            have q18 : (x17_1 : Int) < ((x7_1.length : Int) : Int) := of_decide_eq_true (by first | (with_reducible assumption) | assumption)
            obtain ⟨go18, co18, eo18, gb18, gl18, cl18, HG18⟩ := Kd.R_form HO_7.out (by omega)
            (first | cases eo18 | (injection eo18 with ea_ en_ ec_; (first | subst ea_ | (injection ea_ with ea_; subst ea_)); subst ec_; clear en_))
            have GB18 := Aside0.mk gb18
            have GG18 := Aside0.mk HG18
            clear gb18 gl18 HG18
            obtain ⟨hx18_0, hf18_0⟩ := Kd.R_celln 0 HO_7.out (x17_1 : Int) p18 q18
            replace p18 := eq_true p18
            replace q18 := eq_true q18
            have HP19 := Kd.R_putg HO_7.out (x17_1 : Int) (wrap64 (-(rd (rd_L1 l0_0 x17_1) a1)))
            go_wp2_with (first | ((with_reducible refine gate_store (t := 2) (p := 30) rfl ?_); refine store_event (t := 2) (p := 30) (v := ?vo_w20) (w1 := (wr.setCell ⟨go18, (x17_1 : Int).toNat, none⟩ (.int .i64 (wrap64 (-(rd (rd_L1 l0_0 x17_1) a1)))))) ?hg ?ho ?hn ?hr ?_; (case ho => rfl); (case hg => rfl); (case hn => rfl); (case hr => first | (go_simp; done) | (go_simp; rfl)); intro w20 hw; have hg : wr.grownBy w20 (some go18) := (by rw [hw]; exact HP19.2); have hp_ : Kd.R (Kd.int .i64) 2 w20 w.heap.size (fun _ => True) (.slice (some ⟨go18, 0, none⟩) x7_1.length co18) y343 := (by rw [hw, Ny343.out]; exact HP19.1); clear HP19; have n0_ := Aside0.mk (hp_); have n1_ := Aside0.mk (bg_ BK337.out hg (Kd.R_ne HO_7.out BK337.out (by decide))); have n2_ := Aside0.mk ((by rw [hw]; exact below_set (HB.out) GB18.out : Below w.heap.size w w20)); clear HO_7; clear BK337; clear HB; have HO_7 := n0_; have BK337 := n1_; have HB := n2_; clear n0_ n1_ n2_; clear hg hw hp_))
            go_roundg k1
            case measure => have := HK1.out; omega
            case rel => exact ⟨(y343), (wrap64 (x17_1 + 1)), (by first | rfl | (simp; done) | (simp [*]; done)), H', ⟨by have := HK1.out; omega⟩, ⟨ro_ HO_7.out⟩, ⟨bk_⟩, ⟨hb_⟩⟩
           ·rw [if_neg c17] at H
            exact absurd H (by simp)
          ·rw [if_neg c16] at H
           exact absurd H (by simp)
         ·rw [if_neg c15] at H
          exact absurd H (by simp)
        ·replace c14 := Bool.eq_false_iff.mpr c14
         subst c14
         have H1 : (impl_Problem_column.l0 k1 a1 false x7_1 l0_0 (l0_0.length : Int) (wrap64 (x17_1 + 1))) = some r := by rw [if_neg (show ¬ (false = true) by decide)] at H; exact H
         clear H
         have H := H1
         clear H1
         have H' := Aside0.mk H
         clear H
         have p341 : 0 ≤ (x17_1 : Int) := of_decide_eq_true (by first | (with_reducible assumption) | assumption)
         have q341 : x17_1 < (l0_0.length : Int) := of_decide_eq_true (by first | (with_reducible assumption) | assumption)
         obtain ⟨ad341, A341_0, c341_0, e341, hx341_0, hl341_0, hi341_0⟩ := at_L1 HR0_0.out x17_1 p341 q341
         cases e341
         replace hx341_0 := (HB.out.cell (World.block_lt_of_cell? w _ hx341_0)).trans hx341_0
         have HR341_0 := Aside0.mk hi341_0
         have HC341_0 := Aside0.mk hl341_0
         clear hi341_0 hl341_0
         replace p341 := eq_true p341
         replace q341 := eq_true q341
         go_wp2
         go_roundg k1
         case measure => have := HK1.out; omega
         case rel => exact ⟨(x7_1), (wrap64 (x17_1 + 1)), (by first | rfl | (simp; done) | (simp [*]; done)), H', ⟨by have := HK1.out; omega⟩, ⟨ro_ HO_7.out⟩, ⟨bk_⟩, ⟨hb_⟩⟩
       ·rw [if_neg c13] at H
        exact absurd H (by simp)
      ·rw [if_neg c12] at H
       exact absurd H (by simp)
     ·rw [if_neg c11] at H
      have c11b0 : decide (x17_1 < (l0_0.length : Int)) = false := decide_eq_false c11
      clear c11
      by_cases c21 : a2 = true
      ·subst c21
       have H1 : (some x7_1) = some r := by rw [if_pos rfl] at H; exact H
       clear H
       have H := H1
       clear H1
       obtain rfl := Option.some.inj H
       go_wp2
       go_ret
       exact ⟨_, by first | rfl | (simp [errW_none, errW_some] <;> rfl) | (simp [*, errW_none, errW_some] <;> rfl), ro_ HO_7.out, hb_⟩
      ·replace c21 := Bool.eq_false_iff.mpr c21
       subst c21
       have H1 : (if 0 ≤ a1 then (if a1 < (x7_1.length : Int) then (some (x7_1.set (a1 : Int).toNat 1)) else (none)) else (none)) = some r := by rw [if_neg (show ¬ (false = true) by decide)] at H; exact H
       clear H
       have H := H1
       clear H1
       by_cases c22 : 0 ≤ a1
       ·rw [if_pos c22] at H
        have c22b0 : decide (0 ≤ a1) = true := decide_eq_true c22
        clear c22
        by_cases c23 : a1 < (x7_1.length : Int)
        ·rw [if_pos c23] at H
         have c23b0 : decide (a1 < (x7_1.length : Int)) = true := decide_eq_true c23
         clear c23
         obtain ⟨y344, hy344⟩ : ∃ y_ : List Int, y_ = (x7_1.set (a1 : Int).toNat 1) := ⟨_, rfl⟩
         replace H : (some y344) = some r := by first | (rw [hy344]; with_reducible exact H) | (have H2_ := (Option.bind_some _ _).symm.trans H; rw [hy344]; with_reducible exact H2_) | (have H2_ := (Option.bind_some _ _).symm.trans H; with_reducible exact H2_) | with_reducible exact H | (rw [hy344]; exact H) | exact H
         have Ny344 := Aside0.mk hy344
         clear hy344
         obtain rfl := Option.some.inj H
         have p24 : 0 ≤ (a1 : Int) := of_decide_eq_true (by first | (with_reducible assumption) | assumption)
         have q24 : (a1 : Int) < ((x7_1.length : Int) : Int) := of_decide_eq_true (by first | (with_reducible assumption) | assumption)
         obtain ⟨go24, co24, eo24, gb24, gl24, cl24, HG24⟩ := Kd.R_form HO_7.out (by omega)
         (first | cases eo24 | (injection eo24 with ea_ en_ ec_; (first | subst ea_ | (injection ea_ with ea_; subst ea_)); subst ec_; clear en_))
         have GB24 := Aside0.mk gb24
         have GG24 := Aside0.mk HG24
         clear gb24 gl24 HG24
         obtain ⟨hx24_0, hf24_0⟩ := Kd.R_celln 0 HO_7.out (a1 : Int) p24 q24
         replace p24 := eq_true p24
         replace q24 := eq_true q24
         have HP25 := Kd.R_putg HO_7.out (a1 : Int) 1
         go_wp2_with (first | ((with_reducible refine gate_store (t := 2) (p := 36) rfl ?_); refine store_event (t := 2) (p := 36) (v := ?vo_w26) (w1 := (wr.setCell ⟨go24, (a1 : Int).toNat, none⟩ (.int .i64 1))) ?hg ?ho ?hn ?hr ?_; (case ho => rfl); (case hg => rfl); (case hn => rfl); (case hr => first | (go_simp; done) | (go_simp; rfl)); intro w26 hw; have hg : wr.grownBy w26 (some go24) := (by rw [hw]; exact HP25.2); have hp_ : Kd.R (Kd.int .i64) 2 w26 w.heap.size (fun _ => True) (.slice (some ⟨go24, 0, none⟩) x7_1.length co24) y344 := (by rw [hw, Ny344.out]; exact HP25.1); clear HP25; have n0_ := Aside0.mk (hp_); have n1_ := Aside0.mk (bg_ BK337.out hg (Kd.R_ne HO_7.out BK337.out (by decide))); have n2_ := Aside0.mk ((by rw [hw]; exact below_set (HB.out) GB24.out : Below w.heap.size w w26)); clear HO_7; clear BK337; clear HB; have HO_7 := n0_; have BK337 := n1_; have HB := n2_; clear n0_ n1_ n2_; clear hg hw hp_))
         go_ret
         exact ⟨_, by first | rfl | (simp [errW_none, errW_some] <;> rfl) | (simp [*, errW_none, errW_some] <;> rfl), ro_ HO_7.out, hb_⟩
        ·rw [if_neg c23] at H
         exact absurd H (by simp)
       ·rw [if_neg c22] at H
        exact absurd H (by simp)
  ·rw [if_neg c5] at H
   exact absurd H (by simp)
 ·rw [if_neg c4] at H
  exact absurd H (by simp)
end Go.Proofs.Ythdoilfjcgickaa.Pr
end
section
namespace Go.Proofs.Ythdoilfjcgickaa.Pr
open Go Go.RowKit Go.Proofs.YthdoilfjcgickaaW.PrintWords Go.Proofs.YthdoilfjcgickaaW.PrintLast Go.Proofs.YthdoilfjcgickaaW.PrintMore
theorem run_eql_slice_nil {P : Program} (w : World) (t e : TypeId) (a : Option Addr) (l c : Nat) (h : P.underlying t = some (.slice e)) : (binOp .eql t (.slice a l c) (.slice none 0 0)).run P w = .ok (.bool a.isNone) w := by
 simp only [binOp]
 simp [run_equal_slice_nil w t e a l c h]
def slices_Clone.f (l0 : List Int) : Option (List Int) := if l0.length ≤ 1099511627776 then some l0 else none
theorem slices_Clone.calls (A0 : Option Addr) (c0 : Nat) (l0 : List Int) (r : List Int) (w : World) (hr0 : Kd.C (Kd.int .i64) w A0 l0.length l0) (hc0 : l0.length ≤ c0) (h : slices_Clone.f l0 = some r) :
  Calls Try.prog 156 #[.slice A0 l0.length c0] w fun e w' => ∃ v0_ : Value, e = .returned (v0_) ∧ Kd.R (Kd.int .i64) 2 w' w.heap.size (fun _ => True) v0_ r ∧ Below w.heap.size w w' := by
 unfold slices_Clone.f at h
 split at h
 case isFalse => cases h
 rename_i hl
 cases h
 have hu := Try.underlying23
 have HR := Aside0.mk hr0
 have HL := Aside0.mk hl
 clear hc0 hl
 cases A0 with
 | none =>
  have h0 : l0 = [] := by
   cases l0 with
   | nil => rfl
   | cons a t => obtain ⟨ad, e, _⟩ := Kd.at_int hr0 0 (by simp) (by simp); cases e
  subst h0
  clear hr0 HR
  have he := run_eql_slice_nil (P := Try.prog) w 23 2 none 0 c0 hu
  go_enter Try.func156, Try.ntmps156
  go_wp2
  go_ret
  exact ⟨_, rfl, Kd.R_nil _ _ _ _ _, Below.refl _ _⟩
 | some ad =>
  clear hr0
  have he := run_eql_slice_nil (P := Try.prog) w 23 2 (some ad) l0.length c0 hu
  go_enter Try.func156, Try.ntmps156
  go_wp2_with (first | ((with_reducible refine gate_dst (N := 5) rfl ?_); refine Kd.R_lit (Kd.int .i64) _ 2 ?hg (N := 5) ?hd (xs := ([] : List Int)) (inner := []) (ok := fun _ => True) (okp := fun _ => True) ?hr ?hp (fun _ hk => hk) trivial (Below.refl _ _) (Nat.le_refl _) (by simp) ?_; (case hd => rfl); (case hg => rfl); (case hr => first | (go_simp; done) | (go_simp; rfl)); (case hp => exact (Reps.none _ _)); intro v1 w1 ho hb hg_ hat_; clear hg_ hat_; have HO := Aside0.mk ho; have HB := Aside0.mk hb; clear ho hb) | ((with_reducible refine gate_dst (N := 7) rfl ?_); (refine Kd.R_append_row (Value.int .i64) 0 (w0 := w) w.heap.size rfl (.tmp 5) (.tmp 6) 23 2 (.int .i64 0) 8 rfl Try.underlying23 info2 rfl (by decide) v1 [] l0 (some ad) l0.length c0 (fun _ => True) (by rfl) (by rfl) (fun _ _ => trivial) HO.out (Kd.C_below HR.out HB.out) HB.out HB.out.size (by have := HL.out; simp; omega) ?_; intro v2 w2 ho hb hg_ hat_; clear hg_ hat_; have HO2 := Aside0.mk ho; have HB2 := Aside0.mk hb; clear ho hb)))
  go_ret
  exact ⟨_, rfl, HO2.out, HB2.out⟩
end Go.Proofs.Ythdoilfjcgickaa.Pr
end
section
namespace Go.Proofs.Ythdoilfjcgickaa.Pr
open Go.RowKit Go.Proofs.YthdoilfjcgickaaW.PrintWords Go.Proofs.YthdoilfjcgickaaW.PrintLast Go.Proofs.YthdoilfjcgickaaW.PrintMore
attribute [local go_sem] max2_int min2_int max_two min_two max_three min_three max_four min_four
def impl_copyRows.l0 : Nat → List (List Int) → List (List Int) → Int → Int → Option ((List (List Int)))
 | 0, _, _, _, _ => none
 | k + 1, x3, x6, x7, x8 => if x8 < x7 then (if 0 ≤ x8 then (if x8 < (x6.length : Int) then ((slices_Clone.f (rd_L1 x6 x8)).bind fun t331 => (if x3.length < 5864062014805 then (impl_copyRows.l0 k (x3 ++ [t331]) x6 x7 (wrap64 (x8 + 1))) else (none))) else (none)) else (none)) else (some x3)
def impl_copyRows.f (k : Nat) (l0 : List (List Int)) : Option ((List (List Int))) := impl_copyRows.l0 k ([] : List (List Int)) l0 (l0.length : Int) 0
theorem impl_copyRows.mono_l : ∀ k, (∀ y0 y1 y2 y3, LeO (impl_copyRows.l0 k y0 y1 y2 y3) (impl_copyRows.l0 (k + 1) y0 y1 y2 y3))
 | 0 => fun _ _ _ _ r h => by simp [impl_copyRows.l0] at h
 | k + 1 => by
  have ih0 := impl_copyRows.mono_l k
  ·intro y0 y1 y2 y3
   unfold impl_copyRows.l0
   repeat' first
   | (with_reducible exact ih0 _ _ _ _)
   | (with_reducible exact LeO.refl _)
   | (with_reducible exact LeO.none _)
   | (with_reducible refine LeO.ite ?_ ?_)
   | (with_reducible refine LeO.bind ?_ (fun _ => ?_))
   | exact ih0 _ _ _ _
   | exact LeO.none _
   | refine LeO.ite ?_ ?_
   | refine LeO.bind ?_ (fun _ => ?_)
theorem impl_copyRows.mono : ∀ a0 k, LeO (impl_copyRows.f k a0) (impl_copyRows.f (k + 1) a0) := by
 intro a0 k
 have ih0 := impl_copyRows.mono_l k
 unfold impl_copyRows.f
 repeat' first
   | (with_reducible exact ih0 _ _ _ _)
   | (with_reducible exact LeO.refl _)
   | (with_reducible exact LeO.none _)
   | (with_reducible refine LeO.ite ?_ ?_)
   | (with_reducible refine LeO.bind ?_ (fun _ => ?_))
   | exact ih0 _ _ _ _
   | exact LeO.none _
   | refine LeO.ite ?_ ?_
   | refine LeO.bind ?_ (fun _ => ?_)
theorem impl_copyRows.calls (k : Nat) (A0 : Option Addr) (c0 : Nat) (l0 : List (List Int)) (r : List (List Int)) (w : World) (hr0 : Kd.C (Kd.slice 2 (Kd.int .i64)) w A0 l0.length l0) (hc0 : l0.length ≤ c0) (h : impl_copyRows.f k l0 = some r) :
  Calls Try.prog 134 #[.slice A0 l0.length c0] w fun e w' => ∃ v0_ : Value, e = .returned (v0_) ∧ Kd.S (Kd.slice 2 (Kd.int .i64)) 23 w' w.heap.size (fun _ => True) v0_ r ∧ Below w.heap.size w w' := by
 have HR0 := Aside0.mk hr0
 have HC0 := Aside0.mk hc0
 clear hr0 hc0
 have HB := Aside0.mk (Below.refl w.heap.size w)
 have H : (impl_copyRows.l0 k ([] : List (List Int)) l0 (l0.length : Int) 0) = some r := h
 clear h
 have H' := Aside0.mk H
 clear H
 go_enter Try.func134, Try.ntmps134
 go_wp2
 go_loopg [3, 8] k (fun kq v3 v8 w' => ∃ (x3_1 : List (List Int)) (x8_1 : Int), v8 = .int .i64 x8_1 ∧ Aside0 (impl_copyRows.l0 kq x3_1 l0 (l0.length : Int) x8_1 = some r) ∧ Aside0 (kq ≤ k) ∧ Aside0 (Kd.S (Kd.slice 2 (Kd.int .i64)) 23 w' w.heap.size (fun _ => True) v3 x3_1) ∧ Aside0 (Below w.heap.size w w'))
 case atStart => exact ⟨(([] : List (List Int))), (0), (by first | rfl | (simp; done) | (simp [*]; done)), H', ⟨Nat.le_refl _⟩, ⟨by first | exact Kd.S_nil _ _ _ _ _ | exact Kd.N_nil _ _ _ _ _ | exact Kd.V_nil _ _ _ _ _ | exact Kd.Q_nil _ _ _ _ _ | exact Kd.R_nil _ _ _ _ _⟩, ⟨hb_⟩⟩
 case round =>
  clear H'
  try clear c1
  obtain ⟨x3_1, x8_1, rfl, HA, HK1, HO_3, HB⟩ := hrel
  cases gk with
  | zero => exact absurd HA.out (by simp [impl_copyRows.l0])
  | succ k1 =>
   have H := HA.out
   clear HA
   simp only [impl_copyRows.l0] at H
   by_cases c2 : x8_1 < (l0.length : Int)
   ·rw [if_pos c2] at H
    have c2b0 : decide (x8_1 < (l0.length : Int)) = true := decide_eq_true c2
    clear c2
    by_cases c3 : 0 ≤ x8_1
    ·rw [if_pos c3] at H
     have c3b0 : decide (0 ≤ x8_1) = true := decide_eq_true c3
     clear c3
     by_cases c4 : x8_1 < (l0.length : Int)
     ·rw [if_pos c4] at H
      have c4b0 : decide (x8_1 < (l0.length : Int)) = true := decide_eq_true c4
      clear c4
      replace H := Option.bind_eq_some_iff.mp H
      obtain ⟨t331, A50, H⟩ := H
      replace H : (if x3_1.length < 5864062014805 then (impl_copyRows.l0 k1 (x3_1 ++ [t331]) l0 (l0.length : Int) (wrap64 (x8_1 + 1))) else (none)) = some r := H
      have A5 := Aside0.mk A50
      clear A50
      by_cases c6 : x3_1.length < 5864062014805
      ·rw [if_pos c6] at H
       have LMc6 := Aside0.mk c6
       clear c6
       obtain ⟨y334, hy334⟩ : ∃ y_ : List (List Int), y_ = (x3_1 ++ [t331]) := ⟨_, rfl⟩
       replace H : (impl_copyRows.l0 k1 y334 l0 (l0.length : Int) (wrap64 (x8_1 + 1))) = some r := by first | (rw [hy334]; with_reducible exact H) | (have H2_ := (Option.bind_some _ _).symm.trans H; rw [hy334]; with_reducible exact H2_) | (have H2_ := (Option.bind_some _ _).symm.trans H; with_reducible exact H2_) | with_reducible exact H | (rw [hy334]; exact H) | exact H
       have Ny334 := Aside0.mk hy334
       clear hy334
       have H' := Aside0.mk H
       clear H
       have p330 : 0 ≤ (x8_1 : Int) := of_decide_eq_true (by first | (with_reducible assumption) | assumption)
       have q330 : x8_1 < (l0.length : Int) := of_decide_eq_true (by first | (with_reducible assumption) | assumption)
       obtain ⟨ad330, A330_0, c330_0, e330, hx330_0, hl330_0, hi330_0⟩ := at_L1 HR0.out x8_1 p330 q330
       cases e330
       replace hx330_0 := (HB.out.cell (World.block_lt_of_cell? w _ hx330_0)).trans hx330_0
       have HR330_0 := Aside0.mk hi330_0
       have HC330_0 := Aside0.mk hl330_0
       clear hi330_0 hl330_0
       replace p330 := eq_true p330
       replace q330 := eq_true q330
       go_wp2_with (first | ((with_reducible refine gate_callee (f := 156) rfl ?_); refine goesL_ (some 14) rfl rfl Try.func156 (by kernel_rfl) rfl #[.slice A330_0 (rd_L1 l0 x8_1).length c330_0] rfl (by (try simp only [List.map_toArray, List.map_cons, List.map_nil]); first | done | rfl | (simp only [List.length_drop, List.length_take]; rfl)) ?_; (with_reducible refine (slices_Clone.calls _ _ (rd_L1 l0 x8_1) t331 _ ?side1 ?side2 A5.out).mono ?_); (case side1 => exact cb_ HR330_0.out HB.out); (case side2 => exact HC330_0.out); rintro e w7 ⟨v332, rfl, ho0, hb⟩; refine ⟨_, rfl, ?_⟩; have n0_ := Aside0.mk (Kd.S_elder' (so_ HO_3.out) (Kd.R_base ho0) hb); have n1_ := Aside0.mk (Kd.R_lower ho0 bz_); have n2_ := Aside0.mk (bs_ hb); clear HO_3; clear HB; have HO_3 := n0_; have HO333 := n1_; have HB := n2_; clear n0_ n1_ n2_; (try clear hb); (try clear hb2); (try clear hk); (try clear hi); (try clear ho0); obtain ⟨Ao9, co9, eo9⟩ := Kd.R_slice HO333.out; subst eo9) | ((with_reducible refine gate_builtin (b := .append) (xs := #[.tmp 12, .tmp 15]) rfl ?_); at_builtin; refine Kd.S_append (Kd.slice 2 (Kd.int .i64)) (w0 := w) w.heap.size rfl (.tmp 12) (.tmp 15) 22 23 (.slice none 0 0) 24 rfl Try.underlying22 info23 rfl (by decide) (by omega) u3 x3_1 t331 [.slice Ao9 t331.length co9] (fun _ => True) (fun k_ => some k_ = (.slice Ao9 t331.length co9 : Value).ownBlock) rfl rfl ?aP (fun k_ hk_ => ((Kd.R_mono (ok' := fun k_ => ((fun _ => True)) k_ ∧ some k_ ≠ (u3 : Value).ownBlock) (Kd.R_apart' (HO333.out) (Kd.S_typed HO_3.out) (by decide)) (fun k_ hk => ⟨trivial, hk.2⟩))).1 k_ hk_.symm) ?aF ?aO ?aB ?aS ?aL ?_; (case aP => exact Kd.M_row (Kd.R_mono (Kd.R_tight rfl (Kd.R_mono (ok' := fun k_ => ((fun _ => True)) k_ ∧ some k_ ≠ (u3 : Value).ownBlock) (Kd.R_apart' (HO333.out) (Kd.S_typed HO_3.out) (by decide)) (fun k_ hk => ⟨trivial, hk.2⟩))) (fun _ h_ => h_))); (case aB => exact hb_); (case aF => exact (fun _ _ => trivial)); (case aO => exact (by (with_reducible repeat (first | apply Kd.S_alloc | apply Kd.S_drewN | apply Kd.S_drew)); exact Kd.S_mono HO_3.out (fun k_ hk => ⟨trivial, fun e_ => hk.2 e_⟩))); (case aS => exact bz_); (case aL => have := LMc6.out; omega); intro v335 w8 ho hb hg hat; rw [← Ny334.out] at ho; have n0_ := Aside0.mk (hb); have n1_ := Aside0.mk (ho); clear HB; clear HO_3; clear HO333; have HB := n0_; have HO336 := n1_; clear n0_ n1_; clear ho hb hg hat))
       go_roundg k1
       case measure => have := HK1.out; omega
       case rel => exact ⟨(y334), (wrap64 (x8_1 + 1)), (by first | rfl | (simp; done) | (simp [*]; done)), H', ⟨by have := HK1.out; omega⟩, ⟨so_ HO336.out⟩, ⟨hb_⟩⟩
      ·rw [if_neg c6] at H
       exact absurd H (by simp)
     ·rw [if_neg c4] at H
      exact absurd H (by simp)
    ·rw [if_neg c3] at H
     exact absurd H (by simp)
   ·rw [if_neg c2] at H
    have c2b0 : decide (x8_1 < (l0.length : Int)) = false := decide_eq_false c2
    clear c2
    obtain rfl := Option.some.inj H
    go_wp2
    go_ret
    exact ⟨_, by first | rfl | (simp [errW_none, errW_some] <;> rfl) | (simp [*, errW_none, errW_some] <;> rfl), so_ HO_3.out, hb_⟩
def impl_has.f (a0 : Int) (a1 : Int) : Option (Bool) := if 0 ≤ a1 then (some ((Go.bits .and .i64 (shr .i64 a0 a1) 1) == 1)) else (none)
theorem impl_has.calls (a0 : Int) (a1 : Int) (r : Bool) (w : World) (h : impl_has.f a0 a1 = some r) :
  Calls Try.prog 109 #[.int .i64 a0, .int .i64 a1] w fun e w' => e = .returned (.bool r) ∧ Drawn0 w w' := by
 have H : (if 0 ≤ a1 then (some ((Go.bits .and .i64 (shr .i64 a0 a1) 1) == 1)) else (none)) = some r := h
 clear h
 by_cases c3 : 0 ≤ a1
 ·rw [if_pos c3] at H
  have c3b0 := eq_true c3
  have c3b1 : decide (0 ≤ a1) = true := decide_eq_true c3
  clear c3
  obtain ⟨ji4, hji4⟩ : ∃ j_ : Int, (shr .i64 a0 a1) = j_ := ⟨_, rfl⟩
  replace H : (some ((Go.bits .and .i64 (ji4) 1) == 1)) = some r := by first | (rw [hji4] at H; exact H) | (simp only [hji4] at H ⊢; exact H)
  have hji4_ : (a0 / 2 ^ min a1.toNat 64) = ji4 := hji4
  have hji4z : a1 ≤ 64 → (a0 / 2 ^ a1.toNat) = ji4 := shr_small hji4
  obtain rfl := Option.some.inj H
  go_enter Try.func109, Try.ntmps109
  go_wp2
  go_ret
  exact ⟨by first | rfl | (simp; done) | (simp only [← hji4] <;> (first | rfl | simp)) | (simp [*]; done), by repeat (first | exact Drawn0.refl _ | apply Drawn0.step)⟩
 ·rw [if_neg c3] at H
  exact absurd H (by simp)
end Go.Proofs.Ythdoilfjcgickaa.Pr
end
section
namespace Go.Proofs.Ythdoilfjcgickaa.Hd
open Go.RowKit Go.Proofs.YthdoilfjcgickaaW.PrintWords Go.Proofs.YthdoilfjcgickaaW.PrintLast Go.Proofs.YthdoilfjcgickaaW.PrintMore Go.Proofs.Ythdoilfjcgickaa.Pr Go.Proofs.Ythdoilfjcgickaa.La Go.Proofs.Ythdoilfjcgickaa.Ma Go.Proofs.Ythdoilfjcgickaa.Hm Go.Proofs.Ythdoilfjcgickaa.Dt
structure Pre (w0 w : World) (g n r : Nat) (b cp : Nat → Nat) : Prop where
 below : Below w0.heap.size w0 w
 gb : w0.heap.size ≤ g
 bb : ∀ j, j < r → w0.heap.size ≤ b j
 inj : ∀ i j, i < r → j < r → b i = b j → i = j
 ne : ∀ j, j < r → b j ≠ g
 cap : ∀ j, j < r → n ≤ cp j
 og : ∀ j, j < r → w.cell? ⟨g, j, none⟩ = some (.slice (some ⟨b j, 0, none⟩) n (cp j))
 ob : ∀ j c, j < r → c < n → w.cell? ⟨b j, c, none⟩ = some (.int .i64 0) ∧ w.frozen? ⟨b j, c, none⟩ = false
 rest : ∀ j, j < n → (∃ v, w.cell? ⟨g, j, none⟩ = some v) ∧ w.frozen? ⟨g, j, none⟩ = false
section
variable {w0 w w1 : World} {g n r : Nat} {b cp : Nat → Nat}
theorem Pre.step (h : Pre w0 w g n r b cp) (hr : r ≤ n) (hb : Below w.heap.size w w1) : Pre w0 w1 g n r b cp :=
  ⟨Below.trans h.below (hb.mono h.below.size), h.gb, h.bb, h.inj, h.ne, h.cap,
   fun j hj => by have := lt_of_cell (h.og j hj); exact (hb.cell (p := ⟨g, j, none⟩) this).trans (h.og j hj),
   fun j c hj hc => by have := lt_of_cell (h.ob j c hj hc).1; exact ⟨(hb.cell (p := ⟨b j, c, none⟩) this).trans (h.ob j c hj hc).1, (frozen_below hb this).trans (h.ob j c hj hc).2⟩,
   fun j hj => by obtain ⟨⟨v, hv⟩, hf⟩ := h.rest j hj; have := lt_of_cell hv; exact ⟨⟨v, (hb.cell (p := ⟨g, j, none⟩) this).trans hv⟩, (frozen_below hb this).trans hf⟩⟩
theorem Pre.full (h : Pre w0 w g n n b cp) : Own w0 w g n b cp (fun _ _ => 0) :=
 ⟨h.below, h.gb, h.bb, h.inj, h.ne, h.cap, fun j hj => ⟨h.og j hj, (h.rest j hj).2⟩, h.ob⟩
theorem Pre.add {bn cn : Nat} (h : Pre w0 w g n r b cp) (hr : r < n) (hb : Below w.heap.size w w1) (hR : Kd.R (Kd.int .i64) 2 w1 w.heap.size (fun _ => True) (.slice (some ⟨bn, 0, none⟩) n cn) (List.replicate n 0)) :
  Pre w0 (w1.setCell ⟨g, r, none⟩ (.slice (some ⟨bn, 0, none⟩) n cn)) g n (r + 1) (fun j => if j = r then bn else b j) (fun j => if j = r then cn else cp j) := by
 have h1 := h.step (Nat.le_of_lt hr) hb
 have hbn : w.heap.size ≤ bn := Kd.R_base hR bn (by simp [Value.ownBlock])
 have hcn := (Kd.R_reads' hR).2.1
 have hlt (j : Nat) (hj : j < r) : b j < w.heap.size := lt_of_cell (h.ob j 0 hj (by omega)).1
 have hg : g < w.heap.size := by obtain ⟨⟨v, hv⟩, _⟩ := h.rest r hr; exact lt_of_cell hv
 refine ⟨h1.below.setCell h1.gb _, h1.gb, fun j hj => ?_, fun i j hi hj e => ?_, fun j hj => ?_, fun j hj => ?_, fun j hj => ?_, fun j c hj hc => ?_, fun j hj => ?_⟩
 ·show w0.heap.size ≤ if j = r then bn else b j
  split
  ·have := h.below.size; omega
  ·exact h.bb j (by omega)
 ·by_cases ei : i = r <;> by_cases ej : j = r
  ·omega
  ·simp only [if_pos ei, if_neg ej] at e; have := hlt j (by omega); omega
  ·simp only [if_neg ei, if_pos ej] at e; have := hlt i (by omega); omega
  ·simp only [if_neg ei, if_neg ej] at e; exact h.inj i j (by omega) (by omega) e
 ·show (if j = r then bn else b j) ≠ g
  split
  ·omega
  ·exact h.ne j (by omega)
 ·show n ≤ if j = r then cn else cp j
  split
  ·exact hcn
  ·exact h.cap j (by omega)
 ·by_cases e : j = r
  ·subst e
   simp only [if_true]
   obtain ⟨⟨v, hv⟩, _⟩ := h1.rest j hr
   exact cset_same hv
  ·simp only [if_neg e]
   rw [cset_other (by intro q; exact e (congrArg Addr.off q).symm)]
   exact h1.og j (by omega)
 ·rw [fset]
  by_cases e : j = r
  ·subst e
   simp only [if_true]
   have hat := Kd.R_celln 0 hR (c : Int) (by omega) (by simp; omega)
   rw [Int.toNat_natCast] at hat
   rw [cset_other (by intro q; have := congrArg Addr.block q; simp only at this; omega)]
   exact ⟨by simpa [rdOf, hc] using hat.1, hat.2⟩
  ·simp only [if_neg e]
   rw [cset_other (by intro q; exact h.ne j (by omega) (congrArg Addr.block q).symm)]
   exact h1.ob j c (by omega) hc
 ·rw [fset]
  refine ⟨?_, (h1.rest j hj).2⟩
  by_cases e : j = r
  ·subst e
   obtain ⟨⟨v, hv⟩, _⟩ := h1.rest j hr
   exact ⟨_, cset_same hv⟩
  ·rw [cset_other (by intro q; exact e (congrArg Addr.off q).symm)]
   exact (h1.rest j hj).1
theorem pre_of_S {ok : Nat → Prop} {v : Value} (h : SS w0 w ok v (List.replicate n [])) (hB : Below w0.heap.size w0 w) (hp : 0 < n) : ∃ g cap, v = .slice (some ⟨g, 0, none⟩) n cap ∧ n ≤ cap ∧ Pre w0 w g n 0 (fun _ => 0) (fun _ => 0) := by
 obtain ⟨g, cap, rfl, hg0, hg1, cells, hgc⟩ := Kd.S_form h (by simpa using hp)
 have hrd := Kd.S_reads' h
 rw [List.length_replicate] at hrd ⊢
 refine ⟨g, cap, rfl, hrd.2.1, ⟨hB, hg0, fun j hj => by omega, fun i j hi => by omega, fun j hj => by omega, fun j hj => by omega, fun j hj => by omega, fun j c hj => by omega, fun j hj => ⟨?_, blk_frozen hgc j⟩⟩⟩
 obtain ⟨ad, A', c', e, hx, _⟩ := at_L1 hrd.2.2 (j : Int) (by omega) (by simp; omega)
 cases e
 rw [Int.toNat_natCast, add_off, Nat.zero_add] at hx
 exact ⟨_, hx⟩
theorem R_keptC {ok : Nat → Prop} {A : Option Addr} {c base : Nat} {xs : List Int} {W : World} {m : Nat} (hR : Kd.R (Kd.int .i64) 2 w base ok (.slice A m c) xs) (hK : Kept w W (okB n b)) (hlt : ∀ j, j < n → b j < base) : Kd.C (Kd.int .i64) W A xs.length xs := by
 have h2 := Kd.R_step (w1 := W) (Kd.R_bound hR) (fun k hk hlt2 => hK.2 k hlt2 (fun ⟨j, hj, e⟩ => by have := hlt j hj; have := hk.2.1; omega))
 exact (Kd.R_reads' h2).2.2
end
def cM (cl : Nat → List Int) (i : Nat) : Mat := fun a d => if d < i then (cl d).getD a 0 else 0
theorem cM_next (cl : Nat → List Int) (i n a d : Nat) (ha : a < n) : pcol (cM cl i) i (cl i) n a d = cM cl (i + 1) a d := by
 unfold pcol cM
 by_cases e : d = i
 ·subst e; rw [if_pos ⟨rfl, ha⟩, if_pos (by omega)]
 ·rw [if_neg (by omega)]
  by_cases q : d < i
  ·rw [if_pos q, if_pos (by omega)]
  ·rw [if_neg q, if_neg (by omega)]
theorem columns_calls (k n : Nat) (s : Int) (cl : Nat → List Int) (A0 : Option Addr) (c0 : Nat) (M : List (List Int)) (A1 : Option Addr) (c1 : Nat) (Q : List Int) (w : World) (hr0 : Kd.C (Kd.slice 2 (Kd.int .i64)) w A0 M.length M) (hc0 : M.length ≤ c0) (hr1 : Kd.C (Kd.int .i64) w A1 Q.length Q) (hc1 : Q.length ≤ c1) (hQ : Q.length = n) (hp : 0 < n) (hn : n ≤ 1000)
  (hcl : ∀ i, i < n → ∃ t, impl_has.f s (i : Int) = some t ∧ impl_Problem_column.f k M Q (i : Int) t = some (cl i) ∧ (cl i).length = n) :
  Calls Try.prog 142 #[.agg #[.slice A0 M.length c0, .slice A1 Q.length c1], .int .i64 s] w fun e w' => ∃ (g cap : Nat) (b cp : Nat → Nat), e = .returned (.slice (some ⟨g, 0, none⟩) n cap) ∧ n ≤ cap ∧ Own w w' g n b cp (cM cl n) := by
 have HR0 := Aside0.mk hr0
 have HC0 := Aside0.mk hc0
 have HR1 := Aside0.mk hr1
 have HC1 := Aside0.mk hc1
 have HQ := Aside0.mk hQ
 have HP := Aside0.mk hp
 have HN := Aside0.mk hn
 have HCL := Aside0.mk hcl
 have HB := Aside0.mk (Below.refl w.heap.size w)
 clear hr0 hc0 hr1 hc1 hp hn hcl
 rw [hQ]
 clear hQ
 have hn0 : (0 : Int) ≤ (n : Int) := by omega
 go_enter Try.func142, Try.ntmps142
 go_wp2_with (first | ((with_reducible refine gate_dst (N := 2) rfl ?_); refine box_event ?hg (N := 2) ?hd (cs := #[.slice A0 M.length c0, .slice A1 n c1]) (t := 29) ?hr ?_; (case hd => rfl); (case hg => rfl); (case hr => first | (go_simp; done) | (go_simp; rfl)); intro gb hg w6 hbox hb; have n0_ := Aside0.mk (below_step HB.out hb); have n1_ := Aside0.mk hbox; clear HB; have HB := n0_; have BK := n1_; clear n0_ n1_; clear hb hbox hg; have hcz0 : w6.cell? ⟨gb, 0, none⟩ = some (.slice A0 M.length c0) := (blk_cell BK.out 0).trans rfl; have hcz1 : w6.cell? ⟨gb, 1, none⟩ = some (.slice A1 n c1) := (blk_cell BK.out 1).trans rfl) | ((with_reducible refine gate_dst (N := 13) rfl ?_); refine Kd.S_make (Kd.slice 2 (Kd.int .i64)) w.heap.size 23 rfl (N := 13) rfl 22 _ _ rfl (n : Int) rfl rfl Try.underlying22 (.slice none 0 0) 24 info23 rfl (by decide) (by omega) [] (ok := fun _ => True) (okp := fun _ => True) ⟨_, rfl, Kd.R_nil _ _ _ _ _⟩ (fun _ hk => hk) trivial hn0 (by have := HN.out; omega) HB.out HB.out.size ?_; intro v13 w7 ho hb hg hat; have n0_ := Aside0.mk ho; have n1_ := Aside0.mk (blk_grown BK.out hg (by simp)); have BK6 := BK; clear HB BK hcz0 hcz1; have HS := n0_; have BK := n1_; have HB := Aside0.mk hb; have HGN : Aside0 (∀ k, v13.ownBlock = some k → gb < k) := ⟨fun k hk => by obtain ⟨b_, hb_, hl_⟩ := hat; rw [hb_] at hk; injection hk with hk; have := blk_lt BK6.out; omega⟩; clear BK6 n0_ n1_ ho hb hg hat))
 obtain ⟨g, cap, rfl, hcap, hpre⟩ := pre_of_S (by simpa using HS.out) HB.out HP.out
 have HPRE := Aside0.mk hpre
 have HCAP := Aside0.mk hcap
 have HGB : Aside0 (gb < g) := ⟨by have := HGN.out g (by simp [Value.ownBlock]); omega⟩
 clear HS hcap hpre HGN
 go_wp2
 go_loopg [16] n (fun gg v16 wr => ∃ (r : Nat) (b cp : Nat → Nat), r ≤ n ∧ n - r ≤ gg ∧ v16 = .int .i64 (r : Int) ∧ Aside0 (Pre w wr g n r b cp) ∧ Aside0 (∀ j, j < r → gb < b j) ∧ Aside0 (wr.heap[gb]? = some (.cells #[.slice A0 M.length c0, .slice A1 n c1] 29 (0, 0))))
 case atStart => exact ⟨0, _, _, Nat.zero_le _, by omega, rfl, HPRE, ⟨fun j hj => by omega⟩, BK⟩
 case round =>
  clear HPRE BK HB
  obtain ⟨r, b, cp, hr, hg, rfl, HPRE, HGJ, BK⟩ := hrel
  have HR := Aside0.mk hr
  have HG := Aside0.mk hg
  by_cases hlt : r < n
  ·have hltz : (r : Int) < (n : Int) := by omega
   have h0z : (0 : Int) ≤ (r : Int) := by omega
   have HLT := Aside0.mk hlt
   have hr1 : IntKind.i64.wrap ((r : Int) + 1) = ((r + 1 : Nat) : Int) := by rw [IntWalk.i64_in _ (by have := HN.out; omega)]; rfl
   have HR1 := Aside0.mk hr1
   clear hlt hr hg
   go_wp2_with (first | ((with_reducible refine gate_dst (N := 22) rfl ?_); refine Kd.R_make (w0 := wr) (Kd.int .i64) wr.heap.size 2 rfl (N := 22) rfl 23 _ _ rfl (n : Int) rfl rfl Try.underlying23 (.int .i64 0) 8 info2 rfl (by decide) (by decide) 0 (ok := fun _ => True) (okp := fun _ => True) rfl (fun _ hk => hk) trivial hn0 (by have := HN.out; omega) (Below.refl _ _) (Nat.le_refl _) ?_; intro v22 w8 ho hb hg2 hat; obtain ⟨bn, cn, rfl, hbn1, hbn2, cells, hbc⟩ := Kd.R_form ho (by have := HP.out; simp; omega); simp only [Int.toNat_natCast, List.length_replicate] at ho ⊢; have HADD := Aside0.mk (HPRE.out.add HLT.out hb ho); have hcg := (((HPRE.out.step (Nat.le_of_lt HLT.out) hb).rest r HLT.out).1); have hfr := (((HPRE.out.step (Nat.le_of_lt HLT.out) hb).rest r HLT.out).2); obtain ⟨vg, hcg⟩ := hcg; have HBN : Aside0 (wr.heap.size ≤ bn) := ⟨hbn1⟩; have n1_ := Aside0.mk (blk_below BK.out hb); have HGBW := Aside0.mk (blk_lt BK.out); clear BK HPRE; have BK := n1_; clear n1_ ho hb hg2 hat hbn1 hbn2 hbc))
   go_roundg (n - (r + 1))
   case measure => have := HG.out; have := HLT.out; omega
   case rel =>
    refine ⟨r + 1, _, _, by have := HLT.out; omega, by omega, by first | rfl | (rw [HR1.out]) | (simp [HR1.out]), HADD, ⟨fun j hj => ?_⟩, ⟨?_⟩⟩
    ·show gb < if j = r then bn else b j
     split
     ·have := HBN.out; have := HGBW.out; omega
     ·exact HGJ.out j (by omega)
    ·exact (Below.heap_setCell _ _ _ gb (by have := HGB.out; simp; omega)).trans BK.out
  ·have hltz : ¬ (r : Int) < (n : Int) := by omega
   obtain rfl : r = n := by omega
   have HO := Aside0.mk (HPRE.out.full)
   have HO := Aside0.mk (HO.out.congr (M' := cM cl 0) (fun a d _ _ => by simp [cM]))
   clear HPRE hr hg
   go_wp2
   go_loopg [26] r (fun gg v26 w4 => ∃ i : Nat, i ≤ r ∧ r - i ≤ gg ∧ v26 = .int .i64 (i : Int) ∧ Aside0 (Own w w4 g r b cp (cM cl i)) ∧ Aside0 (w4.heap[gb]? = some (.cells #[.slice A0 M.length c0, .slice A1 r c1] 29 (0, 0))))
   case atStart => exact ⟨0, Nat.zero_le _, by omega, rfl, HO, BK⟩
   case round =>
    clear HO BK
    obtain ⟨i, hi, hg2, rfl, HO, BK⟩ := hrel
    have HG2 := Aside0.mk hg2
    by_cases hin : i < r
    ·have hiz : (i : Int) < (r : Int) := by omega
     have h0i : (0 : Int) ≤ (i : Int) := by omega
     have HIN := Aside0.mk hin
     have hi1 : IntKind.i64.wrap ((i : Int) + 1) = ((i + 1 : Nat) : Int) := by rw [IntWalk.i64_in _ (by have := HN.out; omega)]; rfl
     have HI1 := Aside0.mk hi1
     obtain ⟨th, hth, hcol, hclen⟩ := HCL.out i hin
     have HTH := Aside0.mk hth
     have HCOLF := Aside0.mk hcol
     have HCLEN := Aside0.mk hclen
     have n0_ := Aside0.mk (HO.out.step (below_drew (Below.refl wr.heap.size wr)))
     have n1_ := Aside0.mk (blk_drew BK.out)
     clear HO BK
     have HO := n0_
     have BK := n1_
     clear n0_ n1_ hi hg2 hin hth hcol hclen
     have hcz0 : wr.drew.cell? ⟨gb, 0, none⟩ = some (.slice A0 M.length c0) := (blk_cell BK.out 0).trans rfl
     have hcz1 : wr.drew.cell? ⟨gb, 1, none⟩ = some (.slice A1 r c1) := (blk_cell BK.out 1).trans rfl
     go_wp2
     refine st_ (n := 9) (S := fun w' => w'.cell? ⟨gb, 0, none⟩ = some (.slice A0 M.length c0) ∧ w'.cell? ⟨gb, 1, none⟩ = some (.slice A1 r c1)) (ds := []) ⟨hcz0, hcz1⟩ (fun hHeld => ?_)
     generalize wr.drew = w9 at HO BK hcz0 hcz1 hHeld ⊢
     refine pu_ 0 29 ?_; refine pu_ 1 30 ?_; refine tk_ 2 31 ?_; refine pu_ 3 32 ?_; refine pu_ 4 33 ?_; refine pu_ 5 34 ?_
     refine on_ 6 (some 35) (fun K hK => ?_)
     refine goes_ Try.func109 (by kernel_rfl) rfl #[.int .i64 s, .int .i64 (i : Int)] (by rfl) rfl rfl (by (try simp only [List.map_toArray, List.map_cons, List.map_nil]); first | done | rfl) ?_
     refine (impl_has.calls s (i : Int) th _ HTH.out).mono ?_
     rintro e w5 ⟨rfl, hd5⟩
     refine ⟨_, rfl, ?_⟩
     have n0_ := Aside0.mk (HO.out.step hd5.below)
     have n1_ := Aside0.mk (blk_below BK.out hd5.below)
     clear HO BK hd5 hHeld hcz0 hcz1
     have HO := n0_
     have BK := n1_
     clear n0_ n1_
     refine hK.out _ _ ⟨(blk_cell BK.out 0).trans rfl, (blk_cell BK.out 1).trans rfl⟩ (fun hHeld => ?_)
     clear hK K
     refine norm_ (a' := ?_) ?_ ?_
     rotate_left
     ·show Act.put _ (some 35) _ = _
      simp only [Act.put, List.setIfInBounds_toArray, List.set_cons_zero, List.set_cons_succ, i64_w, i32_w]
      rfl
     refine on_ 7 (some 36) (fun K hK => ?_)
     refine goes_ Try.func135 (by kernel_rfl) rfl #[.agg #[.slice A0 M.length c0, .slice A1 r c1], .int .i64 (i : Int), .bool th] (by rfl) rfl rfl (by (try simp only [List.map_toArray, List.map_cons, List.map_nil]); first | done | rfl) ?_
     have hcc := impl_Problem_column.calls k A0 c0 M A1 c1 Q (i : Int) th (cl i) w5 (Kd.C_below HR0.out HO.out.below) HC0.out (Kd.C_below HR1.out HO.out.below) HC1.out HCOLF.out
     rw [HQ.out] at hcc
     refine hcc.mono ?_
     clear hcc
     rintro e w6' ⟨vc, rfl, hRc, hb6⟩
     obtain ⟨Ac, cc, rfl⟩ := Kd.R_slice hRc
     refine ⟨_, rfl, ?_⟩
     have HRC := Aside0.mk hRc
     have HBL : Aside0 (∀ j, j < r → b j < w5.heap.size) := ⟨fun j hj => lt_of_cell (HO.out.ob j i hj HIN.out).1⟩
     have n0_ := Aside0.mk (HO.out.step hb6)
     have n1_ := Aside0.mk (blk_below BK.out hb6)
     clear HO BK hb6 hHeld hRc
     have HO := n0_
     have BK := n1_
     clear n0_ n1_
     refine hK.out _ _ ⟨(blk_cell BK.out 0).trans rfl, (blk_cell BK.out 1).trans rfl⟩ (fun hHeld => ?_)
     clear hK K
     refine norm_ (a' := ?_) ?_ ?_
     rotate_left
     ·show Act.put _ (some 36) _ = _
      simp only [Act.put, List.setIfInBounds_toArray, List.set_cons_zero, List.set_cons_succ, i64_w, i32_w]
      rfl
     refine on_ 8 (some 37) (fun K hK => ?_)
     refine goes_ Try.func144 (by kernel_rfl) rfl #[.slice (some ⟨g, 0, none⟩) r cap, .int .i64 (i : Int), .slice Ac (cl i).length cc] (by rfl) rfl rfl (by (try simp only [List.map_toArray, List.map_cons, List.map_nil]); first | done | rfl) ?_
     refine (putO (w0 := w) i HIN.out cap Ac cc (cl i) HO.out HN.out (by rw [HCLEN.out]; exact Nat.le_refl _) (fun W hK hB => R_keptC HRC.out hK HBL.out)).mono ?_
     rintro e w7' ⟨rfl, hO7, hK7⟩
     refine ⟨_, rfl, ?_⟩
     have n0_ := Aside0.mk (hO7.congr (M' := cM cl (i + 1)) (fun a d ha _ => cM_next cl i r a d ha))
     have n1_ := Aside0.mk (blk_kept BK.out hK7 (fun ⟨j, hj, e⟩ => by have := HGJ.out j hj; omega))
     clear HO BK hK7 hO7 hHeld
     have HO := n0_
     have BK := n1_
     clear n0_ n1_
     refine hK.out _ _ ⟨(blk_cell BK.out 0).trans rfl, (blk_cell BK.out 1).trans rfl⟩ (fun hHeld => ?_)
     clear hK K
     refine norm_ (a' := ?_) ?_ ?_
     rotate_left
     ·show Act.put _ (some 37) _ = _
      simp only [Act.put, List.setIfInBounds_toArray, List.set_cons_zero, List.set_cons_succ, i64_w, i32_w]
      rfl
     refine done_ (by kernel_rfl) ?_
     go_wp2
     go_roundg (r - (i + 1))
     case measure => have := HG2.out; have := HIN.out; omega
     case rel => exact ⟨i + 1, by have := HIN.out; omega, by omega, by first | rfl | (rw [HI1.out]) | (simp [HI1.out]), HO, BK⟩
    ·have hiz : ¬ (i : Int) < (r : Int) := by omega
     obtain rfl : i = r := by omega
     go_wp2
     go_ret
     exact ⟨g, cap, rfl, HCAP.out, b, cp, HO.out⟩
end Go.Proofs.Ythdoilfjcgickaa.Hd
end
section
namespace Go.Proofs.Ythdoilfjcgickaa.Bd
open Go.RowKit Go.Proofs.YthdoilfjcgickaaW.PrintWords Go.Proofs.YthdoilfjcgickaaW.PrintMore Go.Proofs.Ythdoilfjcgickaa.Ma Go.Proofs.Ythdoilfjcgickaa.Dt
def ev (M : Mat) (i : Nat) (last : Int) (r c : Nat) : Int := wrap64 (Int.tdiv (wrap64 (wrap64 (M r c * M i i) - wrap64 (M r i * M i c))) last)
def mid (M : Mat) (i : Nat) (last : Int) (r c : Nat) : Mat := fun a b => if i ≤ b ∧ i < a ∧ (a < r ∨ a = r ∧ b < c) then ev M i last a b else M a b
def el (M : Mat) (i : Nat) (last : Int) : Mat := fun a b => if i ≤ b ∧ i < a then ev M i last a b else M a b
def fnd (M : Mat) (i : Nat) : Nat → Nat → Option Nat
 | 0, _ => none
 | q + 1, k => if M (i + k) i ≠ 0 then some k else fnd M i q (k + 1)
def swp (M : Mat) (r q : Nat) : Mat := fun j => M (if j = r then q else if j = q then r else j)
def dgo (n : Nat) : Nat → Nat → Mat → Int → Int → Int
 | 0, _, _, last, turn => wrap64 (turn * last)
 | q + 1, i, M, last, turn => match fnd M i (n - i) 0 with
  | none => 0
  | some 0 => dgo n q (i + 1) (el M i last) (M i i) turn
  | some (k + 1) => dgo n q (i + 1) (el (swp M i (i + (k + 1))) i last) (swp M i (i + (k + 1)) i i) (wrap64 (-turn))
theorem fnd_some {M : Mat} {i : Nat} : ∀ {q k j : Nat}, fnd M i q k = some j → k ≤ j ∧ j < k + q ∧ M (i + j) i ≠ 0 ∧ ∀ t, k ≤ t → t < j → M (i + t) i = 0
 | 0, _, _, h => by cases h
 | q + 1, k, j, h => by
  unfold fnd at h
  by_cases c : M (i + k) i ≠ 0
  ·rw [if_pos c] at h
   cases h
   exact ⟨Nat.le_refl _, by omega, c, fun t h1 h2 => by omega⟩
  ·rw [if_neg c] at h
   obtain ⟨h1, h2, h3, h4⟩ := fnd_some h
   refine ⟨by omega, by omega, h3, fun t h5 h6 => ?_⟩
   by_cases e : t = k
   ·subst e; exact Decidable.not_not.1 c
   ·exact h4 t (by omega) h6
theorem fnd_none {M : Mat} {i : Nat} : ∀ {q k : Nat}, fnd M i q k = none → ∀ t, k ≤ t → t < k + q → M (i + t) i = 0
 | 0, _, _, t, h1, h2 => by omega
 | q + 1, k, h, t, h1, h2 => by
  unfold fnd at h
  by_cases c : M (i + k) i ≠ 0
  ·rw [if_pos c] at h; cases h
  ·rw [if_neg c] at h
   by_cases e : t = k
   ·subst e; exact Decidable.not_not.1 c
   ·exact fnd_none h t (by omega) (by omega)
theorem mid_start (M : Mat) (i : Nat) (last : Int) (a b : Nat) : mid M i last (i + 1) i a b = M a b := by unfold mid; rw [if_neg (by omega)]
theorem mid_row (M : Mat) (i : Nat) (last : Int) {n : Nat} (r a b : Nat) (hb : b < n) : mid M i last r n a b = mid M i last (r + 1) i a b := by
 unfold mid
 by_cases c : i ≤ b ∧ i < a ∧ (a < r ∨ a = r ∧ b < n)
 ·rw [if_pos c, if_pos (by omega)]
 ·rw [if_neg c, if_neg (by omega)]
theorem mid_end (M : Mat) (i : Nat) (last : Int) {n : Nat} (a b : Nat) (ha : a < n) : mid M i last n i a b = el M i last a b := by
 unfold mid el
 by_cases c : i ≤ b ∧ i < a
 ·rw [if_pos c, if_pos (by omega)]
 ·rw [if_neg c, if_neg (by omega)]
theorem mid_next (M : Mat) (i : Nat) (last : Int) (r c : Nat) (hr : i < r) (hc : i ≤ c) (a b : Nat) : (if a = r ∧ b = c then ev M i last r c else mid M i last r c a b) = mid M i last r (c + 1) a b := by
 unfold mid
 by_cases e : a = r ∧ b = c
 ·obtain ⟨rfl, rfl⟩ := e
  rw [if_pos ⟨rfl, rfl⟩, if_pos (by omega)]
 ·rw [if_neg e]
  by_cases q : i ≤ b ∧ i < a ∧ (a < r ∨ a = r ∧ b < c)
  ·rw [if_pos q, if_pos (by omega)]
  ·rw [if_neg q, if_neg (by omega)]
theorem mid_head (M : Mat) (i : Nat) (last : Int) (r c b : Nat) : mid M i last r c i b = M i b := by unfold mid; rw [if_neg (by omega)]
theorem mid_at (M : Mat) (i : Nat) (last : Int) (r c b : Nat) (h : c ≤ b) : mid M i last r c r b = M r b := by unfold mid; rw [if_neg (by omega)]
end Go.Proofs.Ythdoilfjcgickaa.Bd
end
section
namespace Go.Proofs.Ythdoilfjcgickaa.Cp
open Go.RowKit Go.Proofs.YthdoilfjcgickaaW.PrintWords Go.Proofs.YthdoilfjcgickaaW.PrintMore Go.Proofs.Ythdoilfjcgickaa.Ma Go.Proofs.Ythdoilfjcgickaa.Pr
theorem copy_eq (l : List (List Int)) (hl : l.length ≤ 1000) (hr : ∀ x ∈ l, x.length ≤ 1099511627776) : Ev (fun k => impl_copyRows.f k l) l := by
 have key : ∀ q i, i + q = l.length → Ev (fun k => impl_copyRows.l0 k (l.take i) l (l.length : Int) i) l := by
  intro q
  induction q with
  | zero =>
   intro i hi
   rw [List.take_of_length_le (by omega)]
   exact evstep (fun k => by rw [impl_copyRows.l0]) (evneg (by omega) (evc rfl))
  | succ q ih =>
   intro i hi
   have hlt : i < l.length := by omega
   have e : rd_L1 l (i : Int) = l[i] := by simp [rd_L1, hlt]
   have hri := hr l[i] (List.getElem_mem hlt)
   have h := ih (i + 1) (by omega)
   rw [List.take_succ_eq_append_getElem hlt] at h
   refine evstep (fun k => by rw [impl_copyRows.l0]) (evpos (by omega) (evpos (by omega) (evpos (by omega) ?_)))
   rw [e]
   refine evsome (a := l[i]) (by unfold slices_Clone.f; rw [if_pos hri]) (evpos (by rw [List.length_take]; omega) ?_)
   rw [w64 (x := (i : Int) + 1) (by omega) (by omega)]
   exact h
 exact key l.length 0 (by omega)
end Go.Proofs.Ythdoilfjcgickaa.Cp
end
section
namespace Go.Proofs.Ythdoilfjcgickaa.Pr
open Go.RowKit Go.Proofs.YthdoilfjcgickaaW.PrintWords Go.Proofs.YthdoilfjcgickaaW.PrintLast Go.Proofs.YthdoilfjcgickaaW.PrintMore
def RowsPred (g : Nat) (lb : Array Value) (p : List Int → Bool) (w : World) (l : List (List Int)) : Prop :=
 ∀ (W : World) (A : Option Addr) (c : Nat) (x : List Int), x ∈ l → Below w.heap.size w W → x.length ≤ c → Kd.C (Kd.int .i64) W A x.length x → Calls Try.prog g (#[.slice A x.length c] ++ lb) W fun e w' => e = .returned (.bool (p x)) ∧ Below W.heap.size W w'
theorem indexFuncRows (p : List Int → Bool) (g : Nat) (lb : Array Value) (eg : ∀ args w, (callFunc g args).run Try.prog w = .ok (.enter g args) w) (A : Option Addr) (c : Nat) (l : List (List Int)) (w : World)
  (hr : Kd.C (Kd.slice 2 (Kd.int .i64)) w A l.length l) (hp : RowsPred g lb p w l) :
  Calls Try.prog 158 #[.slice A l.length c, .func (.func g) #[] lb] w fun e w' => e = .returned (.int .i64 (idxP p l 0)) ∧ Below w.heap.size w w' := by
 have HR := Aside0.mk hr
 have HP := Aside0.mk hp
 have hbig : l.length ≤ 9223372036854775807 := hr.2.1
 clear hr hp
 go_enter Try.func158, Try.ntmps158
 go_wp2
 go_loopg [5, 8] l.length (fun gg _ s8 wr => ∃ kk : Nat, kk ≤ l.length ∧ l.length - kk ≤ gg ∧ s8 = .int .i64 kk ∧ Aside0 (Below w.heap.size w wr) ∧ Aside0 (∀ j (hj : j < l.length), j < kk → p l[j] = false))
 case atStart => exact ⟨0, Nat.zero_le _, by omega, rfl, ⟨Below.refl _ w⟩, ⟨fun j _ hj => absurd hj (Nat.not_lt_zero _)⟩⟩
 case round =>
  obtain ⟨kk, hkk, hg, rfl, BW, F⟩ := hrel
  by_cases hlt : kk < l.length
  ·obtain ⟨ad, A', c', e, hx, hc', hi⟩ := at_L1 HR.out kk (by omega) (by omega)
   cases e
   rw [Int.toNat_natCast] at hx
   have hx' := (BW.out.cell (World.block_lt_of_cell? w _ hx)).trans hx
   clear hx
   have hel : rd_L1 l (kk : Int) = l[kk] := by simp [rd_L1, hlt]
   have hcall := HP.out wr A' c' l[kk] (List.getElem_mem hlt) BW.out (by rw [← hel]; exact hc') (by rw [← hel]; exact Kd.C_below hi BW.out)
   rw [hel] at hx' hc' hi
   have HI := Aside0.mk hi
   have HC := Aside0.mk hc'
   clear hi hc' hel
   have hltz : (kk : Int) < (l.length : Int) := by omega
   have h0z : (0 : Int) ≤ (kk : Int) := by omega
   generalize hy : l[kk] = y at hx' hcall HI HC
   have HY := Aside0.mk hy
   clear hy
   cases hq : p y with
   | true =>
    rw [hq] at hcall
    have HQ := Aside0.mk hq
    clear hq
    go_wp2_with fail
    refine hcall.mono ?_
    rintro e w' ⟨rfl, hb'⟩
    clear hcall
    go_wp2
    go_ret
    refine ⟨?_, Below.trans BW.out (hb'.mono BW.out.size)⟩
    rw [idxP_hit p l kk hlt F.out (by rw [HY.out]; exact HQ.out)]
    rfl
   | false =>
    rw [hq] at hcall
    have HQ := Aside0.mk hq
    clear hq
    go_wp2_with fail
    refine hcall.mono ?_
    rintro e w' ⟨rfl, hb'⟩
    clear hcall
    go_wp2
    go_roundg (l.length - (kk + 1))
    case measure => omega
    case rel =>
     refine ⟨kk + 1, by omega, by omega, by go_num, ⟨Below.trans BW.out (hb'.mono BW.out.size)⟩, ⟨fun j hj hjk => ?_⟩⟩
     by_cases e : j = kk
     ·subst e
      rw [HY.out]; exact HQ.out
     ·exact F.out j hj (by omega)
  ·have hltz : ¬ (kk : Int) < (l.length : Int) := by omega
   obtain rfl : kk = l.length := by omega
   go_wp2
   go_ret
   refine ⟨?_, BW.out⟩
   rw [idxP_miss p l (fun i hi => F.out i hi hi)]
   rfl
theorem containsFuncRows (p : List Int → Bool) (g : Nat) (lb : Array Value) (eg : ∀ args w, (callFunc g args).run Try.prog w = .ok (.enter g args) w) (A : Option Addr) (c : Nat) (l : List (List Int)) (w : World)
  (hr : Kd.C (Kd.slice 2 (Kd.int .i64)) w A l.length l) (hp : RowsPred g lb p w l) :
  Calls Try.prog 138 #[.slice A l.length c, .func (.func g) #[] lb] w fun e w' => e = .returned (.bool (l.any p)) ∧ Below w.heap.size w w' := by
 rw [← idxP_nonneg p l 0 (Int.le_refl _)]
 have HR := Aside0.mk hr
 have HP := Aside0.mk hp
 clear hr hp
 go_enter Try.func138, Try.ntmps138
 go_wp2_with fail
 refine (indexFuncRows p g lb eg A c l _ HR.out HP.out).mono ?_
 rintro e w' ⟨rfl, hb'⟩
 go_wp2
 go_ret
 exact ⟨rfl, hb'⟩
end Go.Proofs.Ythdoilfjcgickaa.Pr
end
section
namespace Go.Proofs.Ythdoilfjcgickaa.Pr
open Go.RowKit Go.Proofs.YthdoilfjcgickaaW.PrintWords Go.Proofs.YthdoilfjcgickaaW.PrintLast Go.Proofs.YthdoilfjcgickaaW.PrintMore Go.Proofs.Ythdoilfjcgickaa.La Go.Proofs.Ythdoilfjcgickaa.Ma Go.Proofs.Ythdoilfjcgickaa.Hm Go.Proofs.Ythdoilfjcgickaa.Dt Go.Proofs.Ythdoilfjcgickaa.Hd Go.Proofs.Ythdoilfjcgickaa.Bd Go.Proofs.Ythdoilfjcgickaa.Cp
def nz (i : Nat) (row : List Int) : Bool := row.getD i 0 != 0
theorem det1 (gb i : Nat) (A : Option Addr) (c : Nat) (x : List Int) (w : World) (hb : w.cell? ⟨gb, 0, none⟩ = some (.int .i64 (i : Int))) (hC : Kd.C (Kd.int .i64) w A x.length x) (hi : i < x.length) :
  Calls Try.prog 159 (#[.slice A x.length c] ++ #[.pointer (some ⟨gb, 0, none⟩)]) w fun e w' => e = .returned (.bool (nz i x)) ∧ Below w.heap.size w w' := by
 unfold nz
 show Calls Try.prog 159 #[.slice A x.length c, .pointer (some ⟨gb, 0, none⟩)] w _
 obtain ⟨ad, rfl, hcell⟩ := Kd.at_int hC (i : Int) (by omega) (by omega)
 rw [Int.toNat_natCast, rd_nat] at hcell
 have hiz : (i : Int) < (x.length : Int) := by omega
 have h0z : (0 : Int) ≤ (i : Int) := by omega
 generalize x.getD i 0 = y at hcell ⊢
 generalize x.length = n at hiz hC ⊢
 clear hC hi
 by_cases e : y = 0
 ·have h1 : (y != 0) = false := by simp [e]
  have h2 : (y == 0) = true := by simp [e]
  clear e
  go_enter Try.func159, Try.ntmps159
  go_wp2
  go_ret
  exact ⟨by rw [h1]; rfl, Below.refl _ _⟩
 ·have h1 : (y != 0) = true := by simp [e]
  have h2 : (y == 0) = false := by simp [e]
  clear e
  go_enter Try.func159, Try.ntmps159
  go_wp2
  go_ret
  exact ⟨by rw [h1]; rfl, Below.refl _ _⟩
theorem det1_enters : ∀ args w, (callFunc 159 args).run Try.prog w = .ok (.enter 159 args) w := enters_fn Try.func159 (by kernel_rfl) rfl
theorem idxP_fnd (M : Mat) (n i : Nat) (hi : i < n) : idxP (nz i) (rowsFrom M n i) 0 = match fnd M i (n - i) 0 with | none => -1 | some k => (k : Int) := by
 have hat : ∀ r (h : r < (rowsFrom M n i).length), nz i (rowsFrom M n i)[r] = (M (i + r) i != 0) := by
  intro r h
  simp [rowsFrom, nz, hi]
 have hl := rowsFrom_len M n i
 cases h : fnd M i (n - i) 0 with
 | none => exact idxP_miss _ _ (fun r hr => by rw [hat r hr, fnd_none h r (Nat.zero_le _) (by omega)]; rfl)
 | some k =>
  obtain ⟨_, h2, h3, h4⟩ := fnd_some h
  exact idxP_hit _ _ k (by omega) (fun r hr hrk => by rw [hat r hr, h4 r (Nat.zero_le _) hrk]; rfl) (by rw [hat k (by omega)]; simpa using h3)
theorem det_calls (n : Nat) (R : Int) (A : Option Addr) (c : Nat) (l : List (List Int)) (w : World) (hr : Kd.C (Kd.slice 2 (Kd.int .i64)) w A l.length l) (hc : l.length ≤ c) (hln : l.length = n) (hp : 0 < n) (hn : n ≤ 1000) (hsq : ∀ x ∈ l, x.length = l.length) (hR : dgo n n 0 (en l) 1 1 = R) :
  Calls Try.prog 143 #[.slice A n c] w fun e w' => e = .returned (.int .i64 R) ∧ Below w.heap.size w w' := by
 obtain ⟨k, hk⟩ := evk (copy_eq l (by omega) (fun x hx => by rw [hsq x hx]; omega))
 have hcopy := fun W (hW : Below w.heap.size w W) => impl_copyRows.calls k A c l l W (Kd.C_below hr hW) hc hk
 rw [hln] at hcopy
 have HCOPY := Aside0.mk hcopy
 have HLN := Aside0.mk hln
 have HP := Aside0.mk hp
 have HN := Aside0.mk hn
 have HSQ := Aside0.mk hsq
 have HR := Aside0.mk hR
 clear hcopy hk hr hc hln hp hn hsq hR
 go_enter Try.func143, Try.ntmps143
 go_wp2_with fail
 refine (HCOPY.out _ (Below.refl _ _)).mono ?_
 rintro e w1 ⟨v0, rfl, hS, hB⟩
 obtain ⟨g, cap, b, cp, rfl, hcap, hO⟩ := own_of_S (w0 := w) hS hB (by rw [HLN.out]; exact HP.out) HSQ.out
 rw [HLN.out] at hcap hO
 rw [HLN.out]
 have HO := Aside0.mk hO
 have HCAP := Aside0.mk hcap
 clear HCOPY hS hB hO hcap HSQ
 go_wp2
 go_loopg [4, 5, 16] n (fun gg v4 v5 v16 wr => ∃ (i : Nat) (M : Mat) (b cp : Nat → Nat) (last turn : Int), i ≤ n ∧ n - i ≤ gg ∧ v4 = .int .i64 last ∧ v5 = .int .i64 turn ∧ v16 = .int .i64 (i : Int) ∧ Aside0 (Own w wr g n b cp M) ∧ Aside0 (last ≠ 0) ∧ Aside0 (dgo n (n - i) i M last turn = R))
 case atStart => exact ⟨0, en l, b, cp, 1, 1, Nat.zero_le _, by omega, rfl, rfl, rfl, HO, ⟨by decide⟩, HR⟩
 case round =>
  clear HO HR b cp
  obtain ⟨i, M, b, cp, last, turn, hi, hg, rfl, rfl, rfl, HO, HL, HR⟩ := hrel
  by_cases hlt : i < n
  ·have hltz : (i : Int) < (n : Int) := by omega
   have HLT := Aside0.mk hlt
   have HI := Aside0.mk hi
   have HG := Aside0.mk hg
   clear hlt hi hg
   have hne : ¬ cap = i := by have := HCAP.out; have := HLT.out; omega
   have hle : (i : Int) ≤ (n : Int) := by omega
   have h0i : (0 : Int) ≤ (i : Int) := by omega
   have HA : Below wr.heap.size wr (wr.alloc (Obj.cells #[.int .i64 (i : Int)] 3)) := (Below.refl _ _).alloc (Nat.le_refl _) _
   have HO1 := Aside0.mk (HO.out.step HA)
   have HPC : Aside0 ((wr.alloc (Obj.cells #[.int .i64 (i : Int)] 3)).cell? ⟨wr.heap.size, 0, none⟩ = some (.int .i64 (i : Int))) := ⟨by simp⟩
   have hcall := indexFuncRows (nz i) 159 #[.pointer (some ⟨wr.heap.size, 0, none⟩)] det1_enters (some ⟨g, i, none⟩) (cap - i) (rowsFrom M n i) _ (HO1.out.C i (by have := HN.out; omega))
    (fun W' A' c' x hx hb hxc hC => det1 wr.heap.size i A' c' x W' ((hb.cell (p := ⟨wr.heap.size, 0, none⟩) (by simp)).trans HPC.out) hC (by
     have := HLT.out
     obtain ⟨r, _, rfl⟩ := List.mem_map.1 hx
     simpa using this))
   rw [rowsFrom_len, idxP_fnd M n i HLT.out] at hcall
   have HCALL := Aside0.mk hcall
   clear hcall
   have HNB : Aside0 (∀ j, j < n → b j ≠ wr.heap.size) := ⟨fun j hj e => by have := lt_of_cell (HO.out.ob j i hj HLT.out).1; rw [e] at this; exact Nat.lt_irrefl _ this⟩
   have HNG : Aside0 (g ≠ wr.heap.size) := ⟨fun e => by have := lt_of_cell (HO.out.og i HLT.out).1; rw [e] at this; exact Nat.lt_irrefl _ this⟩
   obtain ⟨q, hq⟩ : ∃ q, n - i = q + 1 := ⟨n - i - 1, by have := HLT.out; omega⟩
   have HQ := Aside0.mk hq
   have hR2 := HR.out
   rw [hq] at hR2
   unfold dgo at hR2
   clear hq HA
   cases hf : fnd M i (n - i) 0 with
   | none =>
    rw [hf] at hR2
    simp only [hf] at HCALL
    have HR2 := Aside0.mk hR2
    clear hR2 hf
    go_wp2_with fail
    refine HCALL.out.mono ?_
    rintro e w2 ⟨rfl, hb2⟩
    have HB2 := Aside0.mk hb2
    clear hb2 HCALL
    go_wp2
    go_ret
    exact ⟨by rw [← HR2.out]; rfl, Below.trans HO1.out.below (HB2.out.mono HO1.out.below.size)⟩
   | some kk =>
    have HF := Aside0.mk hf
    rw [hf] at hR2
    simp only [hf] at HCALL
    cases kk with
    | zero =>
     have HR2 := Aside0.mk hR2
     clear hR2 hf
     go_wp2_with fail
     refine HCALL.out.mono ?_
     rintro e w2 ⟨rfl, hb2⟩
     have HO2 := Aside0.mk (HO1.out.step hb2)
     have HPV : Aside0 (w2.cell? ⟨wr.heap.size, 0, none⟩ = some (.int .i64 (i : Int))) := ⟨(hb2.cell (p := ⟨wr.heap.size, 0, none⟩) (by simp)).trans HPC.out⟩
     generalize wr.heap.size = pv at *
     clear hb2 HCALL HO HO1 HR HPC
     have hgi1 : IntKind.i64.wrap ((i : Int) + 1) = ((i + 1 : Nat) : Int) := by rw [IntWalk.i64_in _ (by have := HN.out; have := HLT.out; omega)]; rfl
     have HGI1 := Aside0.mk hgi1
     have hi1z : ((i + 1 : Nat) : Int) ≤ (n : Int) := by have := HLT.out; omega
     have h0z1 : (0 : Int) ≤ ((i + 1 : Nat) : Int) := by omega
     by_cases hcc : cap = i + 1
     ·have hp0 := HPV.out
      have hn1 : n = i + 1 := by have := HCAP.out; have := HLT.out; omega
      have h00 : ¬ (0 : Int) < ((n - (i + 1) : Nat) : Int) := by omega
      have HN1 := Aside0.mk hn1
      have hcct := eq_true hcc
      clear hn1 hcc
      go_wp2
      go_loopg [53] 1 (fun gg v53 w3 => v53 = .int .i64 0 ∧ Aside0 (Own w w3 g n b cp M) ∧ Aside0 (w3.cell? ⟨pv, 0, none⟩ = some (.int .i64 (i : Int))))
      case atStart => exact ⟨rfl, HO2, HPV⟩
      case round =>
       clear HO2 HPV hp0
       obtain ⟨rfl, HO3, HPV3⟩ := hrel
       have HO4 := Aside0.mk (HO3.out.step (below_drew (Below.refl wr.heap.size wr)))
       have HPV4 : Aside0 (wr.drew.cell? ⟨pv, 0, none⟩ = some (.int .i64 (i : Int))) := ⟨HPV3.out⟩
       have hp3 := HPV4.out
       have hog := (HO4.out.og i HLT.out).1
       have hii := (HO4.out.ob i i HLT.out HLT.out).1
       go_wp2
       refine st_ (n := 8) (S := fun w' => w'.cell? ⟨pv, 0, none⟩ = some (.int .i64 (i : Int)) ∧ w'.cell? ⟨g, i, none⟩ = some (.slice (some ⟨b i, 0, none⟩) n (cp i)) ∧ w'.cell? ⟨b i, i, none⟩ = some (.int .i64 ((M) i i))) (ds := []) ⟨hp3, hog, hii⟩ (fun hHeld => ?_)
       generalize wr.drew = w5 at HO4 HPV4 hp3 hog hii hHeld ⊢
       refine pu_ 0 96 ?_; refine tk_ 1 97 ?_; refine pu_ 2 98 ?_; refine tk_ 3 99 ?_; refine tk_ 4 100 ?_; refine pu_ 5 101 ?_; refine tk_ 6 102 ?_; refine pu_ 7 4 ?_
       refine done_ (by kernel_rfl) ?_
       go_wp2
       go_roundg (n - (i + 1))
       case measure => have := HG.out; have := HLT.out; omega
       case rel => exact ⟨i + 1, el (M) i last, b, cp, (M) i i, turn, by have := HLT.out; omega, by omega, rfl, rfl, by first | rfl | (rw [HGI1.out]), ⟨HO4.out.congr (fun a b ha _ => by unfold el; rw [if_neg (by have := HN1.out; omega)])⟩, ⟨(fnd_some HF.out).2.2.1⟩, ⟨by rw [show n - (i + 1) = q from by have := HQ.out; omega]; exact HR2.out⟩⟩
     ·have hp0 := HPV.out
      go_wp2
      go_loopg [53] n (fun gg v53 w3 => ∃ t : Nat, i + 1 + t ≤ n ∧ n - (i + 1 + t) ≤ gg ∧ v53 = .int .i64 (t : Int) ∧ Aside0 (Own w w3 g n b cp (mid M i last (i + 1 + t) i)) ∧ Aside0 (w3.cell? ⟨pv, 0, none⟩ = some (.int .i64 (i : Int))))
      case atStart => exact ⟨0, by have := HLT.out; omega, by omega, by simp, ⟨HO2.out.congr (fun a b _ _ => (mid_start _ i last a b).symm)⟩, HPV⟩
      case round =>
       clear HO2 HPV hp0
       obtain ⟨t, ht, hg2, rfl, HO3, HPV3⟩ := hrel
       have HT := Aside0.mk ht
       have HG2 := Aside0.mk hg2
       by_cases htn : i + 1 + t < n
       ·have htz : (t : Int) < ((n - (i + 1) : Nat) : Int) := by omega
        have h0t : (0 : Int) ≤ (t : Int) := by omega
        have HTN := Aside0.mk htn
        have hog := (HO3.out.og (i + 1 + t) htn).1
        have hf0 := (HO3.out.ob (i + 1 + t) i htn HLT.out).1
        rw [mid_at _ i last (i + 1 + t) i i (Nat.le_refl _)] at hf0
        have hp3 := HPV3.out
        have ht1 : IntKind.i64.wrap ((t : Int) + 1) = ((t + 1 : Nat) : Int) := by rw [IntWalk.i64_in _ (by have := HN.out; omega)]; rfl
        have HT1 := Aside0.mk ht1
        generalize hr : i + 1 + t = r at *
        have HRE := Aside0.mk hr
        have htr : i + 1 + t = r := hr
        clear hr
        go_wp2
        go_loopg [11] n (fun gg v11 w4 => ∃ c' : Nat, i ≤ c' ∧ c' ≤ n ∧ n - c' ≤ gg ∧ v11 = .int .i64 (c' : Int) ∧ Aside0 (Own w w4 g n b cp (mid M i last r c')) ∧ Aside0 (w4.cell? ⟨pv, 0, none⟩ = some (.int .i64 (i : Int))))
        case atStart => exact ⟨i, Nat.le_refl _, HI.out, by omega, rfl, HO3, HPV3⟩
        case round =>
         clear HO3 HPV3 hp3 hog hf0
         obtain ⟨c', hc1, hc2, hg3, rfl, HO4, HPV4⟩ := hrel
         have HC1 := Aside0.mk hc1
         have HC2 := Aside0.mk hc2
         have HG3 := Aside0.mk hg3
         by_cases hcn : c' < n
         ·have hcz : (c' : Int) < (n : Int) := by omega
          have h0c : (0 : Int) ≤ (c' : Int) := by omega
          have HCN := Aside0.mk hcn
          have HO5 := Aside0.mk (HO4.out.step (below_drew (Below.refl wr.heap.size wr)))
          have HPV5 : Aside0 (wr.drew.cell? ⟨pv, 0, none⟩ = some (.int .i64 (i : Int))) := ⟨HPV4.out⟩
          have h1 := (HO5.out.ob r c' HTN.out hcn).1
          have h1f := (HO5.out.ob r c' HTN.out hcn).2
          have h2 := (HO5.out.og i HLT.out).1
          have h3 := (HO5.out.ob i i HLT.out HLT.out).1
          have h4 := (HO5.out.ob i c' HLT.out hcn).1
          rw [mid_at _ i last r c' c' (Nat.le_refl _)] at h1
          rw [mid_head] at h3 h4
          have hp4 := HPV5.out
          have hl0 : (last == 0) = false := by have := HL.out; simpa using this
          have hl1 : ¬ last = 0 := HL.out
          have hc11 : IntKind.i64.wrap ((c' : Int) + 1) = ((c' + 1 : Nat) : Int) := by rw [IntWalk.i64_in _ (by have := HN.out; omega)]; rfl
          have HC11 := Aside0.mk hc11
          clear hc1 hc2 hg3 hcn
          go_wp2
          refine st_ (n := 28) (S := fun w' => w'.cell? ⟨b r, c', none⟩ = some (.int .i64 ((M) r c')) ∧ w'.cell? ⟨pv, 0, none⟩ = some (.int .i64 (i : Int)) ∧ w'.cell? ⟨g, i, none⟩ = some (.slice (some ⟨b i, 0, none⟩) n (cp i)) ∧ w'.cell? ⟨b i, i, none⟩ = some (.int .i64 ((M) i i)) ∧ w'.cell? ⟨b i, c', none⟩ = some (.int .i64 ((M) i c'))) (ds := [27]) ⟨h1, hp4, h2, h3, h4⟩ (fun hHeld => ?_)
          generalize wr.drew = w5 at HO5 HPV5 h1 hp4 h2 h3 h4 h1f hHeld ⊢
          refine pu_ 0 68 ?_; refine pu_ 1 69 ?_; refine pu_ 2 70 ?_; refine pu_ 3 71 ?_; refine pu_ 4 72 ?_; refine tk_ 5 73 ?_; refine pu_ 6 74 ?_; refine tk_ 7 75 ?_; refine pu_ 8 76 ?_; refine tk_ 9 77 ?_; refine tk_ 10 78 ?_; refine pu_ 11 79 ?_; refine tk_ 12 80 ?_; refine pu_ 13 81 ?_; refine pu_ 14 82 ?_; refine pu_ 15 83 ?_; refine tk_ 16 84 ?_; refine pu_ 17 85 ?_; refine tk_ 18 86 ?_; refine pu_ 19 87 ?_; refine pu_ 20 88 ?_; refine tk_ 21 89 ?_; refine pu_ 22 90 ?_; refine pu_ 23 91 ?_; refine pu_ 24 92 ?_; refine pu_ 25 93 ?_; refine pu_ 26 94 ?_
          refine la_ 27 none (fun K hK => ?_)
          refine skip_ (w1 := ?_) (by rfl) rfl ?_ ?_
          rotate_left
          ·go_simp
           rfl
          refine hK.out _ _ ?_
          clear hK K
          refine done_ (by kernel_rfl) ?_
          go_wp2
          go_roundg (n - (c' + 1))
          case measure => have := HG3.out; have := HCN.out; omega
          case rel =>
           have hput := (HO5.out.put HTN.out HCN.out (ev M i last r c')).congr (M' := mid M i last r (c' + 1)) (fun a b _ _ => mid_next _ i last r c' (by have := HRE.out; omega) HC1.out a b)
           refine ⟨c' + 1, by have := HC1.out; omega, HCN.out, by omega, by first | rfl | (rw [HC11.out]) | (simp [HC11.out]), ⟨hput⟩, ⟨?_⟩⟩
           rw [cset_other (by intro e; exact HNB.out r HTN.out (congrArg Addr.block e))]
           exact HPV5.out
         ·have hcz : ¬ (c' : Int) < (n : Int) := by omega
          obtain rfl : c' = n := by have := HC2.out; omega
          clear hcn hc1 hc2 hg3
          go_wp2
          go_roundg (c' - (r + 1))
          case measure => have := HG2.out; have := HTN.out; omega
          case rel => exact ⟨t + 1, by have := HTN.out; have := HRE.out; omega, by have := HRE.out; omega, by first | rfl | (rw [HT1.out]) | (simp [HT1.out]), ⟨HO4.out.congr (fun a b _ hb => by rw [mid_row _ i last r a b hb, show i + 1 + (t + 1) = r + 1 from by have := HRE.out; omega])⟩, HPV4⟩
       ·have htz : ¬ (t : Int) < ((n - (i + 1) : Nat) : Int) := by omega
        have hn1 : i + 1 + t = n := by omega
        rw [hn1] at HO3
        have HO4 := Aside0.mk (HO3.out.step (below_drew (Below.refl wr.heap.size wr)))
        have HPV4 : Aside0 (wr.drew.cell? ⟨pv, 0, none⟩ = some (.int .i64 (i : Int))) := ⟨HPV3.out⟩
        have hp3 := HPV4.out
        have hog := (HO4.out.og i HLT.out).1
        have hii := (HO4.out.ob i i HLT.out HLT.out).1
        rw [mid_head] at hii
        clear hn1 htn ht hg2
        go_wp2
        refine st_ (n := 8) (S := fun w' => w'.cell? ⟨pv, 0, none⟩ = some (.int .i64 (i : Int)) ∧ w'.cell? ⟨g, i, none⟩ = some (.slice (some ⟨b i, 0, none⟩) n (cp i)) ∧ w'.cell? ⟨b i, i, none⟩ = some (.int .i64 ((M) i i))) (ds := []) ⟨hp3, hog, hii⟩ (fun hHeld => ?_)
        generalize wr.drew = w5 at HO4 HPV4 hp3 hog hii hHeld ⊢
        refine pu_ 0 96 ?_; refine tk_ 1 97 ?_; refine pu_ 2 98 ?_; refine tk_ 3 99 ?_; refine tk_ 4 100 ?_; refine pu_ 5 101 ?_; refine tk_ 6 102 ?_; refine pu_ 7 4 ?_
        refine done_ (by kernel_rfl) ?_
        go_wp2
        go_roundg (n - (i + 1))
        case measure => have := HG.out; have := HLT.out; omega
        case rel => exact ⟨i + 1, el (M) i last, b, cp, (M) i i, turn, by have := HLT.out; omega, by omega, rfl, rfl, by first | rfl | (rw [HGI1.out]), ⟨HO4.out.congr (fun a b ha _ => mid_end _ i last a b ha)⟩, ⟨(fnd_some HF.out).2.2.1⟩, ⟨by rw [show n - (i + 1) = q from by have := HQ.out; omega]; exact HR2.out⟩⟩
    | succ kk =>
     obtain ⟨kp, hkp⟩ : ∃ kp, kp = kk + 1 := ⟨_, rfl⟩
     simp only [← hkp] at hf hR2 HCALL
     obtain ⟨s, hs⟩ : ∃ s, s = i + kp := ⟨_, rfl⟩
     have hfs := fnd_some hf
     have hsn : s < n := by have := HLT.out; omega
     have hsi : ¬ s = i := by omega
     have hik : IntKind.i64.wrap ((i : Int) + (kp : Int)) = (s : Int) := by rw [IntWalk.i64_in _ (by have := HN.out; omega), hs]; rfl
     have hnz : M s i ≠ 0 := by rw [hs]; exact hfs.2.2.1
     rw [← hs] at hR2
     have HNZ := Aside0.mk hnz
     have HSN := Aside0.mk hsn
     have HSI := Aside0.mk hsi
     have HR2 := Aside0.mk hR2
     have hkz : (0 : Int) < (kp : Int) := by omega
     have hkz' : ¬ (kp : Int) < 0 := by omega
     clear hR2 hf HF hfs hnz hs hkp kk
     go_wp2_with fail
     refine HCALL.out.mono ?_
     rintro e w2 ⟨rfl, hb2⟩
     have HO2 := Aside0.mk (HO1.out.step hb2)
     have HPV : Aside0 (w2.cell? ⟨wr.heap.size, 0, none⟩ = some (.int .i64 (i : Int))) := ⟨(hb2.cell (p := ⟨wr.heap.size, 0, none⟩) (by simp)).trans HPC.out⟩
     generalize wr.heap.size = pv at *
     clear hb2 HCALL HO HO1 HR HPC
     have HO3 := Aside0.mk (HO2.out.step (below_drew (Below.refl w2.heap.size w2)))
     have HPV3 : Aside0 (w2.drew.cell? ⟨pv, 0, none⟩ = some (.int .i64 (i : Int))) := ⟨HPV.out⟩
     have HSW := Aside0.mk (HO3.out.swap HLT.out HSN.out)
     have hp0 := HPV3.out
     have hgs := (HO3.out.og s HSN.out).1
     have hgsf := (HO3.out.og s HSN.out).2
     have hgi := (HO3.out.og i HLT.out).1
     have hgif := (HO3.out.og i HLT.out).2
     have hst : (w2.drew.setCell ⟨g, i, none⟩ (.slice (some ⟨b s, 0, none⟩) n (cp s))).cell? ⟨g, s, none⟩ = some (.slice (some ⟨b s, 0, none⟩) n (cp s)) := by rw [cset_other (by intro e; exact HSI.out (congrArg Addr.off e).symm)]; exact hgs
     have hstf : (w2.drew.setCell ⟨g, i, none⟩ (.slice (some ⟨b s, 0, none⟩) n (cp s))).frozen? ⟨g, s, none⟩ = false := by rw [fset]; exact hgsf
     have hsz : (s : Int) < (n : Int) := by omega
     have h0s : (0 : Int) ≤ (s : Int) := by omega
     clear HO2 HPV hsn hsi
     go_wp2
     refine st_ (n := 20) (S := fun w' => w'.cell? ⟨pv, 0, none⟩ = some (.int .i64 (i : Int)) ∧ w'.cell? ⟨g, s, none⟩ = some (.slice (some ⟨b s, 0, none⟩) n (cp s))) (ds := [19]) ⟨hp0, hgs⟩ (fun hHeld => ?_)
     generalize w2.drew = w5 at HO3 HPV3 HSW hp0 hgs hgi hgsf hgif hst hstf hHeld ⊢
     refine pu_ 0 28 ?_; refine tk_ 1 29 ?_; refine pu_ 2 30 ?_; refine tk_ 3 31 ?_; refine pu_ 4 32 ?_; refine pu_ 5 33 ?_; refine pu_ 6 34 ?_; refine tk_ 7 35 ?_; refine pu_ 8 36 ?_; refine pu_ 9 37 ?_; refine pu_ 10 38 ?_; refine tk_ 11 39 ?_; refine pu_ 12 40 ?_; refine tk_ 13 41 ?_; refine pu_ 14 42 ?_
     refine on_ 15 (some 43) (fun K hK => ?_)
     refine value_ (w1 := w5) (v := .slice (some ⟨b i, 0, none⟩) n (cp i)) (by rfl) rfl (by go_simp) ?_
     refine hK.out _ _ hHeld (fun hHeld => ?_)
     clear hK K
     refine norm_ (a' := ?_) ?_ ?_
     rotate_left
     ·show Act.put _ (some 43) _ = _
      simp only [Act.put, List.setIfInBounds_toArray, List.set_cons_zero, List.set_cons_succ, i64_w, i32_w]
      rfl
     refine pu_ 16 44 ?_
     refine on_ 17 none (fun K hK => ?_)
     refine skip_ (w1 := ?_) (by rfl) rfl ?_ ?_
     rotate_left
     ·go_simp
      rfl
     refine hK.out _ _ ⟨(cset_other (by intro e; exact HNG.out (congrArg Addr.block e))).trans hp0, hst⟩ (fun hHeld => ?_)
     clear hK K
     refine pu_ 18 45 ?_
     refine la_ 19 none (fun K hK => ?_)
     refine skip_ (w1 := ?_) (by rfl) rfl ?_ ?_
     rotate_left
     ·go_simp
      rfl
     refine hK.out _ _ ?_
     clear hK K
     refine done_ (by kernel_rfl) ?_
     have HPV : Aside0 (((w5.setCell ⟨g, i, none⟩ (.slice (some ⟨b s, 0, none⟩) n (cp s))).setCell ⟨g, s, none⟩ (.slice (some ⟨b i, 0, none⟩) n (cp i))).cell? ⟨pv, 0, none⟩ = some (.int .i64 (i : Int))) := ⟨by
      rw [cset_other (by intro e; exact HNG.out (congrArg Addr.block e)), cset_other (by intro e; exact HNG.out (congrArg Addr.block e))]; exact HPV3.out⟩
     have HNB2 : Aside0 (∀ j, j < n → b (sw i s j) ≠ pv) := ⟨fun j hj => HNB.out _ (sw_lt HLT.out HSN.out hj)⟩
     have HNZ2 : Aside0 ((fun j => M (sw i s j)) i i ≠ 0) := ⟨by show M (sw i s i) i ≠ 0; rw [show sw i s i = s from by simp [sw]]; exact HNZ.out⟩
     have HR3 : Aside0 (dgo n q (i + 1) (el (fun j => M (sw i s j)) i last) ((fun j => M (sw i s j)) i i) (wrap64 (-turn)) = R) := HR2
     clear HR2 HNB HNZ HO3 HPV3 hp0 hgs hgi hgsf hgif hst hstf hHeld
     have HO2 := HSW
     clear HSW
     generalize (w5.setCell ⟨g, i, none⟩ (.slice (some ⟨b s, 0, none⟩) n (cp s))).setCell ⟨g, s, none⟩ (.slice (some ⟨b i, 0, none⟩) n (cp i)) = w6 at HO2 HPV ⊢
     generalize Value.bool (decide ((kp : Int) < 0)) = uu1
     generalize Value.bool (decide (0 < kp)) = uu2
     have ⟨b2, hb2⟩ : ∃ b2 : Nat → Nat, b2 = fun j => b (sw i s j) := ⟨_, rfl⟩
     have ⟨cp2, hcp2⟩ : ∃ cp2 : Nat → Nat, cp2 = fun j => cp (sw i s j) := ⟨_, rfl⟩
     have ⟨M2, hM2⟩ : ∃ M2 : Mat, M2 = fun j => M (sw i s j) := ⟨_, rfl⟩
     have HNB : Aside0 (∀ j, j < n → b2 j ≠ pv) := ⟨fun j hj => by rw [hb2]; exact HNB2.out j hj⟩
     rw [← hb2, ← hcp2, ← hM2] at HO2
     rw [← hM2] at HNZ2 HR3
     have HR2 := HR3
     clear HR3 HNB2 hb2 hcp2 hM2
     have HF := HNZ2
     clear HNZ2
     have hgi1 : IntKind.i64.wrap ((i : Int) + 1) = ((i + 1 : Nat) : Int) := by rw [IntWalk.i64_in _ (by have := HN.out; have := HLT.out; omega)]; rfl
     have HGI1 := Aside0.mk hgi1
     have hi1z : ((i + 1 : Nat) : Int) ≤ (n : Int) := by have := HLT.out; omega
     have h0z1 : (0 : Int) ≤ ((i + 1 : Nat) : Int) := by omega
     by_cases hcc : cap = i + 1
     ·have hp0 := HPV.out
      have hn1 : n = i + 1 := by have := HCAP.out; have := HLT.out; omega
      have h00 : ¬ (0 : Int) < ((n - (i + 1) : Nat) : Int) := by omega
      have HN1 := Aside0.mk hn1
      have hcct := eq_true hcc
      clear hn1 hcc
      go_wp2
      go_loopg [53] 1 (fun gg v53 w3 => v53 = .int .i64 0 ∧ Aside0 (Own w w3 g n b2 cp2 M2) ∧ Aside0 (w3.cell? ⟨pv, 0, none⟩ = some (.int .i64 (i : Int))))
      case atStart => exact ⟨rfl, HO2, HPV⟩
      case round =>
       clear HO2 HPV hp0
       obtain ⟨rfl, HO3, HPV3⟩ := hrel
       have HO4 := Aside0.mk (HO3.out.step (below_drew (Below.refl wr.heap.size wr)))
       have HPV4 : Aside0 (wr.drew.cell? ⟨pv, 0, none⟩ = some (.int .i64 (i : Int))) := ⟨HPV3.out⟩
       have hp3 := HPV4.out
       have hog := (HO4.out.og i HLT.out).1
       have hii := (HO4.out.ob i i HLT.out HLT.out).1
       go_wp2
       refine st_ (n := 8) (S := fun w' => w'.cell? ⟨pv, 0, none⟩ = some (.int .i64 (i : Int)) ∧ w'.cell? ⟨g, i, none⟩ = some (.slice (some ⟨b2 i, 0, none⟩) n (cp2 i)) ∧ w'.cell? ⟨b2 i, i, none⟩ = some (.int .i64 ((M2) i i))) (ds := []) ⟨hp3, hog, hii⟩ (fun hHeld => ?_)
       generalize wr.drew = w5 at HO4 HPV4 hp3 hog hii hHeld ⊢
       refine pu_ 0 96 ?_; refine tk_ 1 97 ?_; refine pu_ 2 98 ?_; refine tk_ 3 99 ?_; refine tk_ 4 100 ?_; refine pu_ 5 101 ?_; refine tk_ 6 102 ?_; refine pu_ 7 4 ?_
       refine done_ (by kernel_rfl) ?_
       go_wp2
       go_roundg (n - (i + 1))
       case measure => have := HG.out; have := HLT.out; omega
       case rel => exact ⟨i + 1, el (M2) i last, b2, cp2, (M2) i i, wrap64 (-turn), by have := HLT.out; omega, by omega, rfl, rfl, by first | rfl | (rw [HGI1.out]), ⟨HO4.out.congr (fun a b ha _ => by unfold el; rw [if_neg (by have := HN1.out; omega)])⟩, HF, ⟨by rw [show n - (i + 1) = q from by have := HQ.out; omega]; exact HR2.out⟩⟩
     ·have hp0 := HPV.out
      go_wp2
      go_loopg [53] n (fun gg v53 w3 => ∃ t : Nat, i + 1 + t ≤ n ∧ n - (i + 1 + t) ≤ gg ∧ v53 = .int .i64 (t : Int) ∧ Aside0 (Own w w3 g n b2 cp2 (mid M2 i last (i + 1 + t) i)) ∧ Aside0 (w3.cell? ⟨pv, 0, none⟩ = some (.int .i64 (i : Int))))
      case atStart => exact ⟨0, by have := HLT.out; omega, by omega, by simp, ⟨HO2.out.congr (fun a b _ _ => (mid_start _ i last a b).symm)⟩, HPV⟩
      case round =>
       clear HO2 HPV hp0
       obtain ⟨t, ht, hg2, rfl, HO3, HPV3⟩ := hrel
       have HT := Aside0.mk ht
       have HG2 := Aside0.mk hg2
       by_cases htn : i + 1 + t < n
       ·have htz : (t : Int) < ((n - (i + 1) : Nat) : Int) := by omega
        have h0t : (0 : Int) ≤ (t : Int) := by omega
        have HTN := Aside0.mk htn
        have hog := (HO3.out.og (i + 1 + t) htn).1
        have hf0 := (HO3.out.ob (i + 1 + t) i htn HLT.out).1
        rw [mid_at _ i last (i + 1 + t) i i (Nat.le_refl _)] at hf0
        have hp3 := HPV3.out
        have ht1 : IntKind.i64.wrap ((t : Int) + 1) = ((t + 1 : Nat) : Int) := by rw [IntWalk.i64_in _ (by have := HN.out; omega)]; rfl
        have HT1 := Aside0.mk ht1
        generalize hr : i + 1 + t = r at *
        have HRE := Aside0.mk hr
        have htr : i + 1 + t = r := hr
        clear hr
        go_wp2
        go_loopg [11] n (fun gg v11 w4 => ∃ c' : Nat, i ≤ c' ∧ c' ≤ n ∧ n - c' ≤ gg ∧ v11 = .int .i64 (c' : Int) ∧ Aside0 (Own w w4 g n b2 cp2 (mid M2 i last r c')) ∧ Aside0 (w4.cell? ⟨pv, 0, none⟩ = some (.int .i64 (i : Int))))
        case atStart => exact ⟨i, Nat.le_refl _, HI.out, by omega, rfl, HO3, HPV3⟩
        case round =>
         clear HO3 HPV3 hp3 hog hf0
         obtain ⟨c', hc1, hc2, hg3, rfl, HO4, HPV4⟩ := hrel
         have HC1 := Aside0.mk hc1
         have HC2 := Aside0.mk hc2
         have HG3 := Aside0.mk hg3
         by_cases hcn : c' < n
         ·have hcz : (c' : Int) < (n : Int) := by omega
          have h0c : (0 : Int) ≤ (c' : Int) := by omega
          have HCN := Aside0.mk hcn
          have HO5 := Aside0.mk (HO4.out.step (below_drew (Below.refl wr.heap.size wr)))
          have HPV5 : Aside0 (wr.drew.cell? ⟨pv, 0, none⟩ = some (.int .i64 (i : Int))) := ⟨HPV4.out⟩
          have h1 := (HO5.out.ob r c' HTN.out hcn).1
          have h1f := (HO5.out.ob r c' HTN.out hcn).2
          have h2 := (HO5.out.og i HLT.out).1
          have h3 := (HO5.out.ob i i HLT.out HLT.out).1
          have h4 := (HO5.out.ob i c' HLT.out hcn).1
          rw [mid_at _ i last r c' c' (Nat.le_refl _)] at h1
          rw [mid_head] at h3 h4
          have hp4 := HPV5.out
          have hl0 : (last == 0) = false := by have := HL.out; simpa using this
          have hl1 : ¬ last = 0 := HL.out
          have hc11 : IntKind.i64.wrap ((c' : Int) + 1) = ((c' + 1 : Nat) : Int) := by rw [IntWalk.i64_in _ (by have := HN.out; omega)]; rfl
          have HC11 := Aside0.mk hc11
          clear hc1 hc2 hg3 hcn
          go_wp2
          refine st_ (n := 28) (S := fun w' => w'.cell? ⟨b2 r, c', none⟩ = some (.int .i64 ((M2) r c')) ∧ w'.cell? ⟨pv, 0, none⟩ = some (.int .i64 (i : Int)) ∧ w'.cell? ⟨g, i, none⟩ = some (.slice (some ⟨b2 i, 0, none⟩) n (cp2 i)) ∧ w'.cell? ⟨b2 i, i, none⟩ = some (.int .i64 ((M2) i i)) ∧ w'.cell? ⟨b2 i, c', none⟩ = some (.int .i64 ((M2) i c'))) (ds := [27]) ⟨h1, hp4, h2, h3, h4⟩ (fun hHeld => ?_)
          generalize wr.drew = w5 at HO5 HPV5 h1 hp4 h2 h3 h4 h1f hHeld ⊢
          refine pu_ 0 68 ?_; refine pu_ 1 69 ?_; refine pu_ 2 70 ?_; refine pu_ 3 71 ?_; refine pu_ 4 72 ?_; refine tk_ 5 73 ?_; refine pu_ 6 74 ?_; refine tk_ 7 75 ?_; refine pu_ 8 76 ?_; refine tk_ 9 77 ?_; refine tk_ 10 78 ?_; refine pu_ 11 79 ?_; refine tk_ 12 80 ?_; refine pu_ 13 81 ?_; refine pu_ 14 82 ?_; refine pu_ 15 83 ?_; refine tk_ 16 84 ?_; refine pu_ 17 85 ?_; refine tk_ 18 86 ?_; refine pu_ 19 87 ?_; refine pu_ 20 88 ?_; refine tk_ 21 89 ?_; refine pu_ 22 90 ?_; refine pu_ 23 91 ?_; refine pu_ 24 92 ?_; refine pu_ 25 93 ?_; refine pu_ 26 94 ?_
          refine la_ 27 none (fun K hK => ?_)
          refine skip_ (w1 := ?_) (by rfl) rfl ?_ ?_
          rotate_left
          ·go_simp
           rfl
          refine hK.out _ _ ?_
          clear hK K
          refine done_ (by kernel_rfl) ?_
          go_wp2
          go_roundg (n - (c' + 1))
          case measure => have := HG3.out; have := HCN.out; omega
          case rel =>
           have hput := (HO5.out.put HTN.out HCN.out (ev M2 i last r c')).congr (M' := mid M2 i last r (c' + 1)) (fun a b _ _ => mid_next _ i last r c' (by have := HRE.out; omega) HC1.out a b)
           refine ⟨c' + 1, by have := HC1.out; omega, HCN.out, by omega, by first | rfl | (rw [HC11.out]) | (simp [HC11.out]), ⟨hput⟩, ⟨?_⟩⟩
           rw [cset_other (by intro e; exact HNB.out r HTN.out (congrArg Addr.block e))]
           exact HPV5.out
         ·have hcz : ¬ (c' : Int) < (n : Int) := by omega
          obtain rfl : c' = n := by have := HC2.out; omega
          clear hcn hc1 hc2 hg3
          go_wp2
          go_roundg (c' - (r + 1))
          case measure => have := HG2.out; have := HTN.out; omega
          case rel => exact ⟨t + 1, by have := HTN.out; have := HRE.out; omega, by have := HRE.out; omega, by first | rfl | (rw [HT1.out]) | (simp [HT1.out]), ⟨HO4.out.congr (fun a b _ hb => by rw [mid_row _ i last r a b hb, show i + 1 + (t + 1) = r + 1 from by have := HRE.out; omega])⟩, HPV4⟩
       ·have htz : ¬ (t : Int) < ((n - (i + 1) : Nat) : Int) := by omega
        have hn1 : i + 1 + t = n := by omega
        rw [hn1] at HO3
        have HO4 := Aside0.mk (HO3.out.step (below_drew (Below.refl wr.heap.size wr)))
        have HPV4 : Aside0 (wr.drew.cell? ⟨pv, 0, none⟩ = some (.int .i64 (i : Int))) := ⟨HPV3.out⟩
        have hp3 := HPV4.out
        have hog := (HO4.out.og i HLT.out).1
        have hii := (HO4.out.ob i i HLT.out HLT.out).1
        rw [mid_head] at hii
        clear hn1 htn ht hg2
        go_wp2
        refine st_ (n := 8) (S := fun w' => w'.cell? ⟨pv, 0, none⟩ = some (.int .i64 (i : Int)) ∧ w'.cell? ⟨g, i, none⟩ = some (.slice (some ⟨b2 i, 0, none⟩) n (cp2 i)) ∧ w'.cell? ⟨b2 i, i, none⟩ = some (.int .i64 ((M2) i i))) (ds := []) ⟨hp3, hog, hii⟩ (fun hHeld => ?_)
        generalize wr.drew = w5 at HO4 HPV4 hp3 hog hii hHeld ⊢
        refine pu_ 0 96 ?_; refine tk_ 1 97 ?_; refine pu_ 2 98 ?_; refine tk_ 3 99 ?_; refine tk_ 4 100 ?_; refine pu_ 5 101 ?_; refine tk_ 6 102 ?_; refine pu_ 7 4 ?_
        refine done_ (by kernel_rfl) ?_
        go_wp2
        go_roundg (n - (i + 1))
        case measure => have := HG.out; have := HLT.out; omega
        case rel => exact ⟨i + 1, el (M2) i last, b2, cp2, (M2) i i, wrap64 (-turn), by have := HLT.out; omega, by omega, rfl, rfl, by first | rfl | (rw [HGI1.out]), ⟨HO4.out.congr (fun a b ha _ => mid_end _ i last a b ha)⟩, HF, ⟨by rw [show n - (i + 1) = q from by have := HQ.out; omega]; exact HR2.out⟩⟩
  ·obtain rfl : i = n := by omega
   have hltz : ¬ (i : Int) < (i : Int) := by omega
   rw [Nat.sub_self] at HR
   go_wp2
   go_ret
   exact ⟨by rw [← HR.out]; rfl, HO.out.below⟩
def impl_determinant.f (l0 : List (List Int)) : Option Int := if l0.length ≤ 1000 ∧ ∀ x ∈ l0, x.length = l0.length then some (dgo l0.length l0.length 0 (en l0) 1 1) else none
theorem det_none (A : Option Addr) (c : Nat) (w : World) (hr : Kd.C (Kd.slice 2 (Kd.int .i64)) w A 0 []) :
  Calls Try.prog 143 #[.slice A 0 c] w fun e w' => e = .returned (.int .i64 1) ∧ Below w.heap.size w w' := by
 obtain ⟨k, hk⟩ := evk (copy_eq [] (by decide) (fun x hx => by cases hx))
 have hcopy := fun W (hW : Below w.heap.size w W) => impl_copyRows.calls k A c [] [] W (Kd.C_below hr hW) (Nat.zero_le _) hk
 have HCOPY := Aside0.mk hcopy
 clear hcopy hk hr
 go_enter Try.func143, Try.ntmps143
 go_wp2_with fail
 refine (HCOPY.out _ (Below.refl _ _)).mono ?_
 rintro e w1 ⟨v0, rfl, hS, hB⟩
 obtain ⟨A1, c1, rfl⟩ := Kd.S_slice hS
 have HB := Aside0.mk hB
 clear HCOPY hS hB
 go_wp2
 go_loopg [4, 5, 16] 1 (fun gg v4 v5 v16 wr => v4 = .int .i64 1 ∧ v5 = .int .i64 1 ∧ v16 = .int .i64 0 ∧ Aside0 (Below w.heap.size w wr))
 case atStart => exact ⟨rfl, rfl, rfl, HB⟩
 case round =>
  obtain ⟨rfl, rfl, rfl, HB2⟩ := hrel
  go_wp2
  go_ret
  exact ⟨by rfl, HB2.out⟩
theorem impl_determinant.calls (A0 : Option Addr) (c0 : Nat) (l0 : List (List Int)) (r : Int) (w : World) (hr0 : Kd.C (Kd.slice 2 (Kd.int .i64)) w A0 l0.length l0) (hc0 : l0.length ≤ c0) (h : impl_determinant.f l0 = some r) :
  Calls Try.prog 143 #[.slice A0 l0.length c0] w fun e w' => e = .returned (.int .i64 r) ∧ Below w.heap.size w w' := by
 unfold impl_determinant.f at h
 split at h
 case isFalse => cases h
 rename_i hc
 have h := Option.some.inj h
 by_cases hp : 0 < l0.length
 ·exact det_calls l0.length r A0 c0 l0 w hr0 hc0 rfl hp hc.1 hc.2 h
 ·have e : l0 = [] := List.eq_nil_of_length_eq_zero (by omega)
  subst e
  have e1 : r = 1 := by rw [← h]; show wrap64 (1 * 1) = 1; exact w64 (by omega) (by omega)
  subst e1
  exact det_none A0 c0 w hr0
end Go.Proofs.Ythdoilfjcgickaa.Pr
end
section
namespace Go.Proofs.Ythdoilfjcgickaa.Pr
open Go.RowKit Go.Proofs.YthdoilfjcgickaaW.PrintWords Go.Proofs.YthdoilfjcgickaaW.PrintLast Go.Proofs.YthdoilfjcgickaaW.PrintMore
attribute [local go_sem] max2_int min2_int max_two min_two max_three min_three max_four min_four
def impl_within.f (a0 : Int) (a1 : Int) (a2 : Int) : Option (Bool) := if a0 ≥ a1 then (some (decide (a0 ≤ a2))) else (some false)
theorem impl_within.calls (a0 : Int) (a1 : Int) (a2 : Int) (r : Bool) (w : World) (h : impl_within.f a0 a1 a2 = some r) :
  Calls Try.prog 92 #[.int .i64 a0, .int .i64 a1, .int .i64 a2] w fun e w' => e = .returned (.bool r) ∧ Drawn0 w w' := by
 have H : (if a0 ≥ a1 then (some (decide (a0 ≤ a2))) else (some false)) = some r := h
 clear h
 by_cases c4 : a0 ≥ a1
 ·rw [if_pos c4] at H
  have c4b0 : decide (a1 ≤ a0) = true := decide_eq_true c4
  clear c4
  obtain rfl := Option.some.inj H
  go_enter Try.func92, Try.ntmps92
  go_wp2
  go_ret
  exact ⟨by first | rfl | (simp; done) | (simp [*]; done), by repeat (first | exact Drawn0.refl _ | apply Drawn0.step)⟩
 ·rw [if_neg c4] at H
  have c4b0 : decide (a1 ≤ a0) = false := decide_eq_false c4
  clear c4
  obtain rfl := Option.some.inj H
  go_enter Try.func92, Try.ntmps92
  go_wp2
  go_ret
  exact ⟨by first | rfl | (simp; done) | (simp [*]; done), by repeat (first | exact Drawn0.refl _ | apply Drawn0.step)⟩
end Go.Proofs.Ythdoilfjcgickaa.Pr
end
section
namespace Go.Proofs.Ythdoilfjcgickaa.Pr
open Go.RowKit Go.Proofs.YthdoilfjcgickaaW.PrintWords Go.Proofs.YthdoilfjcgickaaW.PrintLast Go.Proofs.YthdoilfjcgickaaW.PrintMore
def badL (k : Int) (row : List Int) : Bool := (row.length : Int) != k
theorem isSquare1 (gb : Nat) (k : Int) (A : Option Addr) (c : Nat) (x : List Int) (w : World) (hb : w.cell? ⟨gb, 0, none⟩ = some (.int .i64 k)) :
  Calls Try.prog 157 (#[.slice A x.length c] ++ #[.pointer (some ⟨gb, 0, none⟩)]) w fun e w' => e = .returned (.bool (badL k x)) ∧ Below w.heap.size w w' := by
 unfold badL
 show Calls Try.prog 157 #[.slice A x.length c, .pointer (some ⟨gb, 0, none⟩)] w _
 by_cases e : (x.length : Int) = k
 ·have h1 : ((x.length : Int) != k) = false := by simp [e]
  have h2 : ((x.length : Int) == k) = true := by simp [e]
  clear e
  go_enter Try.func157, Try.ntmps157
  go_wp2
  go_ret
  exact ⟨by rw [h1]; rfl, Below.refl _ _⟩
 ·have h1 : ((x.length : Int) != k) = true := by simp [e]
  have h2 : ((x.length : Int) == k) = false := by simp [e]
  clear e
  go_enter Try.func157, Try.ntmps157
  go_wp2
  go_ret
  exact ⟨by rw [h1]; rfl, Below.refl _ _⟩
theorem isSquare1_enters : ∀ args w, (callFunc 157 args).run Try.prog w = .ok (.enter 157 args) w := enters_fn Try.func157 (by kernel_rfl) rfl
def impl_isSquare.f (l0 : List (List Int)) (a1 : Int) : Option Bool := some (((l0.length : Int) == a1) && !(l0.any (badL a1)))
theorem impl_isSquare.calls (A0 : Option Addr) (c0 : Nat) (l0 : List (List Int)) (a1 : Int) (r : Bool) (w : World) (hr0 : Kd.C (Kd.slice 2 (Kd.int .i64)) w A0 l0.length l0) (hc0 : l0.length ≤ c0) (h : impl_isSquare.f l0 a1 = some r) :
  Calls Try.prog 137 #[.slice A0 l0.length c0, .int .i64 a1] w fun e w' => e = .returned (.bool r) ∧ Below w.heap.size w w' := by
 have HR := Aside0.mk hr0
 clear hr0 hc0
 have hv := (Option.some.inj h)
 clear h
 by_cases e : (l0.length : Int) = a1
 ·have h1 : ((l0.length : Int) == a1) = true := by simp [e]
  rw [h1, Bool.true_and] at hv
  have HV := Aside0.mk hv
  clear hv e
  have hcall := fun (gb : Nat) W (hW : Below w.heap.size w W) (hgb : gb < W.heap.size) (hcell : W.cell? ⟨gb, 0, none⟩ = some (.int .i64 a1)) =>
   containsFuncRows (badL a1) 157 #[.pointer (some ⟨gb, 0, none⟩)] isSquare1_enters A0 c0 l0 W (Kd.C_below HR.out hW)
    (fun W' A c x _ hb _ hC => isSquare1 gb a1 A c x W' ((hb.cell (p := ⟨gb, 0, none⟩) hgb).trans hcell))
  have HC := Aside0.mk hcall
  clear hcall
  generalize l0.any (badL a1) = b at HC HV
  go_enter Try.func137, Try.ntmps137
  go_wp2_with fail
  refine (HC.out _ _ ((Below.refl _ _).alloc (Nat.le_refl _) _) (by simp) (by simp)).mono ?_
  rintro e w' ⟨rfl, hb'⟩
  go_wp2
  go_ret
  exact ⟨by rw [← HV.out]; rfl, ((Below.refl _ _).alloc (Nat.le_refl _) _).trans (hb'.mono (by simp))⟩
 ·have h1 : ((l0.length : Int) == a1) = false := by simp [e]
  rw [h1, Bool.false_and] at hv
  have HV := Aside0.mk hv
  clear hv e
  go_enter Try.func137, Try.ntmps137
  go_wp2
  go_ret
  exact ⟨by rw [← HV.out]; rfl, (Below.refl _ _).alloc (Nat.le_refl _) _⟩
end Go.Proofs.Ythdoilfjcgickaa.Pr
end
section
namespace Go.Proofs.Ythdoilfjcgickaa.Pr
open Go.RowKit Go.Proofs.YthdoilfjcgickaaW.PrintWords Go.Proofs.YthdoilfjcgickaaW.PrintLast Go.Proofs.YthdoilfjcgickaaW.PrintMore
def IntsPred (g : Nat) (lb : Array Value) (p : Int → Bool) (w : World) (l : List Int) : Prop :=
 ∀ (W : World) (x : Int), x ∈ l → Below w.heap.size w W → Calls Try.prog g (#[.int .i64 x] ++ lb) W fun e w' => e = .returned (.bool (p x)) ∧ Below W.heap.size W w'
theorem indexFuncInts (p : Int → Bool) (g : Nat) (lb : Array Value) (eg : ∀ args w, (callFunc g args).run Try.prog w = .ok (.enter g args) w) (A : Option Addr) (c : Nat) (l : List Int) (w : World)
  (hr : Kd.C (Kd.int .i64) w A l.length l) (hp : IntsPred g lb p w l) :
  Calls Try.prog 148 #[.slice A l.length c, .func (.func g) #[] lb] w fun e w' => e = .returned (.int .i64 (idxP p l 0)) ∧ Below w.heap.size w w' := by
 have HR := Aside0.mk hr
 have HP := Aside0.mk hp
 have hbig : l.length ≤ 9223372036854775807 := hr.2.1
 clear hr hp
 go_enter Try.func148, Try.ntmps148
 go_wp2
 go_loopg [5, 8] l.length (fun gg _ s8 wr => ∃ kk : Nat, kk ≤ l.length ∧ l.length - kk ≤ gg ∧ s8 = .int .i64 kk ∧ Aside0 (Below w.heap.size w wr) ∧ Aside0 (∀ j (hj : j < l.length), j < kk → p l[j] = false))
 case atStart => exact ⟨0, Nat.zero_le _, by omega, rfl, ⟨Below.refl _ w⟩, ⟨fun j _ hj => absurd hj (Nat.not_lt_zero _)⟩⟩
 case round =>
  obtain ⟨kk, hkk, hg, rfl, BW, F⟩ := hrel
  by_cases hlt : kk < l.length
  ·obtain ⟨ad, e, hx⟩ := Kd.at_int HR.out kk (by omega) (by omega)
   cases e
   rw [Int.toNat_natCast] at hx
   have hx' := (BW.out.cell (World.block_lt_of_cell? w _ hx)).trans hx
   clear hx
   have hel : rd l (kk : Int) = l[kk] := by simp [rd, hlt]
   have hcall := HP.out wr l[kk] (List.getElem_mem hlt) BW.out
   rw [hel] at hx'
   clear hel
   have hltz : (kk : Int) < (l.length : Int) := by omega
   have h0z : (0 : Int) ≤ (kk : Int) := by omega
   generalize hy : l[kk] = y at hx' hcall
   have HY := Aside0.mk hy
   clear hy
   cases hq : p y with
   | true =>
    rw [hq] at hcall
    have HQ := Aside0.mk hq
    clear hq
    go_wp2_with fail
    refine hcall.mono ?_
    rintro e w' ⟨rfl, hb'⟩
    clear hcall
    go_wp2
    go_ret
    refine ⟨?_, Below.trans BW.out (hb'.mono BW.out.size)⟩
    rw [idxP_hit p l kk hlt F.out (by rw [HY.out]; exact HQ.out)]
    rfl
   | false =>
    rw [hq] at hcall
    have HQ := Aside0.mk hq
    clear hq
    go_wp2_with fail
    refine hcall.mono ?_
    rintro e w' ⟨rfl, hb'⟩
    clear hcall
    go_wp2
    go_roundg (l.length - (kk + 1))
    case measure => omega
    case rel =>
     refine ⟨kk + 1, by omega, by omega, by go_num, ⟨Below.trans BW.out (hb'.mono BW.out.size)⟩, ⟨fun j hj hjk => ?_⟩⟩
     by_cases e : j = kk
     ·subst e
      rw [HY.out]; exact HQ.out
     ·exact F.out j hj (by omega)
  ·have hltz : ¬ (kk : Int) < (l.length : Int) := by omega
   obtain rfl : kk = l.length := by omega
   go_wp2
   go_ret
   refine ⟨?_, BW.out⟩
   rw [idxP_miss p l (fun i hi => F.out i hi hi)]
   rfl
theorem containsFuncInts (p : Int → Bool) (g : Nat) (lb : Array Value) (eg : ∀ args w, (callFunc g args).run Try.prog w = .ok (.enter g args) w) (A : Option Addr) (c : Nat) (l : List Int) (w : World)
  (hr : Kd.C (Kd.int .i64) w A l.length l) (hp : IntsPred g lb p w l) :
  Calls Try.prog 113 #[.slice A l.length c, .func (.func g) #[] lb] w fun e w' => e = .returned (.bool (l.any p)) ∧ Below w.heap.size w w' := by
 rw [← idxP_nonneg p l 0 (Int.le_refl _)]
 have HR := Aside0.mk hr
 have HP := Aside0.mk hp
 clear hr hp
 go_enter Try.func113, Try.ntmps113
 go_wp2_with fail
 refine (indexFuncInts p g lb eg A c l _ HR.out HP.out).mono ?_
 rintro e w' ⟨rfl, hb'⟩
 go_wp2
 go_ret
 exact ⟨rfl, hb'⟩
end Go.Proofs.Ythdoilfjcgickaa.Pr
end
section
namespace Go.Proofs.Ythdoilfjcgickaa.Pr
open Go.RowKit Go.Proofs.YthdoilfjcgickaaW.PrintWords Go.Proofs.YthdoilfjcgickaaW.PrintLast Go.Proofs.YthdoilfjcgickaaW.PrintMore
attribute [local go_sem] max2_int min2_int max_two min_two max_three min_three max_four min_four
def spec_l01In.f (a0 : Int) (a1 : Int) (a2 : Int) : Option (Bool) := if a0 ≥ a1 then (some (decide (a0 ≤ a2))) else (some false)
theorem spec_l01In.calls (a0 : Int) (a1 : Int) (a2 : Int) (r : Bool) (w : World) (h : spec_l01In.f a0 a1 a2 = some r) :
  Calls Try.prog 91 #[.int .i64 a0, .int .i64 a1, .int .i64 a2] w fun e w' => e = .returned (.bool r) ∧ Drawn0 w w' := by
 have H : (if a0 ≥ a1 then (some (decide (a0 ≤ a2))) else (some false)) = some r := h
 clear h
 by_cases c4 : a0 ≥ a1
 ·rw [if_pos c4] at H
  have c4b0 : decide (a1 ≤ a0) = true := decide_eq_true c4
  clear c4
  obtain rfl := Option.some.inj H
  go_enter Try.func91, Try.ntmps91
  go_wp2
  go_ret
  exact ⟨by first | rfl | (simp; done) | (simp [*]; done), by repeat (first | exact Drawn0.refl _ | apply Drawn0.step)⟩
 ·rw [if_neg c4] at H
  have c4b0 : decide (a1 ≤ a0) = false := decide_eq_false c4
  clear c4
  obtain rfl := Option.some.inj H
  go_enter Try.func91, Try.ntmps91
  go_wp2
  go_ret
  exact ⟨by first | rfl | (simp; done) | (simp [*]; done), by repeat (first | exact Drawn0.refl _ | apply Drawn0.step)⟩
def impl_size.f (a0 : Int) : Option (Int) := some (mx a0 (wrap64 (-a0)))
theorem impl_size.calls (a0 : Int) (r : Int) (w : World) (h : impl_size.f a0 = some r) :
  Calls Try.prog 145 #[.int .i64 a0] w fun e w' => e = .returned (.int .i64 r) ∧ Below w.heap.size w w' := by
 have HB := Aside0.mk (Below.refl w.heap.size w)
 have H : (some (mx a0 (wrap64 (-a0)))) = some r := h
 clear h
 obtain ⟨ji2, hji2⟩ : ∃ j_ : Int, (mx a0 (wrap64 (-a0))) = j_ := ⟨_, rfl⟩
 replace H : (some ji2) = some r := by first | (rw [hji2] at H; exact H) | (simp only [hji2] at H ⊢; exact H)
 have hji2_ : (if a0 < (wrap64 (-a0)) then (wrap64 (-a0)) else a0) = ji2 := hji2
 obtain rfl := Option.some.inj H
 go_enter Try.func145, Try.ntmps145
 go_wp2
 go_ret
 exact ⟨by first | rfl | (simp [errW_none, errW_some] <;> rfl) | (simp only [← hji2]; first | rfl | (simp [errW_none, errW_some] <;> rfl)) | (simp [*, errW_none, errW_some] <;> rfl), hb_⟩
def impl_upTo.f (a0 : Int) (a1 : Int) : Option (Bool) := (impl_within.f a0 (wrap64 (-a1)) a1).bind fun t1076 => (some t1076)
theorem impl_upTo.calls (a0 : Int) (a1 : Int) (r : Bool) (w : World) (h : impl_upTo.f a0 a1 = some r) :
  Calls Try.prog 141 #[.int .i64 a0, .int .i64 a1] w fun e w' => e = .returned (.bool r) ∧ Drawn0 w w' := by
 have H : ((impl_within.f a0 (wrap64 (-a1)) a1).bind fun t1076 => (some t1076)) = some r := h
 clear h
 replace H := Option.bind_eq_some_iff.mp H
 obtain ⟨t1076, A30, H⟩ := H
 replace H : (some t1076) = some r := H
 have A3 := Aside0.mk A30
 clear A30
 obtain rfl := Option.some.inj H
 go_enter Try.func141, Try.ntmps141
 go_wp2_with (first | ((with_reducible refine gate_callee (f := 92) rfl ?_); refine goesL_ (some 9) rfl rfl Try.func92 (by kernel_rfl) rfl #[.int .i64 a0, .int .i64 (wrap64 (-a1)), .int .i64 a1] rfl (by (try simp only [List.map_toArray, List.map_cons, List.map_nil]); first | done | rfl | (simp only [List.length_drop, List.length_take]; rfl)) ?_; (with_reducible refine (impl_within.calls a0 (wrap64 (-a1)) a1 t1076 _ A3.out).mono ?_); rintro e w' ⟨rfl, ⟨nd, rfl⟩⟩; refine ⟨_, rfl, ?_⟩))
 go_ret
 exact ⟨by first | rfl | (simp; done) | (simp [*]; done), by repeat (first | exact Drawn0.refl _ | apply Drawn0.step)⟩
end Go.Proofs.Ythdoilfjcgickaa.Pr
end
section
namespace Go.Proofs.Ythdoilfjcgickaa.Pr
open Go.RowKit Go.Proofs.YthdoilfjcgickaaW.PrintWords Go.Proofs.YthdoilfjcgickaaW.PrintLast Go.Proofs.YthdoilfjcgickaaW.PrintMore
def badU (a n : Int) : Bool := !(decide (-a ≤ n) && decide (n ≤ a))
theorem upTo_f (n a : Int) (h0 : 0 ≤ a) (h1 : a ≤ 1099511627776) : impl_upTo.f n a = some (!(badU a n)) := by
 unfold impl_upTo.f impl_within.f badU
 rw [Ma.w64 (by omega) (by omega), Bool.not_not]
 by_cases h : -a ≤ n
 ·rw [if_pos (by omega)]; simp [h]
 ·rw [if_neg (by omega)]; simp [h]
theorem allUpTo1 (gb : Nat) (a n : Int) (w : World) (h0 : 0 ≤ a) (h1 : a ≤ 1099511627776) (hb : w.cell? ⟨gb, 0, none⟩ = some (.int .i64 a)) :
  Calls Try.prog 140 (#[.int .i64 n] ++ #[.pointer (some ⟨gb, 0, none⟩)]) w fun e w' => e = .returned (.bool (badU a n)) ∧ Below w.heap.size w w' := by
 have hf := upTo_f n a h0 h1
 have HF := Aside0.mk hf
 clear hf h0 h1
 show Calls Try.prog 140 #[.int .i64 n, .pointer (some ⟨gb, 0, none⟩)] w _
 generalize badU a n = b at HF ⊢
 go_enter Try.func140, Try.ntmps140
 go_wp2_with fail
 refine (impl_upTo.calls n a _ _ HF.out).mono ?_
 rintro e w' ⟨rfl, ⟨nd, rfl⟩⟩
 go_wp2
 go_ret
 refine ⟨by simp, pw_below_drewN (Below.refl _ _) _⟩
theorem allUpTo1_enters : ∀ args w, (callFunc 140 args).run Try.prog w = .ok (.enter 140 args) w := enters_fn Try.func140 (by kernel_rfl) rfl
def impl_allUpTo.f (l0 : List Int) (a1 : Int) : Option Bool := if 0 ≤ a1 ∧ a1 ≤ 1099511627776 then some (!(l0.any (badU a1))) else none
theorem impl_allUpTo.calls (A0 : Option Addr) (c0 : Nat) (l0 : List Int) (a1 : Int) (r : Bool) (w : World) (hr0 : Kd.C (Kd.int .i64) w A0 l0.length l0) (hc0 : l0.length ≤ c0) (h : impl_allUpTo.f l0 a1 = some r) :
  Calls Try.prog 106 #[.slice A0 l0.length c0, .int .i64 a1] w fun e w' => e = .returned (.bool r) ∧ Below w.heap.size w w' := by
 unfold impl_allUpTo.f at h
 split at h
 case isFalse => cases h
 rename_i ha
 have HR := Aside0.mk hr0
 clear hr0 hc0
 have HV := Aside0.mk (Option.some.inj h)
 clear h
 have hcall := fun (gb : Nat) W (hW : Below w.heap.size w W) (hgb : gb < W.heap.size) (hcell : W.cell? ⟨gb, 0, none⟩ = some (.int .i64 a1)) =>
  containsFuncInts (badU a1) 140 #[.pointer (some ⟨gb, 0, none⟩)] allUpTo1_enters A0 c0 l0 W (Kd.C_below HR.out hW)
   (fun W' x _ hb => allUpTo1 gb a1 x W' ha.1 ha.2 ((hb.cell (p := ⟨gb, 0, none⟩) hgb).trans hcell))
 have HC := Aside0.mk hcall
 clear hcall ha
 generalize l0.any (badU a1) = b at HC HV
 go_enter Try.func106, Try.ntmps106
 go_wp2_with fail
 refine (HC.out _ _ ((Below.refl _ _).alloc (Nat.le_refl _) _) (by simp) (by simp)).mono ?_
 rintro e w' ⟨rfl, hb'⟩
 go_wp2
 go_ret
 exact ⟨by rw [← HV.out]; rfl, ((Below.refl _ _).alloc (Nat.le_refl _) _).trans (hb'.mono (by simp))⟩
end Go.Proofs.Ythdoilfjcgickaa.Pr
end
section
namespace Go.Proofs.Ythdoilfjcgickaa.Pr
open Go.RowKit Go.Proofs.YthdoilfjcgickaaW.PrintWords Go.Proofs.YthdoilfjcgickaaW.PrintLast Go.Proofs.YthdoilfjcgickaaW.PrintMore
def badM (row : List Int) : Bool := row.any (badU 20)
theorem isMatrix1 (A : Option Addr) (c : Nat) (x : List Int) (w : World) (hx : Kd.C (Kd.int .i64) w A x.length x) (hc : x.length ≤ c) :
  Calls Try.prog 139 (#[.slice A x.length c] ++ #[]) w fun e w' => e = .returned (.bool (badM x)) ∧ Below w.heap.size w w' := by
 have HX := Aside0.mk hx
 have HC := Aside0.mk hc
 have hf : impl_allUpTo.f x 20 = some (!(badM x)) := by unfold impl_allUpTo.f badM; rw [if_pos ⟨by decide, by decide⟩]
 have HF := Aside0.mk hf
 clear hx hc hf
 show Calls Try.prog 139 #[.slice A x.length c] w _
 generalize badM x = b at HF ⊢
 go_enter Try.func139, Try.ntmps139
 go_wp2_with fail
 refine (impl_allUpTo.calls A c x 20 _ _ HX.out HC.out HF.out).mono ?_
 rintro e w' ⟨rfl, hb⟩
 go_wp2
 go_ret
 exact ⟨by simp, hb⟩
theorem isMatrix1_enters : ∀ args w, (callFunc 139 args).run Try.prog w = .ok (.enter 139 args) w := enters_fn Try.func139 (by kernel_rfl) rfl
def impl_IsMatrix.f (l0 : List (List Int)) : Option Bool := some ((decide (1 ≤ (l0.length : Int)) && decide ((l0.length : Int) ≤ 5)) && !(l0.any (badL l0.length)) && !(l0.any badM))
theorem within_b (n a b : Int) : impl_within.f n a b = some (decide (a ≤ n) && decide (n ≤ b)) := by
 unfold impl_within.f
 by_cases h : a ≤ n
 ·rw [if_pos (by omega)]; simp [h]
 ·rw [if_neg (by omega)]; simp [h]
theorem impl_IsMatrix.calls (A0 : Option Addr) (c0 : Nat) (l0 : List (List Int)) (r : Bool) (w : World) (hr0 : Kd.C (Kd.slice 2 (Kd.int .i64)) w A0 l0.length l0) (hc0 : l0.length ≤ c0) (h : impl_IsMatrix.f l0 = some r) :
  Calls Try.prog 105 #[.slice A0 l0.length c0] w fun e w' => e = .returned (.bool r) ∧ Below w.heap.size w w' := by
 have HR := Aside0.mk hr0
 have HC0 := Aside0.mk hc0
 have HW := Aside0.mk (within_b (l0.length : Int) 1 5)
 have hsq : impl_isSquare.f l0 (l0.length : Int) = some (!(l0.any (badL l0.length))) := by unfold impl_isSquare.f; simp
 have HS := Aside0.mk hsq
 have hv := (Option.some.inj h)
 have hcall := fun W (hW : Below w.heap.size w W) => containsFuncRows badM 139 #[] isMatrix1_enters A0 c0 l0 W (Kd.C_below HR.out hW) (fun W' A c x _ _ hc hC => isMatrix1 A c x W' hC hc)
 have HC := Aside0.mk hcall
 have HV := Aside0.mk hv
 clear hr0 hc0 h hsq hv hcall
 generalize l0.any badM = b3 at HC HV
 generalize l0.any (badL l0.length) = b2 at HS HV
 generalize (decide (1 ≤ (l0.length : Int)) && decide ((l0.length : Int) ≤ 5)) = b1 at HW HV
 go_enter Try.func105, Try.ntmps105
 go_wp2_with fail
 refine (impl_within.calls _ 1 5 _ _ HW.out).mono ?_
 rintro e w1 ⟨rfl, hd⟩
 have hb1 := hd.below
 have HB1 := Aside0.mk hb1
 clear hb1 hd
 cases b1 with
 | false =>
  go_wp2
  go_ret
  exact ⟨by rw [← HV.out]; rfl, HB1.out⟩
 | true =>
  go_wp2_with fail
  refine (impl_isSquare.calls A0 c0 l0 _ _ _ (Kd.C_below HR.out HB1.out) HC0.out HS.out).mono ?_
  rintro e w2 ⟨rfl, hb2⟩
  have HB2 := Aside0.mk (HB1.out.trans (hb2.mono HB1.out.size))
  clear hb2
  cases b2 with
  | true =>
   go_wp2
   go_ret
   exact ⟨by rw [← HV.out]; rfl, HB2.out⟩
  | false =>
   go_wp2_with fail
   refine (HC.out _ HB2.out).mono ?_
   rintro e w3 ⟨rfl, hb3⟩
   go_wp2
   go_ret
   exact ⟨by rw [← HV.out]; simp, HB2.out.trans (hb3.mono HB2.out.size)⟩
end Go.Proofs.Ythdoilfjcgickaa.Pr
end
section
namespace Go.Proofs.Ythdoilfjcgickaa.Pr
open Go.RowKit Go.Proofs.YthdoilfjcgickaaW.PrintWords Go.Proofs.YthdoilfjcgickaaW.PrintLast Go.Proofs.YthdoilfjcgickaaW.PrintMore
attribute [local go_sem] max2_int min2_int max_two min_two max_three min_three max_four min_four
def impl_IsProblem.f (l0_0 : List (List Int)) (l0_1 : List Int) : Option (Bool) := (impl_IsMatrix.f l0_0).bind fun t324 => (if t324 = true then (if (l0_1.length : Int) = (l0_0.length : Int) then ((impl_allUpTo.f l0_1 100).bind fun t325 => (some t325)) else (some false)) else (some false))
theorem impl_IsProblem.calls (A0_0 : Option Addr) (c0_0 : Nat) (l0_0 : List (List Int)) (A0_1 : Option Addr) (c0_1 : Nat) (l0_1 : List Int) (r : Bool) (w : World) (hr0_0 : Kd.C (Kd.slice 2 (Kd.int .i64)) w A0_0 l0_0.length l0_0) (hc0_0 : l0_0.length ≤ c0_0) (hr0_1 : Kd.C (Kd.int .i64) w A0_1 l0_1.length l0_1) (hc0_1 : l0_1.length ≤ c0_1) (h : impl_IsProblem.f l0_0 l0_1 = some r) :
  Calls Try.prog 69 #[.agg #[.slice A0_0 l0_0.length c0_0, .slice A0_1 l0_1.length c0_1]] w fun e w' => e = .returned (.bool r) ∧ Below w.heap.size w w' := by
 have hu29 := Try.underlying29
 have HR0_0 := Aside0.mk hr0_0
 have HC0_0 := Aside0.mk hc0_0
 clear hr0_0 hc0_0
 have HR0_1 := Aside0.mk hr0_1
 have HC0_1 := Aside0.mk hc0_1
 clear hr0_1 hc0_1
 have HB := Aside0.mk (Below.refl w.heap.size w)
 have H : ((impl_IsMatrix.f l0_0).bind fun t324 => (if t324 = true then (if (l0_1.length : Int) = (l0_0.length : Int) then ((impl_allUpTo.f l0_1 100).bind fun t325 => (some t325)) else (some false)) else (some false))) = some r := h
 clear h
 replace H := Option.bind_eq_some_iff.mp H
 obtain ⟨t324, A20, H⟩ := H
 replace H : (if t324 = true then (if (l0_1.length : Int) = (l0_0.length : Int) then ((impl_allUpTo.f l0_1 100).bind fun t325 => (some t325)) else (some false)) else (some false)) = some r := H
 have A2 := Aside0.mk A20
 clear A20
 by_cases c3 : t324 = true
 ·subst c3
  have H1 : (if (l0_1.length : Int) = (l0_0.length : Int) then ((impl_allUpTo.f l0_1 100).bind fun t325 => (some t325)) else (some false)) = some r := by rw [if_pos rfl] at H; exact H
  clear H
  have H := H1
  clear H1
  by_cases c4 : (l0_1.length : Int) = (l0_0.length : Int)
  ·rw [if_pos c4] at H
   have c4b0 : ((l0_1.length : Int) == (l0_0.length : Int)) = true := beq_iff_eq.mpr c4
   have c4b1 : ((l0_1.length : Int) != (l0_0.length : Int)) = false := bne_eq_false_iff_eq.mpr c4
   have c4b2 : (l0_1.length == l0_0.length) = true := by first | simpa using c4 | (simp at c4 ⊢; omega)
   clear c4
   replace H := Option.bind_eq_some_iff.mp H
   obtain ⟨t325, A50, H⟩ := H
   replace H : (some t325) = some r := H
   have A5 := Aside0.mk A50
   clear A50
   obtain rfl := Option.some.inj H
   go_enter Try.func69, Try.ntmps69
   go_wp2_with (first | ((with_reducible refine gate_dst (N := 1) rfl ?_); (try (refine gate_guard (by rfl) ?_; dsimp only)); refine box_event ?hg (N := 1) ?hd (cs := #[.slice A0_0 l0_0.length c0_0, .slice A0_1 l0_1.length c0_1]) (t := 29) ?hr ?_; (case hd => rfl); (case hg => rfl); (case hr => first | (go_simp; done) | (go_simp; rfl)); intro gb323 hg w6 hbox hb; have n0_ := Aside0.mk (bs_ hb); have n1_ := Aside0.mk (hbox); have n2_ := Aside0.mk ((by rw [hg]; exact bz_ : w.heap.size ≤ gb323)); have n3_ := Aside0.mk ((by rw [hg]; exact bz_ : w.heap.size ≤ gb323)); clear HB; have HB := n0_; have BK323 := n1_; have GW323 := n2_; have GE323 := n3_; clear n0_ n1_ n2_ n3_; clear hb hbox hg; have hcz7_0 : w6.cell? ⟨gb323, 0, none⟩ = some (.slice A0_0 l0_0.length c0_0) := (blk_cell BK323.out 0).trans rfl; have hcz7_1 : w6.cell? ⟨gb323, 1, none⟩ = some (.slice A0_1 l0_1.length c0_1) := (blk_cell BK323.out 1).trans rfl; have hfz7_0 := blk_frozen BK323.out 0; have hfz7_1 := blk_frozen BK323.out 1) | ((with_reducible refine gate_callee (f := 105) rfl ?_); refine goesL_ (some 5) rfl rfl Try.func105 (by kernel_rfl) rfl #[.slice A0_0 l0_0.length c0_0] rfl (by (try simp only [List.map_toArray, List.map_cons, List.map_nil]); first | done | rfl | (simp only [List.length_drop, List.length_take]; rfl)) ?_; (with_reducible refine (impl_IsMatrix.calls _ _ l0_0 true _ ?side1 ?side2 A2.out).mono ?_); (case side1 => exact cb_ HR0_0.out HB.out); (case side2 => exact HC0_0.out); rintro e w8 ⟨rfl, hb⟩; refine ⟨_, rfl, ?_⟩; have n0_ := Aside0.mk (bb_ BK323.out hb); have n1_ := Aside0.mk (bs_ hb); clear BK323; clear HB; have BK323 := n0_; have HB := n1_; clear n0_ n1_; (try clear hb); (try clear hb2); (try clear hk); (try clear hi); have hcz9_0 : w8.cell? ⟨gb323, 0, none⟩ = some (.slice A0_0 l0_0.length c0_0) := (blk_cell BK323.out 0).trans rfl; have hcz9_1 : w8.cell? ⟨gb323, 1, none⟩ = some (.slice A0_1 l0_1.length c0_1) := (blk_cell BK323.out 1).trans rfl; have hfz9_0 := blk_frozen BK323.out 0; have hfz9_1 := blk_frozen BK323.out 1) | (go_at_call 106; (with_reducible refine (impl_allUpTo.calls _ _ l0_1 100 t325 _ ?side1 ?side2 A5.out).mono ?_); (case side1 => exact cb_ HR0_1.out HB.out); (case side2 => exact HC0_1.out); rintro e w10 ⟨rfl, hb⟩; have n0_ := Aside0.mk (bb_ BK323.out hb); have n1_ := Aside0.mk (bs_ hb); clear BK323; clear HB; have BK323 := n0_; have HB := n1_; clear n0_ n1_; (try clear hb); (try clear hb2); (try clear hk); (try clear hi)))
   go_ret
   exact ⟨by first | rfl | (simp [errW_none, errW_some] <;> rfl) | (simp [*, errW_none, errW_some] <;> rfl), hb_⟩
  ·rw [if_neg c4] at H
   have c4b0 : ((l0_1.length : Int) == (l0_0.length : Int)) = false := beq_eq_false_iff_ne.mpr c4
   have c4b1 : ((l0_1.length : Int) != (l0_0.length : Int)) = true := bne_iff_ne.mpr c4
   have c4b2 : (l0_1.length == l0_0.length) = false := by first | simpa using c4 | (simp at c4 ⊢; omega)
   obtain rfl := Option.some.inj H
   go_enter Try.func69, Try.ntmps69
   go_wp2_with (first | ((with_reducible refine gate_dst (N := 1) rfl ?_); (try (refine gate_guard (by rfl) ?_; dsimp only)); refine box_event ?hg (N := 1) ?hd (cs := #[.slice A0_0 l0_0.length c0_0, .slice A0_1 l0_1.length c0_1]) (t := 29) ?hr ?_; (case hd => rfl); (case hg => rfl); (case hr => first | (go_simp; done) | (go_simp; rfl)); intro gb323 hg w11 hbox hb; have n0_ := Aside0.mk (bs_ hb); have n1_ := Aside0.mk (hbox); have n2_ := Aside0.mk ((by rw [hg]; exact bz_ : w.heap.size ≤ gb323)); have n3_ := Aside0.mk ((by rw [hg]; exact bz_ : w.heap.size ≤ gb323)); clear HB; have HB := n0_; have BK323 := n1_; have GW323 := n2_; have GE323 := n3_; clear n0_ n1_ n2_ n3_; clear hb hbox hg; have hcz12_0 : w11.cell? ⟨gb323, 0, none⟩ = some (.slice A0_0 l0_0.length c0_0) := (blk_cell BK323.out 0).trans rfl; have hcz12_1 : w11.cell? ⟨gb323, 1, none⟩ = some (.slice A0_1 l0_1.length c0_1) := (blk_cell BK323.out 1).trans rfl; have hfz12_0 := blk_frozen BK323.out 0; have hfz12_1 := blk_frozen BK323.out 1) | ((with_reducible refine gate_callee (f := 105) rfl ?_); refine goesL_ (some 5) rfl rfl Try.func105 (by kernel_rfl) rfl #[.slice A0_0 l0_0.length c0_0] rfl (by (try simp only [List.map_toArray, List.map_cons, List.map_nil]); first | done | rfl | (simp only [List.length_drop, List.length_take]; rfl)) ?_; (with_reducible refine (impl_IsMatrix.calls _ _ l0_0 true _ ?side1 ?side2 A2.out).mono ?_); (case side1 => exact cb_ HR0_0.out HB.out); (case side2 => exact HC0_0.out); rintro e w13 ⟨rfl, hb⟩; refine ⟨_, rfl, ?_⟩; have n0_ := Aside0.mk (bb_ BK323.out hb); have n1_ := Aside0.mk (bs_ hb); clear BK323; clear HB; have BK323 := n0_; have HB := n1_; clear n0_ n1_; (try clear hb); (try clear hb2); (try clear hk); (try clear hi); have hcz14_0 : w13.cell? ⟨gb323, 0, none⟩ = some (.slice A0_0 l0_0.length c0_0) := (blk_cell BK323.out 0).trans rfl; have hcz14_1 : w13.cell? ⟨gb323, 1, none⟩ = some (.slice A0_1 l0_1.length c0_1) := (blk_cell BK323.out 1).trans rfl; have hfz14_0 := blk_frozen BK323.out 0; have hfz14_1 := blk_frozen BK323.out 1))
   go_ret
   exact ⟨by first | rfl | (simp [errW_none, errW_some] <;> rfl) | (simp [*, errW_none, errW_some] <;> rfl), hb_⟩
 ·replace c3 := Bool.eq_false_iff.mpr c3
  subst c3
  have H1 : (some false) = some r := by rw [if_neg (show ¬ (false = true) by decide)] at H; exact H
  clear H
  have H := H1
  clear H1
  obtain rfl := Option.some.inj H
  go_enter Try.func69, Try.ntmps69
  go_wp2_with (first | ((with_reducible refine gate_dst (N := 1) rfl ?_); (try (refine gate_guard (by rfl) ?_; dsimp only)); refine box_event ?hg (N := 1) ?hd (cs := #[.slice A0_0 l0_0.length c0_0, .slice A0_1 l0_1.length c0_1]) (t := 29) ?hr ?_; (case hd => rfl); (case hg => rfl); (case hr => first | (go_simp; done) | (go_simp; rfl)); intro gb323 hg w15 hbox hb; have n0_ := Aside0.mk (bs_ hb); have n1_ := Aside0.mk (hbox); have n2_ := Aside0.mk ((by rw [hg]; exact bz_ : w.heap.size ≤ gb323)); have n3_ := Aside0.mk ((by rw [hg]; exact bz_ : w.heap.size ≤ gb323)); clear HB; have HB := n0_; have BK323 := n1_; have GW323 := n2_; have GE323 := n3_; clear n0_ n1_ n2_ n3_; clear hb hbox hg; have hcz16_0 : w15.cell? ⟨gb323, 0, none⟩ = some (.slice A0_0 l0_0.length c0_0) := (blk_cell BK323.out 0).trans rfl; have hcz16_1 : w15.cell? ⟨gb323, 1, none⟩ = some (.slice A0_1 l0_1.length c0_1) := (blk_cell BK323.out 1).trans rfl; have hfz16_0 := blk_frozen BK323.out 0; have hfz16_1 := blk_frozen BK323.out 1) | ((with_reducible refine gate_callee (f := 105) rfl ?_); refine goesL_ (some 5) rfl rfl Try.func105 (by kernel_rfl) rfl #[.slice A0_0 l0_0.length c0_0] rfl (by (try simp only [List.map_toArray, List.map_cons, List.map_nil]); first | done | rfl | (simp only [List.length_drop, List.length_take]; rfl)) ?_; (with_reducible refine (impl_IsMatrix.calls _ _ l0_0 false _ ?side1 ?side2 A2.out).mono ?_); (case side1 => exact cb_ HR0_0.out HB.out); (case side2 => exact HC0_0.out); rintro e w17 ⟨rfl, hb⟩; refine ⟨_, rfl, ?_⟩; have n0_ := Aside0.mk (bb_ BK323.out hb); have n1_ := Aside0.mk (bs_ hb); clear BK323; clear HB; have BK323 := n0_; have HB := n1_; clear n0_ n1_; (try clear hb); (try clear hb2); (try clear hk); (try clear hi)))
  go_ret
  exact ⟨by first | rfl | (simp [errW_none, errW_some] <;> rfl) | (simp [*, errW_none, errW_some] <;> rfl), hb_⟩
def impl_isSet.f (a0 : Int) (a1 : Int) : Option (Bool) := if 0 ≤ a1 then ((impl_within.f a0 0 (wrap64 ((shl .i64 1 a1) - 1))).bind fun t326 => (some t326)) else (none)
theorem impl_isSet.calls (a0 : Int) (a1 : Int) (r : Bool) (w : World) (h : impl_isSet.f a0 a1 = some r) :
  Calls Try.prog 110 #[.int .i64 a0, .int .i64 a1] w fun e w' => e = .returned (.bool r) ∧ Drawn0 w w' := by
 have H : (if 0 ≤ a1 then ((impl_within.f a0 0 (wrap64 ((shl .i64 1 a1) - 1))).bind fun t326 => (some t326)) else (none)) = some r := h
 clear h
 by_cases c3 : 0 ≤ a1
 ·rw [if_pos c3] at H
  have c3b0 := eq_true c3
  have c3b1 : decide (0 ≤ a1) = true := decide_eq_true c3
  clear c3
  obtain ⟨ji4, hji4⟩ : ∃ j_ : Int, (shl .i64 1 a1) = j_ := ⟨_, rfl⟩
  replace H : ((impl_within.f a0 0 (wrap64 ((ji4) - 1))).bind fun t326 => (some t326)) = some r := by first | (rw [hji4] at H; exact H) | (simp only [hji4] at H ⊢; exact H)
  have hji4_ : (IntKind.i64.wrap (1 * 2 ^ min a1.toNat 64)) = ji4 := hji4
  have hji4z : a1 ≤ 64 → (IntKind.i64.wrap (1 * 2 ^ a1.toNat)) = ji4 := shl_small hji4
  have hji4u : (IntKind.i64.wrap (2 ^ min a1.toNat 64)) = ji4 := by have h_ := hji4_; rw [Int.one_mul] at h_; exact h_
  have hji4v : a1 ≤ 64 → (IntKind.i64.wrap (2 ^ a1.toNat)) = ji4 := fun hle_ => by have h_ := hji4z hle_; rw [Int.one_mul] at h_; exact h_
  have hji4y : (wrap64 (1 * 2 ^ min a1.toNat 64)) = ji4 := (i64_w _).symm.trans hji4_
  have hji4x : a1 ≤ 64 → (wrap64 (1 * 2 ^ a1.toNat)) = ji4 := fun h_ => (i64_w _).symm.trans (hji4z h_)
  replace H := Option.bind_eq_some_iff.mp H
  obtain ⟨t326, A50, H⟩ := H
  replace H : (some t326) = some r := H
  have A5 := Aside0.mk A50
  clear A50
  obtain rfl := Option.some.inj H
  go_enter Try.func110, Try.ntmps110
  go_wp2_with (first | ((with_reducible refine gate_callee (f := 92) rfl ?_); refine goesL_ (some 9) rfl rfl Try.func92 (by kernel_rfl) rfl #[.int .i64 a0, .int .i64 0, .int .i64 (wrap64 ((ji4) - 1))] rfl (by (try simp only [List.map_toArray, List.map_cons, List.map_nil]); first | done | (simp only [hji4]; rfl) | rfl | (simp only [List.length_drop, List.length_take]; rfl)) ?_; (with_reducible refine (impl_within.calls a0 0 (wrap64 ((ji4) - 1)) t326 _ A5.out).mono ?_); rintro e w' ⟨rfl, ⟨nd, rfl⟩⟩; refine ⟨_, rfl, ?_⟩))
  go_ret
  exact ⟨by first | rfl | (simp; done) | (simp only [← hji4] <;> (first | rfl | simp)) | (simp [*]; done), by repeat (first | exact Drawn0.refl _ | apply Drawn0.step)⟩
 ·rw [if_neg c3] at H
  exact absurd H (by simp)
def impl_setCode.f (l0_0 : List (List Int)) (l0_1 : List Int) (a1 : Int) : Option (Int) := (impl_IsProblem.f l0_0 l0_1).bind fun t328 => (if t328 = true then ((impl_isSet.f a1 (l0_1.length : Int)).bind fun t329 => (if t329 = true then (some 0) else (some 2))) else (some 1))
theorem impl_setCode.calls (A0_0 : Option Addr) (c0_0 : Nat) (l0_0 : List (List Int)) (A0_1 : Option Addr) (c0_1 : Nat) (l0_1 : List Int) (a1 : Int) (r : Int) (w : World) (hr0_0 : Kd.C (Kd.slice 2 (Kd.int .i64)) w A0_0 l0_0.length l0_0) (hc0_0 : l0_0.length ≤ c0_0) (hr0_1 : Kd.C (Kd.int .i64) w A0_1 l0_1.length l0_1) (hc0_1 : l0_1.length ≤ c0_1) (h : impl_setCode.f l0_0 l0_1 a1 = some r) :
  Calls Try.prog 76 #[.agg #[.slice A0_0 l0_0.length c0_0, .slice A0_1 l0_1.length c0_1], .int .i64 a1] w fun e w' => e = .returned (.int .i64 r) ∧ Below w.heap.size w w' := by
 have hu29 := Try.underlying29
 have HR0_0 := Aside0.mk hr0_0
 have HC0_0 := Aside0.mk hc0_0
 clear hr0_0 hc0_0
 have HR0_1 := Aside0.mk hr0_1
 have HC0_1 := Aside0.mk hc0_1
 clear hr0_1 hc0_1
 have HB := Aside0.mk (Below.refl w.heap.size w)
 have H : ((impl_IsProblem.f l0_0 l0_1).bind fun t328 => (if t328 = true then ((impl_isSet.f a1 (l0_1.length : Int)).bind fun t329 => (if t329 = true then (some 0) else (some 2))) else (some 1))) = some r := h
 clear h
 replace H := Option.bind_eq_some_iff.mp H
 obtain ⟨t328, A30, H⟩ := H
 replace H : (if t328 = true then ((impl_isSet.f a1 (l0_1.length : Int)).bind fun t329 => (if t329 = true then (some 0) else (some 2))) else (some 1)) = some r := H
 have A3 := Aside0.mk A30
 clear A30
 by_cases c4 : t328 = true
 ·subst c4
  have H1 : ((impl_isSet.f a1 (l0_1.length : Int)).bind fun t329 => (if t329 = true then (some 0) else (some 2))) = some r := by rw [if_pos rfl] at H; exact H
  clear H
  have H := H1
  clear H1
  replace H := Option.bind_eq_some_iff.mp H
  obtain ⟨t329, A50, H⟩ := H
  replace H : (if t329 = true then (some 0) else (some 2)) = some r := H
  have A5 := Aside0.mk A50
  clear A50
  by_cases c6 : t329 = true
  ·subst c6
   have H1 : (some 0) = some r := by rw [if_pos rfl] at H; exact H
   clear H
   have H := H1
   clear H1
   obtain rfl := Option.some.inj H
   go_enter Try.func76, Try.ntmps76
   go_wp2_with (first | ((with_reducible refine gate_dst (N := 2) rfl ?_); refine box_event ?hg (N := 2) ?hd (cs := #[.slice A0_0 l0_0.length c0_0, .slice A0_1 l0_1.length c0_1]) (t := 29) ?hr ?_; (case hd => rfl); (case hg => rfl); (case hr => first | (go_simp; done) | (go_simp; rfl)); intro gb327 hg w7 hbox hb; have n0_ := Aside0.mk (bs_ hb); have n1_ := Aside0.mk (hbox); have n2_ := Aside0.mk ((by rw [hg]; exact bz_ : w.heap.size ≤ gb327)); have n3_ := Aside0.mk ((by rw [hg]; exact bz_ : w.heap.size ≤ gb327)); clear HB; have HB := n0_; have BK327 := n1_; have GW327 := n2_; have GE327 := n3_; clear n0_ n1_ n2_ n3_; clear hb hbox hg; have hcz8_0 : w7.cell? ⟨gb327, 0, none⟩ = some (.slice A0_0 l0_0.length c0_0) := (blk_cell BK327.out 0).trans rfl; have hcz8_1 : w7.cell? ⟨gb327, 1, none⟩ = some (.slice A0_1 l0_1.length c0_1) := (blk_cell BK327.out 1).trans rfl; have hfz8_0 := blk_frozen BK327.out 0; have hfz8_1 := blk_frozen BK327.out 1) | ((with_reducible refine gate_callee (f := 69) rfl ?_); refine goesL_ (some 7) rfl rfl Try.func69 (by kernel_rfl) rfl #[.agg #[.slice A0_0 l0_0.length c0_0, .slice A0_1 l0_1.length c0_1]] rfl (by (try simp only [List.map_toArray, List.map_cons, List.map_nil]); first | done | rfl | (simp only [List.length_drop, List.length_take]; rfl)) ?_; (with_reducible refine (impl_IsProblem.calls _ _ l0_0 _ _ l0_1 true _ ?side1 ?side2 ?side3 ?side4 A3.out).mono ?_); (case side1 => exact cb_ HR0_0.out HB.out); (case side2 => exact HC0_0.out); (case side3 => exact cb_ HR0_1.out HB.out); (case side4 => exact HC0_1.out); rintro e w9 ⟨rfl, hb⟩; refine ⟨_, rfl, ?_⟩; have n0_ := Aside0.mk (bb_ BK327.out hb); have n1_ := Aside0.mk (bs_ hb); clear BK327; clear HB; have BK327 := n0_; have HB := n1_; clear n0_ n1_; (try clear hb); (try clear hb2); (try clear hk); (try clear hi); have hcz10_0 : w9.cell? ⟨gb327, 0, none⟩ = some (.slice A0_0 l0_0.length c0_0) := (blk_cell BK327.out 0).trans rfl; have hcz10_1 : w9.cell? ⟨gb327, 1, none⟩ = some (.slice A0_1 l0_1.length c0_1) := (blk_cell BK327.out 1).trans rfl; have hfz10_0 := blk_frozen BK327.out 0; have hfz10_1 := blk_frozen BK327.out 1) | ((with_reducible refine gate_callee (f := 110) rfl ?_); refine goesL_ (some 14) rfl rfl Try.func110 (by kernel_rfl) rfl #[.int .i64 a1, .int .i64 (l0_1.length : Int)] rfl (by (try simp only [List.map_toArray, List.map_cons, List.map_nil]); first | done | rfl | (simp only [List.length_drop, List.length_take]; rfl)) ?_; (with_reducible refine (impl_isSet.calls a1 (l0_1.length : Int) true _ A5.out).mono ?_); rintro e w' ⟨rfl, ⟨nd, rfl⟩⟩; refine ⟨_, rfl, ?_⟩))
   go_ret
   exact ⟨by first | rfl | (simp [errW_none, errW_some] <;> rfl) | (simp [*, errW_none, errW_some] <;> rfl), hb_⟩
  ·replace c6 := Bool.eq_false_iff.mpr c6
   subst c6
   have H1 : (some 2) = some r := by rw [if_neg (show ¬ (false = true) by decide)] at H; exact H
   clear H
   have H := H1
   clear H1
   obtain rfl := Option.some.inj H
   go_enter Try.func76, Try.ntmps76
   go_wp2_with (first | ((with_reducible refine gate_dst (N := 2) rfl ?_); refine box_event ?hg (N := 2) ?hd (cs := #[.slice A0_0 l0_0.length c0_0, .slice A0_1 l0_1.length c0_1]) (t := 29) ?hr ?_; (case hd => rfl); (case hg => rfl); (case hr => first | (go_simp; done) | (go_simp; rfl)); intro gb327 hg w11 hbox hb; have n0_ := Aside0.mk (bs_ hb); have n1_ := Aside0.mk (hbox); have n2_ := Aside0.mk ((by rw [hg]; exact bz_ : w.heap.size ≤ gb327)); have n3_ := Aside0.mk ((by rw [hg]; exact bz_ : w.heap.size ≤ gb327)); clear HB; have HB := n0_; have BK327 := n1_; have GW327 := n2_; have GE327 := n3_; clear n0_ n1_ n2_ n3_; clear hb hbox hg; have hcz12_0 : w11.cell? ⟨gb327, 0, none⟩ = some (.slice A0_0 l0_0.length c0_0) := (blk_cell BK327.out 0).trans rfl; have hcz12_1 : w11.cell? ⟨gb327, 1, none⟩ = some (.slice A0_1 l0_1.length c0_1) := (blk_cell BK327.out 1).trans rfl; have hfz12_0 := blk_frozen BK327.out 0; have hfz12_1 := blk_frozen BK327.out 1) | ((with_reducible refine gate_callee (f := 69) rfl ?_); refine goesL_ (some 7) rfl rfl Try.func69 (by kernel_rfl) rfl #[.agg #[.slice A0_0 l0_0.length c0_0, .slice A0_1 l0_1.length c0_1]] rfl (by (try simp only [List.map_toArray, List.map_cons, List.map_nil]); first | done | rfl | (simp only [List.length_drop, List.length_take]; rfl)) ?_; (with_reducible refine (impl_IsProblem.calls _ _ l0_0 _ _ l0_1 true _ ?side1 ?side2 ?side3 ?side4 A3.out).mono ?_); (case side1 => exact cb_ HR0_0.out HB.out); (case side2 => exact HC0_0.out); (case side3 => exact cb_ HR0_1.out HB.out); (case side4 => exact HC0_1.out); rintro e w13 ⟨rfl, hb⟩; refine ⟨_, rfl, ?_⟩; have n0_ := Aside0.mk (bb_ BK327.out hb); have n1_ := Aside0.mk (bs_ hb); clear BK327; clear HB; have BK327 := n0_; have HB := n1_; clear n0_ n1_; (try clear hb); (try clear hb2); (try clear hk); (try clear hi); have hcz14_0 : w13.cell? ⟨gb327, 0, none⟩ = some (.slice A0_0 l0_0.length c0_0) := (blk_cell BK327.out 0).trans rfl; have hcz14_1 : w13.cell? ⟨gb327, 1, none⟩ = some (.slice A0_1 l0_1.length c0_1) := (blk_cell BK327.out 1).trans rfl; have hfz14_0 := blk_frozen BK327.out 0; have hfz14_1 := blk_frozen BK327.out 1) | ((with_reducible refine gate_callee (f := 110) rfl ?_); refine goesL_ (some 14) rfl rfl Try.func110 (by kernel_rfl) rfl #[.int .i64 a1, .int .i64 (l0_1.length : Int)] rfl (by (try simp only [List.map_toArray, List.map_cons, List.map_nil]); first | done | rfl | (simp only [List.length_drop, List.length_take]; rfl)) ?_; (with_reducible refine (impl_isSet.calls a1 (l0_1.length : Int) false _ A5.out).mono ?_); rintro e w' ⟨rfl, ⟨nd, rfl⟩⟩; refine ⟨_, rfl, ?_⟩))
   go_ret
   exact ⟨by first | rfl | (simp [errW_none, errW_some] <;> rfl) | (simp [*, errW_none, errW_some] <;> rfl), hb_⟩
 ·replace c4 := Bool.eq_false_iff.mpr c4
  subst c4
  have H1 : (some 1) = some r := by rw [if_neg (show ¬ (false = true) by decide)] at H; exact H
  clear H
  have H := H1
  clear H1
  obtain rfl := Option.some.inj H
  go_enter Try.func76, Try.ntmps76
  go_wp2_with (first | ((with_reducible refine gate_dst (N := 2) rfl ?_); refine box_event ?hg (N := 2) ?hd (cs := #[.slice A0_0 l0_0.length c0_0, .slice A0_1 l0_1.length c0_1]) (t := 29) ?hr ?_; (case hd => rfl); (case hg => rfl); (case hr => first | (go_simp; done) | (go_simp; rfl)); intro gb327 hg w15 hbox hb; have n0_ := Aside0.mk (bs_ hb); have n1_ := Aside0.mk (hbox); have n2_ := Aside0.mk ((by rw [hg]; exact bz_ : w.heap.size ≤ gb327)); have n3_ := Aside0.mk ((by rw [hg]; exact bz_ : w.heap.size ≤ gb327)); clear HB; have HB := n0_; have BK327 := n1_; have GW327 := n2_; have GE327 := n3_; clear n0_ n1_ n2_ n3_; clear hb hbox hg; have hcz16_0 : w15.cell? ⟨gb327, 0, none⟩ = some (.slice A0_0 l0_0.length c0_0) := (blk_cell BK327.out 0).trans rfl; have hcz16_1 : w15.cell? ⟨gb327, 1, none⟩ = some (.slice A0_1 l0_1.length c0_1) := (blk_cell BK327.out 1).trans rfl; have hfz16_0 := blk_frozen BK327.out 0; have hfz16_1 := blk_frozen BK327.out 1) | ((with_reducible refine gate_callee (f := 69) rfl ?_); refine goesL_ (some 7) rfl rfl Try.func69 (by kernel_rfl) rfl #[.agg #[.slice A0_0 l0_0.length c0_0, .slice A0_1 l0_1.length c0_1]] rfl (by (try simp only [List.map_toArray, List.map_cons, List.map_nil]); first | done | rfl | (simp only [List.length_drop, List.length_take]; rfl)) ?_; (with_reducible refine (impl_IsProblem.calls _ _ l0_0 _ _ l0_1 false _ ?side1 ?side2 ?side3 ?side4 A3.out).mono ?_); (case side1 => exact cb_ HR0_0.out HB.out); (case side2 => exact HC0_0.out); (case side3 => exact cb_ HR0_1.out HB.out); (case side4 => exact HC0_1.out); rintro e w17 ⟨rfl, hb⟩; refine ⟨_, rfl, ?_⟩; have n0_ := Aside0.mk (bb_ BK327.out hb); have n1_ := Aside0.mk (bs_ hb); clear BK327; clear HB; have BK327 := n0_; have HB := n1_; clear n0_ n1_; (try clear hb); (try clear hb2); (try clear hk); (try clear hi)))
  go_ret
  exact ⟨by first | rfl | (simp [errW_none, errW_some] <;> rfl) | (simp [*, errW_none, errW_some] <;> rfl), hb_⟩
def impl_sign.f (a0 : Int) : Option (Int) := if a0 < 0 then (some (-1)) else (if a0 > 0 then (some 1) else (some 0))
theorem impl_sign.calls (a0 : Int) (r : Int) (w : World) (h : impl_sign.f a0 = some r) :
  Calls Try.prog 65 #[.int .i64 a0] w fun e w' => e = .returned (.int .i64 r) ∧ Drawn0 w w' := by
 have H : (if a0 < 0 then (some (-1)) else (if a0 > 0 then (some 1) else (some 0))) = some r := h
 clear h
 by_cases c2 : a0 < 0
 ·rw [if_pos c2] at H
  have c2b0 : decide (a0 < 0) = true := decide_eq_true c2
  clear c2
  obtain rfl := Option.some.inj H
  go_enter Try.func65, Try.ntmps65
  go_wp2
  go_ret
  exact ⟨by first | rfl | (simp; done) | (simp [*]; done), by repeat (first | exact Drawn0.refl _ | apply Drawn0.step)⟩
 ·rw [if_neg c2] at H
  have c2b0 : decide (a0 < 0) = false := decide_eq_false c2
  clear c2
  by_cases c3 : a0 > 0
  ·rw [if_pos c3] at H
   have c3b0 : decide (0 < a0) = true := decide_eq_true c3
   clear c3
   obtain rfl := Option.some.inj H
   go_enter Try.func65, Try.ntmps65
   go_wp2
   go_ret
   exact ⟨by first | rfl | (simp; done) | (simp [*]; done), by repeat (first | exact Drawn0.refl _ | apply Drawn0.step)⟩
  ·rw [if_neg c3] at H
   have c3b0 : decide (0 < a0) = false := decide_eq_false c3
   clear c3
   obtain rfl := Option.some.inj H
   go_enter Try.func65, Try.ntmps65
   go_wp2
   go_ret
   exact ⟨by first | rfl | (simp; done) | (simp [*]; done), by repeat (first | exact Drawn0.refl _ | apply Drawn0.step)⟩
end Go.Proofs.Ythdoilfjcgickaa.Pr
end
