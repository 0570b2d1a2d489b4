/- Texts of one claim (the words of the kit's print that the claim uses, printed functions, and this session's own texts), joined in the order of their imports by this session's own program (merge.py). -/
import Derived.WalkLawsBesides
import Derived.Test.YtjjbhdpjnjncbaaJnFnExactIsWholePivot0
import Derived.Test.YtjjbhdpjnjncbaaJnFnExactIsWholePivot1
import Derived.Test.YtjjbhdpjnjncbaaJnFnExactIsWholePivot2
set_option linter.unusedVariables false
set_option linter.unusedSimpArgs false
set_option maxHeartbeats 8000000
set_option maxRecDepth 100000
section
namespace Go.Proofs.Ytjjbhdpjnjncbaa.Hd
open Go.RowKit Go.Proofs.YtjjbhdpjnjncbaaW.PrintWords Go.Proofs.YtjjbhdpjnjncbaaW.PrintLast Go.Proofs.YtjjbhdpjnjncbaaW.PrintMore Go.Proofs.Ytjjbhdpjnjncbaa.Pr Go.Proofs.Ytjjbhdpjnjncbaa.La Go.Proofs.Ytjjbhdpjnjncbaa.Ma Go.Proofs.Ytjjbhdpjnjncbaa.Hm Go.Proofs.Ytjjbhdpjnjncbaa.Dt
structure Own (w0 w : World) (g n : Nat) (b cp : Nat → Nat) (M : Mat) : Prop where
 below : Below w0.heap.size w0 w
 gb : w0.heap.size ≤ g
 bb : ∀ j, j < n → w0.heap.size ≤ b j
 inj : ∀ i j, i < n → j < n → b i = b j → i = j
 ne : ∀ j, j < n → b j ≠ g
 cap : ∀ j, j < n → n ≤ cp j
 og : ∀ j, j < n → w.cell? ⟨g, j, none⟩ = some (.slice (some ⟨b j, 0, none⟩) n (cp j)) ∧ w.frozen? ⟨g, j, none⟩ = false
 ob : ∀ j c, j < n → c < n → w.cell? ⟨b j, c, none⟩ = some (.int .i64 (M j c)) ∧ w.frozen? ⟨b j, c, none⟩ = false
theorem frozen_below {w w' : World} (h : Below w.heap.size w w') {p : Addr} (hp : p.block < w.heap.size) : w'.frozen? p = w.frozen? p := by
 unfold World.frozen?
 rw [h.block _ hp]
theorem lt_of_cell {w : World} {p : Addr} {v : Value} (h : w.cell? p = some v) : p.block < w.heap.size := World.block_lt_of_cell? w _ h
theorem cset_same {w : World} {p : Addr} {u v : Value} (h : w.cell? p = some u) : (w.setCell p v).cell? p = some v := World.cell?_setCell_same w p v h
theorem cset_other {w : World} {p q : Addr} {v : Value} (h : p ≠ q) : (w.setCell p v).cell? q = w.cell? q := World.cell?_setCell_other w p q v h
theorem fset {w : World} {p q : Addr} {v : Value} : (w.setCell p v).frozen? q = w.frozen? q := World.frozen?_setCell w p q v
theorem add_off (g i j : Nat) : (⟨g, i, none⟩ : Addr).add j = ⟨g, i + j, none⟩ := by unfold Addr.add; split <;> simp_all
section
variable {w0 w w' : World} {g n : Nat} {b cp : Nat → Nat} {M : Mat}
theorem Own.step (h : Own w0 w g n b cp M) (hb : Below w.heap.size w w') : Own w0 w' g n b cp M :=
  ⟨Below.trans h.below (hb.mono h.below.size), h.gb, h.bb, h.inj, h.ne, h.cap,
   fun j hj => by have := lt_of_cell (h.og j hj).1; exact ⟨(hb.cell (p := ⟨g, j, none⟩) this).trans (h.og j hj).1, (frozen_below hb this).trans (h.og j hj).2⟩,
   fun j c hj hc => by have := lt_of_cell (h.ob j c hj hc).1; exact ⟨(hb.cell (p := ⟨b j, c, none⟩) this).trans (h.ob j c hj hc).1, (frozen_below hb this).trans (h.ob j c hj hc).2⟩⟩
theorem Own.congr {M' : Mat} (h : Own w0 w g n b cp M) (e : ∀ i j, i < n → j < n → M i j = M' i j) : Own w0 w g n b cp M' :=
 ⟨h.below, h.gb, h.bb, h.inj, h.ne, h.cap, h.og, fun j c hj hc => by rw [← e j c hj hc]; exact h.ob j c hj hc⟩
def mset (M : Mat) (r c : Nat) (x : Int) : Mat := fun i j => if i = r ∧ j = c then x else M i j
theorem Own.put (h : Own w0 w g n b cp M) {r c : Nat} (hr : r < n) (hc : c < n) (x : Int) : Own w0 (w.setCell ⟨b r, c, none⟩ (.int .i64 x)) g n b cp (mset M r c x) := by
 refine ⟨h.below.setCell (h.bb r hr) _, h.gb, h.bb, h.inj, h.ne, h.cap, fun j hj => ⟨?_, ?_⟩, fun j d hj hd => ⟨?_, ?_⟩⟩
 ·rw [cset_other (by intro e; have := congrArg Addr.block e; exact h.ne r hr this)]
  exact (h.og j hj).1
 ·rw [fset]; exact (h.og j hj).2
 ·unfold mset
  by_cases e : j = r ∧ d = c
  ·obtain ⟨rfl, rfl⟩ := e
   rw [if_pos ⟨rfl, rfl⟩]
   exact cset_same (h.ob j d hj hd).1
  ·rw [if_neg e, cset_other (by
    intro q
    have q1 := congrArg Addr.block q
    have q2 := congrArg Addr.off q
    exact e ⟨(h.inj r j hr hj q1).symm, q2.symm⟩)]
   exact (h.ob j d hj hd).1
 ·rw [fset]; exact (h.ob j d hj hd).2
def sw (r q j : Nat) : Nat := if j = r then q else if j = q then r else j
theorem sw_lt {r q j : Nat} (hr : r < n) (hq : q < n) (hj : j < n) : sw r q j < n := by unfold sw; grind
theorem sw_sw (r q j : Nat) : sw r q (sw r q j) = j := by unfold sw; grind
theorem sw_inj {r q i j : Nat} (h : sw r q i = sw r q j) : i = j := by rw [← sw_sw r q i, h, sw_sw]
theorem Own.swap (h : Own w0 w g n b cp M) {r q : Nat} (hr : r < n) (hq : q < n) :
  Own w0 ((w.setCell ⟨g, r, none⟩ (.slice (some ⟨b q, 0, none⟩) n (cp q))).setCell ⟨g, q, none⟩ (.slice (some ⟨b r, 0, none⟩) n (cp r))) g n (fun j => b (sw r q j)) (fun j => cp (sw r q j)) (fun j => M (sw r q j)) := by
 refine ⟨(h.below.setCell h.gb _).setCell h.gb _, h.gb, fun j hj => h.bb _ (sw_lt hr hq hj), fun i j hi hj e => sw_inj (h.inj _ _ (sw_lt hr hq hi) (sw_lt hr hq hj) e), fun j hj => h.ne _ (sw_lt hr hq hj), fun j hj => h.cap _ (sw_lt hr hq hj), fun j hj => ⟨?_, ?_⟩, fun j d hj hd => ⟨?_, ?_⟩⟩
 ·by_cases e : j = q
  ·subst e
   have : sw r j j = r := by unfold sw; split <;> simp_all
   rw [this]
   by_cases e2 : r = j
   ·subst e2; exact cset_same (cset_same (h.og r hr).1)
   ·exact cset_same (u := .slice (some ⟨b j, 0, none⟩) n (cp j)) (by rw [cset_other (by intro q1; exact e2 (congrArg Addr.off q1))]; exact (h.og j hj).1)
  ·rw [cset_other (by intro q1; exact e (congrArg Addr.off q1).symm)]
   by_cases e2 : j = r
   ·subst e2
    rw [show sw j q j = q from by simp [sw]]
    exact cset_same (h.og j hj).1
   ·rw [cset_other (by intro q1; exact e2 (congrArg Addr.off q1).symm), show sw r q j = j from by simp [sw, e, e2]]
    exact (h.og j hj).1
 ·rw [fset, fset]; exact (h.og j hj).2
 ·have hl := sw_lt hr hq hj
  rw [cset_other (by intro q1; exact h.ne _ hl (congrArg Addr.block q1).symm), cset_other (by intro q1; exact h.ne _ hl (congrArg Addr.block q1).symm)]
  exact (h.ob _ d hl hd).1
 ·rw [fset, fset]; exact (h.ob _ d (sw_lt hr hq hj) hd).2
def rowsFrom (M : Mat) (n i : Nat) : List (List Int) := (List.range (n - i)).map fun r => (List.range n).map fun c => M (i + r) c
theorem rowsFrom_len (M : Mat) (n i : Nat) : (rowsFrom M n i).length = n - i := by simp [rowsFrom]
theorem Own.C (h : Own w0 w g n b cp M) (i : Nat) (hn : n ≤ 1099511627776) : Kd.C (Kd.slice 2 (Kd.int .i64)) w (some ⟨g, i, none⟩) (rowsFrom M n i).length (rowsFrom M n i) := by
 have hl := rowsFrom_len M n i
 refine ⟨rfl, by omega, fun _ => ⟨_, rfl, fun j p hp => ?_⟩⟩
 have hj : j < n - i := by have := (List.getElem?_eq_some_iff.1 hp).1; omega
 have hpe : p = (List.range n).map fun c => M (i + j) c := by
  rw [rowsFrom, List.getElem?_map, List.getElem?_range hj] at hp
  exact (Option.some.inj hp).symm
 subst hpe
 have hc := (h.og (i + j) (by omega)).1
 refine ⟨[.slice (some ⟨b (i + j), 0, none⟩) n (cp (i + j))], rfl, ⟨some ⟨b (i + j), 0, none⟩, cp (i + j), by simp, by simp; exact h.cap _ (by omega), ?_⟩, fun u v hv => ?_⟩
 ·refine ⟨rfl, by simp; omega, fun _ => ⟨_, rfl, fun c p hp => ?_⟩⟩
  have hcn : c < n := by have := (List.getElem?_eq_some_iff.1 hp).1; simpa using this
  rw [List.getElem?_map, List.getElem?_range hcn] at hp
  have hp := Option.some.inj hp
  refine ⟨[.int .i64 p], rfl, rfl, fun u v hv => ?_⟩
  have hu : u = 0 := by cases u with
   | zero => rfl
   | succ u => simp at hv
  subst hu
  have hv : Value.int .i64 p = v := by simpa using hv
  rw [← hv, ← hp]
  have := (h.ob (i + j) c (by omega) hcn).1
  have e : (⟨b (i + j), 0, none⟩ : Addr).add (c * (Kd.int .i64).sz + 0) = ⟨b (i + j), c, none⟩ := by
   show (⟨b (i + j), 0, none⟩ : Addr).add (c * 1 + 0) = _
   rw [Nat.mul_one, Nat.add_zero, add_off]; try rw [Nat.zero_add]
  rw [e]; exact this
 ·have hu : u = 0 := by cases u with
   | zero => rfl
   | succ u => simp at hv
  subst hu
  have hv : Value.slice (some ⟨b (i + j), 0, none⟩) n (cp (i + j)) = v := by simpa using hv
  rw [← hv]
  have e : (⟨g, i, none⟩ : Addr).add (j * (Kd.slice 2 (Kd.int .i64)).sz + 0) = ⟨g, i + j, none⟩ := by
   show (⟨g, i, none⟩ : Addr).add (j * 1 + 0) = _
   rw [Nat.mul_one, Nat.add_zero, add_off]; try rw [Nat.zero_add]
  rw [e]; exact hc
end
def en (l : List (List Int)) : Mat := fun i j => (l.getD i []).getD j 0
theorem own_of_S {w0 W : World} {ok : Nat → Prop} {v : Value} {l : List (List Int)} (h : SS w0 W ok v l) (hB : Below w0.heap.size w0 W) (hp : 0 < l.length) (hr : ∀ x ∈ l, x.length = l.length) : ∃ (g cap : Nat) (b cp : Nat → Nat), v = .slice (some ⟨g, 0, none⟩) l.length cap ∧ l.length ≤ cap ∧ Own w0 W g l.length b cp (en l) := by
 obtain ⟨g, cap, rfl, hg0, hg1, cells, hgc⟩ := Kd.S_form h hp
 have hrd := Kd.S_reads' h
 obtain ⟨f, h0, hO⟩ := h
 obtain ⟨A, c, hv, hc, _, _, hread⟩ := hO.reads
 injection hv with hA _ _
 subst hA
 rw [List.length_zipIdx] at hread
 obtain ⟨ad, had, hj⟩ := hread hp
 injection had with had
 subst had
 have key : ∀ j, ∃ p : Nat × Nat, j < l.length → W.cell? ⟨g, j, none⟩ = some (.slice (some ⟨p.1, 0, none⟩) l.length p.2) ∧ l.length ≤ p.2 ∧ w0.heap.size ≤ p.1 ∧ f p.1 = j ∧ p.1 ≠ g ∧ ∀ d, d < l.length → W.cell? ⟨p.1, d, none⟩ = some (.int .i64 (en l j d)) ∧ W.frozen? ⟨p.1, d, none⟩ = false := by
  intro j
  by_cases hjl : j < l.length
  ·obtain ⟨cs, hcs, hM, hcell⟩ := hj j (l[j], j) (Kd.zip_at (List.getElem?_eq_getElem hjl))
   obtain ⟨u, rfl, hR⟩ := (show ∃ u, cs = [u] ∧ Kd.R (Kd.int .i64) 2 W w0.heap.size (fun k => (ok k ∧ some k ≠ (Value.slice (some ⟨g, 0, none⟩) l.length cap).ownBlock) ∧ f k = j) u l[j] from hM)
   have hlen := hr l[j] (List.getElem_mem hjl)
   obtain ⟨bj, cj, rfl, hb1, hb2, cells2, hbc⟩ := Kd.R_form hR (by omega)
   have hcj := (Kd.R_reads' hR).2.1
   have hown := hR.1 bj (by simp [Value.ownBlock])
   refine ⟨(bj, cj), fun _ => ⟨?_, by simpa [hlen] using hcj, hb1, hown.2, ?_, fun d hd => ?_⟩⟩
   ·have := hcell 0 _ rfl
    have e : (⟨g, 0, none⟩ : Addr).add (j * (Kd.tag f (Kd.slice 2 (Kd.int .i64))).sz + 0) = ⟨g, j, none⟩ := by
     show (⟨g, 0, none⟩ : Addr).add (j * 1 + 0) = _
     rw [Nat.mul_one, Nat.add_zero, add_off]; try rw [Nat.zero_add]
    rw [e, hlen] at this
    exact this
   ·intro e
    have e : bj = g := e
    subst e
    exact hown.1.2 (by simp [Value.ownBlock])
   ·have hat := Kd.R_celln 0 hR (d : Int) (by omega) (by omega)
    rw [Int.toNat_natCast] at hat
    have e2 : en l j d = l[j].getD d 0 := by unfold en; rw [List.getD_eq_getElem?_getD (l := l), List.getElem?_eq_getElem hjl]; rfl
    rw [e2]
    exact ⟨by simpa [rdOf] using hat.1, hat.2⟩
  ·exact ⟨(0, 0), fun hh => absurd hh hjl⟩
 obtain ⟨p, hp2⟩ := Classical.skolem.1 key
 refine ⟨g, cap, fun j => (p j).1, fun j => (p j).2, rfl, hrd.2.1, ⟨hB, hg0, fun j hj => (hp2 j hj).2.2.1, fun i j hi hj e => ?_, fun j hj => (hp2 j hj).2.2.2.2.1, fun j hj => (hp2 j hj).2.1, fun j hj => ⟨(hp2 j hj).1, blk_frozen hgc j⟩, fun j d hj hd => (hp2 j hj).2.2.2.2.2 d hd⟩⟩
 have h1 := (hp2 i hi).2.2.2.1
 have h2 := (hp2 j hj).2.2.2.1
 rw [← h1, ← h2]
 exact congrArg f e
end Go.Proofs.Ytjjbhdpjnjncbaa.Hd
end
section
namespace Go.Proofs.Ytjjbhdpjnjncbaa.Hd
open Go.RowKit Go.Proofs.YtjjbhdpjnjncbaaW.PrintWords Go.Proofs.YtjjbhdpjnjncbaaW.PrintLast Go.Proofs.YtjjbhdpjnjncbaaW.PrintMore Go.Proofs.Ytjjbhdpjnjncbaa.Pr Go.Proofs.Ytjjbhdpjnjncbaa.La Go.Proofs.Ytjjbhdpjnjncbaa.Ma Go.Proofs.Ytjjbhdpjnjncbaa.Hm Go.Proofs.Ytjjbhdpjnjncbaa.Dt
def pcol (M : Mat) (i : Nat) (col : List Int) (r : Nat) : Mat := fun a d => if d = i ∧ a < r then col.getD a 0 else M a d
theorem pcol_zero (M : Mat) (i : Nat) (col : List Int) (a d : Nat) : pcol M i col 0 a d = M a d := by unfold pcol; rw [if_neg (by omega)]
theorem pcol_next (M : Mat) (i : Nat) (col : List Int) (r a d : Nat) : mset (pcol M i col r) r i (col.getD r 0) a d = pcol M i col (r + 1) a d := by
 unfold mset pcol
 by_cases e : a = r ∧ d = i
 ·obtain ⟨rfl, rfl⟩ := e
  rw [if_pos ⟨rfl, rfl⟩, if_pos ⟨rfl, by omega⟩]
 ·rw [if_neg e]
  by_cases q : d = i ∧ a < r
  ·rw [if_pos q, if_pos (by omega)]
  ·rw [if_neg q, if_neg (by omega)]
def okB (n : Nat) (b : Nat → Nat) (k : Nat) : Prop := ∃ j, j < n ∧ k = b j
theorem putO {w0 w : World} {g n : Nat} {b cp : Nat → Nat} {M : Mat} (i : Nat) (hi : i < n) (cap : Nat) (A : Option Addr) (c : Nat) (col : List Int) (hO : Own w0 w g n b cp M) (hn : n ≤ 1000) (hc : n ≤ col.length)
  (hcol : ∀ W, Kept w W (okB n b) → Below w0.heap.size w0 W → Kd.C (Kd.int .i64) W A col.length col) :
  Calls Try.prog 171 #[.slice (some ⟨g, 0, none⟩) n cap, .int .i64 (i : Int), .slice A col.length c] w fun e w' => e = .returned (.tuple #[]) ∧ Own w0 w' g n b cp (pcol M i col n) ∧ Kept w w' (okB n b) := by
 have HO := Aside0.mk hO
 have HI := Aside0.mk hi
 have HN := Aside0.mk hn
 have HC := Aside0.mk hc
 have HCOL := Aside0.mk hcol
 clear hO hi hn hc hcol
 go_enter Try.func171, Try.ntmps171
 go_wp2
 go_loopg [6, 7, 10] n (fun gg v6 v7 v10 wr => ∃ r : Nat, r ≤ n ∧ n - r ≤ gg ∧ v10 = .int .i64 (r : Int) ∧ Aside0 (Own w0 wr g n b cp (pcol M i col r)) ∧ Aside0 (Kept w wr (okB n b)))
 case atStart => exact ⟨0, Nat.zero_le _, by omega, rfl, ⟨HO.out.congr (fun a d _ _ => (pcol_zero M i col a d).symm)⟩, ⟨Kept.refl _ _⟩⟩
 case round =>
  clear HO
  obtain ⟨r, hr, hg, rfl, RO, RK⟩ := hrel
  by_cases hlt : r < n
  ·have hltz : (r : Int) < (n : Int) := by omega
   have h0z : (0 : Int) ≤ (r : Int) := by omega
   have hiz : (i : Int) < (n : Int) := by have := HI.out; omega
   have h0i : (0 : Int) ≤ (i : Int) := by omega
   have hcell := (RO.out.og r hlt).1
   have hold := (RO.out.ob r i hlt HI.out).1
   have hfr := (RO.out.ob r i hlt HI.out).2
   have hcz : (r : Int) < (col.length : Int) := by have := HC.out; omega
   obtain ⟨adc, eA, hcc⟩ := Kd.at_int (HCOL.out wr RK.out RO.out.below) (r : Int) (by omega) (by omega)
   subst eA
   rw [Int.toNat_natCast, rd_nat] at hcc
   have hw : IntKind.i64.wrap ((r : Int) + 1) = ((r + 1 : Nat) : Int) := by rw [IntWalk.i64_in _ (by have := HN.out; omega)]; rfl
   have HW := Aside0.mk hw
   have HLT := Aside0.mk hlt
   have HG := Aside0.mk hg
   clear hlt hr hg
   go_wp2
   go_roundg (n - (r + 1))
   case measure => have := HG.out; have := HLT.out; omega
   case rel =>
    have hput := (RO.out.put HLT.out HI.out (col.getD r 0)).congr (M' := pcol M i col (r + 1)) (fun a d _ _ => pcol_next M i col r a d)
    exact ⟨r + 1, by have := HLT.out; omega, by omega, by first | rfl | (rw [HW.out]) | (simp [HW.out]), ⟨hput⟩, ⟨RK.out.then_ ((Kept.refl _ _).setCell (.inl ⟨r, HLT.out, rfl⟩) _) (fun k hk => .inl hk)⟩⟩
  ·have hltz : ¬ (r : Int) < (n : Int) := by omega
   obtain rfl : r = n := by omega
   go_wp2
   go_end0
   exact ⟨rfl, RO.out, RK.out⟩
end Go.Proofs.Ytjjbhdpjnjncbaa.Hd
end
section
namespace Go.Proofs.Ytjjbhdpjnjncbaa.Pr
open Go.RowKit Go.Proofs.YtjjbhdpjnjncbaaW.PrintWords Go.Proofs.YtjjbhdpjnjncbaaW.PrintLast Go.Proofs.YtjjbhdpjnjncbaaW.PrintMore
attribute [local go_sem] max2_int min2_int max_two min_two max_three min_three max_four min_four
def impl_Problem_column.l0 : Nat → Int → Bool → List Int → List (List Int) → Int → Int → Option (List Int)
 | 0, _, _, _, _, _, _ => none
 | k + 1, x1, x2, x7, x15, x16, x17 => if x17 < x16 then (if 0 ≤ x17 then (if x17 < (x15.length : Int) then (if x2 = true then (if 0 ≤ x1 then (if x1 < ((rd_L1 x15 x17).length : Int) then (if x17 < (x7.length : Int) then (impl_Problem_column.l0 k x1 x2 (x7.set (x17 : Int).toNat (wrap64 (-(rd (rd_L1 x15 x17) x1)))) x15 x16 (wrap64 (x17 + 1))) else (none)) else (none)) else (none)) else (impl_Problem_column.l0 k x1 x2 x7 x15 x16 (wrap64 (x17 + 1)))) else (none)) else (none)) else (if x2 = true then (some x7) else (if 0 ≤ x1 then (if x1 < (x7.length : Int) then (some (x7.set (x1 : Int).toNat 1)) else (none)) else (none)))
def impl_Problem_column.f (k : Nat) (l0_0 : List (List Int)) (l0_1 : List Int) (a1 : Int) (a2 : Bool) : Option (List Int) := if 0 ≤ (l0_1.length : Int) then (if ((l0_1.length : Int) : Int).toNat ≤ 35184372088832 then (impl_Problem_column.l0 k a1 a2 (List.replicate ((l0_1.length : Int) : Int).toNat 0) l0_0 (l0_0.length : Int) 0) else (none)) else (none)
theorem impl_Problem_column.mono_l : ∀ k, (∀ y0 y1 y2 y3 y4 y5, LeO (impl_Problem_column.l0 k y0 y1 y2 y3 y4 y5) (impl_Problem_column.l0 (k + 1) y0 y1 y2 y3 y4 y5))
 | 0 => fun _ _ _ _ _ _ r h => by simp [impl_Problem_column.l0] at h
 | k + 1 => by
  have ih0 := impl_Problem_column.mono_l k
  ·intro y0 y1 y2 y3 y4 y5
   unfold impl_Problem_column.l0
   repeat' first
   | (with_reducible exact ih0 _ _ _ _ _ _)
   | (with_reducible exact LeO.refl _)
   | (with_reducible exact LeO.none _)
   | (with_reducible refine LeO.ite ?_ ?_)
   | (with_reducible refine LeO.bind ?_ (fun _ => ?_))
   | exact ih0 _ _ _ _ _ _
   | exact LeO.none _
   | refine LeO.ite ?_ ?_
   | refine LeO.bind ?_ (fun _ => ?_)
theorem impl_Problem_column.mono : ∀ a0 a1 a2 a3 k, LeO (impl_Problem_column.f k a0 a1 a2 a3) (impl_Problem_column.f (k + 1) a0 a1 a2 a3) := by
 intro a0 a1 a2 a3 k
 have ih0 := impl_Problem_column.mono_l k
 unfold impl_Problem_column.f
 repeat' first
   | (with_reducible exact ih0 _ _ _ _ _ _)
   | (with_reducible exact LeO.refl _)
   | (with_reducible exact LeO.none _)
   | (with_reducible refine LeO.ite ?_ ?_)
   | (with_reducible refine LeO.bind ?_ (fun _ => ?_))
   | exact ih0 _ _ _ _ _ _
   | exact LeO.none _
   | refine LeO.ite ?_ ?_
   | refine LeO.bind ?_ (fun _ => ?_)
theorem impl_Problem_column.calls (k : Nat) (A0_0 : Option Addr) (c0_0 : Nat) (l0_0 : List (List Int)) (A0_1 : Option Addr) (c0_1 : Nat) (l0_1 : List Int) (a1 : Int) (a2 : Bool) (r : List Int) (w : World) (hr0_0 : Kd.C (Kd.slice 2 (Kd.int .i64)) w A0_0 l0_0.length l0_0) (hc0_0 : l0_0.length ≤ c0_0) (hr0_1 : Kd.C (Kd.int .i64) w A0_1 l0_1.length l0_1) (hc0_1 : l0_1.length ≤ c0_1) (h : impl_Problem_column.f k l0_0 l0_1 a1 a2 = some r) :
  Calls Try.prog 168 #[.agg #[.slice A0_0 l0_0.length c0_0, .slice A0_1 l0_1.length c0_1], .int .i64 a1, .bool a2] w fun e w' => ∃ v0_ : Value, e = .returned (v0_) ∧ Kd.R (Kd.int .i64) 2 w' w.heap.size (fun _ => True) v0_ r ∧ Below w.heap.size w w' := by
 have hu56 := Try.underlying56
 have HR0_0 := Aside0.mk hr0_0
 have HC0_0 := Aside0.mk hc0_0
 clear hr0_0 hc0_0
 have HR0_1 := Aside0.mk hr0_1
 have HC0_1 := Aside0.mk hc0_1
 clear hr0_1 hc0_1
 have HB := Aside0.mk (Below.refl w.heap.size w)
 have H : (if 0 ≤ (l0_1.length : Int) then (if ((l0_1.length : Int) : Int).toNat ≤ 35184372088832 then (impl_Problem_column.l0 k a1 a2 (List.replicate ((l0_1.length : Int) : Int).toNat 0) l0_0 (l0_0.length : Int) 0) else (none)) else (none)) = some r := h
 clear h
 by_cases c4 : 0 ≤ (l0_1.length : Int)
 ·rw [if_pos c4] at H
  have c4b0 := eq_true c4
  have c4b1 : decide (0 ≤ (l0_1.length : Int)) = true := decide_eq_true c4
  clear c4
  by_cases c5 : ((l0_1.length : Int) : Int).toNat ≤ 35184372088832
  ·rw [if_pos c5] at H
   have c5b0 := eq_true c5
   have c5b1 : decide (((l0_1.length : Int) : Int).toNat ≤ 35184372088832) = true := decide_eq_true c5
   clear c5
   obtain ⟨y1130, hy1130⟩ : ∃ y_ : List Int, y_ = (List.replicate ((l0_1.length : Int) : Int).toNat 0) := ⟨_, rfl⟩
   replace H : (impl_Problem_column.l0 k a1 a2 y1130 l0_0 (l0_0.length : Int) 0) = some r := by first | (rw [hy1130]; with_reducible exact H) | (have H2_ := (Option.bind_some _ _).symm.trans H; rw [hy1130]; with_reducible exact H2_) | (have H2_ := (Option.bind_some _ _).symm.trans H; with_reducible exact H2_) | with_reducible exact H | (rw [hy1130]; exact H) | exact H
   have Ny1130 := Aside0.mk hy1130
   clear hy1130
   have H' := Aside0.mk H
   clear H
   go_enter Try.func168, Try.ntmps168
   go_wp2_with (first | ((with_reducible refine gate_dst (N := 3) rfl ?_); refine box_event ?hg (N := 3) ?hd (cs := #[.slice A0_0 l0_0.length c0_0, .slice A0_1 l0_1.length c0_1]) (t := 56) ?hr ?_; (case hd => rfl); (case hg => rfl); (case hr => first | (go_simp; done) | (go_simp; rfl)); intro gb1129 hg w6 hbox hb; have n0_ := Aside0.mk (bs_ hb); have n1_ := Aside0.mk (hbox); have n2_ := Aside0.mk ((by rw [hg]; exact bz_ : w.heap.size ≤ gb1129)); have n3_ := Aside0.mk ((by rw [hg]; exact bz_ : w.heap.size ≤ gb1129)); clear HB; have HB := n0_; have BK1129 := n1_; have GW1129 := n2_; have GE1129 := n3_; clear n0_ n1_ n2_ n3_; clear hb hbox hg; have hcz7_0 : w6.cell? ⟨gb1129, 0, none⟩ = some (.slice A0_0 l0_0.length c0_0) := (blk_cell BK1129.out 0).trans rfl; have hcz7_1 : w6.cell? ⟨gb1129, 1, none⟩ = some (.slice A0_1 l0_1.length c0_1) := (blk_cell BK1129.out 1).trans rfl; have hfz7_0 := blk_frozen BK1129.out 0; have hfz7_1 := blk_frozen BK1129.out 1) | ((with_reducible refine gate_dst (N := 13) rfl ?_); refine Kd.R_make (Kd.int .i64) _ 2 rfl (N := 13) rfl 33 _ _ rfl (l0_1.length : Int) rfl rfl Try.underlying33 (.int .i64 0) 8 info2 rfl (by decide) (by omega) 0 (ok := fun _ => True) (okp := fun _ => True) rfl (fun _ hk => hk) trivial (of_decide_eq_true (by first | (with_reducible assumption) | assumption)) (Nat.le_trans (Nat.mul_le_mul_right _ (of_decide_eq_true (by first | (with_reducible assumption) | assumption) : (l0_1.length : Int).toNat ≤ 35184372088832)) (by omega)) (Below.refl _ _) (Nat.le_refl _) ?_; intro v1131 w8 ho9 hb hg_ hnew_; clear hg_ hnew_; (first | rw [← Ny1130.out] at ho9 | (simp only [Int.reduceToNat] at ho9; rw [← Ny1130.out] at ho9)); have n0_ := Aside0.mk (Kd.R_lower ho9 bz_); have n1_ := Aside0.mk (bb_ BK1129.out hb); have n2_ := Aside0.mk (bs_ hb); clear BK1129; clear HB; have HO1132 := n0_; have BK1129 := n1_; have HB := n2_; clear n0_ n1_ n2_; clear hb ho9; have hcz10_0 : w8.cell? ⟨gb1129, 0, none⟩ = some (.slice A0_0 l0_0.length c0_0) := (blk_cell BK1129.out 0).trans rfl; have hcz10_1 : w8.cell? ⟨gb1129, 1, none⟩ = some (.slice A0_1 l0_1.length c0_1) := (blk_cell BK1129.out 1).trans rfl; have hfz10_0 := blk_frozen BK1129.out 0; have hfz10_1 := blk_frozen BK1129.out 1))
   go_loopg [17] k (fun kq v17 w' => ∃ (x7_1 : List Int) (x17_1 : Int), v17 = .int .i64 x17_1 ∧ Aside0 (impl_Problem_column.l0 kq a1 a2 x7_1 l0_0 (l0_0.length : Int) x17_1 = some r) ∧ Aside0 (kq ≤ k) ∧ Aside0 (Kd.R (Kd.int .i64) 2 w' w.heap.size (fun _ => True) v1131 x7_1) ∧ Aside0 (w'.heap[gb1129]? = some (.cells #[(.slice A0_0 l0_0.length c0_0), (.slice A0_1 l0_1.length c0_1)] 56 (0, 0))) ∧ Aside0 (Below w.heap.size w w'))
   case atStart => exact ⟨(y1130), (0), (by first | rfl | (simp; done) | (simp [*]; done)), H', ⟨Nat.le_refl _⟩, ⟨ro_ HO1132.out⟩, ⟨bk_⟩, ⟨hb_⟩⟩
   case round =>
    clear H'
    try clear c1
    try clear p2
    try clear c4
    try clear c4b0
    try clear c4b1
    try clear c5
    try clear c5b0
    try clear c5b1
    try clear hcz10_0
    try clear hcz10_1
    try clear hcz7_0
    try clear hcz7_1
    try clear hfz10_0
    try clear hfz10_1
    try clear hfz7_0
    try clear hfz7_1
    obtain ⟨x7_1, x17_1, rfl, HA, HK1, HO_7, BK1129, HB⟩ := hrel
    cases gk with
    | zero => exact absurd HA.out (by simp [impl_Problem_column.l0])
    | succ k1 =>
     have H := HA.out
     clear HA
     simp only [impl_Problem_column.l0] at H
     by_cases c11 : x17_1 < (l0_0.length : Int)
     ·rw [if_pos c11] at H
      have c11b0 : decide (x17_1 < (l0_0.length : Int)) = true := decide_eq_true c11
      clear c11
      by_cases c12 : 0 ≤ x17_1
      ·rw [if_pos c12] at H
       have c12b0 : decide (0 ≤ x17_1) = true := decide_eq_true c12
       clear c12
       by_cases c13 : x17_1 < (l0_0.length : Int)
       ·rw [if_pos c13] at H
        have c13b0 : decide (x17_1 < (l0_0.length : Int)) = true := decide_eq_true c13
        clear c13
        by_cases c14 : a2 = true
        ·subst c14
         have H1 : (if 0 ≤ a1 then (if a1 < ((rd_L1 l0_0 x17_1).length : Int) then (if x17_1 < (x7_1.length : Int) then (impl_Problem_column.l0 k1 a1 true (x7_1.set (x17_1 : Int).toNat (wrap64 (-(rd (rd_L1 l0_0 x17_1) a1)))) l0_0 (l0_0.length : Int) (wrap64 (x17_1 + 1))) else (none)) else (none)) else (none)) = some r := by rw [if_pos rfl] at H; exact H
         clear H
         have H := H1
         clear H1
         by_cases c15 : 0 ≤ a1
         ·rw [if_pos c15] at H
          have c15b0 : decide (0 ≤ a1) = true := decide_eq_true c15
          clear c15
          by_cases c16 : a1 < ((rd_L1 l0_0 x17_1).length : Int)
          ·rw [if_pos c16] at H
           have c16b0 : decide (a1 < ((rd_L1 l0_0 x17_1).length : Int)) = true := decide_eq_true c16
           clear c16
           by_cases c17 : x17_1 < (x7_1.length : Int)
           ·rw [if_pos c17] at H
            have c17b0 : decide (x17_1 < (x7_1.length : Int)) = true := decide_eq_true c17
            clear c17
            obtain ⟨y1135, hy1135⟩ : ∃ y_ : List Int, y_ = (x7_1.set (x17_1 : Int).toNat (wrap64 (-(rd (rd_L1 l0_0 x17_1) a1)))) := ⟨_, rfl⟩
            replace H : (impl_Problem_column.l0 k1 a1 true y1135 l0_0 (l0_0.length : Int) (wrap64 (x17_1 + 1))) = some r := by first | (rw [hy1135]; with_reducible exact H) | (have H2_ := (Option.bind_some _ _).symm.trans H; rw [hy1135]; with_reducible exact H2_) | (have H2_ := (Option.bind_some _ _).symm.trans H; with_reducible exact H2_) | with_reducible exact H | (rw [hy1135]; exact H) | exact H
            have Ny1135 := Aside0.mk hy1135
            clear hy1135
            have H' := Aside0.mk H
            clear H
            have p1133 : 0 ≤ (x17_1 : Int) := of_decide_eq_true (by first | (with_reducible assumption) | assumption)
            have q1133 : x17_1 < (l0_0.length : Int) := of_decide_eq_true (by first | (with_reducible assumption) | assumption)
            obtain ⟨ad1133, A1133_0, c1133_0, e1133, hx1133_0, hl1133_0, hi1133_0⟩ := at_L1 HR0_0.out x17_1 p1133 q1133
            cases e1133
            replace hx1133_0 := (HB.out.cell (World.block_lt_of_cell? w _ hx1133_0)).trans hx1133_0
            have HR1133_0 := Aside0.mk hi1133_0
            have HC1133_0 := Aside0.mk hl1133_0
            clear hi1133_0 hl1133_0
            replace p1133 := eq_true p1133
            replace q1133 := eq_true q1133
            have p1134 : 0 ≤ (a1 : Int) := of_decide_eq_true (by first | (with_reducible assumption) | assumption)
            have q1134 : a1 < ((rd_L1 l0_0 x17_1).length : Int) := of_decide_eq_true (by first | (with_reducible assumption) | assumption)
            obtain ⟨ad1134, e1134, hx1134_0⟩ := Kd.at_int HR1133_0.out a1 p1134 q1134
            cases e1134
            replace hx1134_0 := (HB.out.cell (World.block_lt_of_cell? w _ hx1134_0)).trans hx1134_0
            replace p1134 := eq_true p1134
            replace q1134 := eq_true q1134
            have p18 : 0 ≤ (x17_1 : Int) := of_decide_eq_true (by first | (with_reducible assumption) | assumption)
            have q18 : (x17_1 : Int) < ((x7_1.length : Int) : Int) := of_decide_eq_true (by first | (with_reducible assumption) | assumption)
            obtain ⟨go18, co18, eo18, gb18, gl18, cl18, HG18⟩ := Kd.R_form HO_7.out (by omega)
            (first | cases eo18 | (injection eo18 with ea_ en_ ec_; (first | subst ea_ | (injection ea_ with ea_; subst ea_)); subst ec_; clear en_))
            have GB18 := Aside0.mk gb18
            have GG18 := Aside0.mk HG18
            clear gb18 gl18 HG18
            obtain ⟨hx18_0, hf18_0⟩ := Kd.R_celln 0 HO_7.out (x17_1 : Int) p18 q18
            replace p18 := eq_true p18
            replace q18 := eq_true q18
            have HP19 := Kd.R_putg HO_7.out (x17_1 : Int) (wrap64 (-(rd (rd_L1 l0_0 x17_1) a1)))
            go_wp2_with (first | ((with_reducible refine gate_store (t := 2) (p := 30) rfl ?_); refine store_event (t := 2) (p := 30) (v := ?vo_w20) (w1 := (wr.setCell ⟨go18, (x17_1 : Int).toNat, none⟩ (.int .i64 (wrap64 (-(rd (rd_L1 l0_0 x17_1) a1)))))) ?hg ?ho ?hn ?hr ?_; (case ho => rfl); (case hg => rfl); (case hn => rfl); (case hr => first | (go_simp; done) | (go_simp; rfl)); intro w20 hw; have hg : wr.grownBy w20 (some go18) := (by rw [hw]; exact HP19.2); have hp_ : Kd.R (Kd.int .i64) 2 w20 w.heap.size (fun _ => True) (.slice (some ⟨go18, 0, none⟩) x7_1.length co18) y1135 := (by rw [hw, Ny1135.out]; exact HP19.1); clear HP19; have n0_ := Aside0.mk (hp_); have n1_ := Aside0.mk (bg_ BK1129.out hg (Kd.R_ne HO_7.out BK1129.out (by decide))); have n2_ := Aside0.mk ((by rw [hw]; exact below_set (HB.out) GB18.out : Below w.heap.size w w20)); clear HO_7; clear BK1129; clear HB; have HO_7 := n0_; have BK1129 := n1_; have HB := n2_; clear n0_ n1_ n2_; clear hg hw hp_))
            go_roundg k1
            case measure => have := HK1.out; omega
            case rel => exact ⟨(y1135), (wrap64 (x17_1 + 1)), (by first | rfl | (simp; done) | (simp [*]; done)), H', ⟨by have := HK1.out; omega⟩, ⟨ro_ HO_7.out⟩, ⟨bk_⟩, ⟨hb_⟩⟩
           ·rw [if_neg c17] at H
            exact absurd H (by simp)
          ·rw [if_neg c16] at H
           exact absurd H (by simp)
         ·rw [if_neg c15] at H
          exact absurd H (by simp)
        ·replace c14 := Bool.eq_false_iff.mpr c14
         subst c14
         have H1 : (impl_Problem_column.l0 k1 a1 false x7_1 l0_0 (l0_0.length : Int) (wrap64 (x17_1 + 1))) = some r := by rw [if_neg (show ¬ (false = true) by decide)] at H; exact H
         clear H
         have H := H1
         clear H1
         have H' := Aside0.mk H
         clear H
         have p1133 : 0 ≤ (x17_1 : Int) := of_decide_eq_true (by first | (with_reducible assumption) | assumption)
         have q1133 : x17_1 < (l0_0.length : Int) := of_decide_eq_true (by first | (with_reducible assumption) | assumption)
         obtain ⟨ad1133, A1133_0, c1133_0, e1133, hx1133_0, hl1133_0, hi1133_0⟩ := at_L1 HR0_0.out x17_1 p1133 q1133
         cases e1133
         replace hx1133_0 := (HB.out.cell (World.block_lt_of_cell? w _ hx1133_0)).trans hx1133_0
         have HR1133_0 := Aside0.mk hi1133_0
         have HC1133_0 := Aside0.mk hl1133_0
         clear hi1133_0 hl1133_0
         replace p1133 := eq_true p1133
         replace q1133 := eq_true q1133
         go_wp2
         go_roundg k1
         case measure => have := HK1.out; omega
         case rel => exact ⟨(x7_1), (wrap64 (x17_1 + 1)), (by first | rfl | (simp; done) | (simp [*]; done)), H', ⟨by have := HK1.out; omega⟩, ⟨ro_ HO_7.out⟩, ⟨bk_⟩, ⟨hb_⟩⟩
       ·rw [if_neg c13] at H
        exact absurd H (by simp)
      ·rw [if_neg c12] at H
       exact absurd H (by simp)
     ·rw [if_neg c11] at H
      have c11b0 : decide (x17_1 < (l0_0.length : Int)) = false := decide_eq_false c11
      clear c11
      by_cases c21 : a2 = true
      ·subst c21
       have H1 : (some x7_1) = some r := by rw [if_pos rfl] at H; exact H
       clear H
       have H := H1
       clear H1
       obtain rfl := Option.some.inj H
       go_wp2
       go_ret
       exact ⟨_, by first | rfl | (simp [errW_none, errW_some] <;> rfl) | (simp [*, errW_none, errW_some] <;> rfl), ro_ HO_7.out, hb_⟩
      ·replace c21 := Bool.eq_false_iff.mpr c21
       subst c21
       have H1 : (if 0 ≤ a1 then (if a1 < (x7_1.length : Int) then (some (x7_1.set (a1 : Int).toNat 1)) else (none)) else (none)) = some r := by rw [if_neg (show ¬ (false = true) by decide)] at H; exact H
       clear H
       have H := H1
       clear H1
       by_cases c22 : 0 ≤ a1
       ·rw [if_pos c22] at H
        have c22b0 : decide (0 ≤ a1) = true := decide_eq_true c22
        clear c22
        by_cases c23 : a1 < (x7_1.length : Int)
        ·rw [if_pos c23] at H
         have c23b0 : decide (a1 < (x7_1.length : Int)) = true := decide_eq_true c23
         clear c23
         obtain ⟨y1136, hy1136⟩ : ∃ y_ : List Int, y_ = (x7_1.set (a1 : Int).toNat 1) := ⟨_, rfl⟩
         replace H : (some y1136) = some r := by first | (rw [hy1136]; with_reducible exact H) | (have H2_ := (Option.bind_some _ _).symm.trans H; rw [hy1136]; with_reducible exact H2_) | (have H2_ := (Option.bind_some _ _).symm.trans H; with_reducible exact H2_) | with_reducible exact H | (rw [hy1136]; exact H) | exact H
         have Ny1136 := Aside0.mk hy1136
         clear hy1136
         obtain rfl := Option.some.inj H
         have p24 : 0 ≤ (a1 : Int) := of_decide_eq_true (by first | (with_reducible assumption) | assumption)
         have q24 : (a1 : Int) < ((x7_1.length : Int) : Int) := of_decide_eq_true (by first | (with_reducible assumption) | assumption)
         obtain ⟨go24, co24, eo24, gb24, gl24, cl24, HG24⟩ := Kd.R_form HO_7.out (by omega)
         (first | cases eo24 | (injection eo24 with ea_ en_ ec_; (first | subst ea_ | (injection ea_ with ea_; subst ea_)); subst ec_; clear en_))
         have GB24 := Aside0.mk gb24
         have GG24 := Aside0.mk HG24
         clear gb24 gl24 HG24
         obtain ⟨hx24_0, hf24_0⟩ := Kd.R_celln 0 HO_7.out (a1 : Int) p24 q24
         replace p24 := eq_true p24
         replace q24 := eq_true q24
         have HP25 := Kd.R_putg HO_7.out (a1 : Int) 1
         go_wp2_with (first | ((with_reducible refine gate_store (t := 2) (p := 36) rfl ?_); refine store_event (t := 2) (p := 36) (v := ?vo_w26) (w1 := (wr.setCell ⟨go24, (a1 : Int).toNat, none⟩ (.int .i64 1))) ?hg ?ho ?hn ?hr ?_; (case ho => rfl); (case hg => rfl); (case hn => rfl); (case hr => first | (go_simp; done) | (go_simp; rfl)); intro w26 hw; have hg : wr.grownBy w26 (some go24) := (by rw [hw]; exact HP25.2); have hp_ : Kd.R (Kd.int .i64) 2 w26 w.heap.size (fun _ => True) (.slice (some ⟨go24, 0, none⟩) x7_1.length co24) y1136 := (by rw [hw, Ny1136.out]; exact HP25.1); clear HP25; have n0_ := Aside0.mk (hp_); have n1_ := Aside0.mk (bg_ BK1129.out hg (Kd.R_ne HO_7.out BK1129.out (by decide))); have n2_ := Aside0.mk ((by rw [hw]; exact below_set (HB.out) GB24.out : Below w.heap.size w w26)); clear HO_7; clear BK1129; clear HB; have HO_7 := n0_; have BK1129 := n1_; have HB := n2_; clear n0_ n1_ n2_; clear hg hw hp_))
         go_ret
         exact ⟨_, by first | rfl | (simp [errW_none, errW_some] <;> rfl) | (simp [*, errW_none, errW_some] <;> rfl), ro_ HO_7.out, hb_⟩
        ·rw [if_neg c23] at H
         exact absurd H (by simp)
       ·rw [if_neg c22] at H
        exact absurd H (by simp)
  ·rw [if_neg c5] at H
   exact absurd H (by simp)
 ·rw [if_neg c4] at H
  exact absurd H (by simp)
def impl_sign.f (a0 : Int) : Option (Int) := if a0 < 0 then (some (-1)) else (if a0 > 0 then (some 1) else (some 0))
theorem impl_sign.calls (a0 : Int) (r : Int) (w : World) (h : impl_sign.f a0 = some r) :
  Calls Try.prog 172 #[.int .i64 a0] w fun e w' => e = .returned (.int .i64 r) ∧ Drawn0 w w' := by
 have H : (if a0 < 0 then (some (-1)) else (if a0 > 0 then (some 1) else (some 0))) = some r := h
 clear h
 by_cases c2 : a0 < 0
 ·rw [if_pos c2] at H
  have c2b0 : decide (a0 < 0) = true := decide_eq_true c2
  clear c2
  obtain rfl := Option.some.inj H
  go_enter Try.func172, Try.ntmps172
  go_wp2
  go_ret
  exact ⟨by first | rfl | (simp; done) | (simp [*]; done), by repeat (first | exact Drawn0.refl _ | apply Drawn0.step)⟩
 ·rw [if_neg c2] at H
  have c2b0 : decide (a0 < 0) = false := decide_eq_false c2
  clear c2
  by_cases c3 : a0 > 0
  ·rw [if_pos c3] at H
   have c3b0 : decide (0 < a0) = true := decide_eq_true c3
   clear c3
   obtain rfl := Option.some.inj H
   go_enter Try.func172, Try.ntmps172
   go_wp2
   go_ret
   exact ⟨by first | rfl | (simp; done) | (simp [*]; done), by repeat (first | exact Drawn0.refl _ | apply Drawn0.step)⟩
  ·rw [if_neg c3] at H
   have c3b0 : decide (0 < a0) = false := decide_eq_false c3
   clear c3
   obtain rfl := Option.some.inj H
   go_enter Try.func172, Try.ntmps172
   go_wp2
   go_ret
   exact ⟨by first | rfl | (simp; done) | (simp [*]; done), by repeat (first | exact Drawn0.refl _ | apply Drawn0.step)⟩
def impl_has.f (a0 : Int) (a1 : Int) : Option (Bool) := if 0 ≤ a1 then (some ((Go.bits .and .i64 (shr .i64 a0 a1) 1) == 1)) else (none)
theorem impl_has.calls (a0 : Int) (a1 : Int) (r : Bool) (w : World) (h : impl_has.f a0 a1 = some r) :
  Calls Try.prog 120 #[.int .i64 a0, .int .i64 a1] w fun e w' => e = .returned (.bool r) ∧ Drawn0 w w' := by
 have H : (if 0 ≤ a1 then (some ((Go.bits .and .i64 (shr .i64 a0 a1) 1) == 1)) else (none)) = some r := h
 clear h
 by_cases c3 : 0 ≤ a1
 ·rw [if_pos c3] at H
  have c3b0 := eq_true c3
  have c3b1 : decide (0 ≤ a1) = true := decide_eq_true c3
  clear c3
  obtain ⟨ji4, hji4⟩ : ∃ j_ : Int, (shr .i64 a0 a1) = j_ := ⟨_, rfl⟩
  replace H : (some ((Go.bits .and .i64 (ji4) 1) == 1)) = some r := by first | (rw [hji4] at H; exact H) | (simp only [hji4] at H ⊢; exact H)
  have hji4_ : (a0 / 2 ^ min a1.toNat 64) = ji4 := hji4
  have hji4z : a1 ≤ 64 → (a0 / 2 ^ a1.toNat) = ji4 := shr_small hji4
  obtain rfl := Option.some.inj H
  go_enter Try.func120, Try.ntmps120
  go_wp2
  go_ret
  exact ⟨by first | rfl | (simp; done) | (simp only [← hji4] <;> (first | rfl | simp)) | (simp [*]; done), by repeat (first | exact Drawn0.refl _ | apply Drawn0.step)⟩
 ·rw [if_neg c3] at H
  exact absurd H (by simp)
end Go.Proofs.Ytjjbhdpjnjncbaa.Pr
end
section
namespace Go.Proofs.Ytjjbhdpjnjncbaa.Hd
open Go.RowKit Go.Proofs.YtjjbhdpjnjncbaaW.PrintWords Go.Proofs.YtjjbhdpjnjncbaaW.PrintLast Go.Proofs.YtjjbhdpjnjncbaaW.PrintMore Go.Proofs.Ytjjbhdpjnjncbaa.Pr Go.Proofs.Ytjjbhdpjnjncbaa.La Go.Proofs.Ytjjbhdpjnjncbaa.Ma Go.Proofs.Ytjjbhdpjnjncbaa.Hm Go.Proofs.Ytjjbhdpjnjncbaa.Dt
structure Pre (w0 w : World) (g n r : Nat) (b cp : Nat → Nat) : Prop where
 below : Below w0.heap.size w0 w
 gb : w0.heap.size ≤ g
 bb : ∀ j, j < r → w0.heap.size ≤ b j
 inj : ∀ i j, i < r → j < r → b i = b j → i = j
 ne : ∀ j, j < r → b j ≠ g
 cap : ∀ j, j < r → n ≤ cp j
 og : ∀ j, j < r → w.cell? ⟨g, j, none⟩ = some (.slice (some ⟨b j, 0, none⟩) n (cp j))
 ob : ∀ j c, j < r → c < n → w.cell? ⟨b j, c, none⟩ = some (.int .i64 0) ∧ w.frozen? ⟨b j, c, none⟩ = false
 rest : ∀ j, j < n → (∃ v, w.cell? ⟨g, j, none⟩ = some v) ∧ w.frozen? ⟨g, j, none⟩ = false
section
variable {w0 w w1 : World} {g n r : Nat} {b cp : Nat → Nat}
theorem Pre.step (h : Pre w0 w g n r b cp) (hr : r ≤ n) (hb : Below w.heap.size w w1) : Pre w0 w1 g n r b cp :=
  ⟨Below.trans h.below (hb.mono h.below.size), h.gb, h.bb, h.inj, h.ne, h.cap,
   fun j hj => by have := lt_of_cell (h.og j hj); exact (hb.cell (p := ⟨g, j, none⟩) this).trans (h.og j hj),
   fun j c hj hc => by have := lt_of_cell (h.ob j c hj hc).1; exact ⟨(hb.cell (p := ⟨b j, c, none⟩) this).trans (h.ob j c hj hc).1, (frozen_below hb this).trans (h.ob j c hj hc).2⟩,
   fun j hj => by obtain ⟨⟨v, hv⟩, hf⟩ := h.rest j hj; have := lt_of_cell hv; exact ⟨⟨v, (hb.cell (p := ⟨g, j, none⟩) this).trans hv⟩, (frozen_below hb this).trans hf⟩⟩
theorem Pre.full (h : Pre w0 w g n n b cp) : Own w0 w g n b cp (fun _ _ => 0) :=
 ⟨h.below, h.gb, h.bb, h.inj, h.ne, h.cap, fun j hj => ⟨h.og j hj, (h.rest j hj).2⟩, h.ob⟩
theorem Pre.add {bn cn : Nat} (h : Pre w0 w g n r b cp) (hr : r < n) (hb : Below w.heap.size w w1) (hR : Kd.R (Kd.int .i64) 2 w1 w.heap.size (fun _ => True) (.slice (some ⟨bn, 0, none⟩) n cn) (List.replicate n 0)) :
  Pre w0 (w1.setCell ⟨g, r, none⟩ (.slice (some ⟨bn, 0, none⟩) n cn)) g n (r + 1) (fun j => if j = r then bn else b j) (fun j => if j = r then cn else cp j) := by
 have h1 := h.step (Nat.le_of_lt hr) hb
 have hbn : w.heap.size ≤ bn := Kd.R_base hR bn (by simp [Value.ownBlock])
 have hcn := (Kd.R_reads' hR).2.1
 have hlt (j : Nat) (hj : j < r) : b j < w.heap.size := lt_of_cell (h.ob j 0 hj (by omega)).1
 have hg : g < w.heap.size := by obtain ⟨⟨v, hv⟩, _⟩ := h.rest r hr; exact lt_of_cell hv
 refine ⟨h1.below.setCell h1.gb _, h1.gb, fun j hj => ?_, fun i j hi hj e => ?_, fun j hj => ?_, fun j hj => ?_, fun j hj => ?_, fun j c hj hc => ?_, fun j hj => ?_⟩
 ·show w0.heap.size ≤ if j = r then bn else b j
  split
  ·have := h.below.size; omega
  ·exact h.bb j (by omega)
 ·by_cases ei : i = r <;> by_cases ej : j = r
  ·omega
  ·simp only [if_pos ei, if_neg ej] at e; have := hlt j (by omega); omega
  ·simp only [if_neg ei, if_pos ej] at e; have := hlt i (by omega); omega
  ·simp only [if_neg ei, if_neg ej] at e; exact h.inj i j (by omega) (by omega) e
 ·show (if j = r then bn else b j) ≠ g
  split
  ·omega
  ·exact h.ne j (by omega)
 ·show n ≤ if j = r then cn else cp j
  split
  ·exact hcn
  ·exact h.cap j (by omega)
 ·by_cases e : j = r
  ·subst e
   simp only [if_true]
   obtain ⟨⟨v, hv⟩, _⟩ := h1.rest j hr
   exact cset_same hv
  ·simp only [if_neg e]
   rw [cset_other (by intro q; exact e (congrArg Addr.off q).symm)]
   exact h1.og j (by omega)
 ·rw [fset]
  by_cases e : j = r
  ·subst e
   simp only [if_true]
   have hat := Kd.R_celln 0 hR (c : Int) (by omega) (by simp; omega)
   rw [Int.toNat_natCast] at hat
   rw [cset_other (by intro q; have := congrArg Addr.block q; simp only at this; omega)]
   exact ⟨by simpa [rdOf, hc] using hat.1, hat.2⟩
  ·simp only [if_neg e]
   rw [cset_other (by intro q; exact h.ne j (by omega) (congrArg Addr.block q).symm)]
   exact h1.ob j c (by omega) hc
 ·rw [fset]
  refine ⟨?_, (h1.rest j hj).2⟩
  by_cases e : j = r
  ·subst e
   obtain ⟨⟨v, hv⟩, _⟩ := h1.rest j hr
   exact ⟨_, cset_same hv⟩
  ·rw [cset_other (by intro q; exact e (congrArg Addr.off q).symm)]
   exact (h1.rest j hj).1
theorem pre_of_S {ok : Nat → Prop} {v : Value} (h : SS w0 w ok v (List.replicate n [])) (hB : Below w0.heap.size w0 w) (hp : 0 < n) : ∃ g cap, v = .slice (some ⟨g, 0, none⟩) n cap ∧ n ≤ cap ∧ Pre w0 w g n 0 (fun _ => 0) (fun _ => 0) := by
 obtain ⟨g, cap, rfl, hg0, hg1, cells, hgc⟩ := Kd.S_form h (by simpa using hp)
 have hrd := Kd.S_reads' h
 rw [List.length_replicate] at hrd ⊢
 refine ⟨g, cap, rfl, hrd.2.1, ⟨hB, hg0, fun j hj => by omega, fun i j hi => by omega, fun j hj => by omega, fun j hj => by omega, fun j hj => by omega, fun j c hj => by omega, fun j hj => ⟨?_, blk_frozen hgc j⟩⟩⟩
 obtain ⟨ad, A', c', e, hx, _⟩ := at_L1 hrd.2.2 (j : Int) (by omega) (by simp; omega)
 cases e
 rw [Int.toNat_natCast, add_off, Nat.zero_add] at hx
 exact ⟨_, hx⟩
theorem R_keptC {ok : Nat → Prop} {A : Option Addr} {c base : Nat} {xs : List Int} {W : World} {m : Nat} (hR : Kd.R (Kd.int .i64) 2 w base ok (.slice A m c) xs) (hK : Kept w W (okB n b)) (hlt : ∀ j, j < n → b j < base) : Kd.C (Kd.int .i64) W A xs.length xs := by
 have h2 := Kd.R_step (w1 := W) (Kd.R_bound hR) (fun k hk hlt2 => hK.2 k hlt2 (fun ⟨j, hj, e⟩ => by have := hlt j hj; have := hk.2.1; omega))
 exact (Kd.R_reads' h2).2.2
end
def cM (cl : Nat → List Int) (i : Nat) : Mat := fun a d => if d < i then (cl d).getD a 0 else 0
theorem cM_next (cl : Nat → List Int) (i n a d : Nat) (ha : a < n) : pcol (cM cl i) i (cl i) n a d = cM cl (i + 1) a d := by
 unfold pcol cM
 by_cases e : d = i
 ·subst e; rw [if_pos ⟨rfl, ha⟩, if_pos (by omega)]
 ·rw [if_neg (by omega)]
  by_cases q : d < i
  ·rw [if_pos q, if_pos (by omega)]
  ·rw [if_neg q, if_neg (by omega)]
theorem columns_calls (k n : Nat) (s : Int) (cl : Nat → List Int) (A0 : Option Addr) (c0 : Nat) (M : List (List Int)) (A1 : Option Addr) (c1 : Nat) (Q : List Int) (w : World) (hr0 : Kd.C (Kd.slice 2 (Kd.int .i64)) w A0 M.length M) (hc0 : M.length ≤ c0) (hr1 : Kd.C (Kd.int .i64) w A1 Q.length Q) (hc1 : Q.length ≤ c1) (hQ : Q.length = n) (hp : 0 < n) (hn : n ≤ 1000)
  (hcl : ∀ i, i < n → ∃ t, impl_has.f s (i : Int) = some t ∧ impl_Problem_column.f k M Q (i : Int) t = some (cl i) ∧ (cl i).length = n) :
  Calls Try.prog 170 #[.agg #[.slice A0 M.length c0, .slice A1 Q.length c1], .int .i64 s] w fun e w' => ∃ (g cap : Nat) (b cp : Nat → Nat), e = .returned (.slice (some ⟨g, 0, none⟩) n cap) ∧ n ≤ cap ∧ Own w w' g n b cp (cM cl n) := by
 have HR0 := Aside0.mk hr0
 have HC0 := Aside0.mk hc0
 have HR1 := Aside0.mk hr1
 have HC1 := Aside0.mk hc1
 have HQ := Aside0.mk hQ
 have HP := Aside0.mk hp
 have HN := Aside0.mk hn
 have HCL := Aside0.mk hcl
 have HB := Aside0.mk (Below.refl w.heap.size w)
 clear hr0 hc0 hr1 hc1 hp hn hcl
 rw [hQ]
 clear hQ
 have hn0 : (0 : Int) ≤ (n : Int) := by omega
 go_enter Try.func170, Try.ntmps170
 go_wp2_with (first | ((with_reducible refine gate_dst (N := 2) rfl ?_); refine box_event ?hg (N := 2) ?hd (cs := #[.slice A0 M.length c0, .slice A1 n c1]) (t := 56) ?hr ?_; (case hd => rfl); (case hg => rfl); (case hr => first | (go_simp; done) | (go_simp; rfl)); intro gb hg w6 hbox hb; have n0_ := Aside0.mk (below_step HB.out hb); have n1_ := Aside0.mk hbox; clear HB; have HB := n0_; have BK := n1_; clear n0_ n1_; clear hb hbox hg; have hcz0 : w6.cell? ⟨gb, 0, none⟩ = some (.slice A0 M.length c0) := (blk_cell BK.out 0).trans rfl; have hcz1 : w6.cell? ⟨gb, 1, none⟩ = some (.slice A1 n c1) := (blk_cell BK.out 1).trans rfl) | ((with_reducible refine gate_dst (N := 13) rfl ?_); refine Kd.S_make (Kd.slice 2 (Kd.int .i64)) w.heap.size 33 rfl (N := 13) rfl 22 _ _ rfl (n : Int) rfl rfl Try.underlying22 (.slice none 0 0) 24 info33 rfl (by decide) (by omega) [] (ok := fun _ => True) (okp := fun _ => True) ⟨_, rfl, Kd.R_nil _ _ _ _ _⟩ (fun _ hk => hk) trivial hn0 (by have := HN.out; omega) HB.out HB.out.size ?_; intro v13 w7 ho hb hg hat; have n0_ := Aside0.mk ho; have n1_ := Aside0.mk (blk_grown BK.out hg (by simp)); have BK6 := BK; clear HB BK hcz0 hcz1; have HS := n0_; have BK := n1_; have HB := Aside0.mk hb; have HGN : Aside0 (∀ k, v13.ownBlock = some k → gb < k) := ⟨fun k hk => by obtain ⟨b_, hb_, hl_⟩ := hat; rw [hb_] at hk; injection hk with hk; have := blk_lt BK6.out; omega⟩; clear BK6 n0_ n1_ ho hb hg hat))
 obtain ⟨g, cap, rfl, hcap, hpre⟩ := pre_of_S (by simpa using HS.out) HB.out HP.out
 have HPRE := Aside0.mk hpre
 have HCAP := Aside0.mk hcap
 have HGB : Aside0 (gb < g) := ⟨by have := HGN.out g (by simp [Value.ownBlock]); omega⟩
 clear HS hcap hpre HGN
 go_wp2
 go_loopg [16] n (fun gg v16 wr => ∃ (r : Nat) (b cp : Nat → Nat), r ≤ n ∧ n - r ≤ gg ∧ v16 = .int .i64 (r : Int) ∧ Aside0 (Pre w wr g n r b cp) ∧ Aside0 (∀ j, j < r → gb < b j) ∧ Aside0 (wr.heap[gb]? = some (.cells #[.slice A0 M.length c0, .slice A1 n c1] 56 (0, 0))))
 case atStart => exact ⟨0, _, _, Nat.zero_le _, by omega, rfl, HPRE, ⟨fun j hj => by omega⟩, BK⟩
 case round =>
  clear HPRE BK HB
  obtain ⟨r, b, cp, hr, hg, rfl, HPRE, HGJ, BK⟩ := hrel
  have HR := Aside0.mk hr
  have HG := Aside0.mk hg
  by_cases hlt : r < n
  ·have hltz : (r : Int) < (n : Int) := by omega
   have h0z : (0 : Int) ≤ (r : Int) := by omega
   have HLT := Aside0.mk hlt
   have hr1 : IntKind.i64.wrap ((r : Int) + 1) = ((r + 1 : Nat) : Int) := by rw [IntWalk.i64_in _ (by have := HN.out; omega)]; rfl
   have HR1 := Aside0.mk hr1
   clear hlt hr hg
   go_wp2_with (first | ((with_reducible refine gate_dst (N := 22) rfl ?_); refine Kd.R_make (w0 := wr) (Kd.int .i64) wr.heap.size 2 rfl (N := 22) rfl 33 _ _ rfl (n : Int) rfl rfl Try.underlying33 (.int .i64 0) 8 info2 rfl (by decide) (by decide) 0 (ok := fun _ => True) (okp := fun _ => True) rfl (fun _ hk => hk) trivial hn0 (by have := HN.out; omega) (Below.refl _ _) (Nat.le_refl _) ?_; intro v22 w8 ho hb hg2 hat; obtain ⟨bn, cn, rfl, hbn1, hbn2, cells, hbc⟩ := Kd.R_form ho (by have := HP.out; simp; omega); simp only [Int.toNat_natCast, List.length_replicate] at ho ⊢; have HADD := Aside0.mk (HPRE.out.add HLT.out hb ho); have hcg := (((HPRE.out.step (Nat.le_of_lt HLT.out) hb).rest r HLT.out).1); have hfr := (((HPRE.out.step (Nat.le_of_lt HLT.out) hb).rest r HLT.out).2); obtain ⟨vg, hcg⟩ := hcg; have HBN : Aside0 (wr.heap.size ≤ bn) := ⟨hbn1⟩; have n1_ := Aside0.mk (blk_below BK.out hb); have HGBW := Aside0.mk (blk_lt BK.out); clear BK HPRE; have BK := n1_; clear n1_ ho hb hg2 hat hbn1 hbn2 hbc))
   go_roundg (n - (r + 1))
   case measure => have := HG.out; have := HLT.out; omega
   case rel =>
    refine ⟨r + 1, _, _, by have := HLT.out; omega, by omega, by first | rfl | (rw [HR1.out]) | (simp [HR1.out]), HADD, ⟨fun j hj => ?_⟩, ⟨?_⟩⟩
    ·show gb < if j = r then bn else b j
     split
     ·have := HBN.out; have := HGBW.out; omega
     ·exact HGJ.out j (by omega)
    ·exact (Below.heap_setCell _ _ _ gb (by have := HGB.out; simp; omega)).trans BK.out
  ·have hltz : ¬ (r : Int) < (n : Int) := by omega
   obtain rfl : r = n := by omega
   have HO := Aside0.mk (HPRE.out.full)
   have HO := Aside0.mk (HO.out.congr (M' := cM cl 0) (fun a d _ _ => by simp [cM]))
   clear HPRE hr hg
   go_wp2
   go_loopg [26] r (fun gg v26 w4 => ∃ i : Nat, i ≤ r ∧ r - i ≤ gg ∧ v26 = .int .i64 (i : Int) ∧ Aside0 (Own w w4 g r b cp (cM cl i)) ∧ Aside0 (w4.heap[gb]? = some (.cells #[.slice A0 M.length c0, .slice A1 r c1] 56 (0, 0))))
   case atStart => exact ⟨0, Nat.zero_le _, by omega, rfl, HO, BK⟩
   case round =>
    clear HO BK
    obtain ⟨i, hi, hg2, rfl, HO, BK⟩ := hrel
    have HG2 := Aside0.mk hg2
    by_cases hin : i < r
    ·have hiz : (i : Int) < (r : Int) := by omega
     have h0i : (0 : Int) ≤ (i : Int) := by omega
     have HIN := Aside0.mk hin
     have hi1 : IntKind.i64.wrap ((i : Int) + 1) = ((i + 1 : Nat) : Int) := by rw [IntWalk.i64_in _ (by have := HN.out; omega)]; rfl
     have HI1 := Aside0.mk hi1
     obtain ⟨th, hth, hcol, hclen⟩ := HCL.out i hin
     have HTH := Aside0.mk hth
     have HCOLF := Aside0.mk hcol
     have HCLEN := Aside0.mk hclen
     have n0_ := Aside0.mk (HO.out.step (below_drew (Below.refl wr.heap.size wr)))
     have n1_ := Aside0.mk (blk_drew BK.out)
     clear HO BK
     have HO := n0_
     have BK := n1_
     clear n0_ n1_ hi hg2 hin hth hcol hclen
     have hcz0 : wr.drew.cell? ⟨gb, 0, none⟩ = some (.slice A0 M.length c0) := (blk_cell BK.out 0).trans rfl
     have hcz1 : wr.drew.cell? ⟨gb, 1, none⟩ = some (.slice A1 r c1) := (blk_cell BK.out 1).trans rfl
     go_wp2
     refine st_ (n := 9) (S := fun w' => w'.cell? ⟨gb, 0, none⟩ = some (.slice A0 M.length c0) ∧ w'.cell? ⟨gb, 1, none⟩ = some (.slice A1 r c1)) (ds := []) ⟨hcz0, hcz1⟩ (fun hHeld => ?_)
     generalize wr.drew = w9 at HO BK hcz0 hcz1 hHeld ⊢
     refine pu_ 0 29 ?_; refine pu_ 1 30 ?_; refine tk_ 2 31 ?_; refine pu_ 3 32 ?_; refine pu_ 4 33 ?_; refine pu_ 5 34 ?_
     refine on_ 6 (some 35) (fun K hK => ?_)
     refine goes_ Try.func120 (by kernel_rfl) rfl #[.int .i64 s, .int .i64 (i : Int)] (by rfl) rfl rfl (by (try simp only [List.map_toArray, List.map_cons, List.map_nil]); first | done | rfl) ?_
     refine (impl_has.calls s (i : Int) th _ HTH.out).mono ?_
     rintro e w5 ⟨rfl, hd5⟩
     refine ⟨_, rfl, ?_⟩
     have n0_ := Aside0.mk (HO.out.step hd5.below)
     have n1_ := Aside0.mk (blk_below BK.out hd5.below)
     clear HO BK hd5 hHeld hcz0 hcz1
     have HO := n0_
     have BK := n1_
     clear n0_ n1_
     refine hK.out _ _ ⟨(blk_cell BK.out 0).trans rfl, (blk_cell BK.out 1).trans rfl⟩ (fun hHeld => ?_)
     clear hK K
     refine norm_ (a' := ?_) ?_ ?_
     rotate_left
     ·show Act.put _ (some 35) _ = _
      simp only [Act.put, List.setIfInBounds_toArray, List.set_cons_zero, List.set_cons_succ, i64_w, i32_w]
      rfl
     refine on_ 7 (some 36) (fun K hK => ?_)
     refine goes_ Try.func168 (by kernel_rfl) rfl #[.agg #[.slice A0 M.length c0, .slice A1 r c1], .int .i64 (i : Int), .bool th] (by rfl) rfl rfl (by (try simp only [List.map_toArray, List.map_cons, List.map_nil]); first | done | rfl) ?_
     have hcc := impl_Problem_column.calls k A0 c0 M A1 c1 Q (i : Int) th (cl i) w5 (Kd.C_below HR0.out HO.out.below) HC0.out (Kd.C_below HR1.out HO.out.below) HC1.out HCOLF.out
     rw [HQ.out] at hcc
     refine hcc.mono ?_
     clear hcc
     rintro e w6' ⟨vc, rfl, hRc, hb6⟩
     obtain ⟨Ac, cc, rfl⟩ := Kd.R_slice hRc
     refine ⟨_, rfl, ?_⟩
     have HRC := Aside0.mk hRc
     have HBL : Aside0 (∀ j, j < r → b j < w5.heap.size) := ⟨fun j hj => lt_of_cell (HO.out.ob j i hj HIN.out).1⟩
     have n0_ := Aside0.mk (HO.out.step hb6)
     have n1_ := Aside0.mk (blk_below BK.out hb6)
     clear HO BK hb6 hHeld hRc
     have HO := n0_
     have BK := n1_
     clear n0_ n1_
     refine hK.out _ _ ⟨(blk_cell BK.out 0).trans rfl, (blk_cell BK.out 1).trans rfl⟩ (fun hHeld => ?_)
     clear hK K
     refine norm_ (a' := ?_) ?_ ?_
     rotate_left
     ·show Act.put _ (some 36) _ = _
      simp only [Act.put, List.setIfInBounds_toArray, List.set_cons_zero, List.set_cons_succ, i64_w, i32_w]
      rfl
     refine on_ 8 (some 37) (fun K hK => ?_)
     refine goes_ Try.func171 (by kernel_rfl) rfl #[.slice (some ⟨g, 0, none⟩) r cap, .int .i64 (i : Int), .slice Ac (cl i).length cc] (by rfl) rfl rfl (by (try simp only [List.map_toArray, List.map_cons, List.map_nil]); first | done | rfl) ?_
     refine (putO (w0 := w) i HIN.out cap Ac cc (cl i) HO.out HN.out (by rw [HCLEN.out]; exact Nat.le_refl _) (fun W hK hB => R_keptC HRC.out hK HBL.out)).mono ?_
     rintro e w7' ⟨rfl, hO7, hK7⟩
     refine ⟨_, rfl, ?_⟩
     have n0_ := Aside0.mk (hO7.congr (M' := cM cl (i + 1)) (fun a d ha _ => cM_next cl i r a d ha))
     have n1_ := Aside0.mk (blk_kept BK.out hK7 (fun ⟨j, hj, e⟩ => by have := HGJ.out j hj; omega))
     clear HO BK hK7 hO7 hHeld
     have HO := n0_
     have BK := n1_
     clear n0_ n1_
     refine hK.out _ _ ⟨(blk_cell BK.out 0).trans rfl, (blk_cell BK.out 1).trans rfl⟩ (fun hHeld => ?_)
     clear hK K
     refine norm_ (a' := ?_) ?_ ?_
     rotate_left
     ·show Act.put _ (some 37) _ = _
      simp only [Act.put, List.setIfInBounds_toArray, List.set_cons_zero, List.set_cons_succ, i64_w, i32_w]
      rfl
     refine done_ (by kernel_rfl) ?_
     go_wp2
     go_roundg (r - (i + 1))
     case measure => have := HG2.out; have := HIN.out; omega
     case rel => exact ⟨i + 1, by have := HIN.out; omega, by omega, by first | rfl | (rw [HI1.out]) | (simp [HI1.out]), HO, BK⟩
    ·have hiz : ¬ (i : Int) < (r : Int) := by omega
     obtain rfl : i = r := by omega
     go_wp2
     go_ret
     exact ⟨g, cap, rfl, HCAP.out, b, cp, HO.out⟩
end Go.Proofs.Ytjjbhdpjnjncbaa.Hd
end
section
namespace Go.Proofs.Ytjjbhdpjnjncbaa.Bd
open Go.RowKit Go.Proofs.YtjjbhdpjnjncbaaW.PrintWords Go.Proofs.YtjjbhdpjnjncbaaW.PrintMore Go.Proofs.Ytjjbhdpjnjncbaa.Ma Go.Proofs.Ytjjbhdpjnjncbaa.Dt
def ev (M : Mat) (i : Nat) (last : Int) (r c : Nat) : Int := wrap64 (Int.tdiv (wrap64 (wrap64 (M r c * M i i) - wrap64 (M r i * M i c))) last)
def mid (M : Mat) (i : Nat) (last : Int) (r c : Nat) : Mat := fun a b => if i ≤ b ∧ i < a ∧ (a < r ∨ a = r ∧ b < c) then ev M i last a b else M a b
def el (M : Mat) (i : Nat) (last : Int) : Mat := fun a b => if i ≤ b ∧ i < a then ev M i last a b else M a b
def fnd (M : Mat) (i : Nat) : Nat → Nat → Option Nat
 | 0, _ => none
 | q + 1, k => if M (i + k) i ≠ 0 then some k else fnd M i q (k + 1)
def swp (M : Mat) (r q : Nat) : Mat := fun j => M (if j = r then q else if j = q then r else j)
def dgo (n : Nat) : Nat → Nat → Mat → Int → Int → Int
 | 0, _, _, last, turn => wrap64 (turn * last)
 | q + 1, i, M, last, turn => match fnd M i (n - i) 0 with
  | none => 0
  | some 0 => dgo n q (i + 1) (el M i last) (M i i) turn
  | some (k + 1) => dgo n q (i + 1) (el (swp M i (i + (k + 1))) i last) (swp M i (i + (k + 1)) i i) (wrap64 (-turn))
theorem fnd_some {M : Mat} {i : Nat} : ∀ {q k j : Nat}, fnd M i q k = some j → k ≤ j ∧ j < k + q ∧ M (i + j) i ≠ 0 ∧ ∀ t, k ≤ t → t < j → M (i + t) i = 0
 | 0, _, _, h => by cases h
 | q + 1, k, j, h => by
  unfold fnd at h
  by_cases c : M (i + k) i ≠ 0
  ·rw [if_pos c] at h
   cases h
   exact ⟨Nat.le_refl _, by omega, c, fun t h1 h2 => by omega⟩
  ·rw [if_neg c] at h
   obtain ⟨h1, h2, h3, h4⟩ := fnd_some h
   refine ⟨by omega, by omega, h3, fun t h5 h6 => ?_⟩
   by_cases e : t = k
   ·subst e; exact Decidable.not_not.1 c
   ·exact h4 t (by omega) h6
theorem fnd_none {M : Mat} {i : Nat} : ∀ {q k : Nat}, fnd M i q k = none → ∀ t, k ≤ t → t < k + q → M (i + t) i = 0
 | 0, _, _, t, h1, h2 => by omega
 | q + 1, k, h, t, h1, h2 => by
  unfold fnd at h
  by_cases c : M (i + k) i ≠ 0
  ·rw [if_pos c] at h; cases h
  ·rw [if_neg c] at h
   by_cases e : t = k
   ·subst e; exact Decidable.not_not.1 c
   ·exact fnd_none h t (by omega) (by omega)
theorem mid_start (M : Mat) (i : Nat) (last : Int) (a b : Nat) : mid M i last (i + 1) i a b = M a b := by unfold mid; rw [if_neg (by omega)]
theorem mid_row (M : Mat) (i : Nat) (last : Int) {n : Nat} (r a b : Nat) (hb : b < n) : mid M i last r n a b = mid M i last (r + 1) i a b := by
 unfold mid
 by_cases c : i ≤ b ∧ i < a ∧ (a < r ∨ a = r ∧ b < n)
 ·rw [if_pos c, if_pos (by omega)]
 ·rw [if_neg c, if_neg (by omega)]
theorem mid_end (M : Mat) (i : Nat) (last : Int) {n : Nat} (a b : Nat) (ha : a < n) : mid M i last n i a b = el M i last a b := by
 unfold mid el
 by_cases c : i ≤ b ∧ i < a
 ·rw [if_pos c, if_pos (by omega)]
 ·rw [if_neg c, if_neg (by omega)]
theorem mid_next (M : Mat) (i : Nat) (last : Int) (r c : Nat) (hr : i < r) (hc : i ≤ c) (a b : Nat) : (if a = r ∧ b = c then ev M i last r c else mid M i last r c a b) = mid M i last r (c + 1) a b := by
 unfold mid
 by_cases e : a = r ∧ b = c
 ·obtain ⟨rfl, rfl⟩ := e
  rw [if_pos ⟨rfl, rfl⟩, if_pos (by omega)]
 ·rw [if_neg e]
  by_cases q : i ≤ b ∧ i < a ∧ (a < r ∨ a = r ∧ b < c)
  ·rw [if_pos q, if_pos (by omega)]
  ·rw [if_neg q, if_neg (by omega)]
theorem mid_head (M : Mat) (i : Nat) (last : Int) (r c b : Nat) : mid M i last r c i b = M i b := by unfold mid; rw [if_neg (by omega)]
theorem mid_at (M : Mat) (i : Nat) (last : Int) (r c b : Nat) (h : c ≤ b) : mid M i last r c r b = M r b := by unfold mid; rw [if_neg (by omega)]
end Go.Proofs.Ytjjbhdpjnjncbaa.Bd
end
section
namespace Go.Proofs.Ytjjbhdpjnjncbaa.Pr
open Go Go.RowKit Go.Proofs.YtjjbhdpjnjncbaaW.PrintWords Go.Proofs.YtjjbhdpjnjncbaaW.PrintLast Go.Proofs.YtjjbhdpjnjncbaaW.PrintMore
theorem run_eql_slice_nil {P : Program} (w : World) (t e : TypeId) (a : Option Addr) (l c : Nat) (h : P.underlying t = some (.slice e)) : (binOp .eql t (.slice a l c) (.slice none 0 0)).run P w = .ok (.bool a.isNone) w := by
 simp only [binOp]
 simp [run_equal_slice_nil w t e a l c h]
def slices_Clone.f (l0 : List Int) : Option (List Int) := if l0.length ≤ 1099511627776 then some l0 else none
theorem slices_Clone.calls (A0 : Option Addr) (c0 : Nat) (l0 : List Int) (r : List Int) (w : World) (hr0 : Kd.C (Kd.int .i64) w A0 l0.length l0) (hc0 : l0.length ≤ c0) (h : slices_Clone.f l0 = some r) :
  Calls Try.prog 176 #[.slice A0 l0.length c0] w fun e w' => ∃ v0_ : Value, e = .returned (v0_) ∧ Kd.R (Kd.int .i64) 2 w' w.heap.size (fun _ => True) v0_ r ∧ Below w.heap.size w w' := by
 unfold slices_Clone.f at h
 split at h
 case isFalse => cases h
 rename_i hl
 cases h
 have hu := Try.underlying33
 have HR := Aside0.mk hr0
 have HL := Aside0.mk hl
 clear hc0 hl
 cases A0 with
 | none =>
  have h0 : l0 = [] := by
   cases l0 with
   | nil => rfl
   | cons a t => obtain ⟨ad, e, _⟩ := Kd.at_int hr0 0 (by simp) (by simp); cases e
  subst h0
  clear hr0 HR
  have he := run_eql_slice_nil (P := Try.prog) w 33 2 none 0 c0 hu
  go_enter Try.func176, Try.ntmps176
  go_wp2
  go_ret
  exact ⟨_, rfl, Kd.R_nil _ _ _ _ _, Below.refl _ _⟩
 | some ad =>
  clear hr0
  have he := run_eql_slice_nil (P := Try.prog) w 33 2 (some ad) l0.length c0 hu
  go_enter Try.func176, Try.ntmps176
  go_wp2_with (first | ((with_reducible refine gate_dst (N := 5) rfl ?_); refine Kd.R_lit (Kd.int .i64) _ 2 ?hg (N := 5) ?hd (xs := ([] : List Int)) (inner := []) (ok := fun _ => True) (okp := fun _ => True) ?hr ?hp (fun _ hk => hk) trivial (Below.refl _ _) (Nat.le_refl _) (by simp) ?_; (case hd => rfl); (case hg => rfl); (case hr => first | (go_simp; done) | (go_simp; rfl)); (case hp => exact (Reps.none _ _)); intro v1 w1 ho hb hg_ hat_; clear hg_ hat_; have HO := Aside0.mk ho; have HB := Aside0.mk hb; clear ho hb) | ((with_reducible refine gate_dst (N := 7) rfl ?_); (refine Kd.R_append_row (Value.int .i64) 0 (w0 := w) w.heap.size rfl (.tmp 5) (.tmp 6) 33 2 (.int .i64 0) 8 rfl Try.underlying33 info2 rfl (by decide) v1 [] l0 (some ad) l0.length c0 (fun _ => True) (by rfl) (by rfl) (fun _ _ => trivial) HO.out (Kd.C_below HR.out HB.out) HB.out HB.out.size (by have := HL.out; simp; omega) ?_; intro v2 w2 ho hb hg_ hat_; clear hg_ hat_; have HO2 := Aside0.mk ho; have HB2 := Aside0.mk hb; clear ho hb)))
  go_ret
  exact ⟨_, rfl, HO2.out, HB2.out⟩
end Go.Proofs.Ytjjbhdpjnjncbaa.Pr
end
section
namespace Go.Proofs.Ytjjbhdpjnjncbaa.Pr
open Go.RowKit Go.Proofs.YtjjbhdpjnjncbaaW.PrintWords Go.Proofs.YtjjbhdpjnjncbaaW.PrintLast Go.Proofs.YtjjbhdpjnjncbaaW.PrintMore
attribute [local go_sem] max2_int min2_int max_two min_two max_three min_three max_four min_four
def impl_copyRows.l0 : Nat → List (List Int) → List (List Int) → Int → Int → Option ((List (List Int)))
 | 0, _, _, _, _ => none
 | k + 1, x3, x6, x7, x8 => if x8 < x7 then (if 0 ≤ x8 then (if x8 < (x6.length : Int) then ((slices_Clone.f (rd_L1 x6 x8)).bind fun t598 => (if x3.length < 5864062014805 then (impl_copyRows.l0 k (x3 ++ [t598]) x6 x7 (wrap64 (x8 + 1))) else (none))) else (none)) else (none)) else (some x3)
def impl_copyRows.f (k : Nat) (l0 : List (List Int)) : Option ((List (List Int))) := impl_copyRows.l0 k ([] : List (List Int)) l0 (l0.length : Int) 0
theorem impl_copyRows.mono_l : ∀ k, (∀ y0 y1 y2 y3, LeO (impl_copyRows.l0 k y0 y1 y2 y3) (impl_copyRows.l0 (k + 1) y0 y1 y2 y3))
 | 0 => fun _ _ _ _ r h => by simp [impl_copyRows.l0] at h
 | k + 1 => by
  have ih0 := impl_copyRows.mono_l k
  ·intro y0 y1 y2 y3
   unfold impl_copyRows.l0
   repeat' first
   | (with_reducible exact ih0 _ _ _ _)
   | (with_reducible exact LeO.refl _)
   | (with_reducible exact LeO.none _)
   | (with_reducible refine LeO.ite ?_ ?_)
   | (with_reducible refine LeO.bind ?_ (fun _ => ?_))
   | exact ih0 _ _ _ _
   | exact LeO.none _
   | refine LeO.ite ?_ ?_
   | refine LeO.bind ?_ (fun _ => ?_)
theorem impl_copyRows.mono : ∀ a0 k, LeO (impl_copyRows.f k a0) (impl_copyRows.f (k + 1) a0) := by
 intro a0 k
 have ih0 := impl_copyRows.mono_l k
 unfold impl_copyRows.f
 repeat' first
   | (with_reducible exact ih0 _ _ _ _)
   | (with_reducible exact LeO.refl _)
   | (with_reducible exact LeO.none _)
   | (with_reducible refine LeO.ite ?_ ?_)
   | (with_reducible refine LeO.bind ?_ (fun _ => ?_))
   | exact ih0 _ _ _ _
   | exact LeO.none _
   | refine LeO.ite ?_ ?_
   | refine LeO.bind ?_ (fun _ => ?_)
theorem impl_copyRows.calls (k : Nat) (A0 : Option Addr) (c0 : Nat) (l0 : List (List Int)) (r : List (List Int)) (w : World) (hr0 : Kd.C (Kd.slice 2 (Kd.int .i64)) w A0 l0.length l0) (hc0 : l0.length ≤ c0) (h : impl_copyRows.f k l0 = some r) :
  Calls Try.prog 160 #[.slice A0 l0.length c0] w fun e w' => ∃ v0_ : Value, e = .returned (v0_) ∧ Kd.S (Kd.slice 2 (Kd.int .i64)) 33 w' w.heap.size (fun _ => True) v0_ r ∧ Below w.heap.size w w' := by
 have HR0 := Aside0.mk hr0
 have HC0 := Aside0.mk hc0
 clear hr0 hc0
 have HB := Aside0.mk (Below.refl w.heap.size w)
 have H : (impl_copyRows.l0 k ([] : List (List Int)) l0 (l0.length : Int) 0) = some r := h
 clear h
 have H' := Aside0.mk H
 clear H
 go_enter Try.func160, Try.ntmps160
 go_wp2
 go_loopg [3, 8] k (fun kq v3 v8 w' => ∃ (x3_1 : List (List Int)) (x8_1 : Int), v8 = .int .i64 x8_1 ∧ Aside0 (impl_copyRows.l0 kq x3_1 l0 (l0.length : Int) x8_1 = some r) ∧ Aside0 (kq ≤ k) ∧ Aside0 (Kd.S (Kd.slice 2 (Kd.int .i64)) 33 w' w.heap.size (fun _ => True) v3 x3_1) ∧ Aside0 (Below w.heap.size w w'))
 case atStart => exact ⟨(([] : List (List Int))), (0), (by first | rfl | (simp; done) | (simp [*]; done)), H', ⟨Nat.le_refl _⟩, ⟨by first | exact Kd.S_nil _ _ _ _ _ | exact Kd.N_nil _ _ _ _ _ | exact Kd.V_nil _ _ _ _ _ | exact Kd.Q_nil _ _ _ _ _ | exact Kd.R_nil _ _ _ _ _⟩, ⟨hb_⟩⟩
 case round =>
  clear H'
  try clear c1
  obtain ⟨x3_1, x8_1, rfl, HA, HK1, HO_3, HB⟩ := hrel
  cases gk with
  | zero => exact absurd HA.out (by simp [impl_copyRows.l0])
  | succ k1 =>
   have H := HA.out
   clear HA
   simp only [impl_copyRows.l0] at H
   by_cases c2 : x8_1 < (l0.length : Int)
   ·rw [if_pos c2] at H
    have c2b0 : decide (x8_1 < (l0.length : Int)) = true := decide_eq_true c2
    clear c2
    by_cases c3 : 0 ≤ x8_1
    ·rw [if_pos c3] at H
     have c3b0 : decide (0 ≤ x8_1) = true := decide_eq_true c3
     clear c3
     by_cases c4 : x8_1 < (l0.length : Int)
     ·rw [if_pos c4] at H
      have c4b0 : decide (x8_1 < (l0.length : Int)) = true := decide_eq_true c4
      clear c4
      replace H := Option.bind_eq_some_iff.mp H
      obtain ⟨t598, A50, H⟩ := H
      replace H : (if x3_1.length < 5864062014805 then (impl_copyRows.l0 k1 (x3_1 ++ [t598]) l0 (l0.length : Int) (wrap64 (x8_1 + 1))) else (none)) = some r := H
      have A5 := Aside0.mk A50
      clear A50
      by_cases c6 : x3_1.length < 5864062014805
      ·rw [if_pos c6] at H
       have LMc6 := Aside0.mk c6
       clear c6
       obtain ⟨y601, hy601⟩ : ∃ y_ : List (List Int), y_ = (x3_1 ++ [t598]) := ⟨_, rfl⟩
       replace H : (impl_copyRows.l0 k1 y601 l0 (l0.length : Int) (wrap64 (x8_1 + 1))) = some r := by first | (rw [hy601]; with_reducible exact H) | (have H2_ := (Option.bind_some _ _).symm.trans H; rw [hy601]; with_reducible exact H2_) | (have H2_ := (Option.bind_some _ _).symm.trans H; with_reducible exact H2_) | with_reducible exact H | (rw [hy601]; exact H) | exact H
       have Ny601 := Aside0.mk hy601
       clear hy601
       have H' := Aside0.mk H
       clear H
       have p597 : 0 ≤ (x8_1 : Int) := of_decide_eq_true (by first | (with_reducible assumption) | assumption)
       have q597 : x8_1 < (l0.length : Int) := of_decide_eq_true (by first | (with_reducible assumption) | assumption)
       obtain ⟨ad597, A597_0, c597_0, e597, hx597_0, hl597_0, hi597_0⟩ := at_L1 HR0.out x8_1 p597 q597
       cases e597
       replace hx597_0 := (HB.out.cell (World.block_lt_of_cell? w _ hx597_0)).trans hx597_0
       have HR597_0 := Aside0.mk hi597_0
       have HC597_0 := Aside0.mk hl597_0
       clear hi597_0 hl597_0
       replace p597 := eq_true p597
       replace q597 := eq_true q597
       go_wp2_with (first | ((with_reducible refine gate_callee (f := 176) rfl ?_); refine goesL_ (some 14) rfl rfl Try.func176 (by kernel_rfl) rfl #[.slice A597_0 (rd_L1 l0 x8_1).length c597_0] rfl (by (try simp only [List.map_toArray, List.map_cons, List.map_nil]); first | done | rfl | (simp only [List.length_drop, List.length_take]; rfl)) ?_; (with_reducible refine (slices_Clone.calls _ _ (rd_L1 l0 x8_1) t598 _ ?side1 ?side2 A5.out).mono ?_); (case side1 => exact cb_ HR597_0.out HB.out); (case side2 => exact HC597_0.out); rintro e w7 ⟨v599, rfl, ho0, hb⟩; refine ⟨_, rfl, ?_⟩; have n0_ := Aside0.mk (Kd.S_elder' (so_ HO_3.out) (Kd.R_base ho0) hb); have n1_ := Aside0.mk (Kd.R_lower ho0 bz_); have n2_ := Aside0.mk (bs_ hb); clear HO_3; clear HB; have HO_3 := n0_; have HO600 := n1_; have HB := n2_; clear n0_ n1_ n2_; (try clear hb); (try clear hb2); (try clear hk); (try clear hi); (try clear ho0); obtain ⟨Ao9, co9, eo9⟩ := Kd.R_slice HO600.out; subst eo9) | ((with_reducible refine gate_builtin (b := .append) (xs := #[.tmp 12, .tmp 15]) rfl ?_); at_builtin; refine Kd.S_append (Kd.slice 2 (Kd.int .i64)) (w0 := w) w.heap.size rfl (.tmp 12) (.tmp 15) 22 33 (.slice none 0 0) 24 rfl Try.underlying22 info33 rfl (by decide) (by omega) u3 x3_1 t598 [.slice Ao9 t598.length co9] (fun _ => True) (fun k_ => some k_ = (.slice Ao9 t598.length co9 : Value).ownBlock) rfl rfl ?aP (fun k_ hk_ => ((Kd.R_mono (ok' := fun k_ => ((fun _ => True)) k_ ∧ some k_ ≠ (u3 : Value).ownBlock) (Kd.R_apart' (HO600.out) (Kd.S_typed HO_3.out) (by decide)) (fun k_ hk => ⟨trivial, hk.2⟩))).1 k_ hk_.symm) ?aF ?aO ?aB ?aS ?aL ?_; (case aP => exact Kd.M_row (Kd.R_mono (Kd.R_tight rfl (Kd.R_mono (ok' := fun k_ => ((fun _ => True)) k_ ∧ some k_ ≠ (u3 : Value).ownBlock) (Kd.R_apart' (HO600.out) (Kd.S_typed HO_3.out) (by decide)) (fun k_ hk => ⟨trivial, hk.2⟩))) (fun _ h_ => h_))); (case aB => exact hb_); (case aF => exact (fun _ _ => trivial)); (case aO => exact (by (with_reducible repeat (first | apply Kd.S_alloc | apply Kd.S_drewN | apply Kd.S_drew)); exact Kd.S_mono HO_3.out (fun k_ hk => ⟨trivial, fun e_ => hk.2 e_⟩))); (case aS => exact bz_); (case aL => have := LMc6.out; omega); intro v602 w8 ho hb hg hat; rw [← Ny601.out] at ho; have n0_ := Aside0.mk (hb); have n1_ := Aside0.mk (ho); clear HB; clear HO_3; clear HO600; have HB := n0_; have HO603 := n1_; clear n0_ n1_; clear ho hb hg hat))
       go_roundg k1
       case measure => have := HK1.out; omega
       case rel => exact ⟨(y601), (wrap64 (x8_1 + 1)), (by first | rfl | (simp; done) | (simp [*]; done)), H', ⟨by have := HK1.out; omega⟩, ⟨so_ HO603.out⟩, ⟨hb_⟩⟩
      ·rw [if_neg c6] at H
       exact absurd H (by simp)
     ·rw [if_neg c4] at H
      exact absurd H (by simp)
    ·rw [if_neg c3] at H
     exact absurd H (by simp)
   ·rw [if_neg c2] at H
    have c2b0 : decide (x8_1 < (l0.length : Int)) = false := decide_eq_false c2
    clear c2
    obtain rfl := Option.some.inj H
    go_wp2
    go_ret
    exact ⟨_, by first | rfl | (simp [errW_none, errW_some] <;> rfl) | (simp [*, errW_none, errW_some] <;> rfl), so_ HO_3.out, hb_⟩
end Go.Proofs.Ytjjbhdpjnjncbaa.Pr
end
section
namespace Go.Proofs.Ytjjbhdpjnjncbaa.Cp
open Go.RowKit Go.Proofs.YtjjbhdpjnjncbaaW.PrintWords Go.Proofs.YtjjbhdpjnjncbaaW.PrintMore Go.Proofs.Ytjjbhdpjnjncbaa.Ma Go.Proofs.Ytjjbhdpjnjncbaa.Pr
theorem copy_eq (l : List (List Int)) (hl : l.length ≤ 1000) (hr : ∀ x ∈ l, x.length ≤ 1099511627776) : Ev (fun k => impl_copyRows.f k l) l := by
 have key : ∀ q i, i + q = l.length → Ev (fun k => impl_copyRows.l0 k (l.take i) l (l.length : Int) i) l := by
  intro q
  induction q with
  | zero =>
   intro i hi
   rw [List.take_of_length_le (by omega)]
   exact evstep (fun k => by rw [impl_copyRows.l0]) (evneg (by omega) (evc rfl))
  | succ q ih =>
   intro i hi
   have hlt : i < l.length := by omega
   have e : rd_L1 l (i : Int) = l[i] := by simp [rd_L1, hlt]
   have hri := hr l[i] (List.getElem_mem hlt)
   have h := ih (i + 1) (by omega)
   rw [List.take_succ_eq_append_getElem hlt] at h
   refine evstep (fun k => by rw [impl_copyRows.l0]) (evpos (by omega) (evpos (by omega) (evpos (by omega) ?_)))
   rw [e]
   refine evsome (a := l[i]) (by unfold slices_Clone.f; rw [if_pos hri]) (evpos (by rw [List.length_take]; omega) ?_)
   rw [w64 (x := (i : Int) + 1) (by omega) (by omega)]
   exact h
 exact key l.length 0 (by omega)
end Go.Proofs.Ytjjbhdpjnjncbaa.Cp
end
section
namespace Go.Proofs.Ytjjbhdpjnjncbaa.Pr
open Go.RowKit Go.Proofs.YtjjbhdpjnjncbaaW.PrintWords Go.Proofs.YtjjbhdpjnjncbaaW.PrintLast Go.Proofs.YtjjbhdpjnjncbaaW.PrintMore Go.Proofs.Ytjjbhdpjnjncbaa.La Go.Proofs.Ytjjbhdpjnjncbaa.Ma Go.Proofs.Ytjjbhdpjnjncbaa.Hm Go.Proofs.Ytjjbhdpjnjncbaa.Dt Go.Proofs.Ytjjbhdpjnjncbaa.Hd Go.Proofs.Ytjjbhdpjnjncbaa.Bd Go.Proofs.Ytjjbhdpjnjncbaa.Cp
def nz (i : Nat) (row : List Int) : Bool := row.getD i 0 != 0
theorem det1 (gb i : Nat) (A : Option Addr) (c : Nat) (x : List Int) (w : World) (hb : w.cell? ⟨gb, 0, none⟩ = some (.int .i64 (i : Int))) (hC : Kd.C (Kd.int .i64) w A x.length x) (hi : i < x.length) :
  Calls Try.prog 162 (#[.slice A x.length c] ++ #[.pointer (some ⟨gb, 0, none⟩)]) w fun e w' => e = .returned (.bool (nz i x)) ∧ Below w.heap.size w w' := by
 unfold nz
 show Calls Try.prog 162 #[.slice A x.length c, .pointer (some ⟨gb, 0, none⟩)] w _
 obtain ⟨ad, rfl, hcell⟩ := Kd.at_int hC (i : Int) (by omega) (by omega)
 rw [Int.toNat_natCast, rd_nat] at hcell
 have hiz : (i : Int) < (x.length : Int) := by omega
 have h0z : (0 : Int) ≤ (i : Int) := by omega
 generalize x.getD i 0 = y at hcell ⊢
 generalize x.length = n at hiz hC ⊢
 clear hC hi
 by_cases e : y = 0
 ·have h1 : (y != 0) = false := by simp [e]
  have h2 : (y == 0) = true := by simp [e]
  clear e
  go_enter Try.func162, Try.ntmps162
  go_wp2
  go_ret
  exact ⟨by rw [h1]; rfl, Below.refl _ _⟩
 ·have h1 : (y != 0) = true := by simp [e]
  have h2 : (y == 0) = false := by simp [e]
  clear e
  go_enter Try.func162, Try.ntmps162
  go_wp2
  go_ret
  exact ⟨by rw [h1]; rfl, Below.refl _ _⟩
theorem det1_enters : ∀ args w, (callFunc 162 args).run Try.prog w = .ok (.enter 162 args) w := enters_fn Try.func162 (by kernel_rfl) rfl
theorem idxP_fnd (M : Mat) (n i : Nat) (hi : i < n) : idxP (nz i) (rowsFrom M n i) 0 = match fnd M i (n - i) 0 with | none => -1 | some k => (k : Int) := by
 have hat : ∀ r (h : r < (rowsFrom M n i).length), nz i (rowsFrom M n i)[r] = (M (i + r) i != 0) := by
  intro r h
  simp [rowsFrom, nz, hi]
 have hl := rowsFrom_len M n i
 cases h : fnd M i (n - i) 0 with
 | none => exact idxP_miss _ _ (fun r hr => by rw [hat r hr, fnd_none h r (Nat.zero_le _) (by omega)]; rfl)
 | some k =>
  obtain ⟨_, h2, h3, h4⟩ := fnd_some h
  exact idxP_hit _ _ k (by omega) (fun r hr hrk => by rw [hat r hr, h4 r (Nat.zero_le _) hrk]; rfl) (by rw [hat k (by omega)]; simpa using h3)
theorem det_calls (n : Nat) (R : Int) (A : Option Addr) (c : Nat) (l : List (List Int)) (w : World) (hr : Kd.C (Kd.slice 2 (Kd.int .i64)) w A l.length l) (hc : l.length ≤ c) (hln : l.length = n) (hp : 0 < n) (hn : n ≤ 1000) (hsq : ∀ x ∈ l, x.length = l.length) (hR : dgo n n 0 (en l) 1 1 = R) :
  Calls Try.prog 130 #[.slice A n c] w fun e w' => e = .returned (.int .i64 R) ∧ Below w.heap.size w w' := by
 obtain ⟨k, hk⟩ := evk (copy_eq l (by omega) (fun x hx => by rw [hsq x hx]; omega))
 have hcopy := fun W (hW : Below w.heap.size w W) => impl_copyRows.calls k A c l l W (Kd.C_below hr hW) hc hk
 rw [hln] at hcopy
 have HCOPY := Aside0.mk hcopy
 have HLN := Aside0.mk hln
 have HP := Aside0.mk hp
 have HN := Aside0.mk hn
 have HSQ := Aside0.mk hsq
 have HR := Aside0.mk hR
 clear hcopy hk hr hc hln hp hn hsq hR
 go_enter Try.func130, Try.ntmps130
 go_wp2_with fail
 refine (HCOPY.out _ (Below.refl _ _)).mono ?_
 rintro e w1 ⟨v0, rfl, hS, hB⟩
 obtain ⟨g, cap, b, cp, rfl, hcap, hO⟩ := own_of_S (w0 := w) hS hB (by rw [HLN.out]; exact HP.out) HSQ.out
 rw [HLN.out] at hcap hO
 rw [HLN.out]
 have HO := Aside0.mk hO
 have HCAP := Aside0.mk hcap
 clear HCOPY hS hB hO hcap HSQ
 go_wp2
 go_loopg [4, 5, 16] n (fun gg v4 v5 v16 wr => ∃ (i : Nat) (M : Mat) (b cp : Nat → Nat) (last turn : Int), i ≤ n ∧ n - i ≤ gg ∧ v4 = .int .i64 last ∧ v5 = .int .i64 turn ∧ v16 = .int .i64 (i : Int) ∧ Aside0 (Own w wr g n b cp M) ∧ Aside0 (last ≠ 0) ∧ Aside0 (dgo n (n - i) i M last turn = R))
 case atStart => exact ⟨0, en l, b, cp, 1, 1, Nat.zero_le _, by omega, rfl, rfl, rfl, HO, ⟨by decide⟩, HR⟩
 case round =>
  clear HO HR b cp
  obtain ⟨i, M, b, cp, last, turn, hi, hg, rfl, rfl, rfl, HO, HL, HR⟩ := hrel
  by_cases hlt : i < n
  ·have hltz : (i : Int) < (n : Int) := by omega
   have HLT := Aside0.mk hlt
   have HI := Aside0.mk hi
   have HG := Aside0.mk hg
   clear hlt hi hg
   have hne : ¬ cap = i := by have := HCAP.out; have := HLT.out; omega
   have hle : (i : Int) ≤ (n : Int) := by omega
   have h0i : (0 : Int) ≤ (i : Int) := by omega
   have HA : Below wr.heap.size wr (wr.alloc (Obj.cells #[.int .i64 (i : Int)] 3)) := (Below.refl _ _).alloc (Nat.le_refl _) _
   have HO1 := Aside0.mk (HO.out.step HA)
   have HPC : Aside0 ((wr.alloc (Obj.cells #[.int .i64 (i : Int)] 3)).cell? ⟨wr.heap.size, 0, none⟩ = some (.int .i64 (i : Int))) := ⟨by simp⟩
   have hcall := indexFuncRows (nz i) 162 #[.pointer (some ⟨wr.heap.size, 0, none⟩)] det1_enters (some ⟨g, i, none⟩) (cap - i) (rowsFrom M n i) _ (HO1.out.C i (by have := HN.out; omega))
    (fun W' A' c' x hx hb hxc hC => det1 wr.heap.size i A' c' x W' ((hb.cell (p := ⟨wr.heap.size, 0, none⟩) (by simp)).trans HPC.out) hC (by
     have := HLT.out
     obtain ⟨r, _, rfl⟩ := List.mem_map.1 hx
     simpa using this))
   rw [rowsFrom_len, idxP_fnd M n i HLT.out] at hcall
   have HCALL := Aside0.mk hcall
   clear hcall
   have HNB : Aside0 (∀ j, j < n → b j ≠ wr.heap.size) := ⟨fun j hj e => by have := lt_of_cell (HO.out.ob j i hj HLT.out).1; rw [e] at this; exact Nat.lt_irrefl _ this⟩
   have HNG : Aside0 (g ≠ wr.heap.size) := ⟨fun e => by have := lt_of_cell (HO.out.og i HLT.out).1; rw [e] at this; exact Nat.lt_irrefl _ this⟩
   obtain ⟨q, hq⟩ : ∃ q, n - i = q + 1 := ⟨n - i - 1, by have := HLT.out; omega⟩
   have HQ := Aside0.mk hq
   have hR2 := HR.out
   rw [hq] at hR2
   unfold dgo at hR2
   clear hq HA
   cases hf : fnd M i (n - i) 0 with
   | none =>
    rw [hf] at hR2
    simp only [hf] at HCALL
    have HR2 := Aside0.mk hR2
    clear hR2 hf
    go_wp2_with fail
    refine HCALL.out.mono ?_
    rintro e w2 ⟨rfl, hb2⟩
    have HB2 := Aside0.mk hb2
    clear hb2 HCALL
    go_wp2
    go_ret
    exact ⟨by rw [← HR2.out]; rfl, Below.trans HO1.out.below (HB2.out.mono HO1.out.below.size)⟩
   | some kk =>
    have HF := Aside0.mk hf
    rw [hf] at hR2
    simp only [hf] at HCALL
    cases kk with
    | zero =>
     have HR2 := Aside0.mk hR2
     clear hR2 hf
     go_wp2_with fail
     refine HCALL.out.mono ?_
     rintro e w2 ⟨rfl, hb2⟩
     have HO2 := Aside0.mk (HO1.out.step hb2)
     have HPV : Aside0 (w2.cell? ⟨wr.heap.size, 0, none⟩ = some (.int .i64 (i : Int))) := ⟨(hb2.cell (p := ⟨wr.heap.size, 0, none⟩) (by simp)).trans HPC.out⟩
     generalize wr.heap.size = pv at *
     clear hb2 HCALL HO HO1 HR HPC
     have hgi1 : IntKind.i64.wrap ((i : Int) + 1) = ((i + 1 : Nat) : Int) := by rw [IntWalk.i64_in _ (by have := HN.out; have := HLT.out; omega)]; rfl
     have HGI1 := Aside0.mk hgi1
     have hi1z : ((i + 1 : Nat) : Int) ≤ (n : Int) := by have := HLT.out; omega
     have h0z1 : (0 : Int) ≤ ((i + 1 : Nat) : Int) := by omega
     by_cases hcc : cap = i + 1
     ·have hp0 := HPV.out
      have hn1 : n = i + 1 := by have := HCAP.out; have := HLT.out; omega
      have h00 : ¬ (0 : Int) < ((n - (i + 1) : Nat) : Int) := by omega
      have HN1 := Aside0.mk hn1
      have hcct := eq_true hcc
      clear hn1 hcc
      go_wp2
      go_loopg [53] 1 (fun gg v53 w3 => v53 = .int .i64 0 ∧ Aside0 (Own w w3 g n b cp M) ∧ Aside0 (w3.cell? ⟨pv, 0, none⟩ = some (.int .i64 (i : Int))))
      case atStart => exact ⟨rfl, HO2, HPV⟩
      case round =>
       clear HO2 HPV hp0
       obtain ⟨rfl, HO3, HPV3⟩ := hrel
       have HO4 := Aside0.mk (HO3.out.step (below_drew (Below.refl wr.heap.size wr)))
       have HPV4 : Aside0 (wr.drew.cell? ⟨pv, 0, none⟩ = some (.int .i64 (i : Int))) := ⟨HPV3.out⟩
       have hp3 := HPV4.out
       have hog := (HO4.out.og i HLT.out).1
       have hii := (HO4.out.ob i i HLT.out HLT.out).1
       go_wp2
       refine st_ (n := 8) (S := fun w' => w'.cell? ⟨pv, 0, none⟩ = some (.int .i64 (i : Int)) ∧ w'.cell? ⟨g, i, none⟩ = some (.slice (some ⟨b i, 0, none⟩) n (cp i)) ∧ w'.cell? ⟨b i, i, none⟩ = some (.int .i64 ((M) i i))) (ds := []) ⟨hp3, hog, hii⟩ (fun hHeld => ?_)
       generalize wr.drew = w5 at HO4 HPV4 hp3 hog hii hHeld ⊢
       refine pu_ 0 96 ?_; refine tk_ 1 97 ?_; refine pu_ 2 98 ?_; refine tk_ 3 99 ?_; refine tk_ 4 100 ?_; refine pu_ 5 101 ?_; refine tk_ 6 102 ?_; refine pu_ 7 4 ?_
       refine done_ (by kernel_rfl) ?_
       go_wp2
       go_roundg (n - (i + 1))
       case measure => have := HG.out; have := HLT.out; omega
       case rel => exact ⟨i + 1, el (M) i last, b, cp, (M) i i, turn, by have := HLT.out; omega, by omega, rfl, rfl, by first | rfl | (rw [HGI1.out]), ⟨HO4.out.congr (fun a b ha _ => by unfold el; rw [if_neg (by have := HN1.out; omega)])⟩, ⟨(fnd_some HF.out).2.2.1⟩, ⟨by rw [show n - (i + 1) = q from by have := HQ.out; omega]; exact HR2.out⟩⟩
     ·have hp0 := HPV.out
      go_wp2
      go_loopg [53] n (fun gg v53 w3 => ∃ t : Nat, i + 1 + t ≤ n ∧ n - (i + 1 + t) ≤ gg ∧ v53 = .int .i64 (t : Int) ∧ Aside0 (Own w w3 g n b cp (mid M i last (i + 1 + t) i)) ∧ Aside0 (w3.cell? ⟨pv, 0, none⟩ = some (.int .i64 (i : Int))))
      case atStart => exact ⟨0, by have := HLT.out; omega, by omega, by simp, ⟨HO2.out.congr (fun a b _ _ => (mid_start _ i last a b).symm)⟩, HPV⟩
      case round =>
       clear HO2 HPV hp0
       obtain ⟨t, ht, hg2, rfl, HO3, HPV3⟩ := hrel
       have HT := Aside0.mk ht
       have HG2 := Aside0.mk hg2
       by_cases htn : i + 1 + t < n
       ·have htz : (t : Int) < ((n - (i + 1) : Nat) : Int) := by omega
        have h0t : (0 : Int) ≤ (t : Int) := by omega
        have HTN := Aside0.mk htn
        have hog := (HO3.out.og (i + 1 + t) htn).1
        have hf0 := (HO3.out.ob (i + 1 + t) i htn HLT.out).1
        rw [mid_at _ i last (i + 1 + t) i i (Nat.le_refl _)] at hf0
        have hp3 := HPV3.out
        have ht1 : IntKind.i64.wrap ((t : Int) + 1) = ((t + 1 : Nat) : Int) := by rw [IntWalk.i64_in _ (by have := HN.out; omega)]; rfl
        have HT1 := Aside0.mk ht1
        generalize hr : i + 1 + t = r at *
        have HRE := Aside0.mk hr
        have htr : i + 1 + t = r := hr
        clear hr
        go_wp2
        go_loopg [11] n (fun gg v11 w4 => ∃ c' : Nat, i ≤ c' ∧ c' ≤ n ∧ n - c' ≤ gg ∧ v11 = .int .i64 (c' : Int) ∧ Aside0 (Own w w4 g n b cp (mid M i last r c')) ∧ Aside0 (w4.cell? ⟨pv, 0, none⟩ = some (.int .i64 (i : Int))))
        case atStart => exact ⟨i, Nat.le_refl _, HI.out, by omega, rfl, HO3, HPV3⟩
        case round =>
         clear HO3 HPV3 hp3 hog hf0
         obtain ⟨c', hc1, hc2, hg3, rfl, HO4, HPV4⟩ := hrel
         have HC1 := Aside0.mk hc1
         have HC2 := Aside0.mk hc2
         have HG3 := Aside0.mk hg3
         by_cases hcn : c' < n
         ·have hcz : (c' : Int) < (n : Int) := by omega
          have h0c : (0 : Int) ≤ (c' : Int) := by omega
          have HCN := Aside0.mk hcn
          have HO5 := Aside0.mk (HO4.out.step (below_drew (Below.refl wr.heap.size wr)))
          have HPV5 : Aside0 (wr.drew.cell? ⟨pv, 0, none⟩ = some (.int .i64 (i : Int))) := ⟨HPV4.out⟩
          have h1 := (HO5.out.ob r c' HTN.out hcn).1
          have h1f := (HO5.out.ob r c' HTN.out hcn).2
          have h2 := (HO5.out.og i HLT.out).1
          have h3 := (HO5.out.ob i i HLT.out HLT.out).1
          have h4 := (HO5.out.ob i c' HLT.out hcn).1
          rw [mid_at _ i last r c' c' (Nat.le_refl _)] at h1
          rw [mid_head] at h3 h4
          have hp4 := HPV5.out
          have hl0 : (last == 0) = false := by have := HL.out; simpa using this
          have hl1 : ¬ last = 0 := HL.out
          have hc11 : IntKind.i64.wrap ((c' : Int) + 1) = ((c' + 1 : Nat) : Int) := by rw [IntWalk.i64_in _ (by have := HN.out; omega)]; rfl
          have HC11 := Aside0.mk hc11
          clear hc1 hc2 hg3 hcn
          go_wp2
          refine st_ (n := 28) (S := fun w' => w'.cell? ⟨b r, c', none⟩ = some (.int .i64 ((M) r c')) ∧ w'.cell? ⟨pv, 0, none⟩ = some (.int .i64 (i : Int)) ∧ w'.cell? ⟨g, i, none⟩ = some (.slice (some ⟨b i, 0, none⟩) n (cp i)) ∧ w'.cell? ⟨b i, i, none⟩ = some (.int .i64 ((M) i i)) ∧ w'.cell? ⟨b i, c', none⟩ = some (.int .i64 ((M) i c'))) (ds := [27]) ⟨h1, hp4, h2, h3, h4⟩ (fun hHeld => ?_)
          generalize wr.drew = w5 at HO5 HPV5 h1 hp4 h2 h3 h4 h1f hHeld ⊢
          refine pu_ 0 68 ?_; refine pu_ 1 69 ?_; refine pu_ 2 70 ?_; refine pu_ 3 71 ?_; refine pu_ 4 72 ?_; refine tk_ 5 73 ?_; refine pu_ 6 74 ?_; refine tk_ 7 75 ?_; refine pu_ 8 76 ?_; refine tk_ 9 77 ?_; refine tk_ 10 78 ?_; refine pu_ 11 79 ?_; refine tk_ 12 80 ?_; refine pu_ 13 81 ?_; refine pu_ 14 82 ?_; refine pu_ 15 83 ?_; refine tk_ 16 84 ?_; refine pu_ 17 85 ?_; refine tk_ 18 86 ?_; refine pu_ 19 87 ?_; refine pu_ 20 88 ?_; refine tk_ 21 89 ?_; refine pu_ 22 90 ?_; refine pu_ 23 91 ?_; refine pu_ 24 92 ?_; refine pu_ 25 93 ?_; refine pu_ 26 94 ?_
          refine la_ 27 none (fun K hK => ?_)
          refine skip_ (w1 := ?_) (by rfl) rfl ?_ ?_
          rotate_left
          ·go_simp
           rfl
          refine hK.out _ _ ?_
          clear hK K
          refine done_ (by kernel_rfl) ?_
          go_wp2
          go_roundg (n - (c' + 1))
          case measure => have := HG3.out; have := HCN.out; omega
          case rel =>
           have hput := (HO5.out.put HTN.out HCN.out (ev M i last r c')).congr (M' := mid M i last r (c' + 1)) (fun a b _ _ => mid_next _ i last r c' (by have := HRE.out; omega) HC1.out a b)
           refine ⟨c' + 1, by have := HC1.out; omega, HCN.out, by omega, by first | rfl | (rw [HC11.out]) | (simp [HC11.out]), ⟨hput⟩, ⟨?_⟩⟩
           rw [cset_other (by intro e; exact HNB.out r HTN.out (congrArg Addr.block e))]
           exact HPV5.out
         ·have hcz : ¬ (c' : Int) < (n : Int) := by omega
          obtain rfl : c' = n := by have := HC2.out; omega
          clear hcn hc1 hc2 hg3
          go_wp2
          go_roundg (c' - (r + 1))
          case measure => have := HG2.out; have := HTN.out; omega
          case rel => exact ⟨t + 1, by have := HTN.out; have := HRE.out; omega, by have := HRE.out; omega, by first | rfl | (rw [HT1.out]) | (simp [HT1.out]), ⟨HO4.out.congr (fun a b _ hb => by rw [mid_row _ i last r a b hb, show i + 1 + (t + 1) = r + 1 from by have := HRE.out; omega])⟩, HPV4⟩
       ·have htz : ¬ (t : Int) < ((n - (i + 1) : Nat) : Int) := by omega
        have hn1 : i + 1 + t = n := by omega
        rw [hn1] at HO3
        have HO4 := Aside0.mk (HO3.out.step (below_drew (Below.refl wr.heap.size wr)))
        have HPV4 : Aside0 (wr.drew.cell? ⟨pv, 0, none⟩ = some (.int .i64 (i : Int))) := ⟨HPV3.out⟩
        have hp3 := HPV4.out
        have hog := (HO4.out.og i HLT.out).1
        have hii := (HO4.out.ob i i HLT.out HLT.out).1
        rw [mid_head] at hii
        clear hn1 htn ht hg2
        go_wp2
        refine st_ (n := 8) (S := fun w' => w'.cell? ⟨pv, 0, none⟩ = some (.int .i64 (i : Int)) ∧ w'.cell? ⟨g, i, none⟩ = some (.slice (some ⟨b i, 0, none⟩) n (cp i)) ∧ w'.cell? ⟨b i, i, none⟩ = some (.int .i64 ((M) i i))) (ds := []) ⟨hp3, hog, hii⟩ (fun hHeld => ?_)
        generalize wr.drew = w5 at HO4 HPV4 hp3 hog hii hHeld ⊢
        refine pu_ 0 96 ?_; refine tk_ 1 97 ?_; refine pu_ 2 98 ?_; refine tk_ 3 99 ?_; refine tk_ 4 100 ?_; refine pu_ 5 101 ?_; refine tk_ 6 102 ?_; refine pu_ 7 4 ?_
        refine done_ (by kernel_rfl) ?_
        go_wp2
        go_roundg (n - (i + 1))
        case measure => have := HG.out; have := HLT.out; omega
        case rel => exact ⟨i + 1, el (M) i last, b, cp, (M) i i, turn, by have := HLT.out; omega, by omega, rfl, rfl, by first | rfl | (rw [HGI1.out]), ⟨HO4.out.congr (fun a b ha _ => mid_end _ i last a b ha)⟩, ⟨(fnd_some HF.out).2.2.1⟩, ⟨by rw [show n - (i + 1) = q from by have := HQ.out; omega]; exact HR2.out⟩⟩
    | succ kk =>
     obtain ⟨kp, hkp⟩ : ∃ kp, kp = kk + 1 := ⟨_, rfl⟩
     simp only [← hkp] at hf hR2 HCALL
     obtain ⟨s, hs⟩ : ∃ s, s = i + kp := ⟨_, rfl⟩
     have hfs := fnd_some hf
     have hsn : s < n := by have := HLT.out; omega
     have hsi : ¬ s = i := by omega
     have hik : IntKind.i64.wrap ((i : Int) + (kp : Int)) = (s : Int) := by rw [IntWalk.i64_in _ (by have := HN.out; omega), hs]; rfl
     have hnz : M s i ≠ 0 := by rw [hs]; exact hfs.2.2.1
     rw [← hs] at hR2
     have HNZ := Aside0.mk hnz
     have HSN := Aside0.mk hsn
     have HSI := Aside0.mk hsi
     have HR2 := Aside0.mk hR2
     have hkz : (0 : Int) < (kp : Int) := by omega
     have hkz' : ¬ (kp : Int) < 0 := by omega
     clear hR2 hf HF hfs hnz hs hkp kk
     go_wp2_with fail
     refine HCALL.out.mono ?_
     rintro e w2 ⟨rfl, hb2⟩
     have HO2 := Aside0.mk (HO1.out.step hb2)
     have HPV : Aside0 (w2.cell? ⟨wr.heap.size, 0, none⟩ = some (.int .i64 (i : Int))) := ⟨(hb2.cell (p := ⟨wr.heap.size, 0, none⟩) (by simp)).trans HPC.out⟩
     generalize wr.heap.size = pv at *
     clear hb2 HCALL HO HO1 HR HPC
     have HO3 := Aside0.mk (HO2.out.step (below_drew (Below.refl w2.heap.size w2)))
     have HPV3 : Aside0 (w2.drew.cell? ⟨pv, 0, none⟩ = some (.int .i64 (i : Int))) := ⟨HPV.out⟩
     have HSW := Aside0.mk (HO3.out.swap HLT.out HSN.out)
     have hp0 := HPV3.out
     have hgs := (HO3.out.og s HSN.out).1
     have hgsf := (HO3.out.og s HSN.out).2
     have hgi := (HO3.out.og i HLT.out).1
     have hgif := (HO3.out.og i HLT.out).2
     have hst : (w2.drew.setCell ⟨g, i, none⟩ (.slice (some ⟨b s, 0, none⟩) n (cp s))).cell? ⟨g, s, none⟩ = some (.slice (some ⟨b s, 0, none⟩) n (cp s)) := by rw [cset_other (by intro e; exact HSI.out (congrArg Addr.off e).symm)]; exact hgs
     have hstf : (w2.drew.setCell ⟨g, i, none⟩ (.slice (some ⟨b s, 0, none⟩) n (cp s))).frozen? ⟨g, s, none⟩ = false := by rw [fset]; exact hgsf
     have hsz : (s : Int) < (n : Int) := by omega
     have h0s : (0 : Int) ≤ (s : Int) := by omega
     clear HO2 HPV hsn hsi
     go_wp2
     refine st_ (n := 20) (S := fun w' => w'.cell? ⟨pv, 0, none⟩ = some (.int .i64 (i : Int)) ∧ w'.cell? ⟨g, s, none⟩ = some (.slice (some ⟨b s, 0, none⟩) n (cp s))) (ds := [19]) ⟨hp0, hgs⟩ (fun hHeld => ?_)
     generalize w2.drew = w5 at HO3 HPV3 HSW hp0 hgs hgi hgsf hgif hst hstf hHeld ⊢
     refine pu_ 0 28 ?_; refine tk_ 1 29 ?_; refine pu_ 2 30 ?_; refine tk_ 3 31 ?_; refine pu_ 4 32 ?_; refine pu_ 5 33 ?_; refine pu_ 6 34 ?_; refine tk_ 7 35 ?_; refine pu_ 8 36 ?_; refine pu_ 9 37 ?_; refine pu_ 10 38 ?_; refine tk_ 11 39 ?_; refine pu_ 12 40 ?_; refine tk_ 13 41 ?_; refine pu_ 14 42 ?_
     refine on_ 15 (some 43) (fun K hK => ?_)
     refine value_ (w1 := w5) (v := .slice (some ⟨b i, 0, none⟩) n (cp i)) (by rfl) rfl (by go_simp) ?_
     refine hK.out _ _ hHeld (fun hHeld => ?_)
     clear hK K
     refine norm_ (a' := ?_) ?_ ?_
     rotate_left
     ·show Act.put _ (some 43) _ = _
      simp only [Act.put, List.setIfInBounds_toArray, List.set_cons_zero, List.set_cons_succ, i64_w, i32_w]
      rfl
     refine pu_ 16 44 ?_
     refine on_ 17 none (fun K hK => ?_)
     refine skip_ (w1 := ?_) (by rfl) rfl ?_ ?_
     rotate_left
     ·go_simp
      rfl
     refine hK.out _ _ ⟨(cset_other (by intro e; exact HNG.out (congrArg Addr.block e))).trans hp0, hst⟩ (fun hHeld => ?_)
     clear hK K
     refine pu_ 18 45 ?_
     refine la_ 19 none (fun K hK => ?_)
     refine skip_ (w1 := ?_) (by rfl) rfl ?_ ?_
     rotate_left
     ·go_simp
      rfl
     refine hK.out _ _ ?_
     clear hK K
     refine done_ (by kernel_rfl) ?_
     have HPV : Aside0 (((w5.setCell ⟨g, i, none⟩ (.slice (some ⟨b s, 0, none⟩) n (cp s))).setCell ⟨g, s, none⟩ (.slice (some ⟨b i, 0, none⟩) n (cp i))).cell? ⟨pv, 0, none⟩ = some (.int .i64 (i : Int))) := ⟨by
      rw [cset_other (by intro e; exact HNG.out (congrArg Addr.block e)), cset_other (by intro e; exact HNG.out (congrArg Addr.block e))]; exact HPV3.out⟩
     have HNB2 : Aside0 (∀ j, j < n → b (sw i s j) ≠ pv) := ⟨fun j hj => HNB.out _ (sw_lt HLT.out HSN.out hj)⟩
     have HNZ2 : Aside0 ((fun j => M (sw i s j)) i i ≠ 0) := ⟨by show M (sw i s i) i ≠ 0; rw [show sw i s i = s from by simp [sw]]; exact HNZ.out⟩
     have HR3 : Aside0 (dgo n q (i + 1) (el (fun j => M (sw i s j)) i last) ((fun j => M (sw i s j)) i i) (wrap64 (-turn)) = R) := HR2
     clear HR2 HNB HNZ HO3 HPV3 hp0 hgs hgi hgsf hgif hst hstf hHeld
     have HO2 := HSW
     clear HSW
     generalize (w5.setCell ⟨g, i, none⟩ (.slice (some ⟨b s, 0, none⟩) n (cp s))).setCell ⟨g, s, none⟩ (.slice (some ⟨b i, 0, none⟩) n (cp i)) = w6 at HO2 HPV ⊢
     generalize Value.bool (decide ((kp : Int) < 0)) = uu1
     generalize Value.bool (decide (0 < kp)) = uu2
     have ⟨b2, hb2⟩ : ∃ b2 : Nat → Nat, b2 = fun j => b (sw i s j) := ⟨_, rfl⟩
     have ⟨cp2, hcp2⟩ : ∃ cp2 : Nat → Nat, cp2 = fun j => cp (sw i s j) := ⟨_, rfl⟩
     have ⟨M2, hM2⟩ : ∃ M2 : Mat, M2 = fun j => M (sw i s j) := ⟨_, rfl⟩
     have HNB : Aside0 (∀ j, j < n → b2 j ≠ pv) := ⟨fun j hj => by rw [hb2]; exact HNB2.out j hj⟩
     rw [← hb2, ← hcp2, ← hM2] at HO2
     rw [← hM2] at HNZ2 HR3
     have HR2 := HR3
     clear HR3 HNB2 hb2 hcp2 hM2
     have HF := HNZ2
     clear HNZ2
     have hgi1 : IntKind.i64.wrap ((i : Int) + 1) = ((i + 1 : Nat) : Int) := by rw [IntWalk.i64_in _ (by have := HN.out; have := HLT.out; omega)]; rfl
     have HGI1 := Aside0.mk hgi1
     have hi1z : ((i + 1 : Nat) : Int) ≤ (n : Int) := by have := HLT.out; omega
     have h0z1 : (0 : Int) ≤ ((i + 1 : Nat) : Int) := by omega
     by_cases hcc : cap = i + 1
     ·have hp0 := HPV.out
      have hn1 : n = i + 1 := by have := HCAP.out; have := HLT.out; omega
      have h00 : ¬ (0 : Int) < ((n - (i + 1) : Nat) : Int) := by omega
      have HN1 := Aside0.mk hn1
      have hcct := eq_true hcc
      clear hn1 hcc
      go_wp2
      go_loopg [53] 1 (fun gg v53 w3 => v53 = .int .i64 0 ∧ Aside0 (Own w w3 g n b2 cp2 M2) ∧ Aside0 (w3.cell? ⟨pv, 0, none⟩ = some (.int .i64 (i : Int))))
      case atStart => exact ⟨rfl, HO2, HPV⟩
      case round =>
       clear HO2 HPV hp0
       obtain ⟨rfl, HO3, HPV3⟩ := hrel
       have HO4 := Aside0.mk (HO3.out.step (below_drew (Below.refl wr.heap.size wr)))
       have HPV4 : Aside0 (wr.drew.cell? ⟨pv, 0, none⟩ = some (.int .i64 (i : Int))) := ⟨HPV3.out⟩
       have hp3 := HPV4.out
       have hog := (HO4.out.og i HLT.out).1
       have hii := (HO4.out.ob i i HLT.out HLT.out).1
       go_wp2
       refine st_ (n := 8) (S := fun w' => w'.cell? ⟨pv, 0, none⟩ = some (.int .i64 (i : Int)) ∧ w'.cell? ⟨g, i, none⟩ = some (.slice (some ⟨b2 i, 0, none⟩) n (cp2 i)) ∧ w'.cell? ⟨b2 i, i, none⟩ = some (.int .i64 ((M2) i i))) (ds := []) ⟨hp3, hog, hii⟩ (fun hHeld => ?_)
       generalize wr.drew = w5 at HO4 HPV4 hp3 hog hii hHeld ⊢
       refine pu_ 0 96 ?_; refine tk_ 1 97 ?_; refine pu_ 2 98 ?_; refine tk_ 3 99 ?_; refine tk_ 4 100 ?_; refine pu_ 5 101 ?_; refine tk_ 6 102 ?_; refine pu_ 7 4 ?_
       refine done_ (by kernel_rfl) ?_
       go_wp2
       go_roundg (n - (i + 1))
       case measure => have := HG.out; have := HLT.out; omega
       case rel => exact ⟨i + 1, el (M2) i last, b2, cp2, (M2) i i, wrap64 (-turn), by have := HLT.out; omega, by omega, rfl, rfl, by first | rfl | (rw [HGI1.out]), ⟨HO4.out.congr (fun a b ha _ => by unfold el; rw [if_neg (by have := HN1.out; omega)])⟩, HF, ⟨by rw [show n - (i + 1) = q from by have := HQ.out; omega]; exact HR2.out⟩⟩
     ·have hp0 := HPV.out
      go_wp2
      go_loopg [53] n (fun gg v53 w3 => ∃ t : Nat, i + 1 + t ≤ n ∧ n - (i + 1 + t) ≤ gg ∧ v53 = .int .i64 (t : Int) ∧ Aside0 (Own w w3 g n b2 cp2 (mid M2 i last (i + 1 + t) i)) ∧ Aside0 (w3.cell? ⟨pv, 0, none⟩ = some (.int .i64 (i : Int))))
      case atStart => exact ⟨0, by have := HLT.out; omega, by omega, by simp, ⟨HO2.out.congr (fun a b _ _ => (mid_start _ i last a b).symm)⟩, HPV⟩
      case round =>
       clear HO2 HPV hp0
       obtain ⟨t, ht, hg2, rfl, HO3, HPV3⟩ := hrel
       have HT := Aside0.mk ht
       have HG2 := Aside0.mk hg2
       by_cases htn : i + 1 + t < n
       ·have htz : (t : Int) < ((n - (i + 1) : Nat) : Int) := by omega
        have h0t : (0 : Int) ≤ (t : Int) := by omega
        have HTN := Aside0.mk htn
        have hog := (HO3.out.og (i + 1 + t) htn).1
        have hf0 := (HO3.out.ob (i + 1 + t) i htn HLT.out).1
        rw [mid_at _ i last (i + 1 + t) i i (Nat.le_refl _)] at hf0
        have hp3 := HPV3.out
        have ht1 : IntKind.i64.wrap ((t : Int) + 1) = ((t + 1 : Nat) : Int) := by rw [IntWalk.i64_in _ (by have := HN.out; omega)]; rfl
        have HT1 := Aside0.mk ht1
        generalize hr : i + 1 + t = r at *
        have HRE := Aside0.mk hr
        have htr : i + 1 + t = r := hr
        clear hr
        go_wp2
        go_loopg [11] n (fun gg v11 w4 => ∃ c' : Nat, i ≤ c' ∧ c' ≤ n ∧ n - c' ≤ gg ∧ v11 = .int .i64 (c' : Int) ∧ Aside0 (Own w w4 g n b2 cp2 (mid M2 i last r c')) ∧ Aside0 (w4.cell? ⟨pv, 0, none⟩ = some (.int .i64 (i : Int))))
        case atStart => exact ⟨i, Nat.le_refl _, HI.out, by omega, rfl, HO3, HPV3⟩
        case round =>
         clear HO3 HPV3 hp3 hog hf0
         obtain ⟨c', hc1, hc2, hg3, rfl, HO4, HPV4⟩ := hrel
         have HC1 := Aside0.mk hc1
         have HC2 := Aside0.mk hc2
         have HG3 := Aside0.mk hg3
         by_cases hcn : c' < n
         ·have hcz : (c' : Int) < (n : Int) := by omega
          have h0c : (0 : Int) ≤ (c' : Int) := by omega
          have HCN := Aside0.mk hcn
          have HO5 := Aside0.mk (HO4.out.step (below_drew (Below.refl wr.heap.size wr)))
          have HPV5 : Aside0 (wr.drew.cell? ⟨pv, 0, none⟩ = some (.int .i64 (i : Int))) := ⟨HPV4.out⟩
          have h1 := (HO5.out.ob r c' HTN.out hcn).1
          have h1f := (HO5.out.ob r c' HTN.out hcn).2
          have h2 := (HO5.out.og i HLT.out).1
          have h3 := (HO5.out.ob i i HLT.out HLT.out).1
          have h4 := (HO5.out.ob i c' HLT.out hcn).1
          rw [mid_at _ i last r c' c' (Nat.le_refl _)] at h1
          rw [mid_head] at h3 h4
          have hp4 := HPV5.out
          have hl0 : (last == 0) = false := by have := HL.out; simpa using this
          have hl1 : ¬ last = 0 := HL.out
          have hc11 : IntKind.i64.wrap ((c' : Int) + 1) = ((c' + 1 : Nat) : Int) := by rw [IntWalk.i64_in _ (by have := HN.out; omega)]; rfl
          have HC11 := Aside0.mk hc11
          clear hc1 hc2 hg3 hcn
          go_wp2
          refine st_ (n := 28) (S := fun w' => w'.cell? ⟨b2 r, c', none⟩ = some (.int .i64 ((M2) r c')) ∧ w'.cell? ⟨pv, 0, none⟩ = some (.int .i64 (i : Int)) ∧ w'.cell? ⟨g, i, none⟩ = some (.slice (some ⟨b2 i, 0, none⟩) n (cp2 i)) ∧ w'.cell? ⟨b2 i, i, none⟩ = some (.int .i64 ((M2) i i)) ∧ w'.cell? ⟨b2 i, c', none⟩ = some (.int .i64 ((M2) i c'))) (ds := [27]) ⟨h1, hp4, h2, h3, h4⟩ (fun hHeld => ?_)
          generalize wr.drew = w5 at HO5 HPV5 h1 hp4 h2 h3 h4 h1f hHeld ⊢
          refine pu_ 0 68 ?_; refine pu_ 1 69 ?_; refine pu_ 2 70 ?_; refine pu_ 3 71 ?_; refine pu_ 4 72 ?_; refine tk_ 5 73 ?_; refine pu_ 6 74 ?_; refine tk_ 7 75 ?_; refine pu_ 8 76 ?_; refine tk_ 9 77 ?_; refine tk_ 10 78 ?_; refine pu_ 11 79 ?_; refine tk_ 12 80 ?_; refine pu_ 13 81 ?_; refine pu_ 14 82 ?_; refine pu_ 15 83 ?_; refine tk_ 16 84 ?_; refine pu_ 17 85 ?_; refine tk_ 18 86 ?_; refine pu_ 19 87 ?_; refine pu_ 20 88 ?_; refine tk_ 21 89 ?_; refine pu_ 22 90 ?_; refine pu_ 23 91 ?_; refine pu_ 24 92 ?_; refine pu_ 25 93 ?_; refine pu_ 26 94 ?_
          refine la_ 27 none (fun K hK => ?_)
          refine skip_ (w1 := ?_) (by rfl) rfl ?_ ?_
          rotate_left
          ·go_simp
           rfl
          refine hK.out _ _ ?_
          clear hK K
          refine done_ (by kernel_rfl) ?_
          go_wp2
          go_roundg (n - (c' + 1))
          case measure => have := HG3.out; have := HCN.out; omega
          case rel =>
           have hput := (HO5.out.put HTN.out HCN.out (ev M2 i last r c')).congr (M' := mid M2 i last r (c' + 1)) (fun a b _ _ => mid_next _ i last r c' (by have := HRE.out; omega) HC1.out a b)
           refine ⟨c' + 1, by have := HC1.out; omega, HCN.out, by omega, by first | rfl | (rw [HC11.out]) | (simp [HC11.out]), ⟨hput⟩, ⟨?_⟩⟩
           rw [cset_other (by intro e; exact HNB.out r HTN.out (congrArg Addr.block e))]
           exact HPV5.out
         ·have hcz : ¬ (c' : Int) < (n : Int) := by omega
          obtain rfl : c' = n := by have := HC2.out; omega
          clear hcn hc1 hc2 hg3
          go_wp2
          go_roundg (c' - (r + 1))
          case measure => have := HG2.out; have := HTN.out; omega
          case rel => exact ⟨t + 1, by have := HTN.out; have := HRE.out; omega, by have := HRE.out; omega, by first | rfl | (rw [HT1.out]) | (simp [HT1.out]), ⟨HO4.out.congr (fun a b _ hb => by rw [mid_row _ i last r a b hb, show i + 1 + (t + 1) = r + 1 from by have := HRE.out; omega])⟩, HPV4⟩
       ·have htz : ¬ (t : Int) < ((n - (i + 1) : Nat) : Int) := by omega
        have hn1 : i + 1 + t = n := by omega
        rw [hn1] at HO3
        have HO4 := Aside0.mk (HO3.out.step (below_drew (Below.refl wr.heap.size wr)))
        have HPV4 : Aside0 (wr.drew.cell? ⟨pv, 0, none⟩ = some (.int .i64 (i : Int))) := ⟨HPV3.out⟩
        have hp3 := HPV4.out
        have hog := (HO4.out.og i HLT.out).1
        have hii := (HO4.out.ob i i HLT.out HLT.out).1
        rw [mid_head] at hii
        clear hn1 htn ht hg2
        go_wp2
        refine st_ (n := 8) (S := fun w' => w'.cell? ⟨pv, 0, none⟩ = some (.int .i64 (i : Int)) ∧ w'.cell? ⟨g, i, none⟩ = some (.slice (some ⟨b2 i, 0, none⟩) n (cp2 i)) ∧ w'.cell? ⟨b2 i, i, none⟩ = some (.int .i64 ((M2) i i))) (ds := []) ⟨hp3, hog, hii⟩ (fun hHeld => ?_)
        generalize wr.drew = w5 at HO4 HPV4 hp3 hog hii hHeld ⊢
        refine pu_ 0 96 ?_; refine tk_ 1 97 ?_; refine pu_ 2 98 ?_; refine tk_ 3 99 ?_; refine tk_ 4 100 ?_; refine pu_ 5 101 ?_; refine tk_ 6 102 ?_; refine pu_ 7 4 ?_
        refine done_ (by kernel_rfl) ?_
        go_wp2
        go_roundg (n - (i + 1))
        case measure => have := HG.out; have := HLT.out; omega
        case rel => exact ⟨i + 1, el (M2) i last, b2, cp2, (M2) i i, wrap64 (-turn), by have := HLT.out; omega, by omega, rfl, rfl, by first | rfl | (rw [HGI1.out]), ⟨HO4.out.congr (fun a b ha _ => mid_end _ i last a b ha)⟩, HF, ⟨by rw [show n - (i + 1) = q from by have := HQ.out; omega]; exact HR2.out⟩⟩
  ·obtain rfl : i = n := by omega
   have hltz : ¬ (i : Int) < (i : Int) := by omega
   rw [Nat.sub_self] at HR
   go_wp2
   go_ret
   exact ⟨by rw [← HR.out]; rfl, HO.out.below⟩
def impl_determinant.f (l0 : List (List Int)) : Option Int := if l0.length ≤ 1000 ∧ ∀ x ∈ l0, x.length = l0.length then some (dgo l0.length l0.length 0 (en l0) 1 1) else none
theorem det_none (A : Option Addr) (c : Nat) (w : World) (hr : Kd.C (Kd.slice 2 (Kd.int .i64)) w A 0 []) :
  Calls Try.prog 130 #[.slice A 0 c] w fun e w' => e = .returned (.int .i64 1) ∧ Below w.heap.size w w' := by
 obtain ⟨k, hk⟩ := evk (copy_eq [] (by decide) (fun x hx => by cases hx))
 have hcopy := fun W (hW : Below w.heap.size w W) => impl_copyRows.calls k A c [] [] W (Kd.C_below hr hW) (Nat.zero_le _) hk
 have HCOPY := Aside0.mk hcopy
 clear hcopy hk hr
 go_enter Try.func130, Try.ntmps130
 go_wp2_with fail
 refine (HCOPY.out _ (Below.refl _ _)).mono ?_
 rintro e w1 ⟨v0, rfl, hS, hB⟩
 obtain ⟨A1, c1, rfl⟩ := Kd.S_slice hS
 have HB := Aside0.mk hB
 clear HCOPY hS hB
 go_wp2
 go_loopg [4, 5, 16] 1 (fun gg v4 v5 v16 wr => v4 = .int .i64 1 ∧ v5 = .int .i64 1 ∧ v16 = .int .i64 0 ∧ Aside0 (Below w.heap.size w wr))
 case atStart => exact ⟨rfl, rfl, rfl, HB⟩
 case round =>
  obtain ⟨rfl, rfl, rfl, HB2⟩ := hrel
  go_wp2
  go_ret
  exact ⟨by rfl, HB2.out⟩
theorem impl_determinant.calls (A0 : Option Addr) (c0 : Nat) (l0 : List (List Int)) (r : Int) (w : World) (hr0 : Kd.C (Kd.slice 2 (Kd.int .i64)) w A0 l0.length l0) (hc0 : l0.length ≤ c0) (h : impl_determinant.f l0 = some r) :
  Calls Try.prog 130 #[.slice A0 l0.length c0] w fun e w' => e = .returned (.int .i64 r) ∧ Below w.heap.size w w' := by
 unfold impl_determinant.f at h
 split at h
 case isFalse => cases h
 rename_i hc
 have h := Option.some.inj h
 by_cases hp : 0 < l0.length
 ·exact det_calls l0.length r A0 c0 l0 w hr0 hc0 rfl hp hc.1 hc.2 h
 ·have e : l0 = [] := List.eq_nil_of_length_eq_zero (by omega)
  subst e
  have e1 : r = 1 := by rw [← h]; show wrap64 (1 * 1) = 1; exact w64 (by omega) (by omega)
  subst e1
  exact det_none A0 c0 w hr0
end Go.Proofs.Ytjjbhdpjnjncbaa.Pr
end
section
namespace Go.Proofs.Ytjjbhdpjnjncbaa.Hd
open Go.RowKit Go.Proofs.YtjjbhdpjnjncbaaW.PrintWords Go.Proofs.YtjjbhdpjnjncbaaW.PrintLast Go.Proofs.YtjjbhdpjnjncbaaW.PrintMore Go.Proofs.Ytjjbhdpjnjncbaa.Pr Go.Proofs.Ytjjbhdpjnjncbaa.La Go.Proofs.Ytjjbhdpjnjncbaa.Ma Go.Proofs.Ytjjbhdpjnjncbaa.Hm Go.Proofs.Ytjjbhdpjnjncbaa.Dt Go.Proofs.Ytjjbhdpjnjncbaa.Bd Go.Proofs.Ytjjbhdpjnjncbaa.Cp
def dO (n : Nat) (M : Mat) : Int := dgo n n 0 (en (rowsFrom M n 0)) 1 1
theorem rowsFrom_rows (M : Mat) (n i : Nat) : ∀ x ∈ rowsFrom M n i, x.length = n := by
 intro x hx
 obtain ⟨r, _, rfl⟩ := List.mem_map.1 hx
 simp
section
variable {w0 w w1 : World} {g n cap : Nat} {b cp : Nat → Nat} {M : Mat}
theorem Own.low (h : Own w1 w g n b cp M) (hB : Below w0.heap.size w0 w1) : Own w0 w g n b cp M :=
 ⟨Below.trans hB (h.below.mono hB.size), Nat.le_trans hB.size h.gb, fun j hj => Nat.le_trans hB.size (h.bb j hj), h.inj, h.ne, h.cap, h.og, h.ob⟩
theorem Own.far (h : Own w0 w g n b cp M) {p : Addr} (hp : w0.heap.size ≤ p.block) (h1 : p.block ≠ g) (h2 : ∀ j, j < n → b j ≠ p.block) (v : Value) : Own w0 (w.setCell p v) g n b cp M :=
  ⟨h.below.setCell hp v, h.gb, h.bb, h.inj, h.ne, h.cap,
   fun j hj => ⟨by rw [cset_other (by intro e; exact h1 (congrArg Addr.block e))]; exact (h.og j hj).1, by rw [fset]; exact (h.og j hj).2⟩,
   fun j c hj hc => ⟨by rw [cset_other (by intro e; exact h2 j hj (congrArg Addr.block e).symm)]; exact (h.ob j c hj hc).1, by rw [fset]; exact (h.ob j c hj hc).2⟩⟩
theorem det_own (h : Own w0 w g n b cp M) (hcap : n ≤ cap) (hp : 0 < n) (hn : n ≤ 1000) :
  Calls Try.prog 130 #[.slice (some ⟨g, 0, none⟩) n cap] w fun e w' => e = .returned (.int .i64 (dO n M)) ∧ Below w.heap.size w w' :=
 det_calls n (dO n M) (some ⟨g, 0, none⟩) cap (rowsFrom M n 0) w (h.C 0 (by omega)) (by rw [rowsFrom_len]; omega) (by rw [rowsFrom_len]; omega) hp hn (fun x hx => by rw [rowsFrom_rows M n 0 x hx, rowsFrom_len]; omega) rfl
theorem copy_own (h : Own w0 w g n b cp M) (hcap : n ≤ cap) (hp : 0 < n) (hn : n ≤ 1000) :
  Calls Try.prog 160 #[.slice (some ⟨g, 0, none⟩) n cap] w fun e w' => ∃ (g2 cap2 : Nat) (b2 cp2 : Nat → Nat), e = .returned (.slice (some ⟨g2, 0, none⟩) n cap2) ∧ n ≤ cap2 ∧ Own w w' g2 n b2 cp2 (en (rowsFrom M n 0)) := by
 have hl : (rowsFrom M n 0).length = n := by rw [rowsFrom_len]; omega
 obtain ⟨k, hk⟩ := evk (copy_eq (rowsFrom M n 0) (by omega) (fun x hx => by rw [rowsFrom_rows M n 0 x hx]; omega))
 have hc := impl_copyRows.calls k (some ⟨g, 0, none⟩) cap (rowsFrom M n 0) (rowsFrom M n 0) w (h.C 0 (by omega)) (by omega) hk
 rw [hl] at hc
 refine hc.mono ?_
 rintro e w' ⟨v, rfl, hS, hB⟩
 obtain ⟨g2, cap2, b2, cp2, rfl, h1, h2⟩ := own_of_S (w0 := w) hS hB (by omega) (fun x hx => by rw [rowsFrom_rows M n 0 x hx, hl])
 rw [hl] at h1 h2 ⊢
 exact ⟨g2, cap2, b2, cp2, rfl, h1, h2⟩
end
def sl (n : Nat) (C : Mat) (right : List Int) (sg : Int) (i : Nat) : Int := wrap64 (sg * dO n (pcol (en (rowsFrom C n 0)) i right n))
def slL (n : Nat) (C : Mat) (right : List Int) (sg : Int) (i : Nat) : List Int := (List.range n).map fun u => if u < i then sl n C right sg u else 0
theorem slL_zero (n : Nat) (C : Mat) (right : List Int) (sg : Int) : List.replicate n (0 : Int) = slL n C right sg 0 := by
 apply List.ext_getElem
 ·simp [slL]
 ·intro k h1 h2; simp [slL]
theorem slL_next (n : Nat) (C : Mat) (right : List Int) (sg : Int) (i : Nat) (h : i < n) : (slL n C right sg i).set i (sl n C right sg i) = slL n C right sg (i + 1) := by
 apply List.ext_getElem
 ·simp [slL]
 ·intro k h1 h2
  have hk : k < n := by simpa [slL] using h2
  rw [List.getElem_set]
  simp only [slL, List.getElem_map, List.getElem_range]
  by_cases e : i = k
  ·subst e; rw [if_pos rfl, if_pos (by omega)]
  ·rw [if_neg e]
   by_cases c : k < i
   ·rw [if_pos c, if_pos (by omega)]
   ·rw [if_neg c, if_neg (by omega)]
theorem solve_calls (k n : Nat) (s D sg sz : Int) (cl : Nat → List Int) (A0 : Option Addr) (c0 : Nat) (M : List (List Int)) (A1 : Option Addr) (c1 : Nat) (Q : List Int) (A2 : Option Addr) (c2 : Nat) (right : List Int) (w : World) (hr0 : Kd.C (Kd.slice 2 (Kd.int .i64)) w A0 M.length M) (hc0 : M.length ≤ c0) (hr1 : Kd.C (Kd.int .i64) w A1 Q.length Q) (hc1 : Q.length ≤ c1) (hr2 : Kd.C (Kd.int .i64) w A2 right.length right) (hc2 : right.length ≤ c2) (hQ : Q.length = n) (hright : right.length = n) (hp : 0 < n) (hn : n ≤ 1000)
  (hcl : ∀ i, i < n → ∃ t, impl_has.f s (i : Int) = some t ∧ impl_Problem_column.f k M Q (i : Int) t = some (cl i) ∧ (cl i).length = n)
  (hD : dO n (cM cl n) = D) (hsg : impl_sign.f D = some sg) (hsz : impl_size.f D = some sz) :
  Calls Try.prog 151 #[.agg #[.slice A0 M.length c0, .slice A1 Q.length c1], .int .i64 s, .slice A2 right.length c2] w fun e w' => ∃ v0_ : Value, e = .returned (if D = 0 then .tuple #[v0_, .int .i64 0, .bool false] else .tuple #[v0_, .int .i64 sz, .bool true]) ∧ Kd.R (Kd.int .i64) 2 w' w.heap.size (fun _ => True) v0_ (if D = 0 then [] else slL n (cM cl n) right sg n) ∧ Below w.heap.size w w' := by
 have HR0 := Aside0.mk hr0
 have HC0 := Aside0.mk hc0
 have HR1 := Aside0.mk hr1
 have HC1 := Aside0.mk hc1
 have HR2 := Aside0.mk hr2
 have HC2 := Aside0.mk hc2
 have HQ := Aside0.mk hQ
 have HRI := Aside0.mk hright
 have HP := Aside0.mk hp
 have HN := Aside0.mk hn
 have HCL := Aside0.mk hcl
 have HD := Aside0.mk hD
 have HSG := Aside0.mk hsg
 have HSZ := Aside0.mk hsz
 have HB := Aside0.mk (Below.refl w.heap.size w)
 clear hr0 hc0 hr1 hc1 hr2 hc2 hp hn hcl hD hsg hsz hQ
 rw [hright]
 clear hright
 have hn0 : (0 : Int) ≤ (n : Int) := by omega
 go_enter Try.func151, Try.ntmps151
 go_wp2_with (first | ((with_reducible refine gate_dst (N := 3) rfl ?_); refine box_event ?hg (N := 3) ?hd (cs := #[.slice A0 M.length c0, .slice A1 Q.length c1]) (t := 56) ?hr ?_; (case hd => rfl); (case hg => rfl); (case hr => first | (go_simp; done) | (go_simp; rfl)); intro gb hg w6 hbox hb; have n0_ := Aside0.mk (below_step HB.out hb); have n1_ := Aside0.mk hbox; clear HB; have HB := n0_; have BK := n1_; clear n0_ n1_; clear hb hbox hg; have hcz0 : w6.cell? ⟨gb, 0, none⟩ = some (.slice A0 M.length c0) := (blk_cell BK.out 0).trans rfl; have hcz1 : w6.cell? ⟨gb, 1, none⟩ = some (.slice A1 Q.length c1) := (blk_cell BK.out 1).trans rfl))
 refine (columns_calls k n s cl A0 c0 M A1 c1 Q w6 (Kd.C_below HR0.out HB.out) HC0.out (Kd.C_below HR1.out HB.out) HC1.out HQ.out HP.out HN.out HCL.out).mono ?_
 rintro e w7 ⟨g, cap, b, cp, rfl, hcap, hO⟩
 have n0_ := Aside0.mk (hO.low HB.out)
 have HCAP := Aside0.mk hcap
 clear hcz0 hcz1 BK HB hO hcap
 have HO := n0_
 clear n0_
 go_wp2_with fail
 refine (det_own HO.out HCAP.out HP.out HN.out).mono ?_
 rintro e w8 ⟨rfl, hb⟩
 rw [HD.out]
 have n0_ := Aside0.mk (HO.out.step hb)
 clear HO hb
 have HO := n0_
 clear n0_
 by_cases d0 : D = 0
 ·subst d0
  go_wp2
  refine bodyPost_ret (results_list (rs := [.tmp 6, .tmp 7, .tmp 8]) rfl (by simp) (.tmp (.tmp (.tmp .nil)))) rfl ?_
  exact ⟨_, rfl, Kd.R_nil _ _ _ _ _, HO.out.below⟩
 ·have hd0 : (D == 0) = false := by simpa using d0
  have D0 := Aside0.mk d0
  go_wp2_with (first | ((with_reducible refine gate_dst (N := 23) rfl ?_); refine Kd.R_make (w0 := w8) (Kd.int .i64) w8.heap.size 2 rfl (N := 23) rfl 33 _ _ rfl (n : Int) rfl rfl Try.underlying33 (.int .i64 0) 8 info2 rfl (by decide) (by decide) 0 (ok := fun _ => True) (okp := fun _ => True) rfl (fun _ hk => hk) trivial hn0 (by have := HN.out; omega) (Below.refl _ _) (Nat.le_refl _) ?_; intro v23 w9 ho hb hg2 hat; obtain ⟨go, co, rfl, hgo1, hgo2, cells, hgoc⟩ := Kd.R_form ho (by have := HP.out; simp; omega); simp only [Int.toNat_natCast, List.length_replicate] at ho ⊢; rw [slL_zero n (cM cl n) right sg] at ho; have HGO : Aside0 (w8.heap.size ≤ go) := ⟨hgo1⟩; have HGL := Aside0.mk (HO.out.og 0 HP.out).1; have HBL := Aside0.mk (fun j (hj : j < n) => (HO.out.ob j 0 hj HP.out).1); have n0_ := Aside0.mk (HO.out.step hb); have HRO := Aside0.mk (Kd.R_lower ho HO.out.below.size); clear HO; have HO := n0_; clear n0_ ho hb hg2 hat hgo1 hgo2 hgoc))
  have HSEP : Aside0 (w.heap.size ≤ go ∧ go ≠ g ∧ ∀ j, j < n → b j ≠ go) := ⟨by
   have h1 := HGO.out
   have h2 := lt_of_cell HGL.out
   have h3 := HO.out.gb
   refine ⟨?_, ?_, fun j hj => ?_⟩
   ·simp only at h2; omega
   ·simp only at h2; omega
   ·have h4 := lt_of_cell (HBL.out j hj); simp only at h4; omega⟩
  clear HGO HGL HBL
  go_loopg [26] n (fun gg v26 wr => ∃ i : Nat, i ≤ n ∧ n - i ≤ gg ∧ v26 = .int .i64 (i : Int) ∧ Aside0 (Own w wr g n b cp (cM cl n)) ∧ Aside0 (Kd.R (Kd.int .i64) 2 wr w.heap.size (fun _ => True) (.slice (some ⟨go, 0, none⟩) n co) (slL n (cM cl n) right sg i)))
  case atStart => exact ⟨0, Nat.zero_le _, by omega, rfl, HO, HRO⟩
  case round =>
   clear HO HRO
   obtain ⟨i, hi, hg, rfl, HO, HRO⟩ := hrel
   have HG := Aside0.mk hg
   by_cases hlt : i < n
   ·have hltz : (i : Int) < (n : Int) := by omega
    have h0z : (0 : Int) ≤ (i : Int) := by omega
    have HLT := Aside0.mk hlt
    have hi1 : IntKind.i64.wrap ((i : Int) + 1) = ((i + 1 : Nat) : Int) := by rw [IntWalk.i64_in _ (by have := HN.out; omega)]; rfl
    have HI1 := Aside0.mk hi1
    clear hlt hi hg
    go_wp2_with fail
    refine (copy_own HO.out HCAP.out HP.out HN.out).mono ?_
    rintro e w10 ⟨g2, cap2, b2, cp2, rfl, hcap2, hO2⟩
    have HCAP2 := Aside0.mk hcap2
    have HO2 := Aside0.mk hO2
    clear hcap2 hO2
    go_wp2_with fail
    have hpc := putO (w0 := wr) i HLT.out cap2 A2 c2 right HO2.out HN.out (by rw [HRI.out]; exact Nat.le_refl _) (fun W hK hB => Kd.C_below HR2.out (Below.trans HO.out.below (hB.mono HO.out.below.size)))
    rw [HRI.out] at hpc
    refine hpc.mono ?_
    clear hpc
    rintro e w11 ⟨rfl, hO3, hK3⟩
    have HO3 := Aside0.mk hO3
    clear hO3 hK3 HO2
    go_wp2_with fail
    refine (impl_sign.calls D sg _ HSG.out).mono ?_
    rintro e w12 ⟨rfl, hd12⟩
    have n0_ := Aside0.mk (HO3.out.step hd12.below)
    clear HO3 hd12
    have HO3 := n0_
    clear n0_
    go_wp2_with fail
    refine (det_own HO3.out HCAP2.out HP.out HN.out).mono ?_
    rintro e w13 ⟨rfl, hb13⟩
    have hB13 : Below wr.heap.size wr w13 := Below.trans HO3.out.below (hb13.mono HO3.out.below.size)
    have n0_ := Aside0.mk (HO.out.step hB13)
    have n1_ := Aside0.mk (Kd.R_below HRO.out hB13)
    clear HO HRO HO3 hb13 hB13
    have HO := n0_
    have HRO := n1_
    clear n0_ n1_
    have hat := Kd.R_celln 0 HRO.out (i : Int) (by omega) hltz
    rw [Int.toNat_natCast] at hat
    have hcg := hat.1
    have hfg := hat.2
    clear hat
    have hput := Kd.R_putg HRO.out (i : Int) (sl n (cM cl n) right sg i)
    rw [Int.toNat_natCast, slL_next _ _ _ _ _ HLT.out] at hput
    have HPUT := Aside0.mk hput.1
    have HFAR := Aside0.mk (HO.out.far (p := ⟨go, i, none⟩) HSEP.out.1 HSEP.out.2.1 HSEP.out.2.2 (.int .i64 (sl n (cM cl n) right sg i)))
    clear hput
    go_wp2
    go_roundg (n - (i + 1))
    case measure => have := HG.out; have := HLT.out; omega
    case rel => exact ⟨i + 1, by have := HLT.out; omega, by omega, by first | rfl | (rw [HI1.out]) | (simp [HI1.out]), HFAR, HPUT⟩
   ·have hltz : ¬ (i : Int) < (n : Int) := by omega
    obtain rfl : i = n := by omega
    go_wp2_with fail
    refine (impl_size.calls D sz _ HSZ.out).mono ?_
    rintro e w14 ⟨rfl, hb⟩
    have n0_ := Aside0.mk (HO.out.step hb)
    have n1_ := Aside0.mk (Kd.R_below HRO.out hb)
    clear HO HRO hb
    go_wp2
    refine bodyPost_ret (results_list (rs := [.tmp 6, .tmp 7, .tmp 8]) rfl (by simp) (.tmp (.tmp (.tmp .nil)))) rfl ?_
    refine ⟨.slice (some ⟨go, 0, none⟩) i co, ?_, ?_, n0_.out.below⟩
    ·rfl
    ·exact n1_.out
end Go.Proofs.Ytjjbhdpjnjncbaa.Hd
end
section
namespace Go.Proofs.Ytjjbhdpjnjncbaa.Pr
open Go.RowKit Go.Proofs.YtjjbhdpjnjncbaaW.PrintWords Go.Proofs.YtjjbhdpjnjncbaaW.PrintLast Go.Proofs.YtjjbhdpjnjncbaaW.PrintMore Go.Proofs.Ytjjbhdpjnjncbaa.La Go.Proofs.Ytjjbhdpjnjncbaa.Ma Go.Proofs.Ytjjbhdpjnjncbaa.Hm Go.Proofs.Ytjjbhdpjnjncbaa.Dt Go.Proofs.Ytjjbhdpjnjncbaa.Hd
def colF (k : Nat) (M : List (List Int)) (Q : List Int) (s : Int) (i : Nat) : Option (List Int) := (impl_has.f s (i : Int)).bind fun t => impl_Problem_column.f k M Q (i : Int) t
def colOK (k : Nat) (M : List (List Int)) (Q : List Int) (s : Int) (n : Nat) : Bool := (List.range n).all fun i => match colF k M Q s i with
 | some c => c.length == n
 | none => false
def colL (k : Nat) (M : List (List Int)) (Q : List Int) (s : Int) (i : Nat) : List Int := (colF k M Q s i).getD []
def impl_Problem_solve.f (k : Nat) (l0_0 : List (List Int)) (l0_1 : List Int) (a1 : Int) (l2 : List Int) : Option (List Int × Int × Bool) :=
 if 0 < l0_1.length ∧ l0_1.length ≤ 1000 ∧ l2.length = l0_1.length ∧ colOK k l0_0 l0_1 a1 l0_1.length = true then
  (impl_sign.f (dO l0_1.length (cM (colL k l0_0 l0_1 a1) l0_1.length))).bind fun sg => (impl_size.f (dO l0_1.length (cM (colL k l0_0 l0_1 a1) l0_1.length))).bind fun sz =>
   some (if dO l0_1.length (cM (colL k l0_0 l0_1 a1) l0_1.length) = 0 then ([], 0, false) else (slL l0_1.length (cM (colL k l0_0 l0_1 a1) l0_1.length) l2 sg l0_1.length, sz, true))
 else none
theorem colF_mono (k : Nat) (M : List (List Int)) (Q : List Int) (s : Int) (i : Nat) : LeO (colF k M Q s i) (colF (k + 1) M Q s i) := by
 unfold colF
 exact LeO.bind (LeO.refl _) (fun t => impl_Problem_column.mono _ _ _ _ _)
theorem colOK_mono {k : Nat} {M : List (List Int)} {Q : List Int} {s : Int} {n : Nat} (h : colOK k M Q s n = true) : colOK (k + 1) M Q s n = true ∧ ∀ i, i < n → colL (k + 1) M Q s i = colL k M Q s i := by
 unfold colOK at h ⊢
 rw [List.all_eq_true] at h ⊢
 have key : ∀ i, i < n → colF (k + 1) M Q s i = colF k M Q s i ∧ ∃ c, colF k M Q s i = some c := by
  intro i hi
  have := h i (List.mem_range.2 hi)
  cases hc : colF k M Q s i with
  | none => rw [hc] at this; cases this
  | some c => exact ⟨colF_mono k M Q s i c hc, c, rfl⟩
 refine ⟨fun i hi => ?_, fun i hi => ?_⟩
 ·rw [(key i (List.mem_range.1 hi)).1]; exact h i hi
 ·unfold colL; rw [(key i hi).1]
theorem impl_Problem_solve.mono : ∀ a0 a1 a2 a3 k, LeO (impl_Problem_solve.f k a0 a1 a2 a3) (impl_Problem_solve.f (k + 1) a0 a1 a2 a3) := by
 intro a0 a1 a2 a3 k r h
 unfold impl_Problem_solve.f at h ⊢
 split at h
 case isFalse => cases h
 rename_i hc
 obtain ⟨h1, h2, h3, h4⟩ := hc
 obtain ⟨h5, hl⟩ := colOK_mono h4
 have hcm : cM (colL (k + 1) a0 a1 a2) a1.length = cM (colL k a0 a1 a2) a1.length := by
  funext a d
  unfold cM
  by_cases z : d < a1.length
  ·rw [if_pos z, if_pos z, hl d z]
  ·rw [if_neg z, if_neg z]
 rw [if_pos ⟨h1, h2, h3, h5⟩, hcm]
 exact h
theorem impl_Problem_solve.calls (k : Nat) (A0_0 : Option Addr) (c0_0 : Nat) (l0_0 : List (List Int)) (A0_1 : Option Addr) (c0_1 : Nat) (l0_1 : List Int) (a1 : Int) (A2 : Option Addr) (c2 : Nat) (l2 : List Int) (r1 : List Int) (r2 : Int) (r3 : Bool) (w : World) (hr0_0 : Kd.C (Kd.slice 2 (Kd.int .i64)) w A0_0 l0_0.length l0_0) (hc0_0 : l0_0.length ≤ c0_0) (hr0_1 : Kd.C (Kd.int .i64) w A0_1 l0_1.length l0_1) (hc0_1 : l0_1.length ≤ c0_1) (hr2 : Kd.C (Kd.int .i64) w A2 l2.length l2) (hc2 : l2.length ≤ c2) (h : impl_Problem_solve.f k l0_0 l0_1 a1 l2 = some (r1, r2, r3)) :
  Calls Try.prog 151 #[.agg #[.slice A0_0 l0_0.length c0_0, .slice A0_1 l0_1.length c0_1], .int .i64 a1, .slice A2 l2.length c2] w fun e w' => ∃ v0_ : Value, e = .returned (.tuple #[v0_, .int .i64 r2, .bool r3]) ∧ Kd.R (Kd.int .i64) 2 w' w.heap.size (fun _ => True) v0_ r1 ∧ Below w.heap.size w w' := by
 unfold impl_Problem_solve.f at h
 split at h
 case isFalse => cases h
 rename_i hc
 obtain ⟨h1, h2, h3, h4⟩ := hc
 obtain ⟨sg, hsg, h⟩ := Option.bind_eq_some_iff.mp h
 obtain ⟨sz, hsz, h⟩ := Option.bind_eq_some_iff.mp h
 have h := Option.some.inj h
 have hcl : ∀ i, i < l0_1.length → ∃ t, impl_has.f a1 (i : Int) = some t ∧ impl_Problem_column.f k l0_0 l0_1 (i : Int) t = some (colL k l0_0 l0_1 a1 i) ∧ (colL k l0_0 l0_1 a1 i).length = l0_1.length := by
  intro i hi
  unfold colOK at h4
  rw [List.all_eq_true] at h4
  have := h4 i (List.mem_range.2 hi)
  unfold colL
  cases hcf : colF k l0_0 l0_1 a1 i with
  | none => rw [hcf] at this; cases this
  | some c =>
   rw [hcf] at this
   obtain ⟨t, ht1, ht2⟩ := Option.bind_eq_some_iff.mp hcf
   exact ⟨t, ht1, ht2, by simpa using this⟩
 have hs := solve_calls k l0_1.length a1 (dO l0_1.length (cM (colL k l0_0 l0_1 a1) l0_1.length)) sg sz (colL k l0_0 l0_1 a1) A0_0 c0_0 l0_0 A0_1 c0_1 l0_1 A2 c2 l2 w hr0_0 hc0_0 hr0_1 hc0_1 hr2 hc2 rfl h3 h1 h2 hcl rfl hsg hsz
 by_cases d : dO l0_1.length (cM (colL k l0_0 l0_1 a1) l0_1.length) = 0
 ·rw [if_pos d] at h
  simp only [if_pos d] at hs
  cases h
  exact hs
 ·rw [if_neg d] at h
  simp only [if_neg d] at hs
  cases h
  exact hs
end Go.Proofs.Ytjjbhdpjnjncbaa.Pr
end
section
namespace Go.Proofs.Ytjjbhdpjnjncbaa.Pr
open Go.RowKit Go.Proofs.YtjjbhdpjnjncbaaW.PrintWords Go.Proofs.YtjjbhdpjnjncbaaW.PrintLast Go.Proofs.YtjjbhdpjnjncbaaW.PrintMore
attribute [local go_sem] max2_int min2_int max_two min_two max_three min_three max_four min_four
def impl_Problem_point.f (k : Nat) (l0_0 : List (List Int)) (l0_1 : List Int) (a1 : Int) : Option (List Int × Int × Bool) := (impl_Problem_solve.f k l0_0 l0_1 a1 l0_1).bind fun bt1152 => (some (bt1152.1, bt1152.2.1, bt1152.2.2))
theorem impl_Problem_point.mono : ∀ a0 a1 a2 k, LeO (impl_Problem_point.f k a0 a1 a2) (impl_Problem_point.f (k + 1) a0 a1 a2) := by
 intro a0 a1 a2 k
 unfold impl_Problem_point.f
 repeat' first
   | (with_reducible exact impl_Problem_solve.mono _ _ _ _ _)
   | (with_reducible exact LeO.refl _)
   | (with_reducible exact LeO.none _)
   | (with_reducible refine LeO.ite ?_ ?_)
   | (with_reducible refine LeO.bind ?_ (fun _ => ?_))
   | exact impl_Problem_solve.mono _ _ _ _ _
   | exact LeO.none _
   | refine LeO.ite ?_ ?_
   | refine LeO.bind ?_ (fun _ => ?_)
theorem impl_Problem_point.calls (k : Nat) (A0_0 : Option Addr) (c0_0 : Nat) (l0_0 : List (List Int)) (A0_1 : Option Addr) (c0_1 : Nat) (l0_1 : List Int) (a1 : Int) (r1 : List Int) (r2 : Int) (r3 : Bool) (w : World) (hr0_0 : Kd.C (Kd.slice 2 (Kd.int .i64)) w A0_0 l0_0.length l0_0) (hc0_0 : l0_0.length ≤ c0_0) (hr0_1 : Kd.C (Kd.int .i64) w A0_1 l0_1.length l0_1) (hc0_1 : l0_1.length ≤ c0_1) (h : impl_Problem_point.f k l0_0 l0_1 a1 = some (r1, r2, r3)) :
  Calls Try.prog 116 #[.agg #[.slice A0_0 l0_0.length c0_0, .slice A0_1 l0_1.length c0_1], .int .i64 a1] w fun e w' => ∃ v0_ : Value, e = .returned (.tuple #[v0_, .int .i64 r2, .bool r3]) ∧ Kd.R (Kd.int .i64) 2 w' w.heap.size (fun _ => True) v0_ r1 ∧ Below w.heap.size w w' := by
 have hu56 := Try.underlying56
 have HR0_0 := Aside0.mk hr0_0
 have HC0_0 := Aside0.mk hc0_0
 clear hr0_0 hc0_0
 have HR0_1 := Aside0.mk hr0_1
 have HC0_1 := Aside0.mk hc0_1
 clear hr0_1 hc0_1
 have HB := Aside0.mk (Below.refl w.heap.size w)
 have H : ((impl_Problem_solve.f k l0_0 l0_1 a1 l0_1).bind fun bt1152 => (some (bt1152.1, bt1152.2.1, bt1152.2.2))) = some (r1, r2, r3) := h
 clear h
 replace H := Option.bind_eq_some_iff.mp H
 obtain ⟨⟨t1152, t1155, t1156⟩, A30, H⟩ := H
 replace H : (some (t1152, t1155, t1156)) = some (r1, r2, r3) := H
 have A3 := Aside0.mk A30
 clear A30
 simp only [Option.some.injEq, Prod.mk.injEq] at H
 obtain ⟨rfl, rfl, rfl⟩ := H
 go_enter Try.func116, Try.ntmps116
 go_wp2_with (first | ((with_reducible refine gate_dst (N := 2) rfl ?_); refine box_event ?hg (N := 2) ?hd (cs := #[.slice A0_0 l0_0.length c0_0, .slice A0_1 l0_1.length c0_1]) (t := 56) ?hr ?_; (case hd => rfl); (case hg => rfl); (case hr => first | (go_simp; done) | (go_simp; rfl)); intro gb1151 hg w4 hbox hb; have n0_ := Aside0.mk (bs_ hb); have n1_ := Aside0.mk (hbox); have n2_ := Aside0.mk ((by rw [hg]; exact bz_ : w.heap.size ≤ gb1151)); have n3_ := Aside0.mk ((by rw [hg]; exact bz_ : w.heap.size ≤ gb1151)); clear HB; have HB := n0_; have BK1151 := n1_; have GW1151 := n2_; have GE1151 := n3_; clear n0_ n1_ n2_ n3_; clear hb hbox hg; have hcz5_0 : w4.cell? ⟨gb1151, 0, none⟩ = some (.slice A0_0 l0_0.length c0_0) := (blk_cell BK1151.out 0).trans rfl; have hcz5_1 : w4.cell? ⟨gb1151, 1, none⟩ = some (.slice A0_1 l0_1.length c0_1) := (blk_cell BK1151.out 1).trans rfl; have hfz5_0 := blk_frozen BK1151.out 0; have hfz5_1 := blk_frozen BK1151.out 1) | ((with_reducible refine gate_callee (f := 151) rfl ?_); refine goesL_ (some 11) rfl rfl Try.func151 (by kernel_rfl) rfl #[.agg #[.slice A0_0 l0_0.length c0_0, .slice A0_1 l0_1.length c0_1], .int .i64 a1, .slice A0_1 l0_1.length c0_1] rfl (by (try simp only [List.map_toArray, List.map_cons, List.map_nil]); first | done | rfl | (simp only [List.length_drop, List.length_take]; rfl)) ?_; (with_reducible refine (impl_Problem_solve.calls k _ _ l0_0 _ _ l0_1 a1 _ _ l0_1 t1152 t1155 t1156 _ ?side1 ?side2 ?side3 ?side4 ?side5 ?side6 A3.out).mono ?_); (case side1 => exact cb_ HR0_0.out HB.out); (case side2 => exact HC0_0.out); (case side3 => exact cb_ HR0_1.out HB.out); (case side4 => exact HC0_1.out); (case side5 => exact cb_ HR0_1.out HB.out); (case side6 => exact HC0_1.out); rintro e w6 ⟨v1153, rfl, ho0, hb⟩; refine ⟨_, rfl, ?_⟩; have n0_ := Aside0.mk (Kd.R_lower ho0 bz_); have n1_ := Aside0.mk (bb_ BK1151.out hb); have n2_ := Aside0.mk (bs_ hb); clear BK1151; clear HB; have HO1154 := n0_; have BK1151 := n1_; have HB := n2_; clear n0_ n1_ n2_; (try clear hb); (try clear hb2); (try clear hk); (try clear hi); (try clear ho0)))
 go_ret3
 exact ⟨_, by first | rfl | (simp [errW_none, errW_some] <;> rfl) | (simp [*, errW_none, errW_some] <;> rfl), ro_ HO1154.out, hb_⟩
end Go.Proofs.Ytjjbhdpjnjncbaa.Pr
end
section
namespace Go.Proofs.Ytjjbhdpjnjncbaa.Hput
open Go.RowKit Go.Proofs.YtjjbhdpjnjncbaaW.PrintWords Go.Proofs.YtjjbhdpjnjncbaaW.PrintLast Go.Proofs.YtjjbhdpjnjncbaaW.PrintMore Go.Proofs.Ytjjbhdpjnjncbaa.Pr Go.Proofs.Ytjjbhdpjnjncbaa.La Go.Proofs.Ytjjbhdpjnjncbaa.Ma Go.Proofs.Ytjjbhdpjnjncbaa.Hm
section
variable {w0 : World} {ok : Nat → Prop}
theorem put_row {g cap : Nat} {w : World} {l : List (List Int)} (hB : Below w0.heap.size w0 w) (h : SS w0 w ok (.slice (some ⟨g, 0, none⟩) l.length cap) l) (j : Nat) (hj : j < l.length) (i : Nat) (hi : i < l[j].length) :
  ∃ (b cj : Nat), w.cell? ⟨g, j, none⟩ = some (.slice (some ⟨b, 0, none⟩) l[j].length cj) ∧ w.cell? ⟨b, i, none⟩ = some (.int .i64 (l[j].getD i 0)) ∧ w.frozen? ⟨b, i, none⟩ = false ∧
   ∀ x : Int, SS w0 (w.setCell ⟨b, i, none⟩ (.int .i64 x)) ok (.slice (some ⟨g, 0, none⟩) l.length cap) (l.set j (l[j].set i x)) ∧ Below w0.heap.size w0 (w.setCell ⟨b, i, none⟩ (.int .i64 x)) ∧ Kept w (w.setCell ⟨b, i, none⟩ (.int .i64 x)) ok := by
 obtain ⟨oki, c, hcl, hM, hcc, hoki, hback⟩ := Kd.S_borrow h [] (j : Int) (by omega) (by omega)
 rw [Int.toNat_natCast, List.getD_eq_getElem?_getD, List.getElem?_eq_getElem hj] at hM
 obtain ⟨u, rfl, hR⟩ := hM
 have hR2 : Kd.R (Kd.int .i64) 2 w w0.heap.size oki u l[j] := hR
 obtain ⟨b, cj, rfl, hb1, hb2, cells, hbc⟩ := Kd.R_form hR2 (by omega)
 have e : (⟨g, 0, none⟩ : Addr).add ((j : Int).toNat * (Kd.slice 2 (Kd.int .i64)).sz + 0) = ⟨g, j, none⟩ := by
  show (⟨g, 0, none⟩ : Addr).add ((j : Int).toNat * 1 + 0) = ⟨g, j, none⟩
  rw [Int.toNat_natCast, Nat.mul_one, Nat.add_zero]
  unfold Addr.add; split <;> simp_all
 have hcellg : w.cell? ⟨g, j, none⟩ = some (.slice (some ⟨b, 0, none⟩) l[j].length cj) := by
  have := hcc 0 _ rfl
  rwa [e] at this
 have hat := Kd.R_celln 0 hR2 (i : Int) (by omega) (by omega)
 rw [Int.toNat_natCast] at hat
 have hown : oki b := hR2.1 b (by simp [Value.ownBlock])
 refine ⟨b, cj, hcellg, by simpa [rdOf] using hat.1, hat.2, fun x => ?_⟩
 have hput := Kd.R_putg hR2 (i : Int) x
 rw [Int.toNat_natCast] at hput
 have hS := hback hput.2 (fun k hk => by injection hk with hk; subst hk; exact hown) (x' := l[j].set i x) ⟨_, rfl, (show Kd.R (Kd.int .i64) 2 _ _ _ _ _ from hput.1)⟩
 rw [Int.toNat_natCast] at hS
 refine ⟨hS, hB.setCell hb1 _, ?_⟩
 exact (Kept.refl w ok).setCell (.inl (hoki b hown).1) _
end
end Go.Proofs.Ytjjbhdpjnjncbaa.Hput
end
section
namespace Go.Proofs.Ytjjbhdpjnjncbaa.Pv
open Go.RowKit Go.Proofs.YtjjbhdpjnjncbaaW.PrintWords Go.Proofs.YtjjbhdpjnjncbaaW.PrintLast Go.Proofs.YtjjbhdpjnjncbaaW.PrintMore Go.Proofs.Ytjjbhdpjnjncbaa.Pr Go.Proofs.Ytjjbhdpjnjncbaa.La Go.Proofs.Ytjjbhdpjnjncbaa.Ma Go.Proofs.Ytjjbhdpjnjncbaa.Hm Go.Proofs.Ytjjbhdpjnjncbaa.Lw Go.Proofs.Ytjjbhdpjnjncbaa.Hput Go.Proofs.Ytjjbhdpjnjncbaa.Dt
open Go.Proofs.Ytjjbhdpjnjncbaa.Hd (en lt_of_cell)
def pE (l : List (List Int)) (cs : Nat → List Int) (k i r c : Nat) : Int := if c < k ∨ c = k ∧ r < i then wrap64 (-(cs c).getD r 0) else en l r c
def pR (l : List (List Int)) (cs : Nat → List Int) (n k i : Nat) : List (List Int) := (List.range n).map fun r => (List.range n).map (pE l cs k i r)
theorem pR_len (l : List (List Int)) (cs : Nat → List Int) (n k i : Nat) : (pR l cs n k i).length = n := by simp [pR]
theorem pR_row (l : List (List Int)) (cs : Nat → List Int) (n k i r : Nat) (h : r < (pR l cs n k i).length) : (pR l cs n k i)[r] = (List.range n).map (pE l cs k i r) := by simp [pR]
theorem pR_set (l : List (List Int)) (cs : Nat → List Int) (n k i : Nat) (hi : i < n) (hk : k < n) : (pR l cs n k i).set i (((List.range n).map (pE l cs k i i)).set k (wrap64 (-(cs k).getD i 0))) = pR l cs n k (i + 1) := by
 apply List.ext_getElem
 ·simp [pR]
 ·intro r h1 h2
  have hr : r < n := by simpa [pR] using h2
  rw [List.getElem_set]
  simp only [pR, List.getElem_map, List.getElem_range]
  by_cases e : i = r
  ·subst e
   rw [if_pos rfl]
   apply List.ext_getElem
   ·simp
   ·intro c h3 h4
    have hc : c < n := by simpa using h4
    rw [List.getElem_set]
    simp only [List.getElem_map, List.getElem_range, pE]
    by_cases q : k = c
    ·subst q; rw [if_pos rfl, if_pos (by omega)]
    ·rw [if_neg q]
     by_cases z : c < k
     ·rw [if_pos (.inl z), if_pos (.inl z)]
     ·rw [if_neg (by omega), if_neg (by omega)]
  ·rw [if_neg e]
   refine List.map_congr_left (fun c _ => ?_)
   unfold pE
   by_cases z : c < k ∨ c = k ∧ r < i
   ·rw [if_pos z, if_pos (by omega)]
   ·rw [if_neg z, if_neg (by omega)]
theorem pR_col (l : List (List Int)) (cs : Nat → List Int) (n k : Nat) : pR l cs n k n = pR l cs n (k + 1) 0 := by
 unfold pR
 refine List.map_congr_left (fun r hr => List.map_congr_left (fun c _ => ?_))
 have hr := List.mem_range.1 hr
 unfold pE
 by_cases z : c < k ∨ c = k ∧ r < n
 ·rw [if_pos z, if_pos (by omega)]
 ·rw [if_neg z, if_neg (by omega)]
theorem pR_zero (l : List (List Int)) (cs : Nat → List Int) (n : Nat) (hl : l.length = n) (hr : ∀ x ∈ l, x.length = n) : pR l cs n 0 0 = l := by
 apply List.ext_getElem
 ·simp [pR, hl]
 ·intro r h1 h2
  have hrow := hr l[r] (List.getElem_mem h2)
  simp only [pR, List.getElem_map, List.getElem_range]
  apply List.ext_getElem
  ·simp [hrow]
  ·intro c h3 h4
   simp only [List.getElem_map, List.getElem_range, pE]
   rw [if_neg (by omega)]
   unfold en
   simp [h2, h4]
theorem pivot_none (k : Nat) (s : Int) (side : List Int) (den : Int) (A0 : Option Addr) (c0 : Nat) (M : List (List Int)) (A1 : Option Addr) (c1 : Nat) (Q : List Int) (w : World) (hr0 : Kd.C (Kd.slice 2 (Kd.int .i64)) w A0 M.length M) (hc0 : M.length ≤ c0) (hr1 : Kd.C (Kd.int .i64) w A1 Q.length Q) (hc1 : Q.length ≤ c1) (hpt : impl_Problem_point.f k M Q s = some (side, den, false)) :
  Calls Try.prog 145 #[.agg #[.slice A0 M.length c0, .slice A1 Q.length c1], .int .i64 s] w fun e w' => e = .returned (.tuple #[.agg #[.int .i64 0, .slice none 0 0, .slice none 0 0], .bool false]) ∧ Below w.heap.size w w' := by
 have HR0 := Aside0.mk hr0
 have HC0 := Aside0.mk hc0
 have HR1 := Aside0.mk hr1
 have HC1 := Aside0.mk hc1
 have HPT := Aside0.mk hpt
 have HB := Aside0.mk (Below.refl w.heap.size w)
 clear hr0 hc0 hr1 hc1 hpt
 go_enter Try.func145, Try.ntmps145
 go_wp2_with (first | ((with_reducible refine gate_dst (N := 2) rfl ?_); refine box_event ?hg (N := 2) ?hd (cs := #[.slice A0 M.length c0, .slice A1 Q.length c1]) (t := 56) ?hr ?_; (case hd => rfl); (case hg => rfl); (case hr => first | (go_simp; done) | (go_simp; rfl)); intro gb hg w6 hbox hb; have n0_ := Aside0.mk (below_step HB.out hb); have n1_ := Aside0.mk hbox; clear HB; have HB := n0_; have BK := n1_; clear n0_ n1_; clear hb hbox hg) | ((with_reducible refine gate_dst (N := 4) rfl ?_); refine box_event ?hg (N := 4) ?hd (cs := #[.int .i64 0, .slice none 0 0, .slice none 0 0]) (t := 86) ?hr ?_; (case hd => rfl); (case hg => rfl); (case hr => first | (go_simp; done) | (go_simp; rfl)); intro g4 hg w7 hbox hb; have n0_ := Aside0.mk (below_step HB.out hb); have n1_ := Aside0.mk (blk_below BK.out hb); have n2_ := Aside0.mk hbox; have G4 : Aside0 (w.heap.size ≤ g4) := ⟨by have := HB.out.size; omega⟩; clear HB BK; have HB := n0_; have BK := n1_; have B4 := n2_; clear n0_ n1_ n2_; clear hb hbox hg; have hcz0 : w7.cell? ⟨gb, 0, none⟩ = some (.slice A0 M.length c0) := (blk_cell BK.out 0).trans rfl; have hcz1 : w7.cell? ⟨gb, 1, none⟩ = some (.slice A1 Q.length c1) := (blk_cell BK.out 1).trans rfl))
 refine (impl_Problem_point.calls k A0 c0 M A1 c1 Q s side den false _ (Kd.C_below HR0.out HB.out) HC0.out (Kd.C_below HR1.out HB.out) HC1.out HPT.out).mono ?_
 rintro e w8 ⟨v, rfl, hR, hb⟩
 have n0_ := Aside0.mk (below_step HB.out hb)
 have n1_ := Aside0.mk (blk_below B4.out hb)
 clear HB B4 BK hcz0 hcz1 hb hR
 have HB := n0_
 have B4 := n1_
 clear n0_ n1_
 have hs0 : w8.cell? ⟨g4, 0, none⟩ = some (.int .i64 0) := (blk_cell B4.out 0).trans rfl
 have hsf0 := blk_frozen B4.out 0
 have hs1 : w8.cell? ⟨g4, 1, none⟩ = some (.slice none 0 0) := (blk_cell B4.out 1).trans rfl
 have hsf1 := blk_frozen B4.out 1
 have hs2 : w8.cell? ⟨g4, 2, none⟩ = some (.slice none 0 0) := (blk_cell B4.out 2).trans rfl
 have hsf2 := blk_frozen B4.out 2
 go_wp2_with (first | ((with_reducible refine gate_store (t := 86) (p := 4) rfl ?_); refine store_event (t := 86) (p := 4) (v := ?vo) (w1 := (((w8.setCell ⟨g4, 0, none⟩ (.int .i64 0)).setCell ⟨g4, 1, none⟩ (.slice none 0 0)).setCell ⟨g4, 2, none⟩ (.slice none 0 0))) ?hg ?ho ?hn ?hr ?_; (case ho => rfl); (case hg => rfl); (case hn => rfl); (case hr => first | (go_simp; done) | (go_simp; rfl)); intro w9 hw; have nb := Aside0.mk (show w9.heap[g4]? = some (.cells #[.int .i64 0, .slice none 0 0, .slice none 0 0] 86 (0, 0)) from (by rw [hw]; exact (blk_put (blk_put (blk_put B4.out 0 _ rfl) 1 _ rfl) 2 _ rfl))); have nB := Aside0.mk (show Below w.heap.size w w9 from (by rw [hw]; exact below_set (below_set (below_set HB.out G4.out) G4.out) G4.out)); clear hw HB B4; have HB := nB; have B4 := nb; clear nB nb))
 refine bodyPost_ret (results_list (rs := [.cell 4 86, .tmp 5]) rfl (by simp) (.cell g4 86 #[.int .i64 0, .slice none 0 0, .slice none 0 0] (0, 0) _ rfl B4.out Try.underlying86 rfl (by kernel_rfl) (.tmp .nil))) rfl ?_
 exact ⟨rfl, HB.out⟩
theorem pivot_calls (k n : Nat) (s : Int) (side : List Int) (den : Int) (ck cs : Nat → List Int) (d2 : Nat → Int) (o2 : Nat → Bool) (k2 : Nat) (A0 : Option Addr) (c0 : Nat) (M : List (List Int)) (A1 : Option Addr) (c1 : Nat) (Q : List Int) (w : World) (hr0 : Kd.C (Kd.slice 2 (Kd.int .i64)) w A0 M.length M) (hc0 : M.length ≤ c0) (hr1 : Kd.C (Kd.int .i64) w A1 Q.length Q) (hc1 : Q.length ≤ c1) (hM : M.length = n) (hMr : ∀ x ∈ M, x.length = n) (hQ : Q.length = n) (hp : 0 < n) (hn : n ≤ 1000) (hpt : impl_Problem_point.f k M Q s = some (side, den, true)) (hsl : side.length = n) (hcp : impl_copyRows.f k2 M = some M)
  (hcol : ∀ j, j < n → ∃ t, impl_has.f s (j : Int) = some t ∧ impl_Problem_column.f k M Q (j : Int) (!t) = some (ck j) ∧ impl_Problem_solve.f k M Q s (ck j) = some (cs j, d2 j, o2 j) ∧ (cs j).length = n) :
  Calls Try.prog 145 #[.agg #[.slice A0 M.length c0, .slice A1 Q.length c1], .int .i64 s] w fun e w' => ∃ v0_ v1_ : Value, e = .returned (.tuple #[.agg #[.int .i64 den, v0_, v1_], .bool true]) ∧ Kd.S (Kd.slice 2 (Kd.int .i64)) 33 w' w.heap.size (fun k_ => some k_ ≠ (v1_ : Value).ownBlock) v0_ (pR M cs n n 0) ∧ Kd.R (Kd.int .i64) 2 w' w.heap.size (fun _ => True) v1_ side ∧ Below w.heap.size w w' := by
 have HR0 := Aside0.mk hr0
 have HC0 := Aside0.mk hc0
 have HR1 := Aside0.mk hr1
 have HC1 := Aside0.mk hc1
 have HM0 := Aside0.mk hM
 have HMR := Aside0.mk hMr
 have HQ := Aside0.mk hQ
 have HP := Aside0.mk hp
 have HN := Aside0.mk hn
 have HPT := Aside0.mk hpt
 have HSL := Aside0.mk hsl
 have HCP := Aside0.mk hcp
 have HCOL := Aside0.mk hcol
 have HB := Aside0.mk (Below.refl w.heap.size w)
 have hqz : (Q.length : Int) = (n : Int) := by omega
 clear hr0 hc0 hr1 hc1 hpt hM hMr hQ hp hn hsl hcp hcol
 go_enter Try.func145, Try.ntmps145
 go_wp2_with (first | ((with_reducible refine gate_dst (N := 2) rfl ?_); refine box_event ?hg (N := 2) ?hd (cs := #[.slice A0 M.length c0, .slice A1 Q.length c1]) (t := 56) ?hr ?_; (case hd => rfl); (case hg => rfl); (case hr => first | (go_simp; done) | (go_simp; rfl)); intro gb hg w6 hbox hb; have n0_ := Aside0.mk (below_step HB.out hb); have n1_ := Aside0.mk hbox; clear HB; have HB := n0_; have BK := n1_; clear n0_ n1_; clear hb hbox hg) | ((with_reducible refine gate_dst (N := 4) rfl ?_); refine box_event ?hg (N := 4) ?hd (cs := #[.int .i64 0, .slice none 0 0, .slice none 0 0]) (t := 86) ?hr ?_; (case hd => rfl); (case hg => rfl); (case hr => first | (go_simp; done) | (go_simp; rfl)); intro g4 hg w7 hbox hb; have n0_ := Aside0.mk (below_step HB.out hb); have n1_ := Aside0.mk (blk_below BK.out hb); have n2_ := Aside0.mk hbox; have G4 : Aside0 (w.heap.size ≤ g4) := ⟨by have := HB.out.size; omega⟩; clear HB BK; have HB := n0_; have BK := n1_; have B4 := n2_; clear n0_ n1_ n2_; clear hb hbox hg; have hcz0 : w7.cell? ⟨gb, 0, none⟩ = some (.slice A0 M.length c0) := (blk_cell BK.out 0).trans rfl; have hcz1 : w7.cell? ⟨gb, 1, none⟩ = some (.slice A1 Q.length c1) := (blk_cell BK.out 1).trans rfl))
 have G4S := Aside0.mk (blk_lt B4.out)
 refine (impl_Problem_point.calls k A0 c0 M A1 c1 Q s side den true _ (Kd.C_below HR0.out HB.out) HC0.out (Kd.C_below HR1.out HB.out) HC1.out HPT.out).mono ?_
 rintro e w8 ⟨v, rfl, hR, hb⟩
 obtain ⟨As, cS, rfl⟩ := Kd.R_slice hR
 have HS := Aside0.mk (UR.of hR HB.out.size)
 generalize hslo : w7.heap.size = slo at HS G4S
 have n0_ := Aside0.mk (below_step HB.out hb)
 have n1_ := Aside0.mk (blk_below B4.out hb)
 have n2_ := Aside0.mk (blk_below BK.out hb)
 have G4L := Aside0.mk (blk_lt n1_.out)
 have GBL := Aside0.mk (blk_lt n2_.out)
 clear HB B4 BK hcz0 hcz1 hb hR
 have HB := n0_
 have B4 := n1_
 have BK := n2_
 clear n0_ n1_ n2_
 rw [HSL.out] at HS ⊢
 have hcz0 : w8.cell? ⟨gb, 0, none⟩ = some (.slice A0 M.length c0) := (blk_cell BK.out 0).trans rfl
 have hcz1 : w8.cell? ⟨gb, 1, none⟩ = some (.slice A1 Q.length c1) := (blk_cell BK.out 1).trans rfl
 go_wp2_with fail
 refine (impl_copyRows.calls k2 A0 c0 M M w8 (Kd.C_below HR0.out HB.out) HC0.out HCP.out).mono ?_
 rintro e w9 ⟨v9, rfl, hS9, hb⟩
 obtain ⟨g, cap, rfl, hg1, hg2, cells9, hgc9⟩ := Kd.S_form hS9 (by rw [HM0.out]; exact HP.out)
 have HM := Aside0.mk (US.of hS9 HB.out.size)
 rw [HM0.out] at HM
 rw [HM0.out]
 have HLH := Aside0.mk hb.size
 have n0_ := Aside0.mk (below_step HB.out hb)
 have n1_ := Aside0.mk (blk_below B4.out hb)
 have n2_ := Aside0.mk (blk_below BK.out hb)
 have n3_ := Aside0.mk (HS.out.mvB (Frm.below hb))
 clear HB B4 BK HS hcz0 hcz1 hb hS9 hg1 hg2 hgc9
 have HB := n0_
 have B4 := n1_
 have BK := n2_
 have HS := n3_
 clear n0_ n1_ n2_ n3_
 have HHI := Aside0.mk (Nat.le_refl w9.heap.size)
 generalize hlo : w8.heap.size = lo at *
 generalize hhi : w9.heap.size = hi at HM HLH HHI
 have HHI2 : Aside0 (hi = w9.heap.size) := ⟨hhi.symm⟩
 clear hlo hhi HHI
 go_wp2_with (first | ((with_reducible refine gate_dst (N := 9) rfl ?_); refine box_event ?hg (N := 9) ?hd (cs := #[.int .i64 0, .slice none 0 0, .slice none 0 0]) (t := 86) ?hr ?_; (case hd => rfl); (case hg => rfl); (case hr => first | (go_simp; done) | (go_simp; rfl)); intro g9 hg w10 hbox hb; have n0_ := Aside0.mk (below_step HB.out hb); have n1_ := Aside0.mk (blk_below B4.out hb); have n2_ := Aside0.mk (blk_below BK.out hb); have n3_ := Aside0.mk (HS.out.mvB (Frm.below hb)); have n4_ := Aside0.mk (HM.out.mvB (Frm.below hb)); have B9 := Aside0.mk hbox; have hs0 : w10.cell? ⟨g9, 0, none⟩ = some (.int .i64 0) := (blk_cell B9.out 0).trans rfl; have hsf0 := blk_frozen B9.out 0; have hs1 : w10.cell? ⟨g9, 1, none⟩ = some (.slice none 0 0) := (blk_cell B9.out 1).trans rfl; have hsf1 := blk_frozen B9.out 1; have hs2 : w10.cell? ⟨g9, 2, none⟩ = some (.slice none 0 0) := (blk_cell B9.out 2).trans rfl; have hsf2 := blk_frozen B9.out 2; have G9 : Aside0 (w.heap.size ≤ g9) := ⟨by have := HB.out.size; omega⟩; have G9H : Aside0 (hi ≤ g9) := ⟨by have := HHI2.out; omega⟩; clear HB B4 BK HS HM; have HB := n0_; have B4 := n1_; have BK := n2_; have HS := n3_; have HM := n4_; clear n0_ n1_ n2_ n3_ n4_; clear hb hbox hg) | ((with_reducible refine gate_store (t := 86) (p := 9) rfl ?_); refine store_event (t := 86) (p := 9) (v := ?vo) (w1 := (((w10.setCell ⟨g9, 0, none⟩ (.int .i64 den)).setCell ⟨g9, 1, none⟩ (.slice (some ⟨g, 0, none⟩) n cap)).setCell ⟨g9, 2, none⟩ (.slice As n cS))) ?hg ?ho ?hn ?hr ?_; (case ho => rfl); (case hg => rfl); (case hn => rfl); (case hr => first | (go_simp; done) | (go_simp; rfl)); intro w11 hw; have hF : Frm w10 w11 g9 (g9 + 1) := (by rw [hw]; exact (Frm.set _ _ _ _).trans ((Frm.set _ _ _ _).trans (Frm.set _ _ _ _))); have nb := Aside0.mk (show w11.heap[g9]? = some (.cells #[.int .i64 den, .slice (some ⟨g, 0, none⟩) n cap, .slice As n cS] 86 (0, 0)) from (by rw [hw]; exact (blk_put (blk_put (blk_put B9.out 0 _ rfl) 1 _ rfl) 2 _ rfl))); have nB := Aside0.mk (show Below w.heap.size w w11 from (by rw [hw]; exact below_set (below_set (below_set HB.out G9.out) G9.out) G9.out)); clear hs0 hsf0 hs1 hsf1 hs2 hsf2; have n1_ := Aside0.mk ((hF.same g4 (blk_lt B4.out) (.inl (by have := G4L.out; have := HLH.out; have := G9H.out; omega))).trans B4.out); have n2_ := Aside0.mk ((hF.same gb (blk_lt BK.out) (.inl (by have := GBL.out; have := HLH.out; have := G9H.out; omega))).trans BK.out); have n3_ := Aside0.mk (HS.out.mv hF (.inl (by have := HLH.out; have := G9H.out; omega))); have n4_ := Aside0.mk (HM.out.mv hF (.inl G9H.out)); clear B4 BK HS HM; have B4 := n1_; have BK := n2_; have HS := n3_; have HM := n4_; clear n1_ n2_ n3_ n4_; have hcz1 : w11.cell? ⟨gb, 1, none⟩ = some (.slice A1 Q.length c1) := (blk_cell BK.out 1).trans rfl; clear hw HB B9 hF; have HB := nB; have B9 := nb; clear nB nb))
 go_loopg [35] n (fun gg v35 wr => ∃ j : Nat, j ≤ n ∧ n - j ≤ gg ∧ v35 = .int .i64 (j : Int) ∧ Aside0 (Below w.heap.size w wr) ∧ Aside0 (wr.heap[g4]? = some (.cells #[.int .i64 0, .slice none 0 0, .slice none 0 0] 86 (0, 0))) ∧ Aside0 (wr.heap[gb]? = some (.cells #[.slice A0 M.length c0, .slice A1 Q.length c1] 56 (0, 0))) ∧ Aside0 (wr.heap[g9]? = some (.cells #[.int .i64 den, .slice (some ⟨g, 0, none⟩) n cap, .slice As n cS] 86 (0, 0))) ∧ Aside0 (UR (Kd.int .i64) 2 w wr slo lo (.slice As n cS) side) ∧ Aside0 (US (Kd.slice 2 (Kd.int .i64)) 33 w wr lo hi (.slice (some ⟨g, 0, none⟩) n cap) (pR M cs n j 0)))
 case atStart => exact ⟨0, Nat.zero_le _, by omega, rfl, HB, B4, BK, B9, HS, ⟨by rw [pR_zero M cs n HM0.out HMR.out]; exact HM.out⟩⟩
 case round =>
  clear HB B4 BK B9 HS HM hcz1
  obtain ⟨j, hj, hgg, rfl, HB, B4, BK, B9, HS, HM⟩ := hrel
  have HG := Aside0.mk hgg
  by_cases hjn : j < n
  ·have hjz : (j : Int) < (Q.length : Int) := by omega
   have h0j : (0 : Int) ≤ (j : Int) := by omega
   have HJ := Aside0.mk hjn
   have hj1 : IntKind.i64.wrap ((j : Int) + 1) = ((j + 1 : Nat) : Int) := by rw [IntWalk.i64_in _ (by have := HN.out; omega)]; rfl
   have HJ1 := Aside0.mk hj1
   obtain ⟨th, hth, hcolf, hsol, hcsl⟩ := HCOL.out j hjn
   have HTH := Aside0.mk hth
   have HCOLF := Aside0.mk hcolf
   have HSOL := Aside0.mk hsol
   have HCSL := Aside0.mk hcsl
   have HSZ9 : Aside0 (hi ≤ wr.heap.size) := ⟨by have := blk_lt B9.out; have := G9H.out; omega⟩
   clear hth hcolf hsol hcsl hj hgg hjn
   have HBW := Aside0.mk (below_drew (Below.refl wr.heap.size wr))
   have n0_ := Aside0.mk (below_step HB.out HBW.out)
   have n1_ := Aside0.mk (blk_below BK.out HBW.out)
   have n2_ := Aside0.mk (blk_below B4.out HBW.out)
   have n3_ := Aside0.mk (blk_below B9.out HBW.out)
   have n4_ := Aside0.mk (HS.out.mvB (Frm.below HBW.out))
   have n5_ := Aside0.mk (HM.out.mvB (Frm.below HBW.out))
   clear HB BK B4 B9 HS HM HBW
   have HB := n0_
   have BK := n1_
   have B4 := n2_
   have B9 := n3_
   have HS := n4_
   have HM := n5_
   clear n0_ n1_ n2_ n3_ n4_ n5_
   have hcz0 : wr.drew.cell? ⟨gb, 0, none⟩ = some (.slice A0 M.length c0) := (blk_cell BK.out 0).trans rfl
   have hcz1 : wr.drew.cell? ⟨gb, 1, none⟩ = some (.slice A1 Q.length c1) := (blk_cell BK.out 1).trans rfl
   go_wp2
   refine st_ (n := 17) (S := fun w' => w'.cell? ⟨gb, 0, none⟩ = some (.slice A0 M.length c0) ∧ w'.cell? ⟨gb, 1, none⟩ = some (.slice A1 Q.length c1)) (ds := []) ⟨hcz0, hcz1⟩ (fun hHeld => ?_)
   generalize wr.drew = w20 at HB BK B4 B9 HS HM hcz0 hcz1 hHeld ⊢
   refine tk_ 0 39 ?_; refine pu_ 1 40 ?_; refine tk_ 2 41 ?_; refine pu_ 3 42 ?_; refine pu_ 4 43 ?_; refine pu_ 5 44 ?_
   refine on_ 6 (some 45) (fun K hK => ?_)
   refine goes_ Try.func120 (by kernel_rfl) rfl #[.int .i64 s, .int .i64 (j : Int)] (by rfl) rfl rfl (by (try simp only [List.map_toArray, List.map_cons, List.map_nil]); first | done | rfl) ?_
   refine (impl_has.calls s (j : Int) th _ HTH.out).mono ?_
   rintro e w21 ⟨rfl, hd5⟩
   refine ⟨_, rfl, ?_⟩
   have HBW := Aside0.mk hd5.below
   clear hd5 hHeld hcz0 hcz1
   have n0_ := Aside0.mk (below_step HB.out HBW.out)
   have n1_ := Aside0.mk (blk_below BK.out HBW.out)
   have n2_ := Aside0.mk (blk_below B4.out HBW.out)
   have n3_ := Aside0.mk (blk_below B9.out HBW.out)
   have n4_ := Aside0.mk (HS.out.mvB (Frm.below HBW.out))
   have n5_ := Aside0.mk (HM.out.mvB (Frm.below HBW.out))
   clear HB BK B4 B9 HS HM HBW
   have HB := n0_
   have BK := n1_
   have B4 := n2_
   have B9 := n3_
   have HS := n4_
   have HM := n5_
   clear n0_ n1_ n2_ n3_ n4_ n5_
   refine hK.out _ _ ⟨(blk_cell BK.out 0).trans rfl, (blk_cell BK.out 1).trans rfl⟩ (fun hHeld => ?_)
   clear hK K
   refine norm_ (a' := ?_) ?_ ?_
   rotate_left
   ·show Act.put _ (some 45) _ = _
    simp only [Act.put, List.setIfInBounds_toArray, List.set_cons_zero, List.set_cons_succ, i64_w, i32_w]
    rfl
   refine pu_ 7 46 ?_
   refine on_ 8 (some 47) (fun K hK => ?_)
   refine goes_ Try.func168 (by kernel_rfl) rfl #[.agg #[.slice A0 M.length c0, .slice A1 Q.length c1], .int .i64 (j : Int), .bool (!th)] (by rfl) rfl rfl (by (try simp only [List.map_toArray, List.map_cons, List.map_nil]); first | done | rfl) ?_
   refine (impl_Problem_column.calls k A0 c0 M A1 c1 Q (j : Int) (!th) (ck j) w21 (Kd.C_below HR0.out HB.out) HC0.out (Kd.C_below HR1.out HB.out) HC1.out HCOLF.out).mono ?_
   rintro e w22 ⟨vc, rfl, hRc, hb6⟩
   obtain ⟨Ac, cc, rfl⟩ := Kd.R_slice hRc
   refine ⟨_, rfl, ?_⟩
   have HRC := Aside0.mk (Kd.R_reads' hRc)
   have HBW := Aside0.mk hb6
   clear hb6 hHeld hRc
   have n0_ := Aside0.mk (below_step HB.out HBW.out)
   have n1_ := Aside0.mk (blk_below BK.out HBW.out)
   have n2_ := Aside0.mk (blk_below B4.out HBW.out)
   have n3_ := Aside0.mk (blk_below B9.out HBW.out)
   have n4_ := Aside0.mk (HS.out.mvB (Frm.below HBW.out))
   have n5_ := Aside0.mk (HM.out.mvB (Frm.below HBW.out))
   clear HB BK B4 B9 HS HM HBW
   have HB := n0_
   have BK := n1_
   have B4 := n2_
   have B9 := n3_
   have HS := n4_
   have HM := n5_
   clear n0_ n1_ n2_ n3_ n4_ n5_
   refine hK.out _ _ ⟨(blk_cell BK.out 0).trans rfl, (blk_cell BK.out 1).trans rfl⟩ (fun hHeld => ?_)
   clear hK K
   refine norm_ (a' := ?_) ?_ ?_
   rotate_left
   ·show Act.put _ (some 47) _ = _
    simp only [Act.put, List.setIfInBounds_toArray, List.set_cons_zero, List.set_cons_succ, i64_w, i32_w]
    rfl
   refine on_ 9 (some 48) (fun K hK => ?_)
   refine goes_ Try.func151 (by kernel_rfl) rfl #[.agg #[.slice A0 M.length c0, .slice A1 Q.length c1], .int .i64 s, .slice Ac (ck j).length cc] (by rfl) rfl rfl (by (try simp only [List.map_toArray, List.map_cons, List.map_nil]); first | done | rfl) ?_
   refine (impl_Problem_solve.calls k A0 c0 M A1 c1 Q s Ac cc (ck j) (cs j) (d2 j) (o2 j) w22 (Kd.C_below HR0.out HB.out) HC0.out (Kd.C_below HR1.out HB.out) HC1.out HRC.out.2.2 HRC.out.2.1 HSOL.out).mono ?_
   rintro e w23 ⟨vs, rfl, hRs, hb7⟩
   obtain ⟨Av, cv, rfl⟩ := Kd.R_slice hRs
   rw [HCSL.out]
   refine ⟨_, rfl, ?_⟩
   have HRS := Aside0.mk (UR.of hRs HB.out.size)
   have HW22 : Aside0 (g9 < w22.heap.size) := ⟨blk_lt B9.out⟩
   have HBW := Aside0.mk hb7
   skip
   clear hb7 hHeld hRs HRC
   have n0_ := Aside0.mk (below_step HB.out HBW.out)
   have n1_ := Aside0.mk (blk_below BK.out HBW.out)
   have n2_ := Aside0.mk (blk_below B4.out HBW.out)
   have n3_ := Aside0.mk (blk_below B9.out HBW.out)
   have n4_ := Aside0.mk (HS.out.mvB (Frm.below HBW.out))
   have n5_ := Aside0.mk (HM.out.mvB (Frm.below HBW.out))
   clear HB BK B4 B9 HS HM HBW
   have HB := n0_
   have BK := n1_
   have B4 := n2_
   have B9 := n3_
   have HS := n4_
   have HM := n5_
   clear n0_ n1_ n2_ n3_ n4_ n5_
   refine hK.out _ _ ⟨(blk_cell BK.out 0).trans rfl, (blk_cell BK.out 1).trans rfl⟩ (fun hHeld => ?_)
   clear hK K
   refine norm_ (a' := ?_) ?_ ?_
   rotate_left
   ·show Act.put _ (some 48) _ = _
    simp only [Act.put, List.setIfInBounds_toArray, List.set_cons_zero, List.set_cons_succ, i64_w, i32_w]
    rfl
   refine pu_ 10 38 ?_; refine pu_ 11 49 ?_; refine pu_ 12 50 ?_; refine pu_ 13 51 ?_; refine pu_ 14 11 ?_; refine pu_ 15 12 ?_; refine pu_ 16 13 ?_
   refine done_ (by kernel_rfl) ?_
   rw [HCSL.out] at HRS
   have HSE : Aside0 (hi ≤ w22.heap.size) := ⟨by have := HW22.out; have := G9H.out; omega⟩
   generalize hslo2 : w22.heap.size = slo2 at HRS HSE
   generalize hshi2 : w23.heap.size = shi2 at HRS
   clear hslo2 hshi2 HW22
   go_wp2
   go_loopg [54] n (fun gg v54 w30 => ∃ i : Nat, i ≤ n ∧ n - i ≤ gg ∧ v54 = .int .i64 (i : Int) ∧ Aside0 (Below w.heap.size w w30) ∧ Aside0 (w30.heap[g4]? = some (.cells #[.int .i64 0, .slice none 0 0, .slice none 0 0] 86 (0, 0))) ∧ Aside0 (w30.heap[gb]? = some (.cells #[.slice A0 M.length c0, .slice A1 Q.length c1] 56 (0, 0))) ∧ Aside0 (w30.heap[g9]? = some (.cells #[.int .i64 den, .slice (some ⟨g, 0, none⟩) n cap, .slice As n cS] 86 (0, 0))) ∧ Aside0 (UR (Kd.int .i64) 2 w w30 slo lo (.slice As n cS) side) ∧ Aside0 (US (Kd.slice 2 (Kd.int .i64)) 33 w w30 lo hi (.slice (some ⟨g, 0, none⟩) n cap) (pR M cs n j i)) ∧ Aside0 (UR (Kd.int .i64) 2 w w30 slo2 shi2 (.slice Av n cv) (cs j)))
   case atStart => exact ⟨0, Nat.zero_le _, by omega, rfl, HB, B4, BK, B9, HS, HM, HRS⟩
   case round =>
    clear HB B4 BK B9 HS HM HRS
    obtain ⟨i, hi_, hgg, rfl, HB, B4, BK, B9, HS, HM, HRS⟩ := hrel
    have HG2 := Aside0.mk hgg
    by_cases hin : i < n
    ·have hiz : (i : Int) < (n : Int) := by omega
     have h0i : (0 : Int) ≤ (i : Int) := by omega
     have hjz2 : (j : Int) < (n : Int) := by have := HJ.out; omega
     have HIN := Aside0.mk hin
     have hi1 : IntKind.i64.wrap ((i : Int) + 1) = ((i + 1 : Nat) : Int) := by rw [IntWalk.i64_in _ (by have := HN.out; omega)]; rfl
     have HI1 := Aside0.mk hi1
     obtain ⟨adv, eA, hcv⟩ := Kd.at_int (UR.C HRS.out) (i : Int) (by omega) (by rw [HCSL.out]; omega)
     subst eA
     rw [Int.toNat_natCast, rd_nat] at hcv
     have hc9 : wr.cell? ⟨g9, 1, none⟩ = some (.slice (some ⟨g, 0, none⟩) n cap) := (blk_cell B9.out 1).trans rfl
     have hrow := pR_row M cs n j i i (by rw [pR_len]; exact hin)
     have hpr := put_row (w0 := w) (g := g) (cap := cap) HB.out (l := pR M cs n j i) (ok := fun k => lo ≤ k ∧ k < hi) (by rw [pR_len]; exact HM.out) i (by rw [pR_len]; exact hin) j (by rw [hrow]; simpa using HJ.out)
     rw [hrow, pR_len] at hpr
     obtain ⟨b, cj, hcellg, hold, hfr, hset⟩ := hpr
     have hset2 := hset (wrap64 (-(cs j).getD i 0))
     rw [pR_set M cs n j i hin HJ.out] at hset2
     have HSET := Aside0.mk hset2
     have hcellg' : wr.cell? ⟨g, i, none⟩ = some (.slice (some ⟨b, 0, none⟩) n cj) := by simpa using hcellg
     generalize (cs j).getD i 0 = xv at hcv HSET
     clear hset hset2 hrow hcellg hin hi_ hgg
     go_wp2
     go_roundg (n - (i + 1))
     case measure => have := HG2.out; have := HIN.out; omega
     case rel =>
      have hF := Frm.kept HSET.out.2.2 (fun k hk => hk)
      exact ⟨i + 1, by have := HIN.out; omega, by omega, by first | rfl | (rw [HI1.out]) | (simp [HI1.out]), ⟨HSET.out.2.1⟩, ⟨(hF.same g4 (blk_lt B4.out) (.inl (by have := G4L.out; omega))).trans B4.out⟩, ⟨(hF.same gb (blk_lt BK.out) (.inl (by have := GBL.out; omega))).trans BK.out⟩, ⟨(hF.same g9 (blk_lt B9.out) (.inr (by have := G9H.out; omega))).trans B9.out⟩, ⟨HS.out.mv hF (.inl (Nat.le_refl _))⟩, ⟨HSET.out.1⟩, ⟨HRS.out.mv hF (.inr HSE.out)⟩⟩
    ·have hiz : ¬ (i : Int) < (n : Int) := by omega
     obtain rfl : i = n := by omega
     go_wp2
     go_roundg (i - (j + 1))
     case measure => have := HG.out; have := HJ.out; omega
     case rel => exact ⟨j + 1, by have := HJ.out; omega, by omega, by first | rfl | (rw [HJ1.out]) | (simp [HJ1.out]), HB, B4, BK, B9, HS, ⟨by rw [← pR_col]; exact HM.out⟩⟩
  ·have hjz : ¬ (j : Int) < (Q.length : Int) := by omega
   obtain rfl : j = n := by omega
   have hq0 : wr.cell? ⟨g9, 0, none⟩ = some (.int .i64 den) := (blk_cell B9.out 0).trans rfl
   have hq1 : wr.cell? ⟨g9, 1, none⟩ = some (.slice (some ⟨g, 0, none⟩) j cap) := (blk_cell B9.out 1).trans rfl
   have hq2 : wr.cell? ⟨g9, 2, none⟩ = some (.slice As j cS) := (blk_cell B9.out 2).trans rfl
   have hs0 : wr.cell? ⟨g4, 0, none⟩ = some (.int .i64 0) := (blk_cell B4.out 0).trans rfl
   have hsf0 := blk_frozen B4.out 0
   have hs1 : wr.cell? ⟨g4, 1, none⟩ = some (.slice none 0 0) := (blk_cell B4.out 1).trans rfl
   have hsf1 := blk_frozen B4.out 1
   have hs2 : wr.cell? ⟨g4, 2, none⟩ = some (.slice none 0 0) := (blk_cell B4.out 2).trans rfl
   have hsf2 := blk_frozen B4.out 2
   have G4H := G4L.out
   have G4S' := G4S.out
   go_wp2
   have hF : Frm wr (((wr.setCell ⟨g4, 0, none⟩ (.int .i64 den)).setCell ⟨g4, 1, none⟩ (.slice (some ⟨g, 0, none⟩) j cap)).setCell ⟨g4, 2, none⟩ (.slice As j cS)) g4 (g4 + 1) := (Frm.set _ _ _ _).trans ((Frm.set _ _ _ _).trans (Frm.set _ _ _ _))
   refine bodyPost_ret (results_list (rs := [.cell 4 86, .tmp 5]) rfl (by simp) (.cell g4 86 #[.int .i64 den, .slice (some ⟨g, 0, none⟩) j cap, .slice As j cS] (0, 0) _ rfl (blk_put (blk_put (blk_put B4.out 0 _ rfl) 1 _ rfl) 2 _ rfl) Try.underlying86 rfl (by kernel_rfl) (.tmp .nil))) rfl ?_
   refine ⟨_, _, rfl, ?_, Kd.R_mono (HS.out.mv hF (.inr (by omega))) (fun _ _ => trivial), below_set (below_set (below_set HB.out G4.out) G4.out) G4.out⟩
   exact Kd.S_mono (HM.out.mv hF (.inr (by omega))) (fun k hk e => by have := HS.out.1 k e.symm; omega)
end Go.Proofs.Ytjjbhdpjnjncbaa.Pv
end
section
namespace Go.Proofs.Ytjjbhdpjnjncbaa.Pr
open Go.RowKit Go.Proofs.YtjjbhdpjnjncbaaW.PrintWords Go.Proofs.YtjjbhdpjnjncbaaW.PrintLast Go.Proofs.YtjjbhdpjnjncbaaW.PrintMore Go.Proofs.Ytjjbhdpjnjncbaa.La Go.Proofs.Ytjjbhdpjnjncbaa.Ma Go.Proofs.Ytjjbhdpjnjncbaa.Hm Go.Proofs.Ytjjbhdpjnjncbaa.Dt Go.Proofs.Ytjjbhdpjnjncbaa.Hd Go.Proofs.Ytjjbhdpjnjncbaa.Pv
def pvC (k : Nat) (M : List (List Int)) (Q : List Int) (s : Int) (j : Nat) : Option (List Int) := (impl_has.f s (j : Int)).bind fun t => (impl_Problem_column.f k M Q (j : Int) (!t)).bind fun c => (impl_Problem_solve.f k M Q s c).bind fun r => some r.1
def pvOK (k : Nat) (M : List (List Int)) (Q : List Int) (s : Int) (n : Nat) : Bool := (List.range n).all fun j => match pvC k M Q s j with
 | some c => c.length == n
 | none => false
def pvL (k : Nat) (M : List (List Int)) (Q : List Int) (s : Int) (j : Nat) : List Int := (pvC k M Q s j).getD []
def impl_Problem_pivot.f (k : Nat) (l0_0 : List (List Int)) (l0_1 : List Int) (a1 : Int) : Option (Int × List (List Int) × List Int × Bool) :=
 (impl_Problem_point.f k l0_0 l0_1 a1).bind fun p => if p.2.2 = true then
  (if 0 < l0_1.length ∧ l0_1.length ≤ 1000 ∧ l0_0.length = l0_1.length ∧ (l0_0.all fun x => x.length == l0_1.length) = true ∧ p.1.length = l0_1.length ∧ impl_copyRows.f k l0_0 = some l0_0 ∧ pvOK k l0_0 l0_1 a1 l0_1.length = true then
   some (p.2.1, pR l0_0 (pvL k l0_0 l0_1 a1) l0_1.length l0_1.length 0, p.1, true)
  else none)
 else some (0, [], [], false)
theorem pvC_mono (k : Nat) (M : List (List Int)) (Q : List Int) (s : Int) (i : Nat) : LeO (pvC k M Q s i) (pvC (k + 1) M Q s i) := by
 unfold pvC
 exact LeO.bind (LeO.refl _) (fun t => LeO.bind (impl_Problem_column.mono _ _ _ _ _) (fun c => LeO.bind (impl_Problem_solve.mono _ _ _ _ _) (fun _ => LeO.refl _)))
theorem pvOK_mono {k : Nat} {M : List (List Int)} {Q : List Int} {s : Int} {n : Nat} (h : pvOK k M Q s n = true) : pvOK (k + 1) M Q s n = true ∧ ∀ i, i < n → pvL (k + 1) M Q s i = pvL k M Q s i := by
 unfold pvOK at h ⊢
 rw [List.all_eq_true] at h ⊢
 have key : ∀ i, i < n → pvC (k + 1) M Q s i = pvC k M Q s i := by
  intro i hi
  have := h i (List.mem_range.2 hi)
  cases hc : pvC k M Q s i with
  | none => rw [hc] at this; cases this
  | some c => exact pvC_mono k M Q s i c hc
 refine ⟨fun i hi => ?_, fun i hi => ?_⟩
 ·rw [key i (List.mem_range.1 hi)]; exact h i hi
 ·unfold pvL; rw [key i hi]
theorem pR_congr (l : List (List Int)) (cs cs' : Nat → List Int) (n : Nat) (h : ∀ c, c < n → cs c = cs' c) : pR l cs n n 0 = pR l cs' n n 0 := by
 unfold pR
 refine List.map_congr_left (fun r _ => List.map_congr_left (fun c hc => ?_))
 unfold pE
 rw [h c (List.mem_range.1 hc)]
theorem impl_Problem_pivot.mono : ∀ a0 a1 a2 k, LeO (impl_Problem_pivot.f k a0 a1 a2) (impl_Problem_pivot.f (k + 1) a0 a1 a2) := by
 intro a0 a1 a2 k
 unfold impl_Problem_pivot.f
 refine LeO.bind (impl_Problem_point.mono _ _ _ _) (fun p => ?_)
 by_cases z : p.2.2 = true
 ·rw [if_pos z, if_pos z]
  intro r h
  split at h
  case isFalse => cases h
  rename_i hc
  obtain ⟨h1, h2, h3, h4, h5, h6, h7⟩ := hc
  obtain ⟨h8, hl⟩ := pvOK_mono h7
  rw [if_pos ⟨h1, h2, h3, h4, h5, impl_copyRows.mono _ _ _ h6, h8⟩, pR_congr _ _ _ _ hl]
  exact h
 ·rw [if_neg z, if_neg z]
  exact LeO.refl _
theorem impl_Problem_pivot.calls (k : Nat) (A0_0 : Option Addr) (c0_0 : Nat) (l0_0 : List (List Int)) (A0_1 : Option Addr) (c0_1 : Nat) (l0_1 : List Int) (a1 : Int) (r1 : Int) (r2 : List (List Int)) (r3 : List Int) (r4 : Bool) (w : World) (hr0_0 : Kd.C (Kd.slice 2 (Kd.int .i64)) w A0_0 l0_0.length l0_0) (hc0_0 : l0_0.length ≤ c0_0) (hr0_1 : Kd.C (Kd.int .i64) w A0_1 l0_1.length l0_1) (hc0_1 : l0_1.length ≤ c0_1) (h : impl_Problem_pivot.f k l0_0 l0_1 a1 = some (r1, r2, r3, r4)) :
  Calls Try.prog 145 #[.agg #[.slice A0_0 l0_0.length c0_0, .slice A0_1 l0_1.length c0_1], .int .i64 a1] w fun e w' => ∃ v0_ v1_ : Value, e = .returned (.tuple #[.agg #[.int .i64 r1, v0_, v1_], .bool r4]) ∧ Kd.S (Kd.slice 2 (Kd.int .i64)) 33 w' w.heap.size (fun k_ => some k_ ≠ (v1_ : Value).ownBlock) v0_ r2 ∧ Kd.R (Kd.int .i64) 2 w' w.heap.size (fun _ => True) v1_ r3 ∧ Below w.heap.size w w' := by
 unfold impl_Problem_pivot.f at h
 obtain ⟨⟨side, den, ok⟩, hp, h⟩ := Option.bind_eq_some_iff.mp h
 cases ok with
 | false =>
  rw [if_neg (by simp)] at h
  cases h
  refine (pivot_none k a1 side den A0_0 c0_0 l0_0 A0_1 c0_1 l0_1 w hr0_0 hc0_0 hr0_1 hc0_1 hp).mono ?_
  rintro e w' ⟨rfl, hb⟩
  refine ⟨.slice none 0 0, .slice none 0 0, rfl, ?_, ?_, hb⟩
  ·exact Kd.S_nil _ _ _ _ _
  ·exact Kd.R_nil _ _ _ _ _
 | true =>
  rw [if_pos rfl] at h
  split at h
  case isFalse => cases h
  rename_i hc
  obtain ⟨h1, h2, h3, h4, h5, h6, h7⟩ := hc
  cases h
  have hcl : ∀ j, j < l0_1.length → ∃ t c d o, impl_has.f a1 (j : Int) = some t ∧ impl_Problem_column.f k l0_0 l0_1 (j : Int) (!t) = some c ∧ impl_Problem_solve.f k l0_0 l0_1 a1 c = some (pvL k l0_0 l0_1 a1 j, d, o) ∧ (pvL k l0_0 l0_1 a1 j).length = l0_1.length := by
   intro i hi
   unfold pvOK at h7
   rw [List.all_eq_true] at h7
   have := h7 i (List.mem_range.2 hi)
   unfold pvL
   cases hcf : pvC k l0_0 l0_1 a1 i with
   | none => rw [hcf] at this; cases this
   | some c =>
    rw [hcf] at this
    obtain ⟨t, ht1, ht2⟩ := Option.bind_eq_some_iff.mp hcf
    obtain ⟨c2, ht3, ht4⟩ := Option.bind_eq_some_iff.mp ht2
    obtain ⟨⟨r, d, o⟩, ht5, ht6⟩ := Option.bind_eq_some_iff.mp ht4
    cases ht6
    exact ⟨t, c2, d, o, ht1, ht3, ht5, by simpa using this⟩
  have hcl2 : ∀ j, ∃ x : Bool × List Int × Int × Bool, j < l0_1.length → impl_has.f a1 (j : Int) = some x.1 ∧ impl_Problem_column.f k l0_0 l0_1 (j : Int) (!x.1) = some x.2.1 ∧ impl_Problem_solve.f k l0_0 l0_1 a1 x.2.1 = some (pvL k l0_0 l0_1 a1 j, x.2.2.1, x.2.2.2) ∧ (pvL k l0_0 l0_1 a1 j).length = l0_1.length := by
   intro j
   by_cases hj : j < l0_1.length
   ·obtain ⟨t, c, d, o, h⟩ := hcl j hj
    exact ⟨(t, c, d, o), fun _ => h⟩
   ·exact ⟨default, fun h => absurd h hj⟩
  obtain ⟨g, hg⟩ := Classical.axiomOfChoice hcl2
  exact pivot_calls k l0_1.length a1 side den (fun j => (g j).2.1) (pvL k l0_0 l0_1 a1) (fun j => (g j).2.2.1) (fun j => (g j).2.2.2) k A0_0 c0_0 l0_0 A0_1 c0_1 l0_1 w hr0_0 hc0_0 hr0_1 hc0_1 h3 (fun x hx => by rw [List.all_eq_true] at h4; simpa using h4 x hx) rfl h1 h2 hp h5 h6 (fun j hj => ⟨(g j).1, hg j hj⟩)
end Go.Proofs.Ytjjbhdpjnjncbaa.Pr
end
section
namespace Go.Proofs.Ytjjbhdpjnjncbaa.Pr
open Go.RowKit Go.Proofs.YtjjbhdpjnjncbaaW.PrintWords Go.Proofs.YtjjbhdpjnjncbaaW.PrintLast Go.Proofs.YtjjbhdpjnjncbaaW.PrintMore
attribute [local go_sem] max2_int min2_int max_two min_two max_three min_three max_four min_four
def impl_pivotOf.f (k : Nat) (l0_0 : List (List Int)) (l0_1 : List Int) (a1 : Int) : Option (Int × (List (List Int)) × List Int × Int) := (impl_setCode.f l0_0 l0_1 a1).bind fun t1159 => (if t1159 = 0 then ((impl_Problem_pivot.f k l0_0 l0_1 a1).bind fun bt1160 => (if bt1160.2.2.2 = true then (some (bt1160.1, bt1160.2.1, bt1160.2.2.1, 0)) else (some (0, ([] : List (List Int)), ([] : List Int), 5)))) else (some (0, ([] : List (List Int)), ([] : List Int), t1159)))
theorem impl_pivotOf.mono : ∀ a0 a1 a2 k, LeO (impl_pivotOf.f k a0 a1 a2) (impl_pivotOf.f (k + 1) a0 a1 a2) := by
 intro a0 a1 a2 k
 unfold impl_pivotOf.f
 repeat' first
   | (with_reducible exact impl_Problem_pivot.mono _ _ _ _)
   | (with_reducible exact LeO.refl _)
   | (with_reducible exact LeO.none _)
   | (with_reducible refine LeO.ite ?_ ?_)
   | (with_reducible refine LeO.bind ?_ (fun _ => ?_))
   | exact impl_Problem_pivot.mono _ _ _ _
   | exact LeO.none _
   | refine LeO.ite ?_ ?_
   | refine LeO.bind ?_ (fun _ => ?_)
theorem impl_pivotOf.calls (k : Nat) (A0_0 : Option Addr) (c0_0 : Nat) (l0_0 : List (List Int)) (A0_1 : Option Addr) (c0_1 : Nat) (l0_1 : List Int) (a1 : Int) (r1 : Int) (r2 : List (List Int)) (r3 : List Int) (r4 : Int) (w : World) (hr0_0 : Kd.C (Kd.slice 2 (Kd.int .i64)) w A0_0 l0_0.length l0_0) (hc0_0 : l0_0.length ≤ c0_0) (hr0_1 : Kd.C (Kd.int .i64) w A0_1 l0_1.length l0_1) (hc0_1 : l0_1.length ≤ c0_1) (h : impl_pivotOf.f k l0_0 l0_1 a1 = some (r1, r2, r3, r4)) :
  Calls Try.prog 109 #[.agg #[.slice A0_0 l0_0.length c0_0, .slice A0_1 l0_1.length c0_1], .int .i64 a1] w fun e w' => ∃ v1_ v2_ : Value, e = .returned (.tuple #[.agg #[.int .i64 r1, v1_, v2_], .int .i64 r4]) ∧ Kd.S (Kd.slice 2 (Kd.int .i64)) 33 w' w.heap.size (fun k_ => some k_ ≠ (v2_ : Value).ownBlock) v1_ r2 ∧ Kd.R (Kd.int .i64) 2 w' w.heap.size (fun _ => True) v2_ r3 ∧ Below w.heap.size w w' := by
 have hu56 := Try.underlying56
 have hu86 := Try.underlying86
 have HR0_0 := Aside0.mk hr0_0
 have HC0_0 := Aside0.mk hc0_0
 clear hr0_0 hc0_0
 have HR0_1 := Aside0.mk hr0_1
 have HC0_1 := Aside0.mk hc0_1
 clear hr0_1 hc0_1
 have HB := Aside0.mk (Below.refl w.heap.size w)
 have H : ((impl_setCode.f l0_0 l0_1 a1).bind fun t1159 => (if t1159 = 0 then ((impl_Problem_pivot.f k l0_0 l0_1 a1).bind fun bt1160 => (if bt1160.2.2.2 = true then (some (bt1160.1, bt1160.2.1, bt1160.2.2.1, 0)) else (some (0, ([] : List (List Int)), ([] : List Int), 5)))) else (some (0, ([] : List (List Int)), ([] : List Int), t1159)))) = some (r1, r2, r3, r4) := h
 clear h
 replace H := Option.bind_eq_some_iff.mp H
 obtain ⟨t1159, A30, H⟩ := H
 replace H : (if t1159 = 0 then ((impl_Problem_pivot.f k l0_0 l0_1 a1).bind fun bt1160 => (if bt1160.2.2.2 = true then (some (bt1160.1, bt1160.2.1, bt1160.2.2.1, 0)) else (some (0, ([] : List (List Int)), ([] : List Int), 5)))) else (some (0, ([] : List (List Int)), ([] : List Int), t1159))) = some (r1, r2, r3, r4) := H
 have A3 := Aside0.mk A30
 clear A30
 by_cases c4 : t1159 = 0
 ·rw [if_pos c4] at H
  have c4b0 : (t1159 == 0) = true := beq_iff_eq.mpr c4
  have c4b1 : (t1159 != 0) = false := bne_eq_false_iff_eq.mpr c4
  clear c4
  replace H := Option.bind_eq_some_iff.mp H
  obtain ⟨⟨t1160, t1161, t1164, t1167⟩, A50, H⟩ := H
  replace H : (if t1167 = true then (some (t1160, t1161, t1164, 0)) else (some (0, ([] : List (List Int)), ([] : List Int), 5))) = some (r1, r2, r3, r4) := H
  have A5 := Aside0.mk A50
  clear A50
  by_cases c6 : t1167 = true
  ·subst c6
   have H1 : (some (t1160, t1161, t1164, 0)) = some (r1, r2, r3, r4) := by rw [if_pos rfl] at H; exact H
   clear H
   have H := H1
   clear H1
   simp only [Option.some.injEq, Prod.mk.injEq] at H
   obtain ⟨rfl, rfl, rfl, rfl⟩ := H
   go_enter Try.func109, Try.ntmps109
   go_wp2_with (first | ((with_reducible refine gate_dst (N := 2) rfl ?_); refine box_event ?hg (N := 2) ?hd (cs := #[.slice A0_0 l0_0.length c0_0, .slice A0_1 l0_1.length c0_1]) (t := 56) ?hr ?_; (case hd => rfl); (case hg => rfl); (case hr => first | (go_simp; done) | (go_simp; rfl)); intro gb1157 hg w7 hbox hb; have n0_ := Aside0.mk (bs_ hb); have n1_ := Aside0.mk (hbox); have n2_ := Aside0.mk ((by rw [hg]; exact bz_ : w.heap.size ≤ gb1157)); have n3_ := Aside0.mk ((by rw [hg]; exact bz_ : w.heap.size ≤ gb1157)); clear HB; have HB := n0_; have BK1157 := n1_; have GW1157 := n2_; have GE1157 := n3_; clear n0_ n1_ n2_ n3_; clear hb hbox hg) | ((with_reducible refine gate_dst (N := 4) rfl ?_); refine box_event ?hg (N := 4) ?hd (cs := #[.int .i64 0, .slice none 0 0, .slice none 0 0]) (t := 86) ?hr ?_; (case hd => rfl); (case hg => rfl); (case hr => first | (go_simp; done) | (go_simp; rfl)); intro gb1158 hg w8 hbox hb; have n0_ := Aside0.mk (bb_ BK1157.out hb); have n1_ := Aside0.mk (bs_ hb); have n2_ := Aside0.mk (hbox); have n3_ := Aside0.mk ((by rw [hg]; exact bz_ : w.heap.size ≤ gb1158)); have n4_ := Aside0.mk ((by rw [hg]; exact bz_ : w.heap.size ≤ gb1158)); have n5_ := Aside0.mk ((by rw [hg]; exact lt_ BK1157.out : gb1157 ≠ gb1158)); have n6_ := Aside0.mk ((by rw [hg]; exact gt_ BK1157.out : gb1158 ≠ gb1157)); clear BK1157; clear HB; have BK1157 := n0_; have HB := n1_; have BK1158 := n2_; have GW1158 := n3_; have GE1158 := n4_; have NB1157_1158 := n5_; have NB1158_1157 := n6_; clear n0_ n1_ n2_ n3_ n4_ n5_ n6_; clear hb hbox hg; have hnb9 := NB1157_1158.out; have hnc9 := NB1158_1157.out; have hcz10_0 : w8.cell? ⟨gb1157, 0, none⟩ = some (.slice A0_0 l0_0.length c0_0) := (blk_cell BK1157.out 0).trans rfl; have hcz10_1 : w8.cell? ⟨gb1157, 1, none⟩ = some (.slice A0_1 l0_1.length c0_1) := (blk_cell BK1157.out 1).trans rfl; have hfz10_0 := blk_frozen BK1157.out 0; have hfz10_1 := blk_frozen BK1157.out 1) | ((with_reducible refine gate_callee (f := 144) rfl ?_); refine goesL_ (some 11) rfl rfl Try.func144 (by kernel_rfl) rfl #[.agg #[.slice A0_0 l0_0.length c0_0, .slice A0_1 l0_1.length c0_1], .int .i64 a1] rfl (by (try simp only [List.map_toArray, List.map_cons, List.map_nil]); first | done | rfl | (simp only [List.length_drop, List.length_take]; rfl)) ?_; (with_reducible refine (impl_setCode.calls _ _ l0_0 _ _ l0_1 a1 t1159 _ ?side1 ?side2 ?side3 ?side4 A3.out).mono ?_); (case side1 => exact cb_ HR0_0.out HB.out); (case side2 => exact HC0_0.out); (case side3 => exact cb_ HR0_1.out HB.out); (case side4 => exact HC0_1.out); rintro e w11 ⟨rfl, hb⟩; refine ⟨_, rfl, ?_⟩; have n0_ := Aside0.mk (bb_ BK1157.out hb); have n1_ := Aside0.mk (bb_ BK1158.out hb); have n2_ := Aside0.mk (bs_ hb); clear BK1157; clear BK1158; clear HB; have BK1157 := n0_; have BK1158 := n1_; have HB := n2_; clear n0_ n1_ n2_; (try clear hb); (try clear hb2); (try clear hk); (try clear hi); have hcz12_0 : w11.cell? ⟨gb1157, 0, none⟩ = some (.slice A0_0 l0_0.length c0_0) := (blk_cell BK1157.out 0).trans rfl; have hcz12_1 : w11.cell? ⟨gb1157, 1, none⟩ = some (.slice A0_1 l0_1.length c0_1) := (blk_cell BK1157.out 1).trans rfl; have hfz12_0 := blk_frozen BK1157.out 0; have hfz12_1 := blk_frozen BK1157.out 1) | ((with_reducible refine gate_callee (f := 145) rfl ?_); refine goesL_ (some 19) rfl rfl Try.func145 (by kernel_rfl) rfl #[.agg #[.slice A0_0 l0_0.length c0_0, .slice A0_1 l0_1.length c0_1], .int .i64 a1] rfl (by (try simp only [List.map_toArray, List.map_cons, List.map_nil]); first | done | rfl | (simp only [List.length_drop, List.length_take]; rfl)) ?_; (with_reducible refine (impl_Problem_pivot.calls k _ _ l0_0 _ _ l0_1 a1 t1160 t1161 t1164 true _ ?side1 ?side2 ?side3 ?side4 A5.out).mono ?_); (case side1 => exact cb_ HR0_0.out HB.out); (case side2 => exact HC0_0.out); (case side3 => exact cb_ HR0_1.out HB.out); (case side4 => exact HC0_1.out); rintro e w13 ⟨v1162, v1165, rfl, ho0, ho1, hb⟩; refine ⟨_, rfl, ?_⟩; have n0_ := Aside0.mk (Kd.S_lower ho0 bz_); have n1_ := Aside0.mk (Kd.R_lower ho1 bz_); have n2_ := Aside0.mk (bb_ BK1157.out hb); have n3_ := Aside0.mk (bb_ BK1158.out hb); have n4_ := Aside0.mk (bs_ hb); clear BK1157; clear BK1158; clear HB; have HO1163 := n0_; have HO1166 := n1_; have BK1157 := n2_; have BK1158 := n3_; have HB := n4_; clear n0_ n1_ n2_ n3_ n4_; (try clear hb); (try clear hb2); (try clear hk); (try clear hi); (try clear ho0); (try clear ho1)) | ((with_reducible refine gate_dst (N := 7) rfl ?_); refine box_event ?hg (N := 7) ?hd (cs := #[.int .i64 0, .slice none 0 0, .slice none 0 0]) (t := 86) ?hr ?_; (case hd => rfl); (case hg => rfl); (case hr => first | (go_simp; done) | (go_simp; rfl)); intro gb1168 hg w14 hbox hb; have n0_ := Aside0.mk (Kd.S_below (so_ HO1163.out) hb); have n1_ := Aside0.mk (rb_ HO1166.out hb); have n2_ := Aside0.mk (bb_ BK1157.out hb); have n3_ := Aside0.mk (bb_ BK1158.out hb); have n4_ := Aside0.mk (bs_ hb); have n5_ := Aside0.mk (hbox); have n6_ := Aside0.mk ((by rw [hg]; exact bz_ : w.heap.size ≤ gb1168)); have n7_ := Aside0.mk ((by rw [hg]; exact bz_ : w.heap.size ≤ gb1168)); have n8_ := Aside0.mk ((by rw [hg]; exact lt_ BK1157.out : gb1157 ≠ gb1168)); have n9_ := Aside0.mk ((by rw [hg]; exact gt_ BK1157.out : gb1168 ≠ gb1157)); have n10_ := Aside0.mk ((by rw [hg]; exact lt_ BK1158.out : gb1158 ≠ gb1168)); have n11_ := Aside0.mk ((by rw [hg]; exact gt_ BK1158.out : gb1168 ≠ gb1158)); clear HO1163; clear HO1166; clear BK1157; clear BK1158; clear HB; have HO1163 := n0_; have HO1166 := n1_; have BK1157 := n2_; have BK1158 := n3_; have HB := n4_; have BK1168 := n5_; have GW1168 := n6_; have GE1168 := n7_; have NB1157_1168 := n8_; have NB1168_1157 := n9_; have NB1158_1168 := n10_; have NB1168_1158 := n11_; clear n0_ n1_ n2_ n3_ n4_ n5_ n6_ n7_ n8_ n9_ n10_ n11_; clear hb hbox hg; have hnb15 := NB1168_1157.out; have hnc15 := NB1157_1168.out; have hnb16 := NB1168_1158.out; have hnc16 := NB1158_1168.out; have hcz17_0 : w14.cell? ⟨gb1168, 0, none⟩ = some (.int .i64 0) := (blk_cell BK1168.out 0).trans rfl; have hcz17_1 : w14.cell? ⟨gb1168, 1, none⟩ = some (.slice none 0 0) := (blk_cell BK1168.out 1).trans rfl; have hcz17_2 : w14.cell? ⟨gb1168, 2, none⟩ = some (.slice none 0 0) := (blk_cell BK1168.out 2).trans rfl; have hfz17_0 := blk_frozen BK1168.out 0; have hfz17_1 := blk_frozen BK1168.out 1; have hfz17_2 := blk_frozen BK1168.out 2; obtain ⟨Ao18, co18, eo18⟩ := Kd.S_slice HO1163.out; subst eo18; obtain ⟨Ao19, co19, eo19⟩ := Kd.R_slice HO1166.out; subst eo19; have hcz20_0 : w14.cell? ⟨gb1158, 0, none⟩ = some (.int .i64 0) := (blk_cell BK1158.out 0).trans rfl; have hcz20_1 : w14.cell? ⟨gb1158, 1, none⟩ = some (.slice none 0 0) := (blk_cell BK1158.out 1).trans rfl; have hcz20_2 : w14.cell? ⟨gb1158, 2, none⟩ = some (.slice none 0 0) := (blk_cell BK1158.out 2).trans rfl; have hfz20_0 := blk_frozen BK1158.out 0; have hfz20_1 := blk_frozen BK1158.out 1; have hfz20_2 := blk_frozen BK1158.out 2))
   refine bodyPost_ret (results_ct rfl _ _ gb1158 86 #[.int .i64 t1160, .slice Ao18 t1161.length co18, .slice Ao19 t1164.length co19] (0, 0) _ rfl (by (with_reducible repeat (first | refine blk_drewN ?_ _ | refine blk_drew ?_ | refine blk_alloc ?_ _)); refine blk_put (cs := #[.int .i64 t1160, .slice Ao18 t1161.length co18, .slice none 0 0]) ?_ 2 _ rfl; (with_reducible repeat (first | refine blk_drewN ?_ _ | refine blk_drew ?_ | refine blk_alloc ?_ _)); refine blk_put (cs := #[.int .i64 t1160, .slice none 0 0, .slice none 0 0]) ?_ 1 _ rfl; (with_reducible repeat (first | refine blk_drewN ?_ _ | refine blk_drew ?_ | refine blk_alloc ?_ _)); refine blk_put (cs := #[.int .i64 0, .slice none 0 0, .slice none 0 0]) ?_ 0 _ rfl; (with_reducible repeat (first | refine blk_drewN ?_ _ | refine blk_drew ?_ | refine blk_alloc ?_ _)); refine blk_far ?_ NB1158_1168.out _; (with_reducible repeat (first | refine blk_drewN ?_ _ | refine blk_drew ?_ | refine blk_alloc ?_ _)); refine blk_far ?_ NB1158_1168.out _; (with_reducible repeat (first | refine blk_drewN ?_ _ | refine blk_drew ?_ | refine blk_alloc ?_ _)); refine blk_far ?_ NB1158_1168.out _; (with_reducible repeat (first | refine blk_drewN ?_ _ | refine blk_drew ?_ | refine blk_alloc ?_ _)); exact BK1158.out) Try.underlying86 rfl (by kernel_rfl)) rfl ?_
   exact ⟨_, _, by first | rfl | (simp [errW_none, errW_some] <;> rfl) | (simp [*, errW_none, errW_some] <;> rfl), by (with_reducible repeat (first | apply Kd.S_alloc | apply Kd.S_drewN | apply Kd.S_drew)); exact Kd.S_mono (Kd.S_far (p := ⟨gb1158, 2, none⟩) (Kd.S_far (p := ⟨gb1158, 1, none⟩) (Kd.S_far (p := ⟨gb1158, 0, none⟩) (Kd.S_far (p := ⟨gb1168, 2, none⟩) (Kd.S_far (p := ⟨gb1168, 1, none⟩) (Kd.S_far (p := ⟨gb1168, 0, none⟩) (Kd.S_types (Kd.S_types HO1163.out BK1168.out (by decide)) BK1158.out (by decide)) (fun _ hk => hk.1.2) (.int .i64 t1160)) (fun _ hk => hk.1.2) (.slice Ao18 t1161.length co18)) (fun _ hk => hk.1.2) (.slice Ao19 t1164.length co19)) (fun _ hk => hk.2) (.int .i64 t1160)) (fun _ hk => hk.2) (.slice Ao18 t1161.length co18)) (fun _ hk => hk.2) (.slice Ao19 t1164.length co19)) (fun _ hk => hk.1.1), by (with_reducible repeat (first | apply Kd.R_alloc | apply Kd.R_drewN | apply Kd.R_drew)); exact Kd.R_mono (Kd.R_far (p := ⟨gb1158, 2, none⟩) (Kd.R_far (p := ⟨gb1158, 1, none⟩) (Kd.R_far (p := ⟨gb1158, 0, none⟩) (Kd.R_far (p := ⟨gb1168, 2, none⟩) (Kd.R_far (p := ⟨gb1168, 1, none⟩) (Kd.R_far (p := ⟨gb1168, 0, none⟩) (Kd.R_types (Kd.R_types HO1166.out BK1168.out (by decide)) BK1158.out (by decide)) (fun _ hk => hk.1.2) (.int .i64 t1160)) (fun _ hk => hk.1.2) (.slice Ao18 t1161.length co18)) (fun _ hk => hk.1.2) (.slice Ao19 t1164.length co19)) (fun _ hk => hk.2) (.int .i64 t1160)) (fun _ hk => hk.2) (.slice Ao18 t1161.length co18)) (fun _ hk => hk.2) (.slice Ao19 t1164.length co19)) (fun _ hk => trivial), hb_⟩
  ·replace c6 := Bool.eq_false_iff.mpr c6
   subst c6
   have H1 : (some (0, ([] : List (List Int)), ([] : List Int), 5)) = some (r1, r2, r3, r4) := by rw [if_neg (show ¬ (false = true) by decide)] at H; exact H
   clear H
   have H := H1
   clear H1
   simp only [Option.some.injEq, Prod.mk.injEq] at H
   obtain ⟨rfl, rfl, rfl, rfl⟩ := H
   go_enter Try.func109, Try.ntmps109
   go_wp2_with (first | ((with_reducible refine gate_dst (N := 2) rfl ?_); refine box_event ?hg (N := 2) ?hd (cs := #[.slice A0_0 l0_0.length c0_0, .slice A0_1 l0_1.length c0_1]) (t := 56) ?hr ?_; (case hd => rfl); (case hg => rfl); (case hr => first | (go_simp; done) | (go_simp; rfl)); intro gb1157 hg w21 hbox hb; have n0_ := Aside0.mk (bs_ hb); have n1_ := Aside0.mk (hbox); have n2_ := Aside0.mk ((by rw [hg]; exact bz_ : w.heap.size ≤ gb1157)); have n3_ := Aside0.mk ((by rw [hg]; exact bz_ : w.heap.size ≤ gb1157)); clear HB; have HB := n0_; have BK1157 := n1_; have GW1157 := n2_; have GE1157 := n3_; clear n0_ n1_ n2_ n3_; clear hb hbox hg) | ((with_reducible refine gate_dst (N := 4) rfl ?_); refine box_event ?hg (N := 4) ?hd (cs := #[.int .i64 0, .slice none 0 0, .slice none 0 0]) (t := 86) ?hr ?_; (case hd => rfl); (case hg => rfl); (case hr => first | (go_simp; done) | (go_simp; rfl)); intro gb1158 hg w22 hbox hb; have n0_ := Aside0.mk (bb_ BK1157.out hb); have n1_ := Aside0.mk (bs_ hb); have n2_ := Aside0.mk (hbox); have n3_ := Aside0.mk ((by rw [hg]; exact bz_ : w.heap.size ≤ gb1158)); have n4_ := Aside0.mk ((by rw [hg]; exact bz_ : w.heap.size ≤ gb1158)); have n5_ := Aside0.mk ((by rw [hg]; exact lt_ BK1157.out : gb1157 ≠ gb1158)); have n6_ := Aside0.mk ((by rw [hg]; exact gt_ BK1157.out : gb1158 ≠ gb1157)); clear BK1157; clear HB; have BK1157 := n0_; have HB := n1_; have BK1158 := n2_; have GW1158 := n3_; have GE1158 := n4_; have NB1157_1158 := n5_; have NB1158_1157 := n6_; clear n0_ n1_ n2_ n3_ n4_ n5_ n6_; clear hb hbox hg; have hnb23 := NB1157_1158.out; have hnc23 := NB1158_1157.out; have hcz24_0 : w22.cell? ⟨gb1157, 0, none⟩ = some (.slice A0_0 l0_0.length c0_0) := (blk_cell BK1157.out 0).trans rfl; have hcz24_1 : w22.cell? ⟨gb1157, 1, none⟩ = some (.slice A0_1 l0_1.length c0_1) := (blk_cell BK1157.out 1).trans rfl; have hfz24_0 := blk_frozen BK1157.out 0; have hfz24_1 := blk_frozen BK1157.out 1) | ((with_reducible refine gate_callee (f := 144) rfl ?_); refine goesL_ (some 11) rfl rfl Try.func144 (by kernel_rfl) rfl #[.agg #[.slice A0_0 l0_0.length c0_0, .slice A0_1 l0_1.length c0_1], .int .i64 a1] rfl (by (try simp only [List.map_toArray, List.map_cons, List.map_nil]); first | done | rfl | (simp only [List.length_drop, List.length_take]; rfl)) ?_; (with_reducible refine (impl_setCode.calls _ _ l0_0 _ _ l0_1 a1 t1159 _ ?side1 ?side2 ?side3 ?side4 A3.out).mono ?_); (case side1 => exact cb_ HR0_0.out HB.out); (case side2 => exact HC0_0.out); (case side3 => exact cb_ HR0_1.out HB.out); (case side4 => exact HC0_1.out); rintro e w25 ⟨rfl, hb⟩; refine ⟨_, rfl, ?_⟩; have n0_ := Aside0.mk (bb_ BK1157.out hb); have n1_ := Aside0.mk (bb_ BK1158.out hb); have n2_ := Aside0.mk (bs_ hb); clear BK1157; clear BK1158; clear HB; have BK1157 := n0_; have BK1158 := n1_; have HB := n2_; clear n0_ n1_ n2_; (try clear hb); (try clear hb2); (try clear hk); (try clear hi); have hcz26_0 : w25.cell? ⟨gb1157, 0, none⟩ = some (.slice A0_0 l0_0.length c0_0) := (blk_cell BK1157.out 0).trans rfl; have hcz26_1 : w25.cell? ⟨gb1157, 1, none⟩ = some (.slice A0_1 l0_1.length c0_1) := (blk_cell BK1157.out 1).trans rfl; have hfz26_0 := blk_frozen BK1157.out 0; have hfz26_1 := blk_frozen BK1157.out 1) | ((with_reducible refine gate_callee (f := 145) rfl ?_); refine goesL_ (some 19) rfl rfl Try.func145 (by kernel_rfl) rfl #[.agg #[.slice A0_0 l0_0.length c0_0, .slice A0_1 l0_1.length c0_1], .int .i64 a1] rfl (by (try simp only [List.map_toArray, List.map_cons, List.map_nil]); first | done | rfl | (simp only [List.length_drop, List.length_take]; rfl)) ?_; (with_reducible refine (impl_Problem_pivot.calls k _ _ l0_0 _ _ l0_1 a1 t1160 t1161 t1164 false _ ?side1 ?side2 ?side3 ?side4 A5.out).mono ?_); (case side1 => exact cb_ HR0_0.out HB.out); (case side2 => exact HC0_0.out); (case side3 => exact cb_ HR0_1.out HB.out); (case side4 => exact HC0_1.out); rintro e w27 ⟨v1162, v1165, rfl, ho0, ho1, hb⟩; refine ⟨_, rfl, ?_⟩; have n0_ := Aside0.mk (Kd.S_lower ho0 bz_); have n1_ := Aside0.mk (Kd.R_lower ho1 bz_); have n2_ := Aside0.mk (bb_ BK1157.out hb); have n3_ := Aside0.mk (bb_ BK1158.out hb); have n4_ := Aside0.mk (bs_ hb); clear BK1157; clear BK1158; clear HB; have HO1163 := n0_; have HO1166 := n1_; have BK1157 := n2_; have BK1158 := n3_; have HB := n4_; clear n0_ n1_ n2_ n3_ n4_; (try clear hb); (try clear hb2); (try clear hk); (try clear hi); (try clear ho0); (try clear ho1)) | ((with_reducible refine gate_dst (N := 7) rfl ?_); refine box_event ?hg (N := 7) ?hd (cs := #[.int .i64 0, .slice none 0 0, .slice none 0 0]) (t := 86) ?hr ?_; (case hd => rfl); (case hg => rfl); (case hr => first | (go_simp; done) | (go_simp; rfl)); intro gb1168 hg w28 hbox hb; have n0_ := Aside0.mk (Kd.S_below (so_ HO1163.out) hb); have n1_ := Aside0.mk (rb_ HO1166.out hb); have n2_ := Aside0.mk (bb_ BK1157.out hb); have n3_ := Aside0.mk (bb_ BK1158.out hb); have n4_ := Aside0.mk (bs_ hb); have n5_ := Aside0.mk (hbox); have n6_ := Aside0.mk ((by rw [hg]; exact bz_ : w.heap.size ≤ gb1168)); have n7_ := Aside0.mk ((by rw [hg]; exact bz_ : w.heap.size ≤ gb1168)); have n8_ := Aside0.mk ((by rw [hg]; exact lt_ BK1157.out : gb1157 ≠ gb1168)); have n9_ := Aside0.mk ((by rw [hg]; exact gt_ BK1157.out : gb1168 ≠ gb1157)); have n10_ := Aside0.mk ((by rw [hg]; exact lt_ BK1158.out : gb1158 ≠ gb1168)); have n11_ := Aside0.mk ((by rw [hg]; exact gt_ BK1158.out : gb1168 ≠ gb1158)); clear HO1163; clear HO1166; clear BK1157; clear BK1158; clear HB; have HO1163 := n0_; have HO1166 := n1_; have BK1157 := n2_; have BK1158 := n3_; have HB := n4_; have BK1168 := n5_; have GW1168 := n6_; have GE1168 := n7_; have NB1157_1168 := n8_; have NB1168_1157 := n9_; have NB1158_1168 := n10_; have NB1168_1158 := n11_; clear n0_ n1_ n2_ n3_ n4_ n5_ n6_ n7_ n8_ n9_ n10_ n11_; clear hb hbox hg; have hnb29 := NB1168_1157.out; have hnc29 := NB1157_1168.out; have hnb30 := NB1168_1158.out; have hnc30 := NB1158_1168.out; have hcz31_0 : w28.cell? ⟨gb1168, 0, none⟩ = some (.int .i64 0) := (blk_cell BK1168.out 0).trans rfl; have hcz31_1 : w28.cell? ⟨gb1168, 1, none⟩ = some (.slice none 0 0) := (blk_cell BK1168.out 1).trans rfl; have hcz31_2 : w28.cell? ⟨gb1168, 2, none⟩ = some (.slice none 0 0) := (blk_cell BK1168.out 2).trans rfl; have hfz31_0 := blk_frozen BK1168.out 0; have hfz31_1 := blk_frozen BK1168.out 1; have hfz31_2 := blk_frozen BK1168.out 2; obtain ⟨Ao32, co32, eo32⟩ := Kd.S_slice HO1163.out; subst eo32; obtain ⟨Ao33, co33, eo33⟩ := Kd.R_slice HO1166.out; subst eo33; have hcz34_0 : w28.cell? ⟨gb1158, 0, none⟩ = some (.int .i64 0) := (blk_cell BK1158.out 0).trans rfl; have hcz34_1 : w28.cell? ⟨gb1158, 1, none⟩ = some (.slice none 0 0) := (blk_cell BK1158.out 1).trans rfl; have hcz34_2 : w28.cell? ⟨gb1158, 2, none⟩ = some (.slice none 0 0) := (blk_cell BK1158.out 2).trans rfl; have hfz34_0 := blk_frozen BK1158.out 0; have hfz34_1 := blk_frozen BK1158.out 1; have hfz34_2 := blk_frozen BK1158.out 2))
   refine bodyPost_ret (results_ct rfl _ _ gb1158 86 #[.int .i64 0, .slice none 0 0, .slice none 0 0] (0, 0) _ rfl (by (with_reducible repeat (first | refine blk_drewN ?_ _ | refine blk_drew ?_ | refine blk_alloc ?_ _)); refine blk_put (cs := #[.int .i64 0, .slice none 0 0, .slice none 0 0]) ?_ 2 _ rfl; (with_reducible repeat (first | refine blk_drewN ?_ _ | refine blk_drew ?_ | refine blk_alloc ?_ _)); refine blk_put (cs := #[.int .i64 0, .slice none 0 0, .slice none 0 0]) ?_ 1 _ rfl; (with_reducible repeat (first | refine blk_drewN ?_ _ | refine blk_drew ?_ | refine blk_alloc ?_ _)); refine blk_put (cs := #[.int .i64 0, .slice none 0 0, .slice none 0 0]) ?_ 0 _ rfl; (with_reducible repeat (first | refine blk_drewN ?_ _ | refine blk_drew ?_ | refine blk_alloc ?_ _)); refine blk_far ?_ NB1158_1168.out _; (with_reducible repeat (first | refine blk_drewN ?_ _ | refine blk_drew ?_ | refine blk_alloc ?_ _)); refine blk_far ?_ NB1158_1168.out _; (with_reducible repeat (first | refine blk_drewN ?_ _ | refine blk_drew ?_ | refine blk_alloc ?_ _)); refine blk_far ?_ NB1158_1168.out _; (with_reducible repeat (first | refine blk_drewN ?_ _ | refine blk_drew ?_ | refine blk_alloc ?_ _)); exact BK1158.out) Try.underlying86 rfl (by kernel_rfl)) rfl ?_
   exact ⟨_, _, by first | rfl | (simp [errW_none, errW_some] <;> rfl) | (simp [*, errW_none, errW_some] <;> rfl), by first | exact Kd.S_nil _ _ _ _ _ | exact Kd.N_nil _ _ _ _ _ | exact Kd.V_nil _ _ _ _ _ | exact Kd.Q_nil _ _ _ _ _ | exact Kd.R_nil _ _ _ _ _, by first | exact Kd.R_nil _ _ _ _ _ | exact Kd.N_nil _ _ _ _ _ | exact Kd.V_nil _ _ _ _ _ | exact Kd.Q_nil _ _ _ _ _ | exact Kd.S_nil _ _ _ _ _, hb_⟩
 ·rw [if_neg c4] at H
  have c4b0 : (t1159 == 0) = false := beq_eq_false_iff_ne.mpr c4
  have c4b1 : (t1159 != 0) = true := bne_iff_ne.mpr c4
  simp only [Option.some.injEq, Prod.mk.injEq] at H
  obtain ⟨rfl, rfl, rfl, rfl⟩ := H
  go_enter Try.func109, Try.ntmps109
  go_wp2_with (first | ((with_reducible refine gate_dst (N := 2) rfl ?_); refine box_event ?hg (N := 2) ?hd (cs := #[.slice A0_0 l0_0.length c0_0, .slice A0_1 l0_1.length c0_1]) (t := 56) ?hr ?_; (case hd => rfl); (case hg => rfl); (case hr => first | (go_simp; done) | (go_simp; rfl)); intro gb1157 hg w35 hbox hb; have n0_ := Aside0.mk (bs_ hb); have n1_ := Aside0.mk (hbox); have n2_ := Aside0.mk ((by rw [hg]; exact bz_ : w.heap.size ≤ gb1157)); have n3_ := Aside0.mk ((by rw [hg]; exact bz_ : w.heap.size ≤ gb1157)); clear HB; have HB := n0_; have BK1157 := n1_; have GW1157 := n2_; have GE1157 := n3_; clear n0_ n1_ n2_ n3_; clear hb hbox hg) | ((with_reducible refine gate_dst (N := 4) rfl ?_); refine box_event ?hg (N := 4) ?hd (cs := #[.int .i64 0, .slice none 0 0, .slice none 0 0]) (t := 86) ?hr ?_; (case hd => rfl); (case hg => rfl); (case hr => first | (go_simp; done) | (go_simp; rfl)); intro gb1158 hg w36 hbox hb; have n0_ := Aside0.mk (bb_ BK1157.out hb); have n1_ := Aside0.mk (bs_ hb); have n2_ := Aside0.mk (hbox); have n3_ := Aside0.mk ((by rw [hg]; exact bz_ : w.heap.size ≤ gb1158)); have n4_ := Aside0.mk ((by rw [hg]; exact bz_ : w.heap.size ≤ gb1158)); have n5_ := Aside0.mk ((by rw [hg]; exact lt_ BK1157.out : gb1157 ≠ gb1158)); have n6_ := Aside0.mk ((by rw [hg]; exact gt_ BK1157.out : gb1158 ≠ gb1157)); clear BK1157; clear HB; have BK1157 := n0_; have HB := n1_; have BK1158 := n2_; have GW1158 := n3_; have GE1158 := n4_; have NB1157_1158 := n5_; have NB1158_1157 := n6_; clear n0_ n1_ n2_ n3_ n4_ n5_ n6_; clear hb hbox hg; have hnb37 := NB1157_1158.out; have hnc37 := NB1158_1157.out; have hcz38_0 : w36.cell? ⟨gb1157, 0, none⟩ = some (.slice A0_0 l0_0.length c0_0) := (blk_cell BK1157.out 0).trans rfl; have hcz38_1 : w36.cell? ⟨gb1157, 1, none⟩ = some (.slice A0_1 l0_1.length c0_1) := (blk_cell BK1157.out 1).trans rfl; have hfz38_0 := blk_frozen BK1157.out 0; have hfz38_1 := blk_frozen BK1157.out 1) | ((with_reducible refine gate_callee (f := 144) rfl ?_); refine goesL_ (some 11) rfl rfl Try.func144 (by kernel_rfl) rfl #[.agg #[.slice A0_0 l0_0.length c0_0, .slice A0_1 l0_1.length c0_1], .int .i64 a1] rfl (by (try simp only [List.map_toArray, List.map_cons, List.map_nil]); first | done | rfl | (simp only [List.length_drop, List.length_take]; rfl)) ?_; (with_reducible refine (impl_setCode.calls _ _ l0_0 _ _ l0_1 a1 t1159 _ ?side1 ?side2 ?side3 ?side4 A3.out).mono ?_); (case side1 => exact cb_ HR0_0.out HB.out); (case side2 => exact HC0_0.out); (case side3 => exact cb_ HR0_1.out HB.out); (case side4 => exact HC0_1.out); rintro e w39 ⟨rfl, hb⟩; refine ⟨_, rfl, ?_⟩; have n0_ := Aside0.mk (bb_ BK1157.out hb); have n1_ := Aside0.mk (bb_ BK1158.out hb); have n2_ := Aside0.mk (bs_ hb); clear BK1157; clear BK1158; clear HB; have BK1157 := n0_; have BK1158 := n1_; have HB := n2_; clear n0_ n1_ n2_; (try clear hb); (try clear hb2); (try clear hk); (try clear hi); have hcz40_0 : w39.cell? ⟨gb1158, 0, none⟩ = some (.int .i64 0) := (blk_cell BK1158.out 0).trans rfl; have hcz40_1 : w39.cell? ⟨gb1158, 1, none⟩ = some (.slice none 0 0) := (blk_cell BK1158.out 1).trans rfl; have hcz40_2 : w39.cell? ⟨gb1158, 2, none⟩ = some (.slice none 0 0) := (blk_cell BK1158.out 2).trans rfl; have hfz40_0 := blk_frozen BK1158.out 0; have hfz40_1 := blk_frozen BK1158.out 1; have hfz40_2 := blk_frozen BK1158.out 2))
  refine bodyPost_ret (results_ct rfl _ _ gb1158 86 #[.int .i64 0, .slice none 0 0, .slice none 0 0] (0, 0) _ rfl (by (with_reducible repeat (first | refine blk_drewN ?_ _ | refine blk_drew ?_ | refine blk_alloc ?_ _)); refine blk_put (cs := #[.int .i64 0, .slice none 0 0, .slice none 0 0]) ?_ 2 _ rfl; (with_reducible repeat (first | refine blk_drewN ?_ _ | refine blk_drew ?_ | refine blk_alloc ?_ _)); refine blk_put (cs := #[.int .i64 0, .slice none 0 0, .slice none 0 0]) ?_ 1 _ rfl; (with_reducible repeat (first | refine blk_drewN ?_ _ | refine blk_drew ?_ | refine blk_alloc ?_ _)); refine blk_put (cs := #[.int .i64 0, .slice none 0 0, .slice none 0 0]) ?_ 0 _ rfl; (with_reducible repeat (first | refine blk_drewN ?_ _ | refine blk_drew ?_ | refine blk_alloc ?_ _)); exact BK1158.out) Try.underlying86 rfl (by kernel_rfl)) rfl ?_
  exact ⟨_, _, by first | rfl | (simp [errW_none, errW_some] <;> rfl) | (simp [*, errW_none, errW_some] <;> rfl), by first | exact Kd.S_nil _ _ _ _ _ | exact Kd.N_nil _ _ _ _ _ | exact Kd.V_nil _ _ _ _ _ | exact Kd.Q_nil _ _ _ _ _ | exact Kd.R_nil _ _ _ _ _, by first | exact Kd.R_nil _ _ _ _ _ | exact Kd.N_nil _ _ _ _ _ | exact Kd.V_nil _ _ _ _ _ | exact Kd.Q_nil _ _ _ _ _ | exact Kd.S_nil _ _ _ _ _, hb_⟩
end Go.Proofs.Ytjjbhdpjnjncbaa.Pr
end
section
namespace Go.Proofs.Ytjjbhdpjnjncbaa.Pr
open Go.RowKit Go.Proofs.YtjjbhdpjnjncbaaW.PrintWords Go.Proofs.YtjjbhdpjnjncbaaW.PrintLast Go.Proofs.YtjjbhdpjnjncbaaW.PrintMore
theorem growNil (n : Nat) (w : World) (hn : n ≤ 1099511627776) :
  Calls Try.prog 169 #[.slice none 0 0, .int .i64 (n : Int)] w fun e w' => ∃ (A : Option Addr) (c : Nat), e = .returned (.slice A 0 c) ∧ Kd.R (Kd.int .i64) 2 w' w.heap.size (fun _ => True) (.slice A 0 c) [] ∧ Below w.heap.size w w' := by
 have h0 : ¬ (n : Int) < 0 := by omega
 have w2 : IntKind.i64.wrap (n : Int) = n := IntWalk.i64_in _ (by omega)
 have HN := Aside0.mk hn
 clear hn
 by_cases c : n = 0
 ·subst c
  go_enter Try.func169, Try.ntmps169
  go_wp2
  go_ret
  exact ⟨_, _, rfl, Kd.R_nil _ _ _ _ _, Below.refl _ _⟩
 ·have hp : (n : Int) > 0 := by omega
  go_enter Try.func169, Try.ntmps169
  go_wp2_with (first | ((with_reducible refine gate_dst (N := 22) rfl ?_); refine Kd.R_append_zeros (Kd.int .i64) (w0 := w) w.heap.size rfl (.tmp 20) (.tmp 21) 33 3 2 (.int .i64 0) 8 rfl Try.underlying33 Try.underlying3 info2 rfl (by decide) (by decide) (.slice none 0 0) [] 0 (n : Int) (fun _ => True) (by rfl) (by rfl) rfl (fun _ _ => trivial) (Kd.R_nil _ _ _ _ _) (by omega) (Below.refl _ _) (Nat.le_refl _) (by have := HN.out; simp; omega) ?_; intro v1 w1 ho hb hg_ hat_; clear hg_ hat_; obtain ⟨A1, c1, rfl⟩ := Kd.R_slice ho; rw [List.nil_append, Int.toNat_natCast] at ho; have HO := Aside0.mk ho; have HB := Aside0.mk hb; clear ho hb; simp only [List.nil_append, Int.toNat_natCast, List.length_replicate] at *))
  go_ret
  refine ⟨_, _, rfl, ?_, HB.out⟩
  have := Kd.R_take (m := 0) HO.out (Nat.zero_le _)
  simpa using this
theorem flat_succ (l : List (List Int)) (i : Nat) (h : i < l.length) : (l.take (i + 1)).flatten = (l.take i).flatten ++ l[i] := by
 rw [List.take_succ_eq_append_getElem h, List.flatten_append]; simp
theorem flat_le (l : List (List Int)) (i : Nat) : (l.take i).flatten.length ≤ l.flatten.length := by
 have : (l.take i ++ l.drop i).flatten.length = (l.take i).flatten.length + (l.drop i).flatten.length := by rw [List.flatten_append, List.length_append]
 rw [List.take_append_drop] at this
 omega
theorem concatRows (A : Option Addr) (c : Nat) (l : List (List Int)) (w : World) (hr : Kd.C (Kd.slice 2 (Kd.int .i64)) w A l.length l) (hl : l.length ≤ 1099511627776) (ht : l.flatten.length ≤ 1099511627776) :
  Calls Try.prog 146 #[.slice A l.length c] w fun e w' => ∃ v : Value, e = .returned v ∧ Kd.R (Kd.int .i64) 2 w' w.heap.size (fun _ => True) v l.flatten ∧ Below w.heap.size w w' := by
 have HR := Aside0.mk hr
 have HL := Aside0.mk hl
 have HT := Aside0.mk ht
 clear hr hl ht
 go_enter Try.func146, Try.ntmps146
 go_wp2
 go_loopg [3, 5, 11] l.length (fun gg v3 v5 v11 wr => ∃ i T : Nat, i ≤ l.length ∧ l.length - i ≤ gg ∧ v11 = .int .i64 (i : Int) ∧ v3 = .int .i64 (T : Int) ∧ Aside0 (T = (l.take i).flatten.length) ∧ Aside0 (Below w.heap.size w wr))
 case atStart => exact ⟨0, 0, Nat.zero_le _, by omega, rfl, rfl, ⟨by simp⟩, ⟨Below.refl _ _⟩⟩
 case round =>
  obtain ⟨i, T, hi, hg, rfl, rfl, HTI, HB⟩ := hrel
  by_cases hlt : i < l.length
  ·obtain ⟨ad, A', c', e, hx, hc', hi'⟩ := at_L1 HR.out i (by omega) (by omega)
   cases e
   rw [Int.toNat_natCast] at hx
   have hx' := (HB.out.cell (World.block_lt_of_cell? w _ hx)).trans hx
   clear hx hi' hc'
   rw [show rd_L1 l (i : Int) = l[i] from by simp [rd_L1, hlt]] at hx'
   have h1 := flat_succ l i hlt
   have h2 := flat_le l (i + 1)
   have h3 : (l.take (i + 1)).flatten.length = (l.take i).flatten.length + l[i].length := by rw [h1, List.length_append]
   have hTI := HTI.out
   have hw : IntKind.i64.wrap ((T : Int) + (l[i].length : Int)) = ((T + l[i].length : Nat) : Int) := by rw [IntWalk.i64_in _ (by have := HT.out; omega)]; omega
   have hnn : ¬ ((T + l[i].length : Nat) : Int) < 0 := by omega
   have HN := Aside0.mk (show T + l[i].length = (l.take (i + 1)).flatten.length by omega)
   have hltz : (i : Int) < (l.length : Int) := by omega
   have h0z : (0 : Int) ≤ (i : Int) := by omega
   have hi1 : IntKind.i64.wrap ((i : Int) + 1) = ((i + 1 : Nat) : Int) := by rw [IntWalk.i64_in _ (by have := HL.out; omega)]; rfl
   have HLT := Aside0.mk hlt
   have HG := Aside0.mk hg
   have HI1 := Aside0.mk hi1
   generalize hq : l[i] = q at hx' hw h1 h3 hnn HN
   clear hq h1 h2 h3 hlt hi hg hTI HTI
   generalize q.length = q at hx' hw hnn HN
   generalize T + q = T2 at hw hnn HN
   go_wp2
   go_roundg (l.length - (i + 1))
   case measure => have := HG.out; have := HLT.out; omega
   case rel => exact ⟨i + 1, T2, by have := HLT.out; omega, by omega, by first | rfl | (rw [HI1.out]) | (simp [HI1.out]), by rfl, HN, HB⟩
  ·have hltz : ¬ (i : Int) < (l.length : Int) := by omega
   obtain rfl : i = l.length := by omega
   rw [List.take_length] at HTI
   clear hi hg hlt
   go_wp2_with fail
   refine (growNil T wr (by rw [HTI.out]; exact HT.out)).mono ?_
   rintro e w1 ⟨A1, c1, rfl, hR, hb⟩
   have HO := Aside0.mk (Kd.R_lower hR HB.out.size)
   have n0_ := Aside0.mk (below_step HB.out hb)
   clear HB hR hb
   have HB := n0_
   clear n0_
   go_wp2
   go_loopg [6, 8, 27] l.length (fun gg v6 v8 v27 wr => ∃ i : Nat, i ≤ l.length ∧ l.length - i ≤ gg ∧ v27 = .int .i64 (i : Int) ∧ Aside0 (Kd.R (Kd.int .i64) 2 wr w.heap.size (fun _ => True) v6 (l.take i).flatten) ∧ Aside0 (Below w.heap.size w wr))
   case atStart => exact ⟨0, Nat.zero_le _, by omega, rfl, ⟨by simpa using HO.out⟩, HB⟩
   case round =>
    clear HO HB
    obtain ⟨i, hi, hg, rfl, HO, HB⟩ := hrel
    by_cases hlt : i < l.length
    ·obtain ⟨ad, A', c', e, hx, hc', hi'⟩ := at_L1 HR.out i (by omega) (by omega)
     cases e
     rw [Int.toNat_natCast] at hx
     have hx' := (HB.out.cell (World.block_lt_of_cell? w _ hx)).trans hx
     clear hx
     rw [show rd_L1 l (i : Int) = l[i] from by simp [rd_L1, hlt]] at hx' hc' hi'
     have h1 := flat_succ l i hlt
     have h2 := flat_le l (i + 1)
     have h3 : (l.take i).flatten.length + l[i].length ≤ 1099511627776 := by rw [h1, List.length_append] at h2; have := HT.out; omega
     have hltz : (i : Int) < (l.length : Int) := by omega
     have h0z : (0 : Int) ≤ (i : Int) := by omega
     have hi1 : IntKind.i64.wrap ((i : Int) + 1) = ((i + 1 : Nat) : Int) := by rw [IntWalk.i64_in _ (by have := HL.out; omega)]; rfl
     have HLT := Aside0.mk hlt
     have HG := Aside0.mk hg
     have HI1 := Aside0.mk hi1
     have H3 := Aside0.mk h3
     have HI := Aside0.mk (Kd.C_below hi' HB.out)
     have HF := Aside0.mk h1
     generalize hq : l[i] = q at hx' H3 HI HF h1 h3 hc' hi'
     clear hq h1 h2 h3 hlt hi hg hc' hi'
     generalize (l.take i).flatten = S at HO H3 HF
     obtain ⟨Ao, co, rfl⟩ := Kd.R_slice HO.out
     go_wp2_with (first | ((with_reducible refine gate_dst (N := 33) rfl ?_); (refine Kd.R_append_row (Value.int .i64) 0 (w0 := w) w.heap.size rfl (.tmp 31) (.tmp 32) 33 2 (.int .i64 0) 8 rfl Try.underlying33 info2 rfl (by decide) (.slice Ao S.length co) S q A' q.length c' (fun _ => True) (by rfl) (by rfl) (fun _ _ => trivial) HO.out HI.out HB.out HB.out.size (by have := H3.out; omega) ?_; intro v2 w2 ho hb hg_ hat_; clear hg_ hat_; have n0_ := Aside0.mk ho; have n1_ := Aside0.mk hb; clear ho hb HO HB HI; have HO := n0_; have HB := n1_; clear n0_ n1_)))
     go_roundg (l.length - (i + 1))
     case measure => have := HG.out; have := HLT.out; omega
     case rel => exact ⟨i + 1, by have := HLT.out; omega, by omega, by first | rfl | (rw [HI1.out]) | (simp [HI1.out]), ⟨by rw [HF.out]; exact HO.out⟩, HB⟩
    ·have hltz : ¬ (i : Int) < (l.length : Int) := by omega
     obtain rfl : i = l.length := by omega
     rw [List.take_length] at HO
     go_wp2
     go_ret
     exact ⟨_, rfl, HO.out, HB.out⟩
end Go.Proofs.Ytjjbhdpjnjncbaa.Pr
end
section
namespace Go.Proofs.Ytjjbhdpjnjncbaa.Pr
open Go.RowKit Go.Proofs.YtjjbhdpjnjncbaaW.PrintWords Go.Proofs.YtjjbhdpjnjncbaaW.PrintLast Go.Proofs.YtjjbhdpjnjncbaaW.PrintMore
def restP (d n : Int) : Bool := decide (Int.tmod n d ≠ 0)
theorem isWhole1 (gb : Nat) (d n : Int) (w : World) (hd : d ≠ 0) (hb : w.cell? ⟨gb, 0, none⟩ = some (.int .i64 d)) :
  Calls Try.prog 147 (#[.int .i64 n] ++ #[.pointer (some ⟨gb, 0, none⟩)]) w fun e w' => e = .returned (.bool (restP d n)) ∧ Below w.heap.size w w' := by
 show Calls Try.prog 147 #[.int .i64 n, .pointer (some ⟨gb, 0, none⟩)] w _
 have hd0 : (d == 0) = false := by simpa using hd
 go_enter Try.func147, Try.ntmps147
 go_wp2
 go_ret
 have e : (Int.tmod n d != 0) = restP d n := by unfold restP; rw [Bool.eq_iff_iff]; simp
 rw [← e]
 exact ⟨rfl, Below.refl _ _⟩
theorem isWhole1_enters : ∀ args w, (callFunc 147 args).run Try.prog w = .ok (.enter 147 args) w := enters_fn Try.func147 (by kernel_rfl) rfl
theorem C_two {w : World} {g : Nat} {A1 A2 : Option Addr} {c1 c2 : Nat} {x y : List Int} {t : Nat} (hb : w.heap[g]? = some (.cells #[.slice A1 x.length c1, .slice A2 y.length c2] t (0, 0))) (h1 : Kd.C (Kd.int .i64) w A1 x.length x) (l1 : x.length ≤ c1) (h2 : Kd.C (Kd.int .i64) w A2 y.length y) (l2 : y.length ≤ c2) :
  Kd.C (Kd.slice 2 (Kd.int .i64)) w (some ⟨g, 0, none⟩) [x, y].length [x, y] := by
 refine ⟨rfl, by simp, fun _ => ⟨_, rfl, fun j p hp => ?_⟩⟩
 have hj : j < 2 := by have := (List.getElem?_eq_some_iff.1 hp).1; simpa using this
 have h0 : (⟨g, 0, none⟩ : Addr).add (j * (Kd.slice 2 (Kd.int .i64)).sz + 0) = ⟨g, j, none⟩ := by
  show (⟨g, 0, none⟩ : Addr).add (j * 1 + 0) = _
  rw [Nat.mul_one, Nat.add_zero]; unfold Addr.add; split <;> simp_all
 match j, hj with
 | 0, _ =>
  cases hp
  refine ⟨[.slice A1 x.length c1], rfl, ⟨A1, c1, rfl, l1, h1⟩, fun u v hv => ?_⟩
  cases u with
  | zero => cases hv; rw [h0]; exact (blk_cell hb 0).trans rfl
  | succ u => simp at hv
 | 1, _ =>
  cases hp
  refine ⟨[.slice A2 y.length c2], rfl, ⟨A2, c2, rfl, l2, h2⟩, fun u v hv => ?_⟩
  cases u with
  | zero => cases hv; rw [h0]; exact (blk_cell hb 1).trans rfl
  | succ u => simp at hv
def impl_Pivot_isWhole.f (a0_0 : Int) (l0_1 : List (List Int)) (l0_2 : List Int) : Option Bool := if a0_0 ≠ 0 ∧ l0_1.length ≤ 1000000 ∧ l0_1.flatten.length ≤ 1000000 ∧ l0_2.length ≤ 1000000 then some (!((l0_1.flatten ++ l0_2).any (restP a0_0))) else none
theorem impl_Pivot_isWhole.calls (a0_0 : Int) (A0_1 : Option Addr) (c0_1 : Nat) (l0_1 : List (List Int)) (A0_2 : Option Addr) (c0_2 : Nat) (l0_2 : List Int) (r : Bool) (w : World) (hr0_1 : Kd.C (Kd.slice 2 (Kd.int .i64)) w A0_1 l0_1.length l0_1) (hc0_1 : l0_1.length ≤ c0_1) (hr0_2 : Kd.C (Kd.int .i64) w A0_2 l0_2.length l0_2) (hc0_2 : l0_2.length ≤ c0_2) (h : impl_Pivot_isWhole.f a0_0 l0_1 l0_2 = some r) :
  Calls Try.prog 112 #[.agg #[.int .i64 a0_0, .slice A0_1 l0_1.length c0_1, .slice A0_2 l0_2.length c0_2]] w fun e w' => e = .returned (.bool r) ∧ Below w.heap.size w w' := by
 unfold impl_Pivot_isWhole.f at h
 split at h
 case isFalse => cases h
 rename_i hq
 have HR1 := Aside0.mk hr0_1
 have HR2 := Aside0.mk hr0_2
 have HC2 := Aside0.mk hc0_2
 have HQ := Aside0.mk hq
 have HV := Aside0.mk (Option.some.inj h)
 have HB := Aside0.mk (Below.refl w.heap.size w)
 clear hr0_1 hc0_1 hr0_2 hc0_2 h hq
 go_enter Try.func112, Try.ntmps112
 go_wp2_with (first | ((with_reducible refine gate_dst (N := 1) rfl ?_); refine box_event ?hg (N := 1) ?hd (cs := #[.int .i64 a0_0, .slice A0_1 l0_1.length c0_1, .slice A0_2 l0_2.length c0_2]) (t := 86) ?hr ?_; (case hd => rfl); (case hg => rfl); (case hr => first | (go_simp; done) | (go_simp; rfl)); intro gb hg w6 hbox hb; have n0_ := Aside0.mk (bs_ hb); have BK := Aside0.mk hbox; clear HB; have HB := n0_; clear n0_ hb hbox hg))
 have n0_ := Aside0.mk (below_drew HB.out)
 have n1_ := Aside0.mk (blk_drew BK.out)
 clear HB BK
 have HB := n0_
 have BK := n1_
 clear n0_ n1_
 have c1 := cz_ BK 1
 have c2 := cz_ BK 2
 refine st_ (n := 11) (S := fun w' => w'.cell? ⟨gb, 1, none⟩ = some (.slice A0_1 l0_1.length c0_1) ∧ w'.cell? ⟨gb, 2, none⟩ = some (.slice A0_2 l0_2.length c0_2)) (ds := []) ⟨c1, c2⟩ (fun hHeld => ?_)
 generalize w6.drew = w9 at HB BK c1 c2 hHeld ⊢
 refine pu_ 0 3 ?_; refine pu_ 3 6 ?_; refine tk_ 1 4 ?_; refine tk_ 4 7 ?_; refine pu_ 7 10 ?_
 refine on_ 2 (some 5) (fun K hK => ?_)
 refine ca_ Try.func146 #[.slice A0_1 l0_1.length c0_1] ?_
 refine (concatRows A0_1 c0_1 l0_1 w9 (Kd.C_below HR1.out HB.out) (by have := HQ.out; omega) (by have := HQ.out; omega)).mono ?_
 rintro e w10 ⟨v, rfl, hR, hb⟩
 generalize l0_1.flatten = F at hR HV HQ
 obtain ⟨Av, cv, rfl⟩ := Kd.R_slice hR
 refine ⟨_, rfl, ?_⟩
 have n0_ := Aside0.mk (bs_ hb)
 have n1_ := Aside0.mk (blk_below BK.out hb)
 have HO := Aside0.mk (Kd.R_reads' hR)
 clear HB BK hb hR hHeld
 have HB := n0_
 have BK := n1_
 clear n0_ n1_
 refine hK.out _ _ ⟨cz_ BK 1, cz_ BK 2⟩ (fun hHeld => ?_)
 clear hK K
 refine no_ ?_
 refine on_ 5 (some 8) (fun K hK => ?_)
 refine va_ ?_
 have hb : Below w10.heap.size w10 (w10.alloc (.cells #[.slice Av F.length cv, .slice A0_2 l0_2.length c0_2] 33)) := below_alloc (Below.refl _ _) _
 have n0_ := Aside0.mk (bs_ hb)
 have n1_ := Aside0.mk (blk_below BK.out hb)
 have HTW : Aside0 (Kd.C (Kd.slice 2 (Kd.int .i64)) (w10.alloc (.cells #[.slice Av F.length cv, .slice A0_2 l0_2.length c0_2] 33)) (some ⟨w10.heap.size, 0, none⟩) [F, l0_2].length [F, l0_2]) := ⟨C_two (by unfold World.alloc; exact Array.getElem?_push_size) (Kd.C_below HO.out.2.2 hb) HO.out.2.1 (Kd.C_below HR2.out n0_.out) HC2.out⟩
 clear HB BK HO hb hHeld
 have HB := n0_
 have BK := n1_
 clear n0_ n1_
 generalize (w10.alloc (.cells #[.slice Av F.length cv, .slice A0_2 l0_2.length c0_2] 33)) = w11 at *
 generalize w10.heap.size = g2 at *
 refine hK.out _ _ ⟨cz_ BK 1, cz_ BK 2⟩ (fun hHeld => ?_)
 clear hK K
 refine no_ ?_
 refine on_ 6 (some 9) (fun K hK => ?_)
 refine ca_ Try.func146 #[.slice (some ⟨g2, 0, none⟩) 2 2] ?_
 refine (concatRows (some ⟨g2, 0, none⟩) 2 [F, l0_2] w11 HTW.out (by simp) (by have := HQ.out; simp only [List.flatten_cons, List.flatten_nil, List.append_nil, List.length_append]; omega)).mono ?_
 rintro e w12 ⟨v, rfl, hR, hb⟩
 rw [show [F, l0_2].flatten = F ++ l0_2 from by simp] at hR
 generalize F ++ l0_2 = L at hR HV
 obtain ⟨Ax, cx, rfl⟩ := Kd.R_slice hR
 refine ⟨_, rfl, ?_⟩
 have n0_ := Aside0.mk (bs_ hb)
 have n1_ := Aside0.mk (blk_below BK.out hb)
 have HO := Aside0.mk (Kd.R_reads' hR)
 clear HB BK hb hR hHeld HTW
 have HB := n0_
 have BK := n1_
 clear n0_ n1_
 refine hK.out _ _ ⟨cz_ BK 1, cz_ BK 2⟩ (fun hHeld => ?_)
 clear hK K
 refine no_ ?_
 refine on_ 8 (some 11) (fun K hK => ?_)
 refine ca_ Try.func91 #[.slice Ax L.length cx, .func (.func 147) #[] #[.pointer (some ⟨gb, 0, none⟩)]] ?_
 refine (containsFuncInts (restP a0_0) 147 #[.pointer (some ⟨gb, 0, none⟩)] isWhole1_enters Ax cx L w12 HO.out.2.2 (fun W' x _ hb => isWhole1 gb a0_0 x W' HQ.out.1 ((blk_cell (blk_below BK.out hb) 0).trans rfl))).mono ?_
 rintro e w13 ⟨rfl, hb⟩
 refine ⟨_, rfl, ?_⟩
 have n0_ := Aside0.mk (bs_ hb)
 have n1_ := Aside0.mk (blk_below BK.out hb)
 clear HB BK hb HO hHeld
 have HB := n0_
 have BK := n1_
 clear n0_ n1_
 refine hK.out _ _ ⟨cz_ BK 1, cz_ BK 2⟩ (fun hHeld => ?_)
 clear hK K
 refine no_ ?_
 refine pu_ 9 12 ?_; refine pu_ 10 2 ?_
 refine done_ (by kernel_rfl) ?_
 go_wp2
 go_ret
 exact ⟨by rw [← HV.out]; rfl, HB.out⟩
end Go.Proofs.Ytjjbhdpjnjncbaa.Pr
end
section
namespace Go.Proofs.Ytjjbhdpjnjncbaa.Pr
open Go.RowKit Go.Proofs.YtjjbhdpjnjncbaaW.PrintWords Go.Proofs.YtjjbhdpjnjncbaaW.PrintLast Go.Proofs.YtjjbhdpjnjncbaaW.PrintMore
attribute [local go_sem] max2_int min2_int max_two min_two max_three min_three max_four min_four
def impl_IsWholePivot.f (k : Nat) (l0_0 : List (List Int)) (l0_1 : List Int) (a1 : Int) : Option (Bool × Int) := (impl_pivotOf.f k l0_0 l0_1 a1).bind fun bt1247 => (if bt1247.2.2.2 = 0 then ((impl_Pivot_isWhole.f bt1247.1 bt1247.2.1 bt1247.2.2.1).bind fun t1256 => (some (t1256, bt1247.2.2.2))) else (some (false, bt1247.2.2.2)))
theorem impl_IsWholePivot.mono : ∀ a0 a1 a2 k, LeO (impl_IsWholePivot.f k a0 a1 a2) (impl_IsWholePivot.f (k + 1) a0 a1 a2) := by
 intro a0 a1 a2 k
 unfold impl_IsWholePivot.f
 repeat' first
   | (with_reducible exact impl_pivotOf.mono _ _ _ _)
   | (with_reducible exact LeO.refl _)
   | (with_reducible exact LeO.none _)
   | (with_reducible refine LeO.ite ?_ ?_)
   | (with_reducible refine LeO.bind ?_ (fun _ => ?_))
   | exact impl_pivotOf.mono _ _ _ _
   | exact LeO.none _
   | refine LeO.ite ?_ ?_
   | refine LeO.bind ?_ (fun _ => ?_)
theorem impl_IsWholePivot.calls (k : Nat) (A0_0 : Option Addr) (c0_0 : Nat) (l0_0 : List (List Int)) (A0_1 : Option Addr) (c0_1 : Nat) (l0_1 : List Int) (a1 : Int) (r1 : Bool) (r2 : Int) (w : World) (hr0_0 : Kd.C (Kd.slice 2 (Kd.int .i64)) w A0_0 l0_0.length l0_0) (hc0_0 : l0_0.length ≤ c0_0) (hr0_1 : Kd.C (Kd.int .i64) w A0_1 l0_1.length l0_1) (hc0_1 : l0_1.length ≤ c0_1) (h : impl_IsWholePivot.f k l0_0 l0_1 a1 = some (r1, r2)) :
  Calls Try.prog 58 #[.agg #[.slice A0_0 l0_0.length c0_0, .slice A0_1 l0_1.length c0_1], .int .i64 a1] w fun e w' => e = .returned (.tuple #[.bool r1, .int .i64 r2]) ∧ Below w.heap.size w w' := by
 have hu56 := Try.underlying56
 have hu86 := Try.underlying86
 have HR0_0 := Aside0.mk hr0_0
 have HC0_0 := Aside0.mk hc0_0
 clear hr0_0 hc0_0
 have HR0_1 := Aside0.mk hr0_1
 have HC0_1 := Aside0.mk hc0_1
 clear hr0_1 hc0_1
 have HB := Aside0.mk (Below.refl w.heap.size w)
 have H : ((impl_pivotOf.f k l0_0 l0_1 a1).bind fun bt1247 => (if bt1247.2.2.2 = 0 then ((impl_Pivot_isWhole.f bt1247.1 bt1247.2.1 bt1247.2.2.1).bind fun t1256 => (some (t1256, bt1247.2.2.2))) else (some (false, bt1247.2.2.2)))) = some (r1, r2) := h
 clear h
 replace H := Option.bind_eq_some_iff.mp H
 obtain ⟨⟨t1247, t1248, t1251, t1254⟩, A30, H⟩ := H
 replace H : (if t1254 = 0 then ((impl_Pivot_isWhole.f t1247 t1248 t1251).bind fun t1256 => (some (t1256, t1254))) else (some (false, t1254))) = some (r1, r2) := H
 have A3 := Aside0.mk A30
 clear A30
 by_cases c4 : t1254 = 0
 ·rw [if_pos c4] at H
  have c4b0 : (t1254 == 0) = true := beq_iff_eq.mpr c4
  have c4b1 : (t1254 != 0) = false := bne_eq_false_iff_eq.mpr c4
  clear c4
  replace H := Option.bind_eq_some_iff.mp H
  obtain ⟨t1256, A50, H⟩ := H
  replace H : (some (t1256, t1254)) = some (r1, r2) := H
  have A5 := Aside0.mk A50
  clear A50
  simp only [Option.some.injEq, Prod.mk.injEq] at H
  obtain ⟨rfl, rfl⟩ := H
  go_enter Try.func58, Try.ntmps58
  go_wp2_with (first | ((with_reducible refine gate_dst (N := 2) rfl ?_); refine box_event ?hg (N := 2) ?hd (cs := #[.slice A0_0 l0_0.length c0_0, .slice A0_1 l0_1.length c0_1]) (t := 56) ?hr ?_; (case hd => rfl); (case hg => rfl); (case hr => first | (go_simp; done) | (go_simp; rfl)); intro gb1246 hg w6 hbox hb; have n0_ := Aside0.mk (bs_ hb); have n1_ := Aside0.mk (hbox); have n2_ := Aside0.mk ((by rw [hg]; exact bz_ : w.heap.size ≤ gb1246)); have n3_ := Aside0.mk ((by rw [hg]; exact bz_ : w.heap.size ≤ gb1246)); clear HB; have HB := n0_; have BK1246 := n1_; have GW1246 := n2_; have GE1246 := n3_; clear n0_ n1_ n2_ n3_; clear hb hbox hg; have hcz7_0 : w6.cell? ⟨gb1246, 0, none⟩ = some (.slice A0_0 l0_0.length c0_0) := (blk_cell BK1246.out 0).trans rfl; have hcz7_1 : w6.cell? ⟨gb1246, 1, none⟩ = some (.slice A0_1 l0_1.length c0_1) := (blk_cell BK1246.out 1).trans rfl; have hfz7_0 := blk_frozen BK1246.out 0; have hfz7_1 := blk_frozen BK1246.out 1) | ((with_reducible refine gate_callee (f := 109) rfl ?_); refine goesL_ (some 11) rfl rfl Try.func109 (by kernel_rfl) rfl #[.agg #[.slice A0_0 l0_0.length c0_0, .slice A0_1 l0_1.length c0_1], .int .i64 a1] rfl (by (try simp only [List.map_toArray, List.map_cons, List.map_nil]); first | done | rfl | (simp only [List.length_drop, List.length_take]; rfl)) ?_; (with_reducible refine (impl_pivotOf.calls k _ _ l0_0 _ _ l0_1 a1 t1247 t1248 t1251 t1254 _ ?side1 ?side2 ?side3 ?side4 A3.out).mono ?_); (case side1 => exact cb_ HR0_0.out HB.out); (case side2 => exact HC0_0.out); (case side3 => exact cb_ HR0_1.out HB.out); (case side4 => exact HC0_1.out); rintro e w8 ⟨v1249, v1252, rfl, ho0, ho1, hb⟩; refine ⟨_, rfl, ?_⟩; have n0_ := Aside0.mk (Kd.S_lower ho0 bz_); have n1_ := Aside0.mk (Kd.R_lower ho1 bz_); have n2_ := Aside0.mk (bb_ BK1246.out hb); have n3_ := Aside0.mk (bs_ hb); clear BK1246; clear HB; have HO1250 := n0_; have HO1253 := n1_; have BK1246 := n2_; have HB := n3_; clear n0_ n1_ n2_ n3_; (try clear hb); (try clear hb2); (try clear hk); (try clear hi); (try clear ho0); (try clear ho1)) | ((with_reducible refine gate_dst (N := 6) rfl ?_); refine box_event ?hg (N := 6) ?hd (cs := #[.int .i64 0, .slice none 0 0, .slice none 0 0]) (t := 86) ?hr ?_; (case hd => rfl); (case hg => rfl); (case hr => first | (go_simp; done) | (go_simp; rfl)); intro gb1255 hg w9 hbox hb; have n0_ := Aside0.mk (Kd.S_below (so_ HO1250.out) hb); have n1_ := Aside0.mk (rb_ HO1253.out hb); have n2_ := Aside0.mk (bb_ BK1246.out hb); have n3_ := Aside0.mk (bs_ hb); have n4_ := Aside0.mk (hbox); have n5_ := Aside0.mk ((by rw [hg]; exact bz_ : w.heap.size ≤ gb1255)); have n6_ := Aside0.mk ((by rw [hg]; exact bz_ : w.heap.size ≤ gb1255)); have n7_ := Aside0.mk ((by rw [hg]; exact lt_ BK1246.out : gb1246 ≠ gb1255)); have n8_ := Aside0.mk ((by rw [hg]; exact gt_ BK1246.out : gb1255 ≠ gb1246)); clear HO1250; clear HO1253; clear BK1246; clear HB; have HO1250 := n0_; have HO1253 := n1_; have BK1246 := n2_; have HB := n3_; have BK1255 := n4_; have GW1255 := n5_; have GE1255 := n6_; have NB1246_1255 := n7_; have NB1255_1246 := n8_; clear n0_ n1_ n2_ n3_ n4_ n5_ n6_ n7_ n8_; clear hb hbox hg; have hnb10 := NB1255_1246.out; have hnc10 := NB1246_1255.out; have hcz11_0 : w9.cell? ⟨gb1255, 0, none⟩ = some (.int .i64 0) := (blk_cell BK1255.out 0).trans rfl; have hcz11_1 : w9.cell? ⟨gb1255, 1, none⟩ = some (.slice none 0 0) := (blk_cell BK1255.out 1).trans rfl; have hcz11_2 : w9.cell? ⟨gb1255, 2, none⟩ = some (.slice none 0 0) := (blk_cell BK1255.out 2).trans rfl; have hfz11_0 := blk_frozen BK1255.out 0; have hfz11_1 := blk_frozen BK1255.out 1; have hfz11_2 := blk_frozen BK1255.out 2; obtain ⟨Ao12, co12, eo12⟩ := Kd.S_slice HO1250.out; subst eo12; obtain ⟨Ao13, co13, eo13⟩ := Kd.R_slice HO1253.out; subst eo13) | (go_at_call 112; (with_reducible refine (impl_Pivot_isWhole.calls t1247 _ _ t1248 _ _ t1251 t1256 _ ?side1 ?side2 ?side3 ?side4 A5.out).mono ?_); (case side1 => refine (Kd.S_reads' (e := 33) (base := w.heap.size) (ok := fun k_ => some k_ ≠ (.slice Ao13 t1251.length co13 : Value).ownBlock) (n := t1248.length) (c := co12) ?_).2.2; exact (by (with_reducible repeat (first | apply Kd.S_alloc | apply Kd.S_drewN | apply Kd.S_drew)); exact (Kd.S_mono (Kd.S_far (p := ⟨gb1255, 2, none⟩) (Kd.S_far (p := ⟨gb1255, 1, none⟩) (Kd.S_far (p := ⟨gb1255, 0, none⟩) (Kd.S_types HO1250.out BK1255.out (by decide)) (fun _ hk => hk.2) (.int .i64 t1247)) (fun _ hk => hk.2) (.slice Ao12 t1248.length co12)) (fun _ hk => hk.2) (.slice Ao13 t1251.length co13)) (fun _ h_ => h_.1)))); (case side2 => exact (Kd.S_reads' HO1250.out).2.1); (case side3 => refine (Kd.R_reads' (e := 2) (base := w.heap.size) (ok := fun k_ => True) (n := t1251.length) (c := co13) ?_).2.2; exact (by (with_reducible repeat (first | apply Kd.R_alloc | apply Kd.R_drewN | apply Kd.R_drew)); exact (Kd.R_mono (Kd.R_far (p := ⟨gb1255, 2, none⟩) (Kd.R_far (p := ⟨gb1255, 1, none⟩) (Kd.R_far (p := ⟨gb1255, 0, none⟩) (Kd.R_types HO1253.out BK1255.out (by decide)) (fun _ hk => hk.2) (.int .i64 t1247)) (fun _ hk => hk.2) (.slice Ao12 t1248.length co12)) (fun _ hk => hk.2) (.slice Ao13 t1251.length co13)) (fun _ h_ => h_.1)))); (case side4 => exact (Kd.R_reads' HO1253.out).2.1); rintro e w14 ⟨rfl, hb⟩; have n0_ := Aside0.mk (Kd.S_below (by (with_reducible repeat (first | apply Kd.S_alloc | apply Kd.S_drewN | apply Kd.S_drew)); exact (Kd.S_mono (Kd.S_far (p := ⟨gb1255, 2, none⟩) (Kd.S_far (p := ⟨gb1255, 1, none⟩) (Kd.S_far (p := ⟨gb1255, 0, none⟩) (Kd.S_types HO1250.out BK1255.out (by decide)) (fun _ hk => hk.2) (.int .i64 t1247)) (fun _ hk => hk.2) (.slice Ao12 t1248.length co12)) (fun _ hk => hk.2) (.slice Ao13 t1251.length co13)) (fun _ h_ => h_.1))) hb); have n1_ := Aside0.mk (Kd.R_below (by (with_reducible repeat (first | apply Kd.R_alloc | apply Kd.R_drewN | apply Kd.R_drew)); exact (Kd.R_mono (Kd.R_far (p := ⟨gb1255, 2, none⟩) (Kd.R_far (p := ⟨gb1255, 1, none⟩) (Kd.R_far (p := ⟨gb1255, 0, none⟩) (Kd.R_types HO1253.out BK1255.out (by decide)) (fun _ hk => hk.2) (.int .i64 t1247)) (fun _ hk => hk.2) (.slice Ao12 t1248.length co12)) (fun _ hk => hk.2) (.slice Ao13 t1251.length co13)) (fun _ h_ => h_.1))) hb); have n2_ := Aside0.mk (blk_below (g := gb1246) (o := .cells #[.slice A0_0 l0_0.length c0_0, .slice A0_1 l0_1.length c0_1] 56 (0, 0)) (by (with_reducible repeat (first | refine blk_drewN ?_ _ | refine blk_drew ?_ | refine blk_alloc ?_ _)); refine blk_far ?_ NB1246_1255.out _; (with_reducible repeat (first | refine blk_drewN ?_ _ | refine blk_drew ?_ | refine blk_alloc ?_ _)); refine blk_far ?_ NB1246_1255.out _; (with_reducible repeat (first | refine blk_drewN ?_ _ | refine blk_drew ?_ | refine blk_alloc ?_ _)); refine blk_far ?_ NB1246_1255.out _; (with_reducible repeat (first | refine blk_drewN ?_ _ | refine blk_drew ?_ | refine blk_alloc ?_ _)); exact BK1246.out) hb); have n3_ := Aside0.mk (blk_below (g := gb1255) (o := .cells #[.int .i64 t1247, .slice Ao12 t1248.length co12, .slice Ao13 t1251.length co13] 86 (0, 0)) (by (with_reducible repeat (first | refine blk_drewN ?_ _ | refine blk_drew ?_ | refine blk_alloc ?_ _)); refine blk_put (cs := #[.int .i64 t1247, .slice Ao12 t1248.length co12, .slice none 0 0]) ?_ 2 _ rfl; (with_reducible repeat (first | refine blk_drewN ?_ _ | refine blk_drew ?_ | refine blk_alloc ?_ _)); refine blk_put (cs := #[.int .i64 t1247, .slice none 0 0, .slice none 0 0]) ?_ 1 _ rfl; (with_reducible repeat (first | refine blk_drewN ?_ _ | refine blk_drew ?_ | refine blk_alloc ?_ _)); refine blk_put (cs := #[.int .i64 0, .slice none 0 0, .slice none 0 0]) ?_ 0 _ rfl; (with_reducible repeat (first | refine blk_drewN ?_ _ | refine blk_drew ?_ | refine blk_alloc ?_ _)); exact BK1255.out) hb); have n4_ := Aside0.mk (bs_ hb); clear HO1250; clear HO1253; clear BK1246; clear BK1255; clear HB; have HO1250 := n0_; have HO1253 := n1_; have BK1246 := n2_; have BK1255 := n3_; have HB := n4_; clear n0_ n1_ n2_ n3_ n4_; (try clear hb); (try clear hb2); (try clear hk); (try clear hi)))
  go_ret2
  exact ⟨by first | rfl | (simp [errW_none, errW_some] <;> rfl) | (simp [*, errW_none, errW_some] <;> rfl), hb_⟩
 ·rw [if_neg c4] at H
  have c4b0 : (t1254 == 0) = false := beq_eq_false_iff_ne.mpr c4
  have c4b1 : (t1254 != 0) = true := bne_iff_ne.mpr c4
  simp only [Option.some.injEq, Prod.mk.injEq] at H
  obtain ⟨rfl, rfl⟩ := H
  go_enter Try.func58, Try.ntmps58
  go_wp2_with (first | ((with_reducible refine gate_dst (N := 2) rfl ?_); refine box_event ?hg (N := 2) ?hd (cs := #[.slice A0_0 l0_0.length c0_0, .slice A0_1 l0_1.length c0_1]) (t := 56) ?hr ?_; (case hd => rfl); (case hg => rfl); (case hr => first | (go_simp; done) | (go_simp; rfl)); intro gb1246 hg w15 hbox hb; have n0_ := Aside0.mk (bs_ hb); have n1_ := Aside0.mk (hbox); have n2_ := Aside0.mk ((by rw [hg]; exact bz_ : w.heap.size ≤ gb1246)); have n3_ := Aside0.mk ((by rw [hg]; exact bz_ : w.heap.size ≤ gb1246)); clear HB; have HB := n0_; have BK1246 := n1_; have GW1246 := n2_; have GE1246 := n3_; clear n0_ n1_ n2_ n3_; clear hb hbox hg; have hcz16_0 : w15.cell? ⟨gb1246, 0, none⟩ = some (.slice A0_0 l0_0.length c0_0) := (blk_cell BK1246.out 0).trans rfl; have hcz16_1 : w15.cell? ⟨gb1246, 1, none⟩ = some (.slice A0_1 l0_1.length c0_1) := (blk_cell BK1246.out 1).trans rfl; have hfz16_0 := blk_frozen BK1246.out 0; have hfz16_1 := blk_frozen BK1246.out 1) | ((with_reducible refine gate_callee (f := 109) rfl ?_); refine goesL_ (some 11) rfl rfl Try.func109 (by kernel_rfl) rfl #[.agg #[.slice A0_0 l0_0.length c0_0, .slice A0_1 l0_1.length c0_1], .int .i64 a1] rfl (by (try simp only [List.map_toArray, List.map_cons, List.map_nil]); first | done | rfl | (simp only [List.length_drop, List.length_take]; rfl)) ?_; (with_reducible refine (impl_pivotOf.calls k _ _ l0_0 _ _ l0_1 a1 t1247 t1248 t1251 t1254 _ ?side1 ?side2 ?side3 ?side4 A3.out).mono ?_); (case side1 => exact cb_ HR0_0.out HB.out); (case side2 => exact HC0_0.out); (case side3 => exact cb_ HR0_1.out HB.out); (case side4 => exact HC0_1.out); rintro e w17 ⟨v1249, v1252, rfl, ho0, ho1, hb⟩; refine ⟨_, rfl, ?_⟩; have n0_ := Aside0.mk (Kd.S_lower ho0 bz_); have n1_ := Aside0.mk (Kd.R_lower ho1 bz_); have n2_ := Aside0.mk (bb_ BK1246.out hb); have n3_ := Aside0.mk (bs_ hb); clear BK1246; clear HB; have HO1250 := n0_; have HO1253 := n1_; have BK1246 := n2_; have HB := n3_; clear n0_ n1_ n2_ n3_; (try clear hb); (try clear hb2); (try clear hk); (try clear hi); (try clear ho0); (try clear ho1)) | ((with_reducible refine gate_dst (N := 6) rfl ?_); refine box_event ?hg (N := 6) ?hd (cs := #[.int .i64 0, .slice none 0 0, .slice none 0 0]) (t := 86) ?hr ?_; (case hd => rfl); (case hg => rfl); (case hr => first | (go_simp; done) | (go_simp; rfl)); intro gb1255 hg w18 hbox hb; have n0_ := Aside0.mk (Kd.S_below (so_ HO1250.out) hb); have n1_ := Aside0.mk (rb_ HO1253.out hb); have n2_ := Aside0.mk (bb_ BK1246.out hb); have n3_ := Aside0.mk (bs_ hb); have n4_ := Aside0.mk (hbox); have n5_ := Aside0.mk ((by rw [hg]; exact bz_ : w.heap.size ≤ gb1255)); have n6_ := Aside0.mk ((by rw [hg]; exact bz_ : w.heap.size ≤ gb1255)); have n7_ := Aside0.mk ((by rw [hg]; exact lt_ BK1246.out : gb1246 ≠ gb1255)); have n8_ := Aside0.mk ((by rw [hg]; exact gt_ BK1246.out : gb1255 ≠ gb1246)); clear HO1250; clear HO1253; clear BK1246; clear HB; have HO1250 := n0_; have HO1253 := n1_; have BK1246 := n2_; have HB := n3_; have BK1255 := n4_; have GW1255 := n5_; have GE1255 := n6_; have NB1246_1255 := n7_; have NB1255_1246 := n8_; clear n0_ n1_ n2_ n3_ n4_ n5_ n6_ n7_ n8_; clear hb hbox hg; have hnb19 := NB1255_1246.out; have hnc19 := NB1246_1255.out; have hcz20_0 : w18.cell? ⟨gb1255, 0, none⟩ = some (.int .i64 0) := (blk_cell BK1255.out 0).trans rfl; have hcz20_1 : w18.cell? ⟨gb1255, 1, none⟩ = some (.slice none 0 0) := (blk_cell BK1255.out 1).trans rfl; have hcz20_2 : w18.cell? ⟨gb1255, 2, none⟩ = some (.slice none 0 0) := (blk_cell BK1255.out 2).trans rfl; have hfz20_0 := blk_frozen BK1255.out 0; have hfz20_1 := blk_frozen BK1255.out 1; have hfz20_2 := blk_frozen BK1255.out 2; obtain ⟨Ao21, co21, eo21⟩ := Kd.S_slice HO1250.out; subst eo21; obtain ⟨Ao22, co22, eo22⟩ := Kd.R_slice HO1253.out; subst eo22))
  go_ret2
  exact ⟨by first | rfl | (simp [errW_none, errW_some] <;> rfl) | (simp [*, errW_none, errW_some] <;> rfl), hb_⟩
end Go.Proofs.Ytjjbhdpjnjncbaa.Pr
end
section
namespace Go.Proofs.Ytjjbhdpjnjncbaa.Pr
open Go.RowKit Go.Proofs.YtjjbhdpjnjncbaaW.PrintWords Go.Proofs.YtjjbhdpjnjncbaaW.PrintLast Go.Proofs.YtjjbhdpjnjncbaaW.PrintMore Go.Proofs.Ytjjbhdpjnjncbaa.La Go.Proofs.Ytjjbhdpjnjncbaa.Hm Go.Proofs.Ytjjbhdpjnjncbaa.Lw
theorem laws_FnExactIsWholePivot.walk (k : Nat) (A0_0 : Option Addr) (c0_0 : Nat) (l0_0 : List (List Int)) (A0_1 : Option Addr) (c0_1 : Nat) (l0_1 : List Int) (a1 : Int) (t13 : Int) (s0 : Bool) (s1 : Int) (w : World) (hr0_0 : Kd.C (Kd.slice 2 (Kd.int .i64)) w A0_0 l0_0.length l0_0) (hc0_0 : l0_0.length ≤ c0_0) (hr0_1 : Kd.C (Kd.int .i64) w A0_1 l0_1.length l0_1) (hc0_1 : l0_1.length ≤ c0_1) (h1 : laws_szProblem.f k l0_0 l0_1 1048576 = some t13) (h2 : ¬ t13 < 0) (h3 : laws_toProblem.f k l0_0 l0_1 = some (l0_0, l0_1)) (h4 : spec_IsWholePivot.f k l0_0 l0_1 a1 = some (s0, s1)) (h5 : impl_IsWholePivot.f k l0_0 l0_1 a1 = some (s0, s1)) (h6 : laws_eqProblem.f k l0_0 l0_1 l0_0 l0_1 = some true) :
  Calls Try.prog 12 #[.agg #[.slice A0_0 l0_0.length c0_0, .slice A0_1 l0_1.length c0_1], .int .i64 a1] w fun e w' => e = .returned (.bool true) ∧ Below w.heap.size w w' := by
 have HR0_0 := Aside0.mk hr0_0
 have HC0_0 := Aside0.mk hc0_0
 clear hr0_0 hc0_0
 have HR0_1 := Aside0.mk hr0_1
 have HC0_1 := Aside0.mk hc0_1
 clear hr0_1 hc0_1
 have HB := Aside0.mk (Below.refl w.heap.size w)
 have H1' := Aside0.mk h1
 clear h1
 have H3' := Aside0.mk h3
 clear h3
 have H4' := Aside0.mk h4
 clear h4
 have H5' := Aside0.mk h5
 clear h5
 have H6' := Aside0.mk h6
 clear h6
 go_enter Try.func12, Try.ntmps12
 go_wp2_with (first | ((with_reducible refine gate_dst (N := 2) rfl ?_); refine box_event ?hg (N := 2) ?hd (cs := #[.slice A0_0 l0_0.length c0_0, .slice A0_1 l0_1.length c0_1]) (t := 52) ?hr ?_; (case hd => rfl); (case hg => rfl); (case hr => first | (go_simp; done) | (go_simp; rfl)); intro g2 hg w1 hbox hb; have Gg2 : Aside0 (g2 = w.heap.size) := ⟨hg⟩; have Kg2 := Aside0.mk (blk_lt hbox); clear hg; have n_HB := Aside0.mk (below_step HB.out hb); have NN1 : Aside0 (w.heap.size ≤ w1.heap.size) := ⟨hb.size⟩; clear HB; have HB := n_HB; clear n_HB; have Bg2 := Aside0.mk hbox; clear hb hbox; have hc2_0 : w1.cell? ⟨g2, 0, none⟩ = some (.slice A0_0 l0_0.length c0_0) := (blk_cell Bg2.out 0).trans rfl; have hf2_0 := blk_frozen Bg2.out 0; have hc2_1 : w1.cell? ⟨g2, 1, none⟩ = some (.slice A0_1 l0_1.length c0_1) := (blk_cell Bg2.out 1).trans rfl; have hf2_1 := blk_frozen Bg2.out 1) | ((with_reducible refine gate_callee (f := 37) rfl ?_); refine goesL_ (some 13) rfl rfl Try.func37 (by kernel_rfl) rfl #[.agg #[.slice A0_0 l0_0.length c0_0, .slice A0_1 l0_1.length c0_1], .int .i64 1048576] rfl (by (try simp only [List.map_toArray, List.map_cons, List.map_nil]); first | done | rfl) ?_; refine (laws_szProblem.calls k _ _ l0_0 _ _ l0_1 1048576 t13 _ ?s1 ?s2 ?s3 ?s4 H1'.out).mono ?_; (case s1 => exact Kd.C_below HR0_0.out HB.out); (case s2 => exact HC0_0.out); (case s3 => exact Kd.C_below HR0_1.out HB.out); (case s4 => exact HC0_1.out); rintro e w2 ⟨rfl, hb⟩; refine ⟨_, rfl, ?_⟩; have n_Bg2 := Aside0.mk (blk_below Bg2.out hb); have n_HB := Aside0.mk (below_step HB.out hb); have NN2 : Aside0 (w1.heap.size ≤ w2.heap.size) := ⟨hb.size⟩; clear hc2_0 hf2_0; clear hc2_1 hf2_1; clear Bg2 HB; have Bg2 := n_Bg2; have HB := n_HB; clear n_Bg2 n_HB; clear hb; have hc2_0 : w2.cell? ⟨g2, 0, none⟩ = some (.slice A0_0 l0_0.length c0_0) := (blk_cell Bg2.out 0).trans rfl; have hf2_0 := blk_frozen Bg2.out 0; have hc2_1 : w2.cell? ⟨g2, 1, none⟩ = some (.slice A0_1 l0_1.length c0_1) := (blk_cell Bg2.out 1).trans rfl; have hf2_1 := blk_frozen Bg2.out 1) | ((with_reducible refine gate_callee (f := 39) rfl ?_); refine goesL_ (some 18) rfl rfl Try.func39 (by kernel_rfl) rfl #[.agg #[.slice A0_0 l0_0.length c0_0, .slice A0_1 l0_1.length c0_1]] rfl (by (try simp only [List.map_toArray, List.map_cons, List.map_nil]); first | done | rfl) ?_; refine (laws_toProblem.calls k _ _ l0_0 _ _ l0_1 l0_0 l0_1 _ ?s1 ?s2 ?s3 ?s4 H3'.out).mono ?_; (case s1 => exact Kd.C_below HR0_0.out HB.out); (case s2 => exact HC0_0.out); (case s3 => exact Kd.C_below HR0_1.out HB.out); (case s4 => exact HC0_1.out); rintro e w3 ⟨v18_0, v18_1, rfl, ho0, ho1, hb⟩; refine ⟨_, rfl, ?_⟩; have nu0 := Aside0.mk (UP.of ho0 ho1 HB.out.size); have n_Bg2 := Aside0.mk (blk_below Bg2.out hb); have n_HB := Aside0.mk (below_step HB.out hb); have NN3 : Aside0 (w2.heap.size ≤ w3.heap.size) := ⟨hb.size⟩; clear hc2_0 hf2_0; clear hc2_1 hf2_1; clear Bg2 HB; have Bg2 := n_Bg2; have HB := n_HB; clear n_Bg2 n_HB; clear hb ho0 ho1; have U18 := nu0; clear nu0; obtain ⟨A18_0, c18_0, A18_1, c18_1, e0, e1⟩ := U18.out.slices; subst e0; subst e1) | ((with_reducible refine gate_callee (f := 57) rfl ?_); refine goesL_ (some 20) rfl rfl Try.func57 (by kernel_rfl) rfl #[.agg #[.slice A18_0 l0_0.length c18_0, .slice A18_1 l0_1.length c18_1], .int .i64 a1] rfl (by (try simp only [List.map_toArray, List.map_cons, List.map_nil]); first | done | rfl) ?_; refine (spec_IsWholePivot.calls k _ _ l0_0 _ _ l0_1 a1 s0 s1 _ ?s1 ?s2 ?s3 ?s4 H4'.out).mono ?_; (case s1 => exact U18.out.C0); (case s2 => exact U18.out.cap0); (case s3 => exact U18.out.C1); (case s4 => exact U18.out.cap1); rintro e w4 ⟨rfl, hb⟩; refine ⟨_, rfl, ?_⟩; have n_U18 := Aside0.mk (U18.out.mvB (Frm.below hb)); have n_Bg2 := Aside0.mk (blk_below Bg2.out hb); have n_HB := Aside0.mk (below_step HB.out hb); have NN4 : Aside0 (w3.heap.size ≤ w4.heap.size) := ⟨hb.size⟩; clear U18 Bg2 HB; have U18 := n_U18; have Bg2 := n_Bg2; have HB := n_HB; clear n_U18 n_Bg2 n_HB; clear hb; have hc2_0 : w4.cell? ⟨g2, 0, none⟩ = some (.slice A0_0 l0_0.length c0_0) := (blk_cell Bg2.out 0).trans rfl; have hf2_0 := blk_frozen Bg2.out 0; have hc2_1 : w4.cell? ⟨g2, 1, none⟩ = some (.slice A0_1 l0_1.length c0_1) := (blk_cell Bg2.out 1).trans rfl; have hf2_1 := blk_frozen Bg2.out 1) | ((with_reducible refine gate_callee (f := 39) rfl ?_); refine goesL_ (some 24) rfl rfl Try.func39 (by kernel_rfl) rfl #[.agg #[.slice A0_0 l0_0.length c0_0, .slice A0_1 l0_1.length c0_1]] rfl (by (try simp only [List.map_toArray, List.map_cons, List.map_nil]); first | done | rfl) ?_; refine (laws_toProblem.calls k _ _ l0_0 _ _ l0_1 l0_0 l0_1 _ ?s1 ?s2 ?s3 ?s4 H3'.out).mono ?_; (case s1 => exact Kd.C_below HR0_0.out HB.out); (case s2 => exact HC0_0.out); (case s3 => exact Kd.C_below HR0_1.out HB.out); (case s4 => exact HC0_1.out); rintro e w5 ⟨v24_0, v24_1, rfl, ho0, ho1, hb⟩; refine ⟨_, rfl, ?_⟩; have nu0 := Aside0.mk (UP.of ho0 ho1 HB.out.size); have n_U18 := Aside0.mk (U18.out.mvB (Frm.below hb)); have n_Bg2 := Aside0.mk (blk_below Bg2.out hb); have n_HB := Aside0.mk (below_step HB.out hb); have NN5 : Aside0 (w4.heap.size ≤ w5.heap.size) := ⟨hb.size⟩; clear hc2_0 hf2_0; clear hc2_1 hf2_1; clear U18 Bg2 HB; have U18 := n_U18; have Bg2 := n_Bg2; have HB := n_HB; clear n_U18 n_Bg2 n_HB; clear hb ho0 ho1; have U24 := nu0; clear nu0; obtain ⟨A24_0, c24_0, A24_1, c24_1, e0, e1⟩ := U24.out.slices; subst e0; subst e1) | ((with_reducible refine gate_dst (N := 8) rfl ?_); refine box_event ?hg (N := 8) ?hd (cs := #[.slice none 0 0, .slice none 0 0]) (t := 56) ?hr ?_; (case hd => rfl); (case hg => rfl); (case hr => first | (go_simp; done) | (go_simp; rfl)); intro g8 hg w6 hbox hb; have Gg8 : Aside0 (g8 = w5.heap.size) := ⟨hg⟩; have Kg8 := Aside0.mk (blk_lt hbox); clear hg; have n_U18 := Aside0.mk (U18.out.mvB (Frm.below hb)); have n_U24 := Aside0.mk (U24.out.mvB (Frm.below hb)); have n_Bg2 := Aside0.mk (blk_below Bg2.out hb); have n_HB := Aside0.mk (below_step HB.out hb); have NN6 : Aside0 (w5.heap.size ≤ w6.heap.size) := ⟨hb.size⟩; clear U18 U24 Bg2 HB; have U18 := n_U18; have U24 := n_U24; have Bg2 := n_Bg2; have HB := n_HB; clear n_U18 n_U24 n_Bg2 n_HB; have Bg8 := Aside0.mk hbox; clear hb hbox; have hc8_0 : w6.cell? ⟨g8, 0, none⟩ = some (.slice none 0 0) := (blk_cell Bg8.out 0).trans rfl; have hf8_0 := blk_frozen Bg8.out 0; have hc8_1 : w6.cell? ⟨g8, 1, none⟩ = some (.slice none 0 0) := (blk_cell Bg8.out 1).trans rfl; have hf8_1 := blk_frozen Bg8.out 1) | ((with_reducible refine gate_store (t := 56) (p := 8) rfl ?_); refine store_event (t := 56) (p := 8) (v := ?vo_w7) (w1 := ((w6.setCell ⟨g8, 0, none⟩ (.slice A24_0 l0_0.length c24_0)).setCell ⟨g8, 1, none⟩ (.slice A24_1 l0_1.length c24_1))) ?hg ?ho ?hn ?hr ?_; (case ho => rfl); (case hg => rfl); (case hn => rfl); (case hr => first | (go_simp; done) | (go_simp; rfl)); intro w7 hw; have hge : w.heap.size ≤ g8 := (by have := NN1.out; have := Gg2.out; have := Kg2.out; have := NN2.out; have := NN3.out; have := NN4.out; have := NN5.out; have := NN6.out; have := Gg8.out; have := Kg8.out; have := HB.out.size; omega); have hF : Frm w6 w7 g8 (g8 + 1) := (by rw [hw]; exact (Frm.trans (Frm.set _ _ _ _) (Frm.set _ _ _ _))); have nb := Aside0.mk (show w7.heap[g8]? = some (.cells #[.slice A24_0 l0_0.length c24_0, .slice A24_1 l0_1.length c24_1] 56 (0, 0)) from (by rw [hw]; exact (blk_put (blk_put Bg8.out 0 _ rfl) 1 _ rfl))); have n_U18 := Aside0.mk (U18.out.mv hF (by have := NN1.out; have := Gg2.out; have := Kg2.out; have := NN2.out; have := NN3.out; have := NN4.out; have := NN5.out; have := NN6.out; have := Gg8.out; have := Kg8.out; omega)); have n_U24 := Aside0.mk (U24.out.mv hF (by have := NN1.out; have := Gg2.out; have := Kg2.out; have := NN2.out; have := NN3.out; have := NN4.out; have := NN5.out; have := NN6.out; have := Gg8.out; have := Kg8.out; omega)); have n_Bg2 := Aside0.mk ((hF.same g2 (blk_lt Bg2.out) (by have := NN1.out; have := Gg2.out; have := Kg2.out; have := NN2.out; have := NN3.out; have := NN4.out; have := NN5.out; have := NN6.out; have := Gg8.out; have := Kg8.out; omega)).trans Bg2.out); have n_HB := Aside0.mk ((by rw [hw]; exact (below_set (below_set HB.out hge) hge) : Below w.heap.size w w7)); have NN7 : Aside0 (w6.heap.size ≤ w7.heap.size) := ⟨hF.size⟩; clear hc8_0 hf8_0; clear hc8_1 hf8_1; clear U18 U24 Bg2 HB; have U18 := n_U18; have U24 := n_U24; have Bg2 := n_Bg2; have HB := n_HB; clear n_U18 n_U24 n_Bg2 n_HB; clear Bg8; have Bg8 := nb; clear nb hF hge hw; have hc8_0 : w7.cell? ⟨g8, 0, none⟩ = some (.slice A24_0 l0_0.length c24_0) := (blk_cell Bg8.out 0).trans rfl; have hf8_0 := blk_frozen Bg8.out 0; have hc8_1 : w7.cell? ⟨g8, 1, none⟩ = some (.slice A24_1 l0_1.length c24_1) := (blk_cell Bg8.out 1).trans rfl; have hf8_1 := blk_frozen Bg8.out 1) | ((with_reducible refine gate_callee (f := 58) rfl ?_); refine goesL_ (some 28) rfl rfl Try.func58 (by kernel_rfl) rfl #[.agg #[.slice A24_0 l0_0.length c24_0, .slice A24_1 l0_1.length c24_1], .int .i64 a1] rfl (by (try simp only [List.map_toArray, List.map_cons, List.map_nil]); first | done | rfl) ?_; refine (impl_IsWholePivot.calls k _ _ l0_0 _ _ l0_1 a1 s0 s1 _ ?s1 ?s2 ?s3 ?s4 H5'.out).mono ?_; (case s1 => exact U24.out.C0); (case s2 => exact U24.out.cap0); (case s3 => exact U24.out.C1); (case s4 => exact U24.out.cap1); rintro e w8 ⟨rfl, hb⟩; refine ⟨_, rfl, ?_⟩; have n_U18 := Aside0.mk (U18.out.mvB (Frm.below hb)); have n_U24 := Aside0.mk (U24.out.mvB (Frm.below hb)); have n_Bg2 := Aside0.mk (blk_below Bg2.out hb); have n_Bg8 := Aside0.mk (blk_below Bg8.out hb); have n_HB := Aside0.mk (below_step HB.out hb); have NN8 : Aside0 (w7.heap.size ≤ w8.heap.size) := ⟨hb.size⟩; clear hc8_0 hf8_0; clear hc8_1 hf8_1; clear U18 U24 Bg2 Bg8 HB; have U18 := n_U18; have U24 := n_U24; have Bg2 := n_Bg2; have Bg8 := n_Bg8; have HB := n_HB; clear n_U18 n_U24 n_Bg2 n_Bg8 n_HB; clear hb))
 try go_wp2
 have hb : Below w8.heap.size w8 w8.drew := (Below.refl _ _).drew
 have n_U18 := Aside0.mk (U18.out.mvB (Frm.below hb))
 have n_U24 := Aside0.mk (U24.out.mvB (Frm.below hb))
 have n_Bg2 := Aside0.mk (blk_below Bg2.out hb)
 have n_Bg8 := Aside0.mk (blk_below Bg8.out hb)
 have n_HB := Aside0.mk (below_step HB.out hb)
 have NN9 : Aside0 (w8.heap.size ≤ w8.drew.heap.size) := ⟨hb.size⟩
 clear U18 U24 Bg2 Bg8 HB
 have U18 := n_U18
 have U24 := n_U24
 have Bg2 := n_Bg2
 have Bg8 := n_Bg8
 have HB := n_HB
 clear n_U18 n_U24 n_Bg2 n_Bg8 n_HB
 clear hb
 refine st_ (n := 5) (S := fun w' => w'.cell? ⟨g8, 0, none⟩ = some (.slice A24_0 l0_0.length c24_0) ∧ w'.cell? ⟨g8, 1, none⟩ = some (.slice A24_1 l0_1.length c24_1) ∧ w'.cell? ⟨g2, 0, none⟩ = some (.slice A0_0 l0_0.length c0_0) ∧ w'.cell? ⟨g2, 1, none⟩ = some (.slice A0_1 l0_1.length c0_1)) (ds := []) ⟨(blk_cell Bg8.out 0).trans rfl, (blk_cell Bg8.out 1).trans rfl, (blk_cell Bg2.out 0).trans rfl, (blk_cell Bg2.out 1).trans rfl⟩ (fun hHeld => ?_)
 generalize w8.drew = w9 at U18 U24 Bg2 Bg8 HB NN9 hHeld ⊢
 have hc2_0 : w9.cell? ⟨g2, 0, none⟩ = some (.slice A0_0 l0_0.length c0_0) := (blk_cell Bg2.out 0).trans rfl
 have hf2_0 := blk_frozen Bg2.out 0
 have hc2_1 : w9.cell? ⟨g2, 1, none⟩ = some (.slice A0_1 l0_1.length c0_1) := (blk_cell Bg2.out 1).trans rfl
 have hf2_1 := blk_frozen Bg2.out 1
 have hc8_0 : w9.cell? ⟨g8, 0, none⟩ = some (.slice A24_0 l0_0.length c24_0) := (blk_cell Bg8.out 0).trans rfl
 have hf8_0 := blk_frozen Bg8.out 0
 have hc8_1 : w9.cell? ⟨g8, 1, none⟩ = some (.slice A24_1 l0_1.length c24_1) := (blk_cell Bg8.out 1).trans rfl
 have hf8_1 := blk_frozen Bg8.out 1
 refine tk_ 0 39 ?_; refine tk_ 1 40 ?_
 refine on_ 2 (some 41) (fun K hK => ?_)
 refine goes_ Try.func39 (by kernel_rfl) rfl #[.agg #[.slice A0_0 l0_0.length c0_0, .slice A0_1 l0_1.length c0_1]] (by rfl) rfl rfl (by (try simp only [List.map_toArray, List.map_cons, List.map_nil]); first | done | rfl) ?_
 (refine (laws_toProblem.calls k _ _ l0_0 _ _ l0_1 l0_0 l0_1 _ ?s1 ?s2 ?s3 ?s4 H3'.out).mono ?_; (case s1 => exact Kd.C_below HR0_0.out HB.out); (case s2 => exact HC0_0.out); (case s3 => exact Kd.C_below HR0_1.out HB.out); (case s4 => exact HC0_1.out); rintro e w10 ⟨v41_0, v41_1, rfl, ho0, ho1, hb⟩; refine ⟨_, rfl, ?_⟩; have nu0 := Aside0.mk (UP.of ho0 ho1 HB.out.size); have n_U18 := Aside0.mk (U18.out.mvB (Frm.below hb)); have n_U24 := Aside0.mk (U24.out.mvB (Frm.below hb)); have n_Bg2 := Aside0.mk (blk_below Bg2.out hb); have n_Bg8 := Aside0.mk (blk_below Bg8.out hb); have n_HB := Aside0.mk (below_step HB.out hb); have NN10 : Aside0 (w9.heap.size ≤ w10.heap.size) := ⟨hb.size⟩; clear hc2_0 hf2_0; clear hc2_1 hf2_1; clear hc8_0 hf8_0; clear hc8_1 hf8_1; clear U18 U24 Bg2 Bg8 HB; have U18 := n_U18; have U24 := n_U24; have Bg2 := n_Bg2; have Bg8 := n_Bg8; have HB := n_HB; clear n_U18 n_U24 n_Bg2 n_Bg8 n_HB; clear hb ho0 ho1; have U41 := nu0; clear nu0; obtain ⟨A41_0, c41_0, A41_1, c41_1, e0, e1⟩ := U41.out.slices; subst e0; subst e1)
 refine hK.out _ _ ⟨(blk_cell Bg8.out 0).trans rfl, (blk_cell Bg8.out 1).trans rfl, (blk_cell Bg2.out 0).trans rfl, (blk_cell Bg2.out 1).trans rfl⟩ (fun hHeld => ?_)
 clear hK K
 refine norm_ (a' := ?_) ?_ ?_
 rotate_left
 ·show Act.put _ (some 41) _ = _
  simp only [Act.put, List.setIfInBounds_toArray, List.set_cons_zero, List.set_cons_succ, i64_w, i32_w]
  rfl
 refine on_ 3 (some 42) (fun K hK => ?_)
 refine goes_ Try.func42 (by kernel_rfl) rfl #[.agg #[.slice A24_0 l0_0.length c24_0, .slice A24_1 l0_1.length c24_1], .agg #[.slice A41_0 l0_0.length c41_0, .slice A41_1 l0_1.length c41_1]] (by rfl) rfl rfl (by (try simp only [List.map_toArray, List.map_cons, List.map_nil]); first | done | rfl) ?_
 (refine (laws_eqProblem.calls k _ _ l0_0 _ _ l0_1 _ _ l0_0 _ _ l0_1 true _ ?s1 ?s2 ?s3 ?s4 ?s5 ?s6 ?s7 ?s8 H6'.out).mono ?_; (case s1 => exact U24.out.C0); (case s2 => exact U24.out.cap0); (case s3 => exact U24.out.C1); (case s4 => exact U24.out.cap1); (case s5 => exact U41.out.C0); (case s6 => exact U41.out.cap0); (case s7 => exact U41.out.C1); (case s8 => exact U41.out.cap1); rintro e w11 ⟨rfl, hb⟩; refine ⟨_, rfl, ?_⟩; have n_U18 := Aside0.mk (U18.out.mvB (Frm.below hb)); have n_U24 := Aside0.mk (U24.out.mvB (Frm.below hb)); have n_U41 := Aside0.mk (U41.out.mvB (Frm.below hb)); have n_Bg2 := Aside0.mk (blk_below Bg2.out hb); have n_Bg8 := Aside0.mk (blk_below Bg8.out hb); have n_HB := Aside0.mk (below_step HB.out hb); have NN11 : Aside0 (w10.heap.size ≤ w11.heap.size) := ⟨hb.size⟩; clear U18 U24 U41 Bg2 Bg8 HB; have U18 := n_U18; have U24 := n_U24; have U41 := n_U41; have Bg2 := n_Bg2; have Bg8 := n_Bg8; have HB := n_HB; clear n_U18 n_U24 n_U41 n_Bg2 n_Bg8 n_HB; clear hb)
 refine hK.out _ _ ⟨(blk_cell Bg8.out 0).trans rfl, (blk_cell Bg8.out 1).trans rfl, (blk_cell Bg2.out 0).trans rfl, (blk_cell Bg2.out 1).trans rfl⟩ (fun hHeld => ?_)
 clear hK K
 refine norm_ (a' := ?_) ?_ ?_
 rotate_left
 ·show Act.put _ (some 42) _ = _
  simp only [Act.put, List.setIfInBounds_toArray, List.set_cons_zero, List.set_cons_succ, i64_w, i32_w]
  rfl
 refine pu_ 4 43 ?_
 refine done_ (by kernel_rfl) ?_
 go_wp2
 go_ret
 exact ⟨rfl, HB.out⟩
theorem laws_FnExactIsWholePivot.small0 (k : Nat) (A0_0 : Option Addr) (c0_0 : Nat) (l0_0 : List (List Int)) (A0_1 : Option Addr) (c0_1 : Nat) (l0_1 : List Int) (a1 : Int) (t13 : Int) (w : World) (hr0_0 : Kd.C (Kd.slice 2 (Kd.int .i64)) w A0_0 l0_0.length l0_0) (hc0_0 : l0_0.length ≤ c0_0) (hr0_1 : Kd.C (Kd.int .i64) w A0_1 l0_1.length l0_1) (hc0_1 : l0_1.length ≤ c0_1) (h1 : laws_szProblem.f k l0_0 l0_1 1048576 = some t13) (h2 : t13 < 0) :
  Calls Try.prog 12 #[.agg #[.slice A0_0 l0_0.length c0_0, .slice A0_1 l0_1.length c0_1], .int .i64 a1] w fun e w' => e = .returned (.bool true) ∧ Below w.heap.size w w' := by
 have HR0_0 := Aside0.mk hr0_0
 have HC0_0 := Aside0.mk hc0_0
 clear hr0_0 hc0_0
 have HR0_1 := Aside0.mk hr0_1
 have HC0_1 := Aside0.mk hc0_1
 clear hr0_1 hc0_1
 have HB := Aside0.mk (Below.refl w.heap.size w)
 have H1' := Aside0.mk h1
 clear h1
 go_enter Try.func12, Try.ntmps12
 go_wp2_with (first | ((with_reducible refine gate_dst (N := 2) rfl ?_); refine box_event ?hg (N := 2) ?hd (cs := #[.slice A0_0 l0_0.length c0_0, .slice A0_1 l0_1.length c0_1]) (t := 52) ?hr ?_; (case hd => rfl); (case hg => rfl); (case hr => first | (go_simp; done) | (go_simp; rfl)); intro g2 hg w1 hbox hb; have Gg2 : Aside0 (g2 = w.heap.size) := ⟨hg⟩; have Kg2 := Aside0.mk (blk_lt hbox); clear hg; have n_HB := Aside0.mk (below_step HB.out hb); have NN1 : Aside0 (w.heap.size ≤ w1.heap.size) := ⟨hb.size⟩; clear HB; have HB := n_HB; clear n_HB; have Bg2 := Aside0.mk hbox; clear hb hbox; have hc2_0 : w1.cell? ⟨g2, 0, none⟩ = some (.slice A0_0 l0_0.length c0_0) := (blk_cell Bg2.out 0).trans rfl; have hf2_0 := blk_frozen Bg2.out 0; have hc2_1 : w1.cell? ⟨g2, 1, none⟩ = some (.slice A0_1 l0_1.length c0_1) := (blk_cell Bg2.out 1).trans rfl; have hf2_1 := blk_frozen Bg2.out 1) | ((with_reducible refine gate_callee (f := 37) rfl ?_); refine goesL_ (some 13) rfl rfl Try.func37 (by kernel_rfl) rfl #[.agg #[.slice A0_0 l0_0.length c0_0, .slice A0_1 l0_1.length c0_1], .int .i64 1048576] rfl (by (try simp only [List.map_toArray, List.map_cons, List.map_nil]); first | done | rfl) ?_; refine (laws_szProblem.calls k _ _ l0_0 _ _ l0_1 1048576 t13 _ ?s1 ?s2 ?s3 ?s4 H1'.out).mono ?_; (case s1 => exact Kd.C_below HR0_0.out HB.out); (case s2 => exact HC0_0.out); (case s3 => exact Kd.C_below HR0_1.out HB.out); (case s4 => exact HC0_1.out); rintro e w2 ⟨rfl, hb⟩; refine ⟨_, rfl, ?_⟩; have n_Bg2 := Aside0.mk (blk_below Bg2.out hb); have n_HB := Aside0.mk (below_step HB.out hb); have NN2 : Aside0 (w1.heap.size ≤ w2.heap.size) := ⟨hb.size⟩; clear hc2_0 hf2_0; clear hc2_1 hf2_1; clear Bg2 HB; have Bg2 := n_Bg2; have HB := n_HB; clear n_Bg2 n_HB; clear hb; have hc2_0 : w2.cell? ⟨g2, 0, none⟩ = some (.slice A0_0 l0_0.length c0_0) := (blk_cell Bg2.out 0).trans rfl; have hf2_0 := blk_frozen Bg2.out 0; have hc2_1 : w2.cell? ⟨g2, 1, none⟩ = some (.slice A0_1 l0_1.length c0_1) := (blk_cell Bg2.out 1).trans rfl; have hf2_1 := blk_frozen Bg2.out 1))
 go_ret
 exact ⟨rfl, HB.out⟩
def laws_FnExactIsWholePivot.ok_walk (k : Nat) (l0_0 : List (List Int)) (l0_1 : List Int) (a1 : Int) : Prop := ∃ (t13 : Int) (s0 : Bool) (s1 : Int), (laws_szProblem.f k l0_0 l0_1 1048576 = some t13) ∧ (¬ t13 < 0) ∧ (laws_toProblem.f k l0_0 l0_1 = some (l0_0, l0_1)) ∧ (spec_IsWholePivot.f k l0_0 l0_1 a1 = some (s0, s1)) ∧ (impl_IsWholePivot.f k l0_0 l0_1 a1 = some (s0, s1)) ∧ (laws_eqProblem.f k l0_0 l0_1 l0_0 l0_1 = some true)
def laws_FnExactIsWholePivot.ok_small0 (k : Nat) (l0_0 : List (List Int)) (l0_1 : List Int) (a1 : Int) : Prop := ∃ (t13 : Int), (laws_szProblem.f k l0_0 l0_1 1048576 = some t13) ∧ (t13 < 0)
open Classical in
noncomputable def laws_FnExactIsWholePivot.f (k : Nat) (l0_0 : List (List Int)) (l0_1 : List Int) (a1 : Int) : Option Bool := if laws_FnExactIsWholePivot.ok_walk k l0_0 l0_1 a1 ∨ laws_FnExactIsWholePivot.ok_small0 k l0_0 l0_1 a1 then some true else none
theorem laws_FnExactIsWholePivot.calls (k : Nat) (A0_0 : Option Addr) (c0_0 : Nat) (l0_0 : List (List Int)) (A0_1 : Option Addr) (c0_1 : Nat) (l0_1 : List Int) (a1 : Int) (r : Bool) (w : World) (hr0_0 : Kd.C (Kd.slice 2 (Kd.int .i64)) w A0_0 l0_0.length l0_0) (hc0_0 : l0_0.length ≤ c0_0) (hr0_1 : Kd.C (Kd.int .i64) w A0_1 l0_1.length l0_1) (hc0_1 : l0_1.length ≤ c0_1) (h : laws_FnExactIsWholePivot.f k l0_0 l0_1 a1 = some r) :
  Calls Try.prog 12 #[.agg #[.slice A0_0 l0_0.length c0_0, .slice A0_1 l0_1.length c0_1], .int .i64 a1] w fun e w' => e = .returned (.bool r) ∧ Below w.heap.size w w' := by
 unfold laws_FnExactIsWholePivot.f at h
 split at h
 case isFalse => cases h
 rename_i hok
 cases h
 rcases hok with ⟨t13, s0, s1, h1, h2, h3, h4, h5, h6⟩ | ⟨t13, h1, h2⟩
 ·exact laws_FnExactIsWholePivot.walk k A0_0 c0_0 l0_0 A0_1 c0_1 l0_1 a1 t13 s0 s1 w hr0_0 hc0_0 hr0_1 hc0_1 h1 h2 h3 h4 h5 h6
 ·exact laws_FnExactIsWholePivot.small0 k A0_0 c0_0 l0_0 A0_1 c0_1 l0_1 a1 t13 w hr0_0 hc0_0 hr0_1 hc0_1 h1 h2
end Go.Proofs.Ytjjbhdpjnjncbaa.Pr
end
section
namespace Go.Proofs.Ytjjbhdpjnjncbaa.Say
open Go.Proofs.Ytjjbhdpjnjncbaa.Op Go.Proofs.Ytjjbhdpjnjncbaa.Pr
def FnExactIsWholePivot : Prop := ∀ (l0_0 : List (List Int)) (l0_1 : List Int) (a1 : Int), GoodList (GoodList (GoodInt .i64)) l0_0 → GoodList (GoodInt .i64) l0_1 → GoodInt .i64 a1 → ∃ k, laws_FnExactIsWholePivot.f k l0_0 l0_1 a1 = some true
end Go.Proofs.Ytjjbhdpjnjncbaa.Say
end
section
namespace Go.Proofs.Ytjjbhdpjnjncbaa.Bz
open Go.RowKit Go.Proofs.YtjjbhdpjnjncbaaW.PrintWords Go.Proofs.YtjjbhdpjnjncbaaW.PrintMore Go.Proofs.Ytjjbhdpjnjncbaa.Ma Go.Proofs.Ytjjbhdpjnjncbaa.Dt Go.Proofs.Ytjjbhdpjnjncbaa.Bd
theorem det_scal (L : Int) : ∀ n, det n (fun a b => if a = b then L else 0) = L ^ n := by
 intro n
 induction n with
 | zero => simp [det]
 | succ n ih =>
  rw [det_succ, sm_one (k := 0) (by omega) (fun i _ h => by rw [if_neg (by omega)]; simp)]
  rw [det_congr (A := mnr 0 (fun a b => if a = b then L else 0)) (B := fun a b => if a = b then L else 0) (fun i j _ _ => by simp [mnr, up]), ih]
  rw [if_pos rfl, Int.pow_succ, show sg 0 = 1 from rfl]
  grind
theorem det_zero_col {n c : Nat} (hc : c < n) {A : Mat} (h : ∀ i, i < n → A i c = 0) : det n A = 0 := by
 have := det_col_lin (A := A) (B := A) (C := A) (s := 0) (t := 0) hc (fun i hi => by rw [h i hi]; simp) (fun i j _ _ _ => ⟨rfl, rfl⟩)
 simpa using this
theorem det_1 (A : Mat) : det 1 A = A 0 0 := by simp [det, sm, sg]
theorem det_2 (A : Mat) : det 2 A = A 0 0 * A 1 1 - A 0 1 * A 1 0 := by
 simp [det, sm, sg, mnr, up]
 omega
def rs (i : Nat) (A : Mat) (r c : Nat) : Int := det i A * A r c - sm i (fun t => det i (rset t (A r) A) * A t c)
theorem rs_zero (i : Nat) (A : Mat) (r : Nat) {j : Nat} (hj : j < i) : rs i A r j = 0 := by
 unfold rs
 rw [adj_row A (A r) hj]; omega
theorem block_elim (i d : Nat) (A : Mat) : det i A ^ d * det (i + d) A = det i A * det d (fun a b => rs i A (i + a) (i + b)) := by
 let E : Mat := fun a b => if a < i then one a b else if b < i then - det i (rset b (A a) A) else if a = b then det i A else 0
 have hE : det (i + d) E = det i A ^ d := by
  rw [det_block d i E (fun a b ha hb _ => by simp only [E, if_pos ha, one]; rw [if_neg (by omega)])]
  rw [det_congr (A := E) (B := one) (fun a b ha _ => by simp only [E, if_pos ha]), det_one, Int.one_mul, ← det_scal]
  exact det_congr (fun a b _ _ => by simp only [sh, E]; rw [if_neg (by omega), if_neg (by omega)]; simp)
 have hlow (a b : Nat) (ha : i ≤ a) (ha2 : a < i + d) : mul (i + d) E A a b = rs i A a b := by
  unfold mul
  rw [sm_split, sm_congr (f := fun k => E a k * A k b) (g := fun k => (-1) * (det i (rset k (A a) A) * A k b)) (fun k hk => by simp only [E]; rw [if_neg (by omega), if_pos hk]; grind), sm_mul]
  rw [sm_one (n := d) (k := a - i) (by omega) (fun k hk hne => by simp only [E]; rw [if_neg (by omega), if_neg (by omega), if_neg (by omega)]; simp)]
  simp only [E]
  rw [if_neg (by omega), if_neg (by omega), if_pos (by omega), show i + (a - i) = a from by omega]
  unfold rs
  omega
 have hup (a b : Nat) (ha : a < i) : mul (i + d) E A a b = A a b := by
  unfold mul
  rw [sm_one (k := a) (by omega) (fun k hk hne => by simp only [E, if_pos ha, one]; rw [if_neg (by omega)]; simp)]
  simp [E, ha, one]
 rw [← hE, ← det_mul, det_block' d i (mul (i + d) E A) (fun a b h1 h2 h3 => by rw [hlow a b h1 h2, rs_zero i A a h3])]
 rw [det_congr (A := mul (i + d) E A) (B := A) (fun a b ha _ => hup a b ha)]
 congr 1
 exact det_congr (fun a b ha _ => by simp only [sh]; exact hlow _ _ (by omega) (by omega))
def bord (i r c : Nat) (A : Mat) : Mat := fun a b => A (if a < i then a else r) (if b < i then b else c)
def bm (i r c : Nat) (A : Mat) : Int := det (i + 1) (bord i r c A)
theorem rs_re (i : Nat) (A B : Mat) (r c r' c' : Nat) (h1 : ∀ a b, a < i → b < i → B a b = A a b) (h2 : ∀ b, b < i → B r' b = A r b) (h3 : ∀ a, a < i → B a c' = A a c) (h4 : B r' c' = A r c) : rs i B r' c' = rs i A r c := by
 unfold rs
 rw [det_congr (A := B) (B := A) h1, h4]
 congr 1
 refine sm_congr (fun t ht => ?_)
 rw [h3 t ht, det_congr (A := rset t (B r') B) (B := rset t (A r) A) (fun a b ha hb => by
  unfold rset
  split
  ·exact h2 b hb
  ·exact h1 a b ha hb)]
theorem bm_rs {i : Nat} {A : Mat} (hL : det i A ≠ 0) (r c : Nat) : bm i r c A = rs i A r c := by
 have h := block_elim i 1 (bord i r c A)
 rw [det_1, det_congr (A := bord i r c A) (B := A) (n := i) (fun a b ha hb => by simp [bord, ha, hb]), Int.pow_succ, Int.pow_zero, Int.one_mul] at h
 rw [rs_re i A (bord i r c A) r c (i + 0) (i + 0) (fun a b ha hb => by simp [bord, ha, hb]) (fun b hb => by simp [bord, hb]) (fun a ha => by simp [bord, ha]) (by simp [bord])] at h
 exact Int.eq_of_mul_eq_mul_left hL h
theorem sylv {i : Nat} {A : Mat} (hL : det i A ≠ 0) (r c : Nat) : det i A * bm (i + 1) r c A = bm i i i A * bm i r c A - bm i i c A * bm i r i A := by
 have h := block_elim i 2 (bord (i + 1) r c A)
 rw [det_2, det_congr (A := bord (i + 1) r c A) (B := A) (n := i) (fun a b ha hb => by unfold bord; rw [if_pos (by omega), if_pos (by omega)])] at h
 have q (a b r' c' : Nat) (ha : (if a < i + 1 then a else r) = r') (hb : (if b < i + 1 then b else c) = c') : rs i (bord (i + 1) r c A) a b = rs i A r' c' :=
  rs_re i A (bord (i + 1) r c A) r' c' a b (fun x y hx hy => by unfold bord; rw [if_pos (by omega), if_pos (by omega)]) (fun y hy => by unfold bord; rw [ha, if_pos (by omega)]) (fun x hx => by unfold bord; rw [hb, if_pos (by omega)]) (by unfold bord; rw [ha, hb])
 rw [q (i + 0) (i + 0) i i (by simp) (by simp), q (i + 1) (i + 1) r c (by simp) (by simp), q (i + 0) (i + 1) i c (by simp) (by simp), q (i + 1) (i + 0) r i (by simp) (by simp)] at h
 rw [← bm_rs hL, ← bm_rs hL, ← bm_rs hL, ← bm_rs hL] at h
 have e : det i A ^ 2 * det (i + 2) (bord (i + 1) r c A) = det i A * (det i A * bm (i + 1) r c A) := by unfold bm; grind
 rw [e] at h
 exact Int.eq_of_mul_eq_mul_left hL h
def fact : Nat → Nat
 | 0 => 1
 | n + 1 => (n + 1) * fact n
def b20 (n : Nat) : Nat := fact n * 20 ^ n
theorem sm_abs {n B : Nat} {f : Nat → Int} (h : ∀ i, i < n → (f i).natAbs ≤ B) : (sm n f).natAbs ≤ n * B := by
 induction n with
 | zero => simp [sm]
 | succ n ih =>
  have h1 := ih (fun i hi => h i (by omega))
  have h2 := h n (by omega)
  have h3 := Int.natAbs_add_le (sm n f) (f n)
  simp only [sm]
  rw [Nat.add_mul, Nat.one_mul]
  omega
theorem sg_abs (k : Nat) : (sg k).natAbs = 1 := by unfold sg; split <;> rfl
theorem det_abs20 : ∀ (n : Nat) (A : Mat), (∀ i j, i < n → j < n → (A i j).natAbs ≤ 20) → (det n A).natAbs ≤ b20 n := by
 intro n
 induction n with
 | zero => intro A _; show (1 : Int).natAbs ≤ 1; decide
 | succ n ih =>
  intro A h
  rw [det_succ]
  refine Nat.le_trans (sm_abs (B := 20 * b20 n) (fun k hk => ?_)) ?_
  ·rw [Int.natAbs_mul, Int.natAbs_mul, sg_abs, Nat.one_mul]
   exact Nat.mul_le_mul (h 0 k (by omega) hk) (ih (mnr k A) (fun i j hi hj => h _ _ (by omega) (up_lt hj)))
  ·unfold b20; rw [fact, Nat.pow_succ]
   exact Nat.le_of_eq (by grind)
def Bk (n k : Nat) (A : Mat) : Prop := ∀ i j, i < n → j < n → (A i j).natAbs ≤ if j = k then 100 else 20
theorem det_absk : ∀ (n k : Nat) (A : Mat), Bk n k A → (det n A).natAbs ≤ 5 * b20 n := by
 intro n
 induction n with
 | zero => intro k A _; show (1 : Int).natAbs ≤ 5 * 1; decide
 | succ n ih =>
  intro k A h
  rw [det_succ]
  refine Nat.le_trans (sm_abs (B := 100 * b20 n) (fun c hc => ?_)) ?_
  ·rw [Int.natAbs_mul, Int.natAbs_mul, sg_abs, Nat.one_mul]
   have h0 := h 0 c (by omega) hc
   by_cases e : c = k
   ·subst e
    rw [if_pos rfl] at h0
    exact Nat.mul_le_mul h0 (det_abs20 n (mnr c A) (fun i j hi hj => by have := h (i + 1) (up c j) (by omega) (up_lt hj); rwa [if_neg (up_ne c j)] at this))
   ·rw [if_neg e] at h0
    have := ih (dn c k) (mnr c A) (fun i j hi hj => by
     have := h (i + 1) (up c j) (by omega) (up_lt hj)
     unfold mnr
     by_cases q : up c j = k
     ·rw [if_pos q] at this
      rw [if_pos (by rw [← q, dn_up])]; exact this
     ·rw [if_neg q] at this
      split <;> omega)
    calc (A 0 c).natAbs * (det n (mnr c A)).natAbs ≤ 20 * (5 * b20 n) := Nat.mul_le_mul h0 this
     _ = 100 * b20 n := by omega
  ·unfold b20; rw [fact, Nat.pow_succ]
   exact Nat.le_of_eq (by grind)
theorem b20_le : ∀ n, n ≤ 5 → 5 * b20 n ≤ 1920000000 := by
 intro n h
 match n, h with
 | 0, _ => decide
 | 1, _ => decide
 | 2, _ => decide
 | 3, _ => decide
 | 4, _ => decide
 | 5, _ => decide
 | n + 6, h => omega
theorem bm_abs {n k : Nat} (hn : n ≤ 5) {A : Mat} (h : Bk n k A) {i r c : Nat} (hi : i < n) (hr : r < n) (hic : i ≤ c) (hc : c < n) : -1920000000 ≤ bm i r c A ∧ bm i r c A ≤ 1920000000 := by
 have h1 : (bm i r c A).natAbs ≤ 5 * b20 (i + 1) := det_absk (i + 1) (if k < i then k else i) _ (fun a b ha hb => by
  unfold bord
  have := h (if a < i then a else r) (if b < i then b else c) (by split <;> omega) (by split <;> omega)
  refine Nat.le_trans this ?_
  grind)
 have h2 := b20_le (i + 1) (by omega)
 omega
theorem prod_b {x y : Int} (hx : -1920000000 ≤ x ∧ x ≤ 1920000000) (hy : -1920000000 ≤ y ∧ y ≤ 1920000000) : -3686400000000000000 ≤ x * y ∧ x * y ≤ 3686400000000000000 := by
 have h : (x * y).natAbs ≤ 1920000000 * 1920000000 := by rw [Int.natAbs_mul]; exact Nat.mul_le_mul (by omega) (by omega)
 omega
structure Inv (n k i : Nat) (M : Mat) (last turn : Int) (A A0 : Mat) : Prop where
 le : i ≤ n
 small : Bk n k A
 num : ∀ r c, i ≤ r → r < n → i ≤ c → c < n → M r c = bm i r c A
 last_ : last = det i A
 nz : last ≠ 0
 turn_ : turn = 1 ∨ turn = -1
 det_ : turn * det n A = det n A0
section
variable {n k : Nat} (hn : n ≤ 5) {A0 : Mat}
include hn
theorem Inv.step {i : Nat} {M A : Mat} {last turn : Int} (h : Inv n k i M last turn A A0) (hi : i < n) (hp : M i i ≠ 0) : Inv n k (i + 1) (el M i last) (M i i) turn A A0 := by
 have hL : det i A ≠ 0 := by rw [← h.last_]; exact h.nz
 have hpi := h.num i i (Nat.le_refl _) hi (Nat.le_refl _) hi
 refine ⟨by omega, h.small, fun r c hr hrn hc hcn => ?_, ?_, hp, h.turn_, h.det_⟩
 ·unfold el ev
  rw [if_pos (by omega), h.num r c (by omega) hrn (by omega) hcn, hpi, h.num r i (by omega) hrn (Nat.le_refl _) hi, h.num i c (Nat.le_refl _) hi (by omega) hcn]
  have p1 := prod_b (bm_abs hn h.small hi hrn (by omega) hcn) (bm_abs hn h.small hi hi (Nat.le_refl _) hi)
  have p2 := prod_b (bm_abs hn h.small hi hrn (Nat.le_refl _) hi) (bm_abs hn h.small hi hi (by omega) hcn)
  have s := sylv hL r c
  have e : bm i r c A * bm i i i A - bm i r i A * bm i i c A = det i A * bm (i + 1) r c A := by rw [s]; grind
  have b := bm_abs hn h.small (i := i + 1) (r := r) (c := c) (by omega) hrn hc hcn
  rw [w64 (x := bm i r c A * bm i i i A) (by omega) (by omega), w64 (x := bm i r i A * bm i i c A) (by omega) (by omega), w64 (x := bm i r c A * bm i i i A - bm i r i A * bm i i c A) (by omega) (by omega), e, h.last_, Int.mul_tdiv_cancel_left _ hL]
  exact w64 (by omega) (by omega)
 ·rw [hpi]; unfold bm
  exact det_congr (fun a b ha hb => by
   unfold bord
   have e1 : (if a < i then a else i) = a := by split <;> omega
   have e2 : (if b < i then b else i) = b := by split <;> omega
   rw [e1, e2])
theorem Inv.none_ {i : Nat} {M A : Mat} {last turn : Int} (h : Inv n k i M last turn A A0) (hi : i < n) (hz : ∀ r, i ≤ r → r < n → M r i = 0) : det n A0 = 0 := by
 have _h := hn
 have hL : det i A ≠ 0 := by rw [← h.last_]; exact h.nz
 have b := block_elim i (n - i) A
 rw [show i + (n - i) = n from by omega, det_zero_col (c := 0) (A := fun a b => rs i A (i + a) (i + b)) (by omega) (fun a ha => by
  rw [← bm_rs hL, Nat.add_zero, ← h.num (i + a) i (by omega) (by omega) (Nat.le_refl _) hi]; exact hz _ (by omega) (by omega)), Int.mul_zero] at b
 have : det n A = 0 := by
  rcases Int.mul_eq_zero.1 b with b | b
  ·exact absurd b (Int.pow_ne_zero hL)
  ·exact b
 rw [← h.det_, this, Int.mul_zero]
theorem Inv.swap {i s : Nat} {M A : Mat} {last turn : Int} (h : Inv n k i M last turn A A0) (his : i < s) (hs : s < n) : Inv n k i (swp M i s) last (wrap64 (-turn)) (swp A i s) A0 := by
 have _h := hn
 have hsr (r : Nat) (hr : r < n) : (if r = i then s else if r = s then i else r) < n := by grind
 have hlow (a : Nat) (ha : a < i) : (if a = i then s else if a = s then i else a) = a := by rw [if_neg (by omega), if_neg (by omega)]
 have w : wrap64 (-turn) = -turn := w64 (by have := h.turn_; omega) (by have := h.turn_; omega)
 refine ⟨h.le, fun a b ha hb => h.small _ _ (hsr a ha) hb, fun r c hr hrn hc hcn => ?_, ?_, h.nz, by rw [w]; have := h.turn_; omega, ?_⟩
 ·unfold swp
  rw [h.num _ c (by grind) (hsr r hrn) hc hcn]
  unfold bm
  refine det_congr (fun a b _ _ => ?_)
  unfold bord
  by_cases ha : a < i
  ·simp only [if_pos ha]; rw [hlow a ha]
  ·simp only [if_neg ha]
 ·rw [h.last_]
  exact det_congr (fun a b ha _ => by unfold swp; rw [hlow a ha])
 ·have e := (det_form n).swap (r := i) (q := s) (A := A) (B := swp A i s) (by omega) hs (by omega) (fun j _ => ⟨by unfold swp; rw [if_pos rfl], by unfold swp; rw [if_neg (by omega), if_pos rfl]⟩) (fun a b _ _ h1 h2 => by unfold swp; rw [if_neg h1, if_neg h2])
  rw [e, w, ← h.det_]
  grind
theorem dgo_inv : ∀ (q i : Nat), i + q = n → ∀ (M A : Mat) (last turn : Int), Inv n k i M last turn A A0 → dgo n q i M last turn = det n A0 := by
 intro q
 induction q with
 | zero =>
  intro i hi M A last turn h
  obtain rfl : i = n := by omega
  show wrap64 (turn * last) = _
  rw [h.last_, h.det_]
  have b := det_absk i k A h.small
  have b2 := b20_le i hn
  have t := h.turn_
  have e := h.det_
  have : (det i A0).natAbs = (det i A).natAbs := by
   rw [← e, Int.natAbs_mul]
   rcases t with t | t <;> rw [t] <;> simp
  exact w64 (by omega) (by omega)
 | succ q ih =>
  intro i hi M A last turn h
  unfold dgo
  cases hf : fnd M i (n - i) 0 with
  | none =>
   have hz := fnd_none hf
   exact (h.none_ hn (by omega) (fun r h1 h2 => by have := hz (r - i) (Nat.zero_le _) (by omega); rwa [show i + (r - i) = r from by omega] at this)).symm
  | some kk =>
   obtain ⟨_, h2, h3, _⟩ := fnd_some hf
   cases kk with
   | zero => exact ih (i + 1) (by omega) _ A _ _ (h.step hn (by omega) h3)
   | succ kk =>
    have hs := h.swap hn (s := i + (kk + 1)) (by omega) (by omega)
    exact ih (i + 1) (by omega) _ _ _ _ (hs.step hn (by omega) (by unfold swp; rw [if_pos rfl]; exact h3))
end
theorem dgo_det {n k : Nat} (hn : n ≤ 5) (A : Mat) (h : Bk n k A) : dgo n n 0 A 1 1 = det n A := by
 refine dgo_inv hn (k := k) n 0 (by omega) A A 1 1 ⟨Nat.zero_le _, h, fun r c _ _ _ _ => ?_, rfl, by decide, .inl rfl, Int.one_mul _⟩
 unfold bm
 rw [det_1]; simp [bord]
end Go.Proofs.Ytjjbhdpjnjncbaa.Bz
end
section
namespace Go.Proofs.Ytjjbhdpjnjncbaa.Un
open Go.RowKit Go.Proofs.YtjjbhdpjnjncbaaW.PrintWords Go.Proofs.YtjjbhdpjnjncbaaW.PrintMore Go.Proofs.Ytjjbhdpjnjncbaa.Ma Go.Proofs.Ytjjbhdpjnjncbaa.Dt Go.Proofs.Ytjjbhdpjnjncbaa.Bz
def colM (P : Nat → Bool) (M : Mat) : Mat := fun i k => if P k = true then - M i k else if i = k then 1 else 0
end Go.Proofs.Ytjjbhdpjnjncbaa.Un
end
section
namespace Go.Proofs.Ytjjbhdpjnjncbaa.Pr
open Go.RowKit Go.Proofs.YtjjbhdpjnjncbaaW.PrintWords Go.Proofs.YtjjbhdpjnjncbaaW.PrintLast Go.Proofs.YtjjbhdpjnjncbaaW.PrintMore
attribute [local go_sem] max2_int min2_int max_two min_two max_three min_three max_four min_four
mutual
def impl_part.l0 : Nat → Int → Int → List (List Int) → List (List Int) → Int → Int → Option ((List (List Int)))
 | 0, _, _, _, _, _, _ => none
 | k + 1, x1, x2, x7, x13, x14, x15 => if x15 < x14 then (if 0 ≤ x15 then (if x15 < (x13.length : Int) then ((impl_has.f x1 x15).bind fun t605 => (if t605 = true then (impl_part.l1 k x1 x2 x7 ([] : List Int) x13 x14 x15 (rd_L1 x13 x15) ((rd_L1 x13 x15).length : Int) 0) else (impl_part.l0 k x1 x2 x7 x13 x14 (wrap64 (x15 + 1))))) else (none)) else (none)) else (some x7)
def impl_part.l1 : Nat → Int → Int → List (List Int) → List Int → List (List Int) → Int → Int → List Int → Int → Int → Option ((List (List Int)))
 | 0, _, _, _, _, _, _, _, _, _, _ => none
 | k + 1, x1, x2, x7, x10, x13, x14, x15, x24, x25, x26 => if x26 < x25 then (if 0 ≤ x26 then (if x26 < (x24.length : Int) then ((impl_has.f x2 x26).bind fun t607 => (if t607 = true then (if x10.length < 17592186044416 then (impl_part.l1 k x1 x2 x7 (x10 ++ [rd x24 x26]) x13 x14 x15 x24 x25 (wrap64 (x26 + 1))) else (none)) else (impl_part.l1 k x1 x2 x7 x10 x13 x14 x15 x24 x25 (wrap64 (x26 + 1))))) else (none)) else (none)) else (if x7.length < 5864062014805 then (impl_part.l0 k x1 x2 (x7 ++ [x10]) x13 x14 (wrap64 (x15 + 1))) else (none))
end
def impl_part.f (k : Nat) (l0 : List (List Int)) (a1 : Int) (a2 : Int) : Option ((List (List Int))) := impl_part.l0 k a1 a2 ([] : List (List Int)) l0 (l0.length : Int) 0
theorem impl_part.mono_l : ∀ k, (∀ y0 y1 y2 y3 y4 y5, LeO (impl_part.l0 k y0 y1 y2 y3 y4 y5) (impl_part.l0 (k + 1) y0 y1 y2 y3 y4 y5)) ∧ (∀ y0 y1 y2 y3 y4 y5 y6 y7 y8 y9, LeO (impl_part.l1 k y0 y1 y2 y3 y4 y5 y6 y7 y8 y9) (impl_part.l1 (k + 1) y0 y1 y2 y3 y4 y5 y6 y7 y8 y9))
 | 0 => ⟨fun _ _ _ _ _ _ r h => by simp [impl_part.l0] at h, fun _ _ _ _ _ _ _ _ _ _ r h => by simp [impl_part.l1] at h⟩
 | k + 1 => by
  obtain ⟨ih0, ih1⟩ := impl_part.mono_l k
  refine ⟨?_, ?_⟩
  ·intro y0 y1 y2 y3 y4 y5
   unfold impl_part.l0
   repeat' first
   | (with_reducible exact ih0 _ _ _ _ _ _)
   | (with_reducible exact ih1 _ _ _ _ _ _ _ _ _ _)
   | (with_reducible exact LeO.refl _)
   | (with_reducible exact LeO.none _)
   | (with_reducible refine LeO.ite ?_ ?_)
   | (with_reducible refine LeO.bind ?_ (fun _ => ?_))
   | exact ih0 _ _ _ _ _ _
   | exact ih1 _ _ _ _ _ _ _ _ _ _
   | exact LeO.none _
   | refine LeO.ite ?_ ?_
   | refine LeO.bind ?_ (fun _ => ?_)
  ·intro y0 y1 y2 y3 y4 y5 y6 y7 y8 y9
   unfold impl_part.l1
   repeat' first
   | (with_reducible exact ih0 _ _ _ _ _ _)
   | (with_reducible exact ih1 _ _ _ _ _ _ _ _ _ _)
   | (with_reducible exact LeO.refl _)
   | (with_reducible exact LeO.none _)
   | (with_reducible refine LeO.ite ?_ ?_)
   | (with_reducible refine LeO.bind ?_ (fun _ => ?_))
   | exact ih0 _ _ _ _ _ _
   | exact ih1 _ _ _ _ _ _ _ _ _ _
   | exact LeO.none _
   | refine LeO.ite ?_ ?_
   | refine LeO.bind ?_ (fun _ => ?_)
theorem impl_part.mono : ∀ a0 a1 a2 k, LeO (impl_part.f k a0 a1 a2) (impl_part.f (k + 1) a0 a1 a2) := by
 intro a0 a1 a2 k
 obtain ⟨ih0, ih1⟩ := impl_part.mono_l k
 unfold impl_part.f
 repeat' first
   | (with_reducible exact ih0 _ _ _ _ _ _)
   | (with_reducible exact ih1 _ _ _ _ _ _ _ _ _ _)
   | (with_reducible exact LeO.refl _)
   | (with_reducible exact LeO.none _)
   | (with_reducible refine LeO.ite ?_ ?_)
   | (with_reducible refine LeO.bind ?_ (fun _ => ?_))
   | exact ih0 _ _ _ _ _ _
   | exact ih1 _ _ _ _ _ _ _ _ _ _
   | exact LeO.none _
   | refine LeO.ite ?_ ?_
   | refine LeO.bind ?_ (fun _ => ?_)
theorem impl_part.calls (k : Nat) (A0 : Option Addr) (c0 : Nat) (l0 : List (List Int)) (a1 : Int) (a2 : Int) (r : List (List Int)) (w : World) (hr0 : Kd.C (Kd.slice 2 (Kd.int .i64)) w A0 l0.length l0) (hc0 : l0.length ≤ c0) (h : impl_part.f k l0 a1 a2 = some r) :
  Calls Try.prog 131 #[.slice A0 l0.length c0, .int .i64 a1, .int .i64 a2] w fun e w' => ∃ v0_ : Value, e = .returned (v0_) ∧ Kd.S (Kd.slice 2 (Kd.int .i64)) 33 w' w.heap.size (fun _ => True) v0_ r ∧ Below w.heap.size w w' := by
 have HR0 := Aside0.mk hr0
 have HC0 := Aside0.mk hc0
 clear hr0 hc0
 have HB := Aside0.mk (Below.refl w.heap.size w)
 have H : (impl_part.l0 k a1 a2 ([] : List (List Int)) l0 (l0.length : Int) 0) = some r := h
 clear h
 have H' := Aside0.mk H
 clear H
 go_enter Try.func131, Try.ntmps131
 go_wp2
 go_loopg [7, 15] k (fun kq v7 v15 w' => ∃ (x7_1 : List (List Int)) (x15_1 : Int), v15 = .int .i64 x15_1 ∧ Aside0 (impl_part.l0 kq a1 a2 x7_1 l0 (l0.length : Int) x15_1 = some r) ∧ Aside0 (kq ≤ k) ∧ Aside0 (Kd.S (Kd.slice 2 (Kd.int .i64)) 33 w' w.heap.size (fun _ => True) v7 x7_1) ∧ Aside0 (Below w.heap.size w w'))
 case atStart => exact ⟨(([] : List (List Int))), (0), (by first | rfl | (simp; done) | (simp [*]; done)), H', ⟨Nat.le_refl _⟩, ⟨by first | exact Kd.S_nil _ _ _ _ _ | exact Kd.N_nil _ _ _ _ _ | exact Kd.V_nil _ _ _ _ _ | exact Kd.Q_nil _ _ _ _ _ | exact Kd.R_nil _ _ _ _ _⟩, ⟨hb_⟩⟩
 case round =>
  clear H'
  try clear c1
  try clear p2
  obtain ⟨x7_1, x15_1, rfl, HA, HK1, HO_7, HB⟩ := hrel
  cases gk with
  | zero => exact absurd HA.out (by simp [impl_part.l0])
  | succ k1 =>
   have H := HA.out
   clear HA
   simp only [impl_part.l0] at H
   by_cases c4 : x15_1 < (l0.length : Int)
   ·rw [if_pos c4] at H
    have c4b0 : decide (x15_1 < (l0.length : Int)) = true := decide_eq_true c4
    clear c4
    by_cases c5 : 0 ≤ x15_1
    ·rw [if_pos c5] at H
     have c5b0 : decide (0 ≤ x15_1) = true := decide_eq_true c5
     clear c5
     by_cases c6 : x15_1 < (l0.length : Int)
     ·rw [if_pos c6] at H
      have c6b0 : decide (x15_1 < (l0.length : Int)) = true := decide_eq_true c6
      clear c6
      replace H := Option.bind_eq_some_iff.mp H
      obtain ⟨t605, A70, H⟩ := H
      replace H : (if t605 = true then (impl_part.l1 k1 a1 a2 x7_1 ([] : List Int) l0 (l0.length : Int) x15_1 (rd_L1 l0 x15_1) ((rd_L1 l0 x15_1).length : Int) 0) else (impl_part.l0 k1 a1 a2 x7_1 l0 (l0.length : Int) (wrap64 (x15_1 + 1)))) = some r := H
      have A7 := Aside0.mk A70
      clear A70
      by_cases c8 : t605 = true
      ·subst c8
       have H1 : (impl_part.l1 k1 a1 a2 x7_1 ([] : List Int) l0 (l0.length : Int) x15_1 (rd_L1 l0 x15_1) ((rd_L1 l0 x15_1).length : Int) 0) = some r := by rw [if_pos rfl] at H; exact H
       clear H
       have H := H1
       clear H1
       have H' := Aside0.mk H
       clear H
       have p604 : 0 ≤ (x15_1 : Int) := of_decide_eq_true (by first | (with_reducible assumption) | assumption)
       have q604 : x15_1 < (l0.length : Int) := of_decide_eq_true (by first | (with_reducible assumption) | assumption)
       obtain ⟨ad604, A604_0, c604_0, e604, hx604_0, hl604_0, hi604_0⟩ := at_L1 HR0.out x15_1 p604 q604
       cases e604
       replace hx604_0 := (HB.out.cell (World.block_lt_of_cell? w _ hx604_0)).trans hx604_0
       have HR604_0 := Aside0.mk hi604_0
       have HC604_0 := Aside0.mk hl604_0
       clear hi604_0 hl604_0
       replace p604 := eq_true p604
       replace q604 := eq_true q604
       go_wp2_with (first | ((with_reducible refine gate_callee (f := 120) rfl ?_); refine goesL_ (some 22) rfl rfl Try.func120 (by kernel_rfl) rfl #[.int .i64 a1, .int .i64 x15_1] rfl (by (try simp only [List.map_toArray, List.map_cons, List.map_nil]); first | done | rfl | (simp only [List.length_drop, List.length_take]; rfl)) ?_; (with_reducible refine (impl_has.calls a1 x15_1 true _ A7.out).mono ?_); rintro e w' ⟨rfl, ⟨nd, rfl⟩⟩; refine ⟨_, rfl, ?_⟩))
       go_loopg [10, 26] k1 (fun kq v10 v26 w' => ∃ (x10_2 : List Int) (x26_2 : Int), v26 = .int .i64 x26_2 ∧ Aside0 (impl_part.l1 kq a1 a2 x7_1 x10_2 l0 (l0.length : Int) x15_1 (rd_L1 l0 x15_1) ((rd_L1 l0 x15_1).length : Int) x26_2 = some r) ∧ Aside0 (kq ≤ k1) ∧ Aside0 (Kd.S (Kd.slice 2 (Kd.int .i64)) 33 w' w.heap.size (fun k_ => some k_ ≠ (v10 : Value).ownBlock) u7 x7_1) ∧ Aside0 (Kd.R (Kd.int .i64) 2 w' w.heap.size (fun _ => True) v10 x10_2) ∧ Aside0 (Below w.heap.size w w'))
       case atStart => exact ⟨(([] : List Int)), (0), (by first | rfl | (simp; done) | (simp [*]; done)), H', ⟨Nat.le_refl _⟩, ⟨by (with_reducible repeat (first | apply Kd.S_alloc | apply Kd.S_drewN | apply Kd.S_drew)); exact Kd.S_mono HO_7.out (fun _ hk => (by simp [Value.ownBlock]))⟩, ⟨by first | exact Kd.R_nil _ _ _ _ _ | exact Kd.N_nil _ _ _ _ _ | exact Kd.V_nil _ _ _ _ _ | exact Kd.Q_nil _ _ _ _ _ | exact Kd.S_nil _ _ _ _ _⟩, ⟨hb_⟩⟩
       case round =>
        clear H'
        try clear c1
        try clear p2
        try clear c4
        try clear c4b0
        try clear c5
        try clear c5b0
        try clear c6
        try clear c6b0
        try clear p6
        try clear q6
        try clear hx6
        try clear c8
        try clear hx604_0
        try clear p2
        try clear p604
        try clear q604
        obtain ⟨x10_2, x26_2, rfl, HA, HK2, HO_7, HO_10, HB⟩ := hrel
        cases gk with
        | zero => exact absurd HA.out (by simp [impl_part.l1])
        | succ k2 =>
         have H := HA.out
         clear HA
         simp only [impl_part.l1] at H
         by_cases c9 : x26_2 < ((rd_L1 l0 x15_1).length : Int)
         ·rw [if_pos c9] at H
          have c9b0 : decide (x26_2 < ((rd_L1 l0 x15_1).length : Int)) = true := decide_eq_true c9
          clear c9
          by_cases c10 : 0 ≤ x26_2
          ·rw [if_pos c10] at H
           have c10b0 : decide (0 ≤ x26_2) = true := decide_eq_true c10
           clear c10
           by_cases c11 : x26_2 < ((rd_L1 l0 x15_1).length : Int)
           ·rw [if_pos c11] at H
            have c11b0 : decide (x26_2 < ((rd_L1 l0 x15_1).length : Int)) = true := decide_eq_true c11
            clear c11
            replace H := Option.bind_eq_some_iff.mp H
            obtain ⟨t607, A120, H⟩ := H
            replace H : (if t607 = true then (if x10_2.length < 17592186044416 then (impl_part.l1 k2 a1 a2 x7_1 (x10_2 ++ [rd (rd_L1 l0 x15_1) x26_2]) l0 (l0.length : Int) x15_1 (rd_L1 l0 x15_1) ((rd_L1 l0 x15_1).length : Int) (wrap64 (x26_2 + 1))) else (none)) else (impl_part.l1 k2 a1 a2 x7_1 x10_2 l0 (l0.length : Int) x15_1 (rd_L1 l0 x15_1) ((rd_L1 l0 x15_1).length : Int) (wrap64 (x26_2 + 1)))) = some r := H
            have A12 := Aside0.mk A120
            clear A120
            by_cases c13 : t607 = true
            ·subst c13
             have H1 : (if x10_2.length < 17592186044416 then (impl_part.l1 k2 a1 a2 x7_1 (x10_2 ++ [rd (rd_L1 l0 x15_1) x26_2]) l0 (l0.length : Int) x15_1 (rd_L1 l0 x15_1) ((rd_L1 l0 x15_1).length : Int) (wrap64 (x26_2 + 1))) else (none)) = some r := by rw [if_pos rfl] at H; exact H
             clear H
             have H := H1
             clear H1
             by_cases c14 : x10_2.length < 17592186044416
             ·rw [if_pos c14] at H
              have LMc14 := Aside0.mk c14
              clear c14
              obtain ⟨y608, hy608⟩ : ∃ y_ : List Int, y_ = (x10_2 ++ [rd (rd_L1 l0 x15_1) x26_2]) := ⟨_, rfl⟩
              replace H : (impl_part.l1 k2 a1 a2 x7_1 y608 l0 (l0.length : Int) x15_1 (rd_L1 l0 x15_1) ((rd_L1 l0 x15_1).length : Int) (wrap64 (x26_2 + 1))) = some r := by first | (rw [hy608]; with_reducible exact H) | (have H2_ := (Option.bind_some _ _).symm.trans H; rw [hy608]; with_reducible exact H2_) | (have H2_ := (Option.bind_some _ _).symm.trans H; with_reducible exact H2_) | with_reducible exact H | (rw [hy608]; exact H) | exact H
              have Ny608 := Aside0.mk hy608
              clear hy608
              have H' := Aside0.mk H
              clear H
              have p606 : 0 ≤ (x26_2 : Int) := of_decide_eq_true (by first | (with_reducible assumption) | assumption)
              have q606 : x26_2 < ((rd_L1 l0 x15_1).length : Int) := of_decide_eq_true (by first | (with_reducible assumption) | assumption)
              obtain ⟨ad606, e606, hx606_0⟩ := Kd.at_int HR604_0.out x26_2 p606 q606
              cases e606
              replace hx606_0 := (HB.out.cell (World.block_lt_of_cell? w _ hx606_0)).trans hx606_0
              replace p606 := eq_true p606
              replace q606 := eq_true q606
              go_wp2_with (first | ((with_reducible refine gate_callee (f := 120) rfl ?_); refine goesL_ (some 33) rfl rfl Try.func120 (by kernel_rfl) rfl #[.int .i64 a2, .int .i64 x26_2] rfl (by (try simp only [List.map_toArray, List.map_cons, List.map_nil]); first | done | rfl | (simp only [List.length_drop, List.length_take]; rfl)) ?_; (with_reducible refine (impl_has.calls a2 x26_2 true _ A12.out).mono ?_); rintro e w' ⟨rfl, ⟨nd, rfl⟩⟩; refine ⟨_, rfl, ?_⟩) | ((with_reducible refine gate_builtin (b := .append) (xs := #[.tmp 34, .tmp 36]) rfl ?_); at_builtin; refine Kd.R_append (Kd.int .i64) (w0 := w) w.heap.size rfl (.tmp 34) (.tmp 36) 33 2 (.int .i64 0) 8 rfl Try.underlying33 info2 rfl (by decide) (by omega) u10 x10_2 (rd (rd_L1 l0 x15_1) x26_2) [.int .i64 (rd (rd_L1 l0 x15_1) x26_2)] (fun _ => True) (fun _ => False) rfl rfl ?aP (fun _ hk => hk.elim) ?aF ?aO ?aB ?aS ?aL ?_; (case aP => exact rfl); (case aB => exact hb_); (case aF => exact (fun _ _ => trivial)); (case aO => exact (ro_ HO_10.out)); (case aS => exact bz_); (case aL => have := LMc14.out; omega); intro v609 w15 ho hb hg hat; rw [← Ny608.out] at ho; have n0_ := Aside0.mk (Kd.S_after (ok := (fun _ => True)) (by (with_reducible repeat (first | apply Kd.S_alloc | apply Kd.S_drewN | apply Kd.S_drew)); exact Kd.S_mono HO_7.out (fun _ hk => ⟨trivial, hk⟩)) hg hat); have n1_ := Aside0.mk (hb); have n2_ := Aside0.mk (ho); clear HO_7; clear HB; clear HO_10; have HO_7 := n0_; have HB := n1_; have HO610 := n2_; clear n0_ n1_ n2_; clear ho hb hg hat))
              go_roundg k2
              case measure => have := HK1.out; have := HK2.out; omega
              case rel => exact ⟨(y608), (wrap64 (x26_2 + 1)), (by first | rfl | (simp; done) | (simp [*]; done)), H', ⟨by have := HK1.out; have := HK2.out; omega⟩, ⟨by (with_reducible repeat (first | apply Kd.S_alloc | apply Kd.S_drewN | apply Kd.S_drew)); exact Kd.S_mono HO_7.out (fun _ hk => hk.2)⟩, ⟨ro_ HO610.out⟩, ⟨hb_⟩⟩
             ·rw [if_neg c14] at H
              exact absurd H (by simp)
            ·replace c13 := Bool.eq_false_iff.mpr c13
             subst c13
             have H1 : (impl_part.l1 k2 a1 a2 x7_1 x10_2 l0 (l0.length : Int) x15_1 (rd_L1 l0 x15_1) ((rd_L1 l0 x15_1).length : Int) (wrap64 (x26_2 + 1))) = some r := by rw [if_neg (show ¬ (false = true) by decide)] at H; exact H
             clear H
             have H := H1
             clear H1
             have H' := Aside0.mk H
             clear H
             have p606 : 0 ≤ (x26_2 : Int) := of_decide_eq_true (by first | (with_reducible assumption) | assumption)
             have q606 : x26_2 < ((rd_L1 l0 x15_1).length : Int) := of_decide_eq_true (by first | (with_reducible assumption) | assumption)
             obtain ⟨ad606, e606, hx606_0⟩ := Kd.at_int HR604_0.out x26_2 p606 q606
             cases e606
             replace hx606_0 := (HB.out.cell (World.block_lt_of_cell? w _ hx606_0)).trans hx606_0
             replace p606 := eq_true p606
             replace q606 := eq_true q606
             go_wp2_with (first | ((with_reducible refine gate_callee (f := 120) rfl ?_); refine goesL_ (some 33) rfl rfl Try.func120 (by kernel_rfl) rfl #[.int .i64 a2, .int .i64 x26_2] rfl (by (try simp only [List.map_toArray, List.map_cons, List.map_nil]); first | done | rfl | (simp only [List.length_drop, List.length_take]; rfl)) ?_; (with_reducible refine (impl_has.calls a2 x26_2 false _ A12.out).mono ?_); rintro e w' ⟨rfl, ⟨nd, rfl⟩⟩; refine ⟨_, rfl, ?_⟩))
             go_roundg k2
             case measure => have := HK1.out; have := HK2.out; omega
             case rel => exact ⟨(x10_2), (wrap64 (x26_2 + 1)), (by first | rfl | (simp; done) | (simp [*]; done)), H', ⟨by have := HK1.out; have := HK2.out; omega⟩, ⟨so_ HO_7.out⟩, ⟨ro_ HO_10.out⟩, ⟨hb_⟩⟩
           ·rw [if_neg c11] at H
            exact absurd H (by simp)
          ·rw [if_neg c10] at H
           exact absurd H (by simp)
         ·rw [if_neg c9] at H
          have c9b0 : decide (x26_2 < ((rd_L1 l0 x15_1).length : Int)) = false := decide_eq_false c9
          clear c9
          by_cases c16 : x7_1.length < 5864062014805
          ·rw [if_pos c16] at H
           have LMc16 := Aside0.mk c16
           clear c16
           obtain ⟨y611, hy611⟩ : ∃ y_ : List (List Int), y_ = (x7_1 ++ [x10_2]) := ⟨_, rfl⟩
           replace H : (impl_part.l0 k2 a1 a2 y611 l0 (l0.length : Int) (wrap64 (x15_1 + 1))) = some r := by first | (rw [hy611]; with_reducible exact H) | (have H2_ := (Option.bind_some _ _).symm.trans H; rw [hy611]; with_reducible exact H2_) | (have H2_ := (Option.bind_some _ _).symm.trans H; with_reducible exact H2_) | with_reducible exact H | (rw [hy611]; exact H) | exact H
           have Ny611 := Aside0.mk hy611
           clear hy611
           have H' := Aside0.mk H
           clear H
           obtain ⟨Ao18, co18, eo18⟩ := Kd.R_slice HO_10.out
           subst eo18
           go_wp2_with (first | ((with_reducible refine gate_builtin (b := .append) (xs := #[.tmp 39, .tmp 41]) rfl ?_); at_builtin; refine Kd.S_append (Kd.slice 2 (Kd.int .i64)) (w0 := w) w.heap.size rfl (.tmp 39) (.tmp 41) 22 33 (.slice none 0 0) 24 rfl Try.underlying22 info33 rfl (by decide) (by omega) u7 x7_1 x10_2 [.slice Ao18 x10_2.length co18] (fun _ => True) (fun k_ => some k_ = (.slice Ao18 x10_2.length co18 : Value).ownBlock) rfl rfl ?aP (fun k_ hk_ => ((Kd.R_mono (ok' := fun k_ => ((fun _ => True)) k_ ∧ some k_ ≠ (u7 : Value).ownBlock) (Kd.R_apart' (HO_10.out) (Kd.S_typed HO_7.out) (by decide)) (fun k_ hk => ⟨trivial, hk.2⟩))).1 k_ hk_.symm) ?aF ?aO ?aB ?aS ?aL ?_; (case aP => exact Kd.M_row (Kd.R_mono (Kd.R_tight rfl (Kd.R_mono (ok' := fun k_ => ((fun _ => True)) k_ ∧ some k_ ≠ (u7 : Value).ownBlock) (Kd.R_apart' (HO_10.out) (Kd.S_typed HO_7.out) (by decide)) (fun k_ hk => ⟨trivial, hk.2⟩))) (fun _ h_ => h_))); (case aB => exact hb_); (case aF => exact (fun _ _ => trivial)); (case aO => exact (by (with_reducible repeat (first | apply Kd.S_alloc | apply Kd.S_drewN | apply Kd.S_drew)); exact Kd.S_mono HO_7.out (fun k_ hk => ⟨trivial, fun e_ => hk e_⟩))); (case aS => exact bz_); (case aL => have := LMc16.out; omega); intro v612 w17 ho hb hg hat; rw [← Ny611.out] at ho; have n0_ := Aside0.mk (hb); have n1_ := Aside0.mk (ho); clear HB; clear HO_7; clear HO_10; have HB := n0_; have HO613 := n1_; clear n0_ n1_; clear ho hb hg hat))
           go_roundg k2
           case measure => have := HK1.out; have := HK2.out; omega
           case rel => exact ⟨(y611), (wrap64 (x15_1 + 1)), (by first | rfl | (simp; done) | (simp [*]; done)), H', ⟨by have := HK1.out; have := HK2.out; omega⟩, ⟨so_ HO613.out⟩, ⟨hb_⟩⟩
          ·rw [if_neg c16] at H
           exact absurd H (by simp)
      ·replace c8 := Bool.eq_false_iff.mpr c8
       subst c8
       have H1 : (impl_part.l0 k1 a1 a2 x7_1 l0 (l0.length : Int) (wrap64 (x15_1 + 1))) = some r := by rw [if_neg (show ¬ (false = true) by decide)] at H; exact H
       clear H
       have H := H1
       clear H1
       have H' := Aside0.mk H
       clear H
       have p604 : 0 ≤ (x15_1 : Int) := of_decide_eq_true (by first | (with_reducible assumption) | assumption)
       have q604 : x15_1 < (l0.length : Int) := of_decide_eq_true (by first | (with_reducible assumption) | assumption)
       obtain ⟨ad604, A604_0, c604_0, e604, hx604_0, hl604_0, hi604_0⟩ := at_L1 HR0.out x15_1 p604 q604
       cases e604
       replace hx604_0 := (HB.out.cell (World.block_lt_of_cell? w _ hx604_0)).trans hx604_0
       have HR604_0 := Aside0.mk hi604_0
       have HC604_0 := Aside0.mk hl604_0
       clear hi604_0 hl604_0
       replace p604 := eq_true p604
       replace q604 := eq_true q604
       go_wp2_with (first | ((with_reducible refine gate_callee (f := 120) rfl ?_); refine goesL_ (some 22) rfl rfl Try.func120 (by kernel_rfl) rfl #[.int .i64 a1, .int .i64 x15_1] rfl (by (try simp only [List.map_toArray, List.map_cons, List.map_nil]); first | done | rfl | (simp only [List.length_drop, List.length_take]; rfl)) ?_; (with_reducible refine (impl_has.calls a1 x15_1 false _ A7.out).mono ?_); rintro e w' ⟨rfl, ⟨nd, rfl⟩⟩; refine ⟨_, rfl, ?_⟩))
       go_roundg k1
       case measure => have := HK1.out; omega
       case rel => exact ⟨(x7_1), (wrap64 (x15_1 + 1)), (by first | rfl | (simp; done) | (simp [*]; done)), H', ⟨by have := HK1.out; omega⟩, ⟨so_ HO_7.out⟩, ⟨hb_⟩⟩
     ·rw [if_neg c6] at H
      exact absurd H (by simp)
    ·rw [if_neg c5] at H
     exact absurd H (by simp)
   ·rw [if_neg c4] at H
    have c4b0 : decide (x15_1 < (l0.length : Int)) = false := decide_eq_false c4
    clear c4
    obtain rfl := Option.some.inj H
    go_wp2
    go_ret
    exact ⟨_, by first | rfl | (simp [errW_none, errW_some] <;> rfl) | (simp [*, errW_none, errW_some] <;> rfl), so_ HO_7.out, hb_⟩
end Go.Proofs.Ytjjbhdpjnjncbaa.Pr
end
