/- Words for the laws' own bodies: what a call made lies between two ends of the memory; what turns elsewhere leaves it as it was. -/
import Derived.Test.YtlnoidhaoinpbaaHm
namespace Go.Proofs.Ytlnoidhaoinpbaa.Lw
open Go.RowKit Go.Proofs.YtlnoidhaoinpbaaW.PrintWords Go.Proofs.YtlnoidhaoinpbaaW.PrintLast Go.Proofs.YtlnoidhaoinpbaaW.PrintMore Go.Proofs.Ytlnoidhaoinpbaa.Pr Go.Proofs.Ytlnoidhaoinpbaa.La Go.Proofs.Ytlnoidhaoinpbaa.Ma Go.Proofs.Ytlnoidhaoinpbaa.Hm
set_option linter.unusedVariables false

/-- What there was stays, but for the blocks from a on, below b. -/
structure Frm (w w' : World) (a b : Nat) : Prop where
  size : w.heap.size ≤ w'.heap.size
  same : ∀ k, k < w.heap.size → k < a ∨ b ≤ k → w'.heap[k]? = w.heap[k]?
theorem Frm.below {w w' : World} (h : Below w.heap.size w w') : Frm w w' 0 0 := ⟨h.size, fun k hk _ => h.block k hk⟩
theorem Frm.set (w : World) (g i : Nat) (u : Value) : Frm w (w.setCell ⟨g, i, none⟩ u) g (g + 1) :=
  ⟨by simp, fun k _ hk => Below.heap_setCell w ⟨g, i, none⟩ u k (by simp; omega)⟩
theorem Frm.trans {w w1 w2 : World} {a b : Nat} (h : Frm w w1 a b) (k : Frm w1 w2 a b) : Frm w w2 a b :=
  ⟨Nat.le_trans h.size k.size, fun i hi hn => (k.same i (Nat.lt_of_lt_of_le hi h.size) hn).trans (h.same i hi hn)⟩
theorem Frm.set2 (w : World) (g : Nat) (u v : Value) : Frm w ((w.setCell ⟨g, 0, none⟩ u).setCell ⟨g, 1, none⟩ v) g (g + 1) := (Frm.set w g 0 u).trans (Frm.set _ g 1 v)
theorem Frm.kept {w w' : World} {ok : Nat → Prop} {a b : Nat} (h : Kept w w' ok) (hok : ∀ k, ok k → a ≤ k ∧ k < b) : Frm w w' a b :=
  ⟨h.1, fun k hk hn => h.2 k hk (fun ho => by have := hok k ho; omega)⟩

section
variable {α : Type} {d : Kd α} {e lo hi a b : Nat} {w0 w w' : World} {v v1 : Value} {xs : List α}
/-- Rows of the call's own between two ends. -/
def UR (d : Kd α) (e : Nat) (w0 w : World) (lo hi : Nat) (v : Value) (xs : List α) : Prop := d.R e w w0.heap.size (fun k => lo ≤ k ∧ k < hi) v xs
def US (d : Kd α) (e : Nat) (w0 w : World) (lo hi : Nat) (v : Value) (xs : List α) : Prop := d.S e w w0.heap.size (fun k => lo ≤ k ∧ k < hi) v xs
theorem UR.mv (h : UR d e w0 w lo hi v xs) (F : Frm w w' a b) (hd : hi ≤ a ∨ b ≤ lo) : UR d e w0 w' lo hi v xs := Kd.R_step h (fun k hk hlt => F.same k hlt (by omega))
theorem US.mv (h : US d e w0 w lo hi v xs) (F : Frm w w' a b) (hd : hi ≤ a ∨ b ≤ lo) : US d e w0 w' lo hi v xs := Kd.S_step h (fun k hk hlt => F.same k hlt (by omega))
theorem UR.mvB (h : UR d e w0 w lo hi v xs) (F : Frm w w' 0 0) : UR d e w0 w' lo hi v xs := h.mv F (.inr (Nat.zero_le _))
theorem US.mvB (h : US d e w0 w lo hi v xs) (F : Frm w w' 0 0) : US d e w0 w' lo hi v xs := h.mv F (.inr (Nat.zero_le _))
theorem UR.of {ok : Nat → Prop} (h : d.R e w' w.heap.size ok v xs) (hb : w0.heap.size ≤ w.heap.size) : UR d e w0 w' w.heap.size w'.heap.size v xs :=
  Kd.R_lower (Kd.R_mono (Kd.R_bound h) (fun k hk => ⟨hk.2.1, hk.2.2.1⟩)) hb
theorem US.of {ok : Nat → Prop} (h : d.S e w' w.heap.size ok v xs) (hb : w0.heap.size ≤ w.heap.size) : US d e w0 w' w.heap.size w'.heap.size v xs :=
  Kd.S_lower (Kd.S_mono (Kd.S_bound h) (fun k hk => ⟨hk.2.1, hk.2.2.1⟩)) hb
theorem UR.C {A : Option Addr} {n c : Nat} (h : UR d e w0 w lo hi (.slice A n c) xs) : d.C w A xs.length xs := (Kd.R_reads' h).2.2
theorem UR.len {A : Option Addr} {n c : Nat} (h : UR d e w0 w lo hi (.slice A n c) xs) : n = xs.length := (Kd.R_reads' h).1
theorem UR.cap {A : Option Addr} {n c : Nat} (h : UR d e w0 w lo hi (.slice A n c) xs) : xs.length ≤ c := (Kd.R_reads' h).1 ▸ (Kd.R_reads' h).2.1
theorem US.C {A : Option Addr} {n c : Nat} (h : US d e w0 w lo hi (.slice A n c) xs) : d.C w A xs.length xs := (Kd.S_reads' h).2.2
theorem US.cap {A : Option Addr} {n c : Nat} (h : US d e w0 w lo hi (.slice A n c) xs) : xs.length ≤ c := (Kd.S_reads' h).1 ▸ (Kd.S_reads' h).2.1
end
/-- Rows of rows beside a row, none of one's blocks the other's. -/
structure UP (w0 w : World) (lo hi : Nat) (v0 v1 : Value) (M : List (List Int)) (Q : List Int) : Prop where
  m : Kd.S (Kd.slice 2 (Kd.int .i64)) 22 w w0.heap.size (fun k => (lo ≤ k ∧ k < hi) ∧ some k ≠ v1.ownBlock) v0 M
  q : Kd.R (Kd.int .i64) 2 w w0.heap.size (fun k => lo ≤ k ∧ k < hi) v1 Q
section
variable {lo hi a b : Nat} {w0 w w' : World} {v0 v1 : Value} {M : List (List Int)} {Q : List Int}
theorem UP.mv (h : UP w0 w lo hi v0 v1 M Q) (F : Frm w w' a b) (hd : hi ≤ a ∨ b ≤ lo) : UP w0 w' lo hi v0 v1 M Q :=
  ⟨Kd.S_step h.m (fun k hk hlt => F.same k hlt (by have := hk.1; omega)), Kd.R_step h.q (fun k hk hlt => F.same k hlt (by omega))⟩
theorem UP.mvB (h : UP w0 w lo hi v0 v1 M Q) (F : Frm w w' 0 0) : UP w0 w' lo hi v0 v1 M Q := h.mv F (.inr (Nat.zero_le _))
theorem UP.of {ok : Nat → Prop} (h : Kd.S (Kd.slice 2 (Kd.int .i64)) 22 w' w.heap.size (fun k => some k ≠ v1.ownBlock) v0 M) (h' : Kd.R (Kd.int .i64) 2 w' w.heap.size ok v1 Q) (hb : w0.heap.size ≤ w.heap.size) : UP w0 w' w.heap.size w'.heap.size v0 v1 M Q :=
  ⟨Kd.S_lower (Kd.S_mono (Kd.S_bound h) (fun k hk => ⟨⟨hk.2.1, hk.2.2.1⟩, hk.1⟩)) hb, UR.of h' hb⟩
theorem UP.slices (h : UP w0 w lo hi v0 v1 M Q) : ∃ A0 c0 A1 c1, v0 = .slice A0 M.length c0 ∧ v1 = .slice A1 Q.length c1 := by
  obtain ⟨A0, c0, e0⟩ := Kd.S_slice h.m
  obtain ⟨A1, c1, e1⟩ := Kd.R_slice h.q
  exact ⟨A0, c0, A1, c1, e0, e1⟩
variable {A0 A1 : Option Addr} {n0 c0 n1 c1 : Nat}
theorem UP.C0 (h : UP w0 w lo hi (.slice A0 n0 c0) v1 M Q) : Kd.C (Kd.slice 2 (Kd.int .i64)) w A0 M.length M := (Kd.S_reads' h.m).2.2
theorem UP.C1 (h : UP w0 w lo hi v0 (.slice A1 n1 c1) M Q) : Kd.C (Kd.int .i64) w A1 Q.length Q := (Kd.R_reads' h.q).2.2
theorem UP.cap0 (h : UP w0 w lo hi (.slice A0 n0 c0) v1 M Q) : M.length ≤ c0 := (Kd.S_reads' h.m).1 ▸ (Kd.S_reads' h.m).2.1
theorem UP.cap1 (h : UP w0 w lo hi v0 (.slice A1 n1 c1) M Q) : Q.length ≤ c1 := (Kd.R_reads' h.q).1 ▸ (Kd.R_reads' h.q).2.1
end

/-! ### the marks, on such rows -/
theorem mark_US {w0 w : World} {lo hi : Nat} (v : Value) (l : List (List Int)) (n m : Int) (hB : Below w0.heap.size w0 w) (h : US (Kd.slice 2 (Kd.int .i64)) 22 w0 w lo hi v l) (h0 : 0 ≤ n) (h1 : n + lens l ≤ 1099511627776) (hl : l.length ≤ 1099511627776) (hm : m = n + lens l) :
    Calls Try.prog 69 #[v, .int .i64 n] w fun e w' => e = .returned (.int .i64 m) ∧ US (Kd.slice 2 (Kd.int .i64)) 22 w0 w' lo hi v (marks l n) ∧ Below w0.heap.size w0 w' ∧ Frm w w' lo hi := by
  subst hm
  refine (markSS v l n hB h h0 h1 hl).mono ?_
  rintro e w' ⟨rfl, hS, hB', hK⟩
  exact ⟨rfl, hS, hB', Frm.kept hK (fun _ hk => hk)⟩
end Go.Proofs.Ytlnoidhaoinpbaa.Lw
