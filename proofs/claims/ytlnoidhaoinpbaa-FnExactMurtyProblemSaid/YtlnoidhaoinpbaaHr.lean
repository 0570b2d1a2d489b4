/- slices.Repeat of a row of one whole number. -/
import Derived.Test.YtlnoidhaoinpbaaHx
import Derived.Test.YtlnoidhaoinpbaaMa
import Derived.Test.YtlnoidhaoinpbaaPrx33
import Derived.Laws.CopyOwn
namespace Go.Proofs.Ytlnoidhaoinpbaa.Pr
open Go.RowKit Go.Proofs.YtlnoidhaoinpbaaW.PrintWords Go.Proofs.YtlnoidhaoinpbaaW.PrintLast Go.Proofs.YtlnoidhaoinpbaaW.PrintMore
set_option linter.unusedVariables false
set_option linter.unusedSimpArgs false

theorem mul_one (n : Int) (h0 : 0 ≤ n) (h1 : n ≤ 1048576) : bits_Mul.f 1 n = some (0, n) := by
  have e1 : Go.bits .and .u64 n 4294967295 = n := by
    obtain ⟨m, rfl⟩ := Int.eq_ofNat_of_zero_le h0
    have : m ≤ 1048576 := by omega
    show IntKind.u64.wrap ((BitVec.ofInt 64 (m : Int) &&& BitVec.ofInt 64 4294967295).toNat : Int) = (m : Int)
    rw [show (BitVec.ofInt 64 (m : Int) &&& BitVec.ofInt 64 4294967295) = BitVec.ofNat 64 m from ?_]
    · rw [BitVec.toNat_ofNat, Nat.mod_eq_of_lt (by omega : m < 2 ^ 64)]
      exact Ma.u64w h0 (by omega)
    · apply BitVec.eq_of_toNat_eq
      simp only [BitVec.toNat_and, BitVec.ofInt_natCast, BitVec.toNat_ofNat]
      rw [Nat.mod_eq_of_lt (by omega : m < 2 ^ 64), show (BitVec.ofInt 64 4294967295).toNat = 2 ^ 32 - 1 from rfl, Nat.and_two_pow_sub_one_eq_mod, Nat.mod_eq_of_lt (by omega)]
  have e2 : Go.bits .and .u64 1 4294967295 = 1 := by decide
  have e3 : Go.bits .and .u64 0 4294967295 = 0 := by decide
  have d0 : n / 4294967296 = 0 := by omega
  have d1 : (1 : Int) / 4294967296 = 0 := by decide
  have w0 : IntKind.u64.wrap 0 = 0 := by decide
  have wn : IntKind.u64.wrap n = n := Ma.u64w h0 (by omega)
  unfold bits_Mul.f bits_Mul64.f
  simp only [e1, e2, d0, d1, Int.mul_zero, Int.zero_mul, Int.one_mul, w0, wn, Int.zero_add, Int.add_zero, Int.mul_one, e3, Option.bind_some]
  simp [w0]

def slices_Repeat.f (l0 : List Int) (a1 : Int) : Option (List Int) := if l0.length = 1 ∧ 0 ≤ a1 ∧ a1 ≤ 1048576 then some (List.replicate a1.toNat (rd l0 0)) else none

theorem take_more {α : Type} (v : α) (cur : List α) (k m : Nat) (h : cur.take k = List.replicate k v) (hk : k ≤ cur.length) (hm : m ≤ k) : (splice cur k (List.replicate m v)).take (k + m) = List.replicate (k + m) v := by
  unfold splice
  rw [h, ← List.append_assoc, List.replicate_append_replicate, List.take_append_of_le_length (by simp), List.take_of_length_le (by simp)]

theorem row_own {v : Int} {w : World} {base g n cap : Nat} {cur : List Value} (hb : base ≤ g) (hg : w.heap[g]? = some (.cells cur.toArray 2 (0, 0))) (hn : n ≤ cap) (hc : cap ≤ maxLen) (hl : cur.length = cap) (ht : cur.take n = List.replicate n (.int .i64 v)) :
    Kd.R (Kd.int .i64) 2 w base (fun _ => True) (.slice (some ⟨g, 0, none⟩) n cap) (List.replicate n v) :=
  Kd.R_of_own ⟨by simp [encs], .inr ⟨g, cap, cur.toArray, by simp, hb, hg, by simpa using hn, hc, by simpa using hl, by simp [encs, ht]⟩⟩ (fun _ _ => trivial)

theorem cells_same {w : World} {g k m e : Nat} {cur : List Value} {v : Value} (hg : w.heap[g]? = some (.cells cur.toArray e (0, 0))) (hk : k ≤ cur.length) (ht : cur.take k = List.replicate k v) (hm : m ≤ k) (j : Nat) (u : Value) (hj : (List.replicate m v)[j]? = some u) : w.cell? ((⟨g, 0, none⟩ : Addr).add j) = some u := by
  obtain ⟨hjm, e⟩ := List.getElem?_eq_some_iff.1 hj
  rw [List.length_replicate] at hjm
  rw [List.getElem_replicate] at e
  subst e
  have h1 : (cur.take k)[j]? = some v := by rw [ht, List.getElem?_replicate, if_pos (by omega)]
  rw [List.getElem?_take, if_pos (by omega)] at h1
  have ha : ((⟨g, 0, none⟩ : Addr).add j) = ⟨g, j, none⟩ := by unfold Addr.add; split <;> simp_all
  rw [ha]
  simp [World.cell?, hg, h1]
theorem min_one {n : Nat} (h : 0 < n) : 1 = Nat.min 1 n := (Nat.min_eq_left (by omega : 1 ≤ n)).symm
theorem cell_one {w : World} {ad : Addr} {v : Value} (j : Nat) (u : Value) (hj : [v][j]? = some u) (h : w.cell? (ad.add (Int.toNat 0)) = some v) : w.cell? (ad.add j) = some u := by
  cases j with
  | zero => simp at hj; subst hj; exact h
  | succ j => simp at hj
theorem made_row {w : World} {base n : Nat} {v : Value} (h : Kd.R (Kd.int .i64) 2 w base (fun _ => True) v (List.replicate n 0)) :
    ∃ A c, v = .slice A n c ∧ n ≤ c ∧ (0 < n → ∃ g cur, A = some ⟨g, 0, none⟩ ∧ base ≤ g ∧ w.heap[g]? = some (.cells (List.toArray cur) 2 (0, 0)) ∧ c ≤ maxLen ∧ cur.length = c) := by
  have ho := Kd.own_of_R h
  rw [List.length_replicate] at ho
  rcases ho.2 with ⟨rfl, rfl⟩ | ⟨g, cap, cur, rfl, hb, hg, h1, h2, h3, h4⟩
  · exact ⟨none, 0, rfl, Nat.le_refl _, fun h => absurd h (by omega)⟩
  · exact ⟨_, cap, rfl, h1, fun _ => ⟨g, cur.toList, rfl, hb, by simpa using hg, h2, by simpa using h3⟩⟩

set_option maxHeartbeats 2000000 in
set_option maxRecDepth 100000 in
theorem slices_Repeat.calls (A0 : Option Addr) (c0 : Nat) (l0 : List Int) (a1 : Int) (r : List Int) (w : World) (hr0 : Kd.C (Kd.int .i64) w A0 l0.length l0) (hc0 : l0.length ≤ c0) (h : slices_Repeat.f l0 a1 = some r) :
    Calls Try.prog 68 #[.slice A0 l0.length c0, .int .i64 a1] w fun e w' => ∃ v0_ : Value, e = .returned (v0_) ∧ Kd.R (Kd.int .i64) 2 w' w.heap.size (fun _ => True) v0_ r ∧ Below w.heap.size w w' := by
  unfold slices_Repeat.f at h
  split at h
  case isFalse => cases h
  rename_i hh
  obtain ⟨h1, h2, h3⟩ := hh
  obtain ⟨n, rfl⟩ := Int.eq_ofNat_of_zero_le h2
  injection h with h
  rw [Int.toNat_natCast] at h
  obtain ⟨ad, rfl, hx⟩ := Kd.at_int hr0 0 (by omega) (by omega)
  rw [h1]
  have HM := Aside0.mk (mul_one n h2 h3)
  have HX := Aside0.mk hx
  clear hx hr0 hc0
  generalize rd l0 0 = v at h HX
  subst h
  have HN := Aside0.mk h3
  have wu : IntKind.u64.wrap (n : Int) = n := Ma.u64w h2 (by omega)
  have w2 : IntKind.i64.wrap (n : Int) = n := IntWalk.i64_in _ (by omega)
  have hgt : ¬ (9223372036854775807 : Int) < n := by omega
  clear h1 h3
  by_cases hn : n = 0
  · subst hn
    clear wu w2 hgt h2
    go_enter Try.func68, Try.ntmps68
    go_wp2_with fail
    refine (bits_Mul.calls 1 0 _ _ _ HM.out).mono ?_
    rintro e w1 ⟨rfl, hb1⟩
    have HB := Aside0.mk hb1
    clear hb1
    go_wp2_with (first | ((with_reducible refine gate_dst (N := 30) rfl ?_); refine Kd.R_make (Kd.int .i64) _ 2 rfl (N := 30) rfl 22 _ _ rfl (0 : Int) rfl rfl Try.underlying22 (.int .i64 0) 8 info2 rfl (by decide) (by omega) 0 (ok := fun _ => True) (okp := fun _ => True) rfl (fun _ hk => hk) trivial (by omega) (by have := HN.out; omega) (Below.refl _ _) (Nat.le_refl _) ?_; intro v104 w4 ho5 hb hg_ hnew_; clear hg_ hnew_; obtain ⟨A4, c4, rfl, hc4, hrow⟩ := made_row (n := 0) ho5; have HO := Aside0.mk ho5; have HB4 := Aside0.mk hb; clear ho5 hb hrow hc4) | ((with_reducible refine gate_dst (N := 33) rfl ?_); refine wpList_copy_nothing rfl (.tmp 31) (.tmp 32) 22 22 rfl 2 Try.underlying22 rfl _ _ _ _ _ _ (by rfl) (by rfl) (by simp) ?_))
    go_loopg [8] 0 (fun kq v8 w' => v8 = .int .i64 0 ∧ w' = w4)
    case atStart => exact ⟨rfl, rfl⟩
    case round =>
      obtain ⟨rfl, rfl⟩ := hrel
      go_wp2
      go_ret
      exact ⟨_, rfl, Kd.R_lower HO.out HB.out.below.size, HB.out.below.trans (HB4.out.mono HB.out.below.size)⟩
  · have hpos : 0 < n := by omega
    go_enter Try.func68, Try.ntmps68
    go_wp2_with fail
    refine (bits_Mul.calls 1 n _ _ _ HM.out).mono ?_
    rintro e w1 ⟨rfl, hb1⟩
    have HB := Aside0.mk hb1
    clear hb1
    go_wp2_with (first | ((with_reducible refine gate_dst (N := 30) rfl ?_); refine Kd.R_make (Kd.int .i64) _ 2 rfl (N := 30) rfl 22 _ _ rfl (n : Int) rfl rfl Try.underlying22 (.int .i64 0) 8 info2 rfl (by decide) (by omega) 0 (ok := fun _ => True) (okp := fun _ => True) rfl (fun _ hk => hk) trivial (by omega) (by have := HN.out; omega) (Below.refl _ _) (Nat.le_refl _) ?_; intro v104 w4 ho5 hb hg_ hnew_; clear hg_ hnew_; rw [Int.toNat_natCast] at ho5; obtain ⟨A4, c4, rfl, hc4, hrow⟩ := made_row ho5; obtain ⟨g, cur, rfl, hg1, hg2, hcm, hcl⟩ := hrow (by omega); have HB4 := Aside0.mk hb; have HG2 := Aside0.mk hg2; have HG1 := Aside0.mk hg1; have HCM := Aside0.mk hcm; have HCL := Aside0.mk hcl; have HC4 := Aside0.mk hc4; clear ho5 hb hrow hg1 hg2 hcm hcl hc4) | ((with_reducible refine gate_dst (N := 33) rfl ?_); go_loud (refine wpList_copy_splice rfl (.tmp 31) (.tmp 32) 22 22 rfl 2 Try.underlying22 rfl _ _ _ _ _ _ (by rfl) (by rfl) g 0 cur 2 HG2.out [.int .i64 v] (min_one hpos) (fun _ => ⟨by rfl, ad, by rfl, fun j u hj => cell_one j u hj ((HB.out.below.trans (HB4.out.mono HB.out.below.size)).cell (World.block_lt_of_cell? w _ HX.out) |>.trans HX.out)⟩) (by have := HCL.out; have := HC4.out; simp; omega) (by simp [Value.oneCell']) w.heap.size w (HB.out.below.trans (HB4.out.mono HB.out.below.size)) (by have := HB.out.below.size; have := HG1.out; omega) ?_; intro w5 HG5 HB6; obtain ⟨cur5, hcur5⟩ : ∃ c, c = splice cur 0 [Value.int .i64 v] := ⟨_, rfl⟩; have hl5 : cur5.length = c4 := (by rw [hcur5, length_splice _ _ _ (by have := HCL.out; have := HC4.out; simp; omega), HCL.out]); have ht5 : cur5.take 1 = List.replicate 1 (Value.int .i64 v) := (by rw [hcur5]; simp [splice]); have HG6 : Aside0 (w5.heap[g]? = some (.cells cur5.toArray 2 (0, 0))) := (by rw [hcur5]; exact ⟨HG5⟩); have HL := Aside0.mk hl5; have HT := Aside0.mk ht5; have HB7 := Aside0.mk HB6; clear HG5 hcur5 hl5 ht5 HB6 HG2)))
    have HG0 := Aside0.mk (show w.heap.size ≤ g by have := HB.out.below.size; have := HG1.out; omega)
    clear HG1 HB4 HX HB
    go_loopg [8] n (fun kq v8 w' => ∃ (x8 : Nat) (cur8 : List Value), v8 = .int .i64 (x8 : Int) ∧ Aside0 (1 ≤ x8) ∧ Aside0 (x8 ≤ n) ∧ Aside0 (n - x8 ≤ kq) ∧ Aside0 (cur8.length = c4) ∧ Aside0 (cur8.take x8 = List.replicate x8 (.int .i64 v)) ∧ Aside0 (w'.heap[g]? = some (.cells cur8.toArray 2 (0, 0))) ∧ Aside0 (Below w.heap.size w w'))
    case atStart => exact ⟨1, cur5, rfl, ⟨Nat.le_refl _⟩, ⟨by omega⟩, ⟨by omega⟩, HL, HT, HG6, HB7⟩
    case round =>
      obtain ⟨x8, cur8, rfl, X1, X2, X3, XL, XT, XG, XB⟩ := hrel
      by_cases hlt : x8 < n
      · have k1 : (x8 : Int) < (n : Int) := by omega
        have k2 : (0 : Int) ≤ (x8 : Int) := by omega
        have k3 : (x8 : Int) ≤ (n : Int) := by omega
        have k4 : x8 ≤ n := by omega
        have k5 : x8 ≤ c4 := by have := HC4.out; omega
        have k6 : (x8 : Int) ≤ (c4 : Int) := by omega
        have k7 : ¬ c4 = x8 := by have := HC4.out; omega
        have k8 : ¬ x8 = 0 := by have := X1.out; omega
        have k9 : IntKind.i64.wrap ((x8 : Int) + (Nat.min x8 (n - x8) : Nat)) = ((x8 + Nat.min x8 (n - x8) : Nat) : Int) := by
          have : Nat.min x8 (n - x8) ≤ n := Nat.le_trans (Nat.min_le_right _ _) (by omega)
          rw [IntWalk.i64_in _ (by have := HN.out; omega)]; omega
        go_wp2
        have XB1 : Below w.heap.size w wr.drew := XB.out.drew
        have XG1 : Aside0 (wr.drew.heap[g]? = some (.cells cur8.toArray 2 (0, 0))) := XG
        obtain ⟨cs, hcs⟩ : ∃ c, c = List.replicate (Nat.min x8 (n - x8)) (Value.int .i64 v) := ⟨_, rfl⟩
        have XS := Aside0.mk hcs
        clear hcs
        have XC : Aside0 (∀ j u, cs[j]? = some u → wr.drew.cell? ((⟨g, 0, none⟩ : Addr).add j) = some u) := ⟨fun j u hj => cells_same XG1.out (by rw [XL.out]; omega) XT.out (Nat.min_le_left _ _) j u (by rw [XS.out] at hj; exact hj)⟩
        have XF : Aside0 (x8 + cs.length ≤ cur8.length) := ⟨by rw [XS.out, XL.out, List.length_replicate]; have := HC4.out; have : Nat.min x8 (n - x8) ≤ n - x8 := Nat.min_le_right _ _; omega⟩
        have XO : Aside0 (∀ u ∈ cs, u.oneCell' = true) := ⟨fun u hu => by rw [XS.out] at hu; rw [List.eq_of_mem_replicate hu]; rfl⟩
        have XN : Aside0 (cs.length = Nat.min x8 (n - x8)) := ⟨by rw [XS.out]; simp⟩
        have XM : Aside0 (0 < Nat.min x8 (n - x8)) := ⟨by have := X1.out; exact Nat.lt_min.2 ⟨by omega, by omega⟩⟩
        have XM2 : Aside0 (Nat.min x8 (n - x8) ≤ n - x8) := ⟨Nat.min_le_right _ _⟩
        go_region_law (refine step_copy_splice rfl (.tmp 41) (.tmp 44) 22 22 rfl 2 Try.underlying22 rfl (some ⟨g, x8, none⟩) (some ⟨g, 0, none⟩) (n - x8) (c4 - x8) x8 c4 (by simp [Act.eval, Act.put]) (by simp [Act.eval, Act.put]) g x8 cur8 2 XG1.out cs XN.out (fun _ => ⟨rfl, ⟨g, 0, none⟩, rfl, XC.out⟩) XF.out XO.out w.heap.size w XB1 HG0.out ?_; intro w6 hg6 hb6; rw [XN.out])
        go_wp2
        go_roundg (n - (x8 + Nat.min x8 (n - x8)))
        case measure => have := XM.out; have := X3.out; omega
        case rel => exact ⟨x8 + Nat.min x8 (n - x8), splice cur8 x8 cs, by first | rfl | simp [k9], ⟨by have := X1.out; omega⟩, ⟨by have := XM2.out; omega⟩, ⟨Nat.le_refl _⟩, ⟨by rw [length_splice _ _ _ XF.out, XL.out]⟩, ⟨by rw [XS.out]; exact take_more _ _ _ _ XT.out (by rw [XL.out]; omega) (Nat.min_le_left _ _)⟩, ⟨hg6⟩, ⟨hb6⟩⟩
      · obtain rfl : x8 = n := by have := X2.out; omega
        go_wp2
        go_ret
        exact ⟨_, rfl, row_own HG0.out XG.out HC4.out HCM.out XL.out XT.out, XB.out⟩
end Go.Proofs.Ytlnoidhaoinpbaa.Pr
